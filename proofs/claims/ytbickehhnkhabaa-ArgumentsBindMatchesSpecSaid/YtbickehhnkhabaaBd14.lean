/- Opening: slices of values, slices of texts, their sizes. -/
import Derived.Test.YtbickehhnkhabaaArg6
import Derived.Test.YtbickehhnkhabaaBd5
import Derived.SliceStrings
namespace Go.Proofs.Ytbickehhnkhabaa
open Go.ChangeShapes Go.WideShapes Go.ChangeAt Go.RowKit Go.Deep

theorem reach_eq : reachBytes = 140737488351232 := by decide

/-- What is read stays within reach, part for part. -/
def Wt {H : Type} (P : Program) (t : TypeId) (d : DataW H) : Prop := ∀ x ∈ d.weights P t, x ≤ reachBytes

section
variable {H : Type} {P : Program}
theorem wt_each : ∀ (ts : List TypeId) (ds : List (DataW H)), (∀ x ∈ DataW.weightsEach P ts ds, x ≤ reachBytes) → ∀ (i : Nat) t d, ts[i]? = some t → ds[i]? = some d → Wt P t d
  | [], _, _, i, t, d, ht, _ => by simp at ht
  | _ :: _, [], _, i, t, d, _, hd => by simp at hd
  | t :: ts, d :: ds, h, i, t', d', ht, hd => by
    unfold DataW.weightsEach at h
    cases i with
    | zero =>
      simp only [List.getElem?_cons_zero, Option.some.injEq] at ht hd
      subst ht hd
      exact fun x hx => h x (List.mem_append_left _ hx)
    | succ i =>
      simp only [List.getElem?_cons_succ] at ht hd
      exact wt_each ts ds (fun x hx => h x (List.mem_append_right _ hx)) i t' d' ht hd
theorem wt_all {e : TypeId} : ∀ (ds : List (DataW H)), (∀ x ∈ DataW.weightsAll P e ds, x ≤ reachBytes) → ∀ d ∈ ds, Wt P e d
  | [], _, d, hd => by simp at hd
  | d :: ds, h, d', hd => by
    unfold DataW.weightsAll at h
    rcases List.mem_cons.1 hd with rfl | hd
    · exact fun x hx => h x (List.mem_append_left _ hx)
    · exact wt_all ds (fun x hx => h x (List.mem_append_right _ hx)) d' hd
theorem wt_slice {t e : TypeId} {els sp : List (DataW H)} (ht : P.underlying t = some (.slice e)) (h : Wt P t (.slice els sp)) : (els.length + sp.length) * P.bytesOf e ≤ reachBytes ∧ ∀ d ∈ els, Wt P e d := by
  unfold Wt DataW.weights at h
  rw [ht] at h
  simp only [List.mem_cons, List.mem_append, forall_eq_or_imp] at h
  exact ⟨h.1, wt_all els fun x hx => h.2 x (.inl hx)⟩
theorem wt_struct {t : TypeId} {fs : Array Field} {parts : List (DataW H)} (ht : P.underlying t = some (.struct fs)) (h : Wt P t (.agg parts)) : ∀ (i : Nat) f d, fs[i]? = some f → parts[i]? = some d → Wt P f.type d := by
  intro i f d hf hd
  unfold Wt DataW.weights at h
  rw [ht] at h
  exact wt_each _ _ h i f.type d (by simp [hf]) hd
theorem wt_string {t : TypeId} {s : List UInt8} (h : Wt P t (.lit (.string s) : DataW H)) : s.length ≤ reachBytes := by
  unfold Wt DataW.weights at h
  exact h _ (by simp)
end

section
variable {H : Type} {enc : TypeId × Value → H} {P : Program} {w : World} {base : Nat} {spare : Nat → Bool} {held : Bool}

/-- A row of numbers, opened. -/
theorem row_ints {t e : TypeId} {k : IntKind} {fuel : Nat} {cs : List Value} {x : DataW H × List MemPlace} (ht : P.underlying t = some (.slice e)) (he : P.underlying e = some (.int k)) (hc : P.cellsOf e = 1) (h : DataW.trod enc P w base (fun _ => true) held fuel t cs = some x) :
    ∃ a n c, cs = [.slice a n c] ∧ ∃ xs : List Int, RowS 1 w (.slice a n c) n (xs.map (Value.int k)) := by
  rcases open_ints ht he hc h with ⟨hcs, _⟩ | ⟨x, l, c, zs, hcs, _, hl, hm, hz, _, hcell, _⟩
  · exact ⟨none, 0, 0, hcs, [], RowS.nil 1 w⟩
  · rw [maxLen_eq] at hm
    simp only [if_true] at hz
    refine ⟨some x, l, c, hcs, zs.take l, some x, c, rfl, hl, ⟨hm, fun h => by cases h⟩, by simp; omega, fun j hj => ?_⟩
    have hj' : j < zs.length ∧ j < l := by simp at hj; omega
    have h1 := hcell j hj'.1
    obtain ⟨b, off, spot⟩ := x
    have hspot : spot = none := spot_none (hcell 0 (by omega))
    subst hspot
    exact ⟨b, off, rfl, by simpa [add_at, List.getD, hj'.1] using h1⟩

/-- One value, opened. -/
theorem open_val {t ti ts tu : TypeId} {f0 f1 f2 f3 f4 g0 g1 : Field} {fuel : Nat} {cs : List Value} {x : DataW H × List MemPlace}
    (ht : P.underlying t = some (.struct #[f0, f1, f2, f3, f4])) (hti : P.underlying ti = some (.struct #[g0, g1])) (hts : P.underlying ts = some (.slice tu)) (htu : P.underlying tu = some (.int .u32)) (hcu : P.cellsOf tu = 1)
    (e0 : P.underlying f0.type = some (.int .i64)) (e1 : f1.type = ti) (e2 : f2.type = ti) (e3 : P.underlying f3.type = some .string) (e4 : P.underlying f4.type = some (.int .i64))
    (k0 : P.underlying g0.type = some .bool) (k1 : g1.type = ts) (o0 : f0.offset = 0) (o1 : f1.offset = 1) (o2 : f2.offset = 3) (o3 : f3.offset = 5) (o4 : f4.offset = 6) (p0 : g0.offset = 0) (p1 : g1.offset = 1)
    (c0 : P.cellsOf f0.type = 1) (c1 : P.cellsOf ti = 2) (c3 : P.cellsOf f3.type = 1) (c4 : P.cellsOf f4.type = 1) (q0 : P.cellsOf g0.type = 1) (q1 : P.cellsOf ts = 1) (hlen : P.cellsOf t = 7)
    (h : DataW.trod enc P w base (fun _ => true) held fuel t cs = some x) : ∃ v : Val, cs = valC v ∧ GoodVal w v := by
  obtain ⟨ys, n, _, _, hl, hyl, hf⟩ := DataW.trod_struct ht h
  rw [hlen] at hl
  match cs, hl with
  | [v0, v1, v2, v3, v4, v5, v6], _ =>
    have y : ∀ i : Nat, i < 5 → ∃ z, ys[i]? = some z := fun i hi => ⟨ys[i]'(by rw [hyl]; simpa using hi), List.getElem?_eq_getElem _⟩
    have t0 := hf 0 f0 rfl
    have t1 := hf 1 f1 rfl
    have t2 := hf 2 f2 rfl
    have t3 := hf 3 f3 rfl
    have t4 := hf 4 f4 rfl
    rw [o0, c0] at t0
    rw [o1, e1, c1] at t1
    rw [o2, e2, c1] at t2
    rw [o3, c3] at t3
    rw [o4, c4] at t4
    obtain ⟨z0, hz0⟩ := y 0 (by omega)
    obtain ⟨z1, hz1⟩ := y 1 (by omega)
    obtain ⟨z2, hz2⟩ := y 2 (by omega)
    obtain ⟨z3, hz3⟩ := y 3 (by omega)
    obtain ⟨z4, hz4⟩ := y 4 (by omega)
    rw [hz0] at t0
    rw [hz1] at t1
    rw [hz2] at t2
    rw [hz3] at t3
    rw [hz4] at t4
    obtain ⟨k, hk, -⟩ := DataW.trod_int e0 t0
    obtain ⟨s, hs, -⟩ := DataW.trod_string e3 t3
    obtain ⟨r, hr, -⟩ := DataW.trod_int e4 t4
    have int : ∀ {m : Nat} {a b : Value} {z : DataW H × List MemPlace}, DataW.trod enc P w base (fun _ => true) held m ti [a, b] = some z → ∃ bo aa nn cc, a = .bool bo ∧ b = .slice aa nn cc ∧ ∃ xs : List Int, RowS 1 w (.slice aa nn cc) nn (xs.map (Value.int .u32)) := by
      intro m a b z hz
      obtain ⟨ws, m', _, _, _, hwl, hg⟩ := DataW.trod_struct hti hz
      have s0 := hg 0 g0 rfl
      have s1 := hg 1 g1 rfl
      rw [p0, q0] at s0
      rw [p1, k1, q1] at s1
      rw [List.getElem?_eq_getElem (by rw [hwl]; simp)] at s0 s1
      obtain ⟨bo, hbo, -⟩ := DataW.trod_bool k0 s0
      obtain ⟨aa, nn, cc, hsl, hrow⟩ := row_ints hts htu hcu s1
      simp at hbo hsl
      exact ⟨bo, aa, nn, cc, hbo, hsl, hrow⟩
    obtain ⟨nb, na, nn, nc, rfl, rfl, hrow1⟩ := int t1
    obtain ⟨db, da, dn, dc, rfl, rfl, hrow2⟩ := int t2
    simp at hk hs hr
    subst hk hs hr
    exact ⟨⟨k, nb, na, nn, nc, db, da, dn, dc, s, r⟩, rfl, hrow1, hrow2⟩
end
end Go.Proofs.Ytbickehhnkhabaa
