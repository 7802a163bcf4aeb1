/- Part 40 of the proof. -/
import Derived.Test.YtpmadgmjkljbgaaDoorM1
import Derived.ProofKit
import Derived.OpenShut
import Derived.ShutString
import Derived.Deep.Matrix
import Derived.Test.YtpmadgmjkljbgaaDoorRows
import Derived.Test.YtpmadgmjkljbgaaDoorM11
import Derived.ChangeOld
import Derived.Below
import Derived.SizedLaws

/- Arguments opened: a reading of a value gives a list. -/
namespace Go.Proofs.YtpmadgmjkljbgaaDoor
open Go.ChangeShapes Go.WideShapes Go.ChangeAt Go.RowKit Go.Deep




theorem fits_of_wf {x : Int} (h : (Lit.int .i64 x).wf = true) : Fits x := by
  simp [Lit.wf] at h
  have h1 : IntKind.i64.min = -9223372036854775808 := by decide
  have h2 : IntKind.i64.max = 9223372036854775807 := by decide
  unfold Fits
  omega

theorem add_at (b off i : Nat) : (⟨b, off, none⟩ : Addr).add i = ⟨b, off + i, none⟩ := by
  unfold Addr.add; split <;> simp_all

theorem spot_none {W : World} {x : Addr} {v : Value} (h : W.cell? (x.add 0) = some v) : x.spot = none := by
  have := World.cell?_spot h
  simpa [Addr.add] using this

theorem maxLen_eq : maxLen = 9223372036854775807 := by decide

theorem Ints_open {H : Type} {enc : TypeId × Value → H} {P : Program} {W : World} {base : Nat} {t e : TypeId} {v : Value} {d : DataW H} {ps : List MemPlace}
    (ht : P.underlying t = some (.slice e)) (he : P.underlying e = some (.int .i64)) (hc : P.cellsOf e = 1)
    (hv : Value.okWide P W .any base t v) (h : DataW.Trod enc P W 0 (fun _ => true) true t v d ps) :
    ∃ l, Ints W v l ∧ ∀ x ∈ l, Fits x := by
  obtain ⟨a, len, cap, rfl⟩ := okWide_slice ht hv
  obtain ⟨fuel, hf⟩ := h
  rcases open_ints ht he hc hf with ⟨hcs, _⟩ | ⟨x, l, c, zs, hcs, _, hl, hm, hz, _, hcell, hwz⟩
  · simp [Value.cells] at hcs
    obtain ⟨rfl, rfl, rfl⟩ := hcs
    exact ⟨[], RowOf.nil _ _, fun x h => by simp at h⟩
  · simp [Value.cells] at hcs
    obtain ⟨rfl, rfl, rfl⟩ := hcs
    have hz' : zs.length = cap := by simpa using hz
    have hlen : (zs.take len).length = len := by simp; omega
    rw [maxLen_eq] at hm
    refine ⟨zs.take len, ⟨some x, cap, by rw [hlen], by omega, by omega, fun i h => ?_⟩, fun y hy => fits_of_wf (hwz y (List.mem_of_mem_take hy))⟩
    rw [hlen] at h
    have h1 := hcell i (by omega)
    obtain ⟨b, off, spot⟩ := x
    have hspot : spot = none := spot_none (hcell 0 (by omega))
    subst hspot
    refine ⟨b, off, rfl, ?_⟩
    have hi : i < zs.length := by omega
    simpa [add_at, List.getD, hi] using h1

theorem IntRows_open {H : Type} {enc : TypeId × Value → H} {P : Program} {W : World} {base : Nat} {t e q : TypeId} {v : Value} {d : DataW H} {ps : List MemPlace}
    (ht : P.underlying t = some (.slice e)) (he : P.underlying e = some (.slice q)) (hq : P.underlying q = some (.int .i64)) (hc : P.cellsOf e = 1) (hcq : P.cellsOf q = 1)
    (hv : Value.okWide P W .any base t v) (h : DataW.Trod enc P W 0 (fun _ => true) true t v d ps) :
    ∃ B, IntRows W v B ∧ ∀ y ∈ B, ∀ x ∈ y, Fits x := by
  obtain ⟨a, len, cap, rfl⟩ := okWide_slice ht hv
  obtain ⟨fuel, hf⟩ := h
  rcases open_int_rows ht he hq hc hcq hf with ⟨hcs, _⟩ | ⟨x, l, c, A, L, C, Z, hcs, _, hl, hm, _, hrow⟩
  · simp [Value.cells] at hcs
    obtain ⟨rfl, rfl, rfl⟩ := hcs
    exact ⟨[], ⟨[], rfl, RowOf.nil _ _, fun i h => by simp at h⟩, fun x h => by simp at h⟩
  · simp [Value.cells] at hcs
    obtain ⟨rfl, rfl, rfl⟩ := hcs
    rw [maxLen_eq] at hm
    refine ⟨(List.range len).map fun r => (Z r).take (L r), ⟨(List.range len).map fun r => .slice (A r) (L r) (C r), by simp, ⟨some x, cap, by simp, by simpa using hl, hm, fun i hi => ?_⟩, fun i hi => ?_⟩, fun y hy z hz => ?_⟩
    · simp at hi
      have h1 := (hrow i (by omega)).1
      obtain ⟨b, off, spot⟩ := x
      have hspot : spot = none := spot_none (hrow 0 (by omega)).1
      subst hspot
      exact ⟨b, off, rfl, by simpa [add_at] using h1⟩
    · simp at hi
      obtain ⟨_, hLC, hCm, hZ, _, hnone, hsome⟩ := hrow i (by omega)
      rw [maxLen_eq] at hCm
      have hlen : ((Z i).take (L i)).length = L i := by simp; omega
      simp only [List.getElem_map, List.getElem_range]
      refine ⟨A i, C i, by rw [hlen], by rw [hlen]; exact hLC, hCm, fun j hj => ?_⟩
      rw [hlen] at hj
      cases hAi : A i with
      | none => have := hnone hAi; omega
      | some y =>
        have h2 := (hsome y hAi).2
        obtain ⟨b, off, spot⟩ := y
        have hspot : spot = none := spot_none (h2 0 (by omega))
        subst hspot
        have hjz : j < (Z i).length := by omega
        exact ⟨b, off, rfl, by simpa [add_at, List.getD, hjz] using h2 j (by omega)⟩
    · simp at hy
      obtain ⟨r, hr, rfl⟩ := hy
      exact fits_of_wf ((hrow r (by omega)).2.2.2.2.1 z (List.mem_of_mem_take hz))

theorem Int_open {H : Type} {enc : TypeId × Value → H} {P : Program} {W : World} {base : Nat} {t : TypeId} {v : Value} {d : DataW H} {ps : List MemPlace}
    (ht : P.underlying t = some (.int .i64)) (hv : Value.okWide P W .any base t v) (h : DataW.Trod enc P W 0 (fun _ => true) true t v d ps) :
    ∃ x, v = .int .i64 x ∧ Fits x := by
  obtain ⟨x, rfl, _, _, hw⟩ := open_int ht hv h
  exact ⟨x, rfl, fits_of_wf hw⟩
end Go.Proofs.YtpmadgmjkljbgaaDoor

/- An argument that is a value (api.Value), opened. -/
namespace Go.Proofs.YtpmadgmjkljbgaaDoor
open Go.ChangeShapes Go.WideShapes Go.ChangeAt Go.RowKit Go.Deep

theorem bulk_mem {H : Type} {d : DataW H} {l : List (DataW H)} (h : d ∈ l) : Rows.uptoBulk d ≤ Rows.uptoBulkAll l := by
  induction l with
  | nil => cases h
  | cons x r ih =>
    simp only [Rows.uptoBulkAll]
    cases List.mem_cons.1 h with
    | inl e => subst e; omega
    | inr e => have := ih e; omega
theorem bulk_one {H : Type} (d : DataW H) : 1 ≤ Rows.uptoBulk d := by
  cases d with
  | lit l => cases l <;> simp [Rows.uptoBulk]
  | nil => simp [Rows.uptoBulk]
  | ptr d => simp [Rows.uptoBulk]
  | slice elems spare => simp [Rows.uptoBulk]
  | agg parts => simp [Rows.uptoBulk]
  | iface t d => simp [Rows.uptoBulk]
  | map entries => simp [Rows.uptoBulk]
  | held h => simp [Rows.uptoBulk]
theorem bulk_length {H : Type} (l : List (DataW H)) : l.length ≤ Rows.uptoBulkAll l := by
  induction l with
  | nil => simp [Rows.uptoBulkAll]
  | cons x r ih => have := bulk_one x; simp only [Rows.uptoBulkAll, List.length_cons]; omega

theorem fits_u32 {x : Int} (h : (Lit.int .u32 x).wf = true) : 0 ≤ x ∧ x < 4294967296 := by
  simp [Lit.wf] at h
  have h1 : IntKind.u32.min = 0 := by decide
  have h2 : IntKind.u32.max = 4294967295 := by decide
  omega
theorem U32s_open {H : Type} {enc : TypeId × Value → H} {P : Program} {W : World} {t e : TypeId} {v : Value} {d : DataW H} {ps : List MemPlace} {fuel : Nat}
    (ht : P.underlying t = some (.slice e)) (he : P.underlying e = some (.int .u32)) (hc : P.cellsOf e = 1) (hf : DataW.trod enc P W 0 (fun _ => true) true fuel t [v] = some (d, ps)) :
    ∃ l, RowU W v l ∧ Lg l ∧ l.length ≤ Rows.uptoBulk d := by
  rcases open_ints ht he hc hf with ⟨hcs, _⟩ | ⟨x, len, cap, zs, hcs, _, hl, hm, hz, hd, hcell, hwz⟩
  · simp at hcs
    subst hcs
    exact ⟨[], RowOf.nil _ _, (fun _ h => by cases h), Nat.zero_le _⟩
  · simp at hcs
    subst hcs
    have hz' : zs.length = cap := by simpa using hz
    have hlen : (zs.take len).length = len := by simp; omega
    rw [maxLen_eq] at hm
    refine ⟨(zs.take len).map Int.toNat, ⟨some x, cap, by rw [List.length_map, hlen], by rw [List.length_map]; omega, by omega, fun i h => ?_⟩, fun y hy => ?_, ?_⟩
    · rw [List.length_map, hlen] at h
      have h1 := hcell i (by omega)
      obtain ⟨b, off, spot⟩ := x
      have hspot : spot = none := spot_none (hcell 0 (by omega))
      subst hspot
      refine ⟨b, off, rfl, ?_⟩
      have hi : i < zs.length := by omega
      have hw := fits_u32 (hwz zs[i] (List.getElem_mem hi))
      rw [add_at] at h1
      simp only [List.getElem_map, List.getElem_take]
      rw [h1]
      have : ((zs[i].toNat : Nat) : Int) = zs[i] := Int.toNat_of_nonneg hw.1
      rw [this]
      simp [List.getD, hi]
    · obtain ⟨z, hz1, rfl⟩ := List.mem_map.1 hy
      have := fits_u32 (hwz z (List.mem_of_mem_take hz1))
      omega
    · simp only [Prod.mk.injEq] at hd
      rw [hd.1]
      simp only [Rows.uptoBulk, List.length_map, hlen]
      have := bulk_length (lits (H := H) .u32 (zs.take len))
      have h2 : (lits (H := H) .u32 (zs.take len)).length = len := by unfold lits; rw [List.length_map, hlen]
      omega

theorem one_bulk {H : Type} {a b c d e : DataW H} {n : Nat} (h : Rows.uptoBulk (DataW.agg [a, b, c, d, e]) ≤ n) : Rows.uptoBulk b ≤ n ∧ Rows.uptoBulk c ≤ n ∧ Rows.uptoBulk d ≤ n := by
  simp only [Rows.uptoBulk, Rows.uptoBulkAll] at h
  omega
theorem two_bulk {H : Type} {a b : DataW H} {n : Nat} (h : Rows.uptoBulk (DataW.agg [a, b]) ≤ n) : Rows.uptoBulk b ≤ n := by
  simp only [Rows.uptoBulk, Rows.uptoBulkAll] at h
  omega
set_option maxRecDepth 100000 in
theorem Value_open {H : Type} {enc : TypeId × Value → H} {W : World} {base : Nat} {v : Value} {d : DataW H} {ps : List MemPlace}
    (hv : Value.okWide Tryd.prog W .any base 26 v) (h : DataW.Trod enc Tryd.prog W 0 (fun _ => true) true 26 v d ps) :
    ∃ x, VlAt W v x ∧ (Rows.uptoBulk d ≤ 1048576 → VlIn x) := by
  obtain ⟨cs, rfl, hsz⟩ := okWide_struct Tryd.underlying26 hv
  obtain ⟨l⟩ := cs
  have h7 : l.length = 7 := hsz.trans (by kernel_rfl)
  match l, h7 with
  | [c0, c1, c2, c3, c4, c5, c6], _ =>
    obtain ⟨fuel, hf⟩ := h
    obtain ⟨xs, n, _, hx, _, hlen, hg⟩ := DataW.trod_struct Tryd.underlying26 hf
    match xs, hlen with
    | [y0, y1, y2, y3, y4], _ =>
      have e3 : Tryd.prog.cellsOf 3 = 1 := by kernel_rfl
      have e9 : Tryd.prog.cellsOf 9 = 1 := by kernel_rfl
      have e24 : Tryd.prog.cellsOf 24 = 2 := by kernel_rfl
      have e22 : Tryd.prog.cellsOf 22 = 1 := by kernel_rfl
      have e4 : Tryd.prog.cellsOf 4 = 1 := by kernel_rfl
      have g0 := hg 0 _ rfl
      have g1 := hg 1 _ rfl
      have g2 := hg 2 _ rfl
      have g3 := hg 3 _ rfl
      have g4 := hg 4 _ rfl
      simp only [e3, e9, e24, Value.cells, List.drop_zero, List.drop_succ_cons, List.take_succ_cons, List.take_zero, List.getElem?_cons_zero, List.getElem?_cons_succ] at g0 g1 g2 g3 g4
      obtain ⟨k, hk, -, wk⟩ := DataW.trod_int Tryd.underlying3 g0
      obtain ⟨r, hr, -, wr⟩ := DataW.trod_int Tryd.underlying3 g4
      obtain ⟨s, hs, hsy, ws⟩ := DataW.trod_string Tryd.underlying9 g3
      cases hk
      cases hr
      cases hs
      obtain ⟨zs, n1, _, hx1, _, hlen1, hg1⟩ := DataW.trod_struct Tryd.underlying24 g1
      obtain ⟨us, n2, _, hx2, _, hlen2, hg2⟩ := DataW.trod_struct Tryd.underlying24 g2
      match zs, hlen1, us, hlen2 with
      | [z0, z1], _, [u0, u1], _ =>
        have p0 := hg1 0 _ rfl
        have p1 := hg1 1 _ rfl
        have q0 := hg2 0 _ rfl
        have q1 := hg2 1 _ rfl
        simp only [e4, e22, List.drop_zero, List.drop_succ_cons, List.take_succ_cons, List.take_zero, List.getElem?_cons_zero, List.getElem?_cons_succ] at p0 p1 q0 q1
        obtain ⟨nn, hn, -⟩ := DataW.trod_bool Tryd.underlying4 p0
        obtain ⟨dn, hd, -⟩ := DataW.trod_bool Tryd.underlying4 q0
        cases hn
        cases hd
        obtain ⟨nl, hnl, lnl, bnl⟩ := U32s_open (d := z1.1) (ps := z1.2) Tryd.underlying22 Tryd.underlying51 (by kernel_rfl) p1
        obtain ⟨dl, hdl, ldl, bdl⟩ := U32s_open (d := u1.1) (ps := u1.2) Tryd.underlying22 Tryd.underlying51 (by kernel_rfl) q1
        refine ⟨⟨k, nn, nl, dn, dl, s, r⟩, ⟨_, _, rfl, hnl, hdl⟩, fun hb => ?_⟩
        simp only [Prod.mk.injEq, List.map_cons, List.map_nil] at hx
        rw [hx.1] at hb
        obtain ⟨b1, b2, b3⟩ := one_bulk hb
        rw [hx1] at b1
        rw [hx2] at b2
        rw [hsy] at b3
        have b1' : Rows.uptoBulk z1.1 ≤ 1048576 := two_bulk b1
        have b2' : Rows.uptoBulk u1.1 ≤ 1048576 := two_bulk b2
        have hss : s.size ≤ 1048576 := by
          simp only [Rows.uptoBulk] at b3
          have e : s.data.toList.length = s.size := by rw [Array.length_toList]; rfl
          omega
        have fk := fits_of_wf wk
        have fr := fits_of_wf wr
        unfold Fits at fk fr
        exact ⟨by dsimp only; omega, by dsimp only; omega, by dsimp only; omega, by dsimp only; omega, lnl, ldl, by dsimp only; omega, by dsimp only; omega, by dsimp only; omega⟩
end Go.Proofs.YtpmadgmjkljbgaaDoor

/- From a walk that says 'the call returns true and writes nothing that was there' to a given row of the kind 'it returns true and leaves its arguments alone'. For any number of parameters. -/
namespace Go.Proofs.YtpmadgmjkljbgaaDoor
open Go.ChangeShapes Go.WideShapes Go.ChangeAt Go.RowKit

theorem TrodAll_below {H : Type} {enc : TypeId × Value → H} {P : Program} (hl : laidOutB P = true) {W W' : World} (hb : Below W.heap.size W W') :
    ∀ (ts : List TypeId) (vs : List Value) (ds : List (DataW H)) (ps : List MemPlace), (∀ t ∈ ts, P.readableRec t = true ∧ t < P.types.size) →
      DataW.TrodAll enc P W 0 (fun _ => true) true ts vs ds ps → DataW.TrodAll enc P W' 0 (fun b => decide (b < W.heap.size)) true ts vs ds ps
  | [], [], [], ps, _, h => h
  | t :: ts, v :: vs, d :: ds, ps, hr, h => by
    obtain ⟨p, q, hp, hq, e⟩ := h
    have lt : ∀ x ∈ p, x.block < W.heap.size := by obtain ⟨m, hm⟩ := hp; exact DataW.trod_lt m _ _ _ hm
    have ht := hr t (by simp)
    exact ⟨p, q, Below.trod hl ht.1 ht.2 hp hb lt, TrodAll_below hl hb ts vs ds q (fun x hx => hr x (by simp [hx])) hq, e⟩
  | [], [], _ :: _, _, _, h => by simp [DataW.TrodAll] at h
  | [], _ :: _, _, _, _, h => by simp [DataW.TrodAll] at h
  | _ :: _, [], _, _, _, h => by simp [DataW.TrodAll] at h
  | _ :: _, _ :: _, [], _, _, h => by simp [DataW.TrodAll] at h

theorem TrodAll_length {H : Type} {enc : TypeId × Value → H} {P : Program} {W : World} {b : Nat} {sp : Nat → Bool} {hd : Bool} :
    ∀ (ts : List TypeId) (vs : List Value) (ds : List (DataW H)) (ps : List MemPlace), DataW.TrodAll enc P W b sp hd ts vs ds ps → ds.length = ts.length ∧ vs.length = ts.length
  | [], [], [], _, _ => ⟨rfl, rfl⟩
  | t :: ts, v :: vs, d :: ds, ps, h => by
    obtain ⟨p, q, hp, hq, e⟩ := h
    have := TrodAll_length ts vs ds q hq
    simp [this.1, this.2]
  | [], [], _ :: _, _, h => by simp [DataW.TrodAll] at h
  | [], _ :: _, _, _, h => by simp [DataW.TrodAll] at h
  | _ :: _, [], _, _, h => by simp [DataW.TrodAll] at h
  | _ :: _, _ :: _, [], _, h => by simp [DataW.TrodAll] at h

theorem law_lifted {C : Checked} {os : Os} {f : FuncId} {fn : Func} {s : ChangeSpec} {H : Type} {enc : TypeId × Value → H} {tb : TypeId}
    (own : ownKnob C.prog.godebug = none) (started : os.Started) (noInit : C.prog.inits.idxOf? f = none) (hfn : C.prog.funcs[f]? = some fn) (hl : laidOutB C.prog = true)
    (witness : ∃ (w : World) (tape : Tape) (i : Input), w.os = os ∧ (w.forCall tape i).Shaped C.prog ∧ i.vars = [] ∧ Input.okWide C.prog (w.forCall tape i) .any w.heap.size f i ∧
      s.pre6 enc C.prog fn [] false (w.forCall tape i).memory i.args ∧ ({} : Assume).holds C.prog (lone (Frame.enter C.prog f i.args .normal) [] (w.forCall tape i)))
    (hvars : s.vars = []) (hres : fn.resultTypes = #[tb]) (htb : C.prog.underlying tb = some .bool)
    (hs : ∀ (ds : List (DataW H)), ds.length = fn.params.toList.length → s.fn H ds = { results := [.lit (.bool true)], args := ds })
    (hread : fn.params.toList.all (fun t => C.prog.readableRec t && decide (t < C.prog.types.size)) = true)
    (walk : ∀ (W : World) (base : Nat) (args : Array Value) (ds : List (DataW H)) (ps : List MemPlace),
      (∀ (j : Nat) t v, fn.params[j]? = some t → args[j]? = some v → Value.okWide C.prog W .any base t v) →
      DataW.TrodAll enc C.prog W 0 (fun _ => true) true fn.params.toList args.toList ds ps →
      (DataW.weightsEach C.prog fn.params.toList ds).all (· ≤ reachBytes) = true →
      Calls C.prog f args W fun e W' => e = .returned (.bool true) ∧ Below W.heap.size W W') :
    ReturnsInHanded {} C os f .any (s.pre6 enc C.prog fn [] false) (s.post enc C.prog fn false true false false) := by
  refine returnsInHanded_of_change_sized own started noInit hfn witness ?_
  intro W base args ds gs before hval hW _ hsz _
  have hW' := hW
  obtain ⟨p, q, hA, hV, rfl, hfz, hnd⟩ := hW
  rw [hvars] at hV
  obtain ⟨rfl, rfl⟩ := trodVars_none hV
  have hlen := TrodAll_length _ _ _ _ hA
  have hsz' : (DataW.weightsEach C.prog fn.params.toList ds).all (· ≤ reachBytes) = true := by
    have : s.plain.varTypes C.prog = [] := by simp [ChangeSpec.plain, DataSpec.varTypes, hvars]
    rw [this] at hsz
    simpa using hsz
  refine (walk W base args ds p hval hA hsz').mono fun e W' ⟨he, bel⟩ => ?_
  subst he
  have hfn' : s.fn H (ds ++ []) = { results := [.lit (.bool true)], args := ds } := by rw [List.append_nil]; exact hs ds hlen.1
  refine ⟨_, rfl, ds, [], _, [], p, [], hW', ?_, ?_, ?_, bel.frame _, fun h => by cases h⟩
  · rw [hfn', hres]; exact trodAll_mk1 (shut_bool htb _)
  · rw [hfn']; exact TrodAll_below hl bel _ _ _ _ (fun t ht => by have := List.all_eq_true.1 hread t ht; simpa using this) hA
  · rw [hfn', hvars]; exact rfl
end Go.Proofs.YtpmadgmjkljbgaaDoor
