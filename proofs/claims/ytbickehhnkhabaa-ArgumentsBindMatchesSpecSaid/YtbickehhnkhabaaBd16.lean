/- Opening: parameters, with the sizes of their names; the arguments of a binding. -/
import Derived.Test.YtbickehhnkhabaaBd15
import Derived.Lib.SmallJoins
namespace Go.Proofs.Ytbickehhnkhabaa
open Go.ChangeShapes Go.WideShapes Go.ChangeAt Go.RowKit Go.Deep

theorem params_sized {H : Type} {enc : TypeId × Value → H} {P : Program} {W : World} {base : Nat} {v : Value} {d : DataW H} {ps : List MemPlace} {t e q : TypeId} {f0 f1 f2 : Field}
    (ht : P.underlying t = some (.slice e)) (he : P.underlying e = some (.struct #[f0, f1, f2])) (g0 : P.underlying f0.type = some (.int .i64)) (g1 : P.underlying f1.type = some .string) (g2 : P.underlying f2.type = some (.slice q))
    (hone : oneCellFields P #[f0, f1, f2] = true) (hC : P.cellsOf e = 3)
    (hv : Value.okWide P W .any base t v) (h : DataW.Trod enc P W 0 (fun _ => true) true t v d ps) (hw : Wt P t d) :
    ∃ l, ParamsAt W v l ∧ ∀ p ∈ l, p.s.size ≤ 140737488355328 := by
  obtain ⟨a, len, cap, rfl⟩ := okWide_slice ht hv
  obtain ⟨fuel, hf⟩ := h
  rcases open_slice_fields ht he hone hC hf with ⟨hcs, _⟩ | ⟨x, l, c, m, D, Pl, hcs, _, hl, hm, hmm, hd, hrow⟩
  · simp [Value.cells] at hcs
    obtain ⟨rfl, rfl, rfl⟩ := hcs
    exact ⟨[], ⟨none, 0, rfl, by simp, by omega, fun i h => by simp at h⟩, by simp⟩
  · simp [Value.cells] at hcs
    obtain ⟨rfl, rfl, rfl⟩ := hcs
    rw [maxLen_eq] at hm
    simp only [if_true] at hmm
    subst hmm
    simp only [Prod.mk.injEq] at hd
    obtain ⟨rfl, -⟩ := hd
    have hwe := (wt_slice ht hw).2
    obtain ⟨l, hll, hl2⟩ := list_of_all (fun i (p : Par) => ∃ b off da dc, x = ⟨b, off, none⟩ ∧ W.cell? ⟨b, off + i * 3, none⟩ = some (.int .i64 p.k) ∧ W.cell? ⟨b, off + i * 3 + 1, none⟩ = some (.string p.s) ∧ W.cell? ⟨b, off + i * 3 + 2, none⟩ = some (.slice da p.n dc) ∧ p.s.size ≤ 140737488355328) len (fun i hi => by
      obtain ⟨ys, n, hD, _, _, hfl⟩ := hrow i (by omega)
      obtain ⟨v0, y0, hc0, _, ht0⟩ := hfl 0 _ rfl
      obtain ⟨v1, y1, hc1, hy1, ht1⟩ := hfl 1 _ rfl
      obtain ⟨v2, y2, hc2, _, ht2⟩ := hfl 2 _ rfl
      obtain ⟨k, hk, -⟩ := DataW.trod_int g0 ht0
      obtain ⟨s, hs, hys, -⟩ := DataW.trod_string g1 ht1
      obtain ⟨da, dn, dc, rfl⟩ := sliceV g2 ht2
      simp only [List.cons.injEq, and_true] at hk hs
      subst hk hs
      have hwi : Wt P e (D i) := hwe _ (List.mem_map.2 ⟨i, List.mem_range.2 hi, rfl⟩)
      rw [hD] at hwi
      have hw1 : Wt P f1.type y1.1 := wt_struct he hwi 1 f1 y1.1 rfl (by rw [List.getElem?_map, hy1]; rfl)
      rw [hys] at hw1
      have hw2 := wt_string hw1
      rw [reach_eq] at hw2
      have hsz : s.data.toList.length = s.size := by rw [Array.length_toList]; rfl
      obtain ⟨ys0, n0, _, _, _, hfl0⟩ := hrow 0 (by omega)
      obtain ⟨w0, z0, hd0, _, _⟩ := hfl0 0 _ rfl
      obtain ⟨b, off, spot⟩ := x
      have hspot : spot = none := by
        have := World.cell?_spot hd0
        simpa [Addr.add] using this
      subst hspot
      exact ⟨⟨k, s, dn⟩, b, off, da, dc, rfl, by simpa [add_at] using hc0, by simpa [add_at, Nat.add_assoc] using hc1, by simpa [add_at, Nat.add_assoc] using hc2, by show s.size ≤ _; omega⟩)
    refine ⟨l, ⟨some x, m, by rw [hll], by omega, hm, fun i hi => ?_⟩, fun p hp => ?_⟩
    · obtain ⟨b, off, da, dc, rfl, h0, h1, h2, _⟩ := hl2 i hi
      exact ⟨b, off, da, dc, rfl, h0, h1, h2⟩
    · obtain ⟨i, hi, rfl⟩ := List.getElem_of_mem hp
      obtain ⟨b, off, da, dc, _, _, _, _, hs⟩ := hl2 i hi
      exact hs

set_option maxRecDepth 100000 in
theorem params_A {H : Type} {enc : TypeId × Value → H} {W : World} {base : Nat} {v : Value} {d : DataW H} {ps : List MemPlace} (hv : Value.okWide Try.prog W .any base 25 v) (h : DataW.Trod enc Try.prog W 0 (fun _ => true) true 25 v d ps) (hw : Wt Try.prog 25 d) :
    ∃ l, ParamsAt W v l ∧ ∀ p ∈ l, p.s.size ≤ 140737488355328 :=
  params_sized Try.underlying25 Try.underlying51 Try.underlying3 Try.underlying9 Try.underlying49 (by kernel_rfl) (by kernel_rfl) hv h hw

set_option maxRecDepth 100000 in
theorem vals_A {H : Type} {enc : TypeId × Value → H} {W : World} {base : Nat} {v : Value} {d : DataW H} {ps : List MemPlace} (hv : Value.okWide Try.prog W .any base 36 v) (h : DataW.Trod enc Try.prog W 0 (fun _ => true) true 36 v d ps) (hw : Wt Try.prog 36 d) :
    ∃ l, ValsAt W v l ∧ (∀ x ∈ l, GoodVal W x) ∧ l.length ≤ 140737488355328 := by
  obtain ⟨a, len, cap, rfl⟩ := okWide_slice Try.underlying36 hv
  obtain ⟨fuel, hf⟩ := h
  exact vals_of_trod hf hw

set_option maxRecDepth 100000 in
theorem args_A {H : Type} {enc : TypeId × Value → H} {W : World} {base : Nat} {v : Value} {d : DataW H} {ps : List MemPlace} (hv : Value.okWide Try.prog W .any base 39 v) (h : DataW.Trod enc Try.prog W 0 (fun _ => true) true 39 v d ps) (hw : Wt Try.prog 39 d) :
    ∃ lv nv mv l names named, v = .agg #[lv, nv, mv] ∧ ValsAt W lv l ∧ RowOf Value.string W nv names ∧ ValsAt W mv named ∧ (∀ x ∈ l, GoodVal W x) ∧ (∀ x ∈ named, GoodVal W x) ∧
      l.length ≤ 140737488355328 ∧ names.length ≤ 140737488355328 ∧ named.length ≤ 140737488355328 ∧ ∀ s ∈ names, s.size ≤ 140737488355328 := by
  obtain ⟨v0, v1, v2, y0, y1, y2, n, rfl, rfl, -, h0, h1, h2⟩ := Joins.open_agg3 Try.underlying39 (by kernel_rfl) (by kernel_rfl) hv h
  have hwf := wt_struct Try.underlying39 hw
  obtain ⟨l, hl, gl, bl⟩ := vals_of_trod h0 (hwf 0 _ _ rfl rfl)
  obtain ⟨names, hn, gn, bn⟩ := strs_of_trod h1 (hwf 1 _ _ rfl rfl)
  obtain ⟨named, hm, gm, bm⟩ := vals_of_trod h2 (hwf 2 _ _ rfl rfl)
  exact ⟨v0, v1, v2, l, names, named, rfl, hl, hn, hm, gl, gm, bl, bn, bm, gn⟩

theorem wt_all_of {H : Type} {P : Program} {ts : List TypeId} {ds : List (DataW H)} (h : (DataW.weightsEach P ts ds).all (· ≤ reachBytes) = true) : ∀ (i : Nat) t d, ts[i]? = some t → ds[i]? = some d → Wt P t d :=
  wt_each ts ds fun x hx => by simpa using List.all_eq_true.1 h x hx
end Go.Proofs.Ytbickehhnkhabaa
