/- ArgumentsByName: for all parameters, defaults, arguments and places the law returns true and leaves its arguments alone. No condition. -/
import Derived.Test.YtbickehhnkhabaaBd20
import Derived.Test.YtbickehhnkhabaaBd16
import Derived.Test.YtbickehhnkhabaaLift
import Derived.ChangeMaps5
namespace Go.Proofs.Ytbickehhnkhabaa
open Go.ChangeShapes Go.WideShapes Go.ChangeAt Go.RowKit Go.Deep

theorem strs_none {H : Type} {enc : TypeId × Value → H} {w : World} {base : Nat} {held : Bool} {fuel : Nat} {v : Value} {d : DataW H} {ps : List MemPlace} (h : DataW.trod enc Try.prog w base (fun _ => true) held fuel 37 [v] = some (d, ps)) : ∀ n c, v = .slice none n c → c = 0 := by
  intro n c e
  rcases open_strings Try.underlying37 Try.underlying9 (by kernel_rfl) h with ⟨hcs, _⟩ | ⟨a, len, cap, ss, hcs, _⟩
  · simp only [List.cons.injEq, and_true] at hcs
    rw [hcs] at e
    simp only [Value.slice.injEq] at e
    exact e.2.2.symm
  · simp only [List.cons.injEq, and_true] at hcs
    rw [hcs] at e
    simp at e
theorem RowS.ofRow {w : World} {v : Value} {l : List ByteArray} (h : RowOf Value.string w v l) (hc : ∀ n c, v = .slice none n c → c = 0) : RowS 1 w v l.length (l.map Value.string) := by
  obtain ⟨a, cap, rfl, hl, hm, hcell⟩ := h
  refine ⟨a, cap, rfl, hl, ⟨hm, fun e => hc _ _ (by rw [e])⟩, by simp, fun j hj => ?_⟩
  obtain ⟨b, off, rfl, h1⟩ := hcell j (by simpa using hj)
  exact ⟨b, off, rfl, by simpa using h1⟩

set_option maxRecDepth 100000 in
theorem args_B {H : Type} {enc : TypeId × Value → H} {W : World} {base : Nat} {v : Value} {d : DataW H} {ps : List MemPlace} (hv : Value.okWide Try.prog W .any base 39 v) (h : DataW.Trod enc Try.prog W 0 (fun _ => true) true 39 v d ps) (hw : Wt Try.prog 39 d) :
    ∃ (lv nv mv : Value) (l : List Val) (names : List ByteArray) (named : List Val), v = .agg #[lv, nv, mv] ∧ ValsAt W lv l ∧ RowS 1 W nv names.length (names.map Value.string) ∧ ValsAt W mv named ∧ (∀ x ∈ l, GoodVal W x) ∧ (∀ x ∈ named, GoodVal W x) ∧
      l.length ≤ 140737488355328 ∧ names.length ≤ 140737488355328 ∧ named.length ≤ 140737488355328 ∧ ∀ s ∈ names, s.size ≤ 140737488355328 := by
  obtain ⟨v0, v1, v2, y0, y1, y2, n, rfl, rfl, -, h0, h1, h2⟩ := Go.Joins.open_agg3 Try.underlying39 (by kernel_rfl) (by kernel_rfl) hv h
  have hwf := wt_struct Try.underlying39 hw
  obtain ⟨l, hl, gl, bl⟩ := vals_of_trod h0 (hwf 0 _ _ rfl rfl)
  obtain ⟨names, hn, gn, bn⟩ := strs_of_trod h1 (hwf 1 _ _ rfl rfl)
  obtain ⟨named, hm, gm, bm⟩ := vals_of_trod h2 (hwf 2 _ _ rfl rfl)
  exact ⟨v0, v1, v2, l, names, named, rfl, hl, RowS.ofRow hn (strs_none h1), hm, gl, gm, bl, bn, bm, gn⟩

set_option maxRecDepth 100000 in
theorem ByName_lifted (os : Os) (started : os.Started) (H : Type) (enc : TypeId × Value → H) :
    ReturnsInHanded {} Try.checked os 8 .any (Rows.argumentsByNameSpec.pre6 enc Try.prog Try.f8 Rows.argumentsByNameRow.domain false) (Rows.argumentsByNameSpec.post enc Try.prog Try.f8 false true false false) := by
  refine law_lifted (C := Try.checked) (by kernel_rfl) started (by kernel_rfl) Try.func8 (by kernel_rfl)
    (ChangeSpec.witness6 (enc := enc) (C := Try.checked) false ⟨#[], #[.slice none 0 0, .slice none 0 0, .agg #[.slice none 0 0, .slice none 0 0, .slice none 0 0], .int .i64 0, .int .i64 0], []⟩ 8 (by kernel_rfl) (by kernel_rfl) (by kernel_rfl) (by kernel_rfl))
    rfl rfl Try.underlying4 (fun ds h => by match ds, h with | [_, _, _, _, _], _ => rfl) (by kernel_rfl) ?_
  intro W base args ds ps hval0 hA0 hsz0
  have hval : ∀ (j : Nat) t v, Try.f8.params[j]? = some t → args[j]? = some v → Value.okWide Try.prog W .any base t v := hval0
  have hA : DataW.TrodAll enc Try.prog W 0 (fun _ => true) true Try.f8.params.toList args.toList ds ps := hA0
  have hsz : (DataW.weightsEach Try.prog Try.f8.params.toList ds).all (· ≤ reachBytes) = true := hsz0
  rw [Try.params8] at hA hval hsz
  obtain ⟨v0, vs0, d0, ds0, p0, q0, hargs, rfl, rfl, h0, r0⟩ := trodAll_cons hA
  obtain ⟨v1, vs1, d1, ds1, p1, q1, rfl, rfl, rfl, h1, r1⟩ := trodAll_cons r0
  obtain ⟨v2, vs2, d2, ds2, p2, q2, rfl, rfl, rfl, h2, r2⟩ := trodAll_cons r1
  obtain ⟨v3, vs3, d3, ds3, p3, q3, rfl, rfl, rfl, h3, r3⟩ := trodAll_cons r2
  obtain ⟨v4, vs4, d4, ds4, p4, q4, rfl, rfl, rfl, h4, r4⟩ := trodAll_cons r3
  obtain ⟨rfl, rfl, rfl⟩ := trodAll_nil r4
  obtain rfl : args = #[v0, v1, v2, v3, v4] := by cases args; simp_all
  have hw := wt_all_of hsz
  obtain ⟨l0, a0, s0⟩ := params_A (hval 0 25 v0 rfl rfl) h0 (hw 0 _ _ rfl rfl)
  obtain ⟨l1, a1, g1, s1⟩ := vals_A (hval 1 36 v1 rfl rfl) h1 (hw 1 _ _ rfl rfl)
  obtain ⟨lv, nv, mv, l2, names, named, rfl, a2, a3, a4, g2, g4, s2, s3, s4, s5⟩ := args_B (hval 2 39 v2 rfl rfl) h2 (hw 2 _ _ rfl rfl)
  obtain ⟨i, rfl, _⟩ := Int_open Try.underlying3 (hval 3 3 v3 rfl rfl) h3
  obtain ⟨k, rfl, _⟩ := Int_open Try.underlying3 (hval 4 3 v4 rfl rfl) h4
  exact ByName_any v0 v1 lv nv mv i k l0 l1 l2 names named W a0 a1 a2 a3 a4 g1 g2 g4 s2 s3 s4 s0 s5

theorem ByName_holds : Rows.ArgumentsByNameSaid :=
  OpenClaim.holds_of_wide 8 Try.f8 rfl rfl rfl rfl rfl rfl rfl ⟨rfl, rfl, rfl, rfl, rfl⟩ rfl rfl rfl rfl rfl (by kernel_rfl) Try.func8 (by kernel_rfl)
    (of_decide_eq_true (by kernel_rfl)) (by unfold Func.isWrapper; first | (rw [if_pos (by decide +kernel)]; kernel_rfl) | (rw [if_neg (by decide +kernel)]; exact ⟨rfl, rfl⟩))
    (fun os started H enc _ => ByName_lifted os started H enc)
end Go.Proofs.Ytbickehhnkhabaa
