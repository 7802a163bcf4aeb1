/- ArgumentsBindMatchesSpec: for all parameters, defaults, arguments and names of functions the law returns true and leaves its arguments alone. No condition. -/
import Derived.Test.YtbickehhnkhabaaBd13
import Derived.Test.YtbickehhnkhabaaBd16
import Derived.Test.YtbickehhnkhabaaLift
import Derived.ChangeMaps5
namespace Go.Proofs.Ytbickehhnkhabaa
open Go.ChangeShapes Go.WideShapes Go.ChangeAt Go.RowKit

set_option maxRecDepth 100000 in
theorem Bind_lifted (os : Os) (started : os.Started) (H : Type) (enc : TypeId × Value → H) :
    ReturnsInHanded {} Try.checked os 7 .any (Rows.argumentsBindMatchesSpecSpec.pre6 enc Try.prog Try.f7 Rows.argumentsBindMatchesSpecRow.domain false) (Rows.argumentsBindMatchesSpecSpec.post enc Try.prog Try.f7 false true false false) := by
  refine law_lifted (C := Try.checked) (by kernel_rfl) started (by kernel_rfl) Try.func7 (by kernel_rfl)
    (ChangeSpec.witness6 (enc := enc) (C := Try.checked) false ⟨#[], #[.slice none 0 0, .slice none 0 0, .agg #[.slice none 0 0, .slice none 0 0, .slice none 0 0], .string ⟨#[]⟩], []⟩ 8 (by kernel_rfl) (by kernel_rfl) (by kernel_rfl) (by kernel_rfl))
    rfl rfl Try.underlying4 (fun ds h => by match ds, h with | [_, _, _, _], _ => rfl) (by kernel_rfl) ?_
  intro W base args ds ps hval0 hA0 hsz0
  have hval : ∀ (j : Nat) t v, Try.f7.params[j]? = some t → args[j]? = some v → Value.okWide Try.prog W .any base t v := hval0
  have hA : DataW.TrodAll enc Try.prog W 0 (fun _ => true) true Try.f7.params.toList args.toList ds ps := hA0
  have hsz : (DataW.weightsEach Try.prog Try.f7.params.toList ds).all (· ≤ reachBytes) = true := hsz0
  rw [Try.params7] at hA hval hsz
  obtain ⟨v0, vs0, d0, ds0, p0, q0, hargs, rfl, rfl, h0, r0⟩ := trodAll_cons hA
  obtain ⟨v1, vs1, d1, ds1, p1, q1, rfl, rfl, rfl, h1, r1⟩ := trodAll_cons r0
  obtain ⟨v2, vs2, d2, ds2, p2, q2, rfl, rfl, rfl, h2, r2⟩ := trodAll_cons r1
  obtain ⟨v3, vs3, d3, ds3, p3, q3, rfl, rfl, rfl, h3, r3⟩ := trodAll_cons r2
  obtain ⟨rfl, rfl, rfl⟩ := trodAll_nil r3
  obtain rfl : args = #[v0, v1, v2, v3] := by cases args; simp_all
  have hw := wt_all_of hsz
  obtain ⟨l0, a0, s0⟩ := params_A (hval 0 25 v0 rfl rfl) h0 (hw 0 _ _ rfl rfl)
  obtain ⟨l1, a1, g1, s1⟩ := vals_A (hval 1 36 v1 rfl rfl) h1 (hw 1 _ _ rfl rfl)
  obtain ⟨lv, nv, mv, l2, names, named, rfl, a2, a3, a4, g2, g4, s2, s3, s4, s5⟩ := args_A (hval 2 39 v2 rfl rfl) h2 (hw 2 _ _ rfl rfl)
  obtain ⟨s, rfl, hd3, -, -⟩ := Go.ChangeMaps.open_string Try.underlying9 (hval 3 9 v3 rfl rfl) h3
  have hw3 := hw 3 _ _ rfl rfl
  rw [hd3] at hw3
  have hs3 := wt_string hw3
  rw [reach_eq, Array.length_toList] at hs3
  exact BindLaw_any v0 v1 lv nv mv s l0 l1 l2 names named W a0 a1 a2 a3 a4 g1 g2 g4 s1 s2 s3 s4 (by show s.data.size ≤ _; omega) s0 s5

theorem Bind_holds : Rows.ArgumentsBindMatchesSpecSaid :=
  OpenClaim.holds_of_wide 7 Try.f7 rfl rfl rfl rfl rfl rfl rfl ⟨rfl, rfl, rfl, rfl, rfl⟩ rfl rfl rfl rfl rfl (by kernel_rfl) Try.func7 (by kernel_rfl)
    (of_decide_eq_true (by kernel_rfl)) (by unfold Func.isWrapper; first | (rw [if_pos (by decide +kernel)]; kernel_rfl) | (rw [if_neg (by decide +kernel)]; exact ⟨rfl, rfl⟩))
    (fun os started H enc _ => Bind_lifted os started H enc)
end Go.Proofs.Ytbickehhnkhabaa
