/- ArgumentsCheckMatchesSpec: for every list of parameters the law returns true and leaves its argument alone. No condition. -/
import Derived.Test.YtbickehhnkhabaaArg4
import Derived.Test.YtbickehhnkhabaaArg5
import Derived.Test.YtbickehhnkhabaaArg6
import Derived.Test.YtbickehhnkhabaaLift
namespace Go.Proofs.Ytbickehhnkhabaa
open Go.ChangeShapes Go.WideShapes Go.ChangeAt Go.RowKit

set_option maxHeartbeats 1000000 in
theorem ArgLaw_any (v : Value) (l : List Par) (w : World) (hv : ParamsAt w v l) (hs : ∀ p ∈ l, p.s.size ≤ 9223372036854775807) :
    Calls Try.prog 4 #[v] w fun e w' => e = .returned (.bool true) ∧ Below w.heap.size w w' := by
  have h1 := Check_any v l w hv
  have h2 := fun W (hb : Below w.heap.size w W) => ParamsFault_any v l W (hv.below hb) hs
  generalize (parF l).1 = fc at *
  generalize (parF l).2 = fi at *
  have H2 := Lib.hid h2
  clear h2 hv hs
  go_enter Try.func4, Try.ntmps4
  go_wp2_with (first | (go_at_call 12; refine h1.mono ?_; rintro e w1 ⟨rfl, hb1⟩; simp only [faultV]) | (go_at_call 13; refine (H2.out _ hb1).mono ?_; rintro e w2 ⟨rfl, hb2⟩; simp only [faultV]))
  go_ret
  exact ⟨ret_bool (by simp), ext_trans hb1 hb2⟩

set_option maxRecDepth 100000 in
theorem Arg_lifted (os : Os) (started : os.Started) (H : Type) (enc : TypeId × Value → H) :
    ReturnsInHanded {} Try.checked os 4 .any (Rows.argumentsCheckMatchesSpecSpec.pre6 enc Try.prog Try.f4 Rows.argumentsCheckMatchesSpecRow.domain false) (Rows.argumentsCheckMatchesSpecSpec.post enc Try.prog Try.f4 false true false false) := by
  refine law_lifted (C := Try.checked) (by kernel_rfl) started (by kernel_rfl) Try.func4 (by kernel_rfl)
    (ChangeSpec.witness6 (enc := enc) (C := Try.checked) false ⟨#[], #[.slice none 0 0], []⟩ 8 (by kernel_rfl) (by kernel_rfl) (by kernel_rfl) (by kernel_rfl))
    rfl rfl Try.underlying4 (fun ds h => by match ds, h with | [_], _ => rfl) (by kernel_rfl) ?_
  intro W base args ds ps hval0 hA0 hsz0
  have hval : ∀ (j : Nat) t v, Try.f4.params[j]? = some t → args[j]? = some v → Value.okWide Try.prog W .any base t v := hval0
  have hA : DataW.TrodAll enc Try.prog W 0 (fun _ => true) true Try.f4.params.toList args.toList ds ps := hA0
  rw [Try.params4] at hA hval
  obtain ⟨v0, vs0, d0, ds0, p0, q0, hargs, rfl, rfl, h0, r0⟩ := trodAll_cons hA
  obtain ⟨rfl, rfl, rfl⟩ := trodAll_nil r0
  obtain rfl : args = #[v0] := by cases args; simp_all
  obtain ⟨l, hl, hs⟩ := Params_open Try.underlying25 Try.underlying51 Try.underlying3 Try.underlying9 Try.underlying49 (by kernel_rfl) (by kernel_rfl) (hval 0 25 v0 rfl rfl) h0
  exact ArgLaw_any v0 l W hl hs

theorem Arg_holds : Rows.ArgumentsCheckMatchesSpecSaid :=
  OpenClaim.holds_of_wide 4 Try.f4 rfl rfl rfl rfl rfl rfl rfl ⟨rfl, rfl, rfl, rfl, rfl⟩ rfl rfl rfl rfl rfl (by kernel_rfl) Try.func4 (by kernel_rfl)
    (of_decide_eq_true (by kernel_rfl)) (by unfold Func.isWrapper; first | (rw [if_pos (by decide +kernel)]; kernel_rfl) | (rw [if_neg (by decide +kernel)]; exact ⟨rfl, rfl⟩))
    (fun os started H enc _ => Arg_lifted os started H enc)

end Go.Proofs.Ytbickehhnkhabaa
