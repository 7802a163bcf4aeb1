/- LineageBeforeMatchesPlaces: for every list of numbers and every two numbers the law returns true and leaves its arguments alone. No condition. -/
import Derived.Test.YtbickehhnkhabaaBefore
import Derived.Test.YtbickehhnkhabaaOpen
import Derived.Test.YtbickehhnkhabaaLift
namespace Go.Proofs.Ytbickehhnkhabaa
open Go.ChangeShapes Go.WideShapes Go.ChangeAt Go.RowKit

set_option maxHeartbeats 400000 in
theorem BeforeLaw_any (v : Value) (l : List Int) (a b : Int) (w : World) (hv : Ints w v l) :
    Calls Try.prog 3 #[v, .int .i64 a, .int .i64 b] w fun e w' => e = .returned (.bool true) ∧ w = w' := by
  go_enter Try.func3, Try.ntmps3
  go_wp2_with (first | (go_at_call 10; refine (Index_any _ l _ _ hv).mono ?_; rintro e w' ⟨rfl, rfl⟩) | (go_at_call 11; refine (Before_any _ l _ _ _ hv).mono ?_; rintro e w' ⟨rfl, rfl⟩))
  · have h0 : 0 ≤ idxFrom a l 0 := by assumption
    go_ret
    exact ⟨ret_bool (by simp [before, h0]), rfl⟩
  · have h0 : 0 ≤ idxFrom a l 0 := by assumption
    have h1 : idxFrom b l 0 < 0 := by assumption
    go_ret
    exact ⟨ret_bool (by simp [before]; omega), rfl⟩
  · have h0 : idxFrom a l 0 < 0 := by assumption
    go_ret
    exact ⟨ret_bool (by simp [before]; omega), rfl⟩

set_option maxRecDepth 100000 in
theorem BeforeLaw_lifted (os : Os) (started : os.Started) (H : Type) (enc : TypeId × Value → H) :
    ReturnsInHanded {} Try.checked os 3 .any (Rows.lineageBeforeMatchesPlacesSpec.pre6 enc Try.prog Try.f3 Rows.lineageBeforeMatchesPlacesRow.domain false) (Rows.lineageBeforeMatchesPlacesSpec.post enc Try.prog Try.f3 false true false false) := by
  refine law_lifted (C := Try.checked) (by kernel_rfl) started (by kernel_rfl) Try.func3 (by kernel_rfl)
    (ChangeSpec.witness6 (enc := enc) (C := Try.checked) false ⟨#[], #[.slice none 0 0, .int .i64 0, .int .i64 0], []⟩ 8 (by kernel_rfl) (by kernel_rfl) (by kernel_rfl) (by kernel_rfl))
    rfl rfl Try.underlying4 (fun ds h => by match ds, h with | [_, _, _], _ => rfl) (by kernel_rfl) ?_
  intro W base args ds ps hval0 hA0 _
  have hval : ∀ (j : Nat) t v, Try.f3.params[j]? = some t → args[j]? = some v → Value.okWide Try.prog W .any base t v := hval0
  have hA : DataW.TrodAll enc Try.prog W 0 (fun _ => true) true Try.f3.params.toList args.toList ds ps := hA0
  rw [Try.params3] at hA hval
  obtain ⟨v0, vs0, d0, ds0, p0, q0, hargs, rfl, rfl, h0, r0⟩ := trodAll_cons hA
  obtain ⟨v1, vs1, d1, ds1, p1, q1, rfl, rfl, rfl, h1, r1⟩ := trodAll_cons r0
  obtain ⟨v2, vs2, d2, ds2, p2, q2, rfl, rfl, rfl, h2, r2⟩ := trodAll_cons r1
  obtain ⟨rfl, rfl, rfl⟩ := trodAll_nil r2
  obtain rfl : args = #[v0, v1, v2] := by cases args; simp_all
  obtain ⟨l, hl, _⟩ := Ints_open Try.underlying22 Try.underlying3 (by kernel_rfl) (hval 0 22 v0 rfl rfl) h0
  obtain ⟨a, rfl, _⟩ := Int_open Try.underlying3 (hval 1 3 v1 rfl rfl) h1
  obtain ⟨b, rfl, _⟩ := Int_open Try.underlying3 (hval 2 3 v2 rfl rfl) h2
  exact (BeforeLaw_any _ l a b W hl).mono fun e W' ⟨he, hw⟩ => ⟨he, hw ▸ Below.refl _ _⟩

theorem BeforeLaw_holds : Rows.LineageBeforeMatchesPlacesSaid :=
  OpenClaim.holds_of_wide 3 Try.f3 rfl rfl rfl rfl rfl rfl rfl ⟨rfl, rfl, rfl, rfl, rfl⟩ rfl rfl rfl rfl rfl (by kernel_rfl) Try.func3 (by kernel_rfl)
    (of_decide_eq_true (by kernel_rfl)) (by unfold Func.isWrapper; first | (rw [if_pos (by decide +kernel)]; kernel_rfl) | (rw [if_neg (by decide +kernel)]; exact ⟨rfl, rfl⟩))
    (fun os started H enc _ => BeforeLaw_lifted os started H enc)
end Go.Proofs.Ytbickehhnkhabaa
