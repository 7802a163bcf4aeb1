/- Walks: Contains, HasInt, inTail. -/
import Derived.Test.YtbickehhnkhabaaLin1
import Derived.Test.YtbickehhnkhabaaLinSpec
import Derived.Test.YtbickehhnkhabaaTypes
namespace Go.Proofs.Ytbickehhnkhabaa
open Go.RowKit

set_option maxHeartbeats 400000 in
theorem Contains_any (v : Value) (l : List Int) (x : Int) (w : World) (hv : Ints w v l) :
    Calls Try.prog 43 #[v, .int .i64 x] w fun e w' => e = .returned (.bool (hasI l x)) ∧ w = w' := by
  go_enter Try.func43, Try.ntmps43
  go_wp2_with (go_at_call 10; refine (Index_any _ l _ _ hv).mono ?_; rintro e w' ⟨rfl, rfl⟩)
  go_ret
  exact ⟨rfl, rfl⟩

set_option maxHeartbeats 400000 in
theorem HasInt_any (v : Value) (l : List Int) (x : Int) (w : World) (hv : Ints w v l) :
    Calls Try.prog 17 #[v, .int .i64 x] w fun e w' => e = .returned (.bool (hasI l x)) ∧ w = w' := by
  go_enter Try.func17, Try.ntmps17
  go_wp2_with (go_at_call 43; refine (Contains_any _ l _ _ hv).mono ?_; rintro e w' ⟨rfl, rfl⟩)
  go_ret
  exact ⟨rfl, rfl⟩

theorem blocked_drop (B : List (List Int)) (x : Int) (k : Nat) (h : k < B.length) : blocked (B.drop k) x = (hasI B[k].tail x || blocked (B.drop (k + 1)) x) := by
  rw [List.drop_eq_getElem_cons h, blocked, List.any_cons]; rfl

set_option maxHeartbeats 400000 in
theorem inTail_any (v : Value) (B : List (List Int)) (x : Int) (w : World) (hv : IntRows w v B) (hne : ∀ y ∈ B, y ≠ []) :
    Calls Try.prog 73 #[v, .int .i64 x] w fun e w' => e = .returned (.bool (blocked B x)) ∧ w = w' := by
  obtain ⟨vs, hl, ⟨a, cap, rfl, hlc, hbig, hc⟩, hi⟩ := hv
  go_enter Try.func73, Try.ntmps73
  go_wp2
  go_loop [9] (fun i => ∃ k : Nat, k ≤ vs.length ∧ i = .int .i64 k ∧ Hid (blocked B x = blocked (B.drop k) x)) (fun i => vs.length - (intOf i).toNat)
  case atStart => exact ⟨0, Nat.zero_le _, rfl, rfl⟩
  case round =>
    obtain ⟨k, hk, rfl, hr⟩ := hrel
    by_cases hlt : k < vs.length
    · obtain ⟨b, off, rfl, hcell⟩ := hc k hlt
      have hB : k < B.length := by omega
      have hpos : 0 < B[k].length := List.length_pos_iff.2 (hne _ (List.getElem_mem hB))
      obtain ⟨u, hu, hsl, _⟩ := Ints.tail (hi k hB) hpos
      have HD := Lib.hid (blocked_drop B x k hB)
      clear hi hc hne
      generalize vs[k] = y at *
      generalize B[k].tail = t at *
      cases hq : hasI t x with
      | true =>
        have hcall := HasInt_any u t x w hu
        rw [hq] at hcall
        have HQ := Lib.hid hq
        clear hq
        go_wp2_with (go_at_call 17; refine hcall.mono ?_; rintro e w' ⟨rfl, rfl⟩)
        go_ret
        exact ⟨ret_bool (by rw [hr.out, HD.out, HQ.out]; rfl), rfl⟩
      | false =>
        have hcall := HasInt_any u t x w hu
        rw [hq] at hcall
        have HQ := Lib.hid hq
        clear hq
        go_wp2_with (go_at_call 17; refine hcall.mono ?_; rintro e w' ⟨rfl, rfl⟩)
        go_round
        case rel => exact ⟨k + 1, by omega, by go_num, by unfold Hid; rw [hr.out, HD.out, HQ.out]; rfl⟩
        case measure => simp [intOf]; omega
    · have hk' : k = B.length := by omega
      go_wp2
      go_ret
      exact ⟨ret_bool (by rw [hr.out, hk', List.drop_length]; rfl), rfl⟩
end Go.Proofs.Ytbickehhnkhabaa
