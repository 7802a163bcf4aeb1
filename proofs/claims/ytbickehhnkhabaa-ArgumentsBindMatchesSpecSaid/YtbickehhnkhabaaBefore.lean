/- The walks of slices.Index over []int, of lineage.Before, and of the statement LineageBeforeMatchesPlaces. -/
import Derived.Test.YtbickehhnkhabaaRows
import Derived.Test.YtbickehhnkhabaaBase
namespace Go.Proofs.Ytbickehhnkhabaa
open Go.RowKit

set_option maxHeartbeats 400000 in
theorem Index_any (v : Value) (l : List Int) (x : Int) (w : World) (hv : Ints w v l) :
    Calls Try.prog 10 #[v, .int .i64 x] w fun e w' => e = .returned (.int .i64 (idxFrom x l 0)) ∧ w = w' := by
  obtain ⟨a, cap, rfl, hl, hm, hc⟩ := hv
  go_enter Try.func10, Try.ntmps10
  go_wp2
  go_loop [8] (fun i => ∃ k : Nat, k ≤ l.length ∧ i = .int .i64 k ∧ Hid (idxFrom x l 0 = idxFrom x (l.drop k) k)) (fun i => l.length - (intOf i).toNat)
  case atStart => exact ⟨0, Nat.zero_le _, rfl, rfl⟩
  case round =>
    obtain ⟨k, hk, rfl, hi⟩ := hrel
    by_cases hlt : k < l.length
    · obtain ⟨b, off, rfl, hcell⟩ := hc k hlt
      have hd := idxFrom_drop l x k hlt
      have HD := Lib.hid hd
      clear hd
      go_wp2
      · go_ret
        have hx : (x == l[k]) = true := by assumption
        exact ⟨ret_int (by rw [hi.out, HD.out, if_pos hx]), rfl⟩
      · have hx : (x == l[k]) = false := by assumption
        go_round
        case rel => exact ⟨k + 1, by omega, by go_num, by unfold Hid; rw [hi.out, HD.out, hx]; rfl⟩
        case measure => simp [intOf]; omega
    · have hk' : k = l.length := by omega
      go_wp2
      go_ret
      exact ⟨ret_int (by rw [hi.out, hk', List.drop_length]; rfl), rfl⟩

set_option maxHeartbeats 400000 in
theorem Before_any (v : Value) (l : List Int) (a b : Int) (w : World) (hv : Ints w v l) :
    Calls Try.prog 11 #[v, .int .i64 a, .int .i64 b] w fun e w' => e = .returned (.bool (before l a b)) ∧ w = w' := by
  go_enter Try.func11, Try.ntmps11
  go_wp2_with (go_at_call 10; refine (Index_any _ l _ _ hv).mono ?_; rintro e w' ⟨rfl, rfl⟩)
  · have h0 : 0 ≤ idxFrom a l 0 := by assumption
    go_ret
    exact ⟨ret_bool (by simp [before, h0]), rfl⟩
  · have h0 : idxFrom a l 0 < 0 := by assumption
    go_ret
    exact ⟨ret_bool (by simp [before]; omega), rfl⟩
end Go.Proofs.Ytbickehhnkhabaa
