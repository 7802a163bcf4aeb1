/- Walks: a text among texts. -/
import Derived.Test.YtbickehhnkhabaaBd1
import Derived.Test.YtbickehhnkhabaaBindSpec
namespace Go.Proofs.Ytbickehhnkhabaa
open Go.RowKit

set_option maxRecDepth 100000 in
set_option maxHeartbeats 1000000 in
theorem IndexS_any (v : Value) (l : List ByteArray) (nm : ByteArray) (w : World) (hv : RowOf Value.string w v l) :
    Calls Try.prog 52 #[v, .string nm] w fun e w' => e = .returned (.int .i64 (optI (l.findIdx? (sameN nm)))) ∧ Below w.heap.size w w' := by
  obtain ⟨a, cap, rfl, hl, hm, hcs⟩ := hv
  have HC := Lib.hid hcs
  have HF := Lib.hid (firstFrom_find l (sameN nm) (atD (sameN nm) l) (fun i hi => atD_lt hi))
  clear hcs
  go_enter Try.func52, Try.ntmps52
  go_wp2
  go_loopg [8] l.length (fun q s8 wr => ∃ k : Nat, k ≤ l.length ∧ l.length - k ≤ q ∧ s8 = .int .i64 k ∧ w = wr ∧ Hid (firstFrom (atD (sameN nm) l) l.length 0 = firstFrom (atD (sameN nm) l) l.length k))
  case atStart => exact ⟨0, Nat.zero_le _, by omega, rfl, rfl, rfl⟩
  case round =>
    obtain ⟨k, hk, hq, rfl, rfl, hi⟩ := hrel
    by_cases hlt : k < l.length
    · obtain ⟨b, off, rfl, z0⟩ := HC.out k hlt
      have hpk : atD (sameN nm) l k = (nm.toList == l[k].toList) := by
        rw [atD_lt hlt, Bool.eq_iff_iff]; unfold sameN; rw [beq_iff_eq, beq_iff_eq]; exact eq_comm
      have hyes := Lib.hid (fun h => firstFrom_yes (p := atD (sameN nm) l) hlt (by rw [hpk]; exact h))
      have hno := Lib.hid (fun h => firstFrom_no (p := atD (sameN nm) l) hlt (by rw [hpk]; exact h))
      clear hpk
      generalize l[k] = s at *
      cases hq2 : (nm.toList == s.toList) with
      | true =>
        have HY := Lib.hid (hyes.out hq2)
        clear hyes hno
        go_wp2
        go_ret
        exact ⟨ret_int (by rw [← HF.out, hi.out, HY.out]), Below.refl _ _⟩
      | false =>
        have HN := Lib.hid (hno.out hq2)
        clear hyes hno
        go_wp2
        go_roundg (l.length - (k + 1))
        case measure => omega
        case rel => exact ⟨k + 1, by omega, by omega, by go_num, rfl, by unfold Hid; rw [hi.out, HN.out]⟩
    · go_wp2
      go_ret
      exact ⟨ret_int (by rw [← HF.out, hi.out, firstFrom_end hlt]), Below.refl _ _⟩

theorem optI_isSome {α : Type} (l : List α) (p : α → Bool) : decide (0 ≤ optI (l.findIdx? p)) = l.any p := by
  rw [← List.findIdx?_isSome]
  cases l.findIdx? p with
  | none => rfl
  | some k => simp [optI]

set_option maxHeartbeats 1000000 in
theorem ContainsS_any (v : Value) (l : List ByteArray) (nm : ByteArray) (w : World) (hv : RowOf Value.string w v l) :
    Calls Try.prog 76 #[v, .string nm] w fun e w' => e = .returned (.bool (l.any (sameN nm))) ∧ Below w.heap.size w w' := by
  have h := IndexS_any v l nm w hv
  have HO := Lib.hid (optI_isSome l (sameN nm))
  clear hv
  generalize optI (l.findIdx? (sameN nm)) = z at *
  go_enter Try.func76, Try.ntmps76
  go_wp2_with fail
  refine h.mono ?_
  rintro e w' ⟨rfl, hb⟩
  go_wp2
  go_ret
  exact ⟨ret_bool HO.out, hb⟩

set_option maxHeartbeats 1000000 in
theorem HasString_any (v : Value) (l : List ByteArray) (nm : ByteArray) (w : World) (hv : RowOf Value.string w v l) :
    Calls Try.prog 51 #[v, .string nm] w fun e w' => e = .returned (.bool (l.any (sameN nm))) ∧ Below w.heap.size w w' := by
  have h := ContainsS_any v l nm w hv
  clear hv
  go_enter Try.func51, Try.ntmps51
  go_wp2_with fail
  refine h.mono ?_
  rintro e w' ⟨rfl, hb⟩
  go_wp2
  go_ret
  exact ⟨rfl, hb⟩
end Go.Proofs.Ytbickehhnkhabaa
