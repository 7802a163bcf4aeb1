/- The small functions of lineage: fault, the predicates, IndexFunc and ContainsFunc over []int and [][]int. -/
import Derived.Test.YtbickehhnkhabaaBefore
import Derived.BigQuiet
import Derived.Deep.QuietTactic
import Derived.Shelf.Abstract
namespace Go.Proofs.Ytbickehhnkhabaa
open Go.RowKit

def faultV (c i : Int) : Value := .agg #[.int .i64 c, .int .i64 i]

set_option maxHeartbeats 400000 in
theorem fault_any (c i : Int) (w : World) :
    Calls Try.prog 39 #[.int .i64 c, .int .i64 i] w fun e w' => e = .returned (faultV c i) ∧ Below w.heap.size w w' := by
  go_enter Try.func39, Try.ntmps39
  go_wp2
  exact bodyPost_ret (v := faultV c i) (by simp [results, Try.results39, go_sem, faultV]) rfl ⟨rfl, ext_alloc _ _⟩

set_option maxHeartbeats 400000 in
theorem At_any (c i : Int) (w : World) :
    Calls Try.prog 34 #[.int .i64 c, .int .i64 i] w fun e w' => e = .returned (faultV c i) ∧ Below w.heap.size w w' := by
  go_enter Try.func34, Try.ntmps34
  go_wp2
  exact bodyPost_ret (v := faultV c i) (by simp [results, Try.results34, go_sem, faultV]) rfl ⟨rfl, ext_alloc _ _⟩

theorem checkNeg_any (x : Int) (w : World) :
    Calls Try.prog 65 #[.int .i64 x] w fun e w' => e = .returned (.bool (decide (x < 0))) ∧ w = w' := by
  go_enter Try.func65, Try.ntmps65
  go_wp2
  go_ret
  exact ⟨rfl, rfl⟩

set_option maxHeartbeats 400000 in
theorem IndexFuncI_any (v : Value) (cs : List Value) (p : Nat → Bool) (g : Nat) (cap : Array Value) (w : World) (hv : Row w v cs)
    (eg : ∀ args w, (callFunc g args).run Try.prog w = .ok (.enter g args) w)
    (hp : ∀ i (h : i < cs.length) W, Below w.heap.size w W → Calls Try.prog g (#[cs[i]] ++ cap) W fun e W' => e = .returned (.bool (p i)) ∧ Below W.heap.size W W') :
    Calls Try.prog 82 #[v, .func (.func g) #[] cap] w fun e w' => e = .returned (.int .i64 (firstFrom p cs.length 0)) ∧ Below w.heap.size w w' := by
  obtain ⟨a, c, rfl, hl, hm, hc⟩ := hv
  go_enter Try.func82, Try.ntmps82
  go_wp2
  go_loopw [8] (fun i wr => ∃ k : Nat, k ≤ cs.length ∧ i = .int .i64 k ∧ Below w.heap.size w wr ∧ Hid (firstFrom p cs.length 0 = firstFrom p cs.length k)) (fun i _ => cs.length - (intOf i).toNat)
  case atStart => exact ⟨0, Nat.zero_le _, rfl, Below.refl _ _, rfl⟩
  case round =>
    obtain ⟨k, hk, rfl, hb, hi⟩ := hrel
    by_cases hlt : k < cs.length
    · obtain ⟨b, off, rfl, hcell⟩ := hc k hlt
      have hcell' : wr.cell? ⟨b, off + k, none⟩ = some cs[k] := by rw [hb.cell (World.block_lt_of_cell? _ _ hcell)]; exact hcell
      have hcall := hp k hlt wr hb
      clear hp hc hcell
      generalize cs[k] = y at *
      cases hq : p k with
      | true =>
        rw [hq] at hcall
        have HQ := Lib.hid hq
        clear hq
        go_wp2_with (go_at_fn g; refine hcall.mono ?_; rintro e w' ⟨rfl, hb'⟩)
        go_ret
        exact ⟨ret_int (by rw [hi.out, firstFrom_yes hlt HQ.out]), ext_trans hb hb'⟩
      | false =>
        rw [hq] at hcall
        have HQ := Lib.hid hq
        clear hq
        go_wp2_with (go_at_fn g; refine hcall.mono ?_; rintro e w' ⟨rfl, hb'⟩)
        go_roundw
        case rel => exact ⟨k + 1, by omega, by go_num, ext_trans hb hb', by unfold Hid; rw [hi.out, firstFrom_no hlt HQ.out]⟩
        case measure => simp [intOf]; omega
    · go_wp2
      go_ret
      exact ⟨ret_int (by rw [hi.out, firstFrom_end hlt]), hb⟩


set_option maxHeartbeats 400000 in
theorem ContainsFuncI_any (v : Value) (cs : List Value) (p : Nat → Bool) (g : Nat) (cap : Array Value) (w : World) (hv : Row w v cs)
    (eg : ∀ args w, (callFunc g args).run Try.prog w = .ok (.enter g args) w)
    (hp : ∀ i (h : i < cs.length) W, Below w.heap.size w W → Calls Try.prog g (#[cs[i]] ++ cap) W fun e W' => e = .returned (.bool (p i)) ∧ Below W.heap.size W W') :
    Calls Try.prog 64 #[v, .func (.func g) #[] cap] w fun e w' => e = .returned (.bool (decide (0 ≤ firstFrom p cs.length 0))) ∧ Below w.heap.size w w' := by
  have HV := Lib.hid hv
  have HP := Lib.hid hp
  clear hp hv
  go_enter Try.func64, Try.ntmps64
  go_wp2_with (go_at_call 82; refine (IndexFuncI_any _ cs p g cap _ HV.out eg HP.out).mono ?_; rintro e w' ⟨rfl, hb⟩)
  go_ret
  exact ⟨rfl, hb⟩


set_option maxHeartbeats 400000 in
theorem IndexFuncL_any (v : Value) (cs : List Value) (p : Nat → Bool) (g : Nat) (cap : Array Value) (w : World) (hv : Row w v cs)
    (eg : ∀ args w, (callFunc g args).run Try.prog w = .ok (.enter g args) w)
    (hp : ∀ i (h : i < cs.length) W, Below w.heap.size w W → Calls Try.prog g (#[cs[i]] ++ cap) W fun e W' => e = .returned (.bool (p i)) ∧ Below W.heap.size W W') :
    Calls Try.prog 58 #[v, .func (.func g) #[] cap] w fun e w' => e = .returned (.int .i64 (firstFrom p cs.length 0)) ∧ Below w.heap.size w w' := by
  obtain ⟨a, c, rfl, hl, hm, hc⟩ := hv
  go_enter Try.func58, Try.ntmps58
  go_wp2
  go_loopw [8] (fun i wr => ∃ k : Nat, k ≤ cs.length ∧ i = .int .i64 k ∧ Below w.heap.size w wr ∧ Hid (firstFrom p cs.length 0 = firstFrom p cs.length k)) (fun i _ => cs.length - (intOf i).toNat)
  case atStart => exact ⟨0, Nat.zero_le _, rfl, Below.refl _ _, rfl⟩
  case round =>
    obtain ⟨k, hk, rfl, hb, hi⟩ := hrel
    by_cases hlt : k < cs.length
    · obtain ⟨b, off, rfl, hcell⟩ := hc k hlt
      have hcell' : wr.cell? ⟨b, off + k, none⟩ = some cs[k] := by rw [hb.cell (World.block_lt_of_cell? _ _ hcell)]; exact hcell
      have hcall := hp k hlt wr hb
      clear hp hc hcell
      generalize cs[k] = y at *
      cases hq : p k with
      | true =>
        rw [hq] at hcall
        have HQ := Lib.hid hq
        clear hq
        go_wp2_with (go_at_fn g; refine hcall.mono ?_; rintro e w' ⟨rfl, hb'⟩)
        go_ret
        exact ⟨ret_int (by rw [hi.out, firstFrom_yes hlt HQ.out]), ext_trans hb hb'⟩
      | false =>
        rw [hq] at hcall
        have HQ := Lib.hid hq
        clear hq
        go_wp2_with (go_at_fn g; refine hcall.mono ?_; rintro e w' ⟨rfl, hb'⟩)
        go_roundw
        case rel => exact ⟨k + 1, by omega, by go_num, ext_trans hb hb', by unfold Hid; rw [hi.out, firstFrom_no hlt HQ.out]⟩
        case measure => simp [intOf]; omega
    · go_wp2
      go_ret
      exact ⟨ret_int (by rw [hi.out, firstFrom_end hlt]), hb⟩


set_option maxHeartbeats 400000 in
theorem ContainsFuncL_any (v : Value) (cs : List Value) (p : Nat → Bool) (g : Nat) (cap : Array Value) (w : World) (hv : Row w v cs)
    (eg : ∀ args w, (callFunc g args).run Try.prog w = .ok (.enter g args) w)
    (hp : ∀ i (h : i < cs.length) W, Below w.heap.size w W → Calls Try.prog g (#[cs[i]] ++ cap) W fun e W' => e = .returned (.bool (p i)) ∧ Below W.heap.size W W') :
    Calls Try.prog 67 #[v, .func (.func g) #[] cap] w fun e w' => e = .returned (.bool (decide (0 ≤ firstFrom p cs.length 0))) ∧ Below w.heap.size w w' := by
  have HV := Lib.hid hv
  have HP := Lib.hid hp
  clear hp hv
  go_enter Try.func67, Try.ntmps67
  go_wp2_with (go_at_call 58; refine (IndexFuncL_any _ cs p g cap _ HV.out eg HP.out).mono ?_; rintro e w' ⟨rfl, hb⟩)
  go_ret
  exact ⟨rfl, hb⟩

end Go.Proofs.Ytbickehhnkhabaa
