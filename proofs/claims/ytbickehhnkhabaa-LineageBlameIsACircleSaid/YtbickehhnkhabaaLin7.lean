/- Walks: repeats, the closure of check, check. -/
import Derived.Test.YtbickehhnkhabaaLin4
import Derived.Test.YtbickehhnkhabaaLinSpec2
namespace Go.Proofs.Ytbickehhnkhabaa
open Go.RowKit

theorem keyLawInt : Maps.Keyed Try.prog 3 := Maps.int_keyed Try.underlying3

set_option maxRecDepth 100000 in
set_option maxHeartbeats 400000 in
theorem repeats_any (v : Value) (l : List Int) (w : World) (hv : Ints w v l) (hfit : ∀ x ∈ l, Fits x) :
    Calls Try.prog 66 #[v] w fun e w' => e = .returned (.bool (dupI l)) ∧ Below w.heap.size w w' := by
  obtain ⟨a, cap, rfl, hl, hm, hc⟩ := hv
  have hmm := @run_makeMap Try.prog
  have hsz := size_setI l
  have HSZ := Lib.hid hsz
  have hle := hsz.1
  clear hsz
  go_enter Try.func66, Try.ntmps66
  go_wp2
  go_loopw [9] (fun i wr => ∃ k : Nat, k ≤ l.length ∧ i = .int .i64 k ∧ wr.ownsMap Try.prog 3 unitElem w.heap.size k (setI (l.take k)) ∧ Below w.heap.size w wr) (fun i _ => l.length - (intOf i).toNat)
  case atStart => exact ⟨0, Nat.zero_le _, rfl, World.ownsMap_made _ _ _ _, (Below.refl _ _).alloc (Nat.le_refl _) _⟩
  case round =>
    obtain ⟨k, hk, rfl, hown, hnx⟩ := hrel
    by_cases hlt : k < l.length
    · obtain ⟨b, off, rfl, hcell⟩ := hc k hlt
      have hcell' : wr.cell? ⟨b, off + k, none⟩ = some (.int .i64 l[k]) := by rw [hnx.cell (World.block_lt_of_cell? _ _ hcell)]; exact hcell
      have hkey : keyOf Try.prog 3 (.int .i64 l[k]) = some (.int .i64 l[k]) := Maps.keyOf_int_mk Try.underlying3 (wf_of_fits (hfit _ (List.getElem_mem hlt)))
      have hsn := setI_snoc (l.take k) l[k]
      rw [← List.take_succ_eq_append_getElem hlt] at hsn
      have HS := Lib.hid hsn
      clear hsn hc hcell hfit
      generalize l[k] = x at *
      go_wp2_with (at_mapUpdate; refine wpList_mapUpdate_own _ rfl _ _ _ 110 rfl 3 111 keyLawInt Try.underlying110 unitElem w.heap.size k _ rfl hown (by rw [maxLen_eq']; omega) _ _ _ rfl rfl hkey _ [] unitElem_mk ?_; intro w1 hown1 hgrow1)
      go_roundw
      case rel => exact ⟨k + 1, by omega, by go_num, HS.out.symm ▸ hown1, hnx.grown hgrow1 hnx.size (fun j hj => by cases hj; exact Nat.le_refl _)⟩
      case measure => simp [intOf]; omega
    · have hk' : k = l.length := by omega
      have hown' : wr.ownsMap Try.prog 3 unitElem w.heap.size k (setI l) := by rw [hk', List.take_length] at hown; rw [hk']; exact hown
      clear hown hk'
      go_wp2_with (at_len; refine wpList_len_own _ rfl _ 110 rfl 3 111 Try.underlying110 _ w.heap.size k _ rfl hown' ?_)
      go_ret
      exact ⟨ret_bool HSZ.out.2, hnx⟩

set_option maxHeartbeats 400000 in
theorem checkHead_any (v u : Value) (l1 l2 : List Int) (c : Nat) (w : World) (h1 : Ints w v l1) (h2 : Ints w u l2) (hp1 : 0 < l1.length) (hp2 : 0 < l2.length) (hc : w.cell? ⟨c, 0, none⟩ = some u) :
    Calls Try.prog 68 #[v, .pointer (some ⟨c, 0, none⟩)] w fun e w' => e = .returned (.bool (headI l1 == headI l2)) ∧ Below w.heap.size w w' := by
  obtain ⟨a1, c1, rfl, hl1, hm1, hc1⟩ := h1
  obtain ⟨a2, c2, rfl, hl2, hm2, hc2⟩ := h2
  obtain ⟨b1, o1, rfl, e1⟩ := hc1 0 hp1
  obtain ⟨b2, o2, rfl, e2⟩ := hc2 0 hp2
  rw [headI_getElem _ hp1] at e1
  rw [headI_getElem _ hp2] at e2
  have e1' : w.cell? ⟨b1, o1, none⟩ = some (.int .i64 (headI l1)) := e1
  have e2' : w.cell? ⟨b2, o2, none⟩ = some (.int .i64 (headI l2)) := e2
  clear hc1 hc2 e1 e2
  generalize headI l1 = x at *
  generalize headI l2 = y at *
  generalize l1.length = n1 at *
  generalize l2.length = n2 at *
  have i1 : (0 : Int) < (n1 : Int) := by omega
  have i2 : (0 : Int) < (n2 : Int) := by omega
  go_enter Try.func68, Try.ntmps68
  go_wp2
  go_quiet (fail)
  go_wp2
  go_ret
  exact ⟨rfl, below_drewN (Below.refl _ _) _⟩
end Go.Proofs.Ytbickehhnkhabaa
