/- Walks: Equal, Ints, candidate. -/
import Derived.Test.YtbickehhnkhabaaLin2
import Derived.Deep.LoopGhost
namespace Go.Proofs.Ytbickehhnkhabaa
open Go.RowKit

theorem take_eq_succ {α : Type} {l m : List α} {k : Nat} (h : l.take k = m.take k) (hl : k < l.length) (hm : k < m.length) (e : l[k] = m[k]) : l.take (k + 1) = m.take (k + 1) := by
  rw [List.take_succ_eq_append_getElem hl, List.take_succ_eq_append_getElem hm, h, e]

set_option maxHeartbeats 400000 in
theorem EqualI_any (v1 v2 : Value) (l1 l2 : List Int) (w : World) (h1 : Ints w v1 l1) (h2 : Ints w v2 l2) :
    Calls Try.prog 42 #[v1, v2] w fun e w' => e = .returned (.bool (decide (l1 = l2))) ∧ Below w.heap.size w w' := by
  obtain ⟨a1, c1, rfl, hl1, hm1, hc1⟩ := h1
  obtain ⟨a2, c2, rfl, hl2, hm2, hc2⟩ := h2
  by_cases hlen : l1.length = l2.length
  · have hb : ((l1.length : Int) != (l2.length : Int)) = false := by simp [hlen]
    have HL := Lib.hid hlen
    go_enter Try.func42, Try.ntmps42
    clear hlen
    go_wp2
    go_loopw [13] (fun i wr => ∃ k : Nat, k ≤ l1.length ∧ i = .int .i64 k ∧ Below w.heap.size w wr ∧ Hid (l1.take k = l2.take k)) (fun i _ => l1.length - (intOf i).toNat)
    case atStart => exact ⟨0, Nat.zero_le _, rfl, Below.refl _ _, rfl⟩
    case round =>
      obtain ⟨k, hk, rfl, hbel, hr⟩ := hrel
      by_cases hlt : k < l1.length
      · have hlt2 : k < l2.length := by have := HL.out; omega
        obtain ⟨b, off, rfl, hcell1⟩ := hc1 k hlt
        obtain ⟨b2, off2, rfl, hcell2⟩ := hc2 k hlt2
        have hcell1' : wr.cell? ⟨b, off + k, none⟩ = some (.int .i64 l1[k]) := by rw [hbel.cell (World.block_lt_of_cell? _ _ hcell1)]; exact hcell1
        have hcell2' : wr.cell? ⟨b2, off2 + k, none⟩ = some (.int .i64 l2[k]) := by rw [hbel.cell (World.block_lt_of_cell? _ _ hcell2)]; exact hcell2
        clear hcell1 hcell2 hc1 hc2
        have hi : (k : Int) < (l2.length : Int) := by omega
        cases hq : (l1[k] != l2[k]) with
        | true =>
          go_wp2
          go_quiet (fail)
          go_wp2
          go_ret
          exact ⟨ret_bool (by have hne := hq; simp at hne; simp; intro h; subst h; exact hne rfl), below_drewN hbel _⟩
        | false =>
          have he : l1[k] = l2[k] := by simpa using hq
          have HE := Lib.hid he
          clear he
          go_wp2
          go_quiet (fail)
          go_wp2
          go_roundw
          case rel => exact ⟨k + 1, by omega, by go_num, below_drewN hbel _, take_eq_succ hr.out hlt hlt2 HE.out⟩
          case measure => simp [intOf]; omega
      · go_wp2
        go_ret
        have hk' : k = l1.length := by omega
        exact ⟨ret_bool (by have := hr.out; rw [hk', List.take_length, HL.out, List.take_length] at this; simp [this]), hbel⟩
  · have hb : ((l1.length : Int) != (l2.length : Int)) = true := by simp; omega
    go_enter Try.func42, Try.ntmps42
    go_wp2
    go_ret
    exact ⟨ret_bool (by simp; intro h; exact hlen (by rw [h])), Below.refl _ _⟩

def candV : Option Int → Value
  | some n => .tuple #[.int .i64 n, .bool true]
  | none => .tuple #[.int .i64 0, .bool false]

theorem cand_drop (B : List (List Int)) (k : Nat) (h : k < B.length) : cand B (B.drop k) = if blocked B (headI B[k]) then cand B (B.drop (k + 1)) else some (headI B[k]) := by
  rw [List.drop_eq_getElem_cons h, cand]

theorem headI_getElem (l : List Int) (h : 0 < l.length) : l[0] = headI l := by
  cases l with
  | nil => simp at h
  | cons a l => rfl

set_option maxHeartbeats 1000000 in
theorem candidate_any (v : Value) (B : List (List Int)) (w : World) (hv : IntRows w v B) (hne : ∀ y ∈ B, y ≠ []) :
    Calls Try.prog 71 #[v] w fun e w' => e = .returned (candV (cand B B)) ∧ Below w.heap.size w w' := by
  obtain ⟨vs, hl, ⟨a, cap, rfl, hlc, hbig, hc⟩, hi⟩ := hv
  go_enter Try.func71, Try.ntmps71
  go_wp2
  go_step3
  go_wp2
  go_step3
  go_wp2
  go_loopg [10] vs.length (fun g i wr => ∃ k : Nat, k ≤ vs.length ∧ vs.length - k ≤ g ∧ i = .int .i64 k ∧ Below w.heap.size w wr ∧ Hid (cand B B = cand B (B.drop k)))
  case atStart => exact ⟨0, Nat.zero_le _, by omega, rfl, Below.refl _ _, rfl⟩
  case round =>
    obtain ⟨k, hk, hg, rfl, hbel, hr⟩ := hrel
    by_cases hlt : k < vs.length
    · obtain ⟨b, off, rfl, hcell⟩ := hc k hlt
      have hB : k < B.length := by omega
      have hpos : 0 < B[k].length := List.length_pos_iff.2 (hne _ (List.getElem_mem hB))
      have hcell' : wr.cell? ⟨b, off + k, none⟩ = some vs[k] := by rw [hbel.cell (World.block_lt_of_cell? _ _ hcell)]; exact hcell
      have HD := Lib.hid (cand_drop B k hB)
      obtain ⟨ax, cx, hvx, hlx, hmx, hcx⟩ := hi k hB
      obtain ⟨bx, ox, rfl, hcx0⟩ := hcx 0 hpos
      have hcx0' : wr.cell? ⟨bx, ox, none⟩ = some (.int .i64 (headI B[k])) := by rw [← headI_getElem _ hpos, ← hcx0, hbel.cell (p := ⟨bx, ox, none⟩) (World.block_lt_of_cell? _ _ hcx0)]; rfl
      rw [hvx] at hcell'
      clear hcx hcx0 hcell hvx
      generalize headI B[k] = n at *
      generalize B[k].length = lx at *
      go_wp2
      obtain ⟨wo, hwo⟩ : ∃ wo : World, wo = wr := ⟨_, rfl⟩
      subst hwo
      go_loopg [16] vs.length (fun g i wr => ∃ j : Nat, j ≤ vs.length ∧ vs.length - j ≤ g ∧ i = .int .i64 j ∧ Below wo.heap.size wo wr ∧ Hid (blocked B n = blocked (B.drop j) n))
      case atStart => exact ⟨0, Nat.zero_le _, by omega, rfl, Below.refl _ _, rfl⟩
      case round =>
        obtain ⟨j, hj, hgj, rfl, hbj, hrj⟩ := hrel
        have hbw := ext_trans hbel hbj
        by_cases hltj : j < vs.length
        · obtain ⟨b2, off2, e2, hcellj⟩ := hc j hltj
          simp only [Option.some.injEq, Addr.mk.injEq, and_true] at e2
          obtain ⟨rfl, rfl⟩ := e2
          have hBj : j < B.length := by omega
          have hposj : 0 < B[j].length := List.length_pos_iff.2 (hne _ (List.getElem_mem hBj))
          have hcellj' : wr.cell? ⟨b, off + j, none⟩ = some vs[j] := by rw [hbw.cell (World.block_lt_of_cell? _ _ hcellj)]; exact hcellj
          have hcx1 : wr.cell? ⟨bx, ox, none⟩ = some (.int .i64 n) := by rw [hbj.cell (p := ⟨bx, ox, none⟩) (World.block_lt_of_cell? _ _ hcx0')]; exact hcx0'
          obtain ⟨u, hu, hsl, _⟩ := Ints.tail ((hi j hBj).below hbw) hposj
          have HJ := Lib.hid (blocked_drop B n j hBj)
          clear hcellj hcx0' hi hc hcell' hne
          generalize vs[j] = y at *
          generalize B[j].tail = t at *
          have hcall := fun W (h : Ints W u t) => (Contains_any u t n W h).mono fun _ _ (h : _ ∧ _) => (⟨h.1, h.2.symm⟩ : _ ∧ _)
          cases hq : hasI t n with
          | true =>
            rw [hq] at hcall
            have HQ := Lib.hid hq
            clear hq
            go_wp2
            go_quiet ((go_at_call 43; exact Calls.quiet_of_same (hcall _ (hu.below (below_drewN (Below.refl _ _) _)))))
            go_wp2
            go_roundg (vs.length - (k + 1))
            case measure => omega
            case rel => exact ⟨k + 1, by omega, by omega, by go_num, below_drewN hbw _, by unfold Hid; rw [hr.out, HD.out, hrj.out, HJ.out, HQ.out]; rfl⟩
          | false =>
            rw [hq] at hcall
            have HQ := Lib.hid hq
            clear hq
            go_wp2
            go_quiet ((go_at_call 43; exact Calls.quiet_of_same (hcall _ (hu.below (below_drewN (Below.refl _ _) _)))))
            go_wp2
            go_roundg (vs.length - (j + 1))
            case measure => omega
            case rel => exact ⟨j + 1, by omega, by omega, by go_num, below_drewN hbj _, by unfold Hid; rw [hrj.out, HJ.out, HQ.out]; rfl⟩
        · have hj' : j = B.length := by omega
          have HF : Hid (blocked B n = false) := by unfold Hid; rw [hrj.out, hj', List.drop_length]; rfl
          have hcx1 : wr.cell? ⟨bx, ox, none⟩ = some (.int .i64 n) := by rw [hbj.cell (p := ⟨bx, ox, none⟩) (World.block_lt_of_cell? _ _ hcx0')]; exact hcx0'
          clear hj'
          go_wp2
          rw [Exit.noGoto_ret]
          go_ret2
          exact ⟨ret_val (by rw [hr.out, HD.out, HF.out]; rfl), hbw⟩
    · have hk' : k = B.length := by omega
      have HF : Hid (cand B B = none) := by unfold Hid; rw [hr.out, hk', List.drop_length]; rfl
      clear hk'
      go_wp2
      rw [Exit.noGoto_ret]
      go_ret2
      exact ⟨ret_val (by rw [HF.out]; rfl), hbel⟩
end Go.Proofs.Ytbickehhnkhabaa
