/- Walks: names. -/
import Derived.Test.YtbickehhnkhabaaLin3
import Derived.Test.YtbickehhnkhabaaOwn
import Derived.Laws.IdiomStrings
namespace Go.Proofs.Ytbickehhnkhabaa
open Go.RowKit

/-- May a name have this byte at place i? -/
def OkAt (i : Nat) (c : Int) : Prop := c = 95 ∨ (97 ≤ c ∧ c ≤ 122) ∨ (65 ≤ c ∧ c ≤ 90) ∨ (i ≠ 0 ∧ 48 ≤ c ∧ c ≤ 57)
def NameIs (s : ByteArray) : Prop := 1 ≤ s.size ∧ s.size ≤ 24 ∧ ∀ i (h : i < s.size), OkAt i s[i].toNat
noncomputable def nameOk (s : ByteArray) : Bool := @decide (NameIs s) (Classical.propDecidable _)
theorem nameOk_yes {s : ByteArray} (h : NameIs s) : nameOk s = true := @decide_eq_true _ (Classical.propDecidable _) h
theorem nameOk_no {s : ByteArray} (h : ¬ NameIs s) : nameOk s = false := @decide_eq_false _ (Classical.propDecidable _) h

set_option linter.unusedSimpArgs false in
set_option maxRecDepth 100000 in
set_option maxHeartbeats 2000000 in
theorem NameOk_any (s : ByteArray) (w : World) (hs : s.size ≤ 9223372036854775807) :
    Calls Try.prog 35 #[.string s] w fun e w' => e = .returned (.bool (nameOk s)) ∧ w = w' := by
  by_cases h24 : 24 < s.size
  · have hno := Lib.hid (nameOk_no (s := s) (fun h => by have := h.2.1; omega))
    have i1 : ¬ ((s.size : Int) < 1) := by omega
    have i2 : ((s.size : Int) > 24) := by omega
    go_enter Try.func35, Try.ntmps35
    go_wp2
    go_ret
    exact ⟨ret_bool hno.out.symm, rfl⟩
  · by_cases h0 : s.size = 0
    · have hno := Lib.hid (nameOk_no (s := s) (fun h => by have := h.1; omega))
      have i1 : ((s.size : Int) < 1) := by omega
      clear h0
      go_enter Try.func35, Try.ntmps35
      go_wp2
      go_ret
      exact ⟨ret_bool hno.out.symm, rfl⟩
    · have i1 : ¬ ((s.size : Int) < 1) := by omega
      have i2 : ¬ ((s.size : Int) > 24) := by omega
      go_enter Try.func35, Try.ntmps35
      go_wp2
      go_loopg [3] s.size (fun q s3 wr => ∃ k : Nat, k ≤ s.size ∧ s.size - k ≤ q ∧ s3 = .int .i64 k ∧ wr = w ∧ Hid (∀ i (h : i < s.size), i < k → OkAt i s[i].toNat))
      case atStart => exact ⟨0, Nat.zero_le _, by omega, rfl, rfl, fun i _ h => absurd h (by omega)⟩
      case round =>
        obtain ⟨k, hk, hq, rfl, rfl, hall⟩ := hrel
        by_cases hlt : k < s.size
        · have hyes : Hid (OkAt k s[k].toNat → ∀ i (h : i < s.size), i < k + 1 → OkAt i s[i].toNat) := fun ho i h hi => by
            rcases Nat.lt_or_ge i k with h1 | h1
            · exact hall.out i h h1
            · have : i = k := by omega
              subst this; exact ho
          have hno : Hid (¬ OkAt k s[k].toNat → nameOk s = false) := fun hn => nameOk_no fun h => hn (h.2.2 k hlt)
          clear hall
          by_cases hk0 : k = 0
          · subst hk0
            go_wp2
            all_goals first
              | (go_ret; refine ⟨ret_bool (hno.out ?_).symm, rfl⟩; unfold OkAt; omega)
              | (go_ret; refine ⟨ret_bool (hno.out ?_).symm, rfl⟩; unfold OkAt; simp only [Bool.not_eq_false', Bool.not_eq_true', decide_eq_true_eq, beq_iff_eq, beq_eq_false_iff_ne] at *; omega)
              | (go_roundg (s.size - (0 + 1))
                 case measure => omega
                 case rel => exact ⟨0 + 1, by omega, by omega, by go_num, rfl, hyes.out (by unfold OkAt; first | omega | (simp only [Bool.not_eq_false', Bool.not_eq_true', decide_eq_true_eq, beq_iff_eq, beq_eq_false_iff_ne] at *; omega))⟩)
              | (exfalso; omega)
              | (exfalso; simp only [Bool.not_eq_false', Bool.not_eq_true', decide_eq_true_eq, beq_iff_eq, beq_eq_false_iff_ne] at *; omega)
              | trace_state
          · have hkb : ((k : Int) == 0) = false := by simp; omega
            have hki : ¬ ((k : Int) = 0) := by omega
            go_wp2
            all_goals first
              | (go_ret; refine ⟨ret_bool (hno.out ?_).symm, rfl⟩; unfold OkAt; omega)
              | (go_ret; refine ⟨ret_bool (hno.out ?_).symm, rfl⟩; unfold OkAt; simp only [Bool.not_eq_false', Bool.not_eq_true', decide_eq_true_eq, beq_iff_eq, beq_eq_false_iff_ne] at *; omega)
              | (go_roundg (s.size - (k + 1))
                 case measure => omega
                 case rel => exact ⟨k + 1, by omega, by omega, by go_num, rfl, hyes.out (by unfold OkAt; first | omega | (simp only [Bool.not_eq_false', Bool.not_eq_true', decide_eq_true_eq, beq_iff_eq, beq_eq_false_iff_ne] at *; omega))⟩)
              | (exfalso; omega)
              | (exfalso; simp only [Bool.not_eq_false', Bool.not_eq_true', decide_eq_true_eq, beq_iff_eq, beq_eq_false_iff_ne] at *; omega)
              | trace_state
        · have hy := Lib.hid (nameOk_yes (s := s) ⟨by omega, by omega, fun i h => hall.out i h (by omega)⟩)
          clear hall
          go_wp2
          go_ret
          exact ⟨ret_bool hy.out.symm, rfl⟩

/-- The byte c may stand in no name. -/
def Bad (c : Int) : Bool := !(c == 95) && !(decide (97 ≤ c) && decide (c ≤ 122)) && !(decide (65 ≤ c) && decide (c ≤ 90)) && !(decide (48 ≤ c) && decide (c ≤ 57))
theorem bad_ok (c : Int) : Bad c = false ↔ OkAt 1 c := by
  unfold Bad OkAt
  rw [← Bool.not_eq_true]
  simp only [Bool.and_eq_true, Bool.not_eq_true', Bool.and_eq_false_iff, decide_eq_false_iff_not, beq_eq_false_iff_ne]
  omega

set_option maxHeartbeats 1000000 in
theorem isNameBad_any (c : Int) (w : World) :
    Calls Try.prog 62 #[.int .u8 c] w fun e w' => e = .returned (.bool (Bad c)) ∧ w = w' := by
  have hy : Hid (OkAt 1 c → Bad c = false) := (bad_ok c).2
  have hn : Hid (¬ OkAt 1 c → Bad c = true) := fun h => by
    cases hb : Bad c with
    | true => rfl
    | false => exact absurd ((bad_ok c).1 hb) h
  go_enter Try.func62, Try.ntmps62
  go_wp2
  all_goals go_ret
  all_goals refine ⟨ret_bool ?_, rfl⟩
  all_goals (unfold Bad; rw [Bool.eq_iff_iff]; simp; omega)

set_option maxHeartbeats 400000 in
theorem IndexFuncB_any (v : Value) (cs : List Value) (p : Nat → Bool) (g : Nat) (cap : Array Value) (w : World) (hv : Row w v cs)
    (eg : ∀ args w, (callFunc g args).run Try.prog w = .ok (.enter g args) w)
    (hp : ∀ i (h : i < cs.length) W, Below w.heap.size w W → Calls Try.prog g (#[cs[i]] ++ cap) W fun e W' => e = .returned (.bool (p i)) ∧ Below W.heap.size W W') :
    Calls Try.prog 81 #[v, .func (.func g) #[] cap] w fun e w' => e = .returned (.int .i64 (firstFrom p cs.length 0)) ∧ Below w.heap.size w w' := by
  obtain ⟨a, c, rfl, hl, hm, hc⟩ := hv
  go_enter Try.func81, Try.ntmps81
  go_wp2
  go_loopw [8] (fun i wr => ∃ k : Nat, k ≤ cs.length ∧ i = .int .i64 k ∧ Below w.heap.size w wr ∧ Hid (firstFrom p cs.length 0 = firstFrom p cs.length k)) (fun i _ => cs.length - (intOf i).toNat)
  case atStart => exact ⟨0, Nat.zero_le _, rfl, Below.refl _ _, rfl⟩
  case round =>
    obtain ⟨k, hk, rfl, hb, hi⟩ := hrel
    by_cases hlt : k < cs.length
    · obtain ⟨b, off, rfl, hcell⟩ := hc k hlt
      have hcell' : wr.cell? ⟨b, off + k, none⟩ = some cs[k] := by rw [hb.cell (World.block_lt_of_cell? _ _ hcell)]; exact hcell
      have hcall := hp k hlt wr hb
      clear hp hc hcell
      generalize cs[k] = y at *
      cases hq : p k with
      | true =>
        rw [hq] at hcall
        have HQ := Lib.hid hq
        clear hq
        go_wp2_with (go_at_fn g; refine hcall.mono ?_; rintro e w' ⟨rfl, hb'⟩)
        go_ret
        exact ⟨ret_int (by rw [hi.out, firstFrom_yes hlt HQ.out]), ext_trans hb hb'⟩
      | false =>
        rw [hq] at hcall
        have HQ := Lib.hid hq
        clear hq
        go_wp2_with (go_at_fn g; refine hcall.mono ?_; rintro e w' ⟨rfl, hb'⟩)
        go_roundw
        case rel => exact ⟨k + 1, by omega, by go_num, ext_trans hb hb', by unfold Hid; rw [hi.out, firstFrom_no hlt HQ.out]⟩
        case measure => simp [intOf]; omega
    · go_wp2
      go_ret
      exact ⟨ret_int (by rw [hi.out, firstFrom_end hlt]), hb⟩


set_option maxHeartbeats 400000 in
theorem ContainsFuncB_any (v : Value) (cs : List Value) (p : Nat → Bool) (g : Nat) (cap : Array Value) (w : World) (hv : Row w v cs)
    (eg : ∀ args w, (callFunc g args).run Try.prog w = .ok (.enter g args) w)
    (hp : ∀ i (h : i < cs.length) W, Below w.heap.size w W → Calls Try.prog g (#[cs[i]] ++ cap) W fun e W' => e = .returned (.bool (p i)) ∧ Below W.heap.size W W') :
    Calls Try.prog 61 #[v, .func (.func g) #[] cap] w fun e w' => e = .returned (.bool (decide (0 ≤ firstFrom p cs.length 0))) ∧ Below w.heap.size w w' := by
  have HV := Lib.hid hv
  have HP := Lib.hid hp
  clear hp hv
  go_enter Try.func61, Try.ntmps61
  go_wp2_with (go_at_call 81; refine (IndexFuncB_any _ cs p g cap _ HV.out eg HP.out).mono ?_; rintro e w' ⟨rfl, hb⟩)
  go_ret
  exact ⟨rfl, hb⟩

end Go.Proofs.Ytbickehhnkhabaa
