/- Walks: arguments.isName. -/
import Derived.Test.YtbickehhnkhabaaArg1
import Derived.Test.YtbickehhnkhabaaLinSpec2
namespace Go.Proofs.Ytbickehhnkhabaa
open Go.RowKit

def bytesI (s : ByteArray) : List Int := s.data.toList.map fun b => (b.toNat : Int)
theorem bytesI_length (s : ByteArray) : (bytesI s).length = s.size := by unfold bytesI; rw [List.length_map]; rfl
theorem bytesI_get (s : ByteArray) (i : Nat) (h : i < s.size) : (bytesI s)[i]'(by rw [bytesI_length]; exact h) = s[i].toNat := by
  unfold bytesI
  rw [List.getElem_map]
  rfl

theorem nameOk_rest {s : ByteArray} (h1 : 1 ≤ s.size) (h2 : s.size ≤ 24) (h3 : ¬ (48 ≤ (s[0].toNat : Int) ∧ (s[0].toNat : Int) ≤ 57)) : nameOk s = !(bytesI s).any Bad := by
  cases hb : (bytesI s).any Bad with
  | true =>
    rw [List.any_eq_true] at hb
    obtain ⟨c, hc, hbad⟩ := hb
    obtain ⟨i, hi, rfl⟩ := List.getElem_of_mem hc
    rw [bytesI_length] at hi
    rw [bytesI_get s i hi] at hbad
    rw [nameOk_no]; rfl
    intro h
    have ho := h.2.2 i hi
    have : OkAt 1 s[i].toNat := by unfold OkAt at ho ⊢; omega
    rw [(bad_ok _).2 this] at hbad
    cases hbad
  | false =>
    rw [nameOk_yes]; rfl
    refine ⟨h1, h2, fun i hi => ?_⟩
    rw [List.any_eq_false] at hb
    have hbad := hb _ (List.getElem_mem (l := bytesI s) (n := i) (by rw [bytesI_length]; exact hi))
    rw [bytesI_get s i hi, Bool.not_eq_true] at hbad
    have ho := (bad_ok _).1 hbad
    by_cases h0 : i = 0
    · subst h0; unfold OkAt at ho ⊢; omega
    · unfold OkAt at ho ⊢; omega

theorem empty_no {s : ByteArray} (h : s.size ≠ 0) : s.toList.isEmpty = false := by
  rw [ByteArray.toList_eq, Bool.eq_false_iff]
  intro h2
  rw [List.isEmpty_iff] at h2
  exact h (by have := congrArg List.length h2; simpa using this)
theorem empty_yes {s : ByteArray} (h : s.size = 0) : s.toList.isEmpty = true := by
  rw [ByteArray.toList_eq, List.isEmpty_iff]
  exact List.eq_nil_of_length_eq_zero (by simpa using h)

set_option maxRecDepth 100000 in
set_option maxHeartbeats 1000000 in
theorem isName_any (s : ByteArray) (w : World) :
    Calls Try.prog 31 #[.string s] w fun e w' => e = .returned (.bool (nameOk s)) ∧ Below w.heap.size w w' := by
  by_cases h0 : s.size = 0
  · have hno := Lib.hid (nameOk_no (s := s) (fun h => by have := h.1; omega))
    have hemp := empty_yes h0
    clear h0
    go_enter Try.func31, Try.ntmps31
    go_wp2
    go_ret
    exact ⟨ret_bool hno.out.symm, Below.refl _ _⟩
  · have hemp := empty_no h0
    by_cases h24 : 24 < s.size
    · have hno := Lib.hid (nameOk_no (s := s) (fun h => by have := h.2.1; omega))
      have i2 : ((s.size : Int) > 24) := by omega
      go_enter Try.func31, Try.ntmps31
      go_wp2
      go_ret
      exact ⟨ret_bool hno.out.symm, Below.refl _ _⟩
    · have i2 : ¬ ((s.size : Int) > 24) := by omega
      have hp : 0 < s.size := by omega
      by_cases hd : 48 ≤ (s[0].toNat : Int) ∧ (s[0].toNat : Int) ≤ 57
      · have hno := Lib.hid (nameOk_no (s := s) (fun h => by have := h.2.2 0 hp; unfold OkAt at this; omega))
        obtain ⟨d1, d2⟩ := hd
        go_enter Try.func31, Try.ntmps31
        go_wp2
        go_ret
        exact ⟨ret_bool hno.out.symm, Below.refl _ _⟩
      · have hres := Lib.hid (nameOk_rest (s := s) (by omega) (by omega) hd)
        have hconv := run_bytes_of_string (P := Try.prog) w 9 93 5 s Try.underlying9 Try.underlying93 Try.underlying5
        have hge : s.size ≤ grownCap w s.size 0 5 := grownCap_ge w _ _ _
        have hle : grownCap w s.size 0 5 ≤ maxLen := grownCap_le_maxLen w _ _ _ (by rw [maxLen_eq']; omega)
        rw [maxLen_eq'] at hle
        have hb : Below w.heap.size w (w.drew.alloc (.cells (bytesRow s (grownCap w s.size 0 5)) 5 ((bytesRow s (grownCap w s.size 0 5)).size, (bytesRow s (grownCap w s.size 0 5)).size + 1))) := (Below.refl _ w).drew.alloc (Nat.le_refl _) _
        have hcell : ∀ i (h : i < s.size), (w.drew.alloc (.cells (bytesRow s (grownCap w s.size 0 5)) 5 ((bytesRow s (grownCap w s.size 0 5)).size, (bytesRow s (grownCap w s.size 0 5)).size + 1))).cell? ⟨w.heap.size, i, none⟩ = some (.int .u8 (s[i].toNat : Int)) := fun i h => by
          have h1 := World.cell?_alloc_mark w.drew (bytesRow s (grownCap w s.size 0 5)) 5 ((bytesRow s (grownCap w s.size 0 5)).size, (bytesRow s (grownCap w s.size 0 5)).size + 1) i
          exact h1.trans (bytesRow_at s _ i h)
        generalize (w.drew.alloc (.cells (bytesRow s (grownCap w s.size 0 5)) 5 ((bytesRow s (grownCap w s.size 0 5)).size, (bytesRow s (grownCap w s.size 0 5)).size + 1))) = W1 at *
        generalize grownCap w s.size 0 5 = cap at *
        have hrow : Row W1 (.slice (some ⟨w.heap.size, 0, none⟩) s.size cap) ((bytesI s).map (Value.int .u8)) := by
          refine ⟨some ⟨w.heap.size, 0, none⟩, cap, by rw [List.length_map, bytesI_length], by rw [List.length_map, bytesI_length]; exact hge, hle, fun i hi => ?_⟩
          rw [List.length_map, bytesI_length] at hi
          refine ⟨w.heap.size, 0, rfl, ?_⟩
          rw [Nat.zero_add, hcell i hi, List.getElem_map, bytesI_get s i hi]
        have hpp : ∀ i (hi : i < ((bytesI s).map (Value.int .u8)).length) W, Below W1.heap.size W1 W → Calls Try.prog 62 (#[((bytesI s).map (Value.int .u8))[i]] ++ #[]) W fun e W' => e = .returned (.bool ((fun i => Bad ((bytesI s).getD i 0)) i)) ∧ Below W.heap.size W W' := by
          intro i hi W _
          have hi' : i < (bytesI s).length := by simpa using hi
          have e1 : ((bytesI s).map (Value.int .u8))[i] = .int .u8 ((bytesI s).getD i 0) := by simp [List.getD, hi']
          rw [e1, Array.append_empty]
          exact (isNameBad_any ((bytesI s).getD i 0) W).mono fun e W' ⟨he, hw⟩ => ⟨he, hw ▸ Below.refl _ _⟩
        have hcf := ContainsFuncB_any (.slice (some ⟨w.heap.size, 0, none⟩) s.size cap) ((bytesI s).map (Value.int .u8)) (fun i => Bad ((bytesI s).getD i 0)) 62 #[] W1 hrow (enters_of Try.func62 (by kernel_rfl) rfl) hpp
        have hany := firstFrom_any (bytesI s) (fun i => Bad ((bytesI s).getD i 0)) Bad (fun i hi => by simp [List.getD, hi])
        rw [List.length_map, hany] at hcf
        have HD := Lib.hid hd
        have n1 : (48 ≤ (s[0].toNat : Int)) → ¬ (s[0].toNat : Int) ≤ 57 := fun h1 h2 => hd ⟨h1, h2⟩
        clear hd hcell hany hrow hpp
        generalize (bytesI s).any Bad = p at *
        by_cases d1 : 48 ≤ (s[0].toNat : Int)
        · have d2 := n1 d1
          clear n1
          go_enter Try.func31, Try.ntmps31
          go_wp2_with (go_at_call 61; refine hcf.mono ?_; rintro e w' ⟨rfl, hb1⟩)
          go_ret
          exact ⟨ret_bool hres.out.symm, ext_trans hb hb1⟩
        · clear n1
          go_enter Try.func31, Try.ntmps31
          go_wp2_with (go_at_call 61; refine hcf.mono ?_; rintro e w' ⟨rfl, hb1⟩)
          go_ret
          exact ⟨ret_bool hres.out.symm, ext_trans hb hb1⟩
end Go.Proofs.Ytbickehhnkhabaa
