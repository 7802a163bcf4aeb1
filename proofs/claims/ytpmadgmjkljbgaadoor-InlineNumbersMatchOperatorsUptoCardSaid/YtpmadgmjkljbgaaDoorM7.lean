/- Part 7 of the proof. -/
import Derived.Test.YtpmadgmjkljbgaaDoorM6

/- Walk: Int.Floor (brindlewoodref3). -/
namespace Go.Proofs.YtpmadgmjkljbgaaDoor
open Go.RowKit

theorem fdiv_add_fmod (x y : Int) : x - Int.fdiv x y * y = x - Int.fdiv x y * y := rfl
/-- What the document's division of signed numbers comes to. -/
theorem floor_same (b : Bool) (m n : Nat) (hn : 0 < n) (s : Bool) (hs : s = false) : ZI s (m / n) = Int.fdiv (ZI b m) (ZI b n) ∧ ZI b (m % n) = ZI b m - Int.fdiv (ZI b m) (ZI b n) * ZI b n := by
  subst hs
  have e : ((m / n : Nat) : Int) * n + ((m % n : Nat) : Int) = m := by have := Nat.div_add_mod m n; rw [Nat.mul_comm] at this; omega
  have hlt : m % n < n := Nat.mod_lt _ hn
  have k : Int.fdiv (ZI b m) (ZI b n) = ((m / n : Nat) : Int) := by
    refine floor_unique (r := ZI b (m % n)) ?_ ?_
    · cases b <;> unfold ZI <;> simp only [if_true, if_false, Bool.false_eq_true]
      · rw [Int.mul_comm]; omega
      · rw [Int.neg_mul, Int.mul_comm]; omega
    · cases b <;> unfold ZI <;> simp only [if_true, if_false, Bool.false_eq_true] <;> omega
  rw [k]
  refine ⟨by unfold ZI; simp, ?_⟩
  cases b <;> unfold ZI <;> simp only [if_true, if_false, Bool.false_eq_true]
  · omega
  · rw [Int.mul_neg]; omega
theorem floor_even (b c : Bool) (hbc : b ≠ c) (m n : Nat) (hn : 0 < n) (hr : m % n = 0) : ZI true (m / n) = Int.fdiv (ZI b m) (ZI c n) ∧ ZI c (m % n) = ZI b m - Int.fdiv (ZI b m) (ZI c n) * ZI c n := by
  have e : ((m / n : Nat) : Int) * n + ((m % n : Nat) : Int) = m := by have := Nat.div_add_mod m n; rw [Nat.mul_comm] at this; omega
  have k : Int.fdiv (ZI b m) (ZI c n) = -((m / n : Nat) : Int) := by
    refine floor_unique (r := 0) ?_ ?_
    · cases b <;> cases c <;> first | exact absurd rfl hbc | (unfold ZI; simp only [if_true, if_false, Bool.false_eq_true])
      · rw [Int.neg_mul_neg, Int.mul_comm]; omega
      · rw [Int.mul_neg, Int.mul_comm]; omega
    · cases c <;> unfold ZI <;> simp only [if_true, if_false, Bool.false_eq_true] <;> omega
  rw [k]
  refine ⟨by unfold ZI; simp, ?_⟩
  cases b <;> cases c <;> first | exact absurd rfl hbc | (unfold ZI; simp only [if_true, if_false, Bool.false_eq_true])
  · rw [Int.neg_mul_neg]; omega
  · rw [Int.neg_mul]; omega
theorem floor_rest (b c : Bool) (hbc : b ≠ c) (m n : Nat) (hn : 0 < n) (hr : 0 < m % n) : ZI true (m / n + 1) = Int.fdiv (ZI b m) (ZI c n) ∧ ZI c (n - m % n) = ZI b m - Int.fdiv (ZI b m) (ZI c n) * ZI c n := by
  have e : ((m / n : Nat) : Int) * n + ((m % n : Nat) : Int) = m := by have := Nat.div_add_mod m n; rw [Nat.mul_comm] at this; omega
  have hlt : m % n < n := Nat.mod_lt _ hn
  have e2 : (((m / n : Nat) : Int) + 1) * n = ((m / n : Nat) : Int) * n + n := by rw [Int.add_mul, Int.one_mul]
  have k : Int.fdiv (ZI b m) (ZI c n) = -(((m / n : Nat) : Int) + 1) := by
    refine floor_unique (r := ZI c (n - m % n)) ?_ ?_
    · cases b <;> cases c <;> first | exact absurd rfl hbc | (unfold ZI; simp only [if_true, if_false, Bool.false_eq_true])
      · rw [Int.neg_mul_neg, Int.mul_comm]; omega
      · rw [Int.mul_neg, Int.mul_comm]; omega
    · cases c <;> unfold ZI <;> simp only [if_true, if_false, Bool.false_eq_true] <;> omega
  rw [k]
  refine ⟨by unfold ZI; simp, ?_⟩
  cases b <;> cases c <;> first | exact absurd rfl hbc | (unfold ZI; simp only [if_true, if_false, Bool.false_eq_true])
  · rw [Int.neg_mul_neg]; omega
  · rw [Int.neg_mul]; omega

set_option maxRecDepth 100000 in
set_option maxHeartbeats 2000000 in
theorem IntFloor_any (xv yv : Value) (x y : Int) (w : World) (hx : IntAt w xv x) (hy : IntAt w yv y) (hy0 : y ≠ 0) (nx : (dig x.natAbs).length ≤ 100000) (ny : (dig y.natAbs).length ≤ 100000) :
    Calls Tryd.prog 52 #[xv, yv] w fun e w' => ∃ v1 v2, e = .returned (.tuple #[v1, v2]) ∧ IntAt w' v1 (Int.fdiv x y) ∧ IntAt w' v2 (x - Int.fdiv x y * y) ∧ Below w.heap.size w w' := by
  obtain ⟨b1, v1, m, rfl, hm, rfl⟩ := hx
  obtain ⟨b2, v2, n, rfl, hn, rfl⟩ := hy
  rw [ZI_abs] at nx ny
  have hn0 : 0 < n := by
    rcases Nat.eq_zero_or_pos n with h | h
    · subst h; exact absurd (by cases b2 <;> rfl) hy0
    · exact h
  have HD := Lib.hid (fun W (h : Below w.heap.size w W) => Divide_any _ _ m n W (hm.below h) (hn.below h) nx ny hn0)
  have HN := Lib.hid hn
  have hlq : (dig (m / n)).length ≤ 100000 := dig_len_of_le (Nat.div_le_self _ _) nx
  have hlt : m % n < n := Nat.mod_lt _ hn0
  have HLT := Lib.hid hlt
  have NY := Lib.hid ny
  have NQ := Lib.hid hlq
  obtain ⟨a1, c1, rfl⟩ := hm.slice
  obtain ⟨a2, c2, rfl⟩ := hn.slice
  have NX := Lib.hid nx
  clear hm hn hy0 nx ny hlq hlt
  generalize (dig m).length = lm at HD
  generalize (dig n).length = ln at HD HN
  have hal := alloc4 w (.cells #[.bool b1, .slice a1 lm c1] 41) (.cells #[.bool b2, .slice a2 ln c2] 41) (.cells #[.bool false, .slice none 0 0] 41) (.cells #[.bool false, .slice none 0 0] 41)
  go_enter Tryd.func52, Tryd.ntmps52
  go_upto_region 1 with fail
  generalize ((((w.alloc (.cells #[.bool b1, .slice a1 lm c1] 41)).alloc (.cells #[.bool b2, .slice a2 ln c2] 41)).alloc (.cells #[.bool false, .slice none 0 0] 41)).alloc (.cells #[.bool false, .slice none 0 0] 41)) = w1 at *
  obtain ⟨hb1, h1, h2, h3, h4⟩ := hal
  have hB1 : Bxs [(w.heap.size, (.cells #[.bool b1, .slice a1 lm c1] 41)), (w.heap.size + 1, (.cells #[.bool b2, .slice a2 ln c2] 41))] w w1 := ⟨hb1, fun x hx => by
    simp only [List.mem_cons, List.not_mem_nil, or_false] at hx
    rcases hx with rfl | rfl
    · exact h1
    · exact h2⟩
  have i3 : IBox 41 w1 (w.heap.size + 1 + 1) := ⟨_, _, _, _, h3⟩
  have i4 : IBox 41 w1 (w.heap.size + 1 + 1 + 1) := ⟨_, _, _, _, h4⟩
  have d1 := box_cell h1 1
  have e1 := box_cell h2 1
  simp only [List.getElem?_toArray, List.getElem?_cons_zero, List.getElem?_cons_succ] at d1 e1
  clear h1 h2 h3 h4
  go_wp2_with fail
  refine (HD.out w1 hb1).mono ?_
  rintro e w2 ⟨qv, rv, rfl, hQ, hR, hb2⟩
  have hB := hB1.below hb2
  have I3 := i3.below hb2
  have I4 := i4.below hb2
  clear d1 e1 hB1 i3 i4
  have HQ := Lib.hid hQ
  have HR := Lib.hid hR
  have HP := Lib.hid (fun W u (h : Below w2.heap.size w2 W) (hu : NatAt W u 1) => Plus_any _ _ (m / n) 1 W (hQ.below h) hu (Nat.le_trans NQ.out (by omega)) (by rw [dig_pos (by omega)]; simp [dig_zero]))
  have HM := Lib.hid (fun W (h : Below w2.heap.size w2 W) => Minus_any _ _ n (m % n) W (HN.out.below (ext_trans hb1 (ext_trans hb2 h))) (hR.below h) (Nat.le_of_lt HLT.out) (Nat.le_trans NY.out (by omega)))
  obtain ⟨a3, c3, rfl⟩ := hQ.slice
  obtain ⟨a4, c4, rfl⟩ := hR.slice
  have hl4 : (0 < (dig (m % n)).length) ↔ 0 < m % n := by rw [List.length_pos_iff, Ne, dig_eq_nil]; omega
  generalize (dig (m / n)).length = l3 at *
  generalize (dig (m % n)).length = l4 at *
  have HL4 := Lib.hid hl4
  clear hQ hR hl4
  have d0 := box_cell (hB.2 (w.heap.size, .cells #[.bool b1, .slice a1 lm c1] 41) (by simp)) 0
  have e0 := box_cell (hB.2 (w.heap.size + 1, .cells #[.bool b2, .slice a2 ln c2] 41) (by simp)) 0
  simp only [List.getElem?_toArray, List.getElem?_cons_zero, List.getElem?_cons_succ] at d0 e0
  by_cases hbb : b1 = b2
  · subst hbb
    have j0 : (b1 == b1) = true := by simp
    have HZ := Lib.hid (floor_same b1 m n hn0 false rfl)
    clear hb1 hb2 HD HP HM
    go_upto_region 4 with fail
    have hBd := hB.drew
    refine wp_region_noPanic ?_
    refine wp_region_L (S := fun _ W => Bxs [(w.heap.size, (.cells #[.bool b1, .slice a1 lm c1] 41)), (w.heap.size + 1, (.cells #[.bool b1, .slice a2 ln c2] 41))] w W) (by kernel_rfl) ?_
    refine wpAnyL_take (T := fun _ => True) (i := 0) (v := ?vvfa0) rfl (by kernel_rfl) (by kernel_rfl) (by kernel_rfl) (fun _ _ _ h => h) (fun _ _ => Iff.rfl) (fun _ _ _ _ _ => trivial) (Closed.of_B (by kernel_rfl)) (Or.inl ⟨by kernel_rfl, ?hyfa0⟩) hBd ?restfa0
    case hyfa0 => (intro w _; go_simp; with_reducible rfl)
    go_simp
    refine wpAnyL_take (T := fun W => Bxs [(w.heap.size, (.cells #[.bool b1, .slice a1 lm c1] 41)), (w.heap.size + 1, (.cells #[.bool b1, .slice a2 ln c2] 41))] w W) (i := 1) (v := ?vvfa1) rfl (by kernel_rfl) (by kernel_rfl) (by kernel_rfl) (fun _ _ _ h => h) (fun _ _ => Iff.rfl) (fun _ _ _ _ h => h) (Closed.of_B (by kernel_rfl)) (Or.inl ⟨by kernel_rfl, ?hyfa1⟩) hBd ?restfa1
    case hyfa1 =>
      intro W hW
      have hx0 := hW.2 ((w.heap.size, (.cells #[.bool b1, .slice a1 lm c1] 41)) : Nat × Obj) (by simp)
      have dx0x0 := box_cell hx0 0
      simp only [List.getElem?_toArray, List.getElem?_cons_zero, List.getElem?_cons_succ] at dx0x0
      clear hW
      go_simp; with_reducible rfl
    go_simp
    refine wpAnyL_take (T := fun _ => True) (i := 2) (v := ?vvfa2) rfl (by kernel_rfl) (by kernel_rfl) (by kernel_rfl) (fun _ _ _ h => h) (fun _ _ => Iff.rfl) (fun _ _ _ _ _ => trivial) (Closed.of_B (by kernel_rfl)) (Or.inl ⟨by kernel_rfl, ?hyfa2⟩) hBd ?restfa2
    case hyfa2 => (intro w _; go_simp; with_reducible rfl)
    go_simp
    refine wpAnyL_take (T := fun W => Bxs [(w.heap.size, (.cells #[.bool b1, .slice a1 lm c1] 41)), (w.heap.size + 1, (.cells #[.bool b1, .slice a2 ln c2] 41))] w W) (i := 3) (v := ?vvfa3) rfl (by kernel_rfl) (by kernel_rfl) (by kernel_rfl) (fun _ _ _ h => h) (fun _ _ => Iff.rfl) (fun _ _ _ _ h => h) (Closed.of_B (by kernel_rfl)) (Or.inl ⟨by kernel_rfl, ?hyfa3⟩) hBd ?restfa3
    case hyfa3 =>
      intro W hW
      have hx1 := hW.2 ((w.heap.size + 1, (.cells #[.bool b1, .slice a2 ln c2] 41)) : Nat × Obj) (by simp)
      have dx1x0 := box_cell hx1 0
      simp only [List.getElem?_toArray, List.getElem?_cons_zero, List.getElem?_cons_succ] at dx1x0
      clear hW
      go_simp; with_reducible rfl
    go_simp
    refine wpAnyL_take (T := fun _ => True) (i := 4) (v := ?vvfa4) rfl (by kernel_rfl) (by kernel_rfl) (by kernel_rfl) (fun _ _ _ h => h) (fun _ _ => Iff.rfl) (fun _ _ _ _ _ => trivial) (Closed.of_B (by kernel_rfl)) (Or.inl ⟨by kernel_rfl, ?hyfa4⟩) hBd ?restfa4
    case hyfa4 => (intro w _; go_simp; with_reducible rfl)
    go_simp
    refine wpAnyL_take (T := fun _ => True) (i := 5) (v := ?vvfa5) rfl (by kernel_rfl) (by kernel_rfl) (by kernel_rfl) (fun _ _ _ h => h) (fun _ _ => Iff.rfl) (fun _ _ _ _ _ => trivial) (Closed.of_B (by kernel_rfl)) (Or.inl ⟨by kernel_rfl, ?hyfa5⟩) hBd ?restfa5
    case hyfa5 => (intro w _; go_simp; with_reducible rfl)
    go_simp
    refine wpAnyL_take (T := fun _ => True) (i := 6) (v := ?vvfa6) rfl (by kernel_rfl) (by kernel_rfl) (by kernel_rfl) (fun _ _ _ h => h) (fun _ _ => Iff.rfl) (fun _ _ _ _ _ => trivial) (Closed.of_B (by kernel_rfl)) (Or.inl ⟨by kernel_rfl, ?hyfa6⟩) hBd ?restfa6
    case hyfa6 => (intro w _; go_simp; with_reducible rfl)
    go_simp
    refine wpAnyL_take (T := fun _ => True) (i := 7) (v := ?vvfa7) rfl (by kernel_rfl) (by kernel_rfl) (by kernel_rfl) (fun _ _ _ h => h) (fun _ _ => Iff.rfl) (fun _ _ _ _ _ => trivial) (Closed.of_B (by kernel_rfl)) (Or.inl ⟨by kernel_rfl, ?hyfa7⟩) hBd ?restfa7
    case hyfa7 => (intro w _; go_simp; with_reducible rfl)
    go_simp
    refine wpAnyL_take (T := fun W => Bxs [(w.heap.size, (.cells #[.bool b1, .slice a1 lm c1] 41)), (w.heap.size + 1, (.cells #[.bool b1, .slice a2 ln c2] 41))] w W) (i := 8) (v := ?vvfa8) rfl (by kernel_rfl) (by kernel_rfl) (by kernel_rfl) (fun _ _ _ h => h) (fun _ _ => Iff.rfl) (fun _ _ _ _ h => h) (Closed.of_B (by kernel_rfl)) (Or.inl ⟨by kernel_rfl, ?hyfa8⟩) hBd ?restfa8
    case hyfa8 =>
      intro W hW
      have hx1 := hW.2 ((w.heap.size + 1, (.cells #[.bool b1, .slice a2 ln c2] 41)) : Nat × Obj) (by simp)
      have dx1x0 := box_cell hx1 0
      simp only [List.getElem?_toArray, List.getElem?_cons_zero, List.getElem?_cons_succ] at dx1x0
      clear hW
      go_simp; with_reducible rfl
    go_simp
    refine wpAnyL_take (T := fun _ => True) (i := 9) (v := ?vvfa9) rfl (by kernel_rfl) (by kernel_rfl) (by kernel_rfl) (fun _ _ _ h => h) (fun _ _ => Iff.rfl) (fun _ _ _ _ _ => trivial) (Closed.of_B (by kernel_rfl)) (Or.inl ⟨by kernel_rfl, ?hyfa9⟩) hBd ?restfa9
    case hyfa9 => (intro w _; go_simp; with_reducible rfl)
    go_simp
    refine wpAnyL_take (T := fun _ => True) (i := 10) (v := ?vvfa10) rfl (by kernel_rfl) (by kernel_rfl) (by kernel_rfl) (fun _ _ _ h => h) (fun _ _ => Iff.rfl) (fun _ _ _ _ _ => trivial) (Closed.of_B (by kernel_rfl)) (Or.inl ⟨by kernel_rfl, ?hyfa10⟩) hBd ?restfa10
    case hyfa10 => (intro w _; go_simp; with_reducible rfl)
    go_simp
    refine wpAnyL_rows (R := fun i _ _ W => match i with | 11 => W.heap[w.heap.size + 1 + 1]? = some (.cells #[.bool false, .slice a3 l3 c3] 41 (0, 0)) | 12 => W.heap[w.heap.size + 1 + 1 + 1]? = some (.cells #[.bool b1, .slice a4 l4 c4] 41 (0, 0)) | _ => True) (I := fun _ _ W => Bxs [(w.heap.size, (.cells #[.bool b1, .slice a1 lm c1] 41)), (w.heap.size + 1, (.cells #[.bool b1, .slice a2 ln c2] 41))] w W ∧ IBox 41 W (w.heap.size + 1 + 1) ∧ IBox 41 W (w.heap.size + 1 + 1 + 1) ∧ NatAt W (.slice a3 l3 c3) (m / n) ∧ NatAt W (.slice a4 l4 c4) (m % n)) [((11, none, []), []), ((12, none, []), [])] (by kernel_rfl) (by decide) (fun _ _ _ h => h.1) (fun _ => ⟨hBd, I3, I4, HQ.out, HR.out⟩) ?tabfa ?finfa
    case tabfa =>
      refine TabAll.cons rfl (by kernel_rfl) (fun L vs W hsz hcl hn hd hdn hI K hK => ?_) ?_
      · simp only [putsD, Act.put, List.setIfInBounds_toArray, List.set_cons_zero, List.set_cons_succ] at hK ⊢
        clear hd hdn
        obtain ⟨hB, i3, i4, q3, q4⟩ := hI
        obtain ⟨b0, a0, n0, c0, hb0⟩ := i3
        have g0 := box_cell hb0 0
        have g1 := box_cell hb0 1
        have f0 := box_frozen hb0 0
        have f1 := box_frozen hb0 1
        simp only [List.getElem?_toArray, List.getElem?_cons_zero, List.getElem?_cons_succ] at g0 g1
        have HS := Lib.hid (intStore hb0 false (.slice a3 l3 c3))
        have HB := Lib.hid hB
        have HI3 := Lib.hid i4
        have HQ := Lib.hid q3
        have HR := Lib.hid q4
        clear hB q3 q4 hb0 hcl hn hsz
        clear i4
        go_simp
        obtain ⟨s1, s2, s3, s4⟩ := HS.out
        refine hK _ undef _ (by rfl) (fun i u l hij hL h => ?_) ?_ ?_
        · match i, hij, hL, h with
          | 12, _, _, h => exact s2 _ _ (by omega) h
          | 11, hij, _, _ => exact absurd rfl hij
          | 0, _, _, _ | 1, _, _, _ | 2, _, _, _ | 3, _, _, _ | 4, _, _, _ | 5, _, _, _ | 6, _, _, _ | 7, _, _, _ | 8, _, _, _ | 9, _, _, _ | 10, _, _, _ | _ + 13, _, _, _ => trivial
        · exact s1
        · refine ⟨⟨s4 _ _ (by omega) HB.out.1, fun x hx => ?_⟩, ?_, ?_, s3 _ _ HQ.out, s3 _ _ HR.out⟩
          · have hx' := HB.out.2 x hx
            simp only [List.mem_cons, List.not_mem_nil, or_false] at hx
            rcases hx with rfl | rfl
            · exact s2 _ _ (by simp only; omega) hx'
            · exact s2 _ _ (by simp only; omega) hx'
          · exact ⟨_, _, _, _, s1⟩
          · obtain ⟨p0, p1, p2, p3, hp⟩ := HI3.out
            exact ⟨_, _, _, _, s2 _ _ (by omega) hp⟩
      refine TabAll.cons rfl (by kernel_rfl) (fun L vs W hsz hcl hn hd hdn hI K hK => ?_) ?_
      · simp only [putsD, Act.put, List.setIfInBounds_toArray, List.set_cons_zero, List.set_cons_succ] at hK ⊢
        clear hd hdn
        obtain ⟨hB, i3, i4, q3, q4⟩ := hI
        obtain ⟨b0, a0, n0, c0, hb0⟩ := i4
        have g0 := box_cell hb0 0
        have g1 := box_cell hb0 1
        have f0 := box_frozen hb0 0
        have f1 := box_frozen hb0 1
        simp only [List.getElem?_toArray, List.getElem?_cons_zero, List.getElem?_cons_succ] at g0 g1
        have HS := Lib.hid (intStore hb0 b1 (.slice a4 l4 c4))
        have HB := Lib.hid hB
        have HI3 := Lib.hid i3
        have HQ := Lib.hid q3
        have HR := Lib.hid q4
        clear hB q3 q4 hb0 hcl hn hsz
        clear i3
        go_simp
        obtain ⟨s1, s2, s3, s4⟩ := HS.out
        refine hK _ undef _ (by rfl) (fun i u l hij hL h => ?_) ?_ ?_
        · match i, hij, hL, h with
          | 11, _, _, h => exact s2 _ _ (by omega) h
          | 12, hij, _, _ => exact absurd rfl hij
          | 0, _, _, _ | 1, _, _, _ | 2, _, _, _ | 3, _, _, _ | 4, _, _, _ | 5, _, _, _ | 6, _, _, _ | 7, _, _, _ | 8, _, _, _ | 9, _, _, _ | 10, _, _, _ | _ + 13, _, _, _ => trivial
        · exact s1
        · refine ⟨⟨s4 _ _ (by omega) HB.out.1, fun x hx => ?_⟩, ?_, ?_, s3 _ _ HQ.out, s3 _ _ HR.out⟩
          · have hx' := HB.out.2 x hx
            simp only [List.mem_cons, List.not_mem_nil, or_false] at hx
            rcases hx with rfl | rfl
            · exact s2 _ _ (by simp only; omega) hx'
            · exact s2 _ _ (by simp only; omega) hx'
          · obtain ⟨p0, p1, p2, p3, hp⟩ := HI3.out
            exact ⟨_, _, _, _, s2 _ _ (by omega) hp⟩
          · exact ⟨_, _, _, _, s1⟩
      exact TabAll.nil
    case finfa =>
      intro vs W hd L hsz hall hI
      have r11 := hd.1
      have r12 := hd.2.1
      simp only [List.map_cons, List.map_nil, putsD, Act.put, List.setIfInBounds_toArray, List.set_cons_zero, List.set_cons_succ]
      generalize vs 11 = v11 at *
      generalize vs 12 = v12 at *
      clear hd hall hsz
      refine NoPanic.normal ?_
      obtain ⟨hB5, -, -, q3, q4⟩ := hI
      have HQ5 := Lib.hid q3
      have HR5 := Lib.hid q4
      have HB5 := Lib.hid hB5.1
      clear hB5 q3 q4 hB hBd HQ HR I3 I4
      have r11' : W.heap[w.heap.size + 1 + 1]? = some (.cells #[.bool false, .slice a3 l3 c3] 41 (0, 0)) := r11
      have r12' : W.heap[w.heap.size + 1 + 1 + 1]? = some (.cells #[.bool b1, .slice a4 l4 c4] 41 (0, 0)) := r12
      have t0 := box_cell r11' 0
      have t1 := box_cell r11' 1
      have t2 := box_cell r12' 0
      have t3 := box_cell r12' 1
      simp only [List.getElem?_toArray, List.getElem?_cons_zero, List.getElem?_cons_succ] at t0 t1 t2 t3
      clear r11 r12 r11' r12'
      go_wp2
      refine bodyPost_ret (v := .tuple #[.agg #[.bool false, .slice a3 l3 c3], .agg #[.bool b1, .slice a4 l4 c4]]) (by simp [results, Tryd.results52, go_sem, t0, t1, t2, t3]) rfl ?_
      exact ⟨_, _, rfl, ⟨_, _, m / n, rfl, HQ5.out, (HZ.out).1⟩, ⟨_, _, m % n, rfl, HR5.out, (HZ.out).2⟩, HB5.out⟩
  · have j0 : (b1 == b2) = false := by simpa using hbb
    by_cases hr0 : 0 < m % n
    · have HZ := Lib.hid (floor_rest b1 b2 hbb m n hn0 hr0)
      have hl : (0 : Int) < l4 := by have := HL4.out.2 hr0; omega
      clear hb1 hb2 HD HL4 hr0 hbb
      go_upto_region 3 with fail
      have hBd := hB.drew
      refine wp_region_noPanic ?_
      refine wp_region_L (S := fun _ W => Bxs [(w.heap.size, (.cells #[.bool b1, .slice a1 lm c1] 41)), (w.heap.size + 1, (.cells #[.bool b2, .slice a2 ln c2] 41))] w W) (by kernel_rfl) ?_
      refine wpAnyL_take (T := fun _ => True) (i := 0) (v := ?vvm0) rfl (by kernel_rfl) (by kernel_rfl) (by kernel_rfl) (fun _ _ _ h => h) (fun _ _ => Iff.rfl) (fun _ _ _ _ _ => trivial) (Closed.of_B (by kernel_rfl)) (Or.inl ⟨by kernel_rfl, ?hym0⟩) hBd ?restm0
      case hym0 => (intro w _; go_simp; with_reducible rfl)
      go_simp
      refine wpAnyL_take (T := fun _ => True) (i := 3) (v := ?vvm3) rfl (by kernel_rfl) (by kernel_rfl) (by kernel_rfl) (fun _ _ _ h => h) (fun _ _ => Iff.rfl) (fun _ _ _ _ _ => trivial) (Closed.of_B (by kernel_rfl)) (Or.inl ⟨by kernel_rfl, ?hym3⟩) hBd ?restm3
      case hym3 => (intro w _; go_simp; with_reducible rfl)
      go_simp
      refine wpAnyL_take (T := fun W => Bxs [(w.heap.size, (.cells #[.bool b1, .slice a1 lm c1] 41)), (w.heap.size + 1, (.cells #[.bool b2, .slice a2 ln c2] 41))] w W) (i := 4) (v := ?vvm4) rfl (by kernel_rfl) (by kernel_rfl) (by kernel_rfl) (fun _ _ _ h => h) (fun _ _ => Iff.rfl) (fun _ _ _ _ h => h) (Closed.of_B (by kernel_rfl)) (Or.inl ⟨by kernel_rfl, ?hym4⟩) hBd ?restm4
      case hym4 =>
        intro W hW
        have hx1 := hW.2 ((w.heap.size + 1, (.cells #[.bool b2, .slice a2 ln c2] 41)) : Nat × Obj) (by simp)
        have dx1x1 := box_cell hx1 1
        simp only [List.getElem?_toArray, List.getElem?_cons_zero, List.getElem?_cons_succ] at dx1x1
        clear hW
        go_simp; with_reducible rfl
      go_simp
      refine wpAnyL_take (T := fun _ => True) (i := 5) (v := ?vvm5) rfl (by kernel_rfl) (by kernel_rfl) (by kernel_rfl) (fun _ _ _ h => h) (fun _ _ => Iff.rfl) (fun _ _ _ _ _ => trivial) (Closed.of_B (by kernel_rfl)) (Or.inl ⟨by kernel_rfl, ?hym5⟩) hBd ?restm5
      case hym5 => (intro w _; go_simp; with_reducible rfl)
      go_simp
      refine wpAnyL_rows (R := fun i v _ W => match i with | 1 => NatAt W v 1 | 2 => NatAt W v (m / n + 1) | 6 => NatAt W v (n - m % n) | 7 => NatAt W v (m / n + 1) | 8 => NatAt W v (n - m % n) | _ => True) (I := fun _ _ W => Bxs [(w.heap.size, (.cells #[.bool b1, .slice a1 lm c1] 41)), (w.heap.size + 1, (.cells #[.bool b2, .slice a2 ln c2] 41))] w W ∧ IBox 41 W (w.heap.size + 1 + 1) ∧ IBox 41 W (w.heap.size + 1 + 1 + 1) ∧ Below w2.heap.size w2 W) [((1, some 27, []), []), ((2, some 28, [1]), [(1, some 27, [])]), ((6, some 32, []), []), ((7, some 6, [2]), [(2, some 28, [1])]), ((8, some 7, [6]), [(6, some 32, [])])] (by kernel_rfl) (by decide) (fun _ _ _ h => h.1) (fun _ => ⟨hBd, I3, I4, (Below.refl _ _).drew⟩) ?tabm ?finm
      case tabm =>
        refine TabAll.cons rfl (by kernel_rfl) (fun L vs W hsz hcl hn hd hdn hI K hK => ?_) ?_
        · simp only [putsD, Act.put, List.setIfInBounds_toArray, List.set_cons_zero, List.set_cons_succ] at hK ⊢
          clear hd hdn
          go_simp
          refine (Small_any 1 _ (by omega)).mono ?_
          rintro e W3 ⟨v', rfl, hv, hb3⟩
          refine hK _ v' _ (by rfl) (fun i u l hij hL h => ?_) hv ⟨hI.1.below hb3, hI.2.1.below hb3, hI.2.2.1.below hb3, ext_trans hI.2.2.2 hb3⟩
          · match i, hij, hL, h with
            | 1, _, _, h => exact NatAt.below h hb3
            | 2, _, _, h => exact NatAt.below h hb3
            | 6, _, _, h => exact NatAt.below h hb3
            | 7, _, _, h => exact NatAt.below h hb3
            | 8, _, _, h => exact NatAt.below h hb3
            | 0, _, _, _ | 3, _, _, _ | 4, _, _, _ | 5, _, _, _ | _ + 9, _, _, _ => trivial
        refine TabAll.cons rfl (by kernel_rfl) (fun L vs W hsz hcl hn hd hdn hI K hK => ?_) ?_
        · simp only [putsD, Act.put, List.setIfInBounds_toArray, List.set_cons_zero, List.set_cons_succ] at hK ⊢
          have r1 := hd.1
          generalize hv1 : vs 1 = v1 at *
          have HV1 := Lib.hid hv1
          clear hv1
          clear hd hdn
          have r1' : NatAt W v1 1 := r1
          go_simp
          refine (HP.out W _ hI.2.2.2 r1').mono ?_
          rintro e W3 ⟨v', rfl, hv, hb3⟩
          refine hK _ v' _ (by rfl) (fun i u l hij hL h => ?_) hv ⟨hI.1.below hb3, hI.2.1.below hb3, hI.2.2.1.below hb3, ext_trans hI.2.2.2 hb3⟩
          · match i, hij, hL, h with
            | 1, _, _, h => exact NatAt.below h hb3
            | 2, _, _, h => exact NatAt.below h hb3
            | 6, _, _, h => exact NatAt.below h hb3
            | 7, _, _, h => exact NatAt.below h hb3
            | 8, _, _, h => exact NatAt.below h hb3
            | 0, _, _, _ | 3, _, _, _ | 4, _, _, _ | 5, _, _, _ | _ + 9, _, _, _ => trivial
        refine TabAll.cons rfl (by kernel_rfl) (fun L vs W hsz hcl hn hd hdn hI K hK => ?_) ?_
        · simp only [putsD, Act.put, List.setIfInBounds_toArray, List.set_cons_zero, List.set_cons_succ] at hK ⊢
          clear hd hdn
          go_simp
          refine (HM.out W hI.2.2.2).mono ?_
          rintro e W3 ⟨v', rfl, hv, hb3⟩
          refine hK _ v' _ (by rfl) (fun i u l hij hL h => ?_) hv ⟨hI.1.below hb3, hI.2.1.below hb3, hI.2.2.1.below hb3, ext_trans hI.2.2.2 hb3⟩
          · match i, hij, hL, h with
            | 1, _, _, h => exact NatAt.below h hb3
            | 2, _, _, h => exact NatAt.below h hb3
            | 6, _, _, h => exact NatAt.below h hb3
            | 7, _, _, h => exact NatAt.below h hb3
            | 8, _, _, h => exact NatAt.below h hb3
            | 0, _, _, _ | 3, _, _, _ | 4, _, _, _ | 5, _, _, _ | _ + 9, _, _, _ => trivial
        refine TabAll.cons rfl (by kernel_rfl) (fun L vs W hsz hcl hn hd hdn hI K hK => ?_) ?_
        · simp only [putsD, Act.put, List.setIfInBounds_toArray, List.set_cons_zero, List.set_cons_succ] at hK ⊢
          have r2 := hd.1
          generalize hv2 : vs 2 = v2 at *
          have HV2 := Lib.hid hv2
          clear hv2
          clear hd hdn
          go_simp
          refine hK _ v2 _ (by rfl) (fun i u l hij hL h => h) ?_ hI
          exact (show NatAt W v2 (m / n + 1) from r2)
        refine TabAll.cons rfl (by kernel_rfl) (fun L vs W hsz hcl hn hd hdn hI K hK => ?_) ?_
        · simp only [putsD, Act.put, List.setIfInBounds_toArray, List.set_cons_zero, List.set_cons_succ] at hK ⊢
          have r6 := hd.1
          generalize hv6 : vs 6 = v6 at *
          have HV6 := Lib.hid hv6
          clear hv6
          clear hd hdn
          go_simp
          refine hK _ v6 _ (by rfl) (fun i u l hij hL h => h) ?_ hI
          exact (show NatAt W v6 (n - m % n) from r6)
        exact TabAll.nil
      case finm =>
        intro vs W hd L hsz hall hI
        have r1 := hd.1
        have r2 := hd.2.1
        have r6 := hd.2.2.1
        have r7 := hd.2.2.2.1
        have r8 := hd.2.2.2.2.1
        simp only [List.map_cons, List.map_nil, putsD, Act.put, List.setIfInBounds_toArray, List.set_cons_zero, List.set_cons_succ]
        generalize vs 1 = v1 at *
        generalize vs 2 = v2 at *
        generalize vs 6 = v6 at *
        generalize vs 7 = v7 at *
        generalize vs 8 = v8 at *
        clear hd hall hsz
        refine NoPanic.normal ?_
        obtain ⟨hB5, J3, J4, hb25⟩ := hI
        have HB5 := Lib.hid hB5
        have HJ3 := Lib.hid J3
        have HJ4 := Lib.hid J4
        clear hB5 J3 J4 hB hBd I3 I4 HQ HR
        have r7' : NatAt W v7 (m / n + 1) := r7
        have r8' : NatAt W v8 (n - m % n) := r8
        clear r1 r2 r6 r7 r8
        have HQ := Lib.hid r7'
        have HR := Lib.hid r8'
        obtain ⟨a3', c3', rfl⟩ := r7'.slice
        obtain ⟨a4', c4', rfl⟩ := r8'.slice
        clear r7' r8'
        generalize (dig (m / n + 1)).length = l3' at *
        generalize (dig (n - m % n)).length = l4' at *
        skip
        have hB := HB5.out
        have I3 := HJ3.out
        have I4 := HJ4.out
        go_upto_region 4 with fail
        have hBd := hB.drew
        refine wp_region_noPanic ?_
        refine wp_region_L (S := fun _ W => Bxs [(w.heap.size, (.cells #[.bool b1, .slice a1 lm c1] 41)), (w.heap.size + 1, (.cells #[.bool b2, .slice a2 ln c2] 41))] w W) (by kernel_rfl) ?_
        refine wpAnyL_take (T := fun _ => True) (i := 0) (v := ?vvf30) rfl (by kernel_rfl) (by kernel_rfl) (by kernel_rfl) (fun _ _ _ h => h) (fun _ _ => Iff.rfl) (fun _ _ _ _ _ => trivial) (Closed.of_B (by kernel_rfl)) (Or.inl ⟨by kernel_rfl, ?hyf30⟩) hBd ?restf30
        case hyf30 => (intro w _; go_simp; with_reducible rfl)
        go_simp
        refine wpAnyL_take (T := fun W => Bxs [(w.heap.size, (.cells #[.bool b1, .slice a1 lm c1] 41)), (w.heap.size + 1, (.cells #[.bool b2, .slice a2 ln c2] 41))] w W) (i := 1) (v := ?vvf31) rfl (by kernel_rfl) (by kernel_rfl) (by kernel_rfl) (fun _ _ _ h => h) (fun _ _ => Iff.rfl) (fun _ _ _ _ h => h) (Closed.of_B (by kernel_rfl)) (Or.inl ⟨by kernel_rfl, ?hyf31⟩) hBd ?restf31
        case hyf31 =>
          intro W hW
          have hx0 := hW.2 ((w.heap.size, (.cells #[.bool b1, .slice a1 lm c1] 41)) : Nat × Obj) (by simp)
          have dx0x0 := box_cell hx0 0
          simp only [List.getElem?_toArray, List.getElem?_cons_zero, List.getElem?_cons_succ] at dx0x0
          clear hW
          go_simp; with_reducible rfl
        go_simp
        refine wpAnyL_take (T := fun _ => True) (i := 2) (v := ?vvf32) rfl (by kernel_rfl) (by kernel_rfl) (by kernel_rfl) (fun _ _ _ h => h) (fun _ _ => Iff.rfl) (fun _ _ _ _ _ => trivial) (Closed.of_B (by kernel_rfl)) (Or.inl ⟨by kernel_rfl, ?hyf32⟩) hBd ?restf32
        case hyf32 => (intro w _; go_simp; with_reducible rfl)
        go_simp
        refine wpAnyL_take (T := fun W => Bxs [(w.heap.size, (.cells #[.bool b1, .slice a1 lm c1] 41)), (w.heap.size + 1, (.cells #[.bool b2, .slice a2 ln c2] 41))] w W) (i := 3) (v := ?vvf33) rfl (by kernel_rfl) (by kernel_rfl) (by kernel_rfl) (fun _ _ _ h => h) (fun _ _ => Iff.rfl) (fun _ _ _ _ h => h) (Closed.of_B (by kernel_rfl)) (Or.inl ⟨by kernel_rfl, ?hyf33⟩) hBd ?restf33
        case hyf33 =>
          intro W hW
          have hx1 := hW.2 ((w.heap.size + 1, (.cells #[.bool b2, .slice a2 ln c2] 41)) : Nat × Obj) (by simp)
          have dx1x0 := box_cell hx1 0
          simp only [List.getElem?_toArray, List.getElem?_cons_zero, List.getElem?_cons_succ] at dx1x0
          clear hW
          go_simp; with_reducible rfl
        go_simp
        refine wpAnyL_take (T := fun _ => True) (i := 4) (v := ?vvf34) rfl (by kernel_rfl) (by kernel_rfl) (by kernel_rfl) (fun _ _ _ h => h) (fun _ _ => Iff.rfl) (fun _ _ _ _ _ => trivial) (Closed.of_B (by kernel_rfl)) (Or.inl ⟨by kernel_rfl, ?hyf34⟩) hBd ?restf34
        case hyf34 => (intro w _; go_simp; with_reducible rfl)
        go_simp
        refine wpAnyL_take (T := fun _ => True) (i := 5) (v := ?vvf35) rfl (by kernel_rfl) (by kernel_rfl) (by kernel_rfl) (fun _ _ _ h => h) (fun _ _ => Iff.rfl) (fun _ _ _ _ _ => trivial) (Closed.of_B (by kernel_rfl)) (Or.inl ⟨by kernel_rfl, ?hyf35⟩) hBd ?restf35
        case hyf35 => (intro w _; go_simp; with_reducible rfl)
        go_simp
        refine wpAnyL_take (T := fun _ => True) (i := 6) (v := ?vvf36) rfl (by kernel_rfl) (by kernel_rfl) (by kernel_rfl) (fun _ _ _ h => h) (fun _ _ => Iff.rfl) (fun _ _ _ _ _ => trivial) (Closed.of_B (by kernel_rfl)) (Or.inl ⟨by kernel_rfl, ?hyf36⟩) hBd ?restf36
        case hyf36 => (intro w _; go_simp; with_reducible rfl)
        go_simp
        refine wpAnyL_take (T := fun _ => True) (i := 7) (v := ?vvf37) rfl (by kernel_rfl) (by kernel_rfl) (by kernel_rfl) (fun _ _ _ h => h) (fun _ _ => Iff.rfl) (fun _ _ _ _ _ => trivial) (Closed.of_B (by kernel_rfl)) (Or.inl ⟨by kernel_rfl, ?hyf37⟩) hBd ?restf37
        case hyf37 => (intro w _; go_simp; with_reducible rfl)
        go_simp
        refine wpAnyL_take (T := fun W => Bxs [(w.heap.size, (.cells #[.bool b1, .slice a1 lm c1] 41)), (w.heap.size + 1, (.cells #[.bool b2, .slice a2 ln c2] 41))] w W) (i := 8) (v := ?vvf38) rfl (by kernel_rfl) (by kernel_rfl) (by kernel_rfl) (fun _ _ _ h => h) (fun _ _ => Iff.rfl) (fun _ _ _ _ h => h) (Closed.of_B (by kernel_rfl)) (Or.inl ⟨by kernel_rfl, ?hyf38⟩) hBd ?restf38
        case hyf38 =>
          intro W hW
          have hx1 := hW.2 ((w.heap.size + 1, (.cells #[.bool b2, .slice a2 ln c2] 41)) : Nat × Obj) (by simp)
          have dx1x0 := box_cell hx1 0
          simp only [List.getElem?_toArray, List.getElem?_cons_zero, List.getElem?_cons_succ] at dx1x0
          clear hW
          go_simp; with_reducible rfl
        go_simp
        refine wpAnyL_take (T := fun _ => True) (i := 9) (v := ?vvf39) rfl (by kernel_rfl) (by kernel_rfl) (by kernel_rfl) (fun _ _ _ h => h) (fun _ _ => Iff.rfl) (fun _ _ _ _ _ => trivial) (Closed.of_B (by kernel_rfl)) (Or.inl ⟨by kernel_rfl, ?hyf39⟩) hBd ?restf39
        case hyf39 => (intro w _; go_simp; with_reducible rfl)
        go_simp
        refine wpAnyL_take (T := fun _ => True) (i := 10) (v := ?vvf310) rfl (by kernel_rfl) (by kernel_rfl) (by kernel_rfl) (fun _ _ _ h => h) (fun _ _ => Iff.rfl) (fun _ _ _ _ _ => trivial) (Closed.of_B (by kernel_rfl)) (Or.inl ⟨by kernel_rfl, ?hyf310⟩) hBd ?restf310
        case hyf310 => (intro w _; go_simp; with_reducible rfl)
        go_simp
        refine wpAnyL_rows (R := fun i _ _ W => match i with | 11 => W.heap[w.heap.size + 1 + 1]? = some (.cells #[.bool true, .slice a3' l3' c3'] 41 (0, 0)) | 12 => W.heap[w.heap.size + 1 + 1 + 1]? = some (.cells #[.bool b2, .slice a4' l4' c4'] 41 (0, 0)) | _ => True) (I := fun _ _ W => Bxs [(w.heap.size, (.cells #[.bool b1, .slice a1 lm c1] 41)), (w.heap.size + 1, (.cells #[.bool b2, .slice a2 ln c2] 41))] w W ∧ IBox 41 W (w.heap.size + 1 + 1) ∧ IBox 41 W (w.heap.size + 1 + 1 + 1) ∧ NatAt W (.slice a3' l3' c3') (m / n + 1) ∧ NatAt W (.slice a4' l4' c4') (n - m % n)) [((11, none, []), []), ((12, none, []), [])] (by kernel_rfl) (by decide) (fun _ _ _ h => h.1) (fun _ => ⟨hBd, I3, I4, HQ.out, HR.out⟩) ?tabf3 ?finf3
        case tabf3 =>
          refine TabAll.cons rfl (by kernel_rfl) (fun L vs W hsz hcl hn hd hdn hI K hK => ?_) ?_
          · simp only [putsD, Act.put, List.setIfInBounds_toArray, List.set_cons_zero, List.set_cons_succ] at hK ⊢
            clear hd hdn
            obtain ⟨hB, i3, i4, q3, q4⟩ := hI
            obtain ⟨b0, a0, n0, c0, hb0⟩ := i3
            have g0 := box_cell hb0 0
            have g1 := box_cell hb0 1
            have f0 := box_frozen hb0 0
            have f1 := box_frozen hb0 1
            simp only [List.getElem?_toArray, List.getElem?_cons_zero, List.getElem?_cons_succ] at g0 g1
            have HS := Lib.hid (intStore hb0 true (.slice a3' l3' c3'))
            have HB := Lib.hid hB
            have HI3 := Lib.hid i4
            have HQ := Lib.hid q3
            have HR := Lib.hid q4
            clear hB q3 q4 hb0 hcl hn hsz
            clear i4
            go_simp
            obtain ⟨s1, s2, s3, s4⟩ := HS.out
            refine hK _ undef _ (by rfl) (fun i u l hij hL h => ?_) ?_ ?_
            · match i, hij, hL, h with
              | 12, _, _, h => exact s2 _ _ (by omega) h
              | 11, hij, _, _ => exact absurd rfl hij
              | 0, _, _, _ | 1, _, _, _ | 2, _, _, _ | 3, _, _, _ | 4, _, _, _ | 5, _, _, _ | 6, _, _, _ | 7, _, _, _ | 8, _, _, _ | 9, _, _, _ | 10, _, _, _ | _ + 13, _, _, _ => trivial
            · exact s1
            · refine ⟨⟨s4 _ _ (by omega) HB.out.1, fun x hx => ?_⟩, ?_, ?_, s3 _ _ HQ.out, s3 _ _ HR.out⟩
              · have hx' := HB.out.2 x hx
                simp only [List.mem_cons, List.not_mem_nil, or_false] at hx
                rcases hx with rfl | rfl
                · exact s2 _ _ (by simp only; omega) hx'
                · exact s2 _ _ (by simp only; omega) hx'
              · exact ⟨_, _, _, _, s1⟩
              · obtain ⟨p0, p1, p2, p3, hp⟩ := HI3.out
                exact ⟨_, _, _, _, s2 _ _ (by omega) hp⟩
          refine TabAll.cons rfl (by kernel_rfl) (fun L vs W hsz hcl hn hd hdn hI K hK => ?_) ?_
          · simp only [putsD, Act.put, List.setIfInBounds_toArray, List.set_cons_zero, List.set_cons_succ] at hK ⊢
            clear hd hdn
            obtain ⟨hB, i3, i4, q3, q4⟩ := hI
            obtain ⟨b0, a0, n0, c0, hb0⟩ := i4
            have g0 := box_cell hb0 0
            have g1 := box_cell hb0 1
            have f0 := box_frozen hb0 0
            have f1 := box_frozen hb0 1
            simp only [List.getElem?_toArray, List.getElem?_cons_zero, List.getElem?_cons_succ] at g0 g1
            have HS := Lib.hid (intStore hb0 b2 (.slice a4' l4' c4'))
            have HB := Lib.hid hB
            have HI3 := Lib.hid i3
            have HQ := Lib.hid q3
            have HR := Lib.hid q4
            clear hB q3 q4 hb0 hcl hn hsz
            clear i3
            go_simp
            obtain ⟨s1, s2, s3, s4⟩ := HS.out
            refine hK _ undef _ (by rfl) (fun i u l hij hL h => ?_) ?_ ?_
            · match i, hij, hL, h with
              | 11, _, _, h => exact s2 _ _ (by omega) h
              | 12, hij, _, _ => exact absurd rfl hij
              | 0, _, _, _ | 1, _, _, _ | 2, _, _, _ | 3, _, _, _ | 4, _, _, _ | 5, _, _, _ | 6, _, _, _ | 7, _, _, _ | 8, _, _, _ | 9, _, _, _ | 10, _, _, _ | _ + 13, _, _, _ => trivial
            · exact s1
            · refine ⟨⟨s4 _ _ (by omega) HB.out.1, fun x hx => ?_⟩, ?_, ?_, s3 _ _ HQ.out, s3 _ _ HR.out⟩
              · have hx' := HB.out.2 x hx
                simp only [List.mem_cons, List.not_mem_nil, or_false] at hx
                rcases hx with rfl | rfl
                · exact s2 _ _ (by simp only; omega) hx'
                · exact s2 _ _ (by simp only; omega) hx'
              · obtain ⟨p0, p1, p2, p3, hp⟩ := HI3.out
                exact ⟨_, _, _, _, s2 _ _ (by omega) hp⟩
              · exact ⟨_, _, _, _, s1⟩
          exact TabAll.nil
        case finf3 =>
          intro vs W hd L hsz hall hI
          have r11 := hd.1
          have r12 := hd.2.1
          simp only [List.map_cons, List.map_nil, putsD, Act.put, List.setIfInBounds_toArray, List.set_cons_zero, List.set_cons_succ]
          generalize vs 11 = v11 at *
          generalize vs 12 = v12 at *
          clear hd hall hsz
          refine NoPanic.normal ?_
          obtain ⟨hB5, -, -, q3, q4⟩ := hI
          have HQ5 := Lib.hid q3
          have HR5 := Lib.hid q4
          have HB5 := Lib.hid hB5.1
          clear hB5 q3 q4 hB hBd HQ HR I3 I4
          have r11' : W.heap[w.heap.size + 1 + 1]? = some (.cells #[.bool true, .slice a3' l3' c3'] 41 (0, 0)) := r11
          have r12' : W.heap[w.heap.size + 1 + 1 + 1]? = some (.cells #[.bool b2, .slice a4' l4' c4'] 41 (0, 0)) := r12
          have t0 := box_cell r11' 0
          have t1 := box_cell r11' 1
          have t2 := box_cell r12' 0
          have t3 := box_cell r12' 1
          simp only [List.getElem?_toArray, List.getElem?_cons_zero, List.getElem?_cons_succ] at t0 t1 t2 t3
          clear r11 r12 r11' r12'
          go_wp2
          refine bodyPost_ret (v := .tuple #[.agg #[.bool true, .slice a3' l3' c3'], .agg #[.bool b2, .slice a4' l4' c4']]) (by simp [results, Tryd.results52, go_sem, t0, t1, t2, t3]) rfl ?_
          exact ⟨_, _, rfl, ⟨_, _, m / n + 1, rfl, HQ5.out, (HZ.out).1⟩, ⟨_, _, n - m % n, rfl, HR5.out, (HZ.out).2⟩, HB5.out⟩
    · have HZ := Lib.hid (floor_even b1 b2 hbb m n hn0 (by omega))
      obtain rfl : l4 = 0 := by have := HL4.out; omega
      clear hb1 hb2 HD HL4 hr0 HP HM hbb
      go_upto_region 4 with fail
      have hBd := hB.drew
      refine wp_region_noPanic ?_
      refine wp_region_L (S := fun _ W => Bxs [(w.heap.size, (.cells #[.bool b1, .slice a1 lm c1] 41)), (w.heap.size + 1, (.cells #[.bool b2, .slice a2 ln c2] 41))] w W) (by kernel_rfl) ?_
      refine wpAnyL_take (T := fun _ => True) (i := 0) (v := ?vvfb0) rfl (by kernel_rfl) (by kernel_rfl) (by kernel_rfl) (fun _ _ _ h => h) (fun _ _ => Iff.rfl) (fun _ _ _ _ _ => trivial) (Closed.of_B (by kernel_rfl)) (Or.inl ⟨by kernel_rfl, ?hyfb0⟩) hBd ?restfb0
      case hyfb0 => (intro w _; go_simp; with_reducible rfl)
      go_simp
      refine wpAnyL_take (T := fun W => Bxs [(w.heap.size, (.cells #[.bool b1, .slice a1 lm c1] 41)), (w.heap.size + 1, (.cells #[.bool b2, .slice a2 ln c2] 41))] w W) (i := 1) (v := ?vvfb1) rfl (by kernel_rfl) (by kernel_rfl) (by kernel_rfl) (fun _ _ _ h => h) (fun _ _ => Iff.rfl) (fun _ _ _ _ h => h) (Closed.of_B (by kernel_rfl)) (Or.inl ⟨by kernel_rfl, ?hyfb1⟩) hBd ?restfb1
      case hyfb1 =>
        intro W hW
        have hx0 := hW.2 ((w.heap.size, (.cells #[.bool b1, .slice a1 lm c1] 41)) : Nat × Obj) (by simp)
        have dx0x0 := box_cell hx0 0
        simp only [List.getElem?_toArray, List.getElem?_cons_zero, List.getElem?_cons_succ] at dx0x0
        clear hW
        go_simp; with_reducible rfl
      go_simp
      refine wpAnyL_take (T := fun _ => True) (i := 2) (v := ?vvfb2) rfl (by kernel_rfl) (by kernel_rfl) (by kernel_rfl) (fun _ _ _ h => h) (fun _ _ => Iff.rfl) (fun _ _ _ _ _ => trivial) (Closed.of_B (by kernel_rfl)) (Or.inl ⟨by kernel_rfl, ?hyfb2⟩) hBd ?restfb2
      case hyfb2 => (intro w _; go_simp; with_reducible rfl)
      go_simp
      refine wpAnyL_take (T := fun W => Bxs [(w.heap.size, (.cells #[.bool b1, .slice a1 lm c1] 41)), (w.heap.size + 1, (.cells #[.bool b2, .slice a2 ln c2] 41))] w W) (i := 3) (v := ?vvfb3) rfl (by kernel_rfl) (by kernel_rfl) (by kernel_rfl) (fun _ _ _ h => h) (fun _ _ => Iff.rfl) (fun _ _ _ _ h => h) (Closed.of_B (by kernel_rfl)) (Or.inl ⟨by kernel_rfl, ?hyfb3⟩) hBd ?restfb3
      case hyfb3 =>
        intro W hW
        have hx1 := hW.2 ((w.heap.size + 1, (.cells #[.bool b2, .slice a2 ln c2] 41)) : Nat × Obj) (by simp)
        have dx1x0 := box_cell hx1 0
        simp only [List.getElem?_toArray, List.getElem?_cons_zero, List.getElem?_cons_succ] at dx1x0
        clear hW
        go_simp; with_reducible rfl
      go_simp
      refine wpAnyL_take (T := fun _ => True) (i := 4) (v := ?vvfb4) rfl (by kernel_rfl) (by kernel_rfl) (by kernel_rfl) (fun _ _ _ h => h) (fun _ _ => Iff.rfl) (fun _ _ _ _ _ => trivial) (Closed.of_B (by kernel_rfl)) (Or.inl ⟨by kernel_rfl, ?hyfb4⟩) hBd ?restfb4
      case hyfb4 => (intro w _; go_simp; with_reducible rfl)
      go_simp
      refine wpAnyL_take (T := fun _ => True) (i := 5) (v := ?vvfb5) rfl (by kernel_rfl) (by kernel_rfl) (by kernel_rfl) (fun _ _ _ h => h) (fun _ _ => Iff.rfl) (fun _ _ _ _ _ => trivial) (Closed.of_B (by kernel_rfl)) (Or.inl ⟨by kernel_rfl, ?hyfb5⟩) hBd ?restfb5
      case hyfb5 => (intro w _; go_simp; with_reducible rfl)
      go_simp
      refine wpAnyL_take (T := fun _ => True) (i := 6) (v := ?vvfb6) rfl (by kernel_rfl) (by kernel_rfl) (by kernel_rfl) (fun _ _ _ h => h) (fun _ _ => Iff.rfl) (fun _ _ _ _ _ => trivial) (Closed.of_B (by kernel_rfl)) (Or.inl ⟨by kernel_rfl, ?hyfb6⟩) hBd ?restfb6
      case hyfb6 => (intro w _; go_simp; with_reducible rfl)
      go_simp
      refine wpAnyL_take (T := fun _ => True) (i := 7) (v := ?vvfb7) rfl (by kernel_rfl) (by kernel_rfl) (by kernel_rfl) (fun _ _ _ h => h) (fun _ _ => Iff.rfl) (fun _ _ _ _ _ => trivial) (Closed.of_B (by kernel_rfl)) (Or.inl ⟨by kernel_rfl, ?hyfb7⟩) hBd ?restfb7
      case hyfb7 => (intro w _; go_simp; with_reducible rfl)
      go_simp
      refine wpAnyL_take (T := fun W => Bxs [(w.heap.size, (.cells #[.bool b1, .slice a1 lm c1] 41)), (w.heap.size + 1, (.cells #[.bool b2, .slice a2 ln c2] 41))] w W) (i := 8) (v := ?vvfb8) rfl (by kernel_rfl) (by kernel_rfl) (by kernel_rfl) (fun _ _ _ h => h) (fun _ _ => Iff.rfl) (fun _ _ _ _ h => h) (Closed.of_B (by kernel_rfl)) (Or.inl ⟨by kernel_rfl, ?hyfb8⟩) hBd ?restfb8
      case hyfb8 =>
        intro W hW
        have hx1 := hW.2 ((w.heap.size + 1, (.cells #[.bool b2, .slice a2 ln c2] 41)) : Nat × Obj) (by simp)
        have dx1x0 := box_cell hx1 0
        simp only [List.getElem?_toArray, List.getElem?_cons_zero, List.getElem?_cons_succ] at dx1x0
        clear hW
        go_simp; with_reducible rfl
      go_simp
      refine wpAnyL_take (T := fun _ => True) (i := 9) (v := ?vvfb9) rfl (by kernel_rfl) (by kernel_rfl) (by kernel_rfl) (fun _ _ _ h => h) (fun _ _ => Iff.rfl) (fun _ _ _ _ _ => trivial) (Closed.of_B (by kernel_rfl)) (Or.inl ⟨by kernel_rfl, ?hyfb9⟩) hBd ?restfb9
      case hyfb9 => (intro w _; go_simp; with_reducible rfl)
      go_simp
      refine wpAnyL_take (T := fun _ => True) (i := 10) (v := ?vvfb10) rfl (by kernel_rfl) (by kernel_rfl) (by kernel_rfl) (fun _ _ _ h => h) (fun _ _ => Iff.rfl) (fun _ _ _ _ _ => trivial) (Closed.of_B (by kernel_rfl)) (Or.inl ⟨by kernel_rfl, ?hyfb10⟩) hBd ?restfb10
      case hyfb10 => (intro w _; go_simp; with_reducible rfl)
      go_simp
      refine wpAnyL_rows (R := fun i _ _ W => match i with | 11 => W.heap[w.heap.size + 1 + 1]? = some (.cells #[.bool true, .slice a3 l3 c3] 41 (0, 0)) | 12 => W.heap[w.heap.size + 1 + 1 + 1]? = some (.cells #[.bool b2, .slice a4 0 c4] 41 (0, 0)) | _ => True) (I := fun _ _ W => Bxs [(w.heap.size, (.cells #[.bool b1, .slice a1 lm c1] 41)), (w.heap.size + 1, (.cells #[.bool b2, .slice a2 ln c2] 41))] w W ∧ IBox 41 W (w.heap.size + 1 + 1) ∧ IBox 41 W (w.heap.size + 1 + 1 + 1) ∧ NatAt W (.slice a3 l3 c3) (m / n) ∧ NatAt W (.slice a4 0 c4) (m % n)) [((11, none, []), []), ((12, none, []), [])] (by kernel_rfl) (by decide) (fun _ _ _ h => h.1) (fun _ => ⟨hBd, I3, I4, HQ.out, HR.out⟩) ?tabfb ?finfb
      case tabfb =>
        refine TabAll.cons rfl (by kernel_rfl) (fun L vs W hsz hcl hn hd hdn hI K hK => ?_) ?_
        · simp only [putsD, Act.put, List.setIfInBounds_toArray, List.set_cons_zero, List.set_cons_succ] at hK ⊢
          clear hd hdn
          obtain ⟨hB, i3, i4, q3, q4⟩ := hI
          obtain ⟨b0, a0, n0, c0, hb0⟩ := i3
          have g0 := box_cell hb0 0
          have g1 := box_cell hb0 1
          have f0 := box_frozen hb0 0
          have f1 := box_frozen hb0 1
          simp only [List.getElem?_toArray, List.getElem?_cons_zero, List.getElem?_cons_succ] at g0 g1
          have HS := Lib.hid (intStore hb0 true (.slice a3 l3 c3))
          have HB := Lib.hid hB
          have HI3 := Lib.hid i4
          have HQ := Lib.hid q3
          have HR := Lib.hid q4
          clear hB q3 q4 hb0 hcl hn hsz
          clear i4
          go_simp
          obtain ⟨s1, s2, s3, s4⟩ := HS.out
          refine hK _ undef _ (by rfl) (fun i u l hij hL h => ?_) ?_ ?_
          · match i, hij, hL, h with
            | 12, _, _, h => exact s2 _ _ (by omega) h
            | 11, hij, _, _ => exact absurd rfl hij
            | 0, _, _, _ | 1, _, _, _ | 2, _, _, _ | 3, _, _, _ | 4, _, _, _ | 5, _, _, _ | 6, _, _, _ | 7, _, _, _ | 8, _, _, _ | 9, _, _, _ | 10, _, _, _ | _ + 13, _, _, _ => trivial
          · exact s1
          · refine ⟨⟨s4 _ _ (by omega) HB.out.1, fun x hx => ?_⟩, ?_, ?_, s3 _ _ HQ.out, s3 _ _ HR.out⟩
            · have hx' := HB.out.2 x hx
              simp only [List.mem_cons, List.not_mem_nil, or_false] at hx
              rcases hx with rfl | rfl
              · exact s2 _ _ (by simp only; omega) hx'
              · exact s2 _ _ (by simp only; omega) hx'
            · exact ⟨_, _, _, _, s1⟩
            · obtain ⟨p0, p1, p2, p3, hp⟩ := HI3.out
              exact ⟨_, _, _, _, s2 _ _ (by omega) hp⟩
        refine TabAll.cons rfl (by kernel_rfl) (fun L vs W hsz hcl hn hd hdn hI K hK => ?_) ?_
        · simp only [putsD, Act.put, List.setIfInBounds_toArray, List.set_cons_zero, List.set_cons_succ] at hK ⊢
          clear hd hdn
          obtain ⟨hB, i3, i4, q3, q4⟩ := hI
          obtain ⟨b0, a0, n0, c0, hb0⟩ := i4
          have g0 := box_cell hb0 0
          have g1 := box_cell hb0 1
          have f0 := box_frozen hb0 0
          have f1 := box_frozen hb0 1
          simp only [List.getElem?_toArray, List.getElem?_cons_zero, List.getElem?_cons_succ] at g0 g1
          have HS := Lib.hid (intStore hb0 b2 (.slice a4 0 c4))
          have HB := Lib.hid hB
          have HI3 := Lib.hid i3
          have HQ := Lib.hid q3
          have HR := Lib.hid q4
          clear hB q3 q4 hb0 hcl hn hsz
          clear i3
          go_simp
          obtain ⟨s1, s2, s3, s4⟩ := HS.out
          refine hK _ undef _ (by rfl) (fun i u l hij hL h => ?_) ?_ ?_
          · match i, hij, hL, h with
            | 11, _, _, h => exact s2 _ _ (by omega) h
            | 12, hij, _, _ => exact absurd rfl hij
            | 0, _, _, _ | 1, _, _, _ | 2, _, _, _ | 3, _, _, _ | 4, _, _, _ | 5, _, _, _ | 6, _, _, _ | 7, _, _, _ | 8, _, _, _ | 9, _, _, _ | 10, _, _, _ | _ + 13, _, _, _ => trivial
          · exact s1
          · refine ⟨⟨s4 _ _ (by omega) HB.out.1, fun x hx => ?_⟩, ?_, ?_, s3 _ _ HQ.out, s3 _ _ HR.out⟩
            · have hx' := HB.out.2 x hx
              simp only [List.mem_cons, List.not_mem_nil, or_false] at hx
              rcases hx with rfl | rfl
              · exact s2 _ _ (by simp only; omega) hx'
              · exact s2 _ _ (by simp only; omega) hx'
            · obtain ⟨p0, p1, p2, p3, hp⟩ := HI3.out
              exact ⟨_, _, _, _, s2 _ _ (by omega) hp⟩
            · exact ⟨_, _, _, _, s1⟩
        exact TabAll.nil
      case finfb =>
        intro vs W hd L hsz hall hI
        have r11 := hd.1
        have r12 := hd.2.1
        simp only [List.map_cons, List.map_nil, putsD, Act.put, List.setIfInBounds_toArray, List.set_cons_zero, List.set_cons_succ]
        generalize vs 11 = v11 at *
        generalize vs 12 = v12 at *
        clear hd hall hsz
        refine NoPanic.normal ?_
        obtain ⟨hB5, -, -, q3, q4⟩ := hI
        have HQ5 := Lib.hid q3
        have HR5 := Lib.hid q4
        have HB5 := Lib.hid hB5.1
        clear hB5 q3 q4 hB hBd HQ HR I3 I4
        have r11' : W.heap[w.heap.size + 1 + 1]? = some (.cells #[.bool true, .slice a3 l3 c3] 41 (0, 0)) := r11
        have r12' : W.heap[w.heap.size + 1 + 1 + 1]? = some (.cells #[.bool b2, .slice a4 0 c4] 41 (0, 0)) := r12
        have t0 := box_cell r11' 0
        have t1 := box_cell r11' 1
        have t2 := box_cell r12' 0
        have t3 := box_cell r12' 1
        simp only [List.getElem?_toArray, List.getElem?_cons_zero, List.getElem?_cons_succ] at t0 t1 t2 t3
        clear r11 r12 r11' r12'
        go_wp2
        refine bodyPost_ret (v := .tuple #[.agg #[.bool true, .slice a3 l3 c3], .agg #[.bool b2, .slice a4 0 c4]]) (by simp [results, Tryd.results52, go_sem, t0, t1, t2, t3]) rfl ?_
        exact ⟨_, _, rfl, ⟨_, _, m / n, rfl, HQ5.out, (HZ.out).1⟩, ⟨_, _, m % n, rfl, HR5.out, (HZ.out).2⟩, HB5.out⟩
end Go.Proofs.YtpmadgmjkljbgaaDoor
