/- Part 4 of the proof. -/
import Derived.Test.YtpmadgmjkljbgaaDoorM3

/- Walk: Ratio.Times (brindlewoodref3). -/
namespace Go.Proofs.YtpmadgmjkljbgaaDoor
open Go.RowKit

theorem dig_mul {a b k l : Nat} (ha : (dig a).length ≤ k) (hb : (dig b).length ≤ l) : (dig (a * b)).length ≤ k + l := by
  refine dig_length_le ?_
  have h1 := dig_lt a
  have h2 := dig_lt b
  have h3 : 65536 ^ (dig a).length ≤ 65536 ^ k := Nat.pow_le_pow_right (by omega) ha
  have h4 : 65536 ^ (dig b).length ≤ 65536 ^ l := Nat.pow_le_pow_right (by omega) hb
  rw [Nat.pow_add]
  exact Nat.mul_lt_mul_of_lt_of_le (Nat.lt_of_lt_of_le h1 h3) (Nat.le_of_lt (Nat.lt_of_lt_of_le h2 h4)) (Nat.pow_pos (by omega))

set_option maxRecDepth 100000 in
set_option maxHeartbeats 2000000 in
theorem RatTimes_any (xv yv : Value) (z1 z2 : Int) (d1 d2 : Nat) (w : World) (hx : RatAt w xv z1 d1) (hy : RatAt w yv z2 d2) (hd1 : 0 < d1) (hd2 : 0 < d2) (nz1 : (dig z1.natAbs).length ≤ 50000) (nz2 : (dig z2.natAbs).length ≤ 50000) (nd1 : (dig d1).length ≤ 50000) (nd2 : (dig d2).length ≤ 50000) :
    Calls Tryd.prog 24 #[xv, yv] w fun e w' => ∃ v', e = .returned v' ∧ RatAt w' v' (lowZ (z1 * z2) (d1 * d2)) (lowD (z1 * z2) (d1 * d2)) ∧ Below w.heap.size w w' := by
  obtain ⟨b1, v1, u1, m1, rfl, hm1, hn1, rfl⟩ := hx
  obtain ⟨b2, v2, u2, m2, rfl, hm2, hn2, rfl⟩ := hy
  have HN1 := Lib.hid (show (dig (ZI b1 m1 * ZI b2 m2).natAbs).length ≤ 100000 by rw [Int.natAbs_mul]; exact dig_mul nz1 nz2)
  have HN2 := Lib.hid (show (dig (d1 * d2)).length ≤ 100000 from dig_mul nd1 nd2)
  have HT1 := Lib.hid (fun W (h : Below w.heap.size w W) => IntTimes_any _ _ (ZI b1 m1) (ZI b2 m2) W ⟨b1, v1, m1, rfl, hm1.below h, rfl⟩ ⟨b2, v2, m2, rfl, hm2.below h, rfl⟩ (by omega) (by omega))
  have HT2 := Lib.hid (fun W (h : Below w.heap.size w W) => Times_any _ _ d1 d2 W (hn1.below h) (hn2.below h) (by omega) (by omega))
  obtain ⟨a1, c1, rfl⟩ := hm1.slice
  obtain ⟨a2, c2, rfl⟩ := hm2.slice
  obtain ⟨p1, r1, rfl⟩ := hn1.slice
  obtain ⟨p2, r2, rfl⟩ := hn2.slice
  clear hm1 hm2 hn1 hn2 nz1 nz2 nd1 nd2
  generalize (dig m1).length = l1 at *
  generalize (dig m2).length = l2 at *
  generalize (dig d1).length = q1 at *
  generalize (dig d2).length = q2 at *
  have hal := alloc3 w (.cells #[.bool b1, .slice a1 l1 c1, .slice p1 q1 r1] 43) (.cells #[.bool b2, .slice a2 l2 c2, .slice p2 q2 r2] 43) (.cells #[.bool false, .slice none 0 0, .slice none 0 0] 43)
  go_enter Tryd.func24, Tryd.ntmps24
  go_upto_region 1 with fail
  generalize (((w.alloc (.cells #[.bool b1, .slice a1 l1 c1, .slice p1 q1 r1] 43)).alloc (.cells #[.bool b2, .slice a2 l2 c2, .slice p2 q2 r2] 43)).alloc (.cells #[.bool false, .slice none 0 0, .slice none 0 0] 43)) = w1 at *
  obtain ⟨hb1, h1, h2, h3⟩ := hal
  have hcs : ∀ W : World, W.heap[w.heap.size]? = some (.cells #[.bool b1, .slice a1 l1 c1, .slice p1 q1 r1] 43) → W.heap[w.heap.size + 1]? = some (.cells #[.bool b2, .slice a2 l2 c2, .slice p2 q2 r2] 43) → Cs [(⟨w.heap.size, 0, none⟩, .bool b1), (⟨w.heap.size, 1, none⟩, .slice a1 l1 c1), (⟨w.heap.size, 2, none⟩, .slice p1 q1 r1), (⟨w.heap.size + 1, 0, none⟩, .bool b2), (⟨w.heap.size + 1, 1, none⟩, .slice a2 l2 c2), (⟨w.heap.size + 1, 2, none⟩, .slice p2 q2 r2)] W := by
    intro W k1 k2 x hx
    have e0 := box_cell k1 0
    have e1 := box_cell k1 1
    have e2 := box_cell k1 2
    have e3 := box_cell k2 0
    have e4 := box_cell k2 1
    have e5 := box_cell k2 2
    simp only [List.getElem?_toArray, List.getElem?_cons_zero, List.getElem?_cons_succ] at e0 e1 e2 e3 e4 e5
    simp only [List.mem_cons, List.not_mem_nil, or_false] at hx
    rcases hx with rfl | rfl | rfl | rfl | rfl | rfl
    · exact e0
    · exact e1
    · exact e2
    · exact e3
    · exact e4
    · exact e5
  have HCS := Lib.hid hcs
  clear hcs
  have hbd := hb1.drew
  have hle : w.heap.size ≤ w.heap.size + 1 + 1 := by omega
  refine wp_region_noPanic ?_
  refine wp_region_L (S := fun _ W => Cs [(⟨w.heap.size, 0, none⟩, .bool b1), (⟨w.heap.size, 1, none⟩, .slice a1 l1 c1), (⟨w.heap.size, 2, none⟩, .slice p1 q1 r1), (⟨w.heap.size + 1, 0, none⟩, .bool b2), (⟨w.heap.size + 1, 1, none⟩, .slice a2 l2 c2), (⟨w.heap.size + 1, 2, none⟩, .slice p2 q2 r2)] W) (by kernel_rfl) ?_
  refine wpAnyL_take (T := fun _ => True) (i := 0) (v := ?vvra0) rfl (by kernel_rfl) (by kernel_rfl) (by kernel_rfl) (fun _ _ _ h => h) (fun _ _ => Iff.rfl) (fun _ _ _ _ _ => trivial) (Closed.of_B (by kernel_rfl)) (Or.inl ⟨by kernel_rfl, ?hyra0⟩) (HCS.out _ h1 h2) ?restra0
  case hyra0 => (intro w _; go_simp; with_reducible rfl)
  go_simp
  refine wpAnyL_take (T := fun W => Cs [(⟨w.heap.size, 0, none⟩, .bool b1), (⟨w.heap.size, 1, none⟩, .slice a1 l1 c1), (⟨w.heap.size, 2, none⟩, .slice p1 q1 r1), (⟨w.heap.size + 1, 0, none⟩, .bool b2), (⟨w.heap.size + 1, 1, none⟩, .slice a2 l2 c2), (⟨w.heap.size + 1, 2, none⟩, .slice p2 q2 r2)] W) (i := 1) (v := ?vvra1) rfl (by kernel_rfl) (by kernel_rfl) (by kernel_rfl) (fun _ _ _ h => h) (fun _ _ => Iff.rfl) (fun _ _ _ _ h => h) (Closed.of_B (by kernel_rfl)) (Or.inl ⟨by kernel_rfl, ?hyra1⟩) (HCS.out _ h1 h2) ?restra1
  case hyra1 => (intro W hW; simp only [Cs, List.forall_mem_cons] at hW; obtain ⟨m0, m1, m2, m3, m4, m5, -⟩ := hW; go_simp; with_reducible rfl)
  go_simp
  refine wpAnyL_take (T := fun _ => True) (i := 2) (v := ?vvra2) rfl (by kernel_rfl) (by kernel_rfl) (by kernel_rfl) (fun _ _ _ h => h) (fun _ _ => Iff.rfl) (fun _ _ _ _ _ => trivial) (Closed.of_B (by kernel_rfl)) (Or.inl ⟨by kernel_rfl, ?hyra2⟩) (HCS.out _ h1 h2) ?restra2
  case hyra2 => (intro w _; go_simp; with_reducible rfl)
  go_simp
  refine wpAnyL_take (T := fun W => Cs [(⟨w.heap.size, 0, none⟩, .bool b1), (⟨w.heap.size, 1, none⟩, .slice a1 l1 c1), (⟨w.heap.size, 2, none⟩, .slice p1 q1 r1), (⟨w.heap.size + 1, 0, none⟩, .bool b2), (⟨w.heap.size + 1, 1, none⟩, .slice a2 l2 c2), (⟨w.heap.size + 1, 2, none⟩, .slice p2 q2 r2)] W) (i := 3) (v := ?vvra3) rfl (by kernel_rfl) (by kernel_rfl) (by kernel_rfl) (fun _ _ _ h => h) (fun _ _ => Iff.rfl) (fun _ _ _ _ h => h) (Closed.of_B (by kernel_rfl)) (Or.inl ⟨by kernel_rfl, ?hyra3⟩) (HCS.out _ h1 h2) ?restra3
  case hyra3 => (intro W hW; simp only [Cs, List.forall_mem_cons] at hW; obtain ⟨m0, m1, m2, m3, m4, m5, -⟩ := hW; go_simp; with_reducible rfl)
  go_simp
  refine wpAnyL_take (T := fun _ => True) (i := 5) (v := ?vvra5) rfl (by kernel_rfl) (by kernel_rfl) (by kernel_rfl) (fun _ _ _ h => h) (fun _ _ => Iff.rfl) (fun _ _ _ _ _ => trivial) (Closed.of_B (by kernel_rfl)) (Or.inl ⟨by kernel_rfl, ?hyra5⟩) (HCS.out _ h1 h2) ?restra5
  case hyra5 => (intro w _; go_simp; with_reducible rfl)
  go_simp
  refine wpAnyL_take (T := fun W => Cs [(⟨w.heap.size, 0, none⟩, .bool b1), (⟨w.heap.size, 1, none⟩, .slice a1 l1 c1), (⟨w.heap.size, 2, none⟩, .slice p1 q1 r1), (⟨w.heap.size + 1, 0, none⟩, .bool b2), (⟨w.heap.size + 1, 1, none⟩, .slice a2 l2 c2), (⟨w.heap.size + 1, 2, none⟩, .slice p2 q2 r2)] W) (i := 6) (v := ?vvra6) rfl (by kernel_rfl) (by kernel_rfl) (by kernel_rfl) (fun _ _ _ h => h) (fun _ _ => Iff.rfl) (fun _ _ _ _ h => h) (Closed.of_B (by kernel_rfl)) (Or.inl ⟨by kernel_rfl, ?hyra6⟩) (HCS.out _ h1 h2) ?restra6
  case hyra6 => (intro W hW; simp only [Cs, List.forall_mem_cons] at hW; obtain ⟨m0, m1, m2, m3, m4, m5, -⟩ := hW; go_simp; with_reducible rfl)
  go_simp
  refine wpAnyL_take (T := fun _ => True) (i := 7) (v := ?vvra7) rfl (by kernel_rfl) (by kernel_rfl) (by kernel_rfl) (fun _ _ _ h => h) (fun _ _ => Iff.rfl) (fun _ _ _ _ _ => trivial) (Closed.of_B (by kernel_rfl)) (Or.inl ⟨by kernel_rfl, ?hyra7⟩) (HCS.out _ h1 h2) ?restra7
  case hyra7 => (intro w _; go_simp; with_reducible rfl)
  go_simp
  refine wpAnyL_take (T := fun W => Cs [(⟨w.heap.size, 0, none⟩, .bool b1), (⟨w.heap.size, 1, none⟩, .slice a1 l1 c1), (⟨w.heap.size, 2, none⟩, .slice p1 q1 r1), (⟨w.heap.size + 1, 0, none⟩, .bool b2), (⟨w.heap.size + 1, 1, none⟩, .slice a2 l2 c2), (⟨w.heap.size + 1, 2, none⟩, .slice p2 q2 r2)] W) (i := 8) (v := ?vvra8) rfl (by kernel_rfl) (by kernel_rfl) (by kernel_rfl) (fun _ _ _ h => h) (fun _ _ => Iff.rfl) (fun _ _ _ _ h => h) (Closed.of_B (by kernel_rfl)) (Or.inl ⟨by kernel_rfl, ?hyra8⟩) (HCS.out _ h1 h2) ?restra8
  case hyra8 => (intro W hW; simp only [Cs, List.forall_mem_cons] at hW; obtain ⟨m0, m1, m2, m3, m4, m5, -⟩ := hW; go_simp; with_reducible rfl)
  go_simp
  refine wpAnyL_ready (rs := [4]) (by kernel_rfl) (by simp) ?_
  refine AllL.cons rfl (by kernel_rfl) (fun K hK => ?_) AllL.nil
  go_simp
  refine (HT1.out w1.drew hbd).mono ?_
  rintro e w2 ⟨v', rfl, hI, hb2⟩
  replace h1 := (hb2.block _ (box_lt h1)).trans h1
  replace h2 := (hb2.block _ (box_lt h2)).trans h2
  replace h3 := (hb2.block _ (box_lt h3)).trans h3
  refine hK _ _ ⟨(HCS.out _ h1 h2), ?_⟩
  clear hK K
  have hb12 := ext_trans hbd hb2
  obtain ⟨b3, i3, k3, rfl, hk3, hz3⟩ := hI
  have HK3 := Lib.hid hk3
  have HZ3 := Lib.hid hz3
  obtain ⟨a3, c3, rfl⟩ := hk3.slice
  clear hk3 hz3 hb2
  refine wpAnyL_ready (rs := [9]) (by kernel_rfl) (by simp) ?_
  refine AllL.cons rfl (by kernel_rfl) (fun K hK => ?_) AllL.nil
  go_simp
  refine (HT2.out w2 hb12).mono ?_
  rintro e w3 ⟨v'', rfl, hD, hb3⟩
  replace h1 := (hb3.block _ (box_lt h1)).trans h1
  replace h2 := (hb3.block _ (box_lt h2)).trans h2
  replace h3 := (hb3.block _ (box_lt h3)).trans h3
  refine hK _ _ ⟨(HCS.out _ h1 h2), ?_⟩
  clear hK K
  have hb13 := ext_trans hb12 hb3
  have HDD := Lib.hid hD
  obtain ⟨a4, c4, rfl⟩ := hD.slice
  have hL := RatLowest_any _ (ZI b1 m1 * ZI b2 m2) (d1 * d2) w3 ⟨b3, _, _, k3, rfl, HK3.out.below hb3, HDD.out, HZ3.out⟩ (Nat.mul_pos hd1 hd2) HN1.out HN2.out
  have HL := Lib.hid hL
  clear hD hb3 hb12 hL
  generalize (dig k3).length = l3 at *
  generalize (dig (d1 * d2)).length = l4 at *
  refine wpAnyL_take (T := fun _ => True) (i := 10) (v := ?vvraq10) rfl (by kernel_rfl) (by kernel_rfl) (by kernel_rfl) (fun _ _ _ h => h) (fun _ _ => Iff.rfl) (fun _ _ _ _ _ => trivial) (Closed.of_B (by kernel_rfl)) (Or.inl ⟨by kernel_rfl, ?hyraq10⟩) (HCS.out _ h1 h2) ?restraq10
  case hyraq10 => (intro w _; go_simp; with_reducible rfl)
  go_simp
  refine wpAnyL_ready (rs := [11]) (by kernel_rfl) (by simp) ?_
  refine AllL.cons rfl (by kernel_rfl) (fun K hK => ?_) AllL.nil
  go_simp
  refine HL.out.mono ?_
  rintro e w4 ⟨v3, rfl, hR, hb4⟩
  replace h1 := (hb4.block _ (box_lt h1)).trans h1
  replace h2 := (hb4.block _ (box_lt h2)).trans h2
  replace h3 := (hb4.block _ (box_lt h3)).trans h3
  refine hK _ _ ⟨(HCS.out _ h1 h2), ?_⟩
  clear hK K
  have hb := ext_trans hb13 hb4
  obtain ⟨b5, i5, j5, n5, rfl, hn5, hm5, hz5⟩ := hR
  obtain ⟨a5, c5, rfl⟩ := hn5.slice
  obtain ⟨a6, c6, rfl⟩ := hm5.slice
  generalize (dig n5).length = l5 at *
  generalize (dig (lowD (ZI b1 m1 * ZI b2 m2) (d1 * d2))).length = l6 at *
  have g0 := box_cell h3 0
  have g1 := box_cell h3 1
  have g2 := box_cell h3 2
  have f0 := box_frozen h3 0
  have f1 := box_frozen h3 1
  have f2 := box_frozen h3 2
  simp only [List.getElem?_toArray, List.getElem?_cons_zero, List.getElem?_cons_succ] at g0 g1 g2
  have F1 := natAt_set3 h3 hn5 b5 a5 l5 c5 (.slice a6 l6 c6)
  have F2 := natAt_set3 h3 hm5 b5 a5 l5 c5 (.slice a6 l6 c6)
  have hset := ratBox_set h3 (.bool b5) (.slice a5 l5 c5) (.slice a6 l6 c6)
  have k1 := boxes_keep3 h1 (show w.heap.size ≠ w.heap.size + 1 + 1 by omega) (.bool b5) (.slice a5 l5 c5) (.slice a6 l6 c6)
  have k2 := boxes_keep3 h2 (show w.heap.size + 1 ≠ w.heap.size + 1 + 1 by omega) (.bool b5) (.slice a5 l5 c5) (.slice a6 l6 c6)
  have HBL := Lib.hid (((hb.setCell (p := ⟨w.heap.size + 1 + 1, 0, none⟩) hle (.bool b5)).setCell (p := ⟨w.heap.size + 1 + 1, 1, none⟩) hle (.slice a5 l5 c5)).setCell (p := ⟨w.heap.size + 1 + 1, 2, none⟩) hle (.slice a6 l6 c6))
  have t0 := box_cell hset 0
  have t1 := box_cell hset 1
  have t2 := box_cell hset 2
  simp only [List.getElem?_toArray, List.getElem?_cons_zero, List.getElem?_cons_succ] at t0 t1 t2
  have HQ := Lib.hid (show RatAt _ (.agg #[.bool b5, .slice a5 l5 c5, .slice a6 l6 c6]) (lowZ (ZI b1 m1 * ZI b2 m2) (d1 * d2)) (lowD (ZI b1 m1 * ZI b2 m2) (d1 * d2)) from ⟨_, _, _, n5, rfl, F1, F2, hz5⟩)
  clear F1 F2 hn5 hm5 hz5
  refine wpAnyL_ready (rs := [12]) (by kernel_rfl) (by simp) ?_
  refine AllL.cons rfl (by kernel_rfl) (fun K hK => ?_) AllL.nil
  go_simp
  refine hK _ _ ⟨HCS.out _ k1 k2, ?_⟩
  clear hK K
  refine wpAnyL_done (by kernel_rfl) ?_ _
  refine NoPanic.normal ?_
  go_wp2
  refine bodyPost_ret (v := .agg #[.bool b5, .slice a5 l5 c5, .slice a6 l6 c6]) (by simp [results, Tryd.results24, go_sem, t0, t1, t2]) rfl ?_
  exact ⟨_, rfl, HQ.out, HBL.out⟩
end Go.Proofs.YtpmadgmjkljbgaaDoor

/- Walk: Ratio.Order (brindlewoodref3). -/
namespace Go.Proofs.YtpmadgmjkljbgaaDoor
open Go.RowKit

set_option maxRecDepth 100000 in
set_option maxHeartbeats 2000000 in
theorem RatOrder_any (xv yv : Value) (z1 z2 : Int) (d1 d2 : Nat) (w : World) (hx : RatAt w xv z1 d1) (hy : RatAt w yv z2 d2) (nz1 : (dig z1.natAbs).length ≤ 50000) (nz2 : (dig z2.natAbs).length ≤ 50000) (nd1 : (dig d1).length ≤ 50000) (nd2 : (dig d2).length ≤ 50000) :
    Calls Tryd.prog 12 #[xv, yv] w fun e w' => e = .returned (.int .i64 (cmpZ (z1 * d2) (z2 * d1))) ∧ Below w.heap.size w w' := by
  obtain ⟨b1, v1, u1, m1, rfl, hm1, hn1, rfl⟩ := hx
  obtain ⟨b2, v2, u2, m2, rfl, hm2, hn2, rfl⟩ := hy
  have HT1 := Lib.hid (fun W (h : Below w.heap.size w W) => IntTimes_any _ _ (ZI b1 m1) (d2 : Int) W ⟨b1, v1, m1, rfl, hm1.below h, rfl⟩ ⟨false, u2, d2, rfl, hn2.below h, rfl⟩ (by omega) (by simpa using (show (dig d2).length ≤ 100000 by omega)))
  have HT2 := Lib.hid (fun W (h : Below w.heap.size w W) => IntTimes_any _ _ (ZI b2 m2) (d1 : Int) W ⟨b2, v2, m2, rfl, hm2.below h, rfl⟩ ⟨false, u1, d1, rfl, hn1.below h, rfl⟩ (by omega) (by simpa using (show (dig d1).length ≤ 100000 by omega)))
  obtain ⟨a1, c1, rfl⟩ := hm1.slice
  obtain ⟨a2, c2, rfl⟩ := hm2.slice
  obtain ⟨p1, r1, rfl⟩ := hn1.slice
  obtain ⟨p2, r2, rfl⟩ := hn2.slice
  clear hm1 hm2 hn1 hn2 nz1 nz2 nd1 nd2
  generalize (dig m1).length = l1 at *
  generalize (dig m2).length = l2 at *
  generalize (dig d1).length = q1 at *
  generalize (dig d2).length = q2 at *
  have hal := alloc2 w (.cells #[.bool b1, .slice a1 l1 c1, .slice p1 q1 r1] 43) (.cells #[.bool b2, .slice a2 l2 c2, .slice p2 q2 r2] 43)
  go_enter Tryd.func12, Tryd.ntmps12
  go_upto_region 1 with fail
  generalize ((w.alloc (.cells #[.bool b1, .slice a1 l1 c1, .slice p1 q1 r1] 43)).alloc (.cells #[.bool b2, .slice a2 l2 c2, .slice p2 q2 r2] 43)) = w1 at *
  obtain ⟨hb1, h1, h2⟩ := hal
  have hcs : ∀ W : World, W.heap[w.heap.size]? = some (.cells #[.bool b1, .slice a1 l1 c1, .slice p1 q1 r1] 43) → W.heap[w.heap.size + 1]? = some (.cells #[.bool b2, .slice a2 l2 c2, .slice p2 q2 r2] 43) → Cs [(⟨w.heap.size, 0, none⟩, .bool b1), (⟨w.heap.size, 1, none⟩, .slice a1 l1 c1), (⟨w.heap.size, 2, none⟩, .slice p1 q1 r1), (⟨w.heap.size + 1, 0, none⟩, .bool b2), (⟨w.heap.size + 1, 1, none⟩, .slice a2 l2 c2), (⟨w.heap.size + 1, 2, none⟩, .slice p2 q2 r2)] W := by
    intro W k1 k2 x hx
    have e0 := box_cell k1 0
    have e1 := box_cell k1 1
    have e2 := box_cell k1 2
    have e3 := box_cell k2 0
    have e4 := box_cell k2 1
    have e5 := box_cell k2 2
    simp only [List.getElem?_toArray, List.getElem?_cons_zero, List.getElem?_cons_succ] at e0 e1 e2 e3 e4 e5
    simp only [List.mem_cons, List.not_mem_nil, or_false] at hx
    rcases hx with rfl | rfl | rfl | rfl | rfl | rfl
    · exact e0
    · exact e1
    · exact e2
    · exact e3
    · exact e4
    · exact e5
  have HCS := Lib.hid hcs
  clear hcs
  have hbd := hb1.drew
  refine wp_region_noPanic ?_
  refine wp_region_L (S := fun _ W => Cs [(⟨w.heap.size, 0, none⟩, .bool b1), (⟨w.heap.size, 1, none⟩, .slice a1 l1 c1), (⟨w.heap.size, 2, none⟩, .slice p1 q1 r1), (⟨w.heap.size + 1, 0, none⟩, .bool b2), (⟨w.heap.size + 1, 1, none⟩, .slice a2 l2 c2), (⟨w.heap.size + 1, 2, none⟩, .slice p2 q2 r2)] W) (by kernel_rfl) ?_
  refine wpAnyL_take (T := fun _ => True) (i := 0) (v := ?vvrb0) rfl (by kernel_rfl) (by kernel_rfl) (by kernel_rfl) (fun _ _ _ h => h) (fun _ _ => Iff.rfl) (fun _ _ _ _ _ => trivial) (Closed.of_B (by kernel_rfl)) (Or.inl ⟨by kernel_rfl, ?hyrb0⟩) (HCS.out _ h1 h2) ?restrb0
  case hyrb0 => (intro w _; go_simp; with_reducible rfl)
  go_simp
  refine wpAnyL_take (T := fun W => Cs [(⟨w.heap.size, 0, none⟩, .bool b1), (⟨w.heap.size, 1, none⟩, .slice a1 l1 c1), (⟨w.heap.size, 2, none⟩, .slice p1 q1 r1), (⟨w.heap.size + 1, 0, none⟩, .bool b2), (⟨w.heap.size + 1, 1, none⟩, .slice a2 l2 c2), (⟨w.heap.size + 1, 2, none⟩, .slice p2 q2 r2)] W) (i := 1) (v := ?vvrb1) rfl (by kernel_rfl) (by kernel_rfl) (by kernel_rfl) (fun _ _ _ h => h) (fun _ _ => Iff.rfl) (fun _ _ _ _ h => h) (Closed.of_B (by kernel_rfl)) (Or.inl ⟨by kernel_rfl, ?hyrb1⟩) (HCS.out _ h1 h2) ?restrb1
  case hyrb1 => (intro W hW; simp only [Cs, List.forall_mem_cons] at hW; obtain ⟨m0, m1, m2, m3, m4, m5, -⟩ := hW; go_simp; with_reducible rfl)
  go_simp
  refine wpAnyL_take (T := fun _ => True) (i := 2) (v := ?vvrb2) rfl (by kernel_rfl) (by kernel_rfl) (by kernel_rfl) (fun _ _ _ h => h) (fun _ _ => Iff.rfl) (fun _ _ _ _ _ => trivial) (Closed.of_B (by kernel_rfl)) (Or.inl ⟨by kernel_rfl, ?hyrb2⟩) (HCS.out _ h1 h2) ?restrb2
  case hyrb2 => (intro w _; go_simp; with_reducible rfl)
  go_simp
  refine wpAnyL_take (T := fun W => Cs [(⟨w.heap.size, 0, none⟩, .bool b1), (⟨w.heap.size, 1, none⟩, .slice a1 l1 c1), (⟨w.heap.size, 2, none⟩, .slice p1 q1 r1), (⟨w.heap.size + 1, 0, none⟩, .bool b2), (⟨w.heap.size + 1, 1, none⟩, .slice a2 l2 c2), (⟨w.heap.size + 1, 2, none⟩, .slice p2 q2 r2)] W) (i := 3) (v := ?vvrb3) rfl (by kernel_rfl) (by kernel_rfl) (by kernel_rfl) (fun _ _ _ h => h) (fun _ _ => Iff.rfl) (fun _ _ _ _ h => h) (Closed.of_B (by kernel_rfl)) (Or.inl ⟨by kernel_rfl, ?hyrb3⟩) (HCS.out _ h1 h2) ?restrb3
  case hyrb3 => (intro W hW; simp only [Cs, List.forall_mem_cons] at hW; obtain ⟨m0, m1, m2, m3, m4, m5, -⟩ := hW; go_simp; with_reducible rfl)
  go_simp
  refine wpAnyL_take (T := fun _ => True) (i := 4) (v := ?vvrb4) rfl (by kernel_rfl) (by kernel_rfl) (by kernel_rfl) (fun _ _ _ h => h) (fun _ _ => Iff.rfl) (fun _ _ _ _ _ => trivial) (Closed.of_B (by kernel_rfl)) (Or.inl ⟨by kernel_rfl, ?hyrb4⟩) (HCS.out _ h1 h2) ?restrb4
  case hyrb4 => (intro w _; go_simp; with_reducible rfl)
  go_simp
  refine wpAnyL_take (T := fun _ => True) (i := 6) (v := ?vvrb6) rfl (by kernel_rfl) (by kernel_rfl) (by kernel_rfl) (fun _ _ _ h => h) (fun _ _ => Iff.rfl) (fun _ _ _ _ _ => trivial) (Closed.of_B (by kernel_rfl)) (Or.inl ⟨by kernel_rfl, ?hyrb6⟩) (HCS.out _ h1 h2) ?restrb6
  case hyrb6 => (intro w _; go_simp; with_reducible rfl)
  go_simp
  refine wpAnyL_take (T := fun W => Cs [(⟨w.heap.size, 0, none⟩, .bool b1), (⟨w.heap.size, 1, none⟩, .slice a1 l1 c1), (⟨w.heap.size, 2, none⟩, .slice p1 q1 r1), (⟨w.heap.size + 1, 0, none⟩, .bool b2), (⟨w.heap.size + 1, 1, none⟩, .slice a2 l2 c2), (⟨w.heap.size + 1, 2, none⟩, .slice p2 q2 r2)] W) (i := 7) (v := ?vvrb7) rfl (by kernel_rfl) (by kernel_rfl) (by kernel_rfl) (fun _ _ _ h => h) (fun _ _ => Iff.rfl) (fun _ _ _ _ h => h) (Closed.of_B (by kernel_rfl)) (Or.inl ⟨by kernel_rfl, ?hyrb7⟩) (HCS.out _ h1 h2) ?restrb7
  case hyrb7 => (intro W hW; simp only [Cs, List.forall_mem_cons] at hW; obtain ⟨m0, m1, m2, m3, m4, m5, -⟩ := hW; go_simp; with_reducible rfl)
  go_simp
  refine wpAnyL_take (T := fun _ => True) (i := 8) (v := ?vvrb8) rfl (by kernel_rfl) (by kernel_rfl) (by kernel_rfl) (fun _ _ _ h => h) (fun _ _ => Iff.rfl) (fun _ _ _ _ _ => trivial) (Closed.of_B (by kernel_rfl)) (Or.inl ⟨by kernel_rfl, ?hyrb8⟩) (HCS.out _ h1 h2) ?restrb8
  case hyrb8 => (intro w _; go_simp; with_reducible rfl)
  go_simp
  refine wpAnyL_take (T := fun W => Cs [(⟨w.heap.size, 0, none⟩, .bool b1), (⟨w.heap.size, 1, none⟩, .slice a1 l1 c1), (⟨w.heap.size, 2, none⟩, .slice p1 q1 r1), (⟨w.heap.size + 1, 0, none⟩, .bool b2), (⟨w.heap.size + 1, 1, none⟩, .slice a2 l2 c2), (⟨w.heap.size + 1, 2, none⟩, .slice p2 q2 r2)] W) (i := 9) (v := ?vvrb9) rfl (by kernel_rfl) (by kernel_rfl) (by kernel_rfl) (fun _ _ _ h => h) (fun _ _ => Iff.rfl) (fun _ _ _ _ h => h) (Closed.of_B (by kernel_rfl)) (Or.inl ⟨by kernel_rfl, ?hyrb9⟩) (HCS.out _ h1 h2) ?restrb9
  case hyrb9 => (intro W hW; simp only [Cs, List.forall_mem_cons] at hW; obtain ⟨m0, m1, m2, m3, m4, m5, -⟩ := hW; go_simp; with_reducible rfl)
  go_simp
  refine wpAnyL_take (T := fun _ => True) (i := 10) (v := ?vvrb10) rfl (by kernel_rfl) (by kernel_rfl) (by kernel_rfl) (fun _ _ _ h => h) (fun _ _ => Iff.rfl) (fun _ _ _ _ _ => trivial) (Closed.of_B (by kernel_rfl)) (Or.inl ⟨by kernel_rfl, ?hyrb10⟩) (HCS.out _ h1 h2) ?restrb10
  case hyrb10 => (intro w _; go_simp; with_reducible rfl)
  go_simp
  refine wpAnyL_ready (rs := [5]) (by kernel_rfl) (by simp) ?_
  refine AllL.cons rfl (by kernel_rfl) (fun K hK => ?_) AllL.nil
  go_simp
  refine (HT1.out w1.drew hbd).mono ?_
  rintro e w2 ⟨v', rfl, hI, hb2⟩
  replace h1 := (hb2.block _ (box_lt h1)).trans h1
  replace h2 := (hb2.block _ (box_lt h2)).trans h2
  refine hK _ _ ⟨(HCS.out _ h1 h2), ?_⟩
  clear hK K
  have hb12 := ext_trans hbd hb2
  have HI := Lib.hid hI
  clear hI hb2
  refine wpAnyL_ready (rs := [11]) (by kernel_rfl) (by simp) ?_
  refine AllL.cons rfl (by kernel_rfl) (fun K hK => ?_) AllL.nil
  go_simp
  refine (HT2.out w2 hb12).mono ?_
  rintro e w3 ⟨v'', rfl, hI2, hb3⟩
  replace h1 := (hb3.block _ (box_lt h1)).trans h1
  replace h2 := (hb3.block _ (box_lt h2)).trans h2
  refine hK _ _ ⟨(HCS.out _ h1 h2), ?_⟩
  clear hK K
  have hb13 := ext_trans hb12 hb3
  have HO := Lib.hid (IntOrder_any _ _ _ _ w3 (HI.out.below hb3) hI2)
  clear hI2 hb3 hb12
  refine wpAnyL_ready (rs := [12]) (by kernel_rfl) (by simp) ?_
  refine AllL.cons rfl (by kernel_rfl) (fun K hK => ?_) AllL.nil
  go_simp
  refine HO.out.mono ?_
  rintro e w4 ⟨rfl, hb4⟩
  replace h1 := (hb4.block _ (box_lt h1)).trans h1
  replace h2 := (hb4.block _ (box_lt h2)).trans h2
  refine hK _ _ ⟨(HCS.out _ h1 h2), ?_⟩
  clear hK K
  have hb := ext_trans hb13 hb4
  refine wpAnyL_ready (rs := [13]) (by kernel_rfl) (by simp) ?_
  refine AllL.cons rfl (by kernel_rfl) (fun K hK => ?_) AllL.nil
  go_simp
  refine hK _ _ ⟨(HCS.out _ h1 h2), ?_⟩
  clear hK K
  refine wpAnyL_done (by kernel_rfl) ?_ _
  refine NoPanic.normal ?_
  go_wp2
  go_ret
  exact ⟨rfl, hb⟩
end Go.Proofs.YtpmadgmjkljbgaaDoor

/- Walk: RatioOf (brindlewoodref3). -/
namespace Go.Proofs.YtpmadgmjkljbgaaDoor
open Go.RowKit

set_option maxRecDepth 100000 in
set_option maxHeartbeats 2000000 in
theorem RatioOf_any (b1 b2 : Bool) (lv dv : Value) (l d : List Nat) (w : World) (hl : RowU w lv l) (hd : RowU w dv d) (gl : Lg l) (gd : Lg d) (nl : l.length ≤ 100000) (nd : d.length ≤ 100000) :
    Calls Tryd.prog 33 #[.agg #[.bool b1, lv, .bool b2, dv]] w fun e w' => ∃ v', e = .returned v' ∧ RatAt w' v' (ZI b1 (VL l)) (VL d) ∧ Below w.heap.size w w' := by
  have HI := Lib.hid (fun W (h : Below w.heap.size w W) => IntOf_any b1 lv l W (hl.below h) gl nl)
  have HO := Lib.hid (fun W (h : Below w.heap.size w W) => Of_any dv d W (hd.below h) gd nd)
  obtain ⟨a1, c1, rfl, -⟩ := hl
  obtain ⟨a2, c2, rfl, -⟩ := hd
  have hal := alloc2 w (.cells #[.bool b1, .slice a1 l.length c1, .bool b2, .slice a2 d.length c2] 54) (.cells #[.bool false, .slice none 0 0, .slice none 0 0] 43)
  go_enter Tryd.func33, Tryd.ntmps33
  go_upto_region 1 with fail
  generalize ((w.alloc (.cells #[.bool b1, .slice a1 l.length c1, .bool b2, .slice a2 d.length c2] 54)).alloc (.cells #[.bool false, .slice none 0 0, .slice none 0 0] 43)) = w1 at *
  obtain ⟨hb1, h1, h3⟩ := hal
  have hcs : ∀ W : World, W.heap[w.heap.size]? = some (.cells #[.bool b1, .slice a1 l.length c1, .bool b2, .slice a2 d.length c2] 54) → Cs [(⟨w.heap.size, 0, none⟩, .bool b1), (⟨w.heap.size, 1, none⟩, .slice a1 l.length c1), (⟨w.heap.size, 3, none⟩, .slice a2 d.length c2)] W := by
    intro W k1
    have d0 := box_cell k1 0
    have d1 := box_cell k1 1
    have d3 := box_cell k1 3
    simp only [List.getElem?_toArray, List.getElem?_cons_zero, List.getElem?_cons_succ] at d0 d1 d3
    intro x hx
    simp only [List.mem_cons, List.not_mem_nil, or_false] at hx
    rcases hx with rfl | rfl | rfl
    · exact d0
    · exact d1
    · exact d3
  have HCS := Lib.hid hcs
  clear hcs
  have hbd := hb1.drew
  have hle : w.heap.size ≤ w.heap.size + 1 := by omega
  refine wp_region_noPanic ?_
  refine wp_region_L (S := fun _ W => Cs [(⟨w.heap.size, 0, none⟩, .bool b1), (⟨w.heap.size, 1, none⟩, .slice a1 l.length c1), (⟨w.heap.size, 3, none⟩, .slice a2 d.length c2)] W) (by kernel_rfl) ?_
  refine wpAnyL_take (T := fun _ => True) (i := 0) (v := ?vvro0) rfl (by kernel_rfl) (by kernel_rfl) (by kernel_rfl) (fun _ _ _ h => h) (fun _ _ => Iff.rfl) (fun _ _ _ _ _ => trivial) (Closed.of_B (by kernel_rfl)) (Or.inl ⟨by kernel_rfl, ?hyro0⟩) (HCS.out _ h1) ?restro0
  case hyro0 => (intro w _; go_simp; with_reducible rfl)
  go_simp
  refine wpAnyL_take (T := fun W => Cs [(⟨w.heap.size, 0, none⟩, .bool b1), (⟨w.heap.size, 1, none⟩, .slice a1 l.length c1), (⟨w.heap.size, 3, none⟩, .slice a2 d.length c2)] W) (i := 1) (v := ?vvro1) rfl (by kernel_rfl) (by kernel_rfl) (by kernel_rfl) (fun _ _ _ h => h) (fun _ _ => Iff.rfl) (fun _ _ _ _ h => h) (Closed.of_B (by kernel_rfl)) (Or.inl ⟨by kernel_rfl, ?hyro1⟩) (HCS.out _ h1) ?restro1
  case hyro1 => (intro W hW; simp only [Cs, List.forall_mem_cons] at hW; obtain ⟨m0, m1, m2, -⟩ := hW; go_simp; with_reducible rfl)
  go_simp
  refine wpAnyL_take (T := fun _ => True) (i := 3) (v := ?vvro3) rfl (by kernel_rfl) (by kernel_rfl) (by kernel_rfl) (fun _ _ _ h => h) (fun _ _ => Iff.rfl) (fun _ _ _ _ _ => trivial) (Closed.of_B (by kernel_rfl)) (Or.inl ⟨by kernel_rfl, ?hyro3⟩) (HCS.out _ h1) ?restro3
  case hyro3 => (intro w _; go_simp; with_reducible rfl)
  go_simp
  refine wpAnyL_take (T := fun _ => True) (i := 4) (v := ?vvro4) rfl (by kernel_rfl) (by kernel_rfl) (by kernel_rfl) (fun _ _ _ h => h) (fun _ _ => Iff.rfl) (fun _ _ _ _ _ => trivial) (Closed.of_B (by kernel_rfl)) (Or.inl ⟨by kernel_rfl, ?hyro4⟩) (HCS.out _ h1) ?restro4
  case hyro4 => (intro w _; go_simp; with_reducible rfl)
  go_simp
  refine wpAnyL_take (T := fun W => Cs [(⟨w.heap.size, 0, none⟩, .bool b1), (⟨w.heap.size, 1, none⟩, .slice a1 l.length c1), (⟨w.heap.size, 3, none⟩, .slice a2 d.length c2)] W) (i := 5) (v := ?vvro5) rfl (by kernel_rfl) (by kernel_rfl) (by kernel_rfl) (fun _ _ _ h => h) (fun _ _ => Iff.rfl) (fun _ _ _ _ h => h) (Closed.of_B (by kernel_rfl)) (Or.inl ⟨by kernel_rfl, ?hyro5⟩) (HCS.out _ h1) ?restro5
  case hyro5 => (intro W hW; simp only [Cs, List.forall_mem_cons] at hW; obtain ⟨m0, m1, m2, -⟩ := hW; go_simp; with_reducible rfl)
  go_simp
  refine wpAnyL_ready (rs := [2]) (by kernel_rfl) (by simp) ?_
  refine AllL.cons rfl (by kernel_rfl) (fun K hK => ?_) AllL.nil
  go_simp
  refine (HI.out w1.drew hbd).mono ?_
  rintro e w2 ⟨v', rfl, hN, hb2⟩
  replace h1 := (hb2.block _ (box_lt h1)).trans h1
  replace h3 := (hb2.block _ (box_lt h3)).trans h3
  refine hK _ _ ⟨HCS.out _ h1, ?_⟩
  clear hK K
  have hb12 := ext_trans hbd hb2
  obtain ⟨b5, i5, n5, rfl, hn5, hz5⟩ := hN
  have HN5 := Lib.hid hn5
  have HZ5 := Lib.hid hz5
  obtain ⟨a5, c5, rfl⟩ := hn5.slice
  clear hn5 hz5 hb2
  refine wpAnyL_ready (rs := [6]) (by kernel_rfl) (by simp) ?_
  refine AllL.cons rfl (by kernel_rfl) (fun K hK => ?_) AllL.nil
  go_simp
  refine (HO.out w2 hb12).mono ?_
  rintro e w3 ⟨v'', rfl, hD, hb3⟩
  replace h1 := (hb3.block _ (box_lt h1)).trans h1
  replace h3 := (hb3.block _ (box_lt h3)).trans h3
  refine hK _ _ ⟨HCS.out _ h1, ?_⟩
  clear hK K
  have hb := ext_trans hb12 hb3
  have hn5 := HN5.out.below hb3
  obtain ⟨a3, c3, rfl⟩ := hD.slice
  generalize (dig n5).length = lm at *
  generalize (dig (VL d)).length = l3 at *
  refine wpAnyL_take (T := fun _ => True) (i := 7) (v := ?vvroq7) rfl (by kernel_rfl) (by kernel_rfl) (by kernel_rfl) (fun _ _ _ h => h) (fun _ _ => Iff.rfl) (fun _ _ _ _ _ => trivial) (Closed.of_B (by kernel_rfl)) (Or.inl ⟨by kernel_rfl, ?hyroq7⟩) (HCS.out _ h1) ?restroq7
  case hyroq7 => (intro w _; go_simp; with_reducible rfl)
  go_simp
  have g0 := box_cell h3 0
  have g1 := box_cell h3 1
  have g2 := box_cell h3 2
  have f0 := box_frozen h3 0
  have f1 := box_frozen h3 1
  have f2 := box_frozen h3 2
  simp only [List.getElem?_toArray, List.getElem?_cons_zero, List.getElem?_cons_succ] at g0 g1 g2
  have F1 := natAt_set3 h3 hn5 b5 a5 lm c5 (.slice a3 l3 c3)
  have F2 := natAt_set3 h3 hD b5 a5 lm c5 (.slice a3 l3 c3)
  have hset := ratBox_set h3 (.bool b5) (.slice a5 lm c5) (.slice a3 l3 c3)
  have k1 := boxes_keep3 h1 (show w.heap.size ≠ w.heap.size + 1 by omega) (.bool b5) (.slice a5 lm c5) (.slice a3 l3 c3)
  have HBL := Lib.hid (((hb.setCell (p := ⟨w.heap.size + 1, 0, none⟩) hle (.bool b5)).setCell (p := ⟨w.heap.size + 1, 1, none⟩) hle (.slice a5 lm c5)).setCell (p := ⟨w.heap.size + 1, 2, none⟩) hle (.slice a3 l3 c3))
  have t0 := box_cell hset 0
  have t1 := box_cell hset 1
  have t2 := box_cell hset 2
  simp only [List.getElem?_toArray, List.getElem?_cons_zero, List.getElem?_cons_succ] at t0 t1 t2
  have HQ := Lib.hid (show RatAt _ (.agg #[.bool b5, .slice a5 lm c5, .slice a3 l3 c3]) (ZI b1 (VL l)) (VL d) from ⟨_, _, _, n5, rfl, F1, F2, HZ5.out⟩)
  clear F1 F2
  refine wpAnyL_ready (rs := [8]) (by kernel_rfl) (by simp) ?_
  refine AllL.cons rfl (by kernel_rfl) (fun K hK => ?_) AllL.nil
  go_simp
  refine hK _ _ ⟨HCS.out _ k1, ?_⟩
  clear hK K
  refine wpAnyL_done (by kernel_rfl) ?_ _
  refine NoPanic.normal ?_
  go_wp2
  refine bodyPost_ret (v := .agg #[.bool b5, .slice a5 lm c5, .slice a3 l3 c3]) (by simp [results, Tryd.results33, go_sem, t0, t1, t2]) rfl ?_
  exact ⟨_, rfl, HQ.out, HBL.out⟩
end Go.Proofs.YtpmadgmjkljbgaaDoor
