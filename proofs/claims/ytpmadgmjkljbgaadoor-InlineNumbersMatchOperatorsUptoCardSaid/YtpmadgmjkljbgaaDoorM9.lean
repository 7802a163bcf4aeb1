/- Part 9 of the proof. -/
import Derived.Test.YtpmadgmjkljbgaaDoorM8

/- Walk: Ratio.Less (brindlewoodref3). -/
namespace Go.Proofs.YtpmadgmjkljbgaaDoor
open Go.RowKit

set_option maxRecDepth 100000 in
set_option maxHeartbeats 2000000 in
theorem RatLess_any (xv yv : Value) (z1 z2 : Int) (d1 d2 : Nat) (w : World) (hx : RatAt w xv z1 d1) (hy : RatAt w yv z2 d2) (hd1 : 0 < d1) (hd2 : 0 < d2) (nz1 : (dig z1.natAbs).length ≤ 40000) (nz2 : (dig z2.natAbs).length ≤ 40000) (nd1 : (dig d1).length ≤ 40000) (nd2 : (dig d2).length ≤ 40000) :
    Calls Tryd.prog 23 #[xv, yv] w fun e w' => ∃ v', e = .returned v' ∧ RatAt w' v' (lowZ (z1 * d2 + (-z2) * d1) (d1 * d2)) (lowD (z1 * d2 + (-z2) * d1) (d1 * d2)) ∧ Below w.heap.size w w' := by
  obtain ⟨b1, v1, u1, m1, rfl, hm1, hn1, rfl⟩ := hx
  obtain ⟨b2, v2, u2, m2, rfl, hm2, hn2, rfl⟩ := hy
  have HM := Lib.hid (fun W (h : Below w.heap.size w W) => IntMinus_any _ (ZI b2 m2) W ⟨b2, v2, m2, rfl, hm2.below h, rfl⟩)
  have HP := Lib.hid (fun u W (h5 : RatAt W u (-ZI b2 m2) d2) (h : Below w.heap.size w W) => RatPlus_any _ u (ZI b1 m1) (-ZI b2 m2) d1 d2 W ⟨b1, v1, u1, m1, rfl, hm1.below h, hn1.below h, rfl⟩ h5 hd1 hd2 nz1 (by rw [Int.natAbs_neg]; exact nz2) nd1 nd2)
  have HD2 := Lib.hid hn2
  obtain ⟨a1, c1, rfl⟩ := hm1.slice
  obtain ⟨a2, c2, rfl⟩ := hm2.slice
  obtain ⟨p1, r1, rfl⟩ := hn1.slice
  obtain ⟨p2, r2, rfl⟩ := hn2.slice
  clear hm1 hm2 hn1 hn2 nz1 nz2 nd1 nd2
  generalize (dig m1).length = l1 at *
  generalize (dig m2).length = l2 at *
  generalize (dig d1).length = q1 at *
  generalize (dig d2).length = q2 at *
  have hal := alloc3 w (.cells #[.bool b1, .slice a1 l1 c1, .slice p1 q1 r1] 43) (.cells #[.bool b2, .slice a2 l2 c2, .slice p2 q2 r2] 43) (.cells #[.bool false, .slice none 0 0, .slice none 0 0] 43)
  go_enter Tryd.func23, Tryd.ntmps23
  go_upto_region 1 with fail
  generalize (((w.alloc (.cells #[.bool b1, .slice a1 l1 c1, .slice p1 q1 r1] 43)).alloc (.cells #[.bool b2, .slice a2 l2 c2, .slice p2 q2 r2] 43)).alloc (.cells #[.bool false, .slice none 0 0, .slice none 0 0] 43)) = w1 at *
  obtain ⟨hb1, h1, h2, h3⟩ := hal
  have hB1 : Bxs [(w.heap.size, (.cells #[.bool b1, .slice a1 l1 c1, .slice p1 q1 r1] 43)), (w.heap.size + 1, (.cells #[.bool b2, .slice a2 l2 c2, .slice p2 q2 r2] 43))] w w1 := ⟨hb1, fun x hx => by
    simp only [List.mem_cons, List.not_mem_nil, or_false] at hx
    rcases hx with rfl | rfl
    · exact h1
    · exact h2⟩
  have hBd := hB1.drew
  clear hb1 h1 h2 hB1
  refine wp_region_noPanic ?_
  refine wp_region_L (S := fun _ W => Bxs [(w.heap.size, (.cells #[.bool b1, .slice a1 l1 c1, .slice p1 q1 r1] 43)), (w.heap.size + 1, (.cells #[.bool b2, .slice a2 l2 c2, .slice p2 q2 r2] 43))] w W) (by kernel_rfl) ?_
  refine wpAnyL_take (T := fun W => Bxs [(w.heap.size, (.cells #[.bool b1, .slice a1 l1 c1, .slice p1 q1 r1] 43)), (w.heap.size + 1, (.cells #[.bool b2, .slice a2 l2 c2, .slice p2 q2 r2] 43))] w W) (i := 0) (v := ?vva0) rfl (by kernel_rfl) (by kernel_rfl) (by kernel_rfl) (fun _ _ _ h => h) (fun _ _ => Iff.rfl) (fun _ _ _ _ h => h) (Closed.of_B (by kernel_rfl)) (Or.inl ⟨by kernel_rfl, ?hya0⟩) hBd ?resta0
  case hya0 =>
    intro W hW
    have hx0 := hW.2 ((w.heap.size, (.cells #[.bool b1, .slice a1 l1 c1, .slice p1 q1 r1] 43)) : Nat × Obj) (by simp)
    have dx0x0 := box_cell hx0 0
    have dx0x1 := box_cell hx0 1
    have dx0x2 := box_cell hx0 2
    simp only [List.getElem?_toArray, List.getElem?_cons_zero, List.getElem?_cons_succ] at dx0x0 dx0x1 dx0x2
    clear hW
    go_simp; with_reducible rfl
  go_simp
  refine wpAnyL_take (T := fun _ => True) (i := 1) (v := ?vva1) rfl (by kernel_rfl) (by kernel_rfl) (by kernel_rfl) (fun _ _ _ h => h) (fun _ _ => Iff.rfl) (fun _ _ _ _ _ => trivial) (Closed.of_B (by kernel_rfl)) (Or.inl ⟨by kernel_rfl, ?hya1⟩) hBd ?resta1
  case hya1 => (intro w _; go_simp; with_reducible rfl)
  go_simp
  refine wpAnyL_take (T := fun W => Bxs [(w.heap.size, (.cells #[.bool b1, .slice a1 l1 c1, .slice p1 q1 r1] 43)), (w.heap.size + 1, (.cells #[.bool b2, .slice a2 l2 c2, .slice p2 q2 r2] 43))] w W) (i := 2) (v := ?vva2) rfl (by kernel_rfl) (by kernel_rfl) (by kernel_rfl) (fun _ _ _ h => h) (fun _ _ => Iff.rfl) (fun _ _ _ _ h => h) (Closed.of_B (by kernel_rfl)) (Or.inl ⟨by kernel_rfl, ?hya2⟩) hBd ?resta2
  case hya2 =>
    intro W hW
    have hx1 := hW.2 ((w.heap.size + 1, (.cells #[.bool b2, .slice a2 l2 c2, .slice p2 q2 r2] 43)) : Nat × Obj) (by simp)
    have dx1x0 := box_cell hx1 0
    have dx1x1 := box_cell hx1 1
    simp only [List.getElem?_toArray, List.getElem?_cons_zero, List.getElem?_cons_succ] at dx1x0 dx1x1
    clear hW
    go_simp; with_reducible rfl
  go_simp
  refine wpAnyL_take (T := fun _ => True) (i := 4) (v := ?vva4) rfl (by kernel_rfl) (by kernel_rfl) (by kernel_rfl) (fun _ _ _ h => h) (fun _ _ => Iff.rfl) (fun _ _ _ _ _ => trivial) (Closed.of_B (by kernel_rfl)) (Or.inl ⟨by kernel_rfl, ?hya4⟩) hBd ?resta4
  case hya4 => (intro w _; go_simp; with_reducible rfl)
  go_simp
  refine wpAnyL_take (T := fun W => Bxs [(w.heap.size, (.cells #[.bool b1, .slice a1 l1 c1, .slice p1 q1 r1] 43)), (w.heap.size + 1, (.cells #[.bool b2, .slice a2 l2 c2, .slice p2 q2 r2] 43))] w W) (i := 5) (v := ?vva5) rfl (by kernel_rfl) (by kernel_rfl) (by kernel_rfl) (fun _ _ _ h => h) (fun _ _ => Iff.rfl) (fun _ _ _ _ h => h) (Closed.of_B (by kernel_rfl)) (Or.inl ⟨by kernel_rfl, ?hya5⟩) hBd ?resta5
  case hya5 =>
    intro W hW
    have hx1 := hW.2 ((w.heap.size + 1, (.cells #[.bool b2, .slice a2 l2 c2, .slice p2 q2 r2] 43)) : Nat × Obj) (by simp)
    have dx1x2 := box_cell hx1 2
    simp only [List.getElem?_toArray, List.getElem?_cons_zero, List.getElem?_cons_succ] at dx1x2
    clear hW
    go_simp; with_reducible rfl
  go_simp
  refine wpAnyL_rows (R := fun i v _ W => match i with | 3 => IntAt W v (-ZI b2 m2) | 6 => RatAt W v (-ZI b2 m2) d2 | 7 => RatAt W v (lowZ (ZI b1 m1 * (d2 : Int) + (-ZI b2 m2) * (d1 : Int)) (d1 * d2)) (lowD (ZI b1 m1 * (d2 : Int) + (-ZI b2 m2) * (d1 : Int)) (d1 * d2)) | 8 => BoxC 43 3 0 (RatC (lowZ (ZI b1 m1 * (d2 : Int) + (-ZI b2 m2) * (d1 : Int)) (d1 * d2)) (lowD (ZI b1 m1 * (d2 : Int) + (-ZI b2 m2) * (d1 : Int)) (d1 * d2))) W true (.pointer (some ⟨w.heap.size + 1 + 1, 0, none⟩)) | _ => True) (I := fun L _ W => Bxs [(w.heap.size, (.cells #[.bool b1, .slice a1 l1 c1, .slice p1 q1 r1] 43)), (w.heap.size + 1, (.cells #[.bool b2, .slice a2 l2 c2, .slice p2 q2 r2] 43))] w W ∧ (L.getD 8 false = false → W.heap[w.heap.size + 1 + 1]? = some (.cells #[.bool false, .slice none 0 0, .slice none 0 0] 43 (0, 0)))) [((3, some 8, []), []), ((6, some 11, [3]), [(3, some 8, [])]), ((7, some 12, [6]), [(6, some 11, [3])]), ((8, none, [7]), [(7, some 12, [6])])] (by kernel_rfl) (by decide) (fun _ _ _ h => h.1) (fun _ => ⟨hBd, fun _ => h3⟩) ?taba ?fina
  case taba =>
    refine TabAll.cons rfl (by kernel_rfl) (fun L vs W hsz hcl hn hd hdn hI K hK => ?_) ?_
    · simp only [putsD, Act.put, List.setIfInBounds_toArray, List.set_cons_zero, List.set_cons_succ] at hK ⊢
      clear hd hdn
      go_simp
      refine (HM.out W hI.1.1).mono ?_
      rintro e W3 ⟨v', rfl, hv, hb3⟩
      refine hK _ (v') _ (by rfl) (fun i u l hij hL h => ?_) (hv) (⟨hI.1.below hb3, fun hL => (hb3.block _ (box_lt (hI.2 (by rw [getD_set_ne false (by decide)] at hL; exact hL)))).trans (hI.2 (by rw [getD_set_ne false (by decide)] at hL; exact hL))⟩)
      · match i, hij, hL, h with
        | 3, _, _, h => exact IntAt.below h hb3
        | 6, _, _, h => exact RatAt.below h hb3
        | 7, _, _, h => exact RatAt.below h hb3
        | 8, _, _, h => exact (BoxC.below (RatC.good _ _)) h hb3
        | 0, _, _, _ | 1, _, _, _ | 2, _, _, _ | 4, _, _, _ | 5, _, _, _ | _ + 9, _, _, _ => trivial
    refine TabAll.cons rfl (by kernel_rfl) (fun L vs W hsz hcl hn hd hdn hI K hK => ?_) ?_
    · simp only [putsD, Act.put, List.setIfInBounds_toArray, List.set_cons_zero, List.set_cons_succ] at hK ⊢
      have r3 := hd.1
      generalize hv3 : vs 3 = v3 at *
      have HV3 := Lib.hid hv3
      clear hv3
      clear hd hdn
      have q3 : IntAt W v3 (-ZI b2 m2) := r3
      clear r3
      obtain ⟨b8, nv8, k8, rfl, hn8, hz8⟩ := q3
      obtain ⟨a8, c8, rfl⟩ := hn8.slice
      have HN8 := Lib.hid hn8
      have HZ8 := Lib.hid hz8
      clear hn8 hz8
      generalize (dig k8).length = l8 at *
      go_simp
      refine hK _ (.agg #[.bool b8, .slice a8 l8 c8, .slice p2 q2 r2]) _ (by rfl) (fun i u l hij hL h => h) (⟨b8, _, _, k8, rfl, HN8.out, HD2.out.below hI.1.1, HZ8.out⟩) (⟨hI.1, fun hL => hI.2 (by rw [getD_set_ne false (by decide)] at hL; exact hL)⟩)
    refine TabAll.cons rfl (by kernel_rfl) (fun L vs W hsz hcl hn hd hdn hI K hK => ?_) ?_
    · simp only [putsD, Act.put, List.setIfInBounds_toArray, List.set_cons_zero, List.set_cons_succ] at hK ⊢
      have r6 := hd.1
      generalize hv6 : vs 6 = v6 at *
      have HV6 := Lib.hid hv6
      clear hv6
      clear hd hdn
      have q6 : RatAt W v6 (-ZI b2 m2) d2 := r6
      clear r6
      go_simp
      refine (HP.out _ W q6 hI.1.1).mono ?_
      rintro e W3 ⟨v', rfl, hv, hb3⟩
      refine hK _ (v') _ (by rfl) (fun i u l hij hL h => ?_) (hv) (⟨hI.1.below hb3, fun hL => (hb3.block _ (box_lt (hI.2 (by rw [getD_set_ne false (by decide)] at hL; exact hL)))).trans (hI.2 (by rw [getD_set_ne false (by decide)] at hL; exact hL))⟩)
      · match i, hij, hL, h with
        | 3, _, _, h => exact IntAt.below h hb3
        | 6, _, _, h => exact RatAt.below h hb3
        | 7, _, _, h => exact RatAt.below h hb3
        | 8, _, _, h => exact (BoxC.below (RatC.good _ _)) h hb3
        | 0, _, _, _ | 1, _, _, _ | 2, _, _, _ | 4, _, _, _ | 5, _, _, _ | _ + 9, _, _, _ => trivial
    refine TabAll.cons rfl (by kernel_rfl) (fun L vs W hsz hcl hn hd hdn hI K hK => ?_) ?_
    · simp only [putsD, Act.put, List.setIfInBounds_toArray, List.set_cons_zero, List.set_cons_succ] at hK ⊢
      have r7 := hd.1
      generalize hv7 : vs 7 = v7 at *
      have HV7 := Lib.hid hv7
      clear hv7
      clear hd hdn
      have q7 : RatAt W v7 (lowZ (ZI b1 m1 * (d2 : Int) + (-ZI b2 m2) * (d1 : Int)) (d1 * d2)) (lowD (ZI b1 m1 * (d2 : Int) + (-ZI b2 m2) * (d1 : Int)) (d1 * d2)) := r7
      clear r7
      obtain ⟨b9, nv9, dv9, k9, rfl, hn9, hm9, hz9⟩ := q7
      obtain ⟨a9, c9, rfl⟩ := hn9.slice
      obtain ⟨a8, c8, rfl⟩ := hm9.slice
      have h3 := hI.2 hn
      generalize hl9 : (dig k9).length = l9 at *
      generalize hl8 : (dig (lowD (ZI b1 m1 * (d2 : Int) + (-ZI b2 m2) * (d1 : Int)) (d1 * d2))).length = l8 at *
      have g0 := box_cell h3 0
      have g1 := box_cell h3 1
      have g2 := box_cell h3 2
      have f0 := box_frozen h3 0
      have f1 := box_frozen h3 1
      have f2 := box_frozen h3 2
      simp only [List.getElem?_toArray, List.getElem?_cons_zero, List.getElem?_cons_succ] at g0 g1 g2
      have HS := Lib.hid (store3 h3 (.bool b9) (.slice a9 l9 c9) (.slice a8 l8 c8))
      have HC := Lib.hid (show RatC _ _ W [.bool b9, .slice a9 l9 c9, .slice a8 l8 c8] from ⟨b9, _, _, k9, rfl, hn9, hm9, hz9⟩)
      have H3 := Lib.hid h3
      have HI := Lib.hid hI
      have HSZ := Lib.hid hsz
      clear hI h3 hn9 hm9 hz9 hl9 hl8 hcl hn hsz
      have hno : NoInt [.bool false, .slice none 0 0, .slice none 0 0] := by intro x hx; simp only [List.mem_cons, List.not_mem_nil, or_false] at hx; rcases hx with rfl | rfl | rfl <;> simp
      have HNO := Lib.hid hno
      clear hno
      go_simp
      refine hK _ undef _ (by rfl) (fun i u l hij hL h => ?_) ⟨_, _, rfl, Nat.zero_le _, HS.out.1, HC.out.noInt, rfl, fun _ => (RatC.good _ _).other HC.out H3.out HNO.out HS.out.2⟩ ⟨HI.out.1.stored (N := w.heap.size + 1 + 1) (by omega) (by intro x hx; simp only [List.mem_cons, List.not_mem_nil, or_false] at hx; rcases hx with rfl | rfl <;> simp only <;> omega) [(0, .bool b9), (1, .slice a9 l9 c9), (2, .slice a8 l8 c8)], fun hL => ?_⟩
      · match i, hij, hL, h with
        | 3, _, _, h => exact intAt_other h H3.out HNO.out HS.out.2
        | 6, _, _, h => exact ratAt_other h H3.out HNO.out HS.out.2
        | 7, _, _, h => exact ratAt_other h H3.out HNO.out HS.out.2
        | 8, hij, _, _ => exact absurd rfl hij
        | 0, _, _, _ | 1, _, _, _ | 2, _, _, _ | 4, _, _, _ | 5, _, _, _ | _ + 9, _, _, _ => trivial
      · exfalso; rw [getD_set_self (by rw [HSZ.out]; decide)] at hL; cases hL
    exact TabAll.nil
  case fina =>
    intro vs Wz hd L hsz hall hI
    have r3 := hd.1
    have r6 := hd.2.1
    have r7 := hd.2.2.1
    have r8 := hd.2.2.2.1
    simp only [List.map_cons, List.map_nil, putsD, Act.put, List.setIfInBounds_toArray, List.set_cons_zero, List.set_cons_succ]
    generalize vs 3 = v3 at *
    generalize vs 6 = v6 at *
    generalize vs 7 = v7 at *
    generalize vs 8 = v8 at *
    clear hd hall hsz
    refine NoPanic.normal ?_
    have q8 : BoxC 43 3 0 (RatC (lowZ (ZI b1 m1 * (d2 : Int) + (-ZI b2 m2) * (d1 : Int)) (d1 * d2)) (lowD (ZI b1 m1 * (d2 : Int) + (-ZI b2 m2) * (d1 : Int)) (d1 * d2))) Wz true (.pointer (some ⟨w.heap.size + 1 + 1, 0, none⟩)) := r8
    obtain ⟨M, old, hp, -, hM, -, -, hc⟩ := q8
    obtain ⟨b9, nv9, dv9, k9, rfl, hn9, hm9, hz9⟩ := hc rfl
    simp only [Value.pointer.injEq, Option.some.injEq, Addr.mk.injEq, and_true] at hp
    subst hp
    have t0 := box_cell hM 0
    have t1 := box_cell hM 1
    have t2 := box_cell hM 2
    simp only [List.getElem?_toArray, List.getElem?_cons_zero, List.getElem?_cons_succ] at t0 t1 t2
    have HQ := Lib.hid (show RatAt Wz _ (lowZ (ZI b1 m1 * (d2 : Int) + (-ZI b2 m2) * (d1 : Int)) (d1 * d2)) (lowD (ZI b1 m1 * (d2 : Int) + (-ZI b2 m2) * (d1 : Int)) (d1 * d2)) from ⟨b9, nv9, dv9, k9, rfl, hn9, hm9, hz9⟩)
    have HBL := Lib.hid hI.1.1
    clear hI hc hn9 hm9 hz9 hM r3 r6 r7 r8 hBd h3
    go_wp2
    refine bodyPost_ret (v := .agg #[.bool b9, nv9, dv9]) (by simp [results, Tryd.results23, go_sem, t0, t1, t2]) rfl ?_
    exact ⟨_, rfl, HQ.out, HBL.out⟩

set_option maxRecDepth 100000 in
set_option maxHeartbeats 2000000 in
theorem RatFloor_any (xv : Value) (z : Int) (d : Nat) (w : World) (hx : RatAt w xv z d) (hd0 : 0 < d) (nz : (dig z.natAbs).length ≤ 100000) (nd : (dig d).length ≤ 100000) :
    Calls Tryd.prog 29 #[xv] w fun e w' => ∃ v', e = .returned v' ∧ IntAt w' v' (Int.fdiv z d) ∧ Below w.heap.size w w' := by
  obtain ⟨b1, v1, u1, m1, rfl, hm1, hn1, rfl⟩ := hx
  have HF := Lib.hid (fun W (h : Below w.heap.size w W) => IntFloor_any _ _ (ZI b1 m1) (d : Int) W ⟨b1, v1, m1, rfl, hm1.below h, rfl⟩ (natAt_int (hn1.below h)) (by omega) nz (by rw [dig_natCast]; exact nd))
  obtain ⟨a1, c1, rfl⟩ := hm1.slice
  obtain ⟨p1, r1, rfl⟩ := hn1.slice
  clear hm1 hn1 nz nd
  generalize (dig m1).length = l1 at *
  generalize (dig d).length = q1 at *
  have hal := alloc2 w (.cells #[.bool b1, .slice a1 l1 c1, .slice p1 q1 r1] 43) (.cells #[.bool false, .slice none 0 0] 41)
  go_enter Tryd.func29, Tryd.ntmps29
  go_upto_region 1 with fail
  generalize ((w.alloc (.cells #[.bool b1, .slice a1 l1 c1, .slice p1 q1 r1] 43)).alloc (.cells #[.bool false, .slice none 0 0] 41)) = w1 at *
  obtain ⟨hb1, h1, h3⟩ := hal
  have d0 := box_cell h1 0
  have d1 := box_cell h1 1
  have d2 := box_cell h1 2
  simp only [List.getElem?_toArray, List.getElem?_cons_zero, List.getElem?_cons_succ] at d0 d1 d2
  go_wp2_with fail
  refine (HF.out w1 hb1).mono ?_
  rintro e w2 ⟨qv, rv, rfl, hQ, hR, hb2⟩
  obtain ⟨b5, nv5, k5, rfl, hn5, hz5⟩ := hQ
  obtain ⟨b6, nv6, k6, rfl, hn6, hz6⟩ := hR
  have HN5 := Lib.hid hn5
  have HZ5 := Lib.hid hz5
  obtain ⟨a5, c5, rfl⟩ := hn5.slice
  obtain ⟨a6, c6, rfl⟩ := hn6.slice
  generalize (dig k5).length = l5 at *
  generalize (dig k6).length = l6 at *
  replace h3 := (hb2.block _ (box_lt h3)).trans h3
  have HB := Lib.hid (ext_trans hb1 hb2)
  clear d0 d1 d2 h1 hb1 hn5 hz5 hn6 hz6 HF
  have hlt3 := box_lt h3
  have hk := alloc2 w2 (.cells #[.bool b5, .slice a5 l5 c5] 41) (.cells #[.bool b6, .slice a6 l6 c6] 41)
  have hzero : NoInt [.bool false, .slice none 0 0] := by intro x hx; simp only [List.mem_cons, List.not_mem_nil, or_false] at hx; rcases hx with rfl | rfl <;> simp
  have e1 : ((w2.alloc (.cells #[.bool b5, .slice a5 l5 c5] 41)).alloc (.cells #[.bool b6, .slice a6 l6 c6] 41)).heap[w.heap.size + 1]? = some (.cells #[.bool false, .slice none 0 0] 41 (0, 0)) := (hk.1.block _ hlt3).trans h3
  have hs3 := store2 e1 (.bool b5) (.slice a5 l5 c5)
  have HNF := Lib.hid ((HN5.out.below hk.1).other e1 hzero hs3.2)
  have hbf := HB.out.trans (hk.1.mono HB.out.size)
  have HBF := Lib.hid ((hbf.setCell (p := ⟨w.heap.size + 1, 0, none⟩) (Nat.le_succ _) (.bool b5)).setCell (p := ⟨w.heap.size + 1, 1, none⟩) (Nat.le_succ _) (.slice a5 l5 c5))
  have x0 := box_cell hk.2.1 0
  have x1 := box_cell hk.2.1 1
  have y0 := box_cell e1 0
  have y1 := box_cell e1 1
  have z0 := box_frozen e1 0
  have z1 := box_frozen e1 1
  have t0 := box_cell hs3.1 0
  have t1 := box_cell hs3.1 1
  simp only [List.getElem?_toArray, List.getElem?_cons_zero, List.getElem?_cons_succ] at x0 x1 y0 y1 t0 t1
  clear hk hzero e1 hs3 hbf h3
  go_upto_region 2 with fail
  generalize ((w2.alloc (.cells #[.bool b5, .slice a5 l5 c5] 41)).alloc (.cells #[.bool b6, .slice a6 l6 c6] 41)) = W5 at *
  go_wp2
  refine bodyPost_ret (v := .agg #[.bool b5, .slice a5 l5 c5]) (by simp [results, Tryd.results29, go_sem, t0, t1]) rfl ?_
  exact ⟨_, rfl, ⟨_, _, k5, rfl, HNF.out, HZ5.out⟩, HBF.out⟩
end Go.Proofs.YtpmadgmjkljbgaaDoor

/- Walk: Number (brindlewoodref3). -/
namespace Go.Proofs.YtpmadgmjkljbgaaDoor
open Go.RowKit

theorem tmod_bit (m : Int) : (Int.tmod m 2 != 0) = (m.natAbs % 2 == 1) := by
  have : (Int.tmod m 2).natAbs = m.natAbs % 2 := by
    rw [Int.natAbs_tmod]; rfl
  rw [Bool.eq_iff_iff, bne_iff_ne, beq_iff_eq, ← this]
  have h : (Int.tmod m 2).natAbs < 2 := by rw [this]; omega
  omega
theorem tdiv_half (m : Int) : (Int.tdiv m 2).natAbs = m.natAbs / 2 := by rw [Int.natAbs_tdiv]; rfl
theorem tdiv_in {m : Int} (h1 : -9223372036854775808 ≤ m) (h2 : m ≤ 9223372036854775807) : -9223372036854775808 ≤ Int.tdiv m 2 ∧ Int.tdiv m 2 ≤ 9223372036854775807 := by
  have := tdiv_half m
  omega

set_option maxRecDepth 100000 in
set_option maxHeartbeats 2000000 in
theorem Number_any (n : Int) (w : World) (hn1 : -9223372036854775808 ≤ n) (hn2 : n ≤ 9223372036854775807) :
    Calls Tryd.prog 54 #[.int .i64 n] w fun e w' => ∃ v', e = .returned v' ∧ IntAt w' v' n ∧ Below w.heap.size w w' := by
  obtain ⟨i1, hji, hy0, hy1, hy2⟩ := info_parts infoB
  have hal := ext_alloc w (.cells #[.bool false, .slice none 0 0] 41)
  have h3 := heap_new w (.cells #[.bool false, .slice none 0 0] 41)
  go_enter Tryd.func54, Tryd.ntmps54
  go_wp2
  generalize (w.alloc (.cells #[.bool false, .slice none 0 0] 41)) = w1 at *
  go_loopg [0, 3] 9223372036854775808 (fun q s0 s3 wr => ∃ (m : Int) (o : List Bool), s0 = .int .i64 m ∧ m.natAbs ≤ q ∧ -9223372036854775808 ≤ m ∧ m ≤ 9223372036854775807 ∧ wr.ownsRow w1.heap.size 4 1 s3 o.length (o.map Value.bool) ∧ o.length ≤ 64 ∧ Hid (VB o + m.natAbs * 2 ^ o.length = n.natAbs) ∧ Below w1.heap.size w1 wr)
  case atStart => exact ⟨n, [], rfl, by omega, hn1, hn2, World.ownsRow_nil _ _ _ _, by simp, by unfold Hid; simp [VB], Below.refl _ _⟩
  case round =>
    obtain ⟨m, o, rfl, hq, hm1, hm2, hown, hol, hV, hb⟩ := hrel
    by_cases hm : m = 0
    · subst hm
      have HV := Lib.hid (show VB o = n.natAbs by have := hV.out; simpa using this)
      have hlt := hb.block _ (box_lt h3)
      replace h3 := hlt.trans h3
      have hT := Binary_any _ o wr (bools_own hown) (by omega)
      rw [HV.out] at hT
      have HT := Lib.hid hT
      have HB := Lib.hid (ext_trans hal hb)
      clear hV hown hT hlt hal
      go_wp2_with fail
      refine HT.out.mono ?_
      rintro e w3 ⟨v', rfl, hN, hb3⟩
      have HN := Lib.hid hN
      obtain ⟨a5, c5, rfl⟩ := hN.slice
      generalize (dig n.natAbs).length = l5 at *
      replace h3 := (hb3.block _ (box_lt h3)).trans h3
      have g0 := box_cell h3 0
      have g1 := box_cell h3 1
      have f0 := box_frozen h3 0
      have f1 := box_frozen h3 1
      have hs := store2 h3 (.bool (decide (n < 0))) (.slice a5 l5 c5)
      have t0 := box_cell hs.1 0
      have t1 := box_cell hs.1 1
      have HF := Lib.hid (natAt_set h3 HN.out (decide (n < 0)) (.slice a5 l5 c5))
      have HBF := Lib.hid (((ext_trans HB.out hb3).setCell (p := ⟨w.heap.size, 0, none⟩) (Nat.le_refl _) (.bool (decide (n < 0)))).setCell (p := ⟨w.heap.size, 1, none⟩) (Nat.le_refl _) (.slice a5 l5 c5))
      simp only [List.getElem?_toArray, List.getElem?_cons_zero, List.getElem?_cons_succ] at g0 g1 t0 t1
      clear hN h3 hs
      go_wp2
      refine bodyPost_ret (v := .agg #[.bool (decide (n < 0)), .slice a5 l5 c5]) (by simp [results, Tryd.results54, go_sem, t0, t1]) rfl ?_
      exact ⟨_, rfl, ⟨_, _, n.natAbs, rfl, HF.out, by unfold ZI; by_cases h : n < 0 <;> simp [h] <;> omega⟩, HBF.out⟩
    · have HT := Lib.hid (tmod_bit m)
      have HD := Lib.hid (tdiv_half m)
      have hdi := tdiv_in hm1 hm2
      have HDI := Lib.hid hdi
      have hol2 : o.length + 1 ≤ 64 := by
        have h1 : 1 * 2 ^ o.length ≤ m.natAbs * 2 ^ o.length := Nat.mul_le_mul_right _ (by omega)
        have h2 := hV.out
        have h4 : 2 ^ o.length < 2 ^ 64 := by
          have : n.natAbs ≤ 9223372036854775808 := by omega
          have : (2 : Nat) ^ 64 = 18446744073709551616 := by decide
          omega
        have := (Nat.pow_lt_pow_iff_right (by decide)).1 h4
        omega
      have HQ := Lib.hid (show (Int.tdiv m 2).natAbs ≤ m.natAbs - 1 by rw [HD.out]; omega)
      have HV2 := Lib.hid (show VB (o ++ [m.natAbs % 2 == 1]) + (Int.tdiv m 2).natAbs * 2 ^ (o ++ [m.natAbs % 2 == 1]).length = n.natAbs by
        rw [HD.out]
        have := ones_step hV.out rfl
        simpa using this)
      have hqm : 0 < m.natAbs := by omega
      clear hV hdi
      go_wp2_with (at_builtin; refine wpList_append_own _ rfl _ _ 46 rfl w1.heap.size 4 i1 (.bool false) 1 1 Tryd.underlying46 hji hy0 hy1 hy2 rfl (by decide) _ _ _ rfl (hown.alloc _) ⟨wr.heap.size, 0, none⟩ 1 1 [.bool (Int.tmod m 2 != 0)] rfl rfl ?c1on ?c2on ?c3on ?c4on ?c5on ?_)
      try (case c1on => exact cell_one_new _ _ _)
      try (case c2on => simp [Value.oneCell'])
      case c3on => rw [maxLen_eq']; omega
      case c4on => omega
      case c5on => have := hb.size; simp; omega
      intro v' w2 hown2 hgr2 _
      have hb2 : Below w1.heap.size w1 w2 := (hb.alloc hb.size _).grown hgr2 (by have := hb.size; simp; omega) (fun q hq => (hown.lt q hq).1)
      have hown3 := own_snocB (x := (m.natAbs % 2 == 1)) hown2 rfl HT.out
      clear hown hown2 hgr2
      have hdi := HDI.out
      have hwr : IntKind.i64.wrap (Int.tdiv m 2) = Int.tdiv m 2 := IntWalk.i64_in _ (by omega)
      go_wp2
      go_roundg (m.natAbs - 1)
      case measure => omega
      case rel => exact ⟨Int.tdiv m 2, _, rfl, HQ.out, hdi.1, hdi.2, hown3, by simp; omega, HV2, hb2⟩
end Go.Proofs.YtpmadgmjkljbgaaDoor
