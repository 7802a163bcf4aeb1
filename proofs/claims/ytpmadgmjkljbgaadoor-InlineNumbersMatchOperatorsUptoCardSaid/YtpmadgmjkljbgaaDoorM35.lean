/- Part 35 of the proof. -/
import Derived.Test.YtpmadgmjkljbgaaDoorM24

/- Walk: Arithmetic, operator 15. -/
namespace Go.Proofs.YtpmadgmjkljbgaaDoor
open Go.RowKit

set_option maxRecDepth 100000 in
set_option maxHeartbeats 4000000 in
theorem Arith15_any (v1 v2 : Value) (x1 x2 : Vl) (w : World) (hv1 : VlAt w v1 x1) (hv2 : VlAt w v2 x2) (hg1 : VGood x1) (hg2 : VGood x2) (l1 : Lg x1.nl) (l2 : Lg x2.nl) (e1 : Lg x1.dl) (e2 : Lg x2.dl) (hn1 : isN x1 = true) (hn2 : isN x2 = true) :
    Calls Tryd.prog 9 #[.int .i64 15, v1, v2] w fun e w' => ArQ (binOk (smallV x1) (smallV x2) 15 (smallZ x1) (smallZ x2)) (valZ (binZ 15 (smallZ x1) (smallZ x2))) w e w' := by
  have HLAW := Lib.hid (show binOk (smallV x1) (smallV x2) 15 (smallZ x1) (smallZ x2) = true → False from fun h => binOk_no (by decide) h)
  have HG1 := Lib.hid (numZD_good hg1 l1 e1 hn1)
  have HG2 := Lib.hid (numZD_good hg2 l2 e2 hn2)
  have HN1 := Lib.hid (fun W (h : Below w.heap.size w W) => NumberW_any v1 x1 W (hv1.below h) l1 e1 (goodL hg1 hn1).1 (goodL hg1 hn1).2)
  have HN2 := Lib.hid (fun W (h : Below w.heap.size w W) => NumberW_any v2 x2 W (hv2.below h) l2 e2 (goodL hg2 hn2).1 (goodL hg2 hn2).2)
  have HK1 := Lib.hid (fun W (h : Below w.heap.size w W) => IsNumber_any v1 x1 W (hv1.below h))
  have HK2 := Lib.hid (fun W (h : Below w.heap.size w W) => IsNumber_any v2 x2 W (hv2.below h))
  have HGI1 := Lib.hid (show (dig (ZI x1.nn (VL x1.nl)).natAbs).length ≤ 1000 from numZD_fst x1 ▸ HG1.out.1)
  have HGI2 := Lib.hid (show (dig (ZI x2.nn (VL x2.nl)).natAbs).length ≤ 1000 from numZD_fst x2 ▸ HG2.out.1)
  have HI1 := Lib.hid (fun W (h : Below w.heap.size w W) => I_any v1 x1 W (hv1.below h) l1 (goodL hg1 hn1).1)
  have HI2 := Lib.hid (fun W (h : Below w.heap.size w W) => I_any v2 x2 W (hv2.below h) l2 (goodL hg2 hn2).1)
  generalize ZI x1.nn (VL x1.nl) = I1 at *
  generalize ZI x2.nn (VL x2.nl) = I2 at *
  unfold isN at hn1 hn2
  rw [hn1] at HK1
  rw [hn2] at HK2
  generalize binOk (smallV x1) (smallV x2) 15 (smallZ x1) (smallZ x2) = ok at *
  generalize valZ (binZ 15 (smallZ x1) (smallZ x2)) = zz at *
  generalize numZD x1 = P1 at *
  generalize numZD x2 = P2 at *
  clear hg1 hg2 l1 l2 e1 e2 hn1 hn2
  obtain ⟨k1, nn1, nl1, dn1, dl1, s1, i1⟩ := x1
  obtain ⟨av1, bv1, rfl, hx1, hy1⟩ := hv1
  replace hx1 : RowU w av1 nl1 := hx1
  replace hy1 : RowU w bv1 dl1 := hy1
  obtain ⟨a1, c1, rfl, -⟩ := hx1
  obtain ⟨p1, r1, rfl, -⟩ := hy1
  obtain ⟨k2, nn2, nl2, dn2, dl2, s2, i2⟩ := x2
  obtain ⟨av2, bv2, rfl, hx2, hy2⟩ := hv2
  replace hx2 : RowU w av2 nl2 := hx2
  replace hy2 : RowU w bv2 dl2 := hy2
  obtain ⟨a2, c2, rfl, -⟩ := hx2
  obtain ⟨p2, r2, rfl, -⟩ := hy2
  generalize nl1.length = m1 at *
  generalize nl2.length = m2 at *
  generalize dl1.length = q1 at *
  generalize dl2.length = q2 at *
  have hal := alloc3 w (.cells #[.int .i64 k1, .bool nn1, .slice a1 m1 c1, .bool dn1, .slice p1 q1 r1, .string s1, .int .i64 i1] 26) (.cells #[.int .i64 k2, .bool nn2, .slice a2 m2 c2, .bool dn2, .slice p2 q2 r2, .string s2, .int .i64 i2] 26) (.cells #[.int .i64 0, .int .i64 0, .bool false, .slice none 0 0, .bool false, .slice none 0 0, .string ⟨#[]⟩, .int .i64 0, .int .i64 0, .string ⟨#[]⟩, .int .i64 0, .bool false, .slice none 0 0, .bool false, .slice none 0 0, .string ⟨#[]⟩, .int .i64 0, .slice none 0 0] 33)
  go_enter Tryd.func9, Tryd.ntmps9
  go_upto_region 1 with fail
  generalize (((w.alloc (.cells #[.int .i64 k1, .bool nn1, .slice a1 m1 c1, .bool dn1, .slice p1 q1 r1, .string s1, .int .i64 i1] 26)).alloc (.cells #[.int .i64 k2, .bool nn2, .slice a2 m2 c2, .bool dn2, .slice p2 q2 r2, .string s2, .int .i64 i2] 26)).alloc (.cells #[.int .i64 0, .int .i64 0, .bool false, .slice none 0 0, .bool false, .slice none 0 0, .string ⟨#[]⟩, .int .i64 0, .int .i64 0, .string ⟨#[]⟩, .int .i64 0, .bool false, .slice none 0 0, .bool false, .slice none 0 0, .string ⟨#[]⟩, .int .i64 0, .slice none 0 0] 33)) = w1 at *
  obtain ⟨hb1, h1, h2, h3⟩ := hal
  refine wp_region_lit ?_
  refine wpL_load stVal h1 (by rfl) (by rfl) ?_
  go_wp2_with fail
  refine (HK1.out w1 hb1).mono ?_
  rintro e w2 ⟨rfl, hb2⟩
  replace h1 := (hb2.block _ (box_lt h1)).trans h1
  replace h2 := (hb2.block _ (box_lt h2)).trans h2
  replace h3 := (hb2.block _ (box_lt h3)).trans h3
  have hb12 := ext_trans hb1 hb2
  have e0 := box_cell h2 0
  have e1 := box_cell h2 1
  have e2 := box_cell h2 2
  have e3 := box_cell h2 3
  have e4 := box_cell h2 4
  have e5 := box_cell h2 5
  have e6 := box_cell h2 6
  simp only [List.getElem?_toArray, List.getElem?_cons_zero, List.getElem?_cons_succ] at e0 e1 e2 e3 e4 e5 e6
  go_wp2_with fail
  refine (HK2.out w2 hb12).mono ?_
  rintro e w3 ⟨rfl, hb3⟩
  replace h1 := (hb3.block _ (box_lt h1)).trans h1
  replace h2 := (hb3.block _ (box_lt h2)).trans h2
  replace h3 := (hb3.block _ (box_lt h3)).trans h3
  have hb13 := ext_trans hb12 hb3
  clear e0 e1 e2 e3 e4 e5 e6 hb1 hb2 hb3 hb12 HK1 HK2
  have hlt3 := box_lt h3
  have hB : Bxs [(w.heap.size, (.cells #[.int .i64 k1, .bool nn1, .slice a1 m1 c1, .bool dn1, .slice p1 q1 r1, .string s1, .int .i64 i1] 26)), (w.heap.size + 1, (.cells #[.int .i64 k2, .bool nn2, .slice a2 m2 c2, .bool dn2, .slice p2 q2 r2, .string s2, .int .i64 i2] 26)), (w.heap.size + 1 + 1, (.cells #[.int .i64 0, .int .i64 0, .bool false, .slice none 0 0, .bool false, .slice none 0 0, .string ⟨#[]⟩, .int .i64 0, .int .i64 0, .string ⟨#[]⟩, .int .i64 0, .bool false, .slice none 0 0, .bool false, .slice none 0 0, .string ⟨#[]⟩, .int .i64 0, .slice none 0 0] 33))] w w3 := ⟨hb13, fun x hx => by
    simp only [List.mem_cons, List.not_mem_nil, or_false] at hx
    rcases hx with rfl | rfl | rfl
    · exact h1
    · exact h2
    · exact h3⟩
  clear h1 h2 h3 hb13
  go_upto_region 3 with fail
  have hBd := hB.drew
  clear hB
  obtain ⟨B1, hB1, hB1w⟩ : ∃ B1, B1 ≤ w3.drew.heap.size ∧ w.heap.size + 1 + 1 < B1 := ⟨w3.drew.heap.size, Nat.le_refl _, box_lt (hBd.2 (w.heap.size + 1 + 1, (.cells #[.int .i64 0, .int .i64 0, .bool false, .slice none 0 0, .bool false, .slice none 0 0, .string ⟨#[]⟩, .int .i64 0, .int .i64 0, .string ⟨#[]⟩, .int .i64 0, .bool false, .slice none 0 0, .bool false, .slice none 0 0, .string ⟨#[]⟩, .int .i64 0, .slice none 0 0] 33)) (by simp))⟩
  have HB1 := Lib.hid hB1
  clear hB1 hlt3
  refine wp_region_noPanic ?_
  refine wp_region_L (S := fun _ W => Bxs [(w.heap.size, (.cells #[.int .i64 k1, .bool nn1, .slice a1 m1 c1, .bool dn1, .slice p1 q1 r1, .string s1, .int .i64 i1] 26)), (w.heap.size + 1, (.cells #[.int .i64 k2, .bool nn2, .slice a2 m2 c2, .bool dn2, .slice p2 q2 r2, .string s2, .int .i64 i2] 26)), (w.heap.size + 1 + 1, (.cells #[.int .i64 0, .int .i64 0, .bool false, .slice none 0 0, .bool false, .slice none 0 0, .string ⟨#[]⟩, .int .i64 0, .int .i64 0, .string ⟨#[]⟩, .int .i64 0, .bool false, .slice none 0 0, .bool false, .slice none 0 0, .string ⟨#[]⟩, .int .i64 0, .slice none 0 0] 33))] w W) (by kernel_rfl) ?_
  refine wpAnyL_take (T := fun W => Bxs [(w.heap.size, (.cells #[.int .i64 k1, .bool nn1, .slice a1 m1 c1, .bool dn1, .slice p1 q1 r1, .string s1, .int .i64 i1] 26)), (w.heap.size + 1, (.cells #[.int .i64 k2, .bool nn2, .slice a2 m2 c2, .bool dn2, .slice p2 q2 r2, .string s2, .int .i64 i2] 26)), (w.heap.size + 1 + 1, (.cells #[.int .i64 0, .int .i64 0, .bool false, .slice none 0 0, .bool false, .slice none 0 0, .string ⟨#[]⟩, .int .i64 0, .int .i64 0, .string ⟨#[]⟩, .int .i64 0, .bool false, .slice none 0 0, .bool false, .slice none 0 0, .string ⟨#[]⟩, .int .i64 0, .slice none 0 0] 33))] w W) (i := 0) (v := .agg #[.int .i64 k1, .bool nn1, .slice a1 m1 c1, .bool dn1, .slice p1 q1 r1, .string s1, .int .i64 i1]) rfl (by kernel_rfl) (by kernel_rfl) (by kernel_rfl) (fun _ _ _ h => h) (fun _ _ => Iff.rfl) (fun _ _ _ _ h => h) (Closed.of_B (by kernel_rfl)) (Or.inl ⟨by kernel_rfl, ?hyA0⟩) hBd ?restA0
  case hyA0 => exact runs_load (T := fun W => Bxs [(w.heap.size, (.cells #[.int .i64 k1, .bool nn1, .slice a1 m1 c1, .bool dn1, .slice p1 q1 r1, .string s1, .int .i64 i1] 26)), (w.heap.size + 1, (.cells #[.int .i64 k2, .bool nn2, .slice a2 m2 c2, .bool dn2, .slice p2 q2 r2, .string s2, .int .i64 i2] 26)), (w.heap.size + 1 + 1, (.cells #[.int .i64 0, .int .i64 0, .bool false, .slice none 0 0, .bool false, .slice none 0 0, .string ⟨#[]⟩, .int .i64 0, .int .i64 0, .string ⟨#[]⟩, .int .i64 0, .bool false, .slice none 0 0, .bool false, .slice none 0 0, .string ⟨#[]⟩, .int .i64 0, .slice none 0 0] 33))] w W) stVal (fun W hW => hW.2 (w.heap.size, (.cells #[.int .i64 k1, .bool nn1, .slice a1 m1 c1, .bool dn1, .slice p1 q1 r1, .string s1, .int .i64 i1] 26)) (by simp)) rfl (by rfl)
  go_simp
  refine wpAnyL_take (T := fun W => Bxs [(w.heap.size, (.cells #[.int .i64 k1, .bool nn1, .slice a1 m1 c1, .bool dn1, .slice p1 q1 r1, .string s1, .int .i64 i1] 26)), (w.heap.size + 1, (.cells #[.int .i64 k2, .bool nn2, .slice a2 m2 c2, .bool dn2, .slice p2 q2 r2, .string s2, .int .i64 i2] 26)), (w.heap.size + 1 + 1, (.cells #[.int .i64 0, .int .i64 0, .bool false, .slice none 0 0, .bool false, .slice none 0 0, .string ⟨#[]⟩, .int .i64 0, .int .i64 0, .string ⟨#[]⟩, .int .i64 0, .bool false, .slice none 0 0, .bool false, .slice none 0 0, .string ⟨#[]⟩, .int .i64 0, .slice none 0 0] 33))] w W) (i := 2) (v := .agg #[.int .i64 k2, .bool nn2, .slice a2 m2 c2, .bool dn2, .slice p2 q2 r2, .string s2, .int .i64 i2]) rfl (by kernel_rfl) (by kernel_rfl) (by kernel_rfl) (fun _ _ _ h => h) (fun _ _ => Iff.rfl) (fun _ _ _ _ h => h) (Closed.of_B (by kernel_rfl)) (Or.inl ⟨by kernel_rfl, ?hyA2⟩) hBd ?restA2
  case hyA2 => exact runs_load (T := fun W => Bxs [(w.heap.size, (.cells #[.int .i64 k1, .bool nn1, .slice a1 m1 c1, .bool dn1, .slice p1 q1 r1, .string s1, .int .i64 i1] 26)), (w.heap.size + 1, (.cells #[.int .i64 k2, .bool nn2, .slice a2 m2 c2, .bool dn2, .slice p2 q2 r2, .string s2, .int .i64 i2] 26)), (w.heap.size + 1 + 1, (.cells #[.int .i64 0, .int .i64 0, .bool false, .slice none 0 0, .bool false, .slice none 0 0, .string ⟨#[]⟩, .int .i64 0, .int .i64 0, .string ⟨#[]⟩, .int .i64 0, .bool false, .slice none 0 0, .bool false, .slice none 0 0, .string ⟨#[]⟩, .int .i64 0, .slice none 0 0] 33))] w W) stVal (fun W hW => hW.2 (w.heap.size + 1, (.cells #[.int .i64 k2, .bool nn2, .slice a2 m2 c2, .bool dn2, .slice p2 q2 r2, .string s2, .int .i64 i2] 26)) (by simp)) rfl (by rfl)
  go_simp
  refine wpAnyL_rows (R := fun i v _ W => match i with | 1 => RatAt W v (P1.1) (P1.2) | 3 => RatAt W v (P2.1) (P2.2) | _ => True) (I := fun L vs W => (Bxs [(w.heap.size, (.cells #[.int .i64 k1, .bool nn1, .slice a1 m1 c1, .bool dn1, .slice p1 q1 r1, .string s1, .int .i64 i1] 26)), (w.heap.size + 1, (.cells #[.int .i64 k2, .bool nn2, .slice a2 m2 c2, .bool dn2, .slice p2 q2 r2, .string s2, .int .i64 i2] 26)), (w.heap.size + 1 + 1, (.cells #[.int .i64 0, .int .i64 0, .bool false, .slice none 0 0, .bool false, .slice none 0 0, .string ⟨#[]⟩, .int .i64 0, .int .i64 0, .string ⟨#[]⟩, .int .i64 0, .bool false, .slice none 0 0, .bool false, .slice none 0 0, .string ⟨#[]⟩, .int .i64 0, .slice none 0 0] 33))] w W) ∧ B1 ≤ W.heap.size ∧ Two 43 3 43 3 B1 (RatC (P1.1) (P1.2)) (RatC (P2.1) (P2.2)) 4 6 5 7 L vs W) [((1, some 22, []), []), ((3, some 24, []), []), ((4, some 8, []), []), ((5, some 9, []), []), ((6, none, [1, 4]), [(1, some 22, []), (4, some 8, [])]), ((7, none, [3, 5]), [(3, some 24, []), (5, some 9, [])])] (by kernel_rfl) (by decide) (fun _ _ _ h => h.1) (fun _ => ⟨hBd, HB1.out, Two.start (by kernel_rfl) (by kernel_rfl)⟩) ?tabA ?finA
  case tabA =>
    refine TabAll.cons rfl (by kernel_rfl) (fun L vs W hsz hcl hn hd hdn hI K hK => ?_) ?_
    · simp only [putsD, Act.put, List.setIfInBounds_toArray, List.set_cons_zero, List.set_cons_succ] at hK ⊢
      clear hd hdn
      go_simp
      refine (HN1.out W hI.1.1).mono ?_
      rintro e W3 ⟨v', rfl, hv, hb3⟩
      refine hK _ v' _ (by rfl) (fun i u l hij hL h => ?_) hv ⟨hI.1.below hb3, Nat.le_trans hI.2.1 hb3.size, hI.2.2.below (RatC.good _ _) (RatC.good _ _) hb3 1 v' (by decide) (by decide) (by decide) (by decide)⟩
      · match i, hij, hL, h with
        | 1, _, _, h => exact RatAt.below h hb3
        | 3, _, _, h => exact RatAt.below h hb3
        | 0, _, _, _ | 2, _, _, _ | _ + 4, _, _, _ => trivial
    refine TabAll.cons rfl (by kernel_rfl) (fun L vs W hsz hcl hn hd hdn hI K hK => ?_) ?_
    · simp only [putsD, Act.put, List.setIfInBounds_toArray, List.set_cons_zero, List.set_cons_succ] at hK ⊢
      clear hd hdn
      go_simp
      refine (HN2.out W hI.1.1).mono ?_
      rintro e W3 ⟨v', rfl, hv, hb3⟩
      refine hK _ v' _ (by rfl) (fun i u l hij hL h => ?_) hv ⟨hI.1.below hb3, Nat.le_trans hI.2.1 hb3.size, hI.2.2.below (RatC.good _ _) (RatC.good _ _) hb3 3 v' (by decide) (by decide) (by decide) (by decide)⟩
      · match i, hij, hL, h with
        | 1, _, _, h => exact RatAt.below h hb3
        | 3, _, _, h => exact RatAt.below h hb3
        | 0, _, _, _ | 2, _, _, _ | _ + 4, _, _, _ => trivial
    refine TabAll.cons rfl (by kernel_rfl) (fun L vs W hsz hcl hn hd hdn hI K hK => ?_) ?_
    · simp only [putsD, Act.put, List.setIfInBounds_toArray, List.set_cons_zero, List.set_cons_succ] at hK ⊢
      clear hd hdn
      have hs6 := hcl.notYet (k := 6) (i := 4) (by kernel_rfl) hn
      go_simp
      have hb3 := ext_alloc W (.cells #[.bool false, .slice none 0 0, .slice none 0 0] 43 (0, 0))
      refine hK _ (.pointer (some ⟨W.heap.size, 0, none⟩)) _ (by rfl) (fun i u l hij hL h => ?_) trivial ⟨hI.1.below hb3, Nat.le_trans hI.2.1 hb3.size, hI.2.2.new1 (RatC.good _ _) (RatC.good _ _) hs6 hI.2.1 [.bool false, .slice none 0 0, .slice none 0 0] rfl noInt_zeroR (by decide) (by decide) (by decide)⟩
      · match i, hij, hL, h with
        | 1, _, _, h => exact RatAt.below h hb3
        | 3, _, _, h => exact RatAt.below h hb3
        | 0, _, _, _ | 2, _, _, _ | _ + 4, _, _, _ => trivial
    refine TabAll.cons rfl (by kernel_rfl) (fun L vs W hsz hcl hn hd hdn hI K hK => ?_) ?_
    · simp only [putsD, Act.put, List.setIfInBounds_toArray, List.set_cons_zero, List.set_cons_succ] at hK ⊢
      clear hd hdn
      have hs6 := hcl.notYet (k := 7) (i := 5) (by kernel_rfl) hn
      go_simp
      have hb3 := ext_alloc W (.cells #[.bool false, .slice none 0 0, .slice none 0 0] 43 (0, 0))
      refine hK _ (.pointer (some ⟨W.heap.size, 0, none⟩)) _ (by rfl) (fun i u l hij hL h => ?_) trivial ⟨hI.1.below hb3, Nat.le_trans hI.2.1 hb3.size, hI.2.2.new2 (RatC.good _ _) (RatC.good _ _) hs6 hI.2.1 [.bool false, .slice none 0 0, .slice none 0 0] rfl noInt_zeroR (by decide) (by decide) (by decide)⟩
      · match i, hij, hL, h with
        | 1, _, _, h => exact RatAt.below h hb3
        | 3, _, _, h => exact RatAt.below h hb3
        | 0, _, _, _ | 2, _, _, _ | _ + 4, _, _, _ => trivial
    refine TabAll.cons rfl (by kernel_rfl) (fun L vs W hsz hcl hn hd hdn hI K hK => ?_) ?_
    · simp only [putsD, Act.put, List.setIfInBounds_toArray, List.set_cons_zero, List.set_cons_succ] at hK ⊢
      have r1 := hd.1
      have r4 := hd.2.1
      generalize hv1 : vs 1 = v1 at *
      have HV1 := Lib.hid hv1
      clear hv1
      generalize hv4 : vs 4 = v4 at *
      have HV4 := Lib.hid hv4
      clear hv4
      clear hd
      have q9 : RatAt W v1 (P1.1) (P1.2) := r1
      clear r1 r4
      obtain ⟨M, old, hp, hBM, hM, hno, hol, -⟩ := hI.2.2.1 hdn.2.1
      have hp' : v4 = .pointer (some ⟨M, 0, none⟩) := HV4.out.symm.trans hp
      subst hp'
      obtain ⟨b9, nv9, dv9, k9, rfl, hn9, hm9, hz9⟩ := q9
      obtain ⟨a9, c9, rfl⟩ := hn9.slice
      obtain ⟨a8, c8, rfl⟩ := hm9.slice
      generalize hl9 : (dig k9).length = l9 at *
      generalize hl8 : (dig (P1.2)).length = l8 at *
      have HS := Lib.hid (setRow_facts hM #[.bool b9, .slice a9 l9 c9, .slice a8 l8 c8])
      have HC : RatC (P1.1) (P1.2) W [.bool b9, .slice a9 l9 c9, .slice a8 l8 c8] := ⟨b9, _, _, k9, rfl, hn9, hm9, hz9⟩
      have HTW := Lib.hid (hI.2.2.fill1 (W' := W.setRow M #[.bool b9, .slice a9 l9 c9, .slice a8 l8 c8]) (RatC.good _ _) (RatC.good _ _) hdn.2.1 hp hM hno hBM HS.out.1 HS.out.2.1 HC.noInt rfl HC undef (by decide) (by decide) (by decide))
      have HI := Lib.hid hI
      have HM := Lib.hid hM
      have HNO := Lib.hid hno
      clear hI hn9 hm9 hz9 hl9 hl8 hcl hn hsz HC hp hdn hno
      refine wpO_store (cells := #[.bool b9, .slice a9 l9 c9, .slice a8 l8 c8]) stRat hM (by simpa using hol) (by rfl) (by rfl) (by rfl) (by rfl) ?_
      refine hK _ undef _ (by rfl) (fun i u l hij hL h => ?_) trivial ⟨⟨HS.out.2.2 _ _ (by omega) HI.out.1.1, fun x hx => ?_⟩, by simpa using HI.out.2.1, HTW.out⟩
      · match i, hij, hL, h with
        | 1, _, _, h => exact ratAt_other h HM.out HNO.out HS.out.2.1
        | 3, _, _, h => exact ratAt_other h HM.out HNO.out HS.out.2.1
        | 0, _, _, _ | 2, _, _, _ | _ + 4, _, _, _ => trivial
      · have hx' := HI.out.1.2 x hx
        simp only [List.mem_cons, List.not_mem_nil, or_false] at hx
        rcases hx with rfl | rfl | rfl
        all_goals exact (HS.out.2.1 _ (box_lt hx') (by simp only; omega)).trans hx'
    refine TabAll.cons rfl (by kernel_rfl) (fun L vs W hsz hcl hn hd hdn hI K hK => ?_) ?_
    · simp only [putsD, Act.put, List.setIfInBounds_toArray, List.set_cons_zero, List.set_cons_succ] at hK ⊢
      have r3 := hd.1
      have r5 := hd.2.1
      generalize hv3 : vs 3 = v3 at *
      have HV3 := Lib.hid hv3
      clear hv3
      generalize hv5 : vs 5 = v5 at *
      have HV5 := Lib.hid hv5
      clear hv5
      clear hd
      have q9 : RatAt W v3 (P2.1) (P2.2) := r3
      clear r3 r5
      obtain ⟨M, old, hp, hBM, hM, hno, hol, -⟩ := hI.2.2.2.1 hdn.2.1
      have hp' : v5 = .pointer (some ⟨M, 0, none⟩) := HV5.out.symm.trans hp
      subst hp'
      obtain ⟨b9, nv9, dv9, k9, rfl, hn9, hm9, hz9⟩ := q9
      obtain ⟨a9, c9, rfl⟩ := hn9.slice
      obtain ⟨a8, c8, rfl⟩ := hm9.slice
      generalize hl9 : (dig k9).length = l9 at *
      generalize hl8 : (dig (P2.2)).length = l8 at *
      have HS := Lib.hid (setRow_facts hM #[.bool b9, .slice a9 l9 c9, .slice a8 l8 c8])
      have HC : RatC (P2.1) (P2.2) W [.bool b9, .slice a9 l9 c9, .slice a8 l8 c8] := ⟨b9, _, _, k9, rfl, hn9, hm9, hz9⟩
      have HTW := Lib.hid (hI.2.2.fill2 (W' := W.setRow M #[.bool b9, .slice a9 l9 c9, .slice a8 l8 c8]) (RatC.good _ _) (RatC.good _ _) hdn.2.1 hp hM hno hBM HS.out.1 HS.out.2.1 HC.noInt rfl HC undef (by decide) (by decide) (by decide))
      have HI := Lib.hid hI
      have HM := Lib.hid hM
      have HNO := Lib.hid hno
      clear hI hn9 hm9 hz9 hl9 hl8 hcl hn hsz HC hp hdn hno
      refine wpO_store (cells := #[.bool b9, .slice a9 l9 c9, .slice a8 l8 c8]) stRat hM (by simpa using hol) (by rfl) (by rfl) (by rfl) (by rfl) ?_
      refine hK _ undef _ (by rfl) (fun i u l hij hL h => ?_) trivial ⟨⟨HS.out.2.2 _ _ (by omega) HI.out.1.1, fun x hx => ?_⟩, by simpa using HI.out.2.1, HTW.out⟩
      · match i, hij, hL, h with
        | 1, _, _, h => exact ratAt_other h HM.out HNO.out HS.out.2.1
        | 3, _, _, h => exact ratAt_other h HM.out HNO.out HS.out.2.1
        | 0, _, _, _ | 2, _, _, _ | _ + 4, _, _, _ => trivial
      · have hx' := HI.out.1.2 x hx
        simp only [List.mem_cons, List.not_mem_nil, or_false] at hx
        rcases hx with rfl | rfl | rfl
        all_goals exact (HS.out.2.1 _ (box_lt hx') (by simp only; omega)).trans hx'
    exact TabAll.nil
  case finA =>
    intro vs Wp hd L hsz hall hI
    have r1 := hd.1
    have r3 := hd.2.1
    have r4 := hd.2.2.1
    have r5 := hd.2.2.2.1
    have r6 := hd.2.2.2.2.1
    have r7 := hd.2.2.2.2.2.1
    simp only [List.map_cons, List.map_nil, putsD, Act.put, List.setIfInBounds_toArray, List.set_cons_zero, List.set_cons_succ]
    have E1 := hI.2.2.end1 (hall 4 (by decide)) (hall 6 (by decide))
    have E2 := hI.2.2.end2 (hall 5 (by decide)) (hall 7 (by decide))
    generalize vs 1 = v1 at *
    generalize vs 3 = v3 at *
    generalize vs 4 = v4 at *
    generalize vs 5 = v5 at *
    generalize vs 6 = v6 at *
    generalize vs 7 = v7 at *
    clear hd hall hsz
    refine NoPanic.normal ?_
    clear r1 r3 r4 r5 r6 r7
    obtain ⟨M8, o8, rfl, hB8, hM8, -, -, hc8⟩ := E1
    obtain ⟨b8, nv8, dv8, k8, rfl, hn8, hm8, hz8⟩ := hc8 rfl
    obtain ⟨a8, c8, rfl⟩ := hn8.slice
    obtain ⟨t8, u8, rfl⟩ := hm8.slice
    have HR8 := Lib.hid (show RatAt Wp (.agg #[.bool b8, .slice a8 (dig k8).length c8, .slice t8 (dig (P1.2)).length u8]) (P1.1) (P1.2) from ⟨b8, _, _, k8, rfl, hn8, hm8, hz8⟩)
    clear hn8 hm8 hz8 hc8
    generalize (dig k8).length = l8 at *
    generalize (dig (P1.2)).length = y8 at hM8 HR8
    obtain ⟨M9, o9, rfl, hB9, hM9, -, -, hc9⟩ := E2
    obtain ⟨b9, nv9, dv9, k9, rfl, hn9, hm9, hz9⟩ := hc9 rfl
    obtain ⟨a9, c9, rfl⟩ := hn9.slice
    obtain ⟨t9, u9, rfl⟩ := hm9.slice
    have HR9 := Lib.hid (show RatAt Wp (.agg #[.bool b9, .slice a9 (dig k9).length c9, .slice t9 (dig (P2.2)).length u9]) (P2.1) (P2.2) from ⟨b9, _, _, k9, rfl, hn9, hm9, hz9⟩)
    clear hn9 hm9 hz9 hc9
    generalize (dig k9).length = l9 at *
    generalize (dig (P2.2)).length = y9 at hM9 HR9
    have hBp := hI.1
    clear hI
    clear hBd
    have h3 := hBp.2 (w.heap.size + 1 + 1, (.cells #[.int .i64 0, .int .i64 0, .bool false, .slice none 0 0, .bool false, .slice none 0 0, .string ⟨#[]⟩, .int .i64 0, .int .i64 0, .string ⟨#[]⟩, .int .i64 0, .bool false, .slice none 0 0, .bool false, .slice none 0 0, .string ⟨#[]⟩, .int .i64 0, .slice none 0 0] 33)) (by simp)
    have hbp := hBp.1
    have h1 := hBp.2 (w.heap.size, (.cells #[.int .i64 k1, .bool nn1, .slice a1 m1 c1, .bool dn1, .slice p1 q1 r1, .string s1, .int .i64 i1] 26)) (by simp)
    have h2 := hBp.2 (w.heap.size + 1, (.cells #[.int .i64 k2, .bool nn2, .slice a2 m2 c2, .bool dn2, .slice p2 q2 r2, .string s2, .int .i64 i2] 26)) (by simp)
    have d0 := box_cell h1 0
    simp only [List.getElem?_toArray, List.getElem?_cons_zero, List.getElem?_cons_succ] at d0
    have e0 := box_cell h2 0
    simp only [List.getElem?_toArray, List.getElem?_cons_zero, List.getElem?_cons_succ] at e0
    clear hM8 hM9 HR8 HR9 HN1 HN2 HG1 HG2
    by_cases hk1 : k1 = 2
    · subst hk1
      by_cases hk2 : k2 = 2
      · subst hk2
        go_upto_region 29 with fail
        have hBd : Bxs [(w.heap.size, (.cells #[.int .i64 2, .bool nn1, .slice a1 m1 c1, .bool dn1, .slice p1 q1 r1, .string s1, .int .i64 i1] 26)), (w.heap.size + 1, (.cells #[.int .i64 2, .bool nn2, .slice a2 m2 c2, .bool dn2, .slice p2 q2 r2, .string s2, .int .i64 i2] 26))] w Wp.drew := ⟨hBp.1.drew, fun x hx => by
          simp only [List.mem_cons, List.not_mem_nil, or_false] at hx
          rcases hx with rfl | rfl
          · exact h1
          · exact h2⟩
        replace h3 : Wp.drew.heap[w.heap.size + 1 + 1]? = _ := h3
        clear h1 h2 hBp hbp d0 e0
        refine wp_region_noPanic ?_
        refine wp_region_L (S := fun _ W => Bxs [(w.heap.size, (.cells #[.int .i64 2, .bool nn1, .slice a1 m1 c1, .bool dn1, .slice p1 q1 r1, .string s1, .int .i64 i1] 26)), (w.heap.size + 1, (.cells #[.int .i64 2, .bool nn2, .slice a2 m2 c2, .bool dn2, .slice p2 q2 r2, .string s2, .int .i64 i2] 26))] w W) (by kernel_rfl) ?_
        refine wpAnyL_take (T := fun _ => True) (i := 0) (v := ?vvZ0) rfl (by kernel_rfl) (by kernel_rfl) (by kernel_rfl) (fun _ _ _ h => h) (fun _ _ => Iff.rfl) (fun _ _ _ _ _ => trivial) (Closed.of_B (by kernel_rfl)) (Or.inl ⟨by kernel_rfl, ?hyZ0⟩) hBd ?restZ0
        case hyZ0 => (intro w _; go_simp; with_reducible rfl)
        go_simp
        refine wpAnyL_take (T := fun W => Bxs [(w.heap.size, (.cells #[.int .i64 2, .bool nn1, .slice a1 m1 c1, .bool dn1, .slice p1 q1 r1, .string s1, .int .i64 i1] 26)), (w.heap.size + 1, (.cells #[.int .i64 2, .bool nn2, .slice a2 m2 c2, .bool dn2, .slice p2 q2 r2, .string s2, .int .i64 i2] 26))] w W) (i := 1) (v := .agg #[.int .i64 2, .bool nn1, .slice a1 m1 c1, .bool dn1, .slice p1 q1 r1, .string s1, .int .i64 i1]) rfl (by kernel_rfl) (by kernel_rfl) (by kernel_rfl) (fun _ _ _ h => h) (fun _ _ => Iff.rfl) (fun _ _ _ _ h => h) (Closed.of_B (by kernel_rfl)) (Or.inl ⟨by kernel_rfl, ?hyZ1⟩) hBd ?restZ1
        case hyZ1 => exact runs_load (T := fun W => Bxs [(w.heap.size, (.cells #[.int .i64 2, .bool nn1, .slice a1 m1 c1, .bool dn1, .slice p1 q1 r1, .string s1, .int .i64 i1] 26)), (w.heap.size + 1, (.cells #[.int .i64 2, .bool nn2, .slice a2 m2 c2, .bool dn2, .slice p2 q2 r2, .string s2, .int .i64 i2] 26))] w W) stVal (fun W hW => hW.2 (w.heap.size, (.cells #[.int .i64 2, .bool nn1, .slice a1 m1 c1, .bool dn1, .slice p1 q1 r1, .string s1, .int .i64 i1] 26)) (by simp)) rfl (by rfl)
        go_simp
        refine wpAnyL_take (T := fun W => Bxs [(w.heap.size, (.cells #[.int .i64 2, .bool nn1, .slice a1 m1 c1, .bool dn1, .slice p1 q1 r1, .string s1, .int .i64 i1] 26)), (w.heap.size + 1, (.cells #[.int .i64 2, .bool nn2, .slice a2 m2 c2, .bool dn2, .slice p2 q2 r2, .string s2, .int .i64 i2] 26))] w W) (i := 3) (v := .agg #[.int .i64 2, .bool nn2, .slice a2 m2 c2, .bool dn2, .slice p2 q2 r2, .string s2, .int .i64 i2]) rfl (by kernel_rfl) (by kernel_rfl) (by kernel_rfl) (fun _ _ _ h => h) (fun _ _ => Iff.rfl) (fun _ _ _ _ h => h) (Closed.of_B (by kernel_rfl)) (Or.inl ⟨by kernel_rfl, ?hyZ3⟩) hBd ?restZ3
        case hyZ3 => exact runs_load (T := fun W => Bxs [(w.heap.size, (.cells #[.int .i64 2, .bool nn1, .slice a1 m1 c1, .bool dn1, .slice p1 q1 r1, .string s1, .int .i64 i1] 26)), (w.heap.size + 1, (.cells #[.int .i64 2, .bool nn2, .slice a2 m2 c2, .bool dn2, .slice p2 q2 r2, .string s2, .int .i64 i2] 26))] w W) stVal (fun W hW => hW.2 (w.heap.size + 1, (.cells #[.int .i64 2, .bool nn2, .slice a2 m2 c2, .bool dn2, .slice p2 q2 r2, .string s2, .int .i64 i2] 26)) (by simp)) rfl (by rfl)
        go_simp
        refine wpAnyL_ready (rs := [2]) (by kernel_rfl) (by simp) ?_
        refine AllL.cons rfl (by kernel_rfl) (fun K hK => ?_) AllL.nil
        go_simp
        refine (HI1.out _ hBd.1).mono ?_
        rintro e W4 ⟨u1, rfl, hu1, hb⟩
        have hB4 := hBd.below hb
        refine hK _ _ ⟨hB4, ?_⟩
        clear hK K
        replace h3 := (hb.block _ (box_lt h3)).trans h3
        have HU1 := Lib.hid hu1
        clear hb hu1 hBd HI1
        refine wpAnyL_ready (rs := [4]) (by kernel_rfl) (by simp) ?_
        refine AllL.cons rfl (by kernel_rfl) (fun K hK => ?_) AllL.nil
        go_simp
        refine (HI2.out _ hB4.1).mono ?_
        rintro e W5 ⟨u2, rfl, hu2, hb⟩
        have hB5 := hB4.below hb
        refine hK _ _ ⟨hB5, ?_⟩
        clear hK K
        replace h3 := (hb.block _ (box_lt h3)).trans h3
        have HBT := Lib.hid (bits15_any u1 u2 I1 I2 W5 (HU1.out.below hb) hu2 HGI1.out HGI2.out)
        clear hb hu2 HU1 hB4 HI2
        refine wpAnyL_ready (rs := [5]) (by kernel_rfl) (by simp) ?_
        refine AllL.cons rfl (by kernel_rfl) (fun K hK => ?_) AllL.nil
        go_simp
        refine (HBT.out).mono ?_
        rintro e W6 ⟨v6, x6, rfl, hS, hb⟩
        have hB6 := hB5.below hb
        refine hK _ _ ⟨hB6, ?_⟩
        clear hK K
        replace h3 := (hb.block _ (box_lt h3)).trans h3
        clear hb hB5 HBT
        have HSV := Lib.hid hS
        obtain ⟨cs, rfl, hlen, hone⟩ := stepOf_cells hS
        clear hS
        refine wpAnyL_ready (rs := [6]) (by kernel_rfl) (by simp) ?_
        refine AllL.cons rfl (by kernel_rfl) (fun K hK => ?_) AllL.nil
        have hs := setRow_facts h3 cs.toArray
        have hBz := bxs_row hB6 (by omega) h3 cs.toArray (fun x hx => by
          simp only [List.mem_cons, List.not_mem_nil, or_false] at hx
          rcases hx with rfl | rfl <;> simp only <;> omega)
        refine wpO_store (cells := cs.toArray) stStep h3 (by rfl) (by simpa using hlen) (by simpa using hone) (by rfl) (by rfl) ?_
        refine hK _ _ ⟨hBz, ?_⟩
        clear hK K
        refine wpAnyL_ready (rs := [7]) (by kernel_rfl) (by simp) ?_
        refine AllL.cons rfl (by kernel_rfl) (fun K hK => ?_) AllL.nil
        go_simp
        refine hK _ _ ⟨hBz, ?_⟩
        clear hK K
        refine wpAnyL_done (by kernel_rfl) ?_ _
        refine NoPanic.normal ?_
        go_wp2
        exact bodyPost_ret (results_cell_tmp (t := 6) (u := 7) rfl stStep rfl hs.1 (by simpa using hlen)) rfl ⟨_, _, _, rfl, StepOf.other HSV.out h3 noU_zero hs.2.1, fun h => (HLAW.out h).elim, hs.2.2 _ _ (by omega) hB6.1⟩
      have hk2' : (k2 != 2) = true := by simpa using hk2
      clear hk2 h1 h2
      go_wp2_with (refine wpL_store (cells := #[.int .i64 0, .int .i64 0, .bool false, .slice none 0 0, .bool false, .slice none 0 0, .string ⟨#[]⟩, .int .i64 0, .int .i64 0, .string ⟨#[]⟩, .int .i64 0, .bool false, .slice none 0 0, .bool false, .slice none 0 0, .string ⟨#[]⟩, .int .i64 0, .slice none 0 0]) stStep h3 (by rfl) (by rfl) (by rfl) (by rfl) (by rfl) ?_)
      have hs := setRow_facts h3 #[.int .i64 0, .int .i64 0, .bool false, .slice none 0 0, .bool false, .slice none 0 0, .string ⟨#[]⟩, .int .i64 0, .int .i64 0, .string ⟨#[]⟩, .int .i64 0, .bool false, .slice none 0 0, .bool false, .slice none 0 0, .string ⟨#[]⟩, .int .i64 0, .slice none 0 0]
      exact bodyPost_ret (results_cell_tmp (t := 6) (u := 7) rfl stStep rfl hs.1 rfl) rfl ⟨_, _, _, rfl, zero_step _, fun h => (HLAW.out h).elim, hs.2.2 _ _ (by omega) hbp⟩
    have hk1' : (k1 != 2) = true := by simpa using hk1
    clear hk1 h1 h2
    go_wp2_with (refine wpL_store (cells := #[.int .i64 0, .int .i64 0, .bool false, .slice none 0 0, .bool false, .slice none 0 0, .string ⟨#[]⟩, .int .i64 0, .int .i64 0, .string ⟨#[]⟩, .int .i64 0, .bool false, .slice none 0 0, .bool false, .slice none 0 0, .string ⟨#[]⟩, .int .i64 0, .slice none 0 0]) stStep h3 (by rfl) (by rfl) (by rfl) (by rfl) (by rfl) ?_)
    have hs := setRow_facts h3 #[.int .i64 0, .int .i64 0, .bool false, .slice none 0 0, .bool false, .slice none 0 0, .string ⟨#[]⟩, .int .i64 0, .int .i64 0, .string ⟨#[]⟩, .int .i64 0, .bool false, .slice none 0 0, .bool false, .slice none 0 0, .string ⟨#[]⟩, .int .i64 0, .slice none 0 0]
    exact bodyPost_ret (results_cell_tmp (t := 6) (u := 7) rfl stStep rfl hs.1 rfl) rfl ⟨_, _, _, rfl, zero_step _, fun h => (HLAW.out h).elim, hs.2.2 _ _ (by omega) hbp⟩

end Go.Proofs.YtpmadgmjkljbgaaDoor
