/- Part 30 of the proof. -/
import Derived.Test.YtpmadgmjkljbgaaDoorM24

/- Walk: Arithmetic, operator 10. -/
namespace Go.Proofs.YtpmadgmjkljbgaaDoor
open Go.RowKit

set_option maxRecDepth 100000 in
set_option maxHeartbeats 8000000 in
theorem Arith10_any (v1 v2 : Value) (x1 x2 : Vl) (w : World) (hv1 : VlAt w v1 x1) (hv2 : VlAt w v2 x2) (hg1 : VGood x1) (hg2 : VGood x2) (l1 : Lg x1.nl) (l2 : Lg x2.nl) (e1 : Lg x1.dl) (e2 : Lg x2.dl) (hn1 : isN x1 = true) (hn2 : isN x2 = true) :
    Calls Tryd.prog 9 #[.int .i64 10, v1, v2] w fun e w' => ArQ (binOk (smallV x1) (smallV x2) 10 (smallZ x1) (smallZ x2)) (valZ (binZ 10 (smallZ x1) (smallZ x2))) w e w' := by
  have HLAW := Lib.hid (show binOk (smallV x1) (smallV x2) 10 (smallZ x1) (smallZ x2) = true → ((∀ (Z : Int) (D : Nat), Z = lowZ (flZ (numZD x1) (numZD x2) * (numZD x2).1) (1 * (numZD x2).2) → D = lowD (flZ (numZD x1) (numZD x2) * (numZD x2).1) (1 * (numZD x2).2) → numVl (lowZ ((numZD x1).1 * D + (-Z) * (numZD x1).2) ((numZD x1).2 * D)) (lowD ((numZD x1).1 * D + (-Z) * (numZD x1).2) ((numZD x1).2 * D)) = valZ (binZ 10 (smallZ x1) (smallZ x2))) ∧ (numZD x2).1 ≠ 0) from fun h => ⟨fun Z D hZ hD => law10 l1 l2 h Z D hZ hD, numZD_ne (.inr rfl) h⟩)
  have HG1 := Lib.hid (numZD_good hg1 l1 e1 hn1)
  have HG2 := Lib.hid (numZD_good hg2 l2 e2 hn2)
  have HN1 := Lib.hid (fun W (h : Below w.heap.size w W) => NumberW_any v1 x1 W (hv1.below h) l1 e1 (goodL hg1 hn1).1 (goodL hg1 hn1).2)
  have HN2 := Lib.hid (fun W (h : Below w.heap.size w W) => NumberW_any v2 x2 W (hv2.below h) l2 e2 (goodL hg2 hn2).1 (goodL hg2 hn2).2)
  have HK1 := Lib.hid (fun W (h : Below w.heap.size w W) => IsNumber_any v1 x1 W (hv1.below h))
  have HK2 := Lib.hid (fun W (h : Below w.heap.size w W) => IsNumber_any v2 x2 W (hv2.below h))
  unfold isN at hn1 hn2
  rw [hn1] at HK1
  rw [hn2] at HK2
  generalize binOk (smallV x1) (smallV x2) 10 (smallZ x1) (smallZ x2) = ok at *
  generalize valZ (binZ 10 (smallZ x1) (smallZ x2)) = zz at *
  generalize numZD x1 = P1 at *
  generalize numZD x2 = P2 at *
  clear hg1 hg2 l1 l2 e1 e2 hn1 hn2
  obtain ⟨k1, nn1, nl1, dn1, dl1, s1, i1⟩ := x1
  obtain ⟨av1, bv1, rfl, hx1, hy1⟩ := hv1
  replace hx1 : RowU w av1 nl1 := hx1
  replace hy1 : RowU w bv1 dl1 := hy1
  obtain ⟨a1, c1, rfl, -⟩ := hx1
  obtain ⟨p1, r1, rfl, -⟩ := hy1
  obtain ⟨k2, nn2, nl2, dn2, dl2, s2, i2⟩ := x2
  obtain ⟨av2, bv2, rfl, hx2, hy2⟩ := hv2
  replace hx2 : RowU w av2 nl2 := hx2
  replace hy2 : RowU w bv2 dl2 := hy2
  obtain ⟨a2, c2, rfl, -⟩ := hx2
  obtain ⟨p2, r2, rfl, -⟩ := hy2
  generalize nl1.length = m1 at *
  generalize nl2.length = m2 at *
  generalize dl1.length = q1 at *
  generalize dl2.length = q2 at *
  have hal := alloc3 w (.cells #[.int .i64 k1, .bool nn1, .slice a1 m1 c1, .bool dn1, .slice p1 q1 r1, .string s1, .int .i64 i1] 26) (.cells #[.int .i64 k2, .bool nn2, .slice a2 m2 c2, .bool dn2, .slice p2 q2 r2, .string s2, .int .i64 i2] 26) (.cells #[.int .i64 0, .int .i64 0, .bool false, .slice none 0 0, .bool false, .slice none 0 0, .string ⟨#[]⟩, .int .i64 0, .int .i64 0, .string ⟨#[]⟩, .int .i64 0, .bool false, .slice none 0 0, .bool false, .slice none 0 0, .string ⟨#[]⟩, .int .i64 0, .slice none 0 0] 33)
  go_enter Tryd.func9, Tryd.ntmps9
  go_upto_region 1 with fail
  generalize (((w.alloc (.cells #[.int .i64 k1, .bool nn1, .slice a1 m1 c1, .bool dn1, .slice p1 q1 r1, .string s1, .int .i64 i1] 26)).alloc (.cells #[.int .i64 k2, .bool nn2, .slice a2 m2 c2, .bool dn2, .slice p2 q2 r2, .string s2, .int .i64 i2] 26)).alloc (.cells #[.int .i64 0, .int .i64 0, .bool false, .slice none 0 0, .bool false, .slice none 0 0, .string ⟨#[]⟩, .int .i64 0, .int .i64 0, .string ⟨#[]⟩, .int .i64 0, .bool false, .slice none 0 0, .bool false, .slice none 0 0, .string ⟨#[]⟩, .int .i64 0, .slice none 0 0] 33)) = w1 at *
  obtain ⟨hb1, h1, h2, h3⟩ := hal
  refine wp_region_lit ?_
  refine wpL_load stVal h1 (by rfl) (by rfl) ?_
  go_wp2_with fail
  refine (HK1.out w1 hb1).mono ?_
  rintro e w2 ⟨rfl, hb2⟩
  replace h1 := (hb2.block _ (box_lt h1)).trans h1
  replace h2 := (hb2.block _ (box_lt h2)).trans h2
  replace h3 := (hb2.block _ (box_lt h3)).trans h3
  have hb12 := ext_trans hb1 hb2
  have e0 := box_cell h2 0
  have e1 := box_cell h2 1
  have e2 := box_cell h2 2
  have e3 := box_cell h2 3
  have e4 := box_cell h2 4
  have e5 := box_cell h2 5
  have e6 := box_cell h2 6
  simp only [List.getElem?_toArray, List.getElem?_cons_zero, List.getElem?_cons_succ] at e0 e1 e2 e3 e4 e5 e6
  go_wp2_with fail
  refine (HK2.out w2 hb12).mono ?_
  rintro e w3 ⟨rfl, hb3⟩
  replace h1 := (hb3.block _ (box_lt h1)).trans h1
  replace h2 := (hb3.block _ (box_lt h2)).trans h2
  replace h3 := (hb3.block _ (box_lt h3)).trans h3
  have hb13 := ext_trans hb12 hb3
  clear e0 e1 e2 e3 e4 e5 e6 hb1 hb2 hb3 hb12 HK1 HK2
  have hlt3 := box_lt h3
  have hB : Bxs [(w.heap.size, (.cells #[.int .i64 k1, .bool nn1, .slice a1 m1 c1, .bool dn1, .slice p1 q1 r1, .string s1, .int .i64 i1] 26)), (w.heap.size + 1, (.cells #[.int .i64 k2, .bool nn2, .slice a2 m2 c2, .bool dn2, .slice p2 q2 r2, .string s2, .int .i64 i2] 26)), (w.heap.size + 1 + 1, (.cells #[.int .i64 0, .int .i64 0, .bool false, .slice none 0 0, .bool false, .slice none 0 0, .string ⟨#[]⟩, .int .i64 0, .int .i64 0, .string ⟨#[]⟩, .int .i64 0, .bool false, .slice none 0 0, .bool false, .slice none 0 0, .string ⟨#[]⟩, .int .i64 0, .slice none 0 0] 33))] w w3 := ⟨hb13, fun x hx => by
    simp only [List.mem_cons, List.not_mem_nil, or_false] at hx
    rcases hx with rfl | rfl | rfl
    · exact h1
    · exact h2
    · exact h3⟩
  clear h1 h2 h3 hb13
  go_upto_region 3 with fail
  have hBd := hB.drew
  clear hB
  obtain ⟨B1, hB1, hB1w⟩ : ∃ B1, B1 ≤ w3.drew.heap.size ∧ w.heap.size + 1 + 1 < B1 := ⟨w3.drew.heap.size, Nat.le_refl _, box_lt (hBd.2 (w.heap.size + 1 + 1, (.cells #[.int .i64 0, .int .i64 0, .bool false, .slice none 0 0, .bool false, .slice none 0 0, .string ⟨#[]⟩, .int .i64 0, .int .i64 0, .string ⟨#[]⟩, .int .i64 0, .bool false, .slice none 0 0, .bool false, .slice none 0 0, .string ⟨#[]⟩, .int .i64 0, .slice none 0 0] 33)) (by simp))⟩
  have HB1 := Lib.hid hB1
  clear hB1 hlt3
  refine wp_region_noPanic ?_
  refine wp_region_L (S := fun _ W => Bxs [(w.heap.size, (.cells #[.int .i64 k1, .bool nn1, .slice a1 m1 c1, .bool dn1, .slice p1 q1 r1, .string s1, .int .i64 i1] 26)), (w.heap.size + 1, (.cells #[.int .i64 k2, .bool nn2, .slice a2 m2 c2, .bool dn2, .slice p2 q2 r2, .string s2, .int .i64 i2] 26)), (w.heap.size + 1 + 1, (.cells #[.int .i64 0, .int .i64 0, .bool false, .slice none 0 0, .bool false, .slice none 0 0, .string ⟨#[]⟩, .int .i64 0, .int .i64 0, .string ⟨#[]⟩, .int .i64 0, .bool false, .slice none 0 0, .bool false, .slice none 0 0, .string ⟨#[]⟩, .int .i64 0, .slice none 0 0] 33))] w W) (by kernel_rfl) ?_
  refine wpAnyL_take (T := fun W => Bxs [(w.heap.size, (.cells #[.int .i64 k1, .bool nn1, .slice a1 m1 c1, .bool dn1, .slice p1 q1 r1, .string s1, .int .i64 i1] 26)), (w.heap.size + 1, (.cells #[.int .i64 k2, .bool nn2, .slice a2 m2 c2, .bool dn2, .slice p2 q2 r2, .string s2, .int .i64 i2] 26)), (w.heap.size + 1 + 1, (.cells #[.int .i64 0, .int .i64 0, .bool false, .slice none 0 0, .bool false, .slice none 0 0, .string ⟨#[]⟩, .int .i64 0, .int .i64 0, .string ⟨#[]⟩, .int .i64 0, .bool false, .slice none 0 0, .bool false, .slice none 0 0, .string ⟨#[]⟩, .int .i64 0, .slice none 0 0] 33))] w W) (i := 0) (v := .agg #[.int .i64 k1, .bool nn1, .slice a1 m1 c1, .bool dn1, .slice p1 q1 r1, .string s1, .int .i64 i1]) rfl (by kernel_rfl) (by kernel_rfl) (by kernel_rfl) (fun _ _ _ h => h) (fun _ _ => Iff.rfl) (fun _ _ _ _ h => h) (Closed.of_B (by kernel_rfl)) (Or.inl ⟨by kernel_rfl, ?hyA0⟩) hBd ?restA0
  case hyA0 => exact runs_load (T := fun W => Bxs [(w.heap.size, (.cells #[.int .i64 k1, .bool nn1, .slice a1 m1 c1, .bool dn1, .slice p1 q1 r1, .string s1, .int .i64 i1] 26)), (w.heap.size + 1, (.cells #[.int .i64 k2, .bool nn2, .slice a2 m2 c2, .bool dn2, .slice p2 q2 r2, .string s2, .int .i64 i2] 26)), (w.heap.size + 1 + 1, (.cells #[.int .i64 0, .int .i64 0, .bool false, .slice none 0 0, .bool false, .slice none 0 0, .string ⟨#[]⟩, .int .i64 0, .int .i64 0, .string ⟨#[]⟩, .int .i64 0, .bool false, .slice none 0 0, .bool false, .slice none 0 0, .string ⟨#[]⟩, .int .i64 0, .slice none 0 0] 33))] w W) stVal (fun W hW => hW.2 (w.heap.size, (.cells #[.int .i64 k1, .bool nn1, .slice a1 m1 c1, .bool dn1, .slice p1 q1 r1, .string s1, .int .i64 i1] 26)) (by simp)) rfl (by rfl)
  go_simp
  refine wpAnyL_take (T := fun W => Bxs [(w.heap.size, (.cells #[.int .i64 k1, .bool nn1, .slice a1 m1 c1, .bool dn1, .slice p1 q1 r1, .string s1, .int .i64 i1] 26)), (w.heap.size + 1, (.cells #[.int .i64 k2, .bool nn2, .slice a2 m2 c2, .bool dn2, .slice p2 q2 r2, .string s2, .int .i64 i2] 26)), (w.heap.size + 1 + 1, (.cells #[.int .i64 0, .int .i64 0, .bool false, .slice none 0 0, .bool false, .slice none 0 0, .string ⟨#[]⟩, .int .i64 0, .int .i64 0, .string ⟨#[]⟩, .int .i64 0, .bool false, .slice none 0 0, .bool false, .slice none 0 0, .string ⟨#[]⟩, .int .i64 0, .slice none 0 0] 33))] w W) (i := 2) (v := .agg #[.int .i64 k2, .bool nn2, .slice a2 m2 c2, .bool dn2, .slice p2 q2 r2, .string s2, .int .i64 i2]) rfl (by kernel_rfl) (by kernel_rfl) (by kernel_rfl) (fun _ _ _ h => h) (fun _ _ => Iff.rfl) (fun _ _ _ _ h => h) (Closed.of_B (by kernel_rfl)) (Or.inl ⟨by kernel_rfl, ?hyA2⟩) hBd ?restA2
  case hyA2 => exact runs_load (T := fun W => Bxs [(w.heap.size, (.cells #[.int .i64 k1, .bool nn1, .slice a1 m1 c1, .bool dn1, .slice p1 q1 r1, .string s1, .int .i64 i1] 26)), (w.heap.size + 1, (.cells #[.int .i64 k2, .bool nn2, .slice a2 m2 c2, .bool dn2, .slice p2 q2 r2, .string s2, .int .i64 i2] 26)), (w.heap.size + 1 + 1, (.cells #[.int .i64 0, .int .i64 0, .bool false, .slice none 0 0, .bool false, .slice none 0 0, .string ⟨#[]⟩, .int .i64 0, .int .i64 0, .string ⟨#[]⟩, .int .i64 0, .bool false, .slice none 0 0, .bool false, .slice none 0 0, .string ⟨#[]⟩, .int .i64 0, .slice none 0 0] 33))] w W) stVal (fun W hW => hW.2 (w.heap.size + 1, (.cells #[.int .i64 k2, .bool nn2, .slice a2 m2 c2, .bool dn2, .slice p2 q2 r2, .string s2, .int .i64 i2] 26)) (by simp)) rfl (by rfl)
  go_simp
  refine wpAnyL_rows (R := fun i v _ W => match i with | 1 => RatAt W v (P1.1) (P1.2) | 3 => RatAt W v (P2.1) (P2.2) | _ => True) (I := fun L vs W => (Bxs [(w.heap.size, (.cells #[.int .i64 k1, .bool nn1, .slice a1 m1 c1, .bool dn1, .slice p1 q1 r1, .string s1, .int .i64 i1] 26)), (w.heap.size + 1, (.cells #[.int .i64 k2, .bool nn2, .slice a2 m2 c2, .bool dn2, .slice p2 q2 r2, .string s2, .int .i64 i2] 26)), (w.heap.size + 1 + 1, (.cells #[.int .i64 0, .int .i64 0, .bool false, .slice none 0 0, .bool false, .slice none 0 0, .string ⟨#[]⟩, .int .i64 0, .int .i64 0, .string ⟨#[]⟩, .int .i64 0, .bool false, .slice none 0 0, .bool false, .slice none 0 0, .string ⟨#[]⟩, .int .i64 0, .slice none 0 0] 33))] w W) ∧ B1 ≤ W.heap.size ∧ Two 43 3 43 3 B1 (RatC (P1.1) (P1.2)) (RatC (P2.1) (P2.2)) 4 6 5 7 L vs W) [((1, some 22, []), []), ((3, some 24, []), []), ((4, some 8, []), []), ((5, some 9, []), []), ((6, none, [1, 4]), [(1, some 22, []), (4, some 8, [])]), ((7, none, [3, 5]), [(3, some 24, []), (5, some 9, [])])] (by kernel_rfl) (by decide) (fun _ _ _ h => h.1) (fun _ => ⟨hBd, HB1.out, Two.start (by kernel_rfl) (by kernel_rfl)⟩) ?tabA ?finA
  case tabA =>
    refine TabAll.cons rfl (by kernel_rfl) (fun L vs W hsz hcl hn hd hdn hI K hK => ?_) ?_
    · simp only [putsD, Act.put, List.setIfInBounds_toArray, List.set_cons_zero, List.set_cons_succ] at hK ⊢
      clear hd hdn
      go_simp
      refine (HN1.out W hI.1.1).mono ?_
      rintro e W3 ⟨v', rfl, hv, hb3⟩
      refine hK _ v' _ (by rfl) (fun i u l hij hL h => ?_) hv ⟨hI.1.below hb3, Nat.le_trans hI.2.1 hb3.size, hI.2.2.below (RatC.good _ _) (RatC.good _ _) hb3 1 v' (by decide) (by decide) (by decide) (by decide)⟩
      · match i, hij, hL, h with
        | 1, _, _, h => exact RatAt.below h hb3
        | 3, _, _, h => exact RatAt.below h hb3
        | 0, _, _, _ | 2, _, _, _ | _ + 4, _, _, _ => trivial
    refine TabAll.cons rfl (by kernel_rfl) (fun L vs W hsz hcl hn hd hdn hI K hK => ?_) ?_
    · simp only [putsD, Act.put, List.setIfInBounds_toArray, List.set_cons_zero, List.set_cons_succ] at hK ⊢
      clear hd hdn
      go_simp
      refine (HN2.out W hI.1.1).mono ?_
      rintro e W3 ⟨v', rfl, hv, hb3⟩
      refine hK _ v' _ (by rfl) (fun i u l hij hL h => ?_) hv ⟨hI.1.below hb3, Nat.le_trans hI.2.1 hb3.size, hI.2.2.below (RatC.good _ _) (RatC.good _ _) hb3 3 v' (by decide) (by decide) (by decide) (by decide)⟩
      · match i, hij, hL, h with
        | 1, _, _, h => exact RatAt.below h hb3
        | 3, _, _, h => exact RatAt.below h hb3
        | 0, _, _, _ | 2, _, _, _ | _ + 4, _, _, _ => trivial
    refine TabAll.cons rfl (by kernel_rfl) (fun L vs W hsz hcl hn hd hdn hI K hK => ?_) ?_
    · simp only [putsD, Act.put, List.setIfInBounds_toArray, List.set_cons_zero, List.set_cons_succ] at hK ⊢
      clear hd hdn
      have hs6 := hcl.notYet (k := 6) (i := 4) (by kernel_rfl) hn
      go_simp
      have hb3 := ext_alloc W (.cells #[.bool false, .slice none 0 0, .slice none 0 0] 43 (0, 0))
      refine hK _ (.pointer (some ⟨W.heap.size, 0, none⟩)) _ (by rfl) (fun i u l hij hL h => ?_) trivial ⟨hI.1.below hb3, Nat.le_trans hI.2.1 hb3.size, hI.2.2.new1 (RatC.good _ _) (RatC.good _ _) hs6 hI.2.1 [.bool false, .slice none 0 0, .slice none 0 0] rfl noInt_zeroR (by decide) (by decide) (by decide)⟩
      · match i, hij, hL, h with
        | 1, _, _, h => exact RatAt.below h hb3
        | 3, _, _, h => exact RatAt.below h hb3
        | 0, _, _, _ | 2, _, _, _ | _ + 4, _, _, _ => trivial
    refine TabAll.cons rfl (by kernel_rfl) (fun L vs W hsz hcl hn hd hdn hI K hK => ?_) ?_
    · simp only [putsD, Act.put, List.setIfInBounds_toArray, List.set_cons_zero, List.set_cons_succ] at hK ⊢
      clear hd hdn
      have hs6 := hcl.notYet (k := 7) (i := 5) (by kernel_rfl) hn
      go_simp
      have hb3 := ext_alloc W (.cells #[.bool false, .slice none 0 0, .slice none 0 0] 43 (0, 0))
      refine hK _ (.pointer (some ⟨W.heap.size, 0, none⟩)) _ (by rfl) (fun i u l hij hL h => ?_) trivial ⟨hI.1.below hb3, Nat.le_trans hI.2.1 hb3.size, hI.2.2.new2 (RatC.good _ _) (RatC.good _ _) hs6 hI.2.1 [.bool false, .slice none 0 0, .slice none 0 0] rfl noInt_zeroR (by decide) (by decide) (by decide)⟩
      · match i, hij, hL, h with
        | 1, _, _, h => exact RatAt.below h hb3
        | 3, _, _, h => exact RatAt.below h hb3
        | 0, _, _, _ | 2, _, _, _ | _ + 4, _, _, _ => trivial
    refine TabAll.cons rfl (by kernel_rfl) (fun L vs W hsz hcl hn hd hdn hI K hK => ?_) ?_
    · simp only [putsD, Act.put, List.setIfInBounds_toArray, List.set_cons_zero, List.set_cons_succ] at hK ⊢
      have r1 := hd.1
      have r4 := hd.2.1
      generalize hv1 : vs 1 = v1 at *
      have HV1 := Lib.hid hv1
      clear hv1
      generalize hv4 : vs 4 = v4 at *
      have HV4 := Lib.hid hv4
      clear hv4
      clear hd
      have q9 : RatAt W v1 (P1.1) (P1.2) := r1
      clear r1 r4
      obtain ⟨M, old, hp, hBM, hM, hno, hol, -⟩ := hI.2.2.1 hdn.2.1
      have hp' : v4 = .pointer (some ⟨M, 0, none⟩) := HV4.out.symm.trans hp
      subst hp'
      obtain ⟨b9, nv9, dv9, k9, rfl, hn9, hm9, hz9⟩ := q9
      obtain ⟨a9, c9, rfl⟩ := hn9.slice
      obtain ⟨a8, c8, rfl⟩ := hm9.slice
      generalize hl9 : (dig k9).length = l9 at *
      generalize hl8 : (dig (P1.2)).length = l8 at *
      have HS := Lib.hid (setRow_facts hM #[.bool b9, .slice a9 l9 c9, .slice a8 l8 c8])
      have HC : RatC (P1.1) (P1.2) W [.bool b9, .slice a9 l9 c9, .slice a8 l8 c8] := ⟨b9, _, _, k9, rfl, hn9, hm9, hz9⟩
      have HTW := Lib.hid (hI.2.2.fill1 (W' := W.setRow M #[.bool b9, .slice a9 l9 c9, .slice a8 l8 c8]) (RatC.good _ _) (RatC.good _ _) hdn.2.1 hp hM hno hBM HS.out.1 HS.out.2.1 HC.noInt rfl HC undef (by decide) (by decide) (by decide))
      have HI := Lib.hid hI
      have HM := Lib.hid hM
      have HNO := Lib.hid hno
      clear hI hn9 hm9 hz9 hl9 hl8 hcl hn hsz HC hp hdn hno
      refine wpO_store (cells := #[.bool b9, .slice a9 l9 c9, .slice a8 l8 c8]) stRat hM (by simpa using hol) (by rfl) (by rfl) (by rfl) (by rfl) ?_
      refine hK _ undef _ (by rfl) (fun i u l hij hL h => ?_) trivial ⟨⟨HS.out.2.2 _ _ (by omega) HI.out.1.1, fun x hx => ?_⟩, by simpa using HI.out.2.1, HTW.out⟩
      · match i, hij, hL, h with
        | 1, _, _, h => exact ratAt_other h HM.out HNO.out HS.out.2.1
        | 3, _, _, h => exact ratAt_other h HM.out HNO.out HS.out.2.1
        | 0, _, _, _ | 2, _, _, _ | _ + 4, _, _, _ => trivial
      · have hx' := HI.out.1.2 x hx
        simp only [List.mem_cons, List.not_mem_nil, or_false] at hx
        rcases hx with rfl | rfl | rfl
        all_goals exact (HS.out.2.1 _ (box_lt hx') (by simp only; omega)).trans hx'
    refine TabAll.cons rfl (by kernel_rfl) (fun L vs W hsz hcl hn hd hdn hI K hK => ?_) ?_
    · simp only [putsD, Act.put, List.setIfInBounds_toArray, List.set_cons_zero, List.set_cons_succ] at hK ⊢
      have r3 := hd.1
      have r5 := hd.2.1
      generalize hv3 : vs 3 = v3 at *
      have HV3 := Lib.hid hv3
      clear hv3
      generalize hv5 : vs 5 = v5 at *
      have HV5 := Lib.hid hv5
      clear hv5
      clear hd
      have q9 : RatAt W v3 (P2.1) (P2.2) := r3
      clear r3 r5
      obtain ⟨M, old, hp, hBM, hM, hno, hol, -⟩ := hI.2.2.2.1 hdn.2.1
      have hp' : v5 = .pointer (some ⟨M, 0, none⟩) := HV5.out.symm.trans hp
      subst hp'
      obtain ⟨b9, nv9, dv9, k9, rfl, hn9, hm9, hz9⟩ := q9
      obtain ⟨a9, c9, rfl⟩ := hn9.slice
      obtain ⟨a8, c8, rfl⟩ := hm9.slice
      generalize hl9 : (dig k9).length = l9 at *
      generalize hl8 : (dig (P2.2)).length = l8 at *
      have HS := Lib.hid (setRow_facts hM #[.bool b9, .slice a9 l9 c9, .slice a8 l8 c8])
      have HC : RatC (P2.1) (P2.2) W [.bool b9, .slice a9 l9 c9, .slice a8 l8 c8] := ⟨b9, _, _, k9, rfl, hn9, hm9, hz9⟩
      have HTW := Lib.hid (hI.2.2.fill2 (W' := W.setRow M #[.bool b9, .slice a9 l9 c9, .slice a8 l8 c8]) (RatC.good _ _) (RatC.good _ _) hdn.2.1 hp hM hno hBM HS.out.1 HS.out.2.1 HC.noInt rfl HC undef (by decide) (by decide) (by decide))
      have HI := Lib.hid hI
      have HM := Lib.hid hM
      have HNO := Lib.hid hno
      clear hI hn9 hm9 hz9 hl9 hl8 hcl hn hsz HC hp hdn hno
      refine wpO_store (cells := #[.bool b9, .slice a9 l9 c9, .slice a8 l8 c8]) stRat hM (by simpa using hol) (by rfl) (by rfl) (by rfl) (by rfl) ?_
      refine hK _ undef _ (by rfl) (fun i u l hij hL h => ?_) trivial ⟨⟨HS.out.2.2 _ _ (by omega) HI.out.1.1, fun x hx => ?_⟩, by simpa using HI.out.2.1, HTW.out⟩
      · match i, hij, hL, h with
        | 1, _, _, h => exact ratAt_other h HM.out HNO.out HS.out.2.1
        | 3, _, _, h => exact ratAt_other h HM.out HNO.out HS.out.2.1
        | 0, _, _, _ | 2, _, _, _ | _ + 4, _, _, _ => trivial
      · have hx' := HI.out.1.2 x hx
        simp only [List.mem_cons, List.not_mem_nil, or_false] at hx
        rcases hx with rfl | rfl | rfl
        all_goals exact (HS.out.2.1 _ (box_lt hx') (by simp only; omega)).trans hx'
    exact TabAll.nil
  case finA =>
    intro vs Wp hd L hsz hall hI
    have r1 := hd.1
    have r3 := hd.2.1
    have r4 := hd.2.2.1
    have r5 := hd.2.2.2.1
    have r6 := hd.2.2.2.2.1
    have r7 := hd.2.2.2.2.2.1
    simp only [List.map_cons, List.map_nil, putsD, Act.put, List.setIfInBounds_toArray, List.set_cons_zero, List.set_cons_succ]
    have E1 := hI.2.2.end1 (hall 4 (by decide)) (hall 6 (by decide))
    have E2 := hI.2.2.end2 (hall 5 (by decide)) (hall 7 (by decide))
    generalize vs 1 = v1 at *
    generalize vs 3 = v3 at *
    generalize vs 4 = v4 at *
    generalize vs 5 = v5 at *
    generalize vs 6 = v6 at *
    generalize vs 7 = v7 at *
    clear hd hall hsz
    refine NoPanic.normal ?_
    clear r1 r3 r4 r5 r6 r7
    obtain ⟨M8, o8, rfl, hB8, hM8, -, -, hc8⟩ := E1
    obtain ⟨b8, nv8, dv8, k8, rfl, hn8, hm8, hz8⟩ := hc8 rfl
    obtain ⟨a8, c8, rfl⟩ := hn8.slice
    obtain ⟨t8, u8, rfl⟩ := hm8.slice
    have HR8 := Lib.hid (show RatAt Wp (.agg #[.bool b8, .slice a8 (dig k8).length c8, .slice t8 (dig (P1.2)).length u8]) (P1.1) (P1.2) from ⟨b8, _, _, k8, rfl, hn8, hm8, hz8⟩)
    clear hn8 hm8 hz8 hc8
    generalize (dig k8).length = l8 at *
    generalize (dig (P1.2)).length = y8 at hM8 HR8
    obtain ⟨M9, o9, rfl, hB9, hM9, -, -, hc9⟩ := E2
    obtain ⟨b9, nv9, dv9, k9, rfl, hn9, hm9, hz9⟩ := hc9 rfl
    obtain ⟨a9, c9, rfl⟩ := hn9.slice
    obtain ⟨t9, u9, rfl⟩ := hm9.slice
    have HR9 := Lib.hid (show RatAt Wp (.agg #[.bool b9, .slice a9 (dig k9).length c9, .slice t9 (dig (P2.2)).length u9]) (P2.1) (P2.2) from ⟨b9, _, _, k9, rfl, hn9, hm9, hz9⟩)
    clear hn9 hm9 hz9 hc9
    generalize (dig k9).length = l9 at *
    generalize (dig (P2.2)).length = y9 at hM9 HR9
    have hBp := hI.1
    clear hI
    clear hBd
    have h3 := hBp.2 (w.heap.size + 1 + 1, (.cells #[.int .i64 0, .int .i64 0, .bool false, .slice none 0 0, .bool false, .slice none 0 0, .string ⟨#[]⟩, .int .i64 0, .int .i64 0, .string ⟨#[]⟩, .int .i64 0, .bool false, .slice none 0 0, .bool false, .slice none 0 0, .string ⟨#[]⟩, .int .i64 0, .slice none 0 0] 33)) (by simp)
    have hbp := hBp.1
    clear hBp HN1 HN2
    have HZr := Lib.hid (Zero_any _ P2.1 Wp (ratAt_int HR9.out))
    have e0 := box_cell hM9 0
    have e1 := box_cell hM9 1
    simp only [List.getElem?_toArray, List.getElem?_cons_zero, List.getElem?_cons_succ] at e0 e1
    skip
    by_cases hz : P2.1 = 0
    · rw [show decide (P2.1 = 0) = true by simpa using hz] at HZr
      clear hM8 HR8 HR9 HG1 HG2
      go_wp2_with fail
      refine HZr.out.mono ?_
      rintro e w4 ⟨rfl, hb4⟩
      replace h3 := (hb4.block _ (box_lt h3)).trans h3
      go_wp2_with fail
      refine (Raise_any 41 ⟨#[100, 105, 118, 105, 115, 105, 111, 110, 32, 98, 121, 32, 122, 101, 114, 111]⟩ w4).mono ?_
      rintro e w5 ⟨rfl, hb5⟩
      replace h3 := (hb5.block _ (box_lt h3)).trans h3
      have HLZ := Lib.hid (show ok = true → zeroVl = zz from fun h => absurd hz ((HLAW.out h).2))
      clear hz
      go_wp2_with (refine wpL_store (cells := #[.int .i64 1, .int .i64 0, .bool false, .slice none 0 0, .bool false, .slice none 0 0, .string ⟨#[]⟩, .int .i64 0, .int .i64 41, .string ⟨#[100, 105, 118, 105, 115, 105, 111, 110, 32, 98, 121, 32, 122, 101, 114, 111]⟩, .int .i64 0, .bool false, .slice none 0 0, .bool false, .slice none 0 0, .string ⟨#[]⟩, .int .i64 0, .slice none 0 0]) stStep h3 (by rfl) (by rfl) (by rfl) (by rfl) (by rfl) ?_)
      have hs := setRow_facts h3 #[.int .i64 1, .int .i64 0, .bool false, .slice none 0 0, .bool false, .slice none 0 0, .string ⟨#[]⟩, .int .i64 0, .int .i64 41, .string ⟨#[100, 105, 118, 105, 115, 105, 111, 110, 32, 98, 121, 32, 122, 101, 114, 111]⟩, .int .i64 0, .bool false, .slice none 0 0, .bool false, .slice none 0 0, .string ⟨#[]⟩, .int .i64 0, .slice none 0 0]
      exact bodyPost_ret (results_cell_tmp (t := 6) (u := 7) rfl stStep rfl hs.1 rfl) rfl ⟨_, _, _, rfl, raise_step _ _ _, HLZ.out, hs.2.2 _ _ (by omega) (ext_trans hbp (ext_trans hb4 hb5))⟩
    rw [show decide (P2.1 = 0) = false by simpa using hz] at HZr
    go_wp2_with fail
    refine HZr.out.mono ?_
    rintro e w7 ⟨rfl, hb7⟩
    replace h3 := (hb7.block _ (box_lt h3)).trans h3
    replace hM8 := (hb7.block _ (box_lt hM8)).trans hM8
    replace hM9 := (hb7.block _ (box_lt hM9)).trans hM9
    clear e0 e1 HZr
    have HR8' := Lib.hid (HR8.out.below hb7)
    have HR9' := Lib.hid (HR9.out.below hb7)
    have hb17 := ext_trans hbp hb7
    clear HR8 HR9 hb7 hbp
    have HZ0 := Lib.hid hz
    clear hz
    go_upto_region 16 with fail
    have hB6 : Bxs [(w.heap.size + 1 + 1, (.cells #[.int .i64 0, .int .i64 0, .bool false, .slice none 0 0, .bool false, .slice none 0 0, .string ⟨#[]⟩, .int .i64 0, .int .i64 0, .string ⟨#[]⟩, .int .i64 0, .bool false, .slice none 0 0, .bool false, .slice none 0 0, .string ⟨#[]⟩, .int .i64 0, .slice none 0 0] 33)), (M8, (.cells #[.bool b8, .slice a8 l8 c8, .slice t8 y8 u8] 43)), (M9, (.cells #[.bool b9, .slice a9 l9 c9, .slice t9 y9 u9] 43))] w7 w7.drew := ⟨(Below.refl _ _).drew, fun x hx => by
      simp only [List.mem_cons, List.not_mem_nil, or_false] at hx
      rcases hx with rfl | rfl | rfl
      · exact h3
      · exact hM8
      · exact hM9⟩
    have hM8n : w.heap.size + 1 + 1 < M8 ∧ w.heap.size + 1 + 1 < M9 := ⟨by omega, by omega⟩
    clear hB1w HB1
    obtain ⟨B2, hB2, hB2w⟩ : ∃ B2, B2 ≤ w7.drew.heap.size ∧ w7.heap.size ≤ B2 ∧ w.heap.size + 1 + 1 < B2 ∧ M8 < B2 ∧ M9 < B2 := ⟨w7.heap.size, Nat.le_refl _, Nat.le_refl _, box_lt h3, box_lt hM8, box_lt hM9⟩
    have HB1 := Lib.hid hB2
    clear hB2 h3 hM8 hM9
    refine wp_region_noPanic ?_
    refine wp_region_L (S := fun _ W => Bxs [(w.heap.size + 1 + 1, (.cells #[.int .i64 0, .int .i64 0, .bool false, .slice none 0 0, .bool false, .slice none 0 0, .string ⟨#[]⟩, .int .i64 0, .int .i64 0, .string ⟨#[]⟩, .int .i64 0, .bool false, .slice none 0 0, .bool false, .slice none 0 0, .string ⟨#[]⟩, .int .i64 0, .slice none 0 0] 33)), (M8, (.cells #[.bool b8, .slice a8 l8 c8, .slice t8 y8 u8] 43)), (M9, (.cells #[.bool b9, .slice a9 l9 c9, .slice t9 y9 u9] 43))] w7 W) (by kernel_rfl) ?_
    refine wpAnyL_take (T := fun W => Bxs [(w.heap.size + 1 + 1, (.cells #[.int .i64 0, .int .i64 0, .bool false, .slice none 0 0, .bool false, .slice none 0 0, .string ⟨#[]⟩, .int .i64 0, .int .i64 0, .string ⟨#[]⟩, .int .i64 0, .bool false, .slice none 0 0, .bool false, .slice none 0 0, .string ⟨#[]⟩, .int .i64 0, .slice none 0 0] 33)), (M8, (.cells #[.bool b8, .slice a8 l8 c8, .slice t8 y8 u8] 43)), (M9, (.cells #[.bool b9, .slice a9 l9 c9, .slice t9 y9 u9] 43))] w7 W) (i := 0) (v := .agg #[.bool b8, .slice a8 l8 c8, .slice t8 y8 u8]) rfl (by kernel_rfl) (by kernel_rfl) (by kernel_rfl) (fun _ _ _ h => h) (fun _ _ => Iff.rfl) (fun _ _ _ _ h => h) (Closed.of_B (by kernel_rfl)) (Or.inl ⟨by kernel_rfl, ?hyC0⟩) hB6 ?restC0
    case hyC0 => exact runs_load (T := fun W => Bxs [(w.heap.size + 1 + 1, (.cells #[.int .i64 0, .int .i64 0, .bool false, .slice none 0 0, .bool false, .slice none 0 0, .string ⟨#[]⟩, .int .i64 0, .int .i64 0, .string ⟨#[]⟩, .int .i64 0, .bool false, .slice none 0 0, .bool false, .slice none 0 0, .string ⟨#[]⟩, .int .i64 0, .slice none 0 0] 33)), (M8, (.cells #[.bool b8, .slice a8 l8 c8, .slice t8 y8 u8] 43)), (M9, (.cells #[.bool b9, .slice a9 l9 c9, .slice t9 y9 u9] 43))] w7 W) stRat (fun W hW => hW.2 (M8, (.cells #[.bool b8, .slice a8 l8 c8, .slice t8 y8 u8] 43)) (by simp)) rfl (by rfl)
    go_simp
    refine wpAnyL_take (T := fun W => Bxs [(w.heap.size + 1 + 1, (.cells #[.int .i64 0, .int .i64 0, .bool false, .slice none 0 0, .bool false, .slice none 0 0, .string ⟨#[]⟩, .int .i64 0, .int .i64 0, .string ⟨#[]⟩, .int .i64 0, .bool false, .slice none 0 0, .bool false, .slice none 0 0, .string ⟨#[]⟩, .int .i64 0, .slice none 0 0] 33)), (M8, (.cells #[.bool b8, .slice a8 l8 c8, .slice t8 y8 u8] 43)), (M9, (.cells #[.bool b9, .slice a9 l9 c9, .slice t9 y9 u9] 43))] w7 W) (i := 1) (v := .agg #[.bool b9, .slice a9 l9 c9, .slice t9 y9 u9]) rfl (by kernel_rfl) (by kernel_rfl) (by kernel_rfl) (fun _ _ _ h => h) (fun _ _ => Iff.rfl) (fun _ _ _ _ h => h) (Closed.of_B (by kernel_rfl)) (Or.inl ⟨by kernel_rfl, ?hyC1⟩) hB6 ?restC1
    case hyC1 => exact runs_load (T := fun W => Bxs [(w.heap.size + 1 + 1, (.cells #[.int .i64 0, .int .i64 0, .bool false, .slice none 0 0, .bool false, .slice none 0 0, .string ⟨#[]⟩, .int .i64 0, .int .i64 0, .string ⟨#[]⟩, .int .i64 0, .bool false, .slice none 0 0, .bool false, .slice none 0 0, .string ⟨#[]⟩, .int .i64 0, .slice none 0 0] 33)), (M8, (.cells #[.bool b8, .slice a8 l8 c8, .slice t8 y8 u8] 43)), (M9, (.cells #[.bool b9, .slice a9 l9 c9, .slice t9 y9 u9] 43))] w7 W) stRat (fun W hW => hW.2 (M9, (.cells #[.bool b9, .slice a9 l9 c9, .slice t9 y9 u9] 43)) (by simp)) rfl (by rfl)
    go_simp
    refine wpAnyL_rows (R := fun i v _ W => match i with | 2 => RatAt W v (turnZ P2.1 P2.2) (P2.1.natAbs) | 3 => RatAt W v (lowZ (P1.1 * turnZ P2.1 P2.2) (P1.2 * P2.1.natAbs)) (lowD (P1.1 * turnZ P2.1 P2.2) (P1.2 * P2.1.natAbs)) | _ => True) (I := fun L vs W => (Bxs [(w.heap.size + 1 + 1, (.cells #[.int .i64 0, .int .i64 0, .bool false, .slice none 0 0, .bool false, .slice none 0 0, .string ⟨#[]⟩, .int .i64 0, .int .i64 0, .string ⟨#[]⟩, .int .i64 0, .bool false, .slice none 0 0, .bool false, .slice none 0 0, .string ⟨#[]⟩, .int .i64 0, .slice none 0 0] 33)), (M8, (.cells #[.bool b8, .slice a8 l8 c8, .slice t8 y8 u8] 43)), (M9, (.cells #[.bool b9, .slice a9 l9 c9, .slice t9 y9 u9] 43))] w7 W) ∧ B2 ≤ W.heap.size ∧ Two 43 3 43 3 B2 (RatC (lowZ (P1.1 * turnZ P2.1 P2.2) (P1.2 * P2.1.natAbs)) (lowD (P1.1 * turnZ P2.1 P2.2) (P1.2 * P2.1.natAbs))) (RatC 0 1) 4 5 90 91 L vs W) [((2, some 54, []), []), ((3, some 55, [2]), [(2, some 54, [])]), ((4, some 10, []), []), ((5, none, [3, 4]), [(3, some 55, [2]), (4, some 10, [])])] (by kernel_rfl) (by decide) (fun _ _ _ h => h.1) (fun _ => ⟨hB6, HB1.out, Two.start (by kernel_rfl) (by kernel_rfl)⟩) ?tabC ?finC
    case tabC =>
      refine TabAll.cons rfl (by kernel_rfl) (fun L vs W hsz hcl hn hd hdn hI K hK => ?_) ?_
      · simp only [putsD, Act.put, List.setIfInBounds_toArray, List.set_cons_zero, List.set_cons_succ] at hK ⊢
        clear hd hdn
        go_simp
        refine (RatTurned_any _ P2.1 P2.2 W (HR9'.out.below hI.1.1) HZ0.out).mono ?_
        rintro e W3 ⟨v', rfl, hv, hb3⟩
        refine hK _ v' _ (by rfl) (fun i u l hij hL h => ?_) hv ⟨hI.1.below hb3, Nat.le_trans hI.2.1 hb3.size, hI.2.2.below (RatC.good _ _) (RatC.good _ _) hb3 2 v' (by decide) (by decide) (by decide) (by decide)⟩
        · match i, hij, hL, h with
          | 2, _, _, h => exact RatAt.below h hb3
          | 3, _, _, h => exact RatAt.below h hb3
          | 0, _, _, _ | 1, _, _, _ | _ + 4, _, _, _ => trivial
      refine TabAll.cons rfl (by kernel_rfl) (fun L vs W hsz hcl hn hd hdn hI K hK => ?_) ?_
      · simp only [putsD, Act.put, List.setIfInBounds_toArray, List.set_cons_zero, List.set_cons_succ] at hK ⊢
        have r2 := hd.1
        generalize hv2 : vs 2 = v2 at *
        have HV2 := Lib.hid hv2
        clear hv2
        clear hd hdn
        have q2 : RatAt W v2 (turnZ P2.1 P2.2) (P2.1.natAbs) := r2
        clear r2
        go_simp
        refine (RatTimes_any _ _ P1.1 (turnZ P2.1 P2.2) P1.2 P2.1.natAbs W (HR8'.out.below hI.1.1) q2 HG1.out.2.1 (by have := HZ0.out; omega) (Nat.le_trans HG1.out.1 (by omega)) (by rw [turnZ_abs]; exact Nat.le_trans HG2.out.2.2 (by omega)) (Nat.le_trans HG1.out.2.2 (by omega)) (Nat.le_trans HG2.out.1 (by omega))).mono ?_
        rintro e W3 ⟨v', rfl, hv, hb3⟩
        refine hK _ v' _ (by rfl) (fun i u l hij hL h => ?_) hv ⟨hI.1.below hb3, Nat.le_trans hI.2.1 hb3.size, hI.2.2.below (RatC.good _ _) (RatC.good _ _) hb3 3 v' (by decide) (by decide) (by decide) (by decide)⟩
        · match i, hij, hL, h with
          | 2, _, _, h => exact RatAt.below h hb3
          | 3, _, _, h => exact RatAt.below h hb3
          | 0, _, _, _ | 1, _, _, _ | _ + 4, _, _, _ => trivial
      refine TabAll.cons rfl (by kernel_rfl) (fun L vs W hsz hcl hn hd hdn hI K hK => ?_) ?_
      · simp only [putsD, Act.put, List.setIfInBounds_toArray, List.set_cons_zero, List.set_cons_succ] at hK ⊢
        clear hd hdn
        have hs6 := hcl.notYet (k := 5) (i := 4) (by kernel_rfl) hn
        go_simp
        have hb3 := ext_alloc W (.cells #[.bool false, .slice none 0 0, .slice none 0 0] 43 (0, 0))
        refine hK _ (.pointer (some ⟨W.heap.size, 0, none⟩)) _ (by rfl) (fun i u l hij hL h => ?_) trivial ⟨hI.1.below hb3, Nat.le_trans hI.2.1 hb3.size, hI.2.2.new1 (RatC.good _ _) (RatC.good _ _) hs6 hI.2.1 [.bool false, .slice none 0 0, .slice none 0 0] rfl noInt_zeroR (by decide) (by decide) (by decide)⟩
        · match i, hij, hL, h with
          | 2, _, _, h => exact RatAt.below h hb3
          | 3, _, _, h => exact RatAt.below h hb3
          | 0, _, _, _ | 1, _, _, _ | _ + 4, _, _, _ => trivial
      refine TabAll.cons rfl (by kernel_rfl) (fun L vs W hsz hcl hn hd hdn hI K hK => ?_) ?_
      · simp only [putsD, Act.put, List.setIfInBounds_toArray, List.set_cons_zero, List.set_cons_succ] at hK ⊢
        have r3 := hd.1
        have r4 := hd.2.1
        generalize hv3 : vs 3 = v3 at *
        have HV3 := Lib.hid hv3
        clear hv3
        generalize hv4 : vs 4 = v4 at *
        have HV4 := Lib.hid hv4
        clear hv4
        clear hd
        have q9 : RatAt W v3 (lowZ (P1.1 * turnZ P2.1 P2.2) (P1.2 * P2.1.natAbs)) (lowD (P1.1 * turnZ P2.1 P2.2) (P1.2 * P2.1.natAbs)) := r3
        clear r3 r4
        obtain ⟨M, old, hp, hBM, hM, hno, hol, -⟩ := hI.2.2.1 hdn.2.1
        have hp' : v4 = .pointer (some ⟨M, 0, none⟩) := HV4.out.symm.trans hp
        subst hp'
        obtain ⟨b9, nv9, dv9, k9, rfl, hn9, hm9, hz9⟩ := q9
        obtain ⟨a9, c9, rfl⟩ := hn9.slice
        obtain ⟨a8, c8, rfl⟩ := hm9.slice
        generalize hl9 : (dig k9).length = l9 at *
        generalize hl8 : (dig (lowD (P1.1 * turnZ P2.1 P2.2) (P1.2 * P2.1.natAbs))).length = l8 at *
        have HS := Lib.hid (setRow_facts hM #[.bool b9, .slice a9 l9 c9, .slice a8 l8 c8])
        have HC : RatC (lowZ (P1.1 * turnZ P2.1 P2.2) (P1.2 * P2.1.natAbs)) (lowD (P1.1 * turnZ P2.1 P2.2) (P1.2 * P2.1.natAbs)) W [.bool b9, .slice a9 l9 c9, .slice a8 l8 c8] := ⟨b9, _, _, k9, rfl, hn9, hm9, hz9⟩
        have HTW := Lib.hid (hI.2.2.fill1 (W' := W.setRow M #[.bool b9, .slice a9 l9 c9, .slice a8 l8 c8]) (RatC.good _ _) (RatC.good _ _) hdn.2.1 hp hM hno hBM HS.out.1 HS.out.2.1 HC.noInt rfl HC undef (by decide) (by decide) (by decide))
        have HI := Lib.hid hI
        have HM := Lib.hid hM
        have HNO := Lib.hid hno
        clear hI hn9 hm9 hz9 hl9 hl8 hcl hn hsz HC hp hdn hno
        refine wpO_store (cells := #[.bool b9, .slice a9 l9 c9, .slice a8 l8 c8]) stRat hM (by simpa using hol) (by rfl) (by rfl) (by rfl) (by rfl) ?_
        refine hK _ undef _ (by rfl) (fun i u l hij hL h => ?_) trivial ⟨⟨HS.out.2.2 _ _ (by omega) HI.out.1.1, fun x hx => ?_⟩, by simpa using HI.out.2.1, HTW.out⟩
        · match i, hij, hL, h with
          | 2, _, _, h => exact ratAt_other h HM.out HNO.out HS.out.2.1
          | 3, _, _, h => exact ratAt_other h HM.out HNO.out HS.out.2.1
          | 0, _, _, _ | 1, _, _, _ | _ + 4, _, _, _ => trivial
        · have hx' := HI.out.1.2 x hx
          simp only [List.mem_cons, List.not_mem_nil, or_false] at hx
          rcases hx with rfl | rfl | rfl
          all_goals exact (HS.out.2.1 _ (box_lt hx') (by simp only; omega)).trans hx'
      exact TabAll.nil
    case finC =>
      intro vs Wq hd L hsz hall hI
      have r2 := hd.1
      have r3 := hd.2.1
      have r4 := hd.2.2.1
      have r5 := hd.2.2.2.1
      simp only [List.map_cons, List.map_nil, putsD, Act.put, List.setIfInBounds_toArray, List.set_cons_zero, List.set_cons_succ]
      have E1 := hI.2.2.end1 (hall 4 (by decide)) (hall 5 (by decide))
      generalize vs 2 = v2 at *
      generalize vs 3 = v3 at *
      generalize vs 4 = v4 at *
      generalize vs 5 = v5 at *
      clear hd hall hsz
      refine NoPanic.normal ?_
      clear r2 r3 r4 r5
      obtain ⟨M7, o7, rfl, hB7, hM7, -, -, hc7⟩ := E1
      obtain ⟨b7, nv7, dv7, k7, rfl, hn7, hm7, hz7⟩ := hc7 rfl
      obtain ⟨a7, c7, rfl⟩ := hn7.slice
      obtain ⟨t7, u7, rfl⟩ := hm7.slice
      have HR7 := Lib.hid (show RatAt Wq (.agg #[.bool b7, .slice a7 (dig k7).length c7, .slice t7 (dig (lowD (P1.1 * turnZ P2.1 P2.2) (P1.2 * P2.1.natAbs))).length u7]) (lowZ (P1.1 * turnZ P2.1 P2.2) (P1.2 * P2.1.natAbs)) (lowD (P1.1 * turnZ P2.1 P2.2) (P1.2 * P2.1.natAbs)) from ⟨b7, _, _, k7, rfl, hn7, hm7, hz7⟩)
      clear hn7 hm7 hz7 hc7
      generalize (dig k7).length = l7 at *
      generalize (dig (lowD (P1.1 * turnZ P2.1 P2.2) (P1.2 * P2.1.natAbs))).length = y7 at hM7 HR7
      have hBp := hI.1
      clear hI
      clear hB6
      skip
      have h3 := hBp.2 (w.heap.size + 1 + 1, (.cells #[.int .i64 0, .int .i64 0, .bool false, .slice none 0 0, .bool false, .slice none 0 0, .string ⟨#[]⟩, .int .i64 0, .int .i64 0, .string ⟨#[]⟩, .int .i64 0, .bool false, .slice none 0 0, .bool false, .slice none 0 0, .string ⟨#[]⟩, .int .i64 0, .slice none 0 0] 33)) (by simp)
      have hb1q := ext_trans hb17 hBp.1
      have hM8 := hBp.2 (M8, (.cells #[.bool b8, .slice a8 l8 c8, .slice t8 y8 u8] 43)) (by simp)
      have hM9 := hBp.2 (M9, (.cells #[.bool b9, .slice a9 l9 c9, .slice t9 y9 u9] 43)) (by simp)
      have HR8 := Lib.hid (HR8'.out.below hBp.1)
      have HR9 := Lib.hid (HR9'.out.below hBp.1)
      clear hBp HR8' HR9'
      have d0 := box_cell hM7 0
      have d1 := box_cell hM7 1
      have d2 := box_cell hM7 2
      simp only [List.getElem?_toArray, List.getElem?_cons_zero, List.getElem?_cons_succ] at d0 d1 d2
      have HPQ := Lib.hid (show 0 < lowD (P1.1 * turnZ P2.1 P2.2) (P1.2 * P2.1.natAbs) from lowD_pos (Nat.mul_pos HG1.out.2.1 (by have := HZ0.out; omega)))
      have HFl := Lib.hid (RatFloor_any _ _ _ Wq HR7.out HPQ.out (Nat.le_trans (low_dig (Nat.le_trans (times_dig HG1.out.1 (show (dig (turnZ P2.1 P2.2).natAbs).length ≤ 1000 by rw [turnZ_abs]; exact HG2.out.2.2)) (by omega)) : _ ≤ 100000) (by omega)) (Nat.le_trans (lowd_dig (Nat.le_trans (dig_mul HG1.out.2.2 HG2.out.1) (by omega)) : _ ≤ 100000) (by omega)))
      have HFD := Lib.hid (show (dig (flZ P1 P2).natAbs).length ≤ 3000 from Nat.le_trans (fdiv_dig2 HPQ.out (low_dig (Nat.le_trans (times_dig HG1.out.1 (show (dig (turnZ P2.1 P2.2).natAbs).length ≤ 1000 by rw [turnZ_abs]; exact HG2.out.2.2)) (by omega)) : _ ≤ 2000)) (by omega))
      skip
      rw [show Int.fdiv (lowZ (P1.1 * turnZ P2.1 P2.2) (P1.2 * P2.1.natAbs)) ((lowD (P1.1 * turnZ P2.1 P2.2) (P1.2 * P2.1.natAbs) : Nat) : Int) = flZ P1 P2 from rfl] at HFl
      clear HR7 HPQ HZ0
      generalize flZ P1 P2 = Q at *
      go_wp2_with fail
      refine HFl.out.mono ?_
      rintro e w8 ⟨v8, rfl, hI, hb8⟩
      clear HFl d0 d1 d2 hM7
      replace h3 := (hb8.block _ (box_lt h3)).trans h3
      replace hM8 := (hb8.block _ (box_lt hM8)).trans hM8
      replace hM9 := (hb8.block _ (box_lt hM9)).trans hM9
      have HWh := Lib.hid (Whole_any v8 Q w8 hI)
      clear hI
      go_wp2_with fail
      refine HWh.out.mono ?_
      rintro e w9 ⟨v9, rfl, hQ, hb9⟩
      clear HWh
      replace h3 := (hb9.block _ (box_lt h3)).trans h3
      replace hM8 := (hb9.block _ (box_lt hM8)).trans hM8
      replace hM9 := (hb9.block _ (box_lt hM9)).trans hM9
      have hM6n := box_lt h3
      have hb89 := ext_trans hb8 hb9
      have HR8q := Lib.hid (HR8.out.below hb89)
      have HR9q := Lib.hid (HR9.out.below hb89)
      have hb19 := ext_trans hb1q hb89
      clear hb1q hb89 hb8 hb9 HR8 HR9
      obtain ⟨b6, nv6, dv6, k6, rfl, hn6, hm6, hz6⟩ := hQ
      obtain ⟨a6, c6, rfl⟩ := hn6.slice
      obtain ⟨t6, u6, rfl⟩ := hm6.slice
      have HQ := Lib.hid (show RatAt w9 (.agg #[.bool b6, .slice a6 (dig k6).length c6, .slice t6 (dig 1).length u6]) Q 1 from ⟨b6, _, _, k6, rfl, hn6, hm6, hz6⟩)
      clear hn6 hm6 hz6
      generalize (dig k6).length = l6 at *
      generalize (dig 1).length = y6 at *
      have hk := ext_alloc w9 (.cells #[.bool b6, .slice a6 l6 c6, .slice t6 y6 u6] 43)
      have hM6 := heap_new w9 (.cells #[.bool b6, .slice a6 l6 c6, .slice t6 y6 u6] 43)
      go_upto_region 20 with fail
      generalize w9.alloc (.cells #[.bool b6, .slice a6 l6 c6, .slice t6 y6 u6] 43) = wt at *
      replace h3 := (hk.block _ (box_lt h3)).trans h3
      replace hM8 := (hk.block _ (box_lt hM8)).trans hM8
      replace hM9 := (hk.block _ (box_lt hM9)).trans hM9
      have hb1t := ext_trans hb19 hk
      have HQt := Lib.hid (HQ.out.below hk)
      have HR8t := Lib.hid (HR8q.out.below hk)
      have HR9t := Lib.hid (HR9q.out.below hk)
      clear hk hb19 HQ HR8q HR9q
      go_upto_region 22 with fail
      have hB7 : Bxs [(M8, (.cells #[.bool b8, .slice a8 l8 c8, .slice t8 y8 u8] 43)), (w9.heap.size, (.cells #[.bool b6, .slice a6 l6 c6, .slice t6 y6 u6] 43)), (M9, (.cells #[.bool b9, .slice a9 l9 c9, .slice t9 y9 u9] 43))] w wt.drew := ⟨hb1t.drew, fun x hx => by
        simp only [List.mem_cons, List.not_mem_nil, or_false] at hx
        rcases hx with rfl | rfl | rfl
        · exact hM8
        · exact hM6
        · exact hM9⟩
      replace h3 : wt.drew.heap[w.heap.size + 1 + 1]? = _ := h3
      clear hM8 hM6 hM9
      generalize hMM : w9.heap.size = M6 at *
      clear hMM
      refine wp_region_noPanic ?_
      refine wp_region_L (S := fun _ W => Bxs [(M8, (.cells #[.bool b8, .slice a8 l8 c8, .slice t8 y8 u8] 43)), (M6, (.cells #[.bool b6, .slice a6 l6 c6, .slice t6 y6 u6] 43)), (M9, (.cells #[.bool b9, .slice a9 l9 c9, .slice t9 y9 u9] 43))] w W) (by kernel_rfl) ?_
      refine wpAnyL_take (T := fun W => Bxs [(M8, (.cells #[.bool b8, .slice a8 l8 c8, .slice t8 y8 u8] 43)), (M6, (.cells #[.bool b6, .slice a6 l6 c6, .slice t6 y6 u6] 43)), (M9, (.cells #[.bool b9, .slice a9 l9 c9, .slice t9 y9 u9] 43))] w W) (i := 0) (v := .agg #[.bool b8, .slice a8 l8 c8, .slice t8 y8 u8]) rfl (by kernel_rfl) (by kernel_rfl) (by kernel_rfl) (fun _ _ _ h => h) (fun _ _ => Iff.rfl) (fun _ _ _ _ h => h) (Closed.of_B (by kernel_rfl)) (Or.inl ⟨by kernel_rfl, ?hyY0⟩) hB7 ?restY0
      case hyY0 => exact runs_load (T := fun W => Bxs [(M8, (.cells #[.bool b8, .slice a8 l8 c8, .slice t8 y8 u8] 43)), (M6, (.cells #[.bool b6, .slice a6 l6 c6, .slice t6 y6 u6] 43)), (M9, (.cells #[.bool b9, .slice a9 l9 c9, .slice t9 y9 u9] 43))] w W) stRat (fun W hW => hW.2 (M8, (.cells #[.bool b8, .slice a8 l8 c8, .slice t8 y8 u8] 43)) (by simp)) rfl (by rfl)
      go_simp
      refine wpAnyL_take (T := fun W => Bxs [(M8, (.cells #[.bool b8, .slice a8 l8 c8, .slice t8 y8 u8] 43)), (M6, (.cells #[.bool b6, .slice a6 l6 c6, .slice t6 y6 u6] 43)), (M9, (.cells #[.bool b9, .slice a9 l9 c9, .slice t9 y9 u9] 43))] w W) (i := 1) (v := .agg #[.bool b6, .slice a6 l6 c6, .slice t6 y6 u6]) rfl (by kernel_rfl) (by kernel_rfl) (by kernel_rfl) (fun _ _ _ h => h) (fun _ _ => Iff.rfl) (fun _ _ _ _ h => h) (Closed.of_B (by kernel_rfl)) (Or.inl ⟨by kernel_rfl, ?hyY1⟩) hB7 ?restY1
      case hyY1 => exact runs_load (T := fun W => Bxs [(M8, (.cells #[.bool b8, .slice a8 l8 c8, .slice t8 y8 u8] 43)), (M6, (.cells #[.bool b6, .slice a6 l6 c6, .slice t6 y6 u6] 43)), (M9, (.cells #[.bool b9, .slice a9 l9 c9, .slice t9 y9 u9] 43))] w W) stRat (fun W hW => hW.2 (M6, (.cells #[.bool b6, .slice a6 l6 c6, .slice t6 y6 u6] 43)) (by simp)) rfl (by rfl)
      go_simp
      refine wpAnyL_take (T := fun W => Bxs [(M8, (.cells #[.bool b8, .slice a8 l8 c8, .slice t8 y8 u8] 43)), (M6, (.cells #[.bool b6, .slice a6 l6 c6, .slice t6 y6 u6] 43)), (M9, (.cells #[.bool b9, .slice a9 l9 c9, .slice t9 y9 u9] 43))] w W) (i := 2) (v := .agg #[.bool b9, .slice a9 l9 c9, .slice t9 y9 u9]) rfl (by kernel_rfl) (by kernel_rfl) (by kernel_rfl) (fun _ _ _ h => h) (fun _ _ => Iff.rfl) (fun _ _ _ _ h => h) (Closed.of_B (by kernel_rfl)) (Or.inl ⟨by kernel_rfl, ?hyY2⟩) hB7 ?restY2
      case hyY2 => exact runs_load (T := fun W => Bxs [(M8, (.cells #[.bool b8, .slice a8 l8 c8, .slice t8 y8 u8] 43)), (M6, (.cells #[.bool b6, .slice a6 l6 c6, .slice t6 y6 u6] 43)), (M9, (.cells #[.bool b9, .slice a9 l9 c9, .slice t9 y9 u9] 43))] w W) stRat (fun W hW => hW.2 (M9, (.cells #[.bool b9, .slice a9 l9 c9, .slice t9 y9 u9] 43)) (by simp)) rfl (by rfl)
      go_simp
      refine wpAnyL_ready (rs := [3]) (by kernel_rfl) (by simp) ?_
      refine AllL.cons rfl (by kernel_rfl) (fun K hK => ?_) AllL.nil
      go_simp
      refine (RatTimes_any _ _ Q P2.1 1 P2.2 _ (HQt.out.below (Below.refl _ _).drew) (HR9t.out.below (Below.refl _ _).drew) (by omega) HG2.out.2.1 (Nat.le_trans HFD.out (by omega)) (Nat.le_trans HG2.out.1 (by omega)) (Nat.le_trans dig_one_le (by omega)) (Nat.le_trans HG2.out.2.2 (by omega))).mono ?_
      rintro e W8 ⟨v10, rfl, hT, hb⟩
      have hB8 := hB7.below hb
      refine hK _ _ ⟨hB8, ?_⟩
      clear hK K
      replace h3 := (hb.block _ (box_lt h3)).trans h3
      have HD7 := Lib.hid (show 0 < lowD (Q * P2.1) (1 * P2.2) ∧ (dig (lowZ (Q * P2.1) (1 * P2.2)).natAbs).length ≤ 5000 ∧ (dig (lowD (Q * P2.1) (1 * P2.2))).length ≤ 5000 from ⟨lowD_pos (Nat.mul_pos (by omega) HG2.out.2.1), low_dig (Nat.le_trans (times_dig HFD.out HG2.out.1) (by omega)), lowd_dig (Nat.le_trans (dig_mul dig_one_le HG2.out.2.2) (by omega))⟩)
      have HLz := Lib.hid (fun h : ok = true => (HLAW.out h).1 (lowZ (Q * P2.1) (1 * P2.2)) (lowD (Q * P2.1) (1 * P2.2)) rfl rfl)
      clear HLAW
      generalize lowZ (Q * P2.1) (1 * P2.2) = Z7 at *
      generalize lowD (Q * P2.1) (1 * P2.2) = D7 at *
      have HLs := Lib.hid (RatLess_any _ _ P1.1 Z7 P1.2 D7 W8 (HR8t.out.below (ext_trans (Below.refl _ _).drew hb)) hT HG1.out.2.1 HD7.out.1 (Nat.le_trans HG1.out.1 (by omega)) (Nat.le_trans HD7.out.2.1 (by omega)) (Nat.le_trans HG1.out.2.2 (by omega)) (Nat.le_trans HD7.out.2.2 (by omega)))
      clear hT hb hB7 HQt HR8t HR9t
      refine wpAnyL_ready (rs := [4]) (by kernel_rfl) (by simp) ?_
      refine AllL.cons rfl (by kernel_rfl) (fun K hK => ?_) AllL.nil
      go_simp
      refine (HLs.out).mono ?_
      rintro e W9 ⟨v11, rfl, hR, hb⟩
      have hB9 := hB8.below hb
      refine hK _ _ ⟨hB9, ?_⟩
      clear hK K
      replace h3 := (hb.block _ (box_lt h3)).trans h3
      have HNm := Lib.hid (number_any _ _ _ W9 hR (low_dig (Nat.le_trans (plus_dig (k := 5000) (Nat.le_trans HG1.out.1 (by omega)) (neg_dig HD7.out.2.1) (Nat.le_trans HG1.out.2.2 (by omega)) HD7.out.2.2) (by omega))) (lowd_dig (Nat.le_trans (dig_mul HG1.out.2.2 HD7.out.2.2) (by omega))))
      clear hR hb hB8 HLs
      refine wpAnyL_ready (rs := [5]) (by kernel_rfl) (by simp) ?_
      refine AllL.cons rfl (by kernel_rfl) (fun K hK => ?_) AllL.nil
      go_simp
      refine (HNm.out).mono ?_
      rintro e W10 ⟨v6, rfl, hS, hb⟩
      have hB10 := hB9.below hb
      refine hK _ _ ⟨hB10, ?_⟩
      clear hK K
      replace h3 := (hb.block _ (box_lt h3)).trans h3
      clear hb hB9 HNm
      have HSV := Lib.hid hS
      obtain ⟨cs, rfl, hlen, hone⟩ := stepOf_cells hS
      clear hS
      refine wpAnyL_ready (rs := [6]) (by kernel_rfl) (by simp) ?_
      refine AllL.cons rfl (by kernel_rfl) (fun K hK => ?_) AllL.nil
      have hs := setRow_facts h3 cs.toArray
      have hBz := bxs_row hB10 (by omega) h3 cs.toArray (fun x hx => by
        simp only [List.mem_cons, List.not_mem_nil, or_false] at hx
        rcases hx with rfl | rfl | rfl <;> simp only <;> omega)
      refine wpO_store (cells := cs.toArray) stStep h3 (by rfl) (by simpa using hlen) (by simpa using hone) (by rfl) (by rfl) ?_
      refine hK _ _ ⟨hBz, ?_⟩
      clear hK K
      refine wpAnyL_ready (rs := [7]) (by kernel_rfl) (by simp) ?_
      refine AllL.cons rfl (by kernel_rfl) (fun K hK => ?_) AllL.nil
      go_simp
      refine hK _ _ ⟨hBz, ?_⟩
      clear hK K
      refine wpAnyL_done (by kernel_rfl) ?_ _
      refine NoPanic.normal ?_
      go_wp2
      exact bodyPost_ret (results_cell_tmp (t := 6) (u := 7) rfl stStep rfl hs.1 (by simpa using hlen)) rfl ⟨_, _, _, rfl, StepOf.other HSV.out h3 noU_zero hs.2.1, HLz.out, hs.2.2 _ _ (by omega) hB10.1⟩

end Go.Proofs.YtpmadgmjkljbgaaDoor
