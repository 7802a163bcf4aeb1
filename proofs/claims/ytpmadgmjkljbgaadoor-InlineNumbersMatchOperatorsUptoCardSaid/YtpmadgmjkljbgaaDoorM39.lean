/- Part 39 of the proof. -/
import Derived.Test.YtpmadgmjkljbgaaDoorM38

/- Walk: the law InlineNumbersMatchOperators. -/
namespace Go.Proofs.YtpmadgmjkljbgaaDoor
open Go.RowKit

set_option maxRecDepth 100000 in
set_option maxHeartbeats 8000000 in
theorem Law_any (op cmp : Int) (v1 v2 : Value) (x1 x2 : Vl) (w : World) (hv1 : VlAt w v1 x1) (hv2 : VlAt w v2 x2) (g1 : VlIn x1) (g2 : VlIn x2) (hG : Glob w) :
    Calls Tryd.prog 3 #[.int .i64 op, .int .i64 cmp, v1, v2] w fun e w' => e = .returned (.bool true) ∧ Below w.heap.size w w' := by
  have HV1 := Lib.hid (fun W (h : Below w.heap.size w W) => ValueOk_any v1 x1 W (hv1.below h) g1 (hG.below h))
  have HV2 := Lib.hid (fun W (h : Below w.heap.size w W) => ValueOk_any v2 x2 W (hv2.below h) g2 (hG.below h))
  have HA1 := Lib.hid hv1
  have HA2 := Lib.hid hv2
  have HG1 := Lib.hid g1
  have HG2 := Lib.hid g2
  clear hG g1 g2
  obtain ⟨X1, hX1⟩ : ∃ X, X = x1 := ⟨_, rfl⟩
  obtain ⟨X2, hX2⟩ : ∃ X, X = x2 := ⟨_, rfl⟩
  obtain ⟨k1, nn1, nl1, dn1, dl1, s1, i1⟩ := x1
  obtain ⟨av1, bv1, rfl, hx1, hy1⟩ := hv1
  replace hx1 : RowU w av1 nl1 := hx1
  replace hy1 : RowU w bv1 dl1 := hy1
  obtain ⟨a1, c1, rfl, -⟩ := hx1
  obtain ⟨p1, r1, rfl, -⟩ := hy1
  obtain ⟨k2, nn2, nl2, dn2, dl2, s2, i2⟩ := x2
  obtain ⟨av2, bv2, rfl, hx2, hy2⟩ := hv2
  replace hx2 : RowU w av2 nl2 := hx2
  replace hy2 : RowU w bv2 dl2 := hy2
  obtain ⟨a2, c2, rfl, -⟩ := hx2
  obtain ⟨p2, r2, rfl, -⟩ := hy2
  have HL2 := Lib.hid (show nl2.length = X2.nl.length by rw [hX2])
  dsimp only at HV1 HA1 HV2 HA2
  generalize nl1.length = m1 at *
  generalize nl2.length = m2 at *
  generalize dl1.length = q1 at *
  generalize dl2.length = q2 at *
  rw [← hX1] at HV1 HA1 HG1
  rw [← hX2] at HV2 HA2 HG2
  clear hX1 hX2
  have hal := alloc2 w (.cells #[.int .i64 k1, .bool nn1, .slice a1 m1 c1, .bool dn1, .slice p1 q1 r1, .string s1, .int .i64 i1] 26) (.cells #[.int .i64 k2, .bool nn2, .slice a2 m2 c2, .bool dn2, .slice p2 q2 r2, .string s2, .int .i64 i2] 26)
  go_enter Tryd.func3, Tryd.ntmps3
  go_upto_region 1 with fail
  generalize ((w.alloc (.cells #[.int .i64 k1, .bool nn1, .slice a1 m1 c1, .bool dn1, .slice p1 q1 r1, .string s1, .int .i64 i1] 26)).alloc (.cells #[.int .i64 k2, .bool nn2, .slice a2 m2 c2, .bool dn2, .slice p2 q2 r2, .string s2, .int .i64 i2] 26)) = w1 at *
  obtain ⟨hb1, h1, h2⟩ := hal
  refine wp_region_lit ?_
  refine wpL_load stVal h1 (by rfl) (by rfl) ?_
  go_wp2_with fail
  refine (HV1.out w1 hb1).mono ?_
  rintro e w2 ⟨B1, rfl, hgood1, hb2⟩
  replace h1 := (hb2.block _ (box_lt h1)).trans h1
  replace h2 := (hb2.block _ (box_lt h2)).trans h2
  have hb12 := ext_trans hb1 hb2
  clear hb1 hb2 HV1
  have HGd1 := Lib.hid hgood1
  clear hgood1
  cases B1
  · go_wp2
    exact bodyPost_ret (v := .bool true) (by simp [results, Tryd.results3, go_sem]) rfl ⟨rfl, hb12⟩
  have e0 := box_cell h2 0
  have e1 := box_cell h2 1
  have e2 := box_cell h2 2
  have e3 := box_cell h2 3
  have e4 := box_cell h2 4
  have e5 := box_cell h2 5
  have e6 := box_cell h2 6
  simp only [List.getElem?_toArray, List.getElem?_cons_zero, List.getElem?_cons_succ] at e0 e1 e2 e3 e4 e5 e6
  go_wp2_with fail
  refine (HV2.out w2 hb12).mono ?_
  rintro e w3 ⟨B2, rfl, hgood2, hb3⟩
  replace h1 := (hb3.block _ (box_lt h1)).trans h1
  replace h2 := (hb3.block _ (box_lt h2)).trans h2
  have hb13 := ext_trans hb12 hb3
  clear hb12 hb3 HV2
  clear e0 e1 e2 e3 e4 e5 e6
  have HGd2 := Lib.hid hgood2
  clear hgood2
  cases B2
  · go_wp2
    exact bodyPost_ret (v := .bool true) (by simp [results, Tryd.results3, go_sem]) rfl ⟨rfl, hb13⟩
  by_cases ho1 : op < 5
  · go_wp2
    exact bodyPost_ret (v := .bool true) (by simp [results, Tryd.results3, go_sem]) rfl ⟨rfl, hb13⟩
  by_cases ho2 : op > 16
  · go_wp2
    exact bodyPost_ret (v := .bool true) (by simp [results, Tryd.results3, go_sem]) rfl ⟨rfl, hb13⟩
  by_cases hc1 : cmp < 1
  · go_wp2
    exact bodyPost_ret (v := .bool true) (by simp [results, Tryd.results3, go_sem]) rfl ⟨rfl, hb13⟩
  by_cases hc2 : cmp > 10
  · go_wp2
    exact bodyPost_ret (v := .bool true) (by simp [results, Tryd.results3, go_sem]) rfl ⟨rfl, hb13⟩
  have HR := Lib.hid (show 5 ≤ op ∧ op ≤ 16 ∧ 1 ≤ cmp ∧ cmp ≤ 10 by omega)
  replace HGd1 := Lib.hid (HGd1.out trivial)
  replace HGd2 := Lib.hid (HGd2.out rfl)
  go_upto_region 3 with fail
  clear ho1 ho2 hc1 hc2
  have HBn := Lib.hid (BinaryI_any op _ _ X1 X2 w3 (HA1.out.below hb13) (HA2.out.below hb13) HG1.out.nl HG2.out.nl)
  have HAr := Lib.hid (fun W (h : Below w.heap.size w W) => Arithmetic_any op HR.out.1 HR.out.2.1 _ _ X1 X2 W (HA1.out.below h) (HA2.out.below h) HGd1.out HGd2.out HG1.out.nl HG2.out.nl HG1.out.dl HG2.out.dl)
  have HCov := Lib.hid (cov_eq op HG1.out.nl HG2.out.nl HGd2.out)
  rw [← HL2.out] at HCov
  have HSm := Lib.hid (show binOk (smallV X1) (smallV X2) op (smallZ X1) (smallZ X2) = true → smallV X1 = true ∧ smallV X2 = true from binOk_small)
  have HLen := Lib.hid (show binOk (smallV X1) (smallV X2) op (smallZ X1) (smallZ X2) = true → (valZ (binZ op (smallZ X1) (smallZ X2))).nl.length ≤ 2000000 from fun h => Nat.le_trans (binZ_len op HG1.out.nl HG2.out.nl h) (by omega))
  have HCp := Lib.hid (fun W (h : Below w.heap.size w W) => CompareI_any cmp _ _ X1 X2 W (HA1.out.below h) (HA2.out.below h) HG1.out.nl HG2.out.nl)
  have HT1 := Lib.hid (fun W (h : Below w.heap.size w W) => smallL_any _ X1 W (HA1.out.below h) HG1.out.nl)
  have HT2 := Lib.hid (fun W (h : Below w.heap.size w W) => smallL_any _ X2 W (HA2.out.below h) HG2.out.nl)
  have HN1 := Lib.hid (fun (hp : smallV X1 = true) W (h : Below w.heap.size w W) => NumberS_any _ X1 W (HA1.out.below h) HG1.out HGd1.out hp)
  have HN2 := Lib.hid (fun (hp : smallV X2 = true) W (h : Below w.heap.size w W) => NumberS_any _ X2 W (HA2.out.below h) HG2.out HGd2.out hp)
  have HRo := Lib.hid (fun a b W h1 h2 => OrderS_any a b (smallZ X1) (smallZ X2) W h1 h2 (smallZ_in HG1.out.nl) (smallZ_in HG2.out.nl))
  generalize binOk (smallV X1) (smallV X2) op (smallZ X1) (smallZ X2) = ok at *
  generalize binZ op (smallZ X1) (smallZ X2) = Z at *
  have d0 := box_cell h1 0
  have d1 := box_cell h1 1
  have d2 := box_cell h1 2
  have d3 := box_cell h1 3
  have d4 := box_cell h1 4
  have d5 := box_cell h1 5
  have d6 := box_cell h1 6
  simp only [List.getElem?_toArray, List.getElem?_cons_zero, List.getElem?_cons_succ] at d0 d1 d2 d3 d4 d5 d6
  have e0 := box_cell h2 0
  have e1 := box_cell h2 1
  have e2 := box_cell h2 2
  have e3 := box_cell h2 3
  have e4 := box_cell h2 4
  have e5 := box_cell h2 5
  have e6 := box_cell h2 6
  simp only [List.getElem?_toArray, List.getElem?_cons_zero, List.getElem?_cons_succ] at e0 e1 e2 e3 e4 e5 e6
  go_wp2_with fail
  refine HBn.out.mono ?_
  rintro e w4 ⟨v4, rfl, hyes, hno, hb4⟩
  clear d0 e0 d1 e1 d2 e2 d3 e3 d4 e4 d5 e5 d6 e6 HBn
  obtain ⟨x4, hV4, hY4⟩ : ∃ x4, VlAt w4 v4 x4 ∧ ((ok = true → x4 = valZ Z) ∧ (ok = false → x4 = zeroVl)) := by
    cases ok
    · exact ⟨_, hno rfl, (fun h => by cases h), fun _ => rfl⟩
    · exact ⟨_, hyes rfl, fun _ => rfl, fun h => by cases h⟩
  clear hyes hno
  replace h1 := (hb4.block _ (box_lt h1)).trans h1
  replace h2 := (hb4.block _ (box_lt h2)).trans h2
  have HY4 := Lib.hid hY4
  have HV4 := Lib.hid hV4
  clear hY4
  obtain ⟨X4, hX4⟩ : ∃ X, X = x4 := ⟨_, rfl⟩
  obtain ⟨k4, nn4, nl4, dn4, dl4, s4, i4⟩ := x4
  obtain ⟨av4, bv4, rfl, hx4, hy4⟩ := hV4
  replace hx4 : RowU w4 av4 nl4 := hx4
  replace hy4 : RowU w4 bv4 dl4 := hy4
  obtain ⟨a4, c4, rfl, -⟩ := hx4
  obtain ⟨p4, r4, rfl, -⟩ := hy4
  dsimp only at HV4
  rw [← hX4] at HV4 HY4
  clear hX4
  generalize nl4.length = m4 at *
  generalize dl4.length = q4 at *
  have hk := ext_alloc w4 (.cells #[.int .i64 k4, .bool nn4, .slice a4 m4 c4, .bool dn4, .slice p4 q4 r4, .string s4, .int .i64 i4] 26)
  have h9 := heap_new w4 (.cells #[.int .i64 k4, .bool nn4, .slice a4 m4 c4, .bool dn4, .slice p4 q4 r4, .string s4, .int .i64 i4] 26)
  go_upto_region 4 with fail
  generalize w4.alloc (.cells #[.int .i64 k4, .bool nn4, .slice a4 m4 c4, .bool dn4, .slice p4 q4 r4, .string s4, .int .i64 i4] 26) = w5 at *
  replace h1 := (hk.block _ (box_lt h1)).trans h1
  replace h2 := (hk.block _ (box_lt h2)).trans h2
  have hb15 := ext_trans hb13 (ext_trans hb4 hk)
  have HV5 := Lib.hid (HV4.out.below hk)
  clear hb13 hb4 hk HV4
  generalize w4.heap.size = N9 at *
  have HB5 : Bxs [(w.heap.size, (.cells #[.int .i64 k1, .bool nn1, .slice a1 m1 c1, .bool dn1, .slice p1 q1 r1, .string s1, .int .i64 i1] 26)), (w.heap.size + 1, (.cells #[.int .i64 k2, .bool nn2, .slice a2 m2 c2, .bool dn2, .slice p2 q2 r2, .string s2, .int .i64 i2] 26)), (N9, (.cells #[.int .i64 k4, .bool nn4, .slice a4 m4 c4, .bool dn4, .slice p4 q4 r4, .string s4, .int .i64 i4] 26))] w5 w5 := ⟨Below.refl _ _, fun x hx => by
    simp only [List.mem_cons, List.not_mem_nil, or_false] at hx
    rcases hx with rfl | rfl | rfl
    · exact h1
    · exact h2
    · exact h9⟩
  have HB15 := Lib.hid hb15
  clear h1 h2 h9 hb15
  go_cut [11] (fun c wx => c = .bool ok ∧ Bxs [(w.heap.size, (.cells #[.int .i64 k1, .bool nn1, .slice a1 m1 c1, .bool dn1, .slice p1 q1 r1, .string s1, .int .i64 i1] 26)), (w.heap.size + 1, (.cells #[.int .i64 k2, .bool nn2, .slice a2 m2 c2, .bool dn2, .slice p2 q2 r2, .string s2, .int .i64 i2] 26)), (N9, (.cells #[.int .i64 k4, .bool nn4, .slice a4 m4 c4, .bool dn4, .slice p4 q4 r4, .string s4, .int .i64 i4] 26))] w5 wx)
  case first =>
    have HS1 := Lib.hid (fun W (h : Below w5.heap.size w5 W) => smallL_any _ X1 W (HA1.out.below (ext_trans HB15.out h)) HG1.out.nl)
    have HS2 := Lib.hid (fun W (h : Below w5.heap.size w5 W) => smallL_any _ X2 W (HA2.out.below (ext_trans HB15.out h)) HG2.out.nl)
    have HH1 := Lib.hid (fun W (h : Below w5.heap.size w5 W) => halfL_any _ X1 W (HA1.out.below (ext_trans HB15.out h)) HG1.out.nl)
    have HH2 := Lib.hid (fun W (h : Below w5.heap.size w5 W) => halfL_any _ X2 W (HA2.out.below (ext_trans HB15.out h)) HG2.out.nl)
    clear HAr HSm HY4 HV5 HA1 HA2 HG1 HG2 HGd1 HGd2
    clear HLen HCp HT1 HT2 HN1 HN2 HRo
    generalize smallV X1 = P1 at *
    generalize smallV X2 = P2 at *
    generalize halfV X1 = H1 at *
    generalize halfV X2 = H2 at *
    have h1 := HB5.2 (w.heap.size, (.cells #[.int .i64 k1, .bool nn1, .slice a1 m1 c1, .bool dn1, .slice p1 q1 r1, .string s1, .int .i64 i1] 26)) (by simp)
    have h2 := HB5.2 (w.heap.size + 1, (.cells #[.int .i64 k2, .bool nn2, .slice a2 m2 c2, .bool dn2, .slice p2 q2 r2, .string s2, .int .i64 i2] 26)) (by simp)
    have h9 := HB5.2 (N9, (.cells #[.int .i64 k4, .bool nn4, .slice a4 m4 c4, .bool dn4, .slice p4 q4 r4, .string s4, .int .i64 i4] 26)) (by simp)
    have d0 := box_cell h1 0
    have d1 := box_cell h1 1
    have d2 := box_cell h1 2
    have d3 := box_cell h1 3
    have d4 := box_cell h1 4
    have d5 := box_cell h1 5
    have d6 := box_cell h1 6
    simp only [List.getElem?_toArray, List.getElem?_cons_zero, List.getElem?_cons_succ] at d0 d1 d2 d3 d4 d5 d6
    clear h1 h2 h9
    go_wp2_with fail
    refine (HS1.out w5 HB5.1).mono ?_
    rintro e w6 ⟨rfl, hb⟩
    have HB6 := HB5.below hb
    clear hb d0 d1 d2 d3 d4 d5 d6
    cases P1
    · go_wp2
      all_goals go_meet
      all_goals exact ⟨by rw [HCov.out]; simp [cov], HB6⟩
    have h1 := HB6.2 (w.heap.size, (.cells #[.int .i64 k1, .bool nn1, .slice a1 m1 c1, .bool dn1, .slice p1 q1 r1, .string s1, .int .i64 i1] 26)) (by simp)
    have h2 := HB6.2 (w.heap.size + 1, (.cells #[.int .i64 k2, .bool nn2, .slice a2 m2 c2, .bool dn2, .slice p2 q2 r2, .string s2, .int .i64 i2] 26)) (by simp)
    have h9 := HB6.2 (N9, (.cells #[.int .i64 k4, .bool nn4, .slice a4 m4 c4, .bool dn4, .slice p4 q4 r4, .string s4, .int .i64 i4] 26)) (by simp)
    have d0 := box_cell h2 0
    have d1 := box_cell h2 1
    have d2 := box_cell h2 2
    have d3 := box_cell h2 3
    have d4 := box_cell h2 4
    have d5 := box_cell h2 5
    have d6 := box_cell h2 6
    simp only [List.getElem?_toArray, List.getElem?_cons_zero, List.getElem?_cons_succ] at d0 d1 d2 d3 d4 d5 d6
    clear h1 h2 h9
    go_wp2_with fail
    refine (HS2.out w6 HB6.1).mono ?_
    rintro e w7 ⟨rfl, hb⟩
    have HB7 := HB6.below hb
    clear hb d0 d1 d2 d3 d4 d5 d6
    cases P2
    · go_wp2
      all_goals go_meet
      all_goals exact ⟨by rw [HCov.out]; simp [cov], HB7⟩
    by_cases ho5 : op = 5
    · subst ho5
      go_wp2
      all_goals go_meet
      all_goals exact ⟨by rw [HCov.out]; simp [cov], HB7⟩
    by_cases ho6 : op = 6
    · subst ho6
      go_wp2
      all_goals go_meet
      all_goals exact ⟨by rw [HCov.out]; simp [cov], HB7⟩
    by_cases ho7 : op = 7
    · subst ho7
      have h1 := HB7.2 (w.heap.size, (.cells #[.int .i64 k1, .bool nn1, .slice a1 m1 c1, .bool dn1, .slice p1 q1 r1, .string s1, .int .i64 i1] 26)) (by simp)
      have h2 := HB7.2 (w.heap.size + 1, (.cells #[.int .i64 k2, .bool nn2, .slice a2 m2 c2, .bool dn2, .slice p2 q2 r2, .string s2, .int .i64 i2] 26)) (by simp)
      have h9 := HB7.2 (N9, (.cells #[.int .i64 k4, .bool nn4, .slice a4 m4 c4, .bool dn4, .slice p4 q4 r4, .string s4, .int .i64 i4] 26)) (by simp)
      have d0 := box_cell h1 0
      have d1 := box_cell h1 1
      have d2 := box_cell h1 2
      have d3 := box_cell h1 3
      have d4 := box_cell h1 4
      have d5 := box_cell h1 5
      have d6 := box_cell h1 6
      simp only [List.getElem?_toArray, List.getElem?_cons_zero, List.getElem?_cons_succ] at d0 d1 d2 d3 d4 d5 d6
      clear h1 h2 h9
      go_wp2_with fail
      refine (HH1.out w7 HB7.1).mono ?_
      rintro e w8 ⟨rfl, hb⟩
      have HB8 := HB7.below hb
      clear hb d0 d1 d2 d3 d4 d5 d6
      cases H1
      · go_wp2
        all_goals go_meet
        all_goals exact ⟨by rw [HCov.out]; simp [cov], HB8⟩
      have h1 := HB8.2 (w.heap.size, (.cells #[.int .i64 k1, .bool nn1, .slice a1 m1 c1, .bool dn1, .slice p1 q1 r1, .string s1, .int .i64 i1] 26)) (by simp)
      have h2 := HB8.2 (w.heap.size + 1, (.cells #[.int .i64 k2, .bool nn2, .slice a2 m2 c2, .bool dn2, .slice p2 q2 r2, .string s2, .int .i64 i2] 26)) (by simp)
      have h9 := HB8.2 (N9, (.cells #[.int .i64 k4, .bool nn4, .slice a4 m4 c4, .bool dn4, .slice p4 q4 r4, .string s4, .int .i64 i4] 26)) (by simp)
      have d0 := box_cell h2 0
      have d1 := box_cell h2 1
      have d2 := box_cell h2 2
      have d3 := box_cell h2 3
      have d4 := box_cell h2 4
      have d5 := box_cell h2 5
      have d6 := box_cell h2 6
      simp only [List.getElem?_toArray, List.getElem?_cons_zero, List.getElem?_cons_succ] at d0 d1 d2 d3 d4 d5 d6
      clear h1 h2 h9
      go_wp2_with fail
      refine (HH2.out w8 HB8.1).mono ?_
      rintro e w9 ⟨rfl, hb⟩
      have HB9 := HB8.below hb
      clear hb d0 d1 d2 d3 d4 d5 d6
      cases H2
      · go_wp2
        all_goals go_meet
        all_goals exact ⟨by rw [HCov.out]; simp [cov], HB9⟩
      go_wp2
      all_goals go_meet
      all_goals exact ⟨by rw [HCov.out]; simp [cov], HB9⟩
    by_cases ho9 : op = 9
    · subst ho9
      have h1 := HB7.2 (w.heap.size, (.cells #[.int .i64 k1, .bool nn1, .slice a1 m1 c1, .bool dn1, .slice p1 q1 r1, .string s1, .int .i64 i1] 26)) (by simp)
      have h2 := HB7.2 (w.heap.size + 1, (.cells #[.int .i64 k2, .bool nn2, .slice a2 m2 c2, .bool dn2, .slice p2 q2 r2, .string s2, .int .i64 i2] 26)) (by simp)
      have h9 := HB7.2 (N9, (.cells #[.int .i64 k4, .bool nn4, .slice a4 m4 c4, .bool dn4, .slice p4 q4 r4, .string s4, .int .i64 i4] 26)) (by simp)
      have d2 := box_cell h2 2
      simp only [List.getElem?_toArray, List.getElem?_cons_zero, List.getElem?_cons_succ] at d2
      clear h1 h2 h9
      by_cases hm : 0 < m2
      · have hm' : (0 : Int) < (m2 : Int) := by omega
        go_wp2
        all_goals go_meet
        all_goals exact ⟨by rw [HCov.out]; simp [cov, hm], HB7⟩
      have hm' : ¬ ((0 : Int) < (m2 : Int)) := by omega
      go_wp2
      all_goals go_meet
      all_goals exact ⟨by rw [HCov.out]; simp [cov, hm], HB7⟩
    by_cases ho10 : op = 10
    · subst ho10
      have h1 := HB7.2 (w.heap.size, (.cells #[.int .i64 k1, .bool nn1, .slice a1 m1 c1, .bool dn1, .slice p1 q1 r1, .string s1, .int .i64 i1] 26)) (by simp)
      have h2 := HB7.2 (w.heap.size + 1, (.cells #[.int .i64 k2, .bool nn2, .slice a2 m2 c2, .bool dn2, .slice p2 q2 r2, .string s2, .int .i64 i2] 26)) (by simp)
      have h9 := HB7.2 (N9, (.cells #[.int .i64 k4, .bool nn4, .slice a4 m4 c4, .bool dn4, .slice p4 q4 r4, .string s4, .int .i64 i4] 26)) (by simp)
      have d2 := box_cell h2 2
      simp only [List.getElem?_toArray, List.getElem?_cons_zero, List.getElem?_cons_succ] at d2
      clear h1 h2 h9
      by_cases hm : 0 < m2
      · have hm' : (0 : Int) < (m2 : Int) := by omega
        go_wp2
        all_goals go_meet
        all_goals exact ⟨by rw [HCov.out]; simp [cov, hm], HB7⟩
      have hm' : ¬ ((0 : Int) < (m2 : Int)) := by omega
      go_wp2
      all_goals go_meet
      all_goals exact ⟨by rw [HCov.out]; simp [cov, hm], HB7⟩
    have hn5 : (op == 5) = false := by simpa using ho5
    have hn6 : (op == 6) = false := by simpa using ho6
    have hn7 : (op == 7) = false := by simpa using ho7
    have hn9 : (op == 9) = false := by simpa using ho9
    have hn10 : (op == 10) = false := by simpa using ho10
    go_wp2
    all_goals go_meet
    all_goals exact ⟨by rw [HCov.out]; simp [cov, ho5, ho6, ho7, ho9, ho10], HB7⟩
  case rest =>
    obtain ⟨rfl, HB6⟩ := hcut
    generalize smallZ X1 = Z1 at *
    generalize smallZ X2 = Z2 at *
    generalize smallV X1 = P1 at *
    generalize smallV X2 = P2 at *
    go_upto_region 5 with fail
    go_cut [100] (fun c wx => c = .bool false ∧ Bxs [(w.heap.size, (.cells #[.int .i64 k1, .bool nn1, .slice a1 m1 c1, .bool dn1, .slice p1 q1 r1, .string s1, .int .i64 i1] 26)), (w.heap.size + 1, (.cells #[.int .i64 k2, .bool nn2, .slice a2 m2 c2, .bool dn2, .slice p2 q2 r2, .string s2, .int .i64 i2] 26)), (N9, (.cells #[.int .i64 k4, .bool nn4, .slice a4 m4 c4, .bool dn4, .slice p4 q4 r4, .string s4, .int .i64 i4] 26))] w5 wx)
    case first =>
      have HV6 := Lib.hid (HV5.out.below HB6.1)
      have h1 := HB6.2 (w.heap.size, (.cells #[.int .i64 k1, .bool nn1, .slice a1 m1 c1, .bool dn1, .slice p1 q1 r1, .string s1, .int .i64 i1] 26)) (by simp)
      have h2 := HB6.2 (w.heap.size + 1, (.cells #[.int .i64 k2, .bool nn2, .slice a2 m2 c2, .bool dn2, .slice p2 q2 r2, .string s2, .int .i64 i2] 26)) (by simp)
      have h9 := HB6.2 (N9, (.cells #[.int .i64 k4, .bool nn4, .slice a4 m4 c4, .bool dn4, .slice p4 q4 r4, .string s4, .int .i64 i4] 26)) (by simp)
      have d0 := box_cell h9 0
      have d1 := box_cell h9 1
      have d2 := box_cell h9 2
      have d3 := box_cell h9 3
      have d4 := box_cell h9 4
      have d5 := box_cell h9 5
      have d6 := box_cell h9 6
      simp only [List.getElem?_toArray, List.getElem?_cons_zero, List.getElem?_cons_succ] at d0 d1 d2 d3 d4 d5 d6
      clear h1 h2 h9
      clear HAr HA1 HA2 HG1 HG2 HGd1 HGd2 HSm HCov HV5 HLen HCp HT1 HT2 HN1 HN2 HRo
      cases ok
      · have hX : X4 = zeroVl := HY4.out.2 rfl
        rw [hX] at HV6
        clear hX
        go_wp2_with fail
        refine (SameValue_eq _ _ zeroVl _ HV6.out (zero_val _) (by simp [zeroVl]) (by simp [zeroVl])).mono ?_
        rintro e w7 ⟨rfl, hb7⟩
        have HB7 := HB6.below hb7
        clear hb7 d0 d1 d2 d3 d4 d5 d6
        go_wp2
        all_goals go_meet
        all_goals exact ⟨rfl, HB7⟩
      · go_wp2
        all_goals go_meet
        all_goals exact ⟨rfl, HB6⟩
    case rest =>
      obtain ⟨rfl, HB8⟩ := hcut
      clear HB6 HB5 HCov
      have HV8 := Lib.hid (HV5.out)
      clear HV5
      go_upto_region 7 with fail
      have HB8w := Lib.hid (ext_trans HB15.out HB8.1)
      have h1 := HB8.2 (w.heap.size, (.cells #[.int .i64 k1, .bool nn1, .slice a1 m1 c1, .bool dn1, .slice p1 q1 r1, .string s1, .int .i64 i1] 26)) (by simp)
      have h2 := HB8.2 (w.heap.size + 1, (.cells #[.int .i64 k2, .bool nn2, .slice a2 m2 c2, .bool dn2, .slice p2 q2 r2, .string s2, .int .i64 i2] 26)) (by simp)
      have h9 := HB8.2 (N9, (.cells #[.int .i64 k4, .bool nn4, .slice a4 m4 c4, .bool dn4, .slice p4 q4 r4, .string s4, .int .i64 i4] 26)) (by simp)
      have d0 := box_cell h1 0
      have d1 := box_cell h1 1
      have d2 := box_cell h1 2
      have d3 := box_cell h1 3
      have d4 := box_cell h1 4
      have d5 := box_cell h1 5
      have d6 := box_cell h1 6
      simp only [List.getElem?_toArray, List.getElem?_cons_zero, List.getElem?_cons_succ] at d0 d1 d2 d3 d4 d5 d6
      have e0 := box_cell h2 0
      have e1 := box_cell h2 1
      have e2 := box_cell h2 2
      have e3 := box_cell h2 3
      have e4 := box_cell h2 4
      have e5 := box_cell h2 5
      have e6 := box_cell h2 6
      simp only [List.getElem?_toArray, List.getElem?_cons_zero, List.getElem?_cons_succ] at e0 e1 e2 e3 e4 e5 e6
      clear h1 h2 h9
      go_wp2_with fail
      refine (HAr.out _ HB8w.out).mono ?_
      rintro e w10 ⟨v10, x5, b5, rfl, hS, hok, hb⟩
      have HB10 := HB8.below hb
      clear hb HB8w HAr d0 e0 d1 e1 d2 e2 d3 e3 d4 e4 d5 e5 d6 e6
      have HOK := Lib.hid hok
      clear hok
      obtain ⟨kk, cls, txt, va, vb, k6, n6, p6, l6, c6, d6, q6, m6, e6, s6, r6, p7, l7, c7, rfl, hR1, hR2⟩ := hS
      have HVS := Lib.hid (show VlAt w10 (.agg #[.int .i64 x5.k, .bool x5.nn, va, .bool x5.dn, vb, .string x5.s, .int .i64 x5.r]) x5 from ⟨_, _, rfl, hR1, hR2⟩)
      obtain ⟨X5, hX5⟩ : ∃ X, X = x5 := ⟨_, rfl⟩
      obtain ⟨k5, nn5, nl5, dn5, dl5, s5, i5⟩ := x5
      replace hR1 : RowU w10 va nl5 := hR1
      replace hR2 : RowU w10 vb dl5 := hR2
      obtain ⟨a5, c5, rfl, -⟩ := hR1
      obtain ⟨p5, r5, rfl, -⟩ := hR2
      dsimp only at HVS
      rw [← hX5] at HVS HOK
      clear hX5
      generalize nl5.length = m5 at *
      generalize dl5.length = q5 at *
      have hk := ext_alloc w10 (.cells #[.int .i64 0, .int .i64 0, .bool false, .slice none 0 0, .bool false, .slice none 0 0, .string ⟨#[]⟩, .int .i64 0, .int .i64 0, .string ⟨#[]⟩, .int .i64 0, .bool false, .slice none 0 0, .bool false, .slice none 0 0, .string ⟨#[]⟩, .int .i64 0, .slice none 0 0] 33 (0, 0))
      have h10 := heap_new w10 (.cells #[.int .i64 0, .int .i64 0, .bool false, .slice none 0 0, .bool false, .slice none 0 0, .string ⟨#[]⟩, .int .i64 0, .int .i64 0, .string ⟨#[]⟩, .int .i64 0, .bool false, .slice none 0 0, .bool false, .slice none 0 0, .string ⟨#[]⟩, .int .i64 0, .slice none 0 0] 33 (0, 0))
      have hlt5 := HB10.1.size
      go_upto_region 8 with (refine wpL_store (cells := #[.int .i64 kk, .int .i64 k5, .bool nn5, .slice a5 m5 c5, .bool dn5, .slice p5 q5 r5, .string s5, .int .i64 i5, .int .i64 cls, .string txt, .int .i64 k6, .bool n6, .slice p6 l6 c6, .bool d6, .slice q6 m6 e6, .string s6, .int .i64 r6, .slice p7 l7 c7]) stStep h10 (by rfl) (by rfl) (by rfl) (by rfl) (by rfl) ?_)
      have hs := setRow_facts h10 #[.int .i64 kk, .int .i64 k5, .bool nn5, .slice a5 m5 c5, .bool dn5, .slice p5 q5 r5, .string s5, .int .i64 i5, .int .i64 cls, .string txt, .int .i64 k6, .bool n6, .slice p6 l6 c6, .bool d6, .slice q6 m6 e6, .string s6, .int .i64 r6, .slice p7 l7 c7]
      have HB11 := bxs_row (HB10.below hk) hlt5 h10 #[.int .i64 kk, .int .i64 k5, .bool nn5, .slice a5 m5 c5, .bool dn5, .slice p5 q5 r5, .string s5, .int .i64 i5, .int .i64 cls, .string txt, .int .i64 k6, .bool n6, .slice p6 l6 c6, .bool d6, .slice q6 m6 e6, .string s6, .int .i64 r6, .slice p7 l7 c7] (fun x hx => Nat.ne_of_lt (box_lt (HB10.2 x hx)))
      have HVT := Lib.hid (VlAt.other (HVS.out.below hk) h10 noU_zero hs.2.1)
      generalize (w10.alloc (.cells #[.int .i64 0, .int .i64 0, .bool false, .slice none 0 0, .bool false, .slice none 0 0, .string ⟨#[]⟩, .int .i64 0, .int .i64 0, .string ⟨#[]⟩, .int .i64 0, .bool false, .slice none 0 0, .bool false, .slice none 0 0, .string ⟨#[]⟩, .int .i64 0, .slice none 0 0] 33 (0, 0))).setRow w10.heap.size #[.int .i64 kk, .int .i64 k5, .bool nn5, .slice a5 m5 c5, .bool dn5, .slice p5 q5 r5, .string s5, .int .i64 i5, .int .i64 cls, .string txt, .int .i64 k6, .bool n6, .slice p6 l6 c6, .bool d6, .slice q6 m6 e6, .string s6, .int .i64 r6, .slice p7 l7 c7] = w11 at *
      have h10b := hs.1
      clear hs h10 hk hlt5 HVS HB10 HB8
      generalize w10.heap.size = N10 at *
      go_cut [115] (fun c wx => c = .bool false ∧ Bxs [(w.heap.size, (.cells #[.int .i64 k1, .bool nn1, .slice a1 m1 c1, .bool dn1, .slice p1 q1 r1, .string s1, .int .i64 i1] 26)), (w.heap.size + 1, (.cells #[.int .i64 k2, .bool nn2, .slice a2 m2 c2, .bool dn2, .slice p2 q2 r2, .string s2, .int .i64 i2] 26))] w wx)
      case first =>
        have HV9 := Lib.hid (HV8.out.below HB11.1)
        have HBy : Bxs [(w.heap.size, (.cells #[.int .i64 k1, .bool nn1, .slice a1 m1 c1, .bool dn1, .slice p1 q1 r1, .string s1, .int .i64 i1] 26)), (w.heap.size + 1, (.cells #[.int .i64 k2, .bool nn2, .slice a2 m2 c2, .bool dn2, .slice p2 q2 r2, .string s2, .int .i64 i2] 26))] w _ := ⟨ext_trans HB15.out HB11.1, fun x hx => HB11.2 x (by simp only [List.mem_cons, List.not_mem_nil, or_false] at hx ⊢; rcases hx with rfl | rfl; exact .inl rfl; exact .inr (.inl rfl))⟩
        cases ok
        · go_wp2
          all_goals go_meet
          all_goals exact ⟨rfl, HBy⟩
        · have h9 := HB11.2 (N9, (.cells #[.int .i64 k4, .bool nn4, .slice a4 m4 c4, .bool dn4, .slice p4 q4 r4, .string s4, .int .i64 i4] 26)) (by simp)
          have d0 := box_cell h9 0
          have d1 := box_cell h9 1
          have d2 := box_cell h9 2
          have d3 := box_cell h9 3
          have d4 := box_cell h9 4
          have d5 := box_cell h9 5
          have d6 := box_cell h9 6
          simp only [List.getElem?_toArray, List.getElem?_cons_zero, List.getElem?_cons_succ] at d0 d1 d2 d3 d4 d5 d6
          have e1 := box_cell h10b 1
          have e2 := box_cell h10b 2
          have e3 := box_cell h10b 3
          have e4 := box_cell h10b 4
          have e5 := box_cell h10b 5
          have e6 := box_cell h10b 6
          have e7 := box_cell h10b 7
          simp only [List.getElem?_toArray, List.getElem?_cons_zero, List.getElem?_cons_succ] at e1 e2 e3 e4 e5 e6 e7
          clear h9 h10b
          have hX4 := HY4.out.1 rfl
          have hX5 := HOK.out rfl
          have hln := HLen.out rfl
          rw [hX4] at HV9
          rw [hX5] at HVT
          clear hX4 hX5
          have HL := Lib.hid hln
          clear hln HY4 HOK HLen
          have HSV := Lib.hid (SameValue_eq _ _ (valZ Z) w11 HVT.out HV9.out HL.out (by simp [valZ]))
          clear HVT HV9
          go_wp2_with fail
          refine HSV.out.mono ?_
          rintro e w12 ⟨rfl, hb⟩
          have HBz := HBy.below hb
          clear hb HBy HB11 d0 d1 d2 d3 d4 d5 d6
          go_wp2
          all_goals go_meet
          all_goals exact ⟨rfl, HBz⟩
      case rest =>
        obtain ⟨rfl, HB12⟩ := hcut
        clear HB11 HVT HOK HLen HY4 HV8 HB15 h10b HSm
        have h1 := HB12.2 (w.heap.size, (.cells #[.int .i64 k1, .bool nn1, .slice a1 m1 c1, .bool dn1, .slice p1 q1 r1, .string s1, .int .i64 i1] 26)) (by simp)
        have h2 := HB12.2 (w.heap.size + 1, (.cells #[.int .i64 k2, .bool nn2, .slice a2 m2 c2, .bool dn2, .slice p2 q2 r2, .string s2, .int .i64 i2] 26)) (by simp)
        have d0 := box_cell h1 0
        have d1 := box_cell h1 1
        have d2 := box_cell h1 2
        have d3 := box_cell h1 3
        have d4 := box_cell h1 4
        have d5 := box_cell h1 5
        have d6 := box_cell h1 6
        simp only [List.getElem?_toArray, List.getElem?_cons_zero, List.getElem?_cons_succ] at d0 d1 d2 d3 d4 d5 d6
        have e0 := box_cell h2 0
        have e1 := box_cell h2 1
        have e2 := box_cell h2 2
        have e3 := box_cell h2 3
        have e4 := box_cell h2 4
        have e5 := box_cell h2 5
        have e6 := box_cell h2 6
        simp only [List.getElem?_toArray, List.getElem?_cons_zero, List.getElem?_cons_succ] at e0 e1 e2 e3 e4 e5 e6
        clear h1 h2
        go_wp2_with fail
        refine (HCp.out _ HB12.1).mono ?_
        rintro e w13 ⟨rfl, hb⟩
        have HB13 := HB12.below hb
        clear hb HB12 HCp d0 e0 d1 e1 d2 e2 d3 e3 d4 e4 d5 e5 d6 e6
        go_upto_region 11 with fail
        go_cut [134] (fun c wx => c = .bool false ∧ Bxs [(w.heap.size, (.cells #[.int .i64 k1, .bool nn1, .slice a1 m1 c1, .bool dn1, .slice p1 q1 r1, .string s1, .int .i64 i1] 26)), (w.heap.size + 1, (.cells #[.int .i64 k2, .bool nn2, .slice a2 m2 c2, .bool dn2, .slice p2 q2 r2, .string s2, .int .i64 i2] 26))] w wx)
        case first =>
          have hc1x : decide (1 ≤ cmp) = true := by rw [decide_eq_true_eq]; exact HR.out.2.2.1
          clear HN1 HN2 HRo
          have h1 := HB13.2 (w.heap.size, (.cells #[.int .i64 k1, .bool nn1, .slice a1 m1 c1, .bool dn1, .slice p1 q1 r1, .string s1, .int .i64 i1] 26)) (by simp)
          have h2 := HB13.2 (w.heap.size + 1, (.cells #[.int .i64 k2, .bool nn2, .slice a2 m2 c2, .bool dn2, .slice p2 q2 r2, .string s2, .int .i64 i2] 26)) (by simp)
          have d0 := box_cell h1 0
          have d1 := box_cell h1 1
          have d2 := box_cell h1 2
          have d3 := box_cell h1 3
          have d4 := box_cell h1 4
          have d5 := box_cell h1 5
          have d6 := box_cell h1 6
          simp only [List.getElem?_toArray, List.getElem?_cons_zero, List.getElem?_cons_succ] at d0 d1 d2 d3 d4 d5 d6
          clear h1 h2
          go_wp2_with fail
          refine (HT1.out _ HB13.1).mono ?_
          rintro e w14 ⟨rfl, hb⟩
          have HB14 := HB13.below hb
          clear hb HB13 d0 d1 d2 d3 d4 d5 d6
          by_cases hc6 : cmp ≤ 6
          · cases P1
            · go_wp2
              all_goals go_meet
              all_goals exact ⟨by simp [cmpOk], HB14⟩
            have h1 := HB14.2 (w.heap.size, (.cells #[.int .i64 k1, .bool nn1, .slice a1 m1 c1, .bool dn1, .slice p1 q1 r1, .string s1, .int .i64 i1] 26)) (by simp)
            have h2 := HB14.2 (w.heap.size + 1, (.cells #[.int .i64 k2, .bool nn2, .slice a2 m2 c2, .bool dn2, .slice p2 q2 r2, .string s2, .int .i64 i2] 26)) (by simp)
            have d0 := box_cell h2 0
            have d1 := box_cell h2 1
            have d2 := box_cell h2 2
            have d3 := box_cell h2 3
            have d4 := box_cell h2 4
            have d5 := box_cell h2 5
            have d6 := box_cell h2 6
            simp only [List.getElem?_toArray, List.getElem?_cons_zero, List.getElem?_cons_succ] at d0 d1 d2 d3 d4 d5 d6
            clear h1 h2
            go_wp2_with fail
            refine (HT2.out _ HB14.1).mono ?_
            rintro e w15 ⟨rfl, hb⟩
            have HBe := HB14.below hb
            clear hb HB14 d0 d1 d2 d3 d4 d5 d6
            cases P2
            · go_wp2
              all_goals go_meet
              all_goals exact ⟨by simp [cmpOk], HBe⟩
            go_wp2
            all_goals go_meet
            all_goals exact ⟨by simp [cmpOk, hc6, HR.out.2.2.1], HBe⟩
          · cases P1
            · go_wp2
              all_goals go_meet
              all_goals exact ⟨by simp [cmpOk], HB14⟩
            have h1 := HB14.2 (w.heap.size, (.cells #[.int .i64 k1, .bool nn1, .slice a1 m1 c1, .bool dn1, .slice p1 q1 r1, .string s1, .int .i64 i1] 26)) (by simp)
            have h2 := HB14.2 (w.heap.size + 1, (.cells #[.int .i64 k2, .bool nn2, .slice a2 m2 c2, .bool dn2, .slice p2 q2 r2, .string s2, .int .i64 i2] 26)) (by simp)
            have d0 := box_cell h2 0
            have d1 := box_cell h2 1
            have d2 := box_cell h2 2
            have d3 := box_cell h2 3
            have d4 := box_cell h2 4
            have d5 := box_cell h2 5
            have d6 := box_cell h2 6
            simp only [List.getElem?_toArray, List.getElem?_cons_zero, List.getElem?_cons_succ] at d0 d1 d2 d3 d4 d5 d6
            clear h1 h2
            go_wp2_with fail
            refine (HT2.out _ HB14.1).mono ?_
            rintro e w15 ⟨rfl, hb⟩
            have HBe := HB14.below hb
            clear hb HB14 d0 d1 d2 d3 d4 d5 d6
            cases P2
            · go_wp2
              all_goals go_meet
              all_goals exact ⟨by simp [cmpOk], HBe⟩
            go_wp2
            all_goals go_meet
            all_goals exact ⟨by simp [cmpOk, hc6, HR.out.2.2.1], HBe⟩
        case rest =>
          obtain ⟨rfl, HB16⟩ := hcut
          clear HB13 HT1 HT2
          go_upto_region 13 with fail
          cases hok2 : cmpOk P1 P2 cmp
          · have hct : cmpT P1 P2 cmp Z1 Z2 = false := by unfold cmpT; rw [hok2]; rfl
            rw [hct]
            clear hct hok2 HN1 HN2 HRo
            go_wp2
            exact bodyPost_ret (v := .bool true) (by simp [results, Tryd.results3, go_sem]) rfl ⟨rfl, HB16.1⟩
          · have hP : P1 = true ∧ P2 = true := by unfold cmpOk at hok2; rw [Bool.and_eq_true, Bool.and_eq_true] at hok2; exact hok2.1
            obtain ⟨rfl, rfl⟩ := hP
            go_upto_region 15 with fail
            have hBd := HB16.drew
            clear HB16
            refine wp_region_noPanic ?_
            refine wp_region_L (S := fun _ W => Bxs [(w.heap.size, (.cells #[.int .i64 k1, .bool nn1, .slice a1 m1 c1, .bool dn1, .slice p1 q1 r1, .string s1, .int .i64 i1] 26)), (w.heap.size + 1, (.cells #[.int .i64 k2, .bool nn2, .slice a2 m2 c2, .bool dn2, .slice p2 q2 r2, .string s2, .int .i64 i2] 26))] w W) (by kernel_rfl) ?_
            refine wpAnyL_take (T := fun W => Bxs [(w.heap.size, (.cells #[.int .i64 k1, .bool nn1, .slice a1 m1 c1, .bool dn1, .slice p1 q1 r1, .string s1, .int .i64 i1] 26)), (w.heap.size + 1, (.cells #[.int .i64 k2, .bool nn2, .slice a2 m2 c2, .bool dn2, .slice p2 q2 r2, .string s2, .int .i64 i2] 26))] w W) (i := 0) (v := .agg #[.int .i64 k1, .bool nn1, .slice a1 m1 c1, .bool dn1, .slice p1 q1 r1, .string s1, .int .i64 i1]) rfl (by kernel_rfl) (by kernel_rfl) (by kernel_rfl) (fun _ _ _ h => h) (fun _ _ => Iff.rfl) (fun _ _ _ _ h => h) (Closed.of_B (by kernel_rfl)) (Or.inl ⟨by kernel_rfl, ?hyZ0⟩) hBd ?restZ0
            case hyZ0 => exact runs_load (T := fun W => Bxs [(w.heap.size, (.cells #[.int .i64 k1, .bool nn1, .slice a1 m1 c1, .bool dn1, .slice p1 q1 r1, .string s1, .int .i64 i1] 26)), (w.heap.size + 1, (.cells #[.int .i64 k2, .bool nn2, .slice a2 m2 c2, .bool dn2, .slice p2 q2 r2, .string s2, .int .i64 i2] 26))] w W) stVal (fun W hW => hW.2 (w.heap.size, (.cells #[.int .i64 k1, .bool nn1, .slice a1 m1 c1, .bool dn1, .slice p1 q1 r1, .string s1, .int .i64 i1] 26)) (by simp)) rfl (by rfl)
            go_simp
            refine wpAnyL_take (T := fun W => Bxs [(w.heap.size, (.cells #[.int .i64 k1, .bool nn1, .slice a1 m1 c1, .bool dn1, .slice p1 q1 r1, .string s1, .int .i64 i1] 26)), (w.heap.size + 1, (.cells #[.int .i64 k2, .bool nn2, .slice a2 m2 c2, .bool dn2, .slice p2 q2 r2, .string s2, .int .i64 i2] 26))] w W) (i := 2) (v := .agg #[.int .i64 k2, .bool nn2, .slice a2 m2 c2, .bool dn2, .slice p2 q2 r2, .string s2, .int .i64 i2]) rfl (by kernel_rfl) (by kernel_rfl) (by kernel_rfl) (fun _ _ _ h => h) (fun _ _ => Iff.rfl) (fun _ _ _ _ h => h) (Closed.of_B (by kernel_rfl)) (Or.inl ⟨by kernel_rfl, ?hyZ2⟩) hBd ?restZ2
            case hyZ2 => exact runs_load (T := fun W => Bxs [(w.heap.size, (.cells #[.int .i64 k1, .bool nn1, .slice a1 m1 c1, .bool dn1, .slice p1 q1 r1, .string s1, .int .i64 i1] 26)), (w.heap.size + 1, (.cells #[.int .i64 k2, .bool nn2, .slice a2 m2 c2, .bool dn2, .slice p2 q2 r2, .string s2, .int .i64 i2] 26))] w W) stVal (fun W hW => hW.2 (w.heap.size + 1, (.cells #[.int .i64 k2, .bool nn2, .slice a2 m2 c2, .bool dn2, .slice p2 q2 r2, .string s2, .int .i64 i2] 26)) (by simp)) rfl (by rfl)
            go_simp
            refine wpAnyL_ready (rs := [1]) (by kernel_rfl) (by simp) ?_
            refine AllL.cons rfl (by kernel_rfl) (fun K hK => ?_) AllL.nil
            go_simp
            refine (HN1.out rfl _ hBd.1).mono ?_
            rintro e we ⟨vq1, rfl, hR1, hb⟩
            have hBe := hBd.below hb
            refine hK _ _ ⟨hBe, ?_⟩
            clear hK K
            clear hb HN1
            refine wpAnyL_ready (rs := [3]) (by kernel_rfl) (by simp) ?_
            refine AllL.cons rfl (by kernel_rfl) (fun K hK => ?_) AllL.nil
            go_simp
            refine (HN2.out rfl _ hBe.1).mono ?_
            rintro e wf ⟨vq2, rfl, hR2, hb⟩
            have hBf := hBe.below hb
            refine hK _ _ ⟨hBf, ?_⟩
            clear hK K
            have HOr := Lib.hid (HRo.out vq1 vq2 wf (hR1.below hb) hR2)
            clear hb HN2 HRo hR1 hR2
            refine wpAnyL_ready (rs := [4]) (by kernel_rfl) (by simp) ?_
            refine AllL.cons rfl (by kernel_rfl) (fun K hK => ?_) AllL.nil
            go_simp
            refine (HOr.out).mono ?_
            rintro e wg ⟨rfl, hb⟩
            have hBg := hBf.below hb
            refine hK _ _ ⟨hBg, ?_⟩
            clear hK K
            clear hb HOr
            refine wpAnyL_take (T := fun _ => True) (i := 5) (v := ?vvZ5) rfl (by kernel_rfl) (by kernel_rfl) (by kernel_rfl) (fun _ _ _ h => h) (fun _ _ => Iff.rfl) (fun _ _ _ _ _ => trivial) (Closed.of_B (by kernel_rfl)) (Or.inl ⟨by kernel_rfl, ?hyZ5⟩) hBg ?restZ5
            case hyZ5 => (intro w _; go_simp; with_reducible rfl)
            go_simp
            refine wpAnyL_done (by kernel_rfl) ?_ _
            refine NoPanic.normal ?_
            have hBy := hBg.1
            clear hBd hBe hBf hBg
            have HFS := Lib.hid (cmp_law Z1 Z2)
            generalize cmpZ Z1 Z2 = KK at *
            have hcs : cmp = 1 ∨ cmp = 2 ∨ cmp = 3 ∨ cmp = 4 ∨ cmp = 5 ∨ cmp = 6 := by
              have := HR.out
              unfold cmpOk at hok2
              simp only [Bool.and_eq_true, decide_eq_true_eq] at hok2
              omega
            clear hok2 HR
            rcases hcs with rfl | rfl | rfl | rfl | rfl | rfl
            · have hF : cmpT true true 1 Z1 Z2 = decide (KK < 0) := HFS.out.1
              rw [hF]
              clear hF HFS
              go_wp2
              refine bodyPost_ret (v := .bool true) (by simp [results, Tryd.results3, go_sem]) rfl ⟨rfl, ?_⟩
              first | exact hBy | exact ext_trans hBy (ext_alloc _ _) | exact (ext_trans hBy (ext_alloc _ _)).drew
            · have hF : cmpT true true 2 Z1 Z2 = decide (KK ≤ 0) := HFS.out.2.1
              rw [hF]
              clear hF HFS
              go_wp2
              refine bodyPost_ret (v := .bool true) (by simp [results, Tryd.results3, go_sem]) rfl ⟨rfl, ?_⟩
              first | exact hBy | exact ext_trans hBy (ext_alloc _ _) | exact (ext_trans hBy (ext_alloc _ _)).drew
            · have hF : cmpT true true 3 Z1 Z2 = decide (KK > 0) := HFS.out.2.2.1
              rw [hF]
              clear hF HFS
              go_wp2
              refine bodyPost_ret (v := .bool true) (by simp [results, Tryd.results3, go_sem]) rfl ⟨rfl, ?_⟩
              first | exact hBy | exact ext_trans hBy (ext_alloc _ _) | exact (ext_trans hBy (ext_alloc _ _)).drew
            · have hF : cmpT true true 4 Z1 Z2 = decide (KK ≥ 0) := HFS.out.2.2.2.1
              rw [hF]
              clear hF HFS
              go_wp2
              refine bodyPost_ret (v := .bool true) (by simp [results, Tryd.results3, go_sem]) rfl ⟨rfl, ?_⟩
              first | exact hBy | exact ext_trans hBy (ext_alloc _ _) | exact (ext_trans hBy (ext_alloc _ _)).drew
            · have hF : cmpT true true 5 Z1 Z2 = (KK == 0) := HFS.out.2.2.2.2.1
              rw [hF]
              clear hF HFS
              go_wp2
              refine bodyPost_ret (v := .bool true) (by simp [results, Tryd.results3, go_sem]) rfl ⟨rfl, ?_⟩
              first | exact hBy | exact ext_trans hBy (ext_alloc _ _) | exact (ext_trans hBy (ext_alloc _ _)).drew
            · have hF : cmpT true true 6 Z1 Z2 = (KK != 0) := HFS.out.2.2.2.2.2
              rw [hF]
              clear hF HFS
              go_wp2
              refine bodyPost_ret (v := .bool true) (by simp [results, Tryd.results3, go_sem]) rfl ⟨rfl, ?_⟩
              first | exact hBy | exact ext_trans hBy (ext_alloc _ _) | exact (ext_trans hBy (ext_alloc _ _)).drew

end Go.Proofs.YtpmadgmjkljbgaaDoor
