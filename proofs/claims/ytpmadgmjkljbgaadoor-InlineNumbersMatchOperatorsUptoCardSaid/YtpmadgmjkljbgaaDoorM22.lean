/- Part 22 of the proof. -/
import Derived.Test.YtpmadgmjkljbgaaDoorM21

/- Walk: bits, of shifts (12). -/
namespace Go.Proofs.YtpmadgmjkljbgaaDoor
open Go.RowKit

set_option maxRecDepth 100000 in
set_option maxHeartbeats 4000000 in
theorem bits12_any (xv yv : Value) (x y : Int) (w : World) (hx : IntAt w xv x) (hy : IntAt w yv y) (nx : (dig x.natAbs).length ≤ 1000) (ny : (dig y.natAbs).length ≤ 1000) :
    Calls Tryd.prog 32 #[.int .i64 12, xv, yv] w fun e w' => SomeStep w e w' := by
  have HX := Lib.hid (fun W (h : Below w.heap.size w W) => hx.below h)
  have HY := Lib.hid (fun W (h : Below w.heap.size w W) => hy.below h)
  obtain ⟨b1, v1, m1, rfl, hm1, hz1⟩ := hx
  obtain ⟨b2, v2, m2, rfl, hm2, hz2⟩ := hy
  obtain ⟨a1, c1, rfl⟩ := hm1.slice
  obtain ⟨a2, c2, rfl⟩ := hm2.slice
  clear hm1 hm2 hz1 hz2
  generalize (dig m1).length = l1 at *
  generalize (dig m2).length = l2 at *
  have hal := alloc3 w (.cells #[.bool b1, .slice a1 l1 c1] 41) (.cells #[.bool b2, .slice a2 l2 c2] 41) (.cells #[.int .i64 0, .int .i64 0, .bool false, .slice none 0 0, .bool false, .slice none 0 0, .string ⟨#[]⟩, .int .i64 0, .int .i64 0, .string ⟨#[]⟩, .int .i64 0, .bool false, .slice none 0 0, .bool false, .slice none 0 0, .string ⟨#[]⟩, .int .i64 0, .slice none 0 0] 33)
  go_enter Tryd.func32, Tryd.ntmps32
  go_upto_region 1 with fail
  generalize (((w.alloc (.cells #[.bool b1, .slice a1 l1 c1] 41)).alloc (.cells #[.bool b2, .slice a2 l2 c2] 41)).alloc (.cells #[.int .i64 0, .int .i64 0, .bool false, .slice none 0 0, .bool false, .slice none 0 0, .string ⟨#[]⟩, .int .i64 0, .int .i64 0, .string ⟨#[]⟩, .int .i64 0, .bool false, .slice none 0 0, .bool false, .slice none 0 0, .string ⟨#[]⟩, .int .i64 0, .slice none 0 0] 33)) = w1 at *
  obtain ⟨hb1, h1, h2, h3⟩ := hal
  have hlt3 := box_lt h3
  have HNg := Lib.hid (fun W (h : Below w.heap.size w W) => Negative_any _ y W (HY.out W h))
  have d0 := box_cell h2 0
  have d1 := box_cell h2 1
  simp only [List.getElem?_toArray, List.getElem?_cons_zero, List.getElem?_cons_succ] at d0 d1
  by_cases hneg : y < 0
  · rw [show decide (y < 0) = true by simpa using hneg] at HNg
    clear hneg
    go_wp2_with fail
    refine (HNg.out w1 hb1).mono ?_
    rintro e w2 ⟨rfl, hb2⟩
    replace h3 := (hb2.block _ (box_lt h3)).trans h3
    go_wp2_with fail
    refine (Raise_any 33 ⟨#[110, 101, 103, 97, 116, 105, 118, 101, 32, 115, 104, 105, 102, 116]⟩ w2).mono ?_
    rintro e wz ⟨rfl, hbz⟩
    replace h3 := (hbz.block _ (box_lt h3)).trans h3
    go_wp2_with (refine wpL_store (cells := #[.int .i64 1, .int .i64 0, .bool false, .slice none 0 0, .bool false, .slice none 0 0, .string ⟨#[]⟩, .int .i64 0, .int .i64 33, .string ⟨#[110, 101, 103, 97, 116, 105, 118, 101, 32, 115, 104, 105, 102, 116]⟩, .int .i64 0, .bool false, .slice none 0 0, .bool false, .slice none 0 0, .string ⟨#[]⟩, .int .i64 0, .slice none 0 0]) stStep h3 (by rfl) (by rfl) (by rfl) (by rfl) (by rfl) ?_)
    have hs := setRow_facts h3 #[.int .i64 1, .int .i64 0, .bool false, .slice none 0 0, .bool false, .slice none 0 0, .string ⟨#[]⟩, .int .i64 0, .int .i64 33, .string ⟨#[110, 101, 103, 97, 116, 105, 118, 101, 32, 115, 104, 105, 102, 116]⟩, .int .i64 0, .bool false, .slice none 0 0, .bool false, .slice none 0 0, .string ⟨#[]⟩, .int .i64 0, .slice none 0 0]
    exact bodyPost_ret (results_cell rfl stStep rfl hs.1 rfl) rfl ⟨_, zeroVl, rfl, StepOf.other (tooLarge_step wz ⟨#[110, 101, 103, 97, 116, 105, 118, 101, 32, 115, 104, 105, 102, 116]⟩ 33) h3 noU_zero hs.2.1, hs.2.2 _ _ (by omega) (ext_trans (ext_trans hb1 hb2) hbz)⟩
  rw [show decide (y < 0) = false by simpa using hneg] at HNg
  go_wp2_with fail
  refine (HNg.out w1 hb1).mono ?_
  rintro e w2 ⟨rfl, hb2⟩
  replace h1 := (hb2.block _ (box_lt h1)).trans h1
  replace h2 := (hb2.block _ (box_lt h2)).trans h2
  replace h3 := (hb2.block _ (box_lt h3)).trans h3
  have hb12 := ext_trans hb1 hb2
  clear d0 d1 hb1 hb2 HNg
  have HZr := Lib.hid (fun W (h : Below w.heap.size w W) => Zero_any _ x W (HX.out W h))
  have d0 := box_cell h1 0
  have d1 := box_cell h1 1
  simp only [List.getElem?_toArray, List.getElem?_cons_zero, List.getElem?_cons_succ] at d0 d1
  by_cases hx0 : x = 0
  · rw [show decide (x = 0) = true by simpa using hx0] at HZr
    clear hx0
    go_wp2_with fail
    refine (HZr.out w2 hb12).mono ?_
    rintro e w3 ⟨rfl, hb3⟩
    replace h3 := (hb3.block _ (box_lt h3)).trans h3
    go_wp2_with fail
    refine (N_any 0 w3 (by omega) (by omega)).mono ?_
    rintro e w4 ⟨v4, rfl, hV, hb4⟩
    replace h3 := (hb4.block _ (box_lt h3)).trans h3
    have HRs := Lib.hid (Result_any _ _ w4 hV)
    clear hV
    go_wp2_with fail
    refine HRs.out.mono ?_
    rintro e w5 ⟨v5, rfl, hS, hb5⟩
    replace h3 := (hb5.block _ (box_lt h3)).trans h3
    have HSV := Lib.hid hS
    obtain ⟨cs, rfl, hlen, hone⟩ := stepOf_cells hS
    clear hS
    go_wp2_with (refine wpL_store (cells := cs.toArray) stStep h3 (by rfl) (by simpa using hlen) (by simpa using hone) (by rfl) (by rfl) ?_)
    have hs := setRow_facts h3 cs.toArray
    exact bodyPost_ret (results_cell rfl stStep rfl hs.1 (by simpa using hlen)) rfl ⟨_, _, rfl, StepOf.other HSV.out h3 noU_zero hs.2.1, hs.2.2 _ _ (by omega) (ext_trans hb12 (ext_trans hb3 (ext_trans hb4 hb5)))⟩
  rw [show decide (x = 0) = false by simpa using hx0] at HZr
  skip
  go_wp2_with fail
  refine (HZr.out w2 hb12).mono ?_
  rintro e w3 ⟨rfl, hb3⟩
  replace h1 := (hb3.block _ (box_lt h1)).trans h1
  replace h2 := (hb3.block _ (box_lt h2)).trans h2
  replace h3 := (hb3.block _ (box_lt h3)).trans h3
  have hb13 := ext_trans hb12 hb3
  clear d0 d1 HZr hb12 hb3
  go_upto_region 19 with fail
  have hBd : Bxs [(w.heap.size, (.cells #[.bool b1, .slice a1 l1 c1] 41)), (w.heap.size + 1, (.cells #[.bool b2, .slice a2 l2 c2] 41)), (w.heap.size + 1 + 1, (.cells #[.int .i64 0, .int .i64 0, .bool false, .slice none 0 0, .bool false, .slice none 0 0, .string ⟨#[]⟩, .int .i64 0, .int .i64 0, .string ⟨#[]⟩, .int .i64 0, .bool false, .slice none 0 0, .bool false, .slice none 0 0, .string ⟨#[]⟩, .int .i64 0, .slice none 0 0] 33))] w w3.drew := ⟨hb13.drew, fun x hx => by
    simp only [List.mem_cons, List.not_mem_nil, or_false] at hx
    rcases hx with rfl | rfl | rfl
    · exact h1
    · exact h2
    · exact h3⟩
  clear h1 h2 h3 hb13
  by_cases hbig : 4096 < y
  · have hc : cmpZ y 4096 > 0 := by unfold cmpZ; rw [if_neg (by omega), if_pos hbig]; omega
    refine wp_region_noPanic ?_
    refine wp_region_L (S := fun _ W => Bxs [(w.heap.size, (.cells #[.bool b1, .slice a1 l1 c1] 41)), (w.heap.size + 1, (.cells #[.bool b2, .slice a2 l2 c2] 41)), (w.heap.size + 1 + 1, (.cells #[.int .i64 0, .int .i64 0, .bool false, .slice none 0 0, .bool false, .slice none 0 0, .string ⟨#[]⟩, .int .i64 0, .int .i64 0, .string ⟨#[]⟩, .int .i64 0, .bool false, .slice none 0 0, .bool false, .slice none 0 0, .string ⟨#[]⟩, .int .i64 0, .slice none 0 0] 33))] w W) (by kernel_rfl) ?_
    refine wpAnyL_take (T := fun _ => True) (i := 0) (v := ?vvp0) rfl (by kernel_rfl) (by kernel_rfl) (by kernel_rfl) (fun _ _ _ h => h) (fun _ _ => Iff.rfl) (fun _ _ _ _ _ => trivial) (Closed.of_B (by kernel_rfl)) (Or.inl ⟨by kernel_rfl, ?hyp0⟩) hBd ?restp0
    case hyp0 => (intro w _; go_simp; with_reducible rfl)
    go_simp
    refine wpAnyL_take (T := fun _ => True) (i := 1) (v := ?vvp1) rfl (by kernel_rfl) (by kernel_rfl) (by kernel_rfl) (fun _ _ _ h => h) (fun _ _ => Iff.rfl) (fun _ _ _ _ _ => trivial) (Closed.of_B (by kernel_rfl)) (Or.inl ⟨by kernel_rfl, ?hyp1⟩) hBd ?restp1
    case hyp1 => (intro w _; go_simp; with_reducible rfl)
    go_simp
    refine wpAnyL_take (T := fun _ => True) (i := 2) (v := ?vvp2) rfl (by kernel_rfl) (by kernel_rfl) (by kernel_rfl) (fun _ _ _ h => h) (fun _ _ => Iff.rfl) (fun _ _ _ _ _ => trivial) (Closed.of_B (by kernel_rfl)) (Or.inl ⟨by kernel_rfl, ?hyp2⟩) hBd ?restp2
    case hyp2 => (intro w _; go_simp; with_reducible rfl)
    go_simp
    refine wpAnyL_take (T := fun W => Bxs [(w.heap.size, (.cells #[.bool b1, .slice a1 l1 c1] 41)), (w.heap.size + 1, (.cells #[.bool b2, .slice a2 l2 c2] 41)), (w.heap.size + 1 + 1, (.cells #[.int .i64 0, .int .i64 0, .bool false, .slice none 0 0, .bool false, .slice none 0 0, .string ⟨#[]⟩, .int .i64 0, .int .i64 0, .string ⟨#[]⟩, .int .i64 0, .bool false, .slice none 0 0, .bool false, .slice none 0 0, .string ⟨#[]⟩, .int .i64 0, .slice none 0 0] 33))] w W) (i := 3) (v := ?vvp3) rfl (by kernel_rfl) (by kernel_rfl) (by kernel_rfl) (fun _ _ _ h => h) (fun _ _ => Iff.rfl) (fun _ _ _ _ h => h) (Closed.of_B (by kernel_rfl)) (Or.inl ⟨by kernel_rfl, ?hyp3⟩) hBd ?restp3
    case hyp3 =>
      intro W hW
      have hx1 := hW.2 ((w.heap.size + 1, (.cells #[.bool b2, .slice a2 l2 c2] 41)) : Nat × Obj) (by simp)
      have dx1x0 := box_cell hx1 0
      have dx1x1 := box_cell hx1 1
      simp only [List.getElem?_toArray, List.getElem?_cons_zero, List.getElem?_cons_succ] at dx1x0 dx1x1
      clear hW
      go_simp; with_reducible rfl
    go_simp
    refine wpAnyL_ready (rs := [4]) (by kernel_rfl) (by simp) ?_
    refine AllL.cons rfl (by kernel_rfl) (fun K hK => ?_) AllL.nil
    go_simp
    refine (Number_any 4096 _ (by omega) (by omega)).mono ?_
    rintro e WAp ⟨vn, rfl, hv, hb⟩
    have hAp := hBd.below hb
    refine hK _ _ ⟨hAp, ?_⟩
    clear hK K
    have HO := Lib.hid (IntOrder_any _ vn y 4096 WAp (HY.out WAp hAp.1) hv)
    clear hv hb
    refine wpAnyL_ready (rs := [5]) (by kernel_rfl) (by simp) ?_
    refine AllL.cons rfl (by kernel_rfl) (fun K hK => ?_) AllL.nil
    go_simp
    refine (HO.out).mono ?_
    rintro e WBp ⟨rfl, hb⟩
    have hBp := hAp.below hb
    refine hK _ _ ⟨hBp, ?_⟩
    clear hK K
    clear hb HO
    generalize cmpZ y 4096 = cAp at *
    refine wpAnyL_take (T := fun _ => True) (i := 6) (v := ?vvpt6) rfl (by kernel_rfl) (by kernel_rfl) (by kernel_rfl) (fun _ _ _ h => h) (fun _ _ => Iff.rfl) (fun _ _ _ _ _ => trivial) (Closed.of_B (by kernel_rfl)) (Or.inl ⟨by kernel_rfl, ?hypt6⟩) hBp ?restpt6
    case hypt6 => (intro w _; go_simp; with_reducible rfl)
    go_simp
    refine wpAnyL_take (T := fun _ => True) (i := 7) (v := ?vvpt7) rfl (by kernel_rfl) (by kernel_rfl) (by kernel_rfl) (fun _ _ _ h => h) (fun _ _ => Iff.rfl) (fun _ _ _ _ _ => trivial) (Closed.of_B (by kernel_rfl)) (Or.inl ⟨by kernel_rfl, ?hypt7⟩) hBp ?restpt7
    case hypt7 => (intro w _; go_simp; with_reducible rfl)
    go_simp
    refine wpAnyL_done (by kernel_rfl) ?_ _
    refine NoPanic.normal ?_
    have h1 := hBp.2 (w.heap.size, (.cells #[.bool b1, .slice a1 l1 c1] 41)) (by simp)
    have h2 := hBp.2 (w.heap.size + 1, (.cells #[.bool b2, .slice a2 l2 c2] 41)) (by simp)
    have h3 := hBp.2 (w.heap.size + 1 + 1, (.cells #[.int .i64 0, .int .i64 0, .bool false, .slice none 0 0, .bool false, .slice none 0 0, .string ⟨#[]⟩, .int .i64 0, .int .i64 0, .string ⟨#[]⟩, .int .i64 0, .bool false, .slice none 0 0, .bool false, .slice none 0 0, .string ⟨#[]⟩, .int .i64 0, .slice none 0 0] 33)) (by simp)
    have hbo := hBp.1
    go_wp2_with fail
    refine (TooLarge_any WBp).mono ?_
    rintro e wz ⟨rfl, hbz⟩
    replace h3 := (hbz.block _ (box_lt h3)).trans h3
    go_wp2_with (refine wpL_store (cells := #[.int .i64 1, .int .i64 0, .bool false, .slice none 0 0, .bool false, .slice none 0 0, .string ⟨#[]⟩, .int .i64 0, .int .i64 42, .string ⟨#[118, 97, 108, 117, 101, 32, 105, 115, 32, 116, 111, 111, 32, 108, 97, 114, 103, 101]⟩, .int .i64 0, .bool false, .slice none 0 0, .bool false, .slice none 0 0, .string ⟨#[]⟩, .int .i64 0, .slice none 0 0]) stStep h3 (by rfl) (by rfl) (by rfl) (by rfl) (by rfl) ?_)
    have hs := setRow_facts h3 #[.int .i64 1, .int .i64 0, .bool false, .slice none 0 0, .bool false, .slice none 0 0, .string ⟨#[]⟩, .int .i64 0, .int .i64 42, .string ⟨#[118, 97, 108, 117, 101, 32, 105, 115, 32, 116, 111, 111, 32, 108, 97, 114, 103, 101]⟩, .int .i64 0, .bool false, .slice none 0 0, .bool false, .slice none 0 0, .string ⟨#[]⟩, .int .i64 0, .slice none 0 0]
    exact bodyPost_ret (results_cell rfl stStep rfl hs.1 rfl) rfl ⟨_, zeroVl, rfl, StepOf.other (tooLarge_step wz ⟨#[118, 97, 108, 117, 101, 32, 105, 115, 32, 116, 111, 111, 32, 108, 97, 114, 103, 101]⟩ 42) h3 noU_zero hs.2.1, hs.2.2 _ _ (by omega) (ext_trans hbo hbz)⟩
  have hc : ¬ (cmpZ y 4096 > 0) := by unfold cmpZ; split <;> (try split) <;> omega
  refine wp_region_noPanic ?_
  refine wp_region_L (S := fun _ W => Bxs [(w.heap.size, (.cells #[.bool b1, .slice a1 l1 c1] 41)), (w.heap.size + 1, (.cells #[.bool b2, .slice a2 l2 c2] 41)), (w.heap.size + 1 + 1, (.cells #[.int .i64 0, .int .i64 0, .bool false, .slice none 0 0, .bool false, .slice none 0 0, .string ⟨#[]⟩, .int .i64 0, .int .i64 0, .string ⟨#[]⟩, .int .i64 0, .bool false, .slice none 0 0, .bool false, .slice none 0 0, .string ⟨#[]⟩, .int .i64 0, .slice none 0 0] 33))] w W) (by kernel_rfl) ?_
  refine wpAnyL_take (T := fun _ => True) (i := 0) (v := ?vvq0) rfl (by kernel_rfl) (by kernel_rfl) (by kernel_rfl) (fun _ _ _ h => h) (fun _ _ => Iff.rfl) (fun _ _ _ _ _ => trivial) (Closed.of_B (by kernel_rfl)) (Or.inl ⟨by kernel_rfl, ?hyq0⟩) hBd ?restq0
  case hyq0 => (intro w _; go_simp; with_reducible rfl)
  go_simp
  refine wpAnyL_take (T := fun _ => True) (i := 1) (v := ?vvq1) rfl (by kernel_rfl) (by kernel_rfl) (by kernel_rfl) (fun _ _ _ h => h) (fun _ _ => Iff.rfl) (fun _ _ _ _ _ => trivial) (Closed.of_B (by kernel_rfl)) (Or.inl ⟨by kernel_rfl, ?hyq1⟩) hBd ?restq1
  case hyq1 => (intro w _; go_simp; with_reducible rfl)
  go_simp
  refine wpAnyL_take (T := fun _ => True) (i := 2) (v := ?vvq2) rfl (by kernel_rfl) (by kernel_rfl) (by kernel_rfl) (fun _ _ _ h => h) (fun _ _ => Iff.rfl) (fun _ _ _ _ _ => trivial) (Closed.of_B (by kernel_rfl)) (Or.inl ⟨by kernel_rfl, ?hyq2⟩) hBd ?restq2
  case hyq2 => (intro w _; go_simp; with_reducible rfl)
  go_simp
  refine wpAnyL_take (T := fun W => Bxs [(w.heap.size, (.cells #[.bool b1, .slice a1 l1 c1] 41)), (w.heap.size + 1, (.cells #[.bool b2, .slice a2 l2 c2] 41)), (w.heap.size + 1 + 1, (.cells #[.int .i64 0, .int .i64 0, .bool false, .slice none 0 0, .bool false, .slice none 0 0, .string ⟨#[]⟩, .int .i64 0, .int .i64 0, .string ⟨#[]⟩, .int .i64 0, .bool false, .slice none 0 0, .bool false, .slice none 0 0, .string ⟨#[]⟩, .int .i64 0, .slice none 0 0] 33))] w W) (i := 3) (v := ?vvq3) rfl (by kernel_rfl) (by kernel_rfl) (by kernel_rfl) (fun _ _ _ h => h) (fun _ _ => Iff.rfl) (fun _ _ _ _ h => h) (Closed.of_B (by kernel_rfl)) (Or.inl ⟨by kernel_rfl, ?hyq3⟩) hBd ?restq3
  case hyq3 =>
    intro W hW
    have hx1 := hW.2 ((w.heap.size + 1, (.cells #[.bool b2, .slice a2 l2 c2] 41)) : Nat × Obj) (by simp)
    have dx1x0 := box_cell hx1 0
    have dx1x1 := box_cell hx1 1
    simp only [List.getElem?_toArray, List.getElem?_cons_zero, List.getElem?_cons_succ] at dx1x0 dx1x1
    clear hW
    go_simp; with_reducible rfl
  go_simp
  refine wpAnyL_ready (rs := [4]) (by kernel_rfl) (by simp) ?_
  refine AllL.cons rfl (by kernel_rfl) (fun K hK => ?_) AllL.nil
  go_simp
  refine (Number_any 4096 _ (by omega) (by omega)).mono ?_
  rintro e WAq ⟨vn, rfl, hv, hb⟩
  have hAq := hBd.below hb
  refine hK _ _ ⟨hAq, ?_⟩
  clear hK K
  have HO := Lib.hid (IntOrder_any _ vn y 4096 WAq (HY.out WAq hAq.1) hv)
  clear hv hb
  refine wpAnyL_ready (rs := [5]) (by kernel_rfl) (by simp) ?_
  refine AllL.cons rfl (by kernel_rfl) (fun K hK => ?_) AllL.nil
  go_simp
  refine (HO.out).mono ?_
  rintro e WBq ⟨rfl, hb⟩
  have hBq := hAq.below hb
  refine hK _ _ ⟨hBq, ?_⟩
  clear hK K
  clear hb HO
  generalize cmpZ y 4096 = cAq at *
  refine wpAnyL_take (T := fun _ => True) (i := 6) (v := ?vvqt6) rfl (by kernel_rfl) (by kernel_rfl) (by kernel_rfl) (fun _ _ _ h => h) (fun _ _ => Iff.rfl) (fun _ _ _ _ _ => trivial) (Closed.of_B (by kernel_rfl)) (Or.inl ⟨by kernel_rfl, ?hyqt6⟩) hBq ?restqt6
  case hyqt6 => (intro w _; go_simp; with_reducible rfl)
  go_simp
  refine wpAnyL_take (T := fun _ => True) (i := 7) (v := ?vvqt7) rfl (by kernel_rfl) (by kernel_rfl) (by kernel_rfl) (fun _ _ _ h => h) (fun _ _ => Iff.rfl) (fun _ _ _ _ _ => trivial) (Closed.of_B (by kernel_rfl)) (Or.inl ⟨by kernel_rfl, ?hyqt7⟩) hBq ?restqt7
  case hyqt7 => (intro w _; go_simp; with_reducible rfl)
  go_simp
  refine wpAnyL_done (by kernel_rfl) ?_ _
  refine NoPanic.normal ?_
  clear hc hBd hAq
  go_upto_region 21 with fail
  generalize WBq = w8 at *
  have hBd := hBq.drew
  clear hBq
  obtain ⟨B1, hB1, hB1w⟩ : ∃ B1, B1 ≤ w8.heap.size ∧ w.heap.size + 1 + 1 < B1 := ⟨w8.heap.size, Nat.le_refl _, box_lt (hBd.2 (w.heap.size + 1 + 1, (.cells #[.int .i64 0, .int .i64 0, .bool false, .slice none 0 0, .bool false, .slice none 0 0, .string ⟨#[]⟩, .int .i64 0, .int .i64 0, .string ⟨#[]⟩, .int .i64 0, .bool false, .slice none 0 0, .bool false, .slice none 0 0, .string ⟨#[]⟩, .int .i64 0, .slice none 0 0] 33)) (by simp))⟩
  have HB1 := Lib.hid hB1
  clear hB1 hlt3
  obtain ⟨kn, hkn⟩ : ∃ kn : Nat, (kn : Int) = clampZ y 0 4095 := ⟨(clampZ y 0 4095).toNat, by have := clampZ_in (z := y) (low := 0) (high := 4095) (by omega); omega⟩
  have hk95 : kn ≤ 4095 := by have := clampZ_in (z := y) (low := 0) (high := 4095) (by omega); omega
  have HC := Lib.hid (fun W (h : Below w.heap.size w W) => Clamp_any _ y 0 4095 W (HY.out W h) (by omega) (by omega) (by omega))
  rw [← hkn] at HC
  have HTF := Lib.hid (two_fits hk95)
  clear hkn
  refine wp_region_noPanic ?_
  refine wp_region_L (S := fun _ W => Bxs [(w.heap.size, (.cells #[.bool b1, .slice a1 l1 c1] 41)), (w.heap.size + 1, (.cells #[.bool b2, .slice a2 l2 c2] 41)), (w.heap.size + 1 + 1, (.cells #[.int .i64 0, .int .i64 0, .bool false, .slice none 0 0, .bool false, .slice none 0 0, .string ⟨#[]⟩, .int .i64 0, .int .i64 0, .string ⟨#[]⟩, .int .i64 0, .bool false, .slice none 0 0, .bool false, .slice none 0 0, .string ⟨#[]⟩, .int .i64 0, .slice none 0 0] 33))] w W) (by kernel_rfl) ?_
  refine wpAnyL_take (T := fun W => Bxs [(w.heap.size, (.cells #[.bool b1, .slice a1 l1 c1] 41)), (w.heap.size + 1, (.cells #[.bool b2, .slice a2 l2 c2] 41)), (w.heap.size + 1 + 1, (.cells #[.int .i64 0, .int .i64 0, .bool false, .slice none 0 0, .bool false, .slice none 0 0, .string ⟨#[]⟩, .int .i64 0, .int .i64 0, .string ⟨#[]⟩, .int .i64 0, .bool false, .slice none 0 0, .bool false, .slice none 0 0, .string ⟨#[]⟩, .int .i64 0, .slice none 0 0] 33))] w W) (i := 1) (v := ?vvk1) rfl (by kernel_rfl) (by kernel_rfl) (by kernel_rfl) (fun _ _ _ h => h) (fun _ _ => Iff.rfl) (fun _ _ _ _ h => h) (Closed.of_B (by kernel_rfl)) (Or.inl ⟨by kernel_rfl, ?hyk1⟩) hBd ?restk1
  case hyk1 =>
    intro W hW
    have hx1 := hW.2 ((w.heap.size + 1, (.cells #[.bool b2, .slice a2 l2 c2] 41)) : Nat × Obj) (by simp)
    have dx1x0 := box_cell hx1 0
    have dx1x1 := box_cell hx1 1
    simp only [List.getElem?_toArray, List.getElem?_cons_zero, List.getElem?_cons_succ] at dx1x0 dx1x1
    clear hW
    go_simp; with_reducible rfl
  go_simp
  refine wpAnyL_rows (R := fun i v l W => match i with | 0 => IntAt W v 2 | 2 => v = .int .i64 (kn : Int) | 3 => ∃ u, v = .tuple #[u, .bool true] ∧ IntAt W u (2 ^ kn) | 4 => ∃ u, v = .tuple #[u, .bool true] ∧ IntAt W u (2 ^ kn) | 5 => IntAt W v (2 ^ kn) | 6 => v = .bool true | 7 => ∃ M, v = .pointer (some ⟨M, 0, none⟩) ∧ B1 ≤ M ∧ IBox 41 W M | 8 => ∃ M b a n c, l = [.pointer (some ⟨M, 0, none⟩)] ∧ B1 ≤ M ∧ W.heap[M]? = some (.cells #[.bool b, .slice a n c] 41 (0, 0)) ∧ IntAt W (.agg #[.bool b, .slice a n c]) (2 ^ kn) | 9 => v = .bool true | _ => True) (I := fun _ _ W => Bxs [(w.heap.size, (.cells #[.bool b1, .slice a1 l1 c1] 41)), (w.heap.size + 1, (.cells #[.bool b2, .slice a2 l2 c2] 41)), (w.heap.size + 1 + 1, (.cells #[.int .i64 0, .int .i64 0, .bool false, .slice none 0 0, .bool false, .slice none 0 0, .string ⟨#[]⟩, .int .i64 0, .int .i64 0, .string ⟨#[]⟩, .int .i64 0, .bool false, .slice none 0 0, .bool false, .slice none 0 0, .string ⟨#[]⟩, .int .i64 0, .slice none 0 0] 33))] w W ∧ B1 ≤ W.heap.size) [((0, some 114, []), []), ((2, some 116, []), []), ((3, some 117, [0, 2]), [(0, some 114, []), (2, some 116, [])]), ((4, some 113, [3]), [(3, some 117, [0, 2])]), ((5, some 118, [4]), [(4, some 113, [3])]), ((6, some 119, [4]), [(4, some 113, [3])]), ((7, some 11, []), []), ((8, none, [7]), [(5, some 118, [4]), (7, some 11, [])]), ((9, some 12, [6]), [(6, some 119, [4])])] (by kernel_rfl) (by decide) (fun _ _ _ h => h.1) (fun _ => ⟨hBd, HB1.out⟩) ?tabk ?fink
  case tabk =>
    refine TabAll.cons rfl (by kernel_rfl) (fun L vs W hsz hcl hn hd hdn hI K hK => ?_) ?_
    · simp only [putsD, Act.put, List.setIfInBounds_toArray, List.set_cons_zero, List.set_cons_succ] at hK ⊢
      clear hd hdn
      go_simp
      refine (Number_any 2 _ (by omega) (by omega)).mono ?_
      rintro e W3 ⟨v', rfl, hv, hb3⟩
      refine hK _ v' _ (by rfl) (fun i u l hij hL h => ?_) hv ⟨hI.1.below hb3, Nat.le_trans hI.2 hb3.size⟩
      · match i, hij, hL, h with
        | 0, _, _, h => exact IntAt.below h hb3
        | 2, _, _, h => exact h
        | 3, _, _, h => exact (fun ⟨u, h1, h2⟩ => ⟨u, h1, IntAt.below h2 hb3⟩) h
        | 4, _, _, h => exact (fun ⟨u, h1, h2⟩ => ⟨u, h1, IntAt.below h2 hb3⟩) h
        | 5, _, _, h => exact IntAt.below h hb3
        | 6, _, _, h => exact h
        | 7, _, _, h => exact (fun ⟨M, h1, h2, h3⟩ => ⟨M, h1, h2, IBox.below h3 hb3⟩) h
        | 8, _, _, h => exact (fun ⟨M, b, a, n, c, h1, h2, h3, h4⟩ => ⟨M, b, a, n, c, h1, h2, (hb3.block _ (box_lt h3)).trans h3, IntAt.below h4 hb3⟩) h
        | 9, _, _, h => exact h
        | 1, _, _, _ | _ + 10, _, _, _ => trivial
    refine TabAll.cons rfl (by kernel_rfl) (fun L vs W hsz hcl hn hd hdn hI K hK => ?_) ?_
    · simp only [putsD, Act.put, List.setIfInBounds_toArray, List.set_cons_zero, List.set_cons_succ] at hK ⊢
      clear hd hdn
      go_simp
      refine (HC.out W hI.1.1).mono ?_
      rintro e W3 ⟨rfl, hb3⟩
      refine hK _ (.int .i64 (kn : Int)) _ (by rfl) (fun i u l hij hL h => ?_) rfl ⟨hI.1.below hb3, Nat.le_trans hI.2 hb3.size⟩
      · match i, hij, hL, h with
        | 0, _, _, h => exact IntAt.below h hb3
        | 2, _, _, h => exact h
        | 3, _, _, h => exact (fun ⟨u, h1, h2⟩ => ⟨u, h1, IntAt.below h2 hb3⟩) h
        | 4, _, _, h => exact (fun ⟨u, h1, h2⟩ => ⟨u, h1, IntAt.below h2 hb3⟩) h
        | 5, _, _, h => exact IntAt.below h hb3
        | 6, _, _, h => exact h
        | 7, _, _, h => exact (fun ⟨M, h1, h2, h3⟩ => ⟨M, h1, h2, IBox.below h3 hb3⟩) h
        | 8, _, _, h => exact (fun ⟨M, b, a, n, c, h1, h2, h3, h4⟩ => ⟨M, b, a, n, c, h1, h2, (hb3.block _ (box_lt h3)).trans h3, IntAt.below h4 hb3⟩) h
        | 9, _, _, h => exact h
        | 1, _, _, _ | _ + 10, _, _, _ => trivial
    refine TabAll.cons rfl (by kernel_rfl) (fun L vs W hsz hcl hn hd hdn hI K hK => ?_) ?_
    · simp only [putsD, Act.put, List.setIfInBounds_toArray, List.set_cons_zero, List.set_cons_succ] at hK ⊢
      have r0 := hd.1
      have r2 := hd.2.1
      generalize hv0 : vs 0 = v0 at *
      have HV0 := Lib.hid hv0
      clear hv0
      generalize hv2 : vs 2 = v2 at *
      have HV2 := Lib.hid hv2
      clear hv2
      clear hd hdn
      have q0 : IntAt W v0 2 := r0
      have q2 : v2 = .int .i64 (kn : Int) := r2
      clear r0 r2
      subst q2
      have HRd := Lib.hid (IntRaised_any v0 2 kn W q0 (by rw [dig_pos (by decide)]; simp [dig_zero]) (by omega))
      rw [HTF.out] at HRd
      go_simp
      refine HRd.out.mono ?_
      rintro e W3 ⟨v', rfl, hv, -, hb3⟩
      refine hK _ (.tuple #[v', .bool true]) _ (by rfl) (fun i u l hij hL h => ?_) ⟨v', rfl, hv rfl⟩ ⟨hI.1.below hb3, Nat.le_trans hI.2 hb3.size⟩
      · match i, hij, hL, h with
        | 0, _, _, h => exact IntAt.below h hb3
        | 2, _, _, h => exact h
        | 3, _, _, h => exact (fun ⟨u, h1, h2⟩ => ⟨u, h1, IntAt.below h2 hb3⟩) h
        | 4, _, _, h => exact (fun ⟨u, h1, h2⟩ => ⟨u, h1, IntAt.below h2 hb3⟩) h
        | 5, _, _, h => exact IntAt.below h hb3
        | 6, _, _, h => exact h
        | 7, _, _, h => exact (fun ⟨M, h1, h2, h3⟩ => ⟨M, h1, h2, IBox.below h3 hb3⟩) h
        | 8, _, _, h => exact (fun ⟨M, b, a, n, c, h1, h2, h3, h4⟩ => ⟨M, b, a, n, c, h1, h2, (hb3.block _ (box_lt h3)).trans h3, IntAt.below h4 hb3⟩) h
        | 9, _, _, h => exact h
        | 1, _, _, _ | _ + 10, _, _, _ => trivial
    refine TabAll.cons rfl (by kernel_rfl) (fun L vs W hsz hcl hn hd hdn hI K hK => ?_) ?_
    · simp only [putsD, Act.put, List.setIfInBounds_toArray, List.set_cons_zero, List.set_cons_succ] at hK ⊢
      have r3 := hd.1
      generalize hv3 : vs 3 = v3 at *
      have HV3 := Lib.hid hv3
      clear hv3
      clear hd hdn
      obtain ⟨u, q3, hu⟩ : ∃ u, v3 = .tuple #[u, .bool true] ∧ IntAt W u (2 ^ kn) := r3
      subst q3
      go_simp
      refine hK _ (.tuple #[u, .bool true]) _ (by rfl) (fun i u l hij hL h => h) ⟨u, rfl, hu⟩ hI
    refine TabAll.cons rfl (by kernel_rfl) (fun L vs W hsz hcl hn hd hdn hI K hK => ?_) ?_
    · simp only [putsD, Act.put, List.setIfInBounds_toArray, List.set_cons_zero, List.set_cons_succ] at hK ⊢
      have r4 := hd.1
      generalize hv4 : vs 4 = v4 at *
      have HV4 := Lib.hid hv4
      clear hv4
      clear hd hdn
      obtain ⟨u, q3, hu⟩ : ∃ u, v4 = .tuple #[u, .bool true] ∧ IntAt W u (2 ^ kn) := r4
      subst q3
      go_simp
      refine hK _ u _ (by rfl) (fun i u l hij hL h => h) hu hI
    refine TabAll.cons rfl (by kernel_rfl) (fun L vs W hsz hcl hn hd hdn hI K hK => ?_) ?_
    · simp only [putsD, Act.put, List.setIfInBounds_toArray, List.set_cons_zero, List.set_cons_succ] at hK ⊢
      have r4 := hd.1
      generalize hv4 : vs 4 = v4 at *
      have HV4 := Lib.hid hv4
      clear hv4
      clear hd hdn
      obtain ⟨u, q3, hu⟩ : ∃ u, v4 = .tuple #[u, .bool true] ∧ IntAt W u (2 ^ kn) := r4
      subst q3
      go_simp
      refine hK _ (.bool true) _ (by rfl) (fun i u l hij hL h => h) rfl hI
    refine TabAll.cons rfl (by kernel_rfl) (fun L vs W hsz hcl hn hd hdn hI K hK => ?_) ?_
    · simp only [putsD, Act.put, List.setIfInBounds_toArray, List.set_cons_zero, List.set_cons_succ] at hK ⊢
      clear hd hdn
      go_simp
      have hb3 := ext_alloc W (.cells #[.bool false, .slice none 0 0] 41 (0, 0))
      refine hK _ (.pointer (some ⟨W.heap.size, 0, none⟩)) _ (by rfl) (fun i u l hij hL h => ?_) ⟨_, rfl, hI.2, ⟨_, _, _, _, heap_new W _⟩⟩ ⟨hI.1.below hb3, Nat.le_trans hI.2 hb3.size⟩
      · match i, hij, hL, h with
        | 0, _, _, h => exact IntAt.below h hb3
        | 2, _, _, h => exact h
        | 3, _, _, h => exact (fun ⟨u, h1, h2⟩ => ⟨u, h1, IntAt.below h2 hb3⟩) h
        | 4, _, _, h => exact (fun ⟨u, h1, h2⟩ => ⟨u, h1, IntAt.below h2 hb3⟩) h
        | 5, _, _, h => exact IntAt.below h hb3
        | 6, _, _, h => exact h
        | 7, _, _, h => exact (fun ⟨M, h1, h2, h3⟩ => ⟨M, h1, h2, IBox.below h3 hb3⟩) h
        | 8, _, _, h => exact (fun ⟨M, b, a, n, c, h1, h2, h3, h4⟩ => ⟨M, b, a, n, c, h1, h2, (hb3.block _ (box_lt h3)).trans h3, IntAt.below h4 hb3⟩) h
        | 9, _, _, h => exact h
        | 1, _, _, _ | _ + 10, _, _, _ => trivial
    refine TabAll.cons rfl (by kernel_rfl) (fun L vs W hsz hcl hn hd hdn hI K hK => ?_) ?_
    · simp only [putsD, Act.put, List.setIfInBounds_toArray, List.set_cons_zero, List.set_cons_succ] at hK ⊢
      have r5 := hd.1
      have r7 := hd.2.1
      generalize hv5 : vs 5 = v5 at *
      have HV5 := Lib.hid hv5
      clear hv5
      generalize hv7 : vs 7 = v7 at *
      have HV7 := Lib.hid hv7
      clear hv7
      clear hd hdn
      have q5 : IntAt W v5 (2 ^ kn) := r5
      clear r5
      obtain ⟨M, q7, hBM, hbox⟩ : ∃ M, v7 = .pointer (some ⟨M, 0, none⟩) ∧ B1 ≤ M ∧ IBox 41 W M := r7
      subst q7
      obtain ⟨bx, ax, nx, cx, hM⟩ := hbox
      have HI5 := Lib.hid q5
      obtain ⟨b9, nv9, k9, rfl, hn9, hz9⟩ := q5
      obtain ⟨a9, c9, rfl⟩ := hn9.slice
      clear hn9 hz9
      generalize hl9 : (dig k9).length = l9 at *
      clear hl9
      have HS := Lib.hid (setRow_facts hM #[.bool b9, .slice a9 l9 c9])
      have HNI := Lib.hid (noInt_box bx ax nx cx)
      have HI := Lib.hid hI
      have HM := Lib.hid hM
      clear hcl hn hsz hI
      refine wpO_store (cells := #[.bool b9, .slice a9 l9 c9]) stInt hM (by rfl) (by rfl) (by rfl) (by rfl) (by rfl) ?_
      refine hK _ undef _ (by rfl) (fun i u l hij hL h => ?_) ⟨M, b9, a9, l9, c9, (by simp only [List.map_cons, List.map_nil]; rw [HV7.out]), hBM, HS.out.1, intAt_other HI5.out HM.out HNI.out HS.out.2.1⟩ ⟨⟨HS.out.2.2 _ _ (by omega) HI.out.1.1, fun x hx => ?_⟩, by simpa using HI.out.2⟩
      · match i, hij, hL, h with
        | 0, _, _, h => exact intAt_other h HM.out HNI.out HS.out.2.1
        | 2, _, _, h => exact h
        | 3, _, _, h => exact (fun ⟨u, h1, h2⟩ => ⟨u, h1, intAt_other h2 HM.out HNI.out HS.out.2.1⟩) h
        | 4, _, _, h => exact (fun ⟨u, h1, h2⟩ => ⟨u, h1, intAt_other h2 HM.out HNI.out HS.out.2.1⟩) h
        | 5, _, _, h => exact intAt_other h HM.out HNI.out HS.out.2.1
        | 6, _, _, h => exact h
        | 7, _, _, h => exact (fun ⟨M', h1, h2, h3⟩ => ⟨M', h1, h2, ibox_row h3 HM.out _ _ _⟩) h
        | 8, hij, _, _ => exact absurd rfl hij
        | 9, _, _, h => exact h
        | 1, _, _, _ | _ + 10, _, _, _ => trivial
      · have hx' := HI.out.1.2 x hx
        simp only [List.mem_cons, List.not_mem_nil, or_false] at hx
        rcases hx with rfl | rfl | rfl
        all_goals exact (HS.out.2.1 _ (box_lt hx') (by simp only; omega)).trans hx'
    refine TabAll.cons rfl (by kernel_rfl) (fun L vs W hsz hcl hn hd hdn hI K hK => ?_) ?_
    · simp only [putsD, Act.put, List.setIfInBounds_toArray, List.set_cons_zero, List.set_cons_succ] at hK ⊢
      have r6 := hd.1
      generalize hv6 : vs 6 = v6 at *
      have HV6 := Lib.hid hv6
      clear hv6
      clear hd hdn
      have q6 : v6 = .bool true := r6
      clear r6
      subst q6
      go_simp
      refine hK _ (.bool true) _ (by rfl) (fun i u l hij hL h => h) rfl hI
    exact TabAll.nil
  case fink =>
    intro vs Wp hd L hsz hall hI
    have r0 := hd.1
    have r2 := hd.2.1
    have r3 := hd.2.2.1
    have r4 := hd.2.2.2.1
    have r5 := hd.2.2.2.2.1
    have r6 := hd.2.2.2.2.2.1
    have r7 := hd.2.2.2.2.2.2.1
    have r8 := hd.2.2.2.2.2.2.2.1
    have r9 := hd.2.2.2.2.2.2.2.2.1
    simp only [List.map_cons, List.map_nil, putsD, Act.put, List.setIfInBounds_toArray, List.set_cons_zero, List.set_cons_succ]
    obtain ⟨M, bp, ap, np, cp, hl, hBM, hM, hIp⟩ := r8
    simp only [List.map_cons, List.map_nil, List.cons.injEq, and_true] at hl
    generalize vs 0 = v0 at *
    generalize vs 2 = v2 at *
    generalize vs 3 = v3 at *
    generalize vs 4 = v4 at *
    generalize vs 5 = v5 at *
    generalize vs 6 = v6 at *
    generalize vs 7 = v7 at *
    generalize vs 8 = v8 at *
    generalize vs 9 = v9 at *
    clear hd hall hsz
    refine NoPanic.normal ?_
    clear r0 r2 r3 r4 r5 r6 r7
    subst hl
    have q9 : v9 = .bool true := r9
    clear r9
    subst q9
    have hBp := hI.1
    clear hI hBd
    skip
    have HPD0 := Lib.hid (two_dig hk95)
    have HPP0 := Lib.hid (two_pos kn)
    generalize (2 : Int) ^ kn = p0 at *
    clear HC HTF hk95
    go_upto_region 22 with fail
    have hB3 : Bxs [(w.heap.size, (.cells #[.bool b1, .slice a1 l1 c1] 41)), (w.heap.size + 1, (.cells #[.bool b2, .slice a2 l2 c2] 41)), (w.heap.size + 1 + 1, (.cells #[.int .i64 0, .int .i64 0, .bool false, .slice none 0 0, .bool false, .slice none 0 0, .string ⟨#[]⟩, .int .i64 0, .int .i64 0, .string ⟨#[]⟩, .int .i64 0, .bool false, .slice none 0 0, .bool false, .slice none 0 0, .string ⟨#[]⟩, .int .i64 0, .slice none 0 0] 33)), (M, (.cells #[.bool bp, .slice ap np cp] 41))] w Wp.drew := ⟨hBp.1.drew, fun x hx => by
      simp only [List.mem_cons, List.not_mem_nil, or_false] at hx
      rcases hx with rfl | rfl | rfl | rfl
      · exact hBp.2 _ (by simp)
      · exact hBp.2 _ (by simp)
      · exact hBp.2 _ (by simp)
      · exact hM⟩
    have HI0 := Lib.hid (show IntAt Wp.drew (.agg #[.bool bp, .slice ap np cp]) p0 from hIp.below (Below.refl _ _).drew)
    clear hBp hM hIp
    by_cases hge : 4096 ≤ y
    · have hc : cmpZ y 4096 ≥ 0 := cmpZ_ge.2 hge
      clear hge
      refine wp_region_noPanic ?_
      refine wp_region_L (S := fun _ W => Bxs [(w.heap.size, (.cells #[.bool b1, .slice a1 l1 c1] 41)), (w.heap.size + 1, (.cells #[.bool b2, .slice a2 l2 c2] 41)), (w.heap.size + 1 + 1, (.cells #[.int .i64 0, .int .i64 0, .bool false, .slice none 0 0, .bool false, .slice none 0 0, .string ⟨#[]⟩, .int .i64 0, .int .i64 0, .string ⟨#[]⟩, .int .i64 0, .bool false, .slice none 0 0, .bool false, .slice none 0 0, .string ⟨#[]⟩, .int .i64 0, .slice none 0 0] 33)), (M, (.cells #[.bool bp, .slice ap np cp] 41))] w W) (by kernel_rfl) ?_
      refine wpAnyL_take (T := fun W => Bxs [(w.heap.size, (.cells #[.bool b1, .slice a1 l1 c1] 41)), (w.heap.size + 1, (.cells #[.bool b2, .slice a2 l2 c2] 41)), (w.heap.size + 1 + 1, (.cells #[.int .i64 0, .int .i64 0, .bool false, .slice none 0 0, .bool false, .slice none 0 0, .string ⟨#[]⟩, .int .i64 0, .int .i64 0, .string ⟨#[]⟩, .int .i64 0, .bool false, .slice none 0 0, .bool false, .slice none 0 0, .string ⟨#[]⟩, .int .i64 0, .slice none 0 0] 33)), (M, (.cells #[.bool bp, .slice ap np cp] 41))] w W) (i := 0) (v := ?vvu0) rfl (by kernel_rfl) (by kernel_rfl) (by kernel_rfl) (fun _ _ _ h => h) (fun _ _ => Iff.rfl) (fun _ _ _ _ h => h) (Closed.of_B (by kernel_rfl)) (Or.inl ⟨by kernel_rfl, ?hyu0⟩) hB3 ?restu0
      case hyu0 =>
        intro W hW
        have hx1 := hW.2 ((w.heap.size + 1, (.cells #[.bool b2, .slice a2 l2 c2] 41)) : Nat × Obj) (by simp)
        have dx1x0 := box_cell hx1 0
        have dx1x1 := box_cell hx1 1
        simp only [List.getElem?_toArray, List.getElem?_cons_zero, List.getElem?_cons_succ] at dx1x0 dx1x1
        clear hW
        go_simp; with_reducible rfl
      go_simp
      refine wpAnyL_ready (rs := [1]) (by kernel_rfl) (by simp) ?_
      refine AllL.cons rfl (by kernel_rfl) (fun K hK => ?_) AllL.nil
      go_simp
      refine (Number_any 4096 _ (by omega) (by omega)).mono ?_
      rintro e WAu ⟨vn, rfl, hv, hb⟩
      have hAu := hB3.below hb
      refine hK _ _ ⟨hAu, ?_⟩
      clear hK K
      have HO := Lib.hid (IntOrder_any _ vn y 4096 WAu (HY.out WAu hAu.1) hv)
      have HI1 := Lib.hid (HI0.out.below hb)
      clear hv hb
      refine wpAnyL_ready (rs := [2]) (by kernel_rfl) (by simp) ?_
      refine AllL.cons rfl (by kernel_rfl) (fun K hK => ?_) AllL.nil
      go_simp
      refine (HO.out).mono ?_
      rintro e WBu ⟨rfl, hb⟩
      have hBu := hAu.below hb
      refine hK _ _ ⟨hBu, ?_⟩
      clear hK K
      have HI2 := Lib.hid (HI1.out.below hb)
      clear hb HO HI1
      generalize cmpZ y 4096 = cAu at *
      refine wpAnyL_take (T := fun _ => True) (i := 3) (v := ?vvut3) rfl (by kernel_rfl) (by kernel_rfl) (by kernel_rfl) (fun _ _ _ h => h) (fun _ _ => Iff.rfl) (fun _ _ _ _ _ => trivial) (Closed.of_B (by kernel_rfl)) (Or.inl ⟨by kernel_rfl, ?hyut3⟩) hBu ?restut3
      case hyut3 => (intro w _; go_simp; with_reducible rfl)
      go_simp
      refine wpAnyL_done (by kernel_rfl) ?_ _
      refine NoPanic.normal ?_
      clear hc hB3 HI0 hAu
      go_upto_region 23 with fail
      have HI4 := Lib.hid (HI2.out.below (Below.refl _ _).drew)
      have h1 := hBu.2 (w.heap.size, (.cells #[.bool b1, .slice a1 l1 c1] 41)) (by simp)
      have h3 := hBu.2 (w.heap.size + 1 + 1, (.cells #[.int .i64 0, .int .i64 0, .bool false, .slice none 0 0, .bool false, .slice none 0 0, .string ⟨#[]⟩, .int .i64 0, .int .i64 0, .string ⟨#[]⟩, .int .i64 0, .bool false, .slice none 0 0, .bool false, .slice none 0 0, .string ⟨#[]⟩, .int .i64 0, .slice none 0 0] 33)) (by simp)
      have hM := hBu.2 (M, (.cells #[.bool bp, .slice ap np cp] 41)) (by simp)
      have hbq := hBu.1
      have hM4 : WBu.drew.heap[M]? = some (.cells #[.bool bp, .slice ap np cp] 41 (0, 0)) := hM
      have hB4 : Bxs [(w.heap.size, (.cells #[.bool b1, .slice a1 l1 c1] 41)), (w.heap.size + 1, (.cells #[.bool b2, .slice a2 l2 c2] 41)), (w.heap.size + 1 + 1, (.cells #[.int .i64 0, .int .i64 0, .bool false, .slice none 0 0, .bool false, .slice none 0 0, .string ⟨#[]⟩, .int .i64 0, .int .i64 0, .string ⟨#[]⟩, .int .i64 0, .bool false, .slice none 0 0, .bool false, .slice none 0 0, .string ⟨#[]⟩, .int .i64 0, .slice none 0 0] 33))] w WBu.drew := ⟨hbq.drew, fun x hx => by
        simp only [List.mem_cons, List.not_mem_nil, or_false] at hx
        rcases hx with rfl | rfl | rfl
        · exact hBu.2 _ (by simp)
        · exact hBu.2 _ (by simp)
        · exact hBu.2 _ (by simp)⟩
      clear hM h1 h3 hbq hBu HI2
      generalize WBu = W4 at *
      refine wp_region_noPanic ?_
      refine wp_region_L (S := fun L W => Bxs [(w.heap.size, (.cells #[.bool b1, .slice a1 l1 c1] 41)), (w.heap.size + 1, (.cells #[.bool b2, .slice a2 l2 c2] 41)), (w.heap.size + 1 + 1, (.cells #[.int .i64 0, .int .i64 0, .bool false, .slice none 0 0, .bool false, .slice none 0 0, .string ⟨#[]⟩, .int .i64 0, .int .i64 0, .string ⟨#[]⟩, .int .i64 0, .bool false, .slice none 0 0, .bool false, .slice none 0 0, .string ⟨#[]⟩, .int .i64 0, .slice none 0 0] 33))] w W ∧ (L.getD 3 false = false → W.heap[M]? = some (.cells #[.bool bp, .slice ap np cp] 41 (0, 0)))) (by kernel_rfl) ?_
      refine wpAnyL_take (T := fun W => W.heap[M]? = some (.cells #[.bool bp, .slice ap np cp] 41 (0, 0))) (i := 0) (v := ?vvz0) rfl (by kernel_rfl) (by kernel_rfl) (by kernel_rfl) (fun _ _ _ h => h) (fun L W => by rw [getD_put_ne L (show 0 ≠ 3 by decide)]) (fun L W hcl hl hS => hS.2 (hcl.notYet (by kernel_rfl) (getD_false hl))) (Closed.of_B (by kernel_rfl)) (Or.inl ⟨by kernel_rfl, ?hyz0⟩) ⟨hB4, fun _ => hM4⟩ ?restz0
      case hyz0 =>
        intro W hW
        have d0 := box_cell hW 0
        have d1 := box_cell hW 1
        simp only [List.getElem?_toArray, List.getElem?_cons_zero, List.getElem?_cons_succ] at d0 d1
        clear hW
        go_simp; with_reducible rfl
      go_simp
      refine wpAnyL_ready (rs := [1]) (by kernel_rfl) (by simp) ?_
      refine AllL.cons rfl (by kernel_rfl) (fun K hK => ?_) AllL.nil
      go_simp
      refine (Number_any 2 _ (by omega) (by omega)).mono ?_
      rintro e W5 ⟨vn, rfl, hv, hb⟩
      have hA5 := hB4.below hb
      have hM5 := (hb.block _ (box_lt hM4)).trans hM4
      refine hK _ _ ⟨⟨hA5, fun _ => hM5⟩, ?_⟩
      clear hK K
      have HT2 := Lib.hid (IntTimes_any _ vn p0 2 W5 (HI4.out.below hb) hv (Nat.le_trans HPD0.out (by omega)) (by rw [dig_pos (by decide)]; simp [dig_zero]))
      clear hv hb hB4 hM4 HI4
      refine wpAnyL_ready (rs := [2]) (by kernel_rfl) (by simp) ?_
      refine AllL.cons rfl (by kernel_rfl) (fun K hK => ?_) AllL.nil
      go_simp
      refine HT2.out.mono ?_
      rintro e W6 ⟨vt, rfl, hIt, hb⟩
      have hA6 := hA5.below hb
      have hM6 := (hb.block _ (box_lt hM5)).trans hM5
      refine hK _ _ ⟨⟨hA6, fun _ => hM6⟩, ?_⟩
      clear hK K hb HT2 hA5 hM5
      have HIt := Lib.hid hIt
      obtain ⟨b7, nv7, k7, rfl, hn7, -⟩ := hIt
      obtain ⟨a7, c7, rfl⟩ := hn7.slice
      generalize (dig k7).length = l7 at *
      clear hn7
      have HS7 := Lib.hid (setRow_facts hM6 #[.bool b7, .slice a7 l7 c7])
      have HIW := Lib.hid (intAt_other HIt.out hM6 (noInt_box _ _ _ _) HS7.out.2.1)
      refine wpAnyL_ready (rs := [3]) (by kernel_rfl) (by simp) ?_
      refine AllL.cons rfl (by kernel_rfl) (fun K hK => ?_) AllL.nil
      refine wpO_store (cells := #[.bool b7, .slice a7 l7 c7]) stInt hM6 (by rfl) (by rfl) (by rfl) (by rfl) (by rfl) ?_
      have hA7 : Bxs [(w.heap.size, (.cells #[.bool b1, .slice a1 l1 c1] 41)), (w.heap.size + 1, (.cells #[.bool b2, .slice a2 l2 c2] 41)), (w.heap.size + 1 + 1, (.cells #[.int .i64 0, .int .i64 0, .bool false, .slice none 0 0, .bool false, .slice none 0 0, .string ⟨#[]⟩, .int .i64 0, .int .i64 0, .string ⟨#[]⟩, .int .i64 0, .bool false, .slice none 0 0, .bool false, .slice none 0 0, .string ⟨#[]⟩, .int .i64 0, .slice none 0 0] 33))] w (W6.setRow M #[.bool b7, .slice a7 l7 c7]) := ⟨HS7.out.2.2 _ _ (by have := HB1.out; omega) hA6.1, fun x hx => by
        have hx' := hA6.2 x hx
        have := HB1.out
        simp only [List.mem_cons, List.not_mem_nil, or_false] at hx
        rcases hx with rfl | rfl | rfl
        all_goals exact (HS7.out.2.1 _ (box_lt hx') (by simp only; omega)).trans hx'⟩
      refine hK _ _ ⟨⟨hA7, fun h => Bool.noConfusion ((show _ = true by kernel_rfl).symm.trans h)⟩, ?_⟩
      clear hK K
      refine wpAnyL_done (by kernel_rfl) ?_ _
      refine NoPanic.normal ?_
      have hM := HS7.out.1
      have hbq := hA7.1
      have h1 := hA7.2 (w.heap.size, (.cells #[.bool b1, .slice a1 l1 c1] 41)) (by simp)
      have h3 := hA7.2 (w.heap.size + 1 + 1, (.cells #[.int .i64 0, .int .i64 0, .bool false, .slice none 0 0, .bool false, .slice none 0 0, .string ⟨#[]⟩, .int .i64 0, .int .i64 0, .string ⟨#[]⟩, .int .i64 0, .bool false, .slice none 0 0, .bool false, .slice none 0 0, .string ⟨#[]⟩, .int .i64 0, .slice none 0 0] 33)) (by simp)
      have HIP := Lib.hid HIW.out
      clear HIW HIt hA6 hA7 hM6 HS7
      generalize W6.setRow M #[.bool b7, .slice a7 l7 c7] = Wq at *
      have HPP := Lib.hid (show 0 < p0 * 2 by have := HPP0.out; omega)
      have HPD := Lib.hid (show (dig (p0 * 2).natAbs).length ≤ 1000 by rw [Int.natAbs_mul]; exact Nat.le_trans (dig_mul HPD0.out (show (dig (2 : Int).natAbs).length ≤ 1 by rw [dig_pos (by decide)]; simp [dig_zero])) (by omega))
      generalize p0 * 2 = pz at *
      clear HPP0 HPD0
      go_upto_region 25 with fail
      have HT := Lib.hid (IntTimes_any _ _ x pz Wq (HX.out Wq hbq) HIP.out (Nat.le_trans nx (by omega)) (Nat.le_trans HPD.out (by omega)))
      have HPX := Lib.hid (show (dig (x * pz).natAbs).length ≤ 1000000 by rw [Int.natAbs_mul]; exact Nat.le_trans (dig_mul nx HPD.out) (by omega))
      have d0 := box_cell h1 0
      have d1 := box_cell h1 1
      simp only [List.getElem?_toArray, List.getElem?_cons_zero, List.getElem?_cons_succ] at d0 d1
      have e0 := box_cell hM 0
      have e1 := box_cell hM 1
      simp only [List.getElem?_toArray, List.getElem?_cons_zero, List.getElem?_cons_succ] at e0 e1
      go_wp2_with fail
      refine HT.out.mono ?_
      rintro e wr ⟨vt, rfl, hIt, hbt⟩
      replace h3 := (hbt.block _ (box_lt h3)).trans h3
      have HIn := Lib.hid (integer_any vt _ wr hIt HPX.out)
      clear hIt d0 d1 e0 e1
      go_wp2_with fail
      refine HIn.out.mono ?_
      rintro e ws ⟨vs2, rfl, hS, hbs⟩
      replace h3 := (hbs.block _ (box_lt h3)).trans h3
      have HSV := Lib.hid hS
      obtain ⟨cs, rfl, hlen, hone⟩ := stepOf_cells hS
      clear hS
      go_wp2_with (refine wpL_store (cells := cs.toArray) stStep h3 (by rfl) (by simpa using hlen) (by simpa using hone) (by rfl) (by rfl) ?_)
      have hs := setRow_facts h3 cs.toArray
      exact bodyPost_ret (results_cell rfl stStep rfl hs.1 (by simpa using hlen)) rfl ⟨_, _, rfl, StepOf.other HSV.out h3 noU_zero hs.2.1, hs.2.2 _ _ (by omega) (ext_trans hbq (ext_trans hbt hbs))⟩
    have hc : ¬ (cmpZ y 4096 ≥ 0) := fun h => hge (cmpZ_ge.1 h)
    clear hge
    refine wp_region_noPanic ?_
    refine wp_region_L (S := fun _ W => Bxs [(w.heap.size, (.cells #[.bool b1, .slice a1 l1 c1] 41)), (w.heap.size + 1, (.cells #[.bool b2, .slice a2 l2 c2] 41)), (w.heap.size + 1 + 1, (.cells #[.int .i64 0, .int .i64 0, .bool false, .slice none 0 0, .bool false, .slice none 0 0, .string ⟨#[]⟩, .int .i64 0, .int .i64 0, .string ⟨#[]⟩, .int .i64 0, .bool false, .slice none 0 0, .bool false, .slice none 0 0, .string ⟨#[]⟩, .int .i64 0, .slice none 0 0] 33)), (M, (.cells #[.bool bp, .slice ap np cp] 41))] w W) (by kernel_rfl) ?_
    refine wpAnyL_take (T := fun W => Bxs [(w.heap.size, (.cells #[.bool b1, .slice a1 l1 c1] 41)), (w.heap.size + 1, (.cells #[.bool b2, .slice a2 l2 c2] 41)), (w.heap.size + 1 + 1, (.cells #[.int .i64 0, .int .i64 0, .bool false, .slice none 0 0, .bool false, .slice none 0 0, .string ⟨#[]⟩, .int .i64 0, .int .i64 0, .string ⟨#[]⟩, .int .i64 0, .bool false, .slice none 0 0, .bool false, .slice none 0 0, .string ⟨#[]⟩, .int .i64 0, .slice none 0 0] 33)), (M, (.cells #[.bool bp, .slice ap np cp] 41))] w W) (i := 0) (v := ?vvl0) rfl (by kernel_rfl) (by kernel_rfl) (by kernel_rfl) (fun _ _ _ h => h) (fun _ _ => Iff.rfl) (fun _ _ _ _ h => h) (Closed.of_B (by kernel_rfl)) (Or.inl ⟨by kernel_rfl, ?hyl0⟩) hB3 ?restl0
    case hyl0 =>
      intro W hW
      have hx1 := hW.2 ((w.heap.size + 1, (.cells #[.bool b2, .slice a2 l2 c2] 41)) : Nat × Obj) (by simp)
      have dx1x0 := box_cell hx1 0
      have dx1x1 := box_cell hx1 1
      simp only [List.getElem?_toArray, List.getElem?_cons_zero, List.getElem?_cons_succ] at dx1x0 dx1x1
      clear hW
      go_simp; with_reducible rfl
    go_simp
    refine wpAnyL_ready (rs := [1]) (by kernel_rfl) (by simp) ?_
    refine AllL.cons rfl (by kernel_rfl) (fun K hK => ?_) AllL.nil
    go_simp
    refine (Number_any 4096 _ (by omega) (by omega)).mono ?_
    rintro e WAl ⟨vn, rfl, hv, hb⟩
    have hAl := hB3.below hb
    refine hK _ _ ⟨hAl, ?_⟩
    clear hK K
    have HO := Lib.hid (IntOrder_any _ vn y 4096 WAl (HY.out WAl hAl.1) hv)
    have HI1 := Lib.hid (HI0.out.below hb)
    clear hv hb
    refine wpAnyL_ready (rs := [2]) (by kernel_rfl) (by simp) ?_
    refine AllL.cons rfl (by kernel_rfl) (fun K hK => ?_) AllL.nil
    go_simp
    refine (HO.out).mono ?_
    rintro e WBl ⟨rfl, hb⟩
    have hBl := hAl.below hb
    refine hK _ _ ⟨hBl, ?_⟩
    clear hK K
    have HI2 := Lib.hid (HI1.out.below hb)
    clear hb HO HI1
    generalize cmpZ y 4096 = cAl at *
    refine wpAnyL_take (T := fun _ => True) (i := 3) (v := ?vvlt3) rfl (by kernel_rfl) (by kernel_rfl) (by kernel_rfl) (fun _ _ _ h => h) (fun _ _ => Iff.rfl) (fun _ _ _ _ _ => trivial) (Closed.of_B (by kernel_rfl)) (Or.inl ⟨by kernel_rfl, ?hylt3⟩) hBl ?restlt3
    case hylt3 => (intro w _; go_simp; with_reducible rfl)
    go_simp
    refine wpAnyL_done (by kernel_rfl) ?_ _
    refine NoPanic.normal ?_
    clear hc hB3 HI0 hAl
    have HIP := Lib.hid HI2.out
    have h1 := hBl.2 (w.heap.size, (.cells #[.bool b1, .slice a1 l1 c1] 41)) (by simp)
    have h3 := hBl.2 (w.heap.size + 1 + 1, (.cells #[.int .i64 0, .int .i64 0, .bool false, .slice none 0 0, .bool false, .slice none 0 0, .string ⟨#[]⟩, .int .i64 0, .int .i64 0, .string ⟨#[]⟩, .int .i64 0, .bool false, .slice none 0 0, .bool false, .slice none 0 0, .string ⟨#[]⟩, .int .i64 0, .slice none 0 0] 33)) (by simp)
    have hM := hBl.2 (M, (.cells #[.bool bp, .slice ap np cp] 41)) (by simp)
    have hbq := hBl.1
    clear hBl HI2
    have HPP := Lib.hid HPP0.out
    have HPD := Lib.hid (Nat.le_trans HPD0.out (show 256 ≤ 1000 by omega))
    clear HPP0 HPD0
    generalize p0 = pz at *
    generalize WBl = Wq at *
    go_upto_region 25 with fail
    have HT := Lib.hid (IntTimes_any _ _ x pz Wq (HX.out Wq hbq) HIP.out (Nat.le_trans nx (by omega)) (Nat.le_trans HPD.out (by omega)))
    have HPX := Lib.hid (show (dig (x * pz).natAbs).length ≤ 1000000 by rw [Int.natAbs_mul]; exact Nat.le_trans (dig_mul nx HPD.out) (by omega))
    have d0 := box_cell h1 0
    have d1 := box_cell h1 1
    simp only [List.getElem?_toArray, List.getElem?_cons_zero, List.getElem?_cons_succ] at d0 d1
    have e0 := box_cell hM 0
    have e1 := box_cell hM 1
    simp only [List.getElem?_toArray, List.getElem?_cons_zero, List.getElem?_cons_succ] at e0 e1
    go_wp2_with fail
    refine HT.out.mono ?_
    rintro e wr ⟨vt, rfl, hIt, hbt⟩
    replace h3 := (hbt.block _ (box_lt h3)).trans h3
    have HIn := Lib.hid (integer_any vt _ wr hIt HPX.out)
    clear hIt d0 d1 e0 e1
    go_wp2_with fail
    refine HIn.out.mono ?_
    rintro e ws ⟨vs2, rfl, hS, hbs⟩
    replace h3 := (hbs.block _ (box_lt h3)).trans h3
    have HSV := Lib.hid hS
    obtain ⟨cs, rfl, hlen, hone⟩ := stepOf_cells hS
    clear hS
    go_wp2_with (refine wpL_store (cells := cs.toArray) stStep h3 (by rfl) (by simpa using hlen) (by simpa using hone) (by rfl) (by rfl) ?_)
    have hs := setRow_facts h3 cs.toArray
    exact bodyPost_ret (results_cell rfl stStep rfl hs.1 (by simpa using hlen)) rfl ⟨_, _, rfl, StepOf.other HSV.out h3 noU_zero hs.2.1, hs.2.2 _ _ (by omega) (ext_trans hbq (ext_trans hbt hbs))⟩

end Go.Proofs.YtpmadgmjkljbgaaDoor
