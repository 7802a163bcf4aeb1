/- Part 17 of the proof. -/
import Derived.Test.YtpmadgmjkljbgaaDoorM16

/- Walk: power. -/
namespace Go.Proofs.YtpmadgmjkljbgaaDoor
open Go.RowKit

/-- A step is returned. -/
def SomeStep (w : World) (e : Ending) (w' : World) : Prop := ∃ v' x, e = .returned v' ∧ StepOf w' v' x ∧ Below w.heap.size w w'
theorem IntRaised_some (xv : Value) (x : Int) (n : Nat) (w : World) (hx : IntAt w xv x) (nx : (dig x.natAbs).length ≤ 100000) (hn : n ≤ 9223372036854775807) :
    Calls Tryd.prog 56 #[xv, .int .i64 n] w fun e w' => ∃ (v' : Value) (zz : Int), e = .returned (.tuple #[v', .bool (powFits x n)]) ∧ IntAt w' v' zz ∧ (dig zz.natAbs).length ≤ 256 ∧ (powFits x n = true → zz = x ^ n) ∧ Below w.heap.size w w' := by
  refine (IntRaised_any xv x n w hx nx hn).mono ?_
  rintro e w' ⟨v', rfl, h1, h2, hb⟩
  cases hf : powFits x n with
  | true =>
    refine ⟨v', x ^ n, rfl, h1 hf, ?_, fun _ => rfl, hb⟩
    unfold powFits at hf
    simpa using hf
  | false => exact ⟨v', 0, rfl, h2 hf, by simp [dig_zero], fun h => (by cases h), hb⟩
theorem natAt_of_int {W : World} {b : Bool} {nv : Value} {z : Int} (h : IntAt W (.agg #[.bool b, nv]) z) : NatAt W nv z.natAbs := by
  obtain ⟨b', nv', k, he, hk, hz⟩ := h
  simp only [Value.agg.injEq, Array.mk.injEq, List.cons.injEq, Value.bool.injEq, and_true] at he
  obtain ⟨rfl, rfl⟩ := he
  rw [← hz, ZI_abs]; exact hk
theorem rat_of_ints {W : World} {b c : Bool} {a d : Value} {z y : Int} (h1 : IntAt W (.agg #[.bool b, a]) z) (h2 : IntAt W (.agg #[.bool c, d]) y) : RatAt W (.agg #[.bool b, a, d]) z y.natAbs := by
  have h3 := natAt_of_int h2
  obtain ⟨b', nv', k, he, hk, hz⟩ := h1
  simp only [Value.agg.injEq, Array.mk.injEq, List.cons.injEq, Value.bool.injEq, and_true] at he
  obtain ⟨rfl, rfl⟩ := he
  exact ⟨_, _, _, k, rfl, hk, h3, hz⟩
theorem intAt_of_rat {W : World} {b : Bool} {a d : Value} {z : Int} {n : Nat} (h : RatAt W (.agg #[.bool b, a, d]) z n) : IntAt W (.agg #[.bool b, a]) z := by
  obtain ⟨b', nv, dv, k, he, hk, hd, hz⟩ := h
  simp only [Value.agg.injEq, Array.mk.injEq, List.cons.injEq, Value.bool.injEq, and_true] at he
  obtain ⟨rfl, rfl, rfl⟩ := he
  exact ⟨_, _, k, rfl, hk, hz⟩
theorem natAt_of_rat {W : World} {b : Bool} {a d : Value} {z : Int} {n : Nat} (h : RatAt W (.agg #[.bool b, a, d]) z n) : NatAt W d n := by
  obtain ⟨b', nv, dv, k, he, hk, hd, hz⟩ := h
  simp only [Value.agg.injEq, Array.mk.injEq, List.cons.injEq, Value.bool.injEq, and_true] at he
  obtain ⟨rfl, rfl, rfl⟩ := he
  exact hd
theorem turnZ_abs (z : Int) (d : Nat) : (turnZ z d).natAbs = d := by unfold turnZ; split <;> simp
set_option maxRecDepth 100000 in
set_option maxHeartbeats 8000000 in
theorem power_any (xv yv : Value) (z : Int) (d : Nat) (n : Int) (w : World) (hx : RatAt w xv z d) (hy : IntAt w yv n) (hd0 : 0 < d) (nz : (dig z.natAbs).length ≤ 100000) (nd : (dig d).length ≤ 100000) :
    Calls Tryd.prog 30 #[xv, yv] w fun e w' => SomeStep w e w' := by
  have HX := Lib.hid (fun W (h : Below w.heap.size w W) => hx.below h)
  have HY := Lib.hid (fun W (h : Below w.heap.size w W) => hy.below h)
  have HD0 := Lib.hid hd0
  have NZ := Lib.hid nz
  have ND := Lib.hid nd
  obtain ⟨b1, v1, u1, m, rfl, hm, hd, hz⟩ := hx
  obtain ⟨b2, v2, m2, rfl, hm2, hz2⟩ := hy
  obtain ⟨a1, c1, rfl⟩ := hm.slice
  obtain ⟨p1, r1, rfl⟩ := hd.slice
  obtain ⟨a2, c2, rfl⟩ := hm2.slice
  clear hm hd hm2 hz hz2 hd0 nz nd
  generalize (dig m).length = l1 at HX
  generalize hq1 : (dig d).length = q1 at HX
  generalize (dig m2).length = l2 at HY
  clear hq1
  have hal := alloc3 w (.cells #[.bool b1, .slice a1 l1 c1, .slice p1 q1 r1] 43) (.cells #[.bool b2, .slice a2 l2 c2] 41) (.cells #[.int .i64 0, .int .i64 0, .bool false, .slice none 0 0, .bool false, .slice none 0 0, .string ⟨#[]⟩, .int .i64 0, .int .i64 0, .string ⟨#[]⟩, .int .i64 0, .bool false, .slice none 0 0, .bool false, .slice none 0 0, .string ⟨#[]⟩, .int .i64 0, .slice none 0 0] 33)
  go_enter Tryd.func30, Tryd.ntmps30
  go_upto_region 1 with fail
  generalize (((w.alloc (.cells #[.bool b1, .slice a1 l1 c1, .slice p1 q1 r1] 43)).alloc (.cells #[.bool b2, .slice a2 l2 c2] 41)).alloc (.cells #[.int .i64 0, .int .i64 0, .bool false, .slice none 0 0, .bool false, .slice none 0 0, .string ⟨#[]⟩, .int .i64 0, .int .i64 0, .string ⟨#[]⟩, .int .i64 0, .bool false, .slice none 0 0, .bool false, .slice none 0 0, .string ⟨#[]⟩, .int .i64 0, .slice none 0 0] 33)) = w1 at *
  obtain ⟨hb1, h1, h2, h3⟩ := hal
  have hlt3 := box_lt h3
  have HNg := Lib.hid (fun W (h : Below w.heap.size w W) => Negative_any _ n W (HY.out W h))
  have HZr := Lib.hid (fun W (h : Below w.heap.size w W) => Zero_any (.agg #[.bool b1, .slice a1 l1 c1]) z W (intAt_of_rat (HX.out W h)))
  have hnr : n < 0 ∧ z = 0 ∨ ¬ (n < 0 ∧ z = 0) := Classical.em _
  by_cases hneg : n < 0
  · by_cases hz0 : z = 0
    · have e1 : decide (n < 0) = true := by simpa using hneg
      have e2 : decide (z = 0) = true := by simpa using hz0
      rw [e1] at HNg
      rw [e2] at HZr
      clear e1 e2 hneg hz0 hnr
      have d0 := box_cell h2 0
      have d1 := box_cell h2 1
      simp only [List.getElem?_toArray, List.getElem?_cons_zero, List.getElem?_cons_succ] at d0 d1
      go_wp2_with fail
      refine (HNg.out w1 hb1).mono ?_
      rintro e w2 ⟨rfl, hb2⟩
      replace h1 := (hb2.block _ (box_lt h1)).trans h1
      replace h2 := (hb2.block _ (box_lt h2)).trans h2
      replace h3 := (hb2.block _ (box_lt h3)).trans h3
      have hb12 := ext_trans hb1 hb2
      clear d0 d1
      have d0 := box_cell h1 0
      have d1 := box_cell h1 1
      simp only [List.getElem?_toArray, List.getElem?_cons_zero, List.getElem?_cons_succ] at d0 d1
      go_wp2_with fail
      refine (HZr.out w2 hb12).mono ?_
      rintro e w3 ⟨rfl, hb3⟩
      replace h3 := (hb3.block _ (box_lt h3)).trans h3
      have hb13 := ext_trans hb12 hb3
      clear d0 d1
      go_wp2_with fail
      refine (Raise_any 41 ⟨#[100, 105, 118, 105, 115, 105, 111, 110, 32, 98, 121, 32, 122, 101, 114, 111]⟩ w3).mono ?_
      rintro e wz ⟨rfl, hbz⟩
      replace h3 := (hbz.block _ (box_lt h3)).trans h3
      go_wp2_with (refine wpL_store (cells := #[.int .i64 1, .int .i64 0, .bool false, .slice none 0 0, .bool false, .slice none 0 0, .string ⟨#[]⟩, .int .i64 0, .int .i64 41, .string ⟨#[100, 105, 118, 105, 115, 105, 111, 110, 32, 98, 121, 32, 122, 101, 114, 111]⟩, .int .i64 0, .bool false, .slice none 0 0, .bool false, .slice none 0 0, .string ⟨#[]⟩, .int .i64 0, .slice none 0 0]) stStep h3 (by rfl) (by rfl) (by rfl) (by rfl) (by rfl) ?_)
      have hs := setRow_facts h3 #[.int .i64 1, .int .i64 0, .bool false, .slice none 0 0, .bool false, .slice none 0 0, .string ⟨#[]⟩, .int .i64 0, .int .i64 41, .string ⟨#[100, 105, 118, 105, 115, 105, 111, 110, 32, 98, 121, 32, 122, 101, 114, 111]⟩, .int .i64 0, .bool false, .slice none 0 0, .bool false, .slice none 0 0, .string ⟨#[]⟩, .int .i64 0, .slice none 0 0]
      exact bodyPost_ret (results_cell rfl stStep rfl hs.1 rfl) rfl ⟨_, zeroVl, rfl, StepOf.other (tooLarge_step wz ⟨#[100, 105, 118, 105, 115, 105, 111, 110, 32, 98, 121, 32, 122, 101, 114, 111]⟩ 41) h3 noU_zero hs.2.1, hs.2.2 _ _ (by omega) (ext_trans hb13 hbz)⟩
    · have e1 : decide (n < 0) = true := by simpa using hneg
      have e2 : decide (z = 0) = false := by simpa using hz0
      rw [e1] at HNg
      rw [e2] at HZr
      have HZ0 := Lib.hid hz0
      clear e1 e2 hnr hz0
      have d0 := box_cell h2 0
      have d1 := box_cell h2 1
      simp only [List.getElem?_toArray, List.getElem?_cons_zero, List.getElem?_cons_succ] at d0 d1
      go_wp2_with fail
      refine (HNg.out w1 hb1).mono ?_
      rintro e w2 ⟨rfl, hb2⟩
      replace h1 := (hb2.block _ (box_lt h1)).trans h1
      replace h2 := (hb2.block _ (box_lt h2)).trans h2
      replace h3 := (hb2.block _ (box_lt h3)).trans h3
      have hb12 := ext_trans hb1 hb2
      clear d0 d1
      have d0 := box_cell h1 0
      have d1 := box_cell h1 1
      simp only [List.getElem?_toArray, List.getElem?_cons_zero, List.getElem?_cons_succ] at d0 d1
      go_wp2_with fail
      refine (HZr.out w2 hb12).mono ?_
      rintro e w3 ⟨rfl, hb3⟩
      replace h1 := (hb3.block _ (box_lt h1)).trans h1
      replace h2 := (hb3.block _ (box_lt h2)).trans h2
      replace h3 := (hb3.block _ (box_lt h3)).trans h3
      have hb13 := ext_trans hb12 hb3
      clear d0 d1 hb1 hb2 hb3 hb12 HNg HZr
      go_upto_region 3 with fail
      have hBd : Bxs [(w.heap.size, (.cells #[.bool b1, .slice a1 l1 c1, .slice p1 q1 r1] 43)), (w.heap.size + 1, (.cells #[.bool b2, .slice a2 l2 c2] 41)), (w.heap.size + 1 + 1, (.cells #[.int .i64 0, .int .i64 0, .bool false, .slice none 0 0, .bool false, .slice none 0 0, .string ⟨#[]⟩, .int .i64 0, .int .i64 0, .string ⟨#[]⟩, .int .i64 0, .bool false, .slice none 0 0, .bool false, .slice none 0 0, .string ⟨#[]⟩, .int .i64 0, .slice none 0 0] 33))] w w3.drew := ⟨hb13.drew, fun x hx => by
        simp only [List.mem_cons, List.not_mem_nil, or_false] at hx
        rcases hx with rfl | rfl | rfl
        · exact h1
        · exact h2
        · exact h3⟩
      clear h1 h2 h3 hb13
      have hc1 : ¬ (cmpZ n 10000 > 0) := by unfold cmpZ; split <;> (try split) <;> omega
      by_cases hsm : n < -10000
      · have hc2 : cmpZ n (-10000) < 0 := by unfold cmpZ; rw [if_pos hsm]; omega
        refine wp_region_noPanic ?_
        refine wp_region_L (S := fun _ W => Bxs [(w.heap.size, (.cells #[.bool b1, .slice a1 l1 c1, .slice p1 q1 r1] 43)), (w.heap.size + 1, (.cells #[.bool b2, .slice a2 l2 c2] 41)), (w.heap.size + 1 + 1, (.cells #[.int .i64 0, .int .i64 0, .bool false, .slice none 0 0, .bool false, .slice none 0 0, .string ⟨#[]⟩, .int .i64 0, .int .i64 0, .string ⟨#[]⟩, .int .i64 0, .bool false, .slice none 0 0, .bool false, .slice none 0 0, .string ⟨#[]⟩, .int .i64 0, .slice none 0 0] 33))] w W) (by kernel_rfl) ?_
        refine wpAnyL_take (T := fun W => Bxs [(w.heap.size, (.cells #[.bool b1, .slice a1 l1 c1, .slice p1 q1 r1] 43)), (w.heap.size + 1, (.cells #[.bool b2, .slice a2 l2 c2] 41)), (w.heap.size + 1 + 1, (.cells #[.int .i64 0, .int .i64 0, .bool false, .slice none 0 0, .bool false, .slice none 0 0, .string ⟨#[]⟩, .int .i64 0, .int .i64 0, .string ⟨#[]⟩, .int .i64 0, .bool false, .slice none 0 0, .bool false, .slice none 0 0, .string ⟨#[]⟩, .int .i64 0, .slice none 0 0] 33))] w W) (i := 0) (v := ?vvan0) rfl (by kernel_rfl) (by kernel_rfl) (by kernel_rfl) (fun _ _ _ h => h) (fun _ _ => Iff.rfl) (fun _ _ _ _ h => h) (Closed.of_B (by kernel_rfl)) (Or.inl ⟨by kernel_rfl, ?hyan0⟩) hBd ?restan0
        case hyan0 =>
          intro W hW
          have hx1 := hW.2 ((w.heap.size + 1, (.cells #[.bool b2, .slice a2 l2 c2] 41)) : Nat × Obj) (by simp)
          have dx1x0 := box_cell hx1 0
          have dx1x1 := box_cell hx1 1
          simp only [List.getElem?_toArray, List.getElem?_cons_zero, List.getElem?_cons_succ] at dx1x0 dx1x1
          clear hW
          go_simp; with_reducible rfl
        go_simp
        refine wpAnyL_ready (rs := [1]) (by kernel_rfl) (by simp) ?_
        refine AllL.cons rfl (by kernel_rfl) (fun K hK => ?_) AllL.nil
        go_simp
        refine (Number_any 10000 _ (by omega) (by omega)).mono ?_
        rintro e WAan ⟨vn, rfl, hv, hb⟩
        have hAan := hBd.below hb
        refine hK _ _ ⟨hAan, ?_⟩
        clear hK K
        have HO := Lib.hid (IntOrder_any _ vn n 10000 WAan (HY.out WAan hAan.1) hv)
        clear hv hb
        refine wpAnyL_ready (rs := [2]) (by kernel_rfl) (by simp) ?_
        refine AllL.cons rfl (by kernel_rfl) (fun K hK => ?_) AllL.nil
        go_simp
        refine (HO.out).mono ?_
        rintro e WBan ⟨rfl, hb⟩
        have hBan := hAan.below hb
        refine hK _ _ ⟨hBan, ?_⟩
        clear hK K
        clear hb HO
        generalize cmpZ n 10000 = cA at *
        refine wpAnyL_take (T := fun _ => True) (i := 3) (v := ?vvan3) rfl (by kernel_rfl) (by kernel_rfl) (by kernel_rfl) (fun _ _ _ h => h) (fun _ _ => Iff.rfl) (fun _ _ _ _ _ => trivial) (Closed.of_B (by kernel_rfl)) (Or.inl ⟨by kernel_rfl, ?hyan3⟩) hBan ?restan3
        case hyan3 => (intro w _; go_simp; with_reducible rfl)
        go_simp
        refine wpAnyL_take (T := fun _ => True) (i := 4) (v := ?vvan4) rfl (by kernel_rfl) (by kernel_rfl) (by kernel_rfl) (fun _ _ _ h => h) (fun _ _ => Iff.rfl) (fun _ _ _ _ _ => trivial) (Closed.of_B (by kernel_rfl)) (Or.inl ⟨by kernel_rfl, ?hyan4⟩) hBan ?restan4
        case hyan4 => (intro w _; go_simp; with_reducible rfl)
        go_simp
        refine wpAnyL_take (T := fun W => Bxs [(w.heap.size, (.cells #[.bool b1, .slice a1 l1 c1, .slice p1 q1 r1] 43)), (w.heap.size + 1, (.cells #[.bool b2, .slice a2 l2 c2] 41)), (w.heap.size + 1 + 1, (.cells #[.int .i64 0, .int .i64 0, .bool false, .slice none 0 0, .bool false, .slice none 0 0, .string ⟨#[]⟩, .int .i64 0, .int .i64 0, .string ⟨#[]⟩, .int .i64 0, .bool false, .slice none 0 0, .bool false, .slice none 0 0, .string ⟨#[]⟩, .int .i64 0, .slice none 0 0] 33))] w W) (i := 5) (v := ?vvan5) rfl (by kernel_rfl) (by kernel_rfl) (by kernel_rfl) (fun _ _ _ h => h) (fun _ _ => Iff.rfl) (fun _ _ _ _ h => h) (Closed.of_B (by kernel_rfl)) (Or.inl ⟨by kernel_rfl, ?hyan5⟩) hBan ?restan5
        case hyan5 =>
          intro W hW
          have hx1 := hW.2 ((w.heap.size + 1, (.cells #[.bool b2, .slice a2 l2 c2] 41)) : Nat × Obj) (by simp)
          have dx1x0 := box_cell hx1 0
          have dx1x1 := box_cell hx1 1
          simp only [List.getElem?_toArray, List.getElem?_cons_zero, List.getElem?_cons_succ] at dx1x0 dx1x1
          clear hW
          go_simp; with_reducible rfl
        go_simp
        refine wpAnyL_ready (rs := [6]) (by kernel_rfl) (by simp) ?_
        refine AllL.cons rfl (by kernel_rfl) (fun K hK => ?_) AllL.nil
        go_simp
        refine (Number_any (-10000) _ (by omega) (by omega)).mono ?_
        rintro e WCan ⟨vn, rfl, hv, hb⟩
        have hCan := hBan.below hb
        refine hK _ _ ⟨hCan, ?_⟩
        clear hK K
        have HO := Lib.hid (IntOrder_any _ vn n (-10000) WCan (HY.out WCan hCan.1) hv)
        clear hv hb
        refine wpAnyL_ready (rs := [7]) (by kernel_rfl) (by simp) ?_
        refine AllL.cons rfl (by kernel_rfl) (fun K hK => ?_) AllL.nil
        go_simp
        refine (HO.out).mono ?_
        rintro e WDan ⟨rfl, hb⟩
        have hDan := hCan.below hb
        refine hK _ _ ⟨hDan, ?_⟩
        clear hK K
        clear hb HO
        generalize cmpZ n (-10000) = cB at *
        refine wpAnyL_take (T := fun _ => True) (i := 8) (v := ?vvan8) rfl (by kernel_rfl) (by kernel_rfl) (by kernel_rfl) (fun _ _ _ h => h) (fun _ _ => Iff.rfl) (fun _ _ _ _ _ => trivial) (Closed.of_B (by kernel_rfl)) (Or.inl ⟨by kernel_rfl, ?hyan8⟩) hDan ?restan8
        case hyan8 => (intro w _; go_simp; with_reducible rfl)
        go_simp
        refine wpAnyL_take (T := fun _ => True) (i := 9) (v := ?vvan9) rfl (by kernel_rfl) (by kernel_rfl) (by kernel_rfl) (fun _ _ _ h => h) (fun _ _ => Iff.rfl) (fun _ _ _ _ _ => trivial) (Closed.of_B (by kernel_rfl)) (Or.inl ⟨by kernel_rfl, ?hyan9⟩) hDan ?restan9
        case hyan9 => (intro w _; go_simp; with_reducible rfl)
        go_simp
        refine wpAnyL_done (by kernel_rfl) ?_ _
        refine NoPanic.normal ?_
        have hBo := hDan
        clear hAan hBan hCan hDan hBd
        have h3 := hBo.2 (w.heap.size + 1 + 1, (.cells #[.int .i64 0, .int .i64 0, .bool false, .slice none 0 0, .bool false, .slice none 0 0, .string ⟨#[]⟩, .int .i64 0, .int .i64 0, .string ⟨#[]⟩, .int .i64 0, .bool false, .slice none 0 0, .bool false, .slice none 0 0, .string ⟨#[]⟩, .int .i64 0, .slice none 0 0] 33)) (by simp)
        have hbo := hBo.1
        go_wp2_with fail
        refine (TooLarge_any WDan).mono ?_
        rintro e wz ⟨rfl, hbz⟩
        replace h3 := (hbz.block _ (box_lt h3)).trans h3
        go_wp2_with (refine wpL_store (cells := #[.int .i64 1, .int .i64 0, .bool false, .slice none 0 0, .bool false, .slice none 0 0, .string ⟨#[]⟩, .int .i64 0, .int .i64 42, .string ⟨#[118, 97, 108, 117, 101, 32, 105, 115, 32, 116, 111, 111, 32, 108, 97, 114, 103, 101]⟩, .int .i64 0, .bool false, .slice none 0 0, .bool false, .slice none 0 0, .string ⟨#[]⟩, .int .i64 0, .slice none 0 0]) stStep h3 (by rfl) (by rfl) (by rfl) (by rfl) (by rfl) ?_)
        have hs := setRow_facts h3 #[.int .i64 1, .int .i64 0, .bool false, .slice none 0 0, .bool false, .slice none 0 0, .string ⟨#[]⟩, .int .i64 0, .int .i64 42, .string ⟨#[118, 97, 108, 117, 101, 32, 105, 115, 32, 116, 111, 111, 32, 108, 97, 114, 103, 101]⟩, .int .i64 0, .bool false, .slice none 0 0, .bool false, .slice none 0 0, .string ⟨#[]⟩, .int .i64 0, .slice none 0 0]
        exact bodyPost_ret (results_cell rfl stStep rfl hs.1 rfl) rfl ⟨_, zeroVl, rfl, StepOf.other (tooLarge_step wz ⟨#[118, 97, 108, 117, 101, 32, 105, 115, 32, 116, 111, 111, 32, 108, 97, 114, 103, 101]⟩ 42) h3 noU_zero hs.2.1, hs.2.2 _ _ (by omega) (ext_trans hbo hbz)⟩
      · have hc2 : ¬ (cmpZ n (-10000) < 0) := by unfold cmpZ; rw [if_neg hsm]; split <;> omega
        refine wp_region_noPanic ?_
        refine wp_region_L (S := fun _ W => Bxs [(w.heap.size, (.cells #[.bool b1, .slice a1 l1 c1, .slice p1 q1 r1] 43)), (w.heap.size + 1, (.cells #[.bool b2, .slice a2 l2 c2] 41)), (w.heap.size + 1 + 1, (.cells #[.int .i64 0, .int .i64 0, .bool false, .slice none 0 0, .bool false, .slice none 0 0, .string ⟨#[]⟩, .int .i64 0, .int .i64 0, .string ⟨#[]⟩, .int .i64 0, .bool false, .slice none 0 0, .bool false, .slice none 0 0, .string ⟨#[]⟩, .int .i64 0, .slice none 0 0] 33))] w W) (by kernel_rfl) ?_
        refine wpAnyL_take (T := fun W => Bxs [(w.heap.size, (.cells #[.bool b1, .slice a1 l1 c1, .slice p1 q1 r1] 43)), (w.heap.size + 1, (.cells #[.bool b2, .slice a2 l2 c2] 41)), (w.heap.size + 1 + 1, (.cells #[.int .i64 0, .int .i64 0, .bool false, .slice none 0 0, .bool false, .slice none 0 0, .string ⟨#[]⟩, .int .i64 0, .int .i64 0, .string ⟨#[]⟩, .int .i64 0, .bool false, .slice none 0 0, .bool false, .slice none 0 0, .string ⟨#[]⟩, .int .i64 0, .slice none 0 0] 33))] w W) (i := 0) (v := ?vvbn0) rfl (by kernel_rfl) (by kernel_rfl) (by kernel_rfl) (fun _ _ _ h => h) (fun _ _ => Iff.rfl) (fun _ _ _ _ h => h) (Closed.of_B (by kernel_rfl)) (Or.inl ⟨by kernel_rfl, ?hybn0⟩) hBd ?restbn0
        case hybn0 =>
          intro W hW
          have hx1 := hW.2 ((w.heap.size + 1, (.cells #[.bool b2, .slice a2 l2 c2] 41)) : Nat × Obj) (by simp)
          have dx1x0 := box_cell hx1 0
          have dx1x1 := box_cell hx1 1
          simp only [List.getElem?_toArray, List.getElem?_cons_zero, List.getElem?_cons_succ] at dx1x0 dx1x1
          clear hW
          go_simp; with_reducible rfl
        go_simp
        refine wpAnyL_ready (rs := [1]) (by kernel_rfl) (by simp) ?_
        refine AllL.cons rfl (by kernel_rfl) (fun K hK => ?_) AllL.nil
        go_simp
        refine (Number_any 10000 _ (by omega) (by omega)).mono ?_
        rintro e WAbn ⟨vn, rfl, hv, hb⟩
        have hAbn := hBd.below hb
        refine hK _ _ ⟨hAbn, ?_⟩
        clear hK K
        have HO := Lib.hid (IntOrder_any _ vn n 10000 WAbn (HY.out WAbn hAbn.1) hv)
        clear hv hb
        refine wpAnyL_ready (rs := [2]) (by kernel_rfl) (by simp) ?_
        refine AllL.cons rfl (by kernel_rfl) (fun K hK => ?_) AllL.nil
        go_simp
        refine (HO.out).mono ?_
        rintro e WBbn ⟨rfl, hb⟩
        have hBbn := hAbn.below hb
        refine hK _ _ ⟨hBbn, ?_⟩
        clear hK K
        clear hb HO
        generalize cmpZ n 10000 = cA at *
        refine wpAnyL_take (T := fun _ => True) (i := 3) (v := ?vvbn3) rfl (by kernel_rfl) (by kernel_rfl) (by kernel_rfl) (fun _ _ _ h => h) (fun _ _ => Iff.rfl) (fun _ _ _ _ _ => trivial) (Closed.of_B (by kernel_rfl)) (Or.inl ⟨by kernel_rfl, ?hybn3⟩) hBbn ?restbn3
        case hybn3 => (intro w _; go_simp; with_reducible rfl)
        go_simp
        refine wpAnyL_take (T := fun _ => True) (i := 4) (v := ?vvbn4) rfl (by kernel_rfl) (by kernel_rfl) (by kernel_rfl) (fun _ _ _ h => h) (fun _ _ => Iff.rfl) (fun _ _ _ _ _ => trivial) (Closed.of_B (by kernel_rfl)) (Or.inl ⟨by kernel_rfl, ?hybn4⟩) hBbn ?restbn4
        case hybn4 => (intro w _; go_simp; with_reducible rfl)
        go_simp
        refine wpAnyL_take (T := fun W => Bxs [(w.heap.size, (.cells #[.bool b1, .slice a1 l1 c1, .slice p1 q1 r1] 43)), (w.heap.size + 1, (.cells #[.bool b2, .slice a2 l2 c2] 41)), (w.heap.size + 1 + 1, (.cells #[.int .i64 0, .int .i64 0, .bool false, .slice none 0 0, .bool false, .slice none 0 0, .string ⟨#[]⟩, .int .i64 0, .int .i64 0, .string ⟨#[]⟩, .int .i64 0, .bool false, .slice none 0 0, .bool false, .slice none 0 0, .string ⟨#[]⟩, .int .i64 0, .slice none 0 0] 33))] w W) (i := 5) (v := ?vvbn5) rfl (by kernel_rfl) (by kernel_rfl) (by kernel_rfl) (fun _ _ _ h => h) (fun _ _ => Iff.rfl) (fun _ _ _ _ h => h) (Closed.of_B (by kernel_rfl)) (Or.inl ⟨by kernel_rfl, ?hybn5⟩) hBbn ?restbn5
        case hybn5 =>
          intro W hW
          have hx1 := hW.2 ((w.heap.size + 1, (.cells #[.bool b2, .slice a2 l2 c2] 41)) : Nat × Obj) (by simp)
          have dx1x0 := box_cell hx1 0
          have dx1x1 := box_cell hx1 1
          simp only [List.getElem?_toArray, List.getElem?_cons_zero, List.getElem?_cons_succ] at dx1x0 dx1x1
          clear hW
          go_simp; with_reducible rfl
        go_simp
        refine wpAnyL_ready (rs := [6]) (by kernel_rfl) (by simp) ?_
        refine AllL.cons rfl (by kernel_rfl) (fun K hK => ?_) AllL.nil
        go_simp
        refine (Number_any (-10000) _ (by omega) (by omega)).mono ?_
        rintro e WCbn ⟨vn, rfl, hv, hb⟩
        have hCbn := hBbn.below hb
        refine hK _ _ ⟨hCbn, ?_⟩
        clear hK K
        have HO := Lib.hid (IntOrder_any _ vn n (-10000) WCbn (HY.out WCbn hCbn.1) hv)
        clear hv hb
        refine wpAnyL_ready (rs := [7]) (by kernel_rfl) (by simp) ?_
        refine AllL.cons rfl (by kernel_rfl) (fun K hK => ?_) AllL.nil
        go_simp
        refine (HO.out).mono ?_
        rintro e WDbn ⟨rfl, hb⟩
        have hDbn := hCbn.below hb
        refine hK _ _ ⟨hDbn, ?_⟩
        clear hK K
        clear hb HO
        generalize cmpZ n (-10000) = cB at *
        refine wpAnyL_take (T := fun _ => True) (i := 8) (v := ?vvbn8) rfl (by kernel_rfl) (by kernel_rfl) (by kernel_rfl) (fun _ _ _ h => h) (fun _ _ => Iff.rfl) (fun _ _ _ _ _ => trivial) (Closed.of_B (by kernel_rfl)) (Or.inl ⟨by kernel_rfl, ?hybn8⟩) hDbn ?restbn8
        case hybn8 => (intro w _; go_simp; with_reducible rfl)
        go_simp
        refine wpAnyL_take (T := fun _ => True) (i := 9) (v := ?vvbn9) rfl (by kernel_rfl) (by kernel_rfl) (by kernel_rfl) (fun _ _ _ h => h) (fun _ _ => Iff.rfl) (fun _ _ _ _ _ => trivial) (Closed.of_B (by kernel_rfl)) (Or.inl ⟨by kernel_rfl, ?hybn9⟩) hDbn ?restbn9
        case hybn9 => (intro w _; go_simp; with_reducible rfl)
        go_simp
        refine wpAnyL_done (by kernel_rfl) ?_ _
        refine NoPanic.normal ?_
        have hBo := hDbn
        clear hAbn hBbn hCbn hDbn hBd
        have hck : clampZ n (-10000) 10000 = -((n.natAbs : Nat) : Int) ∧ n.natAbs ≤ 10000 ∧ 0 < n.natAbs := by unfold clampZ; split <;> (try split) <;> omega
        have h1 := hBo.2 (w.heap.size, (.cells #[.bool b1, .slice a1 l1 c1, .slice p1 q1 r1] 43)) (by simp)
        have h2 := hBo.2 (w.heap.size + 1, (.cells #[.bool b2, .slice a2 l2 c2] 41)) (by simp)
        have h3 := hBo.2 (w.heap.size + 1 + 1, (.cells #[.int .i64 0, .int .i64 0, .bool false, .slice none 0 0, .bool false, .slice none 0 0, .string ⟨#[]⟩, .int .i64 0, .int .i64 0, .string ⟨#[]⟩, .int .i64 0, .bool false, .slice none 0 0, .bool false, .slice none 0 0, .string ⟨#[]⟩, .int .i64 0, .slice none 0 0] 33)) (by simp)
        have hbo := hBo.1
        generalize WDbn = wo at *
        clear hBo hc1 hc2
        clear hsm
        have HC := Lib.hid (Clamp_any _ n (-10000) 10000 wo (HY.out wo hbo) (by omega) (by omega) (by omega))
        rw [hck.1] at HC
        have d0 := box_cell h2 0
        have d1 := box_cell h2 1
        simp only [List.getElem?_toArray, List.getElem?_cons_zero, List.getElem?_cons_succ] at d0 d1
        go_upto_region 5 with fail
        go_wp2_with fail
        refine HC.out.mono ?_
        rintro e w4 ⟨rfl, hb4⟩
        replace h1 := (hb4.block _ (box_lt h1)).trans h1
        replace h3 := (hb4.block _ (box_lt h3)).trans h3
        have hbo4 := ext_trans hbo hb4
        clear d0 d1 h2 HC hb4 HY
        obtain ⟨kn, hkn⟩ : ∃ kn, kn = n.natAbs := ⟨_, rfl⟩
        rw [← hkn] at hck
        rw [← hkn]
        have hk1 := hck.2.1
        have hkp : (-(kn : Int)) < 0 := by omega
        have hkw : IntKind.i64.wrap (-(-(kn : Int))) = (kn : Int) := by rw [Int.neg_neg]; exact IntWalk.i64_in _ (by omega)
        have hkw2 : -(-(kn : Int)) = (kn : Int) := by omega
        clear hck hkn
        have HT := Lib.hid (RatTurned_any _ z d w4 (HX.out w4 hbo4) HZ0.out)
        go_upto_region 7 with fail
        refine wp_region_lit ?_
        refine wpL_load stRat h1 (by rfl) (by rfl) ?_
        go_wp2_with fail
        refine HT.out.mono ?_
        rintro e w4' ⟨v5, rfl, hR, hb5'⟩
        replace h1 := (hb5'.block _ (box_lt h1)).trans h1
        replace h3 := (hb5'.block _ (box_lt h3)).trans h3
        obtain ⟨b5, nv5, dv5, k5, rfl, hk5, hd5, hz5⟩ := hR
        have HR5 := Lib.hid (show RatAt w4' (.agg #[.bool b5, nv5, dv5]) (turnZ z d) z.natAbs from ⟨b5, nv5, dv5, k5, rfl, hk5, hd5, hz5⟩)
        obtain ⟨a5, c5, rfl⟩ := hk5.slice
        obtain ⟨p5, r5, rfl⟩ := hd5.slice
        generalize hl5 : (dig k5).length = l5 at *
        generalize hq5 : (dig z.natAbs).length = q5 at HR5 ⊢
        clear hk5 hd5 hz5 hl5 hq5
        go_upto_region 8 with (refine wpL_store (cells := #[.bool b5, .slice a5 l5 c5, .slice p5 q5 r5]) stRat h1 (by rfl) (by rfl) (by rfl) (by rfl) (by rfl) ?_)
        have hs5 := setRow_facts h1 #[.bool b5, .slice a5 l5 c5, .slice p5 q5 r5]
        have HRX := Lib.hid (ratAt_other (old := [.bool b1, .slice a1 l1 c1, .slice p1 q1 r1]) HR5.out h1 (by intro x hx k dd; simp only [List.mem_cons, List.not_mem_nil, or_false] at hx; rcases hx with rfl | rfl | rfl <;> simp) hs5.2.1)
        have hb5 := hs5.2.2 w w.heap.size (Nat.le_refl _) (ext_trans hbo4 hb5')
        replace h3 := (hs5.2.1 _ (box_lt h3) (by omega)).trans h3
        have h1' := hs5.1
        clear h1 hs5 HR5 HT
        generalize w4'.setRow w.heap.size #[.bool b5, .slice a5 l5 c5, .slice p5 q5 r5] = w5 at *
        have h1 := h1'
        clear h1'
        have RI := Lib.hid (intAt_of_rat HRX.out)
        have RD := Lib.hid (natAt_of_rat HRX.out)
        have nz5 : (dig (turnZ z d).natAbs).length ≤ 100000 := by rw [turnZ_abs]; exact ND.out
        have nd5 : (dig z.natAbs).length ≤ 100000 := NZ.out
        generalize turnZ z d = z5 at *
        generalize hzd : z.natAbs = d5 at *
        clear hzd HRX
        have HA1 := Lib.hid (fun W (h : Below w5.heap.size w5 W) => IntRaised_some _ z5 kn W (RI.out.below h) nz5 (by omega))
        have HA2 := Lib.hid (fun W (h : Below w5.heap.size w5 W) => IntRaised_some _ (d5 : Int) kn W (natAt_int (RD.out.below h)) (by rw [dig_natCast]; exact nd5) (by omega))
        have hlt3 := box_lt h3
        have d0 := box_cell h1 0
        have d1 := box_cell h1 1
        simp only [List.getElem?_toArray, List.getElem?_cons_zero, List.getElem?_cons_succ] at d0 d1
        clear nz5 nd5 RI RD
        skip
        go_wp2_with fail
        refine (HA1.out w5 (Below.refl _ _)).mono ?_
        rintro e w6 ⟨v6, z6, rfl, hI6, hl6, -, hb6⟩
        obtain ⟨b6, nv6, k6, rfl, hk6, hz6⟩ := hI6
        have HI6 := Lib.hid (show IntAt w6 (.agg #[.bool b6, nv6]) z6 from ⟨b6, nv6, k6, rfl, hk6, hz6⟩)
        obtain ⟨a6, c6, rfl⟩ := hk6.slice
        generalize hg6 : (dig k6).length = m6 at *
        have HL6 := Lib.hid hl6
        clear hk6 hz6 hg6 hl6 d0 d1
        replace h1 := (hb6.block _ (box_lt h1)).trans h1
        replace h3 := (hb6.block _ (box_lt h3)).trans h3
        have hlt3' := box_lt h3
        have h6 := heap_new w6 (.cells #[.bool b6, .slice a6 m6 c6] 41 (0, 0))
        have hb7' := ext_alloc w6 (.cells #[.bool b6, .slice a6 m6 c6] 41 (0, 0))
        replace h1 := box_alloc h1 (.cells #[.bool b6, .slice a6 m6 c6] 41 (0, 0))
        replace h3 := box_alloc h3 (.cells #[.bool b6, .slice a6 m6 c6] 41 (0, 0))
        have HI7 := Lib.hid (HI6.out.below hb7')
        have hb67 := ext_trans hb6 hb7'
        have d2 := box_cell h1 2
        simp only [List.getElem?_toArray, List.getElem?_cons_zero, List.getElem?_cons_succ] at d2
        generalize hP6 : powFits z5 kn = P6 at *
        clear hP6 HI6
        go_upto_region 9 with fail
        generalize hm6' : w6.heap.size = M6 at *
        clear hm6'
        generalize w6.alloc (.cells #[.bool b6, .slice a6 m6 c6] 41 (0, 0)) = w7 at *
        go_wp2_with fail
        refine (HA2.out w7 hb67).mono ?_
        rintro e w8 ⟨v8, z8, rfl, hI8, hl8, -, hb8⟩
        obtain ⟨b8, nv8, k8, rfl, hk8, hz8⟩ := hI8
        have HI8 := Lib.hid (show IntAt w8 (.agg #[.bool b8, nv8]) z8 from ⟨b8, nv8, k8, rfl, hk8, hz8⟩)
        obtain ⟨a8, c8, rfl⟩ := hk8.slice
        generalize hg8 : (dig k8).length = m8 at *
        have HL8 := Lib.hid hl8
        clear hk8 hz8 hg8 hl8 d2 h1
        replace h3 := (hb8.block _ (box_lt h3)).trans h3
        replace h6 := (hb8.block _ (box_lt h6)).trans h6
        have hb9 := ext_alloc w8 (.cells #[.bool b8, .slice a8 m8 c8] 41 (0, 0))
        have h8 := heap_new w8 (.cells #[.bool b8, .slice a8 m8 c8] 41 (0, 0))
        replace h3 := box_alloc h3 (.cells #[.bool b8, .slice a8 m8 c8] 41 (0, 0))
        replace h6 := box_alloc h6 (.cells #[.bool b8, .slice a8 m8 c8] 41 (0, 0))
        have HI9 := Lib.hid (HI7.out.below (ext_trans hb8 hb9))
        have HI10 := Lib.hid (HI8.out.below hb9)
        clear HI7 HI8
        have hbw9 := ext_trans hb5 (ext_trans hb67 (ext_trans hb8 hb9))
        generalize hP8 : powFits (d5 : Int) kn = P8 at *
        clear hP8 HA1 HA2 hb6 hb8
        go_upto_region 10 with fail
        generalize hm8' : w8.heap.size = M8 at *
        clear hm8'
        generalize w8.alloc (.cells #[.bool b8, .slice a8 m8 c8] 41 (0, 0)) = w9 at *
        cases P6
        · go_wp2_with fail
          refine (TooLarge_any w9).mono ?_
          rintro e wz ⟨rfl, hbz⟩
          replace h3 := (hbz.block _ (box_lt h3)).trans h3
          go_wp2_with (refine wpL_store (cells := #[.int .i64 1, .int .i64 0, .bool false, .slice none 0 0, .bool false, .slice none 0 0, .string ⟨#[]⟩, .int .i64 0, .int .i64 42, .string ⟨#[118, 97, 108, 117, 101, 32, 105, 115, 32, 116, 111, 111, 32, 108, 97, 114, 103, 101]⟩, .int .i64 0, .bool false, .slice none 0 0, .bool false, .slice none 0 0, .string ⟨#[]⟩, .int .i64 0, .slice none 0 0]) stStep h3 (by rfl) (by rfl) (by rfl) (by rfl) (by rfl) ?_)
          have hs := setRow_facts h3 #[.int .i64 1, .int .i64 0, .bool false, .slice none 0 0, .bool false, .slice none 0 0, .string ⟨#[]⟩, .int .i64 0, .int .i64 42, .string ⟨#[118, 97, 108, 117, 101, 32, 105, 115, 32, 116, 111, 111, 32, 108, 97, 114, 103, 101]⟩, .int .i64 0, .bool false, .slice none 0 0, .bool false, .slice none 0 0, .string ⟨#[]⟩, .int .i64 0, .slice none 0 0]
          exact bodyPost_ret (results_cell rfl stStep rfl hs.1 rfl) rfl ⟨_, zeroVl, rfl, StepOf.other (tooLarge_step wz ⟨#[118, 97, 108, 117, 101, 32, 105, 115, 32, 116, 111, 111, 32, 108, 97, 114, 103, 101]⟩ 42) h3 noU_zero hs.2.1, hs.2.2 _ _ (by omega) (ext_trans hbw9 hbz)⟩
        cases P8
        · go_wp2_with fail
          refine (TooLarge_any w9).mono ?_
          rintro e wz ⟨rfl, hbz⟩
          replace h3 := (hbz.block _ (box_lt h3)).trans h3
          go_wp2_with (refine wpL_store (cells := #[.int .i64 1, .int .i64 0, .bool false, .slice none 0 0, .bool false, .slice none 0 0, .string ⟨#[]⟩, .int .i64 0, .int .i64 42, .string ⟨#[118, 97, 108, 117, 101, 32, 105, 115, 32, 116, 111, 111, 32, 108, 97, 114, 103, 101]⟩, .int .i64 0, .bool false, .slice none 0 0, .bool false, .slice none 0 0, .string ⟨#[]⟩, .int .i64 0, .slice none 0 0]) stStep h3 (by rfl) (by rfl) (by rfl) (by rfl) (by rfl) ?_)
          have hs := setRow_facts h3 #[.int .i64 1, .int .i64 0, .bool false, .slice none 0 0, .bool false, .slice none 0 0, .string ⟨#[]⟩, .int .i64 0, .int .i64 42, .string ⟨#[118, 97, 108, 117, 101, 32, 105, 115, 32, 116, 111, 111, 32, 108, 97, 114, 103, 101]⟩, .int .i64 0, .bool false, .slice none 0 0, .bool false, .slice none 0 0, .string ⟨#[]⟩, .int .i64 0, .slice none 0 0]
          exact bodyPost_ret (results_cell rfl stStep rfl hs.1 rfl) rfl ⟨_, zeroVl, rfl, StepOf.other (tooLarge_step wz ⟨#[118, 97, 108, 117, 101, 32, 105, 115, 32, 116, 111, 111, 32, 108, 97, 114, 103, 101]⟩ 42) h3 noU_zero hs.2.1, hs.2.2 _ _ (by omega) (ext_trans hbw9 hbz)⟩
        have g6 := box_cell h6 0
        have g6' := box_cell h6 1
        have g8 := box_cell h8 1
        simp only [List.getElem?_toArray, List.getElem?_cons_zero, List.getElem?_cons_succ] at g6 g6' g8
        have HN := Lib.hid (number_any (.agg #[.bool b6, .slice a6 m6 c6, .slice a8 m8 c8]) z6 z8.natAbs w9 (rat_of_ints HI9.out HI10.out) (Nat.le_trans HL6.out (by omega)) (Nat.le_trans HL8.out (by omega)))
        clear HI9 HI10 HL6 HL8
        go_wp2_with fail
        refine HN.out.mono ?_
        rintro e wn ⟨vn, rfl, hS, hbn⟩
        replace h3 := (hbn.block _ (box_lt h3)).trans h3
        have HSV := Lib.hid hS
        obtain ⟨cs, rfl, hlen, hone⟩ := stepOf_cells hS
        clear hS
        go_wp2_with (refine wpL_store (cells := cs.toArray) stStep h3 (by rfl) (by simpa using hlen) (by simpa using hone) (by rfl) (by rfl) ?_)
        have hs := setRow_facts h3 cs.toArray
        exact bodyPost_ret (results_cell rfl stStep rfl hs.1 (by simpa using hlen)) rfl ⟨_, _, rfl, StepOf.other HSV.out h3 noU_zero hs.2.1, hs.2.2 _ _ (by omega) (ext_trans hbw9 hbn)⟩
  · have e1 : decide (n < 0) = false := by simpa using hneg
    rw [e1] at HNg
    clear e1 hnr
    have d0 := box_cell h2 0
    have d1 := box_cell h2 1
    simp only [List.getElem?_toArray, List.getElem?_cons_zero, List.getElem?_cons_succ] at d0 d1
    go_wp2_with fail
    refine (HNg.out w1 hb1).mono ?_
    rintro e w3 ⟨rfl, hb2⟩
    replace h1 := (hb2.block _ (box_lt h1)).trans h1
    replace h2 := (hb2.block _ (box_lt h2)).trans h2
    replace h3 := (hb2.block _ (box_lt h3)).trans h3
    have hb13 := ext_trans hb1 hb2
    clear d0 d1 hb1 hb2 HNg HZr
    go_upto_region 3 with fail
    have hBd : Bxs [(w.heap.size, (.cells #[.bool b1, .slice a1 l1 c1, .slice p1 q1 r1] 43)), (w.heap.size + 1, (.cells #[.bool b2, .slice a2 l2 c2] 41)), (w.heap.size + 1 + 1, (.cells #[.int .i64 0, .int .i64 0, .bool false, .slice none 0 0, .bool false, .slice none 0 0, .string ⟨#[]⟩, .int .i64 0, .int .i64 0, .string ⟨#[]⟩, .int .i64 0, .bool false, .slice none 0 0, .bool false, .slice none 0 0, .string ⟨#[]⟩, .int .i64 0, .slice none 0 0] 33))] w w3.drew := ⟨hb13.drew, fun x hx => by
      simp only [List.mem_cons, List.not_mem_nil, or_false] at hx
      rcases hx with rfl | rfl | rfl
      · exact h1
      · exact h2
      · exact h3⟩
    clear h1 h2 h3 hb13
    by_cases hbig : 10000 < n
    · have hc1 : cmpZ n 10000 > 0 := by unfold cmpZ; rw [if_neg (by omega), if_pos hbig]; omega
      refine wp_region_noPanic ?_
      refine wp_region_L (S := fun _ W => Bxs [(w.heap.size, (.cells #[.bool b1, .slice a1 l1 c1, .slice p1 q1 r1] 43)), (w.heap.size + 1, (.cells #[.bool b2, .slice a2 l2 c2] 41)), (w.heap.size + 1 + 1, (.cells #[.int .i64 0, .int .i64 0, .bool false, .slice none 0 0, .bool false, .slice none 0 0, .string ⟨#[]⟩, .int .i64 0, .int .i64 0, .string ⟨#[]⟩, .int .i64 0, .bool false, .slice none 0 0, .bool false, .slice none 0 0, .string ⟨#[]⟩, .int .i64 0, .slice none 0 0] 33))] w W) (by kernel_rfl) ?_
      refine wpAnyL_take (T := fun W => Bxs [(w.heap.size, (.cells #[.bool b1, .slice a1 l1 c1, .slice p1 q1 r1] 43)), (w.heap.size + 1, (.cells #[.bool b2, .slice a2 l2 c2] 41)), (w.heap.size + 1 + 1, (.cells #[.int .i64 0, .int .i64 0, .bool false, .slice none 0 0, .bool false, .slice none 0 0, .string ⟨#[]⟩, .int .i64 0, .int .i64 0, .string ⟨#[]⟩, .int .i64 0, .bool false, .slice none 0 0, .bool false, .slice none 0 0, .string ⟨#[]⟩, .int .i64 0, .slice none 0 0] 33))] w W) (i := 0) (v := ?vvap0) rfl (by kernel_rfl) (by kernel_rfl) (by kernel_rfl) (fun _ _ _ h => h) (fun _ _ => Iff.rfl) (fun _ _ _ _ h => h) (Closed.of_B (by kernel_rfl)) (Or.inl ⟨by kernel_rfl, ?hyap0⟩) hBd ?restap0
      case hyap0 =>
        intro W hW
        have hx1 := hW.2 ((w.heap.size + 1, (.cells #[.bool b2, .slice a2 l2 c2] 41)) : Nat × Obj) (by simp)
        have dx1x0 := box_cell hx1 0
        have dx1x1 := box_cell hx1 1
        simp only [List.getElem?_toArray, List.getElem?_cons_zero, List.getElem?_cons_succ] at dx1x0 dx1x1
        clear hW
        go_simp; with_reducible rfl
      go_simp
      refine wpAnyL_ready (rs := [1]) (by kernel_rfl) (by simp) ?_
      refine AllL.cons rfl (by kernel_rfl) (fun K hK => ?_) AllL.nil
      go_simp
      refine (Number_any 10000 _ (by omega) (by omega)).mono ?_
      rintro e WAap ⟨vn, rfl, hv, hb⟩
      have hAap := hBd.below hb
      refine hK _ _ ⟨hAap, ?_⟩
      clear hK K
      have HO := Lib.hid (IntOrder_any _ vn n 10000 WAap (HY.out WAap hAap.1) hv)
      clear hv hb
      refine wpAnyL_ready (rs := [2]) (by kernel_rfl) (by simp) ?_
      refine AllL.cons rfl (by kernel_rfl) (fun K hK => ?_) AllL.nil
      go_simp
      refine (HO.out).mono ?_
      rintro e WBap ⟨rfl, hb⟩
      have hBap := hAap.below hb
      refine hK _ _ ⟨hBap, ?_⟩
      clear hK K
      clear hb HO
      generalize cmpZ n 10000 = cA at *
      refine wpAnyL_take (T := fun _ => True) (i := 3) (v := ?vvap3) rfl (by kernel_rfl) (by kernel_rfl) (by kernel_rfl) (fun _ _ _ h => h) (fun _ _ => Iff.rfl) (fun _ _ _ _ _ => trivial) (Closed.of_B (by kernel_rfl)) (Or.inl ⟨by kernel_rfl, ?hyap3⟩) hBap ?restap3
      case hyap3 => (intro w _; go_simp; with_reducible rfl)
      go_simp
      refine wpAnyL_take (T := fun _ => True) (i := 4) (v := ?vvap4) rfl (by kernel_rfl) (by kernel_rfl) (by kernel_rfl) (fun _ _ _ h => h) (fun _ _ => Iff.rfl) (fun _ _ _ _ _ => trivial) (Closed.of_B (by kernel_rfl)) (Or.inl ⟨by kernel_rfl, ?hyap4⟩) hBap ?restap4
      case hyap4 => (intro w _; go_simp; with_reducible rfl)
      go_simp
      refine wpAnyL_take (T := fun _ => True) (i := 5) (v := undef) rfl (by kernel_rfl) (by kernel_rfl) (by kernel_rfl) (fun _ _ _ h => h) (fun _ _ => Iff.rfl) (fun _ _ _ _ _ => trivial) (Closed.of_B (by kernel_rfl)) (Or.inr ⟨by kernel_rfl, rfl⟩) hBap ?restap5
      go_simp
      refine wpAnyL_take (T := fun _ => True) (i := 6) (v := undef) rfl (by kernel_rfl) (by kernel_rfl) (by kernel_rfl) (fun _ _ _ h => h) (fun _ _ => Iff.rfl) (fun _ _ _ _ _ => trivial) (Closed.of_B (by kernel_rfl)) (Or.inr ⟨by kernel_rfl, rfl⟩) hBap ?restap6
      go_simp
      refine wpAnyL_take (T := fun _ => True) (i := 7) (v := undef) rfl (by kernel_rfl) (by kernel_rfl) (by kernel_rfl) (fun _ _ _ h => h) (fun _ _ => Iff.rfl) (fun _ _ _ _ _ => trivial) (Closed.of_B (by kernel_rfl)) (Or.inr ⟨by kernel_rfl, rfl⟩) hBap ?restap7
      go_simp
      refine wpAnyL_take (T := fun _ => True) (i := 8) (v := undef) rfl (by kernel_rfl) (by kernel_rfl) (by kernel_rfl) (fun _ _ _ h => h) (fun _ _ => Iff.rfl) (fun _ _ _ _ _ => trivial) (Closed.of_B (by kernel_rfl)) (Or.inr ⟨by kernel_rfl, rfl⟩) hBap ?restap8
      go_simp
      refine wpAnyL_take (T := fun _ => True) (i := 9) (v := ?vvap9) rfl (by kernel_rfl) (by kernel_rfl) (by kernel_rfl) (fun _ _ _ h => h) (fun _ _ => Iff.rfl) (fun _ _ _ _ _ => trivial) (Closed.of_B (by kernel_rfl)) (Or.inl ⟨by kernel_rfl, ?hyap9⟩) hBap ?restap9
      case hyap9 => (intro w _; go_simp; with_reducible rfl)
      go_simp
      refine wpAnyL_done (by kernel_rfl) ?_ _
      refine NoPanic.normal ?_
      have hBo := hBap
      clear hAap hBap hBd
      have h3 := hBo.2 (w.heap.size + 1 + 1, (.cells #[.int .i64 0, .int .i64 0, .bool false, .slice none 0 0, .bool false, .slice none 0 0, .string ⟨#[]⟩, .int .i64 0, .int .i64 0, .string ⟨#[]⟩, .int .i64 0, .bool false, .slice none 0 0, .bool false, .slice none 0 0, .string ⟨#[]⟩, .int .i64 0, .slice none 0 0] 33)) (by simp)
      have hbo := hBo.1
      go_wp2_with fail
      refine (TooLarge_any WBap).mono ?_
      rintro e wz ⟨rfl, hbz⟩
      replace h3 := (hbz.block _ (box_lt h3)).trans h3
      go_wp2_with (refine wpL_store (cells := #[.int .i64 1, .int .i64 0, .bool false, .slice none 0 0, .bool false, .slice none 0 0, .string ⟨#[]⟩, .int .i64 0, .int .i64 42, .string ⟨#[118, 97, 108, 117, 101, 32, 105, 115, 32, 116, 111, 111, 32, 108, 97, 114, 103, 101]⟩, .int .i64 0, .bool false, .slice none 0 0, .bool false, .slice none 0 0, .string ⟨#[]⟩, .int .i64 0, .slice none 0 0]) stStep h3 (by rfl) (by rfl) (by rfl) (by rfl) (by rfl) ?_)
      have hs := setRow_facts h3 #[.int .i64 1, .int .i64 0, .bool false, .slice none 0 0, .bool false, .slice none 0 0, .string ⟨#[]⟩, .int .i64 0, .int .i64 42, .string ⟨#[118, 97, 108, 117, 101, 32, 105, 115, 32, 116, 111, 111, 32, 108, 97, 114, 103, 101]⟩, .int .i64 0, .bool false, .slice none 0 0, .bool false, .slice none 0 0, .string ⟨#[]⟩, .int .i64 0, .slice none 0 0]
      exact bodyPost_ret (results_cell rfl stStep rfl hs.1 rfl) rfl ⟨_, zeroVl, rfl, StepOf.other (tooLarge_step wz ⟨#[118, 97, 108, 117, 101, 32, 105, 115, 32, 116, 111, 111, 32, 108, 97, 114, 103, 101]⟩ 42) h3 noU_zero hs.2.1, hs.2.2 _ _ (by omega) (ext_trans hbo hbz)⟩
    · have hc1 : ¬ (cmpZ n 10000 > 0) := by unfold cmpZ; split <;> (try split) <;> omega
      have hc2 : ¬ (cmpZ n (-10000) < 0) := by unfold cmpZ; rw [if_neg (by omega)]; split <;> omega
      refine wp_region_noPanic ?_
      refine wp_region_L (S := fun _ W => Bxs [(w.heap.size, (.cells #[.bool b1, .slice a1 l1 c1, .slice p1 q1 r1] 43)), (w.heap.size + 1, (.cells #[.bool b2, .slice a2 l2 c2] 41)), (w.heap.size + 1 + 1, (.cells #[.int .i64 0, .int .i64 0, .bool false, .slice none 0 0, .bool false, .slice none 0 0, .string ⟨#[]⟩, .int .i64 0, .int .i64 0, .string ⟨#[]⟩, .int .i64 0, .bool false, .slice none 0 0, .bool false, .slice none 0 0, .string ⟨#[]⟩, .int .i64 0, .slice none 0 0] 33))] w W) (by kernel_rfl) ?_
      refine wpAnyL_take (T := fun W => Bxs [(w.heap.size, (.cells #[.bool b1, .slice a1 l1 c1, .slice p1 q1 r1] 43)), (w.heap.size + 1, (.cells #[.bool b2, .slice a2 l2 c2] 41)), (w.heap.size + 1 + 1, (.cells #[.int .i64 0, .int .i64 0, .bool false, .slice none 0 0, .bool false, .slice none 0 0, .string ⟨#[]⟩, .int .i64 0, .int .i64 0, .string ⟨#[]⟩, .int .i64 0, .bool false, .slice none 0 0, .bool false, .slice none 0 0, .string ⟨#[]⟩, .int .i64 0, .slice none 0 0] 33))] w W) (i := 0) (v := ?vvbp0) rfl (by kernel_rfl) (by kernel_rfl) (by kernel_rfl) (fun _ _ _ h => h) (fun _ _ => Iff.rfl) (fun _ _ _ _ h => h) (Closed.of_B (by kernel_rfl)) (Or.inl ⟨by kernel_rfl, ?hybp0⟩) hBd ?restbp0
      case hybp0 =>
        intro W hW
        have hx1 := hW.2 ((w.heap.size + 1, (.cells #[.bool b2, .slice a2 l2 c2] 41)) : Nat × Obj) (by simp)
        have dx1x0 := box_cell hx1 0
        have dx1x1 := box_cell hx1 1
        simp only [List.getElem?_toArray, List.getElem?_cons_zero, List.getElem?_cons_succ] at dx1x0 dx1x1
        clear hW
        go_simp; with_reducible rfl
      go_simp
      refine wpAnyL_ready (rs := [1]) (by kernel_rfl) (by simp) ?_
      refine AllL.cons rfl (by kernel_rfl) (fun K hK => ?_) AllL.nil
      go_simp
      refine (Number_any 10000 _ (by omega) (by omega)).mono ?_
      rintro e WAbp ⟨vn, rfl, hv, hb⟩
      have hAbp := hBd.below hb
      refine hK _ _ ⟨hAbp, ?_⟩
      clear hK K
      have HO := Lib.hid (IntOrder_any _ vn n 10000 WAbp (HY.out WAbp hAbp.1) hv)
      clear hv hb
      refine wpAnyL_ready (rs := [2]) (by kernel_rfl) (by simp) ?_
      refine AllL.cons rfl (by kernel_rfl) (fun K hK => ?_) AllL.nil
      go_simp
      refine (HO.out).mono ?_
      rintro e WBbp ⟨rfl, hb⟩
      have hBbp := hAbp.below hb
      refine hK _ _ ⟨hBbp, ?_⟩
      clear hK K
      clear hb HO
      generalize cmpZ n 10000 = cA at *
      refine wpAnyL_take (T := fun _ => True) (i := 3) (v := ?vvbp3) rfl (by kernel_rfl) (by kernel_rfl) (by kernel_rfl) (fun _ _ _ h => h) (fun _ _ => Iff.rfl) (fun _ _ _ _ _ => trivial) (Closed.of_B (by kernel_rfl)) (Or.inl ⟨by kernel_rfl, ?hybp3⟩) hBbp ?restbp3
      case hybp3 => (intro w _; go_simp; with_reducible rfl)
      go_simp
      refine wpAnyL_take (T := fun _ => True) (i := 4) (v := ?vvbp4) rfl (by kernel_rfl) (by kernel_rfl) (by kernel_rfl) (fun _ _ _ h => h) (fun _ _ => Iff.rfl) (fun _ _ _ _ _ => trivial) (Closed.of_B (by kernel_rfl)) (Or.inl ⟨by kernel_rfl, ?hybp4⟩) hBbp ?restbp4
      case hybp4 => (intro w _; go_simp; with_reducible rfl)
      go_simp
      refine wpAnyL_take (T := fun W => Bxs [(w.heap.size, (.cells #[.bool b1, .slice a1 l1 c1, .slice p1 q1 r1] 43)), (w.heap.size + 1, (.cells #[.bool b2, .slice a2 l2 c2] 41)), (w.heap.size + 1 + 1, (.cells #[.int .i64 0, .int .i64 0, .bool false, .slice none 0 0, .bool false, .slice none 0 0, .string ⟨#[]⟩, .int .i64 0, .int .i64 0, .string ⟨#[]⟩, .int .i64 0, .bool false, .slice none 0 0, .bool false, .slice none 0 0, .string ⟨#[]⟩, .int .i64 0, .slice none 0 0] 33))] w W) (i := 5) (v := ?vvbp5) rfl (by kernel_rfl) (by kernel_rfl) (by kernel_rfl) (fun _ _ _ h => h) (fun _ _ => Iff.rfl) (fun _ _ _ _ h => h) (Closed.of_B (by kernel_rfl)) (Or.inl ⟨by kernel_rfl, ?hybp5⟩) hBbp ?restbp5
      case hybp5 =>
        intro W hW
        have hx1 := hW.2 ((w.heap.size + 1, (.cells #[.bool b2, .slice a2 l2 c2] 41)) : Nat × Obj) (by simp)
        have dx1x0 := box_cell hx1 0
        have dx1x1 := box_cell hx1 1
        simp only [List.getElem?_toArray, List.getElem?_cons_zero, List.getElem?_cons_succ] at dx1x0 dx1x1
        clear hW
        go_simp; with_reducible rfl
      go_simp
      refine wpAnyL_ready (rs := [6]) (by kernel_rfl) (by simp) ?_
      refine AllL.cons rfl (by kernel_rfl) (fun K hK => ?_) AllL.nil
      go_simp
      refine (Number_any (-10000) _ (by omega) (by omega)).mono ?_
      rintro e WCbp ⟨vn, rfl, hv, hb⟩
      have hCbp := hBbp.below hb
      refine hK _ _ ⟨hCbp, ?_⟩
      clear hK K
      have HO := Lib.hid (IntOrder_any _ vn n (-10000) WCbp (HY.out WCbp hCbp.1) hv)
      clear hv hb
      refine wpAnyL_ready (rs := [7]) (by kernel_rfl) (by simp) ?_
      refine AllL.cons rfl (by kernel_rfl) (fun K hK => ?_) AllL.nil
      go_simp
      refine (HO.out).mono ?_
      rintro e WDbp ⟨rfl, hb⟩
      have hDbp := hCbp.below hb
      refine hK _ _ ⟨hDbp, ?_⟩
      clear hK K
      clear hb HO
      generalize cmpZ n (-10000) = cB at *
      refine wpAnyL_take (T := fun _ => True) (i := 8) (v := ?vvbp8) rfl (by kernel_rfl) (by kernel_rfl) (by kernel_rfl) (fun _ _ _ h => h) (fun _ _ => Iff.rfl) (fun _ _ _ _ _ => trivial) (Closed.of_B (by kernel_rfl)) (Or.inl ⟨by kernel_rfl, ?hybp8⟩) hDbp ?restbp8
      case hybp8 => (intro w _; go_simp; with_reducible rfl)
      go_simp
      refine wpAnyL_take (T := fun _ => True) (i := 9) (v := ?vvbp9) rfl (by kernel_rfl) (by kernel_rfl) (by kernel_rfl) (fun _ _ _ h => h) (fun _ _ => Iff.rfl) (fun _ _ _ _ _ => trivial) (Closed.of_B (by kernel_rfl)) (Or.inl ⟨by kernel_rfl, ?hybp9⟩) hDbp ?restbp9
      case hybp9 => (intro w _; go_simp; with_reducible rfl)
      go_simp
      refine wpAnyL_done (by kernel_rfl) ?_ _
      refine NoPanic.normal ?_
      have hBo := hDbp
      clear hAbp hBbp hCbp hDbp hBd
      have hck : clampZ n (-10000) 10000 = ((n.toNat : Nat) : Int) ∧ n.toNat ≤ 10000 := by unfold clampZ; split <;> (try split) <;> omega
      have h1 := hBo.2 (w.heap.size, (.cells #[.bool b1, .slice a1 l1 c1, .slice p1 q1 r1] 43)) (by simp)
      have h2 := hBo.2 (w.heap.size + 1, (.cells #[.bool b2, .slice a2 l2 c2] 41)) (by simp)
      have h3 := hBo.2 (w.heap.size + 1 + 1, (.cells #[.int .i64 0, .int .i64 0, .bool false, .slice none 0 0, .bool false, .slice none 0 0, .string ⟨#[]⟩, .int .i64 0, .int .i64 0, .string ⟨#[]⟩, .int .i64 0, .bool false, .slice none 0 0, .bool false, .slice none 0 0, .string ⟨#[]⟩, .int .i64 0, .slice none 0 0] 33)) (by simp)
      have hbo := hBo.1
      generalize WDbp = wo at *
      clear hBo hc1 hc2
      clear hbig
      have HC := Lib.hid (Clamp_any _ n (-10000) 10000 wo (HY.out wo hbo) (by omega) (by omega) (by omega))
      rw [hck.1] at HC
      have d0 := box_cell h2 0
      have d1 := box_cell h2 1
      simp only [List.getElem?_toArray, List.getElem?_cons_zero, List.getElem?_cons_succ] at d0 d1
      go_upto_region 5 with fail
      go_wp2_with fail
      refine HC.out.mono ?_
      rintro e w4 ⟨rfl, hb4⟩
      replace h1 := (hb4.block _ (box_lt h1)).trans h1
      replace h3 := (hb4.block _ (box_lt h3)).trans h3
      have hbo4 := ext_trans hbo hb4
      clear d0 d1 h2 HC hb4 HY
      obtain ⟨kn, hkn⟩ : ∃ kn, kn = n.toNat := ⟨_, rfl⟩
      rw [← hkn] at hck
      rw [← hkn]
      have hk1 := hck.2
      have hkp : ¬ ((kn : Int) < 0) := by omega
      clear hck hkn
      have RI := Lib.hid (intAt_of_rat (HX.out w4 hbo4))
      have RD := Lib.hid (natAt_of_rat (HX.out w4 hbo4))
      have nz5 := NZ.out
      have nd5 := ND.out
      have HA1 := Lib.hid (fun W (h : Below w4.heap.size w4 W) => IntRaised_some _ z kn W (RI.out.below h) nz5 (by omega))
      have HA2 := Lib.hid (fun W (h : Below w4.heap.size w4 W) => IntRaised_some _ (d : Int) kn W (natAt_int (RD.out.below h)) (by rw [dig_natCast]; exact nd5) (by omega))
      have hlt3 := box_lt h3
      have d0 := box_cell h1 0
      have d1 := box_cell h1 1
      simp only [List.getElem?_toArray, List.getElem?_cons_zero, List.getElem?_cons_succ] at d0 d1
      clear nz5 nd5 RI RD
      go_upto_region 8 with fail
      go_wp2_with fail
      refine (HA1.out w4 (Below.refl _ _)).mono ?_
      rintro e w6 ⟨v6, z6, rfl, hI6, hl6, -, hb6⟩
      obtain ⟨b6, nv6, k6, rfl, hk6, hz6⟩ := hI6
      have HI6 := Lib.hid (show IntAt w6 (.agg #[.bool b6, nv6]) z6 from ⟨b6, nv6, k6, rfl, hk6, hz6⟩)
      obtain ⟨a6, c6, rfl⟩ := hk6.slice
      generalize hg6 : (dig k6).length = m6 at *
      have HL6 := Lib.hid hl6
      clear hk6 hz6 hg6 hl6 d0 d1
      replace h1 := (hb6.block _ (box_lt h1)).trans h1
      replace h3 := (hb6.block _ (box_lt h3)).trans h3
      have hlt3' := box_lt h3
      have h6 := heap_new w6 (.cells #[.bool b6, .slice a6 m6 c6] 41 (0, 0))
      have hb7' := ext_alloc w6 (.cells #[.bool b6, .slice a6 m6 c6] 41 (0, 0))
      replace h1 := box_alloc h1 (.cells #[.bool b6, .slice a6 m6 c6] 41 (0, 0))
      replace h3 := box_alloc h3 (.cells #[.bool b6, .slice a6 m6 c6] 41 (0, 0))
      have HI7 := Lib.hid (HI6.out.below hb7')
      have hb67 := ext_trans hb6 hb7'
      have d2 := box_cell h1 2
      simp only [List.getElem?_toArray, List.getElem?_cons_zero, List.getElem?_cons_succ] at d2
      generalize hP6 : powFits z kn = P6 at *
      clear hP6 HI6
      go_upto_region 9 with fail
      generalize hm6' : w6.heap.size = M6 at *
      clear hm6'
      generalize w6.alloc (.cells #[.bool b6, .slice a6 m6 c6] 41 (0, 0)) = w7 at *
      go_wp2_with fail
      refine (HA2.out w7 hb67).mono ?_
      rintro e w8 ⟨v8, z8, rfl, hI8, hl8, -, hb8⟩
      obtain ⟨b8, nv8, k8, rfl, hk8, hz8⟩ := hI8
      have HI8 := Lib.hid (show IntAt w8 (.agg #[.bool b8, nv8]) z8 from ⟨b8, nv8, k8, rfl, hk8, hz8⟩)
      obtain ⟨a8, c8, rfl⟩ := hk8.slice
      generalize hg8 : (dig k8).length = m8 at *
      have HL8 := Lib.hid hl8
      clear hk8 hz8 hg8 hl8 d2 h1
      replace h3 := (hb8.block _ (box_lt h3)).trans h3
      replace h6 := (hb8.block _ (box_lt h6)).trans h6
      have hb9 := ext_alloc w8 (.cells #[.bool b8, .slice a8 m8 c8] 41 (0, 0))
      have h8 := heap_new w8 (.cells #[.bool b8, .slice a8 m8 c8] 41 (0, 0))
      replace h3 := box_alloc h3 (.cells #[.bool b8, .slice a8 m8 c8] 41 (0, 0))
      replace h6 := box_alloc h6 (.cells #[.bool b8, .slice a8 m8 c8] 41 (0, 0))
      have HI9 := Lib.hid (HI7.out.below (ext_trans hb8 hb9))
      have HI10 := Lib.hid (HI8.out.below hb9)
      clear HI7 HI8
      have hbw9 := ext_trans hbo4 (ext_trans hb67 (ext_trans hb8 hb9))
      generalize hP8 : powFits (d : Int) kn = P8 at *
      clear hP8 HA1 HA2 hb6 hb8
      go_upto_region 10 with fail
      generalize hm8' : w8.heap.size = M8 at *
      clear hm8'
      generalize w8.alloc (.cells #[.bool b8, .slice a8 m8 c8] 41 (0, 0)) = w9 at *
      cases P6
      · go_wp2_with fail
        refine (TooLarge_any w9).mono ?_
        rintro e wz ⟨rfl, hbz⟩
        replace h3 := (hbz.block _ (box_lt h3)).trans h3
        go_wp2_with (refine wpL_store (cells := #[.int .i64 1, .int .i64 0, .bool false, .slice none 0 0, .bool false, .slice none 0 0, .string ⟨#[]⟩, .int .i64 0, .int .i64 42, .string ⟨#[118, 97, 108, 117, 101, 32, 105, 115, 32, 116, 111, 111, 32, 108, 97, 114, 103, 101]⟩, .int .i64 0, .bool false, .slice none 0 0, .bool false, .slice none 0 0, .string ⟨#[]⟩, .int .i64 0, .slice none 0 0]) stStep h3 (by rfl) (by rfl) (by rfl) (by rfl) (by rfl) ?_)
        have hs := setRow_facts h3 #[.int .i64 1, .int .i64 0, .bool false, .slice none 0 0, .bool false, .slice none 0 0, .string ⟨#[]⟩, .int .i64 0, .int .i64 42, .string ⟨#[118, 97, 108, 117, 101, 32, 105, 115, 32, 116, 111, 111, 32, 108, 97, 114, 103, 101]⟩, .int .i64 0, .bool false, .slice none 0 0, .bool false, .slice none 0 0, .string ⟨#[]⟩, .int .i64 0, .slice none 0 0]
        exact bodyPost_ret (results_cell rfl stStep rfl hs.1 rfl) rfl ⟨_, zeroVl, rfl, StepOf.other (tooLarge_step wz ⟨#[118, 97, 108, 117, 101, 32, 105, 115, 32, 116, 111, 111, 32, 108, 97, 114, 103, 101]⟩ 42) h3 noU_zero hs.2.1, hs.2.2 _ _ (by omega) (ext_trans hbw9 hbz)⟩
      cases P8
      · go_wp2_with fail
        refine (TooLarge_any w9).mono ?_
        rintro e wz ⟨rfl, hbz⟩
        replace h3 := (hbz.block _ (box_lt h3)).trans h3
        go_wp2_with (refine wpL_store (cells := #[.int .i64 1, .int .i64 0, .bool false, .slice none 0 0, .bool false, .slice none 0 0, .string ⟨#[]⟩, .int .i64 0, .int .i64 42, .string ⟨#[118, 97, 108, 117, 101, 32, 105, 115, 32, 116, 111, 111, 32, 108, 97, 114, 103, 101]⟩, .int .i64 0, .bool false, .slice none 0 0, .bool false, .slice none 0 0, .string ⟨#[]⟩, .int .i64 0, .slice none 0 0]) stStep h3 (by rfl) (by rfl) (by rfl) (by rfl) (by rfl) ?_)
        have hs := setRow_facts h3 #[.int .i64 1, .int .i64 0, .bool false, .slice none 0 0, .bool false, .slice none 0 0, .string ⟨#[]⟩, .int .i64 0, .int .i64 42, .string ⟨#[118, 97, 108, 117, 101, 32, 105, 115, 32, 116, 111, 111, 32, 108, 97, 114, 103, 101]⟩, .int .i64 0, .bool false, .slice none 0 0, .bool false, .slice none 0 0, .string ⟨#[]⟩, .int .i64 0, .slice none 0 0]
        exact bodyPost_ret (results_cell rfl stStep rfl hs.1 rfl) rfl ⟨_, zeroVl, rfl, StepOf.other (tooLarge_step wz ⟨#[118, 97, 108, 117, 101, 32, 105, 115, 32, 116, 111, 111, 32, 108, 97, 114, 103, 101]⟩ 42) h3 noU_zero hs.2.1, hs.2.2 _ _ (by omega) (ext_trans hbw9 hbz)⟩
      have g6 := box_cell h6 0
      have g6' := box_cell h6 1
      have g8 := box_cell h8 1
      simp only [List.getElem?_toArray, List.getElem?_cons_zero, List.getElem?_cons_succ] at g6 g6' g8
      have HN := Lib.hid (number_any (.agg #[.bool b6, .slice a6 m6 c6, .slice a8 m8 c8]) z6 z8.natAbs w9 (rat_of_ints HI9.out HI10.out) (Nat.le_trans HL6.out (by omega)) (Nat.le_trans HL8.out (by omega)))
      clear HI9 HI10 HL6 HL8
      go_wp2_with fail
      refine HN.out.mono ?_
      rintro e wn ⟨vn, rfl, hS, hbn⟩
      replace h3 := (hbn.block _ (box_lt h3)).trans h3
      have HSV := Lib.hid hS
      obtain ⟨cs, rfl, hlen, hone⟩ := stepOf_cells hS
      clear hS
      go_wp2_with (refine wpL_store (cells := cs.toArray) stStep h3 (by rfl) (by simpa using hlen) (by simpa using hone) (by rfl) (by rfl) ?_)
      have hs := setRow_facts h3 cs.toArray
      exact bodyPost_ret (results_cell rfl stStep rfl hs.1 (by simpa using hlen)) rfl ⟨_, _, rfl, StepOf.other HSV.out h3 noU_zero hs.2.1, hs.2.2 _ _ (by omega) (ext_trans hbw9 hbn)⟩

end Go.Proofs.YtpmadgmjkljbgaaDoor
