/- Part 19 of the proof. -/
import Derived.Test.YtngidfegeapkbaaGreatDoorM18


/- Walks by the evaluator: merging; the order of a class. -/
namespace Go.Proofs.YtngidfegeapkbaaGreatDoor
open Go.RowKit
variable {md me : Bool}
theorem lft_pos {B : List (List Int)} (h : (0 : Int) < (B.map hdI).length) : (lft0 B).map lD = B.map lD ++ [[isD (B.map hdI)]] := by
  rw [lft0, if_pos h, List.map_append]; rfl
theorem lft_neg {B : List (List Int)} (h : ¬ (0 : Int) < (B.map hdI).length) : (lft0 B).map lD = B.map lD := by
  rw [lft0, if_neg h]
theorem rs_all {n : Int} {left : List (List Int)} {k : Nat} (h : ¬ k < left.length) : rsS n (left.take k) = rsS n left := by rw [List.take_of_length_le (by omega)]
theorem rs_len (n : Int) (left : List (List Int)) : (rsS n left).length ≤ left.length := by unfold rsS; exact Nat.le_trans (List.length_filter_le _ _) (by simp)
theorem Merged_ok (B : List (List Int)) (hB : goodB B) : Fn Tryz.prog 99 [.sl false 1 B lD []] (.tup [isD (mgS B).1, .sl false 1 (mgS B).2 lD []]) := by
  have hb8 := hB.1
  have hb := hB.2
  refine fn_ev tabT Tryz.func99 rfl rfl rfl rfl rfl rfl ?_
  intro w0 s0 mx
  refine ev_R tabT [] 100 ?_
  refine ev_nilRow 2 3 1 rfl ?_
  refine ev_nilRow 3 31 1 rfl ?_
  refine ev_R tabT [] 200 ?_
  refine ev_nilRow 4 3 1 rfl ?_
  refine ev_seq ?_
  refine ev_R tabT [] 300 ?_
  refine ev_block ?_
  refine ev_loopK (ι := Up B.length (fun _ => true)) [2, 14, 15] [100] 350 (fun x => [(16, .v (.int .i64 x.k)), (3, .own 101 1 ((B.take x.k).map lD)), (4, .own 200 1 (((B.take x.k).map hdI).map iD))]) (fun x => [(101, .row 31 1 ((B.take x.k).map lD).length), (200, .row 3 1 (((B.take x.k).map hdI).map iD).length)]) (fun x => B.length - x.k) ⟨0, Nat.zero_le _, fun j hj => by omega⟩ ?_
  refine ⟨⟨(by first | exact trivial | (repeat (first | exact trivial | exact Sub.refl _ | refine ⟨?_, ?_⟩ | exact Sub.int (by first | rfl | omega | (push_cast; omega)) | exact Sub.nilSl | exact Sub.own rfl | exact Sub.slrSl rfl | exact Sub.ownSl (List.map_append).symm | exact Sub.ownSl rfl | exact Sub.own (by simp [-List.getD_eq_getElem?_getD, iD]) | exact Sub.ownSl (by simp [-List.getD_eq_getElem?_getD, iD]) | exact Sub.int (by simp [-List.getD_eq_getElem?_getD, iD])))), (by repeat (first | exact trivial | exact SubO.same rfl | exact ⟨rfl, rfl, by simp [-List.getD_eq_getElem?_getD, iD]⟩ | refine ⟨?_, ?_⟩)), rfl, rfl⟩, fun x => ?_⟩
  have hk := x.le
  refine ev_R tabT [] 400 ?_
  refine ev_seq ?_
  refine ev_if (fun c3 => ?_) (fun c3 => ?_)
  ·
    refine ev_skip (exS_normal ?_)
    refine ev_seq ?_
    refine ev_block ?_
    refine ev_R tabT [] 500 ?_
    refine ev_drawn tabT [] [[], [], [1], [0, 1, 2], [], [], [5], [5, 6], [5, 6, 7], [0, 1, 2, 3, 4, 5, 6, 7, 8], [0, 1, 2, 3, 4, 5, 6, 7, 8, 9], [0, 1, 2, 3, 4, 5, 6, 7, 8, 9, 10]] 600 mixT (by kernel_rfl) rfl ?_
    repeat (first | refine sat_same ?_ | refine sat_impA ?_ | refine sat_need (by first | rfl | (have h1 := hb _ (mem_getD c3 []); refine ⟨by decide, ?_⟩; omega) | (simp only [List.length_map, List.length_take, List.length_cons, List.length_nil]; omega)) ?_)
    refine sat_done (exBl_normal (exS_normal ?_))
    refine ev_Q tabT [] 700 ?_
    exact exL_normal (x.next c3 rfl) ⟨⟨Sub.refl _, Sub.own (by show _ = (B.take (x.k + 1)).map lD; rw [take_at c3 [], List.map_append]; rfl), Sub.own (by show _ = (((B.take (x.k + 1)).map hdI).map iD); rw [take_at c3 [], List.map_append, List.map_append]; rfl), by repeat (first | exact trivial | exact Sub.refl _ | refine ⟨?_, ?_⟩)⟩, ⟨⟨rfl, rfl, by show _ = ((B.take (x.k + 1)).map lD).length; rw [take_at c3 [], List.map_append]; rfl⟩, ⟨rfl, rfl, by show _ = (((B.take (x.k + 1)).map hdI).map iD).length; rw [take_at c3 [], List.map_append, List.map_append]; rfl⟩, by repeat (first | exact trivial | exact SubO.same rfl | refine ⟨?_, ?_⟩)⟩, rfl, rfl⟩ (by show B.length - (x.k + 1) < B.length - x.k; omega)
  ·
    refine ev_exit (exS_exit (exL_exit (exBl_same (exS_normal ?_))))
    refine ev_seq ?_
    refine ev_R tabT [] 800 ?_
    refine ev_tell [2] [100] 810 [(3, .own 101 1 (B.map lD)), (4, isD (B.map hdI)), (33, .v (.bool (decide ((0 : Int) < (B.map hdI).length))))] [(101, .row 31 1 (B.map lD).length)] ?_
    refine ⟨⟨⟨Sub.own (by rw [List.take_of_length_le (by omega)]), Sub.ownSl (by rw [List.take_of_length_le (by omega)]), Sub.bool (by rw [List.take_of_length_le (by omega)]; simp only [List.length_map]), by repeat (first | exact trivial | exact Sub.refl _ | refine ⟨?_, ?_⟩)⟩, ⟨⟨rfl, rfl, by rw [List.take_of_length_le (by omega)]⟩, by repeat (first | exact trivial | exact SubO.same rfl | refine ⟨?_, ?_⟩)⟩, rfl, rfl⟩, ?_⟩
    refine ev_cond rfl (fun c7 => ?_) (fun c7 => ?_)
    · replace c7 := of_decide_eq_true c7
      refine ev_region tabT [] 900 rfl ?_
      repeat (first | refine sat_same ?_ | refine sat_impA ?_ | refine sat_need (by first | rfl | (simp only [List.length_map, List.length_cons, List.length_nil]; omega)) ?_)
      refine sat_done (exS_normal ?_)
      refine ev_seq ?_
      refine ev_block ?_
      refine ev_loopK (ι := Mg B) [] [] 950 (fun x => [(3, .sl false 1 x.left lD []), (2, .own 100 1 (x.taken.map iD))]) (fun x => [(100, .row 3 1 (x.taken.map iD).length)]) (fun x => x.f) (Mg.start hB) ?_
      refine ⟨⟨⟨Sub.ownSl (by show _ = (lft0 B).map lD; rw [lft_pos c7]), Sub.refl _, by repeat (first | exact trivial | exact Sub.refl _ | refine ⟨?_, ?_⟩)⟩, le_o, rfl, rfl⟩, fun x => ?_⟩
      have hll := x.ll
      have htk := x.tk
      refine ev_seq ?_
      refine ev_R tabT [] 1000 ?_
      refine ev_cond rfl (fun c9 => ?_) (fun c9 => ?_)
      · have h9 : 0 < x.left.length := by have := of_decide_eq_true c9; omega
        refine ev_skip (exS_normal (ev_block ?_))
        refine ev_R tabT [] 1100 ?_
        refine ev_seq ?_
        refine ev_R tabT [] 1200 ?_
        refine ev_block ?_
        refine ev_loopK (ι := Up x.left.length (fun _ => true)) [2, 3, 41, 42] [100] 1250 (fun y => [(43, .v (.int .i64 y.k)), (7, .v (.int .i64 (fdS x.left y.k).1)), (8, .v (.bool (fdS x.left y.k).2))]) (fun _ => []) (fun y => x.left.length - y.k) ⟨0, Nat.zero_le _, fun j hj => by omega⟩ ?_
        refine ⟨⟨le_t, le_o, rfl, rfl⟩, fun y => ?_⟩
        have hky := y.le
        refine ev_R tabT [] 1300 ?_
        refine ev_seq ?_
        refine ev_if (fun c12 => ?_) (fun c12 => ?_)
        ·
          refine ev_skip (exS_normal ?_)
          refine ev_seq ?_
          refine ev_block ?_
          refine ev_R tabT [] 1400 ?_
          refine ev_seq (ev_region tabT [] 1500 rfl ?_)
          repeat (first | refine sat_same ?_ | refine sat_impA ?_ | refine sat_need (by first | (intro hh; have h1 := x.ne _ (mem_getD c12 []); exact ⟨by decide, by omega⟩) | (have h1 := x.ne _ (mem_getD c12 []); refine ⟨by decide, ?_⟩; omega)) ?_)
          refine sat_fnG _ (fun hg7 => inTail_ok x.left _ x.ne) rfl ?_
          repeat (first | refine sat_same ?_ | refine sat_impA ?_ | refine sat_need (by first | (intro hh; have h1 := x.ne _ (mem_getD c12 []); exact ⟨by decide, by omega⟩) | (have h1 := x.ne _ (mem_getD c12 []); refine ⟨by decide, ?_⟩; omega)) ?_)
          refine sat_done (exS_normal ?_)
          refine ev_cond rfl (fun c14 => ?_) (fun c14 => ?_)
          · replace c14 : (!(fdS x.left y.k).2 && !inT x.left (hdI (x.left.getD (y.k : Int).toNat []))) = true := c14
            refine ev_region tabT [] 1600 rfl ?_
            repeat (first | refine sat_same ?_ | refine sat_impA ?_ | refine sat_need (by (have h1 := x.ne _ (mem_getD c12 []); refine ⟨by decide, ?_⟩; omega)) ?_)
            refine sat_done (exBl_normal (exS_normal ?_))
            refine ev_Q tabT [] 1700 ?_
            exact exL_normal (y.next c12 rfl) ⟨⟨Sub.refl _, Sub.int (by show _ = (fdS x.left (y.k + 1)).1; rw [fdS_succ c12, fdF, if_pos c14]; rfl), Sub.bool (by show _ = (fdS x.left (y.k + 1)).2; rw [fdS_succ c12, fdF, if_pos c14]), by repeat (first | exact trivial | exact Sub.refl _ | refine ⟨?_, ?_⟩)⟩, le_o, rfl, rfl⟩ (by show x.left.length - (y.k + 1) < x.left.length - y.k; omega)
          · replace c14 : (!(fdS x.left y.k).2 && !inT x.left (hdI (x.left.getD (y.k : Int).toNat []))) = false := c14
            refine ev_skip (exBl_normal (exS_normal ?_))
            refine ev_Q tabT [] 1700 ?_
            exact exL_normal (y.next c12 rfl) ⟨⟨Sub.refl _, Sub.int (by show _ = (fdS x.left (y.k + 1)).1; rw [fdS_succ c12, fdF, if_neg (by rw [c14]; decide)]), Sub.bool (by show _ = (fdS x.left (y.k + 1)).2; rw [fdS_succ c12, fdF, if_neg (by rw [c14]; decide)]), by repeat (first | exact trivial | exact Sub.refl _ | refine ⟨?_, ?_⟩)⟩, le_o, rfl, rfl⟩ (by show x.left.length - (y.k + 1) < x.left.length - y.k; omega)
        ·
          refine ev_exit (exS_exit (exL_exit (exBl_same (exS_normal ?_))))
          refine ev_seq ?_
          refine ev_R tabT [] 1800 ?_
          refine ev_cond rfl (fun c17 => ?_) (fun c17 => ?_)
          · have hyk : y.k = x.left.length := by omega
            have h17 : (fdS x.left x.left.length).2 = false := by rw [← hyk]; simpa using c17
            refine ev_R tabT [] 1900 ?_
            refine ev_ret (exS_ret (exBl_ret (exL_ret (exBl_ret (exS_ret ?_)))))
            exact FinV.ret rfl (SubP.tup ⟨SubP.ownSl (by rw [x.none h9 h17]), SubP.of_eq (by rw [x.none h9 h17]), trivial⟩)
          · have hyk : y.k = x.left.length := by omega
            have h17 : (fdS x.left x.left.length).2 = true := by rw [← hyk]; simpa using c17
            rw [hyk]
            refine ev_skip (exS_normal ?_)
            refine ev_seq (ev_region tabT [] 2000 rfl ?_)
            repeat (first | refine sat_same ?_ | refine sat_impA ?_ | refine sat_need (by first | rfl | (simp only [List.length_map, List.length_cons, List.length_nil]; have := x.tf; omega)) ?_)
            refine sat_done (exS_normal ?_)
            refine ev_R tabT [] 2100 ?_
            refine ev_nilRow 11 31 1 rfl ?_
            refine ev_seq ?_
            refine ev_R tabT [] 2200 ?_
            refine ev_block ?_
            refine ev_loopK (ι := Up x.left.length (fun _ => true)) [2, 7, 69, 70] [100] 2250 (fun z => [(71, .v (.int .i64 z.k)), (11, .own 2100 1 ((rsS (fdS x.left x.left.length).1 (x.left.take z.k)).map lD))]) (fun z => [(2100, .row 31 1 ((rsS (fdS x.left x.left.length).1 (x.left.take z.k)).map lD).length)]) (fun z => x.left.length - z.k) ⟨0, Nat.zero_le _, fun j hj => by omega⟩ ?_
            refine ⟨⟨le_t, le_o, rfl, rfl⟩, fun z => ?_⟩
            have hkz := z.le
            refine ev_R tabT [] 2300 ?_
            refine ev_seq ?_
            refine ev_if (fun c22 => ?_) (fun c22 => ?_)
            ·
              refine ev_skip (exS_normal ?_)
              refine ev_seq ?_
              refine ev_block ?_
              refine ev_R tabT [] 2400 ?_
              refine ev_seq ?_
              refine ev_seq (ev_region tabT [] 2500 rfl ?_)
              repeat (first | refine sat_same ?_ | refine sat_impA ?_ | refine sat_need (by (have h1 := x.ne _ (mem_getD c22 []); refine ⟨by decide, ?_⟩; omega)) ?_)
              refine sat_done (exS_normal ?_)
              refine ev_cond rfl (fun c24 => ?_) (fun c24 => ?_)
              · replace c24 := of_decide_eq_true c24
                refine ev_region tabT [] 2600 rfl ?_
                repeat (first | refine sat_same ?_ | refine sat_impA ?_ | refine sat_need (by (have h1 := x.ne _ (mem_getD c22 []); refine ⟨by decide, ?_, ?_⟩ <;> omega)) ?_)
                refine sat_done (exS_normal ?_)
                refine ev_R tabT [] 2700 ?_
                refine ev_cond rfl (fun c26 => ?_) (fun c26 => ?_)
                · replace c26 := of_decide_eq_true c26
                  try rw [cut1] at c26
                  refine ev_region tabT [] 2800 rfl ?_
                  repeat (first | refine sat_same ?_ | refine sat_impA ?_ | refine sat_need (by first | rfl | (have h1 := rs_len (fdS x.left x.left.length).1 (x.left.take z.k); simp only [List.length_map, List.length_take, List.length_cons, List.length_nil] at h1 ⊢; omega)) ?_)
                  refine sat_done (exBl_normal (exS_normal ?_))
                  refine ev_Q tabT [] 2900 ?_
                  exact exL_normal (z.next c22 rfl) ⟨⟨Sub.refl _, Sub.own (by show _ = ((rsS (fdS x.left x.left.length).1 (x.left.take (z.k + 1))).map lD); rw [rsS_succ c22, (show shI (fdS x.left x.left.length).1 (x.left.getD (z.k : Int).toNat []) = (x.left.getD (z.k : Int).toNat []).drop 1 from if_pos c24), if_pos c26, List.map_append]; rw [← cut1]; rfl), by repeat (first | exact trivial | exact Sub.refl _ | refine ⟨?_, ?_⟩)⟩, ⟨⟨rfl, rfl, by show _ = ((rsS (fdS x.left x.left.length).1 (x.left.take (z.k + 1))).map lD).length; rw [rsS_succ c22, (show shI (fdS x.left x.left.length).1 (x.left.getD (z.k : Int).toNat []) = (x.left.getD (z.k : Int).toNat []).drop 1 from if_pos c24), if_pos c26, List.map_append]; rw [← cut1]; rfl⟩, by repeat (first | exact trivial | exact SubO.same rfl | refine ⟨?_, ?_⟩)⟩, rfl, rfl⟩ (by show x.left.length - (z.k + 1) < x.left.length - z.k; omega)
                · replace c26 := of_decide_eq_false c26
                  try rw [cut1] at c26
                  refine ev_skip (exBl_normal (exS_normal ?_))
                  refine ev_Q tabT [] 2900 ?_
                  exact exL_normal (z.next c22 rfl) ⟨⟨Sub.refl _, Sub.own (by show _ = ((rsS (fdS x.left x.left.length).1 (x.left.take (z.k + 1))).map lD); rw [rsS_succ c22, (show shI (fdS x.left x.left.length).1 (x.left.getD (z.k : Int).toNat []) = (x.left.getD (z.k : Int).toNat []).drop 1 from if_pos c24), if_neg c26, List.append_nil]), by repeat (first | exact trivial | exact Sub.refl _ | refine ⟨?_, ?_⟩)⟩, ⟨⟨rfl, rfl, by show _ = ((rsS (fdS x.left x.left.length).1 (x.left.take (z.k + 1))).map lD).length; rw [rsS_succ c22, (show shI (fdS x.left x.left.length).1 (x.left.getD (z.k : Int).toNat []) = (x.left.getD (z.k : Int).toNat []).drop 1 from if_pos c24), if_neg c26, List.append_nil]⟩, by repeat (first | exact trivial | exact SubO.same rfl | refine ⟨?_, ?_⟩)⟩, rfl, rfl⟩ (by show x.left.length - (z.k + 1) < x.left.length - z.k; omega)
              · replace c24 := of_decide_eq_false c24
                refine ev_skip (exS_normal ?_)
                refine ev_R tabT [] 2700 ?_
                refine ev_cond rfl (fun c26 => ?_) (fun c26 => ?_)
                · replace c26 := of_decide_eq_true c26
                  try rw [cut1] at c26
                  refine ev_region tabT [] 2800 rfl ?_
                  repeat (first | refine sat_same ?_ | refine sat_impA ?_ | refine sat_need (by first | rfl | (have h1 := rs_len (fdS x.left x.left.length).1 (x.left.take z.k); simp only [List.length_map, List.length_take, List.length_cons, List.length_nil] at h1 ⊢; omega)) ?_)
                  refine sat_done (exBl_normal (exS_normal ?_))
                  refine ev_Q tabT [] 2900 ?_
                  exact exL_normal (z.next c22 rfl) ⟨⟨Sub.refl _, Sub.own (by show _ = ((rsS (fdS x.left x.left.length).1 (x.left.take (z.k + 1))).map lD); rw [rsS_succ c22, (show shI (fdS x.left x.left.length).1 (x.left.getD (z.k : Int).toNat []) = (x.left.getD (z.k : Int).toNat []) from if_neg c24), if_pos c26, List.map_append]; rfl), by repeat (first | exact trivial | exact Sub.refl _ | refine ⟨?_, ?_⟩)⟩, ⟨⟨rfl, rfl, by show _ = ((rsS (fdS x.left x.left.length).1 (x.left.take (z.k + 1))).map lD).length; rw [rsS_succ c22, (show shI (fdS x.left x.left.length).1 (x.left.getD (z.k : Int).toNat []) = (x.left.getD (z.k : Int).toNat []) from if_neg c24), if_pos c26, List.map_append]; rfl⟩, by repeat (first | exact trivial | exact SubO.same rfl | refine ⟨?_, ?_⟩)⟩, rfl, rfl⟩ (by show x.left.length - (z.k + 1) < x.left.length - z.k; omega)
                · replace c26 := of_decide_eq_false c26
                  try rw [cut1] at c26
                  refine ev_skip (exBl_normal (exS_normal ?_))
                  refine ev_Q tabT [] 2900 ?_
                  exact exL_normal (z.next c22 rfl) ⟨⟨Sub.refl _, Sub.own (by show _ = ((rsS (fdS x.left x.left.length).1 (x.left.take (z.k + 1))).map lD); rw [rsS_succ c22, (show shI (fdS x.left x.left.length).1 (x.left.getD (z.k : Int).toNat []) = (x.left.getD (z.k : Int).toNat []) from if_neg c24), if_neg c26, List.append_nil]), by repeat (first | exact trivial | exact Sub.refl _ | refine ⟨?_, ?_⟩)⟩, ⟨⟨rfl, rfl, by show _ = ((rsS (fdS x.left x.left.length).1 (x.left.take (z.k + 1))).map lD).length; rw [rsS_succ c22, (show shI (fdS x.left x.left.length).1 (x.left.getD (z.k : Int).toNat []) = (x.left.getD (z.k : Int).toNat []) from if_neg c24), if_neg c26, List.append_nil]⟩, by repeat (first | exact trivial | exact SubO.same rfl | refine ⟨?_, ?_⟩)⟩, rfl, rfl⟩ (by show x.left.length - (z.k + 1) < x.left.length - z.k; omega)
            ·
              refine ev_exit (exS_exit (exL_exit (exBl_same (exS_normal ?_))))
              refine ev_Q tabT [] 3000 ?_
              refine exBl_normal ?_
              exact exL_normal (x.next h9 h17) ⟨⟨Sub.ownSl (by show (rsS _ (x.left.take z.k)).map lD = (rsS _ x.left).map lD; rw [rs_all c22]), Sub.own (by show _ = List.map iD (x.taken ++ [_]); rw [List.map_append]; rfl), by repeat (first | exact trivial | exact Sub.refl _ | refine ⟨?_, ?_⟩)⟩, ⟨⟨rfl, rfl, by show _ = (List.map iD (x.taken ++ [_])).length; rw [List.map_append]; rfl⟩, by repeat (first | exact trivial | exact SubO.same rfl | refine ⟨?_, ?_⟩)⟩, rfl, rfl⟩ (by show x.f - 1 < x.f; have := x.tf; omega)
      · have h9 : ¬ 0 < x.left.length := by have := of_decide_eq_false c9; omega
        refine ev_exit (exS_exit (exL_exit (exBl_same (exS_normal ?_))))
        refine ev_R tabT [] 3100 ?_
        refine ev_ret ?_
        exact FinV.ret rfl (SubP.tup ⟨SubP.ownSl (by rw [x.done h9]), SubP.nilSl (by rw [x.done h9]), trivial⟩)
    · replace c7 := of_decide_eq_false c7
      refine ev_skip (exS_normal ?_)
      refine ev_seq ?_
      refine ev_block ?_
      refine ev_loopK (ι := Mg B) [] [] 850 (fun x => [(3, .sl false 1 x.left lD []), (2, .own 100 1 (x.taken.map iD))]) (fun x => [(100, .row 3 1 (x.taken.map iD).length)]) (fun x => x.f) (Mg.start hB) ?_
      refine ⟨⟨⟨Sub.ownSl (by show _ = (lft0 B).map lD; rw [lft_neg c7]), Sub.refl _, by repeat (first | exact trivial | exact Sub.refl _ | refine ⟨?_, ?_⟩)⟩, le_o, rfl, rfl⟩, fun x => ?_⟩
      have hll := x.ll
      have htk := x.tk
      refine ev_seq ?_
      refine ev_R tabT [] 1000 ?_
      refine ev_cond rfl (fun c9 => ?_) (fun c9 => ?_)
      · have h9 : 0 < x.left.length := by have := of_decide_eq_true c9; omega
        refine ev_skip (exS_normal (ev_block ?_))
        refine ev_R tabT [] 1100 ?_
        refine ev_seq ?_
        refine ev_R tabT [] 1200 ?_
        refine ev_block ?_
        refine ev_loopK (ι := Up x.left.length (fun _ => true)) [2, 3, 41, 42] [100] 1250 (fun y => [(43, .v (.int .i64 y.k)), (7, .v (.int .i64 (fdS x.left y.k).1)), (8, .v (.bool (fdS x.left y.k).2))]) (fun _ => []) (fun y => x.left.length - y.k) ⟨0, Nat.zero_le _, fun j hj => by omega⟩ ?_
        refine ⟨⟨le_t, le_o, rfl, rfl⟩, fun y => ?_⟩
        have hky := y.le
        refine ev_R tabT [] 1300 ?_
        refine ev_seq ?_
        refine ev_if (fun c12 => ?_) (fun c12 => ?_)
        ·
          refine ev_skip (exS_normal ?_)
          refine ev_seq ?_
          refine ev_block ?_
          refine ev_R tabT [] 1400 ?_
          refine ev_seq (ev_region tabT [] 1500 rfl ?_)
          repeat (first | refine sat_same ?_ | refine sat_impA ?_ | refine sat_need (by first | (intro hh; have h1 := x.ne _ (mem_getD c12 []); exact ⟨by decide, by omega⟩) | (have h1 := x.ne _ (mem_getD c12 []); refine ⟨by decide, ?_⟩; omega)) ?_)
          refine sat_fnG _ (fun hg7 => inTail_ok x.left _ x.ne) rfl ?_
          repeat (first | refine sat_same ?_ | refine sat_impA ?_ | refine sat_need (by first | (intro hh; have h1 := x.ne _ (mem_getD c12 []); exact ⟨by decide, by omega⟩) | (have h1 := x.ne _ (mem_getD c12 []); refine ⟨by decide, ?_⟩; omega)) ?_)
          refine sat_done (exS_normal ?_)
          refine ev_cond rfl (fun c14 => ?_) (fun c14 => ?_)
          · replace c14 : (!(fdS x.left y.k).2 && !inT x.left (hdI (x.left.getD (y.k : Int).toNat []))) = true := c14
            refine ev_region tabT [] 1600 rfl ?_
            repeat (first | refine sat_same ?_ | refine sat_impA ?_ | refine sat_need (by (have h1 := x.ne _ (mem_getD c12 []); refine ⟨by decide, ?_⟩; omega)) ?_)
            refine sat_done (exBl_normal (exS_normal ?_))
            refine ev_Q tabT [] 1700 ?_
            exact exL_normal (y.next c12 rfl) ⟨⟨Sub.refl _, Sub.int (by show _ = (fdS x.left (y.k + 1)).1; rw [fdS_succ c12, fdF, if_pos c14]; rfl), Sub.bool (by show _ = (fdS x.left (y.k + 1)).2; rw [fdS_succ c12, fdF, if_pos c14]), by repeat (first | exact trivial | exact Sub.refl _ | refine ⟨?_, ?_⟩)⟩, le_o, rfl, rfl⟩ (by show x.left.length - (y.k + 1) < x.left.length - y.k; omega)
          · replace c14 : (!(fdS x.left y.k).2 && !inT x.left (hdI (x.left.getD (y.k : Int).toNat []))) = false := c14
            refine ev_skip (exBl_normal (exS_normal ?_))
            refine ev_Q tabT [] 1700 ?_
            exact exL_normal (y.next c12 rfl) ⟨⟨Sub.refl _, Sub.int (by show _ = (fdS x.left (y.k + 1)).1; rw [fdS_succ c12, fdF, if_neg (by rw [c14]; decide)]), Sub.bool (by show _ = (fdS x.left (y.k + 1)).2; rw [fdS_succ c12, fdF, if_neg (by rw [c14]; decide)]), by repeat (first | exact trivial | exact Sub.refl _ | refine ⟨?_, ?_⟩)⟩, le_o, rfl, rfl⟩ (by show x.left.length - (y.k + 1) < x.left.length - y.k; omega)
        ·
          refine ev_exit (exS_exit (exL_exit (exBl_same (exS_normal ?_))))
          refine ev_seq ?_
          refine ev_R tabT [] 1800 ?_
          refine ev_cond rfl (fun c17 => ?_) (fun c17 => ?_)
          · have hyk : y.k = x.left.length := by omega
            have h17 : (fdS x.left x.left.length).2 = false := by rw [← hyk]; simpa using c17
            refine ev_R tabT [] 1900 ?_
            refine ev_ret (exS_ret (exBl_ret (exL_ret (exBl_ret (exS_ret ?_)))))
            exact FinV.ret rfl (SubP.tup ⟨SubP.ownSl (by rw [x.none h9 h17]), SubP.of_eq (by rw [x.none h9 h17]), trivial⟩)
          · have hyk : y.k = x.left.length := by omega
            have h17 : (fdS x.left x.left.length).2 = true := by rw [← hyk]; simpa using c17
            rw [hyk]
            refine ev_skip (exS_normal ?_)
            refine ev_seq (ev_region tabT [] 2000 rfl ?_)
            repeat (first | refine sat_same ?_ | refine sat_impA ?_ | refine sat_need (by first | rfl | (simp only [List.length_map, List.length_cons, List.length_nil]; have := x.tf; omega)) ?_)
            refine sat_done (exS_normal ?_)
            refine ev_R tabT [] 2100 ?_
            refine ev_nilRow 11 31 1 rfl ?_
            refine ev_seq ?_
            refine ev_R tabT [] 2200 ?_
            refine ev_block ?_
            refine ev_loopK (ι := Up x.left.length (fun _ => true)) [2, 7, 69, 70] [100] 2250 (fun z => [(71, .v (.int .i64 z.k)), (11, .own 2100 1 ((rsS (fdS x.left x.left.length).1 (x.left.take z.k)).map lD))]) (fun z => [(2100, .row 31 1 ((rsS (fdS x.left x.left.length).1 (x.left.take z.k)).map lD).length)]) (fun z => x.left.length - z.k) ⟨0, Nat.zero_le _, fun j hj => by omega⟩ ?_
            refine ⟨⟨le_t, le_o, rfl, rfl⟩, fun z => ?_⟩
            have hkz := z.le
            refine ev_R tabT [] 2300 ?_
            refine ev_seq ?_
            refine ev_if (fun c22 => ?_) (fun c22 => ?_)
            ·
              refine ev_skip (exS_normal ?_)
              refine ev_seq ?_
              refine ev_block ?_
              refine ev_R tabT [] 2400 ?_
              refine ev_seq ?_
              refine ev_seq (ev_region tabT [] 2500 rfl ?_)
              repeat (first | refine sat_same ?_ | refine sat_impA ?_ | refine sat_need (by (have h1 := x.ne _ (mem_getD c22 []); refine ⟨by decide, ?_⟩; omega)) ?_)
              refine sat_done (exS_normal ?_)
              refine ev_cond rfl (fun c24 => ?_) (fun c24 => ?_)
              · replace c24 := of_decide_eq_true c24
                refine ev_region tabT [] 2600 rfl ?_
                repeat (first | refine sat_same ?_ | refine sat_impA ?_ | refine sat_need (by (have h1 := x.ne _ (mem_getD c22 []); refine ⟨by decide, ?_, ?_⟩ <;> omega)) ?_)
                refine sat_done (exS_normal ?_)
                refine ev_R tabT [] 2700 ?_
                refine ev_cond rfl (fun c26 => ?_) (fun c26 => ?_)
                · replace c26 := of_decide_eq_true c26
                  try rw [cut1] at c26
                  refine ev_region tabT [] 2800 rfl ?_
                  repeat (first | refine sat_same ?_ | refine sat_impA ?_ | refine sat_need (by first | rfl | (have h1 := rs_len (fdS x.left x.left.length).1 (x.left.take z.k); simp only [List.length_map, List.length_take, List.length_cons, List.length_nil] at h1 ⊢; omega)) ?_)
                  refine sat_done (exBl_normal (exS_normal ?_))
                  refine ev_Q tabT [] 2900 ?_
                  exact exL_normal (z.next c22 rfl) ⟨⟨Sub.refl _, Sub.own (by show _ = ((rsS (fdS x.left x.left.length).1 (x.left.take (z.k + 1))).map lD); rw [rsS_succ c22, (show shI (fdS x.left x.left.length).1 (x.left.getD (z.k : Int).toNat []) = (x.left.getD (z.k : Int).toNat []).drop 1 from if_pos c24), if_pos c26, List.map_append]; rw [← cut1]; rfl), by repeat (first | exact trivial | exact Sub.refl _ | refine ⟨?_, ?_⟩)⟩, ⟨⟨rfl, rfl, by show _ = ((rsS (fdS x.left x.left.length).1 (x.left.take (z.k + 1))).map lD).length; rw [rsS_succ c22, (show shI (fdS x.left x.left.length).1 (x.left.getD (z.k : Int).toNat []) = (x.left.getD (z.k : Int).toNat []).drop 1 from if_pos c24), if_pos c26, List.map_append]; rw [← cut1]; rfl⟩, by repeat (first | exact trivial | exact SubO.same rfl | refine ⟨?_, ?_⟩)⟩, rfl, rfl⟩ (by show x.left.length - (z.k + 1) < x.left.length - z.k; omega)
                · replace c26 := of_decide_eq_false c26
                  try rw [cut1] at c26
                  refine ev_skip (exBl_normal (exS_normal ?_))
                  refine ev_Q tabT [] 2900 ?_
                  exact exL_normal (z.next c22 rfl) ⟨⟨Sub.refl _, Sub.own (by show _ = ((rsS (fdS x.left x.left.length).1 (x.left.take (z.k + 1))).map lD); rw [rsS_succ c22, (show shI (fdS x.left x.left.length).1 (x.left.getD (z.k : Int).toNat []) = (x.left.getD (z.k : Int).toNat []).drop 1 from if_pos c24), if_neg c26, List.append_nil]), by repeat (first | exact trivial | exact Sub.refl _ | refine ⟨?_, ?_⟩)⟩, ⟨⟨rfl, rfl, by show _ = ((rsS (fdS x.left x.left.length).1 (x.left.take (z.k + 1))).map lD).length; rw [rsS_succ c22, (show shI (fdS x.left x.left.length).1 (x.left.getD (z.k : Int).toNat []) = (x.left.getD (z.k : Int).toNat []).drop 1 from if_pos c24), if_neg c26, List.append_nil]⟩, by repeat (first | exact trivial | exact SubO.same rfl | refine ⟨?_, ?_⟩)⟩, rfl, rfl⟩ (by show x.left.length - (z.k + 1) < x.left.length - z.k; omega)
              · replace c24 := of_decide_eq_false c24
                refine ev_skip (exS_normal ?_)
                refine ev_R tabT [] 2700 ?_
                refine ev_cond rfl (fun c26 => ?_) (fun c26 => ?_)
                · replace c26 := of_decide_eq_true c26
                  try rw [cut1] at c26
                  refine ev_region tabT [] 2800 rfl ?_
                  repeat (first | refine sat_same ?_ | refine sat_impA ?_ | refine sat_need (by first | rfl | (have h1 := rs_len (fdS x.left x.left.length).1 (x.left.take z.k); simp only [List.length_map, List.length_take, List.length_cons, List.length_nil] at h1 ⊢; omega)) ?_)
                  refine sat_done (exBl_normal (exS_normal ?_))
                  refine ev_Q tabT [] 2900 ?_
                  exact exL_normal (z.next c22 rfl) ⟨⟨Sub.refl _, Sub.own (by show _ = ((rsS (fdS x.left x.left.length).1 (x.left.take (z.k + 1))).map lD); rw [rsS_succ c22, (show shI (fdS x.left x.left.length).1 (x.left.getD (z.k : Int).toNat []) = (x.left.getD (z.k : Int).toNat []) from if_neg c24), if_pos c26, List.map_append]; rfl), by repeat (first | exact trivial | exact Sub.refl _ | refine ⟨?_, ?_⟩)⟩, ⟨⟨rfl, rfl, by show _ = ((rsS (fdS x.left x.left.length).1 (x.left.take (z.k + 1))).map lD).length; rw [rsS_succ c22, (show shI (fdS x.left x.left.length).1 (x.left.getD (z.k : Int).toNat []) = (x.left.getD (z.k : Int).toNat []) from if_neg c24), if_pos c26, List.map_append]; rfl⟩, by repeat (first | exact trivial | exact SubO.same rfl | refine ⟨?_, ?_⟩)⟩, rfl, rfl⟩ (by show x.left.length - (z.k + 1) < x.left.length - z.k; omega)
                · replace c26 := of_decide_eq_false c26
                  try rw [cut1] at c26
                  refine ev_skip (exBl_normal (exS_normal ?_))
                  refine ev_Q tabT [] 2900 ?_
                  exact exL_normal (z.next c22 rfl) ⟨⟨Sub.refl _, Sub.own (by show _ = ((rsS (fdS x.left x.left.length).1 (x.left.take (z.k + 1))).map lD); rw [rsS_succ c22, (show shI (fdS x.left x.left.length).1 (x.left.getD (z.k : Int).toNat []) = (x.left.getD (z.k : Int).toNat []) from if_neg c24), if_neg c26, List.append_nil]), by repeat (first | exact trivial | exact Sub.refl _ | refine ⟨?_, ?_⟩)⟩, ⟨⟨rfl, rfl, by show _ = ((rsS (fdS x.left x.left.length).1 (x.left.take (z.k + 1))).map lD).length; rw [rsS_succ c22, (show shI (fdS x.left x.left.length).1 (x.left.getD (z.k : Int).toNat []) = (x.left.getD (z.k : Int).toNat []) from if_neg c24), if_neg c26, List.append_nil]⟩, by repeat (first | exact trivial | exact SubO.same rfl | refine ⟨?_, ?_⟩)⟩, rfl, rfl⟩ (by show x.left.length - (z.k + 1) < x.left.length - z.k; omega)
            ·
              refine ev_exit (exS_exit (exL_exit (exBl_same (exS_normal ?_))))
              refine ev_Q tabT [] 3000 ?_
              refine exBl_normal ?_
              exact exL_normal (x.next h9 h17) ⟨⟨Sub.ownSl (by show (rsS _ (x.left.take z.k)).map lD = (rsS _ x.left).map lD; rw [rs_all c22]), Sub.own (by show _ = List.map iD (x.taken ++ [_]); rw [List.map_append]; rfl), by repeat (first | exact trivial | exact Sub.refl _ | refine ⟨?_, ?_⟩)⟩, ⟨⟨rfl, rfl, by show _ = (List.map iD (x.taken ++ [_])).length; rw [List.map_append]; rfl⟩, by repeat (first | exact trivial | exact SubO.same rfl | refine ⟨?_, ?_⟩)⟩, rfl, rfl⟩ (by show x.f - 1 < x.f; have := x.tf; omega)
      · have h9 : ¬ 0 < x.left.length := by have := of_decide_eq_false c9; omega
        refine ev_exit (exS_exit (exL_exit (exBl_same (exS_normal ?_))))
        refine ev_R tabT [] 3100 ?_
        refine ev_ret ?_
        exact FinV.ret rfl (SubP.tup ⟨SubP.ownSl (by rw [x.done h9]), SubP.nilSl (by rw [x.done h9]), trivial⟩)
end Go.Proofs.YtngidfegeapkbaaGreatDoor
