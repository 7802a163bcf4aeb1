/- Part 25 of the proof. -/
import Derived.Test.YtjlnanhjhfkddaaDoorM24

/- Walks by the evaluator: the order of bases; the seventh group. -/
namespace Go.Proofs.YtjlnanhjhfkddaaDoor
open Go.RowKit
variable {md me : Bool}

theorem Order_ok (B : List (List Int)) : Fn Tryd.prog 54 [.sl false 1 B lD []] (.tup [isD (orderS B).1, fltD (orderS B).2]) := by
  refine fn_ev tabT Tryd.func54 rfl rfl rfl rfl rfl rfl ?_
  intro w0 s0 mx
  refine ev_seq (ev_region tabT [] 100 rfl ?_)
  repeat (first | refine sat_same ?_ | refine sat_impA ?_ | refine sat_needA ?_)
  refine sat_done ?_
  refine exS_normal ?_
  refine ev_seq ?_
  refine ev_seq (ev_region tabT [] 200 rfl ?_)
  repeat (first | refine sat_same ?_ | refine sat_impA ?_ | refine sat_needA ?_)
  refine sat_fn _ (OrdersFault_ok _) rfl ?_
  repeat (first | refine sat_same ?_ | refine sat_impA ?_ | refine sat_needA ?_)
  refine sat_done ?_
  refine exS_normal ?_
  refine ev_seq (ev_region tabT [] 300 rfl ?_)
  repeat (first | refine sat_same ?_ | refine sat_impA ?_ | refine sat_needA ?_)
  refine sat_done ?_
  refine exS_normal ?_
  refine ev_cond rfl (fun c2 => ?_) (fun c2 => ?_)
  · try simp only [Bool.not_eq_true', Bool.not_eq_false'] at c2
    first | replace c2 := of_decide_eq_true c2 | replace c2 := of_decide_eq_false c2
    refine ev_seq (ev_drawn tabT [] [[], [], [0, 1]] 400 mixT (by kernel_rfl) rfl ?_)
    repeat (first | refine sat_same ?_ | refine sat_impA ?_ | refine sat_needA ?_)
    refine sat_done ?_
    refine exS_normal ?_
    refine ev_ret ?_
    refine exS_ret ?_
    exact FinV.ret rfl (SubP.tup ⟨SubP.nilSl (by rw [orderS, if_pos c2]), SubP.of_eq (by rw [orderS, if_pos c2] <;> rfl), trivial⟩)
  · try simp only [Bool.not_eq_true', Bool.not_eq_false'] at c2
    first | replace c2 := of_decide_eq_true c2 | replace c2 := of_decide_eq_false c2
    refine ev_skip ?_
    refine exS_normal ?_
    refine ev_seq (ev_region tabT [] 500 rfl ?_)
    repeat (first | refine sat_same ?_ | refine sat_impA ?_ | refine sat_needA ?_)
    refine sat_fn _ (Merged_ok B (ofS_good c2)) rfl ?_
    repeat (first | refine sat_same ?_ | refine sat_impA ?_ | refine sat_needA ?_)
    refine sat_done ?_
    refine exS_normal ?_
    refine ev_seq ?_
    refine ev_seq (ev_region tabT [] 600 rfl ?_)
    repeat (first | refine sat_same ?_ | refine sat_impA ?_ | refine sat_needA ?_)
    refine sat_done ?_
    refine exS_normal ?_
    refine ev_cond rfl (fun c5 => ?_) (fun c5 => ?_)
    · try simp only [Bool.not_eq_true', Bool.not_eq_false'] at c5
      first | replace c5 := of_decide_eq_true c5 | replace c5 := of_decide_eq_false c5
      refine ev_seq (ev_region tabT [] 700 rfl ?_)
      repeat (first | refine sat_same ?_ | refine sat_impA ?_ | refine sat_needA ?_)
      refine sat_fn _ (At_ok _ _) rfl ?_
      repeat (first | refine sat_same ?_ | refine sat_impA ?_ | refine sat_needA ?_)
      refine sat_done ?_
      refine exS_normal ?_
      refine ev_ret ?_
      refine exS_ret ?_
      exact FinV.ret rfl (SubP.tup ⟨SubP.nilSl (by rw [orderS, if_neg (fun hh => hh c2), if_pos c5]), SubP.of_eq (by rw [orderS, if_neg (fun hh => hh c2), if_pos c5] <;> rfl), trivial⟩)
    · try simp only [Bool.not_eq_true', Bool.not_eq_false'] at c5
      first | replace c5 := of_decide_eq_true c5 | replace c5 := of_decide_eq_false c5
      refine ev_skip ?_
      refine exS_normal ?_
      refine ev_seq ?_
      refine ev_seq (ev_region tabT [] 800 rfl ?_)
      repeat (first | refine sat_same ?_ | refine sat_impA ?_ | refine sat_needA ?_)
      refine sat_done ?_
      refine exS_normal ?_
      refine ev_cond rfl (fun c7 => ?_) (fun c7 => ?_)
      · try simp only [Bool.not_eq_true', Bool.not_eq_false'] at c7
        first | replace c7 := of_decide_eq_true c7 | replace c7 := of_decide_eq_false c7
        refine ev_seq (ev_region tabT [] 900 rfl ?_)
        repeat (first | refine sat_same ?_ | refine sat_impA ?_ | refine sat_needA ?_)
        refine sat_fn _ (At_ok _ _) rfl ?_
        repeat (first | refine sat_same ?_ | refine sat_impA ?_ | refine sat_needA ?_)
        refine sat_done ?_
        refine exS_normal ?_
        refine ev_ret ?_
        refine exS_ret ?_
        exact FinV.ret rfl (SubP.tup ⟨SubP.nilSl (by rw [orderS, if_neg (fun hh => hh c2), if_neg c5, if_pos c7]), SubP.of_eq (by rw [orderS, if_neg (fun hh => hh c2), if_neg c5, if_pos c7] <;> rfl), trivial⟩)
      · try simp only [Bool.not_eq_true', Bool.not_eq_false'] at c7
        first | replace c7 := of_decide_eq_true c7 | replace c7 := of_decide_eq_false c7
        refine ev_skip ?_
        refine exS_normal ?_
        refine ev_seq (ev_region tabT [] 1000 rfl ?_)
        repeat (first | refine sat_same ?_ | refine sat_impA ?_ | refine sat_needA ?_)
        refine sat_done ?_
        refine exS_normal ?_
        refine ev_ret ?_
        exact FinV.ret rfl (SubP.tup ⟨SubP.of_eq (by rw [orderS, if_neg (fun hh => hh c2), if_neg c5, if_neg c7] <;> rfl), SubP.of_eq (by rw [orderS, if_neg (fun hh => hh c2), if_neg c5, if_neg c7] <;> rfl), trivial⟩)

theorem mgF_len : ∀ (f : Nat) (taken : List Int) (left : List (List Int)), (mgF f taken left).1.length ≤ taken.length + f
  | 0, _, _ => Nat.le_refl _
  | _ + 1, taken, [] => by rw [mgF]; exact Nat.le_add_right _ _
  | f + 1, taken, l :: left => by
    rw [mgF]
    split
    · show taken.length ≤ _; omega
    · refine Nat.le_trans (mgF_len f _ _) ?_
      simp only [List.length_append, List.length_singleton]
      omega
theorem orderS_len (B : List (List Int)) : (orderS B).1.length ≤ 400 := by
  have h := mgF_len 400 [] (lft0 B)
  unfold orderS
  split
  · exact Nat.zero_le _
  · split
    · exact Nat.zero_le _
    · split
      · exact Nat.zero_le _
      · simp only [mgS]; simpa using h
theorem ords_map (h : List Ob) (o : Ob) : (o.refs.map fun n => lD (obAt h n).order) = (ordsS h o).map lD := by rw [ordsS, List.map_map]; rfl

theorem orderOk_ok (h : List Ob) (n : Int) (hn : inH h n) (hh : HpIn h) (hr : (obAt h n).kind = 9 → ∀ r ∈ (obAt h n).refs, inH h r) : Fn Tryd.prog 29 [hpD md h, .v (.int .i64 n)] (.v (.bool (orderOkS h (obAt h n) n))) := by
  have hO : ObIn (h.getD n.toNat ob0) := hh.at n
  have hrl := hO.rl
  have hol := hO.ol
  refine fn_ev tabT Tryd.func29 rfl rfl rfl rfl rfl rfl ?_
  intro w0 s0 mx
  refine ev_seq (ev_region tabT [] 100 rfl ?_)
  repeat (first | refine sat_same ?_ | refine sat_impA ?_ | refine sat_needA ?_)
  refine sat_done ?_
  refine exS_normal ?_
  refine ev_seq (ev_region tabT [] 200 rfl ?_)
  repeat (first | refine sat_same ?_ | refine sat_impA ?_ | refine sat_need (by exact hn) ?_)
  refine sat_done ?_
  refine exS_normal ?_
  refine ev_seq ?_
  refine ev_seq (ev_region tabT [] 300 rfl ?_)
  repeat (first | refine sat_same ?_ | refine sat_impA ?_ | refine sat_needA ?_)
  refine sat_done ?_
  refine exS_normal ?_
  refine ev_cond rfl (fun c2 => ?_) (fun c2 => ?_)
  · replace c2 : ¬ (h.getD n.toNat ob0).kind = 9 := by simpa only [Bool.not_eq_true', decide_eq_false_iff_not] using c2
    refine ev_seq (ev_region tabT [] 400 rfl ?_)
    repeat (first | refine sat_same ?_ | refine sat_impA ?_ | refine sat_needA ?_)
    refine sat_done ?_
    refine exS_normal ?_
    refine ev_ret ?_
    refine exS_ret ?_
    exact FinV.ret rfl (SubP.bool (by rw [orderOkS, if_pos c2]))
  · replace c2 : (h.getD n.toNat ob0).kind = 9 := by simpa only [Bool.not_eq_false', decide_eq_true_eq] using c2
    refine ev_skip ?_
    refine exS_normal ?_
    refine ev_seq (ev_region tabT [] 500 rfl ?_)
    repeat (first | refine sat_same ?_ | refine sat_impA ?_ | refine sat_needA ?_)
    refine sat_done ?_
    refine exS_normal ?_
    refine ev_nilRow 6 41 1 rfl ?_
    refine ev_seq ?_
    refine ev_seq (ev_region tabT [] 600 rfl ?_)
    repeat (first | refine sat_same ?_ | refine sat_impA ?_ | refine sat_needA ?_)
    refine sat_done ?_
    refine exS_normal ?_
    refine ev_block ?_
    refine ev_loopK (ι := Up (h.getD n.toNat ob0).refs.length (fun _ => true)) [1, 2, 5, 20, 21] [0, 105] 650 (fun x => [(22, .v (.int .i64 x.k)), (6, .own 500 1 (((h.getD n.toNat ob0).refs.take x.k).map fun n => lD (obAt h n).order))]) (fun x => [(500, .row 41 1 (((h.getD n.toNat ob0).refs.take x.k).map fun n => lD (obAt h n).order).length)]) (fun x => (h.getD n.toNat ob0).refs.length - x.k) ⟨0, Nat.zero_le _, fun j hj => by omega⟩ ?_
    refine ⟨⟨(by first | exact trivial | (repeat (first | exact trivial | exact Sub.refl _ | refine ⟨?_, ?_⟩ | exact Sub.int (by first | rfl | omega | (push_cast; omega)) | exact Sub.nilSl | exact Sub.own rfl | exact Sub.slrSl rfl | exact Sub.ownSl (List.map_append).symm | exact Sub.ownSl rfl | exact Sub.own (by simp [-List.getD_eq_getElem?_getD, lD]) | exact Sub.ownSl (by simp [-List.getD_eq_getElem?_getD, lD]) | exact Sub.int (by simp [-List.getD_eq_getElem?_getD, lD])))), (by repeat (first | exact trivial | exact SubO.same rfl | exact ⟨rfl, rfl, by simp [-List.getD_eq_getElem?_getD, lD]⟩ | refine ⟨?_, ?_⟩)), rfl, rfl⟩, fun x => ?_⟩
    have hk := x.le
    refine ev_seq (ev_region tabT [] 700 rfl ?_)
    repeat (first | refine sat_same ?_ | refine sat_impA ?_ | refine sat_needA ?_)
    refine sat_done ?_
    refine exS_normal ?_
    refine ev_seq ?_
    refine ev_cond rfl (fun c6 => ?_) (fun c6 => ?_)
    · try simp only [decide_eq_true_eq, decide_eq_false_iff_not, Bool.not_eq_true', Bool.not_eq_false', Bool.and_eq_true, Bool.or_eq_true, Bool.or_eq_false_iff, gt_iff_lt, Int.not_lt, Bool.not_true, Bool.not_false, Int.ofNat_lt, Int.ofNat_le] at c6
      refine ev_skip ?_
      refine exS_normal ?_
      refine ev_seq ?_
      refine ev_block ?_
      refine ev_seq (ev_region tabT [] 800 rfl ?_)
      repeat (first | refine sat_same ?_ | refine sat_impA ?_ | refine sat_needA ?_)
      refine sat_done ?_
      refine exS_normal ?_
      refine ev_region tabT [] 900 rfl ?_
      repeat (first | refine sat_same ?_ | refine sat_impA ?_ | refine sat_need (by first | rfl | exact hr c2 _ (mem_getD c6 0) | (simp only [List.length_map, List.length_take, List.length_cons, List.length_nil]; omega)) ?_)
      refine sat_done ?_
      refine exBl_normal ?_
      refine exS_normal ?_
      refine ev_region tabT [] 1000 rfl ?_
      repeat (first | refine sat_same ?_ | refine sat_impA ?_ | refine sat_needA ?_)
      refine sat_done ?_
      exact exL_normal (x.next c6 rfl) ⟨⟨Sub.refl _, Sub.own (by show _ = (((h.getD n.toNat ob0).refs.take (x.k + 1)).map fun n => lD (obAt h n).order); rw [take_at c6 0, List.map_append]; rfl), by repeat (first | exact trivial | exact Sub.refl _ | refine ⟨?_, ?_⟩)⟩, ⟨⟨rfl, rfl, by show _ = (((h.getD n.toNat ob0).refs.take (x.k + 1)).map fun n => lD (obAt h n).order).length; rw [take_at c6 0, List.map_append]; rfl⟩, by repeat (first | exact trivial | exact SubO.same rfl | refine ⟨?_, ?_⟩)⟩, rfl, rfl⟩ (by show (h.getD n.toNat ob0).refs.length - (x.k + 1) < (h.getD n.toNat ob0).refs.length - x.k; omega)
    · try simp only [decide_eq_true_eq, decide_eq_false_iff_not, Bool.not_eq_true', Bool.not_eq_false', Bool.and_eq_true, Bool.or_eq_true, Bool.or_eq_false_iff, gt_iff_lt, Int.not_lt, Bool.not_true, Bool.not_false, Int.ofNat_lt, Int.ofNat_le] at c6
      refine ev_exit ?_
      refine exS_exit ?_
      refine exL_exit ?_
      refine exBl_same ?_
      refine exS_normal ?_
      refine ev_seq (ev_region tabT [] 1100 rfl ?_)
      repeat (first | refine sat_same ?_ | refine sat_impA ?_ | refine sat_needA ?_)
      refine sat_fn _ ((Order_ok (ordsS h (h.getD n.toNat ob0))).args ⟨SubP.ownSl (k := 500) (by rw [List.take_of_length_le (by omega), ords_map]), trivial⟩) rfl ?_
      repeat (first | refine sat_same ?_ | refine sat_impA ?_ | refine sat_needA ?_)
      refine sat_done ?_
      refine exS_normal ?_
      refine ev_seq (ev_drawn tabT [48] [[], [0], [0, 1], [0, 1, 2], [0, 1, 2, 3], [0, 1, 2, 3, 4], [0, 1, 2, 3], [0, 1, 2, 3, 6], [0, 1, 2, 3], [0, 1, 2, 3, 6, 7, 8], [0, 1, 2, 3, 4, 5, 6, 7, 8, 9], [0, 1, 2, 3, 4, 5, 6, 7, 8, 9, 10], [0, 1, 2, 3, 4, 5, 6, 7, 8, 9, 10, 11]] 1200 mixT (by kernel_rfl) rfl ?_)
      repeat (first | refine sat_same ?_ | refine sat_impA ?_ | refine sat_need (by first | rfl | (intro hh; exact absurd hh (by rw [hs]; decide)) | (have := orderS_len (ordsS h (h.getD n.toNat ob0)); simp only [List.length_map, List.length_cons, List.length_nil]; omega)) ?_)
      refine sat_split (fun hs => ?_) (fun hs => ?_)
      · repeat (first | refine sat_same ?_ | refine sat_impA ?_ | refine sat_need (by first | rfl | (intro hh; exact absurd hh (by rw [hs]; decide)) | (have := orderS_len (ordsS h (h.getD n.toNat ob0)); simp only [List.length_map, List.length_cons, List.length_nil]; omega)) ?_)
        refine sat_split (fun hs2 => ?_) (fun hs2 => by rw [hs] at hs2; cases hs2)
        repeat (first | refine sat_same ?_ | refine sat_impA ?_ | refine sat_need (by first | rfl | (intro hh; exact absurd hh (by rw [hs]; decide)) | (have := orderS_len (ordsS h (h.getD n.toNat ob0)); simp only [List.length_map, List.length_cons, List.length_nil]; omega)) ?_)
        refine sat_fnG _ (fun hg => (Ints_ok (h.getD n.toNat ob0).order ([n] ++ (orderS (ordsS h (h.getD n.toNat ob0))).1)).args ⟨SubP.refl _, SubP.ownSl (k := 1107) (by rw [List.map_append]; rfl), trivial⟩) rfl ?_
        repeat (first | refine sat_same ?_ | refine sat_impA ?_ | refine sat_need (by first | rfl | (intro hh; exact absurd hh (by rw [hs]; decide)) | (have := orderS_len (ordsS h (h.getD n.toNat ob0)); simp only [List.length_map, List.length_cons, List.length_nil]; omega)) ?_)
        refine sat_done ?_
        refine exS_normal ?_
        refine ev_ret ?_
        exact FinV.ret rfl (SubP.bool (by rw [orderOkS, if_neg (fun hh => hh c2)]))
      · repeat (first | refine sat_same ?_ | refine sat_impA ?_ | refine sat_need (by first | rfl | (intro hh; exact absurd hh (by rw [hs]; decide)) | (have := orderS_len (ordsS h (h.getD n.toNat ob0)); simp only [List.length_map, List.length_cons, List.length_nil]; omega)) ?_)
        refine sat_split (fun hs2 => by rw [hs] at hs2; cases hs2) (fun hs2 => ?_)
        repeat (first | refine sat_same ?_ | refine sat_impA ?_ | refine sat_need (by first | rfl | (intro hh; exact absurd hh (by rw [hs]; decide)) | (have := orderS_len (ordsS h (h.getD n.toNat ob0)); simp only [List.length_map, List.length_cons, List.length_nil]; omega)) ?_)
        refine sat_fnG (.v (.bool false)) (fun hg => by rw [hs] at hg; cases hg) rfl ?_
        repeat (first | refine sat_same ?_ | refine sat_impA ?_ | refine sat_need (by first | rfl | (intro hh; exact absurd hh (by rw [hs]; decide)) | (have := orderS_len (ordsS h (h.getD n.toNat ob0)); simp only [List.length_map, List.length_cons, List.length_nil]; omega)) ?_)
        refine sat_done ?_
        refine exS_normal ?_
        refine ev_ret ?_
        exact FinV.ret rfl (SubP.bool (by rw [orderOkS, if_neg (fun hh => hh c2), hs]; rfl))

end Go.Proofs.YtjlnanhjhfkddaaDoor
