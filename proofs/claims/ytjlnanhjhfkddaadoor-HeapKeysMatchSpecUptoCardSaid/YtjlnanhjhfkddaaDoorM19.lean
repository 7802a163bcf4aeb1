/- Part 19 of the proof. -/
import Derived.Test.YtjlnanhjhfkddaaDoorM18

/- Walks by the evaluator: the fourth group: values. -/
namespace Go.Proofs.YtjlnanhjhfkddaaDoor
open Go.RowKit
variable {md me : Bool}

theorem all_in {o : Ob} (h : ObIn o) : ∀ v ∈ o.keys ++ o.items, VlIn v := fun v hv => (List.mem_append.1 hv).elim (h.kv v) (h.iv v)
theorem nums_len {o : Ob} (h : ObIn o) (k : Nat) : (numsB o ++ refsOf ((o.keys ++ o.items).take k)).length ≤ 8000001 := by
  have h1 := refsOf_len ((o.keys ++ o.items).take k)
  have h2 := h.rl; have h3 := h.ol; have h4 := h.il; have h5 := h.kl
  simp [numsB] at h1 ⊢
  omega
theorem numsS_len {o : Ob} (h : ObIn o) : (numsS o).length ≤ 8000002 := by
  have h1 := refsOf_len (o.keys ++ o.items)
  have h2 := h.rl; have h3 := h.ol; have h4 := h.il; have h5 := h.kl
  rw [numsS]
  split <;> (simp [numsB] at h1 ⊢; omega)

theorem values_ok (h : List Ob) (n : Int) (hn : inH h n) (hh : HpIn h) : Fn Tryd.prog 26 [hpD md h, .v (.int .i64 n)] (.v (.int .i64 (valuesS h (obAt h n)))) := by
  have hO : ObIn (h.getD n.toNat ob0) := hh.at n
  have hil := hO.il
  have hkl := hO.kl
  have hrl := hO.rl
  have hol := hO.ol
  have hst := hO.st
  have hal : ((h.getD n.toNat ob0).keys ++ (h.getD n.toNat ob0).items).length ≤ 4000000 := by rw [List.length_append]; omega
  refine fn_ev tabT Tryd.func26 rfl rfl rfl rfl rfl rfl ?_
  intro w0 s0 mx
  refine ev_seq (ev_region tabT [] 100 rfl ?_)
  repeat (first | refine sat_same ?_ | refine sat_impA ?_ | refine sat_needA ?_)
  refine sat_done ?_
  refine exS_normal ?_
  refine ev_seq (ev_region tabT [] 200 rfl ?_)
  repeat (first | refine sat_same ?_ | refine sat_impA ?_ | refine sat_need (by exact hn) ?_)
  refine sat_done ?_
  refine exS_normal ?_
  refine ev_seq (ev_drawn tabT [21] [[], [0], [0, 1], [], [3], [0, 1, 2, 3, 4], [0, 1, 2, 3, 4, 5]] 300 mixT (by kernel_rfl) rfl ?_)
  repeat (first | refine sat_same ?_ | refine sat_impA ?_ | refine sat_need (by first | rfl | (simp only [List.length_map]; omega)) ?_)
  refine sat_fnO _ _ _ (CloneV_ok _ hkl) ?_
  repeat (first | refine sat_same ?_ | refine sat_impA ?_ | refine sat_need (by first | rfl | (simp only [List.length_map]; omega)) ?_)
  refine sat_done ?_
  refine exS_normal ?_
  refine ev_seq ?_
  refine ev_seq (ev_region tabT [] 400 rfl ?_)
  repeat (first | refine sat_same ?_ | refine sat_impA ?_ | refine sat_needA ?_)
  refine sat_done ?_
  refine exS_normal ?_
  refine ev_block ?_
  refine ev_loopK (ι := Al ((h.getD n.toNat ob0).keys ++ (h.getD n.toNat ob0).items) (fun v => vokS (fixV (h.getD n.toNat ob0) v))) [2, 5] [0, 105] 450 (fun x => [(27, .v (.int .i64 x.k)), (25, .sl false 7 ((h.getD n.toNat ob0).keys ++ (h.getD n.toNat ob0).items) vlD vl0), (6, .sl false 7 ((h.getD n.toNat ob0).keys ++ (h.getD n.toNat ob0).items) vlD vl0), (26, .v (.int .i64 ((h.getD n.toNat ob0).keys ++ (h.getD n.toNat ob0).items).length))]) (fun _ => []) (fun x => ((h.getD n.toNat ob0).keys ++ (h.getD n.toNat ob0).items).length - x.k) ⟨0, Nat.zero_le _, fun j x hj => by omega⟩ ?_
  refine ⟨⟨(by first | exact trivial | (repeat (first | exact trivial | exact Sub.refl _ | refine ⟨?_, ?_⟩ | exact Sub.int (by first | rfl | omega | (push_cast; omega)) | exact Sub.nilSl | exact Sub.own rfl | exact Sub.slrSl rfl | exact Sub.ownSl (List.map_append).symm | exact Sub.ownSl rfl | exact Sub.own (by simp [-List.getD_eq_getElem?_getD, vlD]) | exact Sub.ownSl (by simp [-List.getD_eq_getElem?_getD, vlD]) | exact Sub.int (by simp [-List.getD_eq_getElem?_getD, vlD])))), (by repeat (first | exact trivial | exact SubO.same rfl | exact ⟨rfl, rfl, by simp [-List.getD_eq_getElem?_getD, vlD]⟩ | refine ⟨?_, ?_⟩)), rfl, rfl⟩, fun x => ?_⟩
  have hk := x.le
  refine ev_seq (ev_region tabT [] 500 rfl ?_)
  repeat (first | refine sat_same ?_ | refine sat_impA ?_ | refine sat_needA ?_)
  refine sat_done ?_
  refine exS_normal ?_
  refine ev_seq ?_
  refine ev_cond rfl (fun c4 => ?_) (fun c4 => ?_)
  · try simp only [decide_eq_true_eq, decide_eq_false_iff_not, Bool.not_eq_true', Bool.not_eq_false', Bool.and_eq_true, Bool.or_eq_true, Bool.or_eq_false_iff, gt_iff_lt, Int.not_lt, Bool.not_true, Bool.not_false, Int.ofNat_lt, Int.ofNat_le] at c4
    refine ev_skip ?_
    refine exS_normal ?_
    refine ev_seq ?_
    refine ev_block ?_
    refine ev_seq (ev_region tabT [] 600 rfl ?_)
    repeat (first | refine sat_same ?_ | refine sat_impA ?_ | refine sat_needA ?_)
    refine sat_done ?_
    refine exS_normal ?_
    refine ev_seq ?_
    refine ev_seq (ev_region tabT [] 700 rfl ?_)
    repeat (first | refine sat_same ?_ | refine sat_impA ?_ | refine sat_needA ?_)
    refine sat_done ?_
    refine exS_normal ?_
    refine ev_cond rfl (fun c6 => ?_) (fun c6 => ?_)
    · simp only [Bool.and_eq_true, Bool.or_eq_true, decide_eq_true_eq] at c6
      refine ev_region tabT [] 800 rfl ?_
      repeat (first | refine sat_same ?_ | refine sat_impA ?_ | refine sat_needA ?_)
      refine sat_done ?_
      refine exS_normal ?_
      refine ev_seq (ev_region tabT [] 900 rfl ?_)
      repeat (first | refine sat_same ?_ | refine sat_impA ?_ | refine sat_needA ?_)
      first
        | refine sat_fn _ (ValueOk_ok { (((h.getD n.toNat ob0).keys ++ (h.getD n.toNat ob0).items).getD (x.k : Int).toNat vl0) with k := 0 } (VlIn.zero (vlAt_in (all_in hO) _))) rfl ?_
        | refine sat_fn _ (ValueOk_ok (((h.getD n.toNat ob0).keys ++ (h.getD n.toNat ob0).items).getD (x.k : Int).toNat vl0) (vlAt_in (all_in hO) _)) rfl ?_
      repeat (first | refine sat_same ?_ | refine sat_impA ?_ | refine sat_needA ?_)
      refine sat_done ?_
      refine exS_normal ?_
      refine ev_cond rfl (fun c8 => ?_) (fun c8 => ?_)
      · try simp only [decide_eq_true_eq, decide_eq_false_iff_not, Bool.not_eq_true', Bool.not_eq_false', Bool.and_eq_true, Bool.or_eq_true, Bool.or_eq_false_iff, gt_iff_lt, Int.not_lt, Bool.not_true, Bool.not_false, Int.ofNat_lt, Int.ofNat_le] at c8
        refine ev_seq (ev_region tabT [] 1000 rfl ?_)
        repeat (first | refine sat_same ?_ | refine sat_impA ?_ | refine sat_needA ?_)
        refine sat_done ?_
        refine exS_normal ?_
        refine ev_ret ?_
        refine exBl_ret ?_
        refine exS_ret ?_
        refine exL_ret ?_
        refine exBl_ret ?_
        refine exS_ret ?_
        exact FinV.ret rfl (SubP.int (by rw [valuesS, if_neg (by rw [Al.no (e := vl0) (p := fun v => vokS (fixV (h.getD n.toNat ob0) v)) c4 (by first | (rw [fixV, if_pos c6]; exact c8) | (rw [fixV, if_neg c6]; exact c8))]; decide)]))
      · try simp only [decide_eq_true_eq, decide_eq_false_iff_not, Bool.not_eq_true', Bool.not_eq_false', Bool.and_eq_true, Bool.or_eq_true, Bool.or_eq_false_iff, gt_iff_lt, Int.not_lt, Bool.not_true, Bool.not_false, Int.ofNat_lt, Int.ofNat_le] at c8
        refine ev_skip ?_
        refine exBl_normal ?_
        refine exS_normal ?_
        refine ev_region tabT [] 1100 rfl ?_
        repeat (first | refine sat_same ?_ | refine sat_impA ?_ | refine sat_needA ?_)
        refine sat_done ?_
        exact exL_normal (x.next (e := vl0) c4 (by first | (rw [fixV, if_pos c6]; exact c8) | (rw [fixV, if_neg c6]; exact c8))) ⟨(by first | exact trivial | (repeat (first | exact trivial | exact Sub.refl _ | refine ⟨?_, ?_⟩ | exact Sub.int (by first | rfl | omega | (push_cast; omega)) | exact Sub.nilSl | exact Sub.own rfl | exact Sub.slrSl rfl | exact Sub.ownSl (List.map_append).symm | exact Sub.ownSl rfl))), (by repeat (first | exact trivial | exact SubO.same rfl | refine ⟨?_, ?_⟩)), rfl, rfl⟩ (by show ((h.getD n.toNat ob0).keys ++ (h.getD n.toNat ob0).items).length - (x.k + 1) < ((h.getD n.toNat ob0).keys ++ (h.getD n.toNat ob0).items).length - x.k; omega)
    · replace c6 : ¬ ((((h.getD n.toNat ob0).keys ++ (h.getD n.toNat ob0).items).getD (x.k : Int).toNat vl0).k = 9 ∧ ((h.getD n.toNat ob0).kind = 6 ∨ (h.getD n.toNat ob0).kind = 17)) := by intro hh; simp only [decide_eq_true hh.1, Bool.true_and] at c6; rcases hh.2 with hh | hh <;> simp [hh, -List.getD_eq_getElem?_getD] at c6
      refine ev_skip ?_
      refine exS_normal ?_
      refine ev_seq (ev_region tabT [] 900 rfl ?_)
      repeat (first | refine sat_same ?_ | refine sat_impA ?_ | refine sat_needA ?_)
      first
        | refine sat_fn _ (ValueOk_ok { (((h.getD n.toNat ob0).keys ++ (h.getD n.toNat ob0).items).getD (x.k : Int).toNat vl0) with k := 0 } (VlIn.zero (vlAt_in (all_in hO) _))) rfl ?_
        | refine sat_fn _ (ValueOk_ok (((h.getD n.toNat ob0).keys ++ (h.getD n.toNat ob0).items).getD (x.k : Int).toNat vl0) (vlAt_in (all_in hO) _)) rfl ?_
      repeat (first | refine sat_same ?_ | refine sat_impA ?_ | refine sat_needA ?_)
      refine sat_done ?_
      refine exS_normal ?_
      refine ev_cond rfl (fun c8 => ?_) (fun c8 => ?_)
      · try simp only [decide_eq_true_eq, decide_eq_false_iff_not, Bool.not_eq_true', Bool.not_eq_false', Bool.and_eq_true, Bool.or_eq_true, Bool.or_eq_false_iff, gt_iff_lt, Int.not_lt, Bool.not_true, Bool.not_false, Int.ofNat_lt, Int.ofNat_le] at c8
        refine ev_seq (ev_region tabT [] 1000 rfl ?_)
        repeat (first | refine sat_same ?_ | refine sat_impA ?_ | refine sat_needA ?_)
        refine sat_done ?_
        refine exS_normal ?_
        refine ev_ret ?_
        refine exBl_ret ?_
        refine exS_ret ?_
        refine exL_ret ?_
        refine exBl_ret ?_
        refine exS_ret ?_
        exact FinV.ret rfl (SubP.int (by rw [valuesS, if_neg (by rw [Al.no (e := vl0) (p := fun v => vokS (fixV (h.getD n.toNat ob0) v)) c4 (by first | (rw [fixV, if_pos c6]; exact c8) | (rw [fixV, if_neg c6]; exact c8))]; decide)]))
      · try simp only [decide_eq_true_eq, decide_eq_false_iff_not, Bool.not_eq_true', Bool.not_eq_false', Bool.and_eq_true, Bool.or_eq_true, Bool.or_eq_false_iff, gt_iff_lt, Int.not_lt, Bool.not_true, Bool.not_false, Int.ofNat_lt, Int.ofNat_le] at c8
        refine ev_skip ?_
        refine exBl_normal ?_
        refine exS_normal ?_
        refine ev_region tabT [] 1100 rfl ?_
        repeat (first | refine sat_same ?_ | refine sat_impA ?_ | refine sat_needA ?_)
        refine sat_done ?_
        exact exL_normal (x.next (e := vl0) c4 (by first | (rw [fixV, if_pos c6]; exact c8) | (rw [fixV, if_neg c6]; exact c8))) ⟨(by first | exact trivial | (repeat (first | exact trivial | exact Sub.refl _ | refine ⟨?_, ?_⟩ | exact Sub.int (by first | rfl | omega | (push_cast; omega)) | exact Sub.nilSl | exact Sub.own rfl | exact Sub.slrSl rfl | exact Sub.ownSl (List.map_append).symm | exact Sub.ownSl rfl))), (by repeat (first | exact trivial | exact SubO.same rfl | refine ⟨?_, ?_⟩)), rfl, rfl⟩ (by show ((h.getD n.toNat ob0).keys ++ (h.getD n.toNat ob0).items).length - (x.k + 1) < ((h.getD n.toNat ob0).keys ++ (h.getD n.toNat ob0).items).length - x.k; omega)
  · try simp only [decide_eq_true_eq, decide_eq_false_iff_not, Bool.not_eq_true', Bool.not_eq_false', Bool.and_eq_true, Bool.or_eq_true, Bool.or_eq_false_iff, gt_iff_lt, Int.not_lt, Bool.not_true, Bool.not_false, Int.ofNat_lt, Int.ofNat_le] at c4
    refine ev_exit ?_
    refine exS_exit ?_
    refine exL_exit ?_
    refine exBl_same ?_
    refine exS_normal ?_
    refine ev_seq (ev_drawn tabT [51] [[], [0], [0, 1], [], [3], [0, 1, 2, 3, 4], [], [6], [0, 1, 2, 3, 4, 5, 6, 7], [0, 1, 2, 3, 4, 5, 6, 7, 8]] 1200 mixT (by kernel_rfl) rfl ?_)
    repeat (first | refine sat_same ?_ | refine sat_impA ?_ | refine sat_need (by first | rfl | (simp only [List.length_map, List.length_append, List.length_cons, List.length_nil]; omega)) ?_)
    refine sat_done ?_
    refine exS_normal ?_
    refine ev_seq ?_
    refine ev_seq (ev_region tabT [] 1300 rfl ?_)
    repeat (first | refine sat_same ?_ | refine sat_impA ?_ | refine sat_needA ?_)
    refine sat_done ?_
    refine exS_normal ?_
    refine ev_block ?_
    have hA := x.yes c4
    refine ev_loopK (ι := Up ((h.getD n.toNat ob0).keys ++ (h.getD n.toNat ob0).items).length (fun _ => true)) [2, 5, 58, 59] [0, 105] 1350 (fun x => [(60, .v (.int .i64 x.k)), (9, .own 502 1 ((numsB (h.getD n.toNat ob0) ++ refsOf (((h.getD n.toNat ob0).keys ++ (h.getD n.toNat ob0).items).take x.k)).map iD))]) (fun x => [(502, .row 3 1 ((numsB (h.getD n.toNat ob0) ++ refsOf (((h.getD n.toNat ob0).keys ++ (h.getD n.toNat ob0).items).take x.k)).map iD).length)]) (fun x => ((h.getD n.toNat ob0).keys ++ (h.getD n.toNat ob0).items).length - x.k) ⟨0, Nat.zero_le _, fun j hj => by omega⟩ ?_
    refine ⟨⟨(by first | exact trivial | (repeat (first | exact trivial | exact Sub.refl _ | refine ⟨?_, ?_⟩ | exact Sub.int (by first | rfl | omega | (push_cast; omega)) | exact Sub.nilSl | exact Sub.own rfl | exact Sub.slrSl rfl | exact Sub.ownSl (List.map_append).symm | exact Sub.ownSl rfl | exact Sub.own (by simp [-List.getD_eq_getElem?_getD, numsB, refsOf, iD]) | exact Sub.ownSl (by simp [-List.getD_eq_getElem?_getD, numsB, refsOf, iD]) | exact Sub.int (by simp [-List.getD_eq_getElem?_getD, numsB, refsOf, iD])))), (by repeat (first | exact trivial | exact SubO.same rfl | exact ⟨rfl, rfl, by simp [-List.getD_eq_getElem?_getD, numsB, refsOf, iD]⟩ | refine ⟨?_, ?_⟩)), rfl, rfl⟩, fun x => ?_⟩
    have hk := x.le
    refine ev_seq (ev_region tabT [] 1400 rfl ?_)
    repeat (first | refine sat_same ?_ | refine sat_impA ?_ | refine sat_needA ?_)
    refine sat_done ?_
    refine exS_normal ?_
    refine ev_seq ?_
    refine ev_cond rfl (fun c13 => ?_) (fun c13 => ?_)
    · try simp only [decide_eq_true_eq, decide_eq_false_iff_not, Bool.not_eq_true', Bool.not_eq_false', Bool.and_eq_true, Bool.or_eq_true, Bool.or_eq_false_iff, gt_iff_lt, Int.not_lt, Bool.not_true, Bool.not_false, Int.ofNat_lt, Int.ofNat_le] at c13
      refine ev_skip ?_
      refine exS_normal ?_
      refine ev_seq ?_
      refine ev_block ?_
      refine ev_seq (ev_region tabT [] 1500 rfl ?_)
      repeat (first | refine sat_same ?_ | refine sat_impA ?_ | refine sat_needA ?_)
      refine sat_done ?_
      refine exS_normal ?_
      refine ev_seq (ev_region tabT [] 1600 rfl ?_)
      repeat (first | refine sat_same ?_ | refine sat_impA ?_ | refine sat_needA ?_)
      refine sat_done ?_
      refine exS_normal ?_
      refine ev_cond rfl (fun c15 => ?_) (fun c15 => ?_)
      · replace c15 : (((h.getD n.toNat ob0).keys ++ (h.getD n.toNat ob0).items).getD x.k vl0).k = 6 := of_decide_eq_true c15
        refine ev_region tabT [] 1700 rfl ?_
        repeat (first | refine sat_same ?_ | refine sat_impA ?_ | refine sat_need (by first | rfl | (have h1 := nums_len hO x.k; simp only [List.length_map, List.length_append, List.length_cons, List.length_nil] at h1 ⊢; omega)) ?_)
        refine sat_done ?_
        refine exBl_normal ?_
        refine exS_normal ?_
        refine ev_region tabT [] 1800 rfl ?_
        repeat (first | refine sat_same ?_ | refine sat_impA ?_ | refine sat_needA ?_)
        refine sat_done ?_
        exact exL_normal (x.next c13 rfl) ⟨(by first | exact trivial | (repeat (first | exact trivial | exact Sub.refl _ | refine ⟨?_, ?_⟩ | exact Sub.int (by first | rfl | omega | (push_cast; omega)) | exact Sub.nilSl | exact Sub.own rfl | exact Sub.slrSl rfl | exact Sub.ownSl (List.map_append).symm | exact Sub.ownSl rfl | exact Sub.own (by simp [-List.getD_eq_getElem?_getD, Up.next, take_at c13 vl0, refsOf_append, refsOf, c15, iD, numsB]) | exact Sub.int (by simp [-List.getD_eq_getElem?_getD, Up.next, take_at c13 vl0, refsOf_append, refsOf, c15, iD, numsB])))), (by repeat (first | exact trivial | exact SubO.same rfl | exact ⟨rfl, rfl, by simp [-List.getD_eq_getElem?_getD, Up.next, take_at c13 vl0, refsOf_append, refsOf, c15, iD, numsB]⟩ | refine ⟨?_, ?_⟩)), rfl, rfl⟩ (by show ((h.getD n.toNat ob0).keys ++ (h.getD n.toNat ob0).items).length - (x.k + 1) < ((h.getD n.toNat ob0).keys ++ (h.getD n.toNat ob0).items).length - x.k; omega)
      · replace c15 : ¬ (((h.getD n.toNat ob0).keys ++ (h.getD n.toNat ob0).items).getD x.k vl0).k = 6 := of_decide_eq_false c15
        refine ev_skip ?_
        refine exBl_normal ?_
        refine exS_normal ?_
        refine ev_region tabT [] 1800 rfl ?_
        repeat (first | refine sat_same ?_ | refine sat_impA ?_ | refine sat_needA ?_)
        refine sat_done ?_
        exact exL_normal (x.next c13 rfl) ⟨(by first | exact trivial | (repeat (first | exact trivial | exact Sub.refl _ | refine ⟨?_, ?_⟩ | exact Sub.int (by first | rfl | omega | (push_cast; omega)) | exact Sub.nilSl | exact Sub.own rfl | exact Sub.slrSl rfl | exact Sub.ownSl (List.map_append).symm | exact Sub.ownSl rfl | exact Sub.own (by simp [-List.getD_eq_getElem?_getD, Up.next, take_at c13 vl0, refsOf_append, refsOf, c15, iD, numsB]) | exact Sub.int (by simp [-List.getD_eq_getElem?_getD, Up.next, take_at c13 vl0, refsOf_append, refsOf, c15, iD, numsB])))), (by repeat (first | exact trivial | exact SubO.same rfl | exact ⟨rfl, rfl, by simp [-List.getD_eq_getElem?_getD, Up.next, take_at c13 vl0, refsOf_append, refsOf, c15, iD, numsB]⟩ | refine ⟨?_, ?_⟩)), rfl, rfl⟩ (by show ((h.getD n.toNat ob0).keys ++ (h.getD n.toNat ob0).items).length - (x.k + 1) < ((h.getD n.toNat ob0).keys ++ (h.getD n.toNat ob0).items).length - x.k; omega)
    · try simp only [decide_eq_true_eq, decide_eq_false_iff_not, Bool.not_eq_true', Bool.not_eq_false', Bool.and_eq_true, Bool.or_eq_true, Bool.or_eq_false_iff, gt_iff_lt, Int.not_lt, Bool.not_true, Bool.not_false, Int.ofNat_lt, Int.ofNat_le] at c13
      refine ev_exit ?_
      refine exS_exit ?_
      refine exL_exit ?_
      refine exBl_same ?_
      refine exS_normal ?_
      refine ev_seq ?_
      refine ev_seq (ev_region tabT [] 1900 rfl ?_)
      repeat (first | refine sat_same ?_ | refine sat_impA ?_ | refine sat_needA ?_)
      refine sat_done ?_
      refine exS_normal ?_
      refine ev_cond rfl (fun c18 => ?_) (fun c18 => ?_)
      · simp only [Bool.and_eq_true, decide_eq_true_eq, Bool.not_eq_true', decide_eq_false_iff_not] at c18
        refine ev_region tabT [84] 2000 rfl ?_
        repeat (first | refine sat_same ?_ | refine sat_impA ?_ | refine sat_need (by first | rfl | (have h1 := nums_len hO x.k; simp only [List.length_map, List.length_append, List.length_cons, List.length_nil] at h1 ⊢; omega)) ?_)
        refine sat_done ?_
        refine exS_normal ?_
        refine ev_seq ?_
        refine ev_seq (ev_region tabT [] 2100 rfl ?_)
        repeat (first | refine sat_same ?_ | refine sat_impA ?_ | refine sat_needA ?_)
        refine sat_done ?_
        refine exS_normal ?_
        refine ev_block ?_
        have hns := numsS_len hO
        have htk : ((h.getD n.toNat ob0).keys ++ (h.getD n.toNat ob0).items).take x.k = ((h.getD n.toNat ob0).keys ++ (h.getD n.toNat ob0).items) := List.take_of_length_le (by omega)
        refine ev_loopK (ι := Al (numsS (h.getD n.toNat ob0)) (isObj h)) [2] [0] 2150 (fun x => [(89, .v (.int .i64 x.k)), (87, .sl false 1 (numsS (h.getD n.toNat ob0)) iD 0), (88, .v (.int .i64 (numsS (h.getD n.toNat ob0)).length))]) (fun _ => []) (fun x => (numsS (h.getD n.toNat ob0)).length - x.k) ⟨0, Nat.zero_le _, fun j x hj => by omega⟩ ?_
        refine ⟨⟨(by first | exact trivial | (repeat (first | exact trivial | exact Sub.refl _ | refine ⟨?_, ?_⟩ | exact Sub.int (by first | rfl | omega | (push_cast; omega)) | exact Sub.nilSl | exact Sub.own rfl | exact Sub.slrSl rfl | exact Sub.ownSl (List.map_append).symm | exact Sub.ownSl rfl | exact Sub.own (by simp [-List.getD_eq_getElem?_getD, numsS, htk, c18, iD]) | exact Sub.ownSl (by simp [-List.getD_eq_getElem?_getD, numsS, htk, c18, iD]) | exact Sub.int (by simp [-List.getD_eq_getElem?_getD, numsS, htk, c18, iD])))), (by repeat (first | exact trivial | exact SubO.same rfl | exact ⟨rfl, rfl, by simp [-List.getD_eq_getElem?_getD, numsS, htk, c18, iD]⟩ | refine ⟨?_, ?_⟩)), rfl, rfl⟩, fun x => ?_⟩
        have hk := x.le
        refine ev_seq (ev_region tabT [] 2200 rfl ?_)
        repeat (first | refine sat_same ?_ | refine sat_impA ?_ | refine sat_needA ?_)
        refine sat_done ?_
        refine exS_normal ?_
        refine ev_seq ?_
        refine ev_cond rfl (fun c21 => ?_) (fun c21 => ?_)
        · try simp only [decide_eq_true_eq, decide_eq_false_iff_not, Bool.not_eq_true', Bool.not_eq_false', Bool.and_eq_true, Bool.or_eq_true, Bool.or_eq_false_iff, gt_iff_lt, Int.not_lt, Bool.not_true, Bool.not_false, Int.ofNat_lt, Int.ofNat_le] at c21
          refine ev_skip ?_
          refine exS_normal ?_
          refine ev_seq ?_
          refine ev_block ?_
          refine ev_seq (ev_region tabT [] 2300 rfl ?_)
          repeat (first | refine sat_same ?_ | refine sat_impA ?_ | refine sat_needA ?_)
          refine sat_done ?_
          refine exS_normal ?_
          refine ev_seq (ev_region tabT [] 2400 rfl ?_)
          repeat (first | refine sat_same ?_ | refine sat_impA ?_ | refine sat_needA ?_)
          refine sat_fn _ (IsObject_ok _ _) rfl ?_
          repeat (first | refine sat_same ?_ | refine sat_impA ?_ | refine sat_needA ?_)
          refine sat_done ?_
          refine exS_normal ?_
          refine ev_cond rfl (fun c23 => ?_) (fun c23 => ?_)
          · try simp only [decide_eq_true_eq, decide_eq_false_iff_not, Bool.not_eq_true', Bool.not_eq_false', Bool.and_eq_true, Bool.or_eq_true, Bool.or_eq_false_iff, gt_iff_lt, Int.not_lt, Bool.not_true, Bool.not_false, Int.ofNat_lt, Int.ofNat_le] at c23
            refine ev_seq (ev_region tabT [] 2500 rfl ?_)
            repeat (first | refine sat_same ?_ | refine sat_impA ?_ | refine sat_needA ?_)
            refine sat_done ?_
            refine exS_normal ?_
            refine ev_ret ?_
            refine exBl_ret ?_
            refine exS_ret ?_
            refine exL_ret ?_
            refine exBl_ret ?_
            refine exS_ret ?_
            exact FinV.ret rfl (SubP.int (by rw [valuesS, if_pos hA, if_neg (by rw [Al.no (e := (0 : Int)) c21 c23]; decide)]))
          · try simp only [decide_eq_true_eq, decide_eq_false_iff_not, Bool.not_eq_true', Bool.not_eq_false', Bool.and_eq_true, Bool.or_eq_true, Bool.or_eq_false_iff, gt_iff_lt, Int.not_lt, Bool.not_true, Bool.not_false, Int.ofNat_lt, Int.ofNat_le] at c23
            refine ev_skip ?_
            refine exBl_normal ?_
            refine exS_normal ?_
            refine ev_region tabT [] 2600 rfl ?_
            repeat (first | refine sat_same ?_ | refine sat_impA ?_ | refine sat_needA ?_)
            refine sat_done ?_
            exact exL_normal (x.next (e := (0 : Int)) c21 c23) ⟨(by first | exact trivial | (repeat (first | exact trivial | exact Sub.refl _ | refine ⟨?_, ?_⟩ | exact Sub.int (by first | rfl | omega | (push_cast; omega)) | exact Sub.nilSl | exact Sub.own rfl | exact Sub.slrSl rfl | exact Sub.ownSl (List.map_append).symm | exact Sub.ownSl rfl))), (by repeat (first | exact trivial | exact SubO.same rfl | refine ⟨?_, ?_⟩)), rfl, rfl⟩ (by show (numsS (h.getD n.toNat ob0)).length - (x.k + 1) < (numsS (h.getD n.toNat ob0)).length - x.k; omega)
        · try simp only [decide_eq_true_eq, decide_eq_false_iff_not, Bool.not_eq_true', Bool.not_eq_false', Bool.and_eq_true, Bool.or_eq_true, Bool.or_eq_false_iff, gt_iff_lt, Int.not_lt, Bool.not_true, Bool.not_false, Int.ofNat_lt, Int.ofNat_le] at c21
          refine ev_exit ?_
          refine exS_exit ?_
          refine exL_exit ?_
          refine exBl_same ?_
          refine exS_normal ?_
          refine ev_seq (ev_region tabT [] 2700 rfl ?_)
          repeat (first | refine sat_same ?_ | refine sat_impA ?_ | refine sat_needA ?_)
          refine sat_done ?_
          refine exS_normal ?_
          refine ev_ret ?_
          exact FinV.ret rfl (SubP.int (by rw [valuesS, if_pos hA, if_pos (x.yes c21)]))
      · replace c18 : ¬ ((h.getD n.toNat ob0).kind = 18 ∧ ¬ (h.getD n.toNat ob0).state = 0) := by intro hh; simp [hh.1, hh.2, -List.getD_eq_getElem?_getD] at c18
        refine ev_skip ?_
        refine exS_normal ?_
        refine ev_seq ?_
        refine ev_seq (ev_region tabT [] 2100 rfl ?_)
        repeat (first | refine sat_same ?_ | refine sat_impA ?_ | refine sat_needA ?_)
        refine sat_done ?_
        refine exS_normal ?_
        refine ev_block ?_
        have hns := numsS_len hO
        have htk : ((h.getD n.toNat ob0).keys ++ (h.getD n.toNat ob0).items).take x.k = ((h.getD n.toNat ob0).keys ++ (h.getD n.toNat ob0).items) := List.take_of_length_le (by omega)
        refine ev_loopK (ι := Al (numsS (h.getD n.toNat ob0)) (isObj h)) [2] [0] 2150 (fun x => [(89, .v (.int .i64 x.k)), (87, .sl false 1 (numsS (h.getD n.toNat ob0)) iD 0), (88, .v (.int .i64 (numsS (h.getD n.toNat ob0)).length))]) (fun _ => []) (fun x => (numsS (h.getD n.toNat ob0)).length - x.k) ⟨0, Nat.zero_le _, fun j x hj => by omega⟩ ?_
        refine ⟨⟨(by first | exact trivial | (repeat (first | exact trivial | exact Sub.refl _ | refine ⟨?_, ?_⟩ | exact Sub.int (by first | rfl | omega | (push_cast; omega)) | exact Sub.nilSl | exact Sub.own rfl | exact Sub.slrSl rfl | exact Sub.ownSl (List.map_append).symm | exact Sub.ownSl rfl | exact Sub.own (by simp [-List.getD_eq_getElem?_getD, numsS, htk, c18, iD]) | exact Sub.ownSl (by simp [-List.getD_eq_getElem?_getD, numsS, htk, c18, iD]) | exact Sub.int (by simp [-List.getD_eq_getElem?_getD, numsS, htk, c18, iD])))), (by repeat (first | exact trivial | exact SubO.same rfl | exact ⟨rfl, rfl, by simp [-List.getD_eq_getElem?_getD, numsS, htk, c18, iD]⟩ | refine ⟨?_, ?_⟩)), rfl, rfl⟩, fun x => ?_⟩
        have hk := x.le
        refine ev_seq (ev_region tabT [] 2200 rfl ?_)
        repeat (first | refine sat_same ?_ | refine sat_impA ?_ | refine sat_needA ?_)
        refine sat_done ?_
        refine exS_normal ?_
        refine ev_seq ?_
        refine ev_cond rfl (fun c21 => ?_) (fun c21 => ?_)
        · try simp only [decide_eq_true_eq, decide_eq_false_iff_not, Bool.not_eq_true', Bool.not_eq_false', Bool.and_eq_true, Bool.or_eq_true, Bool.or_eq_false_iff, gt_iff_lt, Int.not_lt, Bool.not_true, Bool.not_false, Int.ofNat_lt, Int.ofNat_le] at c21
          refine ev_skip ?_
          refine exS_normal ?_
          refine ev_seq ?_
          refine ev_block ?_
          refine ev_seq (ev_region tabT [] 2300 rfl ?_)
          repeat (first | refine sat_same ?_ | refine sat_impA ?_ | refine sat_needA ?_)
          refine sat_done ?_
          refine exS_normal ?_
          refine ev_seq (ev_region tabT [] 2400 rfl ?_)
          repeat (first | refine sat_same ?_ | refine sat_impA ?_ | refine sat_needA ?_)
          refine sat_fn _ (IsObject_ok _ _) rfl ?_
          repeat (first | refine sat_same ?_ | refine sat_impA ?_ | refine sat_needA ?_)
          refine sat_done ?_
          refine exS_normal ?_
          refine ev_cond rfl (fun c23 => ?_) (fun c23 => ?_)
          · try simp only [decide_eq_true_eq, decide_eq_false_iff_not, Bool.not_eq_true', Bool.not_eq_false', Bool.and_eq_true, Bool.or_eq_true, Bool.or_eq_false_iff, gt_iff_lt, Int.not_lt, Bool.not_true, Bool.not_false, Int.ofNat_lt, Int.ofNat_le] at c23
            refine ev_seq (ev_region tabT [] 2500 rfl ?_)
            repeat (first | refine sat_same ?_ | refine sat_impA ?_ | refine sat_needA ?_)
            refine sat_done ?_
            refine exS_normal ?_
            refine ev_ret ?_
            refine exBl_ret ?_
            refine exS_ret ?_
            refine exL_ret ?_
            refine exBl_ret ?_
            refine exS_ret ?_
            exact FinV.ret rfl (SubP.int (by rw [valuesS, if_pos hA, if_neg (by rw [Al.no (e := (0 : Int)) c21 c23]; decide)]))
          · try simp only [decide_eq_true_eq, decide_eq_false_iff_not, Bool.not_eq_true', Bool.not_eq_false', Bool.and_eq_true, Bool.or_eq_true, Bool.or_eq_false_iff, gt_iff_lt, Int.not_lt, Bool.not_true, Bool.not_false, Int.ofNat_lt, Int.ofNat_le] at c23
            refine ev_skip ?_
            refine exBl_normal ?_
            refine exS_normal ?_
            refine ev_region tabT [] 2600 rfl ?_
            repeat (first | refine sat_same ?_ | refine sat_impA ?_ | refine sat_needA ?_)
            refine sat_done ?_
            exact exL_normal (x.next (e := (0 : Int)) c21 c23) ⟨(by first | exact trivial | (repeat (first | exact trivial | exact Sub.refl _ | refine ⟨?_, ?_⟩ | exact Sub.int (by first | rfl | omega | (push_cast; omega)) | exact Sub.nilSl | exact Sub.own rfl | exact Sub.slrSl rfl | exact Sub.ownSl (List.map_append).symm | exact Sub.ownSl rfl))), (by repeat (first | exact trivial | exact SubO.same rfl | refine ⟨?_, ?_⟩)), rfl, rfl⟩ (by show (numsS (h.getD n.toNat ob0)).length - (x.k + 1) < (numsS (h.getD n.toNat ob0)).length - x.k; omega)
        · try simp only [decide_eq_true_eq, decide_eq_false_iff_not, Bool.not_eq_true', Bool.not_eq_false', Bool.and_eq_true, Bool.or_eq_true, Bool.or_eq_false_iff, gt_iff_lt, Int.not_lt, Bool.not_true, Bool.not_false, Int.ofNat_lt, Int.ofNat_le] at c21
          refine ev_exit ?_
          refine exS_exit ?_
          refine exL_exit ?_
          refine exBl_same ?_
          refine exS_normal ?_
          refine ev_seq (ev_region tabT [] 2700 rfl ?_)
          repeat (first | refine sat_same ?_ | refine sat_impA ?_ | refine sat_needA ?_)
          refine sat_done ?_
          refine exS_normal ?_
          refine ev_ret ?_
          exact FinV.ret rfl (SubP.int (by rw [valuesS, if_pos hA, if_pos (x.yes c21)]))

end Go.Proofs.YtjlnanhjhfkddaaDoor
