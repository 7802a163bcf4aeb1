/- Part 19 of the proof. -/
import Derived.Test.YtonogeiopicibaaGreatDoorM18

/- Walks by the evaluator: the order of bases; the seventh group. -/
namespace Go.Proofs.YtonogeiopicibaaGreatDoor
open Go.RowKit
variable {md me : Bool}

theorem Order_ok (B : List (List Int)) : Fn Tryz.prog 76 [.sl false 1 B lD []] (.tup [isD (orderS B).1, fltD (orderS B).2]) := by
  refine fn_ev tabT Tryz.func76 rfl rfl rfl rfl rfl rfl ?_
  intro w0 s0 mx
  refine ev_R tabT [] 100 ?_
  refine ev_seq ?_
  refine ev_seq (ev_region tabT [] 200 rfl ?_)
  repeat (first | refine sat_same ?_ | refine sat_impA ?_ | refine sat_needA ?_)
  refine sat_fn _ (OrdersFault_ok _) rfl ?_
  repeat (first | refine sat_same ?_ | refine sat_impA ?_ | refine sat_needA ?_)
  refine sat_done ?_
  refine exS_normal ?_
  refine ev_R tabT [] 300 ?_
  refine ev_cond rfl (fun c2 => ?_) (fun c2 => ?_)
  · try simp only [Bool.not_eq_true', Bool.not_eq_false'] at c2
    first | replace c2 := of_decide_eq_true c2 | replace c2 := of_decide_eq_false c2
    refine ev_seq (ev_drawn tabT [] [[], [], [0, 1]] 400 mixT (by kernel_rfl) rfl ?_)
    repeat (first | refine sat_same ?_ | refine sat_impA ?_ | refine sat_needA ?_)
    refine sat_done ?_
    refine exS_normal ?_
    refine ev_ret ?_
    refine exS_ret ?_
    exact FinV.ret rfl (SubP.tup ⟨SubP.nilSl (by rw [orderS, if_pos c2]), SubP.of_eq (by rw [orderS, if_pos c2] <;> rfl), trivial⟩)
  · try simp only [Bool.not_eq_true', Bool.not_eq_false'] at c2
    first | replace c2 := of_decide_eq_true c2 | replace c2 := of_decide_eq_false c2
    refine ev_skip ?_
    refine exS_normal ?_
    refine ev_seq (ev_region tabT [] 500 rfl ?_)
    repeat (first | refine sat_same ?_ | refine sat_impA ?_ | refine sat_needA ?_)
    refine sat_fn _ (Merged_ok B (ofS_good c2)) rfl ?_
    repeat (first | refine sat_same ?_ | refine sat_impA ?_ | refine sat_needA ?_)
    refine sat_done ?_
    refine exS_normal ?_
    refine ev_seq ?_
    refine ev_R tabT [] 600 ?_
    refine ev_cond rfl (fun c5 => ?_) (fun c5 => ?_)
    · try simp only [Bool.not_eq_true', Bool.not_eq_false'] at c5
      first | replace c5 := of_decide_eq_true c5 | replace c5 := of_decide_eq_false c5
      refine ev_seq (ev_region tabT [] 700 rfl ?_)
      repeat (first | refine sat_same ?_ | refine sat_impA ?_ | refine sat_needA ?_)
      refine sat_fn _ (At_ok _ _) rfl ?_
      repeat (first | refine sat_same ?_ | refine sat_impA ?_ | refine sat_needA ?_)
      refine sat_done ?_
      refine exS_normal ?_
      refine ev_ret ?_
      refine exS_ret ?_
      exact FinV.ret rfl (SubP.tup ⟨SubP.nilSl (by rw [orderS, if_neg (fun hh => hh c2), if_pos c5]), SubP.of_eq (by rw [orderS, if_neg (fun hh => hh c2), if_pos c5] <;> rfl), trivial⟩)
    · try simp only [Bool.not_eq_true', Bool.not_eq_false'] at c5
      first | replace c5 := of_decide_eq_true c5 | replace c5 := of_decide_eq_false c5
      refine ev_skip ?_
      refine exS_normal ?_
      refine ev_seq ?_
      refine ev_R tabT [] 800 ?_
      refine ev_cond rfl (fun c7 => ?_) (fun c7 => ?_)
      · try simp only [Bool.not_eq_true', Bool.not_eq_false'] at c7
        first | replace c7 := of_decide_eq_true c7 | replace c7 := of_decide_eq_false c7
        refine ev_seq (ev_region tabT [] 900 rfl ?_)
        repeat (first | refine sat_same ?_ | refine sat_impA ?_ | refine sat_needA ?_)
        refine sat_fn _ (At_ok _ _) rfl ?_
        repeat (first | refine sat_same ?_ | refine sat_impA ?_ | refine sat_needA ?_)
        refine sat_done ?_
        refine exS_normal ?_
        refine ev_ret ?_
        refine exS_ret ?_
        exact FinV.ret rfl (SubP.tup ⟨SubP.nilSl (by rw [orderS, if_neg (fun hh => hh c2), if_neg c5, if_pos c7]), SubP.of_eq (by rw [orderS, if_neg (fun hh => hh c2), if_neg c5, if_pos c7] <;> rfl), trivial⟩)
      · try simp only [Bool.not_eq_true', Bool.not_eq_false'] at c7
        first | replace c7 := of_decide_eq_true c7 | replace c7 := of_decide_eq_false c7
        refine ev_skip ?_
        refine exS_normal ?_
        refine ev_R tabT [] 1000 ?_
        refine ev_ret ?_
        exact FinV.ret rfl (SubP.tup ⟨SubP.of_eq (by rw [orderS, if_neg (fun hh => hh c2), if_neg c5, if_neg c7] <;> rfl), SubP.of_eq (by rw [orderS, if_neg (fun hh => hh c2), if_neg c5, if_neg c7] <;> rfl), trivial⟩)

theorem mgF_len : ∀ (f : Nat) (taken : List Int) (left : List (List Int)), (mgF f taken left).1.length ≤ taken.length + f
  | 0, _, _ => Nat.le_refl _
  | _ + 1, taken, [] => by rw [mgF]; exact Nat.le_add_right _ _
  | f + 1, taken, l :: left => by
    rw [mgF]
    split
    · show taken.length ≤ _; omega
    · refine Nat.le_trans (mgF_len f _ _) ?_
      simp only [List.length_append, List.length_singleton]
      omega
theorem orderS_len (B : List (List Int)) : (orderS B).1.length ≤ 400 := by
  have h := mgF_len 400 [] (lft0 B)
  unfold orderS
  split
  · exact Nat.zero_le _
  · split
    · exact Nat.zero_le _
    · split
      · exact Nat.zero_le _
      · simp only [mgS]; simpa using h
theorem ords_map (h : List Ob) (o : Ob) : (o.refs.map fun n => lD (obAt h n).order) = (ordsS h o).map lD := by rw [ordsS, List.map_map]; rfl

theorem orderOk_ok (h : List Ob) (n : Int) (hn : inH h n) (hh : HpIn h) (hr : (obAt h n).kind = 9 → ∀ r ∈ (obAt h n).refs, inH h r) : Fn Tryz.prog 49 [hpD md h, .v (.int .i64 n)] (.v (.bool (orderOkS h (obAt h n) n))) := by
  have hO : ObIn (h.getD n.toNat ob0) := hh.at n
  have hrl := hO.rl
  have hol := hO.ol
  refine fn_ev tabT Tryz.func49 rfl rfl rfl rfl rfl rfl ?_
  intro w0 s0 mx
  refine ev_R tabT [] 100 ?_
  refine ev_seq (ev_region tabT [] 200 rfl ?_)
  repeat (first | refine sat_same ?_ | refine sat_impA ?_ | refine sat_need (by exact hn) ?_)
  refine sat_done ?_
  refine exS_normal ?_
  refine ev_seq ?_
  refine ev_R tabT [] 300 ?_
  refine ev_cond rfl (fun c2 => ?_) (fun c2 => ?_)
  · replace c2 : ¬ (h.getD n.toNat ob0).kind = 9 := by simpa only [Bool.not_eq_true', decide_eq_false_iff_not] using c2
    refine ev_R tabT [] 400 ?_
    refine ev_ret ?_
    refine exS_ret ?_
    exact FinV.ret rfl (SubP.bool (by rw [orderOkS, if_pos c2]))
  · replace c2 : (h.getD n.toNat ob0).kind = 9 := by simpa only [Bool.not_eq_false', decide_eq_true_eq] using c2
    refine ev_skip ?_
    refine exS_normal ?_
    refine ev_R tabT [] 500 ?_
    refine ev_nilRow 6 42 1 rfl ?_
    refine ev_seq ?_
    refine ev_R tabT [] 600 ?_
    refine ev_block ?_
    refine ev_loopK (ι := Up (h.getD n.toNat ob0).refs.length (fun _ => true)) [1, 2, 5, 20, 21] [0, 105] 650 (fun x => [(22, .v (.int .i64 x.k)), (6, .own 500 1 (((h.getD n.toNat ob0).refs.take x.k).map fun n => lD (obAt h n).order))]) (fun x => [(500, .row 42 1 (((h.getD n.toNat ob0).refs.take x.k).map fun n => lD (obAt h n).order).length)]) (fun x => (h.getD n.toNat ob0).refs.length - x.k) ⟨0, Nat.zero_le _, fun j hj => by omega⟩ ?_
    refine ⟨⟨(by first | exact trivial | (repeat (first | exact trivial | exact Sub.refl _ | refine ⟨?_, ?_⟩ | exact Sub.int (by first | rfl | omega | (push_cast; omega)) | exact Sub.nilSl | exact Sub.own rfl | exact Sub.slrSl rfl | exact Sub.ownSl (List.map_append).symm | exact Sub.ownSl rfl | exact Sub.own (by simp [-List.getD_eq_getElem?_getD, lD]) | exact Sub.ownSl (by simp [-List.getD_eq_getElem?_getD, lD]) | exact Sub.int (by simp [-List.getD_eq_getElem?_getD, lD])))), (by repeat (first | exact trivial | exact SubO.same rfl | exact ⟨rfl, rfl, by simp [-List.getD_eq_getElem?_getD, lD]⟩ | refine ⟨?_, ?_⟩)), rfl, rfl⟩, fun x => ?_⟩
    have hk := x.le
    refine ev_R tabT [] 700 ?_
    refine ev_seq ?_
    refine ev_if (fun c6 => ?_) (fun c6 => ?_)
    · 
      refine ev_skip ?_
      refine exS_normal ?_
      refine ev_seq ?_
      refine ev_block ?_
      refine ev_R tabT [] 800 ?_
      refine ev_region tabT [] 900 rfl ?_
      repeat (first | refine sat_same ?_ | refine sat_impA ?_ | refine sat_need (by first | rfl | exact hr c2 _ (mem_getD c6 0) | (simp only [List.length_map, List.length_take, List.length_cons, List.length_nil]; omega)) ?_)
      refine sat_done ?_
      refine exBl_normal ?_
      refine exS_normal ?_
      refine ev_Q tabT [] 1000 ?_
      exact exL_normal (x.next c6 rfl) ⟨⟨Sub.refl _, Sub.own (by show _ = (((h.getD n.toNat ob0).refs.take (x.k + 1)).map fun n => lD (obAt h n).order); rw [take_at c6 0, List.map_append]; rfl), by repeat (first | exact trivial | exact Sub.refl _ | refine ⟨?_, ?_⟩)⟩, ⟨⟨rfl, rfl, by show _ = (((h.getD n.toNat ob0).refs.take (x.k + 1)).map fun n => lD (obAt h n).order).length; rw [take_at c6 0, List.map_append]; rfl⟩, by repeat (first | exact trivial | exact SubO.same rfl | refine ⟨?_, ?_⟩)⟩, rfl, rfl⟩ (by show (h.getD n.toNat ob0).refs.length - (x.k + 1) < (h.getD n.toNat ob0).refs.length - x.k; omega)
    · 
      refine ev_exit ?_
      refine exS_exit ?_
      refine exL_exit ?_
      refine exBl_same ?_
      refine exS_normal ?_
      refine ev_seq (ev_region tabT [] 1100 rfl ?_)
      repeat (first | refine sat_same ?_ | refine sat_impA ?_ | refine sat_needA ?_)
      refine sat_fn _ ((Order_ok (ordsS h (h.getD n.toNat ob0))).args ⟨SubP.ownSl (k := 500) (by rw [List.take_of_length_le (by omega), ords_map]), trivial⟩) rfl ?_
      repeat (first | refine sat_same ?_ | refine sat_impA ?_ | refine sat_needA ?_)
      refine sat_done ?_
      refine exS_normal ?_
      refine ev_seq (ev_drawn tabT [48] [[], [0], [0, 1], [0, 1, 2], [0, 1, 2, 3], [0, 1, 2, 3, 4], [0, 1, 2, 3], [0, 1, 2, 3, 6], [0, 1, 2, 3], [0, 1, 2, 3, 6, 7, 8], [0, 1, 2, 3, 4, 5, 6, 7, 8, 9], [0, 1, 2, 3, 4, 5, 6, 7, 8, 9, 10], [0, 1, 2, 3, 4, 5, 6, 7, 8, 9, 10, 11]] 1200 mixT (by kernel_rfl) rfl ?_)
      repeat (first | refine sat_same ?_ | refine sat_impA ?_ | refine sat_need (by first | rfl | (intro hh; exact absurd hh (by rw [hs]; decide)) | (have := orderS_len (ordsS h (h.getD n.toNat ob0)); simp only [List.length_map, List.length_cons, List.length_nil]; omega)) ?_)
      refine sat_split (fun hs => ?_) (fun hs => ?_)
      · repeat (first | refine sat_same ?_ | refine sat_impA ?_ | refine sat_need (by first | rfl | (intro hh; exact absurd hh (by rw [hs]; decide)) | (have := orderS_len (ordsS h (h.getD n.toNat ob0)); simp only [List.length_map, List.length_cons, List.length_nil]; omega)) ?_)
        refine sat_split (fun hs2 => ?_) (fun hs2 => by rw [hs] at hs2; cases hs2)
        repeat (first | refine sat_same ?_ | refine sat_impA ?_ | refine sat_need (by first | rfl | (intro hh; exact absurd hh (by rw [hs]; decide)) | (have := orderS_len (ordsS h (h.getD n.toNat ob0)); simp only [List.length_map, List.length_cons, List.length_nil]; omega)) ?_)
        refine sat_fnG _ (fun hg => (Ints_ok (h.getD n.toNat ob0).order ([n] ++ (orderS (ordsS h (h.getD n.toNat ob0))).1)).args ⟨SubP.refl _, SubP.ownSl (k := 1107) (by rw [List.map_append]; rfl), trivial⟩) rfl ?_
        repeat (first | refine sat_same ?_ | refine sat_impA ?_ | refine sat_need (by first | rfl | (intro hh; exact absurd hh (by rw [hs]; decide)) | (have := orderS_len (ordsS h (h.getD n.toNat ob0)); simp only [List.length_map, List.length_cons, List.length_nil]; omega)) ?_)
        refine sat_done ?_
        refine exS_normal ?_
        refine ev_ret ?_
        exact FinV.ret rfl (SubP.bool (by rw [orderOkS, if_neg (fun hh => hh c2)]))
      · repeat (first | refine sat_same ?_ | refine sat_impA ?_ | refine sat_need (by first | rfl | (intro hh; exact absurd hh (by rw [hs]; decide)) | (have := orderS_len (ordsS h (h.getD n.toNat ob0)); simp only [List.length_map, List.length_cons, List.length_nil]; omega)) ?_)
        refine sat_split (fun hs2 => by rw [hs] at hs2; cases hs2) (fun hs2 => ?_)
        repeat (first | refine sat_same ?_ | refine sat_impA ?_ | refine sat_need (by first | rfl | (intro hh; exact absurd hh (by rw [hs]; decide)) | (have := orderS_len (ordsS h (h.getD n.toNat ob0)); simp only [List.length_map, List.length_cons, List.length_nil]; omega)) ?_)
        refine sat_fnG (.v (.bool false)) (fun hg => by rw [hs] at hg; cases hg) rfl ?_
        repeat (first | refine sat_same ?_ | refine sat_impA ?_ | refine sat_need (by first | rfl | (intro hh; exact absurd hh (by rw [hs]; decide)) | (have := orderS_len (ordsS h (h.getD n.toNat ob0)); simp only [List.length_map, List.length_cons, List.length_nil]; omega)) ?_)
        refine sat_done ?_
        refine exS_normal ?_
        refine ev_ret ?_
        exact FinV.ret rfl (SubP.bool (by rw [orderOkS, if_neg (fun hh => hh c2), hs]; rfl))

end Go.Proofs.YtonogeiopicibaaGreatDoor

/- Walks by the evaluator: the attributes of exceptions. -/
namespace Go.Proofs.YtonogeiopicibaaGreatDoor
open Go.RowKit
variable {md me : Bool}

def want4 : List ByteArray := [⟨#[97, 114, 103, 115]⟩, ⟨#[99, 97, 117, 115, 101]⟩, ⟨#[99, 111, 110, 116, 101, 120, 116]⟩, ⟨#[116, 114, 97, 99, 101]⟩]
def want5 : List ByteArray := want4 ++ [⟨#[109, 101, 109, 98, 101, 114, 115]⟩]
abbrev midV (l : List Vl) : List Vl := (l.drop (Int.toNat 1)).take ((3 : Int).toNat - Int.toNat 1)
def cauP (h : List Ob) (v : Vl) : Bool := !(!decide (v.k = 0) && !excS h v)
def mkP (h : List Ob) (v : Vl) : Bool := !(((!decide ((objS h v).kind = 1) || !decide (((objS h v).items.length : Int) = 2)) || !decide (((objS h v).items.getD (Int.toNat 0) vl0).k = 4)) || !decide (((objS h v).items.getD (Int.toNat 1) vl0).k = 2))
def memP (h : List Ob) (i : Int) (v : Vl) : Bool := !(!excS h v || decide (i ≤ v.r))
def wantB (o : Ob) (w : List ByteArray) : Bool := decide ((o.names.length : Int) < w.length) || !decide (((o.names.drop (Int.toNat 0)).take ((w.length : Int).toNat - Int.toNat 0)) = w)
/-- The first attributes of an exception. -/
def excOkS (h : List Ob) (o : Ob) (i : Int) : Bool :=
  if hasB (obAt h o.cls).order 48 = true then
    (if wantB o want5 = true then false
    else if (midV o.items).all (cauP h) = false then false
    else if (!decide ((objS h (o.items.getD (Int.toNat 0) vl0)).kind = 1) || !decide ((objS h (o.items.getD (Int.toNat 3) vl0)).kind = 1)) = true then false
    else if (objS h (o.items.getD (Int.toNat 3) vl0)).items.all (mkP h) = false then false
    else if (objS h (o.items.getD (Int.toNat 4) vl0)).items.all (memP h i) = false then false
    else (decide ((objS h (o.items.getD (Int.toNat 4) vl0)).kind = 1) && decide ((0 : Int) < (objS h (o.items.getD (Int.toNat 4) vl0)).items.length)) && decide ((0 : Int) < (objS h (o.items.getD (Int.toNat 0) vl0)).items.length))
  else
    (if wantB o want4 = true then false
    else if (midV o.items).all (cauP h) = false then false
    else if (!decide ((objS h (o.items.getD (Int.toNat 0) vl0)).kind = 1) || !decide ((objS h (o.items.getD (Int.toNat 3) vl0)).kind = 1)) = true then false
    else if (objS h (o.items.getD (Int.toNat 3) vl0)).items.all (mkP h) = false then false
    else true)
theorem wantB_len {o : Ob} {w : List ByteArray} (h : wantB o w = false) : w.length ≤ o.names.length := by
  simp only [wantB, Bool.or_eq_false_iff, decide_eq_false_iff_not] at h
  omega
theorem mid_len (l : List Vl) : (midV l).length ≤ 2 := by
  show ((l.drop 1).take (3 - 1)).length ≤ 2
  rw [List.length_take]; omega

set_option maxHeartbeats 1000000 in
theorem exceptionOk_ok (h : List Ob) (n : Int) (hn : inH h n) (hh : HpIn h) (hc : inH h (obAt h n).cls) (hit : (obAt h n).items.length = (obAt h n).names.length) : Fn Tryz.prog 73 [hpD md h, .v (.int .i64 n)] (.v (.bool (excOkS h (obAt h n) n))) := by
  have hO : ObIn (h.getD n.toNat ob0) := hh.at n
  have hil := hO.il
  have hnl := hO.nl
  have hit : (h.getD n.toNat ob0).items.length = (h.getD n.toNat ob0).names.length := hit
  have htl := (objS_in hh ((h.getD n.toNat ob0).items.getD (Int.toNat 3) vl0)).il
  have hml := (objS_in hh ((h.getD n.toNat ob0).items.getD (Int.toNat 4) vl0)).il
  have hmd := mid_len (h.getD n.toNat ob0).items
  refine fn_ev tabT Tryz.func73 rfl rfl rfl rfl rfl rfl ?_
  intro w0 s0 mx
  refine ev_R tabT [] 100 ?_
  refine ev_seq (ev_region tabT [] 200 rfl ?_)
  repeat (first | refine sat_same ?_ | refine sat_impA ?_ | refine sat_need (by exact hn) ?_)
  refine sat_done ?_
  refine exS_normal ?_
  refine ev_seq (ev_region tabT [23] 300 rfl ?_)
  repeat (first | refine sat_same ?_ | refine sat_impA ?_ | refine sat_need (by first | rfl | exact trivial) ?_)
  refine sat_done ?_
  refine exS_normal ?_
  refine ev_seq (ev_region tabT [] 400 rfl ?_)
  repeat (first | refine sat_same ?_ | refine sat_impA ?_ | refine sat_need (by exact hc) ?_)
  refine sat_fn _ (ContainsI_ok _ _) rfl ?_
  repeat (first | refine sat_same ?_ | refine sat_impA ?_ | refine sat_need (by exact hc) ?_)
  refine sat_done ?_
  refine exS_normal ?_
  refine ev_seq ?_
  refine ev_R tabT [] 500 ?_
  refine ev_cond rfl (fun c4 => ?_) (fun c4 => ?_)
  · 
    refine ev_region tabT [] 600 rfl ?_
    repeat (first | refine sat_same ?_ | refine sat_impA ?_ | refine sat_need (by first | rfl | decide | (show 4 + 1 ≤ 1073741824; omega)) ?_)
    refine sat_done ?_
    refine exS_normal ?_
    refine ev_seq ?_
    refine ev_seq (ev_region tabT [] 700 rfl ?_)
    repeat (first | refine sat_same ?_ | refine sat_impA ?_ | refine sat_need (by first | rfl | (intro hh; simp only [Bool.not_eq_true', decide_eq_false_iff_not] at hh; refine ⟨by decide, ?_, ?_⟩ <;> (simp only [List.length_append, List.length_cons, List.length_nil] at hh ⊢; omega))) ?_)
    refine sat_fnG _ (fun hg13 => (Strings_ok _ want5).args ⟨SubP.refl _, SubP.ownSl (k := 200) rfl, trivial⟩) rfl ?_
    repeat (first | refine sat_same ?_ | refine sat_impA ?_ | refine sat_need (by first | rfl | (intro hh; simp only [Bool.not_eq_true', decide_eq_false_iff_not] at hh; refine ⟨by decide, ?_, ?_⟩ <;> (simp only [List.length_append, List.length_cons, List.length_nil] at hh ⊢; omega))) ?_)
    refine sat_done ?_
    refine exS_normal ?_
    refine ev_cond rfl (fun c6 => ?_) (fun c6 => ?_)
    · have c6w : wantB (h.getD n.toNat ob0) want5 = true := c6
      refine ev_R tabT [] 800 ?_
      refine ev_ret ?_
      refine exS_ret ?_
      exact FinV.ret rfl (SubP.bool (by rw [excOkS, if_pos c4, if_pos c6w]))
    · have c6w : wantB (h.getD n.toNat ob0) want5 = false := c6
      refine ev_skip ?_
      refine exS_normal ?_
      refine ev_seq (ev_drawn tabT [] [[], [], [1], [1, 2], [1, 2, 3], [0, 1, 2, 3, 4], [], [], [7], [7, 8], [7, 8, 9], [0, 1, 2, 3, 4, 5, 6, 7, 8, 9, 10], [], [], [0, 1, 2, 3, 4, 5, 6, 7, 8, 9, 10, 11, 12, 13], [0, 1, 2, 3, 4, 5, 6, 7, 8, 9, 10, 11, 12, 13, 14]] 900 mixT (by kernel_rfl) rfl ?_)
      repeat (first | refine sat_same ?_ | refine sat_impA ?_ | refine sat_need (by (refine ⟨by decide, ?_⟩; show _ < (h.getD n.toNat ob0).items.length; have := wantB_len c6w; simp only [want4, want5, List.length_append, List.length_cons, List.length_nil] at this; omega)) ?_)
      refine sat_fn _ (Obj_ok _ _) rfl ?_
      repeat (first | refine sat_same ?_ | refine sat_impA ?_ | refine sat_need (by (refine ⟨by decide, ?_⟩; show _ < (h.getD n.toNat ob0).items.length; have := wantB_len c6w; simp only [want4, want5, List.length_append, List.length_cons, List.length_nil] at this; omega)) ?_)
      refine sat_fn _ (Obj_ok _ _) rfl ?_
      repeat (first | refine sat_same ?_ | refine sat_impA ?_ | refine sat_need (by (refine ⟨by decide, ?_⟩; show _ < (h.getD n.toNat ob0).items.length; have := wantB_len c6w; simp only [want4, want5, List.length_append, List.length_cons, List.length_nil] at this; omega)) ?_)
      refine sat_done ?_
      refine exS_normal ?_
      refine ev_seq ?_
      refine ev_seq (ev_region tabT [] 1000 rfl ?_)
      repeat (first | refine sat_same ?_ | refine sat_impA ?_ | refine sat_need (by (refine ⟨by decide, by decide, ?_⟩; have := wantB_len c6w; simp only [want4, want5, List.length_append, List.length_cons, List.length_nil] at this; omega)) ?_)
      refine sat_done ?_
      refine exS_normal ?_
      refine ev_block ?_
      refine ev_loopK (ι := Al (midV (h.getD n.toNat ob0).items) (cauP h)) [1, 2, 5, 7, 8, 9, 66, 67] [0, 105, 712, 713] 1050 (fun x => [(68, .v (.int .i64 x.k))]) (fun _ => []) (fun x => (midV (h.getD n.toNat ob0).items).length - x.k) ⟨0, Nat.zero_le _, fun j x hj => by omega⟩ ?_
      refine ⟨⟨le_t, le_o, rfl, rfl⟩, fun x => ?_⟩
      have hk := x.le
      refine ev_R tabT [] 1100 ?_
      refine ev_seq ?_
      refine ev_if (fun c10 => ?_) (fun c10 => ?_)
      · 
        refine ev_skip ?_
        refine exS_normal ?_
        refine ev_seq ?_
        refine ev_block ?_
        refine ev_R tabT [] 1200 ?_
        refine ev_seq (ev_region tabT [] 1300 rfl ?_)
        repeat (first | refine sat_same ?_ | refine sat_impA ?_ | refine sat_needA ?_)
        refine sat_fnG _ (fun hg6 => Exception_ok _ _) rfl ?_
        repeat (first | refine sat_same ?_ | refine sat_impA ?_ | refine sat_needA ?_)
        refine sat_done ?_
        refine exS_normal ?_
        refine ev_cond rfl (fun c12 => ?_) (fun c12 => ?_)
        · 
          refine ev_R tabT [] 1400 ?_
          refine ev_ret ?_
          refine exBl_ret ?_
          refine exS_ret ?_
          refine exL_ret ?_
          refine exBl_ret ?_
          refine exS_ret ?_
          exact FinV.ret rfl (SubP.bool (by rw [excOkS, if_pos c4, if_neg (by rw [c6w]; decide), if_pos (Al.no (p := cauP h) (e := vl0) c10 (congrArg Bool.not c12))]))
        · 
          refine ev_skip ?_
          refine exBl_normal ?_
          refine exS_normal ?_
          refine ev_Q tabT [] 1500 ?_
          exact exL_normal (x.next (e := vl0) c10 (congrArg Bool.not c12)) ⟨le_t, le_o, rfl, rfl⟩ (by have c10b : x.k < (midV (h.getD n.toNat ob0).items).length := c10; show (midV (h.getD n.toNat ob0).items).length - (x.k + 1) < (midV (h.getD n.toNat ob0).items).length - x.k; omega)
      · 
        refine ev_exit ?_
        refine exS_exit ?_
        refine exL_exit ?_
        refine exBl_same ?_
        refine exS_normal ?_
        refine ev_seq ?_
        refine ev_R tabT [] 1600 ?_
        refine ev_cond rfl (fun c15 => ?_) (fun c15 => ?_)
        · 
          refine ev_R tabT [] 1700 ?_
          refine ev_ret ?_
          refine exS_ret ?_
          exact FinV.ret rfl (SubP.bool (by rw [excOkS, if_pos c4, if_neg (by rw [c6w]; decide), if_neg (by rw [x.yes c10]; decide), if_pos c15]))
        · 
          refine ev_skip ?_
          refine exS_normal ?_
          refine ev_seq ?_
          refine ev_R tabT [] 1800 ?_
          refine ev_block ?_
          have hA := x.yes c10
          refine ev_loopK (ι := Al (objS h ((h.getD n.toNat ob0).items.getD (Int.toNat 3) vl0)).items (mkP h)) [1, 2, 5, 7, 8, 91, 92] [0, 105, 712] 1850 (fun x => [(93, .v (.int .i64 x.k))]) (fun _ => []) (fun x => (objS h ((h.getD n.toNat ob0).items.getD (Int.toNat 3) vl0)).items.length - x.k) ⟨0, Nat.zero_le _, fun j x hj => by omega⟩ ?_
          refine ⟨⟨le_t, le_o, rfl, rfl⟩, fun x => ?_⟩
          have hk := x.le
          refine ev_R tabT [] 1900 ?_
          refine ev_seq ?_
          refine ev_if (fun c18 => ?_) (fun c18 => ?_)
          · 
            refine ev_skip ?_
            refine exS_normal ?_
            refine ev_seq ?_
            refine ev_block ?_
            refine ev_R tabT [] 2000 ?_
            refine ev_seq (ev_region tabT [] 2100 rfl ?_)
            repeat (first | refine sat_same ?_ | refine sat_impA ?_ | refine sat_needA ?_)
            refine sat_fn _ (Obj_ok _ _) rfl ?_
            repeat (first | refine sat_same ?_ | refine sat_impA ?_ | refine sat_needA ?_)
            refine sat_done ?_
            refine exS_normal ?_
            refine ev_seq (ev_region tabT [] 2200 rfl ?_)
            repeat (first | refine sat_same ?_ | refine sat_impA ?_ | refine sat_need (by first | (intro hh; simp only [Bool.not_eq_true', Bool.or_eq_false_iff, Bool.not_eq_false', decide_eq_true_eq] at hh; refine ⟨by decide, ?_⟩; omega) | omega) ?_)
            refine sat_done ?_
            refine exS_normal ?_
            refine ev_cond rfl (fun c21 => ?_) (fun c21 => ?_)
            · 
              refine ev_R tabT [] 2300 ?_
              refine ev_ret ?_
              refine exBl_ret ?_
              refine exS_ret ?_
              refine exL_ret ?_
              refine exBl_ret ?_
              refine exS_ret ?_
              exact FinV.ret rfl (SubP.bool (by rw [excOkS, if_pos c4, if_neg (by rw [c6w]; decide), if_neg (by rw [hA]; decide), if_neg (by rw [c15]; decide), if_pos (Al.no (p := mkP h) (e := vl0) c18 (congrArg Bool.not c21))]))
            · 
              refine ev_skip ?_
              refine exBl_normal ?_
              refine exS_normal ?_
              refine ev_Q tabT [] 2400 ?_
              exact exL_normal (x.next (e := vl0) c18 (congrArg Bool.not c21)) ⟨le_t, le_o, rfl, rfl⟩ (by show (objS h ((h.getD n.toNat ob0).items.getD (Int.toNat 3) vl0)).items.length - (x.k + 1) < (objS h ((h.getD n.toNat ob0).items.getD (Int.toNat 3) vl0)).items.length - x.k; omega)
          · 
            refine ev_exit ?_
            refine exS_exit ?_
            refine exL_exit ?_
            refine exBl_same ?_
            refine exS_normal ?_
            refine ev_seq ?_
            refine ev_R tabT [] 2500 ?_
            refine ev_cond rfl (fun c24 => ?_) (fun c24 => ?_)
            · 
              refine ev_R tabT [] 2600 ?_
              refine ev_ret ?_
              refine exS_ret ?_
              exact absurd c24 (by rw [c4]; decide)
            · 
              refine ev_skip ?_
              refine exS_normal ?_
              refine ev_seq (ev_drawn tabT [] [[], [], [1], [1, 2], [1, 2, 3], [0, 1, 2, 3, 4], [], [0, 1, 2, 3, 4, 5, 6]] 2700 mixT (by kernel_rfl) rfl ?_)
              repeat (first | refine sat_same ?_ | refine sat_impA ?_ | refine sat_need (by (refine ⟨by decide, ?_⟩; show _ < (h.getD n.toNat ob0).items.length; have := wantB_len c6w; first | (simp only [want5, want4, List.length_append, List.length_cons, List.length_nil] at this; omega) | exact absurd c24 (by rw [c4]; decide))) ?_)
              refine sat_fn _ (Obj_ok _ _) rfl ?_
              repeat (first | refine sat_same ?_ | refine sat_impA ?_ | refine sat_need (by (refine ⟨by decide, ?_⟩; show _ < (h.getD n.toNat ob0).items.length; have := wantB_len c6w; first | (simp only [want5, want4, List.length_append, List.length_cons, List.length_nil] at this; omega) | exact absurd c24 (by rw [c4]; decide))) ?_)
              refine sat_done ?_
              refine exS_normal ?_
              refine ev_seq ?_
              refine ev_R tabT [] 2800 ?_
              refine ev_block ?_
              have hB := x.yes c18
              refine ev_loopK (ι := Al (objS h ((h.getD n.toNat ob0).items.getD (Int.toNat 4) vl0)).items (memP h n)) [1, 2, 8, 15, 135, 136] [0, 712, 2506] 2850 (fun x => [(137, .v (.int .i64 x.k))]) (fun _ => []) (fun x => (objS h ((h.getD n.toNat ob0).items.getD (Int.toNat 4) vl0)).items.length - x.k) ⟨0, Nat.zero_le _, fun j x hj => by omega⟩ ?_
              refine ⟨⟨le_t, le_o, rfl, rfl⟩, fun x => ?_⟩
              have hk := x.le
              refine ev_R tabT [] 2900 ?_
              refine ev_seq ?_
              refine ev_if (fun c28 => ?_) (fun c28 => ?_)
              · 
                refine ev_skip ?_
                refine exS_normal ?_
                refine ev_seq ?_
                refine ev_block ?_
                refine ev_R tabT [] 3000 ?_
                refine ev_seq (ev_region tabT [] 3100 rfl ?_)
                repeat (first | refine sat_same ?_ | refine sat_impA ?_ | refine sat_needA ?_)
                refine sat_fn _ (Exception_ok _ _) rfl ?_
                repeat (first | refine sat_same ?_ | refine sat_impA ?_ | refine sat_needA ?_)
                refine sat_done ?_
                refine exS_normal ?_
                refine ev_cond rfl (fun c30 => ?_) (fun c30 => ?_)
                · 
                  refine ev_R tabT [] 3200 ?_
                  refine ev_ret ?_
                  refine exBl_ret ?_
                  refine exS_ret ?_
                  refine exL_ret ?_
                  refine exBl_ret ?_
                  refine exS_ret ?_
                  exact FinV.ret rfl (SubP.bool (by rw [excOkS, if_pos c4, if_neg (by rw [c6w]; decide), if_neg (by rw [hA]; decide), if_neg (by rw [c15]; decide), if_neg (by rw [hB]; decide), if_pos (Al.no (p := memP h n) (e := vl0) c28 (congrArg Bool.not c30))]))
                · 
                  refine ev_skip ?_
                  refine exBl_normal ?_
                  refine exS_normal ?_
                  refine ev_Q tabT [] 3300 ?_
                  exact exL_normal (x.next (e := vl0) c28 (congrArg Bool.not c30)) ⟨le_t, le_o, rfl, rfl⟩ (by show (objS h ((h.getD n.toNat ob0).items.getD (Int.toNat 4) vl0)).items.length - (x.k + 1) < (objS h ((h.getD n.toNat ob0).items.getD (Int.toNat 4) vl0)).items.length - x.k; omega)
              · 
                refine ev_exit ?_
                refine exS_exit ?_
                refine exL_exit ?_
                refine exBl_same ?_
                refine exS_normal ?_
                refine ev_R tabT [] 3400 ?_
                refine ev_ret ?_
                exact FinV.ret rfl (SubP.bool (by rw [excOkS, if_pos c4, if_neg (by rw [c6w]; decide), if_neg (by rw [hA]; decide), if_neg (by rw [c15]; decide), if_neg (by rw [hB]; decide), if_neg (by rw [x.yes c28]; decide)]))
  · 
    refine ev_skip ?_
    refine exS_normal ?_
    refine ev_seq ?_
    refine ev_seq (ev_region tabT [] 700 rfl ?_)
    repeat (first | refine sat_same ?_ | refine sat_impA ?_ | refine sat_need (by first | rfl | (intro hh; simp only [Bool.not_eq_true', decide_eq_false_iff_not] at hh; refine ⟨by decide, ?_, ?_⟩ <;> (simp only [List.length_append, List.length_cons, List.length_nil] at hh ⊢; omega))) ?_)
    refine sat_fnG _ (fun hg13 => (Strings_ok _ want4).args ⟨SubP.refl _, SubP.ownSl (k := 200) rfl, trivial⟩) rfl ?_
    repeat (first | refine sat_same ?_ | refine sat_impA ?_ | refine sat_need (by first | rfl | (intro hh; simp only [Bool.not_eq_true', decide_eq_false_iff_not] at hh; refine ⟨by decide, ?_, ?_⟩ <;> (simp only [List.length_append, List.length_cons, List.length_nil] at hh ⊢; omega))) ?_)
    refine sat_done ?_
    refine exS_normal ?_
    refine ev_cond rfl (fun c6 => ?_) (fun c6 => ?_)
    · have c6w : wantB (h.getD n.toNat ob0) want4 = true := c6
      refine ev_R tabT [] 800 ?_
      refine ev_ret ?_
      refine exS_ret ?_
      exact FinV.ret rfl (SubP.bool (by rw [excOkS, if_neg (by rw [c4]; decide), if_pos c6w]))
    · have c6w : wantB (h.getD n.toNat ob0) want4 = false := c6
      refine ev_skip ?_
      refine exS_normal ?_
      refine ev_seq (ev_drawn tabT [] [[], [], [1], [1, 2], [1, 2, 3], [0, 1, 2, 3, 4], [], [], [7], [7, 8], [7, 8, 9], [0, 1, 2, 3, 4, 5, 6, 7, 8, 9, 10], [], [], [0, 1, 2, 3, 4, 5, 6, 7, 8, 9, 10, 11, 12, 13], [0, 1, 2, 3, 4, 5, 6, 7, 8, 9, 10, 11, 12, 13, 14]] 900 mixT (by kernel_rfl) rfl ?_)
      repeat (first | refine sat_same ?_ | refine sat_impA ?_ | refine sat_need (by (refine ⟨by decide, ?_⟩; show _ < (h.getD n.toNat ob0).items.length; have := wantB_len c6w; simp only [want4, want5, List.length_append, List.length_cons, List.length_nil] at this; omega)) ?_)
      refine sat_fn _ (Obj_ok _ _) rfl ?_
      repeat (first | refine sat_same ?_ | refine sat_impA ?_ | refine sat_need (by (refine ⟨by decide, ?_⟩; show _ < (h.getD n.toNat ob0).items.length; have := wantB_len c6w; simp only [want4, want5, List.length_append, List.length_cons, List.length_nil] at this; omega)) ?_)
      refine sat_fn _ (Obj_ok _ _) rfl ?_
      repeat (first | refine sat_same ?_ | refine sat_impA ?_ | refine sat_need (by (refine ⟨by decide, ?_⟩; show _ < (h.getD n.toNat ob0).items.length; have := wantB_len c6w; simp only [want4, want5, List.length_append, List.length_cons, List.length_nil] at this; omega)) ?_)
      refine sat_done ?_
      refine exS_normal ?_
      refine ev_seq ?_
      refine ev_seq (ev_region tabT [] 1000 rfl ?_)
      repeat (first | refine sat_same ?_ | refine sat_impA ?_ | refine sat_need (by (refine ⟨by decide, by decide, ?_⟩; have := wantB_len c6w; simp only [want4, want5, List.length_append, List.length_cons, List.length_nil] at this; omega)) ?_)
      refine sat_done ?_
      refine exS_normal ?_
      refine ev_block ?_
      refine ev_loopK (ι := Al (midV (h.getD n.toNat ob0).items) (cauP h)) [1, 2, 5, 7, 8, 9, 66, 67] [0, 105, 712, 713] 1050 (fun x => [(68, .v (.int .i64 x.k))]) (fun _ => []) (fun x => (midV (h.getD n.toNat ob0).items).length - x.k) ⟨0, Nat.zero_le _, fun j x hj => by omega⟩ ?_
      refine ⟨⟨le_t, le_o, rfl, rfl⟩, fun x => ?_⟩
      have hk := x.le
      refine ev_R tabT [] 1100 ?_
      refine ev_seq ?_
      refine ev_if (fun c10 => ?_) (fun c10 => ?_)
      · 
        refine ev_skip ?_
        refine exS_normal ?_
        refine ev_seq ?_
        refine ev_block ?_
        refine ev_R tabT [] 1200 ?_
        refine ev_seq (ev_region tabT [] 1300 rfl ?_)
        repeat (first | refine sat_same ?_ | refine sat_impA ?_ | refine sat_needA ?_)
        refine sat_fnG _ (fun hg6 => Exception_ok _ _) rfl ?_
        repeat (first | refine sat_same ?_ | refine sat_impA ?_ | refine sat_needA ?_)
        refine sat_done ?_
        refine exS_normal ?_
        refine ev_cond rfl (fun c12 => ?_) (fun c12 => ?_)
        · 
          refine ev_R tabT [] 1400 ?_
          refine ev_ret ?_
          refine exBl_ret ?_
          refine exS_ret ?_
          refine exL_ret ?_
          refine exBl_ret ?_
          refine exS_ret ?_
          exact FinV.ret rfl (SubP.bool (by rw [excOkS, if_neg (by rw [c4]; decide), if_neg (by rw [c6w]; decide), if_pos (Al.no (p := cauP h) (e := vl0) c10 (congrArg Bool.not c12))]))
        · 
          refine ev_skip ?_
          refine exBl_normal ?_
          refine exS_normal ?_
          refine ev_Q tabT [] 1500 ?_
          exact exL_normal (x.next (e := vl0) c10 (congrArg Bool.not c12)) ⟨le_t, le_o, rfl, rfl⟩ (by have c10b : x.k < (midV (h.getD n.toNat ob0).items).length := c10; show (midV (h.getD n.toNat ob0).items).length - (x.k + 1) < (midV (h.getD n.toNat ob0).items).length - x.k; omega)
      · 
        refine ev_exit ?_
        refine exS_exit ?_
        refine exL_exit ?_
        refine exBl_same ?_
        refine exS_normal ?_
        refine ev_seq ?_
        refine ev_R tabT [] 1600 ?_
        refine ev_cond rfl (fun c15 => ?_) (fun c15 => ?_)
        · 
          refine ev_R tabT [] 1700 ?_
          refine ev_ret ?_
          refine exS_ret ?_
          exact FinV.ret rfl (SubP.bool (by rw [excOkS, if_neg (by rw [c4]; decide), if_neg (by rw [c6w]; decide), if_neg (by rw [x.yes c10]; decide), if_pos c15]))
        · 
          refine ev_skip ?_
          refine exS_normal ?_
          refine ev_seq ?_
          refine ev_R tabT [] 1800 ?_
          refine ev_block ?_
          have hA := x.yes c10
          refine ev_loopK (ι := Al (objS h ((h.getD n.toNat ob0).items.getD (Int.toNat 3) vl0)).items (mkP h)) [1, 2, 5, 7, 8, 91, 92] [0, 105, 712] 1850 (fun x => [(93, .v (.int .i64 x.k))]) (fun _ => []) (fun x => (objS h ((h.getD n.toNat ob0).items.getD (Int.toNat 3) vl0)).items.length - x.k) ⟨0, Nat.zero_le _, fun j x hj => by omega⟩ ?_
          refine ⟨⟨le_t, le_o, rfl, rfl⟩, fun x => ?_⟩
          have hk := x.le
          refine ev_R tabT [] 1900 ?_
          refine ev_seq ?_
          refine ev_if (fun c18 => ?_) (fun c18 => ?_)
          · 
            refine ev_skip ?_
            refine exS_normal ?_
            refine ev_seq ?_
            refine ev_block ?_
            refine ev_R tabT [] 2000 ?_
            refine ev_seq (ev_region tabT [] 2100 rfl ?_)
            repeat (first | refine sat_same ?_ | refine sat_impA ?_ | refine sat_needA ?_)
            refine sat_fn _ (Obj_ok _ _) rfl ?_
            repeat (first | refine sat_same ?_ | refine sat_impA ?_ | refine sat_needA ?_)
            refine sat_done ?_
            refine exS_normal ?_
            refine ev_seq (ev_region tabT [] 2200 rfl ?_)
            repeat (first | refine sat_same ?_ | refine sat_impA ?_ | refine sat_need (by first | (intro hh; simp only [Bool.not_eq_true', Bool.or_eq_false_iff, Bool.not_eq_false', decide_eq_true_eq] at hh; refine ⟨by decide, ?_⟩; omega) | omega) ?_)
            refine sat_done ?_
            refine exS_normal ?_
            refine ev_cond rfl (fun c21 => ?_) (fun c21 => ?_)
            · 
              refine ev_R tabT [] 2300 ?_
              refine ev_ret ?_
              refine exBl_ret ?_
              refine exS_ret ?_
              refine exL_ret ?_
              refine exBl_ret ?_
              refine exS_ret ?_
              exact FinV.ret rfl (SubP.bool (by rw [excOkS, if_neg (by rw [c4]; decide), if_neg (by rw [c6w]; decide), if_neg (by rw [hA]; decide), if_neg (by rw [c15]; decide), if_pos (Al.no (p := mkP h) (e := vl0) c18 (congrArg Bool.not c21))]))
            · 
              refine ev_skip ?_
              refine exBl_normal ?_
              refine exS_normal ?_
              refine ev_Q tabT [] 2400 ?_
              exact exL_normal (x.next (e := vl0) c18 (congrArg Bool.not c21)) ⟨le_t, le_o, rfl, rfl⟩ (by show (objS h ((h.getD n.toNat ob0).items.getD (Int.toNat 3) vl0)).items.length - (x.k + 1) < (objS h ((h.getD n.toNat ob0).items.getD (Int.toNat 3) vl0)).items.length - x.k; omega)
          · 
            refine ev_exit ?_
            refine exS_exit ?_
            refine exL_exit ?_
            refine exBl_same ?_
            refine exS_normal ?_
            refine ev_seq ?_
            refine ev_R tabT [] 2500 ?_
            refine ev_cond rfl (fun c24 => ?_) (fun c24 => ?_)
            · 
              refine ev_R tabT [] 2600 ?_
              refine ev_ret ?_
              refine exS_ret ?_
              exact FinV.ret rfl (SubP.bool (by rw [excOkS, if_neg (by rw [c4]; decide), if_neg (by rw [c6w]; decide), if_neg (by rw [hA]; decide), if_neg (by rw [c15]; decide), if_neg (by rw [x.yes c18]; decide)]))
            · 
              refine ev_skip ?_
              refine exS_normal ?_
              refine ev_seq (ev_drawn tabT [] [[], [], [1], [1, 2], [1, 2, 3], [0, 1, 2, 3, 4], [], [0, 1, 2, 3, 4, 5, 6]] 2700 mixT (by kernel_rfl) rfl ?_)
              repeat (first | refine sat_same ?_ | refine sat_impA ?_ | refine sat_need (by (refine ⟨by decide, ?_⟩; show _ < (h.getD n.toNat ob0).items.length; have := wantB_len c6w; first | (simp only [want5, want4, List.length_append, List.length_cons, List.length_nil] at this; omega) | exact absurd c24 (by rw [c4]; decide))) ?_)
              refine sat_fn _ (Obj_ok _ _) rfl ?_
              repeat (first | refine sat_same ?_ | refine sat_impA ?_ | refine sat_need (by (refine ⟨by decide, ?_⟩; show _ < (h.getD n.toNat ob0).items.length; have := wantB_len c6w; first | (simp only [want5, want4, List.length_append, List.length_cons, List.length_nil] at this; omega) | exact absurd c24 (by rw [c4]; decide))) ?_)
              refine sat_done ?_
              refine exS_normal ?_
              refine ev_seq ?_
              refine ev_R tabT [] 2800 ?_
              refine ev_block ?_
              have hB := x.yes c18
              refine ev_loopK (ι := Al (objS h ((h.getD n.toNat ob0).items.getD (Int.toNat 4) vl0)).items (memP h n)) [1, 2, 8, 15, 135, 136] [0, 712, 2506] 2850 (fun x => [(137, .v (.int .i64 x.k))]) (fun _ => []) (fun x => (objS h ((h.getD n.toNat ob0).items.getD (Int.toNat 4) vl0)).items.length - x.k) ⟨0, Nat.zero_le _, fun j x hj => by omega⟩ ?_
              refine ⟨⟨le_t, le_o, rfl, rfl⟩, fun x => ?_⟩
              have hk := x.le
              refine ev_R tabT [] 2900 ?_
              refine ev_seq ?_
              refine ev_if (fun c28 => ?_) (fun c28 => ?_)
              · 
                refine ev_skip ?_
                refine exS_normal ?_
                refine ev_seq ?_
                refine ev_block ?_
                refine ev_R tabT [] 3000 ?_
                refine ev_seq (ev_region tabT [] 3100 rfl ?_)
                repeat (first | refine sat_same ?_ | refine sat_impA ?_ | refine sat_needA ?_)
                refine sat_fn _ (Exception_ok _ _) rfl ?_
                repeat (first | refine sat_same ?_ | refine sat_impA ?_ | refine sat_needA ?_)
                refine sat_done ?_
                refine exS_normal ?_
                refine ev_cond rfl (fun c30 => ?_) (fun c30 => ?_)
                · 
                  refine ev_R tabT [] 3200 ?_
                  refine ev_ret ?_
                  refine exBl_ret ?_
                  refine exS_ret ?_
                  refine exL_ret ?_
                  refine exBl_ret ?_
                  refine exS_ret ?_
                  exact absurd c24 (by rw [c4]; decide)
                · 
                  refine ev_skip ?_
                  refine exBl_normal ?_
                  refine exS_normal ?_
                  refine ev_Q tabT [] 3300 ?_
                  exact exL_normal (x.next (e := vl0) c28 (congrArg Bool.not c30)) ⟨le_t, le_o, rfl, rfl⟩ (by show (objS h ((h.getD n.toNat ob0).items.getD (Int.toNat 4) vl0)).items.length - (x.k + 1) < (objS h ((h.getD n.toNat ob0).items.getD (Int.toNat 4) vl0)).items.length - x.k; omega)
              · 
                refine ev_exit ?_
                refine exS_exit ?_
                refine exL_exit ?_
                refine exBl_same ?_
                refine exS_normal ?_
                refine ev_R tabT [] 3400 ?_
                refine ev_ret ?_
                exact absurd c24 (by rw [c4]; decide)

end Go.Proofs.YtonogeiopicibaaGreatDoor
