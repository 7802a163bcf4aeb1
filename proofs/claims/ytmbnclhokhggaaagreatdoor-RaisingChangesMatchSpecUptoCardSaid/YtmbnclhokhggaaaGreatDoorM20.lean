/- Part 20 of the proof. -/
import Derived.Test.YtmbnclhokhggaaaGreatDoorM19
import Derived.Test.YtmbnclhokhggaaaGreatDoorM12
namespace Go.Proofs.YtmbnclhokhggaaaGreatDoor
open Go.RowKit
variable {md me : Bool}
theorem Order_ok (B : List (List Int)) : Fn Tryz.prog 87 [.sl false 1 B lD []] (.tup [isD (orderS B).1,fltD (orderS B).2]) := by
 refine yK tabT Tryz.func87 rfl rfl rfl rfl rfl rfl ?_;intro w0 s0 mx;refine ev_R tabT [] 100 ?_;refine zB ?_;refine zB (zE tabT [] 200 rfl ?_);refine zF ?_;refine zV _ (OrdersFault_ok _) rfl ?_;refine zF ?_;refine zC (zA ?_);refine ev_R tabT [] 300 ?_;refine zR rfl (fun c2 => ?_) (fun c2 => ?_)
 ·try simp only [Bool.not_eq_true',Bool.not_eq_false'] at c2
  first | replace c2 := of_decide_eq_true c2 | replace c2 := of_decide_eq_false c2
  refine zB (zZ tabT [] [[],[],[0,1]] 400 mixT (by kernel_rfl) rfl ?_);refine zF ?_;refine zC (zA (zO (zM ?_)));exact FinV.ret rfl (SubP.tup ⟨SubP.nilSl (by rw [orderS,if_pos c2]),SubP.of_eq (by rw [orderS,if_pos c2] <;> rfl),trivial⟩)
 ·try simp only [Bool.not_eq_true',Bool.not_eq_false'] at c2
  first | replace c2 := of_decide_eq_true c2 | replace c2 := of_decide_eq_false c2
  refine zK (zA ?_);refine zB (zE tabT [] 500 rfl ?_);refine zF ?_;refine zV _ (Merged_ok B (ofS_good c2)) rfl ?_;refine zF ?_;refine zC (zA ?_);refine zB ?_;refine ev_R tabT [] 600 ?_;refine zR rfl (fun c5 => ?_) (fun c5 => ?_)
  ·try simp only [Bool.not_eq_true',Bool.not_eq_false'] at c5
   first | replace c5 := of_decide_eq_true c5 | replace c5 := of_decide_eq_false c5
   refine zB (zE tabT [] 700 rfl ?_);refine zF ?_;refine zV _ (At_ok _ _) rfl ?_;refine zF ?_;refine zC (zA (zO (zM ?_)));exact FinV.ret rfl (SubP.tup ⟨SubP.nilSl (by rw [orderS,if_neg (fun hh => hh c2),if_pos c5]),SubP.of_eq (by rw [orderS,if_neg (fun hh => hh c2),if_pos c5] <;> rfl),trivial⟩)
  ·try simp only [Bool.not_eq_true',Bool.not_eq_false'] at c5
   first | replace c5 := of_decide_eq_true c5 | replace c5 := of_decide_eq_false c5
   refine zK (zA ?_);refine zB ?_;refine ev_R tabT [] 800 ?_;refine zR rfl (fun c7 => ?_) (fun c7 => ?_)
   ·try simp only [Bool.not_eq_true',Bool.not_eq_false'] at c7
    first | replace c7 := of_decide_eq_true c7 | replace c7 := of_decide_eq_false c7
    refine zB (zE tabT [] 900 rfl ?_);refine zF ?_;refine zV _ (At_ok _ _) rfl ?_;refine zF ?_;refine zC (zA (zO (zM ?_)));exact FinV.ret rfl (SubP.tup ⟨SubP.nilSl (by rw [orderS,if_neg (fun hh => hh c2),if_neg c5,if_pos c7]),SubP.of_eq (by rw [orderS,if_neg (fun hh => hh c2),if_neg c5,if_pos c7] <;> rfl),trivial⟩)
   ·try simp only [Bool.not_eq_true',Bool.not_eq_false'] at c7
    first | replace c7 := of_decide_eq_true c7 | replace c7 := of_decide_eq_false c7
    refine zK (zA ?_);refine ev_R tabT [] 1000 ?_;refine zO ?_;exact FinV.ret rfl (SubP.tup ⟨SubP.of_eq (by rw [orderS,if_neg (fun hh => hh c2),if_neg c5,if_neg c7] <;> rfl),SubP.of_eq (by rw [orderS,if_neg (fun hh => hh c2),if_neg c5,if_neg c7] <;> rfl),trivial⟩)
theorem mgF_len : ∀ (f : Nat) (taken : List Int) (left : List (List Int)),(mgF f taken left).1.length ≤ taken.length + f
 | 0,_,_ => Nat.le_refl _
 | _ + 1,taken,[] => by rw [mgF];exact Nat.le_add_right _ _
 | f + 1,taken,l :: left => by
  rw [mgF];split
  ·show taken.length ≤ _;omega
  ·refine Nat.le_trans (mgF_len f _ _) ?_;simp only [List.length_append,List.length_singleton];omega
theorem orderS_len (B : List (List Int)) : (orderS B).1.length ≤ 400 := by
 have h := mgF_len 400 [] (lft0 B);unfold orderS;split
 ·exact Nat.zero_le _
 ·split
  ·exact Nat.zero_le _
  ·split
   ·exact Nat.zero_le _
   ·simp only [mgS];simpa using h
theorem ords_map (h : List Ob) (o : Ob) : (o.refs.map fun n => lD (obAt h n).order) = (ordsS h o).map lD := by rw [ordsS,List.map_map];rfl
theorem sn201 {P : Program} {K : DS → Prop} {p : Prop} {r : Out} (hr : r.sat P K) (hp : p := by first | rfl | (intro hh;exact absurd hh (by rw [hs];decide)) | (have := orderS_len (ordsS h (h.getD n.toNat ob0));simp only [List.length_map,List.length_cons,List.length_nil];omega)) : (Out.need p r).sat P K := ⟨hp,hr⟩
theorem orderOk_ok (h : List Ob) (n : Int) (hn : inH h n) (hh : HpIn h) (hr : (obAt h n).kind = 9 → ∀ r ∈ (obAt h n).refs,inH h r) : Fn Tryz.prog 52 [hpD md h,.v (.int .i64 n)] (.v (.bool (orderOkS h (obAt h n) n))) := by
 have hO : ObIn (h.getD n.toNat ob0) := hh.at n;have hrl := hO.rl;have hol := hO.ol;refine yK tabT Tryz.func52 rfl rfl rfl rfl rfl rfl ?_;intro w0 s0 mx;refine ev_R tabT [] 100 ?_;refine zB (zE tabT [] 200 rfl ?_);repeat (first | refine zG ?_ | refine zH ?_ | refine zQ (by exact hn) ?_)
 refine zC (zA ?_);refine zB ?_;refine ev_R tabT [] 300 ?_;refine zR rfl (fun c2 => ?_) (fun c2 => ?_)
 ·replace c2 : ¬ (h.getD n.toNat ob0).kind = 9 := by simpa only [Bool.not_eq_true',decide_eq_false_iff_not] using c2
  refine ev_R tabT [] 400 ?_;refine zO (zM ?_);exact FinV.ret rfl (SubP.bool (by rw [orderOkS,if_pos c2]))
 ·replace c2 : (h.getD n.toNat ob0).kind = 9 := by simpa only [Bool.not_eq_false',decide_eq_true_eq] using c2
  refine zK (zA ?_);refine ev_R tabT [] 500 ?_;refine yM 6 26 1 rfl ?_;refine zB ?_;refine ev_R tabT [] 600 ?_;refine zL ?_;refine zX (ι := Up (h.getD n.toNat ob0).refs.length (fun _ => true)) [1,2,5,20,21] [0,105] 650 (fun x => [(22,.v (.int .i64 x.k)),(6,.own 500 1 (((h.getD n.toNat ob0).refs.take x.k).map fun n => lD (obAt h n).order))]) (fun x => [(500,.row 26 1 (((h.getD n.toNat ob0).refs.take x.k).map fun n => lD (obAt h n).order).length)]) (fun x => (h.getD n.toNat ob0).refs.length - x.k) ⟨0,Nat.zero_le _,fun j hj => by omega⟩ ?_;refine ⟨⟨(by first | exact trivial | (repeat (first | exact trivial | exact Sub.refl _ | refine ⟨?_,?_⟩ | exact Sub.int (by first | rfl | omega | (push_cast;omega)) | exact Sub.nilSl | exact Sub.own rfl | exact Sub.slrSl rfl | exact Sub.ownSl (List.map_append).symm | exact Sub.ownSl rfl | exact Sub.own (by simp [-List.getD_eq_getElem?_getD,lD]) | exact Sub.ownSl (by simp [-List.getD_eq_getElem?_getD,lD]) | exact Sub.int (by simp [-List.getD_eq_getElem?_getD,lD])))),(by repeat (first | exact trivial | exact SubO.same rfl | exact ⟨rfl,rfl,by simp [-List.getD_eq_getElem?_getD,lD]⟩ | refine ⟨?_,?_⟩)),rfl,rfl⟩,fun x => ?_⟩;have hk := x.le;refine ev_R tabT [] 700 ?_;refine zB ?_;refine yF (fun c6 => ?_) (fun c6 => ?_)
  ·
   refine zK (zA ?_);refine zB ?_;refine zL ?_;refine ev_R tabT [] 800 ?_;refine zE tabT [] 900 rfl ?_;repeat (first | refine zG ?_ | refine zH ?_ | refine zQ (by first | rfl | exact hr c2 _ (qD c6 0) | (simp only [List.length_map,List.length_take,List.length_cons,List.length_nil];omega)) ?_)
   refine zC (zJ (zA ?_));refine ev_Q tabT [] 1000 ?_;exact zP (x.next c6 rfl) ⟨⟨Sub.refl _,Sub.own (by show _ = (((h.getD n.toNat ob0).refs.take (x.k + 1)).map fun n => lD (obAt h n).order);rw [qF c6 0,List.map_append];rfl),by repeat (first | exact trivial | exact Sub.refl _ | refine ⟨?_,?_⟩)⟩,⟨⟨rfl,rfl,by show _ = (((h.getD n.toNat ob0).refs.take (x.k + 1)).map fun n => lD (obAt h n).order).length;rw [qF c6 0,List.map_append];rfl⟩,by repeat (first | exact trivial | exact SubO.same rfl | refine ⟨?_,?_⟩)⟩,rfl,rfl⟩ (by show (h.getD n.toNat ob0).refs.length - (x.k + 1) < (h.getD n.toNat ob0).refs.length - x.k;omega)
  ·
   refine yA (zU (zW (zS (zA ?_))));refine zB (zE tabT [] 1100 rfl ?_);refine zF ?_;refine zV _ ((Order_ok (ordsS h (h.getD n.toNat ob0))).args ⟨SubP.ownSl (k := 500) (by rw [List.take_of_length_le (by omega),ords_map]),trivial⟩) rfl ?_;refine zF ?_;refine zC (zA ?_);refine zB (zZ tabT [48] [[],[0],[0,1],[0,1,2],[0,1,2,3],[0,1,2,3,4],[0,1,2,3],[0,1,2,3,6],[0,1,2,3],[0,1,2,3,6,7,8],[0,1,2,3,4,5,6,7,8,9],[0,1,2,3,4,5,6,7,8,9,10],[0,1,2,3,4,5,6,7,8,9,10,11]] 1200 mixT (by kernel_rfl) rfl ?_);repeat (first | refine zG ?_ | refine zH ?_ | refine sn201 ?_)
   refine sat_split (fun hs => ?_) (fun hs => ?_)
   ·repeat (first | refine zG ?_ | refine zH ?_ | refine sn201 ?_)
    refine sat_split (fun hs2 => ?_) (fun hs2 => by rw [hs] at hs2;cases hs2);repeat (first | refine zG ?_ | refine zH ?_ | refine sn201 ?_)
    refine yG _ (fun hg => (Ints_ok (h.getD n.toNat ob0).order ([n] ++ (orderS (ordsS h (h.getD n.toNat ob0))).1)).args ⟨SubP.refl _,SubP.ownSl (k := 1107) (by rw [List.map_append];rfl),trivial⟩) rfl ?_;repeat (first | refine zG ?_ | refine zH ?_ | refine sn201 ?_)
    refine zC (zA (zO ?_));exact FinV.ret rfl (SubP.bool (by rw [orderOkS,if_neg (fun hh => hh c2)]))
   ·repeat (first | refine zG ?_ | refine zH ?_ | refine sn201 ?_)
    refine sat_split (fun hs2 => by rw [hs] at hs2;cases hs2) (fun hs2 => ?_);repeat (first | refine zG ?_ | refine zH ?_ | refine sn201 ?_)
    refine yG (.v (.bool false)) (fun hg => by rw [hs] at hg;cases hg) rfl ?_;repeat (first | refine zG ?_ | refine zH ?_ | refine sn201 ?_)
    refine zC (zA (zO ?_));exact FinV.ret rfl (SubP.bool (by rw [orderOkS,if_neg (fun hh => hh c2),hs];rfl))
variable {md me : Bool}
def want4 : List ByteArray := [⟨#[97,114,103,115]⟩,⟨#[99,97,117,115,101]⟩,⟨#[99,111,110,116,101,120,116]⟩,⟨#[116,114,97,99,101]⟩]
def want5 : List ByteArray := want4 ++ [⟨#[109,101,109,98,101,114,115]⟩]
abbrev midV (l : List Vl) : List Vl := (l.drop (Int.toNat 1)).take ((3 : Int).toNat - Int.toNat 1)
def cauP (h : List Ob) (v : Vl) : Bool := !(!decide (v.k = 0) && !excS h v)
def mkP (h : List Ob) (v : Vl) : Bool := !(((!decide ((objS h v).kind = 1) || !decide (((objS h v).items.length : Int) = 2)) || !decide (((objS h v).items.getD (Int.toNat 0) vl0).k = 4)) || !decide (((objS h v).items.getD (Int.toNat 1) vl0).k = 2))
def memP (h : List Ob) (i : Int) (v : Vl) : Bool := !(!excS h v || decide (i ≤ v.r))
def wantB (o : Ob) (w : List ByteArray) : Bool := decide ((o.names.length : Int) < w.length) || !decide (((o.names.drop (Int.toNat 0)).take ((w.length : Int).toNat - Int.toNat 0)) = w)
def excOkS (h : List Ob) (o : Ob) (i : Int) : Bool :=
 if hasB (obAt h o.cls).order 48 = true then
  (if wantB o want5 = true then false
  else if (midV o.items).all (cauP h) = false then false
  else if (!decide ((objS h (o.items.getD (Int.toNat 0) vl0)).kind = 1) || !decide ((objS h (o.items.getD (Int.toNat 3) vl0)).kind = 1)) = true then false
  else if (objS h (o.items.getD (Int.toNat 3) vl0)).items.all (mkP h) = false then false
  else if (objS h (o.items.getD (Int.toNat 4) vl0)).items.all (memP h i) = false then false
  else (decide ((objS h (o.items.getD (Int.toNat 4) vl0)).kind = 1) && decide ((0 : Int) < (objS h (o.items.getD (Int.toNat 4) vl0)).items.length)) && decide ((0 : Int) < (objS h (o.items.getD (Int.toNat 0) vl0)).items.length))
 else
  (if wantB o want4 = true then false
  else if (midV o.items).all (cauP h) = false then false
  else if (!decide ((objS h (o.items.getD (Int.toNat 0) vl0)).kind = 1) || !decide ((objS h (o.items.getD (Int.toNat 3) vl0)).kind = 1)) = true then false
  else if (objS h (o.items.getD (Int.toNat 3) vl0)).items.all (mkP h) = false then false
  else true)
theorem wantB_len {o : Ob} {w : List ByteArray} (h : wantB o w = false) : w.length ≤ o.names.length := by
 simp only [wantB,Bool.or_eq_false_iff,decide_eq_false_iff_not] at h;omega
theorem mid_len (l : List Vl) : (midV l).length ≤ 2 := by
 show ((l.drop 1).take (3 - 1)).length ≤ 2;rw [List.length_take];omega
theorem sn202 {P : Program} {K : DS → Prop} {p : Prop} {r : Out} (hr : r.sat P K) (hp : p := by first | rfl | (intro hh;simp only [Bool.not_eq_true',decide_eq_false_iff_not] at hh;refine ⟨by decide,?_,?_⟩ <;> (simp only [List.length_append,List.length_cons,List.length_nil] at hh ⊢;omega))) : (Out.need p r).sat P K := ⟨hp,hr⟩
theorem sn203 {P : Program} {K : DS → Prop} {p : Prop} {r : Out} (hr : r.sat P K) (hp : p := by (refine ⟨by decide,?_⟩;show _ < (h.getD n.toNat ob0).items.length;have := wantB_len c6w;simp only [want4,want5,List.length_append,List.length_cons,List.length_nil] at this;omega)) : (Out.need p r).sat P K := ⟨hp,hr⟩
theorem sn204 {P : Program} {K : DS → Prop} {p : Prop} {r : Out} (hr : r.sat P K) (hp : p := by (refine ⟨by decide,?_⟩;show _ < (h.getD n.toNat ob0).items.length;have := wantB_len c6w;first | (simp only [want5,want4,List.length_append,List.length_cons,List.length_nil] at this;omega) | exact absurd c24 (by rw [c4];decide))) : (Out.need p r).sat P K := ⟨hp,hr⟩
set_option maxHeartbeats 1000000 in
theorem exceptionOk_ok (h : List Ob) (n : Int) (hn : inH h n) (hh : HpIn h) (hc : inH h (obAt h n).cls) (hit : (obAt h n).items.length = (obAt h n).names.length) : Fn Tryz.prog 84 [hpD md h,.v (.int .i64 n)] (.v (.bool (excOkS h (obAt h n) n))) := by
 have hO : ObIn (h.getD n.toNat ob0) := hh.at n;have hil := hO.il;have hnl := hO.nl;have hit : (h.getD n.toNat ob0).items.length = (h.getD n.toNat ob0).names.length := hit;have htl := (objS_in hh ((h.getD n.toNat ob0).items.getD (Int.toNat 3) vl0)).il;have hml := (objS_in hh ((h.getD n.toNat ob0).items.getD (Int.toNat 4) vl0)).il;have hmd := mid_len (h.getD n.toNat ob0).items;refine yK tabT Tryz.func84 rfl rfl rfl rfl rfl rfl ?_;intro w0 s0 mx;refine ev_R tabT [] 100 ?_;refine zB (zE tabT [] 200 rfl ?_);repeat (first | refine zG ?_ | refine zH ?_ | refine zQ (by exact hn) ?_)
 refine zC (zA ?_);refine zB (zE tabT [23] 300 rfl ?_);repeat (first | refine zG ?_ | refine zH ?_ | refine zQ (by first | rfl | exact trivial) ?_)
 refine zC (zA ?_);refine zB (zE tabT [] 400 rfl ?_);repeat (first | refine zG ?_ | refine zH ?_ | refine zQ (by exact hc) ?_)
 refine zV _ (qJ _ _) rfl ?_;repeat (first | refine zG ?_ | refine zH ?_ | refine zQ (by exact hc) ?_)
 refine zC (zA ?_);refine zB ?_;refine ev_R tabT [] 500 ?_;refine zR rfl (fun c4 => ?_) (fun c4 => ?_)
 ·
  refine zE tabT [] 600 rfl ?_;repeat (first | refine zG ?_ | refine zH ?_ | refine zQ (by first | rfl | decide | (show 4 + 1 ≤ 1073741824;omega)) ?_)
  refine zC (zA ?_);refine zB ?_;refine zB (zE tabT [] 700 rfl ?_);repeat (first | refine zG ?_ | refine zH ?_ | refine sn202 ?_)
  refine yG _ (fun hg13 => (Strings_ok _ want5).args ⟨SubP.refl _,SubP.ownSl (k := 200) rfl,trivial⟩) rfl ?_;repeat (first | refine zG ?_ | refine zH ?_ | refine sn202 ?_)
  refine zC (zA ?_);refine zR rfl (fun c6 => ?_) (fun c6 => ?_)
  ·have c6w : wantB (h.getD n.toNat ob0) want5 = true := c6;refine ev_R tabT [] 800 ?_;refine zO (zM ?_);exact FinV.ret rfl (SubP.bool (by rw [excOkS,if_pos c4,if_pos c6w]))
  ·have c6w : wantB (h.getD n.toNat ob0) want5 = false := c6;refine zK (zA ?_);refine zB (zZ tabT [] [[],[],[1],[1,2],[1,2,3],[0,1,2,3,4],[],[],[7],[7,8],[7,8,9],[0,1,2,3,4,5,6,7,8,9,10],[],[],[0,1,2,3,4,5,6,7,8,9,10,11,12,13],[0,1,2,3,4,5,6,7,8,9,10,11,12,13,14]] 900 mixT (by kernel_rfl) rfl ?_);repeat (first | refine zG ?_ | refine zH ?_ | refine sn203 ?_)
   refine zV _ (Obj_ok _ _) rfl ?_;repeat (first | refine zG ?_ | refine zH ?_ | refine sn203 ?_)
   refine zV _ (Obj_ok _ _) rfl ?_;repeat (first | refine zG ?_ | refine zH ?_ | refine sn203 ?_)
   refine zC (zA ?_);refine zB ?_;refine zB (zE tabT [] 1000 rfl ?_);repeat (first | refine zG ?_ | refine zH ?_ | refine zQ (by (refine ⟨by decide,by decide,?_⟩;have := wantB_len c6w;simp only [want4,want5,List.length_append,List.length_cons,List.length_nil] at this;omega)) ?_)
   refine zC (zA (zL ?_));refine zX (ι := Al (midV (h.getD n.toNat ob0).items) (cauP h)) [1,2,5,7,8,9,66,67] [0,105,712,713] 1050 (fun x => [(68,.v (.int .i64 x.k))]) (fun _ => []) (fun x => (midV (h.getD n.toNat ob0).items).length - x.k) ⟨0,Nat.zero_le _,fun j x hj => by omega⟩ ?_;refine ⟨⟨le_t,le_o,rfl,rfl⟩,fun x => ?_⟩;have hk := x.le;refine ev_R tabT [] 1100 ?_;refine zB ?_;refine yF (fun c10 => ?_) (fun c10 => ?_)
   ·
    refine zK (zA ?_);refine zB ?_;refine zL ?_;refine ev_R tabT [] 1200 ?_;refine zB (zE tabT [] 1300 rfl ?_);refine zF ?_;refine yG _ (fun hg6 => Exception_ok _ _) rfl ?_;refine zF ?_;refine zC (zA ?_);refine zR rfl (fun c12 => ?_) (fun c12 => ?_)
    ·
     refine ev_R tabT [] 1400 ?_;refine zO (zN (zM (yH (zN (zM ?_)))));exact FinV.ret rfl (SubP.bool (by rw [excOkS,if_pos c4,if_neg (by rw [c6w];decide),if_pos (Al.no (p := cauP h) (e := vl0) c10 (congrArg Bool.not c12))]))
    ·
     refine zK (zJ (zA ?_));refine ev_Q tabT [] 1500 ?_;exact zP (x.next (e := vl0) c10 (congrArg Bool.not c12)) ⟨le_t,le_o,rfl,rfl⟩ (by have c10b : x.k < (midV (h.getD n.toNat ob0).items).length := c10;show (midV (h.getD n.toNat ob0).items).length - (x.k + 1) < (midV (h.getD n.toNat ob0).items).length - x.k;omega)
   ·
    refine yA (zU (zW (zS (zA ?_))));refine zB ?_;refine ev_R tabT [] 1600 ?_;refine zR rfl (fun c15 => ?_) (fun c15 => ?_)
    ·
     refine ev_R tabT [] 1700 ?_;refine zO (zM ?_);exact FinV.ret rfl (SubP.bool (by rw [excOkS,if_pos c4,if_neg (by rw [c6w];decide),if_neg (by rw [x.yes c10];decide),if_pos c15]))
    ·
     refine zK (zA ?_);refine zB ?_;refine ev_R tabT [] 1800 ?_;refine zL ?_;have hA := x.yes c10;refine zX (ι := Al (objS h ((h.getD n.toNat ob0).items.getD (Int.toNat 3) vl0)).items (mkP h)) [1,2,5,7,8,91,92] [0,105,712] 1850 (fun x => [(93,.v (.int .i64 x.k))]) (fun _ => []) (fun x => (objS h ((h.getD n.toNat ob0).items.getD (Int.toNat 3) vl0)).items.length - x.k) ⟨0,Nat.zero_le _,fun j x hj => by omega⟩ ?_;refine ⟨⟨le_t,le_o,rfl,rfl⟩,fun x => ?_⟩;have hk := x.le;refine ev_R tabT [] 1900 ?_;refine zB ?_;refine yF (fun c18 => ?_) (fun c18 => ?_)
     ·
      refine zK (zA ?_);refine zB ?_;refine zL ?_;refine ev_R tabT [] 2000 ?_;refine zB (zE tabT [] 2100 rfl ?_);refine zF ?_;refine zV _ (Obj_ok _ _) rfl ?_;refine zF ?_;refine zC (zA ?_);refine zB (zE tabT [] 2200 rfl ?_);repeat (first | refine zG ?_ | refine zH ?_ | refine zQ (by first | (intro hh;simp only [Bool.not_eq_true',Bool.or_eq_false_iff,Bool.not_eq_false',decide_eq_true_eq] at hh;refine ⟨by decide,?_⟩;omega) | omega) ?_)
      refine zC (zA ?_);refine zR rfl (fun c21 => ?_) (fun c21 => ?_)
      ·
       refine ev_R tabT [] 2300 ?_;refine zO (zN (zM (yH (zN (zM ?_)))));exact FinV.ret rfl (SubP.bool (by rw [excOkS,if_pos c4,if_neg (by rw [c6w];decide),if_neg (by rw [hA];decide),if_neg (by rw [c15];decide),if_pos (Al.no (p := mkP h) (e := vl0) c18 (congrArg Bool.not c21))]))
      ·
       refine zK (zJ (zA ?_));refine ev_Q tabT [] 2400 ?_;exact zP (x.next (e := vl0) c18 (congrArg Bool.not c21)) ⟨le_t,le_o,rfl,rfl⟩ (by show (objS h ((h.getD n.toNat ob0).items.getD (Int.toNat 3) vl0)).items.length - (x.k + 1) < (objS h ((h.getD n.toNat ob0).items.getD (Int.toNat 3) vl0)).items.length - x.k;omega)
     ·
      refine yA (zU (zW (zS (zA ?_))));refine zB ?_;refine ev_R tabT [] 2500 ?_;refine zR rfl (fun c24 => ?_) (fun c24 => ?_)
      ·
       refine ev_R tabT [] 2600 ?_;refine zO (zM ?_);exact absurd c24 (by rw [c4];decide)
      ·
       refine zK (zA ?_);refine zB (zZ tabT [] [[],[],[1],[1,2],[1,2,3],[0,1,2,3,4],[],[0,1,2,3,4,5,6]] 2700 mixT (by kernel_rfl) rfl ?_);repeat (first | refine zG ?_ | refine zH ?_ | refine sn204 ?_)
       refine zV _ (Obj_ok _ _) rfl ?_;repeat (first | refine zG ?_ | refine zH ?_ | refine sn204 ?_)
       refine zC (zA ?_);refine zB ?_;refine ev_R tabT [] 2800 ?_;refine zL ?_;have hB := x.yes c18;refine zX (ι := Al (objS h ((h.getD n.toNat ob0).items.getD (Int.toNat 4) vl0)).items (memP h n)) [1,2,8,15,135,136] [0,712,2506] 2850 (fun x => [(137,.v (.int .i64 x.k))]) (fun _ => []) (fun x => (objS h ((h.getD n.toNat ob0).items.getD (Int.toNat 4) vl0)).items.length - x.k) ⟨0,Nat.zero_le _,fun j x hj => by omega⟩ ?_;refine ⟨⟨le_t,le_o,rfl,rfl⟩,fun x => ?_⟩;have hk := x.le;refine ev_R tabT [] 2900 ?_;refine zB ?_;refine yF (fun c28 => ?_) (fun c28 => ?_)
       ·
        refine zK (zA ?_);refine zB ?_;refine zL ?_;refine ev_R tabT [] 3000 ?_;refine zB (zE tabT [] 3100 rfl ?_);refine zF ?_;refine zV _ (Exception_ok _ _) rfl ?_;refine zF ?_;refine zC (zA ?_);refine zR rfl (fun c30 => ?_) (fun c30 => ?_)
        ·
         refine ev_R tabT [] 3200 ?_;refine zO (zN (zM (yH (zN (zM ?_)))));exact FinV.ret rfl (SubP.bool (by rw [excOkS,if_pos c4,if_neg (by rw [c6w];decide),if_neg (by rw [hA];decide),if_neg (by rw [c15];decide),if_neg (by rw [hB];decide),if_pos (Al.no (p := memP h n) (e := vl0) c28 (congrArg Bool.not c30))]))
        ·
         refine zK (zJ (zA ?_));refine ev_Q tabT [] 3300 ?_;exact zP (x.next (e := vl0) c28 (congrArg Bool.not c30)) ⟨le_t,le_o,rfl,rfl⟩ (by show (objS h ((h.getD n.toNat ob0).items.getD (Int.toNat 4) vl0)).items.length - (x.k + 1) < (objS h ((h.getD n.toNat ob0).items.getD (Int.toNat 4) vl0)).items.length - x.k;omega)
       ·
        refine yA (zU (zW (zS (zA ?_))));refine ev_R tabT [] 3400 ?_;refine zO ?_;exact FinV.ret rfl (SubP.bool (by rw [excOkS,if_pos c4,if_neg (by rw [c6w];decide),if_neg (by rw [hA];decide),if_neg (by rw [c15];decide),if_neg (by rw [hB];decide),if_neg (by rw [x.yes c28];decide)]))
 ·
  refine zK (zA ?_);refine zB ?_;refine zB (zE tabT [] 700 rfl ?_);repeat (first | refine zG ?_ | refine zH ?_ | refine sn202 ?_)
  refine yG _ (fun hg13 => (Strings_ok _ want4).args ⟨SubP.refl _,SubP.ownSl (k := 200) rfl,trivial⟩) rfl ?_;repeat (first | refine zG ?_ | refine zH ?_ | refine sn202 ?_)
  refine zC (zA ?_);refine zR rfl (fun c6 => ?_) (fun c6 => ?_)
  ·have c6w : wantB (h.getD n.toNat ob0) want4 = true := c6;refine ev_R tabT [] 800 ?_;refine zO (zM ?_);exact FinV.ret rfl (SubP.bool (by rw [excOkS,if_neg (by rw [c4];decide),if_pos c6w]))
  ·have c6w : wantB (h.getD n.toNat ob0) want4 = false := c6;refine zK (zA ?_);refine zB (zZ tabT [] [[],[],[1],[1,2],[1,2,3],[0,1,2,3,4],[],[],[7],[7,8],[7,8,9],[0,1,2,3,4,5,6,7,8,9,10],[],[],[0,1,2,3,4,5,6,7,8,9,10,11,12,13],[0,1,2,3,4,5,6,7,8,9,10,11,12,13,14]] 900 mixT (by kernel_rfl) rfl ?_);repeat (first | refine zG ?_ | refine zH ?_ | refine sn203 ?_)
   refine zV _ (Obj_ok _ _) rfl ?_;repeat (first | refine zG ?_ | refine zH ?_ | refine sn203 ?_)
   refine zV _ (Obj_ok _ _) rfl ?_;repeat (first | refine zG ?_ | refine zH ?_ | refine sn203 ?_)
   refine zC (zA ?_);refine zB ?_;refine zB (zE tabT [] 1000 rfl ?_);repeat (first | refine zG ?_ | refine zH ?_ | refine zQ (by (refine ⟨by decide,by decide,?_⟩;have := wantB_len c6w;simp only [want4,want5,List.length_append,List.length_cons,List.length_nil] at this;omega)) ?_)
   refine zC (zA (zL ?_));refine zX (ι := Al (midV (h.getD n.toNat ob0).items) (cauP h)) [1,2,5,7,8,9,66,67] [0,105,712,713] 1050 (fun x => [(68,.v (.int .i64 x.k))]) (fun _ => []) (fun x => (midV (h.getD n.toNat ob0).items).length - x.k) ⟨0,Nat.zero_le _,fun j x hj => by omega⟩ ?_;refine ⟨⟨le_t,le_o,rfl,rfl⟩,fun x => ?_⟩;have hk := x.le;refine ev_R tabT [] 1100 ?_;refine zB ?_;refine yF (fun c10 => ?_) (fun c10 => ?_)
   ·
    refine zK (zA ?_);refine zB ?_;refine zL ?_;refine ev_R tabT [] 1200 ?_;refine zB (zE tabT [] 1300 rfl ?_);refine zF ?_;refine yG _ (fun hg6 => Exception_ok _ _) rfl ?_;refine zF ?_;refine zC (zA ?_);refine zR rfl (fun c12 => ?_) (fun c12 => ?_)
    ·
     refine ev_R tabT [] 1400 ?_;refine zO (zN (zM (yH (zN (zM ?_)))));exact FinV.ret rfl (SubP.bool (by rw [excOkS,if_neg (by rw [c4];decide),if_neg (by rw [c6w];decide),if_pos (Al.no (p := cauP h) (e := vl0) c10 (congrArg Bool.not c12))]))
    ·
     refine zK (zJ (zA ?_));refine ev_Q tabT [] 1500 ?_;exact zP (x.next (e := vl0) c10 (congrArg Bool.not c12)) ⟨le_t,le_o,rfl,rfl⟩ (by have c10b : x.k < (midV (h.getD n.toNat ob0).items).length := c10;show (midV (h.getD n.toNat ob0).items).length - (x.k + 1) < (midV (h.getD n.toNat ob0).items).length - x.k;omega)
   ·
    refine yA (zU (zW (zS (zA ?_))));refine zB ?_;refine ev_R tabT [] 1600 ?_;refine zR rfl (fun c15 => ?_) (fun c15 => ?_)
    ·
     refine ev_R tabT [] 1700 ?_;refine zO (zM ?_);exact FinV.ret rfl (SubP.bool (by rw [excOkS,if_neg (by rw [c4];decide),if_neg (by rw [c6w];decide),if_neg (by rw [x.yes c10];decide),if_pos c15]))
    ·
     refine zK (zA ?_);refine zB ?_;refine ev_R tabT [] 1800 ?_;refine zL ?_;have hA := x.yes c10;refine zX (ι := Al (objS h ((h.getD n.toNat ob0).items.getD (Int.toNat 3) vl0)).items (mkP h)) [1,2,5,7,8,91,92] [0,105,712] 1850 (fun x => [(93,.v (.int .i64 x.k))]) (fun _ => []) (fun x => (objS h ((h.getD n.toNat ob0).items.getD (Int.toNat 3) vl0)).items.length - x.k) ⟨0,Nat.zero_le _,fun j x hj => by omega⟩ ?_;refine ⟨⟨le_t,le_o,rfl,rfl⟩,fun x => ?_⟩;have hk := x.le;refine ev_R tabT [] 1900 ?_;refine zB ?_;refine yF (fun c18 => ?_) (fun c18 => ?_)
     ·
      refine zK (zA ?_);refine zB ?_;refine zL ?_;refine ev_R tabT [] 2000 ?_;refine zB (zE tabT [] 2100 rfl ?_);refine zF ?_;refine zV _ (Obj_ok _ _) rfl ?_;refine zF ?_;refine zC (zA ?_);refine zB (zE tabT [] 2200 rfl ?_);repeat (first | refine zG ?_ | refine zH ?_ | refine zQ (by first | (intro hh;simp only [Bool.not_eq_true',Bool.or_eq_false_iff,Bool.not_eq_false',decide_eq_true_eq] at hh;refine ⟨by decide,?_⟩;omega) | omega) ?_)
      refine zC (zA ?_);refine zR rfl (fun c21 => ?_) (fun c21 => ?_)
      ·
       refine ev_R tabT [] 2300 ?_;refine zO (zN (zM (yH (zN (zM ?_)))));exact FinV.ret rfl (SubP.bool (by rw [excOkS,if_neg (by rw [c4];decide),if_neg (by rw [c6w];decide),if_neg (by rw [hA];decide),if_neg (by rw [c15];decide),if_pos (Al.no (p := mkP h) (e := vl0) c18 (congrArg Bool.not c21))]))
      ·
       refine zK (zJ (zA ?_));refine ev_Q tabT [] 2400 ?_;exact zP (x.next (e := vl0) c18 (congrArg Bool.not c21)) ⟨le_t,le_o,rfl,rfl⟩ (by show (objS h ((h.getD n.toNat ob0).items.getD (Int.toNat 3) vl0)).items.length - (x.k + 1) < (objS h ((h.getD n.toNat ob0).items.getD (Int.toNat 3) vl0)).items.length - x.k;omega)
     ·
      refine yA (zU (zW (zS (zA ?_))));refine zB ?_;refine ev_R tabT [] 2500 ?_;refine zR rfl (fun c24 => ?_) (fun c24 => ?_)
      ·
       refine ev_R tabT [] 2600 ?_;refine zO (zM ?_);exact FinV.ret rfl (SubP.bool (by rw [excOkS,if_neg (by rw [c4];decide),if_neg (by rw [c6w];decide),if_neg (by rw [hA];decide),if_neg (by rw [c15];decide),if_neg (by rw [x.yes c18];decide)]))
      ·
       refine zK (zA ?_);refine zB (zZ tabT [] [[],[],[1],[1,2],[1,2,3],[0,1,2,3,4],[],[0,1,2,3,4,5,6]] 2700 mixT (by kernel_rfl) rfl ?_);repeat (first | refine zG ?_ | refine zH ?_ | refine sn204 ?_)
       refine zV _ (Obj_ok _ _) rfl ?_;repeat (first | refine zG ?_ | refine zH ?_ | refine sn204 ?_)
       refine zC (zA ?_);refine zB ?_;refine ev_R tabT [] 2800 ?_;refine zL ?_;have hB := x.yes c18;refine zX (ι := Al (objS h ((h.getD n.toNat ob0).items.getD (Int.toNat 4) vl0)).items (memP h n)) [1,2,8,15,135,136] [0,712,2506] 2850 (fun x => [(137,.v (.int .i64 x.k))]) (fun _ => []) (fun x => (objS h ((h.getD n.toNat ob0).items.getD (Int.toNat 4) vl0)).items.length - x.k) ⟨0,Nat.zero_le _,fun j x hj => by omega⟩ ?_;refine ⟨⟨le_t,le_o,rfl,rfl⟩,fun x => ?_⟩;have hk := x.le;refine ev_R tabT [] 2900 ?_;refine zB ?_;refine yF (fun c28 => ?_) (fun c28 => ?_)
       ·
        refine zK (zA ?_);refine zB ?_;refine zL ?_;refine ev_R tabT [] 3000 ?_;refine zB (zE tabT [] 3100 rfl ?_);refine zF ?_;refine zV _ (Exception_ok _ _) rfl ?_;refine zF ?_;refine zC (zA ?_);refine zR rfl (fun c30 => ?_) (fun c30 => ?_)
        ·
         refine ev_R tabT [] 3200 ?_;refine zO (zN (zM (yH (zN (zM ?_)))));exact absurd c24 (by rw [c4];decide)
        ·
         refine zK (zJ (zA ?_));refine ev_Q tabT [] 3300 ?_;exact zP (x.next (e := vl0) c28 (congrArg Bool.not c30)) ⟨le_t,le_o,rfl,rfl⟩ (by show (objS h ((h.getD n.toNat ob0).items.getD (Int.toNat 4) vl0)).items.length - (x.k + 1) < (objS h ((h.getD n.toNat ob0).items.getD (Int.toNat 4) vl0)).items.length - x.k;omega)
       ·
        refine yA (zU (zW (zS (zA ?_))));refine ev_R tabT [] 3400 ?_;refine zO ?_;exact absurd c24 (by rw [c4];decide)
variable {md me : Bool}
structure Vs (h : List Ob) (o : Ob) : Prop where
 ok : ∀ v ∈ o.keys ++ o.items,vokS (fixV o v) = true
 cls : qG h o.cls = true
 refs : ∀ r ∈ o.refs,qG h r = true
 order : ∀ r ∈ o.order,qG h r = true
 vals : ∀ v ∈ o.keys ++ o.items,v.k = 6 → qG h v.r = true
 weak : o.kind = 18 → o.state ≠ 0 → qG h (IntKind.i64.wrap (o.state - 1)) = true
theorem refsOf_mem : ∀ {l : List Vl} {v : Vl},v ∈ l → v.k = 6 → v.r ∈ qL l
 | [],_,h,_ => by cases h
 | x :: l,v,h,hk => by
  rw [qL];rcases List.mem_cons.1 h with rfl | h
  ·rw [if_pos hk];simp
  ·split
   ·exact List.mem_cons_of_mem _ (refsOf_mem h hk)
   ·exact refsOf_mem h hk
theorem vs_of {h : List Ob} {o : Ob} (hv : valuesS h o = 0) : Vs h o := by
 unfold valuesS at hv;split at hv
 ·rename_i h1;split at hv
  ·rename_i h2;rw [List.all_eq_true] at h1 h2
   have hm : ∀ r,(r = o.cls ∨ r ∈ o.refs ∨ r ∈ o.order) → qG h r = true := fun r hr => h2 r (by
    unfold numsS numsB;refine List.mem_append.2 (.inl (List.mem_append.2 (.inl ?_)));rcases hr with rfl | hr | hr
    ·simp
    ·simp [hr]
    ·simp [hr])
   refine ⟨h1,hm _ (.inl rfl),fun r hr => hm r (.inr (.inl hr)),fun r hr => hm r (.inr (.inr hr)),fun v hv hk => h2 _ ?_,fun hk hs => h2 _ ?_⟩
   ·unfold numsS;exact List.mem_append.2 (.inl (List.mem_append.2 (.inr (refsOf_mem hv hk))))
   ·unfold numsS;rw [if_pos ⟨hk,hs⟩];simp
  ·cases hv
 ·cases hv
theorem sh_of {o : Ob} (hs : qO o = 0) : (o.items.length : Int) = cntS o ∧ 0 ≤ o.code ∧ 0 ≤ o.state ∧ o.state ≤ greatS o.kind ∧ (o.kind ≠ 9 → o.order = []) := by
 unfold qO at hs;split at hs
 ·split at hs
  ·cases hs
  ·rename_i h2;rw [Bool.not_eq_true] at h2;simp only [tailS,Bool.or_eq_false_iff,Bool.not_eq_false',decide_eq_true_eq,decide_eq_false_iff_not] at h2;obtain ⟨⟨⟨⟨h3,h4⟩,h5⟩,h6⟩,h7⟩ := h2;refine ⟨h3,by omega,by omega,by omega,fun hk => ?_⟩;rw [decide_eq_false hk,Bool.not_false,Bool.true_and,decide_eq_false_iff_not] at h7;exact List.eq_nil_of_length_eq_zero (by omega)
 ·cases hs
theorem cnt_of (k : Int) (c : UInt8) (hu : usedS k ≠ ⟨#[]⟩ ∧ lastC (usedS k) ≠ 42 ∧ lastC (usedS k) ≠ 61 ∧ lastC (usedS k) ≠ 58) {o : Ob} (hk : o.kind = k) : cntS o = IntKind.i64.wrap (IntKind.u8.wrap (lastC (usedS k) - 48)) := by
 unfold cntS;rw [hk,if_neg hu.1,if_neg hu.2.1,if_neg hu.2.2.1,if_neg hu.2.2.2]
theorem cnt5 {o : Ob} (hk : o.kind = 5) : cntS o = 3 := by rw [cnt_of 5 0 (by decide +kernel) hk];decide +kernel
theorem cnt8 {o : Ob} (hk : o.kind = 8) : cntS o = 2 := by rw [cnt_of 8 0 (by decide +kernel) hk];decide +kernel
theorem cnt14 {o : Ob} (hk : o.kind = 14) : cntS o = 1 := by rw [cnt_of 14 0 (by decide +kernel) hk];decide +kernel
theorem cnt15 {o : Ob} (hk : o.kind = 15) : cntS o = 2 := by rw [cnt_of 15 0 (by decide +kernel) hk];decide +kernel
theorem cnt16 {o : Ob} (hk : o.kind = 16) : cntS o = 2 := by rw [cnt_of 16 0 (by decide +kernel) hk];decide +kernel
theorem cnt19 {o : Ob} (hk : o.kind = 19) : cntS o = 2 := by rw [cnt_of 19 0 (by decide +kernel) hk];decide +kernel
theorem cnt20 {o : Ob} (hk : o.kind = 20) : cntS o = 1 := by rw [cnt_of 20 0 (by decide +kernel) hk];decide +kernel
theorem cnt10 {o : Ob} (hk : o.kind = 10) : cntS o = o.names.length := by
 unfold cntS;rw [hk,if_neg (by decide +kernel),if_neg (by decide +kernel),if_pos (by decide +kernel)]
def openS (n : Int) : Bool := decide (n = 0) || decide (28 ≤ n)
def celP (h : List Ob) (r : Int) : Bool := decide ((obAt h r).kind = 6)
def basP (h : List Ob) (i r : Int) : Bool := !((decide (i ≤ r) || !decide ((obAt h r).kind = 9)) || !openS r)
abbrev itm (o : Ob) (k : Int) : Vl := o.items.getD k.toNat vl0
def supT (h : List Ob) (o : Ob) (k : Int) : Bool := (decide ((objS h (itm o 0)).kind = 9) && qG h k) && hasB (obAt h k).order (itm o 0).r
def qI (h : List Ob) (o : Ob) (i : Int) : Bool :=
 if o.kind = 5 then rngS o
 else if o.kind = 7 then (if o.refs.all (celP h) = true then decide ((obAt h o.cls).kind = 11) else false)
 else if o.kind = 8 then callS h (itm o 0)
 else if o.kind = 14 then callS h (itm o 0)
 else if o.kind = 9 then (if o.refs.all (basP h i) = true then (decide (1 ≤ (o.refs.length : Int)) && decide ((o.refs.length : Int) ≤ 8)) else false)
 else if o.kind = 10 then (decide ((obAt h o.cls).kind = 9) && openS o.cls) && (!hasB (obAt h o.cls).order 28 || excOkS h o i)
 else if o.kind = 15 then (if (objS h (itm o 1)).kind = 10 then supT h o (objS h (itm o 1)).cls else if (objS h (itm o 1)).kind = 9 then supT h o (itm o 1).r else false)
 else if o.kind = 16 then (if (objS h (itm o 0)).kind = 3 then (decide ((itm o 1).k = 2) && !(itm o 1).nn) else if (objS h (itm o 0)).kind = 4 then (decide ((itm o 1).k = 2) && !(itm o 1).nn)
  else if (objS h (itm o 0)).kind = 0 then ((decide ((itm o 0).k = 4) || decide ((itm o 0).k = 5)) && decide ((itm o 1).k = 0))
  else (((decide ((objS h (itm o 0)).kind = 1) || decide ((objS h (itm o 0)).kind = 2)) || decide ((objS h (itm o 0)).kind = 5)) && decide ((itm o 1).k = 0)))
 else if o.kind = 18 then (if 0 < o.state then (decide ((obAt h (o.state - 1)).kind = 10) && decide (49 ≤ (obAt h (o.state - 1)).cls)) else true)
 else if o.kind = 19 then decide ((objS h (itm o 0)).kind = 17)
 else if o.kind = 20 then (decide ((itm o 0).k = 2) && !(itm o 0).nn)
 else true
theorem wrap_pred {n : Int} (h0 : 0 < n) (h1 : n ≤ 9223372036854775807) : IntKind.i64.wrap (n - 1) = n - 1 := InI.wrap ⟨by omega,by omega⟩
theorem sn205 {P : Program} {K : DS → Prop} {p : Prop} {r : Out} (hr : r.sat P K) (hp : p := by first | (refine ⟨by decide,?_⟩;show _ < (h.getD n.toNat ob0).items.length;first | (have := cnt8 c13;omega) | (have := cnt14 c14;omega))) : (Out.need p r).sat P K := ⟨hp,hr⟩
theorem sn206 {P : Program} {K : DS → Prop} {p : Prop} {r : Out} (hr : r.sat P K) (hp : p := by first | (intro hh;simp only [Bool.and_eq_true] at hh;exact yN hh.2)) : (Out.need p r).sat P K := ⟨hp,hr⟩
theorem sn207 {P : Program} {K : DS → Prop} {p : Prop} {r : Out} (hr : r.sat P K) (hp : p := by first | (refine ⟨by decide,?_⟩;show _ < (h.getD n.toNat ob0).items.length;have := cnt16 c36;omega) | (intro _;(refine ⟨by decide,?_⟩;show _ < (h.getD n.toNat ob0).items.length;have := cnt16 c36;omega))) : (Out.need p r).sat P K := ⟨hp,hr⟩
set_option maxHeartbeats 1000000 in
theorem links_ok (h : List Ob) (n : Int) (hn : inH h n) (hh : HpIn h) (hv : valuesS h (obAt h n) = 0) (hs : qO (obAt h n) = 0) : Fn Tryz.prog 50 [hpD md h,.v (.int .i64 n)] (.v (.bool (qI h (obAt h n) n))) := by
 have hO : ObIn (h.getD n.toNat ob0) := hh.at n;have hil := hO.il;have hrl := hO.rl;have hst := hO.st;have hV : Vs h (h.getD n.toNat ob0) := vs_of hv;have hS : ((h.getD n.toNat ob0).items.length : Int) = cntS (h.getD n.toNat ob0) := (sh_of hs).1;have hcl : inH h (h.getD n.toNat ob0).cls := yN hV.cls;refine yK tabT Tryz.func50 rfl rfl rfl rfl rfl rfl ?_;intro w0 s0 mx;refine ev_R tabT [] 100 ?_;refine zB (zE tabT [] 200 rfl ?_);repeat (first | refine zG ?_ | refine zH ?_ | refine zQ (by exact hn) ?_)
 refine zC (zA ?_);refine zB ?_;refine ev_R tabT [] 300 ?_;refine zL ?_;refine ev_R tabT [] 400 ?_;refine yF (fun c3 => ?_) (fun c3 => ?_)
 ·
  refine zB (zE tabT [] 500 rfl ?_);refine zF ?_;refine zV _ (RangeOk_ok (h.getD n.toNat ob0) (by have := cnt5 c3;omega) hil) rfl ?_;refine zF ?_;refine zC (zA (zO (zN (zM ?_))));exact FinV.ret rfl (SubP.bool (by rw [qI,if_pos c3] <;> rfl))
 ·
  refine ev_R tabT [] 600 ?_;refine yF (fun c5 => ?_) (fun c5 => ?_)
  ·
   refine zB ?_;refine ev_R tabT [] 700 ?_;refine zL ?_;refine zX (ι := Al (h.getD n.toNat ob0).refs (celP h)) [2,5,30,31] [0,105] 750 (fun x => [(32,.v (.int .i64 x.k))]) (fun _ => []) (fun x => (h.getD n.toNat ob0).refs.length - x.k) ⟨0,Nat.zero_le _,fun j x hj => by omega⟩ ?_;refine ⟨⟨le_t,le_o,rfl,rfl⟩,fun x => ?_⟩;have hk := x.le;refine ev_R tabT [] 800 ?_;refine zB ?_;refine yF (fun c7 => ?_) (fun c7 => ?_)
   ·
    refine zK (zA ?_);refine zB ?_;refine zL ?_;refine ev_R tabT [] 900 ?_;refine zB (zE tabT [] 1000 rfl ?_);repeat (first | refine zG ?_ | refine zH ?_ | refine zQ (by exact yN (hV.refs _ (qD c7 0))) ?_)
    refine zC (zA ?_);refine zR rfl (fun c9 => ?_) (fun c9 => ?_)
    ·simp only [Bool.not_eq_true'] at c9;refine ev_R tabT [] 1100 ?_;refine zO (zN (zM (yH (zN (zM (zN (zM ?_)))))));exact FinV.ret rfl (SubP.bool (by rw [qI,if_neg c3,if_pos c5,if_neg (by rw [Al.no (p := celP h) (e := (0 : Int)) c7 c9];decide)] <;> rfl))
    ·simp only [Bool.not_eq_false'] at c9;refine zK (zJ (zA ?_));refine ev_Q tabT [] 1200 ?_;exact zP (x.next (e := (0 : Int)) c7 c9) ⟨le_t,le_o,rfl,rfl⟩ (by show (h.getD n.toNat ob0).refs.length - (x.k + 1) < (h.getD n.toNat ob0).refs.length - x.k;omega)
   ·
    refine yA (zU (zW (zS (zA ?_))));refine zB (zE tabT [] 1300 rfl ?_);repeat (first | refine zG ?_ | refine zH ?_ | refine zQ (by exact hcl) ?_)
    refine zC (zA (zO (zN (zM ?_))));exact FinV.ret rfl (SubP.bool (by rw [qI,if_neg c3,if_pos c5,if_pos (x.yes c7)] <;> rfl))
  ·
   refine zB ?_;refine ev_R tabT [] 1400 ?_;refine yF (fun c13 => ?_) (fun c13 => ?_)
   ·
    refine zK (zA ?_);refine yF (fun c13x => ?_) (fun c13x => ?_)
    ·
     refine zB (zZ tabT [] [[],[],[1],[1,2],[1,2,3],[0,1,2,3,4],[0,1,2,3,4,5]] 1600 mixT (by kernel_rfl) rfl ?_);repeat (first | refine zG ?_ | refine zH ?_ | refine sn205 ?_)
     refine zV _ (callable_ok _ _) rfl ?_;repeat (first | refine zG ?_ | refine zH ?_ | refine sn205 ?_)
     refine zC (zA (zO (zN (zM ?_))));exact FinV.ret rfl (SubP.bool (by rw [qI,if_neg c3,if_neg c5,if_pos c13] <;> rfl))
    ·
     simp_all
   ·
    refine ev_Q tabT [] 1500 ?_;refine zA ?_;refine yF (fun c14 => ?_) (fun c14 => ?_)
    ·
     refine zB (zZ tabT [] [[],[],[1],[1,2],[1,2,3],[0,1,2,3,4],[0,1,2,3,4,5]] 1600 mixT (by kernel_rfl) rfl ?_);repeat (first | refine zG ?_ | refine zH ?_ | refine sn205 ?_)
     refine zV _ (callable_ok _ _) rfl ?_;repeat (first | refine zG ?_ | refine zH ?_ | refine sn205 ?_)
     refine zC (zA (zO (zN (zM ?_))));exact FinV.ret rfl (SubP.bool (by rw [qI,if_neg c3,if_neg c5,if_neg c13,if_pos c14] <;> rfl))
    ·
     refine ev_R tabT [] 1700 ?_;refine yF (fun c16 => ?_) (fun c16 => ?_)
     ·
      refine zB ?_;refine ev_R tabT [] 1800 ?_;refine zL ?_;refine zX (ι := Al (h.getD n.toNat ob0).refs (basP h n)) [1,2,5,64,65] [0,105] 1850 (fun x => [(66,.v (.int .i64 x.k))]) (fun _ => []) (fun x => (h.getD n.toNat ob0).refs.length - x.k) ⟨0,Nat.zero_le _,fun j x hj => by omega⟩ ?_;refine ⟨⟨le_t,le_o,rfl,rfl⟩,fun x => ?_⟩;have hk := x.le;refine ev_R tabT [] 1900 ?_;refine zB ?_;refine yF (fun c18 => ?_) (fun c18 => ?_)
      ·
       refine zK (zA ?_);refine zB ?_;refine zL ?_;refine ev_R tabT [] 2000 ?_;refine zB (zE tabT [] 2100 rfl ?_);refine zF ?_;refine yG _ (fun hg6 => isClass_ok _ _ (yN (hV.refs _ (qD c18 0)))) rfl ?_;refine zF ?_;refine yG _ (fun hg11 => Open_ok _) rfl ?_;refine zF ?_;refine zC (zA ?_);refine zR rfl (fun c20 => ?_) (fun c20 => ?_)
       ·
        refine ev_R tabT [] 2200 ?_;refine zO (zN (zM (yH (zN (zM (zN (zM ?_)))))));exact FinV.ret rfl (SubP.bool (by rw [qI,if_neg c3,if_neg c5,if_neg c13,if_neg c14,if_pos c16,if_neg (by rw [Al.no (p := basP h n) (e := (0 : Int)) c18 (congrArg Bool.not c20)];decide)] <;> rfl))
       ·
        refine zK (zJ (zA ?_));refine ev_Q tabT [] 2300 ?_;exact zP (x.next (e := (0 : Int)) c18 (congrArg Bool.not c20)) ⟨le_t,le_o,rfl,rfl⟩ (by show (h.getD n.toNat ob0).refs.length - (x.k + 1) < (h.getD n.toNat ob0).refs.length - x.k;omega)
      ·
       refine yA (zU (zW (zS (zA ?_))));refine ev_R tabT [] 2400 ?_;refine zO (zN (zM ?_));exact FinV.ret rfl (SubP.bool (by rw [qI,if_neg c3,if_neg c5,if_neg c13,if_neg c14,if_pos c16,if_pos (x.yes c18)] <;> rfl))
     ·
      refine ev_R tabT [] 2500 ?_;refine yF (fun c24 => ?_) (fun c24 => ?_)
      ·
       refine zB (zE tabT [] 2600 rfl ?_);repeat (first | refine zG ?_ | refine zH ?_ | refine zQ (by first | exact hcl | (intro _;exact hcl)) ?_)
       refine zV _ (isClass_ok _ _ hcl) rfl ?_;repeat (first | refine zG ?_ | refine zH ?_ | refine zQ (by first | exact hcl | (intro _;exact hcl)) ?_)
       refine yG _ (fun hg7 => Open_ok _) rfl ?_;repeat (first | refine zG ?_ | refine zH ?_ | refine zQ (by first | exact hcl | (intro _;exact hcl)) ?_)
       refine yG _ (fun hg17 => qJ _ _) rfl ?_;repeat (first | refine zG ?_ | refine zH ?_ | refine zQ (by first | exact hcl | (intro _;exact hcl)) ?_)
       refine yG _ (fun hg22 => exceptionOk_ok _ _ hn hh hcl (by have := cnt10 c24;show (h.getD n.toNat ob0).items.length = (h.getD n.toNat ob0).names.length;omega)) rfl ?_;repeat (first | refine zG ?_ | refine zH ?_ | refine zQ (by first | exact hcl | (intro _;exact hcl)) ?_)
       refine zC (zA (zO (zN (zM ?_))));exact FinV.ret rfl (SubP.bool (by rw [qI,if_neg c3,if_neg c5,if_neg c13,if_neg c14,if_neg c16,if_pos c24] <;> rfl))
      ·
       refine ev_R tabT [] 2700 ?_;refine yF (fun c26 => ?_) (fun c26 => ?_)
       ·
        refine zB (zZ tabT [] [[],[0],[0,1],[0,1,2],[],[4],[4,5],[4,5,6],[],[],[0,1,2,3,8,9],[0,1,2,3,4,5,6,7,8,9,10]] 2800 mixT (by kernel_rfl) rfl ?_);repeat (first | refine zG ?_ | refine zH ?_ | refine zQ (by (refine ⟨by decide,?_⟩;show _ < (h.getD n.toNat ob0).items.length;have := cnt15 c26;first | omega | (rw [show Int.toNat 0 = 0 from rfl];omega))) ?_)
        refine zC (zA ?_);refine ev_R tabT [] 2900 ?_;refine zB ?_;refine zB (zE tabT [] 3000 rfl ?_);refine zF ?_;refine zV _ (Obj_ok _ _) rfl ?_;refine zF ?_;refine zC (zA ?_);refine ev_R tabT [] 3100 ?_;refine zL ?_;refine ev_R tabT [] 3300 ?_;refine yF (fun c32 => ?_) (fun c32 => ?_)
        ·
         refine ev_Q tabT [] 3400 ?_;refine zJ (zA ?_);refine zB (zZ tabT [] [[],[],[0,1],[0,1,2],[0,1,2,3],[0,1,2,3,4],[0,1,2,3,4,5],[0,1,2,3,4,5],[0,1,2,3,4,5,6,7],[0,1,2,3,4,5,6,7,8],[0,1,2,3,4,5,6,7,8,9],[0,1,2,3,4,5,6,7,8,9,10],[0,1,2,3,4,5,6,7,8,9,10,11],[0,1,2,3,4,5,6,7,8,9,10],[0,1,2,3,4,5,6,7,8,9,10,11,12,13],[0,1,2,3,4,5,6,7,8,9,10,11,12,13,14],[0,1,2,3,4,5,6,7,8,9,10,11,12,13,14,15],[0,1,2,3,4,5,6,7,8,9,10],[0,1,2,3,4,5,6,7,8,9,10,17],[0,1,2,3,4,5,6,7,8,9,10,11,12,13,14,15,16,17,18],[0,1,2,3,4,5,6,7,8,9,10,11,12,13,14,15,16,17,18,19],[0,1,2,3,4,5,6,7,8,9,10,11,12,13,14,15,16,17,18,19,20]] 3600 mixT (by kernel_rfl) rfl ?_);repeat (first | refine zG ?_ | refine zH ?_ | refine sn206 ?_)
         refine zV _ (Obj_ok _ _) rfl ?_;repeat (first | refine zG ?_ | refine zH ?_ | refine sn206 ?_)
         refine yG _ (fun hg8 => IsObject_ok _ _) rfl ?_;repeat (first | refine zG ?_ | refine zH ?_ | refine sn206 ?_)
         refine yG _ (fun hg19 => qJ _ _) rfl ?_;repeat (first | refine zG ?_ | refine zH ?_ | refine sn206 ?_)
         refine zC (zA (zO (zN (zM ?_))));exact FinV.ret rfl (SubP.bool (by rw [qI,if_neg c3,if_neg c5,if_neg c13,if_neg c14,if_neg c16,if_neg c24,if_pos c26,if_pos c32] <;> rfl))
        ·
         refine ev_R tabT [] 3500 ?_;refine yF (fun c34 => ?_) (fun c34 => ?_)
         ·
          refine zK (zJ (zA ?_));refine zB (zZ tabT [] [[],[],[0,1],[0,1,2],[0,1,2,3],[0,1,2,3,4],[0,1,2,3,4,5],[0,1,2,3,4,5],[0,1,2,3,4,5,6,7],[0,1,2,3,4,5,6,7,8],[0,1,2,3,4,5,6,7,8,9],[0,1,2,3,4,5,6,7,8,9,10],[0,1,2,3,4,5,6,7,8,9,10,11],[0,1,2,3,4,5,6,7,8,9,10],[0,1,2,3,4,5,6,7,8,9,10,11,12,13],[0,1,2,3,4,5,6,7,8,9,10,11,12,13,14],[0,1,2,3,4,5,6,7,8,9,10,11,12,13,14,15],[0,1,2,3,4,5,6,7,8,9,10],[0,1,2,3,4,5,6,7,8,9,10,17],[0,1,2,3,4,5,6,7,8,9,10,11,12,13,14,15,16,17,18],[0,1,2,3,4,5,6,7,8,9,10,11,12,13,14,15,16,17,18,19],[0,1,2,3,4,5,6,7,8,9,10,11,12,13,14,15,16,17,18,19,20]] 3600 mixT (by kernel_rfl) rfl ?_);repeat (first | refine zG ?_ | refine zH ?_ | refine sn206 ?_)
          refine zV _ (Obj_ok _ _) rfl ?_;repeat (first | refine zG ?_ | refine zH ?_ | refine sn206 ?_)
          refine yG _ (fun hg8 => IsObject_ok _ _) rfl ?_;repeat (first | refine zG ?_ | refine zH ?_ | refine sn206 ?_)
          refine yG _ (fun hg19 => qJ _ _) rfl ?_;repeat (first | refine zG ?_ | refine zH ?_ | refine sn206 ?_)
          refine zC (zA (zO (zN (zM ?_))));exact FinV.ret rfl (SubP.bool (by rw [qI,if_neg c3,if_neg c5,if_neg c13,if_neg c14,if_neg c16,if_neg c24,if_pos c26,if_neg c32,if_pos c34] <;> rfl))
         ·
          refine ev_R tabT [] 3600 ?_;refine zO (zN (zM (zN (zM ?_))));exact FinV.ret rfl (SubP.bool (by rw [qI,if_neg c3,if_neg c5,if_neg c13,if_neg c14,if_neg c16,if_neg c24,if_pos c26,if_neg c32,if_neg c34] <;> rfl))
       ·
        refine ev_R tabT [] 3700 ?_;refine yF (fun c36 => ?_) (fun c36 => ?_)
        ·
         refine zB (zZ tabT [] [[],[],[1],[1,2],[1,2,3],[0,1,2,3,4],[],[0,1,2,3,4,5,6]] 3800 mixT (by kernel_rfl) rfl ?_);repeat (first | refine zG ?_ | refine zH ?_ | refine zQ (by (refine ⟨by decide,?_⟩;show _ < (h.getD n.toNat ob0).items.length;have := cnt16 c36;omega)) ?_)
         refine zV _ (Obj_ok _ _) rfl ?_;repeat (first | refine zG ?_ | refine zH ?_ | refine zQ (by (refine ⟨by decide,?_⟩;show _ < (h.getD n.toNat ob0).items.length;have := cnt16 c36;omega)) ?_)
         refine zC (zA ?_);refine ev_R tabT [] 3900 ?_;refine zL ?_;refine zB ?_;refine ev_R tabT [] 4100 ?_;refine yF (fun c40 => ?_) (fun c40 => ?_)
         ·
          refine zK (zA ?_);refine yF (fun c40x => ?_) (fun c40x => ?_)
          ·
           refine zB (zE tabT [] 4300 rfl ?_);repeat (first | refine zG ?_ | refine zH ?_ | refine sn207 ?_)
           refine zC (zA (zO (zN (zN (zM ?_)))));exact FinV.ret rfl (SubP.bool (by rw [qI,if_neg c3,if_neg c5,if_neg c13,if_neg c14,if_neg c16,if_neg c24,if_neg c26,if_pos c36,if_pos c40] <;> rfl))
          ·
           simp_all
         ·
          refine ev_Q tabT [] 4200 ?_;refine zA ?_;refine yF (fun c41 => ?_) (fun c41 => ?_)
          ·
           refine zB (zE tabT [] 4300 rfl ?_);repeat (first | refine zG ?_ | refine zH ?_ | refine sn207 ?_)
           refine zC (zA (zO (zN (zN (zM ?_)))));exact FinV.ret rfl (SubP.bool (by rw [qI,if_neg c3,if_neg c5,if_neg c13,if_neg c14,if_neg c16,if_neg c24,if_neg c26,if_pos c36,if_neg c40,if_pos c41] <;> rfl))
          ·
           refine ev_R tabT [] 4400 ?_;refine yF (fun c43 => ?_) (fun c43 => ?_)
           ·
            refine zB (zE tabT [] 4500 rfl ?_);repeat (first | refine zG ?_ | refine zH ?_ | refine sn207 ?_)
            refine zC (zA (zO (zN (zN (zM ?_)))));exact FinV.ret rfl (SubP.bool (by rw [qI,if_neg c3,if_neg c5,if_neg c13,if_neg c14,if_neg c16,if_neg c24,if_neg c26,if_pos c36,if_neg c40,if_neg c41,if_pos c43] <;> rfl))
           ·
            refine zB (zE tabT [] 4500 rfl ?_);repeat (first | refine zG ?_ | refine zH ?_ | refine sn207 ?_)
            refine zC (zA (zO (zN (zN (zM ?_)))));exact FinV.ret rfl (SubP.bool (by rw [qI,if_neg c3,if_neg c5,if_neg c13,if_neg c14,if_neg c16,if_neg c24,if_neg c26,if_pos c36,if_neg c40,if_neg c41,if_neg c43] <;> rfl))
        ·
         refine ev_R tabT [] 4600 ?_;refine yF (fun c45 => ?_) (fun c45 => ?_)
         ·
          refine ev_R tabT [] 4700 ?_;refine yF (fun c46 => ?_) (fun c46 => ?_)
          ·
           refine zB (zE tabT [] 4800 rfl ?_);repeat (first | refine zG ?_ | refine zH ?_ | refine zQ (by first | exact ini (by omega) (by omega) | (have h1 := hV.weak c45 (by omega);rw [wrap_pred c46 (by omega)] at h1;exact yN h1)) ?_)
           refine zC (zA ?_);refine ev_R tabT [] 4900 ?_;refine zO (zN (zM ?_));exact FinV.ret rfl (SubP.bool (by rw [qI,if_neg c3,if_neg c5,if_neg c13,if_neg c14,if_neg c16,if_neg c24,if_neg c26,if_neg c36,if_pos c45,if_pos c46] <;> rfl))
          ·
           refine zK (zJ (zA ?_));refine ev_R tabT [] 5400 ?_;refine zO ?_;exact FinV.ret rfl (SubP.bool (by rw [qI,if_neg c3,if_neg c5,if_neg c13,if_neg c14,if_neg c16,if_neg c24,if_neg c26,if_neg c36,if_pos c45,if_neg (Int.not_lt.2 c46)] <;> rfl))
         ·
          refine ev_R tabT [] 5000 ?_;refine yF (fun c49 => ?_) (fun c49 => ?_)
          ·
           refine zB (zZ tabT [] [[],[],[1],[1,2],[1,2,3],[0,1,2,3,4],[0,1,2,3,4,5],[0,1,2,3,4,5,6],[0,1,2,3,4,5,6,7]] 5100 mixT (by kernel_rfl) rfl ?_);repeat (first | refine zG ?_ | refine zH ?_ | refine zQ (by (refine ⟨by decide,?_⟩;show _ < (h.getD n.toNat ob0).items.length;have := cnt19 c49;omega)) ?_)
           refine zV _ (Obj_ok _ _) rfl ?_;repeat (first | refine zG ?_ | refine zH ?_ | refine zQ (by (refine ⟨by decide,?_⟩;show _ < (h.getD n.toNat ob0).items.length;have := cnt19 c49;omega)) ?_)
           refine zC (zA (zO (zN (zM ?_))));exact FinV.ret rfl (SubP.bool (by rw [qI,if_neg c3,if_neg c5,if_neg c13,if_neg c14,if_neg c16,if_neg c24,if_neg c26,if_neg c36,if_neg c45,if_pos c49] <;> rfl))
          ·
           refine ev_R tabT [] 5200 ?_;refine yF (fun c51 => ?_) (fun c51 => ?_)
           ·
            refine zB (zE tabT [] 5300 rfl ?_);repeat (first | refine zG ?_ | refine zH ?_ | refine zQ (by first | (refine ⟨by decide,?_⟩;show _ < (h.getD n.toNat ob0).items.length;have := cnt20 c51;omega) | (intro _;(refine ⟨by decide,?_⟩;show _ < (h.getD n.toNat ob0).items.length;have := cnt20 c51;omega))) ?_)
            refine zC (zA (zO (zN (zM ?_))));exact FinV.ret rfl (SubP.bool (by rw [qI,if_neg c3,if_neg c5,if_neg c13,if_neg c14,if_neg c16,if_neg c24,if_neg c26,if_neg c36,if_neg c45,if_neg c49,if_pos c51] <;> rfl))
           ·
            refine zK (zJ (zA ?_));refine ev_R tabT [] 5400 ?_;refine zO ?_;exact FinV.ret rfl (SubP.bool (by rw [qI,if_neg c3,if_neg c5,if_neg c13,if_neg c14,if_neg c16,if_neg c24,if_neg c26,if_neg c36,if_neg c45,if_neg c49,if_neg c51] <;> rfl))
variable {md me : Bool}
def fldsL : List ByteArray := [⟨#[111,98,106,101,99,116]⟩,⟨#[99,108,97,115,115,58,111,98,106,101,99,116]⟩,⟨#[110,105,108,95,116,121,112,101,58,111,98,106,101,99,116]⟩,⟨#[98,111,111,108,58,111,98,106,101,99,116]⟩,⟨#[105,110,116,58,111,98,106,101,99,116]⟩,⟨#[114,97,116,105,111,58,111,98,106,101,99,116]⟩,⟨#[116,101,120,116,58,111,98,106,101,99,116]⟩,⟨#[98,121,116,101,115,58,111,98,106,101,99,116]⟩,⟨#[116,117,112,108,101,58,111,98,106,101,99,116]⟩,⟨#[108,105,115,116,58,111,98,106,101,99,116]⟩,⟨#[100,105,99,116,58,111,98,106,101,99,116]⟩,⟨#[115,101,116,58,111,98,106,101,99,116]⟩,⟨#[114,97,110,103,101,58,111,98,106,101,99,116]⟩,⟨#[99,101,108,108,58,111,98,106,101,99,116]⟩,⟨#[102,117,110,99,116,105,111,110,58,111,98,106,101,99,116]⟩,⟨#[98,117,105,108,116,105,110,58,111,98,106,101,99,116]⟩,⟨#[109,101,116,104,111,100,58,111,98,106,101,99,116]⟩,⟨#[109,111,100,117,108,101,58,111,98,106,101,99,116]⟩,⟨#[112,114,111,112,101,114,116,121,58,111,98,106,101,99,116]⟩,⟨#[115,116,97,116,105,99,58,111,98,106,101,99,116]⟩,⟨#[99,108,97,115,115,95,109,101,116,104,111,100,58,111,98,106,101,99,116]⟩,⟨#[115,117,112,101,114,95,116,121,112,101,58,111,98,106,101,99,116]⟩,⟨#[105,116,101,114,97,116,111,114,58,111,98,106,101,99,116]⟩,⟨#[103,101,110,101,114,97,116,111,114,58,111,98,106,101,99,116]⟩,⟨#[119,101,97,107,58,111,98,106,101,99,116]⟩,⟨#[116,97,115,107,58,111,98,106,101,99,116]⟩,⟨#[116,105,109,101,114,58,111,98,106,101,99,116]⟩,⟨#[112,97,115,115,95,116,121,112,101,58,111,98,106,101,99,116]⟩,⟨#[82,97,105,115,101,100,58,111,98,106,101,99,116]⟩,⟨#[69,120,105,116,58,82,97,105,115,101,100]⟩,⟨#[67,97,110,99,101,108,58,82,97,105,115,101,100]⟩,⟨#[69,114,114,111,114,58,82,97,105,115,101,100]⟩,⟨#[84,121,112,101,69,114,114,111,114,58,69,114,114,111,114]⟩,⟨#[86,97,108,117,101,69,114,114,111,114,58,69,114,114,111,114]⟩,⟨#[78,97,109,101,69,114,114,111,114,58,69,114,114,111,114]⟩,⟨#[85,110,98,111,117,110,100,69,114,114,111,114,58,78,97,109,101,69,114,114,111,114]⟩,⟨#[65,116,116,114,105,98,117,116,101,69,114,114,111,114,58,69,114,114,111,114]⟩,⟨#[76,111,111,107,117,112,69,114,114,111,114,58,69,114,114,111,114]⟩,⟨#[73,110,100,101,120,69,114,114,111,114,58,76,111,111,107,117,112,69,114,114,111,114]⟩,⟨#[75,101,121,69,114,114,111,114,58,76,111,111,107,117,112,69,114,114,111,114]⟩,⟨#[65,114,105,116,104,109,101,116,105,99,69,114,114,111,114,58,69,114,114,111,114]⟩,⟨#[68,105,118,105,115,105,111,110,69,114,114,111,114,58,65,114,105,116,104,109,101,116,105,99,69,114,114,111,114]⟩,⟨#[76,105,109,105,116,69,114,114,111,114,58,69,114,114,111,114]⟩,⟨#[82,101,99,117,114,115,105,111,110,69,114,114,111,114,58,76,105,109,105,116,69,114,114,111,114]⟩,⟨#[65,115,115,101,114,116,105,111,110,69,114,114,111,114,58,69,114,114,111,114]⟩,⟨#[73,109,112,111,114,116,69,114,114,111,114,58,69,114,114,111,114]⟩,⟨#[83,116,111,112,69,114,114,111,114,58,69,114,114,111,114]⟩,⟨#[83,116,97,116,101,69,114,114,111,114,58,69,114,114,111,114]⟩,⟨#[71,114,111,117,112,69,114,114,111,114,58,69,114,114,111,114]⟩]
def nmL : List ByteArray := [⟨#[111,98,106,101,99,116]⟩,⟨#[99,108,97,115,115]⟩,⟨#[110,105,108,95,116,121,112,101]⟩,⟨#[98,111,111,108]⟩,⟨#[105,110,116]⟩,⟨#[114,97,116,105,111]⟩,⟨#[116,101,120,116]⟩,⟨#[98,121,116,101,115]⟩,⟨#[116,117,112,108,101]⟩,⟨#[108,105,115,116]⟩,⟨#[100,105,99,116]⟩,⟨#[115,101,116]⟩,⟨#[114,97,110,103,101]⟩,⟨#[99,101,108,108]⟩,⟨#[102,117,110,99,116,105,111,110]⟩,⟨#[98,117,105,108,116,105,110]⟩,⟨#[109,101,116,104,111,100]⟩,⟨#[109,111,100,117,108,101]⟩,⟨#[112,114,111,112,101,114,116,121]⟩,⟨#[115,116,97,116,105,99]⟩,⟨#[99,108,97,115,115,95,109,101,116,104,111,100]⟩,⟨#[115,117,112,101,114,95,116,121,112,101]⟩,⟨#[105,116,101,114,97,116,111,114]⟩,⟨#[103,101,110,101,114,97,116,111,114]⟩,⟨#[119,101,97,107]⟩,⟨#[116,97,115,107]⟩,⟨#[116,105,109,101,114]⟩,⟨#[112,97,115,115,95,116,121,112,101]⟩,⟨#[82,97,105,115,101,100]⟩,⟨#[69,120,105,116]⟩,⟨#[67,97,110,99,101,108]⟩,⟨#[69,114,114,111,114]⟩,⟨#[84,121,112,101,69,114,114,111,114]⟩,⟨#[86,97,108,117,101,69,114,114,111,114]⟩,⟨#[78,97,109,101,69,114,114,111,114]⟩,⟨#[85,110,98,111,117,110,100,69,114,114,111,114]⟩,⟨#[65,116,116,114,105,98,117,116,101,69,114,114,111,114]⟩,⟨#[76,111,111,107,117,112,69,114,114,111,114]⟩,⟨#[73,110,100,101,120,69,114,114,111,114]⟩,⟨#[75,101,121,69,114,114,111,114]⟩,⟨#[65,114,105,116,104,109,101,116,105,99,69,114,114,111,114]⟩,⟨#[68,105,118,105,115,105,111,110,69,114,114,111,114]⟩,⟨#[76,105,109,105,116,69,114,114,111,114]⟩,⟨#[82,101,99,117,114,115,105,111,110,69,114,114,111,114]⟩,⟨#[65,115,115,101,114,116,105,111,110,69,114,114,111,114]⟩,⟨#[73,109,112,111,114,116,69,114,114,111,114]⟩,⟨#[83,116,111,112,69,114,114,111,114]⟩,⟨#[83,116,97,116,101,69,114,114,111,114]⟩,⟨#[71,114,111,117,112,69,114,114,111,114]⟩]
def bsL : List ByteArray := [⟨#[]⟩,⟨#[111,98,106,101,99,116]⟩,⟨#[111,98,106,101,99,116]⟩,⟨#[111,98,106,101,99,116]⟩,⟨#[111,98,106,101,99,116]⟩,⟨#[111,98,106,101,99,116]⟩,⟨#[111,98,106,101,99,116]⟩,⟨#[111,98,106,101,99,116]⟩,⟨#[111,98,106,101,99,116]⟩,⟨#[111,98,106,101,99,116]⟩,⟨#[111,98,106,101,99,116]⟩,⟨#[111,98,106,101,99,116]⟩,⟨#[111,98,106,101,99,116]⟩,⟨#[111,98,106,101,99,116]⟩,⟨#[111,98,106,101,99,116]⟩,⟨#[111,98,106,101,99,116]⟩,⟨#[111,98,106,101,99,116]⟩,⟨#[111,98,106,101,99,116]⟩,⟨#[111,98,106,101,99,116]⟩,⟨#[111,98,106,101,99,116]⟩,⟨#[111,98,106,101,99,116]⟩,⟨#[111,98,106,101,99,116]⟩,⟨#[111,98,106,101,99,116]⟩,⟨#[111,98,106,101,99,116]⟩,⟨#[111,98,106,101,99,116]⟩,⟨#[111,98,106,101,99,116]⟩,⟨#[111,98,106,101,99,116]⟩,⟨#[111,98,106,101,99,116]⟩,⟨#[111,98,106,101,99,116]⟩,⟨#[82,97,105,115,101,100]⟩,⟨#[82,97,105,115,101,100]⟩,⟨#[82,97,105,115,101,100]⟩,⟨#[69,114,114,111,114]⟩,⟨#[69,114,114,111,114]⟩,⟨#[69,114,114,111,114]⟩,⟨#[78,97,109,101,69,114,114,111,114]⟩,⟨#[69,114,114,111,114]⟩,⟨#[69,114,114,111,114]⟩,⟨#[76,111,111,107,117,112,69,114,114,111,114]⟩,⟨#[76,111,111,107,117,112,69,114,114,111,114]⟩,⟨#[69,114,114,111,114]⟩,⟨#[65,114,105,116,104,109,101,116,105,99,69,114,114,111,114]⟩,⟨#[69,114,114,111,114]⟩,⟨#[76,105,109,105,116,69,114,114,111,114]⟩,⟨#[69,114,114,111,114]⟩,⟨#[69,114,114,111,114]⟩,⟨#[69,114,114,111,114]⟩,⟨#[69,114,114,111,114]⟩,⟨#[69,114,114,111,114]⟩]
def dvL : List Bool := [false,true,true,true,true,true,true,true,true,true,true,true,true,true,true,true,true,true,true,true,true,true,true,true,true,true,true,true,true,true,true,true,true,true,true,true,true,true,true,true,true,true,true,true,true,true,true,true,true]
def ixL : List Int := [0,0,0,0,0,0,0,0,0,0,0,0,0,0,0,0,0,0,0,0,0,0,0,0,0,0,0,0,0,28,28,28,31,31,31,34,31,31,37,37,31,40,31,42,31,31,31,31,31]
def odL : List (List Int) := [[0],[1,0],[2,0],[3,0],[4,0],[5,0],[6,0],[7,0],[8,0],[9,0],[10,0],[11,0],[12,0],[13,0],[14,0],[15,0],[16,0],[17,0],[18,0],[19,0],[20,0],[21,0],[22,0],[23,0],[24,0],[25,0],[26,0],[27,0],[28,0],[29,28,0],[30,28,0],[31,28,0],[32,31,28,0],[33,31,28,0],[34,31,28,0],[35,34,31,28,0],[36,31,28,0],[37,31,28,0],[38,37,31,28,0],[39,37,31,28,0],[40,31,28,0],[41,40,31,28,0],[42,31,28,0],[43,42,31,28,0],[44,31,28,0],[45,31,28,0],[46,31,28,0],[47,31,28,0],[48,31,28,0]]
def nmB (k : Nat) : ByteArray := nmL.getD k ByteArray.empty
def bsB (k : Nat) : ByteArray := bsL.getD k ByteArray.empty
def dvB (k : Nat) : Bool := dvL.getD k false
def ixB (k : Nat) : Int := ixL.getD k 0
def odB (k : Nat) : List Int := odL.getD k []
def nmS (k : Nat) : List ByteArray := (List.range k).map nmB
def bgO (k : Nat) : Ob := ⟨9,nmB k,0,if dvB k then [ixB k] else [],odB k,[],[],[],0,0⟩
def bgS (k : Nat) : List Ob := (List.range k).map bgO
theorem bgS_len (k : Nat) : (bgS k).length = k := by simp [bgS]
theorem bgS_succ (k : Nat) : (bgS (k + 1)).map obD = (bgS k).map obD ++ [obD (bgO k)] := by rw [bgS,List.range_succ,List.map_append,List.map_append];rfl
theorem nmS_succ (k : Nat) : (nmS (k + 1)).map sD = (nmS k).map sD ++ [sD (nmB k)] := by rw [nmS,List.range_succ,List.map_append,List.map_append];rfl
theorem fldsL_len : fldsL.length = 49 := by decide +kernel
def fieldsS (p : ByteArray) : List ByteArray := (Lib.fields p.data.toList).map fun l => ⟨l.toArray⟩
theorem Fields_ok (p : ByteArray) {l : List ByteArray} (h : fieldsS p = l) (hp : p.size < 4294967281) (hl : l.length ≤ 9223372036854775807) (ha : p.data.toList.all (fun b => decide (b.toNat < 128)) = true) : Fn Tryz.prog 70 [.v (.string p)] (ssD l) := by
 subst h;refine fn_rowS (t := 9) ⟨_,Tryz.func70,rfl,rfl⟩ hl fun w s vs hg hv => ?_;rw [allV_one hv];obtain ⟨G,g1,g2,_⟩ := hg;refine (Any.strings_Fields_core Tryz.laysFields (by kernel_rfl) p w hp (fun j b hb => of_decide_eq_true (List.all_eq_true.1 ha b (List.mem_of_getElem? hb))) fun c hc => (g2 _ _ _ (g1.space c hc)).1).mono ?_;rintro e w' ⟨rfl,rfl⟩;refine ⟨?_,?_⟩
 ·simp only [fieldsS,List.length_map]
 ·simp only [fieldsS,List.map_map];rfl
theorem Cut_ok (p q : ByteArray) (hp : p.size < 4294967281) {a b : ByteArray} {c : Bool} (h : Lib.cut p.data.toList q.data.toList = (a.data.toList,b.data.toList,c)) : Fn Tryz.prog 71 [.v (.string p),.v (.string q)] (.tup [.v (.string a),.v (.string b),.v (.bool c)]) := by
 refine ⟨⟨_,Tryz.func71,rfl,rfl⟩,fun w s vs hlt hg hv => ?_⟩;rw [allV_two hv];obtain ⟨G,g1,g2,_⟩ := hg;obtain ⟨m,hm⟩ := g1.maxLen;refine (Any.strings_Cut Tryz.laysCut p q m w hp (g2 _ _ _ hm).1).mono ?_;rintro e w' ⟨rfl,n,rfl⟩;rw [h];exact ⟨s,_,rfl,⟨_,rfl,rfl,rfl,rfl,trivial⟩,PStp.ofBelow hlt (below_drewN (Below.refl _ _) n)⟩
def bgK (k : Nat) : Bool := decide (Lib.cut (fldsL.getD k ByteArray.empty).data.toList [58] = ((nmB k).data.toList,(bsB k).data.toList,dvB k)) && decide ((fldsL.getD k ByteArray.empty).size ≤ 100)
 && (if dvB k then decide (ixI (nmS k) (bsB k) = ixB k) && decide (0 ≤ ixB k) && decide (ixB k < (k : Int)) && decide (odB k = (k : Int) :: odB (ixB k).toNat) else decide (odB k = [(k : Int)]))
theorem bgK_all : (List.range 49).all bgK = true := by decide +kernel
theorem bgK_at {k : Nat} (h : k < 49) : bgK k = true := List.all_eq_true.1 bgK_all k (List.mem_range.2 h)
theorem cutK {k : Nat} (h : k < 49) : Lib.cut (fldsL.getD k ByteArray.empty).data.toList [58] = ((nmB k).data.toList,(bsB k).data.toList,dvB k) ∧ (fldsL.getD k ByteArray.empty).size ≤ 100 := by
 have := bgK_at h;simp only [bgK,Bool.and_eq_true,decide_eq_true_eq] at this;exact this.1
theorem ixK {k : Nat} (h : k < 49) (hd : dvB k = true) : ixI (nmS k) (bsB k) = ixB k ∧ 0 ≤ ixB k ∧ ixB k < (k : Int) ∧ odB k = (k : Int) :: odB (ixB k).toNat := by
 have := bgK_at h;simp only [bgK,Bool.and_eq_true,decide_eq_true_eq,if_pos hd] at this;exact ⟨this.2.1.1.1,this.2.1.1.2,this.2.1.2,this.2.2⟩
theorem odK {k : Nat} (h : k < 49) (hd : dvB k = false) : odB k = [(k : Int)] := by
 have := bgK_at h;rw [bgK,if_neg (by rw [hd];decide)] at this;simp only [Bool.and_eq_true,decide_eq_true_eq] at this;exact this.2
theorem rowK {k j : Nat} (h : j < k) : ((bgS k).map obD).getD j [] = obD (bgO j) := by
 have e : ((bgS k).map obD)[j]? = some (obD (bgO j)) := by rw [bgS,List.map_map,List.getElem?_map,List.getElem?_range h];rfl
 rw [List.getD_eq_getElem?_getD,e];rfl
theorem Cut_at (k : Nat) (h : k < 49) : Fn Tryz.prog 71 [.v (.string (fldsL.getD k ByteArray.empty)),.v (.string ⟨#[58]⟩)] (.tup [.v (.string (nmB k)),.v (.string (bsB k)),.v (.bool (dvB k))]) :=
 Cut_ok _ _ (by have := (cutK h).2;omega) (cutK h).1
theorem odL_len (k : Nat) : (odB k).length ≤ 10 := by
 by_cases h : k < 49
 ·exact of_decide_eq_true (List.all_eq_true.1 (show (List.range 49).all (fun k => decide ((odB k).length ≤ 10)) = true by decide +kernel) k (List.mem_range.2 h))
 ·have : odB k = [] := by rw [odB,List.getD_eq_getElem?_getD,List.getElem?_eq_none (by show 49 ≤ k;omega)];rfl
  rw [this];decide
theorem nmS_len (k : Nat) : (nmS k).length = k := by simp [nmS]
theorem bgRow0 {k : Nat} (h : k < 49) (hd : dvB k = false) {K : Nat} : SubPs [.v (.int .i64 9),.v (.string (nmB k)),.v (.int .i64 0),.v (.slice none 0 0),.own K 1 [[.v (.int .i64 k)]],.v (.slice none 0 0),.v (.slice none 0 0),.v (.slice none 0 0),.v (.int .i64 0),.v (.int .i64 0)] (obD (bgO k)) :=
 ⟨SubP.refl _,SubP.refl _,SubP.refl _,SubP.nilSl (by show (if dvB k then _ else _) = _;rw [if_neg (by rw [hd];decide)]),SubP.ownSl (by show _ = (odB k).map iD;rw [odK h hd];rfl),SubP.nilSl rfl,SubP.nilSl rfl,SubP.nilSl rfl,SubP.refl _,SubP.refl _,trivial⟩
theorem bgRow1 {k : Nat} (h : k < 49) (hd : dvB k = true) {K : Nat} {rows : List (List D)} (hr : rows = [[.v (.int .i64 k)]] ++ (odB (ixB k).toNat).map iD) : SubPs [.v (.int .i64 9),.v (.string (nmB k)),.v (.int .i64 0),.slr false 1 [[.v (.int .i64 (ixI (nmS k) (bsB k)))]],.own K 1 rows,.v (.slice none 0 0),.v (.slice none 0 0),.v (.slice none 0 0),.v (.int .i64 0),.v (.int .i64 0)] (obD (bgO k)) :=
 ⟨SubP.refl _,SubP.refl _,SubP.refl _,SubP.slrSl (by show _ = (if dvB k then [ixB k] else []).map iD;rw [if_pos hd,(ixK h hd).1];rfl),SubP.ownSl (by show _ = (odB k).map iD;rw [(ixK h hd).2.2.2,hr];rfl),SubP.nilSl rfl,SubP.nilSl rfl,SubP.nilSl rfl,SubP.refl _,SubP.refl _,trivial⟩
theorem sn208 {P : Program} {K : DS → Prop} {p : Prop} {r : Out} (hr : r.sat P K) (hp : p := by first | rfl | (have h1 := nmS_len x.k;have h2 := bgS_len x.k;simp only [List.length_map,List.length_cons,List.length_nil];omega)) : (Out.need p r).sat P K := ⟨hp,hr⟩
set_option maxHeartbeats 1000000 in
theorem Begin_ok  : Fn Tryz.prog 44 [] (hpD false (bgS 49)) := by
 refine yK tabT Tryz.func44 rfl rfl rfl rfl rfl rfl ?_;intro w0 s0 mx;refine ev_R tabT [] 100 ?_;refine ev_R tabT [] 200 ?_;refine ev_R tabT [] 300 ?_;refine ev_nilCell 100 0 52 10 rfl rfl ?_;refine yM 2 9 1 rfl ?_;refine zB ?_;refine zB (zE tabT [] 400 rfl ?_);refine zF ?_;refine zV _ (Fields_ok _ (l := fldsL) (by decide +kernel) (by decide +kernel) (by decide +kernel) (by decide +kernel)) rfl ?_;refine zF ?_;refine zC (zA (zL ?_));refine zX (ι := Up 49 (fun _ => true)) [0,1,10,11] [0] 450 (fun x => [(12,.v (.int .i64 x.k)),(2,.own 301 1 ((nmS x.k).map sD))]) (fun x => [(301,.row 9 1 ((nmS x.k).map sD).length),(100,.box 24 [.own 300 10 ((bgS x.k).map obD)]),(300,.row 52 10 ((bgS x.k).map obD).length)]) (fun x => 49 - x.k) ⟨0,Nat.zero_le _,fun j hj => by omega⟩ ?_;refine ⟨⟨le_t,le_o,rfl,rfl⟩,fun x => ?_⟩;have hk := x.le;refine ev_R tabT [] 500 ?_;refine zB ?_;refine zR rfl (fun c4 => ?_) (fun c4 => ?_)
 ·replace c4 := of_decide_eq_true c4
  have hk9 : x.k < 49 := by have := fldsL_len;omega
  refine zK (zA ?_);refine zB ?_;refine zL ?_;refine ev_R tabT [] 600 ?_;refine zB (zE tabT [] 700 rfl ?_);refine zF ?_;refine zV _ (Cut_at x.k hk9) rfl ?_;refine zF ?_;refine zC (zA ?_);refine ev_R tabT [25] 800 ?_;refine zB ?_;refine ev_R tabT [] 900 ?_;refine yF (fun c8 => ?_) (fun c8 => ?_)
  ·
   refine zB (zE tabT [] 1000 rfl ?_);refine zF ?_;refine zV _ ((IndexS_ok (nmS x.k) (bsB x.k)).args ⟨SubP.ownSl rfl,SubP.refl _,trivial⟩) rfl ?_;refine zF ?_;refine zC (zA ?_);refine zZ tabT [38] [[],[0],[],[2],[],[4],[],[4,5,6],[4,5,6,7],[4,5,6,7,8],[2,3,4,5,6,7,8,9],[0,1,2,3],[0,1,2,3,4,5,6,7,8,9,10,11],[0,1,2,3,4,5,6,7,8,9,10,11,12],[0,1,2,3,4,5,6,7,8,9,10,11,12,13]] 1100 mixT (by kernel_rfl) rfl ?_;refine zF ?_;refine sat_pick (obD (bgO (ixB x.k).toNat)) ⟨?_,?_,?_⟩ ?_
   ·show 0 ≤ ixI (nmS x.k) (bsB x.k);rw [(ixK hk9 c8).1];exact (ixK hk9 c8).2.1
   ·show (ixI (nmS x.k) (bsB x.k)).toNat < ((bgS x.k).map obD).length;rw [(ixK hk9 c8).1,List.length_map,bgS_len];have := (ixK hk9 c8).2;omega
   ·show ((bgS x.k).map obD).getD (ixI (nmS x.k) (bsB x.k)).toNat [] = _;rw [(ixK hk9 c8).1];exact rowK (by have := (ixK hk9 c8).2;omega)
   repeat (first | refine zG ?_ | refine sat_imp (by exact fun hh => hh) ?_ | refine zQ (by first | rfl | (have hod := odL_len (ixB x.k).toNat;simp only [List.length_map,List.length_cons,List.length_nil,bgO];omega)) ?_)
   refine zC (zA ?_);refine zB (zE tabT [] 1200 rfl ?_);repeat (first | refine zG ?_ | refine zH ?_ | refine sn208 ?_)
   refine zC (zA ?_);refine zE tabT [] 1300 rfl ?_;repeat (first | refine zG ?_ | refine zH ?_ | refine sn208 ?_)
   refine zC (zJ (zA ?_));refine ev_Q tabT [] 1400 ?_;exact zP (x.next hk9 rfl) ⟨⟨Sub.refl _,Sub.own (by show _ = (nmS (x.k + 1)).map sD;rw [nmS_succ];rfl),by repeat (first | exact trivial | exact Sub.refl _ | refine ⟨?_,?_⟩)⟩,⟨⟨rfl,rfl,by show _ = ((nmS (x.k + 1)).map sD).length;rw [nmS_succ];rfl⟩,⟨rfl,Sub.ownRows (by show RowsP _ ((bgS (x.k + 1)).map obD);rw [bgS_succ];exact (RowsP.refl _).append ⟨bgRow1 hk9 c8 rfl,trivial⟩),rfl,trivial⟩,⟨rfl,rfl,by show _ = ((bgS (x.k + 1)).map obD).length;rw [bgS_succ,List.length_append,List.length_append];rfl⟩,by repeat (first | exact trivial | exact SubO.same rfl | refine ⟨?_,?_⟩)⟩,rfl,rfl⟩ (by show 49 - (x.k + 1) < 49 - x.k;omega)
  ·
   refine zK (zA ?_);refine zB (zE tabT [] 1200 rfl ?_);repeat (first | refine zG ?_ | refine zH ?_ | refine sn208 ?_)
   refine zC (zA ?_);refine zE tabT [] 1300 rfl ?_;repeat (first | refine zG ?_ | refine zH ?_ | refine sn208 ?_)
   refine zC (zJ (zA ?_));refine ev_Q tabT [] 1400 ?_;exact zP (x.next hk9 rfl) ⟨⟨Sub.refl _,Sub.own (by show _ = (nmS (x.k + 1)).map sD;rw [nmS_succ];rfl),by repeat (first | exact trivial | exact Sub.refl _ | refine ⟨?_,?_⟩)⟩,⟨⟨rfl,rfl,by show _ = ((nmS (x.k + 1)).map sD).length;rw [nmS_succ];rfl⟩,⟨rfl,Sub.ownRows (by show RowsP _ ((bgS (x.k + 1)).map obD);rw [bgS_succ];exact (RowsP.refl _).append ⟨bgRow0 hk9 c8,trivial⟩),rfl,trivial⟩,⟨rfl,rfl,by show _ = ((bgS (x.k + 1)).map obD).length;rw [bgS_succ,List.length_append,List.length_append];rfl⟩,by repeat (first | exact trivial | exact SubO.same rfl | refine ⟨?_,?_⟩)⟩,rfl,rfl⟩ (by show 49 - (x.k + 1) < 49 - x.k;omega)
 ·replace c4 := of_decide_eq_false c4
  have hxk : x.k = 49 := by have := fldsL_len;omega
  refine yA (zU (zW (zS (zA ?_))));refine ev_R tabT [] 1500 ?_;refine zO ?_;exact FinV.ret rfl (SubP.agg ⟨SubP.ownSl (by rw [hxk]),trivial⟩)
end Go.Proofs.YtmbnclhokhggaaaGreatDoor
