/- Part 21 of the proof. -/
import Derived.Test.YtepamjmgancjoaaGreatDoorM20
import Derived.Test.YtepamjmgancjoaaGreatDoorM12
import Derived.Test.YtepamjmgancjoaaGreatDoorM13
namespace Go.Proofs.YtepamjmgancjoaaGreatDoor
open Go.RowKit
variable {md me : Bool}
def sumN (f : Nat → Nat) : Nat → Nat
 | 0 => 0
 | k + 1 => sumN f k + f k
theorem sumN_le {f : Nat → Nat} {B : Nat} (h : ∀ i,f i ≤ B) : ∀ k,sumN f k ≤ k * B
 | 0 => by simp [sumN]
 | k + 1 => by rw [sumN,Nat.add_mul];have := sumN_le h k;have := h k;omega
def fstC : List Int → Int
 | [] => 0
 | c :: l => if c = 0 then fstC l else c
theorem fstC_at : ∀ {l : List Int} {k : Nat},(∀ j,j < k → l.getD j 0 = 0) → l.getD k 0 ≠ 0 → fstC l = l.getD k 0
 | [],k,_,h => absurd (by simp) h
 | c :: l,0,_,h => by rw [fstC,if_neg (by simpa using h)];rfl
 | c :: l,k + 1,h,hk => by
  have h0 : c = 0 := by simpa using h 0 (by omega)
  rw [fstC,if_pos h0,fstC_at (l := l) (k := k) (fun j hj => by simpa using h (j + 1) (by omega)) (by simpa using hk)];simp
theorem fstC_none : ∀ {l : List Int},(∀ j,j < l.length → l.getD j 0 = 0) → fstC l = 0
 | [],_ => rfl
 | c :: l,h => by
  have h0 : c = 0 := by simpa using h 0 (by simp)
  rw [fstC,if_pos h0];exact fstC_none fun j hj => by simpa using h (j + 1) (by simp;omega)
def fourS (h : List Ob) (o : Ob) : List Int := [shapeS o,sizesS o,namesS o,valuesS h o]
noncomputable def codeS (h : List Ob) (i : Nat) : Int :=
 if (i : Int) < 49 then (if obAt h i = bgO i then 0 else 19)
 else if (obAt h i).kind < 0 ∨ 21 ≤ (obAt h i).kind then 5
 else if fstC (fourS h (obAt h i)) = 0 then
  (if qO h (obAt h i) i = true then (if keyS h (obAt h i) = 0 then (if orderOkS h (obAt h i) i = true then 0 else 19) else keyS h (obAt h i)) else 13)
 else fstC (fourS h (obAt h i))
def nodN (h : List Ob) (i : Nat) : Nat := if (i : Int) < 49 then (obAt h i).refs.length else (obAt h i).items.length + (obAt h i).keys.length + (obAt h i).refs.length
abbrev kvs (o : Ob) : List Vl := o.items ++ o.keys
def bytO (o : Ob) (k : Nat) : Nat := sumN (fun j => ((kvs o).getD j vl0).s.size) k
theorem bytO_succ (o : Ob) (k : Nat) : bytO o (k + 1) = bytO o k + ((kvs o).getD k vl0).s.size := rfl
def bytN (h : List Ob) (i : Nat) : Nat := if (i : Int) < 49 then 0 else bytO (obAt h i) (kvs (obAt h i)).length
noncomputable def problemS (h : List Ob) : Int × Int :=
 if 5000 < (h.length : Int) then (2,-1) else if (h.length : Int) < 49 then (9,-1)
 else match (List.range h.length).find? (fun i => !decide (codeS h i = 0)) with
  | some i => (codeS h i,i)
  | none => if 20000 < sumN (nodN h) h.length ∨ 200000 < sumN (bytN h) h.length then (14,-1) else (0,0)
def prD (p : Int × Int) : D := .agg [.v (.int .i64 p.1),.v (.int .i64 p.2)]
noncomputable abbrev okI (h : List Ob) (i : Nat) : Bool := decide (codeS h i = 0)
theorem pr_at {h : List Ob} (h1 : ¬ 5000 < (h.length : Int)) (h2 : ¬ (h.length : Int) < 49) (x : Up h.length (okI h)) (hk : x.k < h.length) {c : Int} (hc : codeS h x.k = c) (hne : c ≠ 0) : problemS h = (c,(x.k : Int)) := by
 subst hc;have : (List.range h.length).find? (fun i => !decide (codeS h i = 0)) = some x.k := by
  rw [List.find?_range_eq_some];exact ⟨by simpa using hne,List.mem_range.2 hk,fun j hj => by have := x.all j hj;simpa using this⟩
 rw [problemS,if_neg h1,if_neg h2,this]
theorem pr_none {h : List Ob} (h1 : ¬ 5000 < (h.length : Int)) (h2 : ¬ (h.length : Int) < 49) (x : Up h.length (okI h)) (hk : ¬ x.k < h.length) : problemS h = if 20000 < sumN (nodN h) h.length ∨ 200000 < sumN (bytN h) h.length then (14,-1) else (0,0) := by
 have : (List.range h.length).find? (fun i => !decide (codeS h i = 0)) = none := by
  rw [List.find?_range_eq_none];exact fun j hj => by have := x.all j (by omega);simpa using this
 rw [problemS,if_neg h1,if_neg h2,this]
theorem bg_at {k : Nat} (hk : (k : Int) < 49) : (bgS 49).getD k ob0 = bgO k := by
 have e : (bgS 49)[k]? = some (bgO k) := by rw [bgS,List.getElem?_map,List.getElem?_range (by omega)];rfl
 rw [List.getD_eq_getElem?_getD,e];rfl
theorem nodN_le {h : List Ob} (hh : HpIn h) (i : Nat) : nodN h i ≤ 6000000 := by
 have hO : ObIn (obAt h i) := hh.at i;have h1 := hO.il;have h2 := hO.kl;have h3 := hO.rl;unfold nodN;split <;> omega
theorem bytO_le {o : Ob} (hO : ObIn o) (k : Nat) : bytO o k ≤ k * 2000000 :=
 sumN_le (fun j => by
  have : VlIn ((kvs o).getD j vl0) := vlAt_in (fun v hv => (List.mem_append.1 hv).elim (hO.iv v) (hO.kv v)) j;exact this.s) k
theorem bytO_le' {o : Ob} (hO : ObIn o) {k : Nat} (hk : k ≤ (kvs o).length) : bytO o k ≤ 8000000000000 := by
 have h1 := bytO_le hO k;have h2 : (kvs o).length = o.items.length + o.keys.length := List.length_append;have h3 := hO.il;have h4 := hO.kl;omega
theorem bytN_le {h : List Ob} (hh : HpIn h) (i : Nat) : bytN h i ≤ 8000000000000 := by
 unfold bytN;split
 ·omega
 ·exact bytO_le' (hh.at i) (Nat.le_refl _)
set_option maxHeartbeats 2000000 in
theorem Problem_ok (h : List Ob) (hh : HpIn h) : Fn Tryz.prog 10 [hpD md h] (prD (problemS h)) := by
 have hlh := hh.len;refine yD tabT Tryz.func10 rfl rfl rfl rfl rfl rfl ?_;intro w0 s0 mx;refine ev_R tabT [] 100 ?_;refine zB ?_;refine zB (zE tabT [] 200 rfl ?_);repeat (first | refine zG ?_ | refine zH ?_ | refine zR (by first | omega | (simp only [List.length_map];omega)) ?_)
 refine zC (zA ?_);refine zY rfl (fun c1 => ?_) (fun c1 => ?_)
 ·replace c1 := of_decide_eq_true c1
  refine zB (zE tabT [] 300 rfl ?_);refine zF ?_;refine zO _ (At_ok _ _) rfl ?_;refine zF ?_;refine zC (zA (zL (zN ?_)));exact FinV.ret rfl (SubP.of_eq (by rw [problemS,if_pos c1];rfl))
 ·replace c1 := of_decide_eq_false c1
  refine zK (zA ?_);refine zB ?_;refine ev_R tabT [] 400 ?_;refine zY rfl (fun c3 => ?_) (fun c3 => ?_)
  ·replace c3 := of_decide_eq_true c3
   refine zB (zE tabT [] 500 rfl ?_);refine zF ?_;refine zO _ (At_ok _ _) rfl ?_;refine zF ?_;refine zC (zA (zL (zN ?_)));exact FinV.ret rfl (SubP.of_eq (by rw [problemS,if_neg c1,if_pos c3];rfl))
  ·replace c3 := of_decide_eq_false c3
   refine zK (zA ?_);refine zB (zE tabT [] 600 rfl ?_);refine zF ?_;refine zO _ (Begin_ok) rfl ?_;refine zF ?_;refine zC (zA ?_);refine ev_R tabT [] 700 ?_;refine zB ?_;refine ev_R tabT [] 800 ?_;refine zM ?_;refine zX (ι := Up h.length (okI h)) [1,2,3,25,26] [0,1,401] 850 (fun x => [(27,.v (.int .i64 x.k)),(4,.v (.int .i64 (sumN (nodN h) x.k : Nat))),(5,.v (.int .i64 (sumN (bytN h) x.k : Nat)))]) (fun _ => []) (fun x => h.length - x.k) ⟨0,Nat.zero_le _,fun j hj => by omega⟩ ?_;refine ⟨⟨le_t,le_o,rfl,rfl⟩,fun x => ?_⟩;have hk := x.le;refine ev_R tabT [] 900 ?_;refine zB ?_;refine zY rfl (fun c8 => ?_) (fun c8 => ?_)
   ·replace c8 := of_decide_eq_true c8
    replace c8 : x.k < h.length := by omega
    have hn : inH h (x.k : Int) := ⟨by omega,by omega⟩;have hO : ObIn (h.getD (x.k : Int).toNat ob0) := hh.at x.k;have hil := hO.il;have hkl := hO.kl;have hrl := hO.rl;have hb4 := sumN_le (nodN_le hh) x.k;have hb5 := sumN_le (bytN_le hh) x.k;have hvl : (kvs (h.getD (x.k : Int).toNat ob0)).length = (h.getD (x.k : Int).toNat ob0).items.length + (h.getD (x.k : Int).toNat ob0).keys.length := List.length_append;refine zK (zA ?_);refine zB ?_;refine zM ?_;refine ev_R tabT [] 1000 ?_;refine zB ?_;refine ev_R tabT [] 1100 ?_;refine zY rfl (fun c10 => ?_) (fun c10 => ?_)
    ·replace c10 := of_decide_eq_true c10
     refine zB ?_;refine zB (zZ tabT [] [[],[],[1],[],[1,2,3],[1,2,3,4],[0,1,2,3,4,5],[0,1,2,3,4,5,6]] 1200 mixT (by kernel_rfl) rfl ?_);repeat (first | refine zG ?_ | refine zH ?_ | refine zR (by first | exact ⟨by omega,by show _ < (bgS 49).length;rw [bgS_len];omega⟩ | (simp only [bgS_len];omega)) ?_)
     refine zO _ (SameObject_ok _ _) rfl ?_;repeat (first | refine zG ?_ | refine zH ?_ | refine zR (by first | exact ⟨by omega,by show _ < (bgS 49).length;rw [bgS_len];omega⟩ | (simp only [bgS_len];omega)) ?_)
     refine zC (zA ?_);refine zY rfl (fun c11 => ?_) (fun c11 => ?_)
     ·replace c11 : (!decide ((h.getD (x.k : Int).toNat ob0) = (bgS 49).getD x.k ob0)) = true := c11
      rw [bg_at c10] at c11
      replace c11 : ¬ obAt h x.k = bgO x.k := by simpa using c11
      refine zB (zE tabT [] 1300 rfl ?_);refine zF ?_;refine zO _ (At_ok _ _) rfl ?_;refine zF ?_;refine zC (zA (zL (zN (zN (zP (zN (yG (zP (zN ?_)))))))));exact FinV.ret rfl (SubP.of_eq (by rw [pr_at c1 c3 x c8 (by unfold codeS;rw [if_pos c10,if_neg c11]) (by decide)];rfl))
     ·replace c11 : (!decide ((h.getD (x.k : Int).toNat ob0) = (bgS 49).getD x.k ob0)) = false := c11
      rw [bg_at c10] at c11
      replace c11 : obAt h x.k = bgO x.k := by simpa using c11
      refine zK (zA ?_);refine ev_R tabT [] 1400 ?_;refine yB (zU (zS (zA ?_)));refine ev_Q tabT [] 3600 ?_;exact zQ (x.next c8 (decide_eq_true (show codeS h x.k = 0 by unfold codeS;exact by rw [if_pos c10,if_pos c11]))) ⟨⟨Sub.int (by show _ = ((x.k + 1 : Nat) : Int);push_cast;rfl),Sub.int (by show _ = ((sumN (nodN h) (x.k + 1) : Nat) : Int);rw [sumN,nodN,if_pos c10];push_cast;rfl),Sub.int (by show _ = ((sumN (bytN h) (x.k + 1) : Nat) : Int);rw [sumN,bytN,if_pos c10,Nat.add_zero]),by repeat (first | exact trivial | exact Sub.refl _ | refine ⟨?_,?_⟩)⟩,le_o,rfl,rfl⟩ (by show h.length - (x.k + 1) < h.length - x.k;omega)
    ·replace c10 := of_decide_eq_false c10
     refine zK (zA ?_);refine zB ?_;refine ev_R tabT [] 1500 ?_;refine zY rfl (fun c14 => ?_) (fun c14 => ?_)
     ·try simp only [decide_eq_true_eq,Bool.or_eq_true] at c14
      refine zB (zE tabT [] 1600 rfl ?_);refine zF ?_;refine zO _ (At_ok _ _) rfl ?_;refine zF ?_;refine zC (zA (zL (zN (zP (zN (yG (zP (zN ?_))))))));exact FinV.ret rfl (SubP.of_eq (by rw [pr_at c1 c3 x c8 (by unfold codeS;rw [if_neg c10,if_pos c14]) (by decide)];rfl))
     ·have c14n := c14;try simp only [decide_eq_false_iff_not,Bool.or_eq_false_iff] at c14n
      replace c14 : ¬ ((h.getD (x.k : Int).toNat ob0).kind < 0 ∨ 21 ≤ (h.getD (x.k : Int).toNat ob0).kind) := by omega
      have hkd : 0 ≤ (h.getD (x.k : Int).toNat ob0).kind ∧ (h.getD (x.k : Int).toNat ob0).kind < 21 := by omega
      refine zK (zA ?_);refine zB ?_;refine zB (zZ tabT [] [[],[],[0,1],[],[],[0,1,2,3,4],[],[],[0,1,2,3,4,5,6,7],[],[],[0,1,2,3,4,5,6,7,8,9,10],[0,1,2,3,4,5,6,7,8,9,10,11],[0,1,2,3,4,5,6,7,8,9,10,11,12],[]] 1700 mixT (by kernel_rfl) rfl ?_);refine zF ?_;refine zO _ (shape_ok _ _ (by first | assumption | omega | (simp_all;done)) (by first | assumption | omega | (simp_all;done))) rfl ?_;refine zF ?_;refine zO _ (sizes_ok _ _ (by first | assumption | omega | (simp_all;done)) (by first | assumption | omega | (simp_all;done)) (by first | assumption | omega | (simp_all;done))) rfl ?_;refine zF ?_;refine zO _ (names_ok _ _ (by first | assumption | omega | (simp_all;done)) (by first | assumption | omega | (simp_all;done))) rfl ?_;refine zF ?_;refine zO _ (values_ok _ _ (by first | assumption | omega | (simp_all;done)) (by first | assumption | omega | (simp_all;done))) rfl ?_;refine zF ?_;refine zC (zA ?_);refine yN [1,2,3,4,5,6,7,25,26,27] [0,1,401,903] 1710 [(71,isD (fourS h (h.getD (x.k : Int).toNat ob0))),(72,.v (.int .i64 4)),(73,.v (.int .i64 0))] [] ?_;refine ⟨⟨⟨Sub.slrSl rfl,Sub.refl _,Sub.refl _,by repeat (first | exact trivial | exact Sub.refl _ | refine ⟨?_,?_⟩)⟩,le_o,rfl,rfl⟩,?_⟩;refine zM ?_;refine zX (ι := Up 4 (fun j => decide ((fourS h (h.getD (x.k : Int).toNat ob0)).getD j 0 = 0))) [1,2,3,4,5,6,7,25,26,27,71,72] [0,1,401,903] 1750 (fun y => [(73,.v (.int .i64 y.k))]) (fun _ => []) (fun y => 4 - y.k) ⟨0,Nat.zero_le _,fun j hj => by omega⟩ ?_;refine ⟨⟨le_t,le_o,rfl,rfl⟩,fun y => ?_⟩;have hky := y.le;refine ev_R tabT [] 1800 ?_;refine zB ?_;refine zY rfl (fun c17 => ?_) (fun c17 => ?_)
      ·replace c17 := of_decide_eq_true c17
       replace c17 : y.k < 4 := by omega
       have hy : ∀ j,j < y.k → (fourS h (h.getD (x.k : Int).toNat ob0)).getD j 0 = 0 := fun j hj => of_decide_eq_true (y.all j hj);refine zK (zA ?_);refine zB ?_;refine zM ?_;refine zB (zE tabT [] 1900 rfl ?_);repeat (first | refine zG ?_ | refine zH ?_ | refine zR (by exact ⟨by omega,by show _ < 4;omega⟩) ?_)
       refine zC (zA ?_);refine ev_R tabT [] 2000 ?_;refine zY rfl (fun c19 => ?_) (fun c19 => ?_)
       ·replace c19 : ¬ (fourS h (h.getD (x.k : Int).toNat ob0)).getD y.k 0 = 0 := by simpa using c19
        refine zB (zE tabT [] 2100 rfl ?_);refine zF ?_;refine zO _ (At_ok _ _) rfl ?_;refine zF ?_;refine zC (zA (zL (zP (zN (yG (zP (zN (zP (zN (yG (zP (zN ?_))))))))))));exact FinV.ret rfl (SubP.of_eq (by rw [pr_at c1 c3 x c8 (by unfold codeS;rw [if_neg c10,if_neg c14,if_neg (by rw [fstC_at hy c19];exact c19),fstC_at hy c19]) (c19)];rfl))
       ·replace c19 : (fourS h (h.getD (x.k : Int).toNat ob0)).getD y.k 0 = 0 := by simpa using c19
        refine zK (zJ (zA ?_));refine ev_Q tabT [] 2200 ?_;exact zQ (y.next c17 (decide_eq_true c19)) ⟨⟨Sub.int (by show _ = ((y.k + 1 : Nat) : Int);push_cast;rfl),by repeat (first | exact trivial | exact Sub.refl _ | refine ⟨?_,?_⟩)⟩,le_o,rfl,rfl⟩ (by show 4 - (y.k + 1) < 4 - y.k;omega)
      ·replace c17 := of_decide_eq_false c17
       have hyk4 : y.k = 4 := by omega
       have hy : ∀ j,j < 4 → (fourS h (h.getD (x.k : Int).toNat ob0)).getD j 0 = 0 := fun j hj => of_decide_eq_true (y.all j (by omega));have h4 : fstC (fourS h (h.getD (x.k : Int).toNat ob0)) = 0 := fstC_none hy;have hsh : shapeS (h.getD (x.k : Int).toNat ob0) = 0 := hy 0 (by omega);have hvs : valuesS h (h.getD (x.k : Int).toNat ob0) = 0 := hy 3 (by omega);have hV : Vs h (h.getD (x.k : Int).toNat ob0) := vs_of hvs;refine yB (zU (zW (zS (zA ?_))));refine zB ?_;refine zB (zE tabT [] 2300 rfl ?_);refine zF ?_;refine zO _ (links_ok _ _ (by first | assumption | omega | (simp_all;done)) (by first | assumption | omega | (simp_all;done)) (by first | assumption | omega | (simp_all;done)) (by first | assumption | omega | (simp_all;done))) rfl ?_;refine zF ?_;refine zC (zA ?_);refine zY rfl (fun c22 => ?_) (fun c22 => ?_)
       ·replace c22 : ¬ qO h (obAt h x.k) x.k = true := by simpa using c22
        refine zB (zE tabT [] 2400 rfl ?_);refine zF ?_;refine zO _ (At_ok _ _) rfl ?_;refine zF ?_;refine zC (zA (zL (zN (zP (zN (yG (zP (zN ?_))))))));exact FinV.ret rfl (SubP.of_eq (by rw [pr_at c1 c3 x c8 (by unfold codeS;rw [if_neg c10,if_neg c14,if_pos h4,if_neg c22]) (by decide)];rfl))
       ·replace c22 : qO h (obAt h x.k) x.k = true := by simpa using c22
        refine zK (zA ?_);refine zB ?_;refine zB (zE tabT [] 2500 rfl ?_);refine zF ?_;refine zO _ (keyRule_ok _ _ (by first | assumption | omega | (simp_all;done)) (by first | assumption | omega | (simp_all;done))) rfl ?_;refine zF ?_;refine zC (zA ?_);refine ev_R tabT [] 2600 ?_;refine zY rfl (fun c25 => ?_) (fun c25 => ?_)
        ·replace c25 : ¬ keyS h (obAt h x.k) = 0 := by simpa using c25
         refine zB (zE tabT [] 2700 rfl ?_);refine zF ?_;refine zO _ (At_ok _ _) rfl ?_;refine zF ?_;refine zC (zA (zL (zN (zP (zN (yG (zP (zN ?_))))))));exact FinV.ret rfl (SubP.of_eq (by rw [pr_at c1 c3 x c8 (by unfold codeS;rw [if_neg c10,if_neg c14,if_pos h4,if_pos c22,if_neg c25]) (c25)];rfl))
        ·replace c25 : keyS h (obAt h x.k) = 0 := by simpa using c25
         refine zK (zA ?_);refine zB ?_;refine zB (zE tabT [] 2800 rfl ?_);refine zF ?_;refine zO _ (orderOk_ok _ _ hn hh (fun _ r hr => qE (hV.refs r hr))) rfl ?_;refine zF ?_;refine zC (zA ?_);refine zY rfl (fun c27 => ?_) (fun c27 => ?_)
         ·replace c27 : ¬ orderOkS h (obAt h x.k) x.k = true := by simpa using c27
          refine zB (zE tabT [] 2900 rfl ?_);refine zF ?_;refine zO _ (At_ok _ _) rfl ?_;refine zF ?_;refine zC (zA (zL (zN (zP (zN (yG (zP (zN ?_))))))));exact FinV.ret rfl (SubP.of_eq (by rw [pr_at c1 c3 x c8 (by unfold codeS;rw [if_neg c10,if_neg c14,if_pos h4,if_pos c22,if_pos c25,if_neg c27]) (by decide)];rfl))
         ·replace c27 : orderOkS h (obAt h x.k) x.k = true := by simpa using c27
          refine zK (zA ?_);refine ev_R tabT [] 3000 ?_;refine zB (zZ tabT [118] [[],[0],[0,1],[],[3],[0,1,2,3,4],[0,1,2,3,4,5],[]] 3100 mixT (by kernel_rfl) rfl ?_);repeat (first | refine zG ?_ | refine zH ?_ | refine zR (by first | rfl | omega | (simp only [List.length_map];omega)) ?_)
          refine sat_fnO _ _ _ (CloneV_ok _ (by first | assumption | omega | (simp_all;done))) ?_;repeat (first | refine zG ?_ | refine zH ?_ | refine zR (by first | rfl | omega | (simp only [List.length_map];omega)) ?_)
          refine zC (zA ?_);refine yN [1,2,3,4,5,25,26,27] [0,1,401] 3110 [(121,.sl false 7 (kvs (h.getD (x.k : Int).toNat ob0)) vlD vl0),(122,.v (.int .i64 (kvs (h.getD (x.k : Int).toNat ob0)).length)),(123,.v (.int .i64 0))] [] ?_;refine ⟨⟨⟨Sub.ownSl (by rw [← List.map_append]),Sub.int (by simp),Sub.refl _,by repeat (first | exact trivial | exact Sub.refl _ | refine ⟨?_,?_⟩)⟩,le_o,rfl,rfl⟩,?_⟩;refine zM ?_;refine zX (ι := Up (kvs (h.getD (x.k : Int).toNat ob0)).length (fun _ => true)) [1,2,3,4,25,26,27,121,122] [0,1,401] 3150 (fun z => [(123,.v (.int .i64 z.k)),(5,.v (.int .i64 ((sumN (bytN h) x.k + bytO (h.getD (x.k : Int).toNat ob0) z.k : Nat) : Int)))]) (fun _ => []) (fun z => (kvs (h.getD (x.k : Int).toNat ob0)).length - z.k) ⟨0,Nat.zero_le _,fun j hj => by omega⟩ ?_;refine ⟨⟨le_t,le_o,rfl,rfl⟩,fun z => ?_⟩;have hkz := z.le;refine ev_R tabT [] 3200 ?_;refine zB ?_;refine zY rfl (fun c31 => ?_) (fun c31 => ?_)
          ·replace c31 := of_decide_eq_true c31
           replace c31 : z.k < (kvs (h.getD (x.k : Int).toNat ob0)).length := by omega
           have hb6 := bytO_le' hO z.le;have hvz : VlIn ((kvs (h.getD (x.k : Int).toNat ob0)).getD z.k vl0) := vlAt_in (fun v hv => (List.mem_append.1 hv).elim (hO.iv v) (hO.kv v)) z.k;have hvs6 : ((kvs (h.getD (x.k : Int).toNat ob0)).getD (z.k : Int).toNat vl0).s.size ≤ 2000000 := hvz.s;refine zK (zA ?_);refine zB ?_;refine zM ?_;refine ev_R tabT [] 3300 ?_;refine zE tabT [] 3400 rfl ?_;repeat (first | refine zG ?_ | refine zH ?_ | refine zR (by first | exact ini (by omega) (by omega) | omega) ?_)
           refine zC (zJ (zA ?_));refine ev_Q tabT [] 3500 ?_;exact zQ (z.next c31 rfl) ⟨⟨Sub.int (by show _ = ((z.k + 1 : Nat) : Int);push_cast;rfl),Sub.int (by show _ = ((sumN (bytN h) x.k + bytO (h.getD (x.k : Int).toNat ob0) (z.k + 1) : Nat) : Int);rw [bytO_succ];simp only [Int.toNat_natCast];push_cast;omega),by repeat (first | exact trivial | exact Sub.refl _ | refine ⟨?_,?_⟩)⟩,le_o,rfl,rfl⟩ (by show (kvs (h.getD (x.k : Int).toNat ob0)).length - (z.k + 1) < (kvs (h.getD (x.k : Int).toNat ob0)).length - z.k;omega)
          ·replace c31 := of_decide_eq_false c31
           have hyk : z.k = (kvs (h.getD (x.k : Int).toNat ob0)).length := by have := z.le;omega
           refine yB (zU (zW (zS (zJ (zA ?_)))));refine ev_Q tabT [] 3600 ?_;exact zQ (x.next c8 (decide_eq_true (show codeS h x.k = 0 by unfold codeS;exact by rw [if_neg c10,if_neg c14,if_pos h4,if_pos c22,if_pos c25,if_pos c27]))) ⟨⟨Sub.int (by show _ = ((x.k + 1 : Nat) : Int);push_cast;rfl),Sub.int (by show _ = ((sumN (nodN h) (x.k + 1) : Nat) : Int);rw [sumN,nodN,if_neg c10];push_cast;rfl),Sub.int (by show _ = ((sumN (bytN h) (x.k + 1) : Nat) : Int);rw [sumN,bytN,if_neg c10];rw [show bytO (obAt h x.k) (kvs (obAt h x.k)).length = bytO (h.getD (x.k : Int).toNat ob0) z.k from (congrArg (bytO (h.getD (x.k : Int).toNat ob0)) hyk).symm];try (push_cast;rfl)),by repeat (first | exact trivial | exact Sub.refl _ | refine ⟨?_,?_⟩)⟩,le_o,rfl,rfl⟩ (by show h.length - (x.k + 1) < h.length - x.k;omega)
   ·replace c8 := of_decide_eq_false c8
    replace c8 : ¬ x.k < h.length := by omega
    have hxk : x.k = h.length := by omega
    refine yB (zU (zW (zS (zA ?_))));refine zB ?_;refine ev_R tabT [] 3700 ?_;refine zY rfl (fun c36 => ?_) (fun c36 => ?_)
    ·try simp only [decide_eq_true_eq,Bool.or_eq_true] at c36
     refine zB (zE tabT [] 3800 rfl ?_);refine zF ?_;refine zO _ (At_ok _ _) rfl ?_;refine zF ?_;refine zC (zA (zL (zN ?_)));exact FinV.ret rfl (SubP.of_eq (by rw [pr_none c1 c3 x c8,if_pos (by rw [hxk] at c36;omega)];rfl))
    ·try simp only [decide_eq_false_iff_not,Bool.or_eq_false_iff] at c36
     refine zK (zA ?_);refine ev_R tabT [] 3900 ?_;refine zL ?_;exact FinV.ret rfl (SubP.of_eq (by rw [pr_none c1 c3 x c8,if_neg (by rw [hxk] at c36;omega)];rfl))
variable {md me : Bool}
noncomputable def usableS (h : List Ob) (vs : List Vl) : Bool := decide ((problemS h).1 = 0) && vs.all (hasS h)
theorem fstC_zero : ∀ {l : List Int},fstC l = 0 → ∀ j,l.getD j 0 = 0
 | [],_,j => by simp
 | c :: l,h,j => by
  rw [fstC] at h;split at h
  ·rename_i h0
   match j with
   | 0 => simpa using h0
   | j + 1 => simpa using fstC_zero h j
  ·rename_i h0;exact absurd h h0
structure Uh (h : List Ob) : Prop where
 lo : 49 ≤ h.length
 hi : h.length ≤ 5000
 code : ∀ i,i < h.length → codeS h i = 0
theorem uh_of {h : List Ob} (hp : (problemS h).1 = 0) : Uh h := by
 unfold problemS at hp;split at hp
 ·exact absurd hp (by decide)
 ·rename_i h1;split at hp
  ·exact absurd hp (by decide)
  ·rename_i h2;split at hp
   ·rename_i i hi;rw [List.find?_range_eq_some] at hi;exact absurd hp (by simpa using hi.1)
   ·rename_i hn;rw [List.find?_range_eq_none] at hn;exact ⟨by omega,by omega,fun i hi => by simpa using hn i hi⟩
structure Uho (h : List Ob) (o : Ob) (i : Nat) : Prop where
 kind : 0 ≤ o.kind ∧ o.kind < 21
 shape : shapeS o = 0
 sizes : sizesS o = 0
 names : namesS o = 0
 vals : valuesS h o = 0
 links : qO h o i = true
 keys : keyS h o = 0
 order : orderOkS h o i = true
theorem Uh.lo_at {h : List Ob} (g : Uh h) {i : Nat} (hi : i < 49) : obAt h i = bgO i := by
 have := g.code i (by have := g.lo;omega);unfold codeS at this;rw [if_pos (by omega)] at this;split at this
 ·assumption
 ·cases this
theorem Uh.hi_at {h : List Ob} (g : Uh h) {i : Nat} (h1 : 49 ≤ i) (h2 : i < h.length) : Uho h (obAt h i) i := by
 have := g.code i h2;unfold codeS at this;rw [if_neg (by omega)] at this;split at this
 ·cases this
 ·rename_i hk;split at this
  ·rename_i hf;split at this
   ·rename_i hl;split at this
    ·rename_i hy;split at this
     ·rename_i ho;have hz := fstC_zero hf;exact ⟨by omega,hz 0,hz 1,hz 2,hz 3,hl,hy,ho⟩
     ·cases this
    ·rename_i hy;exact absurd this hy
   ·cases this
  ·rename_i hf;exact absurd this hf
theorem obAt_nat {h : List Ob} {n : Int} (hn : inH h n) : obAt h n = obAt h ((n.toNat : Nat) : Int) := by rfl
theorem Uh.cls {h : List Ob} (g : Uh h) {n : Int} (hn : inH h n) (hk : (obAt h n).kind = 10) : inH h (obAt h n).cls := by
 by_cases h49 : n.toNat < 49
 ·have := g.lo_at h49;rw [show obAt h n = bgO n.toNat from this] at hk;exact absurd hk (by show ¬ (9 : Int) = 10;decide)
 ·exact qE (vs_of (g.hi_at (by omega) hn.2).vals).cls
theorem Uh.items {h : List Ob} (g : Uh h) {n : Int} (hn : inH h n) {v : Vl} (hv : v ∈ (obAt h n).items) (hk : v.k = 6) : isObj h v.r = true := by
 by_cases h49 : n.toNat < 49
 ·rw [show obAt h n = bgO n.toNat from g.lo_at h49] at hv;exact absurd hv (by show ¬ v ∈ ([] : List Vl);simp)
 ·exact (vs_of (g.hi_at (by omega) hn.2).vals).vals v (List.mem_append.2 (.inr hv)) hk
theorem has_obj {h : List Ob} {v : Vl} (hh : hasS h v = true) (hk : v.k = 6) : isObj h v.r = true := by
 simp only [hasS,Bool.and_eq_true,Bool.or_eq_true,Bool.not_eq_true',decide_eq_false_iff_not] at hh;exact hh.2.resolve_left fun hn => hn hk
theorem objS_of {h : List Ob} {v : Vl} (hk : (objS h v).kind ≠ 0) : v.k = 6 ∧ isObj h v.r = true ∧ objS h v = obAt h v.r := by
 unfold objS at hk ⊢;split at hk
 ·rename_i h1;exact ⟨h1.1,h1.2,if_pos h1⟩
 ·exact absurd rfl hk
theorem objS_at {h : List Ob} {v : Vl} (hv : v.k = 6 → isObj h v.r = true) (hk : v.k = 6) : objS h v = obAt h v.r := if_pos ⟨hk,hv hk⟩
theorem objS_no {h : List Ob} {v : Vl} (hk : ¬ v.k = 6) : objS h v = ob0 := if_neg fun hh => hk hh.1
theorem Usable_ok (h : List Ob) (vs : List Vl) (hh : HpIn h) (hin : ∀ v ∈ vs,VlIn v) (hl : vs.length ≤ 2000000) : Fn Tryz.prog 4 [hpD md h,vsD vs] (.v (.bool (usableS h vs))) := by
 refine yD tabT Tryz.func4 rfl rfl rfl rfl rfl rfl ?_;intro w0 s0 mx;refine ev_R tabT [] 100 ?_;refine zB ?_;refine zB (zE tabT [] 200 rfl ?_);refine zF ?_;refine zO _ (Problem_ok _ (by first | assumption | omega | (simp_all;done))) rfl ?_;refine zF ?_;refine zC (zA ?_);refine zY rfl (fun c1 => ?_) (fun c1 => ?_)
 ·replace c1 : ¬ (problemS h).1 = 0 := by simpa using c1
  refine ev_R tabT [] 300 ?_;refine zL (zN ?_);exact FinV.ret rfl (SubP.bool (by rw [usableS,decide_eq_false c1];rfl))
 ·replace c1 : (problemS h).1 = 0 := by simpa using c1
  refine zK (zA ?_);refine zB ?_;refine ev_R tabT [] 400 ?_;refine zM ?_;refine zX (ι := Al vs (hasS h)) [2,11,12] [0] 450 (fun x => [(13,.v (.int .i64 x.k))]) (fun _ => []) (fun x => vs.length - x.k) ⟨0,Nat.zero_le _,fun j x hj => by omega⟩ ?_;refine ⟨⟨le_t,le_o,rfl,rfl⟩,fun x => ?_⟩;have hk := x.le;refine ev_R tabT [] 500 ?_;refine zB ?_;refine zT (fun c4 => ?_) (fun c4 => ?_)
  ·
   refine zK (zA ?_);refine zB ?_;refine zM ?_;refine ev_R tabT [] 600 ?_;refine zB (zE tabT [] 700 rfl ?_);refine zF ?_;refine zO _ (Has_ok _ _ (hin _ (qL c4 vl0))) rfl ?_;refine zF ?_;refine zC (zA ?_);refine zY rfl (fun c6 => ?_) (fun c6 => ?_)
   ·simp only [Bool.not_eq_true'] at c6;refine ev_R tabT [] 800 ?_;refine zL (zP (zN (yG (zP (zN ?_)))));exact FinV.ret rfl (SubP.bool (by rw [usableS,Al.no (p := hasS h) (e := vl0) c4 c6,Bool.and_false]))
   ·simp only [Bool.not_eq_false'] at c6;refine zK (zJ (zA ?_));refine ev_Q tabT [] 900 ?_;exact zQ (x.next (e := vl0) c4 c6) ⟨le_t,le_o,rfl,rfl⟩ (by show vs.length - (x.k + 1) < vs.length - x.k;omega)
  ·
   refine yB (zU (zW (zS (zA ?_))));refine ev_R tabT [] 1000 ?_;refine zL ?_;exact FinV.ret rfl (SubP.bool (by rw [usableS,decide_eq_true c1,x.yes c4];rfl))
variable {md me : Bool}
structure St where
 k : Int
 v : Vl
 c : Int
 s : ByteArray
 w : Vl
 l : List Vl
def stD (s : St) : List D := .v (.int .i64 s.k) :: (vlD s.v ++ (.v (.int .i64 s.c) :: .v (.string s.s) :: (vlD s.w ++ [.sl false 7 s.l vlD vl0])))
def smSt (a b : St) : Bool := ((((decide (a.k = b.k) && decide (a.c = b.c)) && decide (a.s = b.s)) && decide (a.v = b.v)) && decide (a.w = b.w)) && decide (a.l = b.l)
theorem smSt_self (a : St) : smSt a a = true := by simp [smSt]
def boV (b : Bool) : Vl := ⟨1,false,[],false,[],ByteArray.empty,if b then 1 else 0⟩
def raS (c : Int) (m : ByteArray) : St := ⟨1,vl0,c,m,vl0,[]⟩
def vlS (v : Vl) : St := ⟨0,v,0,ByteArray.empty,vl0,[]⟩
structure Sf {α β : Type} (F : List α → β) (l : List α) where
 k : Nat
 le : k ≤ l.length
 eq : F (l.drop k) = F l
def Sf.next {α β : Type} {F : List α → β} {l : List α} (x : Sf F l) (h1 : x.k < l.length) (h2 : F (l.drop x.k) = F (l.drop (x.k + 1))) : Sf F l := ⟨x.k + 1,h1,h2.symm.trans x.eq⟩
theorem Sf.end {α β : Type} {F : List α → β} {l : List α} (x : Sf F l) (h1 : ¬ x.k < l.length) : F l = F [] := by
 rw [← x.eq,List.drop_of_length_le (by omega)]
theorem Raise_ok (c : Int) (m : ByteArray) : Fn Tryz.prog 27 [.v (.int .i64 c),.v (.string m)] (.agg (stD (raS c m))) := by
 refine yD tabT Tryz.func27 rfl rfl rfl rfl rfl rfl ?_;intro w0 s0 mx;refine ev_R tabT [] 100 ?_;refine ev_R tabT [] 200 ?_;refine zL ?_;exact FinV.ret rfl (SubP.agg (by repeat (first | exact trivial | exact SubP.refl _ | exact SubP.nilSl rfl | refine ⟨?_,?_⟩)))
theorem Result_ok (v : Vl) : Fn Tryz.prog 22 [.agg (vlD v)] (.agg (stD (vlS v))) := by
 refine yD tabT Tryz.func22 rfl rfl rfl rfl rfl rfl ?_;intro w0 s0 mx;refine ev_R tabT [] 100 ?_;refine ev_R tabT [] 200 ?_;refine zL ?_;exact FinV.ret rfl (SubP.agg (by repeat (first | exact trivial | exact SubP.refl _ | exact SubP.nilSl rfl | refine ⟨?_,?_⟩)))
theorem heapBool_ok (b : Bool) : Fn Tryz.prog 17 [.v (.bool b)] (.agg (vlD (boV b))) := by
 refine yD tabT Tryz.func17 rfl rfl rfl rfl rfl rfl ?_;intro w0 s0 mx;refine ev_R tabT [] 100 ?_;refine ev_R tabT [] 200 ?_;refine zB ?_;refine ev_R tabT [] 300 ?_;refine zY rfl (fun c2 => ?_) (fun c2 => ?_)
 ·subst c2;refine ev_Q tabT [] 400 ?_;refine zA ?_;refine ev_R tabT [] 500 ?_;refine zL ?_;exact FinV.ret rfl (SubP.agg (by repeat (first | exact trivial | exact SubP.refl _ | exact SubP.nilSl rfl | refine ⟨?_,?_⟩)))
 ·subst c2;refine zK (zA ?_);refine ev_R tabT [] 500 ?_;refine zL ?_;exact FinV.ret rfl (SubP.agg (by repeat (first | exact trivial | exact SubP.refl _ | exact SubP.nilSl rfl | refine ⟨?_,?_⟩)))
theorem B_ok (b : Bool) : Fn Tryz.prog 23 [.v (.bool b)] (.agg (vlD (boV b))) := by
 refine yD tabT Tryz.func23 rfl rfl rfl rfl rfl rfl ?_;intro w0 s0 mx;refine ev_R tabT [] 100 ?_;refine zB ?_;refine ev_R tabT [] 200 ?_;refine zY rfl (fun c1 => ?_) (fun c1 => ?_)
 ·subst c1;refine ev_R tabT [] 300 ?_;refine zL (zN ?_);exact FinV.ret rfl (SubP.agg (by repeat (first | exact trivial | exact SubP.refl _ | exact SubP.nilSl rfl | refine ⟨?_,?_⟩)))
 ·subst c1;refine zK (zA ?_);refine ev_R tabT [] 400 ?_;refine zL ?_;exact FinV.ret rfl (SubP.agg (by repeat (first | exact trivial | exact SubP.refl _ | exact SubP.nilSl rfl | refine ⟨?_,?_⟩)))
theorem SameStep_ok (a b : St) : Fn Tryz.prog 7 [.agg (stD a),.agg (stD b)] (.v (.bool (smSt a b))) := by
 refine yD tabT Tryz.func7 rfl rfl rfl rfl rfl rfl ?_;intro w0 s0 mx;refine ev_R tabT [] 100 ?_;refine zB (zE tabT [] 200 rfl ?_);refine zF ?_;refine yH _ (fun hg24 => SameValue_ok a.v b.v) rfl ?_;refine zF ?_;refine yH _ (fun hg31 => SameValue_ok a.w b.w) rfl ?_;refine zF ?_;refine yH _ (fun hg38 => SameValues_ok a.l b.l) rfl ?_;refine zF ?_;refine zC (zA (zL ?_));exact FinV.ret rfl (SubP.refl _)
variable {md me : Bool}
section
variable {h : List Ob} {v : Vl} {b : Bool} {l : List Vl} {k : Nat}
end
variable {md me : Bool}
def rfV (r : Int) : Vl := ⟨6,false,[],false,[],ByteArray.empty,r⟩
theorem heapRef_ok (r : Int) : Fn Tryz.prog 74 [.v (.int .i64 r)] (.agg (vlD (rfV r))) := by
 refine yD tabT Tryz.func74 rfl rfl rfl rfl rfl rfl ?_;intro w0 s0 mx;refine ev_R tabT [] 100 ?_;refine ev_R tabT [] 200 ?_;refine zL ?_;exact FinV.ret rfl (SubP.agg (by repeat (first | exact trivial | exact SubP.refl _ | exact SubP.nilSl rfl | refine ⟨?_,?_⟩)))
theorem O_ok (r : Int) : Fn Tryz.prog 116 [.v (.int .i64 r)] (.agg (vlD (rfV r))) := by
 refine yD tabT Tryz.func116 rfl rfl rfl rfl rfl rfl ?_;intro w0 s0 mx;refine ev_R tabT [] 100 ?_;refine ev_R tabT [] 200 ?_;refine zL ?_;exact FinV.ret rfl (SubP.agg (by repeat (first | exact trivial | exact SubP.refl _ | exact SubP.nilSl rfl | refine ⟨?_,?_⟩)))
variable {md me : Bool}
theorem Uh.kind {h : List Ob} (g : Uh h) {n : Int} (hn : isObj h n = true) : 0 < (obAt h n).kind ∧ (obAt h n).kind < 21 := by
 have hi := qE hn;by_cases h49 : n.toNat < 49
 ·rw [show obAt h n = bgO n.toNat from g.lo_at h49];exact ⟨by show (0 : Int) < 9;decide,by show (9 : Int) < 21;decide⟩
 ·have h1 := (g.hi_at (by omega) hi.2).kind;have h2 : ¬ (obAt h n).kind = 0 := by
   intro h0;simp only [isObj,Bool.and_eq_true] at hn;have := hn.2;rw [show (h.getD n.toNat ob0).kind = 0 from h0] at this;exact absurd this (by decide)
  exact ⟨by have := h1.1;show 0 < (obAt h n).kind;have h3 : (obAt h ((n.toNat : Nat) : Int)).kind = (obAt h n).kind := rfl;omega,h1.2⟩
variable {md me : Bool}
variable {md me : Bool}
variable {md me : Bool}
structure Lm (m : Nat) where
 u : Nat
 l : List Nat
 eq : l ++ lim u = lim m
 le : u ≤ m
 pw : u * 4294967296 ^ l.length ≤ m
def Lm.next {m : Nat} (x : Lm m) (h : x.u ≠ 0) : Lm m := ⟨x.u / 4294967296,x.l ++ [x.u % 4294967296],by rw [← x.eq,lim_pos h,List.append_assoc];rfl,by have := x.le;omega,by
 refine Nat.le_trans ?_ x.pw;rw [List.length_append,List.length_singleton,Nat.pow_succ,Nat.mul_comm (4294967296 ^ _),← Nat.mul_assoc];exact Nat.mul_le_mul_right _ (Nat.div_mul_le_self _ _)⟩
theorem Lm.short {m : Nat} (x : Lm m) (h : 0 < x.u) (hm : m < 18446744073709551616) : x.l.length ≤ 2 := by
 rcases Nat.lt_or_ge 2 x.l.length with h3 | h3
 ·have h1 : 4294967296 ^ 3 ≤ 4294967296 ^ x.l.length := Nat.pow_le_pow_right (by omega) h3;have h2 : 1 * 4294967296 ^ x.l.length ≤ x.u * 4294967296 ^ x.l.length := Nat.mul_le_mul_right _ h;have h4 := x.pw;omega
 ·exact h3
variable {md me : Bool}
def nD (n : Nat) : List D := [.v (.int .i64 n)]
def natD (n : Nat) : D := .sl false 1 (dig n) nD 0
structure Trm (l : List Nat) where
 r : List Nat
 dg : Dg r
 eq : V r = V l
 le : r.length ≤ l.length
theorem last_take {r : List Nat} (h : 0 < r.length) (h0 : r.getD (r.length - 1) 0 = 0) : V (r.take (r.length - 1)) = V r := by
 have h1 := qP r (r.length - 1);rw [h0,show r.length - 1 + 1 = r.length by omega,List.take_of_length_le (Nat.le_refl _)] at h1;omega
def Trm.next {l : List Nat} (x : Trm l) (h : 0 < x.r.length) (h0 : x.r.getD (x.r.length - 1) 0 = 0) : Trm l := ⟨x.r.take (x.r.length - 1),x.dg.take _,by rw [last_take h h0,x.eq],by have := x.le;simp;omega⟩
theorem Trm.fin {l : List Nat} (x : Trm l) (h : 0 < x.r.length → x.r.getD (x.r.length - 1) 0 ≠ 0) : x.r = dig (V l) := by
 rw [← x.eq];refine (dig_V x.dg fun hne => ?_).symm;have hp : 0 < x.r.length := List.length_pos_iff.2 hne;rw [List.getLast_eq_getElem,← getD_lt (by omega)];exact h hp
structure Bn (l : List Bool) where
 j : Nat
 o : List Nat
 eq : V o = VB (l.take (16 * j))
 lo : o.length = j
 dg : Dg o
 le : 16 * j ≤ l.length + 15
def Bn.next {l : List Bool} (x : Bn l) (h : 16 * x.j < l.length) : Bn l := ⟨x.j + 1,x.o ++ [chunk l (16 * x.j) 0],binary_step x.eq x.lo h,by simp [x.lo],x.dg.snoc (chunk_lt _ _ _),by omega⟩
theorem t_cut {α : Type} (r : List α) : List.take (((r.length : Int) - 1).toNat - Int.toNat 0) (List.drop (Int.toNat 0) r) = r.take (r.length - 1) := by
 show List.take _ r = _;congr 1;simp
theorem t_last (r : List Nat) : r.getD ((r.length : Int) - 1).toNat 0 = r.getD (r.length - 1) 0 := by congr 1;omega
theorem chunk_at {l : List Bool} {i k : Nat} (hk : k < 16) : chunk l i k = chunk l i (k + 1) * 2 + (if decide (i + k < l.length) && l.getD (i + k) false then 1 else 0) := by
 rw [chunk_step hk,Nat.mul_comm];by_cases h : i + k < l.length
 ·rw [dif_pos h,decide_eq_true h,Bool.true_and,List.getD_eq_getElem?_getD,List.getElem?_eq_getElem h];cases l[i + k] <;> rfl
 ·rw [dif_neg h,decide_eq_false h];rfl
def bitAt (l : List Bool) (i k : Nat) : Bool := decide (i + k < l.length) && l.getD (i + k) false
theorem chunk_one {l : List Bool} {i k : Nat} (hk : k < 16) (h : bitAt l i k = true) : chunk l i k = chunk l i (k + 1) * 2 + 1 := by rw [chunk_at hk];unfold bitAt at h;rw [h];rfl
theorem chunk_nil {l : List Bool} {i k : Nat} (hk : k < 16) (h : bitAt l i k = false) : chunk l i k = chunk l i (k + 1) * 2 := by rw [chunk_at hk];unfold bitAt at h;rw [h];rfl
structure Bj where
 k : Nat
 le : k ≤ 16
theorem bit_T {l : List Bool} {I k : Nat} (hk : 1 ≤ k) (h : (I : Int) + ((k : Int) - 1) < l.length ∧ l.getD ((I : Int) + ((k : Int) - 1)).toNat false = true) : bitAt l I (k - 1) = true := by
 unfold bitAt;rw [show ((I : Int) + ((k : Int) - 1)).toNat = I + (k - 1) by omega] at h;rw [h.2,decide_eq_true (by omega)];rfl
theorem bit_F {l : List Bool} {I k : Nat} (hk : 1 ≤ k) (h : (decide ((I : Int) + ((k : Int) - 1) < l.length) && l.getD ((I : Int) + ((k : Int) - 1)).toNat false) = false) : bitAt l I (k - 1) = false := by
 unfold bitAt;rw [show ((I : Int) + ((k : Int) - 1)).toNat = I + (k - 1) by omega] at h;rw [show decide (I + (k - 1) < l.length) = decide ((I : Int) + ((k : Int) - 1) < l.length) from decide_eq_decide.2 (by omega)];exact h
theorem Bn.all {l : List Bool} (x : Bn l) (h : l.length ≤ 16 * x.j) : V x.o = VB l := by rw [x.eq,List.take_of_length_le h]
structure Nb (n : Int) where
 m : Int
 o : List Bool
 eq : VB o + m.natAbs * 2 ^ o.length = n.natAbs
 lo : -9223372036854775808 ≤ m
 hi : m ≤ 9223372036854775807
 ln : o.length ≤ 64
theorem nb_bit (m : Int) : (!decide (Int.tmod m 2 = 0)) = (m.natAbs % 2 == 1) := by
 have : (Int.tmod m 2).natAbs = m.natAbs % 2 := by
  rw [Int.natAbs_tmod];rfl
 rw [Bool.eq_iff_iff,Bool.not_eq_true',decide_eq_false_iff_not,beq_iff_eq,← this];have h : (Int.tmod m 2).natAbs < 2 := by rw [this];omega
 omega
theorem nb_half (m : Int) : (Int.tdiv m 2).natAbs = m.natAbs / 2 := by rw [Int.natAbs_tdiv];rfl
def Nb.next {n : Int} (x : Nb n) (h : x.o.length ≤ 63) : Nb n := ⟨Int.tdiv x.m 2,x.o ++ [!decide (Int.tmod x.m 2 = 0)],by
 rw [nb_bit,nb_half,List.length_append,List.length_singleton];exact ones_step x.eq rfl,by have := nb_half x.m;have := x.lo;have := x.hi;omega,by have := nb_half x.m;have := x.lo;have := x.hi;omega,by simp;omega⟩
theorem Nb.len {n : Int} (x : Nb n) (h : ¬ x.m = 0) (h1 : -9223372036854775808 ≤ n) (h2 : n ≤ 9223372036854775807) : x.o.length ≤ 63 := by
 rcases Nat.lt_or_ge 63 x.o.length with h3 | h3
 ·have h4 : 2 ^ 64 ≤ 2 ^ x.o.length := Nat.pow_le_pow_right (by omega) h3;have h5 : 1 * 2 ^ x.o.length ≤ x.m.natAbs * 2 ^ x.o.length := Nat.mul_le_mul_right _ (by omega);have h6 := x.eq;omega
 ·exact h3
theorem Nb.fin {n : Int} (x : Nb n) (h : x.m = 0) : VB x.o = n.natAbs := by rw [← x.eq,h];simp
structure Lb (n : Nat) where
 j : Nat
 o : List Nat
 eq : VL o = V ((dig n).take (2 * j))
 lo : o.length = j
 lg : Lg o
 le : 2 * j < (dig n).length + 2
theorem dig_at (n i : Nat) : (dig n).getD i 0 < 65536 := by
 rcases Nat.lt_or_ge i (dig n).length with h | h
 ·rw [getD_lt h];exact (dig_Dg n).at h
 ·rw [getD_ge h];omega
def lbD (n j : Nat) : Nat := (dig n).getD (2 * j) 0 + (dig n).getD (2 * j + 1) 0 * 65536
def Lb.next {n : Nat} (x : Lb n) (h : 2 * x.j < (dig n).length) : Lb n := ⟨x.j + 1,x.o ++ [lbD n x.j],limbs_step x.eq x.lo,by simp [x.lo],x.lg.snoc (by have h1 := dig_at n (2 * x.j);have h2 := dig_at n (2 * x.j + 1);unfold lbD;omega),by omega⟩
theorem Lb.fin {n : Nat} (x : Lb n) (h : (dig n).length ≤ 2 * x.j) : x.o = lim n := limbs_end (by rw [x.lo];exact x.eq) (by rw [x.lo];exact h) (by rw [x.lo];exact x.le) x.lg
theorem trim_ok (l : List Nat) (hd : Dg l) (hl : l.length ≤ 1000000000) : Fn Tryz.prog 132 [.sl false 1 l nD 0] (natD (V l)) := by
 refine yD tabT Tryz.func132 rfl rfl rfl rfl rfl rfl ?_;intro w0 s0 mx;refine ev_R tabT [] 100 ?_;refine zB ?_;refine zM ?_;refine zX (ι := Trm l) [] [] 150 (fun x => [(0,.sl false 1 x.r nD 0)]) (fun _ => []) (fun x => x.r.length) ⟨l,hd,rfl,Nat.le_refl _⟩ ?_;refine ⟨⟨le_t,le_o,rfl,rfl⟩,fun x => ?_⟩;have hk := x.le;refine zB ?_;refine ev_R tabT [] 200 ?_;refine zT (fun c1 => ?_) (fun c1 => ?_)
 ·
  refine zK (zA (zM ?_));refine ev_Q tabT [] 300 ?_;refine zJ ?_;exact zQ (x.next (by omega) (by have := c1.2;rw [t_last] at this;omega)) ⟨(by first | exact trivial | (repeat (first | exact trivial | exact Sub.refl _ | refine ⟨?_,?_⟩ | exact Sub.int (by first | rfl | omega | (push_cast;omega)) | exact Sub.nilSl | exact Sub.own rfl | exact Sub.slrSl rfl | exact Sub.ownSl (List.map_append).symm | exact Sub.ownSl rfl | exact Sub.of_eq (by show D.sl false 1 _ nD 0 = _;rw [t_cut];rfl)))),le_o,rfl,rfl⟩ (by show (x.r.take (x.r.length - 1)).length < x.r.length;rw [List.length_take];omega)
 ·
  refine yB (zU (zW (zS (zA ?_))));refine ev_R tabT [] 400 ?_;refine zL ?_;exact FinV.ret rfl (SubP.of_eq (by show _ = D.sl false 1 _ nD 0;rw [← x.fin fun h e => by rw [t_last,e,decide_eq_true (by omega)] at c1;cases c1]))
theorem Binary_ok (l : List Bool) (hl : l.length ≤ 100000000) : Fn Tryz.prog 145 [.sl false 1 l bD false] (natD (VB l)) := by
 refine yD tabT Tryz.func145 rfl rfl rfl rfl rfl rfl ?_;intro w0 s0 mx;refine ev_R tabT [] 100 ?_;refine ev_R tabT [] 200 ?_;refine yO 3 3 1 rfl ?_;refine zB ?_;refine ev_R tabT [] 300 ?_;refine zM ?_;refine zX (ι := Bn l) [0] [] 350 (fun x => [(4,.v (.int .i64 (16 * x.j : Nat))),(3,.own 200 1 (x.o.map nD))]) (fun x => [(200,.row 3 1 (x.o.map nD).length)]) (fun x => l.length + 16 - 16 * x.j) ⟨0,[],rfl,rfl,Dg.nil,by omega⟩ ?_;refine ⟨⟨le_t,le_o,rfl,rfl⟩,fun x => ?_⟩;have hk := x.le;have hk2 := x.lo;refine zB ?_;refine ev_R tabT [] 400 ?_;refine zT (fun c3 => ?_) (fun c3 => ?_)
 ·
  refine zK (zA ?_);refine zB ?_;refine zM ?_;refine ev_R tabT [] 600 ?_;refine zB ?_;refine ev_R tabT [] 700 ?_;refine zM ?_;refine zX (ι := Bj) [0,3,4] [200] 750 (fun y => [(6,.v (.int .i64 ((y.k : Int) - 1))),(5,.v (.int .i64 (chunk l (16 * x.j) y.k : Nat)))]) (fun _ => []) (fun y => y.k) ⟨16,Nat.le_refl _⟩ ?_;refine ⟨⟨(by first | exact trivial | (repeat (first | exact trivial | exact Sub.refl _ | refine ⟨?_,?_⟩ | exact Sub.int (by first | rfl | omega | (push_cast;omega)) | exact Sub.nilSl | exact Sub.own rfl | exact Sub.slrSl rfl | exact Sub.ownSl (List.map_append).symm | exact Sub.ownSl rfl | exact Sub.int (by rw [chunk_top];rfl)))),le_o,rfl,rfl⟩,fun y => ?_⟩;have hy := y.le;have hy2 := chunk_lt l (16 * x.j) y.k;refine zB ?_;refine ev_R tabT [] 800 ?_;refine zT (fun c7 => ?_) (fun c7 => ?_)
  ·
   refine zK (zA ?_);refine zB ?_;refine zM ?_;refine ev_R tabT [] 1000 ?_;refine ev_R tabT [] 1100 ?_;refine zT (fun c10 => ?_) (fun c10 => ?_)
   ·
    refine ev_Q tabT [] 1200 ?_;refine zJ (zA ?_);refine ev_Q tabT [] 1300 ?_;exact zQ ⟨y.k - 1,by omega⟩ ⟨(by first | exact trivial | (repeat (first | exact trivial | exact Sub.refl _ | refine ⟨?_,?_⟩ | exact Sub.int (by first | rfl | omega | (push_cast;omega)) | exact Sub.nilSl | exact Sub.own rfl | exact Sub.slrSl rfl | exact Sub.ownSl (List.map_append).symm | exact Sub.ownSl rfl | exact Sub.int (by show (y.k : Int) - 1 - 1 = ((y.k - 1 : Nat) : Int) - 1;omega) | exact Sub.int (by show _ = ((chunk l (16 * x.j) (y.k - 1) : Nat) : Int);rw [chunk_one (k := y.k - 1) (by omega) (bit_T (by omega) c10),show y.k - 1 + 1 = y.k by omega];push_cast;rfl)))),le_o,rfl,rfl⟩ (by show y.k - 1 < y.k;omega)
   ·
    refine zK (zJ (zA ?_));refine ev_Q tabT [] 1200 ?_;exact zQ ⟨y.k - 1,by omega⟩ ⟨(by first | exact trivial | (repeat (first | exact trivial | exact Sub.refl _ | refine ⟨?_,?_⟩ | exact Sub.int (by first | rfl | omega | (push_cast;omega)) | exact Sub.nilSl | exact Sub.own rfl | exact Sub.slrSl rfl | exact Sub.ownSl (List.map_append).symm | exact Sub.ownSl rfl | exact Sub.int (by show (y.k : Int) - 1 - 1 = ((y.k - 1 : Nat) : Int) - 1;omega) | exact Sub.int (by show _ = ((chunk l (16 * x.j) (y.k - 1) : Nat) : Int);rw [chunk_nil (k := y.k - 1) (by omega) (bit_F (by omega) c10),show y.k - 1 + 1 = y.k by omega];push_cast;rfl)))),le_o,rfl,rfl⟩ (by show y.k - 1 < y.k;omega)
  ·
   refine yB (zU (zW (zS (zA ?_))));refine ev_Q tabT [] 1300 ?_;refine zJ (zA ?_);refine ev_Q tabT [] 1400 ?_;obtain ⟨ky,hky⟩ := y;have hz : ky = 0 := by simp only at c7;omega
   subst hz;exact zQ (x.next (by omega)) ⟨(by first | exact trivial | (repeat (first | exact trivial | exact Sub.refl _ | refine ⟨?_,?_⟩ | exact Sub.int (by first | rfl | omega | (push_cast;omega)) | exact Sub.nilSl | exact Sub.own rfl | exact Sub.slrSl rfl | exact Sub.ownSl (List.map_append).symm | exact Sub.ownSl rfl | exact Sub.int (by show ((16 * x.j : Nat) : Int) + 16 = ((16 * (x.j + 1) : Nat) : Int);omega) | exact Sub.own (by show _ = List.map nD (x.o ++ [_]);rw [List.map_append];rfl)))),(by repeat (first | exact trivial | exact SubO.same rfl | exact ⟨rfl,rfl,by show _ = (List.map nD (x.o ++ [_])).length;simp⟩ | refine ⟨?_,?_⟩)),rfl,rfl⟩ (by show l.length + 16 - 16 * (x.j + 1) < l.length + 16 - 16 * x.j;omega)
 ·
  refine yB (zU (zW (zS (zA ?_))));refine yN [] [] 410 [(3,.sl false 1 x.o nD 0)] [] ?_;refine ⟨⟨⟨Sub.ownSl rfl,trivial⟩,le_o,rfl,rfl⟩,?_⟩;refine zB (zE tabT [] 1400 rfl ?_);refine zF ?_;refine zO _ (trim_ok _ x.dg (by rw [hk2];omega)) rfl ?_;refine zF ?_;refine zC (zA (zL ?_));exact FinV.ret rfl (SubP.of_eq (by rw [x.all (by omega)]))
theorem Number3_ok (n : Int) (h1 : -9223372036854775808 ≤ n) (h2 : n ≤ 9223372036854775807) : Fn Tryz.prog 121 [.v (.int .i64 n)] (.agg [.v (.bool (decide (n < 0))),natD n.natAbs]) := by
 refine yD tabT Tryz.func121 rfl rfl rfl rfl rfl rfl ?_;intro w0 s0 mx;refine ev_R tabT [] 100 ?_;refine ev_R tabT [] 200 ?_;refine yO 3 4 1 rfl ?_;refine ev_R tabT [] 300 ?_;refine zB ?_;refine zM ?_;refine zX (ι := Nb n) [2,4] [0] 350 (fun x => [(0,.v (.int .i64 x.m)),(3,.own 200 1 (x.o.map bD))]) (fun x => [(200,.row 4 1 (x.o.map bD).length)]) (fun x => x.m.natAbs) ⟨n,[],by simp [VB],h1,h2,by simp⟩ ?_;refine ⟨⟨le_t,le_o,rfl,rfl⟩,fun x => ?_⟩;have hk := x.lo;have hk2 := x.hi;refine zB ?_;refine ev_R tabT [] 400 ?_;refine zT (fun c3 => ?_) (fun c3 => ?_)
 ·
  refine zK (zA (zM ?_));refine zB (zE tabT [] 500 rfl ?_);repeat (first | refine zG ?_ | refine zH ?_ | refine zR (by first | exact trivial | omega | exact ini (by omega) (by omega) | (intro hh;simp at hh;exact ini (by omega) (by omega)) | (intro hh;simp at hh ⊢;omega) | (simp at *;omega) | (simp_all;done) | (have h3 := x.len c3 h1 h2;simp only [List.length_map,List.length_cons,List.length_nil];omega)) ?_)
  refine zC (zA ?_);refine zE tabT [] 600 rfl ?_;repeat (first | refine zG ?_ | refine zH ?_ | refine zR (by first | exact trivial | omega | exact ini (by omega) (by omega) | (intro hh;simp at hh;exact ini (by omega) (by omega)) | (intro hh;simp at hh ⊢;omega) | (simp at *;omega) | (simp_all;done) | (have h3 := nb_half x.m;exact ⟨by decide,ini (by omega) (by omega)⟩)) ?_)
  refine zC (zJ ?_);exact zQ (x.next (x.len c3 h1 h2)) ⟨(by first | exact trivial | (repeat (first | exact trivial | exact Sub.refl _ | refine ⟨?_,?_⟩ | exact Sub.int (by first | rfl | omega | (push_cast;omega)) | exact Sub.nilSl | exact Sub.own rfl | exact Sub.slrSl rfl | exact Sub.ownSl (List.map_append).symm | exact Sub.ownSl rfl | exact Sub.own (by show _ = List.map bD (x.o ++ [_]);rw [List.map_append];rfl)))),(by repeat (first | exact trivial | exact SubO.same rfl | exact ⟨rfl,rfl,by show _ = (List.map bD (x.o ++ [_])).length;simp⟩ | refine ⟨?_,?_⟩)),rfl,rfl⟩ (by show (Int.tdiv x.m 2).natAbs < x.m.natAbs;have := nb_half x.m;omega)
 ·
  refine yB (zU (zW (zS (zA ?_))));refine yN [2,4] [0] 410 [(3,.sl false 1 x.o bD false)] [] ?_;refine ⟨⟨⟨Sub.ownSl rfl,by repeat (first | exact trivial | exact Sub.refl _ | refine ⟨?_,?_⟩)⟩,le_o,rfl,rfl⟩,?_⟩;refine zB (zE tabT [] 700 rfl ?_);refine zF ?_;refine zO _ (Binary_ok _ (by have := x.ln;omega)) rfl ?_;refine zF ?_;refine zC (zA (zL ?_));exact FinV.ret rfl (SubP.agg ⟨SubP.refl _,SubP.of_eq (by rw [x.fin (by omega)]),trivial⟩)
end Go.Proofs.YtepamjmgancjoaaGreatDoor
