/- Part 21 of the proof. -/
import Derived.Test.YtmbnclhokhggaaaGreatDoorM20
import Derived.Test.YtmbnclhokhggaaaGreatDoorM12
import Derived.Test.YtmbnclhokhggaaaGreatDoorM13
import Derived.Test.YtmbnclhokhggaaaGreatDoorM15
import Derived.Test.YtmbnclhokhggaaaGreatDoorM19
namespace Go.Proofs.YtmbnclhokhggaaaGreatDoor
open Go.RowKit
variable {md me : Bool}
def sumN (f : Nat → Nat) : Nat → Nat
 | 0 => 0
 | k + 1 => sumN f k + f k
theorem sumN_le {f : Nat → Nat} {B : Nat} (h : ∀ i,f i ≤ B) : ∀ k,sumN f k ≤ k * B
 | 0 => by simp [sumN]
 | k + 1 => by rw [sumN,Nat.add_mul];have := sumN_le h k;have := h k;omega
def fstC : List Int → Int
 | [] => 0
 | c :: l => if c = 0 then fstC l else c
theorem fstC_at : ∀ {l : List Int} {k : Nat},(∀ j,j < k → l.getD j 0 = 0) → l.getD k 0 ≠ 0 → fstC l = l.getD k 0
 | [],k,_,h => absurd (by simp) h
 | c :: l,0,_,h => by rw [fstC,if_neg (by simpa using h)];rfl
 | c :: l,k + 1,h,hk => by
  have h0 : c = 0 := by simpa using h 0 (by omega)
  rw [fstC,if_pos h0,fstC_at (l := l) (k := k) (fun j hj => by simpa using h (j + 1) (by omega)) (by simpa using hk)];simp
theorem fstC_none : ∀ {l : List Int},(∀ j,j < l.length → l.getD j 0 = 0) → fstC l = 0
 | [],_ => rfl
 | c :: l,h => by
  have h0 : c = 0 := by simpa using h 0 (by simp)
  rw [fstC,if_pos h0];exact fstC_none fun j hj => by simpa using h (j + 1) (by simp;omega)
def fourS (h : List Ob) (o : Ob) : List Int := [qO o,sizesS o,namesS o,valuesS h o]
noncomputable def codeS (h : List Ob) (i : Nat) : Int :=
 if (i : Int) < 49 then (if obAt h i = bgO i then 0 else 19)
 else if (obAt h i).kind < 0 ∨ 21 ≤ (obAt h i).kind then 5
 else if fstC (fourS h (obAt h i)) = 0 then
  (if qI h (obAt h i) i = true then (if keyS h (obAt h i) = 0 then (if orderOkS h (obAt h i) i = true then 0 else 19) else keyS h (obAt h i)) else 13)
 else fstC (fourS h (obAt h i))
def nodN (h : List Ob) (i : Nat) : Nat := if (i : Int) < 49 then (obAt h i).refs.length else (obAt h i).items.length + (obAt h i).keys.length + (obAt h i).refs.length
abbrev kvs (o : Ob) : List Vl := o.items ++ o.keys
def bytO (o : Ob) (k : Nat) : Nat := sumN (fun j => ((kvs o).getD j vl0).s.size) k
theorem bytO_succ (o : Ob) (k : Nat) : bytO o (k + 1) = bytO o k + ((kvs o).getD k vl0).s.size := rfl
def bytN (h : List Ob) (i : Nat) : Nat := if (i : Int) < 49 then 0 else bytO (obAt h i) (kvs (obAt h i)).length
noncomputable def qC (h : List Ob) : Int × Int :=
 if 5000 < (h.length : Int) then (2,-1) else if (h.length : Int) < 49 then (9,-1)
 else match (List.range h.length).find? (fun i => !decide (codeS h i = 0)) with
  | some i => (codeS h i,i)
  | none => if 20000 < sumN (nodN h) h.length ∨ 200000 < sumN (bytN h) h.length then (14,-1) else (0,0)
def prD (p : Int × Int) : D := .agg [.v (.int .i64 p.1),.v (.int .i64 p.2)]
noncomputable abbrev okI (h : List Ob) (i : Nat) : Bool := decide (codeS h i = 0)
theorem pr_at {h : List Ob} (h1 : ¬ 5000 < (h.length : Int)) (h2 : ¬ (h.length : Int) < 49) (x : Up h.length (okI h)) (hk : x.k < h.length) {c : Int} (hc : codeS h x.k = c) (hne : c ≠ 0) : qC h = (c,(x.k : Int)) := by
 subst hc;have : (List.range h.length).find? (fun i => !decide (codeS h i = 0)) = some x.k := by
  rw [List.find?_range_eq_some];exact ⟨by simpa using hne,List.mem_range.2 hk,fun j hj => by have := x.all j hj;simpa using this⟩
 rw [qC,if_neg h1,if_neg h2,this]
theorem pr_none {h : List Ob} (h1 : ¬ 5000 < (h.length : Int)) (h2 : ¬ (h.length : Int) < 49) (x : Up h.length (okI h)) (hk : ¬ x.k < h.length) : qC h = if 20000 < sumN (nodN h) h.length ∨ 200000 < sumN (bytN h) h.length then (14,-1) else (0,0) := by
 have : (List.range h.length).find? (fun i => !decide (codeS h i = 0)) = none := by
  rw [List.find?_range_eq_none];exact fun j hj => by have := x.all j (by omega);simpa using this
 rw [qC,if_neg h1,if_neg h2,this]
theorem bg_at {k : Nat} (hk : (k : Int) < 49) : (bgS 49).getD k ob0 = bgO k := by
 have e : (bgS 49)[k]? = some (bgO k) := by rw [bgS,List.getElem?_map,List.getElem?_range (by omega)];rfl
 rw [List.getD_eq_getElem?_getD,e];rfl
theorem nodN_le {h : List Ob} (hh : HpIn h) (i : Nat) : nodN h i ≤ 6000000 := by
 have hO : ObIn (obAt h i) := hh.at i;have h1 := hO.il;have h2 := hO.kl;have h3 := hO.rl;unfold nodN;split <;> omega
theorem bytO_le {o : Ob} (hO : ObIn o) (k : Nat) : bytO o k ≤ k * 2000000 :=
 sumN_le (fun j => by
  have : VlIn ((kvs o).getD j vl0) := vlAt_in (fun v hv => (List.mem_append.1 hv).elim (hO.iv v) (hO.kv v)) j;exact this.s) k
theorem bytO_le' {o : Ob} (hO : ObIn o) {k : Nat} (hk : k ≤ (kvs o).length) : bytO o k ≤ 8000000000000 := by
 have h1 := bytO_le hO k;have h2 : (kvs o).length = o.items.length + o.keys.length := List.length_append;have h3 := hO.il;have h4 := hO.kl;omega
theorem bytN_le {h : List Ob} (hh : HpIn h) (i : Nat) : bytN h i ≤ 8000000000000 := by
 unfold bytN;split
 ·omega
 ·exact bytO_le' (hh.at i) (Nat.le_refl _)
set_option maxHeartbeats 2000000 in
theorem Problem_ok (h : List Ob) (hh : HpIn h) : Fn Tryz.prog 20 [hpD md h] (prD (qC h)) := by
 have hlh := hh.len;refine yK tabT Tryz.func20 rfl rfl rfl rfl rfl rfl ?_;intro w0 s0 mx;refine ev_R tabT [] 100 ?_;refine zB ?_;refine zB (zE tabT [] 200 rfl ?_);repeat (first | refine zG ?_ | refine zH ?_ | refine zQ (by first | omega | (simp only [List.length_map];omega)) ?_)
 refine zC (zA ?_);refine zR rfl (fun c1 => ?_) (fun c1 => ?_)
 ·replace c1 := of_decide_eq_true c1
  refine zB (zE tabT [] 300 rfl ?_);refine zF ?_;refine zV _ (At_ok _ _) rfl ?_;refine zF ?_;refine zC (zA (zO (zM ?_)));exact FinV.ret rfl (SubP.of_eq (by rw [qC,if_pos c1];rfl))
 ·replace c1 := of_decide_eq_false c1
  refine zK (zA ?_);refine zB ?_;refine ev_R tabT [] 400 ?_;refine zR rfl (fun c3 => ?_) (fun c3 => ?_)
  ·replace c3 := of_decide_eq_true c3
   refine zB (zE tabT [] 500 rfl ?_);refine zF ?_;refine zV _ (At_ok _ _) rfl ?_;refine zF ?_;refine zC (zA (zO (zM ?_)));exact FinV.ret rfl (SubP.of_eq (by rw [qC,if_neg c1,if_pos c3];rfl))
  ·replace c3 := of_decide_eq_false c3
   refine zK (zA ?_);refine zB (zE tabT [] 600 rfl ?_);refine zF ?_;refine zV _ (Begin_ok) rfl ?_;refine zF ?_;refine zC (zA ?_);refine ev_R tabT [] 700 ?_;refine zB ?_;refine ev_R tabT [] 800 ?_;refine zL ?_;refine zX (ι := Up h.length (okI h)) [1,2,3,25,26] [0,1,401] 850 (fun x => [(27,.v (.int .i64 x.k)),(4,.v (.int .i64 (sumN (nodN h) x.k : Nat))),(5,.v (.int .i64 (sumN (bytN h) x.k : Nat)))]) (fun _ => []) (fun x => h.length - x.k) ⟨0,Nat.zero_le _,fun j hj => by omega⟩ ?_;refine ⟨⟨le_t,le_o,rfl,rfl⟩,fun x => ?_⟩;have hk := x.le;refine ev_R tabT [] 900 ?_;refine zB ?_;refine zR rfl (fun c8 => ?_) (fun c8 => ?_)
   ·replace c8 := of_decide_eq_true c8
    replace c8 : x.k < h.length := by omega
    have hn : inH h (x.k : Int) := ⟨by omega,by omega⟩;have hO : ObIn (h.getD (x.k : Int).toNat ob0) := hh.at x.k;have hil := hO.il;have hkl := hO.kl;have hrl := hO.rl;have hb4 := sumN_le (nodN_le hh) x.k;have hb5 := sumN_le (bytN_le hh) x.k;have hvl : (kvs (h.getD (x.k : Int).toNat ob0)).length = (h.getD (x.k : Int).toNat ob0).items.length + (h.getD (x.k : Int).toNat ob0).keys.length := List.length_append;refine zK (zA ?_);refine zB ?_;refine zL ?_;refine ev_R tabT [] 1000 ?_;refine zB ?_;refine ev_R tabT [] 1100 ?_;refine zR rfl (fun c10 => ?_) (fun c10 => ?_)
    ·replace c10 := of_decide_eq_true c10
     refine zB ?_;refine zB (zZ tabT [] [[],[],[1],[],[1,2,3],[1,2,3,4],[0,1,2,3,4,5],[0,1,2,3,4,5,6]] 1200 mixT (by kernel_rfl) rfl ?_);repeat (first | refine zG ?_ | refine zH ?_ | refine zQ (by first | exact ⟨by omega,by show _ < (bgS 49).length;rw [bgS_len];omega⟩ | (simp only [bgS_len];omega)) ?_)
     refine zV _ (SameObject_ok _ _) rfl ?_;repeat (first | refine zG ?_ | refine zH ?_ | refine zQ (by first | exact ⟨by omega,by show _ < (bgS 49).length;rw [bgS_len];omega⟩ | (simp only [bgS_len];omega)) ?_)
     refine zC (zA ?_);refine zR rfl (fun c11 => ?_) (fun c11 => ?_)
     ·replace c11 : (!decide ((h.getD (x.k : Int).toNat ob0) = (bgS 49).getD x.k ob0)) = true := c11
      rw [bg_at c10] at c11
      replace c11 : ¬ obAt h x.k = bgO x.k := by simpa using c11
      refine zB (zE tabT [] 1300 rfl ?_);refine zF ?_;refine zV _ (At_ok _ _) rfl ?_;refine zF ?_;refine zC (zA (zO (zM (zM (zN (zM (yH (zN (zM ?_)))))))));exact FinV.ret rfl (SubP.of_eq (by rw [pr_at c1 c3 x c8 (by unfold codeS;rw [if_pos c10,if_neg c11]) (by decide)];rfl))
     ·replace c11 : (!decide ((h.getD (x.k : Int).toNat ob0) = (bgS 49).getD x.k ob0)) = false := c11
      rw [bg_at c10] at c11
      replace c11 : obAt h x.k = bgO x.k := by simpa using c11
      refine zK (zA ?_);refine ev_R tabT [] 1400 ?_;refine yA (zU (zS (zA ?_)));refine ev_Q tabT [] 3600 ?_;exact zP (x.next c8 (decide_eq_true (show codeS h x.k = 0 by unfold codeS;exact by rw [if_pos c10,if_pos c11]))) ⟨⟨Sub.int (by show _ = ((x.k + 1 : Nat) : Int);push_cast;rfl),Sub.int (by show _ = ((sumN (nodN h) (x.k + 1) : Nat) : Int);rw [sumN,nodN,if_pos c10];push_cast;rfl),Sub.int (by show _ = ((sumN (bytN h) (x.k + 1) : Nat) : Int);rw [sumN,bytN,if_pos c10,Nat.add_zero]),by repeat (first | exact trivial | exact Sub.refl _ | refine ⟨?_,?_⟩)⟩,le_o,rfl,rfl⟩ (by show h.length - (x.k + 1) < h.length - x.k;omega)
    ·replace c10 := of_decide_eq_false c10
     refine zK (zA ?_);refine zB ?_;refine ev_R tabT [] 1500 ?_;refine zR rfl (fun c14 => ?_) (fun c14 => ?_)
     ·try simp only [decide_eq_true_eq,Bool.or_eq_true] at c14
      refine zB (zE tabT [] 1600 rfl ?_);refine zF ?_;refine zV _ (At_ok _ _) rfl ?_;refine zF ?_;refine zC (zA (zO (zM (zN (zM (yH (zN (zM ?_))))))));exact FinV.ret rfl (SubP.of_eq (by rw [pr_at c1 c3 x c8 (by unfold codeS;rw [if_neg c10,if_pos c14]) (by decide)];rfl))
     ·have c14n := c14;try simp only [decide_eq_false_iff_not,Bool.or_eq_false_iff] at c14n
      replace c14 : ¬ ((h.getD (x.k : Int).toNat ob0).kind < 0 ∨ 21 ≤ (h.getD (x.k : Int).toNat ob0).kind) := by omega
      have hkd : 0 ≤ (h.getD (x.k : Int).toNat ob0).kind ∧ (h.getD (x.k : Int).toNat ob0).kind < 21 := by omega
      refine zK (zA ?_);refine zB ?_;refine zB (zZ tabT [] [[],[],[0,1],[],[],[0,1,2,3,4],[],[],[0,1,2,3,4,5,6,7],[],[],[0,1,2,3,4,5,6,7,8,9,10],[0,1,2,3,4,5,6,7,8,9,10,11],[0,1,2,3,4,5,6,7,8,9,10,11,12],[]] 1700 mixT (by kernel_rfl) rfl ?_);refine zF ?_;refine zV _ (shape_ok _ _ (by first | assumption | omega | (simp_all;done)) (by first | assumption | omega | (simp_all;done))) rfl ?_;refine zF ?_;refine zV _ (sizes_ok _ _ (by first | assumption | omega | (simp_all;done)) (by first | assumption | omega | (simp_all;done)) (by first | assumption | omega | (simp_all;done))) rfl ?_;refine zF ?_;refine zV _ (names_ok _ _ (by first | assumption | omega | (simp_all;done)) (by first | assumption | omega | (simp_all;done))) rfl ?_;refine zF ?_;refine zV _ (values_ok _ _ (by first | assumption | omega | (simp_all;done)) (by first | assumption | omega | (simp_all;done))) rfl ?_;refine zF ?_;refine zC (zA ?_);refine yJ [1,2,3,4,5,6,7,25,26,27] [0,1,401,903] 1710 [(71,isD (fourS h (h.getD (x.k : Int).toNat ob0))),(72,.v (.int .i64 4)),(73,.v (.int .i64 0))] [] ?_;refine ⟨⟨⟨Sub.slrSl rfl,Sub.refl _,Sub.refl _,by repeat (first | exact trivial | exact Sub.refl _ | refine ⟨?_,?_⟩)⟩,le_o,rfl,rfl⟩,?_⟩;refine zL ?_;refine zX (ι := Up 4 (fun j => decide ((fourS h (h.getD (x.k : Int).toNat ob0)).getD j 0 = 0))) [1,2,3,4,5,6,7,25,26,27,71,72] [0,1,401,903] 1750 (fun y => [(73,.v (.int .i64 y.k))]) (fun _ => []) (fun y => 4 - y.k) ⟨0,Nat.zero_le _,fun j hj => by omega⟩ ?_;refine ⟨⟨le_t,le_o,rfl,rfl⟩,fun y => ?_⟩;have hky := y.le;refine ev_R tabT [] 1800 ?_;refine zB ?_;refine zR rfl (fun c17 => ?_) (fun c17 => ?_)
      ·replace c17 := of_decide_eq_true c17
       replace c17 : y.k < 4 := by omega
       have hy : ∀ j,j < y.k → (fourS h (h.getD (x.k : Int).toNat ob0)).getD j 0 = 0 := fun j hj => of_decide_eq_true (y.all j hj);refine zK (zA ?_);refine zB ?_;refine zL ?_;refine zB (zE tabT [] 1900 rfl ?_);repeat (first | refine zG ?_ | refine zH ?_ | refine zQ (by exact ⟨by omega,by show _ < 4;omega⟩) ?_)
       refine zC (zA ?_);refine ev_R tabT [] 2000 ?_;refine zR rfl (fun c19 => ?_) (fun c19 => ?_)
       ·replace c19 : ¬ (fourS h (h.getD (x.k : Int).toNat ob0)).getD y.k 0 = 0 := by simpa using c19
        refine zB (zE tabT [] 2100 rfl ?_);refine zF ?_;refine zV _ (At_ok _ _) rfl ?_;refine zF ?_;refine zC (zA (zO (zN (zM (yH (zN (zM (zN (zM (yH (zN (zM ?_))))))))))));exact FinV.ret rfl (SubP.of_eq (by rw [pr_at c1 c3 x c8 (by unfold codeS;rw [if_neg c10,if_neg c14,if_neg (by rw [fstC_at hy c19];exact c19),fstC_at hy c19]) (c19)];rfl))
       ·replace c19 : (fourS h (h.getD (x.k : Int).toNat ob0)).getD y.k 0 = 0 := by simpa using c19
        refine zK (zJ (zA ?_));refine ev_Q tabT [] 2200 ?_;exact zP (y.next c17 (decide_eq_true c19)) ⟨⟨Sub.int (by show _ = ((y.k + 1 : Nat) : Int);push_cast;rfl),by repeat (first | exact trivial | exact Sub.refl _ | refine ⟨?_,?_⟩)⟩,le_o,rfl,rfl⟩ (by show 4 - (y.k + 1) < 4 - y.k;omega)
      ·replace c17 := of_decide_eq_false c17
       have hyk4 : y.k = 4 := by omega
       have hy : ∀ j,j < 4 → (fourS h (h.getD (x.k : Int).toNat ob0)).getD j 0 = 0 := fun j hj => of_decide_eq_true (y.all j (by omega));have h4 : fstC (fourS h (h.getD (x.k : Int).toNat ob0)) = 0 := fstC_none hy;have hsh : qO (h.getD (x.k : Int).toNat ob0) = 0 := hy 0 (by omega);have hvs : valuesS h (h.getD (x.k : Int).toNat ob0) = 0 := hy 3 (by omega);have hV : Vs h (h.getD (x.k : Int).toNat ob0) := vs_of hvs;refine yA (zU (zW (zS (zA ?_))));refine zB ?_;refine zB (zE tabT [] 2300 rfl ?_);refine zF ?_;refine zV _ (links_ok _ _ (by first | assumption | omega | (simp_all;done)) (by first | assumption | omega | (simp_all;done)) (by first | assumption | omega | (simp_all;done)) (by first | assumption | omega | (simp_all;done))) rfl ?_;refine zF ?_;refine zC (zA ?_);refine zR rfl (fun c22 => ?_) (fun c22 => ?_)
       ·replace c22 : ¬ qI h (obAt h x.k) x.k = true := by simpa using c22
        refine zB (zE tabT [] 2400 rfl ?_);refine zF ?_;refine zV _ (At_ok _ _) rfl ?_;refine zF ?_;refine zC (zA (zO (zM (zN (zM (yH (zN (zM ?_))))))));exact FinV.ret rfl (SubP.of_eq (by rw [pr_at c1 c3 x c8 (by unfold codeS;rw [if_neg c10,if_neg c14,if_pos h4,if_neg c22]) (by decide)];rfl))
       ·replace c22 : qI h (obAt h x.k) x.k = true := by simpa using c22
        refine zK (zA ?_);refine zB ?_;refine zB (zE tabT [] 2500 rfl ?_);refine zF ?_;refine zV _ (keyRule_ok _ _ (by first | assumption | omega | (simp_all;done)) (by first | assumption | omega | (simp_all;done))) rfl ?_;refine zF ?_;refine zC (zA ?_);refine ev_R tabT [] 2600 ?_;refine zR rfl (fun c25 => ?_) (fun c25 => ?_)
        ·replace c25 : ¬ keyS h (obAt h x.k) = 0 := by simpa using c25
         refine zB (zE tabT [] 2700 rfl ?_);refine zF ?_;refine zV _ (At_ok _ _) rfl ?_;refine zF ?_;refine zC (zA (zO (zM (zN (zM (yH (zN (zM ?_))))))));exact FinV.ret rfl (SubP.of_eq (by rw [pr_at c1 c3 x c8 (by unfold codeS;rw [if_neg c10,if_neg c14,if_pos h4,if_pos c22,if_neg c25]) (c25)];rfl))
        ·replace c25 : keyS h (obAt h x.k) = 0 := by simpa using c25
         refine zK (zA ?_);refine zB ?_;refine zB (zE tabT [] 2800 rfl ?_);refine zF ?_;refine zV _ (orderOk_ok _ _ hn hh (fun _ r hr => yN (hV.refs r hr))) rfl ?_;refine zF ?_;refine zC (zA ?_);refine zR rfl (fun c27 => ?_) (fun c27 => ?_)
         ·replace c27 : ¬ orderOkS h (obAt h x.k) x.k = true := by simpa using c27
          refine zB (zE tabT [] 2900 rfl ?_);refine zF ?_;refine zV _ (At_ok _ _) rfl ?_;refine zF ?_;refine zC (zA (zO (zM (zN (zM (yH (zN (zM ?_))))))));exact FinV.ret rfl (SubP.of_eq (by rw [pr_at c1 c3 x c8 (by unfold codeS;rw [if_neg c10,if_neg c14,if_pos h4,if_pos c22,if_pos c25,if_neg c27]) (by decide)];rfl))
         ·replace c27 : orderOkS h (obAt h x.k) x.k = true := by simpa using c27
          refine zK (zA ?_);refine ev_R tabT [] 3000 ?_;refine zB (zZ tabT [118] [[],[0],[0,1],[],[3],[0,1,2,3,4],[0,1,2,3,4,5],[]] 3100 mixT (by kernel_rfl) rfl ?_);repeat (first | refine zG ?_ | refine zH ?_ | refine zQ (by first | rfl | omega | (simp only [List.length_map];omega)) ?_)
          refine qN _ _ _ (CloneV_ok _ (by first | assumption | omega | (simp_all;done))) ?_;repeat (first | refine zG ?_ | refine zH ?_ | refine zQ (by first | rfl | omega | (simp only [List.length_map];omega)) ?_)
          refine zC (zA ?_);refine yJ [1,2,3,4,5,25,26,27] [0,1,401] 3110 [(121,.sl false 7 (kvs (h.getD (x.k : Int).toNat ob0)) vlD vl0),(122,.v (.int .i64 (kvs (h.getD (x.k : Int).toNat ob0)).length)),(123,.v (.int .i64 0))] [] ?_;refine ⟨⟨⟨Sub.ownSl (by rw [← List.map_append]),Sub.int (by simp),Sub.refl _,by repeat (first | exact trivial | exact Sub.refl _ | refine ⟨?_,?_⟩)⟩,le_o,rfl,rfl⟩,?_⟩;refine zL ?_;refine zX (ι := Up (kvs (h.getD (x.k : Int).toNat ob0)).length (fun _ => true)) [1,2,3,4,25,26,27,121,122] [0,1,401] 3150 (fun z => [(123,.v (.int .i64 z.k)),(5,.v (.int .i64 ((sumN (bytN h) x.k + bytO (h.getD (x.k : Int).toNat ob0) z.k : Nat) : Int)))]) (fun _ => []) (fun z => (kvs (h.getD (x.k : Int).toNat ob0)).length - z.k) ⟨0,Nat.zero_le _,fun j hj => by omega⟩ ?_;refine ⟨⟨le_t,le_o,rfl,rfl⟩,fun z => ?_⟩;have hkz := z.le;refine ev_R tabT [] 3200 ?_;refine zB ?_;refine zR rfl (fun c31 => ?_) (fun c31 => ?_)
          ·replace c31 := of_decide_eq_true c31
           replace c31 : z.k < (kvs (h.getD (x.k : Int).toNat ob0)).length := by omega
           have hb6 := bytO_le' hO z.le;have hvz : VlIn ((kvs (h.getD (x.k : Int).toNat ob0)).getD z.k vl0) := vlAt_in (fun v hv => (List.mem_append.1 hv).elim (hO.iv v) (hO.kv v)) z.k;have hvs6 : ((kvs (h.getD (x.k : Int).toNat ob0)).getD (z.k : Int).toNat vl0).s.size ≤ 2000000 := hvz.s;refine zK (zA ?_);refine zB ?_;refine zL ?_;refine ev_R tabT [] 3300 ?_;refine zE tabT [] 3400 rfl ?_;repeat (first | refine zG ?_ | refine zH ?_ | refine zQ (by first | exact ini (by omega) (by omega) | omega) ?_)
           refine zC (zJ (zA ?_));refine ev_Q tabT [] 3500 ?_;exact zP (z.next c31 rfl) ⟨⟨Sub.int (by show _ = ((z.k + 1 : Nat) : Int);push_cast;rfl),Sub.int (by show _ = ((sumN (bytN h) x.k + bytO (h.getD (x.k : Int).toNat ob0) (z.k + 1) : Nat) : Int);rw [bytO_succ];simp only [Int.toNat_natCast];push_cast;omega),by repeat (first | exact trivial | exact Sub.refl _ | refine ⟨?_,?_⟩)⟩,le_o,rfl,rfl⟩ (by show (kvs (h.getD (x.k : Int).toNat ob0)).length - (z.k + 1) < (kvs (h.getD (x.k : Int).toNat ob0)).length - z.k;omega)
          ·replace c31 := of_decide_eq_false c31
           have hyk : z.k = (kvs (h.getD (x.k : Int).toNat ob0)).length := by have := z.le;omega
           refine yA (zU (zW (zS (zJ (zA ?_)))));refine ev_Q tabT [] 3600 ?_;exact zP (x.next c8 (decide_eq_true (show codeS h x.k = 0 by unfold codeS;exact by rw [if_neg c10,if_neg c14,if_pos h4,if_pos c22,if_pos c25,if_pos c27]))) ⟨⟨Sub.int (by show _ = ((x.k + 1 : Nat) : Int);push_cast;rfl),Sub.int (by show _ = ((sumN (nodN h) (x.k + 1) : Nat) : Int);rw [sumN,nodN,if_neg c10];push_cast;rfl),Sub.int (by show _ = ((sumN (bytN h) (x.k + 1) : Nat) : Int);rw [sumN,bytN,if_neg c10];rw [show bytO (obAt h x.k) (kvs (obAt h x.k)).length = bytO (h.getD (x.k : Int).toNat ob0) z.k from (congrArg (bytO (h.getD (x.k : Int).toNat ob0)) hyk).symm];try (push_cast;rfl)),by repeat (first | exact trivial | exact Sub.refl _ | refine ⟨?_,?_⟩)⟩,le_o,rfl,rfl⟩ (by show h.length - (x.k + 1) < h.length - x.k;omega)
   ·replace c8 := of_decide_eq_false c8
    replace c8 : ¬ x.k < h.length := by omega
    have hxk : x.k = h.length := by omega
    refine yA (zU (zW (zS (zA ?_))));refine zB ?_;refine ev_R tabT [] 3700 ?_;refine zR rfl (fun c36 => ?_) (fun c36 => ?_)
    ·try simp only [decide_eq_true_eq,Bool.or_eq_true] at c36
     refine zB (zE tabT [] 3800 rfl ?_);refine zF ?_;refine zV _ (At_ok _ _) rfl ?_;refine zF ?_;refine zC (zA (zO (zM ?_)));exact FinV.ret rfl (SubP.of_eq (by rw [pr_none c1 c3 x c8,if_pos (by rw [hxk] at c36;omega)];rfl))
    ·try simp only [decide_eq_false_iff_not,Bool.or_eq_false_iff] at c36
     refine zK (zA ?_);refine ev_R tabT [] 3900 ?_;refine zO ?_;exact FinV.ret rfl (SubP.of_eq (by rw [pr_none c1 c3 x c8,if_neg (by rw [hxk] at c36;omega)];rfl))
variable {md me : Bool}
noncomputable def usableS (h : List Ob) (vs : List Vl) : Bool := decide ((qC h).1 = 0) && vs.all (hasS h)
theorem fstC_zero : ∀ {l : List Int},fstC l = 0 → ∀ j,l.getD j 0 = 0
 | [],_,j => by simp
 | c :: l,h,j => by
  rw [fstC] at h;split at h
  ·rename_i h0
   match j with
   | 0 => simpa using h0
   | j + 1 => simpa using fstC_zero h j
  ·rename_i h0;exact absurd h h0
structure Uh (h : List Ob) : Prop where
 lo : 49 ≤ h.length
 hi : h.length ≤ 5000
 code : ∀ i,i < h.length → codeS h i = 0
theorem uh_of {h : List Ob} (hp : (qC h).1 = 0) : Uh h := by
 unfold qC at hp;split at hp
 ·exact absurd hp (by decide)
 ·rename_i h1;split at hp
  ·exact absurd hp (by decide)
  ·rename_i h2;split at hp
   ·rename_i i hi;rw [List.find?_range_eq_some] at hi;exact absurd hp (by simpa using hi.1)
   ·rename_i hn;rw [List.find?_range_eq_none] at hn;exact ⟨by omega,by omega,fun i hi => by simpa using hn i hi⟩
structure Uho (h : List Ob) (o : Ob) (i : Nat) : Prop where
 kind : 0 ≤ o.kind ∧ o.kind < 21
 shape : qO o = 0
 sizes : sizesS o = 0
 names : namesS o = 0
 vals : valuesS h o = 0
 links : qI h o i = true
 keys : keyS h o = 0
 order : orderOkS h o i = true
theorem Uh.lo_at {h : List Ob} (g : Uh h) {i : Nat} (hi : i < 49) : obAt h i = bgO i := by
 have := g.code i (by have := g.lo;omega);unfold codeS at this;rw [if_pos (by omega)] at this;split at this
 ·assumption
 ·cases this
theorem Uh.hi_at {h : List Ob} (g : Uh h) {i : Nat} (h1 : 49 ≤ i) (h2 : i < h.length) : Uho h (obAt h i) i := by
 have := g.code i h2;unfold codeS at this;rw [if_neg (by omega)] at this;split at this
 ·cases this
 ·rename_i hk;split at this
  ·rename_i hf;split at this
   ·rename_i hl;split at this
    ·rename_i hy;split at this
     ·rename_i ho;have hz := fstC_zero hf;exact ⟨by omega,hz 0,hz 1,hz 2,hz 3,hl,hy,ho⟩
     ·cases this
    ·rename_i hy;exact absurd this hy
   ·cases this
  ·rename_i hf;exact absurd this hf
theorem Uh.cls {h : List Ob} (g : Uh h) {n : Int} (hn : inH h n) (hk : (obAt h n).kind = 10) : inH h (obAt h n).cls := by
 by_cases h49 : n.toNat < 49
 ·have := g.lo_at h49;rw [show obAt h n = bgO n.toNat from this] at hk;exact absurd hk (by show ¬ (9 : Int) = 10;decide)
 ·exact yN (vs_of (g.hi_at (by omega) hn.2).vals).cls
theorem Uh.items {h : List Ob} (g : Uh h) {n : Int} (hn : inH h n) {v : Vl} (hv : v ∈ (obAt h n).items) (hk : v.k = 6) : qG h v.r = true := by
 by_cases h49 : n.toNat < 49
 ·rw [show obAt h n = bgO n.toNat from g.lo_at h49] at hv;exact absurd hv (by show ¬ v ∈ ([] : List Vl);simp)
 ·exact (vs_of (g.hi_at (by omega) hn.2).vals).vals v (List.mem_append.2 (.inr hv)) hk
theorem has_obj {h : List Ob} {v : Vl} (hh : hasS h v = true) (hk : v.k = 6) : qG h v.r = true := by
 simp only [hasS,Bool.and_eq_true,Bool.or_eq_true,Bool.not_eq_true',decide_eq_false_iff_not] at hh;exact hh.2.resolve_left fun hn => hn hk
theorem objS_of {h : List Ob} {v : Vl} (hk : (objS h v).kind ≠ 0) : v.k = 6 ∧ qG h v.r = true ∧ objS h v = obAt h v.r := by
 unfold objS at hk ⊢;split at hk
 ·rename_i h1;exact ⟨h1.1,h1.2,if_pos h1⟩
 ·exact absurd rfl hk
theorem objS_at {h : List Ob} {v : Vl} (hv : v.k = 6 → qG h v.r = true) (hk : v.k = 6) : objS h v = obAt h v.r := if_pos ⟨hk,hv hk⟩
theorem Usable_ok (h : List Ob) (vs : List Vl) (hh : HpIn h) (hin : ∀ v ∈ vs,VlIn v) (hl : vs.length ≤ 2000000) : Fn Tryz.prog 4 [hpD md h,vsD vs] (.v (.bool (usableS h vs))) := by
 refine yK tabT Tryz.func4 rfl rfl rfl rfl rfl rfl ?_;intro w0 s0 mx;refine ev_R tabT [] 100 ?_;refine zB ?_;refine zB (zE tabT [] 200 rfl ?_);refine zF ?_;refine zV _ (Problem_ok _ (by first | assumption | omega | (simp_all;done))) rfl ?_;refine zF ?_;refine zC (zA ?_);refine zR rfl (fun c1 => ?_) (fun c1 => ?_)
 ·replace c1 : ¬ (qC h).1 = 0 := by simpa using c1
  refine ev_R tabT [] 300 ?_;refine zO (zM ?_);exact FinV.ret rfl (SubP.bool (by rw [usableS,decide_eq_false c1];rfl))
 ·replace c1 : (qC h).1 = 0 := by simpa using c1
  refine zK (zA ?_);refine zB ?_;refine ev_R tabT [] 400 ?_;refine zL ?_;refine zX (ι := Al vs (hasS h)) [2,11,12] [0] 450 (fun x => [(13,.v (.int .i64 x.k))]) (fun _ => []) (fun x => vs.length - x.k) ⟨0,Nat.zero_le _,fun j x hj => by omega⟩ ?_;refine ⟨⟨le_t,le_o,rfl,rfl⟩,fun x => ?_⟩;have hk := x.le;refine ev_R tabT [] 500 ?_;refine zB ?_;refine yF (fun c4 => ?_) (fun c4 => ?_)
  ·
   refine zK (zA ?_);refine zB ?_;refine zL ?_;refine ev_R tabT [] 600 ?_;refine zB (zE tabT [] 700 rfl ?_);refine zF ?_;refine zV _ (Has_ok _ _ (hin _ (qD c4 vl0))) rfl ?_;refine zF ?_;refine zC (zA ?_);refine zR rfl (fun c6 => ?_) (fun c6 => ?_)
   ·simp only [Bool.not_eq_true'] at c6;refine ev_R tabT [] 800 ?_;refine zO (zN (zM (yH (zN (zM ?_)))));exact FinV.ret rfl (SubP.bool (by rw [usableS,Al.no (p := hasS h) (e := vl0) c4 c6,Bool.and_false]))
   ·simp only [Bool.not_eq_false'] at c6;refine zK (zJ (zA ?_));refine ev_Q tabT [] 900 ?_;exact zP (x.next (e := vl0) c4 c6) ⟨le_t,le_o,rfl,rfl⟩ (by show vs.length - (x.k + 1) < vs.length - x.k;omega)
  ·
   refine yA (zU (zW (zS (zA ?_))));refine ev_R tabT [] 1000 ?_;refine zO ?_;exact FinV.ret rfl (SubP.bool (by rw [usableS,decide_eq_true c1,x.yes c4];rfl))
variable {md me : Bool}
structure St where
 k : Int
 v : Vl
 c : Int
 s : ByteArray
 w : Vl
 l : List Vl
def stD (s : St) : List D := .v (.int .i64 s.k) :: (vlD s.v ++ (.v (.int .i64 s.c) :: .v (.string s.s) :: (vlD s.w ++ [.sl false 7 s.l vlD vl0])))
structure Sf {α β : Type} (F : List α → β) (l : List α) where
 k : Nat
 le : k ≤ l.length
 eq : F (l.drop k) = F l
def Sf.next {α β : Type} {F : List α → β} {l : List α} (x : Sf F l) (h1 : x.k < l.length) (h2 : F (l.drop x.k) = F (l.drop (x.k + 1))) : Sf F l := ⟨x.k + 1,h1,h2.symm.trans x.eq⟩
theorem Sf.end {α β : Type} {F : List α → β} {l : List α} (x : Sf F l) (h1 : ¬ x.k < l.length) : F l = F [] := by
 rw [← x.eq,List.drop_of_length_le (by omega)]
variable {md me : Bool}
section
variable {h : List Ob} {v : Vl} {b : Bool} {l : List Vl} {k : Nat}
end
variable {md me : Bool}
def txV (s : ByteArray) : Vl := ⟨4,false,[],false,[],s,0⟩
def rfV (r : Int) : Vl := ⟨6,false,[],false,[],ByteArray.empty,r⟩
theorem heapText_ok (s : ByteArray) : Fn Tryz.prog 33 [.v (.string s)] (.agg (vlD (txV s))) := by
 refine yK tabT Tryz.func33 rfl rfl rfl rfl rfl rfl ?_;intro w0 s0 mx;refine ev_R tabT [] 100 ?_;refine ev_R tabT [] 200 ?_;refine zO ?_;exact FinV.ret rfl (SubP.agg (by repeat (first | exact trivial | exact SubP.refl _ | exact SubP.nilSl rfl | refine ⟨?_,?_⟩)))
theorem T_ok (s : ByteArray) : Fn Tryz.prog 35 [.v (.string s)] (.agg (vlD (txV s))) := by
 refine yK tabT Tryz.func35 rfl rfl rfl rfl rfl rfl ?_;intro w0 s0 mx;refine ev_R tabT [] 100 ?_;refine ev_R tabT [] 200 ?_;refine zO ?_;exact FinV.ret rfl (SubP.agg (by repeat (first | exact trivial | exact SubP.refl _ | exact SubP.nilSl rfl | refine ⟨?_,?_⟩)))
theorem heapRef_ok (r : Int) : Fn Tryz.prog 61 [.v (.int .i64 r)] (.agg (vlD (rfV r))) := by
 refine yK tabT Tryz.func61 rfl rfl rfl rfl rfl rfl ?_;intro w0 s0 mx;refine ev_R tabT [] 100 ?_;refine ev_R tabT [] 200 ?_;refine zO ?_;exact FinV.ret rfl (SubP.agg (by repeat (first | exact trivial | exact SubP.refl _ | exact SubP.nilSl rfl | refine ⟨?_,?_⟩)))
theorem O_ok (r : Int) : Fn Tryz.prog 63 [.v (.int .i64 r)] (.agg (vlD (rfV r))) := by
 refine yK tabT Tryz.func63 rfl rfl rfl rfl rfl rfl ?_;intro w0 s0 mx;refine ev_R tabT [] 100 ?_;refine ev_R tabT [] 200 ?_;refine zO ?_;exact FinV.ret rfl (SubP.agg (by repeat (first | exact trivial | exact SubP.refl _ | exact SubP.nilSl rfl | refine ⟨?_,?_⟩)))
variable {md me : Bool}
theorem Uh.kind {h : List Ob} (g : Uh h) {n : Int} (hn : qG h n = true) : 0 < (obAt h n).kind ∧ (obAt h n).kind < 21 := by
 have hi := yN hn;by_cases h49 : n.toNat < 49
 ·rw [show obAt h n = bgO n.toNat from g.lo_at h49];exact ⟨by show (0 : Int) < 9;decide,by show (9 : Int) < 21;decide⟩
 ·have h1 := (g.hi_at (by omega) hi.2).kind;have h2 : ¬ (obAt h n).kind = 0 := by
   intro h0;simp only [qG,Bool.and_eq_true] at hn;have := hn.2;rw [show (h.getD n.toNat ob0).kind = 0 from h0] at this;exact absurd this (by decide)
  exact ⟨by have := h1.1;show 0 < (obAt h n).kind;have h3 : (obAt h ((n.toNat : Nat) : Int)).kind = (obAt h n).kind := rfl;omega,h1.2⟩
variable {md me : Bool}
variable {md me : Bool}
theorem bAt_lt (s : ByteArray) (i : Nat) : bAt s i < 256 := by
 unfold bAt;split
 ·exact UInt8.toNat_lt _
 ·decide
variable {md me : Bool}
def nuV (n : Int) : Vl := ⟨2,decide (n < 0),lim n.natAbs,false,[],ByteArray.empty,0⟩
structure Lm (m : Nat) where
 u : Nat
 l : List Nat
 eq : l ++ lim u = lim m
 le : u ≤ m
 pw : u * 4294967296 ^ l.length ≤ m
def Lm.next {m : Nat} (x : Lm m) (h : x.u ≠ 0) : Lm m := ⟨x.u / 4294967296,x.l ++ [x.u % 4294967296],by rw [← x.eq,lim_pos h,List.append_assoc];rfl,by have := x.le;omega,by
 refine Nat.le_trans ?_ x.pw;rw [List.length_append,List.length_singleton,Nat.pow_succ,Nat.mul_comm (4294967296 ^ _),← Nat.mul_assoc];exact Nat.mul_le_mul_right _ (Nat.div_mul_le_self _ _)⟩
theorem Lm.short {m : Nat} (x : Lm m) (h : 0 < x.u) (hm : m < 18446744073709551616) : x.l.length ≤ 2 := by
 rcases Nat.lt_or_ge 2 x.l.length with h3 | h3
 ·have h1 : 4294967296 ^ 3 ≤ 4294967296 ^ x.l.length := Nat.pow_le_pow_right (by omega) h3;have h2 : 1 * 4294967296 ^ x.l.length ≤ x.u * 4294967296 ^ x.l.length := Nat.mul_le_mul_right _ h;have h4 := x.pw;omega
 ·exact h3
theorem w_neg {n : Int} (h : n < 0) (h1 : -9223372036854775808 ≤ n) : IntKind.u64.wrap (0 - IntKind.u64.wrap n) = ((n.natAbs : Nat) : Int) := by
 simp only [IntKind.wrap,IntKind.signed,IntKind.bits,Bool.false_and,Bool.false_eq_true,if_false];omega
theorem w_pos {n : Int} (h : 0 ≤ n) (h1 : n ≤ 9223372036854775807) : IntKind.u64.wrap n = ((n.natAbs : Nat) : Int) := by
 simp only [IntKind.wrap,IntKind.signed,IntKind.bits,Bool.false_and,Bool.false_eq_true,if_false];omega
theorem sh32 (u : Nat) : ((u : Int)).fdiv (2 ^ min (Int.toNat 32) IntKind.u64.bits) = ((u / 4294967296 : Nat) : Int) := by
 show ((u : Int)).fdiv 4294967296 = _;rw [Int.fdiv_eq_ediv_of_nonneg _ (by decide)];omega
theorem w32 (u : Nat) : IntKind.u32.wrap (u : Int) = ((u % 4294967296 : Nat) : Int) := by
 simp only [IntKind.wrap,IntKind.signed,IntKind.bits,Bool.false_and,Bool.false_eq_true,if_false];omega
set_option maxHeartbeats 1000000 in
theorem heapInt_ok (n : Int) (h1 : -9223372036854775808 ≤ n) (h2 : n ≤ 9223372036854775807) : Fn Tryz.prog 34 [.v (.int .i64 n)] (.agg (vlD (nuV n))) := by
 refine yK tabT Tryz.func34 rfl rfl rfl rfl rfl rfl ?_;intro w0 s0 mx;refine ev_R tabT [] 100 ?_;refine ev_R tabT [] 200 ?_;refine ev_nilCell 101 2 83 1 rfl rfl ?_;refine ev_R tabT [] 300 ?_;refine zB ?_;refine ev_R tabT [] 400 ?_;refine zR rfl (fun c3 => ?_) (fun c3 => ?_)
 ·replace c3 := of_decide_eq_true c3
  refine ev_R tabT [] 500 ?_;refine ev_Q tabT [] 600 ?_;refine zA ?_;refine zB ?_;refine zL ?_;refine zX (ι := Lm n.natAbs) [2,3] [0] 650 (fun x => [(4,.v (.int .u64 (x.u : Nat)))]) (fun x => [(101,.box 34 [.v (.int .i64 2),.v (.bool (decide (n < 0))),.own 200 1 (x.l.map uD),.v (.bool false),.v (.slice none 0 0),.v (.string ByteArray.empty),.v (.int .i64 0)]),(200,.row 83 1 (x.l.map uD).length)]) (fun x => x.u) ⟨n.natAbs,[],rfl,Nat.le_refl _,by simp⟩ ?_;refine ⟨⟨⟨Sub.of_eq (by rw [w_neg c3 h1]),by repeat (first | exact trivial | exact Sub.refl _ | refine ⟨?_,?_⟩)⟩,⟨⟨rfl,Sub.refl _,rfl,Sub.of_eq (by rw [decide_eq_true c3]),rfl,Sub.refl _,rfl,Sub.refl _,rfl,Sub.refl _,rfl,Sub.refl _,rfl,Sub.refl _,rfl,trivial⟩,⟨rfl,rfl,rfl⟩,by repeat (first | exact trivial | exact SubO.same rfl | refine ⟨?_,?_⟩)⟩,rfl,rfl⟩,fun x => ?_⟩;have hk := x.le;have hm : n.natAbs < 18446744073709551616 := by omega
  refine zB ?_;refine ev_R tabT [] 700 ?_;refine yF (fun c6 => ?_) (fun c6 => ?_)
  ·
   refine zK (zA ?_);refine zB ?_;refine zL ?_;refine zE tabT [] 900 rfl ?_;repeat (first | refine zG ?_ | refine zH ?_ | refine zQ (by first | rfl | (have h3 := x.short (by omega) hm;simp only [List.length_map,List.length_cons,List.length_nil];omega)) ?_)
   refine zC (zJ (zA ?_));refine ev_Q tabT [] 1000 ?_;exact zP (x.next (by omega)) ⟨⟨Sub.of_eq (by show _ = D.v (Value.int .u64 ((x.u / 4294967296 : Nat) : Int));rw [sh32]),by repeat (first | exact trivial | exact Sub.refl _ | refine ⟨?_,?_⟩)⟩,⟨⟨rfl,Sub.refl _,rfl,Sub.refl _,rfl,Sub.own (by show _ = List.map uD (x.l ++ [x.u % 4294967296]);rw [List.map_append,w32];rfl),rfl,Sub.refl _,rfl,Sub.refl _,rfl,Sub.refl _,rfl,Sub.refl _,rfl,trivial⟩,⟨rfl,rfl,by show _ = (List.map uD (x.l ++ [x.u % 4294967296])).length;simp⟩,by repeat (first | exact trivial | exact SubO.same rfl | refine ⟨?_,?_⟩)⟩,rfl,rfl⟩ (by show x.u / 4294967296 < x.u;omega)
  ·
   refine yA (zU (zW (zS (zA ?_))));refine ev_R tabT [] 1000 ?_;refine zO ?_;exact FinV.ret rfl (SubP.agg ⟨SubP.refl _,SubP.refl _,SubP.ownSl (by show _ = (lim n.natAbs).map uD;rw [← x.eq,show x.u = 0 by omega,lim_zero,List.append_nil]),SubP.refl _,SubP.nilSl rfl,SubP.refl _,SubP.refl _,trivial⟩)
 ·replace c3 := Int.not_lt.1 (of_decide_eq_false c3)
  refine zK (zA ?_);refine zB ?_;refine zL ?_;refine zX (ι := Lm n.natAbs) [2,3] [0] 450 (fun x => [(4,.v (.int .u64 (x.u : Nat)))]) (fun x => [(101,.box 34 [.v (.int .i64 2),.v (.bool (decide (n < 0))),.own 200 1 (x.l.map uD),.v (.bool false),.v (.slice none 0 0),.v (.string ByteArray.empty),.v (.int .i64 0)]),(200,.row 83 1 (x.l.map uD).length)]) (fun x => x.u) ⟨n.natAbs,[],rfl,Nat.le_refl _,by simp⟩ ?_;refine ⟨⟨⟨Sub.of_eq (by rw [w_pos c3 h2]),by repeat (first | exact trivial | exact Sub.refl _ | refine ⟨?_,?_⟩)⟩,⟨⟨rfl,Sub.refl _,rfl,Sub.of_eq (by rw [decide_eq_false (Int.not_lt.2 c3)]),rfl,Sub.refl _,rfl,Sub.refl _,rfl,Sub.refl _,rfl,Sub.refl _,rfl,Sub.refl _,rfl,trivial⟩,⟨rfl,rfl,rfl⟩,by repeat (first | exact trivial | exact SubO.same rfl | refine ⟨?_,?_⟩)⟩,rfl,rfl⟩,fun x => ?_⟩;have hk := x.le;have hm : n.natAbs < 18446744073709551616 := by omega
  refine zB ?_;refine ev_R tabT [] 700 ?_;refine yF (fun c6 => ?_) (fun c6 => ?_)
  ·
   refine zK (zA ?_);refine zB ?_;refine zL ?_;refine zE tabT [] 900 rfl ?_;repeat (first | refine zG ?_ | refine zH ?_ | refine zQ (by first | rfl | (have h3 := x.short (by omega) hm;simp only [List.length_map,List.length_cons,List.length_nil];omega)) ?_)
   refine zC (zJ (zA ?_));refine ev_Q tabT [] 1000 ?_;exact zP (x.next (by omega)) ⟨⟨Sub.of_eq (by show _ = D.v (Value.int .u64 ((x.u / 4294967296 : Nat) : Int));rw [sh32]),by repeat (first | exact trivial | exact Sub.refl _ | refine ⟨?_,?_⟩)⟩,⟨⟨rfl,Sub.refl _,rfl,Sub.refl _,rfl,Sub.own (by show _ = List.map uD (x.l ++ [x.u % 4294967296]);rw [List.map_append,w32];rfl),rfl,Sub.refl _,rfl,Sub.refl _,rfl,Sub.refl _,rfl,Sub.refl _,rfl,trivial⟩,⟨rfl,rfl,by show _ = (List.map uD (x.l ++ [x.u % 4294967296])).length;simp⟩,by repeat (first | exact trivial | exact SubO.same rfl | refine ⟨?_,?_⟩)⟩,rfl,rfl⟩ (by show x.u / 4294967296 < x.u;omega)
  ·
   refine yA (zU (zW (zS (zA ?_))));refine ev_R tabT [] 1000 ?_;refine zO ?_;exact FinV.ret rfl (SubP.agg ⟨SubP.refl _,SubP.refl _,SubP.ownSl (by show _ = (lim n.natAbs).map uD;rw [← x.eq,show x.u = 0 by omega,lim_zero,List.append_nil]),SubP.refl _,SubP.nilSl rfl,SubP.refl _,SubP.refl _,trivial⟩)
variable {md me : Bool}
def nD (n : Nat) : List D := [.v (.int .i64 n)]
def natD (n : Nat) : D := .sl false 1 (dig n) nD 0
structure Trm (l : List Nat) where
 r : List Nat
 dg : Dg r
 eq : V r = V l
 le : r.length ≤ l.length
theorem last_take {r : List Nat} (h : 0 < r.length) (h0 : r.getD (r.length - 1) 0 = 0) : V (r.take (r.length - 1)) = V r := by
 have h1 := V_take_succ' r (r.length - 1);rw [h0,show r.length - 1 + 1 = r.length by omega,List.take_of_length_le (Nat.le_refl _)] at h1;omega
def Trm.next {l : List Nat} (x : Trm l) (h : 0 < x.r.length) (h0 : x.r.getD (x.r.length - 1) 0 = 0) : Trm l := ⟨x.r.take (x.r.length - 1),x.dg.take _,by rw [last_take h h0,x.eq],by have := x.le;simp;omega⟩
theorem Trm.fin {l : List Nat} (x : Trm l) (h : 0 < x.r.length → x.r.getD (x.r.length - 1) 0 ≠ 0) : x.r = dig (V l) := by
 rw [← x.eq];refine (dig_V x.dg fun hne => ?_).symm;have hp : 0 < x.r.length := List.length_pos_iff.2 hne;rw [List.getLast_eq_getElem,← getD_lt (by omega)];exact h hp
structure Bn (l : List Bool) where
 j : Nat
 o : List Nat
 eq : V o = VB (l.take (16 * j))
 lo : o.length = j
 dg : Dg o
 le : 16 * j ≤ l.length + 15
def Bn.next {l : List Bool} (x : Bn l) (h : 16 * x.j < l.length) : Bn l := ⟨x.j + 1,x.o ++ [chunk l (16 * x.j) 0],binary_step x.eq x.lo h,by simp [x.lo],x.dg.snoc (chunk_lt _ _ _),by omega⟩
theorem t_cut {α : Type} (r : List α) : List.take (((r.length : Int) - 1).toNat - Int.toNat 0) (List.drop (Int.toNat 0) r) = r.take (r.length - 1) := by
 show List.take _ r = _;congr 1;simp
theorem t_last (r : List Nat) : r.getD ((r.length : Int) - 1).toNat 0 = r.getD (r.length - 1) 0 := by congr 1;omega
theorem chunk_at {l : List Bool} {i k : Nat} (hk : k < 16) : chunk l i k = chunk l i (k + 1) * 2 + (if decide (i + k < l.length) && l.getD (i + k) false then 1 else 0) := by
 rw [chunk_step hk,Nat.mul_comm];by_cases h : i + k < l.length
 ·rw [dif_pos h,decide_eq_true h,Bool.true_and,List.getD_eq_getElem?_getD,List.getElem?_eq_getElem h];cases l[i + k] <;> rfl
 ·rw [dif_neg h,decide_eq_false h];rfl
def bitAt (l : List Bool) (i k : Nat) : Bool := decide (i + k < l.length) && l.getD (i + k) false
theorem chunk_one {l : List Bool} {i k : Nat} (hk : k < 16) (h : bitAt l i k = true) : chunk l i k = chunk l i (k + 1) * 2 + 1 := by rw [chunk_at hk];unfold bitAt at h;rw [h];rfl
theorem chunk_nil {l : List Bool} {i k : Nat} (hk : k < 16) (h : bitAt l i k = false) : chunk l i k = chunk l i (k + 1) * 2 := by rw [chunk_at hk];unfold bitAt at h;rw [h];rfl
structure Bj where
 k : Nat
 le : k ≤ 16
theorem bit_T {l : List Bool} {I k : Nat} (hk : 1 ≤ k) (h : (I : Int) + ((k : Int) - 1) < l.length ∧ l.getD ((I : Int) + ((k : Int) - 1)).toNat false = true) : bitAt l I (k - 1) = true := by
 unfold bitAt;rw [show ((I : Int) + ((k : Int) - 1)).toNat = I + (k - 1) by omega] at h;rw [h.2,decide_eq_true (by omega)];rfl
theorem bit_F {l : List Bool} {I k : Nat} (hk : 1 ≤ k) (h : (decide ((I : Int) + ((k : Int) - 1) < l.length) && l.getD ((I : Int) + ((k : Int) - 1)).toNat false) = false) : bitAt l I (k - 1) = false := by
 unfold bitAt;rw [show ((I : Int) + ((k : Int) - 1)).toNat = I + (k - 1) by omega] at h;rw [show decide (I + (k - 1) < l.length) = decide ((I : Int) + ((k : Int) - 1) < l.length) from decide_eq_decide.2 (by omega)];exact h
theorem Bn.all {l : List Bool} (x : Bn l) (h : l.length ≤ 16 * x.j) : V x.o = VB l := by rw [x.eq,List.take_of_length_le h]
structure Nb (n : Int) where
 m : Int
 o : List Bool
 eq : VB o + m.natAbs * 2 ^ o.length = n.natAbs
 lo : -9223372036854775808 ≤ m
 hi : m ≤ 9223372036854775807
 ln : o.length ≤ 64
theorem nb_bit (m : Int) : (!decide (Int.tmod m 2 = 0)) = (m.natAbs % 2 == 1) := by
 have : (Int.tmod m 2).natAbs = m.natAbs % 2 := by
  rw [Int.natAbs_tmod];rfl
 rw [Bool.eq_iff_iff,Bool.not_eq_true',decide_eq_false_iff_not,beq_iff_eq,← this];have h : (Int.tmod m 2).natAbs < 2 := by rw [this];omega
 omega
theorem nb_half (m : Int) : (Int.tdiv m 2).natAbs = m.natAbs / 2 := by rw [Int.natAbs_tdiv];rfl
def Nb.next {n : Int} (x : Nb n) (h : x.o.length ≤ 63) : Nb n := ⟨Int.tdiv x.m 2,x.o ++ [!decide (Int.tmod x.m 2 = 0)],by
 rw [nb_bit,nb_half,List.length_append,List.length_singleton];exact ones_step x.eq rfl,by have := nb_half x.m;have := x.lo;have := x.hi;omega,by have := nb_half x.m;have := x.lo;have := x.hi;omega,by simp;omega⟩
theorem Nb.len {n : Int} (x : Nb n) (h : ¬ x.m = 0) (h1 : -9223372036854775808 ≤ n) (h2 : n ≤ 9223372036854775807) : x.o.length ≤ 63 := by
 rcases Nat.lt_or_ge 63 x.o.length with h3 | h3
 ·have h4 : 2 ^ 64 ≤ 2 ^ x.o.length := Nat.pow_le_pow_right (by omega) h3;have h5 : 1 * 2 ^ x.o.length ≤ x.m.natAbs * 2 ^ x.o.length := Nat.mul_le_mul_right _ (by omega);have h6 := x.eq;omega
 ·exact h3
theorem Nb.fin {n : Int} (x : Nb n) (h : x.m = 0) : VB x.o = n.natAbs := by rw [← x.eq,h];simp
structure Lb (n : Nat) where
 j : Nat
 o : List Nat
 eq : VL o = V ((dig n).take (2 * j))
 lo : o.length = j
 lg : Lg o
 le : 2 * j < (dig n).length + 2
theorem dig_at (n i : Nat) : (dig n).getD i 0 < 65536 := by
 rcases Nat.lt_or_ge i (dig n).length with h | h
 ·rw [getD_lt h];exact (dig_Dg n).at h
 ·rw [getD_ge h];omega
def lbD (n j : Nat) : Nat := (dig n).getD (2 * j) 0 + (dig n).getD (2 * j + 1) 0 * 65536
theorem lb_T (n j : Nat) : IntKind.u32.wrap (IntKind.u32.wrap (((dig n).getD (2 * j) 0 : Nat) : Int) + IntKind.u32.wrap (IntKind.u32.wrap (((dig n).getD (2 * j + 1) 0 : Nat) : Int) * 65536)) = ((lbD n j : Nat) : Int) := by
 have h1 := dig_at n (2 * j);have h2 := dig_at n (2 * j + 1);unfold lbD;simp only [IntKind.wrap,IntKind.signed,IntKind.bits,Bool.false_and,Bool.false_eq_true,if_false];omega
theorem lb_F (n j : Nat) (h : (dig n).length ≤ 2 * j + 1) : IntKind.u32.wrap (((dig n).getD (2 * j) 0 : Nat) : Int) = ((lbD n j : Nat) : Int) := by
 have h1 := dig_at n (2 * j);unfold lbD;rw [getD_ge h];simp only [IntKind.wrap,IntKind.signed,IntKind.bits,Bool.false_and,Bool.false_eq_true,if_false];omega
def Lb.next {n : Nat} (x : Lb n) (h : 2 * x.j < (dig n).length) : Lb n := ⟨x.j + 1,x.o ++ [lbD n x.j],limbs_step x.eq x.lo,by simp [x.lo],x.lg.snoc (by have h1 := dig_at n (2 * x.j);have h2 := dig_at n (2 * x.j + 1);unfold lbD;omega),by omega⟩
theorem Lb.fin {n : Nat} (x : Lb n) (h : (dig n).length ≤ 2 * x.j) : x.o = lim n := limbs_end (by rw [x.lo];exact x.eq) (by rw [x.lo];exact h) (by rw [x.lo];exact x.le) x.lg
theorem trim_ok (l : List Nat) (hd : Dg l) (hl : l.length ≤ 1000000000) : Fn Tryz.prog 116 [.sl false 1 l nD 0] (natD (V l)) := by
 refine yK tabT Tryz.func116 rfl rfl rfl rfl rfl rfl ?_;intro w0 s0 mx;refine ev_R tabT [] 100 ?_;refine zB ?_;refine zL ?_;refine zX (ι := Trm l) [] [] 150 (fun x => [(0,.sl false 1 x.r nD 0)]) (fun _ => []) (fun x => x.r.length) ⟨l,hd,rfl,Nat.le_refl _⟩ ?_;refine ⟨⟨le_t,le_o,rfl,rfl⟩,fun x => ?_⟩;have hk := x.le;refine zB ?_;refine ev_R tabT [] 200 ?_;refine yF (fun c1 => ?_) (fun c1 => ?_)
 ·
  refine zK (zA (zL ?_));refine ev_Q tabT [] 300 ?_;refine zJ ?_;exact zP (x.next (by omega) (by have := c1.2;rw [t_last] at this;omega)) ⟨(by first | exact trivial | (repeat (first | exact trivial | exact Sub.refl _ | refine ⟨?_,?_⟩ | exact Sub.int (by first | rfl | omega | (push_cast;omega)) | exact Sub.nilSl | exact Sub.own rfl | exact Sub.slrSl rfl | exact Sub.ownSl (List.map_append).symm | exact Sub.ownSl rfl | exact Sub.of_eq (by show D.sl false 1 _ nD 0 = _;rw [t_cut];rfl)))),le_o,rfl,rfl⟩ (by show (x.r.take (x.r.length - 1)).length < x.r.length;rw [List.length_take];omega)
 ·
  refine yA (zU (zW (zS (zA ?_))));refine ev_R tabT [] 400 ?_;refine zO ?_;exact FinV.ret rfl (SubP.of_eq (by show _ = D.sl false 1 _ nD 0;rw [← x.fin fun h e => by rw [t_last,e,decide_eq_true (by omega)] at c1;cases c1]))
theorem Binary_ok (l : List Bool) (hl : l.length ≤ 100000000) : Fn Tryz.prog 93 [.sl false 1 l bD false] (natD (VB l)) := by
 refine yK tabT Tryz.func93 rfl rfl rfl rfl rfl rfl ?_;intro w0 s0 mx;refine ev_R tabT [] 100 ?_;refine ev_R tabT [] 200 ?_;refine yM 3 3 1 rfl ?_;refine zB ?_;refine ev_R tabT [] 300 ?_;refine zL ?_;refine zX (ι := Bn l) [0] [] 350 (fun x => [(4,.v (.int .i64 (16 * x.j : Nat))),(3,.own 200 1 (x.o.map nD))]) (fun x => [(200,.row 3 1 (x.o.map nD).length)]) (fun x => l.length + 16 - 16 * x.j) ⟨0,[],rfl,rfl,Dg.nil,by omega⟩ ?_;refine ⟨⟨le_t,le_o,rfl,rfl⟩,fun x => ?_⟩;have hk := x.le;have hk2 := x.lo;refine zB ?_;refine ev_R tabT [] 400 ?_;refine yF (fun c3 => ?_) (fun c3 => ?_)
 ·
  refine zK (zA ?_);refine zB ?_;refine zL ?_;refine ev_R tabT [] 600 ?_;refine zB ?_;refine ev_R tabT [] 700 ?_;refine zL ?_;refine zX (ι := Bj) [0,3,4] [200] 750 (fun y => [(6,.v (.int .i64 ((y.k : Int) - 1))),(5,.v (.int .i64 (chunk l (16 * x.j) y.k : Nat)))]) (fun _ => []) (fun y => y.k) ⟨16,Nat.le_refl _⟩ ?_;refine ⟨⟨(by first | exact trivial | (repeat (first | exact trivial | exact Sub.refl _ | refine ⟨?_,?_⟩ | exact Sub.int (by first | rfl | omega | (push_cast;omega)) | exact Sub.nilSl | exact Sub.own rfl | exact Sub.slrSl rfl | exact Sub.ownSl (List.map_append).symm | exact Sub.ownSl rfl | exact Sub.int (by rw [chunk_top];rfl)))),le_o,rfl,rfl⟩,fun y => ?_⟩;have hy := y.le;have hy2 := chunk_lt l (16 * x.j) y.k;refine zB ?_;refine ev_R tabT [] 800 ?_;refine yF (fun c7 => ?_) (fun c7 => ?_)
  ·
   refine zK (zA ?_);refine zB ?_;refine zL ?_;refine ev_R tabT [] 1000 ?_;refine ev_R tabT [] 1100 ?_;refine yF (fun c10 => ?_) (fun c10 => ?_)
   ·
    refine ev_Q tabT [] 1200 ?_;refine zJ (zA ?_);refine ev_Q tabT [] 1300 ?_;exact zP ⟨y.k - 1,by omega⟩ ⟨(by first | exact trivial | (repeat (first | exact trivial | exact Sub.refl _ | refine ⟨?_,?_⟩ | exact Sub.int (by first | rfl | omega | (push_cast;omega)) | exact Sub.nilSl | exact Sub.own rfl | exact Sub.slrSl rfl | exact Sub.ownSl (List.map_append).symm | exact Sub.ownSl rfl | exact Sub.int (by show (y.k : Int) - 1 - 1 = ((y.k - 1 : Nat) : Int) - 1;omega) | exact Sub.int (by show _ = ((chunk l (16 * x.j) (y.k - 1) : Nat) : Int);rw [chunk_one (k := y.k - 1) (by omega) (bit_T (by omega) c10),show y.k - 1 + 1 = y.k by omega];push_cast;rfl)))),le_o,rfl,rfl⟩ (by show y.k - 1 < y.k;omega)
   ·
    refine zK (zJ (zA ?_));refine ev_Q tabT [] 1200 ?_;exact zP ⟨y.k - 1,by omega⟩ ⟨(by first | exact trivial | (repeat (first | exact trivial | exact Sub.refl _ | refine ⟨?_,?_⟩ | exact Sub.int (by first | rfl | omega | (push_cast;omega)) | exact Sub.nilSl | exact Sub.own rfl | exact Sub.slrSl rfl | exact Sub.ownSl (List.map_append).symm | exact Sub.ownSl rfl | exact Sub.int (by show (y.k : Int) - 1 - 1 = ((y.k - 1 : Nat) : Int) - 1;omega) | exact Sub.int (by show _ = ((chunk l (16 * x.j) (y.k - 1) : Nat) : Int);rw [chunk_nil (k := y.k - 1) (by omega) (bit_F (by omega) c10),show y.k - 1 + 1 = y.k by omega];push_cast;rfl)))),le_o,rfl,rfl⟩ (by show y.k - 1 < y.k;omega)
  ·
   refine yA (zU (zW (zS (zA ?_))));refine ev_Q tabT [] 1300 ?_;refine zJ (zA ?_);refine ev_Q tabT [] 1400 ?_;obtain ⟨ky,hky⟩ := y;have hz : ky = 0 := by simp only at c7;omega
   subst hz;exact zP (x.next (by omega)) ⟨(by first | exact trivial | (repeat (first | exact trivial | exact Sub.refl _ | refine ⟨?_,?_⟩ | exact Sub.int (by first | rfl | omega | (push_cast;omega)) | exact Sub.nilSl | exact Sub.own rfl | exact Sub.slrSl rfl | exact Sub.ownSl (List.map_append).symm | exact Sub.ownSl rfl | exact Sub.int (by show ((16 * x.j : Nat) : Int) + 16 = ((16 * (x.j + 1) : Nat) : Int);omega) | exact Sub.own (by show _ = List.map nD (x.o ++ [_]);rw [List.map_append];rfl)))),(by repeat (first | exact trivial | exact SubO.same rfl | exact ⟨rfl,rfl,by show _ = (List.map nD (x.o ++ [_])).length;simp⟩ | refine ⟨?_,?_⟩)),rfl,rfl⟩ (by show l.length + 16 - 16 * (x.j + 1) < l.length + 16 - 16 * x.j;omega)
 ·
  refine yA (zU (zW (zS (zA ?_))));refine yJ [] [] 410 [(3,.sl false 1 x.o nD 0)] [] ?_;refine ⟨⟨⟨Sub.ownSl rfl,trivial⟩,le_o,rfl,rfl⟩,?_⟩;refine zB (zE tabT [] 1400 rfl ?_);refine zF ?_;refine zV _ (trim_ok _ x.dg (by rw [hk2];omega)) rfl ?_;refine zF ?_;refine zC (zA (zO ?_));exact FinV.ret rfl (SubP.of_eq (by rw [x.all (by omega)]))
theorem Number3_ok (n : Int) (h1 : -9223372036854775808 ≤ n) (h2 : n ≤ 9223372036854775807) : Fn Tryz.prog 65 [.v (.int .i64 n)] (.agg [.v (.bool (decide (n < 0))),natD n.natAbs]) := by
 refine yK tabT Tryz.func65 rfl rfl rfl rfl rfl rfl ?_;intro w0 s0 mx;refine ev_R tabT [] 100 ?_;refine ev_R tabT [] 200 ?_;refine yM 3 4 1 rfl ?_;refine ev_R tabT [] 300 ?_;refine zB ?_;refine zL ?_;refine zX (ι := Nb n) [2,4] [0] 350 (fun x => [(0,.v (.int .i64 x.m)),(3,.own 200 1 (x.o.map bD))]) (fun x => [(200,.row 4 1 (x.o.map bD).length)]) (fun x => x.m.natAbs) ⟨n,[],by simp [VB],h1,h2,by simp⟩ ?_;refine ⟨⟨le_t,le_o,rfl,rfl⟩,fun x => ?_⟩;have hk := x.lo;have hk2 := x.hi;refine zB ?_;refine ev_R tabT [] 400 ?_;refine yF (fun c3 => ?_) (fun c3 => ?_)
 ·
  refine zK (zA (zL ?_));refine zB (zE tabT [] 500 rfl ?_);repeat (first | refine zG ?_ | refine zH ?_ | refine zQ (by first | exact trivial | omega | exact ini (by omega) (by omega) | (intro hh;simp at hh;exact ini (by omega) (by omega)) | (intro hh;simp at hh ⊢;omega) | (simp at *;omega) | (simp_all;done) | (have h3 := x.len c3 h1 h2;simp only [List.length_map,List.length_cons,List.length_nil];omega)) ?_)
  refine zC (zA ?_);refine zE tabT [] 600 rfl ?_;repeat (first | refine zG ?_ | refine zH ?_ | refine zQ (by first | exact trivial | omega | exact ini (by omega) (by omega) | (intro hh;simp at hh;exact ini (by omega) (by omega)) | (intro hh;simp at hh ⊢;omega) | (simp at *;omega) | (simp_all;done) | (have h3 := nb_half x.m;exact ⟨by decide,ini (by omega) (by omega)⟩)) ?_)
  refine zC (zJ ?_);exact zP (x.next (x.len c3 h1 h2)) ⟨(by first | exact trivial | (repeat (first | exact trivial | exact Sub.refl _ | refine ⟨?_,?_⟩ | exact Sub.int (by first | rfl | omega | (push_cast;omega)) | exact Sub.nilSl | exact Sub.own rfl | exact Sub.slrSl rfl | exact Sub.ownSl (List.map_append).symm | exact Sub.ownSl rfl | exact Sub.own (by show _ = List.map bD (x.o ++ [_]);rw [List.map_append];rfl)))),(by repeat (first | exact trivial | exact SubO.same rfl | exact ⟨rfl,rfl,by show _ = (List.map bD (x.o ++ [_])).length;simp⟩ | refine ⟨?_,?_⟩)),rfl,rfl⟩ (by show (Int.tdiv x.m 2).natAbs < x.m.natAbs;have := nb_half x.m;omega)
 ·
  refine yA (zU (zW (zS (zA ?_))));refine yJ [2,4] [0] 410 [(3,.sl false 1 x.o bD false)] [] ?_;refine ⟨⟨⟨Sub.ownSl rfl,by repeat (first | exact trivial | exact Sub.refl _ | refine ⟨?_,?_⟩)⟩,le_o,rfl,rfl⟩,?_⟩;refine zB (zE tabT [] 700 rfl ?_);refine zF ?_;refine zV _ (Binary_ok _ (by have := x.ln;omega)) rfl ?_;refine zF ?_;refine zC (zA (zO ?_));exact FinV.ret rfl (SubP.agg ⟨SubP.refl _,SubP.of_eq (by rw [x.fin (by omega)]),trivial⟩)
theorem Limbs3_ok (n : Nat) (hl : (dig n).length ≤ 100000000) : Fn Tryz.prog 92 [natD n] (.sl false 1 (lim n) uD 0) := by
 refine yK tabT Tryz.func92 rfl rfl rfl rfl rfl rfl ?_;intro w0 s0 mx;refine ev_R tabT [] 100 ?_;refine ev_R tabT [] 200 ?_;refine yM 3 83 1 rfl ?_;refine zB ?_;refine ev_R tabT [] 300 ?_;refine zL ?_;refine zX (ι := Lb n) [0] [] 350 (fun x => [(4,.v (.int .i64 (2 * x.j : Nat))),(3,.own 200 1 (x.o.map uD))]) (fun x => [(200,.row 83 1 (x.o.map uD).length)]) (fun x => (dig n).length + 2 - 2 * x.j) ⟨0,[],by simp [VL,V],rfl,Lg.nil,by omega⟩ ?_;refine ⟨⟨le_t,le_o,rfl,rfl⟩,fun x => ?_⟩;have hk := x.le;have hk2 := x.lo;refine zB ?_;refine ev_R tabT [] 400 ?_;refine yF (fun c3 => ?_) (fun c3 => ?_)
 ·
  refine zK (zA ?_);refine zB ?_;refine zL ?_;refine ev_R tabT [] 600 ?_;refine zB ?_;refine ev_R tabT [] 700 ?_;refine yF (fun c6 => ?_) (fun c6 => ?_)
  ·
   refine ev_Q tabT [] 800 ?_;refine zA ?_;refine ev_Q tabT [] 900 ?_;refine zJ (zA ?_);refine ev_Q tabT [] 1000 ?_;exact zP (x.next (by omega)) ⟨(by first | exact trivial | (repeat (first | exact trivial | exact Sub.refl _ | refine ⟨?_,?_⟩ | exact Sub.int (by first | rfl | omega | (push_cast;omega)) | exact Sub.nilSl | exact Sub.own rfl | exact Sub.slrSl rfl | exact Sub.ownSl (List.map_append).symm | exact Sub.ownSl rfl | exact Sub.int (by show ((2 * x.j : Nat) : Int) + 2 = ((2 * (x.j + 1) : Nat) : Int);omega) | exact Sub.own (by show _ = List.map uD (x.o ++ [_]);rw [List.map_append];show _ = List.map uD x.o ++ [[D.v (Value.int .u32 ((lbD n x.j : Nat) : Int))]];rw [← lb_T n x.j];rfl)))),(by repeat (first | exact trivial | exact SubO.same rfl | exact ⟨rfl,rfl,by show _ = (List.map uD (x.o ++ [_])).length;simp⟩ | refine ⟨?_,?_⟩)),rfl,rfl⟩ (by show (dig n).length + 2 - 2 * (x.j + 1) < (dig n).length + 2 - 2 * x.j;omega)
  ·
   refine zK (zA ?_);refine ev_Q tabT [] 900 ?_;refine zJ (zA ?_);refine ev_Q tabT [] 1000 ?_;exact zP (x.next (by omega)) ⟨(by first | exact trivial | (repeat (first | exact trivial | exact Sub.refl _ | refine ⟨?_,?_⟩ | exact Sub.int (by first | rfl | omega | (push_cast;omega)) | exact Sub.nilSl | exact Sub.own rfl | exact Sub.slrSl rfl | exact Sub.ownSl (List.map_append).symm | exact Sub.ownSl rfl | exact Sub.int (by show ((2 * x.j : Nat) : Int) + 2 = ((2 * (x.j + 1) : Nat) : Int);omega) | exact Sub.own (by show _ = List.map uD (x.o ++ [_]);rw [List.map_append];show _ = List.map uD x.o ++ [[D.v (Value.int .u32 ((lbD n x.j : Nat) : Int))]];rw [← lb_F n x.j (by omega)];rfl)))),(by repeat (first | exact trivial | exact SubO.same rfl | exact ⟨rfl,rfl,by show _ = (List.map uD (x.o ++ [_])).length;simp⟩ | refine ⟨?_,?_⟩)),rfl,rfl⟩ (by show (dig n).length + 2 - 2 * (x.j + 1) < (dig n).length + 2 - 2 * x.j;omega)
 ·
  refine yA (zU (zW (zS (zA ?_))));refine ev_R tabT [] 1000 ?_;refine zO ?_;exact FinV.ret rfl (SubP.ownSl (by rw [x.fin (by omega)]))
theorem whole_neg (z : Int) : (decide (z < 0) && decide ((0 : Int) < ((dig z.natAbs).length : Nat))) = decide (z < 0) := by
 by_cases h : z < 0
 ·rw [decide_eq_true h,Bool.true_and];refine decide_eq_true ?_;have h2 : dig z.natAbs ≠ [] := fun e => by rw [dig_eq_nil] at e;omega
  have := List.length_pos_iff.2 h2;omega
 ·rw [decide_eq_false h];rfl
theorem Whole7_ok (z : Int) (hl : (dig z.natAbs).length ≤ 100000000) : Fn Tryz.prog 64 [.agg [.v (.bool (decide (z < 0))),natD z.natAbs]] (.agg (vlD (nuV z))) := by
 refine yK tabT Tryz.func64 rfl rfl rfl rfl rfl rfl ?_;intro w0 s0 mx;refine ev_R tabT [] 100 ?_;refine zB (zZ tabT [] [[],[0],[0,1],[0,1,2],[0,1,2,3],[0,1,2,3,4],[0,1,2,3,4,5],[0,1,2,3,4,5,6],[],[8],[0,1,2,8,9],[0,1,2,3,4,5,6,7,8,9,10],[0,1,2,3,4,5,6,7,8,9,10,11],[0,1,2,3,4,5,6,7,8,9,10,11,12]] 200 mixT (by kernel_rfl) rfl ?_);refine zF ?_;refine zV _ (Limbs3_ok _ (by first | assumption | omega | (simp_all;done))) rfl ?_;refine zF ?_;refine zC (zA (zO ?_));exact FinV.ret rfl (SubP.agg ⟨SubP.refl _,SubP.of_eq (by rw [whole_neg];rfl),SubP.refl _,SubP.refl _,SubP.nilSl rfl,SubP.refl _,SubP.refl _,trivial⟩)
theorem dig_small {n : Int} (h1 : -9223372036854775808 ≤ n) (h2 : n ≤ 9223372036854775807) : (dig n.natAbs).length ≤ 100000000 := Nat.le_trans (dig_length_le (k := 4) (by omega)) (by omega)
theorem N_ok (n : Int) (h1 : -9223372036854775808 ≤ n) (h2 : n ≤ 9223372036854775807) : Fn Tryz.prog 36 [.v (.int .i64 n)] (.agg (vlD (nuV n))) := by
 refine yK tabT Tryz.func36 rfl rfl rfl rfl rfl rfl ?_;intro w0 s0 mx;refine ev_R tabT [] 100 ?_;refine zB (zE tabT [] 200 rfl ?_);refine zF ?_;refine zV _ (Number3_ok n h1 h2) rfl ?_;refine zF ?_;refine zV _ (Whole7_ok n (dig_small h1 h2)) rfl ?_;refine zF ?_;refine zC (zA (zO ?_));exact FinV.ret rfl (SubP.refl _)
variable {md me : Bool}
theorem td_n {e : Int} {s : Nat} (h : e = (s : Int)) : Int.tdiv e 65536 = ((s / 65536 : Nat) : Int) := by rw [h,Int.tdiv_eq_ediv_of_nonneg (by omega)];rfl
theorem tm_n {e : Int} {s : Nat} (h : e = (s : Int)) : Int.tmod e 65536 = ((s % 65536 : Nat) : Int) := by rw [h,Int.tmod_eq_emod_of_nonneg (by omega)];rfl
theorem nD_snoc2 {l : List Nat} {y z : Nat} {e f : Int} (h : e = (y : Int)) (h2 : f = (z : Int)) : l.map nD ++ [[.v (.int .i64 e)],[.v (.int .i64 f)]] = (l ++ [y,z]).map nD := by rw [List.map_append,h,h2];rfl
theorem of_lo {d : Nat} (h : d < 4294967296) : IntKind.i64.wrap (Int.tmod (d : Int) 65536) = ((d % 65536 : Nat) : Int) := by
 rw [tm_n rfl,InI.wrap ⟨by omega,by omega⟩]
theorem of_hi {d : Nat} (h : d < 4294967296) : IntKind.i64.wrap (IntKind.u32.wrap (Int.tdiv (d : Int) 65536)) = ((d / 65536 : Nat) : Int) := by
 rw [td_n rfl,show IntKind.u32.wrap ((d / 65536 : Nat) : Int) = ((d / 65536 : Nat) : Int) by
  simp only [IntKind.wrap,IntKind.signed,IntKind.bits,Bool.false_and,Bool.false_eq_true,if_false];omega,InI.wrap ⟨by omega,by omega⟩]
structure Of3 (l : List Nat) where
 k : Nat
 o : List Nat
 eq : V o = VL (l.take k)
 lo : o.length = 2 * k
 dg : Dg o
 le : k ≤ l.length
def Of3.next {l : List Nat} (x : Of3 l) (hl : Lg l) (h : x.k < l.length) : Of3 l := ⟨x.k + 1,x.o ++ [l.getD x.k 0 % 65536,l.getD x.k 0 / 65536],by rw [L_getD_lt h];exact of_step x.eq x.lo h,by simp [x.lo];omega,by rw [L_getD_lt h];exact of_Dg x.dg (hl.at h),h⟩
structure Sm3 (n : Nat) where
 m : Nat
 o : List Nat
 eq : o ++ dig m = dig n
 le : m ≤ n
def Sm3.next {n : Nat} (x : Sm3 n) (h : x.m ≠ 0) : Sm3 n := ⟨x.m / 65536,x.o ++ [x.m % 65536],by rw [← x.eq,dig_pos h,List.append_assoc];rfl,by have := x.le;omega⟩
theorem Sm3.len {n : Nat} (x : Sm3 n) (h : n < 18446744073709551616) : x.o.length ≤ 4 := by
 have h1 : (dig n).length ≤ 4 := dig_length_le (k := 4) (by omega);rw [← x.eq,List.length_append] at h1;omega
structure Cp3 (a b : Nat) where
 k : Nat
 le : k ≤ (dig a).length
 eq : (dig a).drop k = (dig b).drop k
def Cp3.next {a b : Nat} (x : Cp3 a b) (hl : (dig a).length = (dig b).length) (h : 0 < x.k) (he : (dig a).getD (x.k - 1) 0 = (dig b).getD (x.k - 1) 0) : Cp3 a b := ⟨x.k - 1,by have := x.le;omega,by
 have h1 := x.le;rw [getD_lt (by omega),getD_lt (by omega)] at he;rw [List.drop_eq_getElem_cons (by omega),List.drop_eq_getElem_cons (l := dig b) (by omega),he,show x.k - 1 + 1 = x.k by omega,x.eq]⟩
structure Pl3 (a b : Nat) where
 k : Nat
 c : Nat
 o : List Nat
 eq : V o + c * 65536 ^ k = V ((dig a).take k) + V ((dig b).take k)
 lo : o.length = k
 dg : Dg o
 hc : c ≤ 1
 le : k ≤ (dig a).length + (dig b).length + 1
def Pl3.s {a b : Nat} (x : Pl3 a b) : Nat := x.c + (dig a).getD x.k 0 + (dig b).getD x.k 0
def Pl3.next {a b : Nat} (x : Pl3 a b) (h : x.k < (dig a).length ∨ x.k < (dig b).length ∨ 0 < x.c) : Pl3 a b := ⟨x.k + 1,x.s / 65536,x.o ++ [x.s % 65536],plus_step x.eq x.lo rfl,by simp [x.lo],x.dg.snoc (Nat.mod_lt _ (by decide)),by
 have h1 := dig_at a x.k;have h2 := dig_at b x.k;have h3 := x.hc;unfold Pl3.s;omega,by
 rcases h with h | h | h
 ·omega
 ·omega
 ·have := plus_in (dig_Dg a) (dig_Dg b) x.eq h;omega⟩
theorem Pl3.fin {a b : Nat} (x : Pl3 a b) (h1 : (dig a).length ≤ x.k) (h2 : (dig b).length ≤ x.k) (h3 : x.c = 0) : V x.o = a + b := by
 have := plus_done (by rw [← h3];exact x.eq) h1 h2
 rwa [V_dig,V_dig] at this
structure Mi3 (a b : Nat) where
 k : Nat
 c : Nat
 o : List Nat
 eq : V o + V ((dig b).take k) = V ((dig a).take k) + c * 65536 ^ k
 lo : o.length = k
 dg : Dg o
 hc : c ≤ 1
 le : k ≤ (dig a).length
def Mi3.next {a b : Nat} (x : Mi3 a b) (h : x.k < (dig a).length) (y d : Nat) (hy : y + (dig b).getD x.k 0 + x.c = (dig a).getD x.k 0 + 65536 * d) (h2 : y < 65536) (h3 : d ≤ 1) : Mi3 a b := ⟨x.k + 1,d,x.o ++ [y],minus_step x.eq x.lo h (by rw [← getD_lt h];exact hy),by simp [x.lo],x.dg.snoc h2,h3,h⟩
theorem Mi3.fin {a b : Nat} (x : Mi3 a b) (h : (dig a).length ≤ x.k) (hle : b ≤ a) : V x.o = a - b := by
 have hk := x.le;have e : x.k = (dig a).length := by omega
 have h1 := x.eq;rw [e] at h1;have := minus_done x.dg (by rw [x.lo,e]) h1 (by rw [V_dig,V_dig];exact hle) (dig_len_mono hle)
 rwa [V_dig,V_dig] at this
theorem Of3_ok (l : List Nat) (hg : Lg l) (hl : l.length ≤ 100000000) : Fn Tryz.prog 112 [usD l] (natD (VL l)) := by
 refine yK tabT Tryz.func112 rfl rfl rfl rfl rfl rfl ?_;intro w0 s0 mx;refine ev_R tabT [] 100 ?_;refine ev_R tabT [] 200 ?_;refine yM 3 3 1 rfl ?_;refine zB ?_;refine ev_R tabT [] 300 ?_;refine zL ?_;refine zX (ι := Of3 l) [0] [] 350 (fun x => [(4,.v (.int .i64 (x.k : Nat))),(3,.own 200 1 (x.o.map nD))]) (fun x => [(200,.row 3 1 (x.o.map nD).length)]) (fun x => l.length - x.k) ⟨0,[],by simp [VL,V],rfl,Dg.nil,Nat.zero_le _⟩ ?_;refine ⟨⟨le_t,le_o,rfl,rfl⟩,fun x => ?_⟩;have hk := x.le;have hk2 := x.lo;refine zB ?_;refine ev_R tabT [] 400 ?_;refine yF (fun c3 => ?_) (fun c3 => ?_)
 ·
  refine zK (zA ?_);refine zB ?_;refine zL ?_;refine zZ tabT [] [[],[],[],[1,2],[1,2,3],[1,2,3,4],[1,2,3,4,5],[],[],[7,8],[7,8,9],[7,8,9,10],[7,8,9,10,11],[1,2,3,4,5,6,7,8,9,10,11,12],[0,1,2,3,4,5,6,7,8,9,10,11,12,13],[0,1,2,3,4,5,6,7,8,9,10,11,12,13,14]] 600 mixT (by kernel_rfl) rfl ?_;refine zF ?_;refine zC (zJ (zA ?_));refine ev_Q tabT [] 700 ?_;have hx := L_getD_lt c3;have hx2 := hg.at c3;exact zP (x.next hg c3) ⟨(by first | exact trivial | (repeat (first | exact trivial | exact Sub.refl _ | refine ⟨?_,?_⟩ | exact Sub.int (by first | rfl | omega | (push_cast;omega)) | exact Sub.nilSl | exact Sub.own rfl | exact Sub.slrSl rfl | exact Sub.ownSl (List.map_append).symm | exact Sub.ownSl rfl | exact Sub.int (by show (x.k : Int) + 1 = ((x.k + 1 : Nat) : Int);omega) | exact Sub.own (nD_snoc2 (of_lo (by rw [Int.toNat_natCast,hx];exact hx2)) (of_hi (by rw [Int.toNat_natCast,hx];exact hx2)))))),(by repeat (first | exact trivial | exact SubO.same rfl | exact ⟨rfl,rfl,by show _ = (List.map nD (x.o ++ _)).length;simp⟩ | refine ⟨?_,?_⟩)),rfl,rfl⟩ (by show l.length - (x.k + 1) < l.length - x.k;omega)
 ·
  refine yA (zU (zW (zS (zA ?_))));refine yJ [] [] 410 [(3,.sl false 1 x.o nD 0)] [] ?_;refine ⟨⟨⟨Sub.ownSl rfl,trivial⟩,le_o,rfl,rfl⟩,?_⟩;refine zB (zE tabT [] 700 rfl ?_);refine zF ?_;refine zV _ (trim_ok _ x.dg (by rw [hk2];omega)) rfl ?_;refine zF ?_;refine zC (zA (zO ?_));exact FinV.ret rfl (SubP.of_eq (by rw [x.eq,List.take_of_length_le (by omega)]))
theorem lg_at {l : List Nat} (h : Lg l) (i : Nat) : l.getD i 0 < 4294967296 := by
 rcases Nat.lt_or_ge i l.length with h1 | h1
 ·rw [L_getD_lt h1];exact h.at h1
 ·rw [List.getD_eq_getElem?_getD,List.getElem?_eq_none h1];show 0 < _;omega
structure Tw (x : List Nat) where
 k : Nat
 c : Nat
 o : List Nat
 eq : VL o + c * 4294967296 ^ k + VL (x.take k) = 4294967296 ^ k
 lo : o.length = k
 lg : Lg o
 hc : c ≤ 1
 le : k ≤ x.length
theorem tw_step {x o : List Nat} {k c s : Nat} (hx : Lg x) (h : VL o + c * 4294967296 ^ k + VL (x.take k) = 4294967296 ^ k) (ho : o.length = k) (hk : k < x.length) (hs : s = c + (4294967295 - x.getD k 0)) :
  VL (o ++ [s % 4294967296]) + s / 4294967296 * 4294967296 ^ (k + 1) + VL (x.take (k + 1)) = 4294967296 ^ (k + 1) := by
 rw [L_snoc,ho,L_take_succ hk,Nat.pow_succ];have hb := hx.at hk;rw [L_getD_lt hk] at hs;generalize 4294967296 ^ k = B at *;have e : s = 4294967296 * (s / 4294967296) + s % 4294967296 := (Nat.div_add_mod s 4294967296).symm;have e2 : B * s = B * (4294967296 * (s / 4294967296)) + B * (s % 4294967296) := by rw [← Nat.mul_add,← e]
 have e3 : B * s + B * x[k] = B * c + B * 4294967295 := by rw [← Nat.mul_add,← Nat.mul_add];congr 1;omega
 have e4 : s / 4294967296 * (B * 4294967296) = B * (4294967296 * (s / 4294967296)) := by rw [Nat.mul_comm,Nat.mul_assoc]
 have e5 : c * B = B * c := Nat.mul_comm _ _;omega
def Tw.s {x : List Nat} (t : Tw x) : Nat := t.c + (4294967295 - x.getD t.k 0)
def Tw.next {x : List Nat} (t : Tw x) (hx : Lg x) (h : t.k < x.length) : Tw x := ⟨t.k + 1,t.s / 4294967296,t.o ++ [t.s % 4294967296],tw_step hx t.eq t.lo h rfl,by simp [t.lo],t.lg.snoc (Nat.mod_lt _ (by decide)),by
 have h1 := lg_at hx t.k;have h2 := t.hc;unfold Tw.s;omega,h⟩
def Tw.start (x : List Nat) : Tw x := ⟨0,1,[],by simp [VL],rfl,Lg.nil,Nat.le_refl _,Nat.zero_le _⟩
theorem Tw.fin {x : List Nat} (t : Tw x) (h : x.length ≤ t.k) (hz : 0 < VL x) : VL t.o = 4294967296 ^ x.length - VL x ∧ t.o.length = x.length := by
 have hk := t.le;have e : t.k = x.length := by omega
 have h1 := t.eq;rw [e,List.take_of_length_le (Nat.le_refl _)] at h1;refine ⟨?_,by rw [t.lo,e]⟩;have h2 := t.hc;rcases Nat.lt_or_ge 0 t.c with h3 | h3
 ·have : t.c = 1 := by omega
  rw [this] at h1;omega
 ·have : t.c = 0 := by omega
  rw [this] at h1;omega
structure Nt (x : List Nat) where
 k : Nat
 o : List Nat
 eq : o = (x.take k).map fun d => 4294967295 - d
 le : k ≤ x.length
def Nt.next {x : List Nat} (t : Nt x) (h : t.k < x.length) : Nt x := ⟨t.k + 1,t.o ++ [4294967295 - x.getD t.k 0],by rw [t.eq,L_getD_lt h,List.take_add_one,List.getElem?_eq_getElem h,List.map_append];rfl,h⟩
theorem Nt.lo {x : List Nat} (t : Nt x) : t.o.length = t.k := by rw [t.eq,List.length_map,List.length_take,Nat.min_eq_left t.le]
theorem top_V {l : List Nat} {n : Nat} (hl : l.length = n + 1) : VL l = VL (l.take n) + 4294967296 ^ n * l.getD n 0 := by
 rw [L_getD_lt (by omega),← L_take_succ (by omega),List.take_of_length_le (by omega)]
structure TrmL (l : List Nat) where
 r : List Nat
 lg : Lg r
 eq : VL r = VL l
 le : r.length ≤ l.length
theorem last_takeL {r : List Nat} (h : 0 < r.length) (h0 : r.getD (r.length - 1) 0 = 0) : VL (r.take (r.length - 1)) = VL r := by
 have h1 := top_V (l := r) (n := r.length - 1) (by omega);rw [h0] at h1;omega
def TrmL.next {l : List Nat} (x : TrmL l) (h : 0 < x.r.length) (h0 : x.r.getD (x.r.length - 1) 0 = 0) : TrmL l := ⟨x.r.take (x.r.length - 1),x.lg.take _,by rw [last_takeL h h0,x.eq],by have := x.le;simp;omega⟩
theorem TrmL.fin {l : List Nat} (x : TrmL l) (h : 0 < x.r.length → x.r.getD (x.r.length - 1) 0 ≠ 0) : x.r = lim (VL l) := by
 rw [← x.eq];refine (lim_V x.lg fun hne => ?_).symm;have hp : 0 < x.r.length := List.length_pos_iff.2 hne;rw [List.getLast_eq_getElem,← L_getD_lt (by omega)];exact h hp


section
variable {P : Program} {b : Ba}
def exJ {ι : Type} (I : ι → DS) (K : Exit → DS → Prop) (ex : Exit) (S : DS) : Prop := match ex with
 | .normal => ∃ i,LeD S (I i)
 | e => K e S
theorem exJ_normal {ι : Type} {I : ι → DS} {K : Exit → DS → Prop} {S : DS} (i : ι) (h : LeD S (I i)) : exJ I K .normal S := ⟨i,h⟩
theorem ev_joinK {ι : Type} (ks os : List Nat) (N : Nat) (chg : ι → List (Nat × D)) (ochg : ι → List (Nat × DOwn)) {x y : Code} {tm : List (Nat × D)} {ow : List (Nat × DOwn)} {nx : Nat} {K : Exit → DS → Prop}
  (h : keepK ks tm fun base => keepO os ow fun ob => Ev P b x ⟨tm,ow,nx⟩ (exJ (fun i => ⟨chg i ++ base,ochg i ++ ob,N⟩) K) ∧ ∀ i,Ev P b y ⟨chg i ++ base,ochg i ++ ob,N⟩ K) : Ev P b (.seq x y) ⟨tm,ow,nx⟩ K := by
 obtain ⟨base,h1⟩ := keepK_get h;obtain ⟨ob,h2,h3⟩ := keepO_get h1;refine zB ?_;intro w s g a Q hr hK;refine h2 w s g a Q hr fun ex w' s' g' a' S' h4 h5 => hK ex w' s' g' a' S' h4 ?_
 cases ex with
 | normal =>
  obtain ⟨i,hi⟩ := h5;exact ev_le _ hi (h3 i)
 | _ => exact h5
end
def thwD (k : Nat) : D → D
 | .own k' sz rows => match Nat.beq k' k with
  | true => match rows with
   | [] => .mo k' 0
   | r :: l => .own k' sz (r :: l)
  | false => .own k' sz rows
 | d => d
def thwL (k : Nat) : List D → List D
 | [] => []
 | d :: l => thwD k d :: thwL k l
def thwT (k : Nat) : List (Nat × D) → List (Nat × D)
 | [] => []
 | (t,d) :: l => (t,thwD k d) :: thwT k l
def thwO (k : Nat) (e : TypeId) (sz : Nat) : List (Nat × DOwn) → List (Nat × DOwn)
 | [] => []
 | (j,c) :: l => (match Nat.beq j k with
  | true => (j,.mrow e sz (.lst []))
  | false => match c with
   | .box t cs => (j,.box t (thwL k cs))
   | c => (j,c)) :: thwO k e sz l
theorem thwT_fnd {k : Nat} : ∀ {l : List (Nat × D)} {t : Nat},fnd1 t (thwT k l) = (fnd1 t l).map (thwD k)
 | [],_ => rfl
 | (u,d) :: l,t => by
  show fnd1 t ((u,thwD k d) :: thwT k l) = _;rw [yI,yI];by_cases h : u = t
  ·simp [h]
  ·rw [if_neg h,if_neg h];exact thwT_fnd
theorem thwD_ok {w : World} {s : Sb} {g : Gh} {k : Nat} (hmo : ∀ v,g.gn k 0 = some v → (TV.mo k 0).P w s g v) {d : D} {v : Value} (hv : d.tv.P w s g v) : (thwD k d).tv.P w s g v := by
 cases d with
 | own k' sz rows =>
  show (match Nat.beq k' k with | true => (match rows with | [] => D.mo k' 0 | r :: l => D.own k' sz (r :: l)) | false => D.own k' sz rows).tv.P w s g v
  cases hb : Nat.beq k' k with
  | false => exact hv
  | true =>
   have e := Nat.eq_of_beq_eq_true hb;subst e
   cases rows with
   | nil =>
    rw [D.tv,TV.P] at hv;show (D.mo k' 0).tv.P w s g v;rw [D.tv];exact hmo v hv.2
   | cons r l => exact hv
 | _ => exact hv
theorem thwL_ok {w : World} {s : Sb} {g : Gh} {k : Nat} (hmo : ∀ v,g.gn k 0 = some v → (TV.mo k 0).P w s g v) : ∀ {l : List D} {vs : List Value},AllT w s g (D.tvl l) vs → AllT w s g (D.tvl (thwL k l)) vs
 | [],vs,hv => by cases vs with | nil => rw [thwL,D.tvl];trivial | cons _ _ => exact hv.elim
 | d :: l,[],hv => by rw [D.tvl] at hv;exact hv.elim
 | d :: l,v :: vs,hv => by
  rw [D.tvl] at hv;rw [thwL,D.tvl];exact ⟨thwD_ok hmo hv.1,thwL_ok hmo hv.2⟩
theorem thwL_one {k : Nat} : ∀ {l : List D},(∀ d ∈ D.tvl l,d.one = true) → ∀ d ∈ D.tvl (thwL k l),d.one = true
 | [],_,d,hd => by rw [thwL,D.tvl] at hd;cases hd
 | x :: l,h,d,hd => by
  rw [thwL,D.tvl] at hd;rw [D.tvl] at h;rcases List.mem_cons.1 hd with rfl | hd
  ·have h1 := h x.tv (by simp)
   cases x with
   | own k' sz rows =>
    show (match Nat.beq k' k with | true => (match rows with | [] => D.mo k' 0 | r :: l => D.own k' sz (r :: l)) | false => D.own k' sz rows).tv.one = true
    cases Nat.beq k' k with
    | false => rfl
    | true => cases rows <;> rfl
   | _ => exact h1
  ·exact thwL_one (fun y hy => h y (by simp [hy])) d hd
theorem thwO_fnd {k : Nat} {e : TypeId} {sz : Nat} : ∀ {l : List (Nat × DOwn)} {j : Nat} {c : DOwn},fnd1 j (thwO k e sz l) = some c → ∃ c0,fnd1 j l = some c0 ∧ ((j = k ∧ c = .mrow e sz (.lst [])) ∨ (j ≠ k ∧ ((∃ t cs,c0 = .box t cs ∧ c = .box t (thwL k cs)) ∨ (c = c0 ∧ ∀ t cs,c0 ≠ .box t cs))))
 | [],_,_,h => by cases h
 | (i,c0) :: l,j,c,h => by
  unfold thwO at h;have step : ∀ x : DOwn,fnd1 j ((i,x) :: thwO k e sz l) = some c → (i = j ∧ x = c) ∨ (i ≠ j ∧ fnd1 j (thwO k e sz l) = some c) := fun x hx => by
   rw [yI] at hx;by_cases hi : i = j
   ·rw [if_pos hi] at hx;exact .inl ⟨hi,Option.some.inj hx⟩
   ·rw [if_neg hi] at hx;exact .inr ⟨hi,hx⟩
  have rest : i ≠ j → fnd1 j (thwO k e sz l) = some c → ∃ c0',fnd1 j ((i,c0) :: l) = some c0' ∧ ((j = k ∧ c = .mrow e sz (.lst [])) ∨ (j ≠ k ∧ ((∃ t cs,c0' = .box t cs ∧ c = .box t (thwL k cs)) ∨ (c = c0' ∧ ∀ t cs,c0' ≠ .box t cs)))) := fun hi hx => by
   obtain ⟨c1,h1,h2⟩ := thwO_fnd hx;exact ⟨c1,by rw [yI,if_neg hi];exact h1,h2⟩
  cases hb : Nat.beq i k with
  | true =>
   rw [hb] at h;have hik := Nat.eq_of_beq_eq_true hb;rcases step _ h with ⟨rfl,rfl⟩ | ⟨hi,hx⟩
   ·exact ⟨c0,by rw [yI];simp,.inl ⟨hik,rfl⟩⟩
   ·exact rest hi hx
  | false =>
   rw [hb] at h;have hik : i ≠ k := by rintro rfl;rw [Nat.beq_refl] at hb;cases hb
   cases c0 with
   | box t cs =>
    rcases step _ h with ⟨rfl,rfl⟩ | ⟨hi,hx⟩
    ·exact ⟨_,by rw [yI];simp,.inr ⟨hik,.inl ⟨t,cs,rfl,rfl⟩⟩⟩
    ·exact rest hi hx
   | _ =>
    rcases step _ h with ⟨rfl,rfl⟩ | ⟨hi,hx⟩
    ·exact ⟨_,by rw [yI];simp,.inr ⟨hik,.inr ⟨rfl,fun _ _ h => by cases h⟩⟩⟩
    ·exact rest hi hx
section
variable {P : Program} {b : Ba}
theorem ev_thaw (k : Nat) {e : TypeId} {sz : Nat} {c : Code} {tm : List (Nat × D)} {ow : List (Nat × DOwn)} {nx : Nat} {K : Exit → DS → Prop} (hk : fnd1 k ow = some (.row e sz 0))
  (h : Ev P b c ⟨thwT k tm,thwO k e sz ow,nx⟩ K) : Ev P b c ⟨tm,ow,nx⟩ K := by
 intro w s g a Q hr hK;have hk0 : fnd k (ows ow) = some (.row e sz 0) := by rw [yT,hk];rfl
 obtain ⟨hok,hblk⟩ := hr.ow k _ hk0;obtain ⟨hmr,hmo⟩ := hok.thaw;have howf : ∀ {j : Nat} {c : Own},fnd j (ows (thwO k e sz ow)) = some c → ∃ c0,fnd j (ows ow) = some c0 ∧ Ok1 w s g j c ∧ blk g j c = blk g j c0 := fun {j c} hj => by
  rw [yT] at hj
  cases hq : fnd1 j (thwO k e sz ow) with
  | none => rw [hq] at hj;cases hj
  | some d =>
   rw [hq] at hj
   cases hj;obtain ⟨c0,h1,h2⟩ := thwO_fnd hq;have h1' : fnd j (ows ow) = some c0.o := by rw [yT,h1];rfl
   refine ⟨c0.o,h1',?_⟩;rcases h2 with ⟨rfl,rfl⟩ | ⟨hne,⟨t,cs,rfl,rfl⟩ | ⟨rfl,_⟩⟩
   ·rw [hk] at h1
    cases h1;exact ⟨hmr,rfl⟩
   ·obtain ⟨N,vs,g1,g2,g3,g4,g5⟩ := (hr.ow j _ h1').1;exact ⟨⟨N,vs,g1,g2,thwL_ok hmo g3,thwL_one g4,g5⟩,rfl⟩
   ·exact ⟨(hr.ow j _ h1').1,rfl⟩
 refine h w s g a Q ⟨hr.kp,hr.lt,hr.sz,fun t d hd => ?_,fun j c hj => ?_,fun j j' c c' N h1 h2 hne hb => ?_,hr.fr,hr.df,hr.gb⟩ hK
 ·have hd' : fnd t (tvs (thwT k tm)) = some d := hd;rw [yQ,thwT_fnd] at hd'
  cases hq : fnd1 t tm with
  | none => rw [hq] at hd';cases hd'
  | some x =>
   rw [hq] at hd'
   cases hd';obtain ⟨v,h1,h2⟩ := hr.tm t x.tv (by show fnd t (tvs tm) = _;rw [yQ,hq];rfl);exact ⟨v,h1,thwD_ok hmo h2⟩
 ·obtain ⟨c0,h1,h2,h3⟩ := howf hj;exact ⟨h2,fun N hb => (hr.ow j c0 h1).2 N (by rw [← h3];exact hb)⟩
 ·obtain ⟨c0,e1,_,e3⟩ := howf h1;obtain ⟨d0,f1,_,f3⟩ := howf h2;rw [f3];exact hr.sep j j' c0 d0 N e1 f1 hne (by rw [← e3];exact hb)
end
theorem Sub.mo {k n m : Nat} (h : n = m) : Sub (.mo k n) (.mo k m) := by subst h;exact Sub.refl _
theorem Sub.mw {k q i sz n q' i' n' : Nat} (h1 : q = q') (h2 : i = i') (h3 : n = n') : Sub (.mw k q i sz n) (.mw k q' i' sz n') := by subst h1;subst h2;subst h3;exact Sub.refl _
theorem SubO.mr {ty : TypeId} {sz : Nat} {m m' : MR} (h : m.rows = m'.rows) : SubO (.mrow ty sz m) (.mrow ty sz m') := ⟨rfl,rfl,congrArg D.pvss h⟩
theorem SubO.mp {ty : TypeId} {sz : Nat} {m m' : MR} (h : D.pvss m.rows = D.pvss m'.rows) : SubO (.mrow ty sz m) (.mrow ty sz m') := ⟨rfl,rfl,h⟩
theorem SubO.app {α : Type} {ty : TypeId} {sz : Nat} {l r : List α} {f : α → List D} {e : α} : SubO (.mrow ty sz (.app (.map l f e) (r.map f))) (.mrow ty sz (.map (l ++ r) f e)) := ⟨rfl,rfl,congrArg D.pvss (List.map_append).symm⟩


variable {md me : Bool}
theorem CloneU_ok (l : List Nat) (hl : l.length ≤ 2000000) : FnO Tryz.prog 57 [usD l] 83 1 (l.map uD) := by
 refine fnO_ev Tryz.func57 rfl rfl rfl rfl rfl rfl ?_;intro w0 s0 mx;refine zB (zE tabT [5] 100 rfl ?_);repeat (first | refine zG ?_ | refine zH ?_ | refine zQ (by exact qM hl) ?_)
 refine zC (zA ?_);refine zB ?_;refine zB ?_;refine ev_nilRegion Tryz.underlying30 rfl rfl rfl fun c hc => ?_;refine zA ?_;refine zR rfl (fun c1 => ?_) (fun c1 => ?_)
 ·
  refine zB (zE tabT [5] 300 rfl ?_);repeat (first | refine zG ?_ | refine zH ?_ | refine zQ (by exact qM hl) ?_)
  refine zC (zA (zO (zM ?_)));exact FinO.nil rfl (by rw [hc c1];rfl)
 ·
  refine zK (zA ?_);refine zB (zE tabT [5] 400 rfl ?_);repeat (first | refine zG ?_ | refine zH ?_ | refine zQ (by first | rfl | exact qM hl | (rw [List.length_nil];have := qM (f := uD) hl;omega) | (have := qM (f := uD) hl;simp at this ⊢;omega)) ?_)
  refine zC (zA (zO ?_));exact FinO.ret rfl rfl rfl rfl
variable {md me : Bool}
theorem tk_next {α : Type} {f : α → List D} {l : List α} {k : Nat} (e : α) (h : k < l.length) : (l.take (k + 1)).map f = (l.take k).map f ++ [f (l.getD ((k : Nat) : Int).toNat e)] := by
 rw [List.take_add_one,List.getElem?_eq_getElem h,List.map_append,Int.toNat_natCast,List.getD_eq_getElem?_getD,List.getElem?_eq_getElem h];rfl
theorem tk_len {α : Type} {l : List α} {k : Nat} (h : k < l.length) : (l.take (k + 1)).length = (l.take k).length + 1 := by
 rw [List.length_take,List.length_take];omega
theorem mem_at {α : Type} {l : List α} {k : Nat} (e : α) (h : k < l.length) : l.getD ((k : Nat) : Int).toNat e ∈ l := by
 rw [Int.toNat_natCast,List.getD_eq_getElem?_getD,List.getElem?_eq_getElem h];exact List.getElem_mem _
theorem ob_own (o : Ob) (a b c d e : Nat) : D.pvs [.v (.int .i64 o.kind),.v (.string o.name),.v (.int .i64 o.cls),.own a 1 (o.refs.map iD),.own b 1 (o.order.map iD),.own c 1 (o.names.map sD),.own d 7 (o.items.map vlD),.own e 7 (o.keys.map vlD),.v (.int .i64 o.code),.v (.int .i64 o.state)] = D.pvs (obD o) := by
 simp only [obD,D.pvs,D.pv,yE,List.map_map];rfl
theorem pvss_snoc {a : List (List D)} {r : List D} : D.pvss (a ++ [r]) = D.pvss a ++ [D.pvs r] := by rw [yE,yE,List.map_append];rfl
theorem copied_ok (l : List Vl) (hl : l.length ≤ 2000000) (hv : ∀ v ∈ l,VlIn v) : FnO Tryz.prog 25 [vsD l] 34 7 (l.map vlD) := by
 refine fnO_ev Tryz.func25 rfl rfl rfl rfl rfl rfl ?_;intro w0 s0 mx;refine ev_R tabT [] 100 ?_;refine ev_R tabT [] 200 ?_;refine yM 3 34 7 rfl ?_;refine zB ?_;refine ev_R tabT [] 300 ?_;refine zL ?_;refine zX (ι := {k : Nat // k ≤ l.length}) [6,7] [] 350 (fun x => [(8,.v (.int .i64 x.1)),(3,.own 200 7 ((l.take x.1).map vlD))]) (fun x => [(200,.row 34 7 ((l.take x.1).map vlD).length)]) (fun x => l.length - x.1) ⟨0,Nat.zero_le _⟩ ?_;refine ⟨⟨le_t,le_o,rfl,rfl⟩,fun x => ?_⟩;have hk : x.1 ≤ l.length := x.2;refine ev_R tabT [] 400 ?_;refine zB ?_;refine yF (fun c3 => ?_) (fun c3 => ?_)
 ·
  refine zK (zA ?_);refine zB ?_;refine zL ?_;have hvk : VlIn (l.getD ((x.1 : Nat) : Int).toNat vl0) := hv _ (mem_at vl0 c3);refine ev_R tabT [] 500 ?_;refine zB (zZ tabT [15,19] [[],[0],[0,1],[0,1,2],[],[4],[4,5],[0,1,2,3,4,5,6],[0,1,2,3,4,5,6],[0,1,2,3,4,5,6,8],[0,1,2,3,4,5,6,7,8,9],[0,1,2,3,4,5,6,7,8,9,10],[0,1,2,3,4,5,6,7,8,9,10,11],[0,1,2,3,4,5,6,7,8,9,10,11,12]] 600 mixT (by kernel_rfl) rfl ?_);refine zF ?_;refine qN _ _ _ (CloneU_ok _ hvk.nn) ?_;refine zF ?_;refine qN _ _ _ (CloneU_ok _ hvk.dn) ?_;refine zF ?_;refine zC (zA ?_);refine zE tabT [] 700 rfl ?_;repeat (first | refine zG ?_ | refine zH ?_ | refine zQ (by first | rfl | (simp only [List.length_map,List.length_take,List.length_cons,List.length_nil];omega) | first | exact trivial | omega | exact ini (by omega) (by omega) | (intro hh;simp at hh;exact ini (by omega) (by omega)) | (intro hh;simp at hh ⊢;omega) | (simp at *;omega) | (simp_all;done)) ?_)
  refine zC (zJ (zA ?_));refine ev_Q tabT [] 800 ?_;exact zP (⟨x.1 + 1,by omega⟩) ⟨⟨Sub.int (by push_cast;rfl),Sub.ownRows (by rw [tk_next vl0 c3];exact (RowsP.refl _).append ⟨⟨SubP.refl _,SubP.refl _,SubP.ownSl rfl,SubP.refl _,SubP.ownSl rfl,SubP.refl _,SubP.refl _,trivial⟩,trivial⟩),le_t⟩,⟨⟨rfl,rfl,by simp only [List.length_append,List.length_map];rw [tk_len c3];rfl⟩,le_o⟩,rfl,rfl⟩ (by show l.length - (x.1 + 1) < l.length - x.1;omega)
 ·
  refine yA (zU (zW (zS (zA ?_))));refine ev_R tabT [] 900 ?_;refine zO ?_;have e : l.take x.1 = l := List.take_of_length_le (by omega);exact FinO.ret rfl rfl (by rw [e]) (by rw [e])
theorem Copy_G (h : List Ob) (hh : HpIn h) : FnG Tryz.prog 6 [hpD md h] [] (.agg [.mo 0 h.length]) [.mrow 52 10 (.map h obD ob0)] := by
 have hhl := hh.len;refine qT tabT Tryz.func6 rfl rfl rfl rfl rfl rfl rfl ?_;intro w0 s0 mx;refine ev_R tabT [] 100 ?_;refine ev_R tabT [] 200 ?_;refine ev_nilCell 100 0 52 10 rfl rfl ?_;refine zB ?_;refine ev_thaw 200 rfl ?_;refine ev_R tabT [] 300 ?_;refine zL ?_;refine zX (ι := {k : Nat // k ≤ h.length}) [2,3,7,8] [1] 350 (fun x => [(9,.v (.int .i64 x.1))]) (fun x => [(100,.box 24 [.mo 200 (h.take x.1).length]),(200,.mrow 52 10 (.map (h.take x.1) obD ob0))]) (fun x => h.length - x.1) ⟨0,Nat.zero_le _⟩ ?_;refine ⟨⟨le_t,⟨⟨rfl,Sub.mo rfl,rfl,trivial⟩,SubO.mr rfl,le_o⟩,rfl,rfl⟩,fun x => ?_⟩;have hk : x.1 ≤ h.length := x.2;refine ev_R tabT [] 400 ?_;refine zB ?_;refine yF (fun c3 => ?_) (fun c3 => ?_)
 ·
  refine zK (zA ?_);refine zB ?_;refine zL ?_;have hob : ObIn (h.getD ((x.1 : Nat) : Int).toNat ob0) := hh.ob _ (mem_at ob0 c3);refine ev_R tabT [] 500 ?_;refine zB (zZ tabT [15,18,21] [[],[0],[0,1],[],[3],[0,1,2,3,4],[],[6],[0,1,2,3,4,5,6,7],[0,1,2,3,4,6,7],[0,1,2,3,4,5,6,7,8,9],[0,1,2,3,4,5,6,7,8,9,10],[0,1,2,3,4,5,6,7,8,9,10,11],[0,1,2,3,4,5,6,7,8,9,10,11,12],[0,1,2,3,4,5,6,7,8,9,10,11,12,13]] 600 mixT (by kernel_rfl) rfl ?_);refine zF ?_;refine qN _ _ _ (CloneI_ok _ hob.rl) ?_;refine zF ?_;refine qN _ _ _ (CloneI_ok _ hob.ol) ?_;refine zF ?_;refine qN _ _ _ (CloneS_ok _ hob.nl) ?_;refine zF ?_;refine zC (zA ?_);refine zB (zZ tabT [27,30] [[],[0],[0,1],[],[3],[0,1,2,3,4],[0,1,2,3,4],[0,1,2,3,4,5,6],[0,1,2,3,4,5,6,7],[0,1,2,3,4,5,6,7,8]] 700 mixT (by kernel_rfl) rfl ?_);refine zF ?_;refine qN _ _ _ (copied_ok _ hob.il hob.iv) ?_;refine zF ?_;refine qN _ _ _ (copied_ok _ hob.kl hob.kv) ?_;refine zF ?_;refine zC (zA ?_);refine zE tabT [] 800 rfl ?_;repeat (first | refine zG ?_ | refine zH ?_ | refine zQ (by first | rfl | (simp only [MR.len,List.length_take,List.length_cons,List.length_nil];have := hh.len;omega) | first | exact trivial | omega | exact ini (by omega) (by omega) | (intro hh;simp at hh;exact ini (by omega) (by omega)) | (intro hh;simp at hh ⊢;omega) | (simp at *;omega) | (simp_all;done)) ?_)
  refine zC (zJ (zA ?_));refine ev_Q tabT [] 900 ?_;exact zP (⟨x.1 + 1,by omega⟩) ⟨⟨Sub.int (by push_cast;rfl),le_t⟩,⟨⟨rfl,Sub.mo (by rw [tk_len c3];rfl),rfl,trivial⟩,SubO.mp (by show D.pvss (List.map obD _ ++ [_]) = D.pvss (List.map obD _);rw [tk_next ob0 c3,pvss_snoc,pvss_snoc,ob_own]),le_o⟩,rfl,rfl⟩ (by show h.length - (x.1 + 1) < h.length - x.1;omega)
 ·
  refine yA (zU (zW (zS (zA ?_))));refine ev_R tabT [] 1000 ?_;refine zO ?_;have e : h.take x.1 = h := List.take_of_length_le (by omega);exact FinH.ret 200 rfl rfl (by rw [e];exact Sub.refl _) ⟨SubO.mr (by rw [e]),trivial⟩
variable {md me : Bool}
def hpO (h : List Ob) : List DOwn := [.box 24 [.mo 1 h.length],.mrow 52 10 (.map h obD ob0)]
theorem vl_own (v : Vl) (a b : Nat) : D.pvs [.v (.int .i64 v.k),.v (.bool v.nn),.own a 1 (v.nl.map uD),.v (.bool v.dn),.own b 1 (v.dl.map uD),.v (.string v.s),.v (.int .i64 v.r)] = D.pvs (vlD v) := by
 simp only [vlD,D.pvs,D.pv,yE,List.map_map];rfl
theorem upd_same {α : Type} {f : α → List D} {e : α} {l : List α} {k : Nat} {r : List D} (hk : k < l.length) (hr : D.pvs r = D.pvs (f (l.getD ((k : Nat) : Int).toNat e))) : D.pvss ((l.map f).set ((k : Nat) : Int).toNat r) = D.pvss (l.map f) := by
 rw [Int.toNat_natCast] at *;rw [yE,yE,List.map_set,hr];apply List.ext_getElem?;intro i;rw [List.getElem?_set];by_cases h : k = i
 ·subst h;simp [hk,List.getD_eq_getElem?_getD]
 ·simp [h]
theorem app_ob {h : List Ob} {o : Ob} {r : List D} (hr : D.pvs r = D.pvs (obD o)) : D.pvss (h.map obD ++ [r]) = D.pvss ((h ++ [o]).map obD) := by rw [List.map_append,pvss_snoc,hr];exact pvss_snoc.symm
theorem CloneV_G (l : List Vl) (hl : l.length ≤ 2000000) : FnG Tryz.prog 53 [vsD l] [] (.mo 0 l.length) [.mrow 34 7 (.map l vlD vl0)] := by
 refine qT tabT Tryz.func53 rfl rfl rfl rfl rfl rfl rfl ?_;intro w0 s0 mx;refine zB (zE tabT [] 100 rfl ?_);repeat (first | refine zG ?_ | refine zH ?_ | refine zQ (by exact qM hl) ?_)
 refine zC (zA ?_);refine zB ?_;refine zB ?_;refine ev_nilRegion Tryz.underlying25 rfl rfl rfl fun c hc => ?_;refine zA ?_;refine zR rfl (fun c1 => ?_) (fun c1 => ?_)
 ·
  refine zB (zE tabT [] 300 rfl ?_);repeat (first | refine zG ?_ | refine zH ?_ | refine zQ (by exact qM hl) ?_)
  refine zC (zA ?_);refine yM 2 34 7 rfl ?_;refine ev_thaw 300 rfl ?_;refine zO (zM ?_);obtain rfl := hc c1;exact FinH.ret 300 rfl rfl (Sub.refl _) ⟨SubO.mr rfl,trivial⟩
 ·
  refine zK (zA ?_);refine zB (zE tabT [1005] 400 rfl ?_);repeat (first | refine zG ?_ | refine zH ?_ | refine zQ (by first | rfl | exact qM hl | (simp only [MR.len,List.length_nil,List.length_map];omega)) ?_)
  refine zC (zA (zO ?_));exact FinH.ret 100 rfl rfl (Sub.mo (by rw [List.length_map,Nat.zero_add])) ⟨SubO.mr rfl,trivial⟩
theorem sn211 {P : Program} {K : DS → Prop} {p : Prop} {r : Out} (hr : r.sat P K) (hp : p := by first | exact ⟨rfl,by show _ < l.length;omega⟩ | rfl | first | exact trivial | omega | exact ini (by omega) (by omega) | (intro hh;simp at hh;exact ini (by omega) (by omega)) | (intro hh;simp at hh ⊢;omega) | (simp at *;omega) | (simp_all;done)) : (Out.need p r).sat P K := ⟨hp,hr⟩
theorem heapValues_ok (l : List Vl) (hl : l.length ≤ 2000000) (hv : ∀ v ∈ l,VlIn v) : FnO Tryz.prog 115 [vsD l] 34 7 (l.map vlD) := by
 refine fnO_ev Tryz.func115 rfl rfl rfl rfl rfl rfl ?_;intro w0 s0 mx;refine ev_R tabT [] 100 ?_;refine zB (zE tabT [1006] 200 rfl ?_);refine zF ?_;refine yD _ _ (CloneV_G l hl) rfl ?_;refine zF ?_;refine zC (zA ?_);refine zB ?_;refine ev_R tabT [] 300 ?_;refine zL ?_;refine zX (ι := {k : Nat // k ≤ l.length}) [3,8] [] 350 (fun x => [(9,.v (.int .i64 x.1))]) (fun x => [(101,.mrow 34 7 (.map l vlD vl0))]) (fun x => l.length - x.1) ⟨0,Nat.zero_le _⟩ ?_;refine ⟨⟨le_t,le_o,rfl,rfl⟩,fun x => ?_⟩;have hk : x.1 ≤ l.length := x.2;refine ev_R tabT [] 400 ?_;refine zB ?_;refine yF (fun c3 => ?_) (fun c3 => ?_)
 ·
  refine zK (zA ?_);refine zB ?_;refine zL ?_;have hvk : VlIn (l.getD ((x.1 : Nat) : Int).toNat vl0) := hv _ (mem_at vl0 c3);refine ev_R tabT [] 500 ?_;refine zZ tabT [22,29] [[],[],[],[],[],[],[4,5],[4,5,6],[4,5,6,7],[4,5,6,7,8],[4,5,6,7,8,9],[],[],[11,12],[11,12,13],[11,12,13,14],[11,12,13,14,15],[4,5,6,7,8,9,10,11,12,13,14,15,16],[0,1,4,5,6,7,8,9,10,11,12,13,14,15,16,17],[0,1,4,5,6,7,8,9,10,11,12,13,14,15,16,17,18],[0,1,4,5,6,7,8,9,10,11,12,13,14,15,16,17,18,19],[0,1,4,5,6,7,8,9,10,11,12,13,14,15,16,17,18,19,20],[0,1,2,3,4,5,6,7,8,9,10,11,12,13,14,15,16,17,18,19,20,21],[0,1,2,3,4,5,6,7,8,9,10,11,12,13,14,15,16,17,18,19,20,21,22],[0,1,2,3,4,5,6,7,8,9,10,11,12,13,14,15,16,17,18,19,20,21,22,23],[0,1,2,3,4,5,6,7,8,9,10,11,12,13,14,15,16,17,18,19,20,21,22,23,24]] 600 mixT (by kernel_rfl) rfl ?_;repeat (first | refine zG ?_ | refine zH ?_ | refine sn211 ?_)
  refine qN _ _ _ (CloneU_ok _ hvk.nn) ?_;repeat (first | refine zG ?_ | refine zH ?_ | refine sn211 ?_)
  refine qN _ _ _ (CloneU_ok _ hvk.dn) ?_;repeat (first | refine zG ?_ | refine zH ?_ | refine sn211 ?_)
  refine zC (zJ (zA ?_));refine ev_Q tabT [] 700 ?_;exact zP (⟨x.1 + 1,by omega⟩) ⟨⟨Sub.int (by push_cast;rfl),le_t⟩,⟨SubO.mp (by show D.pvss (((l.map vlD).set _ _).set _ _) = _;rw [List.set_set];exact upd_same c3 (vl_own _ _ _)),le_o⟩,rfl,rfl⟩ (by show l.length - (x.1 + 1) < l.length - x.1;omega)
 ·
  refine yA (zU (zW (zS (zA ?_))));refine ev_freeze 101 rfl (by repeat (first | exact trivial | exact rfl | refine ⟨?_,?_⟩)) (by repeat (first | exact trivial | refine ⟨?_,?_⟩)) ?_;refine ev_R tabT [] 800 ?_;refine zO ?_;exact FinO.ret rfl rfl rfl rfl
theorem heapClone_ok (o : Ob) (ho : ObIn o) : Fn Tryz.prog 91 [.agg (obD o)] (.agg (obD o)) := by
 refine yK tabT Tryz.func91 rfl rfl rfl rfl rfl rfl ?_;intro w0 s0 mx;refine ev_R tabT [] 100 ?_;refine zB (zZ tabT [5,8,11] [[],[0],[0,1],[],[3],[0,1,2,3,4],[],[6],[0,1,2,3,4,5,6,7],[0,1,2,3,4,6,7],[0,1,2,3,4,5,6,7,8,9],[0,1,2,3,4,5,6,7,8,9,10],[0,1,2,3,4,5,6,7,8,9,10,11],[0,1,2,3,4,5,6,7,8,9,10,11,12],[0,1,2,3,4,5,6,7,8,9,10,11,12,13]] 200 mixT (by kernel_rfl) rfl ?_);refine zF ?_;refine qN _ _ _ (CloneI_ok _ ho.rl) ?_;refine zF ?_;refine qN _ _ _ (CloneI_ok _ ho.ol) ?_;refine zF ?_;refine qN _ _ _ (CloneS_ok _ ho.nl) ?_;refine zF ?_;refine zC (zA ?_);refine zB (zZ tabT [17,20] [[],[0],[0,1],[],[3],[0,1,2,3,4],[0,1,2,3,4],[0,1,2,3,4,5,6],[0,1,2,3,4,5,6,7],[0,1,2,3,4,5,6,7,8]] 300 mixT (by kernel_rfl) rfl ?_);refine zF ?_;refine qN _ _ _ (heapValues_ok _ ho.il ho.iv) ?_;refine zF ?_;refine qN _ _ _ (heapValues_ok _ ho.kl ho.kv) ?_;refine zF ?_;refine zC (zA ?_);refine ev_R tabT [] 400 ?_;refine zO ?_;exact FinV.ret rfl (SubP.agg ⟨SubP.refl _,SubP.refl _,SubP.refl _,SubP.ownSl rfl,SubP.ownSl rfl,SubP.ownSl rfl,SubP.ownSl rfl,SubP.ownSl rfl,SubP.refl _,SubP.refl _,trivial⟩)
theorem sn212 {P : Program} {K : DS → Prop} {p : Prop} {r : Out} (hr : r.sat P K) (hp : p := by first | rfl | exact ⟨rfl,by simp only [MR.len,List.length_map];omega⟩ | exact ⟨rfl,by simp [MR.len];omega⟩ | (simp only [MR.len,List.length_map,List.length_append,List.length_singleton];omega) | (simp [MR.len];exact ini (by omega) (by omega)) | first | exact trivial | omega | exact ini (by omega) (by omega) | (intro hh;simp at hh;exact ini (by omega) (by omega)) | (intro hh;simp at hh ⊢;omega) | (simp at *;omega) | (simp_all;done)) : (Out.need p r).sat P K := ⟨hp,hr⟩
theorem heapNew_G (h : List Ob) (o : Ob) (hh : h.length ≤ 4000000) (ho : ObIn o) : FnG Tryz.prog 62 [.bp 0 0,.agg (obD o)] (hpO h) (.v (.int .i64 (h.length : Nat))) (hpO (h ++ [o])) := by
 refine qT tabT Tryz.func62 rfl rfl rfl rfl rfl rfl rfl ?_;intro w0 s0 mx;refine ev_R tabT [] 100 ?_;refine zB (zZ tabT [] [[],[],[1],[1,2],[1,2,3],[],[5],[5,6],[1,2,3,4,5,6,7],[0,1,2,3,4,5,6,7,8],[0,1,2,3,4,5,6,7,8,9],[0,1,2,3,4,5,6,7,8,9,10]] 200 mixT (by kernel_rfl) rfl ?_);repeat (first | refine zG ?_ | refine zH ?_ | refine sn212 ?_)
 refine zV _ (heapClone_ok _ (by first | assumption | omega | (simp_all;done))) rfl ?_;repeat (first | refine zG ?_ | refine zH ?_ | refine sn212 ?_)
 refine zC (zA ?_);refine zB (zE tabT [] 300 rfl ?_);repeat (first | refine zG ?_ | refine zH ?_ | refine sn212 ?_)
 refine zC (zA (zO ?_));exact FinH.ret 2 rfl rfl (Sub.int (by simp)) ⟨⟨rfl,Sub.mo (by simp),rfl,trivial⟩,SubO.mp (app_ob rfl),trivial⟩
theorem Make_G (h : List Ob) (o : Ob) (hh : h.length ≤ 4000000) : FnG Tryz.prog 32 [.bp 0 0,.agg (obD o)] (hpO h) (.agg (vlD (rfV (h.length : Nat)))) (hpO (h ++ [o])) := by
 refine qT tabT Tryz.func32 rfl rfl rfl rfl rfl rfl rfl ?_;intro w0 s0 mx;refine ev_R tabT [] 100 ?_;refine zB (zZ tabT [] [[],[],[1],[1,2],[1,2,3],[],[5],[1,2,3,4,5,6],[0,1,2,3,4,5,6,7],[0,1,2,3,4,5,6,7,8],[0,1,2,3,4,5,6,7,8,9]] 200 mixT (by kernel_rfl) rfl ?_);repeat (first | refine zG ?_ | refine zH ?_ | refine sn212 ?_)
 refine zC (zA ?_);refine zB (zE tabT [] 300 rfl ?_);repeat (first | refine zG ?_ | refine zH ?_ | refine sn212 ?_)
 refine zV _ (O_ok _) rfl ?_;repeat (first | refine zG ?_ | refine zH ?_ | refine sn212 ?_)
 refine zC (zA (zO ?_));exact FinH.ret 2 rfl rfl (Sub.of_eq (by simp;rfl)) ⟨⟨rfl,Sub.mo (by simp),rfl,trivial⟩,SubO.mp (app_ob rfl),trivial⟩
end Go.Proofs.YtmbnclhokhggaaaGreatDoor
