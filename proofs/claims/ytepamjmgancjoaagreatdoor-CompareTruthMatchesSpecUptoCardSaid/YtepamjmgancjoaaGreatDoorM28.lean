/- Part 28 of the proof. -/
import Derived.Test.YtepamjmgancjoaaGreatDoorM24
import Derived.Test.YtepamjmgancjoaaGreatDoorProg
import Derived.Ground.NamesProg
import Derived.Shelf.Spec.SlicesGrow
import Derived.Shelf.Strconv.Itoa3
import Derived.Shelf.Strconv.Quote
import Derived.Test.YtepamjmgancjoaaGreatDoorM23
import Derived.Test.YtepamjmgancjoaaGreatDoorM12
import Derived.Test.YtepamjmgancjoaaGreatDoorM16
import Derived.Test.YtepamjmgancjoaaGreatDoorM21
import Derived.Test.YtepamjmgancjoaaGreatDoorM26
import Derived.Test.YtepamjmgancjoaaGreatDoorM27
namespace Go.Proofs.YtepamjmgancjoaaGreatDoor
open Go.RowKit
variable {md me : Bool}
theorem used_a {k : Nat} (hk : k < 21) (ha : Lib.contains (usedS (k : Int)).data.toList [97] = true) : usedS (k : Int) ≠ ⟨#[]⟩ ∧ lastC (usedS (k : Int)) = 61 := by
 have := List.all_eq_true.1 (show (List.range 21).all (fun (k : Nat) => !(Lib.contains (usedS (k : Int)).data.toList [97]) || (!decide (usedS (k : Int) = ⟨#[]⟩) && decide (lastC (usedS (k : Int)) = 61))) = true by decide +kernel) k (List.mem_range.2 hk);rw [ha,Bool.not_true,Bool.false_or,Bool.and_eq_true,Bool.not_eq_true',decide_eq_false_iff_not,decide_eq_true_eq] at this;exact this
theorem names_items {o : Ob} (hk : 0 ≤ o.kind ∧ o.kind < 21) (hs : shapeS o = 0) : o.names.length ≤ o.items.length := by
 have h1 := (sh_of hs).1;unfold shapeS at hs;split at hs
 ·rename_i ha;have h3 := List.all_eq_true.1 ha 3 (by decide);by_cases hz : (o.names.length : Int) = 0
  ·omega
  ·have e : Lib.contains (usedS o.kind).data.toList [97] = true := by
    have h4 : (!(!(decide ((o.names.length : Int) = 0)) && !(Lib.contains (usedS o.kind).data.toList [97]))) = true := h3;rw [decide_eq_false hz] at h4;simpa using h4
   have hkk : o.kind = ((o.kind.toNat : Nat) : Int) := by omega
   rw [hkk] at e;have h5 := used_a (k := o.kind.toNat) (by omega) e;rw [← hkk] at h5;rw [cntS,if_neg h5.1,if_neg (by rw [h5.2];decide),if_pos h5.2] at h1;omega
 ·cases hs
theorem nm_it {h : List Ob} (g : Uh h) {n : Int} (hn : inH h n) : (obAt h n).names.length ≤ (obAt h n).items.length := by
 by_cases h49 : n.toNat < 49
 ·rw [show obAt h n = bgO n.toNat from g.lo_at h49];exact Nat.zero_le _
 ·have u := g.hi_at (i := n.toNat) (by omega) hn.2;exact names_items u.kind u.shape
theorem bg_order {k : Nat} (hk : k < 49) {r : Int} (hr : r ∈ (bgO k).order) : 0 ≤ r ∧ r < 49 := by
 have := List.all_eq_true.1 (List.all_eq_true.1 (show (List.range 49).all (fun k => (bgO k).order.all fun r => decide (0 ≤ r) && decide (r < 49)) = true by decide +kernel) k (List.mem_range.2 hk)) r hr;rw [Bool.and_eq_true,decide_eq_true_eq,decide_eq_true_eq] at this;exact this
theorem cok_of {h : List Ob} (hh : HpIn h) (g : Uh h) {c : Int} (hn : inH h c) : Cok h (obAt h c).order := by
 refine ⟨(hh.at c).ol,fun r hr => ?_⟩;have hin : inH h r := by
  by_cases h49 : c.toNat < 49
  ·rw [show obAt h c = bgO c.toNat from g.lo_at h49] at hr;have := bg_order h49 hr;have := g.lo;exact ⟨by omega,by omega⟩
  ·exact qE ((vs_of (g.hi_at (by omega) hn.2).vals).order r hr)
 exact ⟨hin,nm_it g hin⟩
theorem own_rv {h : List Ob} (g : Uh h) {n : Int} (hn : inH h n) (s : ByteArray) (hk : (ownV (obAt h n) s).k = 6) : isObj h (ownV (obAt h n) s).r = true := by
 have hlt := ixI_lt (obAt h n).names s;have hni := nm_it g hn;by_cases hi : ixI (obAt h n).names s < 0
 ·rw [ownV,if_pos hi] at hk;exact absurd hk (by decide)
 ·rw [ownV,if_neg hi] at hk ⊢;have hj : (ixI (obAt h n).names s).toNat < (obAt h n).items.length := by omega
  rw [List.getD_eq_getElem?_getD,List.getElem?_eq_getElem hj] at hk ⊢;exact g.items hn (List.getElem_mem _) hk
theorem fd_rv {h : List Ob} (hh : HpIn h) (g : Uh h) {c : Int} (hn : inH h c) (s : ByteArray) (hk : (fdV h s (fdO h (obAt h c).order s)).k = 6) : isObj h (fdV h s (fdO h (obAt h c).order s)).r = true := by
 cases hf : fdO h (obAt h c).order s with
 | none => rw [hf] at hk;exact absurd hk (show ¬ (0 : Int) = 6 by decide)
 | some r =>
  rw [hf] at hk;exact own_rv g ((cok_of hh g hn).2 r (List.mem_of_find?_eq_some hf)).1 s hk
theorem one_item {h : List Ob} (g : Uh h) {n : Int} (hn : inH h n) (hk : (obAt h n).kind = 13 ∨ (obAt h n).kind = 14) : (obAt h n).items.length = 1 := by
 by_cases h49 : n.toNat < 49
 ·rw [show obAt h n = bgO n.toNat from g.lo_at h49] at hk;have h9 : (bgO n.toNat).kind = 9 := rfl;omega
 ·have u := g.hi_at (i := n.toNat) (by omega) hn.2;have h1 := (sh_of u.shape).1;rw [← obAt_nat hn] at h1;have hc : cntS (obAt h n) = 1 := by
   rcases hk with hk | hk
   ·rw [cnt_of 13 49 (by decide +kernel) hk];decide +kernel
   ·rw [cnt_of 14 49 (by decide +kernel) hk];decide +kernel
  omega
def spS (h : List Ob) (v : Vl) (s : ByteArray) : Vl × List Vl × Bool :=
 if ¬ (objS h v).kind = 10 then (vl0,[],false)
 else if (fdO h (obAt h (objS h v).cls).order s).isSome = false then (vl0,[],false)
 else if callS h (fdV h s (fdO h (obAt h (objS h v).cls).order s)) = true then (fdV h s (fdO h (obAt h (objS h v).cls).order s),[v],true)
 else if (objS h (fdV h s (fdO h (obAt h (objS h v).cls).order s))).kind = 13 then ((objS h (fdV h s (fdO h (obAt h (objS h v).cls).order s))).items.getD 0 vl0,[],true)
 else if (objS h (fdV h s (fdO h (obAt h (objS h v).cls).order s))).kind = 14 then ((objS h (fdV h s (fdO h (obAt h (objS h v).cls).order s))).items.getD 0 vl0,[rfV (objS h v).cls],true)
 else (fdV h s (fdO h (obAt h (objS h v).cls).order s),[],true)
theorem obj_item {h : List Ob} (g : Uh h) {v : Vl} (hk : (objS h v).kind = 13 ∨ (objS h v).kind = 14) : 0 < (objS h v).items.length := by
 have h1 := objS_of (h := h) (v := v) (by omega);rw [h1.2.2] at hk ⊢;rw [one_item g (qE h1.2.1) hk];decide
theorem inst_cls {h : List Ob} (g : Uh h) {v : Vl} (hk : (objS h v).kind = 10) : inH h (objS h v).cls := by
 have h1 := objS_of (h := h) (v := v) (by omega);rw [h1.2.2] at hk ⊢;exact g.cls (qE h1.2.1) hk
set_option maxHeartbeats 1000000 in
theorem Special_ok (h : List Ob) (v : Vl) (s : ByteArray) (hh : HpIn h) (g : Uh h) (hv : v.k = 6 → isObj h v.r = true) : Fn Tryz.prog 41 [hpD md h,.agg (vlD v),.v (.string s)] (.tup [.agg (vlD (spS h v s).1),vsD (spS h v s).2.1,.v (.bool (spS h v s).2.2)]) := by
 refine yD tabT Tryz.func41 rfl rfl rfl rfl rfl rfl ?_;intro w0 s0 mx;refine ev_R tabT [] 100 ?_;refine zB ?_;refine zB (zE tabT [] 200 rfl ?_);refine zF ?_;refine zO _ (attrObject_ok _ _ (by first | assumption | omega | (simp_all;done))) rfl ?_;refine zF ?_;refine zC (zA ?_);refine zY rfl (fun c1 => ?_) (fun c1 => ?_)
 ·replace c1 : ¬ (objS h v).kind = 10 := by simpa using c1
  refine ev_R tabT [] 300 ?_;refine zL (zN ?_);exact FinV.ret rfl (SubP.tup ⟨by rw [spS,if_pos c1];exact (by repeat (first | exact trivial | exact SubP.refl _ | exact SubP.nilSl rfl | refine SubP.agg ?_ | refine ⟨?_,?_⟩)),by rw [spS,if_pos c1];exact SubP.nilSl rfl,by rw [spS,if_pos c1];exact SubP.refl _,trivial⟩)
 ·replace c1 : (objS h v).kind = 10 := by simpa using c1
  have hob := objS_of (h := h) (v := v) (by omega);have hin := inst_cls g c1;have hrv := fun hk => fd_rv hh g hin s hk;refine zK (zA ?_);refine zB (zE tabT [] 400 rfl ?_);repeat (first | refine zG ?_ | refine zH ?_ | refine zR (by exact qE hob.2.1) ?_)
  refine zC (zA ?_);refine yN [2,3,4,6] [0,1,2] 410 [(9,.v (.int .i64 (objS h v).cls))] [] ?_;refine ⟨⟨⟨Sub.int (by rw [hob.2.2]),by repeat (first | exact trivial | exact Sub.refl _ | refine ⟨?_,?_⟩)⟩,le_o,rfl,rfl⟩,?_⟩;refine zB (zE tabT [] 500 rfl ?_);refine zF ?_;refine zO _ (attrFind_ok h (objS h v).cls s hh hin (cok_of hh g hin)) rfl ?_;refine zF ?_;refine zC (zA ?_);refine zB ?_;refine ev_R tabT [] 600 ?_;refine zY rfl (fun c5 => ?_) (fun c5 => ?_)
  ·replace c5 : (fdO h (obAt h (objS h v).cls).order s).isSome = false := by simpa using c5
   refine ev_R tabT [] 700 ?_;refine zL (zN ?_);exact FinV.ret rfl (SubP.tup ⟨by rw [spS,if_neg (not_not_intro c1),if_pos c5];exact (by repeat (first | exact trivial | exact SubP.refl _ | exact SubP.nilSl rfl | refine SubP.agg ?_ | refine ⟨?_,?_⟩)),by rw [spS,if_neg (not_not_intro c1),if_pos c5];exact SubP.nilSl rfl,by rw [spS,if_neg (not_not_intro c1),if_pos c5];exact SubP.refl _,trivial⟩)
  ·replace c5 : (fdO h (obAt h (objS h v).cls).order s).isSome = true := by simpa using c5
   refine zK (zA ?_);refine zB ?_;refine zB (zE tabT [] 800 rfl ?_);refine zF ?_;refine zO _ (attrObject_ok h (fdV h s (fdO h (obAt h (objS h v).cls).order s)) hrv) rfl ?_;refine zF ?_;refine zC (zA (zM ?_));refine zB (zE tabT [] 900 rfl ?_);refine zF ?_;refine zO _ (attrFunction_ok h (fdV h s (fdO h (obAt h (objS h v).cls).order s)) hrv) rfl ?_;refine zF ?_;refine zC (zA ?_);refine zY rfl (fun c8 => ?_) (fun c8 => ?_)
   ·
    refine zB (zZ tabT [] [[],[],[1],[0],[0,1,2,3],[0,1,2,3,4]] 1000 mixT (by kernel_rfl) rfl ?_);refine zF ?_;refine zC (zA (zL (zP (zN ?_))));exact FinV.ret rfl (SubP.tup ⟨by rw [spS,if_neg (not_not_intro c1),if_neg (by rw [c5];decide),if_pos c8];exact SubP.refl _,by rw [spS,if_neg (not_not_intro c1),if_neg (by rw [c5];decide),if_pos c8];exact SubP.slrSl rfl,by rw [spS,if_neg (not_not_intro c1),if_neg (by rw [c5];decide),if_pos c8];exact SubP.refl _,trivial⟩)
   ·
    refine ev_R tabT [] 1100 ?_;refine zT (fun c10 => ?_) (fun c10 => ?_)
    ·
     refine zB (zE tabT [] 1200 rfl ?_);repeat (first | refine zG ?_ | refine zH ?_ | refine zR (by exact ⟨by omega,obj_item g (Or.inl c10)⟩) ?_)
     refine zC (zA (zL (zP (zN ?_))));exact FinV.ret rfl (SubP.tup ⟨by rw [spS,if_neg (not_not_intro c1),if_neg (by rw [c5];decide),if_neg (by rw [c8];decide),if_pos c10];exact SubP.refl _,by rw [spS,if_neg (not_not_intro c1),if_neg (by rw [c5];decide),if_neg (by rw [c8];decide),if_pos c10];exact SubP.nilSl rfl,by rw [spS,if_neg (not_not_intro c1),if_neg (by rw [c5];decide),if_neg (by rw [c8];decide),if_pos c10];exact SubP.refl _,trivial⟩)
    ·
     refine ev_R tabT [] 1300 ?_;refine zT (fun c12 => ?_) (fun c12 => ?_)
     ·
      refine zB (zZ tabT [] [[],[0],[0,1],[0,1,2],[],[4],[4,5],[0,1,2,3,4,5],[0,1,2,3,4,5,6,7],[0,1,2,3,4,5,6,7,8]] 1400 mixT (by kernel_rfl) rfl ?_);repeat (first | refine zG ?_ | refine zH ?_ | refine zR (by exact ⟨by omega,obj_item g (Or.inr c12)⟩) ?_)
      refine zO _ (heapRef_ok _) rfl ?_;repeat (first | refine zG ?_ | refine zH ?_ | refine zR (by exact ⟨by omega,obj_item g (Or.inr c12)⟩) ?_)
      refine zC (zA (zL (zP (zN ?_))));exact FinV.ret rfl (SubP.tup ⟨by rw [spS,if_neg (not_not_intro c1),if_neg (by rw [c5];decide),if_neg (by rw [c8];decide),if_neg (by omega),if_pos c12];exact SubP.refl _,by rw [spS,if_neg (not_not_intro c1),if_neg (by rw [c5];decide),if_neg (by rw [c8];decide),if_neg (by omega),if_pos c12];exact SubP.slrSl rfl,by rw [spS,if_neg (not_not_intro c1),if_neg (by rw [c5];decide),if_neg (by rw [c8];decide),if_neg (by omega),if_pos c12];exact SubP.refl _,trivial⟩)
     ·
      refine zK (zJ (zA ?_));refine ev_R tabT [] 1500 ?_;refine zL ?_;exact FinV.ret rfl (SubP.tup ⟨by rw [spS,if_neg (not_not_intro c1),if_neg (by rw [c5];decide),if_neg (by rw [c8];decide),if_neg (by omega),if_neg (by omega)];exact SubP.refl _,by rw [spS,if_neg (not_not_intro c1),if_neg (by rw [c5];decide),if_neg (by rw [c8];decide),if_neg (by omega),if_neg (by omega)];exact SubP.nilSl rfl,by rw [spS,if_neg (not_not_intro c1),if_neg (by rw [c5];decide),if_neg (by rw [c8];decide),if_neg (by omega),if_neg (by omega)];exact SubP.refl _,trivial⟩)
set_option maxHeartbeats 1000000 in
theorem Method_ok (h : List Ob) (v : Vl) (s : ByteArray) (hh : HpIn h) (g : Uh h) (hv : v.k = 6 → isObj h v.r = true) : Fn Tryz.prog 85 [hpD md h,.agg (vlD v),.v (.string s)] (.tup [.agg (vlD (spS h v s).1),vsD (spS h v s).2.1,.v (.bool (spS h v s).2.2)]) := by
 refine yD tabT Tryz.func85 rfl rfl rfl rfl rfl rfl ?_;intro w0 s0 mx;refine ev_R tabT [] 100 ?_;refine zB (zE tabT [] 200 rfl ?_);refine zF ?_;refine zO _ (Obj_ok _ _) rfl ?_;refine zF ?_;refine zC (zA ?_);refine zB ?_;refine ev_R tabT [] 300 ?_;refine zY rfl (fun c2 => ?_) (fun c2 => ?_)
 ·replace c2 : ¬ (objS h v).kind = 10 := by simpa using c2
  refine ev_R tabT [] 400 ?_;refine zL (zN ?_);exact FinV.ret rfl (SubP.tup ⟨by rw [spS,if_pos c2];exact (by repeat (first | exact trivial | exact SubP.refl _ | exact SubP.nilSl rfl | refine SubP.agg ?_ | refine ⟨?_,?_⟩)),by rw [spS,if_pos c2];exact SubP.nilSl rfl,by rw [spS,if_pos c2];exact SubP.refl _,trivial⟩)
 ·replace c2 : (objS h v).kind = 10 := by simpa using c2
  have hin := inst_cls g c2;have hrv := fun hk => fd_rv hh g hin s hk;refine zK (zA ?_);refine zB (zE tabT [] 500 rfl ?_);refine zF ?_;refine zO _ (Inherited_ok h (objS h v).cls s hh hin (cok_of hh g hin)) rfl ?_;refine zF ?_;refine zC (zA ?_);refine zB ?_;refine ev_R tabT [] 600 ?_;refine zY rfl (fun c5 => ?_) (fun c5 => ?_)
  ·replace c5 : (fdO h (obAt h (objS h v).cls).order s).isSome = false := by simpa using c5
   refine ev_R tabT [] 700 ?_;refine zL (zN ?_);exact FinV.ret rfl (SubP.tup ⟨by rw [spS,if_neg (not_not_intro c2),if_pos c5];exact (by repeat (first | exact trivial | exact SubP.refl _ | exact SubP.nilSl rfl | refine SubP.agg ?_ | refine ⟨?_,?_⟩)),by rw [spS,if_neg (not_not_intro c2),if_pos c5];exact SubP.nilSl rfl,by rw [spS,if_neg (not_not_intro c2),if_pos c5];exact SubP.refl _,trivial⟩)
  ·replace c5 : (fdO h (obAt h (objS h v).cls).order s).isSome = true := by simpa using c5
   refine zK (zA ?_);refine zB ?_;refine zB (zE tabT [] 800 rfl ?_);refine zF ?_;refine zO _ (callable_ok h (fdV h s (fdO h (obAt h (objS h v).cls).order s))) rfl ?_;refine zF ?_;refine zC (zA ?_);refine zY rfl (fun c7 => ?_) (fun c7 => ?_)
   ·
    refine zB (zZ tabT [] [[],[],[1],[0],[0,1,2,3],[0,1,2,3,4]] 900 mixT (by kernel_rfl) rfl ?_);refine zF ?_;refine zC (zA (zL (zN ?_)));exact FinV.ret rfl (SubP.tup ⟨by rw [spS,if_neg (not_not_intro c2),if_neg (by rw [c5];decide),if_pos c7];exact SubP.refl _,by rw [spS,if_neg (not_not_intro c2),if_neg (by rw [c5];decide),if_pos c7];exact SubP.slrSl rfl,by rw [spS,if_neg (not_not_intro c2),if_neg (by rw [c5];decide),if_pos c7];exact SubP.refl _,trivial⟩)
   ·
    refine zK (zA ?_);refine zB ?_;refine zB (zE tabT [] 1000 rfl ?_);refine zF ?_;refine zO _ (Obj_ok _ _) rfl ?_;refine zF ?_;refine zC (zA ?_);refine ev_R tabT [] 1100 ?_;refine zM ?_;refine ev_R tabT [] 1200 ?_;refine zT (fun c11 => ?_) (fun c11 => ?_)
    ·
     refine zB (zZ tabT [] [[],[0],[0,1],[0,1,2],[],[4],[4,5],[4,5,6],[0,1,2,3,4,5,6],[0,1,2,3,4,5,6,7,8],[0,1,2,3,4,5,6,7,8,9]] 1300 mixT (by kernel_rfl) rfl ?_);repeat (first | refine zG ?_ | refine zH ?_ | refine zR (by exact ⟨by omega,obj_item g (Or.inr c11)⟩) ?_)
     refine zO _ (O_ok _) rfl ?_;repeat (first | refine zG ?_ | refine zH ?_ | refine zR (by exact ⟨by omega,obj_item g (Or.inr c11)⟩) ?_)
     refine zC (zA (zL (zP (zN ?_))));exact FinV.ret rfl (SubP.tup ⟨by rw [spS,if_neg (not_not_intro c2),if_neg (by rw [c5];decide),if_neg (by rw [c7];decide),if_neg (by omega),if_pos c11];exact SubP.refl _,by rw [spS,if_neg (not_not_intro c2),if_neg (by rw [c5];decide),if_neg (by rw [c7];decide),if_neg (by omega),if_pos c11];exact SubP.slrSl rfl,by rw [spS,if_neg (not_not_intro c2),if_neg (by rw [c5];decide),if_neg (by rw [c7];decide),if_neg (by omega),if_pos c11];exact SubP.refl _,trivial⟩)
    ·
     refine ev_R tabT [] 1400 ?_;refine zT (fun c13 => ?_) (fun c13 => ?_)
     ·
      refine zB (zE tabT [] 1500 rfl ?_);repeat (first | refine zG ?_ | refine zH ?_ | refine zR (by exact ⟨by omega,obj_item g (Or.inl c13)⟩) ?_)
      refine zC (zA (zL (zP (zN ?_))));exact FinV.ret rfl (SubP.tup ⟨by rw [spS,if_neg (not_not_intro c2),if_neg (by rw [c5];decide),if_neg (by rw [c7];decide),if_pos c13];exact SubP.refl _,by rw [spS,if_neg (not_not_intro c2),if_neg (by rw [c5];decide),if_neg (by rw [c7];decide),if_pos c13];exact SubP.nilSl rfl,by rw [spS,if_neg (not_not_intro c2),if_neg (by rw [c5];decide),if_neg (by rw [c7];decide),if_pos c13];exact SubP.refl _,trivial⟩)
     ·
      refine zK (zJ (zA ?_));refine ev_R tabT [] 1600 ?_;refine zL ?_;exact FinV.ret rfl (SubP.tup ⟨by rw [spS,if_neg (not_not_intro c2),if_neg (by rw [c5];decide),if_neg (by rw [c7];decide),if_neg (by omega),if_neg (by omega)];exact SubP.refl _,by rw [spS,if_neg (not_not_intro c2),if_neg (by rw [c5];decide),if_neg (by rw [c7];decide),if_neg (by omega),if_neg (by omega)];exact SubP.nilSl rfl,by rw [spS,if_neg (not_not_intro c2),if_neg (by rw [c5];decide),if_neg (by rw [c7];decide),if_neg (by omega),if_neg (by omega)];exact SubP.refl _,trivial⟩)
end Go.Proofs.YtepamjmgancjoaaGreatDoor
/-
  DERIVED: THE SHELF's CONTRACTS AT THIS DUMP,IN PLAIN WORDS (tools/lay-plain.mjs out of 'YtepamjmgancjoaaGreatDoorShelf3.lean',which tools/lay-shelf.mjs wrote): THE SAME DECLARATIONS UNDER THE SAME NAMES: 'import','namespace','open','def','theorem' AND NOTHING ELSE: no command of the shelf's: FOR A HAND-IN. Each laying: the table of numbers ('.._ren') and one theorem,a field a fact of the dump's own or the kernel's comparison;each contract: ONE APPLICATION.
-/
namespace Go.Proofs
open Go.Shelf
def Tryz.laysGrowV_ren : Go.Shelf.Ren := ⟨fun | 4 => 75 | n => n,fun | 22 => 31 | 25 => 29 | 3 => 3 | 4 => 4 | 9 => 9 | 20 => 20 | 0 => 0 | n => n,fun | n => n⟩
theorem Tryz.laysGrowV : Go.Proofs.Lays8.n4 Tryz.prog Tryz.laysGrowV_ren := {
 mixed := by kernel_rfl
 f4 := ⟨Tryz.f75.name,by decide,Tryz.func75.trans (congrArg some (by kernel_rfl))⟩
 t0 := Tryz.underlying0
 a0 := Tryz.isAgg0
 z0 := Tryz.sizeOf0
 v0 := Tryz.zeroValue0
 t3 := Tryz.underlying3
 a3 := Tryz.isAgg3
 z3 := Tryz.sizeOf3
 v3 := Tryz.zeroValue3
 t4 := Tryz.underlying4
 a4 := Tryz.isAgg4
 z4 := Tryz.sizeOf4
 v4 := Tryz.zeroValue4
 t9 := Tryz.underlying9
 a9 := Tryz.isAgg9
 z9 := Tryz.sizeOf9
 v9 := Tryz.zeroValue9
 t20 := Tryz.underlying20
 a20 := Tryz.isAgg20
 z20 := Tryz.sizeOf20
 v20 := Tryz.zeroValue20
 t22 := Tryz.underlying31
 a22 := Tryz.isAgg31
 z22 := Tryz.sizeOf31
 v22 := Tryz.zeroValue31 }
end Go.Proofs
namespace Go.Proofs.YtepamjmgancjoaaGreatDoor
open Go.RowKit Go.Shelf
theorem grow_O {P : Program} {f : FuncId} {e : TypeId} {sz : Nat} (hb : Bod P f) (n : Nat)
  (h0 : n = 0 → ∀ w,Calls P f #[.slice none 0 0,.int .i64 n] w fun r w' => r = .returned (.slice none 0 0) ∧ w' = w)
  (h1 : 0 < n → ∀ w : World,Calls P f #[.slice none 0 0,.int .i64 n] w fun r w' => ∃ (cur : Array Value) (G : Nat),r = .returned (.slice (some ⟨w.heap.size,0,none⟩) 0 G) ∧ w' = w.drew.alloc (.cells cur e) ∧ cur.size = G * sz ∧ G ≤ maxLen) :
  FnO P f [.v (.slice none 0 0),.v (.int .i64 n)] e sz [] := by
 refine ⟨hb,fun w s vs hlt _ hv => ?_⟩
 match vs,hv with
 | [a,b],⟨ha,hb',_⟩ =>
  have ha : a = .slice none 0 0 := ha;have hb' : b = .int .i64 n := hb';subst ha hb';rcases Nat.eq_zero_or_pos n with hn | hn
  ·refine (h0 hn w).mono fun r w' hq => ?_;obtain ⟨rfl,rfl⟩ := hq;refine ⟨s,⟨fun _ => none,fun k m => if k = 0 ∧ m = 0 then some (.slice none 0 0) else none⟩,0,.slice none 0 0,rfl,?_,⟨fun m hm => ?_,_,rfl,.inl ⟨rfl,rfl⟩⟩,fun N hN => ?_,⟨Ex.refl _ _,hlt,rfl,rfl,rfl,Nat.le_refl _,fun _ _ => rfl,fun _ _ h => .inl h,fun _ _ h => .inl h⟩⟩
   ·rw [TV.P];exact ⟨⟨none,0,rfl,Nat.le_refl _,by omega,(fun _ h => by cases h),fun i row h => by simp [D.pvss] at h⟩,rfl⟩
   ·have hm : 0 < m := hm;exact if_neg (by omega)
   ·cases hN
  ·refine (h1 hn w).mono fun r w' hq => ?_;obtain ⟨cur,G,rfl,rfl,hc,hG⟩ := hq;have hnew : (w.drew.alloc (.cells cur e)).heap[w.heap.size]? = some (.cells cur e (0,0)) := heap_alloc_new w.drew _;have hold : ∀ N,N < w.heap.size → (w.drew.alloc (.cells cur e)).heap[N]? = w.heap[N]? := fun N hN => heap_alloc_old w.drew _ hN;have hsz : (w.drew.alloc (.cells cur e)).heap.size = w.heap.size + 1 := by
    show (w.drew.heap.push _).size = _;rw [Array.size_push];rfl
   refine ⟨s,⟨fun _ => none,fun k m => if k = 0 ∧ m = 0 then some (.slice (some ⟨w.heap.size,0,none⟩) 0 G) else none⟩,0,.slice (some ⟨w.heap.size,0,none⟩) 0 G,rfl,?_,⟨fun m hm => ?_,_,rfl,.inr ⟨w.heap.size,G,cur,rfl,hnew,Nat.zero_le _,hG,hc,fun o _ h => ?_⟩⟩,fun N hN => ?_,⟨⟨fun _ _ h => h,fun b o hs => cell_block (hold b (hlt b o hs)),fun _ _ h => h⟩,fun B o h => ?_,rfl,rfl,rfl,by omega,hold,fun _ _ h => .inl h,fun _ _ h => .inl h⟩⟩
   ·rw [TV.P];exact ⟨⟨_,G,rfl,Nat.zero_le _,by unfold maxLen at hG;omega,(fun _ h => by cases h),fun i row h => by simp [D.pvss] at h⟩,rfl⟩
   ·have hm : 0 < m := hm;exact if_neg (by omega)
   ·have := hlt _ _ h;omega
   ·have hN : some w.heap.size = some N := hN
    cases hN;exact Nat.le_refl _
   ·have := hlt B o h;omega
theorem GrowV_ok (n : Nat) (hn : n ≤ 100000000) : FnO Tryz.prog 75 [.v (.slice none 0 0),.v (.int .i64 n)] 29 7 [] := by
 refine grow_O ⟨_,Tryz.func75,rfl,rfl⟩ n (fun h w => ?_) fun h w => ?_
 ·subst h;exact Any8.slices_Grow_room Tryz.laysGrowV none 0 0 0 w (by omega) (by omega) (by omega) (by omega)
 ·obtain ⟨ie,z,hu,hi,hz,hsz,hzc,hs0,hb0,hb1⟩ := (ti_sl (yC (t := 31) tabT (show fnd 31 TT = some (.sl 29 7) by rfl))).2.2.h
  have hx := Any8.slices_Grow_grow Tryz.laysGrowV ie z hi hz (by omega) none 0 0 n [] w (Nat.le_refl _) (by omega) (by
   have := Nat.mul_le_mul (show 0 + n ≤ 100000000 by omega) hb1;omega) (by omega) (by simp) (fun _ => rfl) (fun _ h => by cases h)
  refine hx.mono fun r w' hq => ?_;obtain ⟨rfl,rfl⟩ := hq;have hG : n ≤ grownCap w (0 + n) 0 (Tryz.laysGrowV_ren.t 25) := Nat.le_trans (by omega) (grownCap_ge w (0 + n) 0 _);refine ⟨_,_,rfl,rfl,?_,grownCap_le_maxLen w _ _ _ (by unfold maxLen;omega)⟩;simp only [Array.size_append,List.size_toArray,List.length_nil,size_zeroCells,hzc];omega
open Go.RowKit
variable {md me : Bool}
def st0 : St := ⟨0,vl0,0,ByteArray.empty,vl0,[]⟩
def stsD (l : List St) : D := .sl false 18 l stD st0
def vssD (l : List (List Vl)) : D := .sl false 1 l (fun x => [vsD x]) []
def caS (f : Vl) (l : List Vl) : St := ⟨2,vl0,0,ByteArray.empty,f,l⟩
def attS (h : List Ob) (v : Vl) (s : ByteArray) (l : List Vl) : List St := if (spS h v s).2.2 = true then [caS (spS h v s).1 ((spS h v s).2.1 ++ l)] else []
def ctL (L : List (List Vl)) (k : Nat) : List Vl := (L.take k).flatten
theorem ct_next {L : List (List Vl)} {k : Nat} (h : k < L.length) : ctL L (k + 1) = ctL L k ++ L.getD k [] := by
 unfold ctL;rw [List.take_add_one,List.getElem?_eq_getElem h,List.flatten_append,List.getD_eq_getElem?_getD,List.getElem?_eq_getElem h];simp
theorem ct_le (L : List (List Vl)) (k : Nat) : (ctL L k).length ≤ (ctL L L.length).length := by
 unfold ctL;rw [List.take_length]
 conv => rhs;rw [← List.take_append_drop k L,List.flatten_append,List.length_append]
 omega
theorem ct_two (a b : List Vl) : ctL [a,b] [a,b].length = a ++ b := by simp [ctL]
theorem SubP.slrRows {α : Type} {m : Bool} {sz : Nat} {rows : List (List D)} {l : List α} {f : α → List D} {e : α} (h : RowsP rows (l.map f)) : SubP (.slr m sz rows) (.sl m sz l f e) := fun w s v hv => by
 have h1 := rowsP_sl (m := m) (sz := sz) h (w := w) (s := s) (v := v) hv;rw [yI,List.map_map] at h1;exact h1
theorem spS_2 (h : List Ob) (v : Vl) (s : ByteArray) : (spS h v s).2.1.length ≤ 1 := by
 unfold spS;repeat' split
 all_goals first | exact Nat.le_refl _ | exact Nat.zero_le _
theorem ConcatV_ok (L : List (List Vl)) (hl : (ctL L L.length).length ≤ 100000000) (hL : L.length ≤ 1000) : FnO Tryz.prog 42 [vssD L] 29 7 ((ctL L L.length).map vlD) := by
 refine fnO_ev Tryz.func42 rfl rfl rfl rfl rfl rfl ?_;intro w0 s0 mx;refine ev_R tabT [] 100 ?_;refine ev_R tabT [] 200 ?_;refine zB ?_;refine ev_R tabT [] 300 ?_;refine zM ?_;refine zX (ι := {k : Nat // k ≤ L.length}) [0,9,10] [] 350 (fun x => [(3,.v (.int .i64 ((ctL L x.1).length : Nat))),(11,.v (.int .i64 x.1))]) (fun _ => []) (fun x => L.length - x.1) ⟨0,Nat.zero_le _⟩ ?_;refine ⟨⟨le_t,le_o,rfl,rfl⟩,fun x => ?_⟩;have hk : x.1 ≤ L.length := x.2;have hf := ct_le L (x.1 + 1);have hn : ∀ h : x.1 < L.length,(ctL L (x.1 + 1)).length = (ctL L x.1).length + (L.getD ((x.1 : Nat) : Int).toNat []).length := fun h => by rw [ct_next h,List.length_append];rfl
 have hf0 := ct_le L x.1;refine ev_R tabT [] 400 ?_;refine zB ?_;refine zT (fun c3 => ?_) (fun c3 => ?_)
 ·
  refine zK (zA ?_);refine zB ?_;refine zM ?_;refine ev_R tabT [] 500 ?_;refine zB (zE tabT [] 600 rfl ?_);repeat (first | refine zG ?_ | refine zH ?_ | refine zR (by first | (have h9 := hn c3;exact ini (by omega) (by omega)) | first | exact trivial | omega | exact ini (by omega) (by omega) | (intro hh;simp at hh;exact ini (by omega) (by omega)) | (intro hh;simp at hh ⊢;omega) | (simp at *;omega) | (simp_all;done)) ?_)
  refine zC (zA ?_);refine ev_R tabT [] 700 ?_;refine zT (fun c6 => ?_) (fun c6 => ?_)
  ·
   omega
  ·
   refine zK (zJ (zA ?_));refine ev_Q tabT [] 900 ?_;exact zQ (⟨x.1 + 1,by omega⟩) ⟨⟨Sub.int (by rw [ct_next c3,List.length_append];push_cast;rfl),Sub.int (by push_cast;rfl),le_t⟩,le_o,rfl,rfl⟩ (by show L.length - (x.1 + 1) < L.length - x.1;omega)
 ·
  refine yB (zU (zW (zS (zA ?_))));refine zB (zE tabT [24] 1000 rfl ?_);refine zF ?_;refine sat_fnO _ _ _ (GrowV_ok _ (by have := ct_le L x.1;omega)) ?_;refine zF ?_;refine zC (zA ?_);refine zB ?_;refine ev_R tabT [] 1100 ?_;refine zM ?_;refine zX (ι := {k : Nat // k ≤ L.length}) [25,26] [] 1150 (fun y => [(27,.v (.int .i64 y.1)),(6,.own 401 7 ((ctL L y.1).map vlD))]) (fun y => [(401,.row 29 7 ((ctL L y.1).map vlD).length)]) (fun y => L.length - y.1) ⟨0,Nat.zero_le _⟩ ?_;refine ⟨⟨le_t,le_o,rfl,rfl⟩,fun y => ?_⟩;have hky : y.1 ≤ L.length := y.2;have hfy := ct_le L (y.1 + 1);have hfy0 := ct_le L y.1;have hny : ∀ h : y.1 < L.length,(ctL L (y.1 + 1)).length = (ctL L y.1).length + (L.getD ((y.1 : Nat) : Int).toNat []).length := fun h => by rw [ct_next h,List.length_append];rfl
  refine ev_R tabT [] 1200 ?_;refine zB ?_;refine zT (fun c11 => ?_) (fun c11 => ?_)
  ·
   refine zK (zA ?_);refine zB ?_;refine zM ?_;refine ev_R tabT [] 1300 ?_;refine zE tabT [] 1400 rfl ?_;repeat (first | refine zG ?_ | refine zH ?_ | refine zR (by first | (have := hny c11;simp only [List.length_map];omega) | first | exact trivial | omega | exact ini (by omega) (by omega) | (intro hh;simp at hh;exact ini (by omega) (by omega)) | (intro hh;simp at hh ⊢;omega) | (simp at *;omega) | (simp_all;done)) ?_)
   refine zC (zJ (zA ?_));refine ev_Q tabT [] 1500 ?_;exact zQ (⟨y.1 + 1,by omega⟩) ⟨⟨Sub.int (by push_cast;rfl),Sub.own (by rw [ct_next c11,List.map_append];rfl),le_t⟩,⟨⟨rfl,rfl,by show _ = (List.map vlD (ctL L (y.1 + 1))).length;rw [ct_next c11];simp⟩,le_o⟩,rfl,rfl⟩ (by show L.length - (y.1 + 1) < L.length - y.1;omega)
  ·
   refine yB (zU (zW (zS (zA ?_))));refine ev_R tabT [] 1600 ?_;refine zL ?_;have e : y.1 = L.length := by omega
   exact FinO.ret rfl rfl (by rw [e]) (by rw [e])
theorem cmpSpecial_ok (h : List Ob) (v : Vl) (s : ByteArray) (l : List Vl) (hh : HpIn h) (g : Uh h) (hv : v.k = 6 → isObj h v.r = true) (hl : l.length ≤ 1000000) : Fn Tryz.prog 12 [hpD md h,.agg (vlD v),.v (.string s),vsD l] (stsD (attS h v s l)) := by
 refine yD tabT Tryz.func12 rfl rfl rfl rfl rfl rfl ?_;intro w0 s0 mx;refine ev_R tabT [] 100 ?_;refine zB (zE tabT [] 200 rfl ?_);refine zF ?_;refine zO _ (Special_ok _ _ _ (by first | assumption | omega | (simp_all;done)) (by first | assumption | omega | (simp_all;done)) (by first | assumption | omega | (simp_all;done))) rfl ?_;refine zF ?_;refine zC (zA ?_);refine zB ?_;refine ev_R tabT [] 300 ?_;refine zT (fun c2 => ?_) (fun c2 => ?_)
 ·
  refine ev_R tabT [] 400 ?_;refine zL (zN ?_);exact FinV.ret rfl (SubP.nilSl (by rw [attS,if_neg (by simp [c2])]))
 ·
  refine zK (zA ?_);refine zB (zZ tabT [26] [[],[],[],[1,2],[1,2,3],[0,1,2,3,4],[0,1,2,3,4,5],[0,1,2,3,4,5,6]] 500 mixT (by kernel_rfl) rfl ?_);refine zF ?_;refine sat_fnO _ _ _ ((ConcatV_ok [(spS h v s).2.1,l] (by have := spS_2 h v s;rw [ct_two,List.length_append];omega) (by show 2 ≤ 1000;omega)).args ⟨SubP.slrSl rfl,trivial⟩) ?_;refine zF ?_;refine zC (zA (zL ?_));rw [attS,if_pos (by simpa using c2)];exact FinV.ret rfl (SubP.slrRows ⟨by repeat (first | exact trivial | exact SubP.refl _ | exact SubP.nilSl rfl | exact SubP.ownSl (by rw [ct_two];rfl) | refine ⟨?_,?_⟩),trivial⟩)
theorem CallOf_ok (f : Vl) (l : List Vl) : Fn Tryz.prog 86 [.agg (vlD f),vsD l] (.agg (stD (caS f l))) := by
 refine yD tabT Tryz.func86 rfl rfl rfl rfl rfl rfl ?_;intro w0 s0 mx;refine ev_R tabT [] 100 ?_;refine ev_R tabT [] 200 ?_;refine zL ?_;exact FinV.ret rfl (SubP.agg (by repeat (first | exact trivial | exact SubP.refl _ | exact SubP.nilSl rfl | refine ⟨?_,?_⟩)))
theorem Specially_ok (h : List Ob) (v : Vl) (s : ByteArray) (l : List Vl) (hh : HpIn h) (g : Uh h) (hv : v.k = 6 → isObj h v.r = true) (hl : l.length ≤ 1000000) : Fn Tryz.prog 45 [hpD md h,.agg (vlD v),.v (.string s),vsD l] (.tup [.agg (stD (caS (spS h v s).1 ((spS h v s).2.1 ++ l))),.v (.bool (spS h v s).2.2)]) := by
 refine yD tabT Tryz.func45 rfl rfl rfl rfl rfl rfl ?_;intro w0 s0 mx;refine ev_R tabT [] 100 ?_;refine zB (zE tabT [] 200 rfl ?_);refine zF ?_;refine zO _ (Method_ok _ _ _ (by first | assumption | omega | (simp_all;done)) (by first | assumption | omega | (simp_all;done)) (by first | assumption | omega | (simp_all;done))) rfl ?_;refine zF ?_;refine zC (zA ?_);refine zB (zZ tabT [25] [[],[],[],[1,2],[1,2,3],[0,1,2,3,4],[],[0,1,2,3,4,5],[0,1,2,3,4,5,6,7]] 300 mixT (by kernel_rfl) rfl ?_);refine zF ?_;refine sat_fnO _ _ _ ((ConcatV_ok [(spS h v s).2.1,l] (by have := spS_2 h v s;rw [ct_two,List.length_append];omega) (by show 2 ≤ 1000;omega)).args ⟨SubP.slrSl rfl,trivial⟩) ?_;refine zF ?_;refine zO _ ((CallOf_ok _ ((spS h v s).2.1 ++ l)).args ⟨SubP.refl _,SubP.ownSl (by simp [ctL]),trivial⟩) rfl ?_;refine zF ?_;refine zC (zA (zL ?_));exact FinV.ret rfl (SubP.refl _)
theorem attempts_ok (h : List Ob) (v : Vl) (s : ByteArray) (l : List Vl) (hh : HpIn h) (g : Uh h) (hv : v.k = 6 → isObj h v.r = true) (hl : l.length ≤ 1000000) : Fn Tryz.prog 18 [hpD md h,.agg (vlD v),.v (.string s),vsD l] (stsD (attS h v s l)) := by
 refine yD tabT Tryz.func18 rfl rfl rfl rfl rfl rfl ?_;intro w0 s0 mx;refine ev_R tabT [] 100 ?_;refine zB ?_;refine zB (zE tabT [] 200 rfl ?_);refine zF ?_;refine zO _ (Specially_ok _ _ _ _ (by first | assumption | omega | (simp_all;done)) (by first | assumption | omega | (simp_all;done)) (by first | assumption | omega | (simp_all;done)) (by first | assumption | omega | (simp_all;done))) rfl ?_;refine zF ?_;refine zC (zA ?_);refine ev_R tabT [] 300 ?_;refine zT (fun c2 => ?_) (fun c2 => ?_)
 ·
  refine ev_R tabT [] 400 ?_;refine zL (zN ?_);exact FinV.ret rfl (SubP.slrSl (by rw [attS,if_pos (by simpa using c2)];rfl))
 ·
  refine zK (zA ?_);refine ev_R tabT [] 500 ?_;refine zL ?_;exact FinV.ret rfl (SubP.nilSl (by rw [attS,if_neg (by simp [c2])]))
variable {md me : Bool}
def rD (b : Bool) (n : Nat) : D := .agg [.v (.bool b),natD n]
theorem cmp_ge {a b : Nat} (h : 0 ≤ cmpN a b) : b ≤ a := by
 rcases Nat.lt_or_ge a b with h1 | h1
 ·rw [cmp_lt h1] at h;omega
 ·exact h1
theorem cmp_le {a b : Nat} (h : ¬ 0 ≤ cmpN a b) : a ≤ b := by
 rcases Nat.lt_or_ge b a with h1 | h1
 ·rw [cmp_gt h1] at h;omega
 ·exact h1
theorem cmp_nge {a b : Nat} (h : ¬ 0 ≤ cmpN a b) : ¬ b ≤ a := fun h1 => by
 rcases Nat.lt_or_ge b a with h2 | h2
 ·rw [cmp_gt h2] at h;omega
 ·rw [cmp_eq (by omega)] at h;omega
theorem IntOf3_ok (b : Bool) (l : List Nat) (hg : Lg l) (hl : l.length ≤ 100000000) : Fn Tryz.prog 117 [.agg [.v (.bool b),usD l]] (rD b (VL l)) := by
 refine yD tabT Tryz.func117 rfl rfl rfl rfl rfl rfl ?_;intro w0 s0 mx;refine ev_R tabT [] 100 ?_;refine zB (zZ tabT [] [[],[0],[],[2],[2,3],[0,1,2,3,4],[0,1,2,3,4,5]] 200 mixT (by kernel_rfl) rfl ?_);refine zF ?_;refine zO _ (Of3_ok _ (by first | assumption | omega | (simp_all;done)) (by first | assumption | omega | (simp_all;done))) rfl ?_;refine zF ?_;refine zC (zA (zL ?_));exact FinV.ret rfl (SubP.refl _)
theorem IntMinus_ok (b : Bool) (n : Nat) : Fn Tryz.prog 119 [rD b n] (rD (!b && decide (0 < n)) n) := by
 refine yD tabT Tryz.func119 rfl rfl rfl rfl rfl rfl ?_;intro w0 s0 mx;refine ev_R tabT [] 100 ?_;refine ev_R tabT [] 200 ?_;refine zL ?_;exact FinV.ret rfl (SubP.agg ⟨SubP.bool (by rw [dig_len]),SubP.refl _,trivial⟩)
theorem qU (b1 b2 : Bool) (n1 n2 : Nat) (h1 : (dig n1).length ≤ 100000000) (h2 : (dig n2).length ≤ 100000000) : Fn Tryz.prog 118 [rD b1 n1,rD b2 n2] (rD (plB b1 n1 b2 n2).1 (plB b1 n1 b2 n2).2) := by
 refine yD tabT Tryz.func118 rfl rfl rfl rfl rfl rfl ?_;intro w0 s0 mx;refine ev_R tabT [] 100 ?_;refine zB ?_;refine zM ?_;refine ev_R tabT [] 200 ?_;refine zT (fun c1 => ?_) (fun c1 => ?_)
 ·
  refine zB (zZ tabT [] [[],[0],[],[2],[],[4],[2,3,4,5],[0,1,2,3,4,5,6],[0,1,2,3,4,5,6,7]] 300 mixT (by kernel_rfl) rfl ?_);refine zF ?_;refine zO _ (Plus3_ok n1 n2 h1 h2) rfl ?_;refine zF ?_;refine zC (zA (zL (zP (zN ?_))));exact FinV.ret rfl (SubP.of_eq (by rw [plB,if_pos (by simpa using c1)];rfl))
 ·
  refine zB (zE tabT [] 400 rfl ?_);refine zF ?_;refine zO _ (Compare3_ok _ _ (by first | assumption | omega | (simp_all;done)) (by first | assumption | omega | (simp_all;done))) rfl ?_;refine zF ?_;refine zC (zA ?_);refine zT (fun c3 => ?_) (fun c3 => ?_)
  ·
   refine zB (zZ tabT [] [[],[0],[],[2],[],[4],[2,3,4,5],[0,1,2,3,4,5,6],[0,1,2,3,4,5,6,7]] 500 mixT (by kernel_rfl) rfl ?_);refine zF ?_;refine zO _ (Minus3_ok n1 n2 (cmp_ge (by omega)) h1) rfl ?_;refine zF ?_;refine zC (zA (zL (zP (zN ?_))));exact FinV.ret rfl (SubP.of_eq (by rw [plB,if_neg (by simpa using c1),if_pos (cmp_ge (by omega))];rfl))
  ·
   refine zK (zJ (zA ?_));refine zB (zZ tabT [] [[],[0],[],[2],[],[4],[2,3,4,5],[0,1,2,3,4,5,6],[0,1,2,3,4,5,6,7]] 600 mixT (by kernel_rfl) rfl ?_);refine zF ?_;refine zO _ (Minus3_ok n2 n1 (cmp_le (by omega)) h2) rfl ?_;refine zF ?_;refine zC (zA (zL ?_));exact FinV.ret rfl (SubP.of_eq (by rw [plB,if_neg (by simpa using c1),if_neg (cmp_nge (by omega))];rfl))
variable {md me : Bool}
theorem plB_Z (b1 : Bool) (n1 : Nat) (b2 : Bool) (n2 : Nat) : ZI (plB b1 n1 b2 n2).1 (plB b1 n1 b2 n2).2 = ZI b1 n1 + ZI b2 n2 := by
 unfold plB;by_cases h : b1 = b2
 ·subst h;rw [if_pos rfl]
  cases b1 <;> unfold ZI <;> simp <;> omega
 ·rw [if_neg h];by_cases h2 : n2 ≤ n1
  ·rw [if_pos h2]
   cases b1 <;> cases b2 <;> unfold ZI <;> simp at * <;> omega
  ·rw [if_neg h2]
   cases b1 <;> cases b2 <;> unfold ZI <;> simp at * <;> omega
theorem plB_le (b1 : Bool) (n1 : Nat) (b2 : Bool) (n2 : Nat) : (plB b1 n1 b2 n2).2 ≤ n1 + n2 := by
 unfold plB;split
 ·exact Nat.le_refl _
 ·split
  ·show n1 - n2 ≤ n1 + n2;omega
  ·show n2 - n1 ≤ n1 + n2;omega
theorem dig_addL {x y k : Nat} (hx : (dig x).length ≤ k) (hy : (dig y).length ≤ k) : (dig (x + y)).length ≤ k + 1 := by
 have h1 := Nat.lt_of_lt_of_le (dig_lt x) (Nat.pow_le_pow_right (by decide) hx);have h2 := Nat.lt_of_lt_of_le (dig_lt y) (Nat.pow_le_pow_right (by decide) hy);refine qH ?_;rw [Nat.pow_succ];generalize 65536 ^ k = B at *;omega
theorem dig_mulL {x y k m : Nat} (hx : (dig x).length ≤ k) (hy : (dig y).length ≤ m) : (dig (x * y)).length ≤ k + m := by
 have h1 := Nat.lt_of_lt_of_le (dig_lt x) (Nat.pow_le_pow_right (by decide) hx);have h2 := Nat.lt_of_lt_of_le (dig_lt y) (Nat.pow_le_pow_right (by decide) hy);refine qH ?_;rw [Nat.pow_add];exact Nat.mul_lt_mul'' h1 h2
theorem dig_plB {b1 b2 : Bool} {x y k : Nat} (hx : (dig x).length ≤ k) (hy : (dig y).length ≤ k) : (dig (plB b1 x b2 y).2).length ≤ k + 1 := Nat.le_trans (yY (plB_le _ _ _ _)) (dig_addL hx hy)
theorem dig_V40 {l : List Nat} (hg : Lg l) (h : l.length ≤ 40) : (dig (VL l)).length ≤ 80 := by
 refine qH ?_;have h1 := Nat.lt_of_lt_of_le (L_lt hg) (Nat.pow_le_pow_right (by decide) h);rw [show (65536 : Nat) ^ 80 = (65536 ^ 2) ^ 40 from Nat.pow_mul 65536 2 40];exact h1
theorem dm_Td {s t : Bool} {x y : Nat} (h : (s != t) = true ∧ 0 < ((dig (x % y)).length : Int)) : dmQ s t x y = x / y + 1 ∧ dmR s t x y = y - x % y := by
 have h1 : s ≠ t := by simpa using h.1
 have h2 : 0 < x % y := by have := dig_len (n := x % y);rw [decide_eq_true h.2] at this;exact of_decide_eq_true this.symm
 exact ⟨by rw [dmQ,if_pos ⟨h1,h2⟩],by rw [dmR,if_pos ⟨h1,h2⟩]⟩
theorem dm_Fd {s t : Bool} {x y : Nat} (h : ((s != t) && decide (0 < ((dig (x % y)).length : Int))) = false) : dmQ s t x y = x / y ∧ dmR s t x y = x % y := by
 have h1 : ¬ (s ≠ t ∧ 0 < x % y) := by
  rintro ⟨h1,h2⟩;have h3 : (s != t) = true := by simpa using h1
  rw [h3,Bool.true_and,dig_len,decide_eq_false_iff_not] at h;exact h h2
 exact ⟨by rw [dmQ,if_neg h1],by rw [dmR,if_neg h1]⟩
theorem IntTimes_ok (b1 b2 : Bool) (n1 n2 : Nat) (h1 : (dig n1).length ≤ 1000000) (h2 : (dig n2).length ≤ 1000000) : Fn Tryz.prog 122 [rD b1 n1,rD b2 n2] (rD ((b1 != b2) && decide (0 < n1 * n2)) (n1 * n2)) := by
 refine yD tabT Tryz.func122 rfl rfl rfl rfl rfl rfl ?_;intro w0 s0 mx;refine ev_R tabT [] 100 ?_;refine zB (zE tabT [] 200 rfl ?_);refine zF ?_;refine zO _ (Times3_ok _ _ (by first | assumption | omega | (simp_all;done)) (by first | assumption | omega | (simp_all;done))) rfl ?_;refine zF ?_;refine zC (zA ?_);refine ev_R tabT [] 300 ?_;refine zL ?_;exact FinV.ret rfl (SubP.agg ⟨SubP.bool (by rw [dig_len]),SubP.refl _,trivial⟩)
theorem IntFloor_ok (b1 b2 : Bool) (n1 n2 : Nat) (h1 : (dig n1).length ≤ 1000000) (h2 : (dig n2).length ≤ 1000000) (h0 : 0 < n2) : Fn Tryz.prog 120 [rD b1 n1,rD b2 n2] (.tup [rD (b1 != b2) (dmQ b1 b2 n1 n2),rD b2 (dmR b1 b2 n1 n2)]) := by
 have hq : (dig (n1 / n2)).length ≤ 1000000 := Nat.le_trans (yY (Nat.div_le_self _ _)) h1;refine yD tabT Tryz.func120 rfl rfl rfl rfl rfl rfl ?_;intro w0 s0 mx;refine ev_R tabT [] 100 ?_;refine zB (zE tabT [] 200 rfl ?_);refine zF ?_;refine zO _ (Divide3_ok n1 n2 h1 h2 h0) rfl ?_;refine zF ?_;refine zC (zA ?_);refine zB ?_;refine ev_R tabT [] 300 ?_;refine zT (fun c2 => ?_) (fun c2 => ?_)
 ·
  refine zZ tabT [] [[],[],[0,1],[],[3],[],[0,1,2,3,4,5],[0,1,2,3,4,5,6],[0,1,2,3,4,5,6,7]] 400 mixT (by kernel_rfl) rfl ?_;refine zF ?_;refine zO _ (Small3_ok 1 (by omega) (by omega)) rfl ?_;refine zF ?_;refine zO _ (Plus3_ok _ 1 (by omega) (by rw [dig_1];decide)) rfl ?_;refine zF ?_;refine zO _ (Minus3_ok _ _ (Nat.le_of_lt (Nat.mod_lt _ h0)) (by omega)) rfl ?_;refine zF ?_;refine zC (zA ?_);refine zB (zZ tabT [] [[],[0],[],[2],[0,1,2,3],[],[0,1,2,3,4,5],[],[7],[],[7,8,9],[0,1,2,3,4,5,6],[0,1,2,3,4,5,6,7,8,9,10,11]] 500 mixT (by kernel_rfl) rfl ?_);refine zF ?_;refine zC (zA (zL ?_));obtain ⟨hqe,hre⟩ := dm_Td c2;exact FinV.ret rfl (SubP.of_eq (by rw [hqe,hre];rfl))
 ·
  refine zK (zA ?_);refine zB (zZ tabT [] [[],[0],[],[2],[0,1,2,3],[],[0,1,2,3,4,5],[],[7],[],[7,8,9],[0,1,2,3,4,5,6],[0,1,2,3,4,5,6,7,8,9,10,11]] 500 mixT (by kernel_rfl) rfl ?_);refine zF ?_;refine zC (zA (zL ?_));obtain ⟨hqe,hre⟩ := dm_Fd c2;exact FinV.ret rfl (SubP.of_eq (by rw [hqe,hre];rfl))
structure RgN where
 sa : Bool
 na : Nat
 sb : Bool
 nb : Nat
 sc : Bool
 nc : Nat
def RgN.g (x : RgN) : Bool × Nat := plB x.sb x.nb (!x.sa && decide (0 < x.na)) x.na
def RgN.q (x : RgN) : Bool × Nat := (x.g.1 != x.sc,dmQ x.g.1 x.sc x.g.2 x.nc)
def RgN.r (x : RgN) : Nat := dmR x.g.1 x.sc x.g.2 x.nc
def RgN.q2 (x : RgN) : Bool × Nat := if 0 < x.r then plB x.q.1 x.q.2 false 1 else x.q
def RgN.cnt (x : RgN) : Bool × Nat := if x.q2.1 = true then (false,0) else x.q2
def RgN.p (x : RgN) : Bool × Nat := plB x.cnt.1 x.cnt.2 true 1
def RgN.t (x : RgN) : Bool × Nat := ((x.sc != x.p.1) && decide (0 < x.nc * x.p.2),x.nc * x.p.2)
def RgN.last (x : RgN) : Bool × Nat := plB x.sa x.na x.t.1 x.t.2
def RgN.D (x : RgN) : D := .agg [.v (.bool x.sa),natD x.na,.v (.bool x.sc),natD x.nc,.v (.bool x.cnt.1),natD x.cnt.2,.v (.bool x.last.1),natD x.last.2]
def rgL (sa sb sc : Bool) (la lb lc : List Nat) : List D := [.v (.bool sa),usD la,.v (.bool sb),usD lb,.v (.bool sc),usD lc]
theorem RgN.sizes (x : RgN) {k : Nat} (ha : (dig x.na).length ≤ k) (hb : (dig x.nb).length ≤ k) (hc : (dig x.nc).length ≤ k) (h0 : 0 < x.nc) (h1 : 1 ≤ k) : (dig x.g.2).length ≤ k + 1 ∧ (dig x.q.2).length ≤ k + 1 ∧ (dig x.r).length ≤ k ∧ (dig x.q2.2).length ≤ k + 2 ∧ (dig x.cnt.2).length ≤ k + 2 ∧ (dig x.p.2).length ≤ k + 3 ∧ (dig x.t.2).length ≤ k + (k + 3) := by
 have g := dig_plB (b1 := x.sb) (b2 := (!x.sa && decide (0 < x.na))) hb ha;have q : (dig x.q.2).length ≤ k + 1 := Nat.le_trans (yY (dmQ_le h0)) g;have r : (dig x.r).length ≤ k := Nat.le_trans (yY (dmR_lt h0)) hc;have q2 : (dig x.q2.2).length ≤ k + 2 := by
  unfold RgN.q2;split
  ·exact dig_plB q (by rw [dig_1];omega)
  ·omega
 have c : (dig x.cnt.2).length ≤ k + 2 := by
  unfold RgN.cnt;split
  ·rw [qG];exact Nat.zero_le _
  ·exact q2
 have p : (dig x.p.2).length ≤ k + 3 := dig_plB c (by rw [dig_1];omega);exact ⟨g,q,r,q2,c,p,dig_mulL hc p⟩
theorem dig_posI (n : Nat) : (0 < ((dig n).length : Int)) ↔ 0 < n := by
 have := dig_len (n := n);rw [Bool.eq_iff_iff,decide_eq_true_eq,decide_eq_true_eq] at this;exact this
theorem RgN.q2_T {x : RgN} (h : 0 < x.r) : x.q2 = plB x.q.1 x.q.2 false 1 := if_pos h
theorem RgN.q2_F {x : RgN} (h : ¬ 0 < x.r) : x.q2 = x.q := if_neg h
theorem RgN.cnt_T {x : RgN} (h : x.q2.1 = true) : x.cnt = (false,0) := if_pos h
theorem RgN.cnt_F {x : RgN} (h : ¬ x.q2.1 = true) : x.cnt = x.q2 := if_neg h
theorem RangeOf_ok (sa sb sc : Bool) (la lb lc : List Nat) (hla : la.length ≤ 40) (hlb : lb.length ≤ 40) (hlc : lc.length ≤ 40) (ga : Lg la) (gb : Lg lb) (gc : Lg lc) (h0 : 0 < VL lc) : Fn Tryz.prog 87 [.agg (rgL sa sb sc la lb lc)] (RgN.D (RgN.mk sa (VL la) sb (VL lb) sc (VL lc))) := by
 have da := dig_V40 ga hla;have db := dig_V40 gb hlb;have dc := dig_V40 gc hlc;obtain ⟨z1,z2,z3,z4,z5,z6,z7⟩ := RgN.sizes (RgN.mk sa (VL la) sb (VL lb) sc (VL lc)) (k := 80) da db dc h0 (by decide);have hrp := dig_posI (RgN.r (RgN.mk sa (VL la) sb (VL lb) sc (VL lc)));refine yD tabT Tryz.func87 rfl rfl rfl rfl rfl rfl ?_;intro w0 s0 mx;refine ev_R tabT [] 100 ?_;refine zB (zZ tabT [] [[],[0],[0,1],[],[3],[0,1,2,3,4],[0,1,2,3,4,5],[],[0,1,2,3,4,5,6,7]] 200 mixT (by kernel_rfl) rfl ?_);refine zF ?_;refine zO _ (IntOf3_ok sa la ga (by omega)) rfl ?_;refine zF ?_;refine zO _ (IntOf3_ok sc lc gc (by omega)) rfl ?_;refine zF ?_;refine zC (zA ?_);refine zB (zZ tabT [] [[],[0],[0,1],[],[3],[0,1,2,3,4],[0,1,2,3,4,5],[],[0,1,2,3,4,5,6,7]] 300 mixT (by kernel_rfl) rfl ?_);refine zF ?_;refine zO _ (IntOf3_ok sb lb gb (by omega)) rfl ?_;refine zF ?_;refine zO _ (IntMinus_ok sa (VL la)) rfl ?_;refine zF ?_;refine zO _ (qU sb _ (VL lb) (VL la) (by omega) (by omega)) rfl ?_;refine zF ?_;refine zC (zA ?_);refine zB (zE tabT [] 400 rfl ?_);refine zF ?_;refine zO _ (IntFloor_ok _ sc _ (VL lc) (Nat.le_trans z1 (by decide)) (by omega) h0) rfl ?_;refine zF ?_;refine zC (zA ?_);refine zB ?_;refine ev_R tabT [] 500 ?_;refine zT (fun c4 => ?_) (fun c4 => ?_)
 ·
  refine zZ tabT [] [[],[],[0,1],[0,1,2]] 600 mixT (by kernel_rfl) rfl ?_;refine zF ?_;refine zO _ (Number3_ok 1 (by decide) (by decide)) rfl ?_;refine zF ?_;refine zO _ (qU _ false _ 1 (Nat.le_trans z2 (by decide)) (by rw [dig_1];decide)) rfl ?_;refine zF ?_;refine zC (zA ?_);refine zB ?_;refine yN [2,3,5] [1,107,307] 610 [] [(307,.box 60 [.v (.bool (RgN.q2 (RgN.mk sa (VL la) sb (VL lb) sc (VL lc))).1),natD (RgN.q2 (RgN.mk sa (VL la) sb (VL lb) sc (VL lc))).2])] ?_;refine ⟨⟨le_t,⟨⟨rfl,by first | exact Sub.of_eq (by rw [RgN.q2_T (hrp.1 c4)];rfl) | exact Sub.of_eq (by rw [RgN.q2_F (fun h => absurd (hrp.2 h) (by first | exact c4 | exact Int.not_lt.2 c4))];rfl),rfl,by first | exact Sub.of_eq (by rw [RgN.q2_T (hrp.1 c4)];rfl) | exact Sub.of_eq (by rw [RgN.q2_F (fun h => absurd (hrp.2 h) (by first | exact c4 | exact Int.not_lt.2 c4))];rfl),rfl,trivial⟩,le_o⟩,rfl,rfl⟩,?_⟩;refine ev_R tabT [] 700 ?_;refine zT (fun c6 => ?_) (fun c6 => ?_)
  ·
   refine ev_Q tabT [] 800 ?_;refine zA ?_;refine yN [2,3] [1,107] 810 [] [(107,.box 80 [.v (.bool sa),natD (VL la),.v (.bool sc),natD (VL lc),.v (.bool (RgN.cnt (RgN.mk sa (VL la) sb (VL lb) sc (VL lc))).1),natD (RgN.cnt (RgN.mk sa (VL la) sb (VL lb) sc (VL lc))).2,.v (.bool false),.v (.slice none 0 0)])] ?_;refine ⟨⟨le_t,⟨⟨rfl,Sub.refl _,rfl,Sub.refl _,rfl,Sub.refl _,rfl,Sub.refl _,rfl,by first | (rw [RgN.cnt_T (by simpa using c6)];exact Sub.nil0) | (rw [RgN.cnt_T (by simpa using c6)];exact Sub.refl _) | (rw [RgN.cnt_F (by simpa using c6)];exact Sub.refl _),rfl,by first | (rw [RgN.cnt_T (by simpa using c6)];exact Sub.nil0) | (rw [RgN.cnt_T (by simpa using c6)];exact Sub.refl _) | (rw [RgN.cnt_F (by simpa using c6)];exact Sub.refl _),rfl,Sub.refl _,rfl,Sub.refl _,rfl,trivial⟩,le_o⟩,rfl,rfl⟩,?_⟩;refine zB (zZ tabT [] [[],[0],[],[2],[],[4],[],[4,5,6],[2,3,4,5,6,7],[0,1,2,3,4,5,6,7,8],[0,1,2,3,4,5,6,7,8,9],[0,1,2,3,4,5,6,7,8,9,10]] 900 mixT (by kernel_rfl) rfl ?_);refine zF ?_;refine zO _ (Number3_ok (-1) (by decide) (by decide)) rfl ?_;refine zF ?_;refine zO _ (qU _ true _ 1 (Nat.le_trans z5 (by decide)) (by rw [dig_1];decide)) rfl ?_;refine zF ?_;refine zO _ (IntTimes_ok sc _ (VL lc) _ (by omega) (Nat.le_trans z6 (by decide))) rfl ?_;refine zF ?_;refine zO _ (qU sa _ (VL la) _ (by omega) (Nat.le_trans z7 (by decide))) rfl ?_;refine zF ?_;refine zC (zA ?_);refine ev_R tabT [] 1000 ?_;refine zL ?_;exact FinV.ret rfl (SubP.of_eq rfl)
  ·
   refine zK (zA ?_);refine yN [2,3] [1,107] 710 [] [(107,.box 80 [.v (.bool sa),natD (VL la),.v (.bool sc),natD (VL lc),.v (.bool (RgN.cnt (RgN.mk sa (VL la) sb (VL lb) sc (VL lc))).1),natD (RgN.cnt (RgN.mk sa (VL la) sb (VL lb) sc (VL lc))).2,.v (.bool false),.v (.slice none 0 0)])] ?_;refine ⟨⟨le_t,⟨⟨rfl,Sub.refl _,rfl,Sub.refl _,rfl,Sub.refl _,rfl,Sub.refl _,rfl,by first | (rw [RgN.cnt_T (by simpa using c6)];exact Sub.nil0) | (rw [RgN.cnt_T (by simpa using c6)];exact Sub.refl _) | (rw [RgN.cnt_F (by simpa using c6)];exact Sub.refl _),rfl,by first | (rw [RgN.cnt_T (by simpa using c6)];exact Sub.nil0) | (rw [RgN.cnt_T (by simpa using c6)];exact Sub.refl _) | (rw [RgN.cnt_F (by simpa using c6)];exact Sub.refl _),rfl,Sub.refl _,rfl,Sub.refl _,rfl,trivial⟩,le_o⟩,rfl,rfl⟩,?_⟩;refine zB (zZ tabT [] [[],[0],[],[2],[],[4],[],[4,5,6],[2,3,4,5,6,7],[0,1,2,3,4,5,6,7,8],[0,1,2,3,4,5,6,7,8,9],[0,1,2,3,4,5,6,7,8,9,10]] 900 mixT (by kernel_rfl) rfl ?_);refine zF ?_;refine zO _ (Number3_ok (-1) (by decide) (by decide)) rfl ?_;refine zF ?_;refine zO _ (qU _ true _ 1 (Nat.le_trans z5 (by decide)) (by rw [dig_1];decide)) rfl ?_;refine zF ?_;refine zO _ (IntTimes_ok sc _ (VL lc) _ (by omega) (Nat.le_trans z6 (by decide))) rfl ?_;refine zF ?_;refine zO _ (qU sa _ (VL la) _ (by omega) (Nat.le_trans z7 (by decide))) rfl ?_;refine zF ?_;refine zC (zA ?_);refine ev_R tabT [] 1000 ?_;refine zL ?_;exact FinV.ret rfl (SubP.of_eq rfl)
 ·
  refine zK (zA ?_);refine zB ?_;refine yN [2,3,5] [1,107,307] 510 [] [(307,.box 60 [.v (.bool (RgN.q2 (RgN.mk sa (VL la) sb (VL lb) sc (VL lc))).1),natD (RgN.q2 (RgN.mk sa (VL la) sb (VL lb) sc (VL lc))).2])] ?_;refine ⟨⟨le_t,⟨⟨rfl,by first | exact Sub.of_eq (by rw [RgN.q2_T (hrp.1 c4)];rfl) | exact Sub.of_eq (by rw [RgN.q2_F (fun h => absurd (hrp.2 h) (by first | exact c4 | exact Int.not_lt.2 c4))];rfl),rfl,by first | exact Sub.of_eq (by rw [RgN.q2_T (hrp.1 c4)];rfl) | exact Sub.of_eq (by rw [RgN.q2_F (fun h => absurd (hrp.2 h) (by first | exact c4 | exact Int.not_lt.2 c4))];rfl),rfl,trivial⟩,le_o⟩,rfl,rfl⟩,?_⟩;refine ev_R tabT [] 700 ?_;refine zT (fun c6 => ?_) (fun c6 => ?_)
  ·
   refine ev_Q tabT [] 800 ?_;refine zA ?_;refine yN [2,3] [1,107] 810 [] [(107,.box 80 [.v (.bool sa),natD (VL la),.v (.bool sc),natD (VL lc),.v (.bool (RgN.cnt (RgN.mk sa (VL la) sb (VL lb) sc (VL lc))).1),natD (RgN.cnt (RgN.mk sa (VL la) sb (VL lb) sc (VL lc))).2,.v (.bool false),.v (.slice none 0 0)])] ?_;refine ⟨⟨le_t,⟨⟨rfl,Sub.refl _,rfl,Sub.refl _,rfl,Sub.refl _,rfl,Sub.refl _,rfl,by first | (rw [RgN.cnt_T (by simpa using c6)];exact Sub.nil0) | (rw [RgN.cnt_T (by simpa using c6)];exact Sub.refl _) | (rw [RgN.cnt_F (by simpa using c6)];exact Sub.refl _),rfl,by first | (rw [RgN.cnt_T (by simpa using c6)];exact Sub.nil0) | (rw [RgN.cnt_T (by simpa using c6)];exact Sub.refl _) | (rw [RgN.cnt_F (by simpa using c6)];exact Sub.refl _),rfl,Sub.refl _,rfl,Sub.refl _,rfl,trivial⟩,le_o⟩,rfl,rfl⟩,?_⟩;refine zB (zZ tabT [] [[],[0],[],[2],[],[4],[],[4,5,6],[2,3,4,5,6,7],[0,1,2,3,4,5,6,7,8],[0,1,2,3,4,5,6,7,8,9],[0,1,2,3,4,5,6,7,8,9,10]] 900 mixT (by kernel_rfl) rfl ?_);refine zF ?_;refine zO _ (Number3_ok (-1) (by decide) (by decide)) rfl ?_;refine zF ?_;refine zO _ (qU _ true _ 1 (Nat.le_trans z5 (by decide)) (by rw [dig_1];decide)) rfl ?_;refine zF ?_;refine zO _ (IntTimes_ok sc _ (VL lc) _ (by omega) (Nat.le_trans z6 (by decide))) rfl ?_;refine zF ?_;refine zO _ (qU sa _ (VL la) _ (by omega) (Nat.le_trans z7 (by decide))) rfl ?_;refine zF ?_;refine zC (zA ?_);refine ev_R tabT [] 1000 ?_;refine zL ?_;exact FinV.ret rfl (SubP.of_eq rfl)
  ·
   refine zK (zA ?_);refine yN [2,3] [1,107] 710 [] [(107,.box 80 [.v (.bool sa),natD (VL la),.v (.bool sc),natD (VL lc),.v (.bool (RgN.cnt (RgN.mk sa (VL la) sb (VL lb) sc (VL lc))).1),natD (RgN.cnt (RgN.mk sa (VL la) sb (VL lb) sc (VL lc))).2,.v (.bool false),.v (.slice none 0 0)])] ?_;refine ⟨⟨le_t,⟨⟨rfl,Sub.refl _,rfl,Sub.refl _,rfl,Sub.refl _,rfl,Sub.refl _,rfl,by first | (rw [RgN.cnt_T (by simpa using c6)];exact Sub.nil0) | (rw [RgN.cnt_T (by simpa using c6)];exact Sub.refl _) | (rw [RgN.cnt_F (by simpa using c6)];exact Sub.refl _),rfl,by first | (rw [RgN.cnt_T (by simpa using c6)];exact Sub.nil0) | (rw [RgN.cnt_T (by simpa using c6)];exact Sub.refl _) | (rw [RgN.cnt_F (by simpa using c6)];exact Sub.refl _),rfl,Sub.refl _,rfl,Sub.refl _,rfl,trivial⟩,le_o⟩,rfl,rfl⟩,?_⟩;refine zB (zZ tabT [] [[],[0],[],[2],[],[4],[],[4,5,6],[2,3,4,5,6,7],[0,1,2,3,4,5,6,7,8],[0,1,2,3,4,5,6,7,8,9],[0,1,2,3,4,5,6,7,8,9,10]] 900 mixT (by kernel_rfl) rfl ?_);refine zF ?_;refine zO _ (Number3_ok (-1) (by decide) (by decide)) rfl ?_;refine zF ?_;refine zO _ (qU _ true _ 1 (Nat.le_trans z5 (by decide)) (by rw [dig_1];decide)) rfl ?_;refine zF ?_;refine zO _ (IntTimes_ok sc _ (VL lc) _ (by omega) (Nat.le_trans z6 (by decide))) rfl ?_;refine zF ?_;refine zO _ (qU sa _ (VL la) _ (by omega) (Nat.le_trans z7 (by decide))) rfl ?_;refine zF ?_;refine zC (zA ?_);refine ev_R tabT [] 1000 ?_;refine zL ?_;exact FinV.ret rfl (SubP.of_eq rfl)
theorem ceil_key {C q r K : Int} (hC : 0 < C) (h0 : 0 ≤ r) (h1 : r < C) (hK : K = if 0 < r then q + 1 else q) : C * (K - 1) < r + C * q ∧ r + C * q ≤ C * K := by
 subst hK;split
 ·rw [Int.add_sub_cancel,Int.mul_add,Int.mul_one];omega
 ·rw [Int.mul_sub,Int.mul_one];omega
theorem ceil_div {C G K : Int} (hC : 0 < C) (h1 : C * (K - 1) < G) (h2 : G ≤ C * K) : Int.fdiv (G + (C - 1)) C = K := by
 rw [Int.mul_sub,Int.mul_one] at h1;exact floor_unique (r := G + (C - 1) - C * K) (by omega) (Or.inl ⟨hC,by omega,by omega⟩)
theorem ceil_le {C G K : Int} (hC : 0 < C) (h1 : C * (K - 1) < G) (h : G ≤ 0) : K ≤ 0 := by
 by_cases h2 : 0 < K
 ·have := Int.mul_nonneg (Int.le_of_lt hC) (show 0 ≤ K - 1 by omega);omega
 ·omega
theorem ceil_gt {C G K : Int} (hC : 0 < C) (h2 : G ≤ C * K) (h : 0 < G) : 0 < K := by
 by_cases h3 : 0 < K
 ·exact h3
 ·have := Int.mul_le_mul_of_nonneg_left (show K ≤ 0 by omega) (Int.le_of_lt hC);omega
theorem cnt_pos {b : Bool × Nat} {G C : Int} {K : Int} (hC : 0 < C) (h1 : C * (K - 1) < G) (h2 : G ≤ C * K) (hb : ZI b.1 b.2 = K) :
  (if b.1 = true then ((false,0) : Bool × Nat) else b) = (false,(if 0 < G then Int.fdiv (G + (C - 1)) C else 0).natAbs) ∧ 0 ≤ (if 0 < G then Int.fdiv (G + (C - 1)) C else 0) := by
 rw [ceil_div hC h1 h2];obtain ⟨s,n⟩ := b
 cases s with
 | true =>
  rw [if_pos rfl];have hb : -((n : Nat) : Int) = K := hb;by_cases h : 0 < G
  ·have := ceil_gt hC h2 h;omega
  ·rw [if_neg h];exact ⟨rfl,by omega⟩
 | false =>
  rw [if_neg Bool.false_ne_true];have hb : ((n : Nat) : Int) = K := hb;by_cases h : 0 < G
  ·rw [if_pos h];exact ⟨by rw [← hb];rfl,by omega⟩
  ·rw [if_neg h];have := ceil_le hC h1 (by omega);exact ⟨by rw [show n = 0 by omega];rfl,by omega⟩
theorem cnt_rlen (x : RgN) (h0 : 0 < x.nc) : x.cnt = (false,(rlen (ZI x.sa x.na) (ZI x.sb x.nb) (ZI x.sc x.nc)).natAbs) ∧ 0 ≤ rlen (ZI x.sa x.na) (ZI x.sb x.nb) (ZI x.sc x.nc) := by
 obtain ⟨d1,d2⟩ := dm_Z (s := x.g.1) (t := x.sc) (x := x.g.2) h0;have hg : ZI x.g.1 x.g.2 = ZI x.sb x.nb - ZI x.sa x.na := by
  unfold RgN.g;rw [plB_Z,ZI_neg];omega
 rw [hg] at d1 d2;have hfm := Int.mul_fdiv_add_fmod (ZI x.sb x.nb - ZI x.sa x.na) (ZI x.sc x.nc);have hq : ZI x.q2.1 x.q2.2 = if 0 < x.r then Int.fdiv (ZI x.sb x.nb - ZI x.sa x.na) (ZI x.sc x.nc) + 1 else Int.fdiv (ZI x.sb x.nb - ZI x.sa x.na) (ZI x.sc x.nc) := by
  unfold RgN.q2;split
  ·rw [plB_Z];show ZI (x.g.1 != x.sc) _ + 1 = _;rw [← d1];rfl
  ·exact d1
 have hr : x.r < x.nc := by
  show dmR x.g.1 x.sc x.g.2 x.nc < x.nc;have hm := Nat.mod_lt x.g.2 h0;unfold dmR;split <;> omega
 have hd2 : ZI x.sc x.r = Int.fmod (ZI x.sb x.nb - ZI x.sa x.na) (ZI x.sc x.nc) := d2;rw [← hd2] at hfm;generalize Int.fdiv (ZI x.sb x.nb - ZI x.sa x.na) (ZI x.sc x.nc) = q at *;unfold RgN.cnt
 cases hs : x.sc with
 | false =>
  have e1 : ZI false x.nc = ((x.nc : Nat) : Int) := rfl;have e2 : ZI false x.r = ((x.r : Nat) : Int) := rfl;rw [hs,e1,e2] at hfm;have hl : rlen (ZI x.sa x.na) (ZI x.sb x.nb) (ZI false x.nc) = if ZI x.sa x.na < ZI x.sb x.nb then Int.fdiv (ZI x.sb x.nb - ZI x.sa x.na + ((x.nc : Int) - 1)) x.nc else 0 := by
   unfold rlen sgnI;rw [e1,if_neg (show ¬ ((x.nc : Nat) : Int) < 0 by omega),if_neg (show ¬ ((x.nc : Nat) : Int) < 0 by omega),Int.mul_one]
  rw [hl];obtain ⟨k1,k2⟩ := ceil_key (C := x.nc) (q := q) (r := x.r) (K := ZI x.q2.1 x.q2.2) (by omega) (by omega) (by omega) (by rw [hq];split <;> split <;> omega)
  have h := cnt_pos (b := x.q2) (C := x.nc) (G := ZI x.sb x.nb - ZI x.sa x.na) (by omega) (by omega) (by omega) rfl;have e3 : (0 < ZI x.sb x.nb - ZI x.sa x.na) = (ZI x.sa x.na < ZI x.sb x.nb) := propext (by omega);simp only [e3] at h;exact h
 | true =>
  have e1 : ZI true x.nc = -((x.nc : Nat) : Int) := rfl;have e2 : ZI true x.r = -((x.r : Nat) : Int) := rfl;rw [hs,e1,e2,Int.neg_mul] at hfm;have hl : rlen (ZI x.sa x.na) (ZI x.sb x.nb) (ZI true x.nc) = if ZI x.sb x.nb < ZI x.sa x.na then Int.fdiv (ZI x.sa x.na - ZI x.sb x.nb + ((x.nc : Int) - 1)) x.nc else 0 := by
   unfold rlen sgnI;rw [e1,if_pos (show -((x.nc : Nat) : Int) < 0 by omega),if_pos (show -((x.nc : Nat) : Int) < 0 by omega),show -((x.nc : Nat) : Int) * -1 = ((x.nc : Nat) : Int) by omega]
  rw [hl];obtain ⟨k1,k2⟩ := ceil_key (C := x.nc) (q := q) (r := x.r) (K := ZI x.q2.1 x.q2.2) (by omega) (by omega) (by omega) (by rw [hq];split <;> split <;> omega)
  have h := cnt_pos (b := x.q2) (C := x.nc) (G := ZI x.sa x.na - ZI x.sb x.nb) (by omega) (by omega) (by omega) rfl;have e3 : (0 < ZI x.sa x.na - ZI x.sb x.nb) = (ZI x.sb x.nb < ZI x.sa x.na) := propext (by omega);simp only [e3] at h;exact h
def PV.slN (sz : Nat) (rows : List (List PV)) : PV where
 one := true
 str := true
 p := fun w s v => (PV.sl false sz rows).p w s v ∧ (rows = [] → v = .slice none 0 0)
 mono := fun w s w' s' v hx h => ⟨(PV.sl false sz rows).mono w s w' s' v hx h.1,h.2⟩
 cell := fun _ w s v h => (PV.sl false sz rows).cell rfl w s v h.1
 strong := fun _ w s s' v hx h => ⟨(PV.sl false sz rows).strong rfl w s s' v hx h.1,h.2⟩
def slN {α : Type} (sz : Nat) (l : List α) (f : α → List D) : D := .op (PV.slN sz (l.map fun a => D.pvs (f a)))
theorem Sub.slN {α : Type} {sz : Nat} {l : List α} {f : α → List D} {e : α} : Sub (slN sz l f) (.sl false sz l f e) := fun _ _ _ _ h => h.1
section
variable {P : Program} {b : Ba} {ops : Array Oper}
theorem Fn.slN {α : Type} {g : FuncId} {args : List D} {sz : Nat} {l : List α} {f : α → List D} {e : α} (h1 : l = [] → Fn P g args (.v (.slice none 0 0))) (h2 : l ≠ [] → Fn P g args (.sl false sz l f e)) : Fn P g args (slN sz l f) := by
 cases l with
 | nil =>
  refine (h1 rfl).out fun w s v hv => ?_;have hv : v = .slice none 0 0 := hv;subst hv;exact ⟨PV.sl_nil,fun _ => rfl⟩
 | cons x l => exact (h2 (by simp)).out fun w s v hv => ⟨hv,fun h => by simp at h⟩
theorem run_nilNe {T T' e : TypeId} {t3 t4 : Nat} {ty : TypeId} {pos : String} {aft : Array Edge} {rest : List Oper} {tm : List (Nat × TV)} {ow : List (Nat × Own)} {nx : Nat} {K : Ste → Prop} {d : TV} {p : Prop} (hu : P.underlying T = some (.slice e)) (ht : fnd t3 tm = some d)
  (hd : ∀ w s g v,d.P w s g v → ∃ a n c,v = .slice a n c ∧ (a = none ↔ ¬ p)) (h4 : t4 < b.sz) (h : ∀ c : Bool,(c = true ↔ p) → Run P b ops rest ⟨(t4,.pv (PV.lit (.bool c))) :: tm,ow,nx⟩ K) :
  Run P b ops (⟨some t4,.binOp .neq T (.tmp t3) (.const (.slice none 0 0)) T',ty,pos,aft,none⟩ :: rest) ⟨tm,ow,nx⟩ K := by
 intro w s g a Q hr hK;obtain ⟨v,hv,hp⟩ := hr.tm t3 d ht;obtain ⟨ad,n,c,rfl,hn⟩ := hd w s g v hp;refine wpList_step fun K' hK' => ?_;have hw : Region.wanted (⟨some t4,.binOp .neq T (.tmp t3) (.const (.slice none 0 0)) T',ty,pos,aft,none⟩ : Oper) (yielded ops a.tmps) = true := rfl;rw [hw];simp only [if_true];unfold Oper.wp;have hev : a.eval (.tmp t3) = .slice ad n c := by simp [Act.eval,hv]
 have hev0 : a.eval (.const (.slice none 0 0)) = .slice none 0 0 := rfl;have he : (execOp a.eval ⟨some t4,.binOp .neq T (.tmp t3) (.const (.slice none 0 0)) T',ty,pos,aft,none⟩).run P w = .ok (.value (.bool (!ad.isNone))) w := by
  have heq' : (Op.equal T (.slice ad n c) (.slice none 0 0)).run P w = .ok ad.isNone w := eqIn_nil 9999 hu w ad n c;simp [execOp,hev,hev0,eqGuard,binOp,heq']
 rw [he];refine hK' _ _ (h (!ad.isNone) (by cases ad with | none => simpa using hn | some _ => simpa using hn) w s g _ Q ?_ hK);exact (hr.step (acc := []) (acc' := []) (dst := some t4) (out := .pv (PV.lit (.bool (!ad.isNone)))) (v := .bool (!ad.isNone)) (nx := nx) (Stp.refl w s g hr.lt) (fun k c h => by cases h) (fun k c h => by cases h) (Nat.le_refl _) (fun k c h => by cases h) (fun d hd => by cases hd;exact h4) rfl).congr (fun _ _ h => h) (fun _ _ h => h) (Nat.le_refl _)
theorem ev_neRegion {α : Type} {id : Nat} {T T' e : TypeId} {t0 t3 t4 sz : Nat} {ty1 ty2 : TypeId} {pos1 pos2 : String} {aft1 aft2 : Array Edge} {l : List α} {f : α → List D} {tm : List (Nat × D)} {ow : List (Nat × DOwn)} {nx : Nat} {K : Exit → DS → Prop} (hu : P.underlying T = some (.slice e)) (h0 : fnd1 t0 tm = some (slN sz l f))
  (h3 : Nat.blt t3 b.sz = true) (h4 : Nat.blt t4 b.sz = true) (h : ∀ c : Bool,(c = true ↔ l ≠ []) → K .normal ⟨(t4,.v (.bool c)) :: (t3,slN sz l f) :: tm,ow,nx⟩) :
  Ev P b (.region id #[⟨some t3,.move (.tmp t0),ty1,pos1,aft1,none⟩,⟨some t4,.binOp .neq T (.tmp t3) (.const (.slice none 0 0)) T',ty2,pos2,aft2,none⟩] false) ⟨tm,ow,nx⟩ K := by
 intro w s g a Q hr hK;have h0' : fnd t0 (tvs tm) = some (slN sz l f).tv := by rw [yR,h0];rfl
 have hR : Run P b #[⟨some t3,.move (.tmp t0),ty1,pos1,aft1,none⟩,⟨some t4,.binOp .neq T (.tmp t3) (.const (.slice none 0 0)) T',ty2,pos2,aft2,none⟩] [⟨some t3,.move (.tmp t0),ty1,pos1,aft1,none⟩,⟨some t4,.binOp .neq T (.tmp t3) (.const (.slice none 0 0)) T',ty2,pos2,aft2,none⟩] ⟨tvs tm,ows ow,nx⟩ (fun S' => ∃ S,S' = DS.ste S ∧ K .normal S) := by
  refine run_u (out := (slN sz l f).tv) (u_move h0') rfl h3 ?_;refine run_nilNe (d := (slN sz l f).tv) (p := l ≠ []) hu (by show fnd t3 ((t3,(slN sz l f).tv) :: tvs tm) = _;rw [yA];simp) (fun w s g v hv => ?_) (Nat.le_of_ble_eq_true h4) fun c hc => run_nil ⟨⟨(t4,.v (.bool c)) :: (t3,slN sz l f) :: tm,ow,nx⟩,rfl,h c hc⟩;obtain ⟨⟨a,cap,g1,g2,g3,g4,g5⟩,hn⟩ := hv;refine ⟨a,_,cap,g1,?_⟩
  cases l with
  | nil =>
   have := hn rfl;rw [g1] at this
   cases this;simp
  | cons x l =>
   obtain ⟨b',off,e1,_⟩ := g5 0 (D.pvs (f x)) rfl;rw [e1];simp
 refine wp_region_lit (hR w s g a Q hr fun w' s' g' a' S' g1 g2 => ?_);obtain ⟨S,rfl,g3⟩ := g2;exact hK .normal w' s' g' a' S g1 g3
end
variable {md me : Bool}
structure RgO (o : Ob) : Prop where
 n : 2 < o.items.length
 il : o.items.length ≤ 2000000
 le : ∀ j < 3,(o.items.getD j vl0).nl.length ≤ 40
 lg : ∀ j < 3,Lg (o.items.getD j vl0).nl
 ok : ∀ j < 3,intOk (o.items.getD j vl0).nn (o.items.getD j vl0).nl = true
 c0 : 0 < VL (o.items.getD 2 vl0).nl
def rgO (o : Ob) : RgN := ⟨(o.items.getD 0 vl0).nn,VL (o.items.getD 0 vl0).nl,(o.items.getD 1 vl0).nn,VL (o.items.getD 1 vl0).nl,(o.items.getD 2 vl0).nn,VL (o.items.getD 2 vl0).nl⟩
def rlO (o : Ob) : Int := rlen (ZI (rgO o).sa (rgO o).na) (ZI (rgO o).sb (rgO o).nb) (ZI (rgO o).sc (rgO o).nc)
theorem rgL_D {sa sb sc : Bool} {la lb lc : List Nat} (ga : Lg la) (gb : Lg lb) (gc : Lg lc) (ha : intOk sa la = true) (hb : intOk sb lb = true) (hc : intOk sc lc = true) : rgL sa sb sc la lb lc = rgD (ZI sa (VL la)) (ZI sb (VL lb)) (ZI sc (VL lc)) := by
 obtain ⟨a1,a2,_⟩ := int_ok ga ha;obtain ⟨b1,b2,_⟩ := int_ok gb hb;obtain ⟨c1,c2,_⟩ := int_ok gc hc;unfold rgL rgD;rw [ZI_abs,ZI_abs,ZI_abs,← a1,← b1,← c1,← a2,← b2,← c2]
theorem RgO.dat {o : Ob} (h : RgO o) : rgL (o.items.getD 0 vl0).nn (o.items.getD 1 vl0).nn (o.items.getD 2 vl0).nn (o.items.getD 0 vl0).nl (o.items.getD 1 vl0).nl (o.items.getD 2 vl0).nl = rgD (ZI (rgO o).sa (rgO o).na) (ZI (rgO o).sb (rgO o).nb) (ZI (rgO o).sc (rgO o).nc) :=
 rgL_D (h.lg 0 (by decide)) (h.lg 1 (by decide)) (h.lg 2 (by decide)) (h.ok 0 (by decide)) (h.ok 1 (by decide)) (h.ok 2 (by decide))
theorem RgO.siz {o : Ob} (h : RgO o) : (lim (ZI (rgO o).sa (rgO o).na).natAbs).length ≤ 40 ∧ (lim (ZI (rgO o).sb (rgO o).nb).natAbs).length ≤ 40 ∧ (lim (ZI (rgO o).sc (rgO o).nc).natAbs).length ≤ 40 ∧ ZI (rgO o).sc (rgO o).nc ≠ 0 := by
 rw [ZI_abs,ZI_abs,ZI_abs];refine ⟨?_,?_,?_,fun e => ?_⟩
 ·show (lim (VL (o.items.getD 0 vl0).nl)).length ≤ 40;rw [← (int_ok (h.lg 0 (by decide)) (h.ok 0 (by decide))).1];exact h.le 0 (by decide)
 ·show (lim (VL (o.items.getD 1 vl0).nl)).length ≤ 40;rw [← (int_ok (h.lg 1 (by decide)) (h.ok 1 (by decide))).1];exact h.le 1 (by decide)
 ·show (lim (VL (o.items.getD 2 vl0).nl)).length ≤ 40;rw [← (int_ok (h.lg 2 (by decide)) (h.ok 2 (by decide))).1];exact h.le 2 (by decide)
 ·have h1 := ZI_abs (rgO o).sc (rgO o).nc;rw [e] at h1;have h2 := h.c0;have h3 : (rgO o).nc = VL (o.items.getD 2 vl0).nl := rfl;rw [← h3,← h1] at h2;exact absurd h2 (by decide)
theorem sn281 {P : Program} {K : DS → Prop} {p : Prop} {r : Out} (hr : r.sat P K) (hp : p := by first | exact trivial | (refine ⟨by decide,?_⟩;have := ho.n;show _ < o.items.length;omega) | (refine ⟨by decide,?_⟩;have := ho.n;simp only [List.length_map];show _ < o.items.length;omega)) : (Out.need p r).sat P K := ⟨hp,hr⟩
theorem cmpRangeOf_ok (o : Ob) (ho : RgO o) : Fn Tryz.prog 15 [.agg (obD o)] (.agg (rgL (o.items.getD 0 vl0).nn (o.items.getD 1 vl0).nn (o.items.getD 2 vl0).nn (o.items.getD 0 vl0).nl (o.items.getD 1 vl0).nl (o.items.getD 2 vl0).nl)) := by
 refine yD tabT Tryz.func15 rfl rfl rfl rfl rfl rfl ?_;intro w0 s0 mx;refine zB (zE tabT [] 100 rfl ?_);repeat (first | refine zG ?_ | refine zH ?_ | refine sn281 ?_)
 refine zC (zA ?_);refine zB (zZ tabT [] [[],[0],[0,1],[0,1,2],[0,1,2,3],[],[5],[5,6],[5,6,7],[5,6,7,8],[],[10],[10,11],[10,11,12],[10,11,12,13],[0,1,2,3,4,5,6,7,8,9,10,11,12,13,14],[0,1,2,3,4,5,6,7,8,9,10,11,12,13,14,15]] 200 mixT (by kernel_rfl) rfl ?_);repeat (first | refine zG ?_ | refine zH ?_ | refine sn281 ?_)
 refine zC (zA (zL ?_));exact FinV.ret rfl (SubP.refl _)
theorem span_ok (o : Ob) (ho : RgO o) : Fn Tryz.prog 46 [.agg (obD o)] (RgN.D (rgO o)) := by
 refine yD tabT Tryz.func46 rfl rfl rfl rfl rfl rfl ?_;intro w0 s0 mx;refine zB (zE tabT [] 100 rfl ?_);repeat (first | refine zG ?_ | refine zH ?_ | refine sn281 ?_)
 refine zC (zA ?_);refine zB (zZ tabT [] [[],[0],[0,1],[0,1,2],[0,1,2,3],[],[5],[5,6],[5,6,7],[5,6,7,8],[],[10],[10,11],[10,11,12],[10,11,12,13],[0,1,2,3,4,5,6,7,8,9,10,11,12,13,14],[0,1,2,3,4,5,6,7,8,9,10,11,12,13,14,15],[0,1,2,3,4,5,6,7,8,9,10,11,12,13,14,15,16]] 200 mixT (by kernel_rfl) rfl ?_);repeat (first | refine zG ?_ | refine zH ?_ | refine sn281 ?_)
 refine zO _ (RangeOf_ok _ _ _ (o.items.getD 0 vl0).nl (o.items.getD 1 vl0).nl (o.items.getD 2 vl0).nl (ho.le 0 (by decide)) (ho.le 1 (by decide)) (ho.le 2 (by decide)) (ho.lg 0 (by decide)) (ho.lg 1 (by decide)) (ho.lg 2 (by decide)) ho.c0) rfl ?_;repeat (first | refine zG ?_ | refine zH ?_ | refine sn281 ?_)
 refine zC (zA (zL ?_));exact FinV.ret rfl (SubP.refl _)
theorem refLength_ok (o : Ob) (ho : RgO o) : Fn Tryz.prog 21 [.agg (obD o)] (rD (rgO o).cnt.1 (rgO o).cnt.2) := by
 refine yD tabT Tryz.func21 rfl rfl rfl rfl rfl rfl ?_;intro w0 s0 mx;refine ev_R tabT [] 100 ?_;refine zB (zE tabT [] 200 rfl ?_);refine zF ?_;refine zO _ (span_ok o ho) rfl ?_;refine zF ?_;refine zC (zA (zL ?_));exact FinV.ret rfl (SubP.refl _)
theorem refZero_ok (b : Bool) (n : Nat) : Fn Tryz.prog 20 [rD b n] (.v (.bool (decide (n = 0)))) := by
 refine yD tabT Tryz.func20 rfl rfl rfl rfl rfl rfl ?_;intro w0 s0 mx;refine ev_R tabT [] 100 ?_;refine ev_R tabT [] 200 ?_;refine zL ?_;exact FinV.ret rfl (SubP.bool (by rw [Bool.eq_iff_iff,decide_eq_true_eq,decide_eq_true_eq];have := dig_posI n;omega))
def qC : ByteArray := ⟨#[111,110,95,98,111,111,108]⟩
def onLenB : ByteArray := ⟨#[111,110,95,108,101,110]⟩
def jgBoolB : ByteArray := ⟨#[111,110,95,98,111,111,108,32,109,117,115,116,32,114,101,116,117,114,110,32,97,32,98,111,111,108,101,97,110]⟩
def jgLenB : ByteArray := ⟨#[111,110,95,108,101,110,32,109,117,115,116,32,114,101,116,117,114,110,32,97,32,108,101,110,103,116,104]⟩
def jgS (s : ByteArray) (v : Vl) : St :=
 if s = qC then (if v.k = 1 then vlS v else raS 32 jgBoolB)
 else if v.k = 2 ∧ v.nn = false then vlS (boV (decide ((0 : Int) < (v.nl.length : Nat)))) else raS 32 jgLenB
theorem jg1 {s : ByteArray} {v : Vl} (h : s = qC) (h1 : v.k = 1) : jgS s v = vlS v := by rw [jgS,if_pos h,if_pos h1]
theorem jg2 {s : ByteArray} {v : Vl} (h : s = qC) (h1 : ¬ v.k = 1) : jgS s v = raS 32 jgBoolB := by rw [jgS,if_pos h,if_neg h1]
theorem jg3 {s : ByteArray} {v : Vl} (h : ¬ s = qC) (h1 : ¬ (v.k = 2 ∧ v.nn = false)) : jgS s v = raS 32 jgLenB := by rw [jgS,if_neg h,if_neg h1]
theorem jg4 {s : ByteArray} {v : Vl} (h : ¬ s = qC) (h1 : v.k = 2 ∧ v.nn = false) : jgS s v = vlS (boV (decide ((0 : Int) < (v.nl.length : Nat)))) := by rw [jgS,if_neg h,if_pos h1]
theorem cmpJudge_ok (s : ByteArray) (v : Vl) : Fn Tryz.prog 8 [.v (.string s),.agg (vlD v)] (.agg (stD (jgS s v))) := by
 refine yD tabT Tryz.func8 rfl rfl rfl rfl rfl rfl ?_;intro w0 s0 mx;refine ev_R tabT [] 100 ?_;refine zB ?_;refine zM ?_;refine ev_R tabT [] 200 ?_;refine zT (fun c1 => ?_) (fun c1 => ?_)
 ·
  refine zB (zE tabT [] 300 rfl ?_);refine zF ?_;refine zO _ (cmpValue_ok _) rfl ?_;refine zF ?_;refine zC (zA (zL (zP (zN ?_))));exact FinV.ret rfl (SubP.of_eq (by rw [jg1 (by simp_all [qC]) (by first | (simp_all;done) | (rintro ⟨h8,h9⟩;simp_all))];rfl))
 ·
  refine ev_R tabT [] 400 ?_;refine zT (fun c3 => ?_) (fun c3 => ?_)
  ·
   refine zB (zE tabT [] 500 rfl ?_);refine zF ?_;refine zO _ (cmpRaise_ok _ _) rfl ?_;refine zF ?_;refine zC (zA (zL (zP (zN ?_))));exact FinV.ret rfl (SubP.of_eq (by rw [jg2 (by simp_all [qC]) (by first | (simp_all;done) | (rintro ⟨h8,h9⟩;simp_all))];rfl))
  ·
   refine ev_R tabT [] 600 ?_;refine zT (fun c5 => ?_) (fun c5 => ?_)
   ·
    refine zB (zE tabT [] 700 rfl ?_);refine zF ?_;refine zO _ (cmpRaise_ok _ _) rfl ?_;refine zF ?_;refine zC (zA (zL (zP (zN ?_))));exact FinV.ret rfl (SubP.of_eq (by rw [jg3 (by simp_all [qC]) (by first | (simp_all;done) | (rintro ⟨h8,h9⟩;simp_all))];rfl))
   ·
    refine zK (zJ (zA ?_));refine zB (zE tabT [] 800 rfl ?_);refine zF ?_;refine zO _ (heapBool_ok _) rfl ?_;refine zF ?_;refine zO _ (cmpValue_ok _) rfl ?_;refine zF ?_;refine zC (zA (zL ?_));exact FinV.ret rfl (SubP.of_eq (by rw [jg4 (by simp_all [qC]) (by first | (simp_all;done) | (rintro ⟨h8,h9⟩;simp_all))];rfl))
theorem refJudged_ok (s : ByteArray) (v : Vl) : Fn Tryz.prog 9 [.v (.string s),.agg (vlD v)] (.agg (stD (jgS s v))) := by
 refine yD tabT Tryz.func9 rfl rfl rfl rfl rfl rfl ?_;intro w0 s0 mx;refine ev_R tabT [] 100 ?_;refine zB ?_;refine ev_R tabT [] 200 ?_;refine zT (fun c1 => ?_) (fun c1 => ?_)
 ·
  refine zB ?_;refine ev_R tabT [] 300 ?_;refine zT (fun c2 => ?_) (fun c2 => ?_)
  ·
   refine zB (zE tabT [] 400 rfl ?_);refine zF ?_;refine zO _ (Result_ok _) rfl ?_;refine zF ?_;refine zC (zA (zL (zN (zN ?_))));exact FinV.ret rfl (SubP.of_eq (by rw [jg1 (by simp_all [qC]) (by first | (simp_all;done) | (rintro ⟨h8,h9⟩;simp_all))];rfl))
  ·
   refine zK (zA ?_);refine zB (zE tabT [] 500 rfl ?_);refine zF ?_;refine zO _ (Raise_ok _ _) rfl ?_;refine zF ?_;refine zC (zA (zL (zN ?_)));exact FinV.ret rfl (SubP.of_eq (by rw [jg2 (by simp_all [qC]) (by first | (simp_all;done) | (rintro ⟨h8,h9⟩;simp_all))];rfl))
 ·
  refine zK (zA ?_);refine zB ?_;refine ev_R tabT [] 600 ?_;refine zT (fun c5 => ?_) (fun c5 => ?_)
  ·
   refine zB (zE tabT [] 700 rfl ?_);refine zF ?_;refine zO _ (B_ok _) rfl ?_;refine zF ?_;refine zO _ (Result_ok _) rfl ?_;refine zF ?_;refine zC (zA (zL (zN ?_)));exact FinV.ret rfl (SubP.of_eq (by rw [jg4 (by simp_all [qC]) (by first | (simp_all;done) | (rintro ⟨h8,h9⟩;simp_all))];rfl))
  ·
   refine zK (zA ?_);refine zB (zE tabT [] 800 rfl ?_);refine zF ?_;refine zO _ (Raise_ok _ _) rfl ?_;refine zF ?_;refine zC (zA (zL ?_));exact FinV.ret rfl (SubP.of_eq (by rw [jg3 (by simp_all [qC]) (by first | (simp_all;done) | (rintro ⟨h8,h9⟩;simp_all))];rfl))
theorem attempts_nil (h : List Ob) (v : Vl) (s : ByteArray) (l : List Vl) (hh : HpIn h) (g : Uh h) (hv : v.k = 6 → isObj h v.r = true) (hl : l.length ≤ 1000000) (hs : (spS h v s).2.2 = false) : Fn Tryz.prog 18 [hpD md h,.agg (vlD v),.v (.string s),vsD l] (.v (.slice none 0 0)) := by
 refine yD tabT Tryz.func18 rfl rfl rfl rfl rfl rfl ?_;intro w0 s0 mx;refine ev_R tabT [] 100 ?_;refine zB ?_;refine zB (zE tabT [] 200 rfl ?_);refine zF ?_;refine zO _ (Specially_ok _ _ _ _ (by first | assumption | omega | (simp_all;done)) (by first | assumption | omega | (simp_all;done)) (by first | assumption | omega | (simp_all;done)) (by first | assumption | omega | (simp_all;done))) rfl ?_;refine zF ?_;refine zC (zA ?_);refine ev_R tabT [] 300 ?_;refine zT (fun c2 => ?_) (fun c2 => ?_)
 ·
  simp_all
 ·
  refine zK (zA ?_);refine ev_R tabT [] 500 ?_;refine zL ?_;exact FinV.ret rfl (SubP.refl _)
theorem attS_nil {h : List Ob} {v : Vl} {s : ByteArray} {l : List Vl} : attS h v s l = [] ↔ (spS h v s).2.2 = false := by
 unfold attS;split
 ·rename_i e;simp [e]
 ·rename_i e;simpa using e
theorem attempts_nn (h : List Ob) (v : Vl) (s : ByteArray) (l : List Vl) (hh : HpIn h) (g : Uh h) (hv : v.k = 6 → isObj h v.r = true) (hl : l.length ≤ 1000000) : Fn Tryz.prog 18 [hpD md h,.agg (vlD v),.v (.string s),vsD l] (slN 18 (attS h v s l) stD) :=
 Fn.slN (e := st0) (fun e => attempts_nil h v s l hh g hv hl (attS_nil.1 e)) (fun _ => attempts_ok h v s l hh g hv hl)
variable {md me : Bool}
def tbB (v : Vl) : Bool :=
 if v.k = 0 ∨ v.k = 9 then false
 else if v.k = 1 then decide (v.r = 1)
 else if v.k = 2 then decide ((0 : Int) < (v.nl.length : Nat))
 else if v.k = 4 ∨ v.k = 5 then !decide (v.s = ⟨#[]⟩)
 else true
def trB (h : List Ob) (v : Vl) : Bool :=
 if (objS h v).kind = 1 ∨ (objS h v).kind = 2 ∨ (objS h v).kind = 3 then decide ((0 : Int) < ((objS h v).items.length : Nat))
 else if (objS h v).kind = 4 then decide ((0 : Int) < ((objS h v).keys.length : Nat))
 else if (objS h v).kind = 5 then decide (¬ rlO (objS h v) = 0)
 else tbB v
theorem trB_5 {h : List Ob} {v : Vl} (e : (objS h v).kind = 5) : trB h v = decide (¬ rlO (objS h v) = 0) := by
 unfold trB;rw [if_neg (by omega),if_neg (by omega),if_pos e]
theorem trB_no {h : List Ob} {v : Vl} (e1 : ¬ (objS h v).kind = 1) (e2 : ¬ (objS h v).kind = 2) (e3 : ¬ (objS h v).kind = 3) (e4 : ¬ (objS h v).kind = 4) (e5 : ¬ (objS h v).kind = 5) : trB h v = tbB v := by
 unfold trB;rw [if_neg (by omega),if_neg e4,if_neg e5]
theorem it_doc {n : Nat} : decide ((n : Int) = 0) = !decide ((0 : Int) < (n : Int)) := by
 rw [Bool.eq_iff_iff,decide_eq_true_eq,Bool.not_eq_true',decide_eq_false_iff_not];omega
theorem tb_doc {v : Vl} (hb : v.k = 1 → v.r = 0 ∨ v.r = 1) : ((((decide (v.k = 0) || decide (v.k = 9)) || (decide (v.k = 1) && decide (v.r = 0))) || (decide (v.k = 2) && decide (((v.nl.length : Nat) : Int) = 0))) || ((decide (v.k = 4) || decide (v.k = 5)) && decide (v.s = ⟨#[]⟩))) = !tbB v := by
 unfold tbB;by_cases h0 : v.k = 0 ∨ v.k = 9
 ·rw [if_pos h0];rcases h0 with h0 | h0 <;> simp [h0]
 rw [if_neg h0,decide_eq_false (by omega : ¬ v.k = 0),decide_eq_false (by omega : ¬ v.k = 9)];by_cases h1 : v.k = 1
 ·rw [if_pos h1];rcases hb h1 with h2 | h2 <;> simp [h1,h2]
 rw [if_neg h1,decide_eq_false h1];by_cases h2 : v.k = 2
 ·rw [if_pos h2];rw [decide_eq_true h2,decide_eq_false (by omega : ¬ v.k = 4),decide_eq_false (by omega : ¬ v.k = 5)];simp only [Bool.true_and,Bool.false_or,Bool.false_and,Bool.or_false,Bool.or_self];exact it_doc
 rw [if_neg h2,decide_eq_false h2];by_cases h4 : v.k = 4 ∨ v.k = 5
 ·rw [if_pos h4];rcases h4 with h4 | h4 <;> simp [h4]
 rw [if_neg h4,decide_eq_false (by omega : ¬ v.k = 4),decide_eq_false (by omega : ¬ v.k = 5)];rfl
theorem tr_len (z : Int) : decide ((0 : Int) < ((lim z.natAbs).length : Nat)) = decide (¬ z = 0) := by
 rw [lim_len];exact decide_eq_decide.2 (by omega)
def trN (k : Nat) : ByteArray := [qC,onLenB].getD k ByteArray.empty
def trS (h : List Ob) (v : Vl) : St × ByteArray :=
 if (spS h v qC).2.2 = true then (caS (spS h v qC).1 ((spS h v qC).2.1 ++ []),qC)
 else if (spS h v onLenB).2.2 = true then (caS (spS h v onLenB).1 ((spS h v onLenB).2.1 ++ []),onLenB)
 else (vlS (boV (trB h v)),ByteArray.empty)
structure TrL (h : List Ob) (v : Vl) where
 k : Nat
 le : k ≤ 2
 no : ∀ j,j < k → (spS h v (trN j)).2.2 = false
def TrL.next {h : List Ob} {v : Vl} (x : TrL h v) (hk : x.k < 2) (h0 : (spS h v (trN x.k)).2.2 = false) : TrL h v := ⟨x.k + 1,hk,fun j hj => by
 rcases Nat.lt_or_ge j x.k with h1 | h1
 ·exact x.no j h1
 ·rw [show j = x.k by omega];exact h0⟩
theorem TrL.yes {h : List Ob} {v : Vl} (x : TrL h v) (hk : x.k < 2) (h1 : (spS h v (trN x.k)).2.2 = true) : trS h v = (caS (spS h v (trN x.k)).1 ((spS h v (trN x.k)).2.1 ++ []),trN x.k) := by
 obtain ⟨k,le,no⟩ := x;rcases k with _ | _ | k
 ·exact if_pos h1
 ·have h0 := no 0 (by decide);have h0 : ¬ (spS h v qC).2.2 = true := by rw [show (spS h v qC).2.2 = false from h0];decide
  rw [trS,if_neg h0];exact if_pos h1
 ·exact absurd hk (by show ¬ k + 2 < 2;omega)
theorem TrL.none {h : List Ob} {v : Vl} (x : TrL h v) (hk : 2 ≤ x.k) : trS h v = (vlS (boV (trB h v)),ByteArray.empty) := by
 have h0 : (spS h v qC).2.2 = false := x.no 0 (by omega);have h1 : (spS h v onLenB).2.2 = false := x.no 1 (by omega);rw [trS,if_neg (by rw [h0];decide),if_neg (by rw [h1];decide)]
theorem attS_T {h : List Ob} {v : Vl} {s : ByteArray} (e : (spS h v s).2.2 = true) : attS h v s [] = [caS (spS h v s).1 ((spS h v s).2.1 ++ [])] := if_pos e
theorem attS_pos {h : List Ob} {v : Vl} {s : ByteArray} {l : List Vl} (e : 0 < (attS h v s l).length) : (spS h v s).2.2 = true := by
 cases hb : (spS h v s).2.2 with
 | true => rfl
 | false => rw [attS_nil.2 hb] at e;exact absurd e (by decide)
theorem attS_npos {h : List Ob} {v : Vl} {s : ByteArray} {l : List Vl} (e : ¬ 0 < (attS h v s l).length) : (spS h v s).2.2 = false := attS_nil.1 (List.eq_nil_of_length_eq_zero (show (attS h v s l).length = 0 by omega))
structure TrO (h : List Ob) (v : Vl) : Prop where
 b : v.k = 1 → v.r = 0 ∨ v.r = 1
 o : v.k = 6 → isObj h v.r = true
 r : (objS h v).kind = 5 → RgO (objS h v)
theorem cmpTruth_ok (h : List Ob) (v : Vl) (hh : HpIn h) (g : Uh h) (ht : TrO h v) : Fn Tryz.prog 5 [hpD md h,.agg (vlD v)] (.tup [.agg (stD (trS h v).1),.v (.string (trS h v).2)]) := by
 refine yD tabT Tryz.func5 rfl rfl rfl rfl rfl rfl ?_;intro w0 s0 mx;refine ev_R tabT [] 100 ?_;refine zB ?_;refine ev_R tabT [] 200 ?_;refine zM ?_;refine zX (ι := TrL h v) [2,3,4,13,14] [0,1,2] 250 (fun x => [(15,.v (.int .i64 (x.k : Nat))),(13,.sl false 1 [qC,onLenB] sD ByteArray.empty)]) (fun _ => []) (fun x => 2 - x.k) ⟨0,Nat.zero_le _,fun j hj => absurd hj (Nat.not_lt_zero j)⟩ ?_;refine ⟨⟨⟨Sub.int rfl,Sub.slrSl rfl,le_t⟩,le_o,rfl,rfl⟩,fun x => ?_⟩;have hk := x.le;refine ev_R tabT [] 300 ?_;refine zB ?_;refine zT (fun c2 => ?_) (fun c2 => ?_)
 ·
  refine zK (zA ?_);refine zB ?_;refine zM ?_;refine ev_R tabT [] 400 ?_;have hx2 : x.k < 2 := by have := c2;omega
  refine zB (zE tabT [] 500 rfl ?_);refine zF ?_;refine zO _ ((cmpSpecial_ok h v (trN x.k) [] hh g ht.o (by decide)).args ⟨SubP.refl _,SubP.refl _,SubP.refl _,SubP.nilSl rfl,trivial⟩) rfl ?_;refine zF ?_;refine zC (zA ?_);refine ev_R tabT [] 600 ?_;refine zT (fun c5 => ?_) (fun c5 => ?_)
  ·
   refine zB (zE tabT [] 700 rfl ?_);repeat (first | refine zG ?_ | refine zH ?_ | refine zR (by first | exact ⟨by decide,by show 0 < _;omega⟩ | first | exact trivial | omega | exact ini (by omega) (by omega) | (intro hh;simp at hh;exact ini (by omega) (by omega)) | (intro hh;simp at hh ⊢;omega) | (simp at *;omega) | (simp_all;done)) ?_)
   refine zC (zA (zL (zP (zN (yG (zP (zN ?_)))))));have e := attS_pos (l := []) (show 0 < (attS h v (trN x.k) []).length by have := c5;omega);have e2 := x.yes hx2 e;exact FinV.ret rfl (SubP.tup ⟨SubP.of_eq (by rw [e2,attS_T e];rfl),SubP.of_eq (by rw [e2];rfl),trivial⟩)
  ·
   refine zK (zJ (zA ?_));refine ev_Q tabT [] 800 ?_;exact zQ (x.next hx2 (attS_npos (l := []) (by have := c5;omega))) ⟨(by first | exact trivial | (repeat (first | exact trivial | exact Sub.refl _ | refine ⟨?_,?_⟩ | exact Sub.int (by first | rfl | omega | (push_cast;omega)) | exact Sub.nilSl | exact Sub.own rfl | exact Sub.slrSl rfl | exact Sub.ownSl (List.map_append).symm | exact Sub.ownSl rfl | exact Sub.int (by show (x.k : Int) + 1 = ((x.k + 1 : Nat) : Int);omega)))),le_o,rfl,rfl⟩ (by show 2 - (x.k + 1) < 2 - x.k;omega)
 ·
  refine yB (zU (zW (zS (zA ?_))));refine ev_R tabT [] 900 ?_;refine ev_joinK (ι := Unit) [2,3,4] [0,1,2] 2200 (fun _ => [(9,.v (.bool (tbB v)))]) (fun _ => []) ?_;refine ⟨?_,fun j => ?_⟩
  ·refine ev_R tabT [] 1000 ?_;refine zM ?_;refine zB ?_;refine ev_R tabT [] 1100 ?_;refine zT (fun c10 => ?_) (fun c10 => ?_)
   ·
    refine zK (zA ?_);refine zT (fun c10x => ?_) (fun c10x => ?_)
    ·
     refine ev_Q tabT [] 1300 ?_;refine zJ ?_;exact yL () ⟨⟨Sub.of_eq (by congr 2;unfold tbB;simp_all),le_t⟩,le_o,rfl,rfl⟩
    ·
     simp_all
   ·
    refine ev_Q tabT [] 1200 ?_;refine zA ?_;refine zT (fun c11 => ?_) (fun c11 => ?_)
    ·
     refine ev_Q tabT [] 1300 ?_;refine zJ ?_;exact yL () ⟨⟨Sub.of_eq (by congr 2;unfold tbB;simp_all),le_t⟩,le_o,rfl,rfl⟩
    ·
     refine ev_R tabT [] 1400 ?_;refine zT (fun c13 => ?_) (fun c13 => ?_)
     ·
      refine ev_Q tabT [] 1500 ?_;refine zJ ?_;exact yL () ⟨⟨Sub.of_eq (by congr 2;unfold tbB;simp_all),le_t⟩,le_o,rfl,rfl⟩
     ·
      refine ev_R tabT [] 1600 ?_;refine zT (fun c15 => ?_) (fun c15 => ?_)
      ·
       refine ev_Q tabT [] 1700 ?_;refine zJ ?_;exact yL () ⟨⟨Sub.of_eq (by congr 2;unfold tbB;simp_all),le_t⟩,le_o,rfl,rfl⟩
      ·
       refine zB ?_;refine ev_R tabT [] 1800 ?_;refine zT (fun c17 => ?_) (fun c17 => ?_)
       ·
        refine zK (zA ?_);refine zT (fun c17x => ?_) (fun c17x => ?_)
        ·
         refine ev_Q tabT [] 2000 ?_;refine zJ ?_;exact yL () ⟨⟨Sub.of_eq (by congr 2;unfold tbB;simp_all),le_t⟩,le_o,rfl,rfl⟩
        ·
         simp_all
       ·
        refine ev_Q tabT [] 1900 ?_;refine zA ?_;refine zT (fun c18 => ?_) (fun c18 => ?_)
        ·
         refine ev_Q tabT [] 2000 ?_;refine zJ ?_;exact yL () ⟨⟨Sub.of_eq (by congr 2;unfold tbB;simp_all),le_t⟩,le_o,rfl,rfl⟩
        ·
         refine zK (zJ ?_);exact yL () ⟨⟨Sub.of_eq (by congr 2;unfold tbB;simp_all),le_t⟩,le_o,rfl,rfl⟩
  refine ev_joinK (ι := Unit) [4] [2] 3300 (fun _ => [(9,.v (.bool (trB h v)))]) (fun _ => []) ?_;refine ⟨?_,fun j => ?_⟩
  ·refine zB (zE tabT [] 2300 rfl ?_);refine zF ?_;refine zO _ (cmpObject_ok h v ht.o) rfl ?_;refine zF ?_;refine zC (zA ?_);refine ev_R tabT [] 2400 ?_;refine zM ?_;refine zB ?_;refine ev_R tabT [] 2500 ?_;refine zT (fun c22 => ?_) (fun c22 => ?_)
   ·
    refine zK (zA ?_);refine zT (fun c22x => ?_) (fun c22x => ?_)
    ·
     refine ev_Q tabT [] 2600 ?_;refine zJ ?_;exact yL () ⟨⟨Sub.of_eq (by congr 2;unfold trB;simp_all),le_t⟩,le_o,rfl,rfl⟩
    ·
     simp_all
   ·
    refine ev_R tabT [] 2600 ?_;refine zT (fun c23 => ?_) (fun c23 => ?_)
    ·
     refine zK (zA ?_);refine zT (fun c23x => ?_) (fun c23x => ?_)
     ·
      refine ev_Q tabT [] 2700 ?_;refine zJ ?_;exact yL () ⟨⟨Sub.of_eq (by congr 2;unfold trB;simp_all),le_t⟩,le_o,rfl,rfl⟩
     ·
      simp_all
    ·
     refine ev_Q tabT [] 2700 ?_;refine zA ?_;refine zT (fun c24 => ?_) (fun c24 => ?_)
     ·
      refine ev_Q tabT [] 2800 ?_;refine zJ ?_;exact yL () ⟨⟨Sub.of_eq (by congr 2;unfold trB;simp_all),le_t⟩,le_o,rfl,rfl⟩
     ·
      refine ev_R tabT [] 2800 ?_;refine zT (fun c26 => ?_) (fun c26 => ?_)
      ·
       refine ev_Q tabT [] 2900 ?_;refine zJ ?_;exact yL () ⟨⟨Sub.of_eq (by congr 2;unfold trB;simp_all),le_t⟩,le_o,rfl,rfl⟩
      ·
       refine ev_R tabT [] 2900 ?_;refine zT (fun c28 => ?_) (fun c28 => ?_)
       ·
        refine zB (zE tabT [] 3000 rfl ?_);refine zF ?_;refine zO _ (cmpRangeOf_ok _ (ht.r (by omega))) rfl ?_;refine zF ?_;refine zO _ ((rgLength_ok _ _ _ (ht.r (by omega)).siz.1 (ht.r (by omega)).siz.2.1 (ht.r (by omega)).siz.2.2.1 (ht.r (by omega)).siz.2.2.2).args ⟨SubP.of_eq (by rw [(ht.r (by omega)).dat]),trivial⟩) rfl ?_;refine zF ?_;refine zC (zA ?_);refine ev_Q tabT [] 3100 ?_;refine zJ ?_;exact yL () ⟨⟨Sub.of_eq (by rw [trB_5 c28];exact congrArg (fun b => D.v (.bool b)) (tr_len _)),le_t⟩,le_o,rfl,rfl⟩
       ·
        refine zK (zJ ?_);exact yL () ⟨⟨Sub.of_eq (by congr 2;unfold trB;simp_all),le_t⟩,le_o,rfl,rfl⟩
  refine zB (zE tabT [] 3400 rfl ?_);refine zF ?_;refine zO _ (heapBool_ok _) rfl ?_;refine zF ?_;refine zO _ (cmpValue_ok _) rfl ?_;refine zF ?_;refine zC (zA (zL ?_));have e2 := x.none (by have h9 : ¬ x.k < 2 := c2;omega);exact FinV.ret rfl (SubP.tup ⟨SubP.of_eq (by rw [e2];rfl),SubP.of_eq (by rw [e2];rfl),trivial⟩)
theorem tr_cnt {o : Ob} (h : RgO o) : (rgO o).cnt.2 = 0 ↔ rlO o = 0 := by
 have h1 := (cnt_rlen (rgO o) h.c0).1;have h2 : (rgO o).cnt.2 = (rlO o).natAbs := congrArg Prod.snd h1;omega
theorem refTruth_ok (h : List Ob) (v : Vl) (hh : HpIn h) (g : Uh h) (ht : TrO h v) : Fn Tryz.prog 6 [hpD md h,.agg (vlD v)] (.tup [.agg (stD (trS h v).1),.v (.string (trS h v).2)]) := by
 have hb := ht.b;refine yD tabT Tryz.func6 rfl rfl rfl rfl rfl rfl ?_;intro w0 s0 mx;refine ev_R tabT [] 100 ?_;refine zB ?_;refine ev_R tabT [] 200 ?_;refine zM ?_;refine zX (ι := TrL h v) [2,3,4,11,12] [0,1,2] 250 (fun x => [(13,.v (.int .i64 (x.k : Nat))),(11,.sl false 1 [qC,onLenB] sD ByteArray.empty)]) (fun _ => []) (fun x => 2 - x.k) ⟨0,Nat.zero_le _,fun j hj => absurd hj (Nat.not_lt_zero j)⟩ ?_;refine ⟨⟨⟨Sub.int rfl,Sub.slrSl rfl,le_t⟩,le_o,rfl,rfl⟩,fun x => ?_⟩;have hk := x.le;refine ev_R tabT [] 300 ?_;refine zB ?_;refine zT (fun c2 => ?_) (fun c2 => ?_)
 ·
  refine zK (zA ?_);refine zB ?_;refine zM ?_;refine ev_R tabT [] 400 ?_;have hx2 : x.k < 2 := by have := c2;omega
  refine zB (zE tabT [] 500 rfl ?_);refine zF ?_;refine zO _ ((attempts_nn h v (trN x.k) [] hh g ht.o (by decide)).args ⟨SubP.refl _,SubP.refl _,SubP.refl _,SubP.nilSl rfl,trivial⟩) rfl ?_;refine zF ?_;refine zC (zA ?_);refine zB ?_;refine ev_neRegion Tryz.underlying44 rfl rfl rfl fun cN hcN => ?_;refine zA ?_;refine zT (fun c5 => ?_) (fun c5 => ?_)
  ·
   refine yN [4,7] [2] 610 [(8,.sl false 18 (attS h v (trN x.k) []) stD st0)] [] ?_;refine ⟨⟨⟨Sub.slN,le_t⟩,le_o,rfl,rfl⟩,?_⟩;refine zB (zE tabT [] 700 rfl ?_);repeat (first | refine zG ?_ | refine zH ?_ | refine zR (by first | exact ⟨by decide,by have := List.length_pos_iff.2 (hcN.1 c5);show 0 < _;omega⟩ | first | exact trivial | omega | exact ini (by omega) (by omega) | (intro hh;simp at hh;exact ini (by omega) (by omega)) | (intro hh;simp at hh ⊢;omega) | (simp at *;omega) | (simp_all;done)) ?_)
   refine zC (zA (zL (zP (zN (yG (zP (zN ?_)))))));have e := attS_pos (l := []) (show 0 < (attS h v (trN x.k) []).length from List.length_pos_iff.2 (hcN.1 c5));have e2 := x.yes hx2 e;exact FinV.ret rfl (SubP.tup ⟨SubP.of_eq (by rw [e2,attS_T e];rfl),SubP.of_eq (by rw [e2];rfl),trivial⟩)
  ·
   refine zK (zJ (zA ?_));refine ev_Q tabT [] 800 ?_;exact zQ (x.next hx2 (attS_nil.1 (Classical.not_not.1 (fun h9 => absurd (hcN.2 h9) (by simp [c5]))))) ⟨(by first | exact trivial | (repeat (first | exact trivial | exact Sub.refl _ | refine ⟨?_,?_⟩ | exact Sub.int (by first | rfl | omega | (push_cast;omega)) | exact Sub.nilSl | exact Sub.own rfl | exact Sub.slrSl rfl | exact Sub.ownSl (List.map_append).symm | exact Sub.ownSl rfl | exact Sub.int (by show (x.k : Int) + 1 = ((x.k + 1 : Nat) : Int);omega)))),le_o,rfl,rfl⟩ (by show 2 - (x.k + 1) < 2 - x.k;omega)
 ·
  refine yB (zU (zW (zS (zA ?_))));refine zB (zE tabT [] 900 rfl ?_);refine zF ?_;refine zO _ (Obj_ok _ _) rfl ?_;refine zF ?_;refine zC (zA ?_);refine ev_R tabT [] 1000 ?_;refine ev_joinK (ι := Unit) [4] [2] 2100 (fun _ => [(10,.v (.bool (!trB h v)))]) (fun _ => []) ?_;refine ⟨?_,fun j => ?_⟩
  ·refine ev_R tabT [] 1100 ?_;refine zM ?_;refine zB ?_;refine ev_R tabT [] 1200 ?_;refine zT (fun c11 => ?_) (fun c11 => ?_)
   ·
    refine zK (zA ?_);refine zT (fun c11x => ?_) (fun c11x => ?_)
    ·
     refine ev_Q tabT [] 1500 ?_;refine zJ ?_;exact yL () ⟨⟨Sub.of_eq (by refine congrArg (fun b => D.v (.bool b)) ?_;rw [it_doc];congr 1;unfold trB;simp_all),le_t⟩,le_o,rfl,rfl⟩
    ·
     simp_all
   ·
    refine ev_R tabT [] 1300 ?_;refine zT (fun c12 => ?_) (fun c12 => ?_)
    ·
     refine zK (zA ?_);refine zT (fun c12x => ?_) (fun c12x => ?_)
     ·
      refine ev_Q tabT [] 1500 ?_;refine zJ ?_;exact yL () ⟨⟨Sub.of_eq (by refine congrArg (fun b => D.v (.bool b)) ?_;rw [it_doc];congr 1;unfold trB;simp_all),le_t⟩,le_o,rfl,rfl⟩
     ·
      simp_all
    ·
     refine ev_Q tabT [] 1400 ?_;refine zA ?_;refine zT (fun c13 => ?_) (fun c13 => ?_)
     ·
      refine ev_Q tabT [] 1500 ?_;refine zJ ?_;exact yL () ⟨⟨Sub.of_eq (by refine congrArg (fun b => D.v (.bool b)) ?_;rw [it_doc];congr 1;unfold trB;simp_all),le_t⟩,le_o,rfl,rfl⟩
     ·
      refine ev_R tabT [] 1600 ?_;refine zT (fun c15 => ?_) (fun c15 => ?_)
      ·
       refine ev_Q tabT [] 1700 ?_;refine zJ ?_;exact yL () ⟨⟨Sub.of_eq (by refine congrArg (fun b => D.v (.bool b)) ?_;rw [it_doc];congr 1;unfold trB;simp_all),le_t⟩,le_o,rfl,rfl⟩
      ·
       refine ev_R tabT [] 1800 ?_;refine zT (fun c17 => ?_) (fun c17 => ?_)
       ·
        refine zE tabT [] 1900 rfl ?_;refine zF ?_;refine zO _ (refLength_ok _ (ht.r (by omega))) rfl ?_;refine zF ?_;refine zO _ (refZero_ok _ _) rfl ?_;refine zF ?_;refine zC (zJ ?_);exact yL () ⟨⟨Sub.of_eq (by rw [trB_5 c17];refine congrArg (fun b => D.v (.bool b)) ?_;rw [Bool.eq_iff_iff,decide_eq_true_eq,Bool.not_eq_true',decide_eq_false_iff_not,Classical.not_not];exact tr_cnt (ht.r c17)),le_t⟩,le_o,rfl,rfl⟩
       ·
        refine zK (zJ ?_);exact yL () ⟨⟨Sub.of_eq (by rw [trB_no c11 c12 c13 c15 c17];exact congrArg (fun b => D.v (.bool b)) (tb_doc hb)),le_t⟩,le_o,rfl,rfl⟩
  refine zB (zE tabT [] 2200 rfl ?_);refine zF ?_;refine zO _ (B_ok _) rfl ?_;refine zF ?_;refine zO _ (Result_ok _) rfl ?_;refine zF ?_;refine zC (zA (zL ?_));have e2 := x.none (by have h9 : ¬ x.k < 2 := c2;omega);exact FinV.ret rfl (SubP.tup ⟨SubP.of_eq (by rw [e2];simp;rfl),SubP.of_eq (by rw [e2];rfl),trivial⟩)
end Go.Proofs.YtepamjmgancjoaaGreatDoor
