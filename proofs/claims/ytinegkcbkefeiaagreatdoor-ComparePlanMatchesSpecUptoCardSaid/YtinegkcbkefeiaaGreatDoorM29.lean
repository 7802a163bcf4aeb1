/- ComparePlanMatchesSpec: the given statement. Condition: what the law reads is of bulk at most 1048576 (the second form); the listed variables start as the program's text lays them. -/
import Derived.Test.YtinegkcbkefeiaaGreatDoorM28
import Derived.ProofKit
import Derived.OpenShut
import Derived.ShutString
import Derived.Deep.Matrix
import Derived.Test.YtinegkcbkefeiaaGreatDoorCards
import Derived.Test.YtinegkcbkefeiaaGreatDoorTie
import Derived.Lib.LaidU8T
import Derived.Deep.DeepWitnessRowRef
import Derived.Shelf.Vars
namespace Go.Proofs.YtinegkcbkefeiaaGreatDoor
open Go.RowKit
variable {md me : Bool}
theorem Fn.eqo {P : Program} {f : FuncId} {args : List D} {out out' : D} (h : Fn P f args out) (e : out = out') : Fn P f args out' := e ▸ h
section
variable {h : List Ob} {f n : Nat} {a b c : Vl}
end
variable {md me : Bool}
def isQ (op : Int) (q : QR) : QR := q.map fun r => (r.1 == decide (op = 9),r.2)
def pN : ByteArray := ⟨#[111,110,95,101,113]⟩
def qY1 : ByteArray := ⟨#[111,110,95,108,116]⟩
def qZ1 : ByteArray := ⟨#[111,110,95,108,101]⟩
def pcL (h : List Ob) (op : Int) (a b : Vl) : List St := if op = 5 then attS h a pN [b] ++ (if clA h a = clA h b then [] else attS h b pN [a]) else if op = 9 \/ op = 10 then [] else if op = 2 then attS h a qZ1 [b] else attS h a qY1 [b]
def pcS (h : List Ob) (op : Int) (a b : Vl) : St := if op = 5 then qSt (eqS h 10000 10000 a b) else if op = 9 \/ op = 10 then qSt (isQ op (saS h 10000 10000 a b)) else if op = 2 then lSt (leS h 2 10000 10000 a b) else lSt (leS h 1 10000 10000 a b)
def plC (l : List St) (s : St) : D := .agg (stsD l :: stD s)
section
variable {h : List Ob} {op : Int} {a b : Vl}
theorem pc5 (e : op = 5) : pcL h op a b = attS h a pN [b] ++ (if clA h a = clA h b then [] else attS h b pN [a]) /\ pcS h op a b = qSt (eqS h 10000 10000 a b) := ⟨Ac e,Ac e⟩
theorem pc9 (e : op = 9 \/ op = 10) : pcL h op a b = [] /\ pcS h op a b = qSt (isQ op (saS h 10000 10000 a b)) := ⟨(Aa om).trans (Ac e),(Aa om).trans (Ac e)⟩
theorem pc2 (e : op = 2) : pcL h op a b = attS h a qZ1 [b] /\ pcS h op a b = lSt (leS h 2 10000 10000 a b) := ⟨(Aa om).trans ((Aa om).trans (Ac e)),(Aa om).trans ((Aa om).trans (Ac e))⟩
theorem pc1 (e : op = 1) : pcL h op a b = attS h a qY1 [b] /\ pcS h op a b = lSt (leS h 1 10000 10000 a b) := ⟨(Aa om).trans ((Aa om).trans (Aa om)),(Aa om).trans ((Aa om).trans (Aa om))⟩
theorem zU1 (s : ByteArray) (v : Vl) (l : List Vl) : (attS h v s l).length <= 1 := by unfold attS;split <;> simp
theorem is_9 {q : QR} : isQ 9 q = q := by
 cases q with
 | none => rfl
 | some r => obtain ⟨b,m⟩ := r;cases b <;> rfl
theorem is_10n {q : QR} (hk : (qSt q).k = 0) : qSt (isQ 10 q) = vlS (boV (decide ((qSt q).v.r = 0))) := by
 cases q with
 | none => exact absurd hk (by show ¬ (1 : Int) = 0;decide)
 | some r => obtain ⟨b,m⟩ := r;cases b <;> rfl
theorem qSt_val {q : QR} (hk : (qSt q).k = 0) : ∃ b,qSt q = vlS (boV b) := by
 cases q with
 | none => exact absurd hk (by show ¬ (1 : Int) = 0;decide)
 | some r => exact ⟨r.1,rfl⟩
theorem is_10x {q : QR} (hk : ¬ (qSt q).k = 0) : qSt (isQ 10 q) = qSt q := by
 cases q with
 | none => rfl
 | some r => exact absurd rfl hk
end
theorem zQ0 (h : List Ob) (op : Int) (a b : Vl) (hh : HpIn h) (g : Uh h) (hva : Vd h a) (hvb : Vd h b) : FnQ Tryz.prog 74 [.bp 0 0,vpD a,vpD b,oiD op] (cqO md h 10000) (qE (isQ op (saS h 10000 10000 a b))) qB (qO md h) (.v (.bool false)) := by
 refine kO zL Tryz.func74 rfl rfl rfl rfl rfl rfl (fun _ => rfl) rfl ?_;intro w0 s0 mx;refine zJ 100 ?_;rcases hr : saS h 10000 10000 a b with _ | ⟨bb,m2⟩
 ·refine zB (zW zL [1009] [[],[],[],[0,1,2],[],[4],(rgN 6),(rgN 7)] 200 yP kr rfl ?_);refine zF ?_;refine uH _ _ ((bG0 hh g 10000 10000 a b (Ak _) (Ak _) hva hvb).no (xD hr)) (FinQ.pan (xD rfl)) rfl ?_;refine zf (zA ?_);exact uC 0
 ·refine zB (zW zL [1009] [[],[],[],[0,1,2],[],[4],(rgN 6),(rgN 7)] 200 yP kr rfl ?_);refine zF ?_;refine yQ _ _ ((bG0 hh g 10000 10000 a b (Ak _) (Ak _) hva hvb).yes (uL hr)) rfl ?_;refine zf (zA (zK ?_));exact FinQ.of (bb == decide (op = 9),m2) (uL (rfl)) (u11 1 rfl rfl (Sub.bool (by first | rfl | (cases bb <;> simp))) ⟨⟨rfl,u0 _,rfl,u0 _,rfl,trivial⟩,trivial⟩)
theorem zA1 {P : Program} {E : Pn} {K : DS -> Prop} {p : Prop} {r : Out} (hr : r.sat P E K) (hp : p := by first | (have l1 := zU1 (h := h) ⟨#[111,110,95,101,113]⟩ a [b];have l2 := zU1 (h := h) ⟨#[111,110,95,101,113]⟩ b [a];simp only [Bb];omega) | exact Eh) : (Out.need p r).sat P E K := ⟨hp,hr⟩
set_option maxHeartbeats 2000000 in
theorem bM (h : List Ob) (op : Int) (a b : Vl) (hh : HpIn h) (g : Uh h) (hva : Vd h a) (hvb : Vd h b) (hia : VlIn a) (hib : VlIn b) (hop : op = 1 \/ op = 2 \/ op = 5 \/ op = 9 \/ op = 10) : Fx 26 [hpD md h,.v (.int .i64 op),.agg (vlD a),.agg (vlD b)] (plC (pcL h op a b) (pcS h op a b)) := by
 have hca := tM g (gQ hva);have hcb := tM g (gQ hvb);obtain ⟨X,hX⟩ : ∃ X,X = lSt (leS h op 10000 10000 a b) := ⟨_,rfl⟩;obtain ⟨W,hW⟩ : ∃ W,W = qSt (eqS h 10000 10000 a b) := ⟨_,rfl⟩;obtain ⟨S,hS⟩ : ∃ S,S = qSt (isQ op (saS h 10000 10000 a b)) := ⟨_,rfl⟩;refine yD zL Tryz.func26 rfl rfl rfl rfl rfl rfl ?_;intro w0 s0 mx;refine zJ 100 ?_;refine zB (zJ 200 ?_);refine zR (zJ 300 ?_);refine zX (fun c2 => ?_) (fun c2 => ?_)
 ·
  (have h9 := c2;first | omega | (simp at h9;omega))
 ·
  refine zJ 500 ?_;refine zX (fun c4 => ?_) (fun c4 => ?_)
  ·
   (have h9 := c4;first | omega | (simp at h9;omega))
  ·
   refine zB (zJ 700 ?_);refine zX (fun c6 => ?_) (fun c6 => ?_)
   ·
    refine zM (zA (zX (fun c6x => ?_) (fun c6x => ?_)))
    ·
     refine zB (zE zL [] 900 rfl ?_);refine zF ?_;refine wH _ (Fn.eqo (jB0 h 74 de [vpD a,vpD b,oiD op] rfl _ _ (zQ0 h op a b hh g hva hvb) bN0 bO0) (congrArg (fun s => D.agg (stD s)) hS.symm)) rfl rfl ?_;refine zf (zA (zK (zQ (zN ?_))));have e := pc9 (h := h) (a := a) (b := b) (show op = 9 \/ op = 10 by omega);rw [e.1,e.2,<- hS];exact u4 rfl (u20 nz)
    ·
     simp_all
   ·
    refine yM zL [] 800 ?_;refine zA (zX (fun c7 => ?_) (fun c7 => ?_))
    ·
     refine zB (zE zL [] 900 rfl ?_);refine zF ?_;refine wH _ (Fn.eqo (jB0 h 74 de [vpD a,vpD b,oiD op] rfl _ _ (zQ0 h op a b hh g hva hvb) bN0 bO0) (congrArg (fun s => D.agg (stD s)) hS.symm)) rfl rfl ?_;refine zf (zA (zK (zQ (zN ?_))));have e := pc9 (h := h) (a := a) (b := b) (show op = 9 \/ op = 10 by omega);rw [e.1,e.2,<- hS];exact u4 rfl (u20 nz)
    ·
     refine zJ 1000 ?_;refine zX (fun c9 => ?_) (fun c9 => ?_)
     ·
      refine zB (zW zL [37] mK19 1100 yP kr rfl ?_);refine zF ?_;refine vY _ _ _ ((cmpSpecial_O h a _ [b] hh g hva.2 (by show 1 <= 1000000;omega)).args ⟨u6 _,u6 _,u6 _,u18 rfl,trivial⟩) ?_;refine zF ?_;refine zO _ (Fn.eqo (cmpEqual_ok h a b hh g hva hvb) (congrArg (fun s => D.agg (stD s)) hW.symm)) rfl ?_;refine zf (zA (zB ?_));refine zB (zW zL [] [[],[],[0,1],[],[],(rgN 5),(rgN 6)] 1200 yP kr rfl ?_);refine zF ?_;refine zO _ (xF h a hca) rfl ?_;refine zF ?_;refine zO _ (xF h b hcb) rfl ?_;refine zF ?_;refine zC (zA (zT rfl (fun c11 => ?_) (fun c11 => ?_)))
      ·have c11 : ¬ clA h a = clA h b := by simpa using c11
       refine zW zL [] mK20 1300 yP kr rfl ?_;repeat (first | refine zH ?_ | refine zA1 ?_)
       refine zO _ ((gM h b _ [a] hh g hvb.2 (by show 1 <= 1000000;omega)).args ⟨u6 _,u6 _,u6 _,u18 rfl,trivial⟩) rfl ?_;repeat (first | refine zH ?_ | refine zA1 ?_)
       refine zC (zA (zJ 1400 ?_));refine zK (zQ (zN ?_));have e := pc5 (h := h) (a := a) (b := b) (show op = 5 by omega);rw [e.1,e.2,<- hW,Aa c11];exact u4 rfl (u20 (by repeat (first | exact trivial | exact u6 _ | exact SubP.ownSl (by simp [pN]) | exact u12 rfl | refine ⟨?_,?_⟩)))
      ·have c11 : clA h a = clA h b := by simpa using c11
       refine zM (zA (zJ 1400 ?_));refine zK (zQ (zN ?_));have e := pc5 (h := h) (a := a) (b := b) (show op = 5 by omega);rw [e.1,e.2,<- hW,Ac c11];exact u4 rfl (u20 (by repeat (first | exact trivial | exact u6 _ | exact SubP.ownSl (by simp [pN]) | exact u12 rfl | refine ⟨?_,?_⟩)))
     ·
      refine zM (zP (zA (zJ 1500 ?_)));refine zB (zJ 1600 ?_);refine zX (fun c15 => ?_) (fun c15 => ?_)
      ·
       refine yM zL [] 1700 ?_;refine zA ?_;refine zB (zW zL [] mK21 1800 yP kr rfl ?_);refine zF ?_;refine zO _ ((gM h a _ [b] hh g hva.2 (by show 1 <= 1000000;omega)).args ⟨u6 _,u6 _,u6 _,u18 rfl,trivial⟩) rfl ?_;refine zF ?_;refine zO _ (Fn.eqo (qK0 h op a b hh g hva hvb hia hib) (congrArg (fun s => D.agg (stD s)) hX.symm)) rfl ?_;refine zf (zA (zK ?_));have e := pc2 (h := h) (a := a) (b := b) (show op = 2 by omega);rw [show op = 2 by omega] at hX;rw [e.1,e.2,<- hX];exact u4 rfl (u6 _)
      ·
       refine zM (zA ?_);refine zB (zW zL [] mK21 1800 yP kr rfl ?_);refine zF ?_;refine zO _ ((gM h a _ [b] hh g hva.2 (by show 1 <= 1000000;omega)).args ⟨u6 _,u6 _,u6 _,u18 rfl,trivial⟩) rfl ?_;refine zF ?_;refine zO _ (Fn.eqo (qK0 h op a b hh g hva hvb hia hib) (congrArg (fun s => D.agg (stD s)) hX.symm)) rfl ?_;refine zf (zA (zK ?_));have e := pc1 (h := h) (a := a) (b := b) (show op = 1 by omega);rw [show op = 1 by omega] at hX;rw [e.1,e.2,<- hX];exact u4 rfl (u6 _)
theorem cmpPlanG_ok (h : List Ob) (op : Int) (a b : Vl) (hh : HpIn h) (g : Uh h) (hva : Vd h a) (hvb : Vd h b) (hia : VlIn a) (hib : VlIn b) (hop : op = 3 \/ op = 4) : Fx 26 [hpD md h,.v (.int .i64 op),.agg (vlD a),.agg (vlD b)] (plC (pcL h (op - 2) b a) (pcS h (op - 2) b a)) := by
 refine yD zL Tryz.func26 rfl rfl rfl rfl rfl rfl ?_;intro w0 s0 mx;refine zJ 100 ?_;refine zB (zJ 200 ?_);refine zR (zJ 300 ?_);refine zX (fun c2 => ?_) (fun c2 => ?_)
 ·
  refine zB (zE zL [] 400 rfl ?_);refine zF ?_;refine zO _ (bM h 1 b a hh g hvb hva hib hia om) rfl ?_;refine zf (zA (zK (zQ (zN ?_))));rw [show op - 2 = 1 by omega];exact u4 rfl (u6 _)
 ·
  refine zJ 500 ?_;refine zX (fun c4 => ?_) (fun c4 => ?_)
  ·
   refine zB (zE zL [] 600 rfl ?_);refine zF ?_;refine zO _ (bM h 2 b a hh g hvb hva hib hia om) rfl ?_;refine zf (zA (zK (zQ (zN ?_))));rw [show op - 2 = 2 by omega];exact u4 rfl (u6 _)
  ·
   omega
set_option maxHeartbeats 2000000 in
theorem pE (h : List Ob) (op : Int) (a b : Vl) (hh : HpIn h) (g : Uh h) (hva : Vd h a) (hvb : Vd h b) (hia : VlIn a) (hib : VlIn b) (hop : op = 1 \/ op = 2 \/ op = 5 \/ op = 9 \/ op = 10) : Fx 27 [hpD md h,.v (.int .i64 op),.agg (vlD a),.agg (vlD b)] (plC (pcL h op a b) (pcS h op a b)) := by
 have hca := tM g (gQ hva);have hcb := tM g (gQ hvb);obtain ⟨X,hX⟩ : ∃ X,X = lSt (leS h op 10000 10000 a b) := ⟨_,rfl⟩;obtain ⟨W,hW⟩ : ∃ W,W = qSt (eqS h 10000 10000 a b) := ⟨_,rfl⟩;obtain ⟨S,hS⟩ : ∃ S,S = qSt (saS h 10000 10000 a b) := ⟨_,rfl⟩;refine yD zL Tryz.func27 rfl rfl rfl rfl rfl rfl ?_;intro w0 s0 mx;refine zJ 100 ?_;refine zB (zJ 200 ?_);refine zR (zB (zJ 300 ?_));refine zX (fun c2 => ?_) (fun c2 => ?_)
 ·
  (have h9 := c2;first | omega | (simp at h9;omega))
 ·
  refine yM zL [] 400 ?_;refine zA (zX (fun c3 => ?_) (fun c3 => ?_))
  ·
   (have h9 := c3;first | omega | (simp at h9;omega))
  ·
   refine zJ 600 ?_;refine zX (fun c5 => ?_) (fun c5 => ?_)
   ·
    refine zB (zW zL [] mK22 700 yP kr rfl ?_);refine zF ?_;refine zO _ ((pD h a _ [b] hh g hva.2 (by show 1 <= 1000000;omega)).args ⟨u6 _,u6 _,u6 _,u18 rfl,trivial⟩) rfl ?_;refine zF ?_;refine zO _ (Fn.eqo (pV0 h op a b hh g hva hvb hia hib) (congrArg (fun s => D.agg (stD s)) hX.symm)) rfl ?_;refine zf (zA (zK (zQ (zN ?_))));have e := pc1 (h := h) (a := a) (b := b) (show op = 1 by omega);rw [show op = 1 by omega] at hX;rw [e.1,e.2,<- hX];exact u4 rfl (u6 _)
   ·
    refine zJ 800 ?_;refine zX (fun c7 => ?_) (fun c7 => ?_)
    ·
     refine zB (zW zL [] mK22 900 yP kr rfl ?_);refine zF ?_;refine zO _ ((pD h a _ [b] hh g hva.2 (by show 1 <= 1000000;omega)).args ⟨u6 _,u6 _,u6 _,u18 rfl,trivial⟩) rfl ?_;refine zF ?_;refine zO _ (Fn.eqo (pV0 h op a b hh g hva hvb hia hib) (congrArg (fun s => D.agg (stD s)) hX.symm)) rfl ?_;refine zf (zA (zK (zQ (zN ?_))));have e := pc2 (h := h) (a := a) (b := b) (show op = 2 by omega);rw [show op = 2 by omega] at hX;rw [e.1,e.2,<- hX];exact u4 rfl (u6 _)
    ·
     refine zJ 1000 ?_;refine zX (fun c9 => ?_) (fun c9 => ?_)
     ·
      refine zB (zE zL [] 1100 rfl ?_);refine zF ?_;refine zO _ (Fn.eqo (pT0 h a b hh g hva hvb) (congrArg (fun s => D.agg (stD s)) hS.symm)) rfl ?_;refine zf (zA (zK (zQ (zN ?_))));have o9 : op = 9 := by omega
      subst o9;have e := pc9 (h := h) (a := a) (b := b) (op := 9) om;rw [e.1,e.2,is_9,<- hS];exact u4 rfl (u20 (by repeat (first | exact trivial | exact u6 _ | exact SubP.ownSl (by simp [pN]) | exact u12 rfl | refine ⟨?_,?_⟩)))
     ·
      refine zJ 1200 ?_;refine zX (fun c11 => ?_) (fun c11 => ?_)
      ·
       refine zB (zE zL [] 1300 rfl ?_);refine zF ?_;refine zO _ (Fn.eqo (pT0 h a b hh g hva hvb) (congrArg (fun s => D.agg (stD s)) hS.symm)) rfl ?_;refine zF ?_;refine zC (zA (zB (zJ 1400 ?_)));refine zT rfl (fun c13 => ?_) (fun c13 => ?_)
       ·have c13 : S.k = 0 := by simpa using c13
        refine zE zL [] 1500 rfl ?_;refine zF ?_;refine zO _ (B_ok _) rfl ?_;refine zF ?_;refine zC (zA (zJ 1600 ?_));refine zK (zQ (zN ?_));obtain ⟨bb,hb⟩ := qSt_val (q := saS h 10000 10000 a b) (by rw [<- hS];exact c13);rw [<- hS] at hb;subst hb;have o9 : op = 10 := by omega
        subst o9;have e := pc9 (h := h) (a := a) (b := b) (op := 10) om;rw [e.1,e.2,is_10n (by rw [<- hS];exact c13),<- hS];exact u4 rfl (u20 (by repeat (first | exact trivial | exact u6 _ | exact SubP.ownSl (by simp [pN]) | exact u12 rfl | refine ⟨?_,?_⟩)))
       ·have c13 : ¬ S.k = 0 := by simpa using c13
        refine zM (zA (zJ 1600 ?_));refine zK (zQ (zN ?_));have o9 : op = 10 := by omega
        subst o9;have e := pc9 (h := h) (a := a) (b := b) (op := 10) om;rw [e.1,e.2,is_10x (by rw [<- hS];exact c13),<- hS];exact u4 rfl (u20 (by repeat (first | exact trivial | exact u6 _ | exact SubP.ownSl (by simp [pN]) | exact u12 rfl | refine ⟨?_,?_⟩)))
      ·
       refine zM (zP (zA ?_));refine zB (zW zL [75] mK19 1700 yP kr rfl ?_);refine zF ?_;refine vY _ _ _ ((attempts_O h a _ [b] hh g hva.2 (by show 1 <= 1000000;omega)).args ⟨u6 _,u6 _,u6 _,u18 rfl,trivial⟩) ?_;refine zF ?_;refine zO _ (Fn.eqo (EqualD_ok h a b hh g hva hvb) (congrArg (fun s => D.agg (stD s)) hW.symm)) rfl ?_;refine zf (zA (zB ?_));refine zB (zW zL [] [[],[],[0,1],[],[],(rgN 5),(rgN 6)] 1800 yP kr rfl ?_);refine zF ?_;refine zO _ (bS h a hca) rfl ?_;refine zF ?_;refine zO _ (bS h b hcb) rfl ?_;refine zF ?_;refine zC (zA (zT rfl (fun c17 => ?_) (fun c17 => ?_)))
       ·have c17 : ¬ clA h a = clA h b := by simpa using c17
        refine zW zL [] mK20 1900 yP kr rfl ?_;repeat (first | refine zH ?_ | refine zA1 ?_)
        refine zO _ ((pD h b _ [a] hh g hvb.2 (by show 1 <= 1000000;omega)).args ⟨u6 _,u6 _,u6 _,u18 rfl,trivial⟩) rfl ?_;repeat (first | refine zH ?_ | refine zA1 ?_)
        refine zC (zA (zJ 2000 ?_));refine zK ?_;have e := pc5 (h := h) (a := a) (b := b) (show op = 5 by omega);rw [e.1,e.2,<- hW,Aa c17];exact u4 rfl (u20 (by repeat (first | exact trivial | exact u6 _ | exact SubP.ownSl (by simp [pN]) | exact u12 rfl | refine ⟨?_,?_⟩)))
       ·have c17 : clA h a = clA h b := by simpa using c17
        refine zM (zA (zJ 2000 ?_));refine zK ?_;have e := pc5 (h := h) (a := a) (b := b) (show op = 5 by omega);rw [e.1,e.2,<- hW,Ac c17];exact u4 rfl (u20 (by repeat (first | exact trivial | exact u6 _ | exact SubP.ownSl (by simp [pN]) | exact u12 rfl | refine ⟨?_,?_⟩)))
theorem ComparedG_ok (h : List Ob) (op : Int) (a b : Vl) (hh : HpIn h) (g : Uh h) (hva : Vd h a) (hvb : Vd h b) (hia : VlIn a) (hib : VlIn b) (hop : op = 3 \/ op = 4) : Fx 27 [hpD md h,.v (.int .i64 op),.agg (vlD a),.agg (vlD b)] (plC (pcL h (op - 2) b a) (pcS h (op - 2) b a)) := by
 refine yD zL Tryz.func27 rfl rfl rfl rfl rfl rfl ?_;intro w0 s0 mx;refine zJ 100 ?_;refine zB (zJ 200 ?_);refine zR (zB (zJ 300 ?_));refine zX (fun c2 => ?_) (fun c2 => ?_)
 ·
  refine zM (zA (zX (fun c2x => ?_) (fun c2x => ?_)))
  ·
   refine zB (zE zL [] 500 rfl ?_);refine zF ?_;refine zO _ (pE h (op - 2) b a hh g hvb hva hib hia om) rfl ?_;refine zf (zA (zK (zQ (zN ?_))));exact u4 rfl (u6 _)
  ·
   simp_all
 ·
  refine yM zL [] 400 ?_;refine zA (zX (fun c3 => ?_) (fun c3 => ?_))
  ·
   refine zB (zE zL [] 500 rfl ?_);refine zF ?_;refine zO _ (pE h (op - 2) b a hh g hvb hva hib hia om) rfl ?_;refine zf (zA (zK (zQ (zN ?_))));exact u4 rfl (u6 _)
  ·
   omega
variable {md me : Bool}
theorem SamePlanC_self (l : List St) (s : St) (hl : l.length <= 1000) : Fx 23 [plC l s,plC l s] (.v (.bool true)) := by
 refine yD zL Tryz.func23 rfl rfl rfl rfl rfl rfl ?_;intro w0 s0 mx;refine zJ 100 ?_;refine zB ?_;refine zB (zE zL [] 200 rfl ?_);refine zF ?_;refine yN _ (fun hg12 => zX0 s s) rfl ?_;refine zF ?_;refine zC (zA (zX (fun c1 => ?_) (fun c1 => ?_)))
 ·
  simp [vG0] at c1
 ·
  refine zM (zA (zB (zJ 400 ?_)));refine zR ?_;refine yC (ι := {k : Nat // k <= l.length}) [2,3,23] [0,1] 450 (fun x => [(24,.v (.int .i64 x.1))]) (fun _ => []) (fun x => l.length - x.1) ⟨0,Ap _⟩ ?_;refine ⟨⟨yK,yH,rfl,rfl⟩,fun x => ?_⟩;have hk : x.1 <= l.length := x.2;refine zJ 500 ?_;refine zB (zX (fun c4 => ?_) (fun c4 => ?_))
  ·
   refine zM (zA (zB (zR (zJ 600 ?_))));refine zB (zW zL [] [[],[0],[],[0,1,2],[0,1,2,3],[],[5],[],[5,6,7],[5,6,7,8],(rgN 10),(rgN 11)] 700 yP kr rfl ?_);refine zF ?_;refine zO _ (zX0 _ _) rfl ?_;refine zF ?_;refine zC (zA (zX (fun c6 => ?_) (fun c6 => ?_)))
   ·
    simp [vG0] at c6
   ·
    refine zM (zP (zA (yM zL [] 900 ?_)));exact zS (⟨x.1 + 1,by omega⟩) ⟨⟨u21 (by push_cast;rfl),yK⟩,yH,rfl,rfl⟩ (by show l.length - (x.1 + 1) < l.length - x.1;omega)
  ·
   refine yE (yA (yB (zZ (zA (zJ 1000 ?_)))));refine zK ?_;exact u4 rfl (u6 _)
theorem yL1 (h : List Ob) (op : Int) (a b : Vl) : (pcL h op a b).length <= 1000 := by
 have l1 := fun s => zU1 (h := h) s a [b];have l2 := fun s => zU1 (h := h) s b [a];unfold pcL;repeat' split
 ·have := l1 pN;simp;omega
 ·have := l1 pN;have := l2 pN;rw [Aj];omega
 ·exact Ap _
 ·have := l1 qZ1;omega
 ·have := l1 qY1;omega
set_option maxHeartbeats 4000000 in
theorem Law37_ok (h : List Ob) (op : Int) (a b : Vl) (hh : HpIn h) (hia : VlIn a) (hib : VlIn b) : Fx 7 [hpD md h,.v (.int .i64 op),.agg (vlD a),.agg (vlD b)] (.v (.bool true)) := by
 refine yD zL Tryz.func7 rfl rfl rfl rfl rfl rfl ?_;intro w0 s0 mx;refine zJ 100 ?_;refine zB ?_;refine zB (zE zL [] 200 rfl ?_);refine zF ?_;refine zO _ ((Usable_ok h [a,b] hh (fun u hu => by simp only [Bq,List.not_mem_nil,or_false] at hu;rcases hu with rfl | rfl <;> assumption) (by show 2 <= 2000000;omega)).args ⟨u6 _,u18 rfl,trivial⟩) rfl ?_
 refine zF ?_;refine zC (zA (zT rfl (fun c1 => ?_) (fun c1 => ?_)))
 ·
  refine zJ 300 ?_;refine zK (zN ?_);exact u4 rfl (u6 _)
 ·have hq : ((uK h).1 = 0 /\ hasS h a = true /\ hasS h b = true) /\ (op = 1 \/ op = 2 \/ op = 5 \/ op = 9 \/ op = 10 \/ op = 3 \/ op = 4) := by
   have h9 := c1;simp only [Dh,Aw,Bv] at h9;have hu : dN h [a,b] = true := by simpa using h9.1.1.1.1.1
   simp only [dN,Ai,Am,List.all_cons,List.all_nil,Bool.and_true] at hu;exact ⟨hu,by omega⟩
  have g : Uh h := uh_of hq.1.1;have va := yV1 hq.1.2.1;have vb := yV1 hq.1.2.2;obtain ⟨L,X,hlen,pA,pB⟩ : ∃ L X,L.length <= 1000 /\ Fx 26 [hpD md h,.v (.int .i64 op),.agg (vlD a),.agg (vlD b)] (plC L X) /\ Fx 27 [hpD md h,.v (.int .i64 op),.agg (vlD a),.agg (vlD b)] (plC L X) := by
   by_cases ho : op = 3 \/ op = 4
   ·exact ⟨_,_,yL1 _ _ _ _,cmpPlanG_ok h op a b hh g va vb hia hib ho,ComparedG_ok h op a b hh g va vb hia hib ho⟩
   ·exact ⟨_,_,yL1 _ _ _ _,bM h op a b hh g va vb hia hib om,pE h op a b hh g va vb hia hib om⟩
  refine zM (zA ?_);refine zB (zW zL [] [[],[],[],[],[0,1,2,3],[],[],[],[],(rgN 9),(rgN 10),(rgN 11)] 400 yP kr rfl ?_);refine zF ?_;refine zO _ (pA) rfl ?_;refine zF ?_;refine zO _ (pB) rfl ?_;refine zF ?_;refine zO _ (SamePlanC_self L X hlen) rfl ?_;refine zf (zA (zK ?_));exact u4 rfl (u6 _)
open Go.ChangeShapes Go.WideShapes Go.ChangeAt Go.RowKit Go.Deep
theorem pI0 {H : Type} {d : DataW H} {l : List (DataW H)} (h : d ∈ l) : Rows.uptoBulk d <= Rows.uptoBulkAll l := by
 induction l with
 | nil => cases h
 | cons x r ih =>
  simp only [Rows.uptoBulkAll]
  cases Bq.1 h with
  | inl e => subst e;omega
  | inr e => have := ih e;omega
theorem bulk_one {H : Type} (d : DataW H) : 1 <= Rows.uptoBulk d := by
 cases d with
 | lit l => cases l <;> simp [Rows.uptoBulk]
 | nil => simp [Rows.uptoBulk]
 | ptr d => simp [Rows.uptoBulk]
 | slice elems spare => simp [Rows.uptoBulk]
 | agg parts => simp [Rows.uptoBulk]
 | iface t d => simp [Rows.uptoBulk]
 | map entries => simp [Rows.uptoBulk]
 | held h => simp [Rows.uptoBulk]
theorem bulk_length {H : Type} (l : List (DataW H)) : l.length <= Rows.uptoBulkAll l := by
 induction l with
 | nil => simp [Rows.uptoBulkAll]
 | cons x r ih => have := bulk_one x;simp only [Rows.uptoBulkAll,Aq];omega
theorem qU {H : Type} {l : List (DataW H × List MemPlace)} {i : Nat} {y : DataW H × List MemPlace} (h : l[i]? = some y) {n : Nat} (hn : Rows.uptoBulk (DataW.agg (l.map (·.1))) <= n) : Rows.uptoBulk y.1 <= n := by
 have h1 : y.1 ∈ l.map (·.1) := Cn.2 ⟨y,Bh h,rfl⟩;have h2 := pI0 h1;simp only [Rows.uptoBulk] at hn;omega
def sW (W : World) : Sb := ⟨fun b _ => b < W.heap.size,fun b _ => b < W.heap.size,fun _ _ h => h⟩
def I64 (x : Int) : Prop := -9223372036854775808 <= x /\ x <= 9223372036854775807
theorem i64_wf {x : Int} (h : (Lit.int .i64 x).wf = true) : I64 x := by
 simp [Lit.wf] at h;have h1 : IntKind.i64.min = -9223372036854775808 := by decide
 have h2 : IntKind.i64.max = 9223372036854775807 := by decide
 unfold I64;omega
theorem u32_wf {x : Int} (h : (Lit.int .u32 x).wf = true) : 0 <= x /\ x < 4294967296 := by
 simp [Lit.wf] at h;have h1 : IntKind.u32.min = 0 := by decide
 have h2 : IntKind.u32.max = 4294967295 := by decide
 omega
def Opn {H : Type} (enc : TypeId × Value -> H) (P : Program) (W : World) (t : TypeId) {α : Type} (f : α -> List D) (Q : α -> Nat -> Prop) : Prop :=
 ∀ (fuel : Nat) (cs : List Value) (d : DataW H) (ps : List MemPlace),cs.length = P.cellsOf t -> DataW.trod enc P W 0 (fun _ => true) true fuel t cs = some (d,ps) ->
  ∃ x,AllV W (sW W) (D.pvs (f x)) cs /\ (∀ c ∈ cs,c.oneCell' = true) /\ ∀ n,Rows.uptoBulk d <= n -> Q x n
section
variable {H : Type} {enc : TypeId × Value -> H} {P : Program} {W : World}
theorem bB {c : Value} (h : c.oneCell' = true) : ∀ x ∈ [c],x.oneCell' = true := fun x hx => by rw [Ee] at hx;rw [hx];exact h
theorem Opn.int {t : TypeId} (ht : P.underlying t = some (.int .i64)) : Opn enc P W t iD (fun x _ => I64 x) := by
 intro fuel cs d ps _ h;obtain ⟨k,rfl,_,wf⟩ := DataW.trod_int ht h;exact ⟨k,⟨rfl,trivial⟩,bB rfl,fun _ _ => i64_wf wf⟩
theorem Opn.u32 {t : TypeId} (ht : P.underlying t = some (.int .u32)) : Opn enc P W t uD (fun x _ => x < 4294967296) := by
 intro fuel cs d ps _ h;obtain ⟨k,rfl,_,wf⟩ := DataW.trod_int ht h;have h1 := u32_wf wf;refine ⟨k.toNat,⟨?_,trivial⟩,bB rfl,fun _ _ => by omega⟩;show Value.int .u32 k = .int .u32 (k.toNat : Nat);rw [Int.toNat_of_nonneg h1.1]
theorem Opn.bool {t : TypeId} (ht : P.underlying t = some .bool) : Opn enc P W t (fun b : Bool => [.v (.bool b)]) (fun _ _ => True) := by
 intro fuel cs d ps _ h;obtain ⟨k,rfl,_⟩ := DataW.trod_bool ht h;exact ⟨k,⟨rfl,trivial⟩,bB rfl,fun _ _ => trivial⟩
theorem Opn.str {t : TypeId} (ht : P.underlying t = some .string) : Opn enc P W t sD (fun s n => s.size <= n) := by
 intro fuel cs d ps _ h;obtain ⟨k,rfl,hx,_⟩ := DataW.trod_string ht h;refine ⟨k,⟨rfl,trivial⟩,bB rfl,fun n hn => ?_⟩;simp only [Prod.mk.injEq] at hx;rw [hx.1] at hn;simp only [Rows.uptoBulk] at hn;have e : k.data.toList.length = k.size := by rw [Dz];rfl
 omega
theorem Opn.sl {α : Type} {f : α -> List D} {Q : α -> Nat -> Prop} {t e : TypeId} {sz : Nat} (e0 : α) (ht : P.underlying t = some (.slice e)) (hc : P.cellsOf e = sz) (hz : 0 < sz) (he : Opn enc P W e f Q) :
  Opn enc P W t (fun l => [.sl false sz l f e0]) (fun l n => l.length <= n /\ ∀ x ∈ l,Q x n) := by
 intro fuel cs d ps _ h;rcases open_slice ht h with ⟨rfl,hx⟩ | ⟨a,len,cap,m,n,D',Pl,rfl,_,hl,hm,hmm,hx,hel⟩
 ·exact ⟨[],⟨PV.sl_nil,trivial⟩,bB rfl,fun _ _ => ⟨Ap _,fun x hx => by cases hx⟩⟩
 ·simp only [if_true] at hmm;subst hmm;have hq : ∀ i,i < len -> ∃ x : α,∃ cs',W.cells? 0 (a.add (i * sz)) sz = some cs' /\ AllV W (sW W) (D.pvs (f x)) cs' /\ (∀ c ∈ cs',c.oneCell' = true) /\ ∀ n,Rows.uptoBulk (D' i) <= n -> Q x n := fun i hi => by
   obtain ⟨cs',h1,h2⟩ := hel i om;rw [hc] at h1;obtain ⟨_,hlen,_⟩ := World.cells?_some h1;obtain ⟨x,hx1,hx2,hx3⟩ := he n cs' (D' i) (Pl i) om h2;exact ⟨x,cs',h1,hx1,hx2,hx3⟩
  obtain ⟨g,hg⟩ : ∃ g : Nat -> α,∀ i,i < len -> ∃ cs',W.cells? 0 (a.add (i * sz)) sz = some cs' /\ AllV W (sW W) (D.pvs (f (g i))) cs' /\ (∀ c ∈ cs',c.oneCell' = true) /\ ∀ n,Rows.uptoBulk (D' i) <= n -> Q (g i) n :=
   ⟨fun i => if h : i < len then Classical.choose (hq i h) else e0,fun i hi => by simp only [dif_pos hi];exact Classical.choose_spec (hq i hi)⟩
  have hrl : (((List.range len).map g).map fun a => D.pvs (f a)).length = len := by simp
  refine ⟨(List.range len).map g,⟨⟨some a,m,?_,?_,?_,?_,?_⟩,trivial⟩,bB rfl,fun n hn => ?_⟩
  ·show Value.slice (some a) len m = Value.slice (some a) (((List.range len).map g).map fun a => D.pvs (f a)).length m;rw [hrl]
  ·show (((List.range len).map g).map fun a => D.pvs (f a)).length <= m;rw [hrl];exact hl
  ·have : maxLen = 9223372036854775807 := by decide
   omega
  ·intro row hrow;have hrow : row ∈ ((List.range len).map g).map fun a => D.pvs (f a) := hrow;rw [Dj] at hrow;obtain ⟨i,hi,rfl⟩ := Cn.1 hrow;obtain ⟨cs',h1,h2,-⟩ := hg i (Cr.1 hi);have h3 := h2.length;obtain ⟨_,h4,_⟩ := World.cells?_some h1;show (D.pvs (f (g i))).length = sz;omega
  ·intro i row hrow;have hrow : (((List.range len).map g).map fun a => D.pvs (f a))[i]? = some row := hrow;rw [Dj,Cc] at hrow;obtain ⟨j,hj,rfl⟩ := Option.map_eq_some_iff.1 hrow;have hi : i < len := by have := (Ad.1 hj).1;simpa using this
   rw [List.getElem?_range hi] at hj
   cases hj;obtain ⟨cs',h1,h2,h3,-⟩ := hg i hi;obtain ⟨_,h4,h5⟩ := World.cells?_some h1;obtain ⟨b,off,spot⟩ := a
   cases spot with
   | some sp =>
    obtain ⟨cs0,k1,-⟩ := hg 0 om;obtain ⟨_,k4,k5⟩ := World.cells?_some k1;have h6 := k5 0 hz;rw [Ah om] at h6;have := World.cell?_spot h6;simp [Addr.add] at this
   | none =>
    refine ⟨b,off,rfl,fun j d hd => ?_⟩;obtain ⟨v,hv,hp⟩ := h2.get hd;have hj : j < cs'.length := (Ad.1 hv).1;have h6 := h5 j om;rw [hv] at h6;have h7 : W.cell? ⟨b,off + i * sz + j,none⟩ = some v := by rw [add_plain,add_plain] at h6;exact h6
    exact ⟨v,h7,(World.block_lt_of_cell? _ _ h7 : b < W.heap.size),hp,h3 v (Bh hv)⟩
  ·simp only [Prod.mk.injEq] at hx;rw [hx.1] at hn;simp only [Rows.uptoBulk] at hn;have h1 := bulk_length ((List.range len).map D');simp only [Bb,List.length_range] at h1;refine ⟨by simp;omega,fun x hx => ?_⟩;obtain ⟨i,hi,rfl⟩ := Cn.1 hx;obtain ⟨cs',-,-,-,h4⟩ := hg i (Cr.1 hi);exact h4 n (by have := pI0 (d := D' i) (l := (List.range len).map D') (Cn.2 ⟨i,hi,rfl⟩);omega)
end
theorem list5 {α : Type} {l : List α} (h : l.length = 5) : ∃ c0 c1 c2 c3 c4,l = [c0,c1,c2,c3,c4] := by
 match l,h with
 | [c0,c1,c2,c3,c4],_ => exact ⟨c0,c1,c2,c3,c4,rfl⟩
theorem list7 {α : Type} {l : List α} (h : l.length = 7) : ∃ c0 c1 c2 c3 c4 c5 c6,l = [c0,c1,c2,c3,c4,c5,c6] := by
 match l,h with
 | [c0,c1,c2,c3,c4,c5,c6],_ => exact ⟨c0,c1,c2,c3,c4,c5,c6,rfl⟩
theorem yO1 {α : Type} {l : List α} (h : l.length = 10) : ∃ c0 c1 c2 c3 c4 c5 c6 c7 c8 c9,l = [c0,c1,c2,c3,c4,c5,c6,c7,c8,c9] := by
 match l,h with
 | [c0,c1,c2,c3,c4,c5,c6,c7,c8,c9],_ => exact ⟨c0,c1,c2,c3,c4,c5,c6,c7,c8,c9,rfl⟩
theorem jW {W : World} {s : Sb} {d : D} {c : Value} (h : AllV W s (D.pvs [d]) [c]) : d.pv.p W s c := h.1
section
variable {H : Type} {enc : TypeId × Value -> H} {W : World}
def intD (p : Bool × List Nat) : List D := [.v (.bool p.1),usD p.2]
set_option maxRecDepth 100000 in
theorem Opn.bigI : Opn enc Tryz.prog W 27 intD (fun p n => p.2.length <= n /\ ∀ x ∈ p.2,x < 4294967296) := by
 intro fuel cs d ps hl h;have e4 : Tryz.prog.cellsOf 4 = 1 := by kernel_rfl
 have e22 : Tryz.prog.cellsOf 25 = 1 := by kernel_rfl
 have eI : Tryz.prog.cellsOf 27 = 2 := by kernel_rfl
 rw [eI] at hl
 match cs,hl with
 | [c0,c1],_ =>
  obtain ⟨xs,n1,_,hx,_,hlen,hg⟩ := DataW.trod_struct Tryz.underlying27 h
  match xs,hlen with
  | [y0,y1],_ =>
   have g0 : DataW.trod enc Tryz.prog W 0 (fun _ => true) true n1 4 (([c0,c1].drop 0).take (Tryz.prog.cellsOf 4)) = some y0 := hg 0 _ rfl;rw [e4] at g0
   replace g0 : DataW.trod enc Tryz.prog W 0 (fun _ => true) true n1 4 [c0] = some y0 := g0
   have g1 : DataW.trod enc Tryz.prog W 0 (fun _ => true) true n1 25 (([c0,c1].drop 1).take (Tryz.prog.cellsOf 25)) = some y1 := hg 1 _ rfl;rw [e22] at g1
   replace g1 : DataW.trod enc Tryz.prog W 0 (fun _ => true) true n1 25 [c1] = some y1 := g1
   obtain ⟨x0,a0,o0,q0⟩ := Opn.bool Tryz.underlying4 _ _ y0.1 y0.2 (by rw [e4];rfl) g0;obtain ⟨x1,a1,o1,q1⟩ := Opn.sl 0 Tryz.underlying25 (sz := 1) kr de (Opn.u32 Tryz.underlying126) _ _ y1.1 y1.2 (by rw [e22];rfl) g1;simp only [Prod.mk.injEq] at hx;refine ⟨(x0,x1),⟨jW a0,jW a1,trivial⟩,fun c hc => ?_,fun n hn => ?_⟩
   ·simp only [Bq,List.not_mem_nil,or_false] at hc;rcases hc with rfl | rfl
    ·exact o0 _ (by simp)
    ·exact o1 _ (by simp)
   ·rw [hx.1] at hn;exact q1 n (qU (i := 1) (y := y1) rfl hn)
set_option maxRecDepth 100000 in
theorem Opn.val : Opn enc Tryz.prog W 29 vlD (fun v n => n <= 1048576 -> VlIn v) := by
 intro fuel cs d ps hl h;have e3 : Tryz.prog.cellsOf 3 = 1 := by kernel_rfl
 have e9 : Tryz.prog.cellsOf 9 = 1 := by kernel_rfl
 have e24 : Tryz.prog.cellsOf 27 = 2 := by kernel_rfl
 have eV : Tryz.prog.cellsOf 29 = 7 := by kernel_rfl
 rw [eV] at hl;obtain ⟨c0,c1,c2,c3,c4,c5,c6,rfl⟩ := list7 hl;obtain ⟨xs,n1,_,hx,_,hlen,hg⟩ := DataW.trod_struct Tryz.underlying29 h;obtain ⟨y0,y1,y2,y3,y4,rfl⟩ := list5 hlen;have g0 : DataW.trod enc Tryz.prog W 0 (fun _ => true) true n1 3 (([c0,c1,c2,c3,c4,c5,c6].drop 0).take (Tryz.prog.cellsOf 3)) = some y0 := hg 0 _ rfl;rw [e3] at g0
 replace g0 : DataW.trod enc Tryz.prog W 0 (fun _ => true) true n1 3 [c0] = some y0 := g0
 have g1 : DataW.trod enc Tryz.prog W 0 (fun _ => true) true n1 27 (([c0,c1,c2,c3,c4,c5,c6].drop 1).take (Tryz.prog.cellsOf 27)) = some y1 := hg 1 _ rfl;rw [e24] at g1
 replace g1 : DataW.trod enc Tryz.prog W 0 (fun _ => true) true n1 27 [c1,c2] = some y1 := g1
 have g2 : DataW.trod enc Tryz.prog W 0 (fun _ => true) true n1 27 (([c0,c1,c2,c3,c4,c5,c6].drop 3).take (Tryz.prog.cellsOf 27)) = some y2 := hg 2 _ rfl;rw [e24] at g2
 replace g2 : DataW.trod enc Tryz.prog W 0 (fun _ => true) true n1 27 [c3,c4] = some y2 := g2
 have g3 : DataW.trod enc Tryz.prog W 0 (fun _ => true) true n1 9 (([c0,c1,c2,c3,c4,c5,c6].drop 5).take (Tryz.prog.cellsOf 9)) = some y3 := hg 3 _ rfl;rw [e9] at g3
 replace g3 : DataW.trod enc Tryz.prog W 0 (fun _ => true) true n1 9 [c5] = some y3 := g3
 have g4 : DataW.trod enc Tryz.prog W 0 (fun _ => true) true n1 3 (([c0,c1,c2,c3,c4,c5,c6].drop 6).take (Tryz.prog.cellsOf 3)) = some y4 := hg 4 _ rfl;rw [e3] at g4
 replace g4 : DataW.trod enc Tryz.prog W 0 (fun _ => true) true n1 3 [c6] = some y4 := g4
 obtain ⟨x0,a0,o0,q0⟩ := Opn.int Tryz.underlying3 _ _ y0.1 y0.2 (by rw [e3];rfl) g0;obtain ⟨x1,a1,o1,q1⟩ := Opn.bigI _ _ y1.1 y1.2 (by rw [e24];rfl) g1;obtain ⟨x2,a2,o2,q2⟩ := Opn.bigI _ _ y2.1 y2.2 (by rw [e24];rfl) g2;obtain ⟨x3,a3,o3,q3⟩ := Opn.str Tryz.underlying9 _ _ y3.1 y3.2 (by rw [e9];rfl) g3;obtain ⟨x4,a4,o4,q4⟩ := Opn.int Tryz.underlying3 _ _ y4.1 y4.2 (by rw [e3];rfl) g4;simp only [Prod.mk.injEq] at hx;refine ⟨⟨x0,x1.1,x1.2,x2.1,x2.2,x3,x4⟩,⟨jW a0,a1.1,a1.2.1,a2.1,a2.2.1,jW a3,jW a4,trivial⟩,fun c hc => ?_,fun n hn hn2 => ?_⟩
 ·simp only [Bq,List.not_mem_nil,or_false] at hc;rcases hc with rfl | rfl | rfl | rfl | rfl | rfl | rfl
  ·exact o0 _ (by simp)
  ·exact o1 _ (by simp)
  ·exact o1 _ (by simp)
  ·exact o2 _ (by simp)
  ·exact o2 _ (by simp)
  ·exact o3 _ (by simp)
  ·exact o4 _ (by simp)
 ·rw [hx.1] at hn;have b0 := q0 n (qU (i := 0) (y := y0) rfl hn);have b1 := q1 n (qU (i := 1) (y := y1) rfl hn);have b2 := q2 n (qU (i := 2) (y := y2) rfl hn);have b3 := q3 n (qU (i := 3) (y := y3) rfl hn);have b4 := q4 n (qU (i := 4) (y := y4) rfl hn);exact ⟨b0.1,b0.2,b4.1,b4.2,b1.2,b2.2,by show x1.2.length <= _;omega,by show x2.2.length <= _;omega,by show x3.size <= _;omega⟩
set_option maxRecDepth 100000 in
theorem Opn.obj : Opn enc Tryz.prog W 41 obD (fun o n => n <= 1048576 -> ObIn o) := by
 intro fuel cs d ps hl h;have e3 : Tryz.prog.cellsOf 3 = 1 := by kernel_rfl
 have e9 : Tryz.prog.cellsOf 9 = 1 := by kernel_rfl
 have eI : Tryz.prog.cellsOf 38 = 1 := by kernel_rfl
 have eS : Tryz.prog.cellsOf 39 = 1 := by kernel_rfl
 have eV : Tryz.prog.cellsOf 31 = 1 := by kernel_rfl
 have eO : Tryz.prog.cellsOf 41 = 10 := by kernel_rfl
 rw [eO] at hl;obtain ⟨c0,c1,c2,c3,c4,c5,c6,c7,c8,c9,rfl⟩ := yO1 hl;obtain ⟨xs,n1,_,hx,_,hlen,hg⟩ := DataW.trod_struct Tryz.underlying41 h;obtain ⟨y0,y1,y2,y3,y4,y5,y6,y7,y8,y9,rfl⟩ := yO1 hlen;have g0 : DataW.trod enc Tryz.prog W 0 (fun _ => true) true n1 3 (([c0,c1,c2,c3,c4,c5,c6,c7,c8,c9].drop 0).take (Tryz.prog.cellsOf 3)) = some y0 := hg 0 _ rfl;rw [e3] at g0
 replace g0 : DataW.trod enc Tryz.prog W 0 (fun _ => true) true n1 3 [c0] = some y0 := g0
 have g1 : DataW.trod enc Tryz.prog W 0 (fun _ => true) true n1 9 (([c0,c1,c2,c3,c4,c5,c6,c7,c8,c9].drop 1).take (Tryz.prog.cellsOf 9)) = some y1 := hg 1 _ rfl;rw [e9] at g1
 replace g1 : DataW.trod enc Tryz.prog W 0 (fun _ => true) true n1 9 [c1] = some y1 := g1
 have g2 : DataW.trod enc Tryz.prog W 0 (fun _ => true) true n1 3 (([c0,c1,c2,c3,c4,c5,c6,c7,c8,c9].drop 2).take (Tryz.prog.cellsOf 3)) = some y2 := hg 2 _ rfl;rw [e3] at g2
 replace g2 : DataW.trod enc Tryz.prog W 0 (fun _ => true) true n1 3 [c2] = some y2 := g2
 have g3 : DataW.trod enc Tryz.prog W 0 (fun _ => true) true n1 38 (([c0,c1,c2,c3,c4,c5,c6,c7,c8,c9].drop 3).take (Tryz.prog.cellsOf 38)) = some y3 := hg 3 _ rfl;rw [eI] at g3
 replace g3 : DataW.trod enc Tryz.prog W 0 (fun _ => true) true n1 38 [c3] = some y3 := g3
 have g4 : DataW.trod enc Tryz.prog W 0 (fun _ => true) true n1 38 (([c0,c1,c2,c3,c4,c5,c6,c7,c8,c9].drop 4).take (Tryz.prog.cellsOf 38)) = some y4 := hg 4 _ rfl;rw [eI] at g4
 replace g4 : DataW.trod enc Tryz.prog W 0 (fun _ => true) true n1 38 [c4] = some y4 := g4
 have g5 : DataW.trod enc Tryz.prog W 0 (fun _ => true) true n1 39 (([c0,c1,c2,c3,c4,c5,c6,c7,c8,c9].drop 5).take (Tryz.prog.cellsOf 39)) = some y5 := hg 5 _ rfl;rw [eS] at g5
 replace g5 : DataW.trod enc Tryz.prog W 0 (fun _ => true) true n1 39 [c5] = some y5 := g5
 have g6 : DataW.trod enc Tryz.prog W 0 (fun _ => true) true n1 31 (([c0,c1,c2,c3,c4,c5,c6,c7,c8,c9].drop 6).take (Tryz.prog.cellsOf 31)) = some y6 := hg 6 _ rfl;rw [eV] at g6
 replace g6 : DataW.trod enc Tryz.prog W 0 (fun _ => true) true n1 31 [c6] = some y6 := g6
 have g7 : DataW.trod enc Tryz.prog W 0 (fun _ => true) true n1 31 (([c0,c1,c2,c3,c4,c5,c6,c7,c8,c9].drop 7).take (Tryz.prog.cellsOf 31)) = some y7 := hg 7 _ rfl;rw [eV] at g7
 replace g7 : DataW.trod enc Tryz.prog W 0 (fun _ => true) true n1 31 [c7] = some y7 := g7
 have g8 : DataW.trod enc Tryz.prog W 0 (fun _ => true) true n1 3 (([c0,c1,c2,c3,c4,c5,c6,c7,c8,c9].drop 8).take (Tryz.prog.cellsOf 3)) = some y8 := hg 8 _ rfl;rw [e3] at g8
 replace g8 : DataW.trod enc Tryz.prog W 0 (fun _ => true) true n1 3 [c8] = some y8 := g8
 have g9 : DataW.trod enc Tryz.prog W 0 (fun _ => true) true n1 3 (([c0,c1,c2,c3,c4,c5,c6,c7,c8,c9].drop 9).take (Tryz.prog.cellsOf 3)) = some y9 := hg 9 _ rfl;rw [e3] at g9
 replace g9 : DataW.trod enc Tryz.prog W 0 (fun _ => true) true n1 3 [c9] = some y9 := g9
 obtain ⟨x0,a0,o0,q0⟩ := Opn.int Tryz.underlying3 _ _ y0.1 y0.2 (by rw [e3];rfl) g0;obtain ⟨x1,a1,o1,q1⟩ := Opn.str Tryz.underlying9 _ _ y1.1 y1.2 (by rw [e9];rfl) g1;obtain ⟨x2,a2,o2,q2⟩ := Opn.int Tryz.underlying3 _ _ y2.1 y2.2 (by rw [e3];rfl) g2;obtain ⟨x3,a3,o3,q3⟩ := Opn.sl 0 Tryz.underlying38 (sz := 1) kr de (Opn.int Tryz.underlying3) _ _ y3.1 y3.2 (by rw [eI];rfl) g3;obtain ⟨x4,a4,o4,q4⟩ := Opn.sl 0 Tryz.underlying38 (sz := 1) kr de (Opn.int Tryz.underlying3) _ _ y4.1 y4.2 (by rw [eI];rfl) g4;obtain ⟨x5,a5,o5,q5⟩ := Opn.sl ByteArray.empty Tryz.underlying39 (sz := 1) kr de (Opn.str Tryz.underlying9) _ _ y5.1 y5.2 (by rw [eS];rfl) g5;obtain ⟨x6,a6,o6,q6⟩ := Opn.sl vl0 Tryz.underlying31 (sz := 7) kr de Opn.val _ _ y6.1 y6.2 (by rw [eV];rfl) g6;obtain ⟨x7,a7,o7,q7⟩ := Opn.sl vl0 Tryz.underlying31 (sz := 7) kr de Opn.val _ _ y7.1 y7.2 (by rw [eV];rfl) g7;obtain ⟨x8,a8,o8,q8⟩ := Opn.int Tryz.underlying3 _ _ y8.1 y8.2 (by rw [e3];rfl) g8;obtain ⟨x9,a9,o9,q9⟩ := Opn.int Tryz.underlying3 _ _ y9.1 y9.2 (by rw [e3];rfl) g9;simp only [Prod.mk.injEq] at hx;refine ⟨⟨x0,x1,x2,x3,x4,x5,x6,x7,x8,x9⟩,⟨jW a0,jW a1,jW a2,jW a3,jW a4,jW a5,jW a6,jW a7,jW a8,jW a9,trivial⟩,fun c hc => ?_,fun n hn hn2 => ?_⟩
 ·simp only [Bq,List.not_mem_nil,or_false] at hc;rcases hc with rfl | rfl | rfl | rfl | rfl | rfl | rfl | rfl | rfl | rfl
  ·exact o0 _ (by simp)
  ·exact o1 _ (by simp)
  ·exact o2 _ (by simp)
  ·exact o3 _ (by simp)
  ·exact o4 _ (by simp)
  ·exact o5 _ (by simp)
  ·exact o6 _ (by simp)
  ·exact o7 _ (by simp)
  ·exact o8 _ (by simp)
  ·exact o9 _ (by simp)
 ·rw [hx.1] at hn;have b0 := q0 n (qU (i := 0) (y := y0) rfl hn);have b1 := q1 n (qU (i := 1) (y := y1) rfl hn);have b2 := q2 n (qU (i := 2) (y := y2) rfl hn);have b3 := q3 n (qU (i := 3) (y := y3) rfl hn);have b4 := q4 n (qU (i := 4) (y := y4) rfl hn);have b5 := q5 n (qU (i := 5) (y := y5) rfl hn);have b6 := q6 n (qU (i := 6) (y := y6) rfl hn);have b7 := q7 n (qU (i := 7) (y := y7) rfl hn);have b8 := q8 n (qU (i := 8) (y := y8) rfl hn);have b9 := q9 n (qU (i := 9) (y := y9) rfl hn)
  exact ⟨b0,b2,b8,b9,by show x1.size <= _;omega,by show x3.length <= _;omega,by show x4.length <= _;omega,by show x5.length <= _;omega,by show x6.length <= _;omega,by show x7.length <= _;omega,
   fun s hs => by have := b5.2 s hs;omega,fun v hv => b6.2 v hv hn2,fun v hv => b7.2 v hv hn2⟩
def hpL (h : List Ob) : List D := [.sl false 10 h obD ob0]
set_option maxRecDepth 100000 in
theorem Opn.heap : Opn enc Tryz.prog W 24 hpL (fun h n => n <= 1048576 -> HpIn h) := by
 intro fuel cs d ps hl h;have eH : Tryz.prog.cellsOf 24 = 1 := by kernel_rfl
 have eO : Tryz.prog.cellsOf 22 = 1 := by kernel_rfl
 rw [eH] at hl
 match cs,hl with
 | [c0],_ =>
  obtain ⟨xs,n1,_,hx,_,hlen,hg⟩ := DataW.trod_struct Tryz.underlying24 h
  match xs,hlen with
  | [y0],_ =>
   have g0 : DataW.trod enc Tryz.prog W 0 (fun _ => true) true n1 22 (([c0].drop 0).take (Tryz.prog.cellsOf 22)) = some y0 := hg 0 _ rfl;rw [eO] at g0
   replace g0 : DataW.trod enc Tryz.prog W 0 (fun _ => true) true n1 22 [c0] = some y0 := g0
   obtain ⟨x0,a0,o0,q0⟩ := Opn.sl ob0 Tryz.underlying22 (sz := 10) kr de Opn.obj _ _ y0.1 y0.2 (by rw [eO];rfl) g0;simp only [Prod.mk.injEq] at hx;refine ⟨x0,a0,o0,fun n hn hn2 => ?_⟩;rw [hx.1] at hn;have b0 := q0 n (qU (i := 0) (y := y0) rfl hn);exact ⟨fun o ho => b0.2 o ho hn2,by omega⟩
theorem Opn.agg {P : Program} {α : Type} {f : α -> List D} {Q : α -> Nat -> Prop} {t : TypeId} {fs : Array Field} {base : Nat} (ho : Opn enc P W t f Q) (ht : P.underlying t = some (.struct fs)) {v : Value} {d : DataW H} {ps : List MemPlace}
  (hv : Value.okWide P W .any base t v) (h : DataW.Trod enc P W 0 (fun _ => true) true t v d ps) :
  ∃ x,(D.agg (f x)).pv.p W (sW W) v /\ ∀ n,Rows.uptoBulk d <= n -> Q x n := by
 obtain ⟨cs,rfl,hsz⟩ := okWide_struct ht hv;obtain ⟨l⟩ := cs;obtain ⟨fuel,hf⟩ := h;obtain ⟨x,h1,-,h3⟩ := ho fuel l d ps hsz hf;exact ⟨x,⟨l,rfl,h1⟩,h3⟩
end
theorem fits_of_wf {x : Int} (h : (Lit.int .i64 x).wf = true) : Fits x := by
 simp [Lit.wf] at h;have h1 : IntKind.i64.min = -9223372036854775808 := by decide
 have h2 : IntKind.i64.max = 9223372036854775807 := by decide
 unfold Fits;omega
theorem Int_open {H : Type} {enc : TypeId × Value -> H} {P : Program} {W : World} {base : Nat} {t : TypeId} {v : Value} {d : DataW H} {ps : List MemPlace}
  (ht : P.underlying t = some (.int .i64)) (hv : Value.okWide P W .any base t v) (h : DataW.Trod enc P W 0 (fun _ => true) true t v d ps) :
  ∃ x,v = .int .i64 x /\ Fits x := by
 obtain ⟨x,rfl,_,_,hw⟩ := open_int ht hv h;exact ⟨x,rfl,fits_of_wf hw⟩
open Go.ChangeShapes Go.WideShapes Go.ChangeAt Go.RowKit
theorem dG {H : Type} {enc : TypeId × Value -> H} {P : Program} (hl : laidOutB P = true) {W W' : World} (hb : Below W.heap.size W W') :
  ∀ (ts : List TypeId) (vs : List Value) (ds : List (DataW H)) (ps : List MemPlace),(∀ t ∈ ts,P.readableRec t = true /\ t < P.types.size) ->
   DataW.TrodAll enc P W 0 (fun _ => true) true ts vs ds ps -> DataW.TrodAll enc P W' 0 (fun b => decide (b < W.heap.size)) true ts vs ds ps
 | [],[],[],ps,_,h => h
 | t :: ts,v :: vs,d :: ds,ps,hr,h => by
  obtain ⟨p,q,hp,hq,e⟩ := h;have lt : ∀ x ∈ p,x.block < W.heap.size := by obtain ⟨m,hm⟩ := hp;exact DataW.trod_lt m _ _ _ hm
  have ht := hr t (by simp);exact ⟨p,q,Below.trod hl ht.1 ht.2 hp hb lt,dG hl hb ts vs ds q (fun x hx => hr x (by simp [hx])) hq,e⟩
 | [],[],_ :: _,_,_,h => by simp [DataW.TrodAll] at h
 | [],_ :: _,_,_,_,h => by simp [DataW.TrodAll] at h
 | _ :: _,[],_,_,_,h => by simp [DataW.TrodAll] at h
 | _ :: _,_ :: _,[],_,_,h => by simp [DataW.TrodAll] at h
open Go.ChangeShapes Go.WideShapes Go.ChangeAt Go.RowKit Go.Shelf
theorem Law_own : ownKnob Tryz.prog.godebug = none := by kernel_rfl
theorem accept_same : (Rows.laid_unicode_utf8_acceptRanges : DataW Unit) = Lib.acceptData := by kernel_rfl
theorem first_same : (Rows.laid_unicode_utf8_first : DataW Unit) = Lib.firstData := by kernel_rfl
theorem space_same : (Rows.laid_strings_asciiSpace : DataW Unit) = Lib.tabData .u8 Lib.asciiSpaceTab := by kernel_rfl
theorem Law_glob {W : World} (hL : laidMetH Tryz.prog Rows.comparePlanMatchesSpecUptoRow.laid W) (hs : W.ShapedOpen Tryz.prog) : Glb W (sW W) := by
 have h3 : Lib.VarReads Tryz.prog W "unicode/utf8.first" Rows.laid_unicode_utf8_first := Lib.laidMet.reads hL (.tail _ (.tail _ (.tail _ (.head _))));have h4 : Lib.VarReads Tryz.prog W "unicode/utf8.acceptRanges" Rows.laid_unicode_utf8_acceptRanges := Lib.laidMet.reads hL (.head _);have h5 : Lib.VarReads Tryz.prog W "strings.asciiSpace" Rows.laid_strings_asciiSpace := Lib.laidMet.reads hL (.tail _ (.tail _ (.head _)));rw [first_same] at h3;rw [accept_same] at h4;rw [space_same] at h5;have hT : Lib.Utf8Tabs 1 2 W := utf8Tabs_of_readsT (U8Types.of196 Tryz.laysValid) ⟨by kernel_rfl,by kernel_rfl,by kernel_rfl,by kernel_rfl,by kernel_rfl,by kernel_rfl,by kernel_rfl⟩ h3 h4;have hS : Lib.TabIs Tryz.prog W "strings.asciiSpace" .u8 Lib.asciiSpaceTab := by
  obtain ⟨g,t,cs,fuel,p,hg,hty,hvar,hd⟩ := h5;obtain rfl := Option.some.inj ((show Tryz.prog.globalNamed "strings.asciiSpace" = some 0 by kernel_rfl).symm.trans hg);obtain rfl := Option.some.inj ((show (Tryz.prog.globals[0]?).map (·.type) = some 205 by kernel_rfl).symm.trans hty);have := Lib.cells_of_tab Tryz.underlying205 Tryz.underlying5 kr kr hd;unfold Lib.TabIs;rw [hvar,<- this]
 have hM := Go.Proofs.cell_of_shapedOpen_int (g := 3) (t := 3) (zero := #[.int .i64 0]) hs (Ag kr) kr rfl kr kr Tryz.underlying3;refine ⟨fun b o => W.cell? ⟨b,o,none⟩,⟨hM,fun c hc => hT.1 c hc,fun i hi => hT.2 i hi,fun c hc => ?_⟩,fun b o v hv => ⟨hv,World.block_lt_of_cell? _ _ hv⟩,fun b o h => by cases h⟩;show W.cell? ⟨0,c,none⟩ = _;rw [hS.cell kr c (by rw [Lib.asciiSpaceTab_length];exact hc),Lib.asciiSpaceTab_at c hc]
noncomputable def Law_world (os : Os) : World :=
 let N := (World.settled Tryz.prog os).heap.size
 let w0 := World.holding Tryz.prog os ⟨#[.cells (Lib.whiteT.map fun (z : Nat) => Value.int .u16 (z : Int)).toArray 257,.cells #[.slice (some ⟨N,0,none⟩) 7 7,.slice none 0 0,.int .i64 2] 254],#[],[]⟩
 let put (h : Array Obj) (g : Nat) (cs : Array Value) : Array Obj := h.modify g fun
  | .cells _ t frozen => .cells cs t frozen
  | o => o
 let h1 := put w0.heap 0 (Lib.asciiSpaceTab.map fun z => Value.int .u8 z).toArray
 let h2 := put h1 1 (Lib.firstTab.map fun z => Value.int .u8 z).toArray
 let h3 := put h2 2 ((List.range 16).flatMap fun i => [Value.int .u8 (Lib.accLo i),Value.int .u8 (Lib.accHi i)]).toArray
 let h4 := put h3 4 #[.pointer (some ⟨N + 1,0,none⟩)]
 { w0 with heap := h4 }
def Law_arg : Array Value := #[.agg #[.slice none 0 0],.int .i64 0,.agg #[.int .i64 0,.bool false,.slice none 0 0,.bool false,.slice none 0 0,.string ⟨#[]⟩,.int .i64 0],.agg #[.int .i64 0,.bool false,.slice none 0 0,.bool false,.slice none 0 0,.string ⟨#[]⟩,.int .i64 0]]
theorem Law_met (os : Os) : laidMet Tryz.prog Rows.comparePlanMatchesSpecUptoRow.laid ((Law_world os).forCall (fun _ _ => 0) ⟨#[],Law_arg,[]⟩).memory :=
 laidMet_of_run' 10 kr kr
theorem Law_row (os : Os) {H : Type} (enc : TypeId × Value -> H) :
  (Rows.OpenSpec.upto Rows.comparePlanMatchesSpecSpec).preRow enc Tryz.prog Tryz.f7 Rows.comparePlanMatchesSpecUptoRow.domain false Rows.comparePlanMatchesSpecUptoRow.laid ((Law_world os).forCall (fun _ _ => 0) ⟨#[],Law_arg,[]⟩).memory Law_arg := by
 have hw : (DataW.whole enc Tryz.prog ((Law_world os).forCall (fun _ _ => 0) ⟨#[],Law_arg,[]⟩).memory Tryz.f7.params.toList Rows.comparePlanMatchesSpecSpec.vars false Law_arg.toList 8).map (fun x => (x.1,x.2.1)) =
   some ([.agg [.nil],.lit (.int .i64 0),.agg [.lit (.int .i64 0),.agg [.lit (.bool false),.nil],.agg [.lit (.bool false),.nil],.lit (.string []),.lit (.int .i64 0)],.agg [.lit (.int .i64 0),.agg [.lit (.bool false),.nil],.agg [.lit (.bool false),.nil],.lit (.string []),.lit (.int .i64 0)]],[]) := by kernel_rfl
 obtain ⟨⟨x1,x2,x3⟩,hx,hx1⟩ := Option.map_eq_some_iff.1 hw;simp only [Prod.mk.injEq] at hx1;obtain ⟨rfl,rfl⟩ := hx1;exact OpenSpec.preRow_of_cond 8 hx kr (fun k hk => by cases hk;kernel_rfl) kr (Law_met os)
set_option maxRecDepth 100000 in
set_option maxHeartbeats 2000000 in
theorem Law_lifted (os : Os) (started : os.Started) (H : Type) (enc : TypeId × Value -> H) (F : Stop.Interp) :
  ReturnsInHanded {} Tryz.checked os 7 .any ((Rows.OpenSpec.upto Rows.comparePlanMatchesSpecSpec).preRow enc Tryz.prog Tryz.f7 Rows.comparePlanMatchesSpecUptoRow.domain false Rows.comparePlanMatchesSpecUptoRow.laid) (((Rows.OpenSpec.upto Rows.comparePlanMatchesSpecSpec).at F).post enc Tryz.prog Tryz.f7 false true false false) := by
 refine returnsInHanded_of_row (C := Tryz.checked) (s := Rows.OpenSpec.upto Rows.comparePlanMatchesSpecSpec) Law_own started kr Tryz.func7
  (witness_row_atRef (enc := enc) (C := Tryz.checked) false (Law_world os) Law_arg rfl kr kr kr (Law_row os enc)) ?_
 intro W base args ds gs before hval0 hW _ hk _ hL hS _;have hval : ∀ (j : Nat) t v,Tryz.f7.params[j]? = some t -> args[j]? = some v -> Value.okWide Tryz.prog W .any base t v := hval0;have hW' := hW;obtain ⟨p,q,hA0,hV,rfl,hfz,hnd⟩ := hW;have hA : DataW.TrodAll enc Tryz.prog W 0 (fun _ => true) true Tryz.f7.params.toList args.toList ds p := hA0;obtain ⟨rfl,rfl⟩ := trodVars_none hV;have hA1 := hA;rw [Tryz.params7] at hA hval;obtain ⟨v0,vs0,d0,ds0,p0,q0,hargs,rfl,rfl,h0,r0⟩ := trodAll_cons hA;obtain ⟨v1,vs1,d1,ds1,p1,q1,rfl,rfl,rfl,h1,r1⟩ := trodAll_cons r0;obtain ⟨v2,vs2,d2,ds2,p2,q2,rfl,rfl,rfl,h2,r2⟩ := trodAll_cons r1;obtain ⟨v3,vs3,d3,ds3,p3,q3,rfl,rfl,rfl,h3,r3⟩ := trodAll_cons r2;obtain ⟨rfl,rfl,rfl⟩ := trodAll_nil r3;obtain rfl : args = #[v0,v1,v2,v3] := by cases args;simp_all
 have hb : Rows.uptoBulkAll [d0,d1,d2,d3] <= 1048576 := by
  have := hk _ rfl;simpa [Rows.uptoSmall] using this
 simp only [Rows.uptoBulkAll] at hb;obtain ⟨x0,a0,i0⟩ := Opn.agg Opn.heap Tryz.underlying24 (hval 0 24 v0 rfl rfl) h0;obtain ⟨z1,rfl,-⟩ := Int_open Tryz.underlying3 (hval 1 3 v1 rfl rfl) h1;obtain ⟨x2,a2,i2⟩ := Opn.agg Opn.val Tryz.underlying29 (hval 2 29 v2 rfl rfl) h2;obtain ⟨x3,a3,i3⟩ := Opn.agg Opn.val Tryz.underlying29 (hval 3 29 v3 rfl rfl) h3;have hG := Law_glob hL hS;refine ((Law37_ok x0 z1 x2 x3 (i0 1048576 om (Ak _)) (i2 1048576 om (Ak _)) (i3 1048576 om (Ak _))).2 W (sW W) [v0,.int .i64 z1,v2,v3] (fun _ _ h => h) hG ⟨a0,rfl,a2,a3,trivial⟩).mono fun e W' hQ => ?_;obtain ⟨s',x,he,hp,hst⟩ := hQ;have hp : x = .bool true := hp;subst hp;subst he;have bel := hst.below;have hl : laidOutB Tryz.prog = true := by kernel_rfl
 have hread : Tryz.f7.params.toList.all (fun t => Tryz.prog.readableRec t && decide (t < Tryz.prog.types.size)) = true := by kernel_rfl
 refine ⟨_,rfl,[d0,d1,d2,d3],[],_,[],(p0 ++ (p1 ++ (p2 ++ (p3 ++ ([]))))),[],hW',?_,?_,?_,bel.frame _,fun h => by cases h⟩
 ·exact trodAll_mk1 (shut_bool Tryz.underlying4 _)
 ·exact dG hl bel _ _ _ _ (fun t ht => by have := Bf.1 hread t ht;simpa using this) hA1
 ·rfl
theorem Law_fi : (Rows.comparePlanMatchesSpecUptoRow.inPlace == Tryz.pinned.checked.prog.inPlace 7) = true := by kernel_rfl
theorem Law_fu : (Rows.comparePlanMatchesSpecUptoRow.unfollowed == Tryz.pinned.checked.prog.unfollowed 7) = true := by kernel_rfl
theorem Law_fr : (Rows.comparePlanMatchesSpecUptoRow.recurses == Tryz.pinned.checked.prog.recurses 7) = true := by kernel_rfl
theorem Law_fn : (Rows.comparePlanMatchesSpecUptoRow.named == Tryz.pinned.checked.prog.varsNamed 7) = true := by kernel_rfl
theorem Law_facts : joinedFacts Tryz.pinned.checked.prog 7 Tryz.f7 (Rows.OpenSpec.upto Rows.comparePlanMatchesSpecSpec).bare Rows.comparePlanMatchesSpecUptoRow = true := by
 unfold joinedFacts;rw [Law_fi,Law_fu,Law_fr,Law_fn];kernel_rfl
theorem Law_inst : Tryz.f7.isInstance Tryz.pinned.checked.prog Rows.comparePlanMatchesSpecUptoRow.origin Rows.comparePlanMatchesSpecUptoRow.targs := Ag kr
theorem Law_wrap : Tryz.f7.isWrapper Tryz.pinned.checked.prog Rows.comparePlanMatchesSpecUptoRow.wrapper Rows.comparePlanMatchesSpecUptoRow.mainSum := by unfold Func.isWrapper;first | (rw [Ac (by decide +kernel)];kernel_rfl) | (rw [Aa (by decide +kernel)];exact ⟨rfl,rfl⟩)
theorem Law_named : Tryz.pinned.checked.prog.funcNamed Rows.comparePlanMatchesSpecUptoRow.func = some 7 := by kernel_rfl
theorem Law_looks : true = Tryz.pinned.checked.prog.looks [] := by kernel_rfl
theorem Law_goes : false = Rows.comparePlanMatchesSpecUptoRow.goesBy Tryz.pinned.checked.prog := by kernel_rfl
theorem Law_wf : Rows.comparePlanMatchesSpecUptoRow.wfByText (Rows.OpenSpec.upto Rows.comparePlanMatchesSpecSpec) = true := by kernel_rfl
theorem Law_main : Tryz.pinned.checked.prog.mainIs = some (Rows.comparePlanMatchesSpecUptoCard.stood.harness.1,Rows.comparePlanMatchesSpecUptoCard.stood.harness.2.toList) := by kernel_rfl
theorem Law_said : Rows.ComparePlanMatchesSpecUptoSaid :=
 OpenClaim.holds_of_cond 7 Tryz.f7 rfl rfl rfl rfl rfl rfl rfl ⟨rfl,rfl,rfl,rfl,rfl⟩ rfl rfl rfl rfl rfl Law_named Tryz.func7 Law_facts Law_inst Law_wrap
  (fun os started H enc _ F => by rw [OpenClaim.pre_eq_preRow];exact Law_lifted os started H enc F)
theorem Law_plain (f : FuncId) (fn : Func) (hf : Tryz.pinned.checked.prog.funcNamed "brindlewood/brindlewoodlaw7.ComparePlanMatchesSpec" = some f) (hfn : Tryz.pinned.checked.prog.funcs[f]? = some fn) :
  true = Tryz.pinned.checked.prog.looks [] /\ ∀ (j : Nat) t,fn.params[j]? = some t -> Tryz.pinned.checked.prog.wantsStandIn t = false := by
 obtain rfl : f = 7 := Option.some.inj (Law_named.symm.trans hf) |>.symm;obtain rfl : fn = Tryz.f7 := (Option.some.inj (Tryz.func7.symm.trans hfn)).symm;refine ⟨Law_looks,fun j t ht => ?_⟩;rw [Tryz.params7] at ht;have hm := Array.mem_of_getElem? ht;simp only [List.mem_toArray,Bq,List.not_mem_nil,or_false] at hm;have wh : Tryz.prog.wantsStandIn 24 = false := by kernel_rfl
 have wi : Tryz.prog.wantsStandIn 3 = false := by kernel_rfl
 have wv : Tryz.prog.wantsStandIn 29 = false := by kernel_rfl
 rcases hm with rfl | rfl | rfl | rfl
 ·exact wh
 ·exact wi
 ·exact wv
 ·exact wv
theorem Law_holds : Rows.ComparePlanMatchesSpecUptoCardSaid :=
 Claim7.holds_tied_plain_at .later [] _ _ _ _ Law_said (fun _ h => by cases h) Law_wf (fun _ h => by cases h) comparePlanMatchesSpecUpto_row_tie rfl ⟨rfl,rfl⟩ Law_main rfl Law_plain Law_goes
end Go.Proofs.YtinegkcbkefeiaaGreatDoor
