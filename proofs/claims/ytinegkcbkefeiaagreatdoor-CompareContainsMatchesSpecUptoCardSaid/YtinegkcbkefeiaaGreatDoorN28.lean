/- Part 28 of the proof. -/
import Derived.Test.YtinegkcbkefeiaaGreatDoorN27
namespace Go.Proofs.YtinegkcbkefeiaaGreatDoor
open Go.RowKit
variable {md me : Bool}
def uI : ByteArray := ⟨#[111,110,95,99,111,110,116,97,105,110,115]⟩
def dY : ByteArray := ⟨#[111,110,95,105,116,101,114]⟩
def cnA : ByteArray := ⟨#[99,97,110,110,111,116,32,108,111,111,107,32,102,111,114,32,39]⟩
def cnM : ByteArray := ⟨#[39,32,105,110,32,39]⟩
def cnZ : ByteArray := ⟨#[39]⟩
def cnN : ByteArray := ⟨#[39,32,105,115,32,110,111,116,32,97,32,99,111,110,116,97,105,110,101,114]⟩
def dnC : St := ⟨3,vl0,0,ByteArray.empty,vl0,[]⟩
def rA (o : Ob) : Int := ZI (rgO o).sa (rgO o).na
def rB (o : Ob) : Int := ZI (rgO o).sb (rgO o).nb
def rC (o : Ob) : Int := ZI (rgO o).sc (rgO o).nc
def ctnS (h : List Ob) (c x : Vl) : St :=
 if c.k = 4 \/ c.k = 5 then (if x.k = c.k then vlS (boV (Lib.contains c.s.data.toList x.s.data.toList)) else raS 32 (cnA ++ (yJ h (clA h x)).name ++ cnM ++ (yJ h (clA h c)).name ++ cnZ))
 else if (zY h c).kind = 3 \/ (zY h c).kind = 4 then (if (keyR h x).k = 1 then keyR h x else vlS (boV (decide (0 <= plI h (zY h c).keys x))))
 else if (zY h c).kind = 1 \/ (zY h c).kind = 2 then qSt (cnQ (eqS h 10000) x (zY h c).items 10000)
 else if (zY h c).kind = 5 then vlS (boV (decide (x.k = 2) && rxB (rA (zY h c)) (rB (zY h c)) (rC (zY h c)) (nmI x)))
 else if (zY h c).kind = 17 \/ (zY h c).kind = 16 \/ (spS h c dY).2.2 = true then dnC
 else raS 32 (cnZ ++ (yJ h (clA h c)).name ++ cnN)
section
variable {h : List Ob} {c x : Vl}
theorem cn_t (a : c.k = 4 \/ c.k = 5) (b : x.k = c.k) : ctnS h c x = vlS (boV (Lib.contains c.s.data.toList x.s.data.toList)) := (Ab a).trans (Ab b)
theorem cn_u (a : c.k = 4 \/ c.k = 5) (b : ¬ x.k = c.k) : ctnS h c x = raS 32 (cnA ++ (yJ h (clA h x)).name ++ cnM ++ (yJ h (clA h c)).name ++ cnZ) := (Ab a).trans (Aa b)
theorem cn_d (a : ¬ (c.k = 4 \/ c.k = 5)) (k : (zY h c).kind = 3 \/ (zY h c).kind = 4) (b : (keyR h x).k = 1) : ctnS h c x = keyR h x := (Aa a).trans ((Ab k).trans (Ab b))
theorem cn_e (a : ¬ (c.k = 4 \/ c.k = 5)) (k : (zY h c).kind = 3 \/ (zY h c).kind = 4) (b : ¬ (keyR h x).k = 1) : ctnS h c x = vlS (boV (decide (0 <= plI h (zY h c).keys x))) := (Aa a).trans ((Ab k).trans (Aa b))
theorem cn_l (a : ¬ (c.k = 4 \/ c.k = 5)) (k : (zY h c).kind = 1 \/ (zY h c).kind = 2) : ctnS h c x = qSt (cnQ (eqS h 10000) x (zY h c).items 10000) := (Aa a).trans ((Aa om).trans (Ab k))
theorem cn_r (a : ¬ (c.k = 4 \/ c.k = 5)) (k : (zY h c).kind = 5) : ctnS h c x = vlS (boV (decide (x.k = 2) && rxB (rA (zY h c)) (rB (zY h c)) (rC (zY h c)) (nmI x))) := (Aa a).trans ((Aa om).trans ((Aa om).trans (Ab k)))
theorem cn_i (a : ¬ (c.k = 4 \/ c.k = 5)) (k : ¬ ((zY h c).kind = 3 \/ (zY h c).kind = 4) /\ ¬ ((zY h c).kind = 1 \/ (zY h c).kind = 2) /\ ¬ (zY h c).kind = 5) (b : (zY h c).kind = 17 \/ (zY h c).kind = 16 \/ (spS h c dY).2.2 = true) : ctnS h c x = dnC := (Aa a).trans ((Aa k.1).trans ((Aa k.2.1).trans ((Aa k.2.2).trans (Ab b))))
theorem cn_n (a : ¬ (c.k = 4 \/ c.k = 5)) (k : ¬ ((zY h c).kind = 3 \/ (zY h c).kind = 4) /\ ¬ ((zY h c).kind = 1 \/ (zY h c).kind = 2) /\ ¬ (zY h c).kind = 5) (b : ¬ ((zY h c).kind = 17 \/ (zY h c).kind = 16 \/ (spS h c dY).2.2 = true)) : ctnS h c x = raS 32 (cnZ ++ (yJ h (clA h c)).name ++ cnN) := (Aa a).trans ((Aa k.1).trans ((Aa k.2.1).trans ((Aa k.2.2).trans (Aa b))))
theorem qO0 (a : c.k = 4 \/ c.k = 5) : (zY h c).kind = 0 := by rw [qP0 (by omega)];rfl
end
def cnPL (h : List Ob) (c x : Vl) : List St := if (spS h c uI).2.2 = true then attS h c uI [x] else []
def cnPS (h : List Ob) (c x : Vl) : St := if (spS h c uI).2.2 = true then dnC else ctnS h c x
theorem att_T {h : List Ob} {v : Vl} {s : ByteArray} {l : List Vl} (e : (spS h v s).2.2 = true) : 0 < (attS h v s l).length := by unfold attS;rw [Ab e];exact Nat.zero_lt_one
theorem att_tr {h : List Ob} {v : Vl} {s : ByteArray} {l : List Vl} : (0 : Int) < ((attS h v s l).length : Nat) ↔ (spS h v s).2.2 = true := ⟨fun e => attS_pos (l := l) om,fun e => by have := att_T (l := l) e;omega⟩
theorem att_ne {h : List Ob} {v : Vl} {s : ByteArray} {l : List Vl} : attS h v s l ≠ [] ↔ (spS h v s).2.2 = true := by
 rw [ne_eq,attS_nil]
 cases (spS h v s).2.2 <;> simp
theorem rx_c {a b c v : Int} : decide (rxC a b c v = 0) = rxB a b c v := by
 unfold rxC
 cases rxB a b c v <;> rfl
theorem bJ0 {h : List Ob} (g : Uh h) {x : Vl} (hx : Vd h x) (hk : ¬ (keyR h x).k = 1) : uX h x = true := by
 rcases vI0 g hx with a | a | a
 ·exact absurd (by rw [a.2.2.2.2.2];rfl) hk
 ·exact absurd (by rw [a.2.2.2];rfl) hk
 ·exact a.2.2.2.2.1
theorem pD {P : Program} {E : Pn} {K : DS -> Prop} {p : Prop} {r : Out} (hr : r.sat P E K) (hp : p := by first | (simp only [ByteArray.size_append,kbsz,Cd,Aq,Bc];omega) | exact Ej) : (Out.need p r).sat P E K := ⟨hp,hr⟩
set_option maxHeartbeats 4000000 in
theorem cmpContains_ok (h : List Ob) (c x : Vl) (hh : HpIn h) (g : Uh h) (hvc : Vd h c) (hvx : Vd h x) (hic : VlIn c) (hix : VlIn x) : Fx 24 [hpD md h,.agg (vlD c),.agg (vlD x)] (plC (cnPL h c x) (cnPS h c x)) := by
 have hcc := pP0 g (zV0 hvc);have hcx := pP0 g (zV0 hvx);have hnc := (hh.at (clA h c)).nm;have hnx := (hh.at (clA h x)).nm;have hcs := hic.s;have hxs := hix.s;obtain ⟨X,hX⟩ : ∃ X,X = ctnS h c x := ⟨_,rfl⟩;refine yD zL Tryz.func24 rfl rfl rfl rfl rfl rfl ?_;intros;refine zJ 100 ?_;refine zB ?_;refine zB (zE zL [] 200 rfl ?_);refine zF ?_;refine zO _ ((pX h c _ [x] hh g hvc.2 (by show 1 <= 1000000;omega)).args ⟨u6 _,u6 _,u6 _,u18 rfl,trivial⟩) rfl ?_;refine zF ?_;refine zC (zA (zJ 300 ?_));refine zT rfl (fun c2 => ?_) (fun c2 => ?_)
 ·replace c2 : (spS h c uI).2.2 = true := att_tr.1 (by simpa [uI] using c2)
  refine zJ 400 ?_;refine zK (zN ?_);rw [show cnPL h c x = attS h c uI [x] from Ab c2,show cnPS h c x = dnC from Ab c2];exact u4 rfl (u20 nz)
 ·replace c2 : ¬ (spS h c uI).2.2 = true := fun e => absurd (att_tr (l := [x]).2 e) (by simpa [uI] using c2)
  refine zM (zA (zB ?_));refine zB (zE zL [] 500 rfl ?_);refine zF ?_;refine zO _ (wY h c hvc.2) rfl ?_;refine zF ?_;refine zC (zA (zR (zJ 600 ?_)));refine zT rfl (fun c5 => ?_) (fun c5 => ?_)
  ·have c5 : c.k = 4 \/ c.k = 5 := by simpa using c5
   have hk0 := qO0 (h := h) c5;refine zB (zJ 700 ?_);refine zT rfl (fun c6 => ?_) (fun c6 => ?_)
   ·have c6 : ¬ x.k = c.k := by simpa using c6
    refine zB (zZ zL [] mK14 800 yQ kr rfl ?_);repeat (first | refine zH ?_ | refine pD ?_)
    refine zO _ (gE h x g hcx) rfl ?_;repeat (first | refine zH ?_ | refine pD ?_)
    refine zO _ (gE h c g hcc) rfl ?_;repeat (first | refine zH ?_ | refine pD ?_)
    refine zO _ (gM _ _) rfl ?_;repeat (first | refine zH ?_ | refine pD ?_)
    refine zC (zA (zK (zN (zQ (zN ?_)))));rw [show cnPL h c x = [] from Aa c2,show cnPS h c x = X from (Aa c2).trans hX.symm,hX];rw [cn_u c5 c6];exact u4 rfl (u20 nz)
   ·have c6 : x.k = c.k := by simpa using c6
    refine zM (zA ?_);refine zB (zE zL [] 900 rfl ?_);refine zF ?_;refine zO _ (gR c.s x.s om) rfl ?_;refine zF ?_;refine zO _ (gF _) rfl ?_;refine zF ?_;refine zO _ (gK _) rfl ?_;refine zf (zA (zK (zQ (zN ?_))));rw [show cnPL h c x = [] from Aa c2,show cnPS h c x = X from (Aa c2).trans hX.symm,hX];rw [cn_t c5 c6];exact u4 rfl (u20 nz)
  ·have c5 : ¬ (c.k = 4 \/ c.k = 5) := by
    have h9 := c5;simp at h9;omega
   refine zJ 1000 ?_;refine zT rfl (fun c9 => ?_) (fun c9 => ?_)
   ·have c9 : (zY h c).kind = 3 \/ (zY h c).kind = 4 := by
     have h9 := c9;simp at h9;omega
    refine zB ?_;refine zB (zE zL [] 1100 rfl ?_);refine zF ?_;refine zO _ (wG0 h x hh g hvx) rfl ?_;refine zF ?_;refine zC (zA (zJ 1200 ?_));refine zT rfl (fun c11 => ?_) (fun c11 => ?_)
    ·have c11 : (keyR h x).k = 1 := by simpa using c11
     refine zJ 1300 ?_;refine zK (zN (zQ (zN ?_)));rw [show cnPL h c x = [] from Aa c2,show cnPS h c x = X from (Aa c2).trans hX.symm,hX];rw [cn_d c5 c9 c11];exact u4 rfl (u20 nz)
    ·have c11 : ¬ (keyR h x).k = 1 := by simpa using c11
     have hky := bJ0 g hvx c11;refine zM (zA ?_);refine zB (zE zL [] 1400 rfl ?_);refine zF ?_;refine cA _ (ContainsFuncK_ok h (zY h c).keys x fun k hk => containsKC_ok h k x hh g hky hvx ((pO g hvc.2 om).vd k hk)) rfl rfl ?_;refine zF ?_;refine zO _ (gF _) rfl ?_;refine zF ?_;refine zO _ (gK _) rfl ?_;refine zf (zA (zK (zQ (zN ?_))));rw [show cnPL h c x = [] from Aa c2,show cnPS h c x = X from (Aa c2).trans hX.symm,hX];rw [cn_e c5 c9 c11];exact u4 rfl (u20 nz)
   ·have c9 : ¬ ((zY h c).kind = 3 \/ (zY h c).kind = 4) := by
     have h9 := c9;simp at h9;omega
    refine zJ 1500 ?_;refine zT rfl (fun c14 => ?_) (fun c14 => ?_)
    ·have c14 : (zY h c).kind = 1 \/ (zY h c).kind = 2 := by
      have h9 := c14;simp at h9;omega
     refine zB (zE zL [] 1600 rfl ?_);refine zF ?_;refine cA _ (run_gen h 63 de [.pt true (obD (zY h c)),vpD x] rfl _ _ (containsC_ok h (zY h c) x hh g hvx (fun v hv => vV g hvc.2 om hv)) qSt_ok qSt_no) rfl rfl ?_;refine zf (zA (zK (zQ (zN ?_))));rw [show cnPL h c x = [] from Aa c2,show cnPS h c x = X from (Aa c2).trans hX.symm,hX];rw [cn_l c5 c14];exact u4 rfl (u20 nz)
    ·have c14 : ¬ ((zY h c).kind = 1 \/ (zY h c).kind = 2) := by
      have h9 := c14;simp at h9;omega
     refine zJ 1700 ?_;refine zT rfl (fun c16 => ?_) (fun c16 => ?_)
     ·have c16 : (zY h c).kind = 5 := by
       have h9 := c16;simp at h9;omega
      have hra : RgO (zY h c) := rg_S hh g hvc.2 c16;refine zB (zZ zL [] [[],[0],[],[2],[0,1,2,3],(rgN 5),(rgN 6),(rgN 6),[],[],[0,1,2,3,4,5,6,8,9],(rgN 11)] 1800 yQ kr rfl ?_);refine zF ?_;refine zO _ (gL (zY h c) hra) rfl ?_;refine zF ?_;refine zO _ ((rgIndex_ok (rA (zY h c)) (rB (zY h c)) (rC (zY h c)) (nmI x) hra.siz.1 hra.siz.2.1 hra.siz.2.2.1 hra.siz.2.2.2 (qA1 hix.nl hvx.1).2).args ⟨u9 (congrArg D.agg hra.dat),u9 (congrArg D.agg (qA1 hix.nl hvx.1).1),trivial⟩) rfl ?_;refine zf (zA ?_);refine zB (zE zL [] 1900 rfl ?_);refine zF ?_;refine zO _ (gF _) rfl ?_;refine zF ?_;refine zO _ (gK _) rfl ?_;refine zf (zA (zK (zQ (zN ?_))));rw [show cnPL h c x = [] from Aa c2,show cnPS h c x = X from (Aa c2).trans hX.symm,hX];rw [cn_r c5 c16,<- rx_c];exact u4 rfl (u20 nz)
     ·have c16 : ¬ ((zY h c).kind = 5) := by
       have h9 := c16;simp at h9;omega
      refine zB (zE zL [] 2000 rfl ?_);refine zF ?_;refine yK _ (fun hg11 => (pX h c _ [] hh g hvc.2 de).args ⟨u6 _,u6 _,u6 _,u12 rfl,trivial⟩) rfl ?_;refine zF ?_;refine zC (zA (zT rfl (fun c19 => ?_) (fun c19 => ?_)))
      ·have c19 : (zY h c).kind = 17 \/ (zY h c).kind = 16 \/ (spS h c dY).2.2 = true := by
        have h9 := c19;simp only [Cp,Ak] at h9;rcases h9 with (h9 | h9) | h9
        ·exact .inl h9
        ·exact .inr (.inl h9)
        ·exact .inr (.inr (att_tr (l := []).1 h9))
       refine zJ 2100 ?_;refine zK (zQ (zN ?_));rw [show cnPL h c x = [] from Aa c2,show cnPS h c x = X from (Aa c2).trans hX.symm,hX];rw [cn_i c5 ⟨c9,c14,c16⟩ c19];exact u4 rfl (u20 nz)
      ·have c19 : ¬ ((zY h c).kind = 17 \/ (zY h c).kind = 16 \/ (spS h c dY).2.2 = true) := by
        have h9 := c19;simp only [Di,Av] at h9;rintro (h8 | h8 | h8)
        ·exact h9.1.1 h8
        ·exact h9.1.2 h8
        ·exact h9.2 (att_tr (l := []).2 h8)
       refine zM (zP (zA ?_));refine zB (zE zL [] 2200 rfl ?_);repeat (first | refine zH ?_ | refine pD ?_)
       refine zO _ (gE h c g hcc) rfl ?_;repeat (first | refine zH ?_ | refine pD ?_)
       refine zO _ (gM _ _) rfl ?_;repeat (first | refine zH ?_ | refine pD ?_)
       refine zC (zA (zK ?_));rw [show cnPL h c x = [] from Aa c2,show cnPS h c x = X from (Aa c2).trans hX.symm,hX];rw [cn_n c5 ⟨c9,c14,c16⟩ c19];exact u4 rfl (u20 nz)
theorem pO0 {h : List Ob} (hh : HpIn h) (g : Uh h) {m : Nat} {a b : Vl} (hm : m <= 10000) (ha : Vd h a) (hb : Vd h b) {q : QR} (e : eqS h 10000 m a b = q) : FnG Tryz.prog 45 [.bp 0 0,.agg (vlD a),.agg (vlD b)] [jO md h (m : Nat)] (vdD q) [jO md h (jl q)] := by
 subst e;exact mG0 hh g 10000 m a b hm hm ha hb
theorem cn_has {o : Ob} (hr : RgO o) {x : Vl} (hg : Lg x.nl) : hvB (rgO o) x.nn (VL x.nl) = rxB (rA o) (rB o) (rC o) (nmI x) := hv_ix (rgO o) hr.c0 x.nn (VL x.nl)
set_option maxHeartbeats 4000000 in
theorem Contained_ok (h : List Ob) (c x : Vl) (hh : HpIn h) (g : Uh h) (hvc : Vd h c) (hvx : Vd h x) (hic : VlIn c) (hix : VlIn x) : Fx 25 [hpD md h,.agg (vlD c),.agg (vlD x)] (plC (cnPL h c x) (cnPS h c x)) := by
 have hcc := pP0 g (zV0 hvc);have hcx := pP0 g (zV0 hvx);have hnc := (hh.at (clA h c)).nm;have hnx := (hh.at (clA h x)).nm;have hcs := hic.s;have hxs := hix.s;obtain ⟨X,hX⟩ : ∃ X,X = ctnS h c x := ⟨_,rfl⟩;refine yD zL Tryz.func25 rfl rfl rfl rfl rfl rfl ?_;intros;refine zJ 100 ?_;refine zB ?_;refine zB (zE zL [] 200 rfl ?_);refine zF ?_;refine zO _ ((zF0 h c _ [x] hh g hvc.2 (by show 1 <= 1000000;omega)).args ⟨u6 _,u6 _,u6 _,u18 rfl,trivial⟩) rfl ?_;refine zf (zA (zB ?_));refine ev_neRegion Tryz.underlying44 rfl rfl rfl fun cN hcN => ?_;refine zA (zT rfl (fun c2 => ?_) (fun c2 => ?_))
 ·replace c2 : (spS h c uI).2.2 = true := att_ne.1 (by simpa [uI] using hcN.1 c2)
  refine yW [6] [3] 310 [(7,.sl false 18 (attS h c uI [x]) stD st0)] [] ?_;refine ⟨⟨⟨Sub.slN,yM⟩,yH,rfl,rfl⟩,?_⟩;refine zJ 400 ?_;refine zK (zN ?_);rw [show cnPL h c x = attS h c uI [x] from Ab c2,show cnPS h c x = dnC from Ab c2];exact u4 rfl (u20 nz)
 ·replace c2 : ¬ (spS h c uI).2.2 = true := fun e => absurd (hcN.2 (by simpa [uI] using att_ne (l := [x]).2 e)) (by simp [c2])
  refine zM (zA ?_);refine zB (zE zL [] 500 rfl ?_);refine zF ?_;refine zO _ (uA h c) rfl ?_;refine zF ?_;refine zC (zA (zB (zJ 600 ?_)));refine zR (zB (zJ 700 ?_));refine zW (fun c6 => ?_) (fun c6 => ?_)
  ·
   refine zM (zA (zW (fun c6x => ?_) (fun c6x => ?_)))
   ·
    refine zB ?_;have hnt : ¬ (c.k = 4 \/ c.k = 5) := fun h8 => by have := qO0 (h := h) h8;omega
    refine zB (zE zL [] 900 rfl ?_);refine zF ?_;refine zO _ (gJ0 h x hh g hvx) rfl ?_;refine zF ?_;refine zC (zA (zJ 1000 ?_));refine zT rfl (fun c9 => ?_) (fun c9 => ?_)
    ·have c9 : (keyR h x).k = 1 := by simpa using c9
     refine zJ 1100 ?_;refine zK (zN (zQ (zN ?_)));rw [show cnPL h c x = [] from Aa c2,show cnPS h c x = X from (Aa c2).trans hX.symm,hX];rw [cn_d hnt om c9];exact u4 rfl (u20 nz)
    ·have c9 : ¬ (keyR h x).k = 1 := by simpa using c9
     have hky := bJ0 g hvx c9;refine zM (zA ?_);refine zB (zE zL [] 1200 rfl ?_);refine zF ?_;refine zO _ (dC h (zY h c).keys x hh (fun k hk => gB ((pO g hvc.2 om).keyed k hk))) rfl ?_;refine zF ?_;refine zO _ (B_ok _) rfl ?_;refine zF ?_;refine zO _ (wM _) rfl ?_;refine zf (zA (zK (zQ (zN ?_))));rw [show cnPL h c x = [] from Aa c2,show cnPS h c x = X from (Aa c2).trans hX.symm,hX];rw [cn_e hnt om c9];exact u4 rfl (u20 nz)
   ·
    simp_all
  ·
   refine yN zL [] 800 ?_;refine zA (zW (fun c7 => ?_) (fun c7 => ?_))
   ·
    refine zB ?_;have hnt : ¬ (c.k = 4 \/ c.k = 5) := fun h8 => by have := qO0 (h := h) h8;omega
    refine zB (zE zL [] 900 rfl ?_);refine zF ?_;refine zO _ (gJ0 h x hh g hvx) rfl ?_;refine zF ?_;refine zC (zA (zJ 1000 ?_));refine zT rfl (fun c9 => ?_) (fun c9 => ?_)
    ·have c9 : (keyR h x).k = 1 := by simpa using c9
     refine zJ 1100 ?_;refine zK (zN (zQ (zN ?_)));rw [show cnPL h c x = [] from Aa c2,show cnPS h c x = X from (Aa c2).trans hX.symm,hX];rw [cn_d hnt om c9];exact u4 rfl (u20 nz)
    ·have c9 : ¬ (keyR h x).k = 1 := by simpa using c9
     have hky := bJ0 g hvx c9;refine zM (zA ?_);refine zB (zE zL [] 1200 rfl ?_);refine zF ?_;refine zO _ (dC h (zY h c).keys x hh (fun k hk => gB ((pO g hvc.2 om).keyed k hk))) rfl ?_;refine zF ?_;refine zO _ (B_ok _) rfl ?_;refine zF ?_;refine zO _ (wM _) rfl ?_;refine zf (zA (zK (zQ (zN ?_))));rw [show cnPL h c x = [] from Aa c2,show cnPS h c x = X from (Aa c2).trans hX.symm,hX];rw [cn_e hnt om c9];exact u4 rfl (u20 nz)
   ·
    refine zB (zJ 1300 ?_);refine zW (fun c12 => ?_) (fun c12 => ?_)
    ·
     refine zM (zA (zW (fun c12x => ?_) (fun c12x => ?_)))
     ·
      have hnt : ¬ (c.k = 4 \/ c.k = 5) := fun h8 => by have := qO0 (h := h) h8;omega
      refine zB (zE zL [1053] 1500 rfl ?_);refine zF ?_;refine qC _ _ (yC0 h) rfl ?_;refine zf ?_;have hil := (uJ g c).2;refine zA (zB (zJ 1600 ?_));refine zR ?_;refine yC (ι := Ln (eqS h 10000) x (zY h c).items 10000) [5,6,10,55,56] [2,3] 1650 (fun y => [(57,.v (.int .i64 y.k))]) (fun y => [(1301,.box 128 [.sl md 10 h obD ob0,.v (.int .i64 (y.m : Nat))])]) (fun y => (zY h c).items.length - y.k) (Ln.start _ _ _ _) ?_;refine ⟨⟨yM,⟨⟨rfl,u0 _,rfl,u0 _,rfl,trivial⟩,yH⟩,rfl,rfl⟩,fun y => ?_⟩;have hyl := y.le;refine zJ 1700 ?_;refine zB (zT rfl (fun c16 => ?_) (fun c16 => ?_))
      ·have c16 : y.k < (zY h c).items.length := by simpa using c16
       refine zM (zA (zB (zR (zJ 1800 ?_))));rcases hr : eqS h 10000 y.m x ((zY h c).items.getD y.k vl0) with _ | ⟨_ | _,m2⟩
       ·refine zB (zE zL [1064] 1900 rfl ?_);refine zF ?_;refine qC _ _ (pO0 hh g (by have := y.hm;omega) hvx (vV g hvc.2 (by omega) (by first | exact uP c16 | (rw [qN c16];exact Be _))) hr) rfl ?_;refine zF ?_;refine zC (zA (zJ 2000 ?_));refine zW (fun c19 => ?_) (fun c19 => ?_)
        ·
         refine zB (zE zL [] 2100 rfl ?_);refine zF ?_;refine zO _ (tD _) rfl ?_;refine zf (zA (zK (zQ (zN (yL (zQ (zN (zQ (zN ?_)))))))));rw [show cnPL h c x = [] from Aa c2,show cnPS h c x = X from (Aa c2).trans hX.symm,hX];rw [cn_l hnt om,show cnQ (eqS h 10000) x (zY h c).items 10000 = none from tO0 (y.pan c16 hr)];exact u4 rfl (u20 nz)
        ·
         exact absurd c19 (by simp [qT,qS,raS,st0])
       ·refine zB (zE zL [1064] 1900 rfl ?_);refine zF ?_;refine qC _ _ (pO0 hh g (by have := y.hm;omega) hvx (vV g hvc.2 (by omega) (by first | exact uP c16 | (rw [qN c16];exact Be _))) hr) rfl ?_;refine zF ?_;refine zC (zA (zJ 2000 ?_));refine zW (fun c19 => ?_) (fun c19 => ?_)
        ·
         exact absurd c19 (by simp [qT,qS,raS,st0])
        ·
         refine zM (zP (zA (yN zL [] 2200 ?_)));exact zS (y.next (cX h 10000) c16 hr) ⟨⟨u21 (by show (y.k : Int) + 1 = ((y.k + 1 : Nat) : Int);push_cast;rfl),yM⟩,⟨⟨rfl,u0 _,rfl,u21 rfl,rfl,trivial⟩,yH⟩,rfl,rfl⟩ (by show (zY h c).items.length - (y.k + 1) < (zY h c).items.length - y.k;omega)
       ·refine zB (zE zL [1064] 1900 rfl ?_);refine zF ?_;refine qC _ _ (pO0 hh g (by have := y.hm;omega) hvx (vV g hvc.2 (by omega) (by first | exact uP c16 | (rw [qN c16];exact Be _))) hr) rfl ?_;refine zF ?_;refine zC (zA (zJ 2000 ?_));refine zW (fun c19 => ?_) (fun c19 => ?_)
        ·
         refine zB (zE zL [] 2100 rfl ?_);refine zF ?_;refine zO _ (tD _) rfl ?_;refine zf (zA (zK (zQ (zN (yL (zQ (zN (zQ (zN ?_)))))))));rw [show cnPL h c x = [] from Aa c2,show cnPS h c x = X from (Aa c2).trans hX.symm,hX];rw [cn_l hnt om,show cnQ (eqS h 10000) x (zY h c).items 10000 = some (true,m2) from (wE0 (y.yes c16 hr)).trans (by rw [Aw om])];exact u4 rfl (u20 nz)
        ·
         exact absurd c19 (by simp [qT,qS,raS,st0])
      ·have c16 : ¬ y.k < (zY h c).items.length := by simpa using c16
       refine yE (yA (yB (zX (zA ?_))));refine zB (zE zL [] 2300 rfl ?_);refine zF ?_;refine zO _ (B_ok _) rfl ?_;refine zF ?_;refine zO _ (wM _) rfl ?_;refine zf (zA (zK (zQ (zN ?_))));rw [show cnPL h c x = [] from Aa c2,show cnPS h c x = X from (Aa c2).trans hX.symm,hX];rw [cn_l hnt om,show cnQ (eqS h 10000) x (zY h c).items 10000 = some (false,y.m) from (wE0 (y.fin c16)).trans rfl];exact u4 rfl (u20 nz)
     ·
      simp_all
    ·
     refine yN zL [] 1400 ?_;refine zA (zW (fun c13 => ?_) (fun c13 => ?_))
     ·
      have hnt : ¬ (c.k = 4 \/ c.k = 5) := fun h8 => by have := qO0 (h := h) h8;omega
      refine zB (zE zL [1053] 1500 rfl ?_);refine zF ?_;refine qC _ _ (yC0 h) rfl ?_;refine zf ?_;have hil := (uJ g c).2;refine zA (zB (zJ 1600 ?_));refine zR ?_;refine yC (ι := Ln (eqS h 10000) x (zY h c).items 10000) [5,6,10,55,56] [2,3] 1650 (fun y => [(57,.v (.int .i64 y.k))]) (fun y => [(1401,.box 128 [.sl md 10 h obD ob0,.v (.int .i64 (y.m : Nat))])]) (fun y => (zY h c).items.length - y.k) (Ln.start _ _ _ _) ?_;refine ⟨⟨yM,⟨⟨rfl,u0 _,rfl,u0 _,rfl,trivial⟩,yH⟩,rfl,rfl⟩,fun y => ?_⟩;have hyl := y.le;refine zJ 1700 ?_;refine zB (zT rfl (fun c16 => ?_) (fun c16 => ?_))
      ·have c16 : y.k < (zY h c).items.length := by simpa using c16
       refine zM (zA (zB (zR (zJ 1800 ?_))));rcases hr : eqS h 10000 y.m x ((zY h c).items.getD y.k vl0) with _ | ⟨_ | _,m2⟩
       ·refine zB (zE zL [1064] 1900 rfl ?_);refine zF ?_;refine qC _ _ (pO0 hh g (by have := y.hm;omega) hvx (vV g hvc.2 (by omega) (by first | exact uP c16 | (rw [qN c16];exact Be _))) hr) rfl ?_;refine zF ?_;refine zC (zA (zJ 2000 ?_));refine zW (fun c19 => ?_) (fun c19 => ?_)
        ·
         refine zB (zE zL [] 2100 rfl ?_);refine zF ?_;refine zO _ (tD _) rfl ?_;refine zf (zA (zK (zQ (zN (yL (zQ (zN (zQ (zN ?_)))))))));rw [show cnPL h c x = [] from Aa c2,show cnPS h c x = X from (Aa c2).trans hX.symm,hX];rw [cn_l hnt om,show cnQ (eqS h 10000) x (zY h c).items 10000 = none from tO0 (y.pan c16 hr)];exact u4 rfl (u20 nz)
        ·
         exact absurd c19 (by simp [qT,qS,raS,st0])
       ·refine zB (zE zL [1064] 1900 rfl ?_);refine zF ?_;refine qC _ _ (pO0 hh g (by have := y.hm;omega) hvx (vV g hvc.2 (by omega) (by first | exact uP c16 | (rw [qN c16];exact Be _))) hr) rfl ?_;refine zF ?_;refine zC (zA (zJ 2000 ?_));refine zW (fun c19 => ?_) (fun c19 => ?_)
        ·
         exact absurd c19 (by simp [qT,qS,raS,st0])
        ·
         refine zM (zP (zA (yN zL [] 2200 ?_)));exact zS (y.next (cX h 10000) c16 hr) ⟨⟨u21 (by show (y.k : Int) + 1 = ((y.k + 1 : Nat) : Int);push_cast;rfl),yM⟩,⟨⟨rfl,u0 _,rfl,u21 rfl,rfl,trivial⟩,yH⟩,rfl,rfl⟩ (by show (zY h c).items.length - (y.k + 1) < (zY h c).items.length - y.k;omega)
       ·refine zB (zE zL [1064] 1900 rfl ?_);refine zF ?_;refine qC _ _ (pO0 hh g (by have := y.hm;omega) hvx (vV g hvc.2 (by omega) (by first | exact uP c16 | (rw [qN c16];exact Be _))) hr) rfl ?_;refine zF ?_;refine zC (zA (zJ 2000 ?_));refine zW (fun c19 => ?_) (fun c19 => ?_)
        ·
         refine zB (zE zL [] 2100 rfl ?_);refine zF ?_;refine zO _ (tD _) rfl ?_;refine zf (zA (zK (zQ (zN (yL (zQ (zN (zQ (zN ?_)))))))));rw [show cnPL h c x = [] from Aa c2,show cnPS h c x = X from (Aa c2).trans hX.symm,hX];rw [cn_l hnt om,show cnQ (eqS h 10000) x (zY h c).items 10000 = some (true,m2) from (wE0 (y.yes c16 hr)).trans (by rw [Aw om])];exact u4 rfl (u20 nz)
        ·
         exact absurd c19 (by simp [qT,qS,raS,st0])
      ·have c16 : ¬ y.k < (zY h c).items.length := by simpa using c16
       refine yE (yA (yB (zX (zA ?_))));refine zB (zE zL [] 2300 rfl ?_);refine zF ?_;refine zO _ (B_ok _) rfl ?_;refine zF ?_;refine zO _ (wM _) rfl ?_;refine zf (zA (zK (zQ (zN ?_))));rw [show cnPL h c x = [] from Aa c2,show cnPS h c x = X from (Aa c2).trans hX.symm,hX];rw [cn_l hnt om,show cnQ (eqS h 10000) x (zY h c).items 10000 = some (false,y.m) from (wE0 (y.fin c16)).trans rfl];exact u4 rfl (u20 nz)
     ·
      refine zJ 2400 ?_;refine zW (fun c23 => ?_) (fun c23 => ?_)
      ·
       have hra : RgO (zY h c) := rg_S hh g hvc.2 c23;obtain ⟨x3,x4,x5⟩ := dR0 hra;have hdx : (dig (VL x.nl)).length <= 1000 := by
        have a3 := (pP hix.nl (pV0 hix.nl hvx.1)).2.2;have h1 := Bl (L_lt hix.nl) (Bd de a3);have h2 : (dig (VL x.nl)).length <= 256 := jF (by rw [show (65536 : Nat) ^ 256 = (65536 ^ 2) ^ 128 from Nat.pow_mul 65536 2 128];exact h1);omega
       have hnt : ¬ (c.k = 4 \/ c.k = 5) := fun h8 => by have := qO0 (h := h) h8;omega
       refine zB (zZ zL [] [[],[0],[0,1],[0,1,2],[0,1,2,3],(rgN 5),[0,1,2,3],(rgN 7),(rgN 8),(rgN 9),(rgN 10),(rgN 11),(rgN 12),(rgN 13)] 2500 yQ kr rfl ?_);refine zF ?_;refine yK _ (fun hg5 => wV0 (zY h c) hra) rfl ?_;refine zF ?_;refine yK _ (fun hg7 => I7_ok x hix.nl (by have := (qA1 hix.nl hvx.1).2;have := hix.nn;omega)) rfl ?_;refine zF ?_;refine yK _ (fun hg8 => rgHas_ok (rgO (zY h c)) x.nn (VL x.nl) hra.c0 om om om hdx) rfl ?_;refine zF ?_;refine zO _ (B_ok _) rfl ?_;refine zF ?_;refine zO _ (wM _) rfl ?_;refine zf (zA (zK (zQ (zN ?_))));rw [show cnPL h c x = [] from Aa c2,show cnPS h c x = X from (Aa c2).trans hX.symm,hX];rw [cn_r hnt c23,<- cn_has hra hix.nl];exact u4 rfl (u20 nz)
      ·
       refine zB (zJ 2600 ?_);refine zW (fun c25 => ?_) (fun c25 => ?_)
       ·
        refine zM (zA (zW (fun c25x => ?_) (fun c25x => ?_)))
        ·
         have hnt : ¬ (c.k = 4 \/ c.k = 5) := fun h8 => by have := qO0 (h := h) h8;omega
         refine zJ 2800 ?_;refine zK (zQ (zN ?_));rw [show cnPL h c x = [] from Aa c2,show cnPS h c x = X from (Aa c2).trans hX.symm,hX];rw [cn_i hnt om om];exact u4 rfl (u20 nz)
        ·
         simp_all
       ·
        refine yN zL [] 2700 ?_;refine zA (zW (fun c26 => ?_) (fun c26 => ?_))
        ·
         have hnt : ¬ (c.k = 4 \/ c.k = 5) := fun h8 => by have := qO0 (h := h) h8;omega
         refine zJ 2800 ?_;refine zK (zQ (zN ?_));rw [show cnPL h c x = [] from Aa c2,show cnPS h c x = X from (Aa c2).trans hX.symm,hX];rw [cn_i hnt om om];exact u4 rfl (u20 nz)
        ·
         refine zM (zP (zA (zB (zJ 2900 ?_))));refine zT rfl (fun c28 => ?_) (fun c28 => ?_)
         ·have c28 : c.k = 4 \/ c.k = 5 := by simpa using c28
          have hk0 := qO0 (h := h) c28;refine zB (zJ 3000 ?_);refine zT rfl (fun c29 => ?_) (fun c29 => ?_)
          ·have c29 : ¬ x.k = c.k := by simpa using c29
           refine zB (zZ zL [] mK14 3100 yQ kr rfl ?_);repeat (first | refine zH ?_ | refine pD ?_)
           refine zO _ (xA h x g hcx) rfl ?_;repeat (first | refine zH ?_ | refine pD ?_)
           refine zO _ (xA h c g hcc) rfl ?_;repeat (first | refine zH ?_ | refine pD ?_)
           refine zO _ (dB _ _) rfl ?_;repeat (first | refine zH ?_ | refine pD ?_)
           refine zC (zA (zK (zN (zN ?_))));rw [show cnPL h c x = [] from Aa c2,show cnPS h c x = X from (Aa c2).trans hX.symm,hX];rw [cn_u c28 c29];exact u4 rfl (u20 nz)
          ·have c29 : x.k = c.k := by simpa using c29
           refine zM (zA ?_);refine zB (zE zL [] 3200 rfl ?_);refine zF ?_;refine zO _ (gR c.s x.s om) rfl ?_;refine zF ?_;refine zO _ (B_ok _) rfl ?_;refine zF ?_;refine zO _ (wM _) rfl ?_;refine zf (zA (zK (zN ?_)));rw [show cnPL h c x = [] from Aa c2,show cnPS h c x = X from (Aa c2).trans hX.symm,hX];rw [cn_t c28 c29];exact u4 rfl (u20 nz)
         ·have c28 : ¬ (c.k = 4 \/ c.k = 5) := by
           have h9 := c28;simp at h9;omega
          refine zM (zA (zB (zB ?_)));refine ev_neTail zL [] (sz := 18) (f := stD) (l := attS h c dY []) (ops := [_,_,_,_]) (l1 := [_,_,_]) 3300 rfl Tryz.underlying44 rfl rfl ?_;refine zF ?_;refine zO _ ((zF0 h c _ [] hh g hvc.2 de).args ⟨u6 _,u6 _,u6 _,u12 rfl,trivial⟩) rfl ?_;refine zf ?_;refine ⟨rfl,fun cM hcM => ?_⟩;refine zA (zW (fun c32 => ?_) (fun c32 => ?_))
          ·
           refine zJ 3400 ?_;refine zK (zN ?_);rw [show cnPL h c x = [] from Aa c2,show cnPS h c x = X from (Aa c2).trans hX.symm,hX];rw [cn_i c28 om (.inr (.inr (att_ne.1 (hcM.1 c32))))];exact u4 rfl (u20 nz)
          ·
           refine zM (zA ?_);refine zB (zE zL [] 3500 rfl ?_);repeat (first | refine zH ?_ | refine pD ?_)
           refine zO _ (xA h c g hcc) rfl ?_;repeat (first | refine zH ?_ | refine pD ?_)
           refine zO _ (dB _ _) rfl ?_;repeat (first | refine zH ?_ | refine pD ?_)
           refine zC (zA (zK ?_));rw [show cnPL h c x = [] from Aa c2,show cnPS h c x = X from (Aa c2).trans hX.symm,hX]
           rw [cn_n c28 om (by
             rintro (h8 | h8 | h8)
             ·omega
             ·omega
             ·exact absurd (hcM.2 (att_ne.2 h8)) (by simp [c32]))]
           exact u4 rfl (u20 nz)
end Go.Proofs.YtinegkcbkefeiaaGreatDoor
