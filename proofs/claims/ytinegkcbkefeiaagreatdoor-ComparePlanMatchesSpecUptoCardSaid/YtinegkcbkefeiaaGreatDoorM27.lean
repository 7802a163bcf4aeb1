/- Part 27 of the proof. -/
import Derived.Test.YtinegkcbkefeiaaGreatDoorM26
namespace Go.Proofs.YtinegkcbkefeiaaGreatDoor
open Go.RowKit
variable {md me : Bool}
theorem or_nn {a b : Nat} (ha : 0 < a) (hb : 0 < b) : uE b a = cmpI (ZI true a) (ZI true b) := by
 unfold uE cmpI ZI;simp only [if_true];split <;> (try split) <;> (try split) <;> (try split) <;> omega
theorem pQ0 {b : Bool} {n : Nat} (h : ¬ (b = true /\ 0 < n)) : ZI b n = n := by
 cases b with
 | false => rfl
 | true =>
  have : n = 0 := by simp at h;omega
  subst this;rfl
theorem or_pp {a b : Nat} : uE a b = cmpI (a : Int) (b : Int) := by
 unfold uE cmpI;split <;> (try split) <;> (try split) <;> (try split) <;> omega
theorem or_np {a b : Nat} (ha : 0 < a) : -1 = cmpI (ZI true a) (b : Int) := by
 unfold cmpI ZI;simp only [if_true];split <;> omega
theorem or_pn {a b : Nat} (hb : 0 < b) : 1 = cmpI (a : Int) (ZI true b) := by
 unfold cmpI ZI;simp only [if_true];split <;> (try split) <;> omega
theorem wS (b c : Bool) (n m : Nat) (h1 : (dig n).length <= 1000000) (h2 : (dig m).length <= 1000000) : Fx 131 [rD b n,rD c m] (.v (.int .i64 (cmpI (ZI b n) (ZI c m)))) := by
 have hz1 := tZ n;have hz2 := tZ m;refine yD zL Tryz.func131 rfl rfl rfl rfl rfl rfl ?_;intros;refine zJ 100 ?_;refine zB (zW zL [] [[],[0],[0,1],[0,1,2],[0,1,2,3],(rgN 5),(rgN 6),(rgN 7),[],[8],[0,1,2,8,9],[0,1,2,8,9,10],[0,1,2,8,9,10,11],[0,1,2,8,9,10,11,12],[0,1,2,8,9,10,11,12,13],[0,1,2,8,9,10,11,12,13,14],(rgN 11),(rgN 17)] 200 yP kr rfl ?_);refine zF ?_;refine zC (zA (zB (zR (zJ 300 ?_))));refine zT rfl (fun c2 => ?_) (fun c2 => ?_)
 ·have c2 : (b = true /\ 0 < n) /\ (c = true /\ 0 < m) := by
   have h9 := c2;simp at h9;exact ⟨⟨h9.1.1,by omega⟩,h9.2.1,by omega⟩
  refine zB (zE zL [] 400 rfl ?_);refine zF ?_;refine zO _ (vP m n om om) rfl ?_;refine zf (zA (zK (zQ (zN ?_))));obtain ⟨⟨rfl,k2⟩,rfl,k4⟩ := c2;exact u4 rfl (u10 (or_nn k2 k4))
 ·have c2 : ¬ ((b = true /\ 0 < n) /\ (c = true /\ 0 < m)) := by
   have h9 := c2;simp at h9;rintro ⟨⟨k1,k2⟩,k3,k4⟩;have e := h9 k1 om k3;rw [e] at hz2;exact absurd (hz2.2 k4) de
  refine zJ 500 ?_;refine zT rfl (fun c4 => ?_) (fun c4 => ?_)
  ·have c4 : b = true /\ 0 < n := by
    have h9 := c4;simp at h9;exact ⟨h9.1,by omega⟩
   refine zJ 600 ?_;refine zK (zQ (zN ?_));obtain ⟨rfl,k2⟩ := c4;exact u4 rfl (u10 (by rw [pQ0 (fun h => c2 ⟨⟨rfl,k2⟩,h⟩)];exact or_np k2))
  ·have c4 : ¬ (b = true /\ 0 < n) := by
    have h9 := c4;simp at h9;rintro ⟨k1,k2⟩;have e := h9 k1;rw [e] at hz1;exact absurd (hz1.2 k2) de
   refine zJ 700 ?_;refine zT rfl (fun c6 => ?_) (fun c6 => ?_)
   ·have c6 : c = true /\ 0 < m := by
     have h9 := c6;simp at h9;exact ⟨h9.1,by omega⟩
    refine zJ 800 ?_;refine zK (zQ (zN ?_));obtain ⟨rfl,k2⟩ := c6;exact u4 rfl (u10 (by rw [pQ0 c4];exact or_pn k2))
   ·have c6 : ¬ (c = true /\ 0 < m) := by
     have h9 := c6;simp at h9;rintro ⟨k1,k2⟩;have e := h9 k1;rw [e] at hz2;exact absurd (hz2.2 k2) de
    refine zM (zP (zA ?_));refine zB (zE zL [] 900 rfl ?_);refine zF ?_;refine zO _ (vP n m om om) rfl ?_;refine zf (zA (zK ?_));exact u4 rfl (u10 (by rw [pQ0 c4,pQ0 c6];exact or_pp))
theorem rl_c {o : Ob} (h : RgO o) : (rgO o).cnt.1 = false /\ ((rgO o).cnt.2 : Int) = rlO o := by
 obtain ⟨h1,h2⟩ := cnt_rlen (rgO o) h.c0;rw [h1];exact ⟨rfl,by show ((rlO o).natAbs : Int) = rlO o;have h2 : 0 <= rlO o := h2;omega⟩
theorem yI1 {o : Ob} (h : RgO o) : (dig (rgO o).na).length <= 80 /\ (dig (rgO o).nc).length <= 80 /\ (dig (rgO o).cnt.2).length <= 82 := by
 have da := bL (h.lg 0 de) (h.le 0 de);have db := bL (h.lg 1 de) (h.le 1 de);have dc := bL (h.lg 2 de) (h.le 2 de);obtain ⟨z1,z2,z3,z4,z5,z6,z7⟩ := RgN.sizes (rgO o) (k := 80) da db dc h.c0 de;exact ⟨da,dc,z5⟩
theorem kO0 {x y : Ob} : rgE x y = (decide (rlO x = rlO y) && (decide (rlO x = 0) || (decide (ZI (rgO x).sa (rgO x).na = ZI (rgO y).sa (rgO y).na) && (decide (rlO x = 1) || decide (ZI (rgO x).sc (rgO x).nc = ZI (rgO y).sc (rgO y).nc))))) := by
 rw [Co,rgE,rgQ_iff];show (rlO x = rlO y /\ _) ↔ _;simp only [Ai,Da,Am];refine and_congr_right fun h1 => or_congr_right (and_congr_right fun h2 => ?_);show ZI (rgO x).sa (rgO x).na + ZI (rgO x).sc (rgO x).nc * (rlO x - 1) = ZI (rgO y).sa (rgO y).na + ZI (rgO y).sc (rgO y).nc * (rlO y - 1) ↔ _;rw [<- h1,h2];constructor
 ·intro h3;by_cases h4 : rlO x = 1
  ·exact .inl h4
  ·right;have h5 : ZI (rgO x).sc (rgO x).nc * (rlO x - 1) = ZI (rgO y).sc (rgO y).nc * (rlO x - 1) := by omega
   exact Int.eq_of_mul_eq_mul_right om h5
 ·rintro (h3 | h3)
  ·rw [h3];simp
  ·rw [h3]
set_option maxHeartbeats 1000000 in
theorem alikeRanges_ok (x y : Ob) (hx : RgO x) (hy : RgO y) : Fx 104 [.agg (obD x),.agg (obD y)] (.v (.bool (rgE x y))) := by
 obtain ⟨x1,x2⟩ := rl_c hx;obtain ⟨y1,y2⟩ := rl_c hy;obtain ⟨x3,x4,x5⟩ := yI1 hx;obtain ⟨y3,y4,y5⟩ := yI1 hy;have zx : ZI (rgO x).cnt.1 (rgO x).cnt.2 = rlO x := by rw [x1];exact x2
 have zy : ZI (rgO y).cnt.1 (rgO y).cnt.2 = rlO y := by rw [y1];exact y2
 refine yD zL Tryz.func104 rfl rfl rfl rfl rfl rfl ?_;intros;refine zJ 100 ?_;refine zB (zW zL [] [[],[0],[],[0,1,2],[],[],(rgN 6),(rgN 7)] 200 yP kr rfl ?_);refine zF ?_;refine zO _ (bA0 x hx) rfl ?_;refine zF ?_;refine zO _ (bA0 y hy) rfl ?_;refine zf (zA (zB ?_));refine zB (zE zL [] 300 rfl ?_);refine zF ?_;refine zO _ (wS _ _ (rgO x).cnt.2 (rgO y).cnt.2 om om) rfl ?_;refine zF ?_;refine zC (zA (zT rfl (fun c2 => ?_) (fun c2 => ?_)))
 ·have c2 : ¬ rlO x = rlO y := by
   have h9 := c2;rw [zx,zy] at h9;simp at h9;exact fun e => h9 (cmpI_eq.2 e)
  refine zJ 400 ?_;refine zK (zN ?_);exact u4 rfl (u7 (by rw [kO0,By c2];rfl))
 ·have c2 : rlO x = rlO y := by
   have h9 := c2;rw [zx,zy] at h9;simp at h9;exact cmpI_eq.1 h9
  refine zM (zA ?_);refine zB (zW zL [] [[],[0],[0,1],[0,1,2],[0,1,2,3],(rgN 5),[0,1,2,3],[0,1,2,3,6],(rgN 8),(rgN 9),(rgN 10),(rgN 11),(rgN 12),(rgN 11),(rgN 14),(rgN 15),(rgN 16),(rgN 17),(rgN 18),(rgN 17),[0,1,2,3,4,5,6,7,8,9,10,11,12,13,14,15,16,19],(rgN 21),(rgN 22),(rgN 23),(rgN 24),(rgN 25),(rgN 26)] 500 yP kr rfl ?_);refine zF ?_;refine zO _ (refZero_ok _ _) rfl ?_;refine zF ?_;refine yN _ (fun hg8 => wS _ _ (rgO x).na (rgO y).na om om) rfl ?_;refine zF ?_;refine yN _ (fun hg13 => wF 1 de de) rfl ?_;refine zF ?_;refine yN _ (fun hg14 => wS _ false (rgO x).cnt.2 1 om (by rw [yL0];decide)) rfl ?_;refine zF ?_;refine yN _ (fun hg21 => wS _ _ (rgO x).nc (rgO y).nc om om) rfl ?_;refine zf (zA (zK ?_))
  exact u4 rfl (u7 (by
    rw [kO0,Ax c2,zx];have e1 : decide ((rgO x).cnt.2 = 0) = decide (rlO x = 0) := decide_eq_decide.2 om;have e2 : decide (cmpI (rlO x) (ZI false 1) = 0) = decide (rlO x = 1) := decide_eq_decide.2 (by rw [cmpI_eq];rfl);rw [e1,e2];simp only [cmpI_eq];simp))
set_option maxHeartbeats 1000000 in
theorem yT0 (h : List Ob) (n : Nat) (a b : Vl) (F : Nat -> Vl -> Vl -> QR) (hn : n <= 10000) (hh : HpIn h) (g : Uh h) (hva : Vd h a) (hvb : Vd h b) (hF : LeQ F) (H : ∀ m,m < n -> ∀ x y,Vd h x -> Vd h y -> FnG Tryz.prog 47 [.bp 0 0,.agg (vlD x),.agg (vlD y)] [jO md h (m : Nat)] (vdD (F m x y)) [jO md h (jl (F m x y))]) : FnG Tryz.prog 47 [.bp 0 0,.agg (vlD a),.agg (vlD b)] [jO md h (n : Nat)] (vdD (saP F h n a b)) [jO md h (jl (saP F h n a b))] := by
 refine gX zL Tryz.func47 rfl rfl rfl rfl rfl rfl rfl ?_;intros;refine zJ 100 ?_;refine zB ?_;by_cases c0 : n = 0
 ·refine zB (zE zL [1013] 200 rfl ?_);refine zF ?_;refine yQ _ _ (cN h n c0) rfl ?_;refine zF ?_;refine zC (zA (zJ 300 ?_));refine zX (fun c2 => ?_) (fun c2 => ?_)
  ·
   refine zJ 400 ?_;refine zK (zN ?_);rw [uI1 c0];exact u11 1 rfl rfl (u0 _) ⟨⟨rfl,u0 _,rfl,u0 _,rfl,trivial⟩,trivial⟩
  ·
   exact absurd c2 de
 ·refine zB (zE zL [1013] 200 rfl ?_);refine zF ?_;refine yQ _ _ (cM h n c0 hn) rfl ?_;refine zF ?_;refine zC (zA (zJ 300 ?_));refine zX (fun c2 => ?_) (fun c2 => ?_)
  ·
   exact absurd c2 de
  ·
   refine zM (zA ?_);refine zB (zW zL [] mK2 500 yP kr rfl ?_);refine zF ?_;refine zO _ (jT h a) rfl ?_;refine zF ?_;refine zO _ (jT h b) rfl ?_;refine zf (zA (zB ?_));refine zB (zE zL [] 600 rfl ?_);refine zF ?_;refine zO _ (jS a b) rfl ?_;refine zF ?_;refine zC (zA (zT rfl (fun c5 => ?_) (fun c5 => ?_)))
   ·have c5 : ¬ a = b /\ (zU h a).kind = (zU h b).kind /\ ((zU h a).kind = 1 \/ (zU h a).kind = 5) := by
     have h9 := c5;simp at h9;refine ⟨h9.1.1,h9.1.2,?_⟩;omega
    refine zB (zE zL [1056] 700 rfl ?_);refine zF ?_;refine yQ _ _ (allS_ok h (n - 1) (zU h a).items (zU h b).items F (qL g a).2 hF fun m hm x hx y hy => H m om x y (qA g hva.2 om hx) (qA g hvb.2 om hy)) rfl ?_;refine zf (zA (zK (zN ?_)));rw [qW1 c0 c5.1 c5.2];exact u11 1 rfl rfl (u0 _) ⟨⟨rfl,u0 _,rfl,u0 _,rfl,trivial⟩,trivial⟩
   ·have c5 : ¬ (¬ a = b /\ (zU h a).kind = (zU h b).kind /\ ((zU h a).kind = 1 \/ (zU h a).kind = 5)) := by
     rintro ⟨k1,k2,k3⟩;have h9 := c5;simp [k1,k2] at h9;omega
    refine zM (zA ?_);refine zB (zE zL [] 800 rfl ?_);refine zF ?_;refine zO _ (jS a b) rfl ?_;refine zf (zA (zK ?_));by_cases hab : a = b
    ·rw [uG1 c0 hab];exact u11 1 rfl rfl (Sub.ofP (u20 ⟨u7 (Ax hab),by repeat (first | exact trivial | exact u6 _ | exact u12 rfl | refine ⟨?_,?_⟩)⟩) rfl rfl) ⟨⟨rfl,u0 _,rfl,u0 _,rfl,trivial⟩,trivial⟩
    ·rw [uH1 c0 hab (fun q => c5 ⟨hab,q⟩)];exact u11 1 rfl rfl (Sub.ofP (u20 ⟨u7 (By hab),by repeat (first | exact trivial | exact u6 _ | exact u12 rfl | refine ⟨?_,?_⟩)⟩) rfl rfl) ⟨⟨rfl,u0 _,rfl,u0 _,rfl,trivial⟩,trivial⟩
set_option maxHeartbeats 4000000 in
theorem zL0 (h : List Ob) (n : Nat) (a b : Vl) (F : Nat -> Vl -> Vl -> QR) (hn : n <= 10000) (hh : HpIn h) (g : Uh h) (hva : Vd h a) (hvb : Vd h b) (hF : LeQ F) (H : ∀ m,m < n -> ∀ x y,Vd h x -> Vd h y -> FnG Tryz.prog 45 [.bp 0 0,.agg (vlD x),.agg (vlD y)] [jO md h (m : Nat)] (vdD (F m x y)) [jO md h (jl (F m x y))]) : FnG Tryz.prog 45 [.bp 0 0,.agg (vlD a),.agg (vlD b)] [jO md h (n : Nat)] (vdD (eqP F h n a b)) [jO md h (jl (eqP F h n a b))] := by
 refine gX zL Tryz.func45 rfl rfl rfl rfl rfl rfl rfl ?_;intros;refine zJ 100 ?_;refine zB ?_;by_cases c0 : n = 0
 ·refine zB (zE zL [1017] 200 rfl ?_);refine zF ?_;refine yQ _ _ (cN h n c0) rfl ?_;refine zF ?_;refine zC (zA (zJ 300 ?_));refine zX (fun c2 => ?_) (fun c2 => ?_)
  ·
   refine zJ 400 ?_;refine zK (zN ?_);rw [vD1 c0];exact u11 1 rfl rfl (u0 _) ⟨⟨rfl,u0 _,rfl,u0 _,rfl,trivial⟩,trivial⟩
  ·
   exact absurd c2 de
 ·refine zB (zE zL [1017] 200 rfl ?_);refine zF ?_;refine yQ _ _ (cM h n c0 hn) rfl ?_;refine zF ?_;refine zC (zA (zJ 300 ?_));refine zX (fun c2 => ?_) (fun c2 => ?_)
  ·
   exact absurd c2 de
  ·
   refine zM (zA ?_);refine zB (zW zL [] mK2 500 yP kr rfl ?_);refine zF ?_;refine zO _ (jT h a) rfl ?_;refine zF ?_;refine zO _ (jT h b) rfl ?_;refine zf (zA (zB ?_));refine zB (zE zL [] 600 rfl ?_);refine zF ?_;refine zO _ (jS a b) rfl ?_;refine zF ?_;refine zC (zA (zT rfl (fun c5 => ?_) (fun c5 => ?_)))
   ·have c5 : (a = b \/ ¬ (zU h a).kind = (zU h b).kind \/ (zU h a).kind = 0) := by
     have h9 := c5;simp at h9;exact or_assoc.1 h9
    refine zB (zE zL [] 700 rfl ?_);refine zF ?_;refine zO _ (jS a b) rfl ?_;refine zf (zA (zK (zN ?_)));by_cases hab : a = b
    ·rw [vC1 c0 hab];exact u11 1 rfl rfl (Sub.ofP (u20 ⟨u7 (Ax hab),by repeat (first | exact trivial | exact u6 _ | exact u12 rfl | refine ⟨?_,?_⟩)⟩) rfl rfl) ⟨⟨rfl,u0 _,rfl,u0 _,rfl,trivial⟩,trivial⟩
    ·have e6 : obQ F h (zU h a) (zU h b) (n - 1) = some (false,n - 1) := by
      by_cases hk : (zU h a).kind = (zU h b).kind
      ·have k0 := (c5.resolve_left hab).resolve_left (fun q => q hk);exact ob_x hk om
      ·exact uN1 hk
     rw [(xQ c0 hab).trans e6];exact u11 1 rfl rfl (Sub.ofP (u20 ⟨u7 (By hab),by repeat (first | exact trivial | exact u6 _ | exact u12 rfl | refine ⟨?_,?_⟩)⟩) rfl rfl) ⟨⟨rfl,u0 _,rfl,u0 _,rfl,trivial⟩,trivial⟩
   ·have c5 : ¬ (a = b \/ ¬ (zU h a).kind = (zU h b).kind \/ (zU h a).kind = 0) := by
     have h9 := c5;simp at h9;rintro (k1 | k1 | k1)
     ·exact h9.1.1 k1
     ·exact k1 h9.1.2
     ·exact h9.2 k1
    have kE : (zU h a).kind = (zU h b).kind := (Classical.not_not.1 fun q => c5 (.inr (.inl q)));refine zM (zA (zB (zJ 800 ?_)));refine zR (zB (zJ 900 ?_));refine zX (fun c8 => ?_) (fun c8 => ?_)
    ·
     refine zM (zA (zX (fun c8x => ?_) (fun c8x => ?_)))
     ·
      refine zB (zE zL [1063] 1100 rfl ?_);refine zF ?_;refine yQ _ _ (cR0 h (n - 1) (zU h a).items (zU h b).items F (qL g a).2 hF fun m hm x hx y hy => H m om x y (qA g hva.2 om hx) (qA g hvb.2 om hy)) rfl ?_;refine zf (zA (zK (zQ (zN ?_))));rw [(xQ c0 (fun q => c5 (.inl q))).trans (dA0 (Classical.not_not.1 fun q => c5 (.inr (.inl q))) om)];exact u11 1 rfl rfl (u0 _) ⟨⟨rfl,u0 _,rfl,u0 _,rfl,trivial⟩,trivial⟩
     ·
      simp_all
    ·
     refine yM zL [] 1000 ?_;refine zA (zX (fun c9 => ?_) (fun c9 => ?_))
     ·
      refine zB (zE zL [1063] 1100 rfl ?_);refine zF ?_;refine yQ _ _ (cR0 h (n - 1) (zU h a).items (zU h b).items F (qL g a).2 hF fun m hm x hx y hy => H m om x y (qA g hva.2 om hx) (qA g hvb.2 om hy)) rfl ?_;refine zf (zA (zK (zQ (zN ?_))));rw [(xQ c0 (fun q => c5 (.inl q))).trans (dA0 (Classical.not_not.1 fun q => c5 (.inr (.inl q))) om)];exact u11 1 rfl rfl (u0 _) ⟨⟨rfl,u0 _,rfl,u0 _,rfl,trivial⟩,trivial⟩
     ·
      refine zJ 1200 ?_;refine zX (fun c11 => ?_) (fun c11 => ?_)
      ·
       refine zB (zE zL [] 1300 rfl ?_);refine zF ?_;refine zO _ (alikeRanges_ok (zU h a) (zU h b) (rg_S hh g hva.2 om) (rg_S hh g hvb.2 om)) rfl ?_;refine zf (zA (zK (zQ (zN ?_))));rw [(xQ c0 (fun q => c5 (.inl q))).trans (ob_5 (Classical.not_not.1 fun q => c5 (.inr (.inl q))) om)];exact u11 1 rfl rfl (Sub.ofP (u20 ⟨u7 (rfl),by repeat (first | exact trivial | exact u6 _ | exact u12 rfl | refine ⟨?_,?_⟩)⟩) rfl rfl) ⟨⟨rfl,u0 _,rfl,u0 _,rfl,trivial⟩,trivial⟩
      ·
       refine zJ 1400 ?_;refine zX (fun c13 => ?_) (fun c13 => ?_)
       ·
        refine zB (zE zL [] 1500 rfl ?_);refine zF ?_;refine jA0 _ (fun hg11 => yP0 h ((n - 1 : Nat) : Int) (zU h a) (zU h b) hh (mJ g hva.2 (.inr om)) (mJ g hvb.2 (.inr om)) (qL g a).1) rfl rfl ?_;refine zf (zA (zK (zQ (zN ?_))));rw [(xQ c0 (fun q => c5 (.inl q))).trans (ob_4 (Classical.not_not.1 fun q => c5 (.inr (.inl q))) om)];exact u11 1 rfl rfl (Sub.ofP (u20 ⟨u7 (by rw [Co];simp [qT];try (intro _;omega)),by repeat (first | exact trivial | exact u6 _ | exact u12 rfl | refine ⟨?_,?_⟩)⟩) rfl rfl) ⟨⟨rfl,u0 _,rfl,u0 _,rfl,trivial⟩,trivial⟩
       ·
        refine zJ 1600 ?_;refine zX (fun c15 => ?_) (fun c15 => ?_)
        ·
         refine zB (zJ 1700 ?_);refine zT rfl (fun c16 => ?_) (fun c16 => ?_)
         ·have c16 : ¬ (zU h a).keys.length = (zU h b).keys.length := by have h9 := c16;simp at h9;omega
          refine zJ 1800 ?_;refine zK (zN (zQ (zN ?_)));rw [(xQ c0 (fun q => c5 (.inl q))).trans ((ob_3 (Classical.not_not.1 fun q => c5 (.inr (.inl q))) om).trans (Aa c16))];exact u11 1 rfl rfl (Sub.ofP (u20 nz) rfl rfl) ⟨⟨rfl,u0 _,rfl,u0 _,rfl,trivial⟩,trivial⟩
         ·have c16 : (zU h a).keys.length = (zU h b).keys.length := by have h9 := c16;simp at h9;omega
          have kp := mJ g hva.2 (.inl (by omega : (zU h a).kind = 3));have kq := mJ g hvb.2 (.inl (by omega : (zU h b).kind = 3));have hp1 : (zU h a).items.length = (zU h a).keys.length := mH g om;have hq1 : (zU h b).items.length = (zU h b).keys.length := mH g om;have hkl := (qL g a).1;have hkl2 := (qL g b).1;refine zM (zA (zB (zJ 1900 ?_)));refine zR ?_;refine yC (ι := Lq F (dcL h (zU h a) (zU h b)) (n - 1)) [0,6,9,10,97,98] [3,312,313] 1950 (fun x => [(99,.v (.int .i64 x.k))]) (fun x => [(0,.box 128 [.sl md 10 h obD ob0,.v (.int .i64 (x.m : Nat))])]) (fun x => (zU h a).keys.length - x.k) ⟨0,n - 1,Ap _,Ak _,rfl⟩ ?_;refine ⟨⟨yK,⟨⟨rfl,u0 _,rfl,u0 _,rfl,trivial⟩,yH⟩,rfl,rfl⟩,fun x => ?_⟩;have hxl := x.le;rw [uI0] at hxl;refine zJ 2000 ?_;refine zB (zT rfl (fun c19 => ?_) (fun c19 => ?_))
          ·have c19 : x.k < (zU h a).keys.length := by simpa using c19
           have hpk : 0 <= (plI h (zU h b).keys ((zU h a).keys.getD x.k vl0)) -> (plI h (zU h b).keys ((zU h a).keys.getD x.k vl0)).toNat < (zU h b).keys.length := fun h0 => (xS0 h0).1;refine zM (zA (zB (zR (zJ 2100 ?_))));refine zB (zW zL [] [[],[0],[0,1],[0,1,2],[],[4],[],(rgN 7),(rgN 8)] 2200 yP kr rfl ?_);refine zF ?_;refine zO _ (uS0 h (zU h b).keys _ hh (fun x hx => pT (kq.keyed x hx))) rfl ?_;refine zF ?_;refine zC (zA (zB (zJ 2300 ?_)));refine zT rfl (fun c22 => ?_) (fun c22 => ?_)
           ·have c22 : (plI h (zU h b).keys ((zU h a).keys.getD x.k vl0)) < 0 := by simpa using c22
            refine zJ 2400 ?_;refine zK (zN (zQ (zN (yL (zQ (zN (zQ (zN ?_))))))));rw [(xQ c0 (fun q => c5 (.inl q))).trans ((ob_3 (Classical.not_not.1 fun q => c5 (.inr (.inl q))) om).trans ((Ac c16).trans (x.non (by rw [zO0 h (zU h a) (zU h b) c19,dcE,Ac c22]))))];exact u11 1 rfl rfl (Sub.ofP (u20 nz) rfl rfl) ⟨⟨rfl,u0 _,rfl,u0 _,rfl,trivial⟩,trivial⟩
           ·have c22 : ¬ (plI h (zU h b).keys ((zU h a).keys.getD x.k vl0)) < 0 := by simpa using c22
            have hpk2 := hpk om;refine zM (zA ?_);refine zB (zW zL [1126] mK9 2500 yP kr rfl ?_);refine zF ?_;refine yQ _ _ (H x.m (by have := x.hm;omega) _ _ (qA g hva.2 (by omega) (by first | exact qV (by omega) | (simp only [Ab];exact qV om) | (rw [yS om];exact Ar _))) (qA g hvb.2 (by omega) (by first | exact qV (by omega) | (simp only [Ab];exact qV om) | (rw [yS om];exact Ar _)))) rfl ?_;refine zF ?_;refine zC (zA (zJ 2600 ?_));refine zT rfl (fun c25 => ?_) (fun c25 => ?_)
            ·have c25 : qT (F x.m ((zU h a).items.getD x.k vl0) ((zU h b).items.getD (plI h (zU h b).keys ((zU h a).keys.getD x.k vl0)).toNat vl0)) = false := by simpa using c25
             refine zJ 2700 ?_;refine zK (zQ (zN (yL (zQ (zN (zQ (zN ?_)))))));rw [(xQ c0 (fun q => c5 (.inl q))).trans ((ob_3 (Classical.not_not.1 fun q => c5 (.inr (.inl q))) om).trans ((Ac c16).trans (x.bad (by rw [zO0 h (zU h a) (zU h b) c19,dcE,Aa om]) c25)))];exact u11 1 rfl rfl (u0 _) ⟨⟨rfl,u0 _,rfl,u0 _,rfl,trivial⟩,trivial⟩
            ·have c25 : qT (F x.m ((zU h a).items.getD x.k vl0) ((zU h b).items.getD (plI h (zU h b).keys ((zU h a).keys.getD x.k vl0)).toNat vl0)) = true := by simpa using c25
             obtain ⟨m2,hr⟩ := qT_y c25;refine zM (zP (zA (yM zL [] 2800 ?_)));exact zS (x.next hF (by rw [zO0 h (zU h a) (zU h b) c19,dcE,Aa om]) hr) ⟨⟨u21 (by show (x.k : Int) + 1 = ((x.k + 1 : Nat) : Int);push_cast;rfl),yK⟩,⟨⟨rfl,u0 _,rfl,u21 (by simp only [Ab,hr];rfl),rfl,trivial⟩,yH⟩,rfl,rfl⟩ (by show (zU h a).keys.length - (x.k + 1) < (zU h a).keys.length - x.k;omega)
          ·have c19 : ¬ x.k < (zU h a).keys.length := by simpa using c19
           refine yE (yA (yB (zZ (zA (zJ 2900 ?_)))));refine zK (zQ (zN ?_));rw [(xQ c0 (fun q => c5 (.inl q))).trans ((ob_3 (Classical.not_not.1 fun q => c5 (.inr (.inl q))) om).trans ((Ac c16).trans (x.fin (by rw [uI0];exact c19))))];exact u11 1 rfl rfl (Sub.ofP (u20 nz) rfl rfl) ⟨⟨rfl,u0 _,rfl,u0 _,rfl,trivial⟩,trivial⟩
        ·
         refine zM (zP (zA (zJ 3000 ?_)));refine zK ?_;rw [(xQ c0 (fun q => c5 (.inl q))).trans (ob_x (Classical.not_not.1 fun q => c5 (.inr (.inl q))) om)];exact u11 1 rfl rfl (Sub.ofP (u20 nz) rfl rfl) ⟨⟨rfl,u0 _,rfl,u0 _,rfl,trivial⟩,trivial⟩
end Go.Proofs.YtinegkcbkefeiaaGreatDoor
