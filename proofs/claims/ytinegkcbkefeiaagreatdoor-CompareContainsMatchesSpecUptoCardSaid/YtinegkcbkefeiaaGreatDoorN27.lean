/- Part 27 of the proof. -/
import Derived.Test.YtinegkcbkefeiaaGreatDoorN26
namespace Go.Proofs.YtinegkcbkefeiaaGreatDoor
open Go.RowKit
variable {md me : Bool}
theorem or_nn {a b : Nat} (ha : 0 < a) (hb : 0 < b) : cmpN b a = cmpI (ZI true a) (ZI true b) := by
 unfold cmpN cmpI ZI;simp only [if_true];split <;> (try split) <;> (try split) <;> (try split) <;> omega
theorem pC0 {b : Bool} {n : Nat} (h : ¬ (b = true /\ 0 < n)) : ZI b n = n := by
 cases b with
 | false => rfl
 | true =>
  have : n = 0 := by simp at h;omega
  subst this;rfl
theorem or_pp {a b : Nat} : cmpN a b = cmpI (a : Int) (b : Int) := by
 unfold cmpN cmpI;split <;> (try split) <;> (try split) <;> (try split) <;> omega
theorem or_np {a b : Nat} (ha : 0 < a) : -1 = cmpI (ZI true a) (b : Int) := by
 unfold cmpI ZI;simp only [if_true];split <;> omega
theorem or_pn {a b : Nat} (hb : 0 < b) : 1 = cmpI (a : Int) (ZI true b) := by
 unfold cmpI ZI;simp only [if_true];split <;> (try split) <;> omega
theorem wP (b c : Bool) (n m : Nat) (h1 : (dig n).length <= 1000000) (h2 : (dig m).length <= 1000000) : Fx 131 [rD b n,rD c m] (.v (.int .i64 (cmpI (ZI b n) (ZI c m)))) := by
 have hz1 := mC n;have hz2 := mC m;refine yD zL Tryz.func131 rfl rfl rfl rfl rfl rfl ?_;intro w0 s0 mx;refine zJ 100 ?_;refine zB (zZ zL [] [[],[0],[0,1],[0,1,2],[0,1,2,3],(rgN 5),(rgN 6),(rgN 7),[],[8],[0,1,2,8,9],[0,1,2,8,9,10],[0,1,2,8,9,10,11],[0,1,2,8,9,10,11,12],[0,1,2,8,9,10,11,12,13],[0,1,2,8,9,10,11,12,13,14],(rgN 11),(rgN 17)] 200 yQ kr rfl ?_);refine zF ?_;refine zC (zA (zB (zR (zJ 300 ?_))));refine zT rfl (fun c2 => ?_) (fun c2 => ?_)
 ·have c2 : (b = true /\ 0 < n) /\ (c = true /\ 0 < m) := by
   have h9 := c2;simp at h9;exact ⟨⟨h9.1.1,by omega⟩,h9.2.1,by omega⟩
  refine zB (zE zL [] 400 rfl ?_);refine zF ?_;refine zO _ (vJ m n om om) rfl ?_;refine zf (zA (zK (zQ (zN ?_))));obtain ⟨⟨rfl,k2⟩,rfl,k4⟩ := c2;exact u4 rfl (u10 (or_nn k2 k4))
 ·have c2 : ¬ ((b = true /\ 0 < n) /\ (c = true /\ 0 < m)) := by
   have h9 := c2;simp at h9;rintro ⟨⟨k1,k2⟩,k3,k4⟩;have e := h9 k1 om k3;rw [e] at hz2;exact absurd (hz2.2 k4) de
  refine zJ 500 ?_;refine zT rfl (fun c4 => ?_) (fun c4 => ?_)
  ·have c4 : b = true /\ 0 < n := by
    have h9 := c4;simp at h9;exact ⟨h9.1,by omega⟩
   refine zJ 600 ?_;refine zK (zQ (zN ?_));obtain ⟨rfl,k2⟩ := c4;exact u4 rfl (u10 (by rw [pC0 (fun h => c2 ⟨⟨rfl,k2⟩,h⟩)];exact or_np k2))
  ·have c4 : ¬ (b = true /\ 0 < n) := by
    have h9 := c4;simp at h9;rintro ⟨k1,k2⟩;have e := h9 k1;rw [e] at hz1;exact absurd (hz1.2 k2) de
   refine zJ 700 ?_;refine zT rfl (fun c6 => ?_) (fun c6 => ?_)
   ·have c6 : c = true /\ 0 < m := by
     have h9 := c6;simp at h9;exact ⟨h9.1,by omega⟩
    refine zJ 800 ?_;refine zK (zQ (zN ?_));obtain ⟨rfl,k2⟩ := c6;exact u4 rfl (u10 (by rw [pC0 c4];exact or_pn k2))
   ·have c6 : ¬ (c = true /\ 0 < m) := by
     have h9 := c6;simp at h9;rintro ⟨k1,k2⟩;have e := h9 k1;rw [e] at hz2;exact absurd (hz2.2 k2) de
    refine zM (zP (zA ?_));refine zB (zE zL [] 900 rfl ?_);refine zF ?_;refine zO _ (vJ n m om om) rfl ?_;refine zf (zA (zK ?_));exact u4 rfl (u10 (by rw [pC0 c4,pC0 c6];exact or_pp))
theorem rl_c {o : Ob} (h : RgO o) : (rgO o).cnt.1 = false /\ ((rgO o).cnt.2 : Int) = rlO o := by
 obtain ⟨h1,h2⟩ := mL0 (rgO o) h.c0;rw [h1];exact ⟨rfl,by show ((rlO o).natAbs : Int) = rlO o;have h2 : 0 <= rlO o := h2;omega⟩
theorem dR0 {o : Ob} (h : RgO o) : (dig (rgO o).na).length <= 80 /\ (dig (rgO o).nc).length <= 80 /\ (dig (rgO o).cnt.2).length <= 82 := by
 have da := bH (h.lg 0 de) (h.le 0 de);have db := bH (h.lg 1 de) (h.le 1 de);have dc := bH (h.lg 2 de) (h.le 2 de);obtain ⟨z1,z2,z3,z4,z5,z6,z7⟩ := RgN.sizes (rgO o) (k := 80) da db dc h.c0 de;exact ⟨da,dc,z5⟩
theorem gZ0 {x y : Ob} : rgE x y = (decide (rlO x = rlO y) && (decide (rlO x = 0) || (decide (ZI (rgO x).sa (rgO x).na = ZI (rgO y).sa (rgO y).na) && (decide (rlO x = 1) || decide (ZI (rgO x).sc (rgO x).nc = ZI (rgO y).sc (rgO y).nc))))) := by
 rw [Df,rgE,rgQ_iff];show (rlO x = rlO y /\ _) ↔ _;simp only [Ai,Cp,Ak];refine and_congr_right fun h1 => or_congr_right (and_congr_right fun h2 => ?_);show ZI (rgO x).sa (rgO x).na + ZI (rgO x).sc (rgO x).nc * (rlO x - 1) = ZI (rgO y).sa (rgO y).na + ZI (rgO y).sc (rgO y).nc * (rlO y - 1) ↔ _;rw [<- h1,h2];constructor
 ·intro h3;by_cases h4 : rlO x = 1
  ·exact .inl h4
  ·right;have h5 : ZI (rgO x).sc (rgO x).nc * (rlO x - 1) = ZI (rgO y).sc (rgO y).nc * (rlO x - 1) := by omega
   exact Int.eq_of_mul_eq_mul_right om h5
 ·rintro (h3 | h3)
  ·rw [h3];simp
  ·rw [h3]
set_option maxHeartbeats 1000000 in
theorem alikeRanges_ok (x y : Ob) (hx : RgO x) (hy : RgO y) : Fx 104 [.agg (obD x),.agg (obD y)] (.v (.bool (rgE x y))) := by
 obtain ⟨x1,x2⟩ := rl_c hx;obtain ⟨y1,y2⟩ := rl_c hy;obtain ⟨x3,x4,x5⟩ := dR0 hx;obtain ⟨y3,y4,y5⟩ := dR0 hy;have zx : ZI (rgO x).cnt.1 (rgO x).cnt.2 = rlO x := by rw [x1];exact x2
 have zy : ZI (rgO y).cnt.1 (rgO y).cnt.2 = rlO y := by rw [y1];exact y2
 refine yD zL Tryz.func104 rfl rfl rfl rfl rfl rfl ?_;intro w0 s0 mx;refine zJ 100 ?_;refine zB (zZ zL [] [[],[0],[],[0,1,2],[],[],(rgN 6),(rgN 7)] 200 yQ kr rfl ?_);refine zF ?_;refine zO _ (wV0 x hx) rfl ?_;refine zF ?_;refine zO _ (wV0 y hy) rfl ?_;refine zf (zA (zB ?_));refine zB (zE zL [] 300 rfl ?_);refine zF ?_;refine zO _ (wP _ _ (rgO x).cnt.2 (rgO y).cnt.2 om om) rfl ?_;refine zF ?_;refine zC (zA (zT rfl (fun c2 => ?_) (fun c2 => ?_)))
 ·have c2 : ¬ rlO x = rlO y := by
   have h9 := c2;rw [zx,zy] at h9;simp at h9;exact fun e => h9 (cmpI_eq.2 e)
  refine zJ 400 ?_;refine zK (zN ?_);exact u4 rfl (u7 (by rw [gZ0,Bz c2];rfl))
 ·have c2 : rlO x = rlO y := by
   have h9 := c2;rw [zx,zy] at h9;simp at h9;exact cmpI_eq.1 h9
  refine zM (zA ?_);refine zB (zZ zL [] [[],[0],[0,1],[0,1,2],[0,1,2,3],(rgN 5),[0,1,2,3],[0,1,2,3,6],(rgN 8),(rgN 9),(rgN 10),(rgN 11),(rgN 12),(rgN 11),(rgN 14),(rgN 15),(rgN 16),(rgN 17),(rgN 18),(rgN 17),[0,1,2,3,4,5,6,7,8,9,10,11,12,13,14,15,16,19],(rgN 21),(rgN 22),(rgN 23),(rgN 24),(rgN 25),(rgN 26)] 500 yQ kr rfl ?_);refine zF ?_;refine zO _ (refZero_ok _ _) rfl ?_;refine zF ?_;refine yK _ (fun hg8 => wP _ _ (rgO x).na (rgO y).na om om) rfl ?_;refine zF ?_;refine yK _ (fun hg13 => wA 1 de de) rfl ?_;refine zF ?_;refine yK _ (fun hg14 => wP _ false (rgO x).cnt.2 1 om (by rw [jO0];decide)) rfl ?_;refine zF ?_;refine yK _ (fun hg21 => wP _ _ (rgO x).nc (rgO y).nc om om) rfl ?_;refine zf (zA (zK ?_))
  exact u4 rfl (u7 (by
    rw [gZ0,Aw c2,zx];have e1 : decide ((rgO x).cnt.2 = 0) = decide (rlO x = 0) := decide_eq_decide.2 om;have e2 : decide (cmpI (rlO x) (ZI false 1) = 0) = decide (rlO x = 1) := decide_eq_decide.2 (by rw [cmpI_eq];rfl);rw [e1,e2];simp only [cmpI_eq];simp))
set_option maxHeartbeats 4000000 in
theorem cW (h : List Ob) (n : Nat) (a b : Vl) (F : Nat -> Vl -> Vl -> QR) (hn : n <= 10000) (hh : HpIn h) (g : Uh h) (hva : Vd h a) (hvb : Vd h b) (hF : LeQ F) (H : ∀ m,m < n -> ∀ x y,Vd h x -> Vd h y -> FnG Tryz.prog 45 [.bp 0 0,.agg (vlD x),.agg (vlD y)] [jO md h (m : Nat)] (vdD (F m x y)) [jO md h (jl (F m x y))]) : FnG Tryz.prog 45 [.bp 0 0,.agg (vlD a),.agg (vlD b)] [jO md h (n : Nat)] (vdD (eqP F h n a b)) [jO md h (jl (eqP F h n a b))] := by
 refine mK zL Tryz.func45 rfl rfl rfl rfl rfl rfl rfl ?_;intro w0 s0 mx;refine zJ 100 ?_;refine zB ?_;by_cases c0 : n = 0
 ·refine zB (zE zL [1017] 200 rfl ?_);refine zF ?_;refine qC _ _ (spent0_ok h n c0) rfl ?_;refine zF ?_;refine zC (zA (zJ 300 ?_));refine zW (fun c2 => ?_) (fun c2 => ?_)
  ·
   refine zJ 400 ?_;refine zK (zN ?_);rw [jX1 c0];exact u11 1 rfl rfl (u0 _) ⟨⟨rfl,u0 _,rfl,u0 _,rfl,trivial⟩,trivial⟩
  ·
   exact absurd c2 de
 ·refine zB (zE zL [1017] 200 rfl ?_);refine zF ?_;refine qC _ _ (spent1_ok h n c0 hn) rfl ?_;refine zF ?_;refine zC (zA (zJ 300 ?_));refine zW (fun c2 => ?_) (fun c2 => ?_)
  ·
   exact absurd c2 de
  ·
   refine zM (zA ?_);refine zB (zZ zL [] mK13 500 yQ kr rfl ?_);refine zF ?_;refine zO _ (uA h a) rfl ?_;refine zF ?_;refine zO _ (uA h b) rfl ?_;refine zf (zA (zB ?_));refine zB (zE zL [] 600 rfl ?_);refine zF ?_;refine zO _ (uR a b) rfl ?_;refine zF ?_;refine zC (zA (zT rfl (fun c5 => ?_) (fun c5 => ?_)))
   ·have c5 : (a = b \/ ¬ (zY h a).kind = (zY h b).kind \/ (zY h a).kind = 0) := by
     have h9 := c5;simp at h9;exact or_assoc.1 h9
    refine zB (zE zL [] 700 rfl ?_);refine zF ?_;refine zO _ (uR a b) rfl ?_;refine zf (zA (zK (zN ?_)));by_cases hab : a = b
    ·rw [jW1 c0 hab];exact u11 1 rfl rfl (Sub.ofP (u20 ⟨u7 (Aw hab),by repeat (first | exact trivial | exact u6 _ | exact u12 rfl | refine ⟨?_,?_⟩)⟩) rfl rfl) ⟨⟨rfl,u0 _,rfl,u0 _,rfl,trivial⟩,trivial⟩
    ·have e6 : obQ F h (zY h a) (zY h b) (n - 1) = some (false,n - 1) := by
      by_cases hk : (zY h a).kind = (zY h b).kind
      ·have k0 := (c5.resolve_left hab).resolve_left (fun q => q hk);exact ob_x hk om
      ·exact jL1 hk
     rw [(xN c0 hab).trans e6];exact u11 1 rfl rfl (Sub.ofP (u20 ⟨u7 (Bz hab),by repeat (first | exact trivial | exact u6 _ | exact u12 rfl | refine ⟨?_,?_⟩)⟩) rfl rfl) ⟨⟨rfl,u0 _,rfl,u0 _,rfl,trivial⟩,trivial⟩
   ·have c5 : ¬ (a = b \/ ¬ (zY h a).kind = (zY h b).kind \/ (zY h a).kind = 0) := by
     have h9 := c5;simp at h9;rintro (k1 | k1 | k1)
     ·exact h9.1.1 k1
     ·exact k1 h9.1.2
     ·exact h9.2 k1
    have kE : (zY h a).kind = (zY h b).kind := (Classical.not_not.1 fun q => c5 (.inr (.inl q)));refine zM (zA (zB (zJ 800 ?_)));refine zR (zB (zJ 900 ?_));refine zW (fun c8 => ?_) (fun c8 => ?_)
    ·
     refine zM (zA (zW (fun c8x => ?_) (fun c8x => ?_)))
     ·
      refine zB (zE zL [1063] 1100 rfl ?_);refine zF ?_;refine qC _ _ (tU0 h (n - 1) (zY h a).items (zY h b).items F (uJ g a).2 hF fun m hm x hx y hy => H m om x y (vV g hva.2 om hx) (vV g hvb.2 om hy)) rfl ?_;refine zf (zA (zK (zQ (zN ?_))));rw [(xN c0 (fun q => c5 (.inl q))).trans (pJ0 (Classical.not_not.1 fun q => c5 (.inr (.inl q))) om)];exact u11 1 rfl rfl (u0 _) ⟨⟨rfl,u0 _,rfl,u0 _,rfl,trivial⟩,trivial⟩
     ·
      simp_all
    ·
     refine yN zL [] 1000 ?_;refine zA (zW (fun c9 => ?_) (fun c9 => ?_))
     ·
      refine zB (zE zL [1063] 1100 rfl ?_);refine zF ?_;refine qC _ _ (tU0 h (n - 1) (zY h a).items (zY h b).items F (uJ g a).2 hF fun m hm x hx y hy => H m om x y (vV g hva.2 om hx) (vV g hvb.2 om hy)) rfl ?_;refine zf (zA (zK (zQ (zN ?_))));rw [(xN c0 (fun q => c5 (.inl q))).trans (pJ0 (Classical.not_not.1 fun q => c5 (.inr (.inl q))) om)];exact u11 1 rfl rfl (u0 _) ⟨⟨rfl,u0 _,rfl,u0 _,rfl,trivial⟩,trivial⟩
     ·
      refine zJ 1200 ?_;refine zW (fun c11 => ?_) (fun c11 => ?_)
      ·
       refine zB (zE zL [] 1300 rfl ?_);refine zF ?_;refine zO _ (alikeRanges_ok (zY h a) (zY h b) (rg_S hh g hva.2 om) (rg_S hh g hvb.2 om)) rfl ?_;refine zf (zA (zK (zQ (zN ?_))));rw [(xN c0 (fun q => c5 (.inl q))).trans (ob_5 (Classical.not_not.1 fun q => c5 (.inr (.inl q))) om)];exact u11 1 rfl rfl (Sub.ofP (u20 ⟨u7 (rfl),by repeat (first | exact trivial | exact u6 _ | exact u12 rfl | refine ⟨?_,?_⟩)⟩) rfl rfl) ⟨⟨rfl,u0 _,rfl,u0 _,rfl,trivial⟩,trivial⟩
      ·
       refine zJ 1400 ?_;refine zW (fun c13 => ?_) (fun c13 => ?_)
       ·
        refine zB (zE zL [] 1500 rfl ?_);refine zF ?_;refine qE0 _ (fun hg11 => withinJ_ok h ((n - 1 : Nat) : Int) (zY h a) (zY h b) hh (pO g hva.2 (.inr om)) (pO g hvb.2 (.inr om)) (uJ g a).1) rfl rfl ?_;refine zf (zA (zK (zQ (zN ?_))));rw [(xN c0 (fun q => c5 (.inl q))).trans (ob_4 (Classical.not_not.1 fun q => c5 (.inr (.inl q))) om)];exact u11 1 rfl rfl (Sub.ofP (u20 ⟨u7 (by rw [Df];simp [qT];try (intro _;omega)),by repeat (first | exact trivial | exact u6 _ | exact u12 rfl | refine ⟨?_,?_⟩)⟩) rfl rfl) ⟨⟨rfl,u0 _,rfl,u0 _,rfl,trivial⟩,trivial⟩
       ·
        refine zJ 1600 ?_;refine zW (fun c15 => ?_) (fun c15 => ?_)
        ·
         refine zB (zJ 1700 ?_);refine zT rfl (fun c16 => ?_) (fun c16 => ?_)
         ·have c16 : ¬ (zY h a).keys.length = (zY h b).keys.length := by have h9 := c16;simp at h9;omega
          refine zJ 1800 ?_;refine zK (zN (zQ (zN ?_)));rw [(xN c0 (fun q => c5 (.inl q))).trans ((ob_3 (Classical.not_not.1 fun q => c5 (.inr (.inl q))) om).trans (Aa c16))];exact u11 1 rfl rfl (Sub.ofP (u20 nz) rfl rfl) ⟨⟨rfl,u0 _,rfl,u0 _,rfl,trivial⟩,trivial⟩
         ·have c16 : (zY h a).keys.length = (zY h b).keys.length := by have h9 := c16;simp at h9;omega
          have kp := pO g hva.2 (.inl (by omega : (zY h a).kind = 3));have kq := pO g hvb.2 (.inl (by omega : (zY h b).kind = 3));have hp1 : (zY h a).items.length = (zY h a).keys.length := mE g om;have hq1 : (zY h b).items.length = (zY h b).keys.length := mE g om;have hkl := (uJ g a).1;have hkl2 := (uJ g b).1;refine zM (zA (zB (zJ 1900 ?_)));refine zR ?_;refine yC (ι := Lq F (dcL h (zY h a) (zY h b)) (n - 1)) [0,6,9,10,97,98] [3,312,313] 1950 (fun x => [(99,.v (.int .i64 x.k))]) (fun x => [(0,.box 128 [.sl md 10 h obD ob0,.v (.int .i64 (x.m : Nat))])]) (fun x => (zY h a).keys.length - x.k) ⟨0,n - 1,Ap _,Ao _,rfl⟩ ?_;refine ⟨⟨yM,⟨⟨rfl,u0 _,rfl,u0 _,rfl,trivial⟩,yH⟩,rfl,rfl⟩,fun x => ?_⟩;have hxl := x.le;rw [jP0] at hxl;refine zJ 2000 ?_;refine zB (zT rfl (fun c19 => ?_) (fun c19 => ?_))
          ·have c19 : x.k < (zY h a).keys.length := by simpa using c19
           have hpk : 0 <= (plI h (zY h b).keys ((zY h a).keys.getD x.k vl0)) -> (plI h (zY h b).keys ((zY h a).keys.getD x.k vl0)).toNat < (zY h b).keys.length := fun h0 => (xC0 h0).1;refine zM (zA (zB (zR (zJ 2100 ?_))));refine zB (zZ zL [] [[],[0],[0,1],[0,1,2],[],[4],[],(rgN 7),(rgN 8)] 2200 yQ kr rfl ?_);refine zF ?_;refine zO _ (dC h (zY h b).keys _ hh (fun x hx => gB (kq.keyed x hx))) rfl ?_;refine zF ?_;refine zC (zA (zB (zJ 2300 ?_)));refine zT rfl (fun c22 => ?_) (fun c22 => ?_)
           ·have c22 : (plI h (zY h b).keys ((zY h a).keys.getD x.k vl0)) < 0 := by simpa using c22
            refine zJ 2400 ?_;refine zK (zN (zQ (zN (yL (zQ (zN (zQ (zN ?_))))))));rw [(xN c0 (fun q => c5 (.inl q))).trans ((ob_3 (Classical.not_not.1 fun q => c5 (.inr (.inl q))) om).trans ((Ab c16).trans (x.non (by rw [zA0 h (zY h a) (zY h b) c19,dcE,Ab c22]))))];exact u11 1 rfl rfl (Sub.ofP (u20 nz) rfl rfl) ⟨⟨rfl,u0 _,rfl,u0 _,rfl,trivial⟩,trivial⟩
           ·have c22 : ¬ (plI h (zY h b).keys ((zY h a).keys.getD x.k vl0)) < 0 := by simpa using c22
            have hpk2 := hpk om;refine zM (zA ?_);refine zB (zZ zL [1126] [[],[],[1],[],[1,2,3],[1,2,3,4],[],[6],[],[6,7,8],[6,7,8,9],(rgN 11),[],(rgN 13)] 2500 yQ kr rfl ?_);refine zF ?_;refine qC _ _ (H x.m (by have := x.hm;omega) _ _ (vV g hva.2 (by omega) (by first | exact uP (by omega) | (simp only [Ad];exact uP om) | (rw [qN om];exact Be _))) (vV g hvb.2 (by omega) (by first | exact uP (by omega) | (simp only [Ad];exact uP om) | (rw [qN om];exact Be _)))) rfl ?_;refine zF ?_;refine zC (zA (zJ 2600 ?_));refine zT rfl (fun c25 => ?_) (fun c25 => ?_)
            ·have c25 : qT (F x.m ((zY h a).items.getD x.k vl0) ((zY h b).items.getD (plI h (zY h b).keys ((zY h a).keys.getD x.k vl0)).toNat vl0)) = false := by simpa using c25
             refine zJ 2700 ?_;refine zK (zQ (zN (yL (zQ (zN (zQ (zN ?_)))))));rw [(xN c0 (fun q => c5 (.inl q))).trans ((ob_3 (Classical.not_not.1 fun q => c5 (.inr (.inl q))) om).trans ((Ab c16).trans (x.bad (by rw [zA0 h (zY h a) (zY h b) c19,dcE,Aa om]) c25)))];exact u11 1 rfl rfl (u0 _) ⟨⟨rfl,u0 _,rfl,u0 _,rfl,trivial⟩,trivial⟩
            ·have c25 : qT (F x.m ((zY h a).items.getD x.k vl0) ((zY h b).items.getD (plI h (zY h b).keys ((zY h a).keys.getD x.k vl0)).toNat vl0)) = true := by simpa using c25
             obtain ⟨m2,hr⟩ := qT_y c25;refine zM (zP (zA (yN zL [] 2800 ?_)));exact zS (x.next hF (by rw [zA0 h (zY h a) (zY h b) c19,dcE,Aa om]) hr) ⟨⟨u21 (by show (x.k : Int) + 1 = ((x.k + 1 : Nat) : Int);push_cast;rfl),yM⟩,⟨⟨rfl,u0 _,rfl,u21 (by simp only [Ad,hr];rfl),rfl,trivial⟩,yH⟩,rfl,rfl⟩ (by show (zY h a).keys.length - (x.k + 1) < (zY h a).keys.length - x.k;omega)
          ·have c19 : ¬ x.k < (zY h a).keys.length := by simpa using c19
           refine yE (yA (yB (zX (zA (zJ 2900 ?_)))));refine zK (zQ (zN ?_));rw [(xN c0 (fun q => c5 (.inl q))).trans ((ob_3 (Classical.not_not.1 fun q => c5 (.inr (.inl q))) om).trans ((Ab c16).trans (x.fin (by rw [jP0];exact c19))))];exact u11 1 rfl rfl (Sub.ofP (u20 nz) rfl rfl) ⟨⟨rfl,u0 _,rfl,u0 _,rfl,trivial⟩,trivial⟩
        ·
         refine zM (zP (zA (zJ 3000 ?_)));refine zK ?_;rw [(xN c0 (fun q => c5 (.inl q))).trans (ob_x (Classical.not_not.1 fun q => c5 (.inr (.inl q))) om)];exact u11 1 rfl rfl (Sub.ofP (u20 nz) rfl rfl) ⟨⟨rfl,u0 _,rfl,u0 _,rfl,trivial⟩,trivial⟩
variable {md me : Bool}
theorem fdiv_le {x c : Int} (h0 : c ≠ 0) : (Int.fdiv x c).natAbs <= x.natAbs := by
 obtain ⟨d1,_⟩ := dm_Z (s := decide (x < 0)) (t := decide (c < 0)) (x := x.natAbs) (y := c.natAbs) om;rw [jW0,jW0] at d1;rw [<- d1,pZ];exact yO0 om
theorem rlen_el {a b c i : Int} (h0 : c ≠ 0) (hi : 0 <= i) (hl : i < qF a b c) : (a + c * i).natAbs <= a.natAbs \/ (a + c * i).natAbs <= b.natAbs := by
 unfold qF at hl;split at hl
 ·rename_i hc;split at hl
  ·rename_i hab;have hs : c * jA c = -c := by unfold jA;rw [Ab hc];omega
   rw [hs] at hl;obtain ⟨h1,h2,h3⟩ := xN0 (x := a - b) (s := -c) om om;generalize Int.fdiv (a - b + (-c - 1)) (-c) = q at *;have h4 : -c * i <= -c * (q - 1) := Eh om om;have h5 : 0 <= -c * i := Int.mul_nonneg om hi;have h6 : -c * i = -(c * i) := Int.neg_mul c i;omega
  ·omega
 ·rename_i hc;split at hl
  ·rename_i hab;have hs : c * jA c = c := by unfold jA;rw [Aa hc];omega
   rw [hs] at hl;obtain ⟨h1,h2,h3⟩ := xN0 (x := b - a) (s := c) om om;generalize Int.fdiv (b - a + (c - 1)) c = q at *;have h4 : c * i <= c * (q - 1) := Eh om om;have h5 : 0 <= c * i := Int.mul_nonneg om hi;omega
  ·omega
def rxB (a b c v : Int) : Bool := decide (Int.fmod (v - a) c = 0) && (decide (0 <= Int.fdiv (v - a) c) && decide (Int.fdiv (v - a) c < qF a b c))
theorem rxB_iff {a b c v : Int} : rxB a b c v = true ↔ Int.fmod (v - a) c = 0 /\ 0 <= Int.fdiv (v - a) c /\ Int.fdiv (v - a) c < qF a b c := by simp [rxB]
theorem rx_lim {a b c v : Int} {k : Nat} (h0 : c ≠ 0) (ha : (lim a.natAbs).length <= k) (hb : (lim b.natAbs).length <= k) (h : rxB a b c v = true) : (lim v.natAbs).length <= k := by
 obtain ⟨h1,h2,h3⟩ := rxB_iff.1 h;have h4 := Int.mul_fdiv_add_fmod (v - a) c;have h5 := rlen_el h0 h2 h3;have h6 : a + c * Int.fdiv (v - a) c = v := by omega
 rw [h6] at h5;rcases h5 with h5 | h5
 ·exact Au (qR h5) ha
 ·exact Au (qR h5) hb
def rxQ (a b c v : Int) : Int := if rxB a b c v = true then Int.fdiv (v - a) c else 0
def rxC (a b c v : Int) : Int := if rxB a b c v = true then 0 else 12
def rxI (a b c v : Int) : Int := if rxB a b c v = true then 0 else -2
theorem rx_y {a b c v : Int} (h : rxB a b c v = true) : rxQ a b c v = Int.fdiv (v - a) c /\ rxC a b c v = 0 /\ rxI a b c v = 0 := ⟨Ab h,Ab h,Ab h⟩
theorem rx_n {a b c v : Int} (h : ¬ rxB a b c v = true) : rxQ a b c v = 0 /\ rxC a b c v = 12 /\ rxI a b c v = -2 := ⟨Aa h,Aa h,Aa h⟩
def hvB (x : RgN) (b : Bool) (n : Nat) : Bool :=
 decide (dmR (plB b n (!x.sa && decide (0 < x.na)) x.na).1 x.sc (plB b n (!x.sa && decide (0 < x.na)) x.na).2 x.nc = 0)
 && (!(((plB b n (!x.sa && decide (0 < x.na)) x.na).1 != x.sc) && decide (0 < dmQ (plB b n (!x.sa && decide (0 < x.na)) x.na).1 x.sc (plB b n (!x.sa && decide (0 < x.na)) x.na).2 x.nc))
 && decide (cmpI (ZI ((plB b n (!x.sa && decide (0 < x.na)) x.na).1 != x.sc) (dmQ (plB b n (!x.sa && decide (0 < x.na)) x.na).1 x.sc (plB b n (!x.sa && decide (0 < x.na)) x.na).2 x.nc)) (ZI x.cnt.1 x.cnt.2) < 0))
theorem cmpI_lt {x y : Int} : cmpI x y < 0 ↔ x < y := by unfold cmpI;split <;> (try split) <;> omega
theorem hv_ix (x : RgN) (h0 : 0 < x.nc) (b : Bool) (n : Nat) : hvB x b n = rxB (ZI x.sa x.na) (ZI x.sb x.nb) (ZI x.sc x.nc) (ZI b n) := by
 unfold hvB;obtain ⟨c1,c2⟩ := mL0 x h0;have hz : ZI x.cnt.1 x.cnt.2 = qF (ZI x.sa x.na) (ZI x.sb x.nb) (ZI x.sc x.nc) := by
  rw [c1];show ((qF (ZI x.sa x.na) (ZI x.sb x.nb) (ZI x.sc x.nc)).natAbs : Int) = _;omega
 rw [hz];generalize hg : plB b n (!x.sa && decide (0 < x.na)) x.na = g;have hgz : ZI g.1 g.2 = ZI b n - ZI x.sa x.na := by rw [<- hg,yY1,yI1];omega
 obtain ⟨d1,d2⟩ := dm_Z (s := g.1) (t := x.sc) (x := g.2) h0;rw [hgz] at d1 d2;rw [Df,rxB_iff,<- d1,<- d2];simp only [Ai,Bp,Ak,cmpI_lt];generalize dmR g.1 x.sc g.2 x.nc = r;generalize dmQ g.1 x.sc g.2 x.nc = q;generalize (g.1 != x.sc) = s;have e1 : (r = 0) ↔ ZI x.sc r = 0 := by
  unfold ZI;split <;> omega
 have e2 : (s && decide (0 < q)) = false ↔ 0 <= ZI s q := by
  cases s with
  | false => exact ⟨fun _ => by show (0 : Int) <= (q : Int);omega,fun _ => rfl⟩
  | true =>
   rw [Dy,Av];show ¬ 0 < q ↔ 0 <= -((q : Nat) : Int);omega
 rw [e1,e2]
theorem pV0 {v : Vl} (hg : Lg v.nl) (h : qZ v = true) : uV v.nn v.nl = true := by
 have hz : ∀ {b : Bool} {l : List Nat},zI b l = true -> uV b l = true := fun h => by rw [zI,wY0] at h;rw [h.1,h.2];rfl
 unfold qZ at h;repeat' split at h
 all_goals (try simp only [Ai,Ak] at h)
 ·exact hz h.1.1.1
 ·exact hz h.1.1.1
 ·exact h.1.1.1
 ·have hr := h.1.1.1;simp only [ratS,Ai] at hr;exact hr.1.1.1
 ·exact hz h.1.1.1.1
 ·exact hz h.1.1.1
 ·exact hz h.1.1.1
 ·exact hz h.1.1
 ·cases h
def nmI (v : Vl) : Int := ZI v.nn (VL v.nl)
theorem qA1 {v : Vl} (hg : Lg v.nl) (h : qZ v = true) : [D.v (.bool v.nn),usD v.nl] = zV (nmI v) /\ (lim (nmI v).natAbs).length <= 128 := by
 obtain ⟨a1,a2,a3⟩ := pP hg (pV0 hg h);have e : (nmI v).natAbs = VL v.nl := pZ _ _;rw [e,<- a1];refine ⟨?_,a3⟩;unfold zV;rw [e,<- a1];exact congrArg (fun b => [D.v (.bool b),usD v.nl]) a2
theorem rgFitsB_ok (a : Int) (ha : (lim a.natAbs).length <= 128) : Fx 120 [.agg (zV a)] (.v (.bool (decide ((lim a.natAbs).length <= 40)))) := by
 have hk := zOk (z := a) om;refine yD zL Tryz.func120 rfl rfl rfl rfl rfl rfl ?_;intro w0 s0 mx;refine zJ 100 ?_;refine zB (zE zL [] 200 rfl ?_);refine zF ?_;refine zO _ (gC (decide (a < 0)) (lim a.natAbs) om) rfl ?_;refine zf (zA (zK ?_));exact u4 rfl (u7 (by simp [hk];omega))
set_option maxHeartbeats 1000000 in
theorem rgIndex_ok (a b c v : Int) (ha : (lim a.natAbs).length <= 40) (hb : (lim b.natAbs).length <= 40) (hc : (lim c.natAbs).length <= 40) (h0 : c ≠ 0) (hv : (lim v.natAbs).length <= 128) : Fx 65 [.agg (rgD a b c),.agg (zV v)] (.tup [.agg (zV (rxQ a b c v)),faD (rxC a b c v) (rxI a b c v)]) := by
 have hcp : 0 < (lim c.natAbs).length := Cr.2 (fun e => by rw [lim_nil] at e;omega);have hk := zOk (z := v) hv;have hn := xA0 ha hb h0;refine yD zL Tryz.func65 rfl rfl rfl rfl rfl rfl ?_;intro w0 s0 mx;refine zJ 100 ?_;refine zB (zR ?_);refine zB (zE zL [] 200 rfl ?_);refine zF ?_;refine zO _ (zZ0 a b c ha hb hc hcp) rfl ?_;refine zF ?_;refine zC (zA (zW (fun c1 => ?_) (fun c1 => ?_)))
 ·
  exact absurd c1 de
 ·
  refine zB (zE zL [] 400 rfl ?_);refine zF ?_;refine zO _ ((gC (decide (v < 0)) (lim v.natAbs) om).out (u7 hk)) rfl ?_;refine zF ?_;refine zC (zA (zW (fun c3 => ?_) (fun c3 => ?_)))
  ·
   exact absurd c3 de
  ·
   refine zB (zE zL [] 600 rfl ?_);refine zF ?_;refine zO _ (rgFitsB_ok v hv) rfl ?_;refine zF ?_;refine zC (zA (zT rfl (fun c5 => ?_) (fun c5 => ?_)))
   ·have c5 : ¬ (lim v.natAbs).length <= 40 := by simpa using c5
    refine zB (zE zL [] 700 rfl ?_);refine zF ?_;refine zO _ (dS0 12 (-2)) rfl ?_;refine zf (zA (zK (zQ (zN ?_))));obtain ⟨e1,e2,e3⟩ := rx_n (fun h => c5 (rx_lim h0 ha hb h));rw [e1,e2,e3];exact u4 rfl (u19 ⟨u20 ⟨u6 _,by rw [show (0 : Int).natAbs = 0 from rfl,qI];exact u12 rfl,trivial⟩,u6 _,trivial⟩)
   ·have c5 : (lim v.natAbs).length <= 40 := by simpa using c5
    have hs1 : (lim (v - a).natAbs).length <= 41 := qJ c5 ha;have hs2 : (lim (Int.fdiv (v - a) c).natAbs).length <= 41 := Au (qR (fdiv_le h0)) hs1;refine zM (zP (zA ?_));refine zB (zZ zL [] [[],[],[1],[0,1,2],[],[4],(rgN 6),(rgN 7),(rgN 8),(rgN 8),[],[],[0,1,2,3,4,5,6,7,8,10,11],(rgN 13)] 800 yQ kr rfl ?_);refine zF ?_;refine zO _ (wU v a om om om) rfl ?_;refine zF ?_;refine zO _ (mN (v - a) c om om h0) rfl ?_;refine zf (zA (zB ?_));refine zB (zZ zL [] [[],[0],[0,1],[0,1,2],[0,1,2,3],(rgN 5),(rgN 6),(rgN 7),(rgN 8),(rgN 8),[0,1,2,3,4,5,6,7,9],(rgN 11),(rgN 12),(rgN 13)] 900 yQ kr rfl ?_);refine zF ?_;refine zO _ (pF (Int.fmod (v - a) c)) rfl ?_;refine zF ?_;refine yK _ (fun hg10 => kF a b c ha hb hc h0) rfl ?_;refine zF ?_;refine yK _ (fun hg11 => kD (Int.fdiv (v - a) c) (qF a b c) om om) rfl ?_;refine zF ?_;refine zC (zA (zT rfl (fun c8 => ?_) (fun c8 => ?_)))
    ·have c8 : ¬ rxB a b c v = true := by
      intro h8;obtain ⟨k1,k2,k3⟩ := rxB_iff.1 h8;have h9 := c8;simp [k1] at h9;omega
     refine zB (zE zL [] 1000 rfl ?_);refine zF ?_;refine zO _ (dS0 12 (-2)) rfl ?_;refine zf (zA (zK (zN ?_)));obtain ⟨e1,e2,e3⟩ := rx_n c8;rw [e1,e2,e3];exact u4 rfl (u19 ⟨u20 ⟨u6 _,by rw [show (0 : Int).natAbs = 0 from rfl,qI];exact u12 rfl,trivial⟩,u6 _,trivial⟩)
    ·have c8 : rxB a b c v = true := by
      have h9 := c8;simp at h9;exact rxB_iff.2 ⟨by omega,by omega,by omega⟩
     refine zM (zA (zJ 1100 ?_));refine zK ?_;obtain ⟨e1,e2,e3⟩ := rx_y c8;rw [e1,e2,e3];exact u4 rfl (u6 _)
theorem rgHas_ok (x : RgN) (b : Bool) (n : Nat) (h0 : 0 < x.nc) (ha : (dig x.na).length <= 80) (hc : (dig x.nc).length <= 80) (hl : (dig x.cnt.2).length <= 1000) (hn : (dig n).length <= 1000) : Fx 72 [RgN.D x,rD b n] (.v (.bool (hvB x b n))) := by
 have hg : (dig (plB b n (!x.sa && decide (0 < x.na)) x.na).2).length <= 1001 := jN0 hn om;have hq : (dig (dmQ (plB b n (!x.sa && decide (0 < x.na)) x.na).1 x.sc (plB b n (!x.sa && decide (0 < x.na)) x.na).2 x.nc)).length <= 1001 := Au (yS (yO0 h0)) hg;have hr0 := mC (dmR (plB b n (!x.sa && decide (0 < x.na)) x.na).1 x.sc (plB b n (!x.sa && decide (0 < x.na)) x.na).2 x.nc);have hq0 := mC (dmQ (plB b n (!x.sa && decide (0 < x.na)) x.na).1 x.sc (plB b n (!x.sa && decide (0 < x.na)) x.na).2 x.nc);refine yD zL Tryz.func72 rfl rfl rfl rfl rfl rfl ?_;intro w0 s0 mx;refine zJ 100 ?_;refine zB (zZ zL [] [[],[],[1],[1,2],[0,1,2,3],[],[5],(rgN 7),(rgN 8),(rgN 9),(rgN 9),[],[],[0,1,2,3,4,5,6,7,8,9,11,12],(rgN 14)] 200 yQ kr rfl ?_);refine zF ?_;refine zO _ (zJ0 x.sa x.na) rfl ?_;refine zF ?_;refine zO _ (jL b _ n x.na om om) rfl ?_;refine zF ?_;refine zO _ (zK0 _ x.sc _ x.nc om om h0) rfl ?_;refine zf (zA ?_);refine zB (zE zL [] 300 rfl ?_);refine zF ?_;refine yK _ (fun hg19 => wP _ _ _ x.cnt.2 om om) rfl ?_;refine zf (zA (zK ?_))
 exact u4 rfl (u7 (by
   unfold hvB;have e1 : decide (((dig (dmR (plB b n (!x.sa && decide (0 < x.na)) x.na).1 x.sc (plB b n (!x.sa && decide (0 < x.na)) x.na).2 x.nc)).length : Int) = 0) = decide (dmR (plB b n (!x.sa && decide (0 < x.na)) x.na).1 x.sc (plB b n (!x.sa && decide (0 < x.na)) x.na).2 x.nc = 0) := decide_eq_decide.2 om;have e2 : decide (0 < ((dig (dmQ (plB b n (!x.sa && decide (0 < x.na)) x.na).1 x.sc (plB b n (!x.sa && decide (0 < x.na)) x.na).2 x.nc)).length : Int)) = decide (0 < dmQ (plB b n (!x.sa && decide (0 < x.na)) x.na).1 x.sc (plB b n (!x.sa && decide (0 < x.na)) x.na).2 x.nc) := decide_eq_decide.2 hq0;rw [<- e1,<- e2];simp [Bool.and_assoc]))
variable {md me : Bool}
variable {md me : Bool}
section
variable {F : Nat -> Vl -> Vl -> QR} {G : Nat -> Vl -> Vl -> LR} {J : Nat -> Vl -> Vl -> Int} {z : Bool} {l : List (Vl × Vl)} {n : Nat}
variable {h : List Ob} {a b : Vl}
end
theorem vd_st (q : QR) : (if (qS q).k = 1 then qS q else vlS (boV (qT q))) = qSt q := by
 cases q with
 | none => rfl
 | some r => rfl
theorem mG0 {h : List Ob} (hh : HpIn h) (g : Uh h) : ∀ (f n : Nat) (a b : Vl),n <= f -> n <= 10000 -> Vd h a -> Vd h b -> FnG Tryz.prog 45 [.bp 0 0,.agg (vlD a),.agg (vlD b)] [jO md h (n : Nat)] (vdD (eqS h f n a b)) [jO md h (jl (eqS h f n a b))]
 | 0,n,a,b,h0,h1,ha,hb => by
  have e : n = 0 := by omega
  subst e;exact cW h 0 a b (fun _ _ _ => none) h1 hh g ha hb (fun _ _ _ _ e => by cases e) fun m hm => absurd hm om
 | f + 1,n,a,b,h0,h1,ha,hb => cW h n a b (eqS h f) h1 hh g ha hb (cX h f) fun m hm x y hx hy => mG0 hh g f m x y om om hx hy
theorem tD (q : QR) : Fx 46 [vdD q] (.agg (stD (qSt q))) := by
 have h := vStepS_ok (qT q) (qS q);rw [vd_st] at h;exact h
variable {md me : Bool}
theorem Fn.eqo {P : Program} {f : FuncId} {args : List D} {out out' : D} (h : Fn P f args out) (e : out = out') : Fn P f args out' := e ▸ h
section
variable {h : List Ob} {f n : Nat} {a b c : Vl}
end
variable {md me : Bool}
def plC (l : List St) (s : St) : D := .agg (stsD l :: stD s)
section
variable {h : List Ob} {op : Int} {a b : Vl}
theorem att_1 (s : ByteArray) (v : Vl) (l : List Vl) : (attS h v s l).length <= 1 := by unfold attS;split <;> simp
end
def FnR {α : Type} (P : Program) (f : FuncId) (args : List D) (bx own : DOwn) (res : Except Value α) (out : α -> D) (own' : α -> DOwn) (o0 : D) : Prop := match res with
 | .ok a => FnG P f args [bx,own] (out a) [bx,own' a]
 | .error V => FnP P (pnV V) f args [bx,own] o0 [deadO,deadO]
section
variable {α : Type} {P : Program} {f : FuncId} {args : List D} {bx own : DOwn} {res : Except Value α} {out : α -> D} {own' : α -> DOwn} {o0 : D}
theorem FnR.yes (h : FnR P f args bx own res out own' o0) {a : α} (e : res = .ok a) : FnG P f args [bx,own] (out a) [bx,own' a] := by subst e;exact h
theorem FnR.no (h : FnR P f args bx own res out own' o0) {V : Value} (e : res = .error V) : FnP P (pnV V) f args [bx,own] o0 [deadO,deadO] := by subst e;exact h
end
def FinR {α : Type} (T : List (Nat × TI)) (rs : List ResultVar) (bx : DOwn) (res : Except Value α) (out : α -> D) (own' : α -> DOwn) (ex : Exit) (S : DS) : Prop :=
 (∃ ch,ex = .panic ch /\ ∃ V,res = .error V /\ ch = [{ v := V,recovered := false }]) \/ DeadS S \/ ∃ a,res = .ok a /\ FinH T rs 2 (out a) [bx,own' a] ex S
theorem FinR.of {α : Type} {T : List (Nat × TI)} {rs : List ResultVar} {bx : DOwn} {res : Except Value α} {out : α -> D} {own' : α -> DOwn} {ex : Exit} {S : DS} (a : α) (hr : res = .ok a) (h : FinH T rs 2 (out a) [bx,own' a] ex S) : FinR T rs bx res out own' ex S := .inr (.inr ⟨a,hr,h⟩)
theorem FinR.pan {α : Type} {T : List (Nat × TI)} {rs : List ResultVar} {bx : DOwn} {res : Except Value α} {out : α -> D} {own' : α -> DOwn} {S : DS} {V : Value} (hr : res = .error V) : ∀ ch,pnV V ch -> FinR T rs bx res out own' (.panic ch) S := fun ch h => .inl ⟨ch,rfl,V,hr,h⟩
section
variable {P : Program} {T : List (Nat × TI)} (hT : wS P T = true)
include hT
theorem bS0 {α : Type} {f : FuncId} {fn : Func} {c : Code} {n : Nat} {args : List D} {bx own : DOwn} {res : Except Value α} {own' : α -> DOwn} {rs : List ResultVar} {out : α -> D} {o0 : D} (hf : P.funcs[f]? = some fn) (hb : fn.body = some c) (hn : fn.ntmps = n) (hr : fn.results = rs.toArray) (hm : (fn.name == "runtime.NumGoroutine") = false) (hl : Nat.ble args.length n = true) (ha : chkA args [bx,own] = true) (hg : ∀ a,chkG 2 (out a) [bx,own' a] = true) (hg0 : chkG 2 o0 [deadO,deadO] = true)
  (h : ∀ (w0 : World) (s0 : Sb) (mx : (Nat -> Prop) × Gh × List Deferred),Ev P ⟨w0,s0,mx.1,n,mx.2.1,mx.2.2⟩ c ⟨argD 0 args,uK 0 [bx,own],2⟩ (FinR T rs bx res out own')) : FnR P f args bx own res out own' o0 := by
 cases res with
 | ok a =>
  refine GFunE.toG (vX0 (E := fun _ => False) hT hf hb hn hr hm hl ha (hg a) fun w0 s0 mx w s g a Q h1 h2 => h w0 s0 mx w s g a Q h1 fun ex w' s' g' a' S' h3 h4 => ?_);rcases h4 with ⟨ch,_,V,h4,_⟩ | h4 | ⟨b,h4,h5⟩
  ·cases h4
  ·exact (h4.no h3).elim
  ·cases h4;exact h2 ex w' s' g' a' S' h3 (.inr h5)
 | error V =>
  refine vX0 (E := pnV V) hT hf hb hn hr hm hl ha hg0 fun w0 s0 mx w s g a Q h1 h2 => h w0 s0 mx w s g a Q h1 fun ex w' s' g' a' S' h3 h4 => ?_;rcases h4 with ⟨ch,h4,W,h5,h6⟩ | h4 | ⟨b,h4,h5⟩
  ·cases h5;exact h2 ex w' s' g' a' S' h3 (.inl ⟨ch,h4,h6⟩)
  ·exact (h4.no h3).elim
  ·cases h4
end
variable {md me : Bool}
theorem ev_neTail {P : Program} {T : List (Nat × TI)} (hT : wS P T = true) (fls : List Nat) {α : Type} {id : Nat} {ops l1 : List Oper} {Ty Ty' e : TypeId} {t3 t4 sz : Nat} {ty : TypeId} {pos : String} {aft : Array Edge} {l : List α} {f : α -> List D} {b : Ba} {tm : List (Nat × D)} {ow : List (Nat × DOwn)} {nx : Nat} {K : Exit -> DS -> Prop} (nx1 : Nat)
  (hops : ops = l1 ++ [⟨some t4,.binOp .neq Ty (.tmp t3) (.const (.slice none 0 0)) Ty',ty,pos,aft,none⟩]) (hu : P.underlying Ty = some (.slice e)) (h4 : Nat.blt t4 b.sz = true) (hn : Nat.ble (nx + l1.length) nx1 = true)
  (h : (zS0 T fls ops none b.sz nx nx1 l1 nat0 tm ow []).sat P (fun _ => False) (fun S => yT t3 S.tm = some (slN sz l f) /\ ∀ c : Bool,(c = true ↔ l ≠ []) -> K .normal ⟨(t4,.v (.bool c)) :: S.tm,S.ow,S.nx⟩)) :
  Ev P b (.region id ops.toArray false) ⟨tm,ow,nx⟩ K := by
 intro w s g a Q hr hK;refine wp_region_lit ?_;have h0 := qH0 hT fls (ops := ops) (l1 := l1) (l2 := [⟨some t4,.binOp .neq Ty (.tmp t3) (.const (.slice none 0 0)) Ty',ty,pos,aft,none⟩]) nx1 _ hr hn h (Q := Q) fun w' s' g' a' S' h1 h2 => by
  obtain ⟨h5,h6⟩ := h2;obtain ⟨tm',ow',nx'⟩ := S';refine uO0 (d := (slN sz l f).tv) (p := l ≠ []) (rest := []) (ow := ows ow') (nx := nx') (tm := tvs tm') (K := fun S2 => ∃ S,S2 = DS.ste S /\ K .normal S) hu (by rw [qD,show yT t3 tm' = _ from h5];rfl) (fun w s g v hv => ?_) (Ar h4) (fun c hc => wZ0 ⟨⟨(t4,.v (.bool c)) :: tm',ow',nx'⟩,rfl,h6 c hc⟩) w' s' g' a' Q h1 fun w2 s2 g2 a2 S2 g3 g4 => ?_
  ·obtain ⟨⟨a,cap,g1,g2,g3,g4,g5⟩,hn⟩ := hv;refine ⟨a,_,cap,g1,?_⟩
   cases l with
   | nil =>
    have := hn rfl;rw [g1] at this
    cases this;simp
   | cons x l =>
    obtain ⟨b',off,e1,_⟩ := g5 0 (D.pvs (f x)) rfl;rw [e1];simp
  ·obtain ⟨S,rfl,g5⟩ := g4;exact hK .normal w2 s2 g2 a2 S g3 g5
 rw [<- hops] at h0;exact h0
def cnI (F : Nat -> Vl -> Vl -> QR) (x : Vl) : Nat -> List Vl -> Nat -> Option (Int × Nat)
 | _,[],n => some (-1,n)
 | i,v :: l,n => match F n x v with
  | none => none
  | some r => if r.1 = true then some ((i : Int),r.2) else cnI F x (i + 1) l r.2
def cnR : Option (Int × Nat) -> QR := fun o => o.map fun r => (decide (0 <= r.1),r.2)
def cnQ (F : Nat -> Vl -> Vl -> QR) (x : Vl) (l : List Vl) (n : Nat) : QR := cnR (cnI F x 0 l n)
structure Ln (F : Nat -> Vl -> Vl -> QR) (x : Vl) (l : List Vl) (n : Nat) where
 k : Nat
 m : Nat
 le : k <= l.length
 hm : m <= n
 eq : cnI F x k (l.drop k) m = cnI F x 0 l n
section
variable {F : Nat -> Vl -> Vl -> QR} {x : Vl} {l : List Vl} {n : Nat}
def Ln.start (F : Nat -> Vl -> Vl -> QR) (x : Vl) (l : List Vl) (n : Nat) : Ln F x l n := ⟨0,n,Ap _,Ao _,rfl⟩
theorem Ln.at (y : Ln F x l n) (hk : y.k < l.length) : cnI F x 0 l n = cnI F x y.k (l.getD y.k vl0 :: l.drop (y.k + 1)) y.m := by rw [<- y.eq,qI0 hk]
theorem Ln.pan (y : Ln F x l n) (hk : y.k < l.length) (hr : F y.m x (l.getD y.k vl0) = none) : cnI F x 0 l n = none := by
 rw [y.at hk];simp only [cnI,hr]
theorem Ln.yes (y : Ln F x l n) (hk : y.k < l.length) {m2 : Nat} (hr : F y.m x (l.getD y.k vl0) = some (true,m2)) : cnI F x 0 l n = some ((y.k : Int),m2) := by
 rw [y.at hk];simp only [cnI,hr];rfl
def Ln.next (y : Ln F x l n) (hF : LeQ F) (hk : y.k < l.length) {m2 : Nat} (hr : F y.m x (l.getD y.k vl0) = some (false,m2)) : Ln F x l n :=
 ⟨y.k + 1,m2,hk,by have := hF _ _ _ _ hr;have := y.hm;simp only at *;omega,by rw [y.at hk];simp only [cnI,hr];rfl⟩
theorem Ln.fin (y : Ln F x l n) (hk : ¬ y.k < l.length) : cnI F x 0 l n = some (-1,y.m) := by
 rw [<- y.eq,Ax om];rfl
end
def iE : Option (Int × Nat) -> Except Value (Int × Nat)
 | some r => .ok r
 | none => .error (mZ 42 qT0)
def iB (r : Int × Nat) : D := .v (.int .i64 r.1)
def iO (md : Bool) (h : List Ob) (r : Int × Nat) : DOwn := cqO md h r.2
theorem qH1 {r : Option (Int × Nat)} {a : Int × Nat} (h : r = some a) : iE r = .ok a := by rw [h];rfl
theorem jQ1 {r : Option (Int × Nat)} (h : r = none) : iE r = .error (mZ 42 qT0) := by rw [h];rfl
theorem tO0 {r : Option (Int × Nat)} (h : r = none) : cnR r = none := by rw [h];rfl
theorem wE0 {r : Option (Int × Nat)} {i : Int} {m : Nat} (h : r = some (i,m)) : cnR r = some (decide (0 <= i),m) := by rw [h];rfl
def cbO : DOwn := .box 59 [.bp 1 0]
theorem IndexFuncK_ok (h : List Ob) (l : List Vl) (k : Vl) (H : ∀ x ∈ l,Fx 61 [.agg (vlD x),cpD md h,vpD k] (.v (.bool (smK h 1001 x k)))) : Fx 115 [.sl me 7 l vlD vl0,.clo 61 [cpD md h,vpD k]] (.v (.int .i64 (plI h l k))) := by
 refine yD zL Tryz.func115 rfl rfl rfl rfl rfl rfl ?_;intro w0 s0 mx;refine wX 0 rfl fun hl0 => ?_;refine zJ 100 ?_;refine zB (zJ 200 ?_);refine zR ?_;refine yC (ι := Al l (fun x => !smK h 1001 x k)) [0,1,7] [] 250 (fun x => [(8,.v (.int .i64 x.k))]) (fun _ => []) (fun x => l.length - x.k) ⟨0,Ap _,fun j x hj => by omega⟩ ?_;refine ⟨⟨yM,yH,rfl,rfl⟩,fun x => ?_⟩;have hk := x.le;refine zJ 300 ?_;refine zB (zT rfl (fun c2 => ?_) (fun c2 => ?_))
 ·have c2 : x.k < l.length := by simpa using c2
  refine zM (zA (zB (zR (zJ 400 ?_))));refine zB (zE zL [] 500 rfl ?_);refine zF ?_;refine zO _ (H _ (by rw [qN c2];exact Be _)) rfl ?_;refine zF ?_;refine zC (zA (zW (fun c4 => ?_) (fun c4 => ?_)))
  ·
   refine zJ 600 ?_;refine zK (zQ (zN (yL (zQ (zN ?_)))));exact u4 rfl (u10 (kG0 x.all (cL c2 vl0) c4).symm)
  ·
   refine zM (zP (zA (yN zL [] 700 ?_)));exact zS (x.next (e := vl0) c2 (by rw [c4];rfl)) ⟨yM,yH,rfl,rfl⟩ (by show l.length - (x.k + 1) < l.length - x.k;omega)
 ·have c2 : ¬ x.k < l.length := by simpa using c2
  refine yE (yA (yB (zX (zA (zJ 800 ?_)))));refine zK ?_;exact u4 rfl (u10 (tI (fun y hy => by
    have := Bf.1 (x.yes c2) y hy;simpa using this)).symm)
theorem ContainsFuncK_ok (h : List Ob) (l : List Vl) (k : Vl) (H : ∀ x ∈ l,Fx 61 [.agg (vlD x),cpD md h,vpD k] (.v (.bool (smK h 1001 x k)))) : Fx 60 [.sl me 7 l vlD vl0,.clo 61 [cpD md h,vpD k]] (.v (.bool (decide (0 <= plI h l k)))) := by
 refine yD zL Tryz.func60 rfl rfl rfl rfl rfl rfl ?_;intro w0 s0 mx;refine zJ 100 ?_;refine zB (zE zL [] 200 rfl ?_);refine zF ?_;refine zO _ (IndexFuncK_ok h l k H) rfl ?_;refine zf (zA (zK ?_));exact u4 rfl (u7 (by simp))
theorem containsKC_ok (h : List Ob) (w k : Vl) (hh : HpIn h) (g : Uh h) (hk : uX h k = true) (hv : Vd h k) (hw : Vd h w) : Fx 61 [.agg (vlD w),cpD md h,vpD k] (.v (.bool (smK h 1001 w k))) := by
 refine yD zL Tryz.func61 rfl rfl rfl rfl rfl rfl ?_;intro w0 s0 mx;refine zJ 100 ?_;refine zB (zE zL [] 200 rfl ?_);refine zF ?_;refine zO _ ((yJ0 hh g hk hv hw).out (u7 (tE h 1001 k w))) rfl ?_;refine zf (zA (zK ?_));exact u4 rfl (u6 _)
theorem bU (h : List Ob) (m : Nat) (x v : Vl) (hh : HpIn h) (g : Uh h) (hm : m <= 10000) (hx : Vd h x) (hv : Vd h v) : FnR Tryz.prog 64 [.agg (vlD v),.bp 0 0,vpD x] cbO (cqO md h m) (qE (eqS h 10000 m x v)) qB (qO md h) (.v (.bool false)) := by
 refine bS0 zL Tryz.func64 rfl rfl rfl rfl rfl rfl (fun _ => rfl) rfl ?_;intro w0 s0 mx;refine zJ 100 ?_;rcases hr : eqS h 10000 m x v with _ | ⟨bb,m2⟩
 ·refine zB (zE zL [1008] 200 rfl ?_);refine zF ?_;refine xD _ _ ((gA0 hh g 10000 m x v hm hm hx hv).no (kG hr)) (FinR.pan (kG rfl)) rfl ?_;refine zf (zA ?_);exact wJ 1
 ·refine zB (zE zL [1008] 200 rfl ?_);refine zF ?_;refine qC _ _ ((gA0 hh g 10000 m x v hm hm hx hv).yes (vN hr)) rfl ?_;refine zf (zA (zK ?_));exact FinR.of (bb,m2) (vN (rfl)) (u11 2 rfl rfl (u0 _) ⟨⟨rfl,u0 _,rfl,trivial⟩,⟨rfl,u0 _,rfl,u0 _,rfl,trivial⟩,trivial⟩)
set_option maxHeartbeats 1000000 in
theorem dF (h : List Ob) (n : Nat) (l : List Vl) (x : Vl) (F : Nat -> Vl -> Vl -> QR) (hF : LeQ F) (H : ∀ m,m <= n -> ∀ v ∈ l,FnR Tryz.prog 64 [.agg (vlD v),.bp 0 0,vpD x] cbO (cqO md h m) (qE (F m x v)) qB (qO md h) (.v (.bool false))) : FnR Tryz.prog 115 [vsD l,.clo 64 [.bp 0 0,vpD x]] cbO (cqO md h n) (iE (cnI F x 0 l n)) iB (iO md h) (.v (.int .i64 0)) := by
 refine bS0 zL Tryz.func115 rfl rfl rfl rfl rfl rfl (fun _ => rfl) rfl ?_;intro w0 s0 mx;refine wX 0 rfl fun hl0 => ?_;refine zJ 100 ?_;refine zB (zJ 200 ?_);refine zR ?_;refine yC (ι := Ln F x l n) [0,1,7] [] 250 (fun y => [(8,.v (.int .i64 y.k))]) (fun y => [(0,cbO),(1,.box 111 [.sl md 10 h obD ob0,.v (.int .i64 y.m)])]) (fun y => l.length - y.k) (Ln.start F x l n) ?_;refine ⟨⟨yM,⟨⟨rfl,u0 _,rfl,trivial⟩,⟨rfl,u0 _,rfl,u0 _,rfl,trivial⟩,yH⟩,rfl,rfl⟩,fun y => ?_⟩;have hyl := y.le;refine zJ 300 ?_;refine zB (zT rfl (fun c2 => ?_) (fun c2 => ?_))
 ·have c2 : y.k < l.length := by simpa using c2
  refine zM (zA (zB (zR (zJ 400 ?_))));rcases hr : F y.m x (l.getD y.k vl0) with _ | ⟨bb,m2⟩
  ·refine zB (zE zL [1016] 500 rfl ?_);refine zF ?_;refine xD _ _ ((H y.m y.hm _ (by first | exact uP c2 | (rw [qN c2];exact Be _))).no (kG hr)) (FinR.pan (jQ1 (y.pan c2 hr))) rfl ?_;refine zf (zA ?_);exact wJ 1
  ·refine zB (zE zL [1016] 500 rfl ?_);refine zF ?_;refine qC _ _ ((H y.m y.hm _ (by first | exact uP c2 | (rw [qN c2];exact Be _))).yes (vN hr)) rfl ?_;refine zF ?_;refine zC (zA (zW (fun c4 => ?_) (fun c4 => ?_)))
   ·
    refine zJ 600 ?_;refine zK (zQ (zN (yL (zQ (zN ?_)))));have hb : bb = true := by simpa [qB] using c4
    subst hb;exact FinR.of ((y.k : Int),m2) (qH1 (y.yes c2 hr)) (u11 2 rfl rfl (u0 _) ⟨⟨rfl,u0 _,rfl,trivial⟩,⟨rfl,u0 _,rfl,u0 _,rfl,trivial⟩,trivial⟩)
   ·
    refine zM (zP (zA (yN zL [] 700 ?_)));have hb : bb = false := by simpa [qB] using c4
    subst hb;exact zS (y.next hF c2 hr) ⟨⟨u21 (by show (y.k : Int) + 1 = ((y.k + 1 : Nat) : Int);push_cast;rfl),yM⟩,⟨⟨rfl,u0 _,rfl,trivial⟩,⟨rfl,u0 _,rfl,u21 rfl,rfl,trivial⟩,yH⟩,rfl,rfl⟩ (by show l.length - (y.k + 1) < l.length - y.k;omega)
 ·have c2 : ¬ y.k < l.length := by simpa using c2
  refine yE (yA (yB (zX (zA (zJ 800 ?_)))));refine zK ?_;exact FinR.of ((-1 : Int),y.m) (qH1 (y.fin c2)) (u11 2 rfl rfl (u0 _) ⟨⟨rfl,u0 _,rfl,trivial⟩,⟨rfl,u0 _,rfl,u0 _,rfl,trivial⟩,trivial⟩)
theorem gY (h : List Ob) (n : Nat) (l : List Vl) (x : Vl) (F : Nat -> Vl -> Vl -> QR) (hF : LeQ F) (H : ∀ m,m <= n -> ∀ v ∈ l,FnR Tryz.prog 64 [.agg (vlD v),.bp 0 0,vpD x] cbO (cqO md h m) (qE (F m x v)) qB (qO md h) (.v (.bool false))) : FnR Tryz.prog 60 [vsD l,.clo 64 [.bp 0 0,vpD x]] cbO (cqO md h n) (qE (cnQ F x l n)) qB (qO md h) (.v (.bool false)) := by
 refine bS0 zL Tryz.func60 rfl rfl rfl rfl rfl rfl (fun _ => rfl) rfl ?_;intro w0 s0 mx;refine zJ 100 ?_;rcases hr : cnI F x 0 l n with _ | ⟨ii,m2⟩
 ·refine zB (zE zL [1007] 200 rfl ?_);refine zF ?_;refine xD _ _ ((dF h n l x F hF H).no (jQ1 hr)) (FinR.pan (kG (tO0 hr))) rfl ?_;refine zf (zA ?_);exact wJ 1
 ·refine zB (zE zL [1007] 200 rfl ?_);refine zF ?_;refine qC _ _ ((dF h n l x F hF H).yes (qH1 hr)) rfl ?_;refine zf (zA (zK ?_));exact FinR.of (decide (0 <= ii),m2) (vN (wE0 hr)) (u11 2 rfl rfl (Sub.bool (by simp)) ⟨⟨rfl,u0 _,rfl,trivial⟩,⟨rfl,u0 _,rfl,u0 _,rfl,trivial⟩,trivial⟩)
theorem containsC_ok (h : List Ob) (o : Ob) (x : Vl) (hh : HpIn h) (g : Uh h) (hx : Vd h x) (hi : ∀ v ∈ o.items,Vd h v) : FnQ Tryz.prog 63 [.bp 0 0,.pt true (obD o),vpD x] (cqO md h 10000) (qE (cnQ (eqS h 10000) x o.items 10000)) qB (qO md h) (.v (.bool false)) := by
 refine vW0 zL Tryz.func63 rfl rfl rfl rfl rfl rfl (fun _ => rfl) rfl ?_;intro w0 s0 mx;refine zJ 100 ?_;rcases hr : cnQ (eqS h 10000) x o.items 10000 with _ | ⟨bb,m2⟩
 ·refine zB (zE zL [1008] 200 rfl ?_);refine zF ?_;refine xD _ _ ((gY h 10000 o.items x (eqS h 10000) (cX h 10000) (fun m hm v hv => bU h m x v hh g hm hx (hi v hv))).no (kG hr)) (FinQ.pan (kG rfl)) rfl ?_;refine zf (zA ?_);exact wJ 0
 ·refine zB (zE zL [1008] 200 rfl ?_);refine zF ?_;refine qC _ _ ((gY h 10000 o.items x (eqS h 10000) (cX h 10000) (fun m hm v hv => bU h m x v hh g hm hx (hi v hv))).yes (vN hr)) rfl ?_;refine zf (zA (zK ?_));exact FinQ.of (bb,m2) (vN (rfl)) (u11 1 rfl rfl (u0 _) ⟨⟨rfl,u0 _,rfl,u0 _,rfl,trivial⟩,trivial⟩)
variable {md me : Bool}
theorem SamePlanC_self (l : List St) (s : St) (hl : l.length <= 1000) : Fx 23 [plC l s,plC l s] (.v (.bool true)) := by
 refine yD zL Tryz.func23 rfl rfl rfl rfl rfl rfl ?_;intro w0 s0 mx;refine zJ 100 ?_;refine zB ?_;refine zB (zE zL [] 200 rfl ?_);refine zF ?_;refine yK _ (fun hg12 => mW s s) rfl ?_;refine zF ?_;refine zC (zA (zW (fun c1 => ?_) (fun c1 => ?_)))
 ·
  simp [tY] at c1
 ·
  refine zM (zA (zB (zJ 400 ?_)));refine zR ?_;refine yC (ι := {k : Nat // k <= l.length}) [2,3,23] [0,1] 450 (fun x => [(24,.v (.int .i64 x.1))]) (fun _ => []) (fun x => l.length - x.1) ⟨0,Ap _⟩ ?_;refine ⟨⟨yM,yH,rfl,rfl⟩,fun x => ?_⟩;have hk : x.1 <= l.length := x.2;refine zJ 500 ?_;refine zB (zW (fun c4 => ?_) (fun c4 => ?_))
  ·
   refine zM (zA (zB (zR (zJ 600 ?_))));refine zB (zZ zL [] [[],[0],[],[0,1,2],[0,1,2,3],[],[5],[],[5,6,7],[5,6,7,8],(rgN 10),(rgN 11)] 700 yQ kr rfl ?_);refine zF ?_;refine zO _ (mW _ _) rfl ?_;refine zF ?_;refine zC (zA (zW (fun c6 => ?_) (fun c6 => ?_)))
   ·
    simp [tY] at c6
   ·
    refine zM (zP (zA (yN zL [] 900 ?_)));exact zS (⟨x.1 + 1,by omega⟩) ⟨⟨u21 (by push_cast;rfl),yM⟩,yH,rfl,rfl⟩ (by show l.length - (x.1 + 1) < l.length - x.1;omega)
  ·
   refine yE (yA (yB (zX (zA (zJ 1000 ?_)))));refine zK ?_;exact u4 rfl (u6 _)
end Go.Proofs.YtinegkcbkefeiaaGreatDoor
