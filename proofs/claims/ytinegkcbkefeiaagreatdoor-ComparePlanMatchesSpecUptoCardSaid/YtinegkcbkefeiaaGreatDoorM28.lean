/- Part 28 of the proof. -/
import Derived.Test.YtinegkcbkefeiaaGreatDoorM27
namespace Go.Proofs.YtinegkcbkefeiaaGreatDoor
open Go.RowKit
variable {md me : Bool}
theorem tA0 {v : Vl} (p : Qr.Nm v) : (Lg v.nl /\ v.nl.length <= 128) /\ Lg v.dl /\ v.dl.length <= 128 := by
 refine ⟨⟨?_,?_⟩,?_⟩
 ·rw [(nm_n p).2];exact yU _
 ·rw [(nm_n p).2];exact p.q.nl
 ·rcases p.k with h | h
  ·have e : v.dl = [] := (congrArg Vl.dl p.e).trans (by unfold Qr.vQ;rw [Ac (uP1 p h)];rfl);rw [e];exact ⟨Lg.nil,by decide⟩
  ·rw [(jA1 p h).2];exact ⟨yU _,p.q.dl⟩
theorem jS1 {l : List Nat} (hg : Lg l) (h : l.length <= 128) : (dig (VL l)).length <= 300 := Av (jJ (by
 have := L_lt hg;rw [Nat.pow_mul];exact this)) (show 2 * l.length <= 300 by omega)
theorem vE1 {v : Vl} (p : Qr.Nm v) : (dig (Qr.dV v)).length <= 300 := by
 unfold Qr.dV;split
 ·have := tA0 p;exact jS1 this.2.1 this.2.2
 ·rw [yL0];decide
theorem cmpQ_I (n : Int) (d : Nat) (m : Int) (e : Nat) : cmpQ n d m e = cmpI (n * e) (m * d) := by
 unfold cmpQ cmpI;generalize n * (e : Int) = x;generalize m * (d : Int) = y;split <;> (try split) <;> (try split) <;> (try split) <;> omega
theorem ZI_t (b : Bool) (n e : Nat) : ZI ((b != false) && decide (0 < n * e)) (n * e) = ZI b n * e := by
 cases b with
 | false => show ((n * e : Nat) : Int) = (n : Int) * e;rw [Int.natCast_mul]
 | true =>
  unfold ZI;by_cases h : 0 < n * e
  ·rw [Ax h];simp [Int.neg_mul]
  ·rw [By h];have h0 : n * e = 0 := by omega
   rw [h0];have : (n : Int) * e = 0 := by rw [<- Int.natCast_mul,h0];rfl
   simp [this,Int.neg_mul]
theorem tS0 (op : Int) (a b : Int) : fitO op (a - b) = fitO op (cmpI a b) := by
 unfold fitO cmpI;rw [Co];split <;> (try split) <;> simp <;> omega
theorem is_n (v : Vl) : (decide (v.k = 2) || decide (v.k = 3)) = isN v := by unfold isN;rw [Co];simp
theorem RatOrder_ok (b c : Bool) (n d m e : Nat) (h1 : (dig n).length <= 300) (h2 : (dig d).length <= 300) (h3 : (dig m).length <= 300) (h4 : (dig e).length <= 300) : Fx 109 [qD b n d,qD c m e] (.v (.int .i64 (cmpI (ZI b n * e) (ZI c m * d)))) := by
 have k1 := uH0 h1 h4;have k2 := uH0 h3 h2;refine yD zL Tryz.func109 rfl rfl rfl rfl rfl rfl ?_;intros;refine zJ 100 ?_;refine zB (zW zL [] [[],[0],[],[2],[2,3],(rgN 5),[],[6],[],[8],[8,9],(rgN 11),(rgN 12),(rgN 13)] 200 yP kr rfl ?_);refine zF ?_;refine zO _ (vO b false n e om om) rfl ?_;refine zF ?_;refine zO _ (vO c false m d om om) rfl ?_;refine zF ?_;refine zO _ (wS _ _ (n * e) (m * d) om om) rfl ?_;refine zf (zA (zK ?_));exact u4 rfl (u10 (by rw [ZI_t,ZI_t]))
def lT : LR -> Bool
 | .ok r => r.1
 | .error _ => false
def lS : LR -> St
 | .ok _ => st0
 | .error e => raS e.1 e.2
def vdL (q : LR) : D := vd0 (lT q) (lS q)
def liJ (F : Nat -> Vl -> Vl -> QR) (J : Nat -> Vl -> Vl -> Int) : List (Vl × Vl) -> Nat -> Int
 | [],n => (n : Int)
 | x :: l,n => match F n x.1 x.2 with
  | none => -1
  | some r => if r.1 = true then liJ F J l r.2 else J r.2 x.1 x.2
def leJ (F : Nat -> Vl -> Vl -> QR) (J : Nat -> Vl -> Vl -> Int) (h : List Ob) (n : Nat) (a b : Vl) : Int :=
 if n = 0 then -1
 else if isN a = true /\ isN b = true then ((n - 1 : Nat) : Int)
 else if a.k = b.k /\ (a.k = 4 \/ a.k = 5) then ((n - 1 : Nat) : Int)
 else if (zU h a).kind = (zU h b).kind /\ ((zU h a).kind = 1 \/ (zU h a).kind = 2) then liJ F J (zpL (zU h a).items (zU h b).items) (n - 1)
 else ((n - 1 : Nat) : Int)
def lfJ (h : List Ob) : Nat -> Nat -> Vl -> Vl -> Int
 | 0 => fun _ _ _ => -1
 | f + 1 => fun n a b => leJ (eqS h 10000) (lfJ h f) h n a b
structure Lj (F : Nat -> Vl -> Vl -> QR) (G : Nat -> Vl -> Vl -> LR) (J : Nat -> Vl -> Vl -> Int) (z : Bool) (l : List (Vl × Vl)) (n : Nat) extends Li F G z l n where
 ej : liJ F J (l.drop k) m = liJ F J l n
section
variable {F : Nat -> Vl -> Vl -> QR} {G : Nat -> Vl -> Vl -> LR} {J : Nat -> Vl -> Vl -> Int} {z : Bool} {l : List (Vl × Vl)} {n : Nat}
theorem Lj.atj (x : Lj F G J z l n) {v w : Vl} (hg : l[x.k]? = some (v,w)) : liJ F J l n = liJ F J ((v,w) :: l.drop (x.k + 1)) x.m := by
 rw [<- x.ej,Bw (Ad.1 hg).1,(Ad.1 hg).2]
theorem Lj.panj (x : Lj F G J z l n) {v w : Vl} (hg : l[x.k]? = some (v,w)) (hr : F x.m v w = none) : liJ F J l n = -1 := by
 rw [x.atj hg];simp only [liJ,hr]
theorem Lj.noj (x : Lj F G J z l n) {v w : Vl} (hg : l[x.k]? = some (v,w)) {m2 : Nat} (hr : F x.m v w = some (false,m2)) : liJ F J l n = J m2 v w := by
 rw [x.atj hg];simp only [liJ,hr];rfl
def Lj.nextj (x : Lj F G J z l n) (hF : LeQ F) {v w : Vl} (hg : l[x.k]? = some (v,w)) {m2 : Nat} (hr : F x.m v w = some (true,m2)) : Lj F G J z l n :=
 ⟨x.toLi.next hF hg hr,by show liJ F J (l.drop (x.k + 1)) m2 = _;rw [x.atj hg];simp only [liJ,hr];rfl⟩
theorem Lj.finj (x : Lj F G J z l n) (h : ¬ x.k < l.length) : liJ F J l n = (x.m : Int) := by
 rw [<- x.ej,Ay om];rfl
variable {h : List Ob} {a b : Vl}
theorem leJ_0 (h0 : n = 0) : leJ F J h n a b = -1 := Ac h0
theorem leJ_n (h0 : ¬ n = 0) (h1 : isN a = true /\ isN b = true) : leJ F J h n a b = ((n - 1 : Nat) : Int) := (Aa h0).trans (Ac h1)
theorem leJ_t (h0 : ¬ n = 0) (h1 : ¬ (isN a = true /\ isN b = true)) (h2 : a.k = b.k /\ (a.k = 4 \/ a.k = 5)) : leJ F J h n a b = ((n - 1 : Nat) : Int) := (Aa h0).trans ((Aa h1).trans (Ac h2))
theorem dC0 (h0 : ¬ n = 0) (h1 : ¬ (isN a = true /\ isN b = true)) (h2 : ¬ (a.k = b.k /\ (a.k = 4 \/ a.k = 5))) (h3 : (zU h a).kind = (zU h b).kind /\ ((zU h a).kind = 1 \/ (zU h a).kind = 2)) : leJ F J h n a b = liJ F J (zpL (zU h a).items (zU h b).items) (n - 1) := (Aa h0).trans ((Aa h1).trans ((Aa h2).trans (Ac h3)))
theorem jG1 (h0 : ¬ n = 0) (h1 : ¬ (isN a = true /\ isN b = true)) (h2 : ¬ (a.k = b.k /\ (a.k = 4 \/ a.k = 5))) (h3 : ¬ ((zU h a).kind = (zU h b).kind /\ ((zU h a).kind = 1 \/ (zU h a).kind = 2))) : leJ F J h n a b = ((n - 1 : Nat) : Int) := (Aa h0).trans ((Aa h1).trans ((Aa h2).trans (Aa h3)))
end
theorem vd_st (q : QR) : (if (qS q).k = 1 then qS q else vlS (boV (qT q))) = qSt q := by
 cases q with
 | none => rfl
 | some r => rfl
theorem qS_k (q : QR) : (qS q).k = 1 ↔ q = none := by
 cases q with
 | none => exact ⟨fun _ => rfl,fun _ => rfl⟩
 | some r => exact ⟨fun h => absurd h (by show ¬ (0 : Int) = 1;decide),fun h => by cases h⟩
theorem tY {h : List Ob} (hh : HpIn h) (g : Uh h) : ∀ (f n : Nat) (a b : Vl),n <= f -> n <= 10000 -> Vd h a -> Vd h b -> FnG Tryz.prog 45 [.bp 0 0,.agg (vlD a),.agg (vlD b)] [jO md h (n : Nat)] (vdD (eqS h f n a b)) [jO md h (jl (eqS h f n a b))]
 | 0,n,a,b,h0,h1,ha,hb => by
  have e : n = 0 := by omega
  subst e;exact zL0 h 0 a b (fun _ _ _ => none) h1 hh g ha hb (fun _ _ _ _ e => by cases e) fun m hm => absurd hm om
 | f + 1,n,a,b,h0,h1,ha,hb => zL0 h n a b (eqS h f) h1 hh g ha hb (kS h f) fun m hm x y hx hy => tY hh g f m x y om om hx hy
theorem bH0 {h : List Ob} (hh : HpIn h) (g : Uh h) : ∀ (f n : Nat) (a b : Vl),n <= f -> n <= 10000 -> Vd h a -> Vd h b -> FnG Tryz.prog 47 [.bp 0 0,.agg (vlD a),.agg (vlD b)] [jO md h (n : Nat)] (vdD (saS h f n a b)) [jO md h (jl (saS h f n a b))]
 | 0,n,a,b,h0,h1,ha,hb => by
  have e : n = 0 := by omega
  subst e;exact yT0 h 0 a b (fun _ _ _ => none) h1 hh g ha hb (fun _ _ _ _ e => by cases e) fun m hm => absurd hm om
 | f + 1,n,a,b,h0,h1,ha,hb => yT0 h n a b (saS h f) h1 hh g ha hb (bI0 h f) fun m hm x y hx hy => bH0 hh g f m x y om om hx hy
theorem kC0 (q : QR) : Fx 46 [vdD q] (.agg (stD (qSt q))) := by
 have h := cG (qT q) (qS q);rw [vd_st] at h;exact h
theorem vStepL_ok (q : LR) : Fx 46 [vdL q] (.agg (stD (lSt q))) := by
 cases q with
 | ok r => exact cG r.1 st0
 | error e => exact cG false (raS e.1 e.2)
theorem EqualD_ok (h : List Ob) (a b : Vl) (hh : HpIn h) (g : Uh h) (hva : Vd h a) (hvb : Vd h b) : Fx 17 [hpD md h,.agg (vlD a),.agg (vlD b)] (.agg (stD (qSt (eqS h 10000 10000 a b)))) := by
 refine yD zL Tryz.func17 rfl rfl rfl rfl rfl rfl ?_;intros;refine zJ 100 ?_;refine zB (zW zL [1008,1011] [[],[0],[],[],[0,1,2,3],(rgN 5),(rgN 6)] 200 yP kr rfl ?_);refine zF ?_;refine yQ _ _ (bC h) rfl ?_;refine zF ?_;refine yQ _ _ (tY hh g 10000 10000 a b (Ak _) (Ak _) hva hvb) rfl ?_;refine zF ?_;refine zO _ (kC0 _) rfl ?_;refine zf (zA (zK ?_));exact u4 rfl (u6 _)
theorem pT0 (h : List Ob) (a b : Vl) (hh : HpIn h) (g : Uh h) (hva : Vd h a) (hvb : Vd h b) : Fx 18 [hpD md h,.agg (vlD a),.agg (vlD b)] (.agg (stD (qSt (saS h 10000 10000 a b)))) := by
 refine yD zL Tryz.func18 rfl rfl rfl rfl rfl rfl ?_;intros;refine zJ 100 ?_;refine zB (zW zL [1008,1011] [[],[0],[],[],[0,1,2,3],(rgN 5),(rgN 6)] 200 yP kr rfl ?_);refine zF ?_;refine yQ _ _ (bC h) rfl ?_;refine zF ?_;refine yQ _ _ (bH0 hh g 10000 10000 a b (Ak _) (Ak _) hva hvb) rfl ?_;refine zF ?_;refine zO _ (kC0 _) rfl ?_;refine zf (zA (zK ?_));exact u4 rfl (u6 _)
theorem vE0 {P : Program} {E : Pn} {K : DS -> Prop} {p : Prop} {r : Out} (hr : r.sat P E K) (hp : p := by first | (simp only [ByteArray.size_append,kbsz,Cg,Aq,Be];omega) | exact Eh) : (Out.need p r).sat P E K := ⟨hp,hr⟩
set_option maxHeartbeats 4000000 in
theorem yY0 (h : List Ob) (op : Int) (n : Nat) (a b : Vl) (G : Nat -> Vl -> Vl -> LR) (J : Nat -> Vl -> Vl -> Int) (hn : n <= 10000) (hh : HpIn h) (g : Uh h) (hva : Vd h a) (hvb : Vd h b) (hia : VlIn a) (hib : VlIn b) (H : ∀ m,m < n -> ∀ x y,Vd h x -> Vd h y -> VlIn x -> VlIn y -> FnG Tryz.prog 48 [.bp 0 0,.agg (vlD x),.agg (vlD y),.v (.bool (decide (op = 2)))] [jO md h (m : Nat)] (vdL (G m x y)) [jO md h (J m x y)]) : FnG Tryz.prog 48 [.bp 0 0,.agg (vlD a),.agg (vlD b),.v (.bool (decide (op = 2)))] [jO md h (n : Nat)] (vdL (leP (eqS h 10000) G h op n a b)) [jO md h (leJ (eqS h 10000) J h n a b)] := by
 have pa := zN1 hva.1 hia;have pb := zN1 hvb.1 hib;have hna := (hh.at (clA h a)).nm;have hnb := (hh.at (clA h b)).nm;refine gX zL Tryz.func48 rfl rfl rfl rfl rfl rfl rfl ?_;intros;refine zJ 100 ?_;refine zB ?_;by_cases c0 : n = 0
 ·refine zB (zE zL [1017] 200 rfl ?_);refine zF ?_;refine yQ _ _ (cN h n c0) rfl ?_;refine zF ?_;refine zC (zA (zJ 300 ?_));refine zX (fun c2 => ?_) (fun c2 => ?_)
  ·
   refine zJ 400 ?_;refine zK (zN ?_);rw [uW1 c0,leJ_0 c0];exact u11 1 rfl rfl (u0 _) ⟨⟨rfl,u0 _,rfl,u0 _,rfl,trivial⟩,trivial⟩
  ·
   exact absurd c2 de
 ·refine zB (zE zL [1017] 200 rfl ?_);refine zF ?_;refine yQ _ _ (cM h n c0 hn) rfl ?_;refine zF ?_;refine zC (zA (zJ 300 ?_));refine zX (fun c2 => ?_) (fun c2 => ?_)
  ·
   exact absurd c2 de
  ·
   refine zM (zA (zB ?_));refine zB (zE zL [] 500 rfl ?_);refine zF ?_;refine zO _ (zZ0 a) rfl ?_;refine zF ?_;refine yN _ (fun hg4 => zZ0 b) rfl ?_;refine zF ?_;refine zC (zA (zT rfl (fun c4 => ?_) (fun c4 => ?_)))
   ·have c4 : isN a = true /\ isN b = true := by
     have h9 := c4;rw [is_n,is_n] at h9;simpa using h9
    have qa := pa.resolve_right (fun x => x (Ag c4.1));have qb := pb.resolve_right (fun x => x (Ag c4.2));obtain ⟨⟨ga1,ga2⟩,ga3,ga4⟩ := tA0 qa;obtain ⟨⟨gb1,gb2⟩,gb3,gb4⟩ := tA0 qb;obtain ⟨ra1,ra2,_⟩ := rq_y qa.k;obtain ⟨rb1,rb2,_⟩ := rq_y qb.k;refine zB (zW zL [] [[],[0],[],[0,1,2],[0,1,2,3],[],(rgN 6),(rgN 7)] 600 yP kr rfl ?_);refine zF ?_;refine zO _ (qN0 a ga1 om ga3 om) rfl ?_;refine zF ?_;refine zO _ (qN0 b gb1 om gb3 om) rfl ?_;refine zF ?_;refine zO _ (RatOrder_ok a.nn b.nn (VL a.nl) (Qr.dV a) (VL b.nl) (Qr.dV b) (jS1 ga1 ga2) (vE1 qa) (jS1 gb1 gb2) (vE1 qb)) rfl ?_;refine zF ?_;refine zO _ ((qZ0 op (cmpQ (rqN a) (rqD a) (rqN b) (rqD b))).args ⟨u10 (by rw [cmpQ_I,ra1,ra2,rb1,rb2];rfl),u6 _,trivial⟩) rfl ?_;refine zf (zA (zK (zN ?_)));rw [uV1 c0 c4,leJ_n c0 c4];exact u11 1 rfl rfl (u0 _) ⟨⟨rfl,u0 _,rfl,u0 _,rfl,trivial⟩,trivial⟩
   ·have c4 : ¬ (isN a = true /\ isN b = true) := by
     have h9 := c4;rw [is_n,is_n] at h9;simpa using h9
    refine zM (zA (zB (zJ 700 ?_)));refine zT rfl (fun c6 => ?_) (fun c6 => ?_)
    ·have c6 : a.k = b.k /\ (a.k = 4 \/ a.k = 5) := by
      have h9 := c6;simp at h9;omega
     refine zB (zE zL [] 800 rfl ?_);refine zF ?_;refine zO _ (xB0 a.s b.s) rfl ?_;refine zF ?_;refine zO _ (qZ0 op (cmpB a.s b.s)) rfl ?_;refine zf (zA (zK (zN ?_)));rw [uT1 c0 c4 c6,leJ_t c0 c4 c6];exact u11 1 rfl rfl (u0 _) ⟨⟨rfl,u0 _,rfl,u0 _,rfl,trivial⟩,trivial⟩
    ·have c6 : ¬ (a.k = b.k /\ (a.k = 4 \/ a.k = 5)) := by
      intro h8;have h9 := c6;simp at h9;omega
     refine zM (zA ?_);refine zB (zW zL [] mK2 900 yP kr rfl ?_);refine zF ?_;refine zO _ (jT h a) rfl ?_;refine zF ?_;refine zO _ (jT h b) rfl ?_;refine zF ?_;refine zC (zA (zB (zJ 1000 ?_)));refine zX (fun c9 => ?_) (fun c9 => ?_)
     ·
      refine zJ 1100 ?_;refine zR (zB (zJ 1200 ?_));refine zX (fun c11 => ?_) (fun c11 => ?_)
      ·
       refine zM (zA (zX (fun c11x => ?_) (fun c11x => ?_)))
       ·
        refine zB (zJ 1400 ?_);have hil := (qL g a).2;have hil2 := (qL g b).2;refine zR ?_;refine yC (ι := Lj (eqS h 10000) G J (fitO op (cmpI (zU h a).items.length (zU h b).items.length)) (zpL (zU h a).items (zU h b).items) (n - 1)) [0,3,8,11,12,85] [3,712,713] 1450 (fun x => [(86,.v (.int .i64 x.k))]) (fun x => [(0,.box 128 [.sl md 10 h obD ob0,.v (.int .i64 (x.m : Nat))])]) (fun x => min (zU h a).items.length (zU h b).items.length - x.k) ⟨⟨0,n - 1,Ap _,Ak _,rfl⟩,rfl⟩ ?_;refine ⟨⟨yK,⟨⟨rfl,u0 _,rfl,u0 _,rfl,trivial⟩,yH⟩,rfl,rfl⟩,fun x => ?_⟩;have hxl := x.le;rw [kC] at hxl;refine zJ 1500 ?_;refine zB (zT rfl (fun c14 => ?_) (fun c14 => ?_))
        ·have c14 : x.k < (zU h a).items.length /\ x.k < (zU h b).items.length := by
          have h9 := c14;simp at h9;split at h9 <;> omega
         refine zM (zA (zB (zR (zJ 1600 ?_))));refine zB (zW zL [1100] mK9 1700 yP kr rfl ?_);refine zF ?_;refine yQ _ _ (tY hh g 10000 x.m _ _ (by have := x.hm;omega) (by have := x.hm;omega) (qA g hva.2 (by omega) (by first | exact qV (by omega) | (simp only [Ab];exact qV om) | (rw [yS om];exact Ar _))) (qA g hvb.2 (by omega) (by first | exact qV (by omega) | (simp only [Ab];exact qV om) | (rw [yS om];exact Ar _)))) rfl ?_;refine zF ?_;refine zC (zA (zB (zJ 1800 ?_)));refine zT rfl (fun c17 => ?_) (fun c17 => ?_)
         ·have c17 : (eqS h 10000 x.m ((zU h a).items.getD x.k vl0) ((zU h b).items.getD x.k vl0)) = none := by
           have h9 := c17;simp only [Ab,Am] at h9;exact (qS_k _).1 h9
          refine zJ 1900 ?_;refine zK (zN (zQ (zN (yL (zQ (zN (zQ (zN ?_))))))));rw [(yJ0 c0 c4 c6 om).trans (x.toLi.pan (wV (zU h a).items (zU h b).items om) c17),(dC0 c0 c4 c6 om).trans (x.panj (wV (zU h a).items (zU h b).items om) c17)];exact u11 1 rfl rfl (Sub.of_eq (by simp only [Ab,c17];rfl)) ⟨⟨rfl,u0 _,rfl,u21 (by simp only [Ab,c17];rfl),rfl,trivial⟩,trivial⟩
         ·have c17 : ¬ (eqS h 10000 x.m ((zU h a).items.getD x.k vl0) ((zU h b).items.getD x.k vl0)) = none := by
           have h9 := c17;simp only [Ab,Aw] at h9;exact fun e => h9 ((qS_k _).2 e)
          refine zM (zA (zJ 2000 ?_));refine zT rfl (fun c19 => ?_) (fun c19 => ?_)
          ·obtain ⟨m2,hr⟩ : ∃ m2,(eqS h 10000 x.m ((zU h a).items.getD x.k vl0) ((zU h b).items.getD x.k vl0)) = some (false,m2) := by
            have h9 := c19;exact (qT_n (by simpa using h9)).resolve_left c17
           have hm2 : m2 <= x.m := kS h 10000 _ _ _ _ hr;have hxm := x.hm;refine yZ [0,3,8,11,12,13] [0,3,712,713] 2010 [] [(0,.box 128 [.sl md 10 h obD ob0,.v (.int .i64 (m2 : Nat))])] ?_;refine ⟨⟨yK,⟨⟨rfl,u0 _,rfl,u21 (by simp only [Ab,hr];rfl),rfl,trivial⟩,yH⟩,rfl,rfl⟩,?_⟩;refine zB (zW zL [1121] mK17 2100 yP kr rfl ?_);refine zF ?_;refine yQ _ _ (H m2 (by omega) _ _ (qA g hva.2 (by omega) (by first | exact qV (by omega) | (simp only [Ab];exact qV om) | (rw [yS om];exact Ar _))) (qA g hvb.2 (by omega) (by first | exact qV (by omega) | (simp only [Ab];exact qV om) | (rw [yS om];exact Ar _))) (gT hh (by first | exact qV (by omega) | (simp only [Ab];exact qV om) | (rw [yS om];exact Ar _))) (gT hh (by first | exact qV (by omega) | (simp only [Ab];exact qV om) | (rw [yS om];exact Ar _)))) rfl ?_;refine zf (zA (zK (zQ (zN (yL (zQ (zN (zQ (zN ?_)))))))));rw [(yJ0 c0 c4 c6 om).trans (x.toLi.no (wV (zU h a).items (zU h b).items om) hr),(dC0 c0 c4 c6 om).trans (x.noj (wV (zU h a).items (zU h b).items om) hr)];exact u11 1 rfl rfl (u0 _) ⟨⟨rfl,u0 _,rfl,u0 _,rfl,trivial⟩,trivial⟩
          ·obtain ⟨m2,hr⟩ : ∃ m2,(eqS h 10000 x.m ((zU h a).items.getD x.k vl0) ((zU h b).items.getD x.k vl0)) = some (true,m2) := by
            have h9 := c19;exact qT_y (by simpa using h9)
           refine zM (zP (zA (yM zL [] 2200 ?_)));exact zS (x.nextj (kS h 10000) (wV (zU h a).items (zU h b).items om) hr) ⟨⟨u21 (by show (x.k : Int) + 1 = ((x.k + 1 : Nat) : Int);push_cast;rfl),yK⟩,⟨⟨rfl,u0 _,rfl,u21 (by simp only [Ab,hr];rfl),rfl,trivial⟩,yH⟩,rfl,rfl⟩ (by show min (zU h a).items.length (zU h b).items.length - (x.k + 1) < min (zU h a).items.length (zU h b).items.length - x.k;omega)
        ·have c14 : ¬ x.k < min (zU h a).items.length (zU h b).items.length := by
          have h9 := c14;simp at h9;split at h9 <;> omega
         refine yE (yA (yB (zZ (zA ?_))));refine zB (zE zL [] 2300 rfl ?_);refine zF ?_;refine zO _ (qZ0 op _) rfl ?_;refine zf (zA (zK (zQ (zN ?_))));rw [(yJ0 c0 c4 c6 om).trans (x.toLi.fin (by rw [kC];exact c14)),(dC0 c0 c4 c6 om).trans (x.finj (by rw [kC];exact c14))];exact u11 1 rfl rfl (Sub.of_eq (by rw [tS0];rfl)) ⟨⟨rfl,u0 _,rfl,u0 _,rfl,trivial⟩,trivial⟩
       ·
        simp_all
      ·
       refine yM zL [] 1300 ?_;refine zA (zX (fun c12 => ?_) (fun c12 => ?_))
       ·
        refine zB (zJ 1400 ?_);have hil := (qL g a).2;have hil2 := (qL g b).2;refine zR ?_;refine yC (ι := Lj (eqS h 10000) G J (fitO op (cmpI (zU h a).items.length (zU h b).items.length)) (zpL (zU h a).items (zU h b).items) (n - 1)) [0,3,8,11,12,85] [3,712,713] 1450 (fun x => [(86,.v (.int .i64 x.k))]) (fun x => [(0,.box 128 [.sl md 10 h obD ob0,.v (.int .i64 (x.m : Nat))])]) (fun x => min (zU h a).items.length (zU h b).items.length - x.k) ⟨⟨0,n - 1,Ap _,Ak _,rfl⟩,rfl⟩ ?_;refine ⟨⟨yK,⟨⟨rfl,u0 _,rfl,u0 _,rfl,trivial⟩,yH⟩,rfl,rfl⟩,fun x => ?_⟩;have hxl := x.le;rw [kC] at hxl;refine zJ 1500 ?_;refine zB (zT rfl (fun c14 => ?_) (fun c14 => ?_))
        ·have c14 : x.k < (zU h a).items.length /\ x.k < (zU h b).items.length := by
          have h9 := c14;simp at h9;split at h9 <;> omega
         refine zM (zA (zB (zR (zJ 1600 ?_))));refine zB (zW zL [1100] mK9 1700 yP kr rfl ?_);refine zF ?_;refine yQ _ _ (tY hh g 10000 x.m _ _ (by have := x.hm;omega) (by have := x.hm;omega) (qA g hva.2 (by omega) (by first | exact qV (by omega) | (simp only [Ab];exact qV om) | (rw [yS om];exact Ar _))) (qA g hvb.2 (by omega) (by first | exact qV (by omega) | (simp only [Ab];exact qV om) | (rw [yS om];exact Ar _)))) rfl ?_;refine zF ?_;refine zC (zA (zB (zJ 1800 ?_)));refine zT rfl (fun c17 => ?_) (fun c17 => ?_)
         ·have c17 : (eqS h 10000 x.m ((zU h a).items.getD x.k vl0) ((zU h b).items.getD x.k vl0)) = none := by
           have h9 := c17;simp only [Ab,Am] at h9;exact (qS_k _).1 h9
          refine zJ 1900 ?_;refine zK (zN (zQ (zN (yL (zQ (zN (zQ (zN ?_))))))));rw [(yJ0 c0 c4 c6 om).trans (x.toLi.pan (wV (zU h a).items (zU h b).items om) c17),(dC0 c0 c4 c6 om).trans (x.panj (wV (zU h a).items (zU h b).items om) c17)];exact u11 1 rfl rfl (Sub.of_eq (by simp only [Ab,c17];rfl)) ⟨⟨rfl,u0 _,rfl,u21 (by simp only [Ab,c17];rfl),rfl,trivial⟩,trivial⟩
         ·have c17 : ¬ (eqS h 10000 x.m ((zU h a).items.getD x.k vl0) ((zU h b).items.getD x.k vl0)) = none := by
           have h9 := c17;simp only [Ab,Aw] at h9;exact fun e => h9 ((qS_k _).2 e)
          refine zM (zA (zJ 2000 ?_));refine zT rfl (fun c19 => ?_) (fun c19 => ?_)
          ·obtain ⟨m2,hr⟩ : ∃ m2,(eqS h 10000 x.m ((zU h a).items.getD x.k vl0) ((zU h b).items.getD x.k vl0)) = some (false,m2) := by
            have h9 := c19;exact (qT_n (by simpa using h9)).resolve_left c17
           have hm2 : m2 <= x.m := kS h 10000 _ _ _ _ hr;have hxm := x.hm;refine yZ [0,3,8,11,12,13] [0,3,712,713] 2010 [] [(0,.box 128 [.sl md 10 h obD ob0,.v (.int .i64 (m2 : Nat))])] ?_;refine ⟨⟨yK,⟨⟨rfl,u0 _,rfl,u21 (by simp only [Ab,hr];rfl),rfl,trivial⟩,yH⟩,rfl,rfl⟩,?_⟩;refine zB (zW zL [1121] mK17 2100 yP kr rfl ?_);refine zF ?_;refine yQ _ _ (H m2 (by omega) _ _ (qA g hva.2 (by omega) (by first | exact qV (by omega) | (simp only [Ab];exact qV om) | (rw [yS om];exact Ar _))) (qA g hvb.2 (by omega) (by first | exact qV (by omega) | (simp only [Ab];exact qV om) | (rw [yS om];exact Ar _))) (gT hh (by first | exact qV (by omega) | (simp only [Ab];exact qV om) | (rw [yS om];exact Ar _))) (gT hh (by first | exact qV (by omega) | (simp only [Ab];exact qV om) | (rw [yS om];exact Ar _)))) rfl ?_;refine zf (zA (zK (zQ (zN (yL (zQ (zN (zQ (zN ?_)))))))));rw [(yJ0 c0 c4 c6 om).trans (x.toLi.no (wV (zU h a).items (zU h b).items om) hr),(dC0 c0 c4 c6 om).trans (x.noj (wV (zU h a).items (zU h b).items om) hr)];exact u11 1 rfl rfl (u0 _) ⟨⟨rfl,u0 _,rfl,u0 _,rfl,trivial⟩,trivial⟩
          ·obtain ⟨m2,hr⟩ : ∃ m2,(eqS h 10000 x.m ((zU h a).items.getD x.k vl0) ((zU h b).items.getD x.k vl0)) = some (true,m2) := by
            have h9 := c19;exact qT_y (by simpa using h9)
           refine zM (zP (zA (yM zL [] 2200 ?_)));exact zS (x.nextj (kS h 10000) (wV (zU h a).items (zU h b).items om) hr) ⟨⟨u21 (by show (x.k : Int) + 1 = ((x.k + 1 : Nat) : Int);push_cast;rfl),yK⟩,⟨⟨rfl,u0 _,rfl,u21 (by simp only [Ab,hr];rfl),rfl,trivial⟩,yH⟩,rfl,rfl⟩ (by show min (zU h a).items.length (zU h b).items.length - (x.k + 1) < min (zU h a).items.length (zU h b).items.length - x.k;omega)
        ·have c14 : ¬ x.k < min (zU h a).items.length (zU h b).items.length := by
          have h9 := c14;simp at h9;split at h9 <;> omega
         refine yE (yA (yB (zZ (zA ?_))));refine zB (zE zL [] 2300 rfl ?_);refine zF ?_;refine zO _ (qZ0 op _) rfl ?_;refine zf (zA (zK (zQ (zN ?_))));rw [(yJ0 c0 c4 c6 om).trans (x.toLi.fin (by rw [kC];exact c14)),(dC0 c0 c4 c6 om).trans (x.finj (by rw [kC];exact c14))];exact u11 1 rfl rfl (Sub.of_eq (by rw [tS0];rfl)) ⟨⟨rfl,u0 _,rfl,u0 _,rfl,trivial⟩,trivial⟩
       ·
        refine zJ 2400 ?_;refine zX (fun c23 => ?_) (fun c23 => ?_)
        ·
         refine zB (zE zL [] 2500 rfl ?_);refine zF ?_;refine wH _ (yP0 h ((n - 1 : Nat) : Int) (zU h a) (zU h b) hh (mJ g hva.2 (.inr om)) (mJ g hvb.2 (.inr om)) (qL g a).1) rfl rfl ?_;refine zf (zA (zK (zQ (zN ?_))));rw [uU1 c0 c4 c6 om,jG1 c0 c4 c6 om];exact u11 1 rfl rfl (Sub.ofP (u20 ⟨u7 (by rw [Co];simp [lT]),by repeat (first | exact trivial | exact u6 _ | exact u12 rfl | refine ⟨?_,?_⟩)⟩) rfl rfl) ⟨⟨rfl,u0 _,rfl,u0 _,rfl,trivial⟩,trivial⟩
        ·
         refine zM (zP (zA ?_));refine zB (zW zL [] mK18 2600 yP kr rfl ?_);repeat (first | refine zH ?_ | refine vE0 ?_)
         refine zO _ (xA h a g (tM g (gQ hva))) rfl ?_;repeat (first | refine zH ?_ | refine vE0 ?_)
         refine zO _ (xA h b g (tM g (gQ hvb))) rfl ?_;repeat (first | refine zH ?_ | refine vE0 ?_)
         refine zO _ (uQ0 _ _) rfl ?_;repeat (first | refine zH ?_ | refine vE0 ?_)
         refine zC (zA (zK ?_));rw [zQ1 c0 c4 c6 om om,jG1 c0 c4 c6 om];exact u11 1 rfl rfl (Sub.ofP (u20 ⟨u7 (rfl),by repeat (first | exact trivial | exact u6 _ | exact u12 rfl | refine ⟨?_,?_⟩)⟩) rfl rfl) ⟨⟨rfl,u0 _,rfl,u0 _,rfl,trivial⟩,trivial⟩
     ·
      refine zM (zA ?_);refine zB (zW zL [] mK18 2600 yP kr rfl ?_);repeat (first | refine zH ?_ | refine vE0 ?_)
      refine zO _ (xA h a g (tM g (gQ hva))) rfl ?_;repeat (first | refine zH ?_ | refine vE0 ?_)
      refine zO _ (xA h b g (tM g (gQ hvb))) rfl ?_;repeat (first | refine zH ?_ | refine vE0 ?_)
      refine zO _ (uQ0 _ _) rfl ?_;repeat (first | refine zH ?_ | refine vE0 ?_)
      refine zC (zA (zK ?_));rw [zQ1 c0 c4 c6 om om,jG1 c0 c4 c6 om];exact u11 1 rfl rfl (Sub.ofP (u20 ⟨u7 (rfl),by repeat (first | exact trivial | exact u6 _ | exact u12 rfl | refine ⟨?_,?_⟩)⟩) rfl rfl) ⟨⟨rfl,u0 _,rfl,u0 _,rfl,trivial⟩,trivial⟩
theorem tF0 {h : List Ob} (hh : HpIn h) (g : Uh h) (op : Int) : ∀ (f n : Nat) (a b : Vl),n <= f -> n <= 10000 -> Vd h a -> Vd h b -> VlIn a -> VlIn b -> FnG Tryz.prog 48 [.bp 0 0,.agg (vlD a),.agg (vlD b),.v (.bool (decide (op = 2)))] [jO md h (n : Nat)] (vdL (leS h op f n a b)) [jO md h (lfJ h f n a b)]
 | 0,n,a,b,h0,h1,ha,hb,ia,ib => by
  have e : n = 0 := by omega
  subst e;exact yY0 h op 0 a b (fun _ _ _ => .error (42,pQ)) (fun _ _ _ => -1) h1 hh g ha hb ia ib fun m hm => absurd hm om
 | f + 1,n,a,b,h0,h1,ha,hb,ia,ib => yY0 h op n a b (leS h op f) (lfJ h f) h1 hh g ha hb ia ib fun m hm x y hx hy jx jy => tF0 hh g op f m x y om om hx hy jx jy
theorem pV0 (h : List Ob) (op : Int) (a b : Vl) (hh : HpIn h) (g : Uh h) (hva : Vd h a) (hvb : Vd h b) (hia : VlIn a) (hib : VlIn b) : Fx 19 [hpD md h,.v (.int .i64 op),.agg (vlD a),.agg (vlD b)] (.agg (stD (lSt (leS h op 10000 10000 a b)))) := by
 refine yD zL Tryz.func19 rfl rfl rfl rfl rfl rfl ?_;intros;refine zJ 100 ?_;refine zB (zW zL [1010,1015] [[],[0],[],[],[],[4],(rgN 6),(rgN 7),(rgN 8)] 200 yP kr rfl ?_);refine zF ?_;refine yQ _ _ (bC h) rfl ?_;refine zF ?_;refine yQ _ _ (tF0 hh g op 10000 10000 a b (Ak _) (Ak _) hva hvb hia hib) rfl ?_;refine zF ?_;refine zO _ (vStepL_ok _) rfl ?_;refine zf (zA (zK ?_));exact u4 rfl (u6 _)
end Go.Proofs.YtinegkcbkefeiaaGreatDoor
