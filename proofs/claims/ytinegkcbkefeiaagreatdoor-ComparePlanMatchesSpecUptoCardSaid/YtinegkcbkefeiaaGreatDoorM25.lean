/- Part 25 of the proof. -/
import Derived.Test.YtinegkcbkefeiaaGreatDoorM23
import Derived.Test.YtinegkcbkefeiaaGreatDoorM24
namespace Go.Proofs.YtinegkcbkefeiaaGreatDoor
open Go.RowKit
variable {md me : Bool}
theorem uJ1 (b1 : Bool) (n1 : Nat) (b2 : Bool) (n2 : Nat) : ZI (plB b1 n1 b2 n2).1 (plB b1 n1 b2 n2).2 = ZI b1 n1 + ZI b2 n2 := by
 unfold plB;by_cases h : b1 = b2
 ·subst h;rw [Ac rfl]
  cases b1 <;> unfold ZI <;> simp <;> omega
 ·rw [Aa h];by_cases h2 : n2 <= n1
  ·rw [Ac h2]
   cases b1 <;> cases b2 <;> unfold ZI <;> simp at * <;> omega
  ·rw [Aa h2]
   cases b1 <;> cases b2 <;> unfold ZI <;> simp at * <;> omega
theorem plB_le (b1 : Bool) (n1 : Nat) (b2 : Bool) (n2 : Nat) : (plB b1 n1 b2 n2).2 <= n1 + n2 := by
 unfold plB;split
 ·exact Ak _
 ·split
  ·show n1 - n2 <= n1 + n2;omega
  ·show n2 - n1 <= n1 + n2;omega
theorem dig_addL {x y k : Nat} (hx : (dig x).length <= k) (hy : (dig y).length <= k) : (dig (x + y)).length <= k + 1 := by
 have h1 := Bk (tB x) (Bd de hx);have h2 := Bk (tB y) (Bd de hy);refine jJ ?_;rw [Bx];generalize 65536 ^ k = B at *;omega
theorem uH0 {x y k m : Nat} (hx : (dig x).length <= k) (hy : (dig y).length <= m) : (dig (x * y)).length <= k + m := by
 have h1 := Bk (tB x) (Bd de hx);have h2 := Bk (tB y) (Bd de hy);refine jJ ?_;rw [Ea];exact Nat.mul_lt_mul'' h1 h2
theorem gR0 {b1 b2 : Bool} {x y k : Nat} (hx : (dig x).length <= k) (hy : (dig y).length <= k) : (dig (plB b1 x b2 y).2).length <= k + 1 := Av (yV (plB_le _ _ _ _)) (dig_addL hx hy)
theorem bL {l : List Nat} (hg : Lg l) (h : l.length <= 40) : (dig (VL l)).length <= 80 := by
 refine jJ ?_;have h1 := Bk (L_lt hg) (Bd de h);rw [show (65536 : Nat) ^ 80 = (65536 ^ 2) ^ 40 from Nat.pow_mul 65536 2 40];exact h1
theorem dm_Td {s t : Bool} {x y : Nat} (h : (s != t) = true /\ 0 < ((dig (x % y)).length : Int)) : dmQ s t x y = x / y + 1 /\ dmR s t x y = y - x % y := by
 have h1 : s ≠ t := by simpa using h.1
 have h2 : 0 < x % y := by have := zM0 (n := x % y);rw [Ax h.2] at this;exact Ag this.symm
 exact ⟨by rw [dmQ,Ac ⟨h1,h2⟩],by rw [dmR,Ac ⟨h1,h2⟩]⟩
theorem dm_Fd {s t : Bool} {x y : Nat} (h : ((s != t) && decide (0 < ((dig (x % y)).length : Int))) = false) : dmQ s t x y = x / y /\ dmR s t x y = x % y := by
 have h1 : ¬ (s ≠ t /\ 0 < x % y) := by
  rintro ⟨h1,h2⟩;have h3 : (s != t) = true := by simpa using h1
  rw [h3,Bool.true_and,zM0,Aw] at h;exact h h2
 exact ⟨by rw [dmQ,Aa h1],by rw [dmR,Aa h1]⟩
theorem vO (b1 b2 : Bool) (n1 n2 : Nat) (h1 : (dig n1).length <= 1000000) (h2 : (dig n2).length <= 1000000) : Fx 170 [rD b1 n1,rD b2 n2] (rD ((b1 != b2) && decide (0 < n1 * n2)) (n1 * n2)) := by
 refine yD zL Tryz.func170 rfl rfl rfl rfl rfl rfl ?_;intro w0 s0 mx;refine zJ 100 ?_;refine zB (zE zL [] 200 rfl ?_);refine zF ?_;refine zO _ (Times3_ok _ _ ao ao) rfl ?_;refine zF ?_;refine zC (zA (zJ 300 ?_));refine zK ?_;exact u4 rfl (u20 ⟨u7 (by rw [zM0]),u6 _,trivial⟩)
theorem IntFloor_ok (b1 b2 : Bool) (n1 n2 : Nat) (h1 : (dig n1).length <= 1000000) (h2 : (dig n2).length <= 1000000) (h0 : 0 < n2) : Fx 130 [rD b1 n1,rD b2 n2] (.tup [rD (b1 != b2) (dmQ b1 b2 n1 n2),rD b2 (dmR b1 b2 n1 n2)]) := by
 have hq : (dig (n1 / n2)).length <= 1000000 := Av (yV (Nat.div_le_self _ _)) h1;refine yD zL Tryz.func130 rfl rfl rfl rfl rfl rfl ?_;intro w0 s0 mx;refine zJ 100 ?_;refine zB (zE zL [] 200 rfl ?_);refine zF ?_;refine zO _ (Divide3_ok n1 n2 h1 h2 h0) rfl ?_;refine zF ?_;refine zC (zA (zB (zJ 300 ?_)));refine zX (fun c2 => ?_) (fun c2 => ?_)
 ·
  refine zW zL [] [[],[],[0,1],[],[3],[],(rgN 6),(rgN 7),(rgN 8)] 400 yP kr rfl ?_;refine zF ?_;refine zO _ (zW0 1 om om) rfl ?_;refine zF ?_;refine zO _ (uR0 _ 1 om (by rw [yL0];decide)) rfl ?_;refine zF ?_;refine zO _ (xU _ _ (Cs (Ce _ h0)) om) rfl ?_;refine zf (zA ?_);refine zB (zW zL [] mK14 500 yP kr rfl ?_);refine zf (zA (zK ?_));obtain ⟨hqe,hre⟩ := dm_Td c2;exact u4 rfl (u9 (by rw [hqe,hre];rfl))
 ·
  refine zM (zA ?_);refine zB (zW zL [] mK14 500 yP kr rfl ?_);refine zf (zA (zK ?_));obtain ⟨hqe,hre⟩ := dm_Fd c2;exact u4 rfl (u9 (by rw [hqe,hre];rfl))
structure RgN where
 sa : Bool
 na : Nat
 sb : Bool
 nb : Nat
 sc : Bool
 nc : Nat
def RgN.g (x : RgN) : Bool × Nat := plB x.sb x.nb (!x.sa && decide (0 < x.na)) x.na
def RgN.q (x : RgN) : Bool × Nat := (x.g.1 != x.sc,dmQ x.g.1 x.sc x.g.2 x.nc)
def RgN.r (x : RgN) : Nat := dmR x.g.1 x.sc x.g.2 x.nc
def RgN.q2 (x : RgN) : Bool × Nat := if 0 < x.r then plB x.q.1 x.q.2 false 1 else x.q
def RgN.cnt (x : RgN) : Bool × Nat := if x.q2.1 = true then (false,0) else x.q2
def RgN.p (x : RgN) : Bool × Nat := plB x.cnt.1 x.cnt.2 true 1
def RgN.t (x : RgN) : Bool × Nat := ((x.sc != x.p.1) && decide (0 < x.nc * x.p.2),x.nc * x.p.2)
def RgN.last (x : RgN) : Bool × Nat := plB x.sa x.na x.t.1 x.t.2
def RgN.D (x : RgN) : D := .agg [.v (.bool x.sa),qX x.na,.v (.bool x.sc),qX x.nc,.v (.bool x.cnt.1),qX x.cnt.2,.v (.bool x.last.1),qX x.last.2]
def rgL (sa sb sc : Bool) (la lb lc : List Nat) : List D := [.v (.bool sa),usD la,.v (.bool sb),usD lb,.v (.bool sc),usD lc]
theorem RgN.sizes (x : RgN) {k : Nat} (ha : (dig x.na).length <= k) (hb : (dig x.nb).length <= k) (hc : (dig x.nc).length <= k) (h0 : 0 < x.nc) (h1 : 1 <= k) : (dig x.g.2).length <= k + 1 /\ (dig x.q.2).length <= k + 1 /\ (dig x.r).length <= k /\ (dig x.q2.2).length <= k + 2 /\ (dig x.cnt.2).length <= k + 2 /\ (dig x.p.2).length <= k + 3 /\ (dig x.t.2).length <= k + (k + 3) := by
 have g := gR0 (b1 := x.sb) (b2 := (!x.sa && decide (0 < x.na))) hb ha;have q : (dig x.q.2).length <= k + 1 := Av (yV (mY0 h0)) g;have r : (dig x.r).length <= k := Av (yV (cG0 h0)) hc;have q2 : (dig x.q2.2).length <= k + 2 := by
  unfold RgN.q2;split
  ·exact gR0 q (by rw [yL0];omega)
  ·omega
 have c : (dig x.cnt.2).length <= k + 2 := by
  unfold RgN.cnt;split
  ·rw [uG];exact Ap _
  ·exact q2
 have p : (dig x.p.2).length <= k + 3 := gR0 c (by rw [yL0];omega);exact ⟨g,q,r,q2,c,p,uH0 hc p⟩
theorem tZ (n : Nat) : (0 < ((dig n).length : Int)) ↔ 0 < n := by
 have := zM0 (n := n);rw [Co,Am,Am] at this;exact this
theorem RgN.q2_T {x : RgN} (h : 0 < x.r) : x.q2 = plB x.q.1 x.q.2 false 1 := Ac h
theorem RgN.q2_F {x : RgN} (h : ¬ 0 < x.r) : x.q2 = x.q := Aa h
theorem RgN.cnt_T {x : RgN} (h : x.q2.1 = true) : x.cnt = (false,0) := Ac h
theorem RgN.cnt_F {x : RgN} (h : ¬ x.q2.1 = true) : x.cnt = x.q2 := Aa h
theorem RangeOf_ok (sa sb sc : Bool) (la lb lc : List Nat) (hla : la.length <= 40) (hlb : lb.length <= 40) (hlc : lc.length <= 40) (ga : Lg la) (gb : Lg lb) (gc : Lg lc) (h0 : 0 < VL lc) : Fx 127 [.agg (rgL sa sb sc la lb lc)] (RgN.D (RgN.mk sa (VL la) sb (VL lb) sc (VL lc))) := by
 have da := bL ga hla;have db := bL gb hlb;have dc := bL gc hlc;obtain ⟨z1,z2,z3,z4,z5,z6,z7⟩ := RgN.sizes (RgN.mk sa (VL la) sb (VL lb) sc (VL lc)) (k := 80) da db dc h0 de;have hrp := tZ (RgN.r (RgN.mk sa (VL la) sb (VL lb) sc (VL lc)));refine yD zL Tryz.func127 rfl rfl rfl rfl rfl rfl ?_;intro w0 s0 mx;refine zJ 100 ?_;refine zB (zW zL [] [[],[0],[0,1],[],[3],(rgN 5),(rgN 6),[],(rgN 8)] 200 yP kr rfl ?_);refine zF ?_;refine zO _ (kX sa la ga om) rfl ?_;refine zF ?_;refine zO _ (kX sc lc gc om) rfl ?_;refine zf (zA ?_);refine zB (zW zL [] [[],[0],[0,1],[],[3],(rgN 5),(rgN 6),[],(rgN 8)] 300 yP kr rfl ?_);refine zF ?_;refine zO _ (kX sb lb gb om) rfl ?_;refine zF ?_;refine zO _ (IntMinus_ok sa (VL la)) rfl ?_;refine zF ?_;refine zO _ (uA sb _ (VL lb) (VL la) om om) rfl ?_;refine zf (zA ?_);refine zB (zE zL [] 400 rfl ?_);refine zF ?_;refine zO _ (IntFloor_ok _ sc _ (VL lc) (Av z1 de) om h0) rfl ?_;refine zF ?_;refine zC (zA (zB (zJ 500 ?_)));refine zX (fun c4 => ?_) (fun c4 => ?_)
 ·
  refine zW zL [] [[],[],[0,1],[0,1,2]] 600 yP kr rfl ?_;refine zF ?_;refine zO _ (wF 1 de de) rfl ?_;refine zF ?_;refine zO _ (uA _ false _ 1 (Av z2 de) (by rw [yL0];decide)) rfl ?_;refine zf (zA (zB ?_));refine yZ [2,3,5] [1,107,307] 610 [] [(307,.box 97 [.v (.bool (RgN.q2 (RgN.mk sa (VL la) sb (VL lb) sc (VL lc))).1),qX (RgN.q2 (RgN.mk sa (VL la) sb (VL lb) sc (VL lc))).2])] ?_;refine ⟨⟨yK,⟨⟨rfl,by first | exact Sub.of_eq (by rw [RgN.q2_T (hrp.1 c4)];rfl) | exact Sub.of_eq (by rw [RgN.q2_F (fun h => absurd (hrp.2 h) (by first | exact c4 | exact Int.not_lt.2 c4))];rfl),rfl,by first | exact Sub.of_eq (by rw [RgN.q2_T (hrp.1 c4)];rfl) | exact Sub.of_eq (by rw [RgN.q2_F (fun h => absurd (hrp.2 h) (by first | exact c4 | exact Int.not_lt.2 c4))];rfl),rfl,trivial⟩,yH⟩,rfl,rfl⟩,?_⟩;refine zJ 700 ?_;refine zX (fun c6 => ?_) (fun c6 => ?_)
  ·
   refine yM zL [] 800 ?_;refine zA ?_;refine yZ [2,3] [1,107] 810 [] [(107,.box 99 [.v (.bool sa),qX (VL la),.v (.bool sc),qX (VL lc),.v (.bool (RgN.cnt (RgN.mk sa (VL la) sb (VL lb) sc (VL lc))).1),qX (RgN.cnt (RgN.mk sa (VL la) sb (VL lb) sc (VL lc))).2,.v (.bool false),.v (.slice none 0 0)])] ?_;refine ⟨⟨yK,⟨⟨rfl,u0 _,rfl,u0 _,rfl,u0 _,rfl,u0 _,rfl,by first | (rw [RgN.cnt_T (by simpa using c6)];exact Sub.nil0) | (rw [RgN.cnt_T (by simpa using c6)];exact u0 _) | (rw [RgN.cnt_F (by simpa using c6)];exact u0 _),rfl,by first | (rw [RgN.cnt_T (by simpa using c6)];exact Sub.nil0) | (rw [RgN.cnt_T (by simpa using c6)];exact u0 _) | (rw [RgN.cnt_F (by simpa using c6)];exact u0 _),rfl,u0 _,rfl,u0 _,rfl,trivial⟩,yH⟩,rfl,rfl⟩,?_⟩;refine zB (zW zL [] mK4 900 yP kr rfl ?_);refine zF ?_;refine zO _ (wF (-1) de de) rfl ?_;refine zF ?_;refine zO _ (uA _ true _ 1 (Av z5 de) (by rw [yL0];decide)) rfl ?_;refine zF ?_;refine zO _ (vO sc _ (VL lc) _ om (Av z6 de)) rfl ?_;refine zF ?_;refine zO _ (uA sa _ (VL la) _ om (Av z7 de)) rfl ?_;refine zF ?_;refine zC (zA (zJ 1000 ?_));refine zK ?_;exact u4 rfl (u9 rfl)
  ·
   refine zM (zA ?_);refine yZ [2,3] [1,107] 710 [] [(107,.box 99 [.v (.bool sa),qX (VL la),.v (.bool sc),qX (VL lc),.v (.bool (RgN.cnt (RgN.mk sa (VL la) sb (VL lb) sc (VL lc))).1),qX (RgN.cnt (RgN.mk sa (VL la) sb (VL lb) sc (VL lc))).2,.v (.bool false),.v (.slice none 0 0)])] ?_;refine ⟨⟨yK,⟨⟨rfl,u0 _,rfl,u0 _,rfl,u0 _,rfl,u0 _,rfl,by first | (rw [RgN.cnt_T (by simpa using c6)];exact Sub.nil0) | (rw [RgN.cnt_T (by simpa using c6)];exact u0 _) | (rw [RgN.cnt_F (by simpa using c6)];exact u0 _),rfl,by first | (rw [RgN.cnt_T (by simpa using c6)];exact Sub.nil0) | (rw [RgN.cnt_T (by simpa using c6)];exact u0 _) | (rw [RgN.cnt_F (by simpa using c6)];exact u0 _),rfl,u0 _,rfl,u0 _,rfl,trivial⟩,yH⟩,rfl,rfl⟩,?_⟩;refine zB (zW zL [] mK4 900 yP kr rfl ?_);refine zF ?_;refine zO _ (wF (-1) de de) rfl ?_;refine zF ?_;refine zO _ (uA _ true _ 1 (Av z5 de) (by rw [yL0];decide)) rfl ?_;refine zF ?_;refine zO _ (vO sc _ (VL lc) _ om (Av z6 de)) rfl ?_;refine zF ?_;refine zO _ (uA sa _ (VL la) _ om (Av z7 de)) rfl ?_;refine zF ?_;refine zC (zA (zJ 1000 ?_));refine zK ?_;exact u4 rfl (u9 rfl)
 ·
  refine zM (zA (zB ?_));refine yZ [2,3,5] [1,107,307] 510 [] [(307,.box 97 [.v (.bool (RgN.q2 (RgN.mk sa (VL la) sb (VL lb) sc (VL lc))).1),qX (RgN.q2 (RgN.mk sa (VL la) sb (VL lb) sc (VL lc))).2])] ?_;refine ⟨⟨yK,⟨⟨rfl,by first | exact Sub.of_eq (by rw [RgN.q2_T (hrp.1 c4)];rfl) | exact Sub.of_eq (by rw [RgN.q2_F (fun h => absurd (hrp.2 h) (by first | exact c4 | exact Int.not_lt.2 c4))];rfl),rfl,by first | exact Sub.of_eq (by rw [RgN.q2_T (hrp.1 c4)];rfl) | exact Sub.of_eq (by rw [RgN.q2_F (fun h => absurd (hrp.2 h) (by first | exact c4 | exact Int.not_lt.2 c4))];rfl),rfl,trivial⟩,yH⟩,rfl,rfl⟩,?_⟩;refine zJ 700 ?_;refine zX (fun c6 => ?_) (fun c6 => ?_)
  ·
   refine yM zL [] 800 ?_;refine zA ?_;refine yZ [2,3] [1,107] 810 [] [(107,.box 99 [.v (.bool sa),qX (VL la),.v (.bool sc),qX (VL lc),.v (.bool (RgN.cnt (RgN.mk sa (VL la) sb (VL lb) sc (VL lc))).1),qX (RgN.cnt (RgN.mk sa (VL la) sb (VL lb) sc (VL lc))).2,.v (.bool false),.v (.slice none 0 0)])] ?_;refine ⟨⟨yK,⟨⟨rfl,u0 _,rfl,u0 _,rfl,u0 _,rfl,u0 _,rfl,by first | (rw [RgN.cnt_T (by simpa using c6)];exact Sub.nil0) | (rw [RgN.cnt_T (by simpa using c6)];exact u0 _) | (rw [RgN.cnt_F (by simpa using c6)];exact u0 _),rfl,by first | (rw [RgN.cnt_T (by simpa using c6)];exact Sub.nil0) | (rw [RgN.cnt_T (by simpa using c6)];exact u0 _) | (rw [RgN.cnt_F (by simpa using c6)];exact u0 _),rfl,u0 _,rfl,u0 _,rfl,trivial⟩,yH⟩,rfl,rfl⟩,?_⟩;refine zB (zW zL [] mK4 900 yP kr rfl ?_);refine zF ?_;refine zO _ (wF (-1) de de) rfl ?_;refine zF ?_;refine zO _ (uA _ true _ 1 (Av z5 de) (by rw [yL0];decide)) rfl ?_;refine zF ?_;refine zO _ (vO sc _ (VL lc) _ om (Av z6 de)) rfl ?_;refine zF ?_;refine zO _ (uA sa _ (VL la) _ om (Av z7 de)) rfl ?_;refine zF ?_;refine zC (zA (zJ 1000 ?_));refine zK ?_;exact u4 rfl (u9 rfl)
  ·
   refine zM (zA ?_);refine yZ [2,3] [1,107] 710 [] [(107,.box 99 [.v (.bool sa),qX (VL la),.v (.bool sc),qX (VL lc),.v (.bool (RgN.cnt (RgN.mk sa (VL la) sb (VL lb) sc (VL lc))).1),qX (RgN.cnt (RgN.mk sa (VL la) sb (VL lb) sc (VL lc))).2,.v (.bool false),.v (.slice none 0 0)])] ?_;refine ⟨⟨yK,⟨⟨rfl,u0 _,rfl,u0 _,rfl,u0 _,rfl,u0 _,rfl,by first | (rw [RgN.cnt_T (by simpa using c6)];exact Sub.nil0) | (rw [RgN.cnt_T (by simpa using c6)];exact u0 _) | (rw [RgN.cnt_F (by simpa using c6)];exact u0 _),rfl,by first | (rw [RgN.cnt_T (by simpa using c6)];exact Sub.nil0) | (rw [RgN.cnt_T (by simpa using c6)];exact u0 _) | (rw [RgN.cnt_F (by simpa using c6)];exact u0 _),rfl,u0 _,rfl,u0 _,rfl,trivial⟩,yH⟩,rfl,rfl⟩,?_⟩;refine zB (zW zL [] mK4 900 yP kr rfl ?_);refine zF ?_;refine zO _ (wF (-1) de de) rfl ?_;refine zF ?_;refine zO _ (uA _ true _ 1 (Av z5 de) (by rw [yL0];decide)) rfl ?_;refine zF ?_;refine zO _ (vO sc _ (VL lc) _ om (Av z6 de)) rfl ?_;refine zF ?_;refine zO _ (uA sa _ (VL la) _ om (Av z7 de)) rfl ?_;refine zF ?_;refine zC (zA (zJ 1000 ?_));refine zK ?_;exact u4 rfl (u9 rfl)
theorem pG0 {C q r K : Int} (hC : 0 < C) (h0 : 0 <= r) (h1 : r < C) (hK : K = if 0 < r then q + 1 else q) : C * (K - 1) < r + C * q /\ r + C * q <= C * K := by
 subst hK;split
 ·rw [Int.add_sub_cancel,Int.mul_add,Int.mul_one];omega
 ·rw [Int.mul_sub,Int.mul_one];omega
theorem ceil_div {C G K : Int} (hC : 0 < C) (h1 : C * (K - 1) < G) (h2 : G <= C * K) : Int.fdiv (G + (C - 1)) C = K := by
 rw [Int.mul_sub,Int.mul_one] at h1;exact bZ (r := G + (C - 1) - C * K) om (Or.inl ⟨hC,by omega,by omega⟩)
theorem ceil_le {C G K : Int} (hC : 0 < C) (h1 : C * (K - 1) < G) (h : G <= 0) : K <= 0 := by
 by_cases h2 : 0 < K
 ·have := Int.mul_nonneg (Int.le_of_lt hC) (show 0 <= K - 1 by omega);omega
 ·omega
theorem ceil_gt {C G K : Int} (hC : 0 < C) (h2 : G <= C * K) (h : 0 < G) : 0 < K := by
 by_cases h3 : 0 < K
 ·exact h3
 ·have := Int.mul_le_mul_of_nonneg_left (show K <= 0 by omega) (Int.le_of_lt hC);omega
theorem cL0 {b : Bool × Nat} {G C : Int} {K : Int} (hC : 0 < C) (h1 : C * (K - 1) < G) (h2 : G <= C * K) (hb : ZI b.1 b.2 = K) :
  (if b.1 = true then ((false,0) : Bool × Nat) else b) = (false,(if 0 < G then Int.fdiv (G + (C - 1)) C else 0).natAbs) /\ 0 <= (if 0 < G then Int.fdiv (G + (C - 1)) C else 0) := by
 rw [ceil_div hC h1 h2];obtain ⟨s,n⟩ := b
 cases s with
 | true =>
  rw [Ac rfl];have hb : -((n : Nat) : Int) = K := hb;by_cases h : 0 < G
  ·have := ceil_gt hC h2 h;omega
  ·rw [Aa h];exact ⟨rfl,by omega⟩
 | false =>
  rw [Aa Bool.false_ne_true];have hb : ((n : Nat) : Int) = K := hb;by_cases h : 0 < G
  ·rw [Ac h];exact ⟨by rw [<- hb];rfl,by omega⟩
  ·rw [Aa h];have := ceil_le hC h1 om;exact ⟨by rw [show n = 0 by omega];rfl,by omega⟩
theorem cnt_rlen (x : RgN) (h0 : 0 < x.nc) : x.cnt = (false,(qQ (ZI x.sa x.na) (ZI x.sb x.nb) (ZI x.sc x.nc)).natAbs) /\ 0 <= qQ (ZI x.sa x.na) (ZI x.sb x.nb) (ZI x.sc x.nc) := by
 obtain ⟨d1,d2⟩ := dm_Z (s := x.g.1) (t := x.sc) (x := x.g.2) h0;have hg : ZI x.g.1 x.g.2 = ZI x.sb x.nb - ZI x.sa x.na := by
  unfold RgN.g;rw [uJ1,ZI_neg];omega
 rw [hg] at d1 d2;have hfm := Int.mul_fdiv_add_fmod (ZI x.sb x.nb - ZI x.sa x.na) (ZI x.sc x.nc);have hq : ZI x.q2.1 x.q2.2 = if 0 < x.r then Int.fdiv (ZI x.sb x.nb - ZI x.sa x.na) (ZI x.sc x.nc) + 1 else Int.fdiv (ZI x.sb x.nb - ZI x.sa x.na) (ZI x.sc x.nc) := by
  unfold RgN.q2;split
  ·rw [uJ1];show ZI (x.g.1 != x.sc) _ + 1 = _;rw [<- d1];rfl
  ·exact d1
 have hr : x.r < x.nc := by
  show dmR x.g.1 x.sc x.g.2 x.nc < x.nc;have hm := Ce x.g.2 h0;unfold dmR;split <;> omega
 have hd2 : ZI x.sc x.r = Int.fmod (ZI x.sb x.nb - ZI x.sa x.na) (ZI x.sc x.nc) := d2;rw [<- hd2] at hfm;generalize Int.fdiv (ZI x.sb x.nb - ZI x.sa x.na) (ZI x.sc x.nc) = q at *;unfold RgN.cnt
 cases hs : x.sc with
 | false =>
  have e1 : ZI false x.nc = ((x.nc : Nat) : Int) := rfl;have e2 : ZI false x.r = ((x.r : Nat) : Int) := rfl;rw [hs,e1,e2] at hfm;have hl : qQ (ZI x.sa x.na) (ZI x.sb x.nb) (ZI false x.nc) = if ZI x.sa x.na < ZI x.sb x.nb then Int.fdiv (ZI x.sb x.nb - ZI x.sa x.na + ((x.nc : Int) - 1)) x.nc else 0 := by
   unfold qQ jF;rw [e1,Aa (show ¬ ((x.nc : Nat) : Int) < 0 by omega),Aa (show ¬ ((x.nc : Nat) : Int) < 0 by omega),Int.mul_one]
  rw [hl];obtain ⟨k1,k2⟩ := pG0 (C := x.nc) (q := q) (r := x.r) (K := ZI x.q2.1 x.q2.2) om om om (by rw [hq];split <;> split <;> omega)
  have h := cL0 (b := x.q2) (C := x.nc) (G := ZI x.sb x.nb - ZI x.sa x.na) om om om rfl;have e3 : (0 < ZI x.sb x.nb - ZI x.sa x.na) = (ZI x.sa x.na < ZI x.sb x.nb) := propext om;simp only [e3] at h;exact h
 | true =>
  have e1 : ZI true x.nc = -((x.nc : Nat) : Int) := rfl;have e2 : ZI true x.r = -((x.r : Nat) : Int) := rfl;rw [hs,e1,e2,Int.neg_mul] at hfm;have hl : qQ (ZI x.sa x.na) (ZI x.sb x.nb) (ZI true x.nc) = if ZI x.sb x.nb < ZI x.sa x.na then Int.fdiv (ZI x.sa x.na - ZI x.sb x.nb + ((x.nc : Int) - 1)) x.nc else 0 := by
   unfold qQ jF;rw [e1,Ac (show -((x.nc : Nat) : Int) < 0 by omega),Ac (show -((x.nc : Nat) : Int) < 0 by omega),show -((x.nc : Nat) : Int) * -1 = ((x.nc : Nat) : Int) by omega]
  rw [hl];obtain ⟨k1,k2⟩ := pG0 (C := x.nc) (q := q) (r := x.r) (K := ZI x.q2.1 x.q2.2) om om om (by rw [hq];split <;> split <;> omega)
  have h := cL0 (b := x.q2) (C := x.nc) (G := ZI x.sa x.na - ZI x.sb x.nb) om om om rfl;have e3 : (0 < ZI x.sa x.na - ZI x.sb x.nb) = (ZI x.sb x.nb < ZI x.sa x.na) := propext om;simp only [e3] at h;exact h
variable {md me : Bool}
structure RgO (o : Ob) : Prop where
 n : 2 < o.items.length
 il : o.items.length <= 2000000
 le : ∀ j < 3,(o.items.getD j vl0).nl.length <= 40
 lg : ∀ j < 3,Lg (o.items.getD j vl0).nl
 ok : ∀ j < 3,uQ (o.items.getD j vl0).nn (o.items.getD j vl0).nl = true
 c0 : 0 < VL (o.items.getD 2 vl0).nl
def rgO (o : Ob) : RgN := ⟨(o.items.getD 0 vl0).nn,VL (o.items.getD 0 vl0).nl,(o.items.getD 1 vl0).nn,VL (o.items.getD 1 vl0).nl,(o.items.getD 2 vl0).nn,VL (o.items.getD 2 vl0).nl⟩
def rlO (o : Ob) : Int := qQ (ZI (rgO o).sa (rgO o).na) (ZI (rgO o).sb (rgO o).nb) (ZI (rgO o).sc (rgO o).nc)
theorem rgL_D {sa sb sc : Bool} {la lb lc : List Nat} (ga : Lg la) (gb : Lg lb) (gc : Lg lc) (ha : uQ sa la = true) (hb : uQ sb lb = true) (hc : uQ sc lc = true) : rgL sa sb sc la lb lc = rgD (ZI sa (VL la)) (ZI sb (VL lb)) (ZI sc (VL lc)) := by
 obtain ⟨a1,a2,_⟩ := pW ga ha;obtain ⟨b1,b2,_⟩ := pW gb hb;obtain ⟨c1,c2,_⟩ := pW gc hc;unfold rgL rgD;rw [ZI_abs,ZI_abs,ZI_abs,<- a1,<- b1,<- c1,<- a2,<- b2,<- c2]
theorem RgO.dat {o : Ob} (h : RgO o) : rgL (o.items.getD 0 vl0).nn (o.items.getD 1 vl0).nn (o.items.getD 2 vl0).nn (o.items.getD 0 vl0).nl (o.items.getD 1 vl0).nl (o.items.getD 2 vl0).nl = rgD (ZI (rgO o).sa (rgO o).na) (ZI (rgO o).sb (rgO o).nb) (ZI (rgO o).sc (rgO o).nc) :=
 rgL_D (h.lg 0 de) (h.lg 1 de) (h.lg 2 de) (h.ok 0 de) (h.ok 1 de) (h.ok 2 de)
theorem RgO.siz {o : Ob} (h : RgO o) : (lim (ZI (rgO o).sa (rgO o).na).natAbs).length <= 40 /\ (lim (ZI (rgO o).sb (rgO o).nb).natAbs).length <= 40 /\ (lim (ZI (rgO o).sc (rgO o).nc).natAbs).length <= 40 /\ ZI (rgO o).sc (rgO o).nc ≠ 0 := by
 rw [ZI_abs,ZI_abs,ZI_abs];refine ⟨?_,?_,?_,fun e => ?_⟩
 ·show (lim (VL (o.items.getD 0 vl0).nl)).length <= 40;rw [<- (pW (h.lg 0 de) (h.ok 0 de)).1];exact h.le 0 de
 ·show (lim (VL (o.items.getD 1 vl0).nl)).length <= 40;rw [<- (pW (h.lg 1 de) (h.ok 1 de)).1];exact h.le 1 de
 ·show (lim (VL (o.items.getD 2 vl0).nl)).length <= 40;rw [<- (pW (h.lg 2 de) (h.ok 2 de)).1];exact h.le 2 de
 ·have h1 := ZI_abs (rgO o).sc (rgO o).nc;rw [e] at h1;have h2 := h.c0;have h3 : (rgO o).nc = VL (o.items.getD 2 vl0).nl := rfl;rw [<- h3,<- h1] at h2;exact absurd h2 de
theorem bB0 {P : Program} {E : Pn} {K : DS -> Prop} {p : Prop} {r : Out} (hr : r.sat P E K) (hp : p := by first | exact trivial | (refine ⟨by decide,?_⟩;have := ho.n;show _ < o.items.length;omega) | (refine ⟨by decide,?_⟩;have := ho.n;simp only [Bb];show _ < o.items.length;omega)) : (Out.need p r).sat P E K := ⟨hp,hr⟩
theorem dE (o : Ob) (ho : RgO o) : Fx 66 [.agg (obD o)] (.agg (rgL (o.items.getD 0 vl0).nn (o.items.getD 1 vl0).nn (o.items.getD 2 vl0).nn (o.items.getD 0 vl0).nl (o.items.getD 1 vl0).nl (o.items.getD 2 vl0).nl)) := by
 refine yD zL Tryz.func66 rfl rfl rfl rfl rfl rfl ?_;intro w0 s0 mx;refine zB (zE zL [] 100 rfl ?_);repeat (first | refine zH ?_ | refine bB0 ?_)
 refine zC (zA ?_);refine zB (zW zL [] [[],[0],[0,1],[0,1,2],[0,1,2,3],[],[5],[5,6],[5,6,7],[5,6,7,8],[],[10],[10,11],[10,11,12],[10,11,12,13],(rgN 15),(rgN 16)] 200 yP kr rfl ?_);repeat (first | refine zH ?_ | refine bB0 ?_)
 refine zC (zA (zK ?_));exact u4 rfl (u6 _)
theorem bA0 (o : Ob) (ho : RgO o) : Fx 71 [.agg (obD o)] (RgN.D (rgO o)) := by
 refine yD zL Tryz.func71 rfl rfl rfl rfl rfl rfl ?_;intro w0 s0 mx;refine zB (zE zL [] 100 rfl ?_);repeat (first | refine zH ?_ | refine bB0 ?_)
 refine zC (zA ?_);refine zB (zW zL [] [[],[0],[0,1],[0,1,2],[0,1,2,3],[],[5],[5,6],[5,6,7],[5,6,7,8],[],[10],[10,11],[10,11,12],[10,11,12,13],(rgN 15),(rgN 16),(rgN 17)] 200 yP kr rfl ?_);repeat (first | refine zH ?_ | refine bB0 ?_)
 refine zO _ (RangeOf_ok _ _ _ (o.items.getD 0 vl0).nl (o.items.getD 1 vl0).nl (o.items.getD 2 vl0).nl (ho.le 0 de) (ho.le 1 de) (ho.le 2 de) (ho.lg 0 de) (ho.lg 1 de) (ho.lg 2 de) ho.c0) rfl ?_;repeat (first | refine zH ?_ | refine bB0 ?_)
 refine zC (zA (zK ?_));exact u4 rfl (u6 _)
theorem refZero_ok (b : Bool) (n : Nat) : Fx 166 [rD b n] (.v (.bool (decide (n = 0)))) := by
 refine yD zL Tryz.func166 rfl rfl rfl rfl rfl rfl ?_;intro w0 s0 mx;refine zJ 100 ?_;refine zJ 200 ?_;refine zK ?_;exact u4 rfl (u7 (by rw [Co,Am,Am];have := tZ n;omega))
variable {md me : Bool}
theorem lim_zI (a : Int) : ((lim a.natAbs).length : Int) = 0 ↔ a = 0 := by
 constructor
 ·intro h;have : lim a.natAbs = [] := Bl om;rw [lim_nil] at this;omega
 ·rintro rfl;rw [show (0 : Int).natAbs = 0 from rfl,qK];rfl
theorem fd_ceil {x s : Int} (hx : 0 < x) (hs : 0 < s) : 0 < Int.fdiv (x + (s - 1)) s /\ Int.fdiv (x + (s - 1)) s <= x /\ s * (Int.fdiv (x + (s - 1)) s - 1) < x := by
 rw [Int.fdiv_eq_ediv_of_nonneg _ om];have h1 := Int.mul_ediv_add_emod (x + (s - 1)) s;have h2 := Int.emod_nonneg (x + (s - 1)) (show s ≠ 0 by omega);have h3 := Int.emod_lt_of_pos (x + (s - 1)) hs;generalize (x + (s - 1)) / s = q at *;have h4 : s * (q - 1) = s * q - s := by rw [Int.mul_sub,Int.mul_one]
 have h5 : 0 < q := by
  rcases Int.lt_or_le 0 q with h | h
  ·exact h
  ·have := Int.mul_le_mul_of_nonneg_left h (show 0 <= s by omega);omega
 refine ⟨h5,?_,by omega⟩;have h6 : (q - 1) * 1 <= (q - 1) * s := Int.mul_le_mul_of_nonneg_left om om;rw [Int.mul_comm (q - 1) s] at h6;omega
theorem sg_pos {c : Int} (h : c ≠ 0) : 0 < c * jF c /\ (c * jF c = c \/ c * jF c = -c) := by unfold jF;split <;> omega
theorem bL0 (a b : Int) {c : Int} (h0 : c ≠ 0) : 0 <= qQ a b c /\ (qQ a b c).natAbs <= (b - a).natAbs /\ (qQ a b c ≠ 0 -> (c * (qQ a b c - 1)).natAbs <= (b - a).natAbs) := by
 obtain ⟨s1,s2⟩ := sg_pos h0;unfold qQ;have key : ∀ x : Int,0 < x -> x <= (b - a).natAbs -> 0 <= Int.fdiv (x + (c * jF c - 1)) (c * jF c) /\ (Int.fdiv (x + (c * jF c - 1)) (c * jF c)).natAbs <= (b - a).natAbs /\ (Int.fdiv (x + (c * jF c - 1)) (c * jF c) ≠ 0 -> (c * (Int.fdiv (x + (c * jF c - 1)) (c * jF c) - 1)).natAbs <= (b - a).natAbs) := by
  intro x hx hle;obtain ⟨h1,h2,h3⟩ := fd_ceil hx s1;generalize Int.fdiv (x + (c * jF c - 1)) (c * jF c) = q at *;refine ⟨by omega,by omega,fun _ => ?_⟩;have h4 : 0 <= c * jF c * (q - 1) := Int.mul_nonneg om om;have h5 : c * (q - 1) = c * jF c * (q - 1) \/ c * (q - 1) = -(c * jF c * (q - 1)) := by
   rcases s2 with e | e
   ·rw [e];exact .inl rfl
   ·rw [e,Int.neg_mul,Int.neg_neg];exact .inr rfl
  omega
 split
 ·split
  ·exact key (a - b) om om
  ·exact ⟨Int.le_refl _,by simp,fun h => absurd rfl h⟩
 ·split
  ·exact key (b - a) om om
  ·exact ⟨Int.le_refl _,by simp,fun h => absurd rfl h⟩
theorem bJ0 {a b c : Int} (ha : (lim a.natAbs).length <= 40) (hb : (lim b.natAbs).length <= 40) (h0 : c ≠ 0) : (lim (qQ a b c).natAbs).length <= 41 :=
 Av (jI (bL0 a b h0).2.1) (qP hb ha)
theorem bK0 {a b c : Int} (ha : (lim a.natAbs).length <= 40) (hb : (lim b.natAbs).length <= 40) (h0 : c ≠ 0) (hn : qQ a b c ≠ 0) : (lim (c * (qQ a b c - 1)).natAbs).length <= 41 /\ (lim (a + c * (qQ a b c - 1)).natAbs).length <= 42 := by
 have h1 : (lim (c * (qQ a b c - 1)).natAbs).length <= 41 := Av (jI ((bL0 a b h0).2.2 hn)) (qP hb ha);exact ⟨h1,pS om h1⟩
def rgQ (a b c x y z : Int) : Bool := decide (qQ a b c = qQ x y z) && (decide (qQ a b c = 0) || (decide (a - x = 0) && decide (a + c * (qQ a b c - 1) - (x + z * (qQ a b c - 1)) = 0)))
theorem cP (a : Int) : Fx 123 [.agg (zV a)] (.v (.bool (decide (a = 0)))) := by
 refine yD zL Tryz.func123 rfl rfl rfl rfl rfl rfl ?_;intro w0 s0 mx;refine zJ 100 ?_;refine zJ 200 ?_;refine zK ?_;exact u4 rfl (u7 (by rw [Co,Am,Am];exact lim_zI a))
theorem vM0 (a b c i : Int) (ha : (lim a.natAbs).length <= 128) (hc : (lim c.natAbs).length <= 128) (hi : (lim i.natAbs).length <= 128) (h1 : (lim (c * i).natAbs).length <= 128) (h2 : (lim (a + c * i).natAbs).length <= 128) : Fx 159 [.agg (rgD a b c),.agg (zV i)] (.agg (zV (a + c * i))) := by
 refine yD zL Tryz.func159 rfl rfl rfl rfl rfl rfl ?_;intro w0 s0 mx;refine zJ 100 ?_;refine zB (zW zL [] [[],[0],[],[2],[],[2,3,4],(rgN 6),(rgN 7)] 200 yP kr rfl ?_);refine zF ?_;refine zO _ (kP0 c i hc hi h1) rfl ?_;refine zF ?_;refine zO _ (jD0 a (c * i) ha h1 h2) rfl ?_;refine zf (zA (zK ?_));exact u4 rfl (u6 _)
theorem rgSame_ok (a b c x y z : Int) (ha : (lim a.natAbs).length <= 40) (hb : (lim b.natAbs).length <= 40) (hc : (lim c.natAbs).length <= 40) (h0 : c ≠ 0) (hx : (lim x.natAbs).length <= 40) (hy : (lim y.natAbs).length <= 40) (hz : (lim z.natAbs).length <= 40) (h0z : z ≠ 0) : Fx 94 [.agg (rgD a b c),.agg (rgD x y z)] (.tup [.v (.bool (rgQ a b c x y z)),faD 0 0]) := by
 have hn := bJ0 ha hb h0;have hm := bJ0 hx hy h0z;have hl1 : (lim (1 : Int).natAbs).length = 1 := kJ;refine yD zL Tryz.func94 rfl rfl rfl rfl rfl rfl ?_;intro w0 s0 mx;refine zJ 100 ?_;refine zB ?_;refine zB (zE zL [] 200 rfl ?_);refine zF ?_;refine zO _ ((rgCheck_ok [(a,b,c),(x,y,z)] (fun k hk => by rcases k with _ | _ | k;exact ⟨ha,hb,hc,h0⟩;exact ⟨hx,hy,hz,h0z⟩;exact absurd hk (by simp)) (by show 2 <= 100;omega)).args ⟨u18 rfl,trivial⟩) rfl ?_;refine zF ?_;refine zC (zA (zJ 300 ?_));refine zX (fun c2 => ?_) (fun c2 => ?_)
 ·
  exact absurd c2 de
 ·
  refine zM (zA ?_);refine zB (zW zL [] [[],[0],[],[0,1,2],[],[],(rgN 6),(rgN 7)] 500 yP kr rfl ?_);refine zF ?_;refine zO _ (bV a b c ha hb hc h0) rfl ?_;refine zF ?_;refine zO _ (bV x y z hx hy hz h0z) rfl ?_;refine zf (zA (zB ?_));refine zB (zE zL [] 600 rfl ?_);refine zF ?_;refine zO _ (pJ (qQ a b c) (qQ x y z) om om) rfl ?_;refine zF ?_;refine yN _ (fun hg6 => pJ (qQ x y z) (qQ a b c) om om) rfl ?_;refine zF ?_;refine zC (zA (zT rfl (fun c5 => ?_) (fun c5 => ?_)))
  ·have c5 : qQ a b c < qQ x y z \/ qQ x y z < qQ a b c := by simpa using c5
   refine zJ 700 ?_;refine zK (zN ?_);exact u4 rfl (u19 ⟨u7 (by rw [rgQ,By om];rfl),u6 _,trivial⟩)
  ·have c5 : ¬ (qQ a b c < qQ x y z \/ qQ x y z < qQ a b c) := by simpa using c5
   have hN : qQ a b c = qQ x y z := by omega
   refine zM (zA (zB ?_));refine zB (zE zL [] 800 rfl ?_);refine zF ?_;refine zO _ (cP (qQ a b c)) rfl ?_;refine zF ?_;refine zC (zA (zT rfl (fun c7 => ?_) (fun c7 => ?_)))
   ·have c7 : qQ a b c = 0 := by simpa using c7
    refine zJ 900 ?_;refine zK (zN ?_);exact u4 rfl (u19 ⟨u7 (by rw [rgQ,Ax hN,Ax c7];rfl),u6 _,trivial⟩)
   ·have c7 : ¬ qQ a b c = 0 := by simpa using c7
    have hN1 : (lim (qQ a b c - 1).natAbs).length <= 42 := by have := qP (k := 41) (a := qQ a b c) (b := 1) (by omega) (by omega);omega
    obtain ⟨p1,p2⟩ := bK0 ha hb h0 c7;obtain ⟨q1,q2⟩ := bK0 hx hy h0z om;rw [<- hN] at q1 q2;refine zM (zA ?_);refine zB (zW zL [] [[],[],[0,1],[],[0,1,2,3]] 1000 yP kr rfl ?_);refine zF ?_;refine zO _ (pX 1 de de) rfl ?_;refine zF ?_;refine zO _ (xZ (qQ a b c) 1 om om om) rfl ?_;refine zf (zA ?_);refine zB (zW zL [] [[],[0],[],[2],[0,1,2,3],(rgN 5),(rgN 6),(rgN 7),(rgN 7),(rgN 9),(rgN 7),(rgN 7),(rgN 12),(rgN 13),(rgN 14),(rgN 15),[],(rgN 16),(rgN 18)] 1100 yP kr rfl ?_);refine zF ?_;refine zO _ (xZ a x om om (by have := qP ha hx;omega)) rfl ?_;refine zF ?_;refine zO _ (cP (a - x)) rfl ?_;refine zF ?_;refine yN _ (fun hg9 => vM0 a b c (qQ a b c - 1) om om om om om) rfl ?_;refine zF ?_;refine yN _ (fun hg12 => vM0 x y z (qQ a b c - 1) om om om om om) rfl ?_;refine zF ?_;refine yN _ (fun hg13 => xZ (a + c * (qQ a b c - 1)) (x + z * (qQ a b c - 1)) om om (by have := qP p2 q2;omega)) rfl ?_;refine zF ?_;refine yN _ (fun hg14 => cP (a + c * (qQ a b c - 1) - (x + z * (qQ a b c - 1)))) rfl ?_;refine zf (zA (zK ?_));exact u4 rfl (u19 ⟨u7 (by rw [rgQ,Ax hN,By c7];rfl),u6 _,trivial⟩)
section
variable {P : Program} {b : Ba}
end
def pnV (V : Value) : Pn := fun ch => ch = [{ v := V,recovered := false }]
section
variable {P : Program} {E : Pn} {K : DS -> Prop}
theorem uH (out : D) (own' : List DOwn) {E' : Pn} {f : FuncId} {args : List D} {n : Nat} {own : List DOwn} {r : D -> List DOwn -> Out} (hF : FnP P E' f args own out own') (hE : ∀ ch,E' ch -> E ch) (hc : chkG n out own' = true) (h : (r out own').sat P E K) : (Out.callG f args n own r).sat P E K :=
 ⟨out,own',⟨hF.bod,fun w s g vs h1 h2 => (hF.run w s g vs h1 h2).mono fun _ _ h => h.imp id fun ⟨ch,s',e1,e2,e3⟩ => ⟨ch,s',e1,hE ch e2,e3⟩⟩,hc,h⟩
theorem xP0 {ch : List PanicEntry} {r : Out} (hE : E ch) (h : r.sat P E K) : (Out.pan ch r).sat P E K := ⟨hE,h⟩
end
def DeadS (S : DS) : Prop := ∃ k,yW k S.ow = some deadO
theorem DeadS.no {b : Ba} {w : World} {s : Sb} {g : Gh} {S : DS} {a : Act} (h : DeadS S) (hr : Rel b w s g S.ste a) : False := by
 obtain ⟨k,h⟩ := h;have h1 : fnd k S.ste.ow = some deadO.o := by show fnd k (ows S.ow) = _;rw [qM,h];rfl
 obtain ⟨N,vs,_,_,h2,_⟩ := (hr.ow k _ h1).1;rw [D.tvl,D.tvl] at h2
 cases vs with
 | nil => exact h2
 | cons v vs => exact h2.1
theorem uC (k : Nat) {P : Program} {b : Ba} {c : Code} {S : DS} {K : Exit -> DS -> Prop} (h : yW k S.ow = some deadO := by rfl) : Ev P b c S K := fun _ _ _ _ _ hr _ => (DeadS.no ⟨k,h⟩ hr).elim
def FnQ {α : Type} (P : Program) (f : FuncId) (args : List D) (own : DOwn) (res : Except Value α) (out : α -> D) (own' : α -> DOwn) (o0 : D) : Prop := match res with
 | .ok a => FnG P f args [own] (out a) [own' a]
 | .error V => FnP P (pnV V) f args [own] o0 [deadO]
theorem FnQ.yes {α : Type} {P : Program} {f : FuncId} {args : List D} {own : DOwn} {res : Except Value α} {out : α -> D} {own' : α -> DOwn} {o0 : D} (h : FnQ P f args own res out own' o0) {a : α} (e : res = .ok a) : FnG P f args [own] (out a) [own' a] := by subst e;exact h
theorem FnQ.no {α : Type} {P : Program} {f : FuncId} {args : List D} {own : DOwn} {res : Except Value α} {out : α -> D} {own' : α -> DOwn} {o0 : D} (h : FnQ P f args own res out own' o0) {V : Value} (e : res = .error V) : FnP P (pnV V) f args [own] o0 [deadO] := by subst e;exact h
def FinQ {α : Type} (T : List (Nat × TI)) (rs : List ResultVar) (res : Except Value α) (out : α -> D) (own' : α -> DOwn) (ex : Exit) (S : DS) : Prop :=
 (∃ ch,ex = .panic ch /\ ∃ V,res = .error V /\ ch = [{ v := V,recovered := false }]) \/ DeadS S \/ ∃ a,res = .ok a /\ FinH T rs 1 (out a) [own' a] ex S
theorem FinQ.of {α : Type} {T : List (Nat × TI)} {rs : List ResultVar} {res : Except Value α} {out : α -> D} {own' : α -> DOwn} {ex : Exit} {S : DS} (a : α) (hr : res = .ok a) (h : FinH T rs 1 (out a) [own' a] ex S) : FinQ T rs res out own' ex S := .inr (.inr ⟨a,hr,h⟩)
theorem FinQ.pan {α : Type} {T : List (Nat × TI)} {rs : List ResultVar} {res : Except Value α} {out : α -> D} {own' : α -> DOwn} {S : DS} {V : Value} (hr : res = .error V) : ∀ ch,pnV V ch -> FinQ T rs res out own' (.panic ch) S := fun ch h => .inl ⟨ch,rfl,V,hr,h⟩
section
variable {P : Program} {T : List (Nat × TI)} (hT : xI P T = true)
include hT
theorem kO {α : Type} {f : FuncId} {fn : Func} {c : Code} {n : Nat} {args : List D} {own : DOwn} {res : Except Value α} {own' : α -> DOwn} {rs : List ResultVar} {out : α -> D} {o0 : D} (hf : P.funcs[f]? = some fn) (hb : fn.body = some c) (hn : fn.ntmps = n) (hr : fn.results = rs.toArray) (hm : (fn.name == "runtime.NumGoroutine") = false) (hl : Nat.ble args.length n = true) (ha : chkA args [own] = true) (hg : ∀ a,chkG 1 (out a) [own' a] = true) (hg0 : chkG 1 o0 [deadO] = true)
  (h : ∀ (w0 : World) (s0 : Sb) (mx : (Nat -> Prop) × Gh × List Deferred),Ev P ⟨w0,s0,mx.1,n,mx.2.1,mx.2.2⟩ c ⟨argD 0 args,vA 0 [own],1⟩ (FinQ T rs res out own')) : FnQ P f args own res out own' o0 := by
 cases res with
 | ok a =>
  refine GFunE.toG (tQ0 (E := fun _ => False) hT hf hb hn hr hm hl ha (hg a) fun w0 s0 mx w s g a Q h1 h2 => h w0 s0 mx w s g a Q h1 fun ex w' s' g' a' S' h3 h4 => ?_);rcases h4 with ⟨ch,_,V,h4,_⟩ | h4 | ⟨b,h4,h5⟩
  ·cases h4
  ·exact (h4.no h3).elim
  ·cases h4;exact h2 ex w' s' g' a' S' h3 (.inr h5)
 | error V =>
  refine tQ0 (E := pnV V) hT hf hb hn hr hm hl ha hg0 fun w0 s0 mx w s g a Q h1 h2 => h w0 s0 mx w s g a Q h1 fun ex w' s' g' a' S' h3 h4 => ?_;rcases h4 with ⟨ch,h4,W,h5,h6⟩ | h4 | ⟨b,h4,h5⟩
  ·cases h5;exact h2 ex w' s' g' a' S' h3 (.inl ⟨ch,h4,h6⟩)
  ·exact (h4.no h3).elim
  ·cases h4
end
variable {md me : Bool}
def cqO (md : Bool) (h : List Ob) (n : Nat) : DOwn := .box 111 [.sl md 10 h obD ob0,.v (.int .i64 n)]
def cqD (md : Bool) (h : List Ob) (n : Nat) : D := .pt true [.sl md 10 h obD ob0,.v (.int .i64 n)]
def rsL (c : Int) (s : ByteArray) : List D := [.v (.int .i64 1),.v (.int .i64 0),.v (.bool false),.v (.slice none 0 0),.v (.bool false),.v (.slice none 0 0),.v (.string ByteArray.empty),.v (.int .i64 0),.v (.int .i64 c),.v (.string s),.v (.int .i64 0),.v (.bool false),.v (.slice none 0 0),.v (.bool false),.v (.slice none 0 0),.v (.string ByteArray.empty),.v (.int .i64 0),.v (.slice none 0 0)]
def mR (c : Int) (s : ByteArray) : Value := .iface 108 (.agg #[.int .i64 1,.int .i64 0,.bool false,.slice none 0 0,.bool false,.slice none 0 0,.string ByteArray.empty,.int .i64 0,.int .i64 c,.string s,.int .i64 0,.bool false,.slice none 0 0,.bool false,.slice none 0 0,.string ByteArray.empty,.int .i64 0,.slice none 0 0])
def pQ : ByteArray := ⟨#[99,111,109,112,97,114,105,115,111,110,32,116,97,107,101,115,32,116,111,111,32,108,111,110,103]⟩
abbrev QR := Option (Bool × Nat)
def qE : QR -> Except Value (Bool × Nat)
 | some r => .ok r
 | none => .error (mR 42 pQ)
def qB (r : Bool × Nat) : D := .v (.bool r.1)
def qO (md : Bool) (h : List Ob) (r : Bool × Nat) : DOwn := cqO md h r.2
def pairR (n : Nat) : Except Value Nat := if n = 0 then .error (mR 42 pQ) else .ok (n - 1)
theorem kT (c : Int) (s : ByteArray) : Fx 51 [.v (.int .i64 c),.v (.string s)] (.agg (rsL c s)) := by
 refine yD zL Tryz.func51 rfl rfl rfl rfl rfl rfl ?_;intro w0 s0 mx;refine zJ 100 ?_;refine zJ 200 ?_;refine zK ?_;exact u4 rfl (u6 _)
theorem dY (h : List Ob) (n : Nat) (hn : n <= 10000) : FnQ Tryz.prog 89 [.bp 0 0] (cqO md h n) (pairR n) (fun _ => .v (.tuple #[])) (fun m => cqO md h m) (.v (.tuple #[])) := by
 refine kO zL Tryz.func89 rfl rfl rfl rfl rfl rfl (fun _ => rfl) rfl ?_;intro w0 s0 mx;refine zB (zJ 100 ?_);refine zT rfl (fun c0 => ?_) (fun c0 => ?_)
 ·have c0 : n = 0 := by simpa using c0
  refine zE zL [] 200 rfl ?_;refine zF ?_;refine zO _ (kT _ _) rfl ?_;refine zF ?_;refine xP0 (FinQ.pan (Ac c0) _ rfl) ?_;refine zf (zA ?_);exact uC 103
 ·have c0 : ¬ n = 0 := by simpa using c0
  refine zM (zA (yM zL [] 300 ?_));exact FinQ.of (n - 1) (Aa c0) (FinH.normal 1 rfl rfl (u0 _) ⟨⟨rfl,u0 _,rfl,u21 om,rfl,trivial⟩,trivial⟩)
theorem IndexFuncQ_ok (h : List Ob) (n : Nat) (l : List Vl) (k : Vl) (H : ∀ x ∈ l,Fx 204 [.agg (vlD x),.pt true [cqD md h n],vpD k] (.v (.bool (smK h 1001 x k)))) : Fx 115 [.sl me 7 l vlD vl0,.clo 204 [.pt true [cqD md h n],vpD k]] (.v (.int .i64 (plI h l k))) := by
 refine yD zL Tryz.func115 rfl rfl rfl rfl rfl rfl ?_;intro w0 s0 mx;refine gY 0 rfl fun hl0 => ?_;refine zJ 100 ?_;refine zB (zJ 200 ?_);refine zR ?_;refine yC (ι := Al l (fun x => !smK h 1001 x k)) [0,1,7] [] 250 (fun x => [(8,.v (.int .i64 x.k))]) (fun _ => []) (fun x => l.length - x.k) ⟨0,Ap _,fun j x hj => by omega⟩ ?_;refine ⟨⟨yK,yH,rfl,rfl⟩,fun x => ?_⟩;have hk := x.le;refine zJ 300 ?_;refine zB (zT rfl (fun c2 => ?_) (fun c2 => ?_))
 ·have c2 : x.k < l.length := by simpa using c2
  refine zM (zA (zB (zR (zJ 400 ?_))));refine zB (zE zL [] 500 rfl ?_);refine zF ?_;refine zO _ (H _ (by rw [yS c2];exact Ar _)) rfl ?_;refine zF ?_;refine zC (zA (zX (fun c4 => ?_) (fun c4 => ?_)))
  ·
   refine zJ 600 ?_;refine zK (zQ (zN (yL (zQ (zN ?_)))));exact u4 rfl (u10 (bS0 x.all (qD0 c2 vl0) c4).symm)
  ·
   refine zM (zP (zA (yM zL [] 700 ?_)));exact zS (x.next (e := vl0) c2 (by rw [c4];rfl)) ⟨yK,yH,rfl,rfl⟩ (by show l.length - (x.k + 1) < l.length - x.k;omega)
 ·have c2 : ¬ x.k < l.length := by simpa using c2
  refine yE (yA (yB (zZ (zA (zJ 800 ?_)))));refine zK ?_;exact u4 rfl (u10 (jF0 (fun y hy => by
    have := Bf.1 (x.yes c2) y hy;simpa using this)).symm)
theorem placeQC_ok (h : List Ob) (n : Nat) (w k : Vl) (hh : HpIn h) (g : Uh h) (hk : xM h k = true) (hv : Vd h k) (hw : Vd h w) : Fx 204 [.agg (vlD w),.pt true [cqD md h n],vpD k] (.v (.bool (smK h 1001 w k))) := by
 refine yD zL Tryz.func204 rfl rfl rfl rfl rfl rfl ?_;intro w0 s0 mx;refine zJ 100 ?_;refine zB (zW zL [] [[],[0],[0,1],[0,1,2],[],[],(rgN 6),(rgN 7)] 200 yP kr rfl ?_);refine zF ?_;refine zO _ ((heapKey_ok hh g hk hv hw).out (u7 (qY0 h 1001 k w))) rfl ?_;refine zf (zA (zK ?_));exact u4 rfl (u6 _)
theorem vO0 (h : List Ob) (n : Nat) (l : List Vl) (k : Vl) (hh : HpIn h) (g : Uh h) (hk : xM h k = true) (hv : Vd h k) (hl : ∀ x ∈ l,Vd h x) : Fx 155 [cqD md h n,.sl me 7 l vlD vl0,.agg (vlD k)] (.v (.int .i64 (plI h l k))) := by
 refine yD zL Tryz.func155 rfl rfl rfl rfl rfl rfl ?_;intro w0 s0 mx;refine zJ 100 ?_;refine zB (zE zL [] 200 rfl ?_);refine zF ?_;refine wH _ (IndexFuncQ_ok h n l k fun x hx => placeQC_ok h n x k hh g hk hv (hl x hx)) rfl rfl ?_;refine zf (zA (zK ?_));exact u4 rfl (u6 _)
def wiB (h : List Ob) (a b : List Vl) : Bool := a.all fun k => decide (0 <= plI h b k)
def fiI (p : Vl -> Bool) : List Vl -> Int
 | [] => -1
 | x :: l => if p x then 0 else (if fiI p l < 0 then -1 else fiI p l + 1)
theorem tT0 {p : Vl -> Bool} : ∀ {l : List Vl},(∀ x ∈ l,p x = false) -> fiI p l = -1
 | [],_ => rfl
 | x :: l,h => by
  rw [fiI,Aa (by rw [h x Ct];simp),Ac];rw [tT0 fun y hy => h y (Bz _ hy)];decide
theorem uZ1 {p : Vl -> Bool} : ∀ {l : List Vl} {k : Nat} {y : Vl},(∀ j x,j < k -> l[j]? = some x -> p x = false) -> l[k]? = some y -> p y = true -> fiI p l = k
 | [],k,y,_,h,_ => by simp at h
 | x :: l,0,y,_,h,hp => by
  simp at h;subst h;rw [fiI,Ac hp];rfl
 | x :: l,k + 1,y,ha,h,hp => by
  have h0 := ha 0 x om rfl;have ih := uZ1 (l := l) (k := k) (y := y) (fun j z hj hz => ha (j + 1) z om (by simpa using hz)) (by simpa using h) hp;rw [fiI,Aa (by rw [h0];simp),ih,Aa om]
  push_cast;rfl
theorem yY1 (p : Vl -> Bool) : ∀ l : List Vl,decide (0 <= fiI p l) = l.any p
 | [] => rfl
 | x :: l => by
  have ih := yY1 p l;rw [fiI,List.any_cons]
  cases hp : p x with
  | true => rfl
  | false =>
   simp only [Az,if_false,Bool.false_or,<- ih];split
   ·rename_i h;rw [By om,By om]
   ·rename_i h;rw [Ax om,Ax om]
theorem withinC_ok (h : List Ob) (n : Nat) (y : Ob) (k : Vl) (hh : HpIn h) (g : Uh h) (hy : ∀ x ∈ y.keys,Vd h x) (hk : xM h k = true) (hv : Vd h k) : Fx 156 [.agg (vlD k),.pt true [cqD md h n],.pt true (obD y)] (.v (.bool (decide (plI h y.keys k < 0)))) := by
 refine yD zL Tryz.func156 rfl rfl rfl rfl rfl rfl ?_;intro w0 s0 mx;refine zJ 100 ?_;refine zB (zE zL [] 200 rfl ?_);refine zF ?_;refine zO _ (vO0 h n y.keys k hh g hk hv hy) rfl ?_;refine zf (zA (zK ?_));exact u4 rfl (u6 _)
theorem IndexFuncW_ok (h : List Ob) (n : Nat) (y : Ob) (p : Vl -> Bool) (l : List Vl) (H : ∀ x ∈ l,Fx 156 [.agg (vlD x),.pt true [cqD md h n],.pt true (obD y)] (.v (.bool (p x)))) : Fx 115 [.sl me 7 l vlD vl0,.clo 156 [.pt true [cqD md h n],.pt true (obD y)]] (.v (.int .i64 (fiI p l))) := by
 refine yD zL Tryz.func115 rfl rfl rfl rfl rfl rfl ?_;intro w0 s0 mx;refine gY 0 rfl fun hl0 => ?_;refine zJ 100 ?_;refine zB (zJ 200 ?_);refine zR ?_;refine yC (ι := Al l (fun x => !p x)) [0,1,7] [] 250 (fun x => [(8,.v (.int .i64 x.k))]) (fun _ => []) (fun x => l.length - x.k) ⟨0,Ap _,fun j x hj => by omega⟩ ?_;refine ⟨⟨yK,yH,rfl,rfl⟩,fun x => ?_⟩;have hk := x.le;refine zJ 300 ?_;refine zB (zT rfl (fun c2 => ?_) (fun c2 => ?_))
 ·have c2 : x.k < l.length := by simpa using c2
  refine zM (zA (zB (zR (zJ 400 ?_))));refine zB (zE zL [] 500 rfl ?_);refine zF ?_;refine zO _ (H _ (by rw [yS c2];exact Ar _)) rfl ?_;refine zF ?_;refine zC (zA (zT rfl (fun c4 => ?_) (fun c4 => ?_)))
  ·
   refine zJ 600 ?_;refine zK (zQ (zN (yL (zQ (zN ?_)))));exact u4 rfl (u10 (uZ1 (fun j z hj hz => by have := x.all j z hj hz;simpa using this) (qD0 c2 vl0) c4).symm)
  ·
   refine zM (zP (zA (yM zL [] 700 ?_)));exact zS (x.next (e := vl0) c2 (by rw [c4];rfl)) ⟨yK,yH,rfl,rfl⟩ (by show l.length - (x.k + 1) < l.length - x.k;omega)
 ·have c2 : ¬ x.k < l.length := by simpa using c2
  refine yE (yA (yB (zZ (zA (zJ 800 ?_)))));refine zK ?_;exact u4 rfl (u10 (tT0 (fun y hy => by
    have := Bf.1 (x.yes c2) y hy;simpa using this)).symm)
theorem ContainsFuncW_ok (h : List Ob) (n : Nat) (y : Ob) (p : Vl -> Bool) (l : List Vl) (H : ∀ x ∈ l,Fx 156 [.agg (vlD x),.pt true [cqD md h n],.pt true (obD y)] (.v (.bool (p x)))) : Fx 60 [.sl me 7 l vlD vl0,.clo 156 [.pt true [cqD md h n],.pt true (obD y)]] (.v (.bool (l.any p))) := by
 refine yD zL Tryz.func60 rfl rfl rfl rfl rfl rfl ?_;intro w0 s0 mx;refine zJ 100 ?_;refine zB (zE zL [] 200 rfl ?_);refine zF ?_;refine zO _ (IndexFuncW_ok h n y p l H) rfl ?_;refine zf (zA (zK ?_));exact u4 rfl (u7 (yY1 p l))
theorem yO0 (h : List Ob) (n : Nat) (x y : Ob) (hh : HpIn h) (g : Uh h) (hy : ∀ x ∈ y.keys,Vd h x) (hk : ∀ k ∈ x.keys,xM h k = true /\ Vd h k) : Fx 93 [cqD md h n,.agg (obD x),.agg (obD y)] (.v (.bool (wiB h x.keys y.keys))) := by
 refine yD zL Tryz.func93 rfl rfl rfl rfl rfl rfl ?_;intro w0 s0 mx;refine zJ 100 ?_;refine zB (zE zL [] 200 rfl ?_);refine zF ?_;refine wH _ (ContainsFuncW_ok h n y (fun k => decide (plI h y.keys k < 0)) x.keys fun k hx => withinC_ok h n y k hh g hy (hk k hx).1 (hk k hx).2) rfl rfl ?_;refine zf (zA (zK ?_));exact u4 rfl (u7 (by rw [wiB,List.all_eq_not_any_not];congr 2;funext k;rw [Co];simp))
variable {md me : Bool}
variable {md me : Bool}
theorem vok_int {v : Vl} (hv : qY v = true) (hk : v.k = 2) : uQ v.nn v.nl = true := by
 unfold qY at hv;rw [Aa om,Aa om,Ac hk,Ai,Ai,Ai] at hv;exact hv.1.1.1
theorem fix_5 {o : Ob} {v : Vl} (hk : o.kind = 5) : fixV o v = v := by
 unfold fixV;split
 ·rename_i h;simp [hk] at h
 ·rfl
theorem rg_of {h : List Ob} (hh : HpIn h) (g : Uh h) {n : Int} (hn : qG h n = true) (hk : (yJ h n).kind = 5) : RgO (yJ h n) := by
 have hin := yX hn;have hlt : n.toNat < h.length := by have := hin;unfold inH at this;omega
 have h49 : 49 <= n.toNat := by
  rcases Bs n.toNat 49 with h1 | h1
  ·have e := g.lo_at h1;have e2 : yJ h n = bgO n.toNat := e;rw [e2] at hk;exact absurd hk (by show ¬ (9 : Int) = 5;decide)
  ·exact h1
 have hu := g.hi_at h49 hlt;have e3 : yJ h (n.toNat : Nat) = yJ h n := rfl;rw [e3] at hu;have hO := hh.at n;have hV := qS0 hu.vals;have hS := (bE0 hu.shape).1;rw [cnt5 hk] at hS;have hl : (yJ h n).items.length = 3 := by omega
 have hr := hu.links;unfold jR at hr;rw [Ac hk] at hr;unfold rngS at hr;rw [Ai,Am,Bf] at hr;have hit : ∀ j < 3,(yJ h n).items.getD j vl0 ∈ (yJ h n).items := fun j hj => by
  rw [Ao,Ah om];exact Ar _
 have hrp : ∀ j < 3,((yJ h n).items.getD j vl0).k = 2 /\ ((yJ h n).items.getD j vl0).nl.length <= 40 := fun j hj => by
  have := hr.1 _ (hit j hj);unfold rngP at this;rw [Ai,Am,Am] at this;exact this
 have hok : ∀ j < 3,uQ ((yJ h n).items.getD j vl0).nn ((yJ h n).items.getD j vl0).nl = true := fun j hj => by
  have := hV.ok _ (List.mem_append_right _ (hit j hj));rw [fix_5 hk] at this;exact vok_int this (hrp j hj).1
 have hlg : ∀ j < 3,Lg ((yJ h n).items.getD j vl0).nl := fun j hj => (hO.iv _ (hit j hj)).nl;refine ⟨by omega,hO.il,fun j hj => (hrp j hj).2,hlg,hok,?_⟩;rcases Bt (VL ((yJ h n).items.getD 2 vl0).nl) with h0 | h0
 ·have e := (pW (hlg 2 de) (hok 2 de)).1;rw [h0,qK] at e;rw [e] at hr;exact absurd hr.2 de
 ·exact h0
variable {md me : Bool}
def lsQ (F : Nat -> Vl -> Vl -> QR) : List (Vl × Option Vl) -> Nat -> QR
 | [],n => some (true,n)
 | x :: l,n => match x.2 with
  | none => some (false,n)
  | some y => match F n x.1 y with
   | none => none
   | some r => if r.1 = true then lsQ F l r.2 else some (false,r.2)
def prL (a b : List Vl) : List (Vl × Option Vl) := (List.range a.length).map fun i => (a.getD i vl0,some (b.getD i vl0))
def prQ (F : Nat -> Vl -> Vl -> QR) (a b : List Vl) (n : Nat) : QR := if a.length = b.length then lsQ F (prL a b) n else some (false,n)
def dcE (h : List Ob) (x y : Ob) (i : Nat) : Vl × Option Vl := (x.items.getD i vl0,if plI h y.keys (x.keys.getD i vl0) < 0 then none else some (y.items.getD (plI h y.keys (x.keys.getD i vl0)).toNat vl0))
def dcL (h : List Ob) (x y : Ob) : List (Vl × Option Vl) := (List.range x.keys.length).map (dcE h x y)
def dcQ (F : Nat -> Vl -> Vl -> QR) (h : List Ob) (x y : Ob) (n : Nat) : QR := if x.keys.length = y.keys.length then lsQ F (dcL h x y) n else some (false,n)
def rgE (x y : Ob) : Bool := rgQ (ZI (rgO x).sa (rgO x).na) (ZI (rgO x).sb (rgO x).nb) (ZI (rgO x).sc (rgO x).nc) (ZI (rgO y).sa (rgO y).na) (ZI (rgO y).sb (rgO y).nb) (ZI (rgO y).sc (rgO y).nc)
def obQ (F : Nat -> Vl -> Vl -> QR) (h : List Ob) (x y : Ob) (n : Nat) : QR :=
 if ¬ x.kind = y.kind then some (false,n)
 else if x.kind = 1 \/ x.kind = 2 then prQ F x.items y.items n
 else if x.kind = 3 then dcQ F h x y n
 else if x.kind = 4 then some (decide (x.keys.length = y.keys.length) && wiB h x.keys y.keys,n)
 else if x.kind = 5 then some (rgE x y,n)
 else some (false,n)
def eqP (F : Nat -> Vl -> Vl -> QR) (h : List Ob) (n : Nat) (a b : Vl) : QR := if n = 0 then none else if a = b then some (true,n - 1) else obQ F h (zU h a) (zU h b) (n - 1)
def eqS (h : List Ob) : Nat -> Nat -> Vl -> Vl -> QR
 | 0 => fun _ _ _ => none
 | f + 1 => fun n a b => eqP (eqS h f) h n a b
def LeQ (F : Nat -> Vl -> Vl -> QR) : Prop := ∀ n x y r,F n x y = some r -> r.2 <= n
theorem zP1 {F : Nat -> Vl -> Vl -> QR} (hF : LeQ F) : ∀ (l : List (Vl × Option Vl)) (n : Nat) (r : Bool × Nat),lsQ F l n = some r -> r.2 <= n
 | [],n,r,h => by cases h;exact Ak _
 | (x,none) :: l,n,r,h => by cases h;exact Ak _
 | (x,some y) :: l,n,r,h => by
  simp only [lsQ] at h
  cases hF1 : F n x y with
  | none => rw [hF1] at h;cases h
  | some q =>
   rw [hF1] at h;have h1 := hF _ _ _ _ hF1;simp only at h;split at h
   ·have := zP1 hF l q.2 r h;omega
   ·cases h;exact h1
theorem ob_le {F : Nat -> Vl -> Vl -> QR} (hF : LeQ F) {h : List Ob} {x y : Ob} {n : Nat} {r : Bool × Nat} (e : obQ F h x y n = some r) : r.2 <= n := by
 unfold obQ at e;split at e
 ·cases e;exact Ak _
 ·split at e
  ·unfold prQ at e;split at e
   ·exact zP1 hF _ _ _ e
   ·cases e;exact Ak _
  ·split at e
   ·unfold dcQ at e;split at e
    ·exact zP1 hF _ _ _ e
    ·cases e;exact Ak _
   ·split at e
    ·cases e;exact Ak _
    ·split at e <;> (cases e;exact Ak _)
theorem eqP_le {F : Nat -> Vl -> Vl -> QR} (hF : LeQ F) (h : List Ob) : LeQ (eqP F h) := by
 intro n a b r e;unfold eqP at e;split at e
 ·cases e
 ·split at e
  ·cases e;exact Nat.sub_le _ _
  ·have := ob_le hF e;omega
theorem kS (h : List Ob) : ∀ f,LeQ (eqS h f)
 | 0 => fun _ _ _ _ e => by cases e
 | f + 1 => eqP_le (kS h f) h
structure Lq (F : Nat -> Vl -> Vl -> QR) (l : List (Vl × Option Vl)) (n : Nat) where
 k : Nat
 m : Nat
 le : k <= l.length
 hm : m <= n
 eq : lsQ F (l.drop k) m = lsQ F l n
section
variable {F : Nat -> Vl -> Vl -> QR} {l : List (Vl × Option Vl)} {n : Nat}
theorem Lq.at (x : Lq F l n) {v : Vl} {w : Option Vl} (hg : l[x.k]? = some (v,w)) : lsQ F l n = lsQ F ((v,w) :: l.drop (x.k + 1)) x.m := by
 rw [<- x.eq,Bw (Ad.1 hg).1,(Ad.1 hg).2]
theorem Lq.pan (x : Lq F l n) {v w : Vl} (hg : l[x.k]? = some (v,some w)) (hr : F x.m v w = none) : lsQ F l n = none := by
 rw [x.at hg];simp only [lsQ,hr]
theorem Lq.no (x : Lq F l n) {v w : Vl} (hg : l[x.k]? = some (v,some w)) {m2 : Nat} (hr : F x.m v w = some (false,m2)) : lsQ F l n = some (false,m2) := by
 rw [x.at hg];simp only [lsQ,hr];rfl
theorem Lq.non (x : Lq F l n) {v : Vl} (hg : l[x.k]? = some (v,none)) : lsQ F l n = some (false,x.m) := by
 rw [x.at hg];rfl
def Lq.next (x : Lq F l n) (hF : LeQ F) {v w : Vl} (hg : l[x.k]? = some (v,some w)) {m2 : Nat} (hr : F x.m v w = some (true,m2)) : Lq F l n :=
 ⟨x.k + 1,m2,(Ad.1 hg).1,by have := hF _ _ _ _ hr;have := x.hm;simp only at *;omega,by rw [x.at hg];simp only [lsQ,hr];rfl⟩
theorem Lq.fin (x : Lq F l n) (h : ¬ x.k < l.length) : lsQ F l n = some (true,x.m) := by
 rw [<- x.eq,Ay om];rfl
end
theorem kF (a b : List Vl) : (prL a b).length = a.length := by simp [prL]
theorem mM (a b : List Vl) {k : Nat} (h : k < a.length) : (prL a b)[k]? = some (a.getD k vl0,some (b.getD k vl0)) := by simp [prL,h]
theorem uI0 (h : List Ob) (x y : Ob) : (dcL h x y).length = x.keys.length := by simp [dcL]
theorem zO0 (h : List Ob) (x y : Ob) {k : Nat} (hk : k < x.keys.length) : (dcL h x y)[k]? = some (dcE h x y k) := by simp [dcL,hk]
theorem uL {r : QR} {a : Bool × Nat} (h : r = some a) : qE r = .ok a := by rw [h];rfl
theorem xD {r : QR} (h : r = none) : qE r = .error (mR 42 pQ) := by rw [h];rfl
theorem wD (h : List Ob) (n : Nat) (a b : List Vl) (F : Nat -> Vl -> Vl -> QR) (ha : a.length <= 1000) (hF : LeQ F) (H : ∀ m,m <= n -> ∀ x ∈ a,∀ y ∈ b,FnQ Tryz.prog 32 [.bp 0 0,.agg (vlD x),.agg (vlD y)] (cqO md h m) (qE (F m x y)) qB (qO md h) (.v (.bool false))) : FnQ Tryz.prog 91 [vsD a,vsD b,.clo (1000000 + 32) [.bp 0 0]] (cqO md h n) (qE (prQ F a b n)) qB (qO md h) (.v (.bool false)) := by
 refine kO zL Tryz.func91 rfl rfl rfl rfl rfl rfl (fun _ => rfl) rfl ?_;intro w0 s0 mx;refine zJ 100 ?_;refine zB (zJ 200 ?_);refine zT rfl (fun c1 => ?_) (fun c1 => ?_)
 ·replace c1 : ¬ a.length = b.length := by simp at c1;omega
  refine zJ 300 ?_;refine zK (zN ?_);exact FinQ.of (false,n) (uL (by rw [prQ,Aa c1])) (u11 1 rfl rfl (u0 _) ⟨⟨rfl,u0 _,rfl,u0 _,rfl,trivial⟩,trivial⟩)
 ·replace c1 : a.length = b.length := by simp at c1;omega
  refine zM (zA (zB (zJ 400 ?_)));refine zR ?_;refine yC (ι := Lq F (prL a b) n) [1,2,15,16] [] 450 (fun x => [(17,.v (.int .i64 x.k))]) (fun x => [(0,.box 111 [.sl md 10 h obD ob0,.v (.int .i64 x.m)])]) (fun x => a.length - x.k) ⟨0,n,Ap _,Ak _,rfl⟩ ?_;refine ⟨⟨yK,⟨⟨rfl,u0 _,rfl,u21 rfl,rfl,trivial⟩,yH⟩,rfl,rfl⟩,fun x => ?_⟩;have hxl := x.le;rw [kF] at hxl;refine zJ 500 ?_;refine zB (zT rfl (fun c4 => ?_) (fun c4 => ?_))
  ·have c4 : x.k < a.length := by simpa using c4
   have hlb : x.k < b.length := by omega
   refine zM (zA (zB (zR (zJ 600 ?_))));refine zJ 700 ?_;rcases hr : F x.m (a.getD x.k vl0) (b.getD x.k vl0) with _ | ⟨bb,m2⟩
   ·refine zB (zE zL [1029] 800 rfl ?_);refine zF ?_;refine uH _ _ ((H x.m x.hm _ (by rw [yS c4];exact Ar _) _ (by rw [yS hlb];exact Ar _)).no (xD hr)) (FinQ.pan (xD (by rw [prQ,Ac c1];exact x.pan (mM a b c4) hr))) rfl ?_;refine zf (zA ?_);exact uC 0
   ·refine zB (zE zL [1029] 800 rfl ?_);refine zF ?_;refine yQ _ _ ((H x.m x.hm _ (by rw [yS c4];exact Ar _) _ (by rw [yS hlb];exact Ar _)).yes (uL hr)) rfl ?_;refine zF ?_;refine zC (zA (zX (fun c7 => ?_) (fun c7 => ?_)))
    ·
     refine zJ 900 ?_;refine zK (zQ (zN (yL (zQ (zN ?_)))));have hb : bb = false := by simpa [qB] using c7
     subst hb;exact FinQ.of (false,m2) (uL (by rw [prQ,Ac c1];exact x.no (mM a b c4) hr)) (u11 1 rfl rfl (u0 _) ⟨⟨rfl,u0 _,rfl,u0 _,rfl,trivial⟩,trivial⟩)
    ·
     refine zM (zP (zA (yM zL [] 1000 ?_)));have hb : bb = true := by simpa [qB] using c7
     subst hb;exact zS (x.next hF (mM a b c4) hr) ⟨⟨u21 (by show (x.k : Int) + 1 = ((x.k + 1 : Nat) : Int);push_cast;rfl),yK⟩,⟨⟨rfl,u0 _,rfl,u21 rfl,rfl,trivial⟩,yH⟩,rfl,rfl⟩ (by show a.length - (x.k + 1) < a.length - x.k;omega)
  ·have c4 : ¬ x.k < a.length := by simpa using c4
   refine yE (yA (yB (zZ (zA (zJ 1100 ?_)))));refine zK ?_;exact FinQ.of (true,x.m) (uL (by rw [prQ,Ac c1];exact x.fin (by rw [kF];exact c4))) (u11 1 rfl rfl (u0 _) ⟨⟨rfl,u0 _,rfl,u0 _,rfl,trivial⟩,trivial⟩)
theorem dJ (h : List Ob) (n : Nat) (a b : List Vl) (F : Nat -> Vl -> Vl -> QR) (ha : a.length <= 1000) (hF : LeQ F) (H : ∀ m,m <= n -> ∀ x ∈ a,∀ y ∈ b,FnQ Tryz.prog 34 [.bp 0 0,.agg (vlD x),.agg (vlD y)] (cqO md h m) (qE (F m x y)) qB (qO md h) (.v (.bool false))) : FnQ Tryz.prog 91 [vsD a,vsD b,.clo (1000000 + 34) [.bp 0 0]] (cqO md h n) (qE (prQ F a b n)) qB (qO md h) (.v (.bool false)) := by
 refine kO zL Tryz.func91 rfl rfl rfl rfl rfl rfl (fun _ => rfl) rfl ?_;intro w0 s0 mx;refine zJ 100 ?_;refine zB (zJ 200 ?_);refine zT rfl (fun c1 => ?_) (fun c1 => ?_)
 ·replace c1 : ¬ a.length = b.length := by simp at c1;omega
  refine zJ 300 ?_;refine zK (zN ?_);exact FinQ.of (false,n) (uL (by rw [prQ,Aa c1])) (u11 1 rfl rfl (u0 _) ⟨⟨rfl,u0 _,rfl,u0 _,rfl,trivial⟩,trivial⟩)
 ·replace c1 : a.length = b.length := by simp at c1;omega
  refine zM (zA (zB (zJ 400 ?_)));refine zR ?_;refine yC (ι := Lq F (prL a b) n) [1,2,15,16] [] 450 (fun x => [(17,.v (.int .i64 x.k))]) (fun x => [(0,.box 111 [.sl md 10 h obD ob0,.v (.int .i64 x.m)])]) (fun x => a.length - x.k) ⟨0,n,Ap _,Ak _,rfl⟩ ?_;refine ⟨⟨yK,⟨⟨rfl,u0 _,rfl,u21 rfl,rfl,trivial⟩,yH⟩,rfl,rfl⟩,fun x => ?_⟩;have hxl := x.le;rw [kF] at hxl;refine zJ 500 ?_;refine zB (zT rfl (fun c4 => ?_) (fun c4 => ?_))
  ·have c4 : x.k < a.length := by simpa using c4
   have hlb : x.k < b.length := by omega
   refine zM (zA (zB (zR (zJ 600 ?_))));refine zJ 700 ?_;rcases hr : F x.m (a.getD x.k vl0) (b.getD x.k vl0) with _ | ⟨bb,m2⟩
   ·refine zB (zE zL [1029] 800 rfl ?_);refine zF ?_;refine uH _ _ ((H x.m x.hm _ (by rw [yS c4];exact Ar _) _ (by rw [yS hlb];exact Ar _)).no (xD hr)) (FinQ.pan (xD (by rw [prQ,Ac c1];exact x.pan (mM a b c4) hr))) rfl ?_;refine zf (zA ?_);exact uC 0
   ·refine zB (zE zL [1029] 800 rfl ?_);refine zF ?_;refine yQ _ _ ((H x.m x.hm _ (by rw [yS c4];exact Ar _) _ (by rw [yS hlb];exact Ar _)).yes (uL hr)) rfl ?_;refine zF ?_;refine zC (zA (zX (fun c7 => ?_) (fun c7 => ?_)))
    ·
     refine zJ 900 ?_;refine zK (zQ (zN (yL (zQ (zN ?_)))));have hb : bb = false := by simpa [qB] using c7
     subst hb;exact FinQ.of (false,m2) (uL (by rw [prQ,Ac c1];exact x.no (mM a b c4) hr)) (u11 1 rfl rfl (u0 _) ⟨⟨rfl,u0 _,rfl,u0 _,rfl,trivial⟩,trivial⟩)
    ·
     refine zM (zP (zA (yM zL [] 1000 ?_)));have hb : bb = true := by simpa [qB] using c7
     subst hb;exact zS (x.next hF (mM a b c4) hr) ⟨⟨u21 (by show (x.k : Int) + 1 = ((x.k + 1 : Nat) : Int);push_cast;rfl),yK⟩,⟨⟨rfl,u0 _,rfl,u21 rfl,rfl,trivial⟩,yH⟩,rfl,rfl⟩ (by show a.length - (x.k + 1) < a.length - x.k;omega)
  ·have c4 : ¬ x.k < a.length := by simpa using c4
   refine yE (yA (yB (zZ (zA (zJ 1100 ?_)))));refine zK ?_;exact FinQ.of (true,x.m) (uL (by rw [prQ,Ac c1];exact x.fin (by rw [kF];exact c4))) (u11 1 rfl rfl (u0 _) ⟨⟨rfl,u0 _,rfl,u0 _,rfl,trivial⟩,trivial⟩)
variable {md me : Bool}
theorem tri (p : Prop) (o : QR) : p \/ (¬ p /\ o = none) \/ ∃ bb m2,¬ p /\ o = some (bb,m2) := by
 by_cases hp : p
 ·exact .inl hp
 ·match o with
  | none => exact .inr (.inl ⟨hp,rfl⟩)
  | some (bb,m2) => exact .inr (.inr ⟨bb,m2,hp,rfl⟩)
set_option maxHeartbeats 1000000 in
theorem mZ0 (h : List Ob) (n : Nat) (p q : Ob) (F : Nat -> Vl -> Vl -> QR) (hh : HpIn h) (g : Uh h) (kp : Kd h p.keys) (kq : Kd h q.keys) (hp1 : p.items.length = p.keys.length) (hq1 : q.items.length = q.keys.length) (hl : p.keys.length <= 1000) (hF : LeQ F) (H : ∀ m,m <= n -> ∀ x ∈ p.items,∀ y ∈ q.items,FnQ Tryz.prog 32 [.bp 0 0,.agg (vlD x),.agg (vlD y)] (cqO md h m) (qE (F m x y)) qB (qO md h) (.v (.bool false))) : FnQ Tryz.prog 92 [.bp 0 0,.agg (obD p),.agg (obD q)] (cqO md h n) (qE (dcQ F h p q n)) qB (qO md h) (.v (.bool false)) := by
 refine kO zL Tryz.func92 rfl rfl rfl rfl rfl rfl (fun _ => rfl) rfl ?_;intro w0 s0 mx;refine zJ 100 ?_;refine zB (zJ 200 ?_);refine zT rfl (fun c1 => ?_) (fun c1 => ?_)
 ·replace c1 : ¬ p.keys.length = q.keys.length := by simp at c1;omega
  refine zJ 300 ?_;refine zK (zN ?_);exact FinQ.of (false,n) (uL (by rw [dcQ,Aa c1])) (u11 1 rfl rfl (u0 _) ⟨⟨rfl,u0 _,rfl,u0 _,rfl,trivial⟩,trivial⟩)
 ·replace c1 : p.keys.length = q.keys.length := by simp at c1;omega
  refine zM (zA (zB (zJ 400 ?_)));refine zR ?_;refine yC (ι := Lq F (dcL h p q) n) [0,4,5,18,19] [1,2] 450 (fun x => [(20,.v (.int .i64 x.k))]) (fun x => [(0,.box 111 [.sl md 10 h obD ob0,.v (.int .i64 x.m)])]) (fun x => p.keys.length - x.k) ⟨0,n,Ap _,Ak _,rfl⟩ ?_;refine ⟨⟨yK,⟨⟨rfl,u0 _,rfl,u21 rfl,rfl,trivial⟩,yH⟩,rfl,rfl⟩,fun x => ?_⟩;have hxl := x.le;rw [uI0] at hxl;refine zJ 500 ?_;refine zB (zT rfl (fun c4 => ?_) (fun c4 => ?_))
  ·have c4 : x.k < p.keys.length := by simpa using c4
   have hpk : 0 <= (plI h q.keys (p.keys.getD x.k vl0)) -> (plI h q.keys (p.keys.getD x.k vl0)).toNat < q.keys.length := fun h0 => (xS0 h0).1;refine zM (zA (zB (zR (zJ 600 ?_))));refine zB (zE zL [] 700 rfl ?_);refine zF ?_;refine wH _ (vO0 h x.m q.keys (p.keys.getD x.k vl0) hh g (kp.keyed _ (qV c4)) (kp.vd _ (qV c4)) kq.vd) rfl rfl ?_;refine zf (zA ?_);rcases tri ((plI h q.keys (p.keys.getD x.k vl0)) < 0) (F x.m (p.items.getD x.k vl0) (q.items.getD (plI h q.keys (p.keys.getD x.k vl0)).toNat vl0)) with hp | ⟨hp0,hr⟩ | ⟨bb,m2,hp0,hr⟩
   ·refine zB (zW zL [1044] mK8 800 yP kr rfl ?_);refine zF ?_;refine vT (fun hs => absurd hs (by rw [Ax hp];decide)) (fun _ => ?_);refine zF ?_;refine vT (fun hs => absurd hs (by rw [Ax hp];decide)) (fun _ => ?_);refine zF ?_;refine vT (fun _ => ?_) (fun hs => absurd hs (by rw [Ax hp];decide));refine zF ?_;refine zC (zA (zX (fun c7 => ?_) (fun c7 => ?_)))
    ·
     refine zJ 900 ?_;refine zK (zQ (zN (yL (zQ (zN ?_)))));exact FinQ.of (false,x.m) (uL (by rw [dcQ,Ac c1];exact x.non (by rw [zO0 h p q c4,dcE,Ac hp]))) (u11 1 rfl rfl (u0 _) ⟨⟨rfl,u0 _,rfl,u0 _,rfl,trivial⟩,trivial⟩)
    ·
     cases c7
   ·refine zB (zW zL [1044] mK8 800 yP kr rfl ?_);refine zF ?_;refine vT (fun _ => ?_) (fun hs => absurd hs (by rw [By hp0];decide));refine zF ?_;refine uH _ _ ((H x.m x.hm _ (by first | exact qV (by omega) | (rw [yS (by omega)];exact Ar _)) _ (by first | exact qV (by omega) | (rw [yS (by omega)];exact Ar _))).no (xD hr)) (FinQ.pan (xD (by rw [dcQ,Ac c1];exact x.pan (by rw [zO0 h p q c4,dcE,Aa om]) hr))) rfl ?_;refine zf (zA ?_);exact uC 0
   ·refine zB (zW zL [1044] mK8 800 yP kr rfl ?_);refine zF ?_;refine vT (fun _ => ?_) (fun hs => absurd hs (by rw [By hp0];decide));refine zF ?_;refine yQ _ _ ((H x.m x.hm _ (by first | exact qV (by omega) | (rw [yS (by omega)];exact Ar _)) _ (by first | exact qV (by omega) | (rw [yS (by omega)];exact Ar _))).yes (uL hr)) rfl ?_;refine zF ?_;refine zC (zA (zX (fun c7 => ?_) (fun c7 => ?_)))
    ·
     refine zJ 900 ?_;refine zK (zQ (zN (yL (zQ (zN ?_)))));have hb : bb = false := by
      rcases c7 with h9 | h9
      ·exact absurd h9 hp0
      ·simpa [qB] using h9
     subst hb;exact FinQ.of (false,m2) (uL (by rw [dcQ,Ac c1];exact x.no (by rw [zO0 h p q c4,dcE,Aa om]) hr)) (u11 1 rfl rfl (u0 _) ⟨⟨rfl,u0 _,rfl,u0 _,rfl,trivial⟩,trivial⟩)
    ·
     refine zM (zP (zA (yM zL [] 1000 ?_)));have hb : bb = true := by simpa [qB] using c7.2
     subst hb;exact zS (x.next hF (by rw [zO0 h p q c4,dcE,Aa om]) hr) ⟨⟨u21 (by show (x.k : Int) + 1 = ((x.k + 1 : Nat) : Int);push_cast;rfl),yK⟩,⟨⟨rfl,u0 _,rfl,u21 rfl,rfl,trivial⟩,yH⟩,rfl,rfl⟩ (by show p.keys.length - (x.k + 1) < p.keys.length - x.k;omega)
  ·have c4 : ¬ x.k < p.keys.length := by simpa using c4
   refine yE (yA (yB (zZ (zA (zJ 1100 ?_)))));refine zK ?_;exact FinQ.of (true,x.m) (uL (by rw [dcQ,Ac c1];exact x.fin (by rw [uI0];exact c4))) (u11 1 rfl rfl (u0 _) ⟨⟨rfl,u0 _,rfl,u0 _,rfl,trivial⟩,trivial⟩)
theorem qA {h : List Ob} (g : Uh h) {v : Vl} (hv : v.k = 6 -> qG h v.r = true) (hk : (zU h v).kind ≠ 6 /\ (zU h v).kind ≠ 17) {x : Vl} (hx : x ∈ (zU h v).items) : Vd h x := by
 by_cases h0 : (zU h v).kind = 0
 ·by_cases h6 : v.k = 6
  ·rw [jK0 hv h6] at h0;have := g.kind (hv h6);omega
  ·rw [xX0 h6] at hx;exact absurd hx (by show ¬ x ∈ ([] : List Vl);simp)
 ·obtain ⟨h6,ho,e⟩ := gB h0;rw [e] at hk hx;refine ⟨?_,tJ0 g ho hx⟩;have hin := yX ho;by_cases h49 : v.r.toNat < 49
  ·rw [show yJ h v.r = bgO v.r.toNat from g.lo_at h49] at hx;exact absurd hx (by show ¬ x ∈ ([] : List Vl);simp)
  ·have e2 : qY (fixV (yJ h ((v.r.toNat : Nat) : Int)) x) = true := (qS0 (g.hi_at om hin.2).vals).ok x (Bc.2 (.inr hx));rw [<- mD hin] at e2
   rwa [fixV,Aa (by rintro ⟨_,h2 | h2⟩;exact hk.1 h2;exact hk.2 h2)] at e2
theorem rg_S {h : List Ob} (hh : HpIn h) (g : Uh h) {v : Vl} (hv : v.k = 6 -> qG h v.r = true) (hk : (zU h v).kind = 5) : RgO (zU h v) := by
 obtain ⟨h6,ho,e⟩ := gB (h := h) (v := v) om;rw [e] at hk ⊢;exact rg_of hh g ho hk
theorem vD1 {F : Nat -> Vl -> Vl -> QR} {h : List Ob} {n : Nat} {a b : Vl} (h0 : n = 0) : eqP F h n a b = none := Ac h0
theorem vC1 {F : Nat -> Vl -> Vl -> QR} {h : List Ob} {n : Nat} {a b : Vl} (h0 : ¬ n = 0) (h1 : a = b) : eqP F h n a b = some (true,n - 1) := (Aa h0).trans (Ac h1)
theorem xQ {F : Nat -> Vl -> Vl -> QR} {h : List Ob} {n : Nat} {a b : Vl} (h0 : ¬ n = 0) (h1 : ¬ a = b) : eqP F h n a b = obQ F h (zU h a) (zU h b) (n - 1) := (Aa h0).trans (Aa h1)
section
variable {F : Nat -> Vl -> Vl -> QR} {h : List Ob} {x y : Ob} {n : Nat}
theorem uN1 (c : ¬ x.kind = y.kind) : obQ F h x y n = some (false,n) := Ac c
theorem dA0 (c : x.kind = y.kind) (d : x.kind = 1 \/ x.kind = 2) : obQ F h x y n = prQ F x.items y.items n := (Aa om).trans (Ac d)
theorem ob_3 (c : x.kind = y.kind) (d : x.kind = 3) : obQ F h x y n = dcQ F h x y n := (Aa om).trans ((Aa om).trans (Ac d))
theorem ob_4 (c : x.kind = y.kind) (d : x.kind = 4) : obQ F h x y n = some (decide (x.keys.length = y.keys.length) && wiB h x.keys y.keys,n) := (Aa om).trans ((Aa om).trans ((Aa om).trans (Ac d)))
theorem ob_5 (c : x.kind = y.kind) (d : x.kind = 5) : obQ F h x y n = some (rgE x y,n) := (Aa om).trans ((Aa om).trans ((Aa om).trans ((Aa om).trans (Ac d))))
theorem ob_x (c : x.kind = y.kind) (d : ¬ (x.kind = 1 \/ x.kind = 2) /\ ¬ x.kind = 3 /\ ¬ x.kind = 4 /\ ¬ x.kind = 5) : obQ F h x y n = some (false,n) := (Aa om).trans ((Aa d.1).trans ((Aa d.2.1).trans ((Aa d.2.2.1).trans (Aa d.2.2.2))))
end
set_option maxHeartbeats 2000000 in
theorem qH0 (h : List Ob) (n : Nat) (a b : Vl) (F : Nat -> Vl -> Vl -> QR) (hn : n <= 10000) (hh : HpIn h) (g : Uh h) (hva : Vd h a) (hvb : Vd h b) (hF : LeQ F) (H : ∀ m,m < n -> ∀ x y,Vd h x -> Vd h y -> FnQ Tryz.prog 32 [.bp 0 0,.agg (vlD x),.agg (vlD y)] (cqO md h m) (qE (F m x y)) qB (qO md h) (.v (.bool false))) : FnQ Tryz.prog 32 [.bp 0 0,.agg (vlD a),.agg (vlD b)] (cqO md h n) (qE (eqP F h n a b)) qB (qO md h) (.v (.bool false)) := by
 refine kO zL Tryz.func32 rfl rfl rfl rfl rfl rfl (fun _ => rfl) rfl ?_;intro w0 s0 mx;refine zJ 100 ?_;by_cases c0 : n = 0
 ·refine zB (zE zL [1012] 200 rfl ?_);refine zF ?_;refine uH _ _ ((dY h n hn).no (Ac c0)) (FinQ.pan (xD (vD1 c0))) rfl ?_;refine zf (zA ?_);exact uC 0
 ·refine zB (zE zL [1012] 200 rfl ?_);refine zF ?_;refine yQ _ _ ((dY h n hn).yes (Aa c0)) rfl ?_;refine zf (zA (zB ?_));refine zB (zE zL [] 300 rfl ?_);refine zF ?_;refine zO _ (wA a b) rfl ?_;refine zF ?_;refine zC (zA (zT rfl (fun c2 => ?_) (fun c2 => ?_)))
  ·have c2 : a = b := by simpa using c2
   refine zJ 400 ?_;refine zK (zN ?_);exact FinQ.of (true,n - 1) (uL (vC1 c0 c2)) (u11 1 rfl rfl (u0 _) ⟨⟨rfl,u0 _,rfl,u0 _,rfl,trivial⟩,trivial⟩)
  ·have c2 : ¬ a = b := by simpa using c2
   refine zM (zA ?_);refine zB (zW zL [] mK2 500 yP kr rfl ?_);refine zF ?_;refine zO _ (uV h a hva.2) rfl ?_;refine zF ?_;refine zO _ (uV h b hvb.2) rfl ?_;refine zF ?_;refine zC (zA (zB (zJ 600 ?_)));refine zT rfl (fun c5 => ?_) (fun c5 => ?_)
   ·have c5 : ¬ (zU h a).kind = (zU h b).kind := by simpa using c5
    refine zJ 700 ?_;refine zK (zN ?_);exact FinQ.of (false,n - 1) (uL (by rw [xQ c0 c2,uN1 c5])) (u11 1 rfl rfl (u0 _) ⟨⟨rfl,u0 _,rfl,u0 _,rfl,trivial⟩,trivial⟩)
   ·have c5 : (zU h a).kind = (zU h b).kind := by simpa using c5
    refine zM (zA (zB (zJ 800 ?_)));refine zR (zB (zJ 900 ?_));refine zX (fun c8 => ?_) (fun c8 => ?_)
    ·
     refine zM (zA (zX (fun c8x => ?_) (fun c8x => ?_)))
     ·
      rcases hr : prQ F (zU h a).items (zU h b).items (n - 1) with _ | ⟨bb,m2⟩
      ·refine zB (zE zL [1044] 1100 rfl ?_);refine zF ?_;refine uH _ _ ((wD h (n - 1) (zU h a).items (zU h b).items F (qL g a).2 hF fun m hm x hx y hy => H m om x y (qA g hva.2 om hx) (qA g hvb.2 om hy)).no (xD hr)) (FinQ.pan (xD (by rw [xQ c0 c2,dA0 c5 om];exact hr))) rfl ?_;refine zf (zA ?_);exact uC 0
      ·refine zB (zE zL [1044] 1100 rfl ?_);refine zF ?_;refine yQ _ _ ((wD h (n - 1) (zU h a).items (zU h b).items F (qL g a).2 hF fun m hm x hx y hy => H m om x y (qA g hva.2 om hx) (qA g hvb.2 om hy)).yes (uL hr)) rfl ?_;refine zf (zA (zK (zQ (zN ?_))));exact FinQ.of (bb,m2) (uL (by rw [xQ c0 c2,dA0 c5 om];exact hr)) (u11 1 rfl rfl (u0 _) ⟨⟨rfl,u0 _,rfl,u0 _,rfl,trivial⟩,trivial⟩)
     ·
      simp_all
    ·
     refine yM zL [] 1000 ?_;refine zA (zX (fun c9 => ?_) (fun c9 => ?_))
     ·
      rcases hr : prQ F (zU h a).items (zU h b).items (n - 1) with _ | ⟨bb,m2⟩
      ·refine zB (zE zL [1044] 1100 rfl ?_);refine zF ?_;refine uH _ _ ((wD h (n - 1) (zU h a).items (zU h b).items F (qL g a).2 hF fun m hm x hx y hy => H m om x y (qA g hva.2 om hx) (qA g hvb.2 om hy)).no (xD hr)) (FinQ.pan (xD (by rw [xQ c0 c2,dA0 c5 om];exact hr))) rfl ?_;refine zf (zA ?_);exact uC 0
      ·refine zB (zE zL [1044] 1100 rfl ?_);refine zF ?_;refine yQ _ _ ((wD h (n - 1) (zU h a).items (zU h b).items F (qL g a).2 hF fun m hm x hx y hy => H m om x y (qA g hva.2 om hx) (qA g hvb.2 om hy)).yes (uL hr)) rfl ?_;refine zf (zA (zK (zQ (zN ?_))));exact FinQ.of (bb,m2) (uL (by rw [xQ c0 c2,dA0 c5 om];exact hr)) (u11 1 rfl rfl (u0 _) ⟨⟨rfl,u0 _,rfl,u0 _,rfl,trivial⟩,trivial⟩)
     ·
      refine zJ 1200 ?_;refine zX (fun c11 => ?_) (fun c11 => ?_)
      ·
       rcases hr : dcQ F h (zU h a) (zU h b) (n - 1) with _ | ⟨bb,m2⟩
       ·refine zB (zE zL [1050] 1300 rfl ?_);refine zF ?_;refine uH _ _ ((mZ0 h (n - 1) (zU h a) (zU h b) F hh g (mJ g hva.2 (.inl om)) (mJ g hvb.2 (.inl om)) (mH g om) (mH g om) (qL g a).1 hF fun m hm x hx y hy => H m om x y (qA g hva.2 om hx) (qA g hvb.2 om hy)).no (xD hr)) (FinQ.pan (xD (by rw [xQ c0 c2,ob_3 c5 om];exact hr))) rfl ?_;refine zf (zA ?_);exact uC 0
       ·refine zB (zE zL [1050] 1300 rfl ?_);refine zF ?_;refine yQ _ _ ((mZ0 h (n - 1) (zU h a) (zU h b) F hh g (mJ g hva.2 (.inl om)) (mJ g hvb.2 (.inl om)) (mH g om) (mH g om) (qL g a).1 hF fun m hm x hx y hy => H m om x y (qA g hva.2 om hx) (qA g hvb.2 om hy)).yes (uL hr)) rfl ?_;refine zf (zA (zK (zQ (zN ?_))));exact FinQ.of (bb,m2) (uL (by rw [xQ c0 c2,ob_3 c5 om];exact hr)) (u11 1 rfl rfl (u0 _) ⟨⟨rfl,u0 _,rfl,u0 _,rfl,trivial⟩,trivial⟩)
      ·
       refine zJ 1400 ?_;refine zX (fun c13 => ?_) (fun c13 => ?_)
       ·
        refine zB (zE zL [] 1500 rfl ?_);refine zF ?_;refine jA0 _ (fun hg11 => yO0 h (n - 1) (zU h a) (zU h b) hh g (mJ g hvb.2 (.inr om)).vd (fun k hk => ⟨(mJ g hva.2 (.inr om)).keyed k hk,(mJ g hva.2 (.inr om)).vd k hk⟩)) rfl rfl ?_;refine zf (zA (zK (zQ (zN ?_))));exact FinQ.of (decide ((zU h a).keys.length = (zU h b).keys.length) && wiB h (zU h a).keys (zU h b).keys,n - 1) (uL (by rw [xQ c0 c2,ob_4 c5 om])) (u11 1 rfl rfl (Sub.bool (by rw [Co];simp;intro _;omega)) ⟨⟨rfl,u0 _,rfl,u0 _,rfl,trivial⟩,trivial⟩)
       ·
        refine zJ 1600 ?_;refine zX (fun c15 => ?_) (fun c15 => ?_)
        ·
         have hra : RgO (zU h a) := rg_S hh g hva.2 om;have hrb : RgO (zU h b) := rg_S hh g hvb.2 om;refine zB (zW zL [] [[],[0],[],[0,1,2],[0,1,2,3],(rgN 5),(rgN 6),(rgN 6),[],[0,1,2,3,4,5,6,8],(rgN 10)] 1700 yP kr rfl ?_);refine zF ?_;refine zO _ (dE (zU h a) hra) rfl ?_;refine zF ?_;refine zO _ (dE (zU h b) hrb) rfl ?_;refine zF ?_;refine zO _ ((by rw [RgO.dat hra,RgO.dat hrb];exact rgSame_ok _ _ _ _ _ _ hra.siz.1 hra.siz.2.1 hra.siz.2.2.1 hra.siz.2.2.2 hrb.siz.1 hrb.siz.2.1 hrb.siz.2.2.1 hrb.siz.2.2.2)) rfl ?_;refine zF ?_;refine zC (zA (zJ 1800 ?_));refine zK (zQ (zN ?_));exact FinQ.of (rgE (zU h a) (zU h b),n - 1) (uL (by rw [xQ c0 c2,ob_5 c5 om])) (u11 1 rfl rfl (u0 _) ⟨⟨rfl,u0 _,rfl,u0 _,rfl,trivial⟩,trivial⟩)
        ·
         refine zM (zP (zA (zJ 1900 ?_)));refine zK ?_;exact FinQ.of (false,n - 1) (uL (by rw [xQ c0 c2,ob_x c5 om])) (u11 1 rfl rfl (u0 _) ⟨⟨rfl,u0 _,rfl,u0 _,rfl,trivial⟩,trivial⟩)
end Go.Proofs.YtinegkcbkefeiaaGreatDoor
