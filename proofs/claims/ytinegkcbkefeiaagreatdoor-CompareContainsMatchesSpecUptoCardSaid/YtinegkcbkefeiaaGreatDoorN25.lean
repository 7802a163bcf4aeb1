/- Part 25 of the proof. -/
import Derived.Test.YtinegkcbkefeiaaGreatDoorN23
import Derived.Test.YtinegkcbkefeiaaGreatDoorN24
namespace Go.Proofs.YtinegkcbkefeiaaGreatDoor
open Go.RowKit
variable {md me : Bool}
theorem yY1 (b1 : Bool) (n1 : Nat) (b2 : Bool) (n2 : Nat) : ZI (plB b1 n1 b2 n2).1 (plB b1 n1 b2 n2).2 = ZI b1 n1 + ZI b2 n2 := by
 unfold plB;by_cases h : b1 = b2
 ·subst h;rw [Ab rfl]
  cases b1 <;> unfold ZI <;> simp <;> omega
 ·rw [Aa h];by_cases h2 : n2 <= n1
  ·rw [Ab h2]
   cases b1 <;> cases b2 <;> unfold ZI <;> simp at * <;> omega
  ·rw [Aa h2]
   cases b1 <;> cases b2 <;> unfold ZI <;> simp at * <;> omega
theorem plB_le (b1 : Bool) (n1 : Nat) (b2 : Bool) (n2 : Nat) : (plB b1 n1 b2 n2).2 <= n1 + n2 := by
 unfold plB;split
 ·exact Ao _
 ·split
  ·show n1 - n2 <= n1 + n2;omega
  ·show n2 - n1 <= n1 + n2;omega
theorem dig_addL {x y k : Nat} (hx : (dig x).length <= k) (hy : (dig y).length <= k) : (dig (x + y)).length <= k + 1 := by
 have h1 := Bl (bT x) (Bd de hx);have h2 := Bl (bT y) (Bd de hy);refine jF ?_;rw [Bv];generalize 65536 ^ k = B at *;omega
theorem dig_mulL {x y k m : Nat} (hx : (dig x).length <= k) (hy : (dig y).length <= m) : (dig (x * y)).length <= k + m := by
 have h1 := Bl (bT x) (Bd de hx);have h2 := Bl (bT y) (Bd de hy);refine jF ?_;rw [Ef];exact Nat.mul_lt_mul'' h1 h2
theorem jN0 {b1 b2 : Bool} {x y k : Nat} (hx : (dig x).length <= k) (hy : (dig y).length <= k) : (dig (plB b1 x b2 y).2).length <= k + 1 := Au (yS (plB_le _ _ _ _)) (dig_addL hx hy)
theorem bH {l : List Nat} (hg : Lg l) (h : l.length <= 40) : (dig (VL l)).length <= 80 := by
 refine jF ?_;have h1 := Bl (L_lt hg) (Bd de h);rw [show (65536 : Nat) ^ 80 = (65536 ^ 2) ^ 40 from Nat.pow_mul 65536 2 40];exact h1
theorem dm_Td {s t : Bool} {x y : Nat} (h : (s != t) = true /\ 0 < ((dig (x % y)).length : Int)) : dmQ s t x y = x / y + 1 /\ dmR s t x y = y - x % y := by
 have h1 : s ≠ t := by simpa using h.1
 have h2 : 0 < x % y := by have := cY (n := x % y);rw [Aw h.2] at this;exact Aj this.symm
 exact ⟨by rw [dmQ,Ab ⟨h1,h2⟩],by rw [dmR,Ab ⟨h1,h2⟩]⟩
theorem dm_Fd {s t : Bool} {x y : Nat} (h : ((s != t) && decide (0 < ((dig (x % y)).length : Int))) = false) : dmQ s t x y = x / y /\ dmR s t x y = x % y := by
 have h1 : ¬ (s ≠ t /\ 0 < x % y) := by
  rintro ⟨h1,h2⟩;have h3 : (s != t) = true := by simpa using h1
  rw [h3,Dy,cY,Av] at h;exact h h2
 exact ⟨by rw [dmQ,Aa h1],by rw [dmR,Aa h1]⟩
theorem gQ (b1 b2 : Bool) (n1 n2 : Nat) (h1 : (dig n1).length <= 1000000) (h2 : (dig n2).length <= 1000000) : Fx 170 [rD b1 n1,rD b2 n2] (rD ((b1 != b2) && decide (0 < n1 * n2)) (n1 * n2)) := by
 refine yD zL Tryz.func170 rfl rfl rfl rfl rfl rfl ?_;intro w0 s0 mx;refine zJ 100 ?_;refine zB (zE zL [] 200 rfl ?_);refine zF ?_;refine zO _ (Times3_ok _ _ ao ao) rfl ?_;refine zF ?_;refine zC (zA (zJ 300 ?_));refine zK ?_;exact u4 rfl (u20 ⟨u7 (by rw [cY]),u6 _,trivial⟩)
theorem zK0 (b1 b2 : Bool) (n1 n2 : Nat) (h1 : (dig n1).length <= 1000000) (h2 : (dig n2).length <= 1000000) (h0 : 0 < n2) : Fx 130 [rD b1 n1,rD b2 n2] (.tup [rD (b1 != b2) (dmQ b1 b2 n1 n2),rD b2 (dmR b1 b2 n1 n2)]) := by
 have hq : (dig (n1 / n2)).length <= 1000000 := Au (yS (Nat.div_le_self _ _)) h1;refine yD zL Tryz.func130 rfl rfl rfl rfl rfl rfl ?_;intro w0 s0 mx;refine zJ 100 ?_;refine zB (zE zL [] 200 rfl ?_);refine zF ?_;refine zO _ (Divide3_ok n1 n2 h1 h2 h0) rfl ?_;refine zF ?_;refine zC (zA (zB (zJ 300 ?_)));refine zW (fun c2 => ?_) (fun c2 => ?_)
 ·
  refine zZ zL [] [[],[],[0,1],[],[3],[],(rgN 6),(rgN 7),(rgN 8)] 400 yQ kr rfl ?_;refine zF ?_;refine zO _ (wK0 1 om om) rfl ?_;refine zF ?_;refine zO _ (jZ0 _ 1 om (by rw [jO0];decide)) rfl ?_;refine zF ?_;refine zO _ (xR _ _ (Cx (Cj _ h0)) om) rfl ?_;refine zf (zA ?_);refine zB (zZ zL [] mK12 500 yQ kr rfl ?_);refine zf (zA (zK ?_));obtain ⟨hqe,hre⟩ := dm_Td c2;exact u4 rfl (u9 (by rw [hqe,hre];rfl))
 ·
  refine zM (zA ?_);refine zB (zZ zL [] mK12 500 yQ kr rfl ?_);refine zf (zA (zK ?_));obtain ⟨hqe,hre⟩ := dm_Fd c2;exact u4 rfl (u9 (by rw [hqe,hre];rfl))
structure RgN where
 sa : Bool
 na : Nat
 sb : Bool
 nb : Nat
 sc : Bool
 nc : Nat
def RgN.g (x : RgN) : Bool × Nat := plB x.sb x.nb (!x.sa && decide (0 < x.na)) x.na
def RgN.q (x : RgN) : Bool × Nat := (x.g.1 != x.sc,dmQ x.g.1 x.sc x.g.2 x.nc)
def RgN.r (x : RgN) : Nat := dmR x.g.1 x.sc x.g.2 x.nc
def RgN.q2 (x : RgN) : Bool × Nat := if 0 < x.r then plB x.q.1 x.q.2 false 1 else x.q
def RgN.cnt (x : RgN) : Bool × Nat := if x.q2.1 = true then (false,0) else x.q2
def RgN.p (x : RgN) : Bool × Nat := plB x.cnt.1 x.cnt.2 true 1
def RgN.t (x : RgN) : Bool × Nat := ((x.sc != x.p.1) && decide (0 < x.nc * x.p.2),x.nc * x.p.2)
def RgN.last (x : RgN) : Bool × Nat := plB x.sa x.na x.t.1 x.t.2
def RgN.D (x : RgN) : D := .agg [.v (.bool x.sa),qX x.na,.v (.bool x.sc),qX x.nc,.v (.bool x.cnt.1),qX x.cnt.2,.v (.bool x.last.1),qX x.last.2]
def rgL (sa sb sc : Bool) (la lb lc : List Nat) : List D := [.v (.bool sa),usD la,.v (.bool sb),usD lb,.v (.bool sc),usD lc]
theorem RgN.sizes (x : RgN) {k : Nat} (ha : (dig x.na).length <= k) (hb : (dig x.nb).length <= k) (hc : (dig x.nc).length <= k) (h0 : 0 < x.nc) (h1 : 1 <= k) : (dig x.g.2).length <= k + 1 /\ (dig x.q.2).length <= k + 1 /\ (dig x.r).length <= k /\ (dig x.q2.2).length <= k + 2 /\ (dig x.cnt.2).length <= k + 2 /\ (dig x.p.2).length <= k + 3 /\ (dig x.t.2).length <= k + (k + 3) := by
 have g := jN0 (b1 := x.sb) (b2 := (!x.sa && decide (0 < x.na))) hb ha;have q : (dig x.q.2).length <= k + 1 := Au (yS (yO0 h0)) g;have r : (dig x.r).length <= k := Au (yS (tH0 h0)) hc;have q2 : (dig x.q2.2).length <= k + 2 := by
  unfold RgN.q2;split
  ·exact jN0 q (by rw [jO0];omega)
  ·omega
 have c : (dig x.cnt.2).length <= k + 2 := by
  unfold RgN.cnt;split
  ·rw [jY];exact Ap _
  ·exact q2
 have p : (dig x.p.2).length <= k + 3 := jN0 c (by rw [jO0];omega);exact ⟨g,q,r,q2,c,p,dig_mulL hc p⟩
theorem mC (n : Nat) : (0 < ((dig n).length : Int)) ↔ 0 < n := by
 have := cY (n := n);rw [Df,Ak,Ak] at this;exact this
theorem RgN.q2_T {x : RgN} (h : 0 < x.r) : x.q2 = plB x.q.1 x.q.2 false 1 := Ab h
theorem RgN.q2_F {x : RgN} (h : ¬ 0 < x.r) : x.q2 = x.q := Aa h
theorem RgN.cnt_T {x : RgN} (h : x.q2.1 = true) : x.cnt = (false,0) := Ab h
theorem RgN.cnt_F {x : RgN} (h : ¬ x.q2.1 = true) : x.cnt = x.q2 := Aa h
theorem RangeOf_ok (sa sb sc : Bool) (la lb lc : List Nat) (hla : la.length <= 40) (hlb : lb.length <= 40) (hlc : lc.length <= 40) (ga : Lg la) (gb : Lg lb) (gc : Lg lc) (h0 : 0 < VL lc) : Fx 127 [.agg (rgL sa sb sc la lb lc)] (RgN.D (RgN.mk sa (VL la) sb (VL lb) sc (VL lc))) := by
 have da := bH ga hla;have db := bH gb hlb;have dc := bH gc hlc;obtain ⟨z1,z2,z3,z4,z5,z6,z7⟩ := RgN.sizes (RgN.mk sa (VL la) sb (VL lb) sc (VL lc)) (k := 80) da db dc h0 de;have hrp := mC (RgN.r (RgN.mk sa (VL la) sb (VL lb) sc (VL lc)));refine yD zL Tryz.func127 rfl rfl rfl rfl rfl rfl ?_;intro w0 s0 mx;refine zJ 100 ?_;refine zB (zZ zL [] [[],[0],[0,1],[],[3],(rgN 5),(rgN 6),[],(rgN 8)] 200 yQ kr rfl ?_);refine zF ?_;refine zO _ (dE sa la ga om) rfl ?_;refine zF ?_;refine zO _ (dE sc lc gc om) rfl ?_;refine zf (zA ?_);refine zB (zZ zL [] [[],[0],[0,1],[],[3],(rgN 5),(rgN 6),[],(rgN 8)] 300 yQ kr rfl ?_);refine zF ?_;refine zO _ (dE sb lb gb om) rfl ?_;refine zF ?_;refine zO _ (zJ0 sa (VL la)) rfl ?_;refine zF ?_;refine zO _ (jL sb _ (VL lb) (VL la) om om) rfl ?_;refine zf (zA ?_);refine zB (zE zL [] 400 rfl ?_);refine zF ?_;refine zO _ (zK0 _ sc _ (VL lc) (Au z1 de) om h0) rfl ?_;refine zF ?_;refine zC (zA (zB (zJ 500 ?_)));refine zW (fun c4 => ?_) (fun c4 => ?_)
 ·
  refine zZ zL [] [[],[],[0,1],[0,1,2]] 600 yQ kr rfl ?_;refine zF ?_;refine zO _ (wA 1 de de) rfl ?_;refine zF ?_;refine zO _ (jL _ false _ 1 (Au z2 de) (by rw [jO0];decide)) rfl ?_;refine zf (zA (zB ?_));refine yW [2,3,5] [1,107,307] 610 [] [(307,.box 97 [.v (.bool (RgN.q2 (RgN.mk sa (VL la) sb (VL lb) sc (VL lc))).1),qX (RgN.q2 (RgN.mk sa (VL la) sb (VL lb) sc (VL lc))).2])] ?_;refine ⟨⟨yM,⟨⟨rfl,by first | exact Sub.of_eq (by rw [RgN.q2_T (hrp.1 c4)];rfl) | exact Sub.of_eq (by rw [RgN.q2_F (fun h => absurd (hrp.2 h) (by first | exact c4 | exact Int.not_lt.2 c4))];rfl),rfl,by first | exact Sub.of_eq (by rw [RgN.q2_T (hrp.1 c4)];rfl) | exact Sub.of_eq (by rw [RgN.q2_F (fun h => absurd (hrp.2 h) (by first | exact c4 | exact Int.not_lt.2 c4))];rfl),rfl,trivial⟩,yH⟩,rfl,rfl⟩,?_⟩;refine zJ 700 ?_;refine zW (fun c6 => ?_) (fun c6 => ?_)
  ·
   refine yN zL [] 800 ?_;refine zA ?_;refine yW [2,3] [1,107] 810 [] [(107,.box 99 [.v (.bool sa),qX (VL la),.v (.bool sc),qX (VL lc),.v (.bool (RgN.cnt (RgN.mk sa (VL la) sb (VL lb) sc (VL lc))).1),qX (RgN.cnt (RgN.mk sa (VL la) sb (VL lb) sc (VL lc))).2,.v (.bool false),.v (.slice none 0 0)])] ?_;refine ⟨⟨yM,⟨⟨rfl,u0 _,rfl,u0 _,rfl,u0 _,rfl,u0 _,rfl,by first | (rw [RgN.cnt_T (by simpa using c6)];exact Sub.nil0) | (rw [RgN.cnt_T (by simpa using c6)];exact u0 _) | (rw [RgN.cnt_F (by simpa using c6)];exact u0 _),rfl,by first | (rw [RgN.cnt_T (by simpa using c6)];exact Sub.nil0) | (rw [RgN.cnt_T (by simpa using c6)];exact u0 _) | (rw [RgN.cnt_F (by simpa using c6)];exact u0 _),rfl,u0 _,rfl,u0 _,rfl,trivial⟩,yH⟩,rfl,rfl⟩,?_⟩;refine zB (zZ zL [] mK3 900 yQ kr rfl ?_);refine zF ?_;refine zO _ (wA (-1) de de) rfl ?_;refine zF ?_;refine zO _ (jL _ true _ 1 (Au z5 de) (by rw [jO0];decide)) rfl ?_;refine zF ?_;refine zO _ (gQ sc _ (VL lc) _ om (Au z6 de)) rfl ?_;refine zF ?_;refine zO _ (jL sa _ (VL la) _ om (Au z7 de)) rfl ?_;refine zF ?_;refine zC (zA (zJ 1000 ?_));refine zK ?_;exact u4 rfl (u9 rfl)
  ·
   refine zM (zA ?_);refine yW [2,3] [1,107] 710 [] [(107,.box 99 [.v (.bool sa),qX (VL la),.v (.bool sc),qX (VL lc),.v (.bool (RgN.cnt (RgN.mk sa (VL la) sb (VL lb) sc (VL lc))).1),qX (RgN.cnt (RgN.mk sa (VL la) sb (VL lb) sc (VL lc))).2,.v (.bool false),.v (.slice none 0 0)])] ?_;refine ⟨⟨yM,⟨⟨rfl,u0 _,rfl,u0 _,rfl,u0 _,rfl,u0 _,rfl,by first | (rw [RgN.cnt_T (by simpa using c6)];exact Sub.nil0) | (rw [RgN.cnt_T (by simpa using c6)];exact u0 _) | (rw [RgN.cnt_F (by simpa using c6)];exact u0 _),rfl,by first | (rw [RgN.cnt_T (by simpa using c6)];exact Sub.nil0) | (rw [RgN.cnt_T (by simpa using c6)];exact u0 _) | (rw [RgN.cnt_F (by simpa using c6)];exact u0 _),rfl,u0 _,rfl,u0 _,rfl,trivial⟩,yH⟩,rfl,rfl⟩,?_⟩;refine zB (zZ zL [] mK3 900 yQ kr rfl ?_);refine zF ?_;refine zO _ (wA (-1) de de) rfl ?_;refine zF ?_;refine zO _ (jL _ true _ 1 (Au z5 de) (by rw [jO0];decide)) rfl ?_;refine zF ?_;refine zO _ (gQ sc _ (VL lc) _ om (Au z6 de)) rfl ?_;refine zF ?_;refine zO _ (jL sa _ (VL la) _ om (Au z7 de)) rfl ?_;refine zF ?_;refine zC (zA (zJ 1000 ?_));refine zK ?_;exact u4 rfl (u9 rfl)
 ·
  refine zM (zA (zB ?_));refine yW [2,3,5] [1,107,307] 510 [] [(307,.box 97 [.v (.bool (RgN.q2 (RgN.mk sa (VL la) sb (VL lb) sc (VL lc))).1),qX (RgN.q2 (RgN.mk sa (VL la) sb (VL lb) sc (VL lc))).2])] ?_;refine ⟨⟨yM,⟨⟨rfl,by first | exact Sub.of_eq (by rw [RgN.q2_T (hrp.1 c4)];rfl) | exact Sub.of_eq (by rw [RgN.q2_F (fun h => absurd (hrp.2 h) (by first | exact c4 | exact Int.not_lt.2 c4))];rfl),rfl,by first | exact Sub.of_eq (by rw [RgN.q2_T (hrp.1 c4)];rfl) | exact Sub.of_eq (by rw [RgN.q2_F (fun h => absurd (hrp.2 h) (by first | exact c4 | exact Int.not_lt.2 c4))];rfl),rfl,trivial⟩,yH⟩,rfl,rfl⟩,?_⟩;refine zJ 700 ?_;refine zW (fun c6 => ?_) (fun c6 => ?_)
  ·
   refine yN zL [] 800 ?_;refine zA ?_;refine yW [2,3] [1,107] 810 [] [(107,.box 99 [.v (.bool sa),qX (VL la),.v (.bool sc),qX (VL lc),.v (.bool (RgN.cnt (RgN.mk sa (VL la) sb (VL lb) sc (VL lc))).1),qX (RgN.cnt (RgN.mk sa (VL la) sb (VL lb) sc (VL lc))).2,.v (.bool false),.v (.slice none 0 0)])] ?_;refine ⟨⟨yM,⟨⟨rfl,u0 _,rfl,u0 _,rfl,u0 _,rfl,u0 _,rfl,by first | (rw [RgN.cnt_T (by simpa using c6)];exact Sub.nil0) | (rw [RgN.cnt_T (by simpa using c6)];exact u0 _) | (rw [RgN.cnt_F (by simpa using c6)];exact u0 _),rfl,by first | (rw [RgN.cnt_T (by simpa using c6)];exact Sub.nil0) | (rw [RgN.cnt_T (by simpa using c6)];exact u0 _) | (rw [RgN.cnt_F (by simpa using c6)];exact u0 _),rfl,u0 _,rfl,u0 _,rfl,trivial⟩,yH⟩,rfl,rfl⟩,?_⟩;refine zB (zZ zL [] mK3 900 yQ kr rfl ?_);refine zF ?_;refine zO _ (wA (-1) de de) rfl ?_;refine zF ?_;refine zO _ (jL _ true _ 1 (Au z5 de) (by rw [jO0];decide)) rfl ?_;refine zF ?_;refine zO _ (gQ sc _ (VL lc) _ om (Au z6 de)) rfl ?_;refine zF ?_;refine zO _ (jL sa _ (VL la) _ om (Au z7 de)) rfl ?_;refine zF ?_;refine zC (zA (zJ 1000 ?_));refine zK ?_;exact u4 rfl (u9 rfl)
  ·
   refine zM (zA ?_);refine yW [2,3] [1,107] 710 [] [(107,.box 99 [.v (.bool sa),qX (VL la),.v (.bool sc),qX (VL lc),.v (.bool (RgN.cnt (RgN.mk sa (VL la) sb (VL lb) sc (VL lc))).1),qX (RgN.cnt (RgN.mk sa (VL la) sb (VL lb) sc (VL lc))).2,.v (.bool false),.v (.slice none 0 0)])] ?_;refine ⟨⟨yM,⟨⟨rfl,u0 _,rfl,u0 _,rfl,u0 _,rfl,u0 _,rfl,by first | (rw [RgN.cnt_T (by simpa using c6)];exact Sub.nil0) | (rw [RgN.cnt_T (by simpa using c6)];exact u0 _) | (rw [RgN.cnt_F (by simpa using c6)];exact u0 _),rfl,by first | (rw [RgN.cnt_T (by simpa using c6)];exact Sub.nil0) | (rw [RgN.cnt_T (by simpa using c6)];exact u0 _) | (rw [RgN.cnt_F (by simpa using c6)];exact u0 _),rfl,u0 _,rfl,u0 _,rfl,trivial⟩,yH⟩,rfl,rfl⟩,?_⟩;refine zB (zZ zL [] mK3 900 yQ kr rfl ?_);refine zF ?_;refine zO _ (wA (-1) de de) rfl ?_;refine zF ?_;refine zO _ (jL _ true _ 1 (Au z5 de) (by rw [jO0];decide)) rfl ?_;refine zF ?_;refine zO _ (gQ sc _ (VL lc) _ om (Au z6 de)) rfl ?_;refine zF ?_;refine zO _ (jL sa _ (VL la) _ om (Au z7 de)) rfl ?_;refine zF ?_;refine zC (zA (zJ 1000 ?_));refine zK ?_;exact u4 rfl (u9 rfl)
theorem mS0 {C q r K : Int} (hC : 0 < C) (h0 : 0 <= r) (h1 : r < C) (hK : K = if 0 < r then q + 1 else q) : C * (K - 1) < r + C * q /\ r + C * q <= C * K := by
 subst hK;split
 ·rw [Int.add_sub_cancel,Int.mul_add,Int.mul_one];omega
 ·rw [Int.mul_sub,Int.mul_one];omega
theorem ceil_div {C G K : Int} (hC : 0 < C) (h1 : C * (K - 1) < G) (h2 : G <= C * K) : Int.fdiv (G + (C - 1)) C = K := by
 rw [Int.mul_sub,Int.mul_one] at h1;exact bR (r := G + (C - 1) - C * K) om (Or.inl ⟨hC,by omega,by omega⟩)
theorem ceil_le {C G K : Int} (hC : 0 < C) (h1 : C * (K - 1) < G) (h : G <= 0) : K <= 0 := by
 by_cases h2 : 0 < K
 ·have := Int.mul_nonneg (Int.le_of_lt hC) (show 0 <= K - 1 by omega);omega
 ·omega
theorem ceil_gt {C G K : Int} (hC : 0 < C) (h2 : G <= C * K) (h : 0 < G) : 0 < K := by
 by_cases h3 : 0 < K
 ·exact h3
 ·have := Eh (show K <= 0 by omega) (Int.le_of_lt hC);omega
theorem tN0 {b : Bool × Nat} {G C : Int} {K : Int} (hC : 0 < C) (h1 : C * (K - 1) < G) (h2 : G <= C * K) (hb : ZI b.1 b.2 = K) :
  (if b.1 = true then ((false,0) : Bool × Nat) else b) = (false,(if 0 < G then Int.fdiv (G + (C - 1)) C else 0).natAbs) /\ 0 <= (if 0 < G then Int.fdiv (G + (C - 1)) C else 0) := by
 rw [ceil_div hC h1 h2];obtain ⟨s,n⟩ := b
 cases s with
 | true =>
  rw [Ab rfl];have hb : -((n : Nat) : Int) = K := hb;by_cases h : 0 < G
  ·have := ceil_gt hC h2 h;omega
  ·rw [Aa h];exact ⟨rfl,by omega⟩
 | false =>
  rw [Aa Bool.false_ne_true];have hb : ((n : Nat) : Int) = K := hb;by_cases h : 0 < G
  ·rw [Ab h];exact ⟨by rw [<- hb];rfl,by omega⟩
  ·rw [Aa h];have := ceil_le hC h1 om;exact ⟨by rw [show n = 0 by omega];rfl,by omega⟩
theorem mL0 (x : RgN) (h0 : 0 < x.nc) : x.cnt = (false,(qF (ZI x.sa x.na) (ZI x.sb x.nb) (ZI x.sc x.nc)).natAbs) /\ 0 <= qF (ZI x.sa x.na) (ZI x.sb x.nb) (ZI x.sc x.nc) := by
 obtain ⟨d1,d2⟩ := dm_Z (s := x.g.1) (t := x.sc) (x := x.g.2) h0;have hg : ZI x.g.1 x.g.2 = ZI x.sb x.nb - ZI x.sa x.na := by
  unfold RgN.g;rw [yY1,yI1];omega
 rw [hg] at d1 d2;have hfm := Int.mul_fdiv_add_fmod (ZI x.sb x.nb - ZI x.sa x.na) (ZI x.sc x.nc);have hq : ZI x.q2.1 x.q2.2 = if 0 < x.r then Int.fdiv (ZI x.sb x.nb - ZI x.sa x.na) (ZI x.sc x.nc) + 1 else Int.fdiv (ZI x.sb x.nb - ZI x.sa x.na) (ZI x.sc x.nc) := by
  unfold RgN.q2;split
  ·rw [yY1];show ZI (x.g.1 != x.sc) _ + 1 = _;rw [<- d1];rfl
  ·exact d1
 have hr : x.r < x.nc := by
  show dmR x.g.1 x.sc x.g.2 x.nc < x.nc;have hm := Cj x.g.2 h0;unfold dmR;split <;> omega
 have hd2 : ZI x.sc x.r = Int.fmod (ZI x.sb x.nb - ZI x.sa x.na) (ZI x.sc x.nc) := d2;rw [<- hd2] at hfm;generalize Int.fdiv (ZI x.sb x.nb - ZI x.sa x.na) (ZI x.sc x.nc) = q at *;unfold RgN.cnt
 cases hs : x.sc with
 | false =>
  have e1 : ZI false x.nc = ((x.nc : Nat) : Int) := rfl;have e2 : ZI false x.r = ((x.r : Nat) : Int) := rfl;rw [hs,e1,e2] at hfm;have hl : qF (ZI x.sa x.na) (ZI x.sb x.nb) (ZI false x.nc) = if ZI x.sa x.na < ZI x.sb x.nb then Int.fdiv (ZI x.sb x.nb - ZI x.sa x.na + ((x.nc : Int) - 1)) x.nc else 0 := by
   unfold qF jA;rw [e1,Aa (show ¬ ((x.nc : Nat) : Int) < 0 by omega),Aa (show ¬ ((x.nc : Nat) : Int) < 0 by omega),Int.mul_one]
  rw [hl];obtain ⟨k1,k2⟩ := mS0 (C := x.nc) (q := q) (r := x.r) (K := ZI x.q2.1 x.q2.2) om om om (by rw [hq];split <;> split <;> omega)
  have h := tN0 (b := x.q2) (C := x.nc) (G := ZI x.sb x.nb - ZI x.sa x.na) om om om rfl;have e3 : (0 < ZI x.sb x.nb - ZI x.sa x.na) = (ZI x.sa x.na < ZI x.sb x.nb) := propext om;simp only [e3] at h;exact h
 | true =>
  have e1 : ZI true x.nc = -((x.nc : Nat) : Int) := rfl;have e2 : ZI true x.r = -((x.r : Nat) : Int) := rfl;rw [hs,e1,e2,Int.neg_mul] at hfm;have hl : qF (ZI x.sa x.na) (ZI x.sb x.nb) (ZI true x.nc) = if ZI x.sb x.nb < ZI x.sa x.na then Int.fdiv (ZI x.sa x.na - ZI x.sb x.nb + ((x.nc : Int) - 1)) x.nc else 0 := by
   unfold qF jA;rw [e1,Ab (show -((x.nc : Nat) : Int) < 0 by omega),Ab (show -((x.nc : Nat) : Int) < 0 by omega),show -((x.nc : Nat) : Int) * -1 = ((x.nc : Nat) : Int) by omega]
  rw [hl];obtain ⟨k1,k2⟩ := mS0 (C := x.nc) (q := q) (r := x.r) (K := ZI x.q2.1 x.q2.2) om om om (by rw [hq];split <;> split <;> omega)
  have h := tN0 (b := x.q2) (C := x.nc) (G := ZI x.sa x.na - ZI x.sb x.nb) om om om rfl;have e3 : (0 < ZI x.sa x.na - ZI x.sb x.nb) = (ZI x.sb x.nb < ZI x.sa x.na) := propext om;simp only [e3] at h;exact h
def PV.slN (sz : Nat) (rows : List (List PV)) : PV where
 one := true
 str := true
 p := fun w s v => (PV.sl false sz rows).p w s v /\ (rows = [] -> v = .slice none 0 0)
 mono := fun w s w' s' v hx h => ⟨(PV.sl false sz rows).mono w s w' s' v hx h.1,h.2⟩
 cell := fun _ w s v h => (PV.sl false sz rows).cell rfl w s v h.1
 strong := fun _ w s s' v hx h => ⟨(PV.sl false sz rows).strong rfl w s s' v hx h.1,h.2⟩
def slN {α : Type} (sz : Nat) (l : List α) (f : α -> List D) : D := .op (PV.slN sz (l.map fun a => D.pvs (f a)))
theorem Sub.slN {α : Type} {sz : Nat} {l : List α} {f : α -> List D} {e : α} : Sub (slN sz l f) (.sl false sz l f e) := fun _ _ _ _ h => h.1
section
variable {P : Program} {b : Ba} {ops : Array Oper}
theorem Fn.slN {α : Type} {g : FuncId} {args : List D} {sz : Nat} {l : List α} {f : α -> List D} {e : α} (h1 : l = [] -> Fn P g args (.v (.slice none 0 0))) (h2 : l ≠ [] -> Fn P g args (.sl false sz l f e)) : Fn P g args (slN sz l f) := by
 cases l with
 | nil =>
  refine (h1 rfl).out fun w s v hv => ?_;have hv : v = .slice none 0 0 := hv;subst hv;exact ⟨PV.sl_nil,fun _ => rfl⟩
 | cons x l => exact (h2 (by simp)).out fun w s v hv => ⟨hv,fun h => by simp at h⟩
theorem uO0 {T T' e : TypeId} {t3 t4 : Nat} {ty : TypeId} {pos : String} {aft : Array Edge} {rest : List Oper} {tm : List (Nat × TV)} {ow : List (Nat × Own)} {nx : Nat} {K : Ste -> Prop} {d : TV} {p : Prop} (hu : P.underlying T = some (.slice e)) (ht : fnd t3 tm = some d)
  (hd : ∀ w s g v,d.P w s g v -> ∃ a n c,v = .slice a n c /\ (a = none ↔ ¬ p)) (h4 : t4 < b.sz) (h : ∀ c : Bool,(c = true ↔ p) -> Run P b ops rest ⟨(t4,.pv (PV.lit (.bool c))) :: tm,ow,nx⟩ K) :
  Run P b ops (⟨some t4,.binOp .neq T (.tmp t3) (.const (.slice none 0 0)) T',ty,pos,aft,none⟩ :: rest) ⟨tm,ow,nx⟩ K := by
 intro w s g a Q hr hK;obtain ⟨v,hv,hp⟩ := hr.tm t3 d ht;obtain ⟨ad,n,c,rfl,hn⟩ := hd w s g v hp;refine wpList_step fun K' hK' => ?_;have hw : Region.wanted (⟨some t4,.binOp .neq T (.tmp t3) (.const (.slice none 0 0)) T',ty,pos,aft,none⟩ : Oper) (yielded ops a.tmps) = true := rfl;rw [hw];simp only [if_true];unfold Oper.wp;have hev : a.eval (.tmp t3) = .slice ad n c := by simp [Act.eval,hv]
 have hev0 : a.eval (.const (.slice none 0 0)) = .slice none 0 0 := rfl;have he : (execOp a.eval ⟨some t4,.binOp .neq T (.tmp t3) (.const (.slice none 0 0)) T',ty,pos,aft,none⟩).run P w = .ok (.value (.bool (!ad.isNone))) w := by
  have heq' : (Op.equal T (.slice ad n c) (.slice none 0 0)).run P w = .ok ad.isNone w := mH0 9999 hu w ad n c;simp [execOp,hev,hev0,eqGuard,binOp,heq']
 rw [he];refine hK' _ _ (h (!ad.isNone) (by cases ad with | none => simpa using hn | some _ => simpa using hn) w s g _ Q ?_ hK);exact (hr.step (acc := []) (acc' := []) (dst := some t4) (out := .pv (PV.lit (.bool (!ad.isNone)))) (v := .bool (!ad.isNone)) (nx := nx) (Stp.refl w s g hr.lt) (fun k c h => by cases h) (fun k c h => by cases h) (Ao _) (fun k c h => by cases h) (fun d hd => by cases hd;exact h4) rfl).congr (fun _ _ h => h) (fun _ _ h => h) (Ao _)
theorem ev_neRegion {α : Type} {id : Nat} {T T' e : TypeId} {t0 t3 t4 sz : Nat} {ty1 ty2 : TypeId} {pos1 pos2 : String} {aft1 aft2 : Array Edge} {l : List α} {f : α -> List D} {tm : List (Nat × D)} {ow : List (Nat × DOwn)} {nx : Nat} {K : Exit -> DS -> Prop} (hu : P.underlying T = some (.slice e)) (h0 : yT t0 tm = some (slN sz l f))
  (h3 : Nat.blt t3 b.sz = true) (h4 : Nat.blt t4 b.sz = true) (h : ∀ c : Bool,(c = true ↔ l ≠ []) -> K .normal ⟨(t4,.v (.bool c)) :: (t3,slN sz l f) :: tm,ow,nx⟩) :
  Ev P b (.region id #[⟨some t3,.move (.tmp t0),ty1,pos1,aft1,none⟩,⟨some t4,.binOp .neq T (.tmp t3) (.const (.slice none 0 0)) T',ty2,pos2,aft2,none⟩] false) ⟨tm,ow,nx⟩ K := by
 intro w s g a Q hr hK;have h0' : fnd t0 (tvs tm) = some (slN sz l f).tv := by rw [qD,h0];rfl
 have hR : Run P b #[⟨some t3,.move (.tmp t0),ty1,pos1,aft1,none⟩,⟨some t4,.binOp .neq T (.tmp t3) (.const (.slice none 0 0)) T',ty2,pos2,aft2,none⟩] [⟨some t3,.move (.tmp t0),ty1,pos1,aft1,none⟩,⟨some t4,.binOp .neq T (.tmp t3) (.const (.slice none 0 0)) T',ty2,pos2,aft2,none⟩] ⟨tvs tm,ows ow,nx⟩ (fun S' => ∃ S,S' = DS.ste S /\ K .normal S) := by
  refine jH1 (out := (slN sz l f).tv) (gN0 h0') rfl h3 ?_;refine uO0 (d := (slN sz l f).tv) (p := l ≠ []) hu (by show fnd t3 ((t3,(slN sz l f).tv) :: tvs tm) = _;rw [yF];simp) (fun w s g v hv => ?_) (Ar h4) fun c hc => wZ0 ⟨⟨(t4,.v (.bool c)) :: (t3,slN sz l f) :: tm,ow,nx⟩,rfl,h c hc⟩;obtain ⟨⟨a,cap,g1,g2,g3,g4,g5⟩,hn⟩ := hv;refine ⟨a,_,cap,g1,?_⟩
  cases l with
  | nil =>
   have := hn rfl;rw [g1] at this
   cases this;simp
  | cons x l =>
   obtain ⟨b',off,e1,_⟩ := g5 0 (D.pvs (f x)) rfl;rw [e1];simp
 refine wp_region_lit (hR w s g a Q hr fun w' s' g' a' S' g1 g2 => ?_);obtain ⟨S,rfl,g3⟩ := g2;exact hK .normal w' s' g' a' S g1 g3
end
variable {md me : Bool}
structure RgO (o : Ob) : Prop where
 n : 2 < o.items.length
 il : o.items.length <= 2000000
 le : ∀ j < 3,(o.items.getD j vl0).nl.length <= 40
 lg : ∀ j < 3,Lg (o.items.getD j vl0).nl
 ok : ∀ j < 3,uV (o.items.getD j vl0).nn (o.items.getD j vl0).nl = true
 c0 : 0 < VL (o.items.getD 2 vl0).nl
def rgO (o : Ob) : RgN := ⟨(o.items.getD 0 vl0).nn,VL (o.items.getD 0 vl0).nl,(o.items.getD 1 vl0).nn,VL (o.items.getD 1 vl0).nl,(o.items.getD 2 vl0).nn,VL (o.items.getD 2 vl0).nl⟩
def rlO (o : Ob) : Int := qF (ZI (rgO o).sa (rgO o).na) (ZI (rgO o).sb (rgO o).nb) (ZI (rgO o).sc (rgO o).nc)
theorem rgL_D {sa sb sc : Bool} {la lb lc : List Nat} (ga : Lg la) (gb : Lg lb) (gc : Lg lc) (ha : uV sa la = true) (hb : uV sb lb = true) (hc : uV sc lc = true) : rgL sa sb sc la lb lc = rgD (ZI sa (VL la)) (ZI sb (VL lb)) (ZI sc (VL lc)) := by
 obtain ⟨a1,a2,_⟩ := pP ga ha;obtain ⟨b1,b2,_⟩ := pP gb hb;obtain ⟨c1,c2,_⟩ := pP gc hc;unfold rgL rgD;rw [pZ,pZ,pZ,<- a1,<- b1,<- c1,<- a2,<- b2,<- c2]
theorem RgO.dat {o : Ob} (h : RgO o) : rgL (o.items.getD 0 vl0).nn (o.items.getD 1 vl0).nn (o.items.getD 2 vl0).nn (o.items.getD 0 vl0).nl (o.items.getD 1 vl0).nl (o.items.getD 2 vl0).nl = rgD (ZI (rgO o).sa (rgO o).na) (ZI (rgO o).sb (rgO o).nb) (ZI (rgO o).sc (rgO o).nc) :=
 rgL_D (h.lg 0 de) (h.lg 1 de) (h.lg 2 de) (h.ok 0 de) (h.ok 1 de) (h.ok 2 de)
theorem RgO.siz {o : Ob} (h : RgO o) : (lim (ZI (rgO o).sa (rgO o).na).natAbs).length <= 40 /\ (lim (ZI (rgO o).sb (rgO o).nb).natAbs).length <= 40 /\ (lim (ZI (rgO o).sc (rgO o).nc).natAbs).length <= 40 /\ ZI (rgO o).sc (rgO o).nc ≠ 0 := by
 rw [pZ,pZ,pZ];refine ⟨?_,?_,?_,fun e => ?_⟩
 ·show (lim (VL (o.items.getD 0 vl0).nl)).length <= 40;rw [<- (pP (h.lg 0 de) (h.ok 0 de)).1];exact h.le 0 de
 ·show (lim (VL (o.items.getD 1 vl0).nl)).length <= 40;rw [<- (pP (h.lg 1 de) (h.ok 1 de)).1];exact h.le 1 de
 ·show (lim (VL (o.items.getD 2 vl0).nl)).length <= 40;rw [<- (pP (h.lg 2 de) (h.ok 2 de)).1];exact h.le 2 de
 ·have h1 := pZ (rgO o).sc (rgO o).nc;rw [e] at h1;have h2 := h.c0;have h3 : (rgO o).nc = VL (o.items.getD 2 vl0).nl := rfl;rw [<- h3,<- h1] at h2;exact absurd h2 de
theorem dJ0 {P : Program} {E : Pn} {K : DS -> Prop} {p : Prop} {r : Out} (hr : r.sat P E K) (hp : p := by first | exact trivial | (refine ⟨by decide,?_⟩;have := ho.n;show _ < o.items.length;omega) | (refine ⟨by decide,?_⟩;have := ho.n;simp only [Bb];show _ < o.items.length;omega)) : (Out.need p r).sat P E K := ⟨hp,hr⟩
theorem gL (o : Ob) (ho : RgO o) : Fx 66 [.agg (obD o)] (.agg (rgL (o.items.getD 0 vl0).nn (o.items.getD 1 vl0).nn (o.items.getD 2 vl0).nn (o.items.getD 0 vl0).nl (o.items.getD 1 vl0).nl (o.items.getD 2 vl0).nl)) := by
 refine yD zL Tryz.func66 rfl rfl rfl rfl rfl rfl ?_;intro w0 s0 mx;refine zB (zE zL [] 100 rfl ?_);repeat (first | refine zH ?_ | refine dJ0 ?_)
 refine zC (zA ?_);refine zB (zZ zL [] [[],[0],[0,1],[0,1,2],[0,1,2,3],[],[5],[5,6],[5,6,7],[5,6,7,8],[],[10],[10,11],[10,11,12],[10,11,12,13],(rgN 15),(rgN 16)] 200 yQ kr rfl ?_);repeat (first | refine zH ?_ | refine dJ0 ?_)
 refine zC (zA (zK ?_));exact u4 rfl (u6 _)
theorem wV0 (o : Ob) (ho : RgO o) : Fx 71 [.agg (obD o)] (RgN.D (rgO o)) := by
 refine yD zL Tryz.func71 rfl rfl rfl rfl rfl rfl ?_;intro w0 s0 mx;refine zB (zE zL [] 100 rfl ?_);repeat (first | refine zH ?_ | refine dJ0 ?_)
 refine zC (zA ?_);refine zB (zZ zL [] [[],[0],[0,1],[0,1,2],[0,1,2,3],[],[5],[5,6],[5,6,7],[5,6,7,8],[],[10],[10,11],[10,11,12],[10,11,12,13],(rgN 15),(rgN 16),(rgN 17)] 200 yQ kr rfl ?_);repeat (first | refine zH ?_ | refine dJ0 ?_)
 refine zO _ (RangeOf_ok _ _ _ (o.items.getD 0 vl0).nl (o.items.getD 1 vl0).nl (o.items.getD 2 vl0).nl (ho.le 0 de) (ho.le 1 de) (ho.le 2 de) (ho.lg 0 de) (ho.lg 1 de) (ho.lg 2 de) ho.c0) rfl ?_;repeat (first | refine zH ?_ | refine dJ0 ?_)
 refine zC (zA (zK ?_));exact u4 rfl (u6 _)
theorem refZero_ok (b : Bool) (n : Nat) : Fx 166 [rD b n] (.v (.bool (decide (n = 0)))) := by
 refine yD zL Tryz.func166 rfl rfl rfl rfl rfl rfl ?_;intro w0 s0 mx;refine zJ 100 ?_;refine zJ 200 ?_;refine zK ?_;exact u4 rfl (u7 (by rw [Df,Ak,Ak];have := mC n;omega))
theorem attempts_nil (h : List Ob) (v : Vl) (s : ByteArray) (l : List Vl) (hh : HpIn h) (g : Uh h) (hv : v.k = 6 -> yY h v.r = true) (hl : l.length <= 1000000) (hs : (spS h v s).2.2 = false) : Fx 67 [hpD md h,.agg (vlD v),.v (.string s),vsD l] (.v (.slice none 0 0)) := by
 refine yD zL Tryz.func67 rfl rfl rfl rfl rfl rfl ?_;intro w0 s0 mx;refine zJ 100 ?_;refine zB ?_;refine zB (zE zL [] 200 rfl ?_);refine zF ?_;refine zO _ (bZ _ _ _ _ ao ao ao ao) rfl ?_;refine zF ?_;refine zC (zA (zJ 300 ?_));refine zW (fun c2 => ?_) (fun c2 => ?_)
 ·
  simp_all
 ·
  refine zM (zA (zJ 500 ?_));refine zK ?_;exact u4 rfl (u6 _)
theorem attS_nil {h : List Ob} {v : Vl} {s : ByteArray} {l : List Vl} : attS h v s l = [] ↔ (spS h v s).2.2 = false := by
 unfold attS;split
 ·rename_i e;simp [e]
 ·rename_i e;simpa using e
theorem zF0 (h : List Ob) (v : Vl) (s : ByteArray) (l : List Vl) (hh : HpIn h) (g : Uh h) (hv : v.k = 6 -> yY h v.r = true) (hl : l.length <= 1000000) : Fx 67 [hpD md h,.agg (vlD v),.v (.string s),vsD l] (slN 18 (attS h v s l) stD) :=
 Fn.slN (e := st0) (fun e => attempts_nil h v s l hh g hv hl (attS_nil.1 e)) (fun _ => attempts_ok h v s l hh g hv hl)
variable {md me : Bool}
theorem lim_zI (a : Int) : ((lim a.natAbs).length : Int) = 0 ↔ a = 0 := by
 constructor
 ·intro h;have : lim a.natAbs = [] := Bk om;rw [lim_nil] at this;omega
 ·rintro rfl;rw [show (0 : Int).natAbs = 0 from rfl,qI];rfl
theorem xN0 {x s : Int} (hx : 0 < x) (hs : 0 < s) : 0 < Int.fdiv (x + (s - 1)) s /\ Int.fdiv (x + (s - 1)) s <= x /\ s * (Int.fdiv (x + (s - 1)) s - 1) < x := by
 rw [Int.fdiv_eq_ediv_of_nonneg _ om];have h1 := Int.mul_ediv_add_emod (x + (s - 1)) s;have h2 := Int.emod_nonneg (x + (s - 1)) (show s ≠ 0 by omega);have h3 := Int.emod_lt_of_pos (x + (s - 1)) hs;generalize (x + (s - 1)) / s = q at *;have h4 : s * (q - 1) = s * q - s := by rw [Int.mul_sub,Int.mul_one]
 have h5 : 0 < q := by
  rcases Int.lt_or_le 0 q with h | h
  ·exact h
  ·have := Eh h (show 0 <= s by omega);omega
 refine ⟨h5,?_,by omega⟩;have h6 : (q - 1) * 1 <= (q - 1) * s := Eh om om;rw [Int.mul_comm (q - 1) s] at h6;omega
theorem sg_pos {c : Int} (h : c ≠ 0) : 0 < c * jA c /\ (c * jA c = c \/ c * jA c = -c) := by unfold jA;split <;> omega
theorem dP0 (a b : Int) {c : Int} (h0 : c ≠ 0) : 0 <= qF a b c /\ (qF a b c).natAbs <= (b - a).natAbs /\ (qF a b c ≠ 0 -> (c * (qF a b c - 1)).natAbs <= (b - a).natAbs) := by
 obtain ⟨s1,s2⟩ := sg_pos h0;unfold qF;have key : ∀ x : Int,0 < x -> x <= (b - a).natAbs -> 0 <= Int.fdiv (x + (c * jA c - 1)) (c * jA c) /\ (Int.fdiv (x + (c * jA c - 1)) (c * jA c)).natAbs <= (b - a).natAbs /\ (Int.fdiv (x + (c * jA c - 1)) (c * jA c) ≠ 0 -> (c * (Int.fdiv (x + (c * jA c - 1)) (c * jA c) - 1)).natAbs <= (b - a).natAbs) := by
  intro x hx hle;obtain ⟨h1,h2,h3⟩ := xN0 hx s1;generalize Int.fdiv (x + (c * jA c - 1)) (c * jA c) = q at *;refine ⟨by omega,by omega,fun _ => ?_⟩;have h4 : 0 <= c * jA c * (q - 1) := Int.mul_nonneg om om;have h5 : c * (q - 1) = c * jA c * (q - 1) \/ c * (q - 1) = -(c * jA c * (q - 1)) := by
   rcases s2 with e | e
   ·rw [e];exact .inl rfl
   ·rw [e,Int.neg_mul,Int.neg_neg];exact .inr rfl
  omega
 split
 ·split
  ·exact key (a - b) om om
  ·exact ⟨Int.le_refl _,by simp,fun h => absurd rfl h⟩
 ·split
  ·exact key (b - a) om om
  ·exact ⟨Int.le_refl _,by simp,fun h => absurd rfl h⟩
theorem xA0 {a b c : Int} (ha : (lim a.natAbs).length <= 40) (hb : (lim b.natAbs).length <= 40) (h0 : c ≠ 0) : (lim (qF a b c).natAbs).length <= 41 :=
 Au (qR (dP0 a b h0).2.1) (qJ hb ha)
theorem dO0 {a b c : Int} (ha : (lim a.natAbs).length <= 40) (hb : (lim b.natAbs).length <= 40) (h0 : c ≠ 0) (hn : qF a b c ≠ 0) : (lim (c * (qF a b c - 1)).natAbs).length <= 41 /\ (lim (a + c * (qF a b c - 1)).natAbs).length <= 42 := by
 have h1 : (lim (c * (qF a b c - 1)).natAbs).length <= 41 := Au (qR ((dP0 a b h0).2.2 hn)) (qJ hb ha);exact ⟨h1,pL om h1⟩
def rgQ (a b c x y z : Int) : Bool := decide (qF a b c = qF x y z) && (decide (qF a b c = 0) || (decide (a - x = 0) && decide (a + c * (qF a b c - 1) - (x + z * (qF a b c - 1)) = 0)))
theorem pF (a : Int) : Fx 123 [.agg (zV a)] (.v (.bool (decide (a = 0)))) := by
 refine yD zL Tryz.func123 rfl rfl rfl rfl rfl rfl ?_;intro w0 s0 mx;refine zJ 100 ?_;refine zJ 200 ?_;refine zK ?_;exact u4 rfl (u7 (by rw [Df,Ak,Ak];exact lim_zI a))
theorem uR0 (a b c i : Int) (ha : (lim a.natAbs).length <= 128) (hc : (lim c.natAbs).length <= 128) (hi : (lim i.natAbs).length <= 128) (h1 : (lim (c * i).natAbs).length <= 128) (h2 : (lim (a + c * i).natAbs).length <= 128) : Fx 159 [.agg (rgD a b c),.agg (zV i)] (.agg (zV (a + c * i))) := by
 refine yD zL Tryz.func159 rfl rfl rfl rfl rfl rfl ?_;intro w0 s0 mx;refine zJ 100 ?_;refine zB (zZ zL [] [[],[0],[],[2],[],[2,3,4],(rgN 6),(rgN 7)] 200 yQ kr rfl ?_);refine zF ?_;refine zO _ (kA0 c i hc hi h1) rfl ?_;refine zF ?_;refine zO _ (qG0 a (c * i) ha h1 h2) rfl ?_;refine zf (zA (zK ?_));exact u4 rfl (u6 _)
theorem rgSame_ok (a b c x y z : Int) (ha : (lim a.natAbs).length <= 40) (hb : (lim b.natAbs).length <= 40) (hc : (lim c.natAbs).length <= 40) (h0 : c ≠ 0) (hx : (lim x.natAbs).length <= 40) (hy : (lim y.natAbs).length <= 40) (hz : (lim z.natAbs).length <= 40) (h0z : z ≠ 0) : Fx 94 [.agg (rgD a b c),.agg (rgD x y z)] (.tup [.v (.bool (rgQ a b c x y z)),faD 0 0]) := by
 have hn := xA0 ha hb h0;have hm := xA0 hx hy h0z;have hl1 : (lim (1 : Int).natAbs).length = 1 := kJ;refine yD zL Tryz.func94 rfl rfl rfl rfl rfl rfl ?_;intro w0 s0 mx;refine zJ 100 ?_;refine zB ?_;refine zB (zE zL [] 200 rfl ?_);refine zF ?_;refine zO _ ((rgCheck_ok [(a,b,c),(x,y,z)] (fun k hk => by rcases k with _ | _ | k;exact ⟨ha,hb,hc,h0⟩;exact ⟨hx,hy,hz,h0z⟩;exact absurd hk (by simp)) (by show 2 <= 100;omega)).args ⟨u18 rfl,trivial⟩) rfl ?_;refine zF ?_;refine zC (zA (zJ 300 ?_));refine zW (fun c2 => ?_) (fun c2 => ?_)
 ·
  exact absurd c2 de
 ·
  refine zM (zA ?_);refine zB (zZ zL [] [[],[0],[],[0,1,2],[],[],(rgN 6),(rgN 7)] 500 yQ kr rfl ?_);refine zF ?_;refine zO _ (kF a b c ha hb hc h0) rfl ?_;refine zF ?_;refine zO _ (kF x y z hx hy hz h0z) rfl ?_;refine zf (zA (zB ?_));refine zB (zE zL [] 600 rfl ?_);refine zF ?_;refine zO _ (kD (qF a b c) (qF x y z) om om) rfl ?_;refine zF ?_;refine yK _ (fun hg6 => kD (qF x y z) (qF a b c) om om) rfl ?_;refine zF ?_;refine zC (zA (zT rfl (fun c5 => ?_) (fun c5 => ?_)))
  ·have c5 : qF a b c < qF x y z \/ qF x y z < qF a b c := by simpa using c5
   refine zJ 700 ?_;refine zK (zN ?_);exact u4 rfl (u19 ⟨u7 (by rw [rgQ,Bz om];rfl),u6 _,trivial⟩)
  ·have c5 : ¬ (qF a b c < qF x y z \/ qF x y z < qF a b c) := by simpa using c5
   have hN : qF a b c = qF x y z := by omega
   refine zM (zA (zB ?_));refine zB (zE zL [] 800 rfl ?_);refine zF ?_;refine zO _ (pF (qF a b c)) rfl ?_;refine zF ?_;refine zC (zA (zT rfl (fun c7 => ?_) (fun c7 => ?_)))
   ·have c7 : qF a b c = 0 := by simpa using c7
    refine zJ 900 ?_;refine zK (zN ?_);exact u4 rfl (u19 ⟨u7 (by rw [rgQ,Aw hN,Aw c7];rfl),u6 _,trivial⟩)
   ·have c7 : ¬ qF a b c = 0 := by simpa using c7
    have hN1 : (lim (qF a b c - 1).natAbs).length <= 42 := by have := qJ (k := 41) (a := qF a b c) (b := 1) (by omega) (by omega);omega
    obtain ⟨p1,p2⟩ := dO0 ha hb h0 c7;obtain ⟨q1,q2⟩ := dO0 hx hy h0z om;rw [<- hN] at q1 q2;refine zM (zA ?_);refine zB (zZ zL [] [[],[],[0,1],[],[0,1,2,3]] 1000 yQ kr rfl ?_);refine zF ?_;refine zO _ (pQ 1 de de) rfl ?_;refine zF ?_;refine zO _ (wU (qF a b c) 1 om om om) rfl ?_;refine zf (zA ?_);refine zB (zZ zL [] [[],[0],[],[2],[0,1,2,3],(rgN 5),(rgN 6),(rgN 7),(rgN 7),(rgN 9),(rgN 7),(rgN 7),(rgN 12),(rgN 13),(rgN 14),(rgN 15),[],(rgN 16),(rgN 18)] 1100 yQ kr rfl ?_);refine zF ?_;refine zO _ (wU a x om om (by have := qJ ha hx;omega)) rfl ?_;refine zF ?_;refine zO _ (pF (a - x)) rfl ?_;refine zF ?_;refine yK _ (fun hg9 => uR0 a b c (qF a b c - 1) om om om om om) rfl ?_;refine zF ?_;refine yK _ (fun hg12 => uR0 x y z (qF a b c - 1) om om om om om) rfl ?_;refine zF ?_;refine yK _ (fun hg13 => wU (a + c * (qF a b c - 1)) (x + z * (qF a b c - 1)) om om (by have := qJ p2 q2;omega)) rfl ?_;refine zF ?_;refine yK _ (fun hg14 => pF (a + c * (qF a b c - 1) - (x + z * (qF a b c - 1)))) rfl ?_;refine zf (zA (zK ?_));exact u4 rfl (u19 ⟨u7 (by rw [rgQ,Aw hN,Bz c7];rfl),u6 _,trivial⟩)
variable {md me : Bool}
namespace Qr
def vQ (n : Int) (d : Nat) : Vl := if d = 1 then nuV n else ⟨3,decide (n < 0),lim n.natAbs,false,lim d,ByteArray.empty,0⟩
structure Q (n : Int) (d : Nat) : Prop where
 d0 : 0 < d
 co : Nat.gcd n.natAbs d = 1
 nl : (lim n.natAbs).length <= 128
 dl : (lim d).length <= 128
def nV (v : Vl) : Int := ZI v.nn (VL v.nl)
def dV (v : Vl) : Nat := if v.k = 3 then VL v.dl else 1
structure Nm (v : Vl) : Prop where
 k : v.k = 2 \/ v.k = 3
 q : Q (nV v) (dV v)
 e : v = vQ (nV v) (dV v)
section
variable {v w : Vl} (p : Nm v) (q : Nm w)
include p q
end
end Qr
namespace Qr
end Qr
namespace Qr
end Qr
variable {md me : Bool}
variable {md me : Bool}
variable {md me : Bool}
theorem and5 : ∀ a b c d e : Bool,((((a && b) && c) && d) && e) = ((((a && e) && d) && b) && c) := by decide
theorem mI (b1 b2 : Bool) (l1 l2 : List Nat) : Fx 154 [.agg [.v (.bool b1),usD l1],.agg [.v (.bool b2),usD l2]] (.v (.bool (smI b1 l1 b2 l2))) := by
 refine yD zL Tryz.func154 rfl rfl rfl rfl rfl rfl ?_;intro w0 s0 mx;refine zJ 100 ?_;refine zB (zE zL [] 200 rfl ?_);refine zF ?_;refine yK _ (fun hg10 => wN0 _ _) rfl ?_;refine zf (zA (zK ?_));exact u4 rfl (u6 _)
theorem gV (a b : Vl) : Fx 90 [.agg (vlD a),.agg (vlD b)] (.v (.bool (decide (a = b)))) := by
 refine yD zL Tryz.func90 rfl rfl rfl rfl rfl rfl ?_;intro w0 s0 mx;refine zJ 100 ?_;refine zB (zE zL [] 200 rfl ?_);refine zF ?_;refine yK _ (fun hg10 => mI _ _ _ _) rfl ?_;refine zF ?_;refine yK _ (fun hg17 => mI _ _ _ _) rfl ?_;refine zf (zA (zK ?_));exact u4 rfl (u7 ((and5 _ _ _ _ _).trans (zD1 a b)))
def eqF (F : Vl -> Vl -> Bool) (a b : List Vl) : Bool := decide ((a.length : Int) = b.length) && (List.range a.length).all (prP F a b)
def cpD (md : Bool) (h : List Ob) : D := .pt true [.sl md 10 h obD ob0]
def zQ0 (h : List Ob) (F : Vl -> Vl -> Bool) (v w : Vl) : Bool :=
 if ¬ v.k = 6 \/ ¬ w.k = 6 then decide (v = w) else if v.r = w.r then true
 else decide ((yJ h v.r).kind = 1) && decide ((yJ h w.r).kind = 1) && eqF F (yJ h v.r).items (yJ h w.r).items
theorem EqualFunc_ok (h : List Ob) (a b : List Vl) (F : Vl -> Vl -> Bool) (ha : a.length <= 2000000) (H : ∀ x ∈ a,∀ y ∈ b,Fx 116 [.agg (vlD x),.agg (vlD y),cpD md h] (.v (.bool (F x y)))) : Fx 91 [vsD a,vsD b,.clo 116 [cpD md h]] (.v (.bool (eqF F a b))) := by
 refine yD zL Tryz.func91 rfl rfl rfl rfl rfl rfl ?_;intro w0 s0 mx;refine zJ 100 ?_;refine zB (zJ 200 ?_);refine zT rfl (fun c1 => ?_) (fun c1 => ?_)
 ·replace c1 : ¬ (a.length : Int) = b.length := by simpa using c1
  refine zJ 300 ?_;refine zK (zN ?_);exact u4 rfl (u7 (by rw [eqF,Bz c1];rfl))
 ·replace c1 : (a.length : Int) = b.length := by simpa using c1
  refine zM (zA (zB (zJ 400 ?_)));refine zR ?_;refine yC (ι := Up a.length (prP F a b)) [1,2,15,16] [] 450 (fun x => [(17,.v (.int .i64 x.k))]) (fun _ => []) (fun x => a.length - x.k) ⟨0,Ap _,fun j hj => by omega⟩ ?_;refine ⟨⟨yM,yH,rfl,rfl⟩,fun x => ?_⟩;have hk := x.le;refine zJ 500 ?_;refine zB (zW (fun c4 => ?_) (fun c4 => ?_))
  ·
   refine zM (zA (zB (zR (zJ 600 ?_))));refine zJ 700 ?_;refine zB (zE zL [] 800 rfl ?_);refine zF ?_;refine zO _ (H _ (by rw [qN c4];exact Be _) _ (by rw [qN om];exact Be _)) rfl ?_;refine zF ?_;refine zC (zA (zW (fun c7 => ?_) (fun c7 => ?_)))
   ·
    refine zJ 900 ?_;refine zK (zQ (zN (yL (zQ (zN ?_)))));exact u4 rfl (u7 (by rw [eqF,Up.no (p := prP F a b) c4 c7,Bool.and_false]))
   ·
    refine zM (zP (zA (yN zL [] 1000 ?_)));exact zS (x.next c4 c7) ⟨yM,yH,rfl,rfl⟩ (by show a.length - (x.k + 1) < a.length - x.k;omega)
  ·
   refine yE (yA (yB (zX (zA (zJ 1100 ?_)))));refine zK ?_;exact u4 rfl (u7 (by rw [eqF,Aw c1,x.yes om];rfl))
theorem SameKeyC_ok (h : List Ob) (x y : Vl) (b : Bool) (H : Fx 62 [hpD md h,.agg (vlD x),.agg (vlD y)] (.v (.bool b))) : Fx 116 [.agg (vlD x),.agg (vlD y),cpD md h] (.v (.bool b)) := by
 refine yD zL Tryz.func116 rfl rfl rfl rfl rfl rfl ?_;intro w0 s0 mx;refine zJ 100 ?_;refine zB (zE zL [] 200 rfl ?_);refine zF ?_;refine zO _ (H) rfl ?_;refine zf (zA (zK ?_));exact u4 rfl (u6 _)
theorem gX (h : List Ob) (v w : Vl) (F : Vl -> Vl -> Bool) (hh : HpIn h) (hv : v.k = 6 -> inH h v.r) (hw : w.k = 6 -> inH h w.r) (H : v.k = 6 -> w.k = 6 -> (yJ h v.r).kind = 1 -> ∀ x ∈ (yJ h v.r).items,∀ y ∈ (yJ h w.r).items,Fx 62 [hpD md h,.agg (vlD x),.agg (vlD y)] (.v (.bool (F x y)))) : Fx 62 [hpD md h,.agg (vlD v),.agg (vlD w)] (.v (.bool (zQ0 h F v w))) := by
 refine yD zL Tryz.func62 rfl rfl rfl rfl rfl rfl ?_;intro w0 s0 mx;refine zJ 100 ?_;refine zB (zJ 200 ?_);refine zT rfl (fun c1 => ?_) (fun c1 => ?_)
 ·replace c1 : ¬ v.k = 6 \/ ¬ w.k = 6 := by simpa [Classical.or_iff_not_imp_left] using c1
  refine zB (zE zL [] 300 rfl ?_);refine zF ?_;refine zO _ (gV _ _) rfl ?_;refine zf (zA (zK (zN ?_)));exact u4 rfl (u7 (by rw [zQ0,Ab c1]))
 ·replace c1 : ¬ (¬ v.k = 6 \/ ¬ w.k = 6) := by simpa using c1
  refine zM (zA (zB (zJ 400 ?_)));refine zW (fun c3 => ?_) (fun c3 => ?_)
  ·
   refine zJ 500 ?_;refine zK (zN ?_);exact u4 rfl (u7 (by rw [zQ0,Aa c1,Ab c3]))
  ·
   refine zM (zA ?_);refine zB (zZ zL [] [[],[0],[],[2],[0,1,2,3],(rgN 5),[],[6],[],[8],[6,7,8,9],[6,7,8,9,10],[],[],[0,1,2,3,4,5,12,13],(rgN 15)] 600 yQ kr rfl ?_);repeat (first | refine zH ?_ | refine zU (by first | exact hv (by omega) | exact hw (by omega)) ?_)
   refine zC (zA ?_);refine zB (zE zL [] 700 rfl ?_);refine zF ?_;refine ⟨fun hs => ?_,fun hs => ?_⟩
   ·refine zF ?_;refine qE0 _ (fun hg => EqualFunc_ok h _ _ F (hh.at v.r).il fun x hx y hy => SameKeyC_ok h x y _ (H om om (by have h1 : (decide ((yJ h v.r).kind = 1) && decide ((yJ h w.r).kind = 1)) = true := hs;simp only [Ai,Ak] at h1;exact h1.1) x hx y hy)) rfl rfl ?_;refine zf (zA (zK ?_));exact u4 rfl (u7 (by rw [zQ0,Aa c1,Aa c3,show (decide ((yJ h v.r).kind = 1) && decide ((yJ h w.r).kind = 1)) = true from hs,Dy]))
   ·refine zF ?_;refine yK (.v (.bool false)) (fun hg => by rw [hs] at hg;cases hg) rfl ?_;refine zf (zA (zK ?_));exact u4 rfl (u7 (by rw [zQ0,Aa c1,Aa c3,show (decide ((yJ h v.r).kind = 1) && decide ((yJ h w.r).kind = 1)) = false from hs];rfl))
def Rv (h : List Ob) (v : Vl) : Prop := v.k = 6 -> yY h v.r = true
theorem bO {h : List Ob} {v : Vl} (hr : Rv h v) (hk : v.k = 6) : zY h v = yJ h v.r := qR0 hr hk
theorem kK0 {h : List Ob} {v : Vl} (hk : (zY h v).kind = 1) : v.k = 6 := (vU (by rw [hk];decide)).1
theorem vJ0 {h : List Ob} (g : Uh h) {n : Int} (hn : yY h n = true) {v : Vl} (hv : v ∈ (yJ h n).items) : Rv h v := fun hk => g.items (yV hn) hv hk
theorem gM0 {v : Vl} (h : qZ v = true) (hk : v.k = 6) : v = ⟨6,false,[],false,[],⟨#[]⟩,v.r⟩ := by
 unfold qZ at h;rw [Aa om,Aa om,Aa om,Aa om,Aa om,Aa om,Aa om,Ab hk] at h;simp only [Ai,zI,wY0,emS,Ak] at h;obtain ⟨⟨⟨h1,h2⟩,h3,h4⟩,h5⟩ := h
 cases v
 simp_all
theorem ref_eq {v w : Vl} (h1 : qZ v = true) (h2 : qZ w = true) (hv : v.k = 6) (hw : w.k = 6) (hr : v.r = w.r) : v = w := by
 rw [gM0 h1 hv,gM0 h2 hw,hr]
theorem kR0 {h : List Ob} (g : Uh h) {n : Int} (hn : yY h n = true) (h1 : (yJ h n).kind = 1) {v : Vl} (hv : v ∈ (yJ h n).items) : qZ v = true := by
 have hin := yV hn;by_cases h49 : n.toNat < 49
 ·rw [show yJ h n = bgO n.toNat from g.lo_at h49] at h1;exact absurd h1 (by show ¬ (9 : Int) = 1;decide)
 ·have e : qZ (fixV (yJ h ((n.toNat : Nat) : Int)) v) = true := (yY0 (g.hi_at om hin.2).vals).ok v (Az.2 (.inr hv))
  rwa [fixV,Aa (by rw [<- kZ hin,h1];omega)] at e
theorem mZ0 {n : Nat} {p q : Nat -> Bool} (h : ∀ i,i < n -> p i = q i) : (List.range n).all p = (List.range n).all q := by
 rw [Df,Bf,Bf];exact ⟨fun hp i hi => by rw [<- h i (Cu.1 hi)];exact hp i hi,fun hp i hi => by rw [h i (Cu.1 hi)];exact hp i hi⟩
section
variable {h : List Ob} {F G : Vl -> Vl -> Bool}
theorem zY0 (hr : ∀ x,G x x = true) (v : Vl) : zP0 h G v v = true := by
 by_cases hk : (zY h v).kind = 1 /\ (zY h v).kind = 1
 ·rw [wB hk,Aw rfl,Dy,Bf];intro i _;exact hr _
 ·rw [wT hk,Aw rfl]
theorem stepK_symm (hs : ∀ x y,G x y = G y x) (v w : Vl) : zP0 h G v w = zP0 h G w v := by
 by_cases hk : (zY h v).kind = 1 /\ (zY h w).kind = 1
 ·rw [wB hk,wB hk.symm];by_cases hl : ((zY h v).items.length : Int) = (zY h w).items.length
  ·have hl' : (zY h v).items.length = (zY h w).items.length := by omega
   rw [Aw hl,Aw hl.symm,<- hl'];exact congrArg _ (mZ0 fun i _ => hs _ _)
  ·rw [Bz hl,Bz (fun e => hl e.symm)];rfl
 ·rw [wT hk,wT fun e => hk e.symm];exact decide_eq_decide.2 eq_comm
end
theorem gS0 (h : List Ob) : ∀ (n : Nat) (v : Vl),smK h n v v = true
 | 0,v => Aw rfl
 | n + 1,v => zY0 (gS0 h n) v
theorem tE (h : List Ob) : ∀ (n : Nat) (v w : Vl),smK h n v w = smK h n w v
 | 0,v,w => decide_eq_decide.2 eq_comm
 | n + 1,v,w => stepK_symm (tE h n) v w
def shH (h : List Ob) : Nat -> Vl -> Vl -> Bool
 | 0 => zQ0 h fun _ _ => false
 | n + 1 => zQ0 h (shH h n)
def Vd (h : List Ob) (v : Vl) : Prop := qZ v = true /\ Rv h v
theorem dI0 {h : List Ob} {F G : Vl -> Vl -> Bool} {v w : Vl} (hv : Vd h v) (hw : Vd h w) (hr : ∀ x,G x x = true)
  (hFG : v.k = 6 -> w.k = 6 -> (yJ h v.r).kind = 1 -> (yJ h w.r).kind = 1 -> ∀ x ∈ (yJ h v.r).items,∀ y ∈ (yJ h w.r).items,F x y = G x y) : zQ0 h F v w = zP0 h G v w := by
 unfold zQ0;by_cases c1 : ¬ v.k = 6 \/ ¬ w.k = 6
 ·rw [Ab c1,wT];rintro ⟨e1,e2⟩;rcases c1 with c | c
  ·exact c (kK0 e1)
  ·exact c (kK0 e2)
 ·have k1 : v.k = 6 := by omega
  have k2 : w.k = 6 := by omega
  rw [Aa c1];by_cases c2 : v.r = w.r
  ·rw [Ab c2,ref_eq hv.1 hw.1 k1 k2 c2,zY0 hr]
  ·rw [Aa c2];have o1 := bO hv.2 k1;have o2 := bO hw.2 k2;by_cases hk : (yJ h v.r).kind = 1 /\ (yJ h w.r).kind = 1
   ·rw [wB (by rw [o1,o2];exact hk),o1,o2,Aw hk.1,Aw hk.2,Dy,Dy,eqF];by_cases hl : ((yJ h v.r).items.length : Int) = (yJ h w.r).items.length
    ·refine congrArg _ (mZ0 fun i hi => hFG k1 k2 hk.1 hk.2 _ ?_ _ ?_)
     ·rw [qN hi];exact Be _
     ·rw [qN om];exact Be _
    ·rw [Bz hl];rfl
   ·rw [wT (by rw [o1,o2];exact hk),Bz (fun e : v = w => c2 (by rw [e])),show (decide ((yJ h v.r).kind = 1) && decide ((yJ h w.r).kind = 1)) = false from by rw [<- Bool.decide_and];exact Bz hk];rfl
theorem jG1 {h : List Ob} (g : Uh h) : ∀ (n : Nat) (v w : Vl),Dp h n v -> Vd h v -> Vd h w -> shH h n v w = smK h n v w
 | 0,v,w,hd,hv,hw => by
  have e1 := dI0 (F := fun _ _ => false) (G := fun x y => decide (x = y)) hv hw (fun x => Aw rfl) (fun k1 _ h1 _ => absurd (by rw [bO hv.2 k1];exact h1) hd);show zQ0 h _ v w = decide (v = w);rw [e1,wT fun e => hd e.1]
 | n + 1,v,w,hd,hv,hw => dI0 (G := smK h n) hv hw (gS0 h n) fun k1 k2 h1 h2 x hx y hy =>
   jG1 g n x y (hd (by rw [bO hv.2 k1];exact h1) x (by rw [bO hv.2 k1];exact hx)) ⟨kR0 g (hv.2 k1) h1 hx,vJ0 g (hv.2 k1) hx⟩ ⟨kR0 g (hw.2 k2) h2 hy,vJ0 g (hw.2 k2) hy⟩
theorem vQ0 {h : List Ob} (hh : HpIn h) (g : Uh h) : ∀ (n : Nat) (v w : Vl),Dp h n v -> Rv h v -> Rv h w -> Fx 62 [hpD md h,.agg (vlD v),.agg (vlD w)] (.v (.bool (shH h n v w)))
 | 0,v,w,hd,hv,hw => gX h v w (fun _ _ => false) hh (fun k => yV (hv k)) (fun k => yV (hw k)) fun k1 _ h1 => absurd (by rw [bO hv k1];exact h1) hd
 | n + 1,v,w,hd,hv,hw => gX h v w (shH h n) hh (fun k => yV (hv k)) (fun k => yV (hw k)) fun k1 k2 h1 x hx y hy =>
   vQ0 hh g n x y (hd (by rw [bO hv k1];exact h1) x (by rw [bO hv k1];exact hx)) (vJ0 g (hv k1) hx) (vJ0 g (hw k2) hy)
theorem yJ0 {h : List Ob} (hh : HpIn h) (g : Uh h) {v w : Vl} (hk : uX h v = true) (hv : Vd h v) (hw : Vd h w) : Fx 62 [hpD md h,.agg (vlD v),.agg (vlD w)] (.v (.bool (smK h 1001 v w))) := by
 rw [<- jG1 g 1001 v w (gB hk) hv hw];exact vQ0 hh g 1001 v w (gB hk) hv.2 hw.2
theorem zU1 {h : List Ob} {v : Vl} (hh : hasS h v = true) : Vd h v := ⟨by simp only [hasS,Ai] at hh;exact hh.1,fun hk => jA0 hh hk⟩
theorem xC0 {h : List Ob} {k : Vl} : ∀ {l : List Vl},0 <= plI h l k -> (plI h l k).toNat < l.length /\ smK h 1001 (l.getD (plI h l k).toNat vl0) k = true
 | [],h0 => absurd h0 (by show ¬ (0 : Int) <= -1;omega)
 | x :: l,h0 => by
  rw [plI] at h0 ⊢;by_cases hx : smK h 1001 x k = true
  ·rw [Ab hx] at h0 ⊢;exact ⟨by rw [Aq];simp,hx⟩
  ·rw [Aa hx] at h0 ⊢;by_cases hl : plI h l k < 0
   ·rw [Ab hl] at h0;omega
   ·rw [Aa hl] at h0 ⊢;have ih := xC0 (h := h) (l := l) (k := k) om;have e : (plI h l k + 1).toNat = (plI h l k).toNat + 1 := by omega
    rw [e];exact ⟨by rw [Aq];omega,ih.2⟩
def Dk (h : List Ob) (l : List Vl) : Prop := ∀ i j,i < l.length -> j < l.length -> i ≠ j -> smK h 1001 (l.getD i vl0) (l.getD j vl0) = false
theorem zR1 {h : List Ob} : ∀ {l seen : List Vl},krF h seen l = 0 -> (∀ k ∈ l,uX h k = true) /\ (∀ k ∈ l,∀ x ∈ seen,smK h 1001 x k = false) /\ l.Pairwise fun x y => smK h 1001 x y = false
 | [],_,_ => ⟨(fun _ h => by cases h),(fun _ h => by cases h),List.Pairwise.nil⟩
 | s :: r,seen,hk => by
  rw [krF] at hk;split at hk
  ·cases hk
  ·rename_i h1;split at hk
   ·cases hk
   ·rename_i h2;obtain ⟨a,b,c⟩ := zR1 hk;have h2 : ∀ x ∈ seen,smK h 1001 x s = false := by simpa using h2
    refine ⟨fun k hk => ?_,fun k hk x hx => ?_,List.Pairwise.cons (fun y hy => b y hy s (Az.2 (.inr (Ee.2 rfl)))) c⟩
    ·rcases Bq.1 hk with rfl | hk
     ·simpa using h1
     ·exact a k hk
    ·rcases Bq.1 hk with rfl | hk
     ·exact h2 x hx
     ·exact b k hk x (Az.2 (.inl hx))
theorem dk_of {h : List Ob} {l : List Vl} (hp : l.Pairwise fun x y => smK h 1001 x y = false) : Dk h l := by
 intro i j hi hj hne;have hg : ∀ {i : Nat} (hi : i < l.length),l.getD i vl0 = l[i] := fun hi => by rw [An,Ah hi];rfl
 rw [hg hi,hg hj];rcases Nat.lt_or_gt_of_ne hne with h1 | h1
 ·exact List.pairwise_iff_getElem.1 hp i j hi hj h1
 ·rw [tE];exact List.pairwise_iff_getElem.1 hp j i hj hi h1
structure Kd (h : List Ob) (l : List Vl) : Prop where
 keyed : ∀ k ∈ l,uX h k = true
 vd : ∀ k ∈ l,Vd h k
 dk : Dk h l
theorem pO {h : List Ob} (g : Uh h) {v : Vl} (hv : v.k = 6 -> yY h v.r = true) (hk : (zY h v).kind = 3 \/ (zY h v).kind = 4) : Kd h (zY h v).keys := by
 obtain ⟨h6,ho,e⟩ := vU (h := h) (v := v) om;rw [e] at hk ⊢;have hin := yV ho;have h49 : ¬ v.r.toNat < 49 := fun hl => by
  rw [show yJ h v.r = bgO v.r.toNat from g.lo_at hl] at hk;exact absurd hk (by show ¬ ((9 : Int) = 3 \/ (9 : Int) = 4);decide)
 have u := g.hi_at (i := v.r.toNat) om hin.2;rw [<- kZ hin] at u;have vs := yY0 u.vals;obtain ⟨a,_,c⟩ := zR1 u.keys;refine ⟨a,fun k hk' => ⟨?_,fun h6 => vs.vals k (Az.2 (.inl hk')) h6⟩,dk_of c⟩;have := vs.ok k (Az.2 (.inl hk'))
 rwa [fixV,Aa om] at this
section
variable {h : List Ob} {x y : Ob} {i : Nat} (hi : i < y.keys.length)
include hi
end
variable {md me : Bool}
variable {md me : Bool}
variable {md me : Bool}
def vpD (k : Vl) : D := .pt true (vlD k)
theorem uP {l : List Vl} {i : Nat} (hi : i < l.length) : l.getD i vl0 ∈ l := by
 rw [An,Ah hi];exact Be _
variable {md me : Bool}


variable {md me : Bool}
theorem mE {h : List Ob} (g : Uh h) {v : Vl} (hk : (zY h v).kind = 3) : (zY h v).items.length = (zY h v).keys.length := by
 obtain ⟨h6,ho,e⟩ := vU (h := h) (v := v) om;rw [e] at hk ⊢;have hin := yV ho;have h49 : ¬ v.r.toNat < 49 := fun hl => by
  rw [show yJ h v.r = bgO v.r.toNat from g.lo_at hl] at hk;exact absurd hk (by show ¬ (9 : Int) = 3;decide)
 have u := g.hi_at (i := v.r.toNat) om hin.2;rw [<- kZ hin] at u;have h1 := (dM0 u.shape).1;unfold cntS at h1;rw [hk,Aa (by decide +kernel),Aa (by decide +kernel),Aa (by decide +kernel),Ab (by decide +kernel)] at h1;omega
theorem uJ {h : List Ob} (g : Uh h) (v : Vl) : (zY h v).keys.length <= 1000 /\ (zY h v).items.length <= 1000 := by
 by_cases hk : (zY h v).kind = 0
 ·unfold zY at hk ⊢;split
  ·rename_i h1;have := h1.2;simp only [yY,Ai,Bp,Av] at this;rw [Ab h1] at hk;exact absurd hk this.2
  ·exact ⟨by decide,by decide⟩
 ·obtain ⟨h6,ho,e⟩ := vU (h := h) (v := v) hk;rw [e];have hin := yV ho;by_cases h49 : v.r.toNat < 49
  ·rw [show yJ h v.r = bgO v.r.toNat from g.lo_at h49];exact ⟨Ap _,Ap _⟩
  ·have u := g.hi_at (i := v.r.toNat) om hin.2;rw [<- kZ hin] at u;have hz := u.sizes;unfold gT at hz;split at hz
   ·cases hz
   ·split at hz
    ·cases hz
    ·rename_i h2;simp only [Cp,Ak,not_or] at h2;obtain ⟨h3,h4⟩ := h2;unfold mx3 at h3;repeat' split at h3
     all_goals omega
def paF (g : Vl -> Int -> Vl × Bool × Int) (v : Vl) : List Vl -> Int -> Vl × Bool × Int
 | [],left => (v,true,left)
 | w :: l,left => if left < 0 then (v,true,left) else if (g w left).2.1 = false then ((g w left).1,false,(g w left).2.2) else paF g v l (g w left).2.2
def paP (h : List Ob) (g : Vl -> Int -> Vl × Bool × Int) (v : Vl) (left : Int) : Vl × Bool × Int :=
 if (zY h v).kind = 2 \/ (zY h v).kind = 3 \/ (zY h v).kind = 4 \/ (zY h v).kind = 5 then (v,decide (left - 1 < 0),left - 1)
 else if (zY h v).kind = 1 then paF g v (zY h v).items (left - 1) else (v,true,left - 1)
def paS (h : List Ob) : Nat -> Vl -> Int -> Vl × Bool × Int
 | 0 => fun v _ => (v,true,-1)
 | f + 1 => paP h (paS h f)
structure PaO (h : List Ob) (left : Int) (l rest out : List Vl) (r : Vl × Bool × Int) : Prop where
 lo : -1 <= r.2.2
 hi : r.2.2 <= left
 no : r.2.1 = false -> 0 <= r.2.2 /\ ∃ L,ptS h (left + 1).toNat (l ++ rest) out = (out ++ L ++ [r.1],false) /\ (L.length : Int) + 1 = left - r.2.2
 yes : r.2.1 = true -> 0 <= r.2.2 -> ∃ L,ptS h (left + 1).toNat (l ++ rest) out = ptS h (r.2.2 + 1).toNat rest (out ++ L) /\ (L.length : Int) = left - r.2.2
 end_ : r.2.1 = true -> r.2.2 < 0 -> ∃ L b,ptS h (left + 1).toNat (l ++ rest) out = (out ++ L,b) /\ (L.length : Int) = left + 1
section
variable {h : List Ob} (g : Uh h)
include g
omit g in
theorem dY0 {F : Vl -> Int -> Vl × Bool × Int} (v : Vl) : ∀ (l : List Vl) (left : Int) (rest out : List Vl),-1 <= left -> (∀ w ∈ l,∀ (k : Int) (rest out : List Vl),0 <= k -> k <= left -> PaO h k [w] rest out (F w k)) -> PaO h left l rest out (paF F v l left)
 | [],left,rest,out,h1,_ => by
  refine ⟨h1,Int.le_refl _,(fun hh => by cases hh),fun _ h0 => ⟨[],by rw [Cn];rfl,by show (0 : Int) = left - left;omega⟩,fun _ h0 => ⟨[],true,?_,by show (0 : Int) = left + 1;have h0 : left < 0 := h0;omega⟩⟩;have h0 : left < 0 := h0;rw [show (left + 1).toNat = 0 by omega,Cn];rfl
 | w :: l,left,rest,out,h1,hF => by
  by_cases c1 : left < 0
  ·have e : paF F v (w :: l) left = (v,true,left) := by rw [paF,Ab c1]
   rw [e];refine ⟨h1,Int.le_refl _,(fun hh => by cases hh),fun _ h0 => absurd h0 (by show ¬ (0 : Int) <= left;omega),fun _ _ => ⟨[],true,?_,by simp;omega⟩⟩;rw [show (left + 1).toNat = 0 by omega,Cn];rfl
  ·have hw := hF w Ck left (l ++ rest) out om (Int.le_refl _);have hlo := hw.lo;have hhi := hw.hi;by_cases c2 : (F w left).2.1 = false
   ·have e : paF F v (w :: l) left = ((F w left).1,false,(F w left).2.2) := by rw [paF,Aa c1,Ab c2]
    rw [e];refine ⟨hlo,hhi,fun _ => hw.no c2,(fun hh => by cases hh),(fun hh => by cases hh)⟩
   ·have c2' : (F w left).2.1 = true := by simpa using c2
    have e : paF F v (w :: l) left = paF F v l (F w left).2.2 := by rw [paF,Aa c1,Aa c2]
    rw [e];by_cases c3 : (F w left).2.2 < 0
    ·obtain ⟨L,b,e1,e2⟩ := hw.end_ c2' c3;have hm : (F w left).2.2 = -1 := by omega
     have e3 : paF F v l (F w left).2.2 = (v,true,(F w left).2.2) := by
      cases l with
      | nil => rfl
      | cons x l => rw [paF,Ab c3]
     rw [e3];exact ⟨hlo,hhi,(fun hh => by cases hh),fun _ h0 => absurd (show 0 <= (F w left).2.2 from h0) om,fun _ _ => ⟨L,b,e1,e2⟩⟩
    ·obtain ⟨L,e1,e2⟩ := hw.yes c2' om;have e1 : ptS h (left + 1).toNat (w :: l ++ rest) out = ptS h ((F w left).2.2 + 1).toNat (l ++ rest) (out ++ L) := e1;have ih := dY0 v l (F w left).2.2 rest (out ++ L) hlo fun x hx k rest out h0 hk => hF x (Bx _ hx) k rest out h0 om;refine ⟨ih.lo,by have := ih.hi;omega,fun hb => ?_,fun hb h0 => ?_,fun hb h0 => ?_⟩
     ·obtain ⟨a1,L2,a2,a3⟩ := ih.no hb;exact ⟨a1,L ++ L2,by rw [e1,a2];simp,by rw [Ag];push_cast;omega⟩
     ·obtain ⟨L2,a2,a3⟩ := ih.yes hb h0;exact ⟨L ++ L2,by rw [e1,a2];simp,by rw [Ag];push_cast;omega⟩
     ·obtain ⟨L2,b,a2,a3⟩ := ih.end_ hb h0;exact ⟨L ++ L2,b,by rw [e1,a2];simp,by rw [Ag];push_cast;omega⟩
theorem xF0 : ∀ (f : Nat) (v : Vl) (left : Int) (rest out : List Vl),Vd h v -> 0 <= left -> left < f -> PaO h left [v] rest out (paS h f v left) /\ (paS h f v left).2.2 < left
 | 0,_,left,_,_,_,h0,h1 => by omega
 | f + 1,v,left,rest,out,hv,h0,h1 => by
  have h9 : ¬ v.k = 9 := fun hk => by
   have := hv.1;unfold qZ at this;rw [Aa om,Aa om,Aa om,Aa om,Aa om,Aa om,Aa om,Aa om] at this
   cases this
  have ef : (left + 1).toNat = (left - 1 + 1).toNat + 1 := by omega
  rw [paS,paP];by_cases c1 : (zY h v).kind = 2 \/ (zY h v).kind = 3 \/ (zY h v).kind = 4 \/ (zY h v).kind = 5
  ·have hb : badS h v = true := by
    unfold badS;simp only [Cp,Ak];omega
   have e : ptS h (left + 1).toNat ([v] ++ rest) out = (out ++ [v],false) := by
    rw [ef];show ptS h _ (v :: rest) out = _;rw [xX,Ab hb]
   rw [Ab c1];refine ⟨⟨by show -1 <= left - 1;omega,by show left - 1 <= left;omega,fun hh => ?_,fun hh h2 => ?_,fun hh h2 => ⟨[v],false,e,?_⟩⟩,by show left - 1 < left;omega⟩
   ·have hh : ¬ left - 1 < 0 := of_decide_eq_false hh;exact ⟨by show 0 <= left - 1;omega,[],by rw [e,Cn],by show (0 : Int) + 1 = left - (left - 1);omega⟩
   ·have hh : left - 1 < 0 := Aj hh;have h2 : 0 <= left - 1 := h2;omega
   ·have h2 : left - 1 < 0 := h2;show (1 : Int) = left + 1;omega
  ·have hb : ¬ badS h v = true := by
    unfold badS;simp only [Cp,Ak];omega
   rw [Aa c1];by_cases c2 : (zY h v).kind = 1
   ·rw [Ab c2];have hl := (uJ g v).2;have e : ptS h (left + 1).toNat ([v] ++ rest) out = ptS h (left - 1 + 1).toNat ((zY h v).items ++ rest) (out ++ [v]) := by
     rw [ef];show ptS h _ (v :: rest) out = _;rw [xX,Aa hb,Ab c2,Am om]
    have hit : ∀ w ∈ (zY h v).items,Vd h w := fun w hw => by
     obtain ⟨h6,ho,eo⟩ := vU (h := h) (v := v) om;rw [eo] at hw c2;exact ⟨kR0 g ho c2 hw,vJ0 g ho hw⟩
    have ih := dY0 (F := paS h f) v (zY h v).items (left - 1) rest (out ++ [v]) om fun w hw k rest out hk0 hk => (xF0 f w k rest out (hit w hw) hk0 om).1;have hhi := ih.hi;refine ⟨⟨ih.lo,by omega,fun hb => ?_,fun hb h2 => ?_,fun hb h2 => ?_⟩,by omega⟩
    ·obtain ⟨a1,L,a2,a3⟩ := ih.no hb;exact ⟨a1,v :: L,by rw [e,a2];simp,by rw [Aq];push_cast;omega⟩
    ·obtain ⟨L,a2,a3⟩ := ih.yes hb h2;exact ⟨v :: L,by rw [e,a2];simp,by rw [Aq];push_cast;omega⟩
    ·obtain ⟨L,b,a2,a3⟩ := ih.end_ hb h2;exact ⟨v :: L,b,by rw [e,a2];simp,by rw [Aq];push_cast;omega⟩
   ·rw [Aa c2];have e : ptS h (left + 1).toNat ([v] ++ rest) out = ptS h (left - 1 + 1).toNat rest (out ++ [v]) := by
     rw [ef];show ptS h _ (v :: rest) out = _;rw [xX,Aa hb,Aa c2]
    refine ⟨⟨by show -1 <= left - 1;omega,by show left - 1 <= left;omega,(fun hh => by cases hh),fun _ _ => ⟨[v],e,by show (1 : Int) = left - (left - 1);omega⟩,fun _ h2 => ⟨[v],true,?_,?_⟩⟩,by show left - 1 < left;omega⟩
    ·have h2 : left - 1 < 0 := h2;rw [e,show (left - 1 + 1).toNat = 0 by omega];rfl
    ·have h2 : left - 1 < 0 := h2;show (1 : Int) = left + 1;omega
theorem pa_key {v : Vl} (hv : Vd h v) : ((paS h 1001 v 1000).2.1 = false -> (qM h v).2 = false /\ (qM h v).1.length <= 1000 /\ (qM h v).1.getD ((qM h v).1.length - 1) vl0 = (paS h 1001 v 1000).1)
  /\ ((paS h 1001 v 1000).2.1 = true -> (paS h 1001 v 1000).2.2 < 0 -> 1000 < (qM h v).1.length) /\ ((paS h 1001 v 1000).2.1 = true -> 0 <= (paS h 1001 v 1000).2.2 -> uX h v = true) := by
 have hp := (xF0 g 1001 v 1000 [] [] hv de de).1;have e : ptS h ((1000 : Int) + 1).toNat ([v] ++ []) [] = qM h v := rfl;refine ⟨fun hb => ?_,fun hb h0 => ?_,fun hb h0 => ?_⟩
 ·obtain ⟨a1,L,a2,a3⟩ := hp.no hb;rw [e,Da] at a2;rw [a2];refine ⟨rfl,?_,?_⟩
  ·show (L ++ [_]).length <= 1000;rw [Ag,Dm];omega
  ·show (L ++ [(paS h 1001 v 1000).1]).getD ((L ++ [_]).length - 1) vl0 = _;rw [Ag,Dm,Nat.add_sub_cancel,An,Ce (Ao _),Nat.sub_self];rfl
 ·obtain ⟨L,b,a2,a3⟩ := hp.end_ hb h0;rw [e,Da] at a2;rw [a2];show 1000 < L.length;omega
 ·obtain ⟨L,a2,a3⟩ := hp.yes hb h0;rw [e,Da] at a2;have a4 : ptS h ((paS h 1001 v 1000).2.2 + 1).toNat [] L = (L,true) := by
   rw [show ((paS h 1001 v 1000).2.2 + 1).toNat = (paS h 1001 v 1000).2.2.toNat + 1 by omega];rfl
  rw [a4] at a2;rw [uX,a2];show (true && decide ((L.length : Int) <= 1000)) = true;rw [Dy,Ak];omega
end
variable {md me : Bool}
theorem zL1 (h : List Ob) : ∀ (f : Nat) (v : Vl) (left : Int),0 <= left -> -1 <= (paS h f v left).2.2 /\ (paS h f v left).2.2 <= left
 | 0,_,left,h0 => by show (-1 : Int) <= -1 /\ (-1 : Int) <= left;omega
 | f + 1,v,left,h0 => by
  have hl : ∀ (l : List Vl) (k : Int),-1 <= k -> -1 <= (paF (paS h f) v l k).2.2 /\ (paF (paS h f) v l k).2.2 <= k := by
   intro l;induction l with
   | nil => intro k hk;exact ⟨hk,Int.le_refl _⟩
   | cons w l ih =>
    intro k hk;rw [paF];split
    ·exact ⟨hk,Int.le_refl _⟩
    ·have h1 := zL1 h f w k om;split
     ·exact h1
     ·have h2 := ih (paS h f w k).2.2 h1.1;omega
  rw [paS,paP];split
  ·show -1 <= left - 1 /\ left - 1 <= left;omega
  ·split
   ·have := hl (zY h v).items (left - 1) om;omega
   ·show -1 <= left - 1 /\ left - 1 <= left;omega
theorem yZ1 {h : List Ob} (g : Uh h) : ∀ (f : Nat) (v : Vl) (left : Int),Vd h v -> Vd h (paS h f v left).1
 | 0,_,_,hv => hv
 | f + 1,v,left,hv => by
  have hl : ∀ (l : List Vl) (k : Int),(∀ w ∈ l,Vd h w) -> Vd h (paF (paS h f) v l k).1 := by
   intro l;induction l with
   | nil => intro k _;exact hv
   | cons w l ih =>
    intro k hw;rw [paF];split
    ·exact hv
    ·split
     ·exact yZ1 g f w k (hw w Ck)
     ·exact ih _ fun x hx => hw x (Bx _ hx)
  rw [paS,paP];split
  ·exact hv
  ·split
   ·rename_i c2;refine hl _ _ fun w hw => ?_;obtain ⟨h6,ho,eo⟩ := vU (h := h) (v := v) om;rw [eo] at hw c2;exact ⟨kR0 g ho c2 hw,vJ0 g ho hw⟩
   ·exact hv
theorem zV0 {h : List Ob} {v : Vl} (hv : Vd h v) : hasS h v = true := by
 simp only [hasS,Ai,Cp,Bp,Av];refine ⟨hv.1,?_⟩;by_cases hk : v.k = 6
 ·exact .inr (hv.2 hk)
 ·exact .inl hk
structure Pw (F : Vl -> Int -> Vl × Bool × Int) (v : Vl) (l : List Vl) (l0 : Int) where
 k : Nat
 left : Int
 le : k <= l.length
 lo : -1 <= left
 hi : left <= l0
 eq : paF F v (l.drop k) left = paF F v l l0
theorem qI0 {l : List Vl} {k : Nat} (hk : k < l.length) : l.drop k = l.getD k vl0 :: l.drop (k + 1) := by
 rw [By hk,An,Ah hk];rfl
def Pw.next {F : Vl -> Int -> Vl × Bool × Int} {v : Vl} {l : List Vl} {l0 : Int} (x : Pw F v l l0) (hF : ∀ w k,0 <= k -> -1 <= (F w k).2.2 /\ (F w k).2.2 <= k) (hk : x.k < l.length) (h0 : ¬ x.left < 0) (h1 : ¬ (F (l.getD x.k vl0) x.left).2.1 = false) : Pw F v l l0 :=
 ⟨x.k + 1,(F (l.getD x.k vl0) x.left).2.2,hk,(hF _ _ om).1,by have := (hF (l.getD x.k vl0) x.left om).2;have := x.hi;omega,by rw [<- x.eq,qI0 hk,paF,Aa h0,Aa h1]⟩
theorem Pw.out {F : Vl -> Int -> Vl × Bool × Int} {v : Vl} {l : List Vl} {l0 : Int} (x : Pw F v l l0) (hk : x.k < l.length) (h0 : x.left < 0) : paF F v l l0 = (v,true,x.left) := by rw [<- x.eq,qI0 hk,paF,Ab h0]
theorem Pw.bad {F : Vl -> Int -> Vl × Bool × Int} {v : Vl} {l : List Vl} {l0 : Int} (x : Pw F v l l0) (hk : x.k < l.length) (h0 : ¬ x.left < 0) (h1 : (F (l.getD x.k vl0) x.left).2.1 = false) : paF F v l l0 = ((F (l.getD x.k vl0) x.left).1,false,(F (l.getD x.k vl0) x.left).2.2) := by rw [<- x.eq,qI0 hk,paF,Aa h0,Ab h1]
theorem Pw.fin {F : Vl -> Int -> Vl × Bool × Int} {v : Vl} {l : List Vl} {l0 : Int} (x : Pw F v l l0) (hk : ¬ x.k < l.length) : paF F v l l0 = (v,true,x.left) := by
 rw [<- x.eq,Ax om,paF]
def paD (r : Vl × Bool × Int) : D := .tpo [.agg (vlD r.1),.v (.bool r.2.1)]
def lfO (left : Int) : List DOwn := [.box 3 [.v (.int .i64 left)]]
set_option maxHeartbeats 1000000 in
theorem part_step (h : List Ob) (v : Vl) (left : Int) (F : Vl -> Int -> Vl × Bool × Int) (g : Uh h) (hv : v.k = 6 -> yY h v.r = true) (h0 : 0 <= left) (h1 : left <= 1000) (hF : ∀ w k,0 <= k -> -1 <= (F w k).2.2 /\ (F w k).2.2 <= k) (H : (zY h v).kind = 1 -> ∀ w ∈ (zY h v).items,∀ k,0 <= k -> k < left -> FnG Tryz.prog 50 [hpD md h,.agg (vlD w),.bp 0 0] (lfO k) (paD (F w k)) (lfO (F w k).2.2)) : FnG Tryz.prog 50 [hpD md h,.agg (vlD v),.bp 0 0] (lfO left) (paD (paP h F v left)) (lfO (paP h F v left).2.2) := by
 have hil := (uJ g v).2;refine mK zL Tryz.func50 rfl rfl rfl rfl rfl rfl rfl ?_;intro w0 s0 mx;refine zJ 100 ?_;refine zJ 200 ?_;refine zB (zE zL [] 300 rfl ?_);refine zF ?_;refine zO _ (wY h v hv) rfl ?_;refine zF ?_;refine zC (zA (zB (zJ 400 ?_)));refine zR (zB (zJ 500 ?_));refine zW (fun c4 => ?_) (fun c4 => ?_)
 ·
  refine zM (zA (zW (fun c4x => ?_) (fun c4x => ?_)))
  ·
   refine zB (zZ zL [] mK4 900 yQ kr rfl ?_);refine zf (zA (zK (zQ (zN ?_))));have e : paP h F v left = _ := Ab om;rw [e];exact u11 1 rfl rfl (u0 _) ⟨⟨rfl,u0 _,rfl,trivial⟩,trivial⟩
  ·
   simp_all
 ·
  refine zJ 600 ?_;refine zW (fun c5 => ?_) (fun c5 => ?_)
  ·
   refine zM (zA (zW (fun c5x => ?_) (fun c5x => ?_)))
   ·
    refine zB (zZ zL [] mK4 900 yQ kr rfl ?_);refine zf (zA (zK (zQ (zN ?_))));have e : paP h F v left = _ := Ab om;rw [e];exact u11 1 rfl rfl (u0 _) ⟨⟨rfl,u0 _,rfl,trivial⟩,trivial⟩
   ·
    simp_all
  ·
   refine zJ 700 ?_;refine zW (fun c6 => ?_) (fun c6 => ?_)
   ·
    refine zM (zA (zW (fun c6x => ?_) (fun c6x => ?_)))
    ·
     refine zB (zZ zL [] mK4 900 yQ kr rfl ?_);refine zf (zA (zK (zQ (zN ?_))));have e : paP h F v left = _ := Ab om;rw [e];exact u11 1 rfl rfl (u0 _) ⟨⟨rfl,u0 _,rfl,trivial⟩,trivial⟩
    ·
     simp_all
   ·
    refine yN zL [] 800 ?_;refine zA (zW (fun c7 => ?_) (fun c7 => ?_))
    ·
     refine zB (zZ zL [] mK4 900 yQ kr rfl ?_);refine zf (zA (zK (zQ (zN ?_))));have e : paP h F v left = _ := Ab om;rw [e];exact u11 1 rfl rfl (u0 _) ⟨⟨rfl,u0 _,rfl,trivial⟩,trivial⟩
    ·
     refine zJ 1000 ?_;refine zW (fun c9 => ?_) (fun c9 => ?_)
     ·
      refine zJ 1100 ?_;refine zR ?_;refine yC (ι := Pw F v (zY h v).items (left - 1)) [2,3,4,6,36,37] [1,2,3] 1150 (fun x => [(38,.v (.int .i64 x.k))]) (fun x => [(0,.box 3 [.v (.int .i64 x.left)])]) (fun x => (zY h v).items.length - x.k) ⟨0,left - 1,Ap _,by omega,Int.le_refl _,rfl⟩ ?_;refine ⟨⟨⟨u21 rfl,yM⟩,⟨⟨rfl,u21 rfl,rfl,trivial⟩,yH⟩,rfl,rfl⟩,fun x => ?_⟩;have hk := x.le;have hlo := x.lo;have hhi := x.hi;refine zJ 1200 ?_;refine zB (zT rfl (fun c11 => ?_) (fun c11 => ?_))
      ·have c11 : x.k < (zY h v).items.length := by simpa using c11
       refine zM (zA (zB (zR (zJ 1300 ?_))));refine zB ?_;refine yW [2,3,4,6,10,36,37,38] [0,1,2,3,1202] 1310 [] [(1202,.box 29 (vlD ((zY h v).items.getD x.k vl0)))] ?_;refine ⟨⟨yM,⟨⟨rfl,SubL.same rfl⟩,yH⟩,rfl,rfl⟩,?_⟩;refine zJ 1400 ?_;refine zT rfl (fun c13 => ?_) (fun c13 => ?_)
       ·have c13 : x.left < 0 := by simpa using c13
        refine zJ 1500 ?_;refine zK (zN (zQ (zN (yL (zQ (zQ (zN ?_)))))));have e : paP h F v left = _ := (Aa om).trans ((Ab c9).trans (x.out c11 c13));rw [e];exact u11 1 rfl rfl (u0 _) ⟨⟨rfl,u0 _,rfl,trivial⟩,trivial⟩
       ·have c13 : ¬ x.left < 0 := by simpa using c13
        have hFx := hF ((zY h v).items.getD x.k vl0) x.left om;refine zM (zA ?_);refine zB (zE zL [1051] 1600 rfl ?_);refine zF ?_;refine qC _ _ (H c9 ((zY h v).items.getD x.k vl0) (uP c11) x.left om (by have := x.hi;omega)) rfl ?_;refine zf (zA ?_);refine yW [2,3,4,6,11,36,37,38] [1,2,3,1407] 1610 [(12,.v (.bool (F ((zY h v).items.getD x.k vl0) x.left).2.1))] [(0,.box 3 [.v (.int .i64 (F ((zY h v).items.getD x.k vl0) x.left).2.2)]),(1407,.box 29 (vlD (F ((zY h v).items.getD x.k vl0) x.left).1))] ?_;refine ⟨⟨yM,⟨⟨rfl,u0 _,rfl,trivial⟩,⟨rfl,SubL.same rfl⟩,yH⟩,rfl,rfl⟩,?_⟩;refine zJ 1700 ?_;refine zT rfl (fun c16 => ?_) (fun c16 => ?_)
        ·have c16 : (F ((zY h v).items.getD x.k vl0) x.left).2.1 = false := by simpa using c16
         refine zJ 1800 ?_;refine zK (zQ (zN (yL (zQ (zQ (zN ?_))))));have e : paP h F v left = _ := (Aa om).trans ((Ab c9).trans (x.bad c11 c13 c16));rw [e];exact u11 1 rfl rfl (u0 _) ⟨⟨rfl,u0 _,rfl,trivial⟩,trivial⟩
        ·have c16 : ¬ (F ((zY h v).items.getD x.k vl0) x.left).2.1 = false := by simpa using c16
         refine zM (zP (zA (yN zL [] 1900 ?_)));exact zS (x.next hF c11 c13 c16) ⟨⟨u21 (by show (x.k : Int) + 1 = ((x.k + 1 : Nat) : Int);push_cast;rfl),yM⟩,⟨⟨rfl,u0 _,rfl,trivial⟩,yH⟩,rfl,rfl⟩ (by show (zY h v).items.length - (x.k + 1) < (zY h v).items.length - x.k;omega)
      ·have c11 : ¬ x.k < (zY h v).items.length := by simpa using c11
       refine yE (yA (yB (zX (zP (zA (zJ 2000 ?_))))));refine zK ?_;have e : paP h F v left = _ := (Aa om).trans ((Ab c9).trans (x.fin c11));rw [e];exact u11 1 rfl rfl (u0 _) ⟨⟨rfl,u0 _,rfl,trivial⟩,trivial⟩
     ·
      refine zM (zP (zA (zJ 2000 ?_)));refine zK ?_;have e : paP h F v left = _ := (Aa om).trans (Aa c9);rw [e];exact u11 1 rfl rfl (u0 _) ⟨⟨rfl,u0 _,rfl,trivial⟩,trivial⟩
theorem zK1 {h : List Ob} (g : Uh h) : ∀ (f : Nat) (v : Vl) (left : Int),Rv h v -> 0 <= left -> left < f -> left <= 1000 -> FnG Tryz.prog 50 [hpD md h,.agg (vlD v),.bp 0 0] (lfO left) (paD (paS h f v left)) (lfO (paS h f v left).2.2)
 | 0,_,left,_,h0,h1,_ => by omega
 | f + 1,v,left,hv,h0,h1,h2 => part_step h v left (paS h f) g hv h0 h2 (fun w k hk => zL1 h f w k hk) fun hk1 w hw k hk hkl => zK1 g f w k (by
   obtain ⟨h6,ho,eo⟩ := vU (h := h) (v := v) om;rw [eo] at hw;exact vJ0 g ho hw) hk om om
def kqB : ByteArray := ⟨#[39]⟩
def kmB : ByteArray := ⟨#[39,32,99,97,110,110,111,116,32,98,101,32,97,32,107,101,121]⟩
def keyR (h : List Ob) (v : Vl) : St := if (paS h 1001 v 1000).2.1 = false then raS 32 (kqB ++ (yJ h (clA h (paS h 1001 v 1000).1)).name ++ kmB) else if (paS h 1001 v 1000).2.2 < 0 then raS 42 tooB else st0
theorem kbsz (a : Array UInt8) : (⟨a⟩ : ByteArray).size = a.size := rfl
theorem vI0 {h : List Ob} (g : Uh h) {v : Vl} (hv : Vd h v) :
  ((paS h 1001 v 1000).2.1 = false /\ (qM h v).2 = false /\ (qM h v).1.length <= 1000 /\ 0 < (qM h v).1.length /\ (qM h v).1.getD (((qM h v).1.length : Int) - 1).toNat vl0 = (paS h 1001 v 1000).1 /\ keyR h v = raS 32 (kqB ++ (yJ h (clA h (paS h 1001 v 1000).1)).name ++ kmB))
  \/ ((paS h 1001 v 1000).2.1 = true /\ (paS h 1001 v 1000).2.2 < 0 /\ 1000 < (qM h v).1.length /\ keyR h v = raS 42 tooB)
  \/ ((paS h 1001 v 1000).2.1 = true /\ 0 <= (paS h 1001 v 1000).2.2 /\ (qM h v).2 = true /\ (qM h v).1.length <= 1000 /\ uX h v = true /\ keyR h v = st0) := by
 obtain ⟨a,b,c⟩ := pa_key g hv;by_cases h1 : (paS h 1001 v 1000).2.1 = false
 ·obtain ⟨a1,a2,a3⟩ := a h1;refine .inl ⟨h1,a1,a2,?_,?_,Ab h1⟩
  ·have hp := (xF0 g 1001 v 1000 [] [] hv de de).1;obtain ⟨_,L,e,_⟩ := hp.no h1;have e : qM h v = _ := e;rw [e];show 0 < ([] ++ L ++ [_]).length;rw [Ag];exact Nat.succ_pos _
  ·rw [show (((qM h v).1.length : Int) - 1).toNat = (qM h v).1.length - 1 by omega];exact a3
 ·have h1' : (paS h 1001 v 1000).2.1 = true := by simpa using h1
  by_cases h2 : (paS h 1001 v 1000).2.2 < 0
  ·exact .inr (.inl ⟨h1',h2,b h1' h2,(Aa h1).trans (Ab h2)⟩)
  ·have hk := c h1' om;have hk2 := hk;simp only [uX,Ai,Ak] at hk2;exact .inr (.inr ⟨h1',by omega,hk2.1,by omega,hk,(Aa h1).trans (Aa h2)⟩)
theorem yP1 {P : Program} {E : Pn} {K : DS -> Prop} {p : Prop} {r : Out} (hr : r.sat P E K) (hp : p := by first | (simp only [ByteArray.size_append,kbsz,Cd,Aq,Bc];omega) | exact Ej) : (Out.need p r).sat P E K := ⟨hp,hr⟩
theorem wG0 (h : List Ob) (v : Vl) (hh : HpIn h) (g : Uh h) (hv : Vd h v) : Fx 21 [hpD md h,.agg (vlD v)] (.agg (stD (keyR h v))) := by
 have hb := yZ1 g 1001 v 1000 hv;have hcf := pP0 g (zV0 hb);have hnm := (hh.at (clA h (paS h 1001 v 1000).1)).nm;refine yD zL Tryz.func21 rfl rfl rfl rfl rfl rfl ?_;intro w0 s0 mx;refine zJ 100 ?_;refine zJ 200 ?_;refine zB ?_;refine zB (zE zL [1011] 300 rfl ?_);refine zF ?_;refine qC _ _ (zK1 g 1001 v 1000 hv.2 de de de) rfl ?_;refine zf (zA ?_);refine yW [2,4,5,6] [0,2,100,206] 310 [(7,.v (.bool (paS h 1001 v 1000).2.1))] [(100,.box 3 [.v (.int .i64 (paS h 1001 v 1000).2.2)]),(206,.box 29 (vlD (paS h 1001 v 1000).1))] ?_;refine ⟨⟨yM,⟨⟨rfl,u0 _,rfl,trivial⟩,⟨rfl,SubL.same rfl⟩,yH⟩,rfl,rfl⟩,?_⟩;refine zJ 400 ?_;refine zT rfl (fun c3 => ?_) (fun c3 => ?_)
 ·have c3 : (paS h 1001 v 1000).2.1 = false := by simpa using c3
  refine zB (zE zL [] 500 rfl ?_);repeat (first | refine zH ?_ | refine yP1 ?_)
  refine zO _ (gE h (paS h 1001 v 1000).1 g hcf) rfl ?_;repeat (first | refine zH ?_ | refine yP1 ?_)
  refine zO _ (gM _ _) rfl ?_;repeat (first | refine zH ?_ | refine yP1 ?_)
  refine zC (zA (zK (zN ?_)));rw [show keyR h v = _ from Ab c3];exact u4 rfl (u6 _)
 ·have c3 : ¬ (paS h 1001 v 1000).2.1 = false := by simpa using c3
  refine zM (zA (zB (zJ 600 ?_)));refine zW (fun c5 => ?_) (fun c5 => ?_)
  ·
   refine zB (zE zL [] 700 rfl ?_);refine zF ?_;refine zO _ (gM _ _) rfl ?_;refine zf (zA (zK (zN ?_)));rw [show keyR h v = _ from (Aa c3).trans (Ab c5)];exact u4 rfl (u6 _)
  ·
   refine zM (zA (zJ 800 ?_));refine zK ?_;rw [show keyR h v = _ from (Aa c3).trans (Aa om)];exact u4 rfl (by repeat (first | exact trivial | exact u6 _ | exact u12 rfl | refine u20 ?_ | refine ⟨?_,?_⟩))
theorem yO1 {P : Program} {E : Pn} {K : DS -> Prop} {p : Prop} {r : Out} (hr : r.sat P E K) (hp : p := by first | exact ⟨by omega,by omega⟩ | first | (simp only [ByteArray.size_append,kbsz,Cd,Aq,Bc];omega) | exact Ej) : (Out.need p r).sat P E K := ⟨hp,hr⟩
theorem gJ0 (h : List Ob) (v : Vl) (hh : HpIn h) (g : Uh h) (hv : Vd h v) : Fx 22 [hpD md h,.agg (vlD v)] (.agg (stD (keyR h v))) := by
 have hb := yZ1 g 1001 v 1000 hv;have hcf := pP0 g (zV0 hb);have hnm := (hh.at (clA h (paS h 1001 v 1000).1)).nm;have hc := vI0 g hv;refine yD zL Tryz.func22 rfl rfl rfl rfl rfl rfl ?_;intro w0 s0 mx;refine zJ 100 ?_;refine zB (zE zL [] 200 rfl ?_);refine zF ?_;refine zO _ (yS0 h v hh) rfl ?_;refine zF ?_;refine zC (zA (zB (zR (zJ 300 ?_))));refine zT rfl (fun c2 => ?_) (fun c2 => ?_)
 ·have c2 : (qM h v).2 = false /\ (qM h v).1.length <= 1000 := by simp at c2;exact ⟨c2.1,by omega⟩
  obtain ⟨k1,k2,k3,k4,k5,k6⟩ : (paS h 1001 v 1000).2.1 = false /\ (qM h v).2 = false /\ (qM h v).1.length <= 1000 /\ 0 < (qM h v).1.length /\ (qM h v).1.getD (((qM h v).1.length : Int) - 1).toNat vl0 = (paS h 1001 v 1000).1 /\ keyR h v = _ := by
   rcases hc with hc | hc | hc
   ·exact hc
   ·omega
   ·rw [c2.1] at hc;exact absurd hc.2.2.1 de
  refine zB (zZ zL [] [[],[],[],[2],[2,3],[1,2,3,4],[1,2,3,4,5],(rgN 7),(rgN 8),(rgN 9),(rgN 10),(rgN 11)] 400 yQ kr rfl ?_);repeat (first | refine zH ?_ | refine yO1 ?_)
  refine zO _ (by rw [k5];exact xA h (paS h 1001 v 1000).1 g hcf) rfl ?_;repeat (first | refine zH ?_ | refine yO1 ?_)
  refine zO _ (dB _ _) rfl ?_;repeat (first | refine zH ?_ | refine yO1 ?_)
  refine zC (zA (zK (zQ (zN ?_))));rw [k6];exact u4 rfl (u6 _)
 ·have c2 : ¬ ((qM h v).2 = false /\ (qM h v).1.length <= 1000) := by simp at c2;intro hq;have := c2 hq.1;omega
  refine zJ 500 ?_;refine zW (fun c4 => ?_) (fun c4 => ?_)
  ·
   refine zB (zE zL [] 600 rfl ?_);refine zF ?_;refine zO _ (dB _ _) rfl ?_;refine zf (zA (zK (zQ (zN ?_))));rcases hc with hc | hc | hc
   ·exact absurd ⟨hc.2.1,hc.2.2.1⟩ c2
   ·rw [hc.2.2.2];exact u4 rfl (u6 _)
   ·omega
  ·
   refine zM (zP (zA (zJ 700 ?_)));refine zK ?_;rcases hc with hc | hc | hc
   ·exact absurd ⟨hc.2.1,hc.2.2.1⟩ c2
   ·omega
   ·rw [hc.2.2.2.2.2];exact u4 rfl (by repeat (first | exact trivial | exact u6 _ | exact u12 rfl | refine u20 ?_ | refine ⟨?_,?_⟩))
section
variable {P : Program} {b : Ba}
end
def pnV (V : Value) : Pn := fun ch => ch = [{ v := V,recovered := false }]
section
variable {P : Program} {E : Pn} {K : DS -> Prop}
theorem xD (out : D) (own' : List DOwn) {E' : Pn} {f : FuncId} {args : List D} {n : Nat} {own : List DOwn} {r : D -> List DOwn -> Out} (hF : FnP P E' f args own out own') (hE : ∀ ch,E' ch -> E ch) (hc : chkG n out own' = true) (h : (r out own').sat P E K) : (Out.callG f args n own r).sat P E K :=
 ⟨out,own',⟨hF.bod,fun w s g vs h1 h2 => (hF.run w s g vs h1 h2).mono fun _ _ h => h.imp id fun ⟨ch,s',e1,e2,e3⟩ => ⟨ch,s',e1,hE ch e2,e3⟩⟩,hc,h⟩
theorem sat_pan {ch : List PanicEntry} {r : Out} (hE : E ch) (h : r.sat P E K) : (Out.pan ch r).sat P E K := ⟨hE,h⟩
end
def DeadS (S : DS) : Prop := ∃ k,yT k S.ow = some deadO
theorem DeadS.no {b : Ba} {w : World} {s : Sb} {g : Gh} {S : DS} {a : Act} (h : DeadS S) (hr : Rel b w s g S.ste a) : False := by
 obtain ⟨k,h⟩ := h;have h1 : fnd k S.ste.ow = some deadO.o := by show fnd k (ows S.ow) = _;rw [qK,h];rfl
 obtain ⟨N,vs,_,_,h2,_⟩ := (hr.ow k _ h1).1;rw [D.tvl,D.tvl] at h2
 cases vs with
 | nil => exact h2
 | cons v vs => exact h2.1
theorem wJ (k : Nat) {P : Program} {b : Ba} {c : Code} {S : DS} {K : Exit -> DS -> Prop} (h : yT k S.ow = some deadO := by rfl) : Ev P b c S K := fun _ _ _ _ _ hr _ => (DeadS.no ⟨k,h⟩ hr).elim
def FnQ {α : Type} (P : Program) (f : FuncId) (args : List D) (own : DOwn) (res : Except Value α) (out : α -> D) (own' : α -> DOwn) (o0 : D) : Prop := match res with
 | .ok a => FnG P f args [own] (out a) [own' a]
 | .error V => FnP P (pnV V) f args [own] o0 [deadO]
theorem FnQ.yes {α : Type} {P : Program} {f : FuncId} {args : List D} {own : DOwn} {res : Except Value α} {out : α -> D} {own' : α -> DOwn} {o0 : D} (h : FnQ P f args own res out own' o0) {a : α} (e : res = .ok a) : FnG P f args [own] (out a) [own' a] := by subst e;exact h
theorem FnQ.no {α : Type} {P : Program} {f : FuncId} {args : List D} {own : DOwn} {res : Except Value α} {out : α -> D} {own' : α -> DOwn} {o0 : D} (h : FnQ P f args own res out own' o0) {V : Value} (e : res = .error V) : FnP P (pnV V) f args [own] o0 [deadO] := by subst e;exact h
def FinQ {α : Type} (T : List (Nat × TI)) (rs : List ResultVar) (res : Except Value α) (out : α -> D) (own' : α -> DOwn) (ex : Exit) (S : DS) : Prop :=
 (∃ ch,ex = .panic ch /\ ∃ V,res = .error V /\ ch = [{ v := V,recovered := false }]) \/ DeadS S \/ ∃ a,res = .ok a /\ FinH T rs 1 (out a) [own' a] ex S
theorem FinQ.of {α : Type} {T : List (Nat × TI)} {rs : List ResultVar} {res : Except Value α} {out : α -> D} {own' : α -> DOwn} {ex : Exit} {S : DS} (a : α) (hr : res = .ok a) (h : FinH T rs 1 (out a) [own' a] ex S) : FinQ T rs res out own' ex S := .inr (.inr ⟨a,hr,h⟩)
theorem FinQ.pan {α : Type} {T : List (Nat × TI)} {rs : List ResultVar} {res : Except Value α} {out : α -> D} {own' : α -> DOwn} {S : DS} {V : Value} (hr : res = .error V) : ∀ ch,pnV V ch -> FinQ T rs res out own' (.panic ch) S := fun ch h => .inl ⟨ch,rfl,V,hr,h⟩
section
variable {P : Program} {T : List (Nat × TI)} (hT : wS P T = true)
include hT
theorem vW0 {α : Type} {f : FuncId} {fn : Func} {c : Code} {n : Nat} {args : List D} {own : DOwn} {res : Except Value α} {own' : α -> DOwn} {rs : List ResultVar} {out : α -> D} {o0 : D} (hf : P.funcs[f]? = some fn) (hb : fn.body = some c) (hn : fn.ntmps = n) (hr : fn.results = rs.toArray) (hm : (fn.name == "runtime.NumGoroutine") = false) (hl : Nat.ble args.length n = true) (ha : chkA args [own] = true) (hg : ∀ a,chkG 1 (out a) [own' a] = true) (hg0 : chkG 1 o0 [deadO] = true)
  (h : ∀ (w0 : World) (s0 : Sb) (mx : (Nat -> Prop) × Gh × List Deferred),Ev P ⟨w0,s0,mx.1,n,mx.2.1,mx.2.2⟩ c ⟨argD 0 args,uK 0 [own],1⟩ (FinQ T rs res out own')) : FnQ P f args own res out own' o0 := by
 cases res with
 | ok a =>
  refine GFunE.toG (vX0 (E := fun _ => False) hT hf hb hn hr hm hl ha (hg a) fun w0 s0 mx w s g a Q h1 h2 => h w0 s0 mx w s g a Q h1 fun ex w' s' g' a' S' h3 h4 => ?_);rcases h4 with ⟨ch,_,V,h4,_⟩ | h4 | ⟨b,h4,h5⟩
  ·cases h4
  ·exact (h4.no h3).elim
  ·cases h4;exact h2 ex w' s' g' a' S' h3 (.inr h5)
 | error V =>
  refine vX0 (E := pnV V) hT hf hb hn hr hm hl ha hg0 fun w0 s0 mx w s g a Q h1 h2 => h w0 s0 mx w s g a Q h1 fun ex w' s' g' a' S' h3 h4 => ?_;rcases h4 with ⟨ch,h4,W,h5,h6⟩ | h4 | ⟨b,h4,h5⟩
  ·cases h5;exact h2 ex w' s' g' a' S' h3 (.inl ⟨ch,h4,h6⟩)
  ·exact (h4.no h3).elim
  ·cases h4
end
end Go.Proofs.YtinegkcbkefeiaaGreatDoor
