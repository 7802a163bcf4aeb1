/- Part 20 of the proof. -/
import Derived.Test.YtinegkcbkefeiaaGreatDoorN19
namespace Go.Proofs.YtinegkcbkefeiaaGreatDoor
theorem bA {x y : Nat} (h : (lim x).length < (lim y).length) : x < y := by
 have h0 : y ≠ 0 := by intro e;subst e;rw [qI] at h;simp at h
 have h1 := pK x;have h2 := lim_ge h0;exact Bl h1 (Au (Bd om om) h2)
theorem qR {x y : Nat} (h : x <= y) : (lim x).length <= (lim y).length := by
 rcases Bs (lim y).length (lim x).length with h1 | h1
 ·have := bA h1;omega
 ·exact h1
def cmpL (x y : Nat) : Int := if (lim x).length = (lim y).length then cmpN x y else ((lim x).length : Int) - ((lim y).length : Int)
theorem cmpL_ne {x y : Nat} (h : (lim x).length ≠ (lim y).length) : cmpL x y = ((lim x).length : Int) - ((lim y).length : Int) := Aa h
theorem gE0 {x y : Nat} (h : (lim x).length = (lim y).length) : cmpL x y = cmpN x y := Ab h
theorem yE1 (x y : Nat) : min (max (cmpL x y) (-1)) 1 = cmpN x y := by
 unfold cmpL;split
 ·unfold cmpN;split
  ·rfl
  ·split <;> rfl
 ·rename_i h;rcases Nat.lt_or_gt_of_ne h with h1 | h1
  ·rw [cmpN,Ab (bA h1)];omega
  ·have := bA h1;rw [cmpN,Aa om,Ab this];omega
theorem mN0 (x y : Nat) : cmpL x y < 0 ↔ x < y := by
 have h := yE1 x y;unfold cmpN at h;constructor
 ·intro h1;by_cases h2 : x < y
  ·exact h2
  ·rw [Aa h2] at h;split at h <;> omega
 ·intro h1;rw [Ab h1] at h;omega
structure CpL (a b : Nat) where
 k : Nat
 le : k <= (lim a).length
 eq : (lim a).drop k = (lim b).drop k
def CpL.next {a b : Nat} (x : CpL a b) (hl : (lim a).length = (lim b).length) (h : 0 < x.k) (he : (lim a).getD (x.k - 1) 0 = (lim b).getD (x.k - 1) 0) : CpL a b := ⟨x.k - 1,by have := x.le;omega,by
 have h1 := x.le;rw [qU om,qU om] at he;rw [By om,By (l := lim b) om,he,show x.k - 1 + 1 = x.k by omega,x.eq]⟩
theorem ltL_at {la lb : List Nat} {i : Nat} (ha : Lg la) (hl : la.length = lb.length) (hi : i < la.length) (hd : la.drop (i + 1) = lb.drop (i + 1)) (h : la[i] < lb[i]) : VL la < VL lb := by
 rw [wO la (i + 1) om,wO lb (i + 1) om,hd,wN hi,wN (l := lb) (m := i) om];have h1 := L_lt (ha.take i);rw [As,Db (Cx hi)] at h1;have h2 : 4294967296 ^ i * (la[i] + 1) <= 4294967296 ^ i * lb[i] := Ci _ h;rw [Br] at h2;omega
theorem yC1 {a b k : Nat} (hl : (lim a).length = (lim b).length) (hk : 0 < k) (hk2 : k <= (lim a).length) (hd : (lim a).drop k = (lim b).drop k) (h : (lim a).getD (k - 1) 0 < (lim b).getD (k - 1) 0) : a < b := by
 rw [qU om,qU om] at h;have := ltL_at (yU a) hl (i := k - 1) om (by rw [show k - 1 + 1 = k by omega];exact hd) h
 rwa [vI,vI] at this
theorem VL_take_ge {l : List Nat} {k : Nat} (h : l.length <= k) : VL (l.take (k + 1)) = VL (l.take k) := by rw [Am h,Am (by omega)]
theorem jX {l : List Nat} {k : Nat} (h : l.length <= k) : l.getD k 0 = 0 := by rw [An,Ds h];rfl
theorem qL (l : List Nat) (k : Nat) : VL (l.take (k + 1)) = VL (l.take k) + 4294967296 ^ k * l.getD k 0 := by
 rcases Bs k l.length with h | h
 ·rw [wN h,qU h]
 ·rw [VL_take_ge h,jX h];omega
structure PlL (a b : List Nat) where
 k : Nat
 c : Nat
 o : List Nat
 eq : VL o + c * 4294967296 ^ k = VL (a.take k) + VL (b.take k)
 lo : o.length = k
 lg : Lg o
 hc : c <= 1
 le : k <= a.length
def PlL.s {a b : List Nat} (x : PlL a b) : Nat := x.c + a.getD x.k 0 + b.getD x.k 0
theorem pll_step {a b o : List Nat} {k c s : Nat} (h : VL o + c * 4294967296 ^ k = VL (a.take k) + VL (b.take k)) (ho : o.length = k) (hs : s = c + a.getD k 0 + b.getD k 0) :
  VL (o ++ [s % 4294967296]) + s / 4294967296 * 4294967296 ^ (k + 1) = VL (a.take (k + 1)) + VL (b.take (k + 1)) := by
 rw [dD,ho,qL a,qL b,Bv];generalize 4294967296 ^ k = B at *;have e : s = 4294967296 * (s / 4294967296) + s % 4294967296 := (Co s 4294967296).symm;have e2 : B * s = B * (4294967296 * (s / 4294967296)) + B * (s % 4294967296) := by rw [<- Br,<- e]
 have e3 : B * s = B * c + B * a.getD k 0 + B * b.getD k 0 := by rw [hs,Br,Br]
 have e4 : s / 4294967296 * (B * 4294967296) = B * (4294967296 * (s / 4294967296)) := by rw [At,Bo]
 have e5 : c * B = B * c := At _ _;omega
theorem PlL.s_le {a b : List Nat} (x : PlL a b) (ha : Lg a) (hb : Lg b) : x.s <= 8589934591 := by
 have h1 := qG ha x.k;have h2 := qG hb x.k;have h3 := x.hc;unfold PlL.s;omega
def PlL.next {a b : List Nat} (x : PlL a b) (ha : Lg a) (hb : Lg b) (h : x.k < a.length) : PlL a b := ⟨x.k + 1,x.s / 4294967296,x.o ++ [x.s % 4294967296],pll_step x.eq x.lo rfl,by simp [x.lo],x.lg.snoc (Cj _ de),by have := x.s_le ha hb;omega,h⟩
def PlL.start (a b : List Nat) : PlL a b := ⟨0,0,[],by simp [VL],rfl,Lg.nil,Ap _,Ap _⟩
theorem PlL.fin {a b : List Nat} (x : PlL a b) (h : a.length <= x.k) (hl : b.length <= a.length) : VL (x.o ++ [x.c]) = VL a + VL b /\ Lg (x.o ++ [x.c]) := by
 have h1 := x.eq;rw [Am h,Am om] at h1;refine ⟨by rw [dD,x.lo,At];exact h1,x.lg.snoc (by have := x.hc;omega)⟩
structure MiL (a b : List Nat) where
 k : Nat
 c : Nat
 o : List Nat
 eq : VL o + VL (b.take k) = VL (a.take k) + c * 4294967296 ^ k
 lo : o.length = k
 lg : Lg o
 hc : c <= 1
 le : k <= a.length
def lsD (x y b : Nat) : Nat := (x + 8589934592 - y - b) % 4294967296
def lsB (x y b : Nat) : Nat := if x < y + b then 1 else 0
theorem yW1 {x y b : Nat} (hx : x < 4294967296) (hy : y < 4294967296) (hb : b <= 1) : lsD x y b + y + b = x + 4294967296 * lsB x y b := by
 unfold lsD lsB;split <;> omega
theorem yV1 (x y b : Nat) : lsD x y b < 4294967296 := Cj _ de
theorem zN1 (x y b : Nat) : lsB x y b <= 1 := by unfold lsB;split <;> omega
theorem mil_step {a b o : List Nat} {k c y d : Nat} (h : VL o + VL (b.take k) = VL (a.take k) + c * 4294967296 ^ k) (ho : o.length = k) (hy : y + b.getD k 0 + c = a.getD k 0 + 4294967296 * d) :
  VL (o ++ [y]) + VL (b.take (k + 1)) = VL (a.take (k + 1)) + d * 4294967296 ^ (k + 1) := by
 rw [dD,ho,qL a,qL b,Bv];generalize 4294967296 ^ k = B at *;have e : B * y + B * b.getD k 0 + B * c = B * a.getD k 0 + B * (4294967296 * d) := by rw [<- Br,<- Br,<- Br,hy]
 have e4 : d * (B * 4294967296) = B * (4294967296 * d) := by rw [At,Bo]
 have e5 : c * B = B * c := At _ _;omega
def MiL.next {a b : List Nat} (x : MiL a b) (ha : Lg a) (hb : Lg b) (h : x.k < a.length) : MiL a b := ⟨x.k + 1,lsB (a.getD x.k 0) (b.getD x.k 0) x.c,x.o ++ [lsD (a.getD x.k 0) (b.getD x.k 0) x.c],mil_step x.eq x.lo (yW1 (qG ha _) (qG hb _) x.hc),by simp [x.lo],x.lg.snoc (yV1 _ _ _),zN1 _ _ _,h⟩
def MiL.start (a b : List Nat) : MiL a b := ⟨0,0,[],by simp [VL],rfl,Lg.nil,Ap _,Ap _⟩
theorem MiL.fin {a b : List Nat} (x : MiL a b) (h : a.length <= x.k) (hl : b.length <= a.length) (hle : VL b <= VL a) : VL x.o = VL a - VL b := by
 have hk := x.le;have h1 := x.eq;have h2 := x.hc;have h3 := L_lt x.lg;rw [Am h,Am om] at h1;rw [x.lo] at h3;rcases Bu x.c with h4 | h4
 ·rw [h4] at h1;omega
 ·rw [show x.c = 1 by omega] at h1;omega
theorem wb32 (v : BitVec 32) : IntKind.u32.wrap (v.toNat : Int) = (v.toNat : Int) := by
 have := v.isLt;simp only [IntKind.wrap,IntKind.signed,IntKind.bits,Cl,Ay,if_false];omega
theorem xH0 (v : BitVec 32) : BitVec.ofInt 32 (v.toNat : Int) = v := by rw [BitVec.ofInt_natCast,BitVec.ofNat_toNat,BitVec.setWidth_eq]
theorem yH1 (x y : BitVec 32) : bAnd .u32 (x.toNat : Int) (y.toNat : Int) = ((x &&& y).toNat : Int) := by
 show IntKind.u32.wrap ((BitVec.ofInt 32 (x.toNat : Int) &&& BitVec.ofInt 32 (y.toNat : Int)).toNat : Int) = _;rw [xH0,xH0,wb32]
theorem bOr32 (x y : BitVec 32) : bOr .u32 (x.toNat : Int) (y.toNat : Int) = ((x ||| y).toNat : Int) := by
 show IntKind.u32.wrap ((BitVec.ofInt 32 (x.toNat : Int) ||| BitVec.ofInt 32 (y.toNat : Int)).toNat : Int) = _;rw [xH0,xH0,wb32]
theorem bXor32 (x y : BitVec 32) : bXor .u32 (x.toNat : Int) (y.toNat : Int) = ((x ^^^ y).toNat : Int) := by
 show IntKind.u32.wrap ((BitVec.ofInt 32 (x.toNat : Int) ^^^ BitVec.ofInt 32 (y.toNat : Int)).toNat : Int) = _;rw [xH0,xH0,wb32]
theorem yG1 (x : BitVec 32) : bNot .u32 (x.toNat : Int) = ((~~~x).toNat : Int) := by
 show IntKind.u32.wrap ((BitVec.ofInt 32 4294967295 ^^^ BitVec.ofInt 32 (x.toNat : Int)).toNat : Int) = _;rw [xH0,show BitVec.ofInt 32 4294967295 = BitVec.allOnes 32 by decide,BitVec.allOnes_xor,wb32]
theorem top32 (v : BitVec 32) : v.toNat / 2147483648 = if v.msb then 1 else 0 := by
 have h := v.isLt;rw [BitVec.msb_eq_decide];by_cases h1 : 2 ^ (32 - 1) <= v.toNat
 ·rw [Aw h1,Ab rfl];omega
 ·rw [Bz h1,Aa de];omega
theorem qD1 {x : Nat} (h : x < 4294967296) : (BitVec.ofNat 32 x).msb = decide (2147483648 <= x) := by
 rw [BitVec.msb_eq_decide,BitVec.toNat_ofNat,Du h]
theorem qB1 {x : Nat} (h : x < 4294967296) : x = (BitVec.ofNat 32 x).toNat := by rw [BitVec.toNat_ofNat,Du h]
theorem sub32_lo {x y b : Nat} (hx : x < 4294967296) (hy : y < 4294967296) (hb : b <= 1) : IntKind.u32.wrap (IntKind.u32.wrap ((x : Int) - (y : Int)) - (b : Int)) = ((lsD x y b : Nat) : Int) := by
 simp only [IntKind.wrap,IntKind.signed,IntKind.bits,Cl,Ay,if_false,lsD];omega
theorem sub32_hi {x y b : Nat} (hx : x < 4294967296) (hy : y < 4294967296) (hb : b <= 1) :
  Int.fdiv (bOr .u32 (bAnd .u32 (bNot .u32 (x : Int)) (y : Int)) (bAnd .u32 (bNot .u32 (bXor .u32 (x : Int) (y : Int))) ((lsD x y b : Nat) : Int))) (2 ^ min (Int.toNat 31) IntKind.u32.bits) = ((lsB x y b : Nat) : Int) := by
 have hd : lsD x y b < 4294967296 := yV1 x y b;have hs := yW1 hx hy hb;have m1 := qD1 hx;have m2 := qD1 hy;have m3 := qD1 hd;rw [show ((x : Nat) : Int) = ((BitVec.ofNat 32 x).toNat : Int) by rw [<- qB1 hx],show ((y : Nat) : Int) = ((BitVec.ofNat 32 y).toNat : Int) by rw [<- qB1 hy],show ((lsD x y b : Nat) : Int) = ((BitVec.ofNat 32 (lsD x y b)).toNat : Int) by rw [<- qB1 hd],yG1,yH1,bXor32,yG1,yH1,bOr32];rw [show ((2 : Int) ^ min (Int.toNat 31) IntKind.u32.bits) = ((2147483648 : Nat) : Int) by decide,Int.fdiv_eq_ediv_of_nonneg _ om,<- Int.natCast_ediv,top32];simp only [BitVec.msb_or,BitVec.msb_and,BitVec.msb_not,BitVec.msb_xor,m1,m2,m3];congr 1;unfold lsB at *;generalize lsD x y b = d at *;by_cases h1 : 2147483648 <= x <;> by_cases h2 : 2147483648 <= y <;> by_cases h3 : 2147483648 <= d <;> by_cases h4 : x < y + b <;> simp only [h1,h2,h3,h4,decide_true,decide_false,if_true,if_false,Bool.and_true,Bool.and_false,Bool.not_true,Bool.not_false,Bool.or_true,Bool.or_false,Dy,Cl,Bool.xor_true,Bool.xor_false,Bool.true_or,Bool.false_or] at hs ⊢ <;> (first | rfl | omega)
open Go.RowKit
variable {md me : Bool}
theorem qW0 {x : Nat} (h : 0 < (lim x).length) : (lim x).getD ((lim x).length - 1) 0 ≠ 0 := by
 have h1 := lim_noLead x (Cr.1 h)
 rwa [List.getLast_eq_getElem,<- qU om] at h1
theorem cG (x : Nat) (hx : (lim x).length <= 600) : Fx 239 [usD (lim x)] (.v (.bool true)) := by
 refine yD zL Tryz.func239 rfl rfl rfl rfl rfl rfl ?_;intros;refine zJ 100 ?_;refine zB (zE zL [] 200 rfl ?_);repeat (first | refine zH ?_ | refine zU (by first | exact trivial | omega | exact ini (by omega) (by omega) | (intro hh;simp at hh;exact ini om om) | (intro hh;simp at hh ⊢;omega) | (simp at *;omega) | (simp_all;done) | (simp;intro _ h2;have := Cr.2 h2;omega)) ?_)
 refine zC (zA (zK ?_));exact u4 rfl (u7 (by simp;refine ⟨by omega,?_⟩;by_cases h : lim x = [];exact Or.inl h;exact Or.inr (by have := qW0 (x := x) (Cr.2 h);rwa [An] at this)))
theorem wD (x y : Nat) (hx : (lim x).length <= 600) (hy : (lim y).length <= 600) : Fx 207 [usD (lim x),usD (lim y)] (faD 0 0) := by
 refine yD zL Tryz.func207 rfl rfl rfl rfl rfl rfl ?_;intros;refine zJ 100 ?_;refine zB (zR ?_);refine zB (zE zL [] 200 rfl ?_);refine zF ?_;refine zO _ (cG _ ao) rfl ?_;refine zF ?_;refine zC (zA (zW (fun c1 => ?_) (fun c1 => ?_)))
 ·
  exact absurd c1 de
 ·
  refine zB (zE zL [] 400 rfl ?_);refine zF ?_;refine zO _ (cG _ ao) rfl ?_;refine zF ?_;refine zC (zA (zW (fun c3 => ?_) (fun c3 => ?_)))
  ·
   exact absurd c3 de
  ·
   refine zM (zP (zA (zJ 600 ?_)));refine zK ?_;exact u4 rfl (u6 _)
theorem jK (l : List Nat) (hg : Lg l) (hl : l.length <= 100000000) : Fx 241 [usD l] (usD (lim (VL l))) := by
 refine yD zL Tryz.func241 rfl rfl rfl rfl rfl rfl ?_;intros;refine zJ 100 ?_;refine zB (zR ?_);refine yC (ι := TrmL l) [] [] 150 (fun x => [(0,.sl false 1 x.r uD 0)]) (fun _ => []) (fun x => x.r.length) ⟨l,hg,rfl,Ao _⟩ ?_;refine ⟨⟨yM,yH,rfl,rfl⟩,fun x => ?_⟩;have hk := x.le;refine zB (zJ 200 ?_);refine zW (fun c1 => ?_) (fun c1 => ?_)
 ·
  refine zM (zA (zR (yN zL [] 300 ?_)));refine zP ?_;have h9 := c1.2;rw [bM] at h9;exact zS (x.next (by omega) (by omega)) ⟨(by repeat (first | exact Sub.of_eq (by rw [dG0];rfl) | refine ⟨?_,?_⟩ | exact lx)),yH,rfl,rfl⟩ (by show (x.r.take (x.r.length - 1)).length < x.r.length;rw [As];omega)
 ·
  refine yE (yA (yB (zX (zA (zJ 400 ?_)))));refine zK ?_;rw [bM] at c1;have e : x.r = lim (VL l) := x.fin (fun hp h9 => by rw [h9,Aw (show (0 : Int) < (x.r.length : Nat) by omega)] at c1;exact absurd c1 de);exact u4 rfl (u9 (by rw [e];rfl))
theorem vB0 (l : List Nat) (hg : Lg l) (hl : l.length <= 100000000) (h6 : (lim (VL l)).length <= 600) : Fx 208 [usD l] (.tup [usD (lim (VL l)),faD 0 0]) := by
 refine yD zL Tryz.func208 rfl rfl rfl rfl rfl rfl ?_;intros;refine zJ 100 ?_;refine zB ?_;refine zB (zE zL [] 200 rfl ?_);refine zF ?_;refine zO _ (jK _ ao ao) rfl ?_;refine zF ?_;refine zC (zA (zJ 300 ?_));refine zW (fun c2 => ?_) (fun c2 => ?_)
 ·
  exact absurd c2 om
 ·
  refine zM (zA (zJ 500 ?_));refine zK ?_;exact u4 rfl (u6 _)
theorem xY (a b : Nat) (ha : (lim a).length <= 100000000) (hb : (lim b).length <= 100000000) : Fx 210 [usD (lim a),usD (lim b)] (.v (.int .i64 (cmpL a b))) := by
 refine yD zL Tryz.func210 rfl rfl rfl rfl rfl rfl ?_;intros;refine zJ 100 ?_;refine zB (zJ 200 ?_);refine zW (fun c1 => ?_) (fun c1 => ?_)
 ·
  refine zJ 300 ?_;refine zK (zN ?_);exact u4 rfl (u10 (cmpL_ne om).symm)
 ·
  refine zM (zA (zB (zJ 400 ?_)));refine zR ?_;refine yC (ι := CpL a b) [0,1] [] 450 (fun x => [(5,.v (.int .i64 ((x.k : Int) - 1)))]) (fun _ => []) (fun x => x.k) ⟨(lim a).length,Ao _,by rw [Ax (Ao _),Ax om]⟩ ?_;refine ⟨⟨yM,yH,rfl,rfl⟩,fun x => ?_⟩;have hk := x.le;have hkt : ((x.k : Int) - 1).toNat = x.k - 1 := by omega
  refine zB (zJ 500 ?_);refine zW (fun c4 => ?_) (fun c4 => ?_)
  ·
   refine zM (zA (zB (zR ?_)));refine zB (zZ zL [] mK1 700 yQ kr rfl ?_);refine zF ?_;refine zC (zA (zW (fun c6 => ?_) (fun c6 => ?_)))
   ·
    refine zB ?_;refine zB (zZ zL [] mK1 800 yQ kr rfl ?_);refine zF ?_;refine zC (zA (zW (fun c7 => ?_) (fun c7 => ?_)))
    ·
     refine zJ 900 ?_;refine zK (zN (zQ (zN (yL (zQ (zN ?_))))));rw [hkt] at c7;exact u4 rfl (u10 (by rw [gE0 om,wF0 (yC1 om om hk x.eq om)]))
    ·
     refine zM (zA (zJ 1000 ?_));refine zK (zQ (zN (yL (zQ (zN ?_)))));rw [hkt] at c6 c7;exact u4 rfl (u10 (by rw [gE0 om,yQ0 (yC1 om om om x.eq.symm om)]))
   ·
    refine zM (zP (zA (yN zL [] 800 ?_)));rw [hkt] at c6;exact zS (x.next (by omega) (by omega) (by omega)) ⟨(by repeat (first | exact u21 (by show (x.k : Int) - 1 - 1 = ((x.k - 1 : Nat) : Int) - 1;omega) | refine ⟨?_,?_⟩ | exact lx)),yH,rfl,rfl⟩ (by show x.k - 1 < x.k;omega)
  ·
   refine yE (yA (yB (zX (zA (zJ 1100 ?_)))));refine zK ?_;have hz : x.k = 0 := by omega
   have he := x.eq;rw [hz] at he;exact u4 rfl (u10 (by rw [gE0 om,mM0 (by have := congrArg VL he;rwa [Dd,Dd,vI,vI] at this)]))
theorem vC0 (a b : Nat) (ha : (lim a).length <= 600) (hb : (lim b).length <= 600) : Fx 163 [usD (lim a),usD (lim b)] (.tup [.v (.int .i64 (cmpN a b)),faD 0 0]) := by
 refine yD zL Tryz.func163 rfl rfl rfl rfl rfl rfl ?_;intros;refine zJ 100 ?_;refine zB ?_;refine zB (zE zL [] 200 rfl ?_);refine zF ?_;refine zO _ (wD _ _ ao ao) rfl ?_;refine zF ?_;refine zC (zA (zJ 300 ?_));refine zW (fun c2 => ?_) (fun c2 => ?_)
 ·
  exact absurd c2 de
 ·
  refine zM (zA ?_);refine zB (zE zL [] 500 rfl ?_);refine zF ?_;refine zO _ (xY _ _ ao ao) rfl ?_;refine zf (zA (zK ?_));exact u4 rfl (u19 ⟨u10 (by have h := yE1 a b;generalize cmpL a b = c at *;rw [<- h];split <;> (try split) <;> (try split at *) <;> omega),u6 _,trivial⟩)
def I32 (x : Int) : Prop := 0 <= x /\ x < 4294967296
theorem pR {l : List Nat} (h : Lg l) (i : Nat) : I32 ((l.getD i 0 : Nat) : Int) := by
 have := qG h i;exact ⟨by omega,by omega⟩
theorem jS1 : I32 0 := ⟨by decide,by decide⟩
theorem cB0 {l : List Nat} (h : Lg l) (i : Nat) : Lg (l.drop i) := fun x hx => h x (Dh hx)
theorem sub32_ok {x y b : Int} (hx : I32 x) (hy : I32 y) (hb : 0 <= b /\ b <= 1) : IntKind.u32.wrap (IntKind.u32.wrap (x - y) - b) = ((lsD x.toNat y.toNat b.toNat : Nat) : Int) /\
  Int.fdiv (bOr .u32 (bAnd .u32 (bNot .u32 x) y) (bAnd .u32 (bNot .u32 (bXor .u32 x y)) ((lsD x.toNat y.toNat b.toNat : Nat) : Int))) (2 ^ min (Int.toNat 31) IntKind.u32.bits) = ((lsB x.toNat y.toNat b.toNat : Nat) : Int) := by
 obtain ⟨x,rfl⟩ := Ch hx.1;obtain ⟨y,rfl⟩ := Ch hy.1;obtain ⟨b,rfl⟩ := Ch hb.1;have h1 := hx.2;have h2 := hy.2;have h3 := hb.2;simp only [Ad];exact ⟨sub32_lo om om om,sub32_hi om om om⟩
theorem tQ (x y b : Int) (hx : I32 x) (hy : I32 y) (hb : 0 <= b /\ b <= 1) : Fx 256 [.v (.int .u32 x),.v (.int .u32 y),.v (.int .u32 b)] (.tup [.v (.int .u32 (lsD x.toNat y.toNat b.toNat : Nat)),.v (.int .u32 (lsB x.toNat y.toNat b.toNat : Nat))]) := by
 refine yD zL Tryz.func256 rfl rfl rfl rfl rfl rfl ?_;intros;refine zJ 100 ?_;refine zJ 200 ?_;refine zJ 300 ?_;refine zK ?_;obtain ⟨e1,e2⟩ := sub32_ok hx hy hb;exact u4 rfl (u19 ⟨u10 e1,u10 (by rw [e1];exact e2),trivial⟩)
theorem CloneU_G (l : List Nat) (hl : l.length <= 2000000) : FnG Tryz.prog 101 [usD l] [] (.mo 0 l.length) [.mrow 126 1 (.map l uD 0)] := by
 refine mK zL Tryz.func101 rfl rfl rfl rfl rfl rfl rfl ?_;intros;refine zB (zE zL [] 100 rfl ?_);repeat (first | refine zH ?_ | refine zU (by exact xI hl) ?_)
 refine zC (zA (zB (zB ?_)));refine kO Tryz.underlying25 rfl rfl rfl fun c hc => ?_;refine zA (zT rfl (fun c1 => ?_) (fun c1 => ?_))
 ·
  refine zB (zE zL [] 300 rfl ?_);repeat (first | refine zH ?_ | refine zU (by exact xI hl) ?_)
  refine zC (zA ?_);refine qA 2 126 1 rfl ?_;refine ev_thaw 300 rfl ?_;refine zK (zN ?_);obtain rfl := hc c1;exact u11 300 rfl rfl (u0 _) ⟨SubO.mr rfl,trivial⟩
 ·
  refine zM (zA ?_);refine zB (zE zL [1005] 400 rfl ?_);repeat (first | refine zH ?_ | refine zU (by first | rfl | exact xI hl | (simp only [MR.len,Bc,Bb];omega)) ?_)
  refine zC (zA (zK ?_));exact u11 100 rfl rfl (Sub.mo (by rw [Bb,Cg])) ⟨SubO.mr rfl,trivial⟩
theorem cH0 {P : Program} {E : Pn} {K : DS -> Prop} {p : Prop} {r : Out} (hr : r.sat P E K) (hp : p := by first | exact ⟨hm,by rw [<- hm];exact c4⟩ | exact ⟨hm,by rw [<- hm];omega⟩ | exact Ej) : (Out.need p r).sat P E K := ⟨hp,hr⟩
theorem natSub0_ok (a b : Nat) (ha : (lim a).length <= 100000) (hb : (lim b).length <= 100000) (hle : b <= a) : Fx 248 [usD (lim a),usD (lim b)] (usD (lim (a - b))) := by
 refine yD zL Tryz.func248 rfl rfl rfl rfl rfl rfl ?_;intros;refine zJ 100 ?_;refine zB (zE zL [1010] 200 rfl ?_);refine zF ?_;refine qC _ _ (CloneU_G (lim a) om) rfl ?_;refine zF ?_;refine zC (zA (zJ 300 ?_));refine zB (zJ 400 ?_);refine zR ?_;refine yC (ι := MiL (lim a) (lim b)) [1,5,12] [] 450 (fun x => [(6,.v (.int .u32 x.c)),(13,.v (.int .i64 x.k))]) (fun x => [(101,.mrow 126 1 (.map (x.o ++ (lim a).drop x.k) uD 0))]) (fun x => (lim a).length - x.k) (MiL.start _ _) ?_;refine ⟨⟨yM,yH,rfl,rfl⟩,fun x => ?_⟩;have hk := x.le;have hlo := x.lo;have hc1 := x.hc;have hm : (lim a).length = (MR.map (x.o ++ (lim a).drop x.k) uD 0).len := by rw [MR.len,Ag,Bm];omega
 refine zJ 500 ?_;refine zB (zW (fun c4 => ?_) (fun c4 => ?_))
 ·
  refine zM (zA (zB (zR (zJ 600 ?_))));refine zJ 700 ?_;refine zB (zJ 800 ?_);refine zW (fun c7 => ?_) (fun c7 => ?_)
  ·
   refine yN zL [] 900 ?_;refine zA ?_;refine zE zL [] 1000 rfl ?_;repeat (first | refine zH ?_ | refine cH0 ?_)
   refine zO _ (tQ _ _ _ (pR (yM1 x.lg (cB0 (yU a) _)) _) (by first | exact jS1 | exact pR (yU b) _) ⟨by omega,by omega⟩) rfl ?_;repeat (first | refine zH ?_ | refine cH0 ?_)
   refine zC (zP (zA (yN zL [] 1100 ?_)));exact zS (x.next (yU a) (yU b) (by omega)) ⟨(by repeat (first | exact u21 (by (try simp only [Ad,uP0 x.lo]);(try rw [show Int.toNat 0 = (lim b).getD x.k 0 from (jX (by omega)).symm]);rfl) | refine ⟨?_,?_⟩ | exact lx)),⟨SubO.mr (by (try simp only [Ad,uP0 x.lo]);(try rw [show Int.toNat 0 = (lim b).getD x.k 0 from (jX (by omega)).symm]);exact qD0 x.lo om),yH⟩,rfl,rfl⟩ (by show (lim a).length - (x.k + 1) < (lim a).length - x.k;omega)
  ·
   refine zM (zA ?_);refine zE zL [] 1000 rfl ?_;repeat (first | refine zH ?_ | refine cH0 ?_)
   refine zO _ (tQ _ _ _ (pR (yM1 x.lg (cB0 (yU a) _)) _) (by first | exact jS1 | exact pR (yU b) _) ⟨by omega,by omega⟩) rfl ?_;repeat (first | refine zH ?_ | refine cH0 ?_)
   refine zC (zP (zA (yN zL [] 1100 ?_)));exact zS (x.next (yU a) (yU b) (by omega)) ⟨(by repeat (first | exact u21 (by (try simp only [Ad,uP0 x.lo]);(try rw [show Int.toNat 0 = (lim b).getD x.k 0 from (jX (by omega)).symm]);rfl) | refine ⟨?_,?_⟩ | exact lx)),⟨SubO.mr (by (try simp only [Ad,uP0 x.lo]);(try rw [show Int.toNat 0 = (lim b).getD x.k 0 from (jX (by omega)).symm]);exact qD0 x.lo om),yH⟩,rfl,rfl⟩ (by show (lim a).length - (x.k + 1) < (lim a).length - x.k;omega)
 ·
  refine yE (yA (yB (zX (zA ?_))));refine jZ 101 rfl (by repeat (first | exact trivial | exact hm | refine ⟨?_,?_⟩)) (by repeat (first | exact trivial | refine ⟨?_,?_⟩)) ?_;refine zB (zE zL [] 1200 rfl ?_);refine zF ?_;refine zO _ ((jK x.o x.lg om).args ⟨SubP.ownSl (by show List.map uD _ = _;rw [Ax om,Cn]),trivial⟩) rfl ?_;refine zf (zA (zK ?_));have e := x.fin om (qR hle) (by rw [vI,vI];exact hle);rw [vI,vI] at e;exact u4 rfl (u9 (by rw [e]))
theorem yK1 {o : List Nat} {j y : Nat} (h : j < o.length) : VL (o.set j y) + 4294967296 ^ j * o.getD j 0 = VL o + 4294967296 ^ j * y := by
 induction o generalizing j with
 | nil => cases h
 | cons d o ih =>
  cases j with
  | zero => simp [uS];omega
  | succ j =>
   have h1 := ih (j := j) (by simpa using h);rw [List.set_cons_succ,uS,uS,List.getD_cons_succ,Bv];generalize 4294967296 ^ j = B at *;have e1 : B * 4294967296 * o.getD j 0 = 4294967296 * (B * o.getD j 0) := by rw [At B,Bo]
   have e2 : B * 4294967296 * y = 4294967296 * (B * y) := by rw [At B,Bo]
   omega
theorem bY {o : List Nat} {n : Nat} (h : VL (o.drop n) = 0) : o.getD n 0 = 0 /\ VL (o.drop (n + 1)) = 0 := by
 rcases Bs n o.length with h1 | h1
 ·rw [By h1,uS] at h;rw [qU h1];omega
 ·rw [jX h1,Ax om];exact ⟨rfl,rfl⟩
structure MuO (a b : List Nat) where
 i : Nat
 o : List Nat
 eq : VL o = VL (a.take i) * VL b
 lo : o.length = a.length + b.length
 lg : Lg o
 hz : VL (o.drop (i + b.length)) = 0
 le : i <= a.length
structure MuI (a b : List Nat) (i : Nat) where
 k : Nat
 c : Nat
 o : List Nat
 eq : VL o + c * 4294967296 ^ (i + k) = VL (a.take i) * VL b + 4294967296 ^ i * (a.getD i 0 * VL (b.take k))
 lo : o.length = a.length + b.length
 lg : Lg o
 hz : VL (o.drop (i + b.length)) = 0
 hc : c < 4294967296
 le : k <= b.length
def MuO.start (a b : List Nat) : MuO a b := ⟨0,List.replicate (a.length + b.length) 0,by simp [VL,gI0],by simp,tR _,by rw [List.drop_replicate,gI0],Ap _⟩
def MuI.start {a b : List Nat} (x : MuO a b) : MuI a b x.i := ⟨0,0,x.o,by simp [VL,x.eq],x.lo,x.lg,x.hz,by decide,Ap _⟩
def MuI.s {a b : List Nat} {i : Nat} (x : MuI a b i) : Nat := x.c + a.getD i 0 * b.getD x.k 0 + x.o.getD (i + x.k) 0
theorem tK {x y : Nat} (hx : x < 4294967296) (hy : y < 4294967296) : x * y <= 18446744065119617025 := Nat.mul_le_mul (show x <= 4294967295 by omega) (show y <= 4294967295 by omega)
theorem MuI.s_lt {a b : List Nat} {i : Nat} (x : MuI a b i) (ha : Lg a) (hb : Lg b) : x.s < 18446744073709551616 := by
 have h1 := tK (qG ha i) (qG hb x.k);have h2 := qG x.lg (i + x.k);have h3 := x.hc;unfold MuI.s;omega
theorem mul_step {a b o : List Nat} {i k c s : Nat} (h : VL o + c * 4294967296 ^ (i + k) = VL (a.take i) * VL b + 4294967296 ^ i * (a.getD i 0 * VL (b.take k))) (hj : i + k < o.length) (hs : s = c + a.getD i 0 * b.getD k 0 + o.getD (i + k) 0) :
  VL (o.set (i + k) (s % 4294967296)) + s / 4294967296 * 4294967296 ^ (i + (k + 1)) = VL (a.take i) * VL b + 4294967296 ^ i * (a.getD i 0 * VL (b.take (k + 1))) := by
 have h1 := yK1 (y := s % 4294967296) hj;have e0 : 4294967296 ^ i * (a.getD i 0 * VL (b.take (k + 1))) = 4294967296 ^ i * (a.getD i 0 * VL (b.take k)) + 4294967296 ^ (i + k) * (a.getD i 0 * b.getD k 0) := by
  rw [qL b,Br,Br,Ef];congr 1;rw [Bo];congr 1;rw [<- Bo,<- Bo,At (a.getD i 0)]
 rw [e0,<- Dx i k 1,Bv];generalize 4294967296 ^ (i + k) = B at *;generalize 4294967296 ^ i * (a.getD i 0 * VL (b.take k)) = R at *;generalize VL (a.take i) * VL b = Q at *;generalize a.getD i 0 * b.getD k 0 = M at *;have e : s = 4294967296 * (s / 4294967296) + s % 4294967296 := (Co s 4294967296).symm;have e2 : B * s = B * (4294967296 * (s / 4294967296)) + B * (s % 4294967296) := by rw [<- Br,<- e]
 have e3 : B * s = B * c + B * M + B * o.getD (i + k) 0 := by rw [hs,Br,Br]
 have e4 : s / 4294967296 * (B * 4294967296) = B * (4294967296 * (s / 4294967296)) := by rw [At,Bo]
 have e5 : c * B = B * c := At _ _;omega
def MuI.next {a b : List Nat} {i : Nat} (x : MuI a b i) (ha : Lg a) (hb : Lg b) (hi : i < a.length) (h : x.k < b.length) : MuI a b i := ⟨x.k + 1,x.s / 4294967296,x.o.set (i + x.k) (x.s % 4294967296),mul_step x.eq (by rw [x.lo];omega) rfl,by rw [Cw,x.lo],x.lg.set _ (Cj _ de),by rw [List.drop_set_of_lt om];exact x.hz,by have := x.s_lt ha hb;omega,h⟩
def MuI.fin {a b : List Nat} {i : Nat} (x : MuI a b i) (hi : i < a.length) (h : b.length <= x.k) : MuO a b := ⟨i + 1,x.o.set (i + b.length) x.c,by
 have hk := x.le;have e : x.k = b.length := by omega
 have h1 := x.eq;have h2 := yK1 (o := x.o) (j := i + b.length) (y := x.c) (by rw [x.lo];omega);rw [(bY x.hz).1] at h2;rw [e,Am (Ao _)] at h1;rw [qL a,Bg];have e5 : x.c * 4294967296 ^ (i + b.length) = 4294967296 ^ (i + b.length) * x.c := At _ _;rw [Bo];omega,by rw [Cw,x.lo],x.lg.set _ x.hc,by
 rw [List.drop_set_of_lt om,show i + 1 + b.length = i + b.length + 1 by omega];exact (bY x.hz).2,hi⟩
theorem MuO.fin {a b : List Nat} (x : MuO a b) (h : a.length <= x.i) : VL x.o = VL a * VL b := by rw [x.eq,Am h]
structure Sho (a : List Nat) (d : Nat) where
 k : Nat
 r : Nat
 o : List Nat
 eq : VL (o.drop k) * d + r = VL (a.drop k)
 lo : o.length = a.length
 lg : Lg o
 hr : r < d
 le : k <= a.length
def Sho.start (a : List Nat) {d : Nat} (h : 0 < d) : Sho a d := ⟨a.length,0,List.replicate a.length 0,by rw [List.drop_replicate,Nat.sub_self,Ax (Ao _)];simp [VL],by simp,tR _,h,Ao _⟩
def Sho.s {a : List Nat} {d : Nat} (x : Sho a d) : Nat := x.r * 4294967296 + a.getD (x.k - 1) 0
theorem Sho.s_lt {a : List Nat} {d : Nat} (x : Sho a d) (ha : Lg a) (hd : d < 4294967296) : x.s / d < 4294967296 := by
 have h1 := qG ha (x.k - 1);have h2 := x.hr;rw [Dj om];unfold Sho.s;have : x.r * 4294967296 + 4294967296 <= d * 4294967296 := by omega
 omega
def Sho.next {a : List Nat} {d : Nat} (x : Sho a d) (ha : Lg a) (hd : d < 4294967296) (h : 0 < x.k) : Sho a d := ⟨x.k - 1,x.s % d,x.o.set (x.k - 1) (x.s / d),by
 have hk := x.le;have hl := x.lo;have h1 := x.eq;have e := Co x.s d;rw [By (by rw [Cw];omega),By (l := a) om,uS,uS,List.getElem_set_self,show x.k - 1 + 1 = x.k by omega,List.drop_set_of_lt om,<- h1,<- qU (by omega : x.k - 1 < a.length)];rw [Bg,At (x.s / d),Bo];rw [Br];unfold Sho.s at *;generalize VL (x.o.drop x.k) * d = Q at *;omega,by rw [Cw,x.lo],x.lg.set _ (x.s_lt ha hd),Cj _ (by have := x.hr;omega),by have := x.le;omega⟩
theorem Sho.fin {a : List Nat} {d : Nat} (x : Sho a d) (h : x.k = 0) : VL x.o = VL a / d /\ x.r = VL a % d := by
 have h1 := x.eq;have h2 := x.hr;rw [h,Dd,Dd] at h1;have hd : 0 < d := by omega
 rw [<- h1];constructor
 ·rw [At,Nat.mul_add_div hd,Eg h2,Cb]
 ·rw [At,Nat.mul_add_mod,Du h2]
variable {md me : Bool}
theorem hi32 {e : Int} {s : Nat} (h : e = (s : Int)) : Int.fdiv e (2 ^ min (Int.toNat 32) IntKind.u64.bits) = ((s / 4294967296 : Nat) : Int) := by rw [h];exact tM de
theorem lo32 {e : Int} {s : Nat} (h : e = (s : Int)) : IntKind.u32.wrap e = ((s % 4294967296 : Nat) : Int) := by
 rw [h];simp only [IntKind.wrap,IntKind.signed,IntKind.bits,Cl,Ay,if_false];omega
theorem vS {l : List Nat} {y : Nat} {e : Int} (h : e = (y : Int)) : l.map uD ++ [[.v (.int .u32 e)]] = (l ++ [y]).map uD := by rw [Ae,h];rfl
theorem uV0 {a b : List Nat} (x : PlL a b) {e : Int} (h : e = (x.c : Int) + ((a.getD x.k 0 : Nat) : Int) + ((b.getD x.k 0 : Nat) : Int)) : e = ((x.s : Nat) : Int) := by
 rw [h];unfold PlL.s;omega
theorem natAdd0_ok (a b : Nat) (ha : (lim a).length <= 100000) (hb : (lim b).length <= 100000) : Fx 247 [usD (lim a),usD (lim b)] (usD (lim (a + b))) := by
 refine yD zL Tryz.func247 rfl rfl rfl rfl rfl rfl ?_;intros;refine zJ 100 ?_;refine zB (zJ 200 ?_);refine zW (fun c1 => ?_) (fun c1 => ?_)
 ·
  refine yN zL [] 300 ?_;refine zA (ev_R zL [1019] 400 ?_);refine jZ 303 rfl (by repeat (first | exact trivial | exact rfl | refine ⟨?_,?_⟩)) (by repeat (first | exact trivial | refine ⟨?_,?_⟩)) ?_;refine zJ 500 ?_;refine zB (zJ 600 ?_);refine zR ?_;refine yC (ι := PlL (lim b) (lim a)) [1,20,21] [] 650 (fun x => [(22,.v (.int .i64 (x.k : Nat))),(6,.v (.int .u64 (x.c : Nat))),(5,.own 303 1 (x.o.map uD))]) (fun x => [(303,.row 126 1 (x.o.map uD).length)]) (fun x => (lim b).length - x.k) (PlL.start _ _) ?_;refine ⟨⟨yM,yH,rfl,rfl⟩,fun x => ?_⟩;have hk := x.le;have hk2 := x.lo;have hk3 := x.hc;have hk4 := qG (yU b) x.k;have hk5 := qG (yU a) x.k;refine zJ 700 ?_;refine zB (zW (fun c6 => ?_) (fun c6 => ?_))
  ·
   refine zM (zA (zB (zR (zJ 800 ?_))));refine zJ 900 ?_;refine zB (zJ 1000 ?_);refine zW (fun c9 => ?_) (fun c9 => ?_)
   ·
    refine yN zL [] 1100 ?_;refine zA (zJ 1200 ?_);refine yN zL [] 1300 ?_;refine zP (zA (yN zL [] 1400 ?_));have zb := @jX (lim a) x.k;exact zS (x.next (yU b) (yU a) (by omega)) ⟨(by repeat (first | exact u21 (by show (x.k : Int) + 1 = ((x.k + 1 : Nat) : Int);omega) | exact u21 (hi32 (uV0 x (by (try simp only [Ad]);simp only [IntKind.wrap,IntKind.signed,IntKind.bits,Cl,Ay,if_false];omega))) | exact Sub.own (vS (lo32 (uV0 x (by (try simp only [Ad]);simp only [IntKind.wrap,IntKind.signed,IntKind.bits,Cl,Ay,if_false];omega)))) | refine ⟨?_,?_⟩ | exact lx)),(by repeat (first | exact trivial | exact u15 rfl | exact ⟨rfl,rfl,by show _ = (List.map uD (x.o ++ _)).length;simp⟩ | refine ⟨?_,?_⟩)),rfl,rfl⟩ (by show (lim b).length - (x.k + 1) < (lim b).length - x.k;omega)
   ·
    refine zM (zA (zJ 1200 ?_));refine yN zL [] 1300 ?_;refine zP (zA (yN zL [] 1400 ?_));have zb := @jX (lim a) x.k;exact zS (x.next (yU b) (yU a) (by omega)) ⟨(by repeat (first | exact u21 (by show (x.k : Int) + 1 = ((x.k + 1 : Nat) : Int);omega) | exact u21 (hi32 (uV0 x (by (try simp only [Ad]);simp only [IntKind.wrap,IntKind.signed,IntKind.bits,Cl,Ay,if_false];omega))) | exact Sub.own (vS (lo32 (uV0 x (by (try simp only [Ad]);simp only [IntKind.wrap,IntKind.signed,IntKind.bits,Cl,Ay,if_false];omega)))) | refine ⟨?_,?_⟩ | exact lx)),(by repeat (first | exact trivial | exact u15 rfl | exact ⟨rfl,rfl,by show _ = (List.map uD (x.o ++ _)).length;simp⟩ | refine ⟨?_,?_⟩)),rfl,rfl⟩ (by show (lim b).length - (x.k + 1) < (lim b).length - x.k;omega)
  ·
   refine yE (yA (yB (zX (zA ?_))));refine zB (zE zL [] 1500 rfl ?_);refine zF ?_;refine zO _ ((jK (x.o ++ [x.c]) (x.lg.snoc om) (by simp;omega)).args ⟨SubP.ownSl (vS (by simp only [IntKind.wrap,IntKind.signed,IntKind.bits,Cl,Ay,if_false];omega)),trivial⟩) rfl ?_;refine zf (zA (zK ?_));have e := (x.fin om om).1;rw [vI,vI] at e;exact u4 rfl (u9 (by rw [e];(try rw [Nat.add_comm])))
 ·
  refine zM (zA (ev_R zL [1019] 400 ?_));refine jZ 203 rfl (by repeat (first | exact trivial | exact rfl | refine ⟨?_,?_⟩)) (by repeat (first | exact trivial | refine ⟨?_,?_⟩)) ?_;refine zJ 500 ?_;refine zB (zJ 600 ?_);refine zR ?_;refine yC (ι := PlL (lim a) (lim b)) [1,20,21] [] 650 (fun x => [(22,.v (.int .i64 (x.k : Nat))),(6,.v (.int .u64 (x.c : Nat))),(5,.own 203 1 (x.o.map uD))]) (fun x => [(203,.row 126 1 (x.o.map uD).length)]) (fun x => (lim a).length - x.k) (PlL.start _ _) ?_;refine ⟨⟨yM,yH,rfl,rfl⟩,fun x => ?_⟩;have hk := x.le;have hk2 := x.lo;have hk3 := x.hc;have hk4 := qG (yU a) x.k;have hk5 := qG (yU b) x.k;refine zJ 700 ?_;refine zB (zW (fun c6 => ?_) (fun c6 => ?_))
  ·
   refine zM (zA (zB (zR (zJ 800 ?_))));refine zJ 900 ?_;refine zB (zJ 1000 ?_);refine zW (fun c9 => ?_) (fun c9 => ?_)
   ·
    refine yN zL [] 1100 ?_;refine zA (zJ 1200 ?_);refine yN zL [] 1300 ?_;refine zP (zA (yN zL [] 1400 ?_));have zb := @jX (lim b) x.k;exact zS (x.next (yU a) (yU b) (by omega)) ⟨(by repeat (first | exact u21 (by show (x.k : Int) + 1 = ((x.k + 1 : Nat) : Int);omega) | exact u21 (hi32 (uV0 x (by (try simp only [Ad]);simp only [IntKind.wrap,IntKind.signed,IntKind.bits,Cl,Ay,if_false];omega))) | exact Sub.own (vS (lo32 (uV0 x (by (try simp only [Ad]);simp only [IntKind.wrap,IntKind.signed,IntKind.bits,Cl,Ay,if_false];omega)))) | refine ⟨?_,?_⟩ | exact lx)),(by repeat (first | exact trivial | exact u15 rfl | exact ⟨rfl,rfl,by show _ = (List.map uD (x.o ++ _)).length;simp⟩ | refine ⟨?_,?_⟩)),rfl,rfl⟩ (by show (lim a).length - (x.k + 1) < (lim a).length - x.k;omega)
   ·
    refine zM (zA (zJ 1200 ?_));refine yN zL [] 1300 ?_;refine zP (zA (yN zL [] 1400 ?_));have zb := @jX (lim b) x.k;exact zS (x.next (yU a) (yU b) (by omega)) ⟨(by repeat (first | exact u21 (by show (x.k : Int) + 1 = ((x.k + 1 : Nat) : Int);omega) | exact u21 (hi32 (uV0 x (by (try simp only [Ad]);simp only [IntKind.wrap,IntKind.signed,IntKind.bits,Cl,Ay,if_false];omega))) | exact Sub.own (vS (lo32 (uV0 x (by (try simp only [Ad]);simp only [IntKind.wrap,IntKind.signed,IntKind.bits,Cl,Ay,if_false];omega)))) | refine ⟨?_,?_⟩ | exact lx)),(by repeat (first | exact trivial | exact u15 rfl | exact ⟨rfl,rfl,by show _ = (List.map uD (x.o ++ _)).length;simp⟩ | refine ⟨?_,?_⟩)),rfl,rfl⟩ (by show (lim a).length - (x.k + 1) < (lim a).length - x.k;omega)
  ·
   refine yE (yA (yB (zX (zA ?_))));refine zB (zE zL [] 1500 rfl ?_);refine zF ?_;refine zO _ ((jK (x.o ++ [x.c]) (x.lg.snoc om) (by simp;omega)).args ⟨SubP.ownSl (vS (by simp only [IntKind.wrap,IntKind.signed,IntKind.bits,Cl,Ay,if_false];omega)),trivial⟩) rfl ?_;refine zf (zA (zK ?_));have e := (x.fin om om).1;rw [vI,vI] at e;exact u4 rfl (u9 (by rw [e];(try rw [Nat.add_comm])))
theorem cC0 (n : Nat) : (MR.map (List.replicate n ()) (fun _ => jT [.int .u32 0]) ()).rows = (MR.map (List.replicate n 0) uD 0).rows := by
 simp only [MR.rows,List.map_replicate];rfl
theorem tF (o : List Nat) (j v : Nat) : (MR.upd (.map o uD 0) j (uD v)).rows = (MR.map (o.set j v) uD 0).rows := by
 simp only [MR.rows,List.map_set]
theorem w64 {n : Nat} (h : n < 18446744073709551616) : IntKind.u64.wrap (n : Int) = (n : Int) := by
 simp only [IntKind.wrap,IntKind.signed,IntKind.bits,Cl,Ay,if_false];omega
theorem w32n {n : Nat} (h : n < 4294967296) : IntKind.u32.wrap (n : Int) = (n : Int) := by
 simp only [IntKind.wrap,IntKind.signed,IntKind.bits,Cl,Ay,if_false];omega
theorem muI_s {a b : List Nat} {i : Nat} (y : MuI a b i) (ha : Lg a) (hb : Lg b) : IntKind.u64.wrap ((y.c : Int) + IntKind.u64.wrap (IntKind.u64.wrap (IntKind.u64.wrap ((a.getD i 0 : Nat) : Int) * IntKind.u64.wrap ((b.getD y.k 0 : Nat) : Int)) + IntKind.u64.wrap ((y.o.getD (i + y.k) 0 : Nat) : Int))) = ((y.s : Nat) : Int) := by
 have h0 := y.s_lt ha hb;have h1 := qG ha i;have h2 := qG hb y.k;have h3 := qG y.lg (i + y.k);have h4 := tK h1 h2;have h5 := y.hc;unfold MuI.s at *;rw [w64 (n := a.getD i 0) om,w64 (n := b.getD y.k 0) om,w64 (n := y.o.getD (i + y.k) 0) om,<- Int.natCast_mul,w64 (n := a.getD i 0 * b.getD y.k 0) om,<- Int.natCast_add,w64 (n := a.getD i 0 * b.getD y.k 0 + y.o.getD (i + y.k) 0) om,<- Int.natCast_add,w64 om];congr 1;omega
theorem yT1 {P : Program} {E : Pn} {K : DS -> Prop} {p : Prop} {r : Out} (hr : r.sat P E K) (hp : p := by first | exact ⟨hm2,by rw [<- hm2];omega⟩ | exact ⟨hm2,by omega⟩ | exact ⟨hm,by rw [<- hm];omega⟩ | exact ⟨hm,by omega⟩ | exact Ej) : (Out.need p r).sat P E K := ⟨hp,hr⟩
theorem natMul0_ok (a b : Nat) (ha : (lim a).length <= 100000) (hb : (lim b).length <= 100000) : Fx 209 [usD (lim a),usD (lim b)] (usD (lim (a * b))) := by
 refine yD zL Tryz.func209 rfl rfl rfl rfl rfl rfl ?_;intros;refine zJ 100 ?_;refine ev_R zL [1016] 200 ?_;refine yW [0,1] [] 210 [(5,.mo 105 ((lim a).length + (lim b).length))] [(105,.mrow 126 1 (.map (List.replicate ((lim a).length + (lim b).length) 0) uD 0))] ?_;refine ⟨⟨⟨Sub.mo om,yM⟩,⟨SubO.mr (by rw [cC0];congr 3),yH⟩,rfl,rfl⟩,?_⟩;refine zB (zJ 300 ?_);refine zR ?_;refine yC (ι := MuO (lim a) (lim b)) [1,5,17,18] [] 350 (fun x => [(19,.v (.int .i64 (x.i : Nat)))]) (fun x => [(105,.mrow 126 1 (.map x.o uD 0))]) (fun x => (lim a).length - x.i) (MuO.start _ _) ?_;refine ⟨⟨yM,yH,rfl,rfl⟩,fun x => ?_⟩;have hk := x.le;have hlo := x.lo;have hm : ((lim a).length + (lim b).length) = (MR.map x.o uD 0).len := by rw [MR.len,hlo]
 refine zJ 400 ?_;refine zB (zW (fun c3 => ?_) (fun c3 => ?_))
 ·
  refine zM (zA (zB (zR (zJ 500 ?_))));refine zJ 600 ?_;refine zB (zJ 700 ?_);refine zR ?_;refine yC (ι := MuI (lim a) (lim b) x.i) [1,5,6,7,17,18,19,24,25] [] 750 (fun y => [(26,.v (.int .i64 (y.k : Nat))),(8,.v (.int .u64 (y.c : Nat)))]) (fun y => [(105,.mrow 126 1 (.map y.o uD 0))]) (fun y => (lim b).length - y.k) (MuI.start x) ?_;refine ⟨⟨yM,yH,rfl,rfl⟩,fun y => ?_⟩;have hky := y.le;have hly := y.lo;have hm2 : ((lim a).length + (lim b).length) = (MR.map y.o uD 0).len := by rw [MR.len,hly]
  have hj : ((x.i : Int) + (y.k : Int)).toNat = x.i + y.k := by omega
  have es := muI_s y (yU a) (yU b);refine zJ 800 ?_;refine zB (zW (fun c7 => ?_) (fun c7 => ?_))
  ·
   refine zM (zA (zB (zR (zJ 900 ?_))));refine zB (zE zL [] 1000 rfl ?_);repeat (first | refine zH ?_ | refine yT1 ?_)
   refine zC (zA ?_);refine zB (zE zL [] 1100 rfl ?_);repeat (first | refine zH ?_ | refine yT1 ?_)
   refine zC (zA (yN zL [] 1200 ?_));refine zP (zA (yN zL [] 1300 ?_));exact zS (y.next (yU a) (yU b) (by omega) (by omega)) ⟨(by repeat (first | exact u21 (by show (y.k : Int) + 1 = ((y.k + 1 : Nat) : Int);omega) | exact u21 (by (try simp only [hj,Ad]);rw [es];exact hi32 rfl) | refine ⟨?_,?_⟩ | exact lx)),⟨SubO.mr (by (try simp only [hj,Ad]);rw [es,lo32 rfl];exact tF _ _ _),yH⟩,rfl,rfl⟩ (by show (lim b).length - (y.k + 1) < (lim b).length - y.k;omega)
  ·
   refine yE (yA (yB (zX (zA ?_))));refine zE zL [] 1400 rfl ?_;repeat (first | refine zH ?_ | refine yT1 ?_)
   refine zC (zP (zA (yN zL [] 1500 ?_)));exact zS (y.fin (by omega) (by omega)) ⟨(by repeat (first | exact u21 (by show (x.i : Int) + 1 = ((x.i + 1 : Nat) : Int);omega) | refine ⟨?_,?_⟩ | exact lx)),⟨SubO.mr (by have hj : ((x.i : Int) + ((lim b).length : Int)).toNat = x.i + (lim b).length := om;(try simp only [hj]);rw [w32n y.hc];exact tF _ _ _),yH⟩,rfl,rfl⟩ (by show (lim a).length - (x.i + 1) < (lim a).length - x.i;omega)
 ·
  refine yE (yA (yB (zX (zA ?_))));refine jZ 105 rfl (by repeat (first | exact trivial | exact hm | refine ⟨?_,?_⟩)) (by repeat (first | exact trivial | refine ⟨?_,?_⟩)) ?_;refine zB (zE zL [] 1600 rfl ?_);refine zF ?_;refine zO _ ((jK x.o x.lg om).args ⟨SubP.ownSl rfl,trivial⟩) rfl ?_;refine zf (zA (zK ?_));have e := x.fin om;rw [vI,vI] at e;exact u4 rfl (u9 (by rw [e]))
theorem or64 {h l : Nat} (hh : h < 4294967296) (hl : l < 4294967296) : bOr .u64 (IntKind.u64.wrap (IntKind.u64.wrap (h : Int) * 2 ^ min (Int.toNat 32) IntKind.u64.bits)) (IntKind.u64.wrap (l : Int)) = ((h * 4294967296 + l : Nat) : Int) := by
 rw [show ((2 : Int) ^ min (Int.toNat 32) IntKind.u64.bits) = ((4294967296 : Nat) : Int) by decide,w64 (n := h) om,w64 (n := l) om,<- Int.natCast_mul,w64 (n := h * 4294967296) om];show IntKind.u64.wrap ((BitVec.ofInt 64 ((h * 4294967296 : Nat) : Int) ||| BitVec.ofInt 64 ((l : Nat) : Int)).toNat : Int) = _;rw [BitVec.ofInt_natCast,BitVec.ofInt_natCast,BitVec.toNat_or,BitVec.toNat_ofNat,BitVec.toNat_ofNat,Du om,Du om];have e := Nat.two_pow_add_eq_or_of_lt (i := 32) (b := l) (by simpa using hl) h;rw [show (2 : Nat) ^ 32 = 4294967296 by decide,At 4294967296 h] at e;rw [<- e,w64 om]
theorem div32_ok {h l d : Int} (hh : I32 h) (hl : I32 l) (hd : I32 d) (hlt : h < d) :
  bOr .u64 (IntKind.u64.wrap (IntKind.u64.wrap h * 2 ^ min (Int.toNat 32) IntKind.u64.bits)) (IntKind.u64.wrap l) = ((h.toNat * 4294967296 + l.toNat : Nat) : Int) /\ IntKind.u64.wrap d = ((d.toNat : Nat) : Int) /\ (h.toNat * 4294967296 + l.toNat) / d.toNat < 4294967296 /\ (h.toNat * 4294967296 + l.toNat) % d.toNat < 4294967296 := by
 obtain ⟨h,rfl⟩ := Ch hh.1;obtain ⟨l,rfl⟩ := Ch hl.1;obtain ⟨d,rfl⟩ := Ch hd.1;have h1 := hh.2;have h2 := hl.2;have h3 := hd.2;simp only [Ad];refine ⟨or64 om om,w64 om,?_,?_⟩
 ·rw [Dj om];omega
 ·exact Bl (Cj _ om) om
theorem cG0 {P : Program} {E : Pn} {K : DS -> Prop} {p : Prop} {r : Out} (hr : r.sat P E K) (hp : p := by first | (rw [e2];omega) | exact Ej) : (Out.need p r).sat P E K := ⟨hp,hr⟩
theorem Div32_ok (h l d : Int) (hh : I32 h) (hl : I32 l) (hd : I32 d) (hlt : h < d) : Fx 261 [.v (.int .u32 h),.v (.int .u32 l),.v (.int .u32 d)] (.tup [.v (.int .u32 ((h.toNat * 4294967296 + l.toNat) / d.toNat : Nat)),.v (.int .u32 ((h.toNat * 4294967296 + l.toNat) % d.toNat : Nat))]) := by
 obtain ⟨e1,e2,e3,e4⟩ := div32_ok hh hl hd hlt;have hd0 : 0 < d := by have := hh.1;omega
 refine yD zL Tryz.func261 rfl rfl rfl rfl rfl rfl ?_;intros;refine zB (zE zL [] 100 rfl ?_);repeat (first | refine zH ?_ | refine cG0 ?_)
 refine zC (zA (zB ?_));refine zB (zE zL [] 200 rfl ?_);repeat (first | refine zH ?_ | refine cG0 ?_)
 refine zC (zA (zW (fun c1 => ?_) (fun c1 => ?_)))
 ·
  exact absurd c1 (by simp;omega)
 ·
  refine zM (zA ?_);refine zB (zE zL [] 400 rfl ?_);repeat (first | refine zH ?_ | refine cG0 ?_)
  refine zC (zA ?_);refine zB (zZ zL [] [[],[],[1],[0,1,2],[0,1,2,3],[],[],[6],[5,6,7],[5,6,7,8],(rgN 5),(rgN 11)] 500 yQ kr rfl ?_);repeat (first | refine zH ?_ | refine cG0 ?_)
  refine zC (zA (zK ?_));exact u4 rfl (u19 ⟨u10 (by rw [e1,e2,<- Int.ofNat_tdiv,w64 (Nat.lt_trans e3 de),w32n e3]),u10 (by rw [e1,e2,<- Int.ofNat_tmod,w32n e4]),trivial⟩)
variable {md me : Bool}
theorem vD0 (a b : Nat) (ha : (lim a).length <= 600) (hb : (lim b).length <= 600) (hab : (lim (a + b)).length <= 600) : Fx 222 [usD (lim a),usD (lim b)] (.tup [usD (lim (a + b)),faD 0 0]) := by
 refine yD zL Tryz.func222 rfl rfl rfl rfl rfl rfl ?_;intros;refine zJ 100 ?_;refine zB ?_;refine zB (zE zL [] 200 rfl ?_);refine zF ?_;refine zO _ (wD _ _ ao ao) rfl ?_;refine zF ?_;refine zC (zA (zJ 300 ?_));refine zW (fun c2 => ?_) (fun c2 => ?_)
 ·
  exact absurd c2 de
 ·
  refine zM (zA ?_);refine zB (zE zL [] 500 rfl ?_);refine zF ?_;refine zO _ (natAdd0_ok a b om om) rfl ?_;refine zF ?_;refine zO _ (vB0 (lim (a + b)) (yU _) om (by rw [vI];exact hab)) rfl ?_;refine zf (zA (zK ?_));exact u4 rfl (u19 ⟨u9 (by rw [vI]),u6 _,trivial⟩)
theorem natMul_ok (a b : Nat) (ha : (lim a).length <= 600) (hb : (lim b).length <= 600) (hab : (lim (a * b)).length <= 600) : Fx 162 [usD (lim a),usD (lim b)] (.tup [usD (lim (a * b)),faD 0 0]) := by
 refine yD zL Tryz.func162 rfl rfl rfl rfl rfl rfl ?_;intros;refine zJ 100 ?_;refine zB ?_;refine zB (zE zL [] 200 rfl ?_);refine zF ?_;refine zO _ (wD _ _ ao ao) rfl ?_;refine zF ?_;refine zC (zA (zJ 300 ?_));refine zW (fun c2 => ?_) (fun c2 => ?_)
 ·
  exact absurd c2 de
 ·
  refine zM (zA ?_);refine zB (zE zL [] 500 rfl ?_);refine zF ?_;refine zO _ (natMul0_ok a b om om) rfl ?_;refine zF ?_;refine zO _ (vB0 (lim (a * b)) (yU _) om (by rw [vI];exact hab)) rfl ?_;refine zf (zA (zK ?_));exact u4 rfl (u19 ⟨u9 (by rw [vI]),u6 _,trivial⟩)
theorem cH (a b : Nat) (ha : (lim a).length <= 600) (hb : (lim b).length <= 600) (hle : b <= a) : Fx 223 [usD (lim a),usD (lim b)] (.tup [usD (lim (a - b)),faD 0 0]) := by
 have hneg := mN0 a b;refine yD zL Tryz.func223 rfl rfl rfl rfl rfl rfl ?_;intros;refine zJ 100 ?_;refine zB ?_;refine zB (zE zL [] 200 rfl ?_);refine zF ?_;refine zO _ (wD _ _ ao ao) rfl ?_;refine zF ?_;refine zC (zA (zJ 300 ?_));refine zW (fun c2 => ?_) (fun c2 => ?_)
 ·
  exact absurd c2 de
 ·
  refine zM (zA (zB ?_));refine zB (zE zL [] 500 rfl ?_);refine zF ?_;refine zO _ (xY a b om om) rfl ?_;refine zF ?_;refine zC (zA (zW (fun c4 => ?_) (fun c4 => ?_)))
  ·
   exact absurd c4 (by simp;omega)
  ·
   refine zM (zA ?_);refine zB (zE zL [] 700 rfl ?_);refine zF ?_;refine zO _ (natSub0_ok _ _ ao ao ao) rfl ?_;refine zf (zA (zK ?_));exact u4 rfl (u6 _)
theorem jB1 {P : Program} {E : Pn} {K : DS -> Prop} {p : Prop} {r : Out} (hr : r.sat P E K) (hp : p := by first | exact ⟨hm,by rw [<- hm];omega⟩ | exact ⟨hm,by omega⟩ | exact Ej) : (Out.need p r).sat P E K := ⟨hp,hr⟩
theorem natShort_ok (a d : Nat) (ha : (lim a).length <= 100000) (h0 : 0 < d) (hd : d < 4294967296) : Fx 254 [usD (lim a),.v (.int .u32 d)] (.tup [usD (lim (a / d)),.v (.int .u32 (a % d : Nat))]) := by
 refine yD zL Tryz.func254 rfl rfl rfl rfl rfl rfl ?_;intros;refine zJ 100 ?_;refine ev_R zL [1011] 200 ?_;refine yW [0,1] [] 210 [(6,.mo 102 (lim a).length)] [(102,.mrow 126 1 (.map (List.replicate (lim a).length 0) uD 0))] ?_;refine ⟨⟨⟨Sub.mo om,yM⟩,⟨SubO.mr (by rw [cC0];congr 3),yH⟩,rfl,rfl⟩,?_⟩;refine zJ 300 ?_;refine zB (zJ 400 ?_);refine zR ?_;refine yC (ι := Sho (lim a) d) [0,1,6] [] 450 (fun x => [(8,.v (.int .i64 ((x.k : Int) - 1))),(7,.v (.int .u32 (x.r : Nat)))]) (fun x => [(102,.mrow 126 1 (.map x.o uD 0))]) (fun x => x.k) (Sho.start _ h0) ?_;refine ⟨⟨yM,yH,rfl,rfl⟩,fun x => ?_⟩;have hk := x.le;have hlo := x.lo;have hr := x.hr;have hm : (lim a).length = (MR.map x.o uD 0).len := by rw [MR.len,hlo]
 have hkt : ((x.k : Int) - 1).toNat = x.k - 1 := by omega
 refine zB (zJ 500 ?_);refine zW (fun c4 => ?_) (fun c4 => ?_)
 ·
  refine zM (zA (zB (zR ?_)));refine zE zL [] 700 rfl ?_;repeat (first | refine zH ?_ | refine jB1 ?_)
  refine zO _ (Div32_ok _ _ _ ⟨by omega,by omega⟩ (pR (yU a) _) ⟨by omega,by omega⟩ om) rfl ?_;repeat (first | refine zH ?_ | refine jB1 ?_)
  refine zC (zP (zA (yN zL [] 800 ?_)));have es : x.s = x.r * 4294967296 + (lim a).getD (x.k - 1) 0 := rfl;exact zS (x.next (yU a) hd om) ⟨⟨u21 (by show (x.k : Int) - 1 - 1 = ((x.k - 1 : Nat) : Int) - 1;omega),u21 (by simp only [hkt,Ad];show _ = ((x.s % d : Nat) : Int);rw [es]),yM⟩,⟨SubO.mr (by simp only [hkt,Ad];show _ = (MR.map (x.o.set (x.k - 1) (x.s / d)) uD 0).rows;rw [es];exact tF _ _ _),yH⟩,rfl,rfl⟩ (by show x.k - 1 < x.k;omega)
 ·
  refine yE (yA (yB (zX (zA ?_))));refine jZ 102 rfl (by repeat (first | exact trivial | exact hm | refine ⟨?_,?_⟩)) (by repeat (first | exact trivial | refine ⟨?_,?_⟩)) ?_;refine zB (zE zL [] 800 rfl ?_);refine zF ?_;refine zO _ ((jK x.o x.lg om).args ⟨SubP.ownSl rfl,trivial⟩) rfl ?_;refine zf (zA (zK ?_));have e := x.fin om;rw [vI] at e;exact u4 rfl (u19 ⟨u9 (by rw [e.1]),u10 (by rw [e.2]),trivial⟩)
theorem tU (n : Nat) : 2 ^ n = 4294967296 ^ (n / 32) * 2 ^ (n % 32) := by
 conv => lhs;rw [<- Co n 32]
 rw [Ef,Nat.pow_mul]
theorem qV1 (n : Nat) : 4294967296 = 2 ^ (n % 32) * 2 ^ (32 - n % 32) := by
 have h := Cj n (show 0 < 32 by decide);rw [<- Ef,show n % 32 + (32 - n % 32) = 32 by omega]
theorem cV0 (n : Nat) : 0 < 2 ^ (n % 32) := Nat.pow_pos de
theorem P_le (n : Nat) : 2 ^ (n % 32) <= 2147483648 := by
 have h := Cj n (show 0 < 32 by decide);have h1 : 2 ^ (n % 32) <= 2 ^ 31 := Bd de om;simpa using h1
structure Lf (l : List Nat) (n : Nat) where
 k : Nat
 c : Nat
 o : List Nat
 eq : VL o + c * 4294967296 ^ (n / 32 + k) = VL (l.take k) * 2 ^ n
 lo : o.length = n / 32 + k
 lg : Lg o
 hc : c < 2 ^ (n % 32)
 le : k <= l.length
def Lf.start (l : List Nat) (n : Nat) : Lf l n := ⟨0,0,List.replicate (n / 32) 0,by simp [gI0,VL],by simp,tR _,cV0 n,Ap _⟩
def Lf.w {l : List Nat} {n : Nat} (x : Lf l n) : Nat := l.getD x.k 0 * 2 ^ (n % 32)
theorem zQ1 (x n : Nat) : x * 2 ^ (n % 32) % 4294967296 = 2 ^ (n % 32) * (x % 2 ^ (32 - n % 32)) := by
 conv => lhs;rw [qV1 n,At x]
 rw [Nat.mul_mod_mul_left]
theorem lf_or {x n c : Nat} (hc : c < 2 ^ (n % 32)) : x * 2 ^ (n % 32) % 4294967296 ||| c = x * 2 ^ (n % 32) % 4294967296 + c := by
 rw [zQ1,Nat.two_pow_add_eq_or_of_lt hc]
theorem jO1 {x n c : Nat} (hc : c < 2 ^ (n % 32)) : x * 2 ^ (n % 32) % 4294967296 + c < 4294967296 := by
 have h0 := qV1 n;have h1 : x % 2 ^ (32 - n % 32) < 2 ^ (32 - n % 32) := Cj _ (Nat.pow_pos de);have h2 : 2 ^ (n % 32) * (x % 2 ^ (32 - n % 32) + 1) <= 2 ^ (n % 32) * 2 ^ (32 - n % 32) := Ci _ h1;rw [Br] at h2;rw [zQ1];omega
theorem lf_w_lt {x : Nat} (n : Nat) (h : x < 4294967296) : x * 2 ^ (n % 32) < 18446744073709551616 := by
 have h1 : x * 2 ^ (n % 32) <= 4294967295 * 2147483648 := Nat.mul_le_mul om (P_le n);omega
theorem jP1 {x : Nat} (n : Nat) (h : x < 4294967296) : x * 2 ^ (n % 32) / 4294967296 < 2 ^ (n % 32) := by
 rw [Dj de,At];exact Nat.mul_lt_mul_of_pos_left h (cV0 n)
theorem lf_step {l o : List Nat} {n k c : Nat} (h : VL o + c * 4294967296 ^ (n / 32 + k) = VL (l.take k) * 2 ^ n) (ho : o.length = n / 32 + k) :
  VL (o ++ [l.getD k 0 * 2 ^ (n % 32) % 4294967296 + c]) + l.getD k 0 * 2 ^ (n % 32) / 4294967296 * 4294967296 ^ (n / 32 + (k + 1)) = VL (l.take (k + 1)) * 2 ^ n := by
 have e0 : 4294967296 ^ k * l.getD k 0 * 2 ^ n = 4294967296 ^ (n / 32 + k) * (l.getD k 0 * 2 ^ (n % 32)) := by
  rw [tU n,Ef,Nat.mul_mul_mul_comm,At (4294967296 ^ k)]
 rw [dD,ho,qL l,Bg,e0,<- Dx (n / 32) k 1,Bv];generalize 4294967296 ^ (n / 32 + k) = B at *;generalize l.getD k 0 * 2 ^ (n % 32) = w at *;generalize VL (l.take k) * 2 ^ n = R at *;have e := Co w 4294967296;have e2 : B * w = B * (4294967296 * (w / 4294967296)) + B * (w % 4294967296) := by rw [<- Br,e]
 have e3 : B * (w % 4294967296 + c) = B * (w % 4294967296) + B * c := Br _ _ _;have e4 : w / 4294967296 * (B * 4294967296) = B * (4294967296 * (w / 4294967296)) := by rw [At,Bo]
 have e5 : c * B = B * c := At _ _;omega
def Lf.next {l : List Nat} {n : Nat} (x : Lf l n) (hg : Lg l) (h : x.k < l.length) : Lf l n := ⟨x.k + 1,x.w / 4294967296,x.o ++ [x.w % 4294967296 + x.c],lf_step x.eq x.lo,by simp [x.lo];omega,x.lg.snoc (jO1 x.hc),jP1 n (qG hg _),h⟩
theorem Lf.fin {l : List Nat} {n : Nat} (x : Lf l n) (h : l.length <= x.k) : VL (x.o ++ [x.c]) = VL l * 2 ^ n /\ Lg (x.o ++ [x.c]) /\ (x.o ++ [x.c]).length = n / 32 + l.length + 1 := by
 have hk := x.le;have h1 := x.eq;have h2 := P_le n;have h3 := x.hc;rw [Am h] at h1;refine ⟨by rw [dD,x.lo,At];exact h1,x.lg.snoc om,by rw [Ag,x.lo,Dm];omega⟩
theorem tW0 {l : List Nat} (hg : Lg l) (i : Nat) : VL l / 4294967296 ^ i = VL (l.drop i) := by
 rcases Bs i l.length with h | h
 ·have h1 := wO l i (Cx h);have h2 := L_lt (hg.take i);rw [As,Db (Cx h)] at h2;rw [h1,Nat.add_mul_div_left _ _ (Nat.pow_pos de),Eg h2,Cg]
 ·rw [Ax h,wM0];exact Eg (Bl (L_lt hg) (Bd de h))
theorem vH (l : List Nat) (i : Nat) : VL (l.drop i) = l.getD i 0 + 4294967296 * VL (l.drop (i + 1)) := by
 rcases Bs i l.length with h | h
 ·rw [By h,uS,qU h]
 ·rw [Ax h,Ax om,jX h];rfl
structure Rg (l : List Nat) (n : Nat) where
 k : Nat
 o : List Nat
 eq : VL o = VL l / 2 ^ n % 4294967296 ^ k
 lo : o.length = k
 lg : Lg o
 le : k <= l.length
def Rg.start (l : List Nat) (n : Nat) : Rg l n := ⟨0,[],by rw [Nat.pow_zero,Nat.mod_one];rfl,rfl,Lg.nil,Ap _⟩
def Rg.w {l : List Nat} {n : Nat} (x : Rg l n) : Nat := l.getD (n / 32 + x.k) 0 + 4294967296 * l.getD (n / 32 + x.k + 1) 0
theorem rg_limb {l : List Nat} {n k : Nat} (hg : Lg l) : VL l / 2 ^ n / 4294967296 ^ k % 4294967296 = (l.getD (n / 32 + k) 0 + 4294967296 * l.getD (n / 32 + k + 1) 0) / 2 ^ (n % 32) % 4294967296 := by
 rw [Nat.div_div_eq_div_mul,tU n,Nat.mul_right_comm,<- Ef,<- Nat.div_div_eq_div_mul,tW0 hg,vH,vH l (n / 32 + k + 1),Br,<- Dx];generalize l.getD (n / 32 + k) 0 + 4294967296 * l.getD (n / 32 + k + 1) 0 = W;generalize VL (l.drop (n / 32 + k + 1 + 1)) = R;have e : 4294967296 * (4294967296 * R) = 2 ^ (n % 32) * (4294967296 * (2 ^ (32 - n % 32) * R)) := by
  have h := qV1 n;generalize 2 ^ (n % 32) = P at *;generalize 2 ^ (32 - n % 32) = T at *
  calc 4294967296 * (4294967296 * R) = (P * T) * (4294967296 * R) := by rw [<- h]
   _ = P * (4294967296 * (T * R)) := by rw [Bo,Nat.mul_left_comm T]
 rw [e,Nat.add_mul_div_left _ _ (cV0 n),Nat.add_mul_mod_self_left]
def Rg.next {l : List Nat} {n : Nat} (x : Rg l n) (hg : Lg l) (h : n / 32 + x.k < l.length) : Rg l n := ⟨x.k + 1,x.o ++ [x.w / 2 ^ (n % 32) % 4294967296],by
 rw [dD,x.lo,x.eq];unfold Rg.w;rw [<- rg_limb hg,Bv,Nat.mod_mul],by simp [x.lo],x.lg.snoc (Cj _ de),by omega⟩
theorem Rg.fin {l : List Nat} {n : Nat} (x : Rg l n) (hg : Lg l) (h : l.length <= n / 32 + x.k) : VL x.o = VL l / 2 ^ n := by
 rw [x.eq];refine Du ?_;have h1 : VL l < 4294967296 ^ (n / 32 + x.k) := Bl (L_lt hg) (Bd de h);rw [Dj (Nat.pow_pos de)];refine Bl h1 ?_;rw [Ef,At,tU n];exact Ci _ (Nat.le_mul_of_pos_right _ (cV0 n))
variable {md me : Bool}
theorem jF1 (n : Nat) : min (Int.tmod (n : Int) 32).toNat IntKind.u64.bits = n % 32 := by
 rw [Int.tmod_eq_emod_of_nonneg om];have h : ((n : Int) % 32).toNat = n % 32 := by omega
 rw [h];have := Cj n (show 0 < 32 by decide);show min (n % 32) 64 = n % 32;omega
theorem zE1 (n : Nat) : ((2 : Int) ^ (n % 32)) = ((2 ^ (n % 32) : Nat) : Int) := by rw [Int.natCast_pow];rfl
theorem lf_w {l : List Nat} {n : Nat} (x : Lf l n) (hg : Lg l) : IntKind.u64.wrap (IntKind.u64.wrap ((l.getD x.k 0 : Nat) : Int) * 2 ^ min (Int.tmod (n : Int) 32).toNat IntKind.u64.bits) = ((x.w : Nat) : Int) := by
 have h1 := qG hg x.k;have h2 := lf_w_lt n h1;rw [jF1,zE1,w64 (n := l.getD x.k 0) om,<- Int.natCast_mul,w64 h2];rfl
theorem lf_o {l : List Nat} {n : Nat} (x : Lf l n) : bOr .u32 (IntKind.u32.wrap ((x.w : Nat) : Int)) ((x.c : Nat) : Int) = ((x.w % 4294967296 + x.c : Nat) : Int) := by
 have hP := P_le n;have hc := x.hc;rw [lo32 rfl];show IntKind.u32.wrap ((BitVec.ofInt 32 ((x.w % 4294967296 : Nat) : Int) ||| BitVec.ofInt 32 ((x.c : Nat) : Int)).toNat : Int) = _;rw [BitVec.ofInt_natCast,BitVec.ofInt_natCast,BitVec.toNat_or,BitVec.toNat_ofNat,BitVec.toNat_ofNat,Du (Cj _ de),Du (show x.c < 2 ^ 32 by omega)];unfold Lf.w;rw [lf_or hc,w32n (jO1 hc)]
theorem lf_c {l : List Nat} {n : Nat} (x : Lf l n) (hg : Lg l) : IntKind.u32.wrap (Int.fdiv ((x.w : Nat) : Int) (2 ^ min (Int.toNat 32) IntKind.u64.bits)) = ((x.w / 4294967296 : Nat) : Int) := by
 have h1 := jP1 n (qG hg x.k);have hP := P_le n;rw [hi32 rfl,w32n (by unfold Lf.w;omega)]
theorem td32 (n : Nat) : Int.tdiv (n : Int) 32 = ((n / 32 : Nat) : Int) := by rw [Int.tdiv_eq_ediv_of_nonneg (by omega)];rfl
theorem yS1 {P : Program} {E : Pn} {K : DS -> Prop} {p : Prop} {r : Out} (hr : r.sat P E K) (hp : p := by first | (rw [Int.tmod_eq_emod_of_nonneg (by omega)];omega) | exact Ej) : (Out.need p r).sat P E K := ⟨hp,hr⟩
theorem natLeft_ok (a n : Nat) (ha : (lim a).length <= 100000) (hn : n <= 1000000) : Fx 263 [usD (lim a),.v (.int .i64 n)] (usD (lim (a * 2 ^ n))) := by
 have htd := td32 n;refine yD zL Tryz.func263 rfl rfl rfl rfl rfl rfl ?_;intros;refine zJ 100 ?_;refine zB (zE zL [1018] 200 rfl ?_);repeat (first | refine zH ?_ | refine zU (by first | (rw [td32];omega) | (simp only [td32];omega) | exact ⟨by decide,by rw [td32];exact ini om om⟩ | (rw [td32];exact ini om om) | (simp only [td32];exact ini om om) | (simp only [td32];refine ⟨?_,?_⟩ <;> omega) | exact Ej) ?_)
 refine zC (zA ?_);refine yW [0,1] [] 210 [(5,.mo 108 (n / 32))] [(108,.mrow 126 1 (.map (List.replicate (n / 32) 0) uD 0))] ?_;refine ⟨⟨⟨Sub.mo (by rw [td32];omega),yM⟩,⟨SubO.mr (by rw [cC0,td32];congr 3),yH⟩,rfl,rfl⟩,?_⟩;refine jZ 108 rfl (by repeat (first | exact trivial | exact (List.length_replicate).symm | refine ⟨?_,?_⟩)) (by repeat (first | exact trivial | refine ⟨?_,?_⟩)) ?_;refine zJ 300 ?_;refine zB (zJ 400 ?_);refine zR ?_;refine yC (ι := Lf (lim a) n) [1,19,20] [] 450 (fun x => [(21,.v (.int .i64 (x.k : Nat))),(6,.v (.int .u32 (x.c : Nat))),(5,.own 108 1 (x.o.map uD))]) (fun x => [(108,.row 126 1 (x.o.map uD).length)]) (fun x => (lim a).length - x.k) (Lf.start _ _) ?_;refine ⟨⟨yM,yH,rfl,rfl⟩,fun x => ?_⟩;have hk := x.le;have hlo := x.lo;have hc1 := x.hc;have hP := P_le n;have ew := lf_w x (yU a);have eo := lf_o x;have ec := lf_c x (yU a);refine zJ 500 ?_;refine zB (zW (fun c4 => ?_) (fun c4 => ?_))
 ·
  refine zM (zA (zB (zR (zJ 600 ?_))));refine zB (zE zL [] 700 rfl ?_);repeat (first | refine zH ?_ | refine yS1 ?_)
  refine zC (zA (zJ 800 ?_));refine yN zL [] 900 ?_;refine zP (zA (yN zL [] 1000 ?_));exact zS (x.next (yU a) om) ⟨⟨u21 (by show (x.k : Int) + 1 = ((x.k + 1 : Nat) : Int);omega),u21 (by (try simp only [Ad]);rw [ew];exact ec),Sub.own (vS (by (try simp only [Ad]);rw [ew];exact eo)),yM⟩,(by repeat (first | exact trivial | exact u15 rfl | exact ⟨rfl,rfl,by show _ = (List.map uD (x.o ++ _)).length;simp⟩ | refine ⟨?_,?_⟩)),rfl,rfl⟩ (by show (lim a).length - (x.k + 1) < (lim a).length - x.k;omega)
 ·
  refine yE (yA (yB (zX (zA ?_))));refine zB (zE zL [] 1100 rfl ?_);refine zF ?_;refine zO _ ((jK (x.o ++ [x.c]) (x.lg.snoc om) (by simp;omega)).args ⟨SubP.ownSl (vS rfl),trivial⟩) rfl ?_;refine zf (zA (zK ?_));have e := (x.fin om).1;rw [vI] at e;exact u4 rfl (u9 (by rw [e]))
theorem or64r {h l : Nat} (hh : h < 4294967296) (hl : l < 4294967296) : bOr .u64 (IntKind.u64.wrap (l : Int)) (IntKind.u64.wrap (IntKind.u64.wrap (h : Int) * 2 ^ min (Int.toNat 32) IntKind.u64.bits)) = ((l + 4294967296 * h : Nat) : Int) := by
 have e := or64 hh hl;rw [show l + 4294967296 * h = h * 4294967296 + l by omega,<- e];unfold bOr;rw [BitVec.or_comm]
theorem rg_T {l : List Nat} {n : Nat} (x : Rg l n) (hg : Lg l) : bOr .u64 (IntKind.u64.wrap ((l.getD (n / 32 + x.k) 0 : Nat) : Int)) (IntKind.u64.wrap (IntKind.u64.wrap ((l.getD (n / 32 + x.k + 1) 0 : Nat) : Int) * 2 ^ min (Int.toNat 32) IntKind.u64.bits)) = ((x.w : Nat) : Int) := by
 rw [or64r (qG hg _) (qG hg _)];rfl
theorem rg_F {l : List Nat} {n : Nat} (x : Rg l n) (hg : Lg l) (h : l.length <= n / 32 + x.k + 1) : IntKind.u64.wrap ((l.getD (n / 32 + x.k) 0 : Nat) : Int) = ((x.w : Nat) : Int) := by
 have h1 := qG hg (n / 32 + x.k);unfold Rg.w;rw [jX h,w64 om];simp
theorem rg_l {n w : Nat} : IntKind.u32.wrap (Int.fdiv ((w : Nat) : Int) (2 ^ min (Int.tmod (n : Int) 32).toNat IntKind.u64.bits)) = ((w / 2 ^ (n % 32) % 4294967296 : Nat) : Int) := by
 rw [jF1,tM (zE1 n),lo32 rfl]
theorem natRight_ok (a n : Nat) (ha : (lim a).length <= 100000) (hn : n <= 1000000) : Fx 265 [usD (lim a),.v (.int .i64 n)] (usD (lim (a / 2 ^ n))) := by
 refine yD zL Tryz.func265 rfl rfl rfl rfl rfl rfl ?_;intros;refine zJ 100 ?_;refine zJ 200 ?_;refine qA 5 126 1 rfl ?_;refine zB ?_;refine zB (zE zL [] 300 rfl ?_);repeat (first | refine zH ?_ | refine zU (by first | exact ⟨by decide,by rw [td32];exact ini om om⟩ | (rw [td32];exact ini om om) | exact Ej) ?_)
 refine zC (zA (zR ?_));refine yC (ι := Rg (lim a) n) [0,1] [] 350 (fun x => [(6,.v (.int .i64 (n / 32 + x.k : Nat))),(5,.own 200 1 (x.o.map uD))]) (fun x => [(200,.row 126 1 (x.o.map uD).length)]) (fun x => (lim a).length - (n / 32 + x.k)) (Rg.start _ _) ?_;refine ⟨⟨⟨u21 (by rw [td32];rfl),Sub.own rfl,yM⟩,yH,rfl,rfl⟩,fun x => ?_⟩;have hk := x.le;have hlo := x.lo;refine zB (zJ 400 ?_);refine zW (fun c3 => ?_) (fun c3 => ?_)
 ·
  refine zM (zA (zB (zR (zJ 600 ?_))));refine zB (zJ 700 ?_);refine zW (fun c6 => ?_) (fun c6 => ?_)
  ·
   refine yN zL [] 800 ?_;refine zA ?_;refine zE zL [] 900 rfl ?_;repeat (first | refine zH ?_ | refine yS1 ?_)
   refine zC (zP (zA (yN zL [] 1000 ?_)));have hj : (((n / 32 + x.k : Nat) : Int) + 1).toNat = n / 32 + x.k + 1 := by omega
   have e := rg_T x (yU a);exact zS (x.next (yU a) om) ⟨⟨u21 (by show ((n / 32 + x.k : Nat) : Int) + 1 = ((n / 32 + (x.k + 1) : Nat) : Int);omega),Sub.own (vS (by (try simp only [hj,Ad]);rw [e];exact rg_l)),yM⟩,(by repeat (first | exact trivial | exact u15 rfl | exact ⟨rfl,rfl,by show _ = (List.map uD (x.o ++ _)).length;simp⟩ | refine ⟨?_,?_⟩)),rfl,rfl⟩ (by show (lim a).length - (n / 32 + (x.k + 1)) < (lim a).length - (n / 32 + x.k);omega)
  ·
   refine zM (zA ?_);refine zE zL [] 900 rfl ?_;repeat (first | refine zH ?_ | refine yS1 ?_)
   refine zC (zP (zA (yN zL [] 1000 ?_)));have hj : (((n / 32 + x.k : Nat) : Int) + 1).toNat = n / 32 + x.k + 1 := by omega
   have e := rg_F x (yU a) om;exact zS (x.next (yU a) om) ⟨⟨u21 (by show ((n / 32 + x.k : Nat) : Int) + 1 = ((n / 32 + (x.k + 1) : Nat) : Int);omega),Sub.own (vS (by (try simp only [hj,Ad]);rw [e];exact rg_l)),yM⟩,(by repeat (first | exact trivial | exact u15 rfl | exact ⟨rfl,rfl,by show _ = (List.map uD (x.o ++ _)).length;simp⟩ | refine ⟨?_,?_⟩)),rfl,rfl⟩ (by show (lim a).length - (n / 32 + (x.k + 1)) < (lim a).length - (n / 32 + x.k);omega)
 ·
  refine yE (yA (yB (zX (zA ?_))));refine zB (zE zL [] 1000 rfl ?_);refine zF ?_;refine zO _ ((jK x.o x.lg om).args ⟨SubP.ownSl rfl,trivial⟩) rfl ?_;refine zf (zA (zK ?_));have e := x.fin (yU a) om;rw [vI] at e;exact u4 rfl (u9 (by rw [e]))
variable {md me : Bool}
theorem cmpN_neg (x y : Nat) : cmpN x y < 0 ↔ x < y := by
 unfold cmpN;split
 ·exact ⟨fun _ => by assumption,fun _ => by decide⟩
 ·constructor
  ·intro h;split at h <;> exact absurd h de
  ·intro h;contradiction
theorem lim_add600 {x y : Nat} (hx : (lim x).length <= 128) (hy : (lim y).length <= 128) : (lim (x + y)).length <= 600 := by
 have h1 := Bl (pK x) (Bd de hx);have h2 := Bl (pK y) (Bd de hy);have h3 : x + y < 4294967296 ^ 129 := by
  rw [Bv];generalize 4294967296 ^ 128 = B at *;omega
 have := jR h3;omega
theorem lim_mul600 {x y : Nat} (hx : (lim x).length <= 128) (hy : (lim y).length <= 128) : (lim (x * y)).length <= 600 := by
 have h1 := Bl (pK x) (Bd de hx);have h2 := Bl (pK y) (Bd de hy);have h3 : x * y < 4294967296 ^ (128 + 128) := by
  rw [Ef];exact Nat.mul_lt_mul'' h1 h2
 have := jR h3;omega
def plSg (s : Bool) (x : Nat) (t : Bool) (y : Nat) : Bool := if s = t then s else if x < y then t else s
def plN (s : Bool) (x : Nat) (t : Bool) (y : Nat) : Nat := if s = t then x + y else if x < y then y - x else x - y
theorem plZ (s t : Bool) (x y : Nat) : ZI (plSg s x t y) (plN s x t y) = ZI s x + ZI t y := by
 unfold plSg plN;by_cases h : s = t
 ·subst h;rw [Ab rfl,Ab rfl]
  cases s <;> unfold ZI <;> simp <;> omega
 ·rw [Aa h,Aa h];by_cases h2 : x < y
  ·rw [Ab h2,Ab h2]
   cases s <;> cases t <;> unfold ZI <;> simp at * <;> omega
  ·rw [Aa h2,Aa h2]
   cases s <;> cases t <;> unfold ZI <;> simp at * <;> omega
abbrev zV (z : Int) : List D := iV (decide (z < 0),lim z.natAbs)
theorem sg_z {b : Bool} {n : Nat} (h : (lim n).length <= 128) : sgD b (lim n) = .tup [.agg (zV (ZI b n)),faD 0 0] := by
 rw [<- zF1 h,lim_len];have e1 : (ZI b n).natAbs = n := by cases b <;> unfold ZI <;> simp
 have e2 : (b && decide (0 < n)) = decide (ZI b n < 0) := by
  cases b
  ·unfold ZI;simp
  ·unfold ZI;simp
 rw [zV,e1,e2]
theorem zOk {z : Int} (h : (lim z.natAbs).length <= 128) : uV (decide (z < 0)) (lim z.natAbs) = true := by
 unfold uV;rw [Ai,Cp,Ai,Ai,Ak,Ak,Ak,Ak];refine ⟨h,?_⟩;rcases Bu (lim z.natAbs).length with h0 | h0
 ·refine Or.inl ⟨h0,?_⟩;have h1 := lim_nil.1 (Bk h0);have h2 : z = 0 := by omega
  subst h2;rfl
 ·exact Or.inr ⟨h0,qW0 h0⟩
theorem zOks {a b : Int} (ha : (lim a.natAbs).length <= 128) (hb : (lim b.natAbs).length <= 128) : ∀ k < [(decide (a < 0),lim a.natAbs),(decide (b < 0),lim b.natAbs)].length,uV ([(decide (a < 0),lim a.natAbs),(decide (b < 0),lim b.natAbs)].getD k (false,[])).1 ([(decide (a < 0),lim a.natAbs),(decide (b < 0),lim b.natAbs)].getD k (false,[])).2 = true /\ ([(decide (a < 0),lim a.natAbs),(decide (b < 0),lim b.natAbs)].getD k (false,[])).2.length <= 2000000 := by
 intro k hk;rcases k with _ | _ | k
 ·exact ⟨zOk ha,by show (lim a.natAbs).length <= 2000000;omega⟩
 ·exact ⟨zOk hb,by show (lim b.natAbs).length <= 2000000;omega⟩
 ·exact absurd hk (by simp)
theorem ZI_not (b : Int) : ZI (!decide (b < 0)) b.natAbs = -b := by
 unfold ZI;by_cases h : b < 0
 ·simp [h];omega
 ·simp [h];omega
theorem yJ1 (q : Bool) (n : Nat) : (ZI q n).natAbs = n := by cases q <;> unfold ZI <;> simp
theorem ZI_mul (s t : Bool) (x y : Nat) : ZI (!(s == t)) (x * y) = ZI s x * ZI t y := by
 cases s <;> cases t <;> unfold ZI <;> simp [Int.neg_mul,Int.mul_neg]
theorem mulZ (a b : Int) : ZI (!(decide (a < 0) == decide (b < 0))) (a.natAbs * b.natAbs) = a * b := by rw [ZI_mul,jW0,jW0]
theorem yI0 (s t : Bool) (x y : Nat) (hx : (lim x).length <= 128) (hy : (lim y).length <= 128) : Fx 225 [.agg (iV (s,lim x)),.agg (iV (t,lim y))] (sgD (plSg s x t y) (lim (plN s x t y))) := by
 have hcm := cmpN_neg x y;refine yD zL Tryz.func225 rfl rfl rfl rfl rfl rfl ?_;intros;refine zJ 100 ?_;refine zB (zJ 200 ?_);refine zW (fun c1 => ?_) (fun c1 => ?_)
 ·
  refine zB (zE zL [] 300 rfl ?_);refine zF ?_;refine zO _ (vD0 _ _ om om (lim_add600 hx hy)) rfl ?_;refine zf (zA ?_);refine zB (zE zL [] 400 rfl ?_);refine zF ?_;refine zO _ (vP _ _) rfl ?_;refine zf (zA (zK (zN ?_)));have hst : s = t := by simpa using c1
  exact u4 rfl (u9 (by rw [plSg,plN,Ab hst,Ab hst];rfl))
 ·
  refine zM (zA (zB ?_));refine zB (zE zL [] 500 rfl ?_);refine zF ?_;refine zO _ (vC0 _ _ om om) rfl ?_;refine zF ?_;refine zC (zA (zJ 600 ?_));refine zW (fun c5 => ?_) (fun c5 => ?_)
  ·
   refine yN zL [] 700 ?_;refine zA ?_;refine zB (zE zL [] 800 rfl ?_);refine zF ?_;refine zO _ (cH _ _ om om om) rfl ?_;refine zf (zA ?_);refine zB (zE zL [] 900 rfl ?_);refine zF ?_;refine zO _ (vP _ _) rfl ?_;refine zf (zA (zK ?_));have hst : ¬ s = t := by simpa using c1
   by_cases hxy : x < y
   ·first | (exact absurd hxy (by omega)) | exact u4 rfl (u9 (by rw [plSg,plN,Aa hst,Aa hst,Ab hxy,Ab hxy];rfl))
   ·first | (exact absurd hxy (by omega)) | exact u4 rfl (u9 (by rw [plSg,plN,Aa hst,Aa hst,Aa hxy,Aa hxy];rfl))
  ·
   refine zM (zA ?_);refine zB (zE zL [] 800 rfl ?_);refine zF ?_;refine zO _ (cH _ _ om om om) rfl ?_;refine zf (zA ?_);refine zB (zE zL [] 900 rfl ?_);refine zF ?_;refine zO _ (vP _ _) rfl ?_;refine zf (zA (zK ?_));have hst : ¬ s = t := by simpa using c1
   by_cases hxy : x < y
   ·first | (exact absurd hxy (by omega)) | exact u4 rfl (u9 (by rw [plSg,plN,Aa hst,Aa hst,Ab hxy,Ab hxy];rfl))
   ·first | (exact absurd hxy (by omega)) | exact u4 rfl (u9 (by rw [plSg,plN,Aa hst,Aa hst,Aa hxy,Aa hxy];rfl))
theorem intAdd_ok (a b : Int) (ha : (lim a.natAbs).length <= 128) (hb : (lim b.natAbs).length <= 128) (hab : (lim (a + b).natAbs).length <= 128) : Fx 227 [.agg (zV a),.agg (zV b)] (.tup [.agg (zV (a + b)),faD 0 0]) := by
 have e := plZ (decide (a < 0)) (decide (b < 0)) a.natAbs b.natAbs;rw [jW0,jW0] at e;have e2 : (ZI (plSg (decide (a < 0)) a.natAbs (decide (b < 0)) b.natAbs) (plN (decide (a < 0)) a.natAbs (decide (b < 0)) b.natAbs)).natAbs = plN (decide (a < 0)) a.natAbs (decide (b < 0)) b.natAbs := by generalize plSg (decide (a < 0)) a.natAbs (decide (b < 0)) b.natAbs = q;cases q <;> unfold ZI <;> simp
 rw [e] at e2;refine yD zL Tryz.func227 rfl rfl rfl rfl rfl rfl ?_;intros;refine zJ 100 ?_;refine zB ?_;refine zB (zE zL [] 200 rfl ?_);refine zF ?_;refine zO _ ((wG [(decide (a < 0),lim a.natAbs),(decide (b < 0),lim b.natAbs)] (zOks ha hb) (by show 2 <= 100;omega)).args ⟨u18 rfl,trivial⟩) rfl ?_;refine zF ?_;refine zC (zA (zJ 300 ?_));refine zW (fun c2 => ?_) (fun c2 => ?_)
 ·
  exact absurd c2 de
 ·
  refine zM (zA ?_);refine zB (zE zL [] 500 rfl ?_);refine zF ?_;refine zO _ (yI0 (decide (a < 0)) (decide (b < 0)) a.natAbs b.natAbs ha hb) rfl ?_;refine zf (zA (zK ?_));exact u4 rfl (u9 (by have e3 := sg_z (b := plSg (decide (a < 0)) a.natAbs (decide (b < 0)) b.natAbs) (n := plN (decide (a < 0)) a.natAbs (decide (b < 0)) b.natAbs) (by rw [<- e2];exact hab);rw [e] at e3;exact e3))
theorem intSub_ok (a b : Int) (ha : (lim a.natAbs).length <= 128) (hb : (lim b.natAbs).length <= 128) (hab : (lim (a - b).natAbs).length <= 128) : Fx 180 [.agg (zV a),.agg (zV b)] (.tup [.agg (zV (a - b)),faD 0 0]) := by
 have e := plZ (decide (a < 0)) (!decide (b < 0)) a.natAbs b.natAbs;rw [jW0,ZI_not,<- Int.sub_eq_add_neg] at e;have e2 := yJ1 (plSg (decide (a < 0)) a.natAbs (!decide (b < 0)) b.natAbs) (plN (decide (a < 0)) a.natAbs (!decide (b < 0)) b.natAbs);rw [e] at e2;refine yD zL Tryz.func180 rfl rfl rfl rfl rfl rfl ?_;intros;refine zJ 100 ?_;refine zB ?_;refine zB (zE zL [] 200 rfl ?_);refine zF ?_;refine zO _ ((wG [(decide (a < 0),lim a.natAbs),(decide (b < 0),lim b.natAbs)] (zOks ha hb) (by show 2 <= 100;omega)).args ⟨u18 rfl,trivial⟩) rfl ?_;refine zF ?_;refine zC (zA (zJ 300 ?_));refine zW (fun c2 => ?_) (fun c2 => ?_)
 ·
  exact absurd c2 de
 ·
  refine zM (zA ?_);refine zB (zE zL [] 500 rfl ?_);refine zF ?_;refine zO _ (yI0 (decide (a < 0)) (!decide (b < 0)) a.natAbs b.natAbs ha hb) rfl ?_;refine zf (zA (zK ?_));exact u4 rfl (u9 (by have e3 := sg_z (b := plSg (decide (a < 0)) a.natAbs (!decide (b < 0)) b.natAbs) (n := plN (decide (a < 0)) a.natAbs (!decide (b < 0)) b.natAbs) (by rw [<- e2];exact hab);rw [e] at e3;exact e3))
theorem intMul_ok (a b : Int) (ha : (lim a.natAbs).length <= 128) (hb : (lim b.natAbs).length <= 128) (hab : (lim (a * b).natAbs).length <= 128) : Fx 226 [.agg (zV a),.agg (zV b)] (.tup [.agg (zV (a * b)),faD 0 0]) := by
 have e := mulZ a b;have e2 := yJ1 (!(decide (a < 0) == decide (b < 0))) (a.natAbs * b.natAbs);rw [e] at e2;refine yD zL Tryz.func226 rfl rfl rfl rfl rfl rfl ?_;intros;refine zJ 100 ?_;refine zB ?_;refine zB (zE zL [] 200 rfl ?_);refine zF ?_;refine zO _ ((wG [(decide (a < 0),lim a.natAbs),(decide (b < 0),lim b.natAbs)] (zOks ha hb) (by show 2 <= 100;omega)).args ⟨u18 rfl,trivial⟩) rfl ?_;refine zF ?_;refine zC (zA (zJ 300 ?_));refine zW (fun c2 => ?_) (fun c2 => ?_)
 ·
  exact absurd c2 de
 ·
  refine zM (zA ?_);refine zB (zE zL [] 500 rfl ?_);refine zF ?_;refine zO _ (natMul_ok _ _ om om (lim_mul600 ha hb)) rfl ?_;refine zf (zA ?_);refine zB (zE zL [] 600 rfl ?_);refine zF ?_;refine zO _ (vP _ _) rfl ?_;refine zf (zA (zK ?_));exact u4 rfl (u9 (by have e3 := sg_z (b := !(decide (a < 0) == decide (b < 0))) (n := a.natAbs * b.natAbs) (by rw [<- e2];exact hab);rw [e] at e3;exact e3))
variable {md me : Bool}
theorem cmpZ_of {a b : Int} : (a < 0 -> b < 0 -> -cmpN a.natAbs b.natAbs = cmpZ a b) /\ (a < 0 -> ¬ b < 0 -> -1 = cmpZ a b) /\ (¬ a < 0 -> b < 0 -> 1 = cmpZ a b) /\ (¬ a < 0 -> ¬ b < 0 -> cmpN a.natAbs b.natAbs = cmpZ a b) := by
 unfold cmpZ cmpN;refine ⟨fun h1 h2 => ?_,fun h1 h2 => ?_,fun h1 h2 => ?_,fun h1 h2 => ?_⟩
 ·by_cases h : a < b
  ·rw [Ab h,Aa om,Ab om]
  ·rw [Aa h];by_cases h3 : b < a
   ·rw [Ab h3,Ab om];rfl
   ·rw [Aa h3,Aa om,Aa om];rfl
 ·rw [Ab om]
 ·rw [Aa om,Ab om]
 ·by_cases h : a < b
  ·rw [Ab h,Ab om]
  ·rw [Aa h,Aa om];by_cases h3 : b < a
   ·rw [Ab h3,Ab om]
   ·rw [Aa h3,Aa om]
theorem intCmp_ok (a b : Int) (ha : (lim a.natAbs).length <= 128) (hb : (lim b.natAbs).length <= 128) : Fx 181 [.agg (zV a),.agg (zV b)] (.tup [.v (.int .i64 (cmpZ a b)),faD 0 0]) := by
 have hcz := @cmpZ_of a b;have hcn : -1 <= cmpN a.natAbs b.natAbs /\ cmpN a.natAbs b.natAbs <= 1 := by unfold cmpN;split;exact ⟨by decide,by decide⟩;split <;> exact ⟨by decide,by decide⟩
 refine yD zL Tryz.func181 rfl rfl rfl rfl rfl rfl ?_;intros;refine zJ 100 ?_;refine zB ?_;refine zB (zE zL [] 200 rfl ?_);refine zF ?_;refine zO _ ((wG [(decide (a < 0),lim a.natAbs),(decide (b < 0),lim b.natAbs)] (zOks ha hb) (by show 2 <= 100;omega)).args ⟨u18 rfl,trivial⟩) rfl ?_;refine zF ?_;refine zC (zA (zJ 300 ?_));refine zW (fun c2 => ?_) (fun c2 => ?_)
 ·
  exact absurd c2 de
 ·
  refine zM (zA ?_);refine zB (zE zL [] 500 rfl ?_);refine zF ?_;refine zO _ (vC0 _ _ om om) rfl ?_;refine zF ?_;refine zC (zA (zB (zR (zJ 600 ?_))));refine zW (fun c5 => ?_) (fun c5 => ?_)
  ·
   refine zJ 700 ?_;refine zK (zQ (zN ?_));have h := hcz.1 om om;exact u4 rfl (u19 ⟨u10 (by rw [InI.wrap (ini om om),<- h];omega),u6 _,trivial⟩)
  ·
   refine zJ 800 ?_;refine zW (fun c7 => ?_) (fun c7 => ?_)
   ·
    refine zJ 900 ?_;refine zK (zQ (zN ?_));exact u4 rfl (u19 ⟨u10 (by first | (have h := hcz.1 (by first | omega | (clear hcz;simp_all;done) | (clear hcz;simp_all;omega)) (by first | omega | (clear hcz;simp_all;done) | (clear hcz;simp_all;omega));first | exact h | omega | (rw [<- h];simp;done)) | exact hcz.2.1 (by first | omega | (clear hcz;simp_all;done) | (clear hcz;simp_all;omega)) (by first | omega | (clear hcz;simp_all;done) | (clear hcz;simp_all;omega)) | exact hcz.2.2.1 (by first | omega | (clear hcz;simp_all;done) | (clear hcz;simp_all;omega)) (by first | omega | (clear hcz;simp_all;done) | (clear hcz;simp_all;omega)) | exact hcz.2.2.2 (by first | omega | (clear hcz;simp_all;done) | (clear hcz;simp_all;omega)) (by first | omega | (clear hcz;simp_all;done) | (clear hcz;simp_all;omega))),u6 _,trivial⟩)
   ·
    refine zJ 1000 ?_;refine zW (fun c9 => ?_) (fun c9 => ?_)
    ·
     refine zJ 1100 ?_;refine zK (zQ (zN ?_));exact u4 rfl (u19 ⟨u10 (by first | (have h := hcz.1 (by first | omega | (clear hcz;simp_all;done) | (clear hcz;simp_all;omega)) (by first | omega | (clear hcz;simp_all;done) | (clear hcz;simp_all;omega));first | exact h | omega | (rw [<- h];simp;done)) | exact hcz.2.1 (by first | omega | (clear hcz;simp_all;done) | (clear hcz;simp_all;omega)) (by first | omega | (clear hcz;simp_all;done) | (clear hcz;simp_all;omega)) | exact hcz.2.2.1 (by first | omega | (clear hcz;simp_all;done) | (clear hcz;simp_all;omega)) (by first | omega | (clear hcz;simp_all;done) | (clear hcz;simp_all;omega)) | exact hcz.2.2.2 (by first | omega | (clear hcz;simp_all;done) | (clear hcz;simp_all;omega)) (by first | omega | (clear hcz;simp_all;done) | (clear hcz;simp_all;omega))),u6 _,trivial⟩)
    ·
     refine zM (zP (zA (zJ 1200 ?_)));refine zK ?_;exact u4 rfl (u19 ⟨u10 (by first | (have h := hcz.1 (by first | omega | (clear hcz;simp_all;done) | (clear hcz;simp_all;omega)) (by first | omega | (clear hcz;simp_all;done) | (clear hcz;simp_all;omega));first | exact h | omega | (rw [<- h];simp;done)) | exact hcz.2.1 (by first | omega | (clear hcz;simp_all;done) | (clear hcz;simp_all;omega)) (by first | omega | (clear hcz;simp_all;done) | (clear hcz;simp_all;omega)) | exact hcz.2.2.1 (by first | omega | (clear hcz;simp_all;done) | (clear hcz;simp_all;omega)) (by first | omega | (clear hcz;simp_all;done) | (clear hcz;simp_all;omega)) | exact hcz.2.2.2 (by first | omega | (clear hcz;simp_all;done) | (clear hcz;simp_all;omega)) (by first | omega | (clear hcz;simp_all;done) | (clear hcz;simp_all;omega))),u6 _,trivial⟩)
theorem cB (a : Int) (ha : (lim a.natAbs).length <= 40) : Fx 120 [.agg (zV a)] (.v (.bool true)) := by
 have hk := zOk (z := a) om;refine yD zL Tryz.func120 rfl rfl rfl rfl rfl rfl ?_;intros;refine zJ 100 ?_;refine zB (zE zL [] 200 rfl ?_);refine zF ?_;refine zO _ (gC (decide (a < 0)) (lim a.natAbs) om) rfl ?_;refine zf (zA (zK ?_));exact u4 rfl (u7 (by simp [hk];omega))
variable {md me : Bool}
theorem dS0 (c i : Int) : Fx 118 [.v (.int .i64 c),.v (.int .i64 i)] (faD c i) := by
 refine yD zL Tryz.func118 rfl rfl rfl rfl rfl rfl ?_;intros;refine zJ 100 ?_;refine zJ 200 ?_;refine zK ?_;exact u4 rfl (u6 _)
theorem qG0 (a b : Int) (ha : (lim a.natAbs).length <= 128) (hb : (lim b.natAbs).length <= 128) (hab : (lim (a + b).natAbs).length <= 128) : Fx 184 [.agg (zV a),.agg (zV b)] (.agg (zV (a + b))) := by
 refine yD zL Tryz.func184 rfl rfl rfl rfl rfl rfl ?_;intros;refine zJ 100 ?_;refine zB (zE zL [] 200 rfl ?_);refine zF ?_;refine zO _ (intAdd_ok a b ha hb hab) rfl ?_;refine zF ?_;refine zC (zA (zJ 300 ?_));refine zK ?_;exact u4 rfl (u6 _)
theorem wU (a b : Int) (ha : (lim a.natAbs).length <= 128) (hb : (lim b.natAbs).length <= 128) (hab : (lim (a - b).natAbs).length <= 128) : Fx 122 [.agg (zV a),.agg (zV b)] (.agg (zV (a - b))) := by
 refine yD zL Tryz.func122 rfl rfl rfl rfl rfl rfl ?_;intros;refine zJ 100 ?_;refine zB (zE zL [] 200 rfl ?_);refine zF ?_;refine zO _ (intSub_ok a b ha hb hab) rfl ?_;refine zF ?_;refine zC (zA (zJ 300 ?_));refine zK ?_;exact u4 rfl (u6 _)
theorem kA0 (a b : Int) (ha : (lim a.natAbs).length <= 128) (hb : (lim b.natAbs).length <= 128) (hab : (lim (a * b).natAbs).length <= 128) : Fx 182 [.agg (zV a),.agg (zV b)] (.agg (zV (a * b))) := by
 refine yD zL Tryz.func182 rfl rfl rfl rfl rfl rfl ?_;intros;refine zJ 100 ?_;refine zB (zE zL [] 200 rfl ?_);refine zF ?_;refine zO _ (intMul_ok a b ha hb hab) rfl ?_;refine zF ?_;refine zC (zA (zJ 300 ?_));refine zK ?_;exact u4 rfl (u6 _)
theorem kD (a b : Int) (ha : (lim a.natAbs).length <= 128) (hb : (lim b.natAbs).length <= 128) : Fx 124 [.agg (zV a),.agg (zV b)] (.v (.bool (decide (a < b)))) := by
 refine yD zL Tryz.func124 rfl rfl rfl rfl rfl rfl ?_;intros;refine zJ 100 ?_;refine zB (zE zL [] 200 rfl ?_);refine zF ?_;refine zO _ (intCmp_ok a b ha hb) rfl ?_;refine zF ?_;refine zC (zA (zJ 300 ?_));refine zK ?_;exact u4 rfl (u7 (by unfold cmpZ;split <;> (try split) <;> simp_all <;> omega))
abbrev rgD (a b c : Int) : List D := [.v (.bool (decide (a < 0))),usD (lim a.natAbs),.v (.bool (decide (b < 0))),usD (lim b.natAbs),.v (.bool (decide (c < 0))),usD (lim c.natAbs)]
theorem zZ0 (a b c : Int) (ha : (lim a.natAbs).length <= 40) (hb : (lim b.natAbs).length <= 40) (hc : (lim c.natAbs).length <= 40) (h0 : 0 < (lim c.natAbs).length) : Fx 117 [.agg (rgD a b c)] (.v (.bool true)) := by
 refine yD zL Tryz.func117 rfl rfl rfl rfl rfl rfl ?_;intros;refine zJ 100 ?_;refine zB (zE zL [] 200 rfl ?_);refine zF ?_;refine zO _ (cB a ha) rfl ?_;refine zF ?_;refine yK _ (fun hg6 => cB _ ao) rfl ?_;refine zF ?_;refine yK _ (fun hg11 => cB _ ao) rfl ?_;refine zf (zA (zK ?_));exact u4 rfl (u7 (by simp_all))
end Go.Proofs.YtinegkcbkefeiaaGreatDoor
