/- Part 21 of the proof. -/
import Derived.Test.YtinegkcbkefeiaaGreatDoorN20
namespace Go.Proofs.YtinegkcbkefeiaaGreatDoor
structure KD (U V H u2 v1 v2 : Nat) where
 E : Nat
 u' : Nat
 v' : Nat
 hU : U = H * (4294967296 * E) + u2 * E + u'
 hV : V = v1 * (4294967296 * E) + v2 * E + v'
 lu : u' < E
 lv : v' < E
 lu2 : u2 < 4294967296
 lv2 : v2 < 4294967296
 lv1 : 0 < v1
 lt : U < V * 4294967296
theorem kQ0 {g v1 r H : Nat} (e : g * v1 + r = H) (E : Nat) : H * (4294967296 * E) = g * v1 * (4294967296 * E) + r * 4294967296 * E := by rw [<- e,Bg,Bo r]
section
variable {U V H u2 v1 v2 : Nat} (K : KD U V H u2 v1 v2)
include K
theorem KD.V_pos : 0 < V := by
 have h1 := K.lv;have h2 := K.lv1;have h3 : 0 < v1 * (4294967296 * K.E) := Nat.mul_pos h2 om;have := K.hV;omega
theorem KD.V_lt : V < (v1 + 1) * (4294967296 * K.E) := by
 have h1 := K.hV;have h2 : (v2 + 1) * K.E <= 4294967296 * K.E := Bi _ K.lv2;have h3 := K.lv;rw [Bg] at h2 ⊢;omega
theorem KD.U_lt : U < (H + 1) * (4294967296 * K.E) := by
 have h1 := K.hU;have h2 : (u2 + 1) * K.E <= 4294967296 * K.E := Bi _ K.lu2;have h3 := K.lu;rw [Bg] at h2 ⊢;omega
theorem KD.H_lt : H < (v1 + 1) * 4294967296 := by
 have h1 := K.V_lt;have h2 := K.lt;have h3 : V * 4294967296 < (v1 + 1) * (4294967296 * K.E) * 4294967296 := by omega
 have h4 : H * (4294967296 * K.E) < (v1 + 1) * 4294967296 * (4294967296 * K.E) := by
  have := K.hU;rw [Nat.mul_right_comm (v1 + 1)];omega
 exact Nat.lt_of_mul_lt_mul_right h4
theorem KD.q_lt : U / V < 4294967296 := (Dj K.V_pos).2 (by rw [At];exact K.lt)
theorem KD.q_le : U / V <= H / v1 := by
 rw [Nat.le_div_iff_mul_le K.lv1];have h1 : U / V * V <= U := Nat.div_mul_le_self U V;have h2 := K.U_lt;have h3 : U / V * v1 * (4294967296 * K.E) <= U / V * V := by
  rw [Bo];refine Ci _ ?_;have := K.hV;omega
 exact Nat.le_of_lt_succ (Nat.lt_of_mul_lt_mul_right (Nat.lt_of_le_of_lt (Au h3 h1) h2))
theorem KD.down {g r : Nat} (e : g * v1 + r = H) (hq : U / V <= g) (h : 4294967296 <= g \/ r * 4294967296 + u2 < g * v2) : U / V < g := by
 rcases Bs (U / V) g with h0 | h0
 ·exact h0
 ·exfalso;have hb := K.q_lt;have h := h.resolve_left om;have h1 : g * V <= U := Au (Bi _ h0) (Nat.div_mul_le_self U V);rw [K.hV,Br,Br,<- Bo,<- Bo g v2] at h1;have h2 := K.hU;have h3 := K.lu;have h4 := kQ0 e K.E;have h5 : (r * 4294967296 + u2 + 1) * K.E <= g * v2 * K.E := Bi _ h;rw [Bg,Bg] at h5;omega
theorem KD.fin {g r : Nat} (e : g * v1 + r = H) (hq : U / V <= g) (h : 4294967296 <= r \/ g < 4294967296 /\ g * v2 <= r * 4294967296 + u2) : g < 4294967296 /\ g <= U / V + 1 := by
 have hU := K.hU;have h4 := kQ0 e K.E;have hV : g * V = g * v1 * (4294967296 * K.E) + g * v2 * K.E + g * K.v' := by
  conv => lhs;rw [K.hV]
  rw [Br,Br,<- Bo,<- Bo g v2]
 have hg : g < 4294967296 := by
  rcases h with h | h
  ·have h1 := K.H_lt;rw [Bg] at h1;have h2 : g * v1 < 4294967296 * v1 := by rw [At 4294967296];omega
   exact Nat.lt_of_mul_lt_mul_right h2
  ·exact h.1
 refine ⟨hg,?_⟩;have hv' : g * K.v' <= 4294967296 * K.E := Nat.mul_le_mul (Cx hg) (Cx K.lv);have hVp := K.V_pos;rcases h with h | h
 ·have h1 : (v2 * K.E + K.v') <= 4294967296 * K.E := by
   have h2 : (v2 + 1) * K.E <= 4294967296 * K.E := Bi _ K.lv2;have h3 := K.lv;rw [Bg] at h2;omega
  have h2 : g * (v2 * K.E + K.v') <= r * (4294967296 * K.E) := Nat.mul_le_mul om h1;rw [Br,<- Bo,<- Bo] at h2;have : g * V <= U := by omega
  have := (Nat.le_div_iff_mul_le hVp).2 this;omega
 ·have h1 : g * v2 * K.E <= (r * 4294967296 + u2) * K.E := Bi _ h.2;rw [Bg] at h1;have h2 : 4294967296 * K.E <= V := by
   have h3 : 1 * (4294967296 * K.E) <= v1 * (4294967296 * K.E) := Bi _ K.lv1;have := K.hV;omega
  have h3 : g * V <= U + V := by omega
  have h4 : (g - 1) * V <= U := by rw [Nat.sub_mul];omega
  have := (Nat.le_div_iff_mul_le hVp).2 h4;omega
end
theorem kd_lists {u v : List Nat} {n : Nat} (hu : u.length = n + 1) (hv : v.length = n) (hn : 2 <= n) (gu : Lg u) (gv : Lg v) (ht : 0 < v.getD (n - 1) 0) (h : VL u < VL v * 4294967296) :
  Nonempty (KD (VL u) (VL v) (u.getD n 0 * 4294967296 + u.getD (n - 1) 0) (u.getD (n - 2) 0) (v.getD (n - 1) 0) (v.getD (n - 2) 0)) := by
 obtain ⟨m,rfl⟩ : ∃ m,n = m + 2 := ⟨n - 2,by omega⟩;rw [show m + 2 - 1 = m + 1 by omega,show m + 2 - 2 = m by omega] at *;have t1 := pF0 hu;have t2 := qL u (m + 1);have t3 := qL u m;have s1 := pF0 (l := v) (n := m + 1) hv;have s2 := qL v m;have lu := L_lt (gu.take m);have lv := L_lt (gv.take m);rw [As,Db om] at lu lv;have p1 : 4294967296 ^ (m + 1) = 4294967296 * 4294967296 ^ m := by rw [Bv,At]
 have p2 : 4294967296 ^ (m + 2) = 4294967296 * (4294967296 * 4294967296 ^ m) := by rw [Bv,Bv,At,At (4294967296 ^ m)]
 rw [p2] at t1;rw [p1] at t2 s1;refine ⟨⟨4294967296 ^ m,VL (u.take m),VL (v.take m),?_,?_,lu,lv,qG gu _,qG gv _,ht,h⟩⟩
 ·rw [t1,t2,t3,Bg,At (4294967296 ^ m),At (u.getD (m + 2) 0 * 4294967296),At (u.getD (m + 1) 0)];have e : 4294967296 * (4294967296 * 4294967296 ^ m) * u.getD (m + 2) 0 = 4294967296 * 4294967296 ^ m * (u.getD (m + 2) 0 * 4294967296) := by
   rw [At (u.getD (m + 2) 0),<- Bo (4294967296 * 4294967296 ^ m),At 4294967296 (4294967296 * 4294967296 ^ m)]
  omega
 ·rw [s1,s2,At (4294967296 ^ m),At (v.getD (m + 1) 0)];omega
structure Gu (U V H v1 : Nat) where
 g : Nat
 r : Nat
 e : g * v1 + r = H
 q : U / V <= g
 lr : r < 4294967296
def Gu.start {U V H u2 v1 v2 : Nat} (K : KD U V H u2 v1 v2) (h : v1 < 4294967296) : Gu U V H v1 := ⟨H / v1,H % v1,by rw [At];exact Co H v1,K.q_le,Nat.lt_trans (Cj _ K.lv1) h⟩
theorem Gu.pos {U V H u2 v1 v2 : Nat} (x : Gu U V H v1) (K : KD U V H u2 v1 v2) (h : 4294967296 <= x.g \/ x.r * 4294967296 + u2 < x.g * v2) : U / V <= x.g - 1 /\ 0 < x.g /\ (x.g - 1) * v1 + (x.r + v1) = H := by
 have h1 := K.down x.e x.q h;have h2 := x.e;have h0 : 0 < x.g := Nat.lt_of_le_of_lt (Ap _) h1;refine ⟨Nat.le_sub_one_of_lt h1,h0,?_⟩;have h3 : (x.g - 1 + 1) * v1 = (x.g - 1) * v1 + v1 := by rw [Bg,Nat.one_mul]
 rw [show x.g - 1 + 1 = x.g from Nat.sub_add_cancel h0] at h3;clear h1 h;omega
def Gu.next {U V H u2 v1 v2 : Nat} (x : Gu U V H v1) (K : KD U V H u2 v1 v2) (h : 4294967296 <= x.g \/ x.r * 4294967296 + u2 < x.g * v2) (hr : x.r + v1 < 4294967296) : Gu U V H v1 := ⟨x.g - 1,x.r + v1,(x.pos K h).2.2,(x.pos K h).1,hr⟩
theorem Gu.stop {U V H u2 v1 v2 : Nat} (x : Gu U V H v1) (K : KD U V H u2 v1 v2) (h : 4294967296 <= x.g \/ x.r * 4294967296 + u2 < x.g * v2) (hr : 4294967296 <= x.r + v1) : x.g - 1 < 4294967296 /\ U / V <= x.g - 1 /\ x.g - 1 <= U / V + 1 :=
 have h1 := K.fin (x.pos K h).2.2 (x.pos K h).1 (Or.inl hr)
 ⟨h1.1,(x.pos K h).1,h1.2⟩
theorem Gu.done {U V H u2 v1 v2 : Nat} (x : Gu U V H v1) (K : KD U V H u2 v1 v2) (h : x.g < 4294967296) (h2 : x.g * v2 <= x.r * 4294967296 + u2) : x.g < 4294967296 /\ U / V <= x.g /\ x.g <= U / V + 1 :=
 have h1 := K.fin x.e x.q (Or.inr ⟨h,h2⟩)
 ⟨h1.1,x.q,h1.2⟩
structure SuD (u v : List Nat) (g : Nat) where
 k : Nat
 c : Nat
 b : Nat
 o : List Nat
 eq : VL o + g * VL (v.take k) = VL (u.take k) + (b + c) * 4294967296 ^ k
 lo : o.length = k
 lg : Lg o
 hc : c < 4294967296
 hb : b <= 1
 h0 : v.length < k -> c = 0
 le : k <= u.length
def SuD.start (u v : List Nat) (g : Nat) : SuD u v g := ⟨0,0,0,[],by simp [VL],rfl,Lg.nil,by decide,by decide,fun _ => rfl,Ap _⟩
def SuD.s {u v : List Nat} {g : Nat} (x : SuD u v g) : Nat := x.c + g * v.getD x.k 0
theorem SuD.s_lt {u v : List Nat} {g : Nat} (x : SuD u v g) (hg : g < 4294967296) (gv : Lg v) : x.s < 18446744073709551616 := by
 have h1 := tK hg (qG gv x.k);have h3 := x.hc;unfold SuD.s;omega
theorem su_step {u v o : List Nat} {g k c b s y d : Nat} (h : VL o + g * VL (v.take k) = VL (u.take k) + (b + c) * 4294967296 ^ k) (ho : o.length = k) (hs : s = c + g * v.getD k 0) (hy : y + s % 4294967296 + b = u.getD k 0 + 4294967296 * d) :
  VL (o ++ [y]) + g * VL (v.take (k + 1)) = VL (u.take (k + 1)) + (d + s / 4294967296) * 4294967296 ^ (k + 1) := by
 rw [dD,ho,qL u,qL v,Bv,Br g];have e0 : g * (4294967296 ^ k * v.getD k 0) = 4294967296 ^ k * (g * v.getD k 0) := Nat.mul_left_comm _ _ _;rw [e0];generalize 4294967296 ^ k = B at *;generalize g * v.getD k 0 = M at *;generalize g * VL (v.take k) = R at *;have e : s = 4294967296 * (s / 4294967296) + s % 4294967296 := (Co s 4294967296).symm;have e1 : y + b + c + M = u.getD k 0 + 4294967296 * (d + s / 4294967296) := by omega
 have e2 : B * y + B * b + B * c + B * M = B * u.getD k 0 + B * (4294967296 * (d + s / 4294967296)) := by rw [<- Br,<- Br,<- Br,e1,Br]
 have e4 : (d + s / 4294967296) * (B * 4294967296) = B * (4294967296 * (d + s / 4294967296)) := by rw [At,Bo]
 have e5 : (b + c) * B = B * b + B * c := by rw [Bg,At b,At c]
 omega
def SuD.next {u v : List Nat} {g : Nat} (x : SuD u v g) (gu : Lg u) (gv : Lg v) (hg : g < 4294967296) (h : x.k < u.length) : SuD u v g := ⟨x.k + 1,x.s / 4294967296,lsB (u.getD x.k 0) (x.s % 4294967296) x.b,x.o ++ [lsD (u.getD x.k 0) (x.s % 4294967296) x.b],su_step x.eq x.lo rfl (yW1 (qG gu _) (Cj _ de) x.hb),by simp [x.lo],x.lg.snoc (yV1 _ _ _),by have := x.s_lt hg gv;omega,zN1 _ _ _,fun h1 => by
 have h2 : x.s = x.c := by unfold SuD.s;rw [jX om];omega
 rw [h2];exact Eg x.hc,h⟩
theorem SuD.fin {u v : List Nat} {g : Nat} (x : SuD u v g) (h : u.length <= x.k) (hl : v.length < u.length) : VL x.o + g * VL v = VL u + x.b * 4294967296 ^ u.length /\ x.o.length = u.length := by
 have hk := x.le;have e : x.k = u.length := by omega
 have h1 := x.eq;rw [x.h0 om,e,Am (Ao _),Am om] at h1;exact ⟨h1,by rw [x.lo,e]⟩
theorem dg_exact {u v : List Nat} {g : Nat} (x : SuD u v g) (h : u.length <= x.k) (hl : v.length < u.length) (hb : x.b = 0) (hp : 0 < VL v) (hq : VL u / VL v <= g) : g = VL u / VL v /\ VL x.o = VL u % VL v := by
 have h1 := (x.fin h hl).1;rw [hb] at h1;have h2 : g * VL v <= VL u := by omega
 have h3 := (Nat.le_div_iff_mul_le hp).2 h2;have e : g = VL u / VL v := by omega
 refine ⟨e,?_⟩;have h4 := Co (VL u) (VL v);rw [<- e,At] at h4;omega
theorem ad_fin {w v : List Nat} {n : Nat} (x : PlL w v) (hw : w.length = n + 1) (hv : v.length = n) (hk : x.k = n) : VL (x.o ++ [(w.getD n 0 + x.c) % 4294967296]) + (w.getD n 0 + x.c) / 4294967296 * 4294967296 ^ (n + 1) = VL w + VL v := by
 have h1 := x.eq;rw [hk,Am (l := v) om] at h1;rw [dD,x.lo,hk,pF0 hw,Bv];generalize w.getD n 0 = t at *;generalize x.c = c at *;generalize 4294967296 ^ n = B at *;have e := Co (t + c) 4294967296;have e2 : B * (t + c) = B * (4294967296 * ((t + c) / 4294967296)) + B * ((t + c) % 4294967296) := by rw [<- Br,e]
 have e3 : B * (t + c) = B * t + B * c := Br _ _ _;have e4 : (t + c) / 4294967296 * (B * 4294967296) = B * (4294967296 * ((t + c) / 4294967296)) := by rw [At,Bo]
 have e5 : c * B = B * c := At _ _;omega
theorem dg_back {u v : List Nat} {g n : Nat} (x : SuD u v g) (hu : u.length = n + 1) (hv : v.length = n) (h : u.length <= x.k) (gv : Lg v) (hb : x.b = 1) (hp : 0 < VL v) (hq : g <= VL u / VL v + 1) (y : PlL x.o v) (hk : y.k = n) :
  0 < g /\ g - 1 = VL u / VL v /\ VL (y.o ++ [(x.o.getD n 0 + y.c) % 4294967296]) = VL u % VL v := by
 obtain ⟨h1,h2⟩ := x.fin h om;rw [hb,hu] at h1;have h3 := ad_fin y om hv hk;have h4 := L_lt x.lg;rw [h2,hu] at h4;have h5 : Lg (y.o ++ [(x.o.getD n 0 + y.c) % 4294967296]) := y.lg.snoc (Cj _ de);have h6 := L_lt h5;rw [Ag,y.lo,hk,Dm] at h6;have h7 : VL u < g * VL v := by omega
 have h8 : VL u / VL v < g := (Dj hp).2 h7;have e : g = VL u / VL v + 1 := Nat.le_antisymm hq h8;have h9 := Co (VL u) (VL v);have h10 := Cj (VL u) hp;have h11 := L_lt gv;rw [hv] at h11;have h12 : 4294967296 ^ n <= 4294967296 ^ (n + 1) := Bd de om;refine ⟨by rw [e];exact Nat.succ_pos _,by rw [e];exact Nat.add_sub_cancel _ _,?_⟩;have h13 : g * VL v = VL v * (VL u / VL v) + VL v := by rw [e,Bg,Nat.one_mul,At]
 generalize VL (y.o ++ [(x.o.getD n 0 + y.c) % 4294967296]) = R at *;generalize (x.o.getD n 0 + y.c) / 4294967296 = d at *;generalize 4294967296 ^ (n + 1) = B at *;generalize VL v * (VL u / VL v) = Q at *;generalize VL u % VL v = M at *;clear h7 h8 hq;have h14 : R + d * B = M + B := by omega
 have h15 : d = 1 := by
  rcases Bs d 1 with h16 | h16
  ·rw [show d = 0 by omega] at h14;omega
  ·rcases Bs d 2 with h17 | h17
   ·omega
   ·have : 2 * B <= d * B := Bi _ h17;omega
 rw [h15] at h14;omega
theorem win_V {U : List Nat} {j n V : Nat} (hg : Lg U) (hj : j + n + 1 <= U.length) (hV : V <= 4294967296 ^ n) (hlt : VL (U.drop (j + 1)) < V) :
  VL ((U.drop j).take (n + 1)) = VL (U.drop j) /\ VL ((U.drop j).take (n + 1)) < V * 4294967296 /\ VL (U.drop (j + n + 1)) = 0 /\ VL (U.drop j) = U.getD j 0 + 4294967296 * VL (U.drop (j + 1)) := by
 have h1 := vH U j;have h2 := qG hg j;have h3 := wO (U.drop j) (n + 1) (by rw [Bm];omega);rw [List.drop_drop,<- Dx] at h3;have h4 : VL (U.drop j) < V * 4294967296 := by omega
 have h5 : V * 4294967296 <= 4294967296 ^ (n + 1) := by rw [Bv];exact Bi _ hV
 have h6 : VL (U.drop (j + n + 1)) = 0 := by
  rcases Bu (VL (U.drop (j + n + 1))) with h | h
  ·exact h
  ·have : 4294967296 ^ (n + 1) * 1 <= 4294967296 ^ (n + 1) * VL (U.drop (j + n + 1)) := Ci _ h;omega
 rw [h6,Nat.mul_zero,Cb] at h3;exact ⟨h3.symm,by omega,h6,h1⟩
structure DvL (u v : List Nat) (m n : Nat) where
 k : Nat
 U : List Nat
 o : List Nat
 hU : U.length = m + n
 gU : Lg U
 ho : o.length = m
 go : Lg o
 low : U.take k = u.take k
 lt : VL (U.drop k) < VL v
 eq : VL (u.drop k) = VL (o.drop k) * VL v + VL (U.drop k)
 le : k <= m
def DvL.start {u v : List Nat} {m n : Nat} (hu : u.length = m + n) (gu : Lg u) (h : VL (u.drop m) < VL v) : DvL u v m n :=
 ⟨m,u,List.replicate m 0,hu,gu,by simp,tR _,rfl,h,by rw [Ax (l := List.replicate m 0) (by simp),wM0,Nat.zero_mul,Cg],Ao _⟩
theorem drop_ge_congr {u U : List Nat} {k j : Nat} (h : U.take k = u.take k) (hj : j < k) : U.getD j 0 = u.getD j 0 := by
 have : (U.take k)[j]? = (u.take k)[j]? := by rw [h]
 rw [Ct,Ct,Ab hj,Ab hj] at this;rw [An,An,this]
section
variable {u v : List Nat} {m n : Nat}
def DvL.W (x : DvL u v m n) : List Nat := (x.U.drop (x.k - 1)).take (n + 1)
def DvL.q (x : DvL u v m n) : Nat := VL x.W / VL v
def DvL.R (x : DvL u v m n) : List Nat := x.U.take (x.k - 1) ++ limN (n + 1) (VL x.W % VL v) ++ x.U.drop (x.k - 1 + n + 1)
theorem DvL.facts (x : DvL u v m n) (gv : Lg v) (hv : v.length = n) (h : 0 < x.k) : VL x.W = VL (x.U.drop (x.k - 1)) /\ VL x.W < VL v * 4294967296 /\ VL (x.U.drop (x.k - 1 + n + 1)) = 0 /\ VL (x.U.drop (x.k - 1)) = x.U.getD (x.k - 1) 0 + 4294967296 * VL (x.U.drop x.k) /\ x.W.length = n + 1 /\ Lg x.W /\ x.q < 4294967296 := by
 have h1 := x.le;have h2 := x.hU;have h3 := L_lt gv;rw [hv] at h3;have h4 : x.k - 1 + 1 = x.k := by omega
 have h5 := win_V (U := x.U) (j := x.k - 1) (n := n) (V := VL v) x.gU om (Cx h3) (by rw [h4];exact x.lt);rw [h4] at h5;refine ⟨h5.1,h5.2.1,h5.2.2.1,h5.2.2.2,by unfold DvL.W;rw [As,Bm];omega,fun y hy => x.gU y (Dh (Dc hy)),?_⟩;unfold DvL.q;have hp : 0 < VL v := Nat.lt_of_le_of_lt (Ap _) x.lt;rw [Dj hp,At];exact h5.2.1
theorem DvL.rlt (x : DvL u v m n) (gv : Lg v) (hv : v.length = n) : VL x.W % VL v < 4294967296 ^ (n + 1) := by
 have h3 := L_lt gv;rw [hv] at h3;have hp : 0 < VL v := Nat.lt_of_le_of_lt (Ap _) x.lt;have h4 := Cj (VL x.W) hp;have h5 : 4294967296 ^ n <= 4294967296 ^ (n + 1) := Bd de om;omega
theorem DvL.Rd (x : DvL u v m n) (gv : Lg v) (hv : v.length = n) (h : 0 < x.k) : x.R.length = m + n /\ x.R.take (x.k - 1) = u.take (x.k - 1) /\ VL (x.R.drop (x.k - 1)) = VL x.W % VL v /\ Lg x.R := by
 have h1 := x.le;have h2 := x.hU;obtain ⟨f1,f2,f3,f4,f5,f6,f7⟩ := x.facts gv hv h;have ht : (x.U.take (x.k - 1)).length = x.k - 1 := by rw [As];omega
 refine ⟨?_,?_,?_,?_⟩
 ·unfold DvL.R;rw [Ag,Ag,gA,Bm,ht];omega
 ·unfold DvL.R;rw [Cz,Dw om,List.take_take,Nat.min_self];have := x.low;have e : x.k - 1 = min (x.k - 1) x.k := by omega
  rw [e,<- List.take_take,this,List.take_take]
 ·unfold DvL.R;rw [Cz,List.drop_append,Ax om,ht,Nat.sub_self,Dd,Da,uB0,f3,Nat.mul_zero,Cb,pD0 (x.rlt gv hv)]
 ·unfold DvL.R;intro y hy;rcases Az.1 hy with hy | hy
  ·rcases Az.1 hy with hy | hy
   ·exact x.gU y (Dc hy)
   ·exact bB _ _ y hy
  ·exact x.gU y (Dh hy)
theorem dv_step {a b q V W Q R S : Nat} (h1 : b = Q * V + S) (h2 : a + 4294967296 * S = W) (hq : V * q + R = W) : a + 4294967296 * b = (q + 4294967296 * Q) * V + R := by
 rw [h1,Br,Bg,At q V,Bo 4294967296 Q V];omega
def DvL.next (x : DvL u v m n) (gv : Lg v) (hv : v.length = n) (h : 0 < x.k) : DvL u v m n :=
 ⟨x.k - 1,x.R,x.o.set (x.k - 1) x.q,(x.Rd gv hv h).1,(x.Rd gv hv h).2.2.2,by rw [Cw];exact x.ho,Lg.set x.go _ (x.facts gv hv h).2.2.2.2.2.2,(x.Rd gv hv h).2.1,by
  rw [(x.Rd gv hv h).2.2.1];exact Cj _ (Nat.lt_of_le_of_lt (Ap _) x.lt),by
  have h1 := x.le;have h2 := x.ho;obtain ⟨f1,f2,f3,f4,f5,f6,f7⟩ := x.facts gv hv h;rw [(x.Rd gv hv h).2.2.1,vH u,vH (x.o.set (x.k - 1) x.q),show x.k - 1 + 1 = x.k by omega,<- drop_ge_congr x.low (show x.k - 1 < x.k by omega)];have e1 : (x.o.set (x.k - 1) x.q).getD (x.k - 1) 0 = x.q := by rw [An,List.getElem?_set_self (by omega)];rfl
  have e2 : (x.o.set (x.k - 1) x.q).drop x.k = x.o.drop x.k := by rw [List.drop_set_of_lt (by omega)]
  rw [e1,e2];exact dv_step x.eq (by rw [<- f4,<- f1]) (Co _ _),by have := x.le;omega⟩
theorem DvL.fin (x : DvL u v m n) (h : x.k = 0) (gv : Lg v) (hv : v.length = n) : VL x.o = VL u / VL v /\ VL (x.U.take n) = VL u % VL v := by
 have h1 := x.eq;have h2 := x.lt;have h3 := x.hU;rw [h,Dd,Dd,Dd] at h1;rw [h,Dd] at h2;have hp : 0 < VL v := Nat.lt_of_le_of_lt (Ap _) h2;have e1 : VL u / VL v = VL x.o := by
  rw [h1,Nat.add_comm,Nat.add_mul_div_right _ _ hp,Eg h2,Cg]
 have e2 : VL u % VL v = VL x.U := by
  rw [h1,Nat.add_comm,Nat.add_mul_mod_self_right,Du h2]
 refine ⟨e1.symm,?_⟩;rw [e2];have h4 := L_lt gv;rw [hv] at h4;have h5 := wO x.U n om;rcases Bu (VL (x.U.drop n)) with h6 | h6
 ·rw [h6,Nat.mul_zero,Cb] at h5;exact h5.symm
 ·have : 4294967296 ^ n * 1 <= 4294967296 ^ n * VL (x.U.drop n) := Ci _ h6;omega
end
theorem top_lt {a b s n m L : Nat} (ha : a < 4294967296 ^ L) (hm : m + n = L + 1) (hn : 0 < n) (hs : 2 ^ s <= 2147483648) (hv : 2147483648 * 4294967296 ^ (n - 1) <= b) : VL ((limN (L + 1) (a * 2 ^ s)).drop m) < b := by
 have hP : 0 < 2 ^ s := Nat.pow_pos de;have h1 : a * 2 ^ s < 4294967296 ^ L * 2 ^ s := Nat.mul_lt_mul_of_pos_right ha hP;have h2 : 4294967296 ^ L * 2 ^ s <= 4294967296 ^ (L + 1) := by rw [Bv];exact Ci _ om
 rw [<- tW0 (bB _ _),pD0 om,Dj (Nat.pow_pos de)];refine Bl h1 ?_;have h3 : 4294967296 ^ L = 4294967296 ^ (n - 1) * 4294967296 ^ m := by rw [<- Ef];congr 1;omega
 rw [h3,Nat.mul_right_comm];refine Bi _ ?_;rw [At];exact Au (Bi _ hs) hv
theorem sh_div (a b s : Nat) : a * 2 ^ s / (b * 2 ^ s) = a / b := Nat.mul_div_mul_right _ _ (Nat.pow_pos de)
theorem sh_mod (a b s : Nat) : a * 2 ^ s % (b * 2 ^ s) / 2 ^ s = a % b := by rw [Nat.mul_mod_mul_right,Nat.mul_div_cancel _ (Nat.pow_pos (by decide))]
open Go.RowKit
variable {md me : Bool}
theorem FnG.mr {P : Program} {f : FuncId} {args : List D} {e : TypeId} {sz : Nat} {m m1 : MR} {out : D} {own' : List DOwn} (h : FnG P f args [.mrow e sz m] out own') (hr : m1.rows = m.rows) : FnG P f args [.mrow e sz m1] out own' := by
 unfold FnG at h ⊢;have e1 : ows (uK 0 [DOwn.mrow e sz m1]) = ows (uK 0 [DOwn.mrow e sz m]) := by
  show [(0,Own.mrow e sz (D.pvss m1.rows))] = [(0,Own.mrow e sz (D.pvss m.rows))];rw [hr]
 rw [e1];exact h
structure TrmW (l : List Nat) where
 k : Nat
 le : k <= l.length
 eq : VL (l.take k) = VL l
def TrmW.next {l : List Nat} (x : TrmW l) (h : 0 < x.k) (h0 : l.getD (x.k - 1) 0 = 0) : TrmW l := ⟨x.k - 1,by have := x.le;omega,by
 have h1 := qL l (x.k - 1);rw [show x.k - 1 + 1 = x.k by omega,h0,Nat.mul_zero,Cb,x.eq] at h1;exact h1.symm⟩
theorem TrmW.fin {l : List Nat} (hg : Lg l) (x : TrmW l) (h : 0 < x.k -> l.getD (x.k - 1) 0 ≠ 0) : x.k = (lim (VL l)).length := by
 have hle := x.le;have hl : (l.take x.k).length = x.k := by rw [As];omega
 have e : lim (VL (l.take x.k)) = l.take x.k := qF1 (hg.take _) fun hne => by
  have hp : 0 < x.k := by rw [<- hl];exact Cr.2 hne
  rw [List.getLast_eq_getElem,<- qU om,hl];have := h hp;rw [An] at this ⊢;rw [Ct,Ab om];exact this
 rw [x.eq] at e;rw [e,hl]
theorem dF0 {k : Nat} (h : 0 < k) : ((k : Int) - 1).toNat = k - 1 := by omega
theorem cF0 {P : Program} {E : Pn} {K : DS -> Prop} {p : Prop} {r : Out} (hr : r.sat P E K) (hp : p := by first | exact ⟨hm,by rw [<- hm];omega⟩ | (intro hh;simp at hh;exact ⟨hm,by rw [<- hm];omega⟩) | (intro hh;simp at hh;exact ini om om) | (intro hh;simp at hh;exact ⟨by omega,by omega⟩) | exact ⟨by omega,by omega,by omega,by omega⟩ | exact Ej) : (Out.need p r).sat P E K := ⟨hp,hr⟩
theorem natTrim_G (l : List Nat) (n : Nat) (hg : Lg l) (hn : n = l.length) (h0 : 0 < n) (hl : n <= 100000000) : FnG Tryz.prog 241 [.mo 0 n] [.mrow 126 1 (.map l uD 0)] (.mw 0 n 0 1 (lim (VL l)).length) [.mrow 126 1 (.map l uD 0)] := by
 have hm : n = (MR.map l uD 0).len := hn;refine mK zL Tryz.func241 rfl rfl rfl rfl rfl rfl rfl ?_;intros;refine zB (zE zL [] 100 rfl ?_);repeat (first | refine zH ?_ | refine cF0 ?_)
 refine zC (zA (zB (zR ?_)));refine yC (ι := TrmW l) [] [] 150 (fun x => [(0,.mw 0 n 0 1 x.k)]) (fun x => [(0,.mrow 126 1 (.map l uD 0))]) (fun x => x.k) ⟨l.length,Ao _,by rw [Am (Ao _)]⟩ ?_;refine ⟨⟨⟨Sub.moMw h0 rfl rfl hn,yM⟩,yH,rfl,rfl⟩,fun x => ?_⟩;have hk := x.le;refine zB ?_;refine zB (zE zL [] 200 rfl ?_);repeat (first | refine zH ?_ | refine cF0 ?_)
 refine zC (zA (zW (fun c1 => ?_) (fun c1 => ?_)))
 ·
  refine zM (zA (zR ?_));refine zE zL [] 300 rfl ?_;repeat (first | refine zH ?_ | refine cF0 ?_)
  refine zC (zP ?_);have hkp : 0 < x.k := by have := c1.1;omega
  have h9 := c1.2;rw [dF0 hkp,Cg] at h9;exact zS (x.next hkp om) ⟨⟨Sub.mw rfl (by simp) (by show _ = x.k - 1;omega),yM⟩,yH,rfl,rfl⟩ (by show x.k - 1 < x.k;omega)
 ·
  refine yE (yA (yB (zX (zA ?_))));refine zB (zE zL [] 400 rfl ?_);repeat (first | refine zH ?_ | refine cF0 ?_)
  refine zC (zA (zK ?_));have e := x.fin hg (fun hp h9 => by rw [dF0 hp,Cg,h9] at c1;exact absurd c1 (by simp;omega));exact u11 1 rfl rfl (Sub.mw rfl rfl e) ⟨SubO.mr rfl,trivial⟩
theorem xJ0 {l : List Nat} {n v : Nat} (hg : Lg l) (hl : l.length = n) (hv : VL l = v) : l = limN n v := by
 subst hl;subst hv;exact (zP1 hg).symm
theorem div_lt32 {n : Nat} (h : n < 32) : n / 32 = 0 := Eg h
theorem yR1 {P : Program} {E : Pn} {K : DS -> Prop} {p : Prop} {r : Out} (hr : r.sat P E K) (hp : p := by first | rfl | (rw [x.lo];omega) | exact Ej) : (Out.need p r).sat P E K := ⟨hp,hr⟩
theorem natLeft_G (a n : Nat) (ha : (lim a).length <= 100000) (hn : n < 32) : FnG Tryz.prog 263 [usD (lim a),.v (.int .i64 n)] [] (.mw 0 ((lim a).length + 1) 0 1 (lim (a * 2 ^ n)).length) [.mrow 126 1 (.map (limN ((lim a).length + 1) (a * 2 ^ n)) uD 0)] := by
 have htd := td32 n;have hd0 := div_lt32 hn;rw [hd0] at htd;refine mK zL Tryz.func263 rfl rfl rfl rfl rfl rfl rfl ?_;intros;refine zJ 100 ?_;refine zB (zE zL [1018] 200 rfl ?_);repeat (first | refine zH ?_ | refine zU (by first | (rw [htd];exact ini om om) | (simp only [htd];exact ini om om) | exact ⟨by decide,by rw [htd];exact ini om om⟩ | (simp only [htd];refine ⟨?_,?_⟩ <;> omega) | (simp only [htd];refine ⟨?_,?_,?_⟩ <;> omega) | exact Ej) ?_)
 refine zC (zA ?_);refine yW [0,1] [] 210 [(5,.mo 108 0)] [(108,.mrow 126 1 (.map [] uD 0))] ?_;refine ⟨⟨⟨Sub.mo (by rw [htd];rfl),yM⟩,⟨SubO.mr (by rw [htd];rfl),yH⟩,rfl,rfl⟩,?_⟩;refine zJ 300 ?_;refine zB (zJ 400 ?_);refine zR ?_;refine yC (ι := Lf (lim a) n) [1,19,20] [] 450 (fun x => [(21,.v (.int .i64 (x.k : Nat))),(6,.v (.int .u32 (x.c : Nat))),(5,.mo 108 x.o.length)]) (fun x => [(108,.mrow 126 1 (.map x.o uD 0))]) (fun x => (lim a).length - x.k) (Lf.start _ _) ?_;refine ⟨⟨⟨u21 rfl,u21 rfl,Sub.mo (by show 0 = (List.replicate (n / 32) 0).length;rw [hd0];rfl),yM⟩,⟨SubO.mr (by show _ = (List.replicate (n / 32) 0).map uD;rw [hd0];rfl),yH⟩,rfl,rfl⟩,fun x => ?_⟩;have hk := x.le;have hlo := x.lo;have hc1 := x.hc;have hP := P_le n;have ew := lf_w x (yU a);have eo := lf_o x;have ec := lf_c x (yU a);refine zJ 500 ?_;refine zB (zW (fun c4 => ?_) (fun c4 => ?_))
 ·
  refine zM (zA (zB (zR (zJ 600 ?_))));refine zB (zE zL [] 700 rfl ?_);repeat (first | refine zH ?_ | refine zU (by first | (rw [Int.tmod_eq_emod_of_nonneg (by omega)];omega) | exact Ej) ?_)
  refine zC (zA ?_);refine zB (zE zL [] 800 rfl ?_);repeat (first | refine zH ?_ | refine yR1 ?_)
  refine zC (zA (yN zL [] 900 ?_));refine zP (zA (yN zL [] 1000 ?_));exact zS (x.next (yU a) om) ⟨⟨u21 (by show (x.k : Int) + 1 = ((x.k + 1 : Nat) : Int);omega),u21 (by (try simp only [Ad]);rw [ew];exact ec),Sub.mo (by show x.o.length + _ = (x.o ++ [_]).length;simp),yM⟩,⟨SubO.mr (vS (by (try simp only [Ad]);rw [ew];exact eo)),yH⟩,rfl,rfl⟩ (by show (lim a).length - (x.k + 1) < (lim a).length - x.k;omega)
 ·
  refine yE (yA (yB (zX (zA ?_))));refine zB (zE zL [1045] 1100 rfl ?_);repeat (first | refine zH ?_ | refine yR1 ?_)
  refine qC _ _ ((natTrim_G (x.o ++ [x.c]) _ (x.lg.snoc om) (by simp) (by simp) (by rw [x.lo];simp;omega)).mr (vS rfl)) rfl ?_;repeat (first | refine zH ?_ | refine yR1 ?_)
  refine zC (zA (zK ?_));obtain ⟨e1,e2,e3⟩ := x.fin om;rw [vI] at e1;rw [hd0,Cg] at e3;exact u11 108 rfl rfl (Sub.mw (by rw [<- e3];simp) rfl (by rw [e1])) ⟨SubO.mr (by show List.map uD _ = List.map uD _;rw [xJ0 e2 e3 e1]),trivial⟩
def bl8 (x : Nat) : Nat := if x < 1 then 0 else if x < 2 then 1 else if x < 4 then 2 else if x < 8 then 3 else if x < 16 then 4 else if x < 32 then 5 else if x < 64 then 6 else if x < 128 then 7 else 8
def blN (x : Nat) : Nat := if 65536 <= x then (if 256 <= x / 65536 then 24 + bl8 (x / 65536 / 256) else 16 + bl8 (x / 65536)) else if 256 <= x then 8 + bl8 (x / 256) else bl8 x
def chk8 (p : ByteArray) : Bool := Nat.blt 255 p.size && (List.range 256).all fun i => Nat.beq (bAt p i) (bl8 i)
theorem chk8_at {p : ByteArray} {i : Nat} (h : chk8 p = true) (hi : i < 256) : bAt p i = bl8 i := by
 unfold chk8 at h;rw [Ai,Bf] at h;exact Ac (h.2 i (Cu.2 hi))
theorem chk8_size {p : ByteArray} {i : Nat} (h : chk8 p = true) (hi : i < 256) : i < p.size := by
 unfold chk8 at h;rw [Ai] at h;have := Ar h.1;omega
theorem bW (x : Nat) : bl8 x <= 8 := by unfold bl8;(repeat' split) <;> omega
theorem yF1 (x : Nat) : blN x <= 32 := by
 unfold blN;have h1 := bW (x / 65536 / 256);have h2 := bW (x / 65536);have h3 := bW (x / 256);have h4 := bW x;split
 ·split <;> omega
 ·split <;> omega
theorem jS0 {x : Nat} (h0 : 0 < x) (h : x < 256) : 2 ^ bl8 x <= 2 * x /\ x < 2 ^ bl8 x := by
 unfold bl8;rw [Aa om];by_cases h1 : x < 2
 ·rw [Ab h1];omega
 rw [Aa h1];by_cases h2 : x < 4
 ·rw [Ab h2];omega
 rw [Aa h2];by_cases h3 : x < 8
 ·rw [Ab h3];omega
 rw [Aa h3];by_cases h4 : x < 16
 ·rw [Ab h4];omega
 rw [Aa h4];by_cases h5 : x < 32
 ·rw [Ab h5];omega
 rw [Aa h5];by_cases h6 : x < 64
 ·rw [Ab h6];omega
 rw [Aa h6];by_cases h7 : x < 128
 ·rw [Ab h7];omega
 rw [Aa h7];omega
theorem blN_pow {x : Nat} (h0 : 0 < x) (h : x < 4294967296) : 2 ^ blN x <= 2 * x /\ x < 2 ^ blN x := by
 unfold blN;by_cases h1 : 65536 <= x
 ·rw [Ab h1];by_cases h2 : 256 <= x / 65536
  ·rw [Ab h2];have h3 := jS0 (x := x / 65536 / 256) om om;rw [Ef,show 2 ^ 24 = 16777216 by decide];generalize 2 ^ bl8 (x / 65536 / 256) = B at *;omega
  ·rw [Aa h2];have h3 := jS0 (x := x / 65536) om om;rw [Ef,show 2 ^ 16 = 65536 by decide];generalize 2 ^ bl8 (x / 65536) = B at *;omega
 ·rw [Aa h1];by_cases h2 : 256 <= x
  ·rw [Ab h2];have h3 := jS0 (x := x / 256) om om;rw [Ef,show 2 ^ 8 = 256 by decide];generalize 2 ^ bl8 (x / 256) = B at *;omega
  ·rw [Aa h2];exact jS0 h0 om
theorem w8n {n : Nat} (h : n < 256) : IntKind.u8.wrap (n : Int) = (n : Int) := by
 simp only [IntKind.wrap,IntKind.signed,IntKind.bits,Cl,Ay,if_false];omega
theorem sh16 (x : Nat) : Int.fdiv (x : Int) (2 ^ min (Int.toNat 16) IntKind.u32.bits) = ((x / 65536 : Nat) : Int) := tM de
theorem sh8 (x : Nat) : Int.fdiv (x : Int) (2 ^ min (Int.toNat 8) IntKind.u32.bits) = ((x / 256 : Nat) : Int) := tM de
theorem bAt8 {x : Nat} {p : ByteArray} (h : x < 256) (hc : chk8 p = true) : bAt p (IntKind.u8.wrap (x : Int)).toNat = bl8 x := by rw [w8n h,Ad,chk8_at hc h]
theorem pE {P : Program} {E : Pn} {K : DS -> Prop} {p : Prop} {r : Out} (hr : r.sat P E K) (hp : p := by first | exact trivial | exact ⟨by (try simp only [h16,h8,h168]);rw [w8n om];omega,chk8_size (by decide +kernel) (by (try simp only [h16,h8,h168]);rw [w8n om];omega)⟩ | ((try simp only [h16,h8,h168]);rw [bAt8 om (by decide +kernel),InI.wrap (ini om om)];exact ini om om) | omega | exact ini om om) : (Out.need p r).sat P E K := ⟨hp,hr⟩
theorem Len32_ok (x : Nat) (hx : x < 4294967296) : Fx 267 [.v (.int .u32 x)] (.v (.int .i64 (blN x : Nat))) := by
 have h16 := sh16 x;have h8 := sh8 x;have h168 := sh8 (x / 65536);have hb1 := bW (x / 65536 / 256);have hb2 := bW (x / 65536);have hb3 := bW (x / 256);have hb4 := bW x;refine yD zL Tryz.func267 rfl rfl rfl rfl rfl rfl ?_;intros;refine zB (zE zL [] 100 rfl ?_);repeat (first | refine zH ?_ | refine pE ?_)
 refine zC (zA (zB ?_));refine zB (zE zL [] 200 rfl ?_);repeat (first | refine zH ?_ | refine pE ?_)
 refine zC (zA (zW (fun c1 => ?_) (fun c1 => ?_)))
 ·
  refine zB (zE zL [] 300 rfl ?_);repeat (first | refine zH ?_ | refine pE ?_)
  refine zC (zA ?_);refine yW [] [] 310 [(0,.v (.int .u32 (x / 65536 : Nat)))] [] ?_;refine ⟨⟨⟨u21 h16,yM⟩,yH,rfl,rfl⟩,?_⟩;refine zE zL [] 400 rfl ?_;repeat (first | refine zH ?_ | refine pE ?_)
  refine zC (zA (zB ?_));refine zB (zE zL [] 500 rfl ?_);repeat (first | refine zH ?_ | refine pE ?_)
  refine zC (zA (zW (fun c4 => ?_) (fun c4 => ?_)))
  ·
   refine zB (zE zL [] 600 rfl ?_);repeat (first | refine zH ?_ | refine pE ?_)
   refine zC (zA ?_);refine zE zL [] 700 rfl ?_;repeat (first | refine zH ?_ | refine pE ?_)
   refine zC (zA ?_);refine zB (zE zL [] 800 rfl ?_);repeat (first | refine zH ?_ | refine pE ?_)
   refine zC (zA (zK ?_));exact u4 rfl (u10 (by (try simp only [h16,h8,h168] at *);rw [bAt8 om (by decide +kernel),InI.wrap (ini om om)];unfold blN;(repeat (first | rw [Ab (by omega)] | rw [Aa (by omega)]));omega))
  ·
   refine zM (zA ?_);refine zB (zE zL [] 800 rfl ?_);repeat (first | refine zH ?_ | refine pE ?_)
   refine zC (zA (zK ?_));exact u4 rfl (u10 (by (try simp only [h16,h8,h168] at *);rw [bAt8 om (by decide +kernel),InI.wrap (ini om om)];unfold blN;(repeat (first | rw [Ab (by omega)] | rw [Aa (by omega)]));omega))
 ·
  refine zM (zA (zB ?_));refine zB (zE zL [] 500 rfl ?_);repeat (first | refine zH ?_ | refine pE ?_)
  refine zC (zA (zW (fun c4 => ?_) (fun c4 => ?_)))
  ·
   refine zB (zE zL [] 600 rfl ?_);repeat (first | refine zH ?_ | refine pE ?_)
   refine zC (zA ?_);refine zE zL [] 700 rfl ?_;repeat (first | refine zH ?_ | refine pE ?_)
   refine zC (zA ?_);refine zB (zE zL [] 800 rfl ?_);repeat (first | refine zH ?_ | refine pE ?_)
   refine zC (zA (zK ?_));exact u4 rfl (u10 (by (try simp only [h16,h8,h168] at *);rw [bAt8 om (by decide +kernel),InI.wrap (ini om om)];unfold blN;(repeat (first | rw [Ab (by omega)] | rw [Aa (by omega)]));omega))
  ·
   refine zM (zA ?_);refine zB (zE zL [] 800 rfl ?_);repeat (first | refine zH ?_ | refine pE ?_)
   refine zC (zA (zK ?_));exact u4 rfl (u10 (by (try simp only [h16,h8,h168] at *);rw [bAt8 om (by decide +kernel),InI.wrap (ini om om)];unfold blN;(repeat (first | rw [Ab (by omega)] | rw [Aa (by omega)]));omega))
theorem Lz32_ok (x : Nat) (hx : x < 4294967296) : Fx 262 [.v (.int .u32 x)] (.v (.int .i64 (32 - blN x : Nat))) := by
 have hb := yF1 x;refine yD zL Tryz.func262 rfl rfl rfl rfl rfl rfl ?_;intros;refine zJ 100 ?_;refine zB (zE zL [] 200 rfl ?_);refine zF ?_;refine zO _ (Len32_ok x hx) rfl ?_;refine zf (zA (zK ?_));exact u4 rfl (u10 om)
theorem add32_ok {x y b : Int} (hx : I32 x) (hy : I32 y) (hb : 0 <= b /\ b <= 1) : IntKind.u64.wrap (IntKind.u64.wrap (IntKind.u64.wrap x + IntKind.u64.wrap y) + IntKind.u64.wrap b) = ((b.toNat + x.toNat + y.toNat : Nat) : Int) := by
 obtain ⟨h1,h2⟩ := hx;obtain ⟨h3,h4⟩ := hy;simp only [IntKind.wrap,IntKind.signed,IntKind.bits,Cl,Ay,if_false];omega
theorem Add32_ok (x y b : Int) (hx : I32 x) (hy : I32 y) (hb : 0 <= b /\ b <= 1) : Fx 268 [.v (.int .u32 x),.v (.int .u32 y),.v (.int .u32 b)] (.tup [.v (.int .u32 ((b.toNat + x.toNat + y.toNat) % 4294967296 : Nat)),.v (.int .u32 ((b.toNat + x.toNat + y.toNat) / 4294967296 : Nat))]) := by
 refine yD zL Tryz.func268 rfl rfl rfl rfl rfl rfl ?_;intros;refine zJ 100 ?_;refine zJ 200 ?_;refine zJ 300 ?_;refine zJ 400 ?_;refine zK ?_;have e := add32_ok hx hy hb;have h2 := hx.2;have h3 := hy.2;exact u4 rfl (u19 ⟨u10 (lo32 e),u10 (by rw [hi32 e,w32n om]),trivial⟩)
end Go.Proofs.YtinegkcbkefeiaaGreatDoor
