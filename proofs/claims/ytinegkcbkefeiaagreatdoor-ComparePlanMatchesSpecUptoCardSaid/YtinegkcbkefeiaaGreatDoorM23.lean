/- Part 23 of the proof. -/
import Derived.Test.YtinegkcbkefeiaaGreatDoorM22
namespace Go.Proofs.YtinegkcbkefeiaaGreatDoor
open Go.RowKit
variable {md me : Bool}
theorem FnG.mw {P : Program} {f : FuncId} {k q i i' sz n n' : Nat} {r : List D} {own own' : List DOwn} {out : D} (h : FnG P f (.mw k q i sz n :: r) own out own') (h1 : i' = i) (h2 : n' = n) : FnG P f (.mw k q i' sz n' :: r) own out own' := by
 subst h1;subst h2;exact h
theorem limN_zero {q m X : Nat} (h : X < 4294967296 ^ m) : (limN q X).getD m 0 = 0 := by
 have h1 := vM (limN q X) m;have h2 := cT0 (bG q X) m;have h3 : VL (limN q X) < 4294967296 ^ m := by
  rcases Bs X (4294967296 ^ q) with h4 | h4
  ·rw [pR0 h4];exact h
  ·have h5 := L_lt (bG q X);rw [gE] at h5;omega
 rw [Ef h3] at h2;omega
theorem set_self {l : List Nat} {i v : Nat} (h : l.getD i 0 = v) : l.set i v = l := by
 apply List.ext_getElem?;intro j;rw [List.getElem?_set];split
 ·rename_i e;subst e;split
  ·rename_i hl;rw [<- h,Ao,Ah hl];rfl
  ·rename_i hl;rw [Dr om]
 ·rfl
theorem cut_rows {U : List Nat} {q n : Nat} (h : n <= q) : List.take (((n : Nat) : Int).toNat - Int.toNat 0) (List.drop (Int.toNat 0) (List.take q (List.drop 0 (MR.map U uD 0).rows))) = (U.take n).map uD := by
 show List.take (n - 0) (List.take q (U.map uD)) = _;rw [List.take_take,Nat.sub_zero,Cz h,Dx]
def shN (b : Nat) : Nat := 32 - blN ((lim b).getD ((lim b).length - 1) 0)
theorem shN_facts {b : Nat} (h0 : 0 < (lim b).length) : shN b < 32 /\ (lim (b * 2 ^ shN b)).length = (lim b).length /\ 2147483648 * 4294967296 ^ ((lim b).length - 1) <= b * 2 ^ shN b := by
 obtain ⟨m,hm⟩ : ∃ m,(lim b).length = m + 1 := ⟨(lim b).length - 1,by omega⟩;have ht := jO0 (x := b) h0;have hl := qH (yU b) ((lim b).length - 1);have hv := pW0 (l := lim b) (n := m) hm;have hlow := L_lt (Lg.take (yU b) m);rw [As,Cz om] at hlow;rw [vN] at hv;unfold shN;rw [hm,Nat.add_sub_cancel] at ht hl ⊢;obtain ⟨p1,p2⟩ := blN_pow (x := (lim b).getD m 0) om hl;have hb := qG1 ((lim b).getD m 0);generalize (lim b).getD m 0 = t at *;generalize blN t = k at *;generalize VL ((lim b).take m) = r at *;have hk : 0 < k := by
  rcases Bt k with h | h
  ·subst h;rw [Nat.pow_zero] at p2;omega
  ·exact h
 have hP : 2 ^ k * 2 ^ (32 - k) = 4294967296 := by rw [<- Ea,show k + (32 - k) = 32 by omega]
 have hp0 : 0 < 2 ^ (32 - k) := Nat.pow_pos de;have hB : 0 < 4294967296 ^ m := Nat.pow_pos de;have u1 : b < 4294967296 ^ m * (t + 1) := by rw [Br];omega
 have u2 : b * 2 ^ (32 - k) < 4294967296 ^ (m + 1) := by
  have e1 : b * 2 ^ (32 - k) < 4294967296 ^ m * (t + 1) * 2 ^ (32 - k) := Nat.mul_lt_mul_of_pos_right u1 hp0;have e2 : (t + 1) * 2 ^ (32 - k) <= 2 ^ k * 2 ^ (32 - k) := Bi _ p2;rw [hP] at e2;have e3 : 4294967296 ^ m * ((t + 1) * 2 ^ (32 - k)) <= 4294967296 ^ m * 4294967296 := Ci _ e2;rw [Bo] at e1;rw [Bx];omega
 have u3 : 2147483648 * 4294967296 ^ m <= b * 2 ^ (32 - k) := by
  have e1 : 4294967296 ^ m * t * 2 ^ (32 - k) <= b * 2 ^ (32 - k) := Bi _ om;have e2 : 2 ^ k * 2 ^ (32 - k) <= 2 * t * 2 ^ (32 - k) := Bi _ p1;rw [hP,Bo] at e2;have e3 : 4294967296 ^ m * 2147483648 <= 4294967296 ^ m * (t * 2 ^ (32 - k)) := Ci _ om;rw [Bo] at e1;rw [Au];omega
 refine ⟨by omega,?_,u3⟩;have l1 := jH u2;have l2 := jI (x := b) (y := b * 2 ^ (32 - k)) (Nat.le_mul_of_pos_right _ hp0);omega
theorem gZ {P : Program} {E : Pn} {K : DS -> Prop} {p : Prop} {r : Out} (hr : r.sat P E K) (hp : p := by first | exact trivial | omega | exact ⟨by decide,by omega,by simp only [As,Bm,MR.len_rows,<- hmU,Nat.sub_zero,Nat.min_self];omega⟩ | exact ini om om | exact ⟨hmo,by rw [<- hmo];omega⟩ | exact ⟨hmo,by omega⟩ | (constructor <;> omega) | (refine ⟨?_,?_,?_⟩ <;> omega) | (refine ⟨?_,?_,?_,?_⟩ <;> omega) | exact Eh) : (Out.need p r).sat P E K := ⟨hp,hr⟩
theorem natDivide_ok (a b : Nat) (ha : (lim a).length <= 100000) (hn : 2 <= (lim b).length) (hle : (lim b).length <= (lim a).length) : Fx 255 [usD (lim a),usD (lim b)] (.tup [usD (lim (a / b)),usD (lim (a % b))]) := by
 obtain ⟨hs,hsl,hst⟩ := shN_facts (b := b) om;have hn1 : (((lim b).length : Int) - 1).toNat = (lim b).length - 1 := by omega
 have hsp : 2 ^ shN b <= 2147483648 := by have h := Bd (show 0 < 2 by decide) (show shN b <= 31 by omega);simpa using h
 have gv := yU (b * 2 ^ shN b);have hLa := kI a;have hXl : (a * 2 ^ shN b) < 4294967296 ^ ((lim a).length + 1) := by rw [Bx];exact Nat.mul_lt_mul_of_lt_of_le hLa om de
 have hvt : 0 < (lim (b * 2 ^ shN b)).getD ((lim b).length - 1) 0 := by have := jO0 (x := (b * 2 ^ shN b)) (by omega);rw [hsl] at this;omega
 have htl := top_lt (a := a) (b := (b * 2 ^ shN b)) (s := shN b) (n := (lim b).length) (m := ((lim a).length + 1 - (lim b).length)) (L := (lim a).length) hLa om om hsp hst;have hml := jH hXl;refine yD zL Tryz.func255 rfl rfl rfl rfl rfl rfl ?_;intros;refine zB (zE zL [] 100 rfl ?_);repeat (first | refine zH ?_ | refine gZ ?_)
 refine zC (zA ?_);refine zB (zE zL [] 200 rfl ?_);repeat (first | refine zH ?_ | refine gZ ?_)
 refine zC (zA ?_);refine zB (zE zL [] 300 rfl ?_);repeat (first | refine zH ?_ | refine gZ ?_)
 refine zO _ (Lz32_ok _ (qH (yU b) _)) rfl ?_;repeat (first | refine zH ?_ | refine gZ ?_)
 refine zC (zA ?_);refine yZ [0,1,6] [] 310 [(7,.v (.int .i64 (shN b : Nat)))] [] ?_;refine ⟨⟨⟨u21 (by rw [hn1];rfl),yK⟩,yH,rfl,rfl⟩,?_⟩;refine zB (zE zL [1025] 400 rfl ?_);repeat (first | refine zH ?_ | refine gZ ?_)
 refine zO _ (natLeft_ok b (shN b) om om) rfl ?_;repeat (first | refine zH ?_ | refine gZ ?_)
 refine yQ _ _ (natLeft_G a (shN b) om hs) rfl ?_;repeat (first | refine zH ?_ | refine gZ ?_)
 refine zC (zA (zB (zR ?_)));refine yC (ι := {m : Nat // (lim (a * 2 ^ shN b)).length <= m /\ m <= ((lim a).length + 1)}) [0,6,7,8] [] 450 (fun x => [(9,.mw 315 ((lim a).length + 1) 0 1 x.1)]) (fun x => [(315,.mrow 126 1 (.map (limN ((lim a).length + 1) (a * 2 ^ shN b)) uD 0))]) (fun x => ((lim a).length + 1) - x.1) ⟨(lim (a * 2 ^ shN b)).length,Ak _,hml⟩ ?_;refine ⟨⟨yK,yH,rfl,rfl⟩,fun x => ?_⟩;have hx1 := x.2.1;have hx2 := x.2.2;refine zB ?_;refine zB (zE zL [] 500 rfl ?_);repeat (first | refine zH ?_ | refine gZ ?_)
 refine zC (zA (zX (fun c4 => ?_) (fun c4 => ?_)))
 ·
  refine zM (zA (zR ?_));refine zE zL [] 600 rfl ?_;repeat (first | refine zH ?_ | refine zY (by first | exact ⟨by rw [MR.len,gE],by omega⟩ | (rw [MR.len,gE]) | first | exact trivial | omega | exact ⟨by decide,by omega,by simp only [As,Bm,MR.len_rows,<- hmU,Nat.sub_zero,Nat.min_self];omega⟩ | exact ini om om | exact ⟨hmo,by rw [<- hmo];omega⟩ | exact ⟨hmo,by omega⟩ | (constructor <;> omega) | (refine ⟨?_,?_,?_⟩ <;> omega) | (refine ⟨?_,?_,?_,?_⟩ <;> omega) | exact Eh) ?_)
  refine zC (zP ?_);exact zS ⟨x.1 + 1,by omega,by omega⟩ ⟨⟨Sub.mw rfl rfl rfl,yK⟩,⟨SubO.mr (by have hz : (a * 2 ^ shN b) < 4294967296 ^ x.1 := Bk (kI _) (Bd de hx1);show (List.map uD (limN ((lim a).length + 1) (a * 2 ^ shN b))).set x.1 (uD 0) = List.map uD (limN ((lim a).length + 1) (a * 2 ^ shN b));rw [<- List.map_set,set_self (limN_zero hz)]),yH⟩,rfl,rfl⟩ (by show ((lim a).length + 1) - (x.1 + 1) < ((lim a).length + 1) - x.1;omega)
 ·
  refine yE (yA (yB (zZ (zA ?_))));refine yZ [6,7,8] [] 510 [(9,.mw 315 ((lim a).length + 1) 0 1 ((lim a).length + 1))] [(315,.mrow 126 1 (.map (limN ((lim a).length + 1) (a * 2 ^ shN b)) uD 0))] ?_;refine ⟨⟨⟨Sub.mw rfl rfl (by have := x.2.2;omega),yK⟩,yH,rfl,rfl⟩,?_⟩;refine zB (zE zL [1038] 700 rfl ?_);repeat (first | refine zH ?_ | refine gZ ?_)
  refine zC (zA ?_);refine yZ [6,7,8,9] [315] 710 [(10,.mo 514 ((lim a).length + 1 - (lim b).length))] [(514,.mrow 126 1 (.map (List.replicate ((lim a).length + 1 - (lim b).length) 0) uD 0))] ?_;refine ⟨⟨⟨Sub.mo om,yK⟩,⟨SubO.mr (by rw [cY0];congr 3;omega),yH⟩,rfl,rfl⟩,?_⟩;refine zB ?_;refine zB (zE zL [] 800 rfl ?_);repeat (first | refine zH ?_ | refine gZ ?_)
  refine zC (zA (zR ?_));refine yC (ι := DvL (limN ((lim a).length + 1) (a * 2 ^ shN b)) (lim (b * 2 ^ shN b)) ((lim a).length + 1 - (lim b).length) (lim b).length) [6,7,8,9,10] [] 850 (fun y => [(11,.v (.int .i64 ((y.k : Int) - 1)))]) (fun y => [(315,.mrow 126 1 (.map y.U uD 0)),(514,.mrow 126 1 (.map y.o uD 0))]) (fun y => y.k) (DvL.start (by rw [gE];omega) (bG _ _) (by rw [vN];exact htl)) ?_;refine ⟨⟨⟨u21 (by show _ = ((((lim a).length + 1 - (lim b).length) : Nat) : Int) - 1;omega),yK⟩,yH,rfl,rfl⟩,fun y => ?_⟩;have hyk := y.le;have hyU := y.hU;have hyo := y.ho;have hkt : ((y.k : Int) - 1).toNat = y.k - 1 := by omega
  have hmo : ((lim a).length + 1 - (lim b).length) = (MR.map y.o uD 0).len := by rw [MR.len,hyo]
  have hmU : ((lim a).length + 1) = (MR.map y.U uD 0).len := by rw [MR.len,hyU];omega
  refine zB ?_;refine zB (zE zL [] 900 rfl ?_);repeat (first | refine zH ?_ | refine gZ ?_)
  refine zC (zA (zX (fun c8 => ?_) (fun c8 => ?_)))
  ·
   refine zM (zA (zB (zR ?_)));refine zE zL [1058] 1100 rfl ?_;repeat (first | refine zH ?_ | refine gZ ?_)
   refine yQ _ _ ((natDigit_G y.U (lim (b * 2 ^ shN b)) ((lim a).length + 1) (y.k - 1) (lim b).length (by rw [y.hU];omega) om hsl hn y.gU gv hvt (y.facts gv hsl om).2.1 om).mw om om) rfl ?_;repeat (first | refine zH ?_ | refine gZ ?_)
   refine zC (zP (zA ?_));refine zE zL [] 1200 rfl ?_;repeat (first | refine zH ?_ | refine gZ ?_)
   refine zC ?_;exact zS (y.next gv hsl om) ⟨⟨u21 (by show (y.k : Int) - 1 - 1 = ((y.k - 1 : Nat) : Int) - 1;omega),yK⟩,⟨SubO.mr (by show List.map uD (wnC y.U (y.k - 1) _) = List.map uD y.R;rw [wnC_drop (n := (lim b).length) om (gE _ _)];rfl),SubO.mr (by rw [hkt];exact tO _ _ _),yH⟩,rfl,rfl⟩ (by show y.k - 1 < y.k;omega)
  ·
   refine yE (yA (yB (zZ (zA ?_))));refine uI 514 rfl (by repeat (first | exact trivial | exact hmo | exact ⟨hmU,rfl⟩ | refine ⟨?_,?_⟩)) (by repeat (first | exact trivial | refine ⟨?_,?_⟩)) ?_;refine uI 315 rfl (by repeat (first | exact trivial | exact hmo | exact ⟨hmU,rfl⟩ | refine ⟨?_,?_⟩)) (by repeat (first | exact trivial | refine ⟨?_,?_⟩)) ?_;refine zB (zW zL [] [[],[0],[],[],[2,3],(rgN 5),[],(rgN 7),(rgN 8),(rgN 9)] 1200 yP kr rfl ?_);repeat (first | refine zH ?_ | refine gZ ?_)
   refine zO _ ((jP y.o y.go om).args ⟨SubP.ownSl rfl,trivial⟩) rfl ?_;repeat (first | refine zH ?_ | refine gZ ?_)
   refine zO _ ((jP (y.U.take (lim b).length) (y.gU.take _) (by rw [As];omega)).args ⟨u18 (cut_rows om),trivial⟩) rfl ?_;repeat (first | refine zH ?_ | refine gZ ?_)
   refine zO _ (natRight_ok _ (shN b) (by refine Av (jH (L_lt (y.gU.take _))) (by rw [As];omega)) om) rfl ?_;repeat (first | refine zH ?_ | refine gZ ?_)
   refine zC (zA (zK ?_));obtain ⟨e1,e2⟩ := y.fin om gv hsl;rw [pR0 hXl,vN] at e1 e2;rw [sh_div] at e1;exact u4 rfl (u19 ⟨u9 (by rw [e1]),u9 (by rw [e2,sh_mod]),trivial⟩)
theorem bZ {x y q r : Int} (h : r + y * q = x) (hr : (0 < y /\ 0 <= r /\ r < y) \/ (y < 0 /\ r <= 0 /\ y < r)) : Int.fdiv x y = q := by
 rcases hr with ⟨h0,h1,h2⟩ | ⟨h0,h1,h2⟩
 ·rw [Int.fdiv_eq_ediv_of_nonneg _ om];exact ((Int.ediv_emod_unique h0).2 ⟨h,h1,h2⟩).1
 ·have e : Int.fdiv x y = Int.fdiv (-x) (-y) := by simp
  rw [e,Int.fdiv_eq_ediv_of_nonneg _ om];refine ((Int.ediv_emod_unique (r := -r) om).2 ⟨?_,by omega,by omega⟩).1;rw [Int.neg_mul];omega
variable {md me : Bool}
theorem jI0 {b : Nat} (h : (lim b).length = 1) : (lim b).getD 0 0 = b := by
 have h1 := pW0 (l := lim b) (n := 0) h;rw [vN,Nat.pow_zero,Nat.one_mul] at h1;simpa [VL] using h1.symm
theorem lim_one_r (r : Nat) : VL [r] = r := by rw [uX,xD0];rfl
theorem jZ1 {P : Program} {E : Pn} {K : DS -> Prop} {p : Prop} {r : Out} (hr : r.sat P E K) (hp : p := by first | exact ⟨by decide,by show 0 < _;omega⟩ | exact Eh) : (Out.need p r).sat P E K := ⟨hp,hr⟩
theorem pP (a b : Nat) (ha : (lim a).length <= 100000) (hb : (lim b).length <= 100000) (h0 : 0 < b) : Fx 246 [usD (lim a),usD (lim b)] (.tup [usD (lim (a / b)),usD (lim (a % b))]) := by
 have hneg := pB0 a b;have hbp : 0 < (lim b).length := Cv.2 (fun h => by rw [lim_nil] at h;omega);refine yD zL Tryz.func246 rfl rfl rfl rfl rfl rfl ?_;intros;refine zJ 100 ?_;refine zB ?_;refine zB (zE zL [] 200 rfl ?_);refine zF ?_;refine zO _ (gC a b om om) rfl ?_;refine zF ?_;refine zC (zA (zX (fun c1 => ?_) (fun c1 => ?_)))
 ·
  refine zB (zE zL [13] 300 rfl ?_);refine zF ?_;refine vY _ _ _ (yF0 (lim a) om) ?_;refine zf (zA (zK (zN ?_)));exact u4 rfl (u19 ⟨by rw [Ef (hneg.1 om),qK];exact u12 rfl,SubP.ownSl (by rw [Dt (hneg.1 om)]),trivial⟩)
 ·
  refine zM (zA (zB (zJ 400 ?_)));refine zX (fun c3 => ?_) (fun c3 => ?_)
  ·
   refine zB (zE zL [] 500 rfl ?_);repeat (first | refine zH ?_ | refine jZ1 ?_)
   refine zO _ (natShort_ok a ((lim b).getD 0 0) om (by have e := jI0 (b := b) om;omega) (qH (yU b) _)) rfl ?_;repeat (first | refine zH ?_ | refine jZ1 ?_)
   refine zC (zA ?_);refine zB (zE zL [] 600 rfl ?_);refine zF ?_;refine zO _ ((jP [a % (lim b).getD 0 0] (fun x hx => by have e := Ee.1 hx;subst e;exact Bk (Ce _ (by have e := jI0 (b := b) om;omega)) (Cs (qH (yU b) _))) (by show 1 <= 100000000;omega)).args ⟨u18 rfl,trivial⟩) rfl ?_;refine zf (zA (zK (zN ?_)));have e := jI0 (b := b) om;exact u4 rfl (u19 ⟨u9 (by rw [e]),u9 (by rw [e,lim_one_r]),trivial⟩)
  ·
   refine zM (zA ?_);refine zB (zE zL [] 700 rfl ?_);refine zF ?_;refine zO _ (natDivide_ok a b om om (jI om)) rfl ?_;refine zf (zA (zK ?_));exact u4 rfl (u6 _)
theorem natDivMod_ok (a b : Nat) (ha : (lim a).length <= 600) (hb : (lim b).length <= 600) (h0 : 0 < b) : Fx 221 [usD (lim a),usD (lim b)] (.tup [usD (lim (a / b)),usD (lim (a % b)),faD 0 0]) := by
 have hbp : 0 < (lim b).length := Cv.2 (fun h => by rw [lim_nil] at h;omega);refine yD zL Tryz.func221 rfl rfl rfl rfl rfl rfl ?_;intros;refine zJ 100 ?_;refine zB ?_;refine zB (zE zL [] 200 rfl ?_);refine zF ?_;refine zO _ (vI a b ha hb) rfl ?_;refine zF ?_;refine zC (zA (zJ 300 ?_));refine zX (fun c2 => ?_) (fun c2 => ?_)
 ·
  exact absurd c2 de
 ·
  refine zM (zA (zB (zJ 500 ?_)));refine zX (fun c4 => ?_) (fun c4 => ?_)
  ·
   exact absurd c4 om
  ·
   refine zM (zA ?_);refine zB (zE zL [] 700 rfl ?_);refine zF ?_;refine zO _ (pP a b om om h0) rfl ?_;refine zF ?_;refine zC (zA (zJ 800 ?_));refine zK ?_;exact u4 rfl (u6 _)
def dmQ (s t : Bool) (x y : Nat) : Nat := if s ≠ t /\ 0 < x % y then x / y + 1 else x / y
def dmR (s t : Bool) (x y : Nat) : Nat := if s ≠ t /\ 0 < x % y then y - x % y else x % y
theorem dm_Z {s t : Bool} {x y : Nat} (hy : 0 < y) : ZI (s != t) (dmQ s t x y) = Int.fdiv (ZI s x) (ZI t y) /\ ZI t (dmR s t x y) = Int.fmod (ZI s x) (ZI t y) := by
 have hm := Ce x hy;have hd := Cl x y;have key : ∀ q r : Int,r + ZI t y * q = ZI s x -> ((0 < ZI t y /\ 0 <= r /\ r < ZI t y) \/ (ZI t y < 0 /\ r <= 0 /\ ZI t y < r)) -> q = Int.fdiv (ZI s x) (ZI t y) /\ r = Int.fmod (ZI s x) (ZI t y) := by
  intro q r h1 h2;have h3 := bZ h1 h2;refine ⟨h3.symm,?_⟩;have h4 := Int.mul_fdiv_add_fmod (ZI s x) (ZI t y);rw [h3] at h4;omega
 refine key _ _ ?_ ?_
 ·unfold dmQ dmR;generalize x % y = r at *;generalize x / y = q at *;have hq : (y : Int) * ((q : Nat) : Int) + (r : Int) = (x : Int) := by rw [<- Int.natCast_mul,<- Int.natCast_add,hd]
  cases s <;> cases t <;> unfold ZI <;> simp only [ne_eq,not_true_eq_false,false_and,if_false,not_false_eq_true,true_and,reduceCtorEq,if_true,Az,bne_self_eq_false,show (false != true) = true from rfl,show (true != false) = true from rfl]
  ·omega
  ·by_cases hr : 0 < r
   ·rw [Ac hr,Ac hr]
    push_cast
    simp only [Int.neg_mul,Int.mul_neg,Int.neg_neg,Int.mul_add,Int.mul_one];omega
   ·rw [Aa hr,Aa hr];simp only [Int.neg_mul,Int.mul_neg,Int.neg_neg];omega
  ·by_cases hr : 0 < r
   ·rw [Ac hr,Ac hr]
    push_cast
    simp only [Int.neg_mul,Int.mul_neg,Int.neg_neg,Int.mul_add,Int.mul_one];omega
   ·rw [Aa hr,Aa hr];simp only [Int.neg_mul,Int.mul_neg,Int.neg_neg];omega
  ·simp only [Int.neg_mul,Int.mul_neg,Int.neg_neg];omega
 ·unfold dmR;generalize x % y = r at *
  cases s <;> cases t <;> unfold ZI <;> simp only [ne_eq,not_true_eq_false,false_and,if_false,not_false_eq_true,true_and,reduceCtorEq,if_true,Az,bne_self_eq_false,show (false != true) = true from rfl,show (true != false) = true from rfl]
  ·omega
  ·by_cases hr : 0 < r
   ·rw [Ac hr];omega
   ·rw [Aa hr];omega
  ·by_cases hr : 0 < r
   ·rw [Ac hr];omega
   ·rw [Aa hr];omega
  ·omega
theorem mY0 {s t : Bool} {x y : Nat} (hy : 0 < y) : dmQ s t x y <= x := by
 unfold dmQ;have h1 := Cl x y;have h2 := Ce x hy;split
 ·rename_i h;have h3 : 1 < y := by omega
  rcases Bt (x / y) with h4 | h4
  ·omega
  ·have h5 : 2 * (x / y) <= y * (x / y) := Bi _ h3;omega
 ·exact Nat.div_le_self _ _
theorem cG0 {s t : Bool} {x y : Nat} (hy : 0 < y) : dmR s t x y <= y := by
 unfold dmR;have h2 := Ce x hy;split <;> omega
variable {md me : Bool}
theorem dB0 : lim 1 = [1] := by rw [gD (by decide),show 1 / 4294967296 = 0 by decide,qK]
theorem gG (b : Bool) (n : Nat) (h : (lim n).length <= 128) : Fx 224 [.v (.bool b),usD (lim n)] (.tup [.agg (zV (ZI b n)),faD 0 0]) := by
 have := vV b (lim n);rw [sg_z h] at this;exact this
theorem mE0 {n : Nat} (h : 0 < ((lim n).length : Int)) : 0 < n := by
 rcases Bt n with h0 | h0
 ·subst h0;rw [qK] at h;exact absurd h de
 ·exact h0
theorem wB0 {n : Nat} (h : ¬ 0 < ((lim n).length : Int)) : n = 0 := by
 rcases Bt n with h0 | h0
 ·exact h0
 ·have : (lim n) ≠ [] := fun e => by rw [lim_nil] at e;omega
  have := Cv.2 this;omega
theorem dm_T {s t : Bool} {x y : Nat} (h : (s != t) = true /\ 0 < ((lim (x % y)).length : Int)) : dmQ s t x y = x / y + 1 /\ dmR s t x y = y - x % y := by
 have h1 : s ≠ t := by simpa using h.1
 have h2 := mE0 h.2;exact ⟨by rw [dmQ,Ac ⟨h1,h2⟩],by rw [dmR,Ac ⟨h1,h2⟩]⟩
theorem dm_F {s t : Bool} {x y : Nat} (h : ((s != t) && decide (0 < ((lim (x % y)).length : Int))) = false) : dmQ s t x y = x / y /\ dmR s t x y = x % y := by
 have h1 : ¬ (s ≠ t /\ 0 < x % y) := by
  rintro ⟨h1,h2⟩;have h3 : (s != t) = true := by simpa using h1
  rw [h3,Bool.true_and,Aw] at h;have := wB0 h;omega
 exact ⟨by rw [dmQ,Aa h1],by rw [dmR,Aa h1]⟩
theorem wJ {x y : Nat} (h : x <= y) (hy : (lim y).length <= 128) : (lim x).length <= 128 := Av (jI h) hy
theorem intDivMod_ok (a b : Int) (ha : (lim a.natAbs).length <= 128) (hb : (lim b.natAbs).length <= 128) (h0 : b ≠ 0) : Fx 179 [.agg (zV a),.agg (zV b)] (.tup [.agg (zV (Int.fdiv a b)),.agg (zV (Int.fmod a b)),faD 0 0]) := by
 have hy : 0 < b.natAbs := by omega
 obtain ⟨d1,d2⟩ := dm_Z (s := (decide (a < 0))) (t := (decide (b < 0))) (x := a.natAbs) hy;rw [gX0,gX0] at d1 d2;have hQ : a.natAbs / b.natAbs <= a.natAbs := Nat.div_le_self _ _;have hR : a.natAbs % b.natAbs <= b.natAbs := Cs (Ce _ hy);refine yD zL Tryz.func179 rfl rfl rfl rfl rfl rfl ?_;intros;refine zJ 100 ?_;refine zB ?_;refine zB (zE zL [] 200 rfl ?_);refine zF ?_;refine zO _ ((wL [(decide (a < 0),lim a.natAbs),(decide (b < 0),lim b.natAbs)] (zOks ha hb) (by show 2 <= 100;omega)).args ⟨u18 rfl,trivial⟩) rfl ?_;refine zF ?_;refine zC (zA (zJ 300 ?_));refine zX (fun c2 => ?_) (fun c2 => ?_)
 ·
  exact absurd c2 de
 ·
  refine zM (zA ?_);refine zB (zE zL [] 500 rfl ?_);refine zF ?_;refine zO _ (natDivMod_ok a.natAbs b.natAbs om om hy) rfl ?_;refine zF ?_;refine zC (zA (zB (zJ 600 ?_)));refine zX (fun c5 => ?_) (fun c5 => ?_)
  ·
   exact absurd c5 de
  ·
   refine zM (zA (zB (zJ 800 ?_)));refine zX (fun c7 => ?_) (fun c7 => ?_)
   ·
    obtain ⟨hqe,hre⟩ := dm_T c7;refine zB (zE zL [] 900 rfl ?_);refine zF ?_;refine zO _ ((vW0 _ 1 (by have := wJ hQ ha;omega) (by rw [dB0];decide) (by have := wJ (x := a.natAbs / b.natAbs + 1) (by rw [<- hqe];exact mY0 hy) ha;omega)).args ⟨u6 _,u18 (by rw [dB0];rfl),trivial⟩) rfl ?_;refine zf (zA ?_);refine zE zL [] 1000 rfl ?_;refine zF ?_;refine zO _ (cX _ _ om (by have := wJ hR hb;omega) hR) rfl ?_;refine zf (zA ?_);refine zB (zE zL [] 1100 rfl ?_);refine zF ?_;refine zO _ (gG _ (a.natAbs / b.natAbs + 1) (wJ (by first | exact hQ | (rw [<- hqe];exact mY0 hy)) ha)) rfl ?_;refine zF ?_;refine zC (zA (zB (zJ 1200 ?_)));refine zX (fun c11 => ?_) (fun c11 => ?_)
    ·
     exact absurd c11 de
    ·
     refine zM (zA ?_);refine zB (zE zL [] 1400 rfl ?_);refine zF ?_;refine zO _ (gG _ (b.natAbs - a.natAbs % b.natAbs) (wJ (by first | exact hR | (rw [<- hre];exact cG0 hy)) hb)) rfl ?_;refine zf (zA ?_);refine zB (zW zL [] [[],[],[],[0],[0,1,3],(rgN 5)] 1500 yP kr rfl ?_);refine zf (zA (zK ?_));exact u4 rfl (u19 ⟨u9 (by rw [<- hqe];exact congrArg (fun z => D.agg (zV z)) d1),u9 (by rw [<- hre];exact congrArg (fun z => D.agg (zV z)) d2),u6 _,trivial⟩)
   ·
    refine zM (zA ?_);refine zB (zE zL [] 1100 rfl ?_);refine zF ?_;refine zO _ (gG _ (a.natAbs / b.natAbs) (wJ (by first | exact hQ | (rw [<- hqe];exact mY0 hy)) ha)) rfl ?_;refine zF ?_;refine zC (zA (zB (zJ 1200 ?_)));refine zX (fun c11 => ?_) (fun c11 => ?_)
    ·
     exact absurd c11 de
    ·
     refine zM (zA ?_);refine zB (zE zL [] 1400 rfl ?_);refine zF ?_;refine zO _ (gG _ (a.natAbs % b.natAbs) (wJ (by first | exact hR | (rw [<- hre];exact cG0 hy)) hb)) rfl ?_;refine zf (zA ?_);refine zB (zW zL [] [[],[],[],[0],[0,1,3],(rgN 5)] 1500 yP kr rfl ?_);refine zf (zA (zK ?_));obtain ⟨hqe,hre⟩ := dm_F c7;exact u4 rfl (u19 ⟨u9 (by rw [<- hqe];exact congrArg (fun z => D.agg (zV z)) d1),u9 (by rw [<- hre];exact congrArg (fun z => D.agg (zV z)) d2),u6 _,trivial⟩)
theorem bZ0 {n : Int} (h1 : -9223372036854775808 <= n) (h : n < 0) : IntKind.u64.wrap (0 - IntKind.u64.wrap n) = ((n.natAbs : Nat) : Int) := by
 simp only [IntKind.wrap,IntKind.signed,IntKind.bits,Ck,Az,if_false];omega
theorem bY0 {n : Int} (h2 : n <= 9223372036854775807) (h : ¬ n < 0) : IntKind.u64.wrap n = ((n.natAbs : Nat) : Int) := by
 simp only [IntKind.wrap,IntKind.signed,IntKind.bits,Ck,Az,if_false];omega
theorem uM1 {m : Nat} (h : m < 18446744073709551616) : Lg [m % 4294967296,m / 4294967296] := fun x hx => by
 rcases Bq.1 hx with rfl | hx
 ·exact Ce _ de
 ·rw [Ee] at hx;subst hx;omega
theorem of_V (m : Nat) : VL [m % 4294967296,m / 4294967296] = m := by rw [uX,uX,xD0];omega
theorem bX0 {e : Int} {m : Nat} (h : e = (m : Int)) (hm : m < 18446744073709551616) : [[D.v (.int .u32 (IntKind.u32.wrap e))],[D.v (.int .u32 (IntKind.u32.wrap (Int.fdiv e (2 ^ min (Int.toNat 32) IntKind.u64.bits))))]] = [m % 4294967296,m / 4294967296].map uD := by
 rw [lo32 h,hi32 h,w32n om];rfl
theorem pX (n : Int) (h1 : -9223372036854775808 <= n) (h2 : n <= 9223372036854775807) : Fx 158 [.v (.int .i64 n)] (.agg (zV n)) := by
 have hm : n.natAbs < 18446744073709551616 := by omega
 refine yD zL Tryz.func158 rfl rfl rfl rfl rfl rfl ?_;intros;refine zJ 100 ?_;refine zJ 200 ?_;refine zB (zJ 300 ?_);refine zX (fun c2 => ?_) (fun c2 => ?_)
 ·
  refine yM zL [] 400 ?_;refine zA ?_;refine yZ [0,2] [0] 410 [(3,.v (.int .u64 (n.natAbs : Nat)))] [] ?_;refine ⟨⟨⟨by first | exact u21 (bZ0 h1 c2) | exact u21 (bY0 h2 (by omega)),yK⟩,yH,rfl,rfl⟩,?_⟩;refine zJ 500 ?_;refine zB (zR ?_);refine yC (ι := TrmL [n.natAbs % 4294967296,n.natAbs / 4294967296]) [0,2] [0] 550 (fun x => [(4,.sl false 1 x.r uD 0)]) (fun _ => []) (fun x => x.r.length) ⟨[n.natAbs % 4294967296,n.natAbs / 4294967296],uM1 hm,rfl,Ak _⟩ ?_;refine ⟨⟨⟨u13 (bX0 rfl hm),yK⟩,yH,rfl,rfl⟩,fun x => ?_⟩;have hk : x.r.length <= 2 := x.le;refine zB (zJ 600 ?_);refine zX (fun c5 => ?_) (fun c5 => ?_)
  ·
   refine zM (zA (zR (yM zL [] 700 ?_)));refine zP ?_;have h9 := c5.2;rw [bT] at h9;exact zS (x.next (by omega) (by omega)) ⟨(by repeat (first | exact Sub.of_eq (by rw [dX0];rfl) | refine ⟨?_,?_⟩ | exact lz)),yH,rfl,rfl⟩ (by show (x.r.take (x.r.length - 1)).length < x.r.length;rw [As];omega)
  ·
   refine yE (yA (yB (zZ (zA (zJ 800 ?_)))));refine zK ?_;rw [bT] at c5;have e : x.r = lim (VL [n.natAbs % 4294967296,n.natAbs / 4294967296]) := x.fin (fun hp h9 => by rw [h9,Ax (show (0 : Int) < (x.r.length : Nat) by omega)] at c5;exact absurd c5 de);rw [of_V] at e;exact u4 rfl (u20 ⟨u6 _,u9 (by rw [e];rfl),trivial⟩)
 ·
  refine zM (zA ?_);refine yZ [0,2] [0] 310 [(3,.v (.int .u64 (n.natAbs : Nat)))] [] ?_;refine ⟨⟨⟨by first | exact u21 (bZ0 h1 c2) | exact u21 (bY0 h2 (by omega)),yK⟩,yH,rfl,rfl⟩,?_⟩;refine zJ 500 ?_;refine zB (zR ?_);refine yC (ι := TrmL [n.natAbs % 4294967296,n.natAbs / 4294967296]) [0,2] [0] 550 (fun x => [(4,.sl false 1 x.r uD 0)]) (fun _ => []) (fun x => x.r.length) ⟨[n.natAbs % 4294967296,n.natAbs / 4294967296],uM1 hm,rfl,Ak _⟩ ?_;refine ⟨⟨⟨u13 (bX0 rfl hm),yK⟩,yH,rfl,rfl⟩,fun x => ?_⟩;have hk : x.r.length <= 2 := x.le;refine zB (zJ 600 ?_);refine zX (fun c5 => ?_) (fun c5 => ?_)
  ·
   refine zM (zA (zR (yM zL [] 700 ?_)));refine zP ?_;have h9 := c5.2;rw [bT] at h9;exact zS (x.next (by omega) (by omega)) ⟨(by repeat (first | exact Sub.of_eq (by rw [dX0];rfl) | refine ⟨?_,?_⟩ | exact lz)),yH,rfl,rfl⟩ (by show (x.r.take (x.r.length - 1)).length < x.r.length;rw [As];omega)
  ·
   refine yE (yA (yB (zZ (zA (zJ 800 ?_)))));refine zK ?_;rw [bT] at c5;have e : x.r = lim (VL [n.natAbs % 4294967296,n.natAbs / 4294967296]) := x.fin (fun hp h9 => by rw [h9,Ax (show (0 : Int) < (x.r.length : Nat) by omega)] at c5;exact absurd c5 de);rw [of_V] at e;exact u4 rfl (u20 ⟨u6 _,u9 (by rw [e];rfl),trivial⟩)
def jF (c : Int) : Int := if c < 0 then -1 else 1
def qQ (a b c : Int) : Int := if c < 0 then (if b < a then Int.fdiv (a - b + (c * jF c - 1)) (c * jF c) else 0) else (if a < b then Int.fdiv (b - a + (c * jF c - 1)) (c * jF c) else 0)
theorem yX0 {x y k : Nat} (hx : (lim x).length <= k) (hy : (lim y).length <= k) : (lim (x + y)).length <= k + 1 := by
 have h1 := Bk (kI x) (Bd de hx);have h2 := Bk (kI y) (Bd de hy);refine jH ?_;rw [Bx];generalize 4294967296 ^ k = B at *;omega
theorem qP {a b : Int} {k : Nat} (ha : (lim a.natAbs).length <= k) (hb : (lim b.natAbs).length <= k) : (lim (a - b).natAbs).length <= k + 1 := Av (jI (show (a - b).natAbs <= a.natAbs + b.natAbs by omega)) (yX0 ha hb)
theorem pS {a b : Int} {k : Nat} (ha : (lim a.natAbs).length <= k) (hb : (lim b.natAbs).length <= k) : (lim (a + b).natAbs).length <= k + 1 := Av (jI (show (a + b).natAbs <= a.natAbs + b.natAbs by omega)) (yX0 ha hb)
theorem kK0 (c : Int) : (c * jF c).natAbs = c.natAbs := by unfold jF;split <;> omega
theorem lim_sg (c : Int) : (lim (jF c).natAbs).length = 1 := by
 have : (jF c).natAbs = 1 := by unfold jF;split <;> decide
 rw [this,dB0];rfl
theorem kJ : (lim (1 : Int).natAbs).length = 1 := by rw [show (1 : Int).natAbs = 1 from rfl,dB0];rfl
def rgX (x : Int × Int × Int) : List D := rgD x.1 x.2.1 x.2.2
structure RgV (x : Int × Int × Int) : Prop where
 a : (lim x.1.natAbs).length <= 40
 b : (lim x.2.1.natAbs).length <= 40
 c : (lim x.2.2.natAbs).length <= 40
 c0 : x.2.2 ≠ 0
theorem RgV.cp {x : Int × Int × Int} (h : RgV x) : 0 < (lim x.2.2.natAbs).length := Cv.2 (fun e => by have := h.c0;rw [lim_nil] at e;omega)
theorem rgCheck_ok (L : List (Int × Int × Int)) (hv : ∀ k < L.length,RgV (L.getD k (0,0,0))) (hl : L.length <= 100) : Fx 157 [.sl false 6 L rgX (0,0,0)] (faD 0 0) := by
 refine yD zL Tryz.func157 rfl rfl rfl rfl rfl rfl ?_;intros;refine zJ 100 ?_;refine zB (zJ 200 ?_);refine zR ?_;refine yC (ι := {k : Nat // k <= L.length}) [2,5,6] [0] 250 (fun x => [(7,.v (.int .i64 x.1))]) (fun _ => []) (fun x => L.length - x.1) ⟨0,Ap _⟩ ?_;refine ⟨⟨yK,yH,rfl,rfl⟩,fun x => ?_⟩;have hk : x.1 <= L.length := x.2;refine zJ 300 ?_;refine zB (zX (fun c2 => ?_) (fun c2 => ?_))
 ·
  refine zM (zA (zB (zR ?_)));have hvk := hv x.1 c2;refine zJ 400 ?_;refine zB (zE zL [] 500 rfl ?_);refine zF ?_;refine zO _ (rgValid_ok _ _ _ (by simp only [Ab];exact hvk.a) (by simp only [Ab];exact hvk.b) (by simp only [Ab];exact hvk.c) (by simp only [Ab];exact hvk.cp)) rfl ?_;refine zF ?_;refine zC (zA (zX (fun c4 => ?_) (fun c4 => ?_)))
  ·
   exact absurd c4 de
  ·
   refine zM (zP (zA (yM zL [] 700 ?_)));exact zS (⟨x.1 + 1,by omega⟩) ⟨⟨u21 (by push_cast;rfl),yK⟩,yH,rfl,rfl⟩ (by show L.length - (x.1 + 1) < L.length - x.1;omega)
 ·
  refine yE (yA (yB (zZ (zA (zJ 800 ?_)))));refine zK ?_;exact u4 rfl (u6 _)
theorem rgSign_ok (a b c : Int) : Fx 183 [.agg (rgD a b c)] (.agg (zV (jF c))) := by
 refine yD zL Tryz.func183 rfl rfl rfl rfl rfl rfl ?_;intros;refine zJ 100 ?_;refine zB (zJ 200 ?_);refine zX (fun c1 => ?_) (fun c1 => ?_)
 ·
  refine zB (zE zL [] 300 rfl ?_);refine zF ?_;refine zO _ (pX (-1) de de) rfl ?_;refine zf (zA (zK (zN ?_)));exact u4 rfl (u9 (by rw [jF,Ac (by simpa using c1)];rfl))
 ·
  refine zM (zA ?_);refine zB (zE zL [] 400 rfl ?_);refine zF ?_;refine zO _ (pX 1 de de) rfl ?_;refine zf (zA (zK ?_));exact u4 rfl (u9 (by rw [jF,Aa (by simpa using c1)];rfl))
theorem cR (a b : Int) (ha : (lim a.natAbs).length <= 128) (hb : (lim b.natAbs).length <= 128) (h0 : b ≠ 0) : Fx 121 [.agg (zV a),.agg (zV b)] (.tup [.agg (zV (Int.fdiv a b)),.agg (zV (Int.fmod a b))]) := by
 refine yD zL Tryz.func121 rfl rfl rfl rfl rfl rfl ?_;intros;refine zJ 100 ?_;refine zB (zE zL [] 200 rfl ?_);refine zF ?_;refine zO _ (intDivMod_ok a b ha hb h0) rfl ?_;refine zf (zA ?_);refine zB (zW zL [] [[],[],[0],[0,1,2]] 300 yP kr rfl ?_);refine zf (zA (zK ?_));exact u4 rfl (u6 _)
theorem bV (a b c : Int) (ha : (lim a.natAbs).length <= 40) (hb : (lim b.natAbs).length <= 40) (hc : (lim c.natAbs).length <= 40) (h0 : c ≠ 0) : Fx 125 [.agg (rgD a b c)] (.agg (zV (qQ a b c))) := by
 have hsl : (lim (c * jF c).natAbs).length <= 40 := by rw [kK0];exact hc
 have hs0 : c * jF c ≠ 0 := fun h => by have := kK0 c;rw [h] at this;omega
 refine yD zL Tryz.func125 rfl rfl rfl rfl rfl rfl ?_;intros;refine zJ 100 ?_;refine zB (zW zL [] [[],[0],[],[2],[],[4],[],[6],[4,5,6,7],[],[],[],[0,1,4,5,6,7,8,9,10,11],(rgN 13),(rgN 14)] 200 yP kr rfl ?_);refine zF ?_;refine zO _ (rgSign_ok a b c) rfl ?_;refine zF ?_;refine zO _ (kP0 c (jF c) om (by rw [lim_sg];decide) om) rfl ?_;refine zF ?_;refine zC (zA (zB (zJ 300 ?_)));refine zX (fun c2 => ?_) (fun c2 => ?_)
 ·
  refine yM zL [] 400 ?_;refine zA (zB ?_);refine zB (zE zL [] 500 rfl ?_);refine zF ?_;refine zO _ (pJ b a om om) rfl ?_;refine zF ?_;refine zC (zA (zX (fun c4 => ?_) (fun c4 => ?_)))
  ·
   refine zJ 600 ?_;refine zK (zN ?_);exact u4 rfl (u20 ⟨u9 (by rw [qQ,Ac (by simpa using c2),Aa (by simpa using c4)];rfl),by rw [qQ,Ac (by simpa using c2),Aa (by simpa using c4)];rw [show (0 : Int).natAbs = 0 from rfl,qK];exact u12 rfl,trivial⟩)
  ·
   refine zM (zA ?_);refine zB (zW zL [] mK13 700 yP kr rfl ?_);refine zF ?_;refine zO _ (xZ a b om om (by have := qP ha hb;omega)) rfl ?_;refine zF ?_;refine zO _ (pX 1 de de) rfl ?_;refine zF ?_;refine zO _ (xZ (c * jF c) 1 om (by rw [kJ];decide) (by have := qP (k := 40) (a := (c * jF c)) (b := 1) om (by rw [kJ];decide);omega)) rfl ?_;refine zF ?_;refine zO _ (jD0 (a - b) ((c * jF c) - 1) (by have := qP ha hb;omega) (by have := qP (k := 40) (a := (c * jF c)) (b := 1) om (by rw [kJ];decide);omega) (by have := pS (qP ha hb) (qP (k := 40) (a := (c * jF c)) (b := 1) om (by rw [kJ];decide));omega)) rfl ?_;refine zF ?_;refine zO _ (cR (a - b + ((c * jF c) - 1)) (c * jF c) (by have := pS (qP ha hb) (qP (k := 40) (a := (c * jF c)) (b := 1) om (by rw [kJ];decide));omega) om hs0) rfl ?_;refine zF ?_;refine zC (zA (zJ 800 ?_));refine zK ?_;exact u4 rfl (u9 (by rw [qQ,Ac (by simpa using c2),Ac (by simpa using c4)];rfl))
 ·
  refine zM (zA (zB ?_));refine zB (zE zL [] 500 rfl ?_);refine zF ?_;refine zO _ (pJ a b om om) rfl ?_;refine zF ?_;refine zC (zA (zX (fun c4 => ?_) (fun c4 => ?_)))
  ·
   refine zJ 600 ?_;refine zK (zN ?_);exact u4 rfl (u20 ⟨u9 (by rw [qQ,Aa (by simpa using c2),Aa (by simpa using c4)];rfl),by rw [qQ,Aa (by simpa using c2),Aa (by simpa using c4)];rw [show (0 : Int).natAbs = 0 from rfl,qK];exact u12 rfl,trivial⟩)
  ·
   refine zM (zA ?_);refine zB (zW zL [] mK13 700 yP kr rfl ?_);refine zF ?_;refine zO _ (xZ b a om om (by have := qP hb ha;omega)) rfl ?_;refine zF ?_;refine zO _ (pX 1 de de) rfl ?_;refine zF ?_;refine zO _ (xZ (c * jF c) 1 om (by rw [kJ];decide) (by have := qP (k := 40) (a := (c * jF c)) (b := 1) om (by rw [kJ];decide);omega)) rfl ?_;refine zF ?_;refine zO _ (jD0 (b - a) ((c * jF c) - 1) (by have := qP hb ha;omega) (by have := qP (k := 40) (a := (c * jF c)) (b := 1) om (by rw [kJ];decide);omega) (by have := pS (qP hb ha) (qP (k := 40) (a := (c * jF c)) (b := 1) om (by rw [kJ];decide));omega)) rfl ?_;refine zF ?_;refine zO _ (cR (b - a + ((c * jF c) - 1)) (c * jF c) (by have := pS (qP hb ha) (qP (k := 40) (a := (c * jF c)) (b := 1) om (by rw [kJ];decide));omega) om hs0) rfl ?_;refine zF ?_;refine zC (zA (zJ 800 ?_));refine zK ?_;exact u4 rfl (u9 (by rw [qQ,Aa (by simpa using c2),Ac (by simpa using c4)];rfl))
variable {md me : Bool}
namespace Qr
def vQ (n : Int) (d : Nat) : Vl := if d = 1 then nuV n else ⟨3,decide (n < 0),lim n.natAbs,false,lim d,ByteArray.empty,0⟩
structure Q (n : Int) (d : Nat) : Prop where
 d0 : 0 < d
 co : Nat.gcd n.natAbs d = 1
 nl : (lim n.natAbs).length <= 128
 dl : (lim d).length <= 128
theorem ZI_abs (b : Bool) (n : Nat) : (ZI b n).natAbs = n := by
 unfold ZI;split
 ·rw [Int.natAbs_neg];rfl
 ·rfl
def nV (v : Vl) : Int := ZI v.nn (VL v.nl)
def dV (v : Vl) : Nat := if v.k = 3 then VL v.dl else 1
structure Nm (v : Vl) : Prop where
 k : v.k = 2 \/ v.k = 3
 q : Q (nV v) (dV v)
 e : v = vQ (nV v) (dV v)
theorem nm_of {v : Vl} (gn : Lg v.nl) (gd : Lg v.dl) (hk : v.k = 2 \/ v.k = 3) (hv : qY v = true) : Nm v := by
 have h1 : uQ v.nn v.nl = true /\ v.s = ByteArray.empty /\ v.r = 0 := by
  rcases hk with hk | hk
  ·rw [qY,Aa om,Aa om,Ac hk] at hv;simp only [Ai,Am,emS] at hv;exact ⟨hv.1.1.1,hv.1.2,hv.2⟩
  ·rw [qY,Aa om,Aa om,Aa om,Ac hk] at hv;simp only [Ai,Am,emS,ratS] at hv;exact ⟨hv.1.1.1.1.1.1,hv.1.2,hv.2⟩
 obtain ⟨e1,e2,e3⟩ := pW gn h1.1;have hab : (nV v).natAbs = VL v.nl := ZI_abs _ _;have hnl : (lim (nV v).natAbs).length <= 128 := by rw [hab,<- e1];exact e3
 rcases hk with hk | hk
 ·have hd : dV v = 1 := Aa om;rw [qY,Aa om,Aa om,Ac hk] at hv;simp only [Ai,Am,zI,xO0] at hv;have hdn := hv.1.1.2;refine ⟨.inl hk,by rw [hd];exact ⟨by decide,Nat.gcd_one_right _,hnl,by decide +kernel⟩,?_⟩;rw [hd,vQ,Ac rfl];obtain ⟨k,nn,nl,dn,dl,s,r⟩ := v;have a1 : k = 2 := hk;have a2 : dn = false := hdn.1;have a3 : dl = [] := hdn.2;have a4 : s = ByteArray.empty := h1.2.1;have a5 : r = 0 := h1.2.2;subst a1;subst a2;subst a3;subst a4;subst a5;show Vl.mk 2 nn nl false [] ByteArray.empty 0 = Vl.mk 2 (decide (nV _ < 0)) (lim (nV _).natAbs) false [] ByteArray.empty 0;rw [hab];congr 1
 ·have hd : dV v = VL v.dl := Ac hk;rw [qY,Aa om,Aa om,Aa om,Ac hk] at hv;simp only [Ai,Am,ratS,Bp] at hv;have hr := hv.1.1.1;have hdn : v.dn = false := hr.1.2.1;have hd0 := hr.1.2.2;obtain ⟨f1,f2,f3⟩ := pW gd hr.1.1.2;have hpos : 0 < VL v.dl := by
   rcases Bt (VL v.dl) with h9 | h9
   ·rw [h9,qK] at f1;rw [f1] at hd0;cases hd0
   ·exact h9
  have hco : Nat.gcd (VL v.nl) (VL v.dl) = 1 := by
   have h9 := hr.2;rw [beq_iff_eq] at h9;unfold uE at h9;split at h9
   ·exact absurd h9 de
   ·split at h9
    ·exact absurd h9 de
    ·omega
  have hne : VL v.dl ≠ 1 := fun h9 => by
   have h8 := hv.1.1.2;rw [h9,show lim 1 = [1] from by decide +kernel] at f1;rw [f1] at h8;exact absurd h8 de
  refine ⟨.inr hk,by rw [hd];exact ⟨hpos,by rw [hab];exact hco,hnl,by rw [<- f1];exact f3⟩,?_⟩;rw [hd,vQ,Aa hne];obtain ⟨k,nn,nl,dn,dl,s,r⟩ := v;have a1 : k = 3 := hk;have a2 : dn = false := hdn;have a4 : s = ByteArray.empty := h1.2.1;have a5 : r = 0 := h1.2.2;subst a1;subst a2;subst a4;subst a5;show Vl.mk 3 nn nl false dl ByteArray.empty 0 = Vl.mk 3 (decide (nV _ < 0)) (lim (nV _).natAbs) false (lim (VL dl)) ByteArray.empty 0;rw [hab];have b1 : nl = lim (VL nl) := e1;have b2 : nn = decide (nV ⟨3,nn,nl,false,dl,ByteArray.empty,0⟩ < 0) := e2;have b3 : dl = lim (VL dl) := f1;rw [<- b1,<- b2,<- b3]
section
variable {v w : Vl} (p : Nm v) (q : Nm w)
include p q
end
end Qr
namespace Qr
end Qr
namespace Qr
end Qr
variable {md me : Bool}
def fV (n : Int) (d : Nat) : List D := [.v (.bool (decide (n < 0))),usD (lim n.natAbs),.v (.bool false),usD (lim d)]
def fX (x : Int × Nat) : List D := fV x.1 x.2
structure Eu (a b : Nat) where
 x : Nat
 y : Nat
 g : Nat.gcd x y = Nat.gcd a b
 lx : (lim x).length <= 600
 ly : (lim y).length <= 600
def Eu.next {a b : Nat} (e : Eu a b) (h : 0 < e.y) : Eu a b := ⟨e.y,e.x % e.y,by rw [<- e.g,Nat.gcd_comm e.x e.y,Nat.gcd_rec e.y e.x,Nat.gcd_comm],e.ly,Av (jI (Cs (Ce _ h))) e.ly⟩
theorem Eu.fin {a b : Nat} (e : Eu a b) (h : e.y = 0) : e.x = Nat.gcd a b := by rw [<- e.g,h,Nat.gcd_zero_right]
theorem pR {x y k m : Nat} (hx : (lim x).length <= k) (hy : (lim y).length <= m) : (lim (x * y)).length <= k + m := by
 have h1 := Bk (kI x) (Bd de hx);have h2 := Bk (kI y) (Bd de hy);refine jH ?_;rw [Ea];exact Nat.mul_lt_mul'' h1 h2
theorem fV_0 : fV 0 0 = [.v (.bool false),usD [],.v (.bool false),usD []] := by
 unfold fV;rw [show (0 : Int).natAbs = 0 from rfl,qK];rfl
theorem fV_nil : SubP (.agg [.v (.bool false),.v (.slice none 0 0),.v (.bool false),.v (.slice none 0 0)]) (.agg (fV 0 0)) := by
 rw [fV_0];exact u20 ⟨u6 _,u12 rfl,u6 _,u12 rfl,trivial⟩
theorem qOk {n : Int} {d : Nat} (q : Qr.Q n d) : uQ (decide (n < 0)) (lim n.natAbs) = true := zOk q.nl
theorem qOk2 {n : Int} {d : Nat} (q : Qr.Q n d) : uQ false (lim d) = true := by
 have h := zOk (z := (d : Int)) q.dl;rw [By om,Int.natAbs_natCast] at h;exact h
theorem natGcd_ok (a b : Nat) (ha : (lim a).length <= 600) (hb : (lim b).length <= 600) : Fx 238 [usD (lim a),usD (lim b)] (.tup [usD (lim (Nat.gcd a b)),faD 0 0]) := by
 refine yD zL Tryz.func238 rfl rfl rfl rfl rfl rfl ?_;intros;refine zJ 100 ?_;refine zB ?_;refine zB (zE zL [] 200 rfl ?_);refine zF ?_;refine zO _ (vI a b ha hb) rfl ?_;refine zF ?_;refine zC (zA (zJ 300 ?_));refine zX (fun c2 => ?_) (fun c2 => ?_)
 ·
  exact absurd c2 de
 ·
  refine zM (zA ?_);refine zB (zE zL [17] 500 rfl ?_);refine zF ?_;refine vY _ _ _ (yF0 (lim a) om) ?_;refine zf (zA (zB (zR ?_)));refine yC (ι := Eu a b) [5] [1] 550 (fun x => [(0,usD (lim x.x)),(1,usD (lim x.y))]) (fun _ => []) (fun x => x.y) ⟨a,b,rfl,ha,hb⟩ ?_;refine ⟨⟨⟨u5 rfl,u0 _,yK⟩,yH,rfl,rfl⟩,fun x => ?_⟩
  skip
  refine zB (zJ 600 ?_);refine zT rfl (fun c5 => ?_) (fun c5 => ?_)
  ·have hy := mE0 (Ag c5);refine zM (zA (zR ?_));refine zB (zE zL [] 700 rfl ?_);refine zF ?_;refine zO _ (pP x.x x.y (by have := x.lx;omega) (by have := x.ly;omega) hy) rfl ?_;refine zf (zA ?_);refine zE zL [28] 800 rfl ?_;refine zF ?_;refine vY _ _ _ (yF0 (lim x.y) (by have := x.ly;omega)) ?_;refine zf (zP ?_);exact zS (x.next hy) ⟨⟨u5 rfl,u0 _,yK⟩,yH,rfl,rfl⟩ (by show x.x % x.y < x.y;exact Ce _ hy)
  ·have hy := wB0 (of_decide_eq_false c5);refine yE (yA (yB (zZ (zA (zJ 900 ?_)))));refine zK ?_;exact u4 rfl (u19 ⟨u9 (by rw [x.fin hy]),u6 _,trivial⟩)
theorem ratValid_ok (n : Int) (d : Nat) (q : Qr.Q n d) : Fx 205 [.agg (fV n d)] (.v (.bool true)) := by
 have k1 := qOk q;have k2 := qOk2 q;have hn := q.nl;have hd := q.dl;have hd0 : lim d ≠ [] := fun e => by rw [lim_nil] at e;have := q.d0;omega
 have hg := natGcd_ok n.natAbs d om om;rw [q.co,dB0] at hg;refine yD zL Tryz.func205 rfl rfl rfl rfl rfl rfl ?_;intros;refine zJ 100 ?_;refine zB ?_;refine zB (zE zL [] 200 rfl ?_);refine zF ?_;refine zO _ (gF _ (lim n.natAbs) om) rfl ?_;refine zF ?_;refine yN _ (fun hg7 => gF _ (lim d) om) rfl ?_;refine zF ?_;refine zC (zA (zX (fun c1 => ?_) (fun c1 => ?_)))
 ·
  simp [k1,k2,hd0] at c1
 ·
  refine zM (zA ?_);refine zB (zE zL [] 400 rfl ?_);refine zF ?_;refine zO _ (hg) rfl ?_;refine zF ?_;refine zC (zA (zJ 500 ?_));refine zK ?_;exact u4 rfl (u7 (by rfl))
theorem ratCheck_ok (L : List (Int × Nat)) (hv : ∀ k < L.length,Qr.Q (L.getD k (0,1)).1 (L.getD k (0,1)).2) (hl : L.length <= 100) : Fx 161 [.sl false 4 L fX (0,1)] (faD 0 0) := by
 refine yD zL Tryz.func161 rfl rfl rfl rfl rfl rfl ?_;intros;refine zJ 100 ?_;refine zB (zJ 200 ?_);refine zR ?_;refine yC (ι := {k : Nat // k <= L.length}) [2,5,6] [0] 250 (fun x => [(7,.v (.int .i64 x.1))]) (fun _ => []) (fun x => L.length - x.1) ⟨0,Ap _⟩ ?_;refine ⟨⟨yK,yH,rfl,rfl⟩,fun x => ?_⟩;have hk : x.1 <= L.length := x.2;refine zJ 300 ?_;refine zB (zX (fun c2 => ?_) (fun c2 => ?_))
 ·
  refine zM (zA (zB (zR ?_)));have hvk := hv x.1 c2;refine zJ 400 ?_;refine zB (zE zL [] 500 rfl ?_);refine zF ?_;refine zO _ (ratValid_ok _ _ (by simp only [Ab];exact hvk)) rfl ?_;refine zF ?_;refine zC (zA (zX (fun c4 => ?_) (fun c4 => ?_)))
  ·
   exact absurd c4 de
  ·
   refine zM (zP (zA (yM zL [] 700 ?_)));exact zS (⟨x.1 + 1,by omega⟩) ⟨⟨u21 (by push_cast;rfl),yK⟩,yH,rfl,rfl⟩ (by show L.length - (x.1 + 1) < L.length - x.1;omega)
 ·
  refine yE (yA (yB (zZ (zA (zJ 800 ?_)))));refine zK ?_;exact u4 rfl (u6 _)
theorem ratCheck2 {n m : Int} {d e : Nat} (q : Qr.Q n d) (r : Qr.Q m e) : ∀ k < [(n,d),(m,e)].length,Qr.Q ([(n,d),(m,e)].getD k (0,1)).1 ([(n,d),(m,e)].getD k (0,1)).2 := by
 intro k hk;rcases k with _ | _ | k
 ·exact q
 ·exact r
 ·exact absurd hk (by simp)
variable {md me : Bool}
theorem nm_n {v : Vl} (p : Qr.Nm v) : v.nn = decide (Qr.nV v < 0) /\ v.nl = lim (Qr.nV v).natAbs := by
 refine ⟨(congrArg Vl.nn p.e).trans ?_,(congrArg Vl.nl p.e).trans ?_⟩
 ·unfold Qr.vQ;split <;> rfl
 ·unfold Qr.vQ;split <;> rfl
theorem jA1 {v : Vl} (p : Qr.Nm v) (h : v.k = 3) : v.dn = false /\ v.dl = lim (Qr.dV v) := by
 have h1 : ¬ Qr.dV v = 1 := fun h1 => by
  have hk := congrArg Vl.k p.e;unfold Qr.vQ at hk;rw [Ac h1] at hk;have hk : v.k = 2 := hk;omega
 refine ⟨(congrArg Vl.dn p.e).trans ?_,(congrArg Vl.dl p.e).trans ?_⟩
 ·unfold Qr.vQ;rw [Aa h1]
 ·unfold Qr.vQ;rw [Aa h1]
theorem uP1 {v : Vl} (p : Qr.Nm v) (h : v.k = 2) : Qr.dV v = 1 := by
 unfold Qr.dV;rw [Aa om]
theorem nm_f2 {v : Vl} (p : Qr.Nm v) (h : v.k = 2) : fV (Qr.nV v) (Qr.dV v) = [.v (.bool v.nn),usD v.nl,.v (.bool false),usD [1]] := by
 unfold fV;rw [<- (nm_n p).1,<- (nm_n p).2,uP1 p h,dB0]
theorem nm_f3 {v : Vl} (p : Qr.Nm v) (h : v.k = 3) : fV (Qr.nV v) (Qr.dV v) = [.v (.bool v.nn),usD v.nl,.v (.bool v.dn),usD v.dl] := by
 unfold fV;rw [<- (nm_n p).1,<- (nm_n p).2,(jA1 p h).1,(jA1 p h).2]
variable {md me : Bool}
theorem and5 : ∀ a b c d e : Bool,((((a && b) && c) && d) && e) = ((((a && e) && d) && b) && c) := by decide
theorem mO (b1 b2 : Bool) (l1 l2 : List Nat) : Fx 154 [.agg [.v (.bool b1),usD l1],.agg [.v (.bool b2),usD l2]] (.v (.bool (smI b1 l1 b2 l2))) := by
 refine yD zL Tryz.func154 rfl rfl rfl rfl rfl rfl ?_;intros;refine zJ 100 ?_;refine zB (zE zL [] 200 rfl ?_);refine zF ?_;refine yN _ (fun hg10 => xE0 _ _) rfl ?_;refine zf (zA (zK ?_));exact u4 rfl (u6 _)
theorem wA (a b : Vl) : Fx 90 [.agg (vlD a),.agg (vlD b)] (.v (.bool (decide (a = b)))) := by
 refine yD zL Tryz.func90 rfl rfl rfl rfl rfl rfl ?_;intros;refine zJ 100 ?_;refine zB (zE zL [] 200 rfl ?_);refine zF ?_;refine yN _ (fun hg10 => mO _ _ _ _) rfl ?_;refine zF ?_;refine yN _ (fun hg17 => mO _ _ _ _) rfl ?_;refine zf (zA (zK ?_));exact u4 rfl (u7 ((and5 _ _ _ _ _).trans (yD1 a b)))
def eqF (F : Vl -> Vl -> Bool) (a b : List Vl) : Bool := decide ((a.length : Int) = b.length) && (List.range a.length).all (prP F a b)
def cpD (md : Bool) (h : List Ob) : D := .pt true [.sl md 10 h obD ob0]
def yH0 (h : List Ob) (F : Vl -> Vl -> Bool) (v w : Vl) : Bool :=
 if ¬ v.k = 6 \/ ¬ w.k = 6 then decide (v = w) else if v.r = w.r then true
 else decide ((yJ h v.r).kind = 1) && decide ((yJ h w.r).kind = 1) && eqF F (yJ h v.r).items (yJ h w.r).items
theorem EqualFunc_ok (h : List Ob) (a b : List Vl) (F : Vl -> Vl -> Bool) (ha : a.length <= 2000000) (H : ∀ x ∈ a,∀ y ∈ b,Fx 116 [.agg (vlD x),.agg (vlD y),cpD md h] (.v (.bool (F x y)))) : Fx 91 [vsD a,vsD b,.clo 116 [cpD md h]] (.v (.bool (eqF F a b))) := by
 refine yD zL Tryz.func91 rfl rfl rfl rfl rfl rfl ?_;intros;refine zJ 100 ?_;refine zB (zJ 200 ?_);refine zT rfl (fun c1 => ?_) (fun c1 => ?_)
 ·replace c1 : ¬ (a.length : Int) = b.length := by simpa using c1
  refine zJ 300 ?_;refine zK (zN ?_);exact u4 rfl (u7 (by rw [eqF,By c1];rfl))
 ·replace c1 : (a.length : Int) = b.length := by simpa using c1
  refine zM (zA (zB (zJ 400 ?_)));refine zR ?_;refine yC (ι := Up a.length (prP F a b)) [1,2,15,16] [] 450 (fun x => [(17,.v (.int .i64 x.k))]) (fun _ => []) (fun x => a.length - x.k) ⟨0,Ap _,fun j hj => by omega⟩ ?_;refine ⟨⟨yK,yH,rfl,rfl⟩,fun x => ?_⟩;have hk := x.le;refine zJ 500 ?_;refine zB (zX (fun c4 => ?_) (fun c4 => ?_))
  ·
   refine zM (zA (zB (zR (zJ 600 ?_))));refine zJ 700 ?_;refine zB (zE zL [] 800 rfl ?_);refine zF ?_;refine zO _ (H _ (by rw [yS c4];exact Ar _) _ (by rw [yS om];exact Ar _)) rfl ?_;refine zF ?_;refine zC (zA (zX (fun c7 => ?_) (fun c7 => ?_)))
   ·
    refine zJ 900 ?_;refine zK (zQ (zN (yL (zQ (zN ?_)))));exact u4 rfl (u7 (by rw [eqF,Up.no (p := prP F a b) c4 c7,Bool.and_false]))
   ·
    refine zM (zP (zA (yM zL [] 1000 ?_)));exact zS (x.next c4 c7) ⟨yK,yH,rfl,rfl⟩ (by show a.length - (x.k + 1) < a.length - x.k;omega)
  ·
   refine yE (yA (yB (zZ (zA (zJ 1100 ?_)))));refine zK ?_;exact u4 rfl (u7 (by rw [eqF,Ax c1,x.yes om];rfl))
theorem SameKeyC_ok (h : List Ob) (x y : Vl) (b : Bool) (H : Fx 62 [hpD md h,.agg (vlD x),.agg (vlD y)] (.v (.bool b))) : Fx 116 [.agg (vlD x),.agg (vlD y),cpD md h] (.v (.bool b)) := by
 refine yD zL Tryz.func116 rfl rfl rfl rfl rfl rfl ?_;intros;refine zJ 100 ?_;refine zB (zE zL [] 200 rfl ?_);refine zF ?_;refine zO _ (H) rfl ?_;refine zf (zA (zK ?_));exact u4 rfl (u6 _)
theorem gV (h : List Ob) (v w : Vl) (F : Vl -> Vl -> Bool) (hh : HpIn h) (hv : v.k = 6 -> inH h v.r) (hw : w.k = 6 -> inH h w.r) (H : v.k = 6 -> w.k = 6 -> (yJ h v.r).kind = 1 -> ∀ x ∈ (yJ h v.r).items,∀ y ∈ (yJ h w.r).items,Fx 62 [hpD md h,.agg (vlD x),.agg (vlD y)] (.v (.bool (F x y)))) : Fx 62 [hpD md h,.agg (vlD v),.agg (vlD w)] (.v (.bool (yH0 h F v w))) := by
 refine yD zL Tryz.func62 rfl rfl rfl rfl rfl rfl ?_;intros;refine zJ 100 ?_;refine zB (zJ 200 ?_);refine zT rfl (fun c1 => ?_) (fun c1 => ?_)
 ·replace c1 : ¬ v.k = 6 \/ ¬ w.k = 6 := by simpa [Classical.or_iff_not_imp_left] using c1
  refine zB (zE zL [] 300 rfl ?_);refine zF ?_;refine zO _ (wA _ _) rfl ?_;refine zf (zA (zK (zN ?_)));exact u4 rfl (u7 (by rw [yH0,Ac c1]))
 ·replace c1 : ¬ (¬ v.k = 6 \/ ¬ w.k = 6) := by simpa using c1
  refine zM (zA (zB (zJ 400 ?_)));refine zX (fun c3 => ?_) (fun c3 => ?_)
  ·
   refine zJ 500 ?_;refine zK (zN ?_);exact u4 rfl (u7 (by rw [yH0,Aa c1,Ac c3]))
  ·
   refine zM (zA ?_);refine zB (zW zL [] [[],[0],[],[2],[0,1,2,3],(rgN 5),[],[6],[],[8],[6,7,8,9],[6,7,8,9,10],[],[],[0,1,2,3,4,5,12,13],(rgN 15)] 600 yP kr rfl ?_);repeat (first | refine zH ?_ | refine zY (by first | exact hv (by omega) | exact hw (by omega)) ?_)
   refine zC (zA ?_);refine zB (zE zL [] 700 rfl ?_);refine zF ?_;refine ⟨fun hs => ?_,fun hs => ?_⟩
   ·refine zF ?_;refine jA0 _ (fun hg => EqualFunc_ok h _ _ F (hh.at v.r).il fun x hx y hy => SameKeyC_ok h x y _ (H om om (by have h1 : (decide ((yJ h v.r).kind = 1) && decide ((yJ h w.r).kind = 1)) = true := hs;simp only [Ai,Am] at h1;exact h1.1) x hx y hy)) rfl rfl ?_;refine zf (zA (zK ?_));exact u4 rfl (u7 (by rw [yH0,Aa c1,Aa c3,show (decide ((yJ h v.r).kind = 1) && decide ((yJ h w.r).kind = 1)) = true from hs,Bool.true_and]))
   ·refine zF ?_;refine yN (.v (.bool false)) (fun hg => by rw [hs] at hg;cases hg) rfl ?_;refine zf (zA (zK ?_));exact u4 rfl (u7 (by rw [yH0,Aa c1,Aa c3,show (decide ((yJ h v.r).kind = 1) && decide ((yJ h w.r).kind = 1)) = false from hs];rfl))
def Rv (h : List Ob) (v : Vl) : Prop := v.k = 6 -> qG h v.r = true
theorem bW {h : List Ob} {v : Vl} (hr : Rv h v) (hk : v.k = 6) : zU h v = yJ h v.r := jK0 hr hk
theorem kY0 {h : List Ob} {v : Vl} (hk : (zU h v).kind = 1) : v.k = 6 := (gB (by rw [hk];decide)).1
theorem tJ0 {h : List Ob} (g : Uh h) {n : Int} (hn : qG h n = true) {v : Vl} (hv : v ∈ (yJ h n).items) : Rv h v := fun hk => g.items (yX hn) hv hk
theorem kB0 {v : Vl} (h : qY v = true) (hk : v.k = 6) : v = ⟨6,false,[],false,[],⟨#[]⟩,v.r⟩ := by
 unfold qY at h;rw [Aa om,Aa om,Aa om,Aa om,Aa om,Aa om,Aa om,Ac hk] at h;simp only [Ai,zI,xO0,emS,Am] at h;obtain ⟨⟨⟨h1,h2⟩,h3,h4⟩,h5⟩ := h
 cases v
 simp_all
theorem ref_eq {v w : Vl} (h1 : qY v = true) (h2 : qY w = true) (hv : v.k = 6) (hw : w.k = 6) (hr : v.r = w.r) : v = w := by
 rw [kB0 h1 hv,kB0 h2 hw,hr]
theorem yT1 {h : List Ob} (g : Uh h) {n : Int} (hn : qG h n = true) (h1 : (yJ h n).kind = 1) {v : Vl} (hv : v ∈ (yJ h n).items) : qY v = true := by
 have hin := yX hn;by_cases h49 : n.toNat < 49
 ·rw [show yJ h n = bgO n.toNat from g.lo_at h49] at h1;exact absurd h1 (by show ¬ (9 : Int) = 1;decide)
 ·have e : qY (fixV (yJ h ((n.toNat : Nat) : Int)) v) = true := (qS0 (g.hi_at om hin.2).vals).ok v (Bc.2 (.inr hv))
  rwa [fixV,Aa (by rw [<- mD hin,h1];omega)] at e
theorem pN0 {n : Nat} {p q : Nat -> Bool} (h : ∀ i,i < n -> p i = q i) : (List.range n).all p = (List.range n).all q := by
 rw [Co,Bf,Bf];exact ⟨fun hp i hi => by rw [<- h i (Cr.1 hi)];exact hp i hi,fun hp i hi => by rw [h i (Cr.1 hi)];exact hp i hi⟩
section
variable {h : List Ob} {F G : Vl -> Vl -> Bool}
theorem yS0 (hr : ∀ x,G x x = true) (v : Vl) : yG0 h G v v = true := by
 by_cases hk : (zU h v).kind = 1 /\ (zU h v).kind = 1
 ·rw [wG hk,Ax rfl,Bool.true_and,Bf];intro i _;exact hr _
 ·rw [wW hk,Ax rfl]
theorem stepK_symm (hs : ∀ x y,G x y = G y x) (v w : Vl) : yG0 h G v w = yG0 h G w v := by
 by_cases hk : (zU h v).kind = 1 /\ (zU h w).kind = 1
 ·rw [wG hk,wG hk.symm];by_cases hl : ((zU h v).items.length : Int) = (zU h w).items.length
  ·have hl' : (zU h v).items.length = (zU h w).items.length := by omega
   rw [Ax hl,Ax hl.symm,<- hl'];exact congrArg _ (pN0 fun i _ => hs _ _)
  ·rw [By hl,By (fun e => hl e.symm)];rfl
 ·rw [wW hk,wW fun e => hk e.symm];exact decide_eq_decide.2 eq_comm
end
theorem kH0 (h : List Ob) : ∀ (n : Nat) (v : Vl),smK h n v v = true
 | 0,v => Ax rfl
 | n + 1,v => yS0 (kH0 h n) v
theorem qY0 (h : List Ob) : ∀ (n : Nat) (v w : Vl),smK h n v w = smK h n w v
 | 0,v,w => decide_eq_decide.2 eq_comm
 | n + 1,v,w => stepK_symm (qY0 h n) v w
def shH (h : List Ob) : Nat -> Vl -> Vl -> Bool
 | 0 => yH0 h fun _ _ => false
 | n + 1 => yH0 h (shH h n)
def Vd (h : List Ob) (v : Vl) : Prop := qY v = true /\ Rv h v
theorem dZ0 {h : List Ob} {F G : Vl -> Vl -> Bool} {v w : Vl} (hv : Vd h v) (hw : Vd h w) (hr : ∀ x,G x x = true)
  (hFG : v.k = 6 -> w.k = 6 -> (yJ h v.r).kind = 1 -> (yJ h w.r).kind = 1 -> ∀ x ∈ (yJ h v.r).items,∀ y ∈ (yJ h w.r).items,F x y = G x y) : yH0 h F v w = yG0 h G v w := by
 unfold yH0;by_cases c1 : ¬ v.k = 6 \/ ¬ w.k = 6
 ·rw [Ac c1,wW];rintro ⟨e1,e2⟩;rcases c1 with c | c
  ·exact c (kY0 e1)
  ·exact c (kY0 e2)
 ·have k1 : v.k = 6 := by omega
  have k2 : w.k = 6 := by omega
  rw [Aa c1];by_cases c2 : v.r = w.r
  ·rw [Ac c2,ref_eq hv.1 hw.1 k1 k2 c2,yS0 hr]
  ·rw [Aa c2];have o1 := bW hv.2 k1;have o2 := bW hw.2 k2;by_cases hk : (yJ h v.r).kind = 1 /\ (yJ h w.r).kind = 1
   ·rw [wG (by rw [o1,o2];exact hk),o1,o2,Ax hk.1,Ax hk.2,Bool.true_and,Bool.true_and,eqF];by_cases hl : ((yJ h v.r).items.length : Int) = (yJ h w.r).items.length
    ·refine congrArg _ (pN0 fun i hi => hFG k1 k2 hk.1 hk.2 _ ?_ _ ?_)
     ·rw [yS hi];exact Ar _
     ·rw [yS om];exact Ar _
    ·rw [By hl];rfl
   ·rw [wW (by rw [o1,o2];exact hk),By (fun e : v = w => c2 (by rw [e])),show (decide ((yJ h v.r).kind = 1) && decide ((yJ h w.r).kind = 1)) = false from by rw [<- Bool.decide_and];exact By hk];rfl
theorem uF1 {h : List Ob} (g : Uh h) : ∀ (n : Nat) (v w : Vl),Dp h n v -> Vd h v -> Vd h w -> shH h n v w = smK h n v w
 | 0,v,w,hd,hv,hw => by
  have e1 := dZ0 (F := fun _ _ => false) (G := fun x y => decide (x = y)) hv hw (fun x => Ax rfl) (fun k1 _ h1 _ => absurd (by rw [bW hv.2 k1];exact h1) hd);show yH0 h _ v w = decide (v = w);rw [e1,wW fun e => hd e.1]
 | n + 1,v,w,hd,hv,hw => dZ0 (G := smK h n) hv hw (kH0 h n) fun k1 k2 h1 h2 x hx y hy =>
   uF1 g n x y (hd (by rw [bW hv.2 k1];exact h1) x (by rw [bW hv.2 k1];exact hx)) ⟨yT1 g (hv.2 k1) h1 hx,tJ0 g (hv.2 k1) hx⟩ ⟨yT1 g (hw.2 k2) h2 hy,tJ0 g (hw.2 k2) hy⟩
theorem wJ0 {h : List Ob} (hh : HpIn h) (g : Uh h) : ∀ (n : Nat) (v w : Vl),Dp h n v -> Rv h v -> Rv h w -> Fx 62 [hpD md h,.agg (vlD v),.agg (vlD w)] (.v (.bool (shH h n v w)))
 | 0,v,w,hd,hv,hw => gV h v w (fun _ _ => false) hh (fun k => yX (hv k)) (fun k => yX (hw k)) fun k1 _ h1 => absurd (by rw [bW hv k1];exact h1) hd
 | n + 1,v,w,hd,hv,hw => gV h v w (shH h n) hh (fun k => yX (hv k)) (fun k => yX (hw k)) fun k1 k2 h1 x hx y hy =>
   wJ0 hh g n x y (hd (by rw [bW hv k1];exact h1) x (by rw [bW hv k1];exact hx)) (tJ0 g (hv k1) hx) (tJ0 g (hw k2) hy)
theorem heapKey_ok {h : List Ob} (hh : HpIn h) (g : Uh h) {v w : Vl} (hk : xM h v = true) (hv : Vd h v) (hw : Vd h w) : Fx 62 [hpD md h,.agg (vlD v),.agg (vlD w)] (.v (.bool (smK h 1001 v w))) := by
 rw [<- uF1 g 1001 v w (pT hk) hv hw];exact wJ0 hh g 1001 v w (pT hk) hv.2 hw.2
theorem yV1 {h : List Ob} {v : Vl} (hh : hasS h v = true) : Vd h v := ⟨by simp only [hasS,Ai] at hh;exact hh.1,fun hk => jS0 hh hk⟩
theorem xS0 {h : List Ob} {k : Vl} : ∀ {l : List Vl},0 <= plI h l k -> (plI h l k).toNat < l.length /\ smK h 1001 (l.getD (plI h l k).toNat vl0) k = true
 | [],h0 => absurd h0 (by show ¬ (0 : Int) <= -1;omega)
 | x :: l,h0 => by
  rw [plI] at h0 ⊢;by_cases hx : smK h 1001 x k = true
  ·rw [Ac hx] at h0 ⊢;exact ⟨by rw [Aq];simp,hx⟩
  ·rw [Aa hx] at h0 ⊢;by_cases hl : plI h l k < 0
   ·rw [Ac hl] at h0;omega
   ·rw [Aa hl] at h0 ⊢;have ih := xS0 (h := h) (l := l) (k := k) om;have e : (plI h l k + 1).toNat = (plI h l k).toNat + 1 := by omega
    rw [e];exact ⟨by rw [Aq];omega,ih.2⟩
def Dk (h : List Ob) (l : List Vl) : Prop := ∀ i j,i < l.length -> j < l.length -> i ≠ j -> smK h 1001 (l.getD i vl0) (l.getD j vl0) = false
theorem yR1 {h : List Ob} : ∀ {l seen : List Vl},krF h seen l = 0 -> (∀ k ∈ l,xM h k = true) /\ (∀ k ∈ l,∀ x ∈ seen,smK h 1001 x k = false) /\ l.Pairwise fun x y => smK h 1001 x y = false
 | [],_,_ => ⟨(fun _ h => by cases h),(fun _ h => by cases h),List.Pairwise.nil⟩
 | s :: r,seen,hk => by
  rw [krF] at hk;split at hk
  ·cases hk
  ·rename_i h1;split at hk
   ·cases hk
   ·rename_i h2;obtain ⟨a,b,c⟩ := yR1 hk;have h2 : ∀ x ∈ seen,smK h 1001 x s = false := by simpa using h2
    refine ⟨fun k hk => ?_,fun k hk x hx => ?_,List.Pairwise.cons (fun y hy => b y hy s (Bc.2 (.inr (Ee.2 rfl)))) c⟩
    ·rcases Bq.1 hk with rfl | hk
     ·simpa using h1
     ·exact a k hk
    ·rcases Bq.1 hk with rfl | hk
     ·exact h2 x hx
     ·exact b k hk x (Bc.2 (.inl hx))
theorem dk_of {h : List Ob} {l : List Vl} (hp : l.Pairwise fun x y => smK h 1001 x y = false) : Dk h l := by
 intro i j hi hj hne;have hg : ∀ {i : Nat} (hi : i < l.length),l.getD i vl0 = l[i] := fun hi => by rw [Ao,Ah hi];rfl
 rw [hg hi,hg hj];rcases Nat.lt_or_gt_of_ne hne with h1 | h1
 ·exact List.pairwise_iff_getElem.1 hp i j hi hj h1
 ·rw [qY0];exact List.pairwise_iff_getElem.1 hp j i hj hi h1
structure Kd (h : List Ob) (l : List Vl) : Prop where
 keyed : ∀ k ∈ l,xM h k = true
 vd : ∀ k ∈ l,Vd h k
 dk : Dk h l
theorem mJ {h : List Ob} (g : Uh h) {v : Vl} (hv : v.k = 6 -> qG h v.r = true) (hk : (zU h v).kind = 3 \/ (zU h v).kind = 4) : Kd h (zU h v).keys := by
 obtain ⟨h6,ho,e⟩ := gB (h := h) (v := v) om;rw [e] at hk ⊢;have hin := yX ho;have h49 : ¬ v.r.toNat < 49 := fun hl => by
  rw [show yJ h v.r = bgO v.r.toNat from g.lo_at hl] at hk;exact absurd hk (by show ¬ ((9 : Int) = 3 \/ (9 : Int) = 4);decide)
 have u := g.hi_at (i := v.r.toNat) om hin.2;rw [<- mD hin] at u;have vs := qS0 u.vals;obtain ⟨a,_,c⟩ := yR1 u.keys;refine ⟨a,fun k hk' => ⟨?_,fun h6 => vs.vals k (Bc.2 (.inl hk')) h6⟩,dk_of c⟩;have := vs.ok k (Bc.2 (.inl hk'))
 rwa [fixV,Aa om] at this
section
variable {h : List Ob} {x y : Ob} {i : Nat} (hi : i < y.keys.length)
include hi
end
variable {md me : Bool}
variable {md me : Bool}
variable {md me : Bool}
def vpD (k : Vl) : D := .pt true (vlD k)
theorem qV {l : List Vl} {i : Nat} (hi : i < l.length) : l.getD i vl0 ∈ l := by
 rw [Ao,Ah hi];exact Ar _
variable {md me : Bool}
section
variable {P : Program} {b : Ba} {ops : Array Oper}
end


variable {md me : Bool}
theorem mH {h : List Ob} (g : Uh h) {v : Vl} (hk : (zU h v).kind = 3) : (zU h v).items.length = (zU h v).keys.length := by
 obtain ⟨h6,ho,e⟩ := gB (h := h) (v := v) om;rw [e] at hk ⊢;have hin := yX ho;have h49 : ¬ v.r.toNat < 49 := fun hl => by
  rw [show yJ h v.r = bgO v.r.toNat from g.lo_at hl] at hk;exact absurd hk (by show ¬ (9 : Int) = 3;decide)
 have u := g.hi_at (i := v.r.toNat) om hin.2;rw [<- mD hin] at u;have h1 := (bE0 u.shape).1;unfold cntS at h1;rw [hk,Aa (by decide +kernel),Aa (by decide +kernel),Aa (by decide +kernel),Ac (by decide +kernel)] at h1;omega
theorem qL {h : List Ob} (g : Uh h) (v : Vl) : (zU h v).keys.length <= 1000 /\ (zU h v).items.length <= 1000 := by
 by_cases hk : (zU h v).kind = 0
 ·unfold zU at hk ⊢;split
  ·rename_i h1;have := h1.2;simp only [qG,Ai,Bp,Aw] at this;rw [Ac h1] at hk;exact absurd hk this.2
  ·exact ⟨by decide,by decide⟩
 ·obtain ⟨h6,ho,e⟩ := gB (h := h) (v := v) hk;rw [e];have hin := yX ho;by_cases h49 : v.r.toNat < 49
  ·rw [show yJ h v.r = bgO v.r.toNat from g.lo_at h49];exact ⟨Ap _,Ap _⟩
  ·have u := g.hi_at (i := v.r.toNat) om hin.2;rw [<- mD hin] at u;have hz := u.sizes;unfold gS at hz;split at hz
   ·cases hz
   ·split at hz
    ·cases hz
    ·rename_i h2;simp only [Da,Am,not_or] at h2;obtain ⟨h3,h4⟩ := h2;unfold mx3 at h3;repeat' split at h3
     all_goals omega
section
variable {h : List Ob} (g : Uh h)
include g
end
variable {md me : Bool}
theorem gQ {h : List Ob} {v : Vl} (hv : Vd h v) : hasS h v = true := by
 simp only [hasS,Ai,Da,Bp,Aw];refine ⟨hv.1,?_⟩;by_cases hk : v.k = 6
 ·exact .inr (hv.2 hk)
 ·exact .inl hk
theorem kbsz (a : Array UInt8) : (⟨a⟩ : ByteArray).size = a.size := rfl
end Go.Proofs.YtinegkcbkefeiaaGreatDoor
