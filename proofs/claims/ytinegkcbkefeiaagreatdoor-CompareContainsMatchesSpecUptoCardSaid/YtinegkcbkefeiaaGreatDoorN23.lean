/- Part 23 of the proof. -/
import Derived.Test.YtinegkcbkefeiaaGreatDoorN22
namespace Go.Proofs.YtinegkcbkefeiaaGreatDoor
open Go.RowKit
variable {md me : Bool}
theorem FnG.mw {P : Program} {f : FuncId} {k q i i' sz n n' : Nat} {r : List D} {own own' : List DOwn} {out : D} (h : FnG P f (.mw k q i sz n :: r) own out own') (h1 : i' = i) (h2 : n' = n) : FnG P f (.mw k q i' sz n' :: r) own out own' := by
 subst h1;subst h2;exact h
theorem limN_zero {q m X : Nat} (h : X < 4294967296 ^ m) : (limN q X).getD m 0 = 0 := by
 have h1 := vH (limN q X) m;have h2 := tW0 (bB q X) m;have h3 : VL (limN q X) < 4294967296 ^ m := by
  rcases Bs X (4294967296 ^ q) with h4 | h4
  ·rw [pD0 h4];exact h
  ·have h5 := L_lt (bB q X);rw [gA] at h5;omega
 rw [Eg h3] at h2;omega
theorem set_self {l : List Nat} {i v : Nat} (h : l.getD i 0 = v) : l.set i v = l := by
 apply List.ext_getElem?;intro j;rw [List.getElem?_set];split
 ·rename_i e;subst e;split
  ·rename_i hl;rw [<- h,An,Ah hl];rfl
  ·rename_i hl;rw [Ds om]
 ·rfl
theorem cut_rows {U : List Nat} {q n : Nat} (h : n <= q) : List.take (((n : Nat) : Int).toNat - Int.toNat 0) (List.drop (Int.toNat 0) (List.take q (List.drop 0 (MR.map U uD 0).rows))) = (U.take n).map uD := by
 show List.take (n - 0) (List.take q (U.map uD)) = _;rw [List.take_take,Nat.sub_zero,Db h,Dz]
def shN (b : Nat) : Nat := 32 - blN ((lim b).getD ((lim b).length - 1) 0)
theorem shN_facts {b : Nat} (h0 : 0 < (lim b).length) : shN b < 32 /\ (lim (b * 2 ^ shN b)).length = (lim b).length /\ 2147483648 * 4294967296 ^ ((lim b).length - 1) <= b * 2 ^ shN b := by
 obtain ⟨m,hm⟩ : ∃ m,(lim b).length = m + 1 := ⟨(lim b).length - 1,by omega⟩;have ht := qW0 (x := b) h0;have hl := qG (yU b) ((lim b).length - 1);have hv := pF0 (l := lim b) (n := m) hm;have hlow := L_lt (Lg.take (yU b) m);rw [As,Db om] at hlow;rw [vI] at hv;unfold shN;rw [hm,Nat.add_sub_cancel] at ht hl ⊢;obtain ⟨p1,p2⟩ := blN_pow (x := (lim b).getD m 0) om hl;have hb := yF1 ((lim b).getD m 0);generalize (lim b).getD m 0 = t at *;generalize blN t = k at *;generalize VL ((lim b).take m) = r at *;have hk : 0 < k := by
  rcases Bu k with h | h
  ·subst h;rw [Nat.pow_zero] at p2;omega
  ·exact h
 have hP : 2 ^ k * 2 ^ (32 - k) = 4294967296 := by rw [<- Ef,show k + (32 - k) = 32 by omega]
 have hp0 : 0 < 2 ^ (32 - k) := Nat.pow_pos de;have hB : 0 < 4294967296 ^ m := Nat.pow_pos de;have u1 : b < 4294967296 ^ m * (t + 1) := by rw [Br];omega
 have u2 : b * 2 ^ (32 - k) < 4294967296 ^ (m + 1) := by
  have e1 : b * 2 ^ (32 - k) < 4294967296 ^ m * (t + 1) * 2 ^ (32 - k) := Nat.mul_lt_mul_of_pos_right u1 hp0;have e2 : (t + 1) * 2 ^ (32 - k) <= 2 ^ k * 2 ^ (32 - k) := Bi _ p2;rw [hP] at e2;have e3 : 4294967296 ^ m * ((t + 1) * 2 ^ (32 - k)) <= 4294967296 ^ m * 4294967296 := Ci _ e2;rw [Bo] at e1;rw [Bv];omega
 have u3 : 2147483648 * 4294967296 ^ m <= b * 2 ^ (32 - k) := by
  have e1 : 4294967296 ^ m * t * 2 ^ (32 - k) <= b * 2 ^ (32 - k) := Bi _ om;have e2 : 2 ^ k * 2 ^ (32 - k) <= 2 * t * 2 ^ (32 - k) := Bi _ p1;rw [hP,Bo] at e2;have e3 : 4294967296 ^ m * 2147483648 <= 4294967296 ^ m * (t * 2 ^ (32 - k)) := Ci _ om;rw [Bo] at e1;rw [At];omega
 refine ⟨by omega,?_,u3⟩;have l1 := jR u2;have l2 := qR (x := b) (y := b * 2 ^ (32 - k)) (Nat.le_mul_of_pos_right _ hp0);omega
theorem gZ {P : Program} {E : Pn} {K : DS -> Prop} {p : Prop} {r : Out} (hr : r.sat P E K) (hp : p := by first | exact trivial | omega | exact ⟨by decide,by omega,by simp only [As,Bm,MR.len_rows,<- hmU,Nat.sub_zero,Nat.min_self];omega⟩ | exact ini om om | exact ⟨hmo,by rw [<- hmo];omega⟩ | exact ⟨hmo,by omega⟩ | (constructor <;> omega) | (refine ⟨?_,?_,?_⟩ <;> omega) | (refine ⟨?_,?_,?_,?_⟩ <;> omega) | exact Ej) : (Out.need p r).sat P E K := ⟨hp,hr⟩
theorem natDivide_ok (a b : Nat) (ha : (lim a).length <= 100000) (hn : 2 <= (lim b).length) (hle : (lim b).length <= (lim a).length) : Fx 255 [usD (lim a),usD (lim b)] (.tup [usD (lim (a / b)),usD (lim (a % b))]) := by
 obtain ⟨hs,hsl,hst⟩ := shN_facts (b := b) om;have hn1 : (((lim b).length : Int) - 1).toNat = (lim b).length - 1 := by omega
 have hsp : 2 ^ shN b <= 2147483648 := by have h := Bd (show 0 < 2 by decide) (show shN b <= 31 by omega);simpa using h
 have gv := yU (b * 2 ^ shN b);have hLa := pK a;have hXl : (a * 2 ^ shN b) < 4294967296 ^ ((lim a).length + 1) := by rw [Bv];exact Nat.mul_lt_mul_of_lt_of_le hLa om de
 have hvt : 0 < (lim (b * 2 ^ shN b)).getD ((lim b).length - 1) 0 := by have := qW0 (x := (b * 2 ^ shN b)) (by omega);rw [hsl] at this;omega
 have htl := top_lt (a := a) (b := (b * 2 ^ shN b)) (s := shN b) (n := (lim b).length) (m := ((lim a).length + 1 - (lim b).length)) (L := (lim a).length) hLa om om hsp hst;have hml := jR hXl;refine yD zL Tryz.func255 rfl rfl rfl rfl rfl rfl ?_;intros;refine zB (zE zL [] 100 rfl ?_);repeat (first | refine zH ?_ | refine gZ ?_)
 refine zC (zA ?_);refine zB (zE zL [] 200 rfl ?_);repeat (first | refine zH ?_ | refine gZ ?_)
 refine zC (zA ?_);refine zB (zE zL [] 300 rfl ?_);repeat (first | refine zH ?_ | refine gZ ?_)
 refine zO _ (Lz32_ok _ (qG (yU b) _)) rfl ?_;repeat (first | refine zH ?_ | refine gZ ?_)
 refine zC (zA ?_);refine yW [0,1,6] [] 310 [(7,.v (.int .i64 (shN b : Nat)))] [] ?_;refine ⟨⟨⟨u21 (by rw [hn1];rfl),yM⟩,yH,rfl,rfl⟩,?_⟩;refine zB (zE zL [1025] 400 rfl ?_);repeat (first | refine zH ?_ | refine gZ ?_)
 refine zO _ (natLeft_ok b (shN b) om om) rfl ?_;repeat (first | refine zH ?_ | refine gZ ?_)
 refine qC _ _ (natLeft_G a (shN b) om hs) rfl ?_;repeat (first | refine zH ?_ | refine gZ ?_)
 refine zC (zA (zB (zR ?_)));refine yC (ι := {m : Nat // (lim (a * 2 ^ shN b)).length <= m /\ m <= ((lim a).length + 1)}) [0,6,7,8] [] 450 (fun x => [(9,.mw 315 ((lim a).length + 1) 0 1 x.1)]) (fun x => [(315,.mrow 126 1 (.map (limN ((lim a).length + 1) (a * 2 ^ shN b)) uD 0))]) (fun x => ((lim a).length + 1) - x.1) ⟨(lim (a * 2 ^ shN b)).length,Ao _,hml⟩ ?_;refine ⟨⟨yM,yH,rfl,rfl⟩,fun x => ?_⟩;have hx1 := x.2.1;have hx2 := x.2.2;refine zB ?_;refine zB (zE zL [] 500 rfl ?_);repeat (first | refine zH ?_ | refine gZ ?_)
 refine zC (zA (zW (fun c4 => ?_) (fun c4 => ?_)))
 ·
  refine zM (zA (zR ?_));refine zE zL [] 600 rfl ?_;repeat (first | refine zH ?_ | refine zU (by first | exact ⟨by rw [MR.len,gA],by omega⟩ | (rw [MR.len,gA]) | first | exact trivial | omega | exact ⟨by decide,by omega,by simp only [As,Bm,MR.len_rows,<- hmU,Nat.sub_zero,Nat.min_self];omega⟩ | exact ini om om | exact ⟨hmo,by rw [<- hmo];omega⟩ | exact ⟨hmo,by omega⟩ | (constructor <;> omega) | (refine ⟨?_,?_,?_⟩ <;> omega) | (refine ⟨?_,?_,?_,?_⟩ <;> omega) | exact Ej) ?_)
  refine zC (zP ?_);exact zS ⟨x.1 + 1,by omega,by omega⟩ ⟨⟨Sub.mw rfl rfl rfl,yM⟩,⟨SubO.mr (by have hz : (a * 2 ^ shN b) < 4294967296 ^ x.1 := Bl (pK _) (Bd de hx1);show (List.map uD (limN ((lim a).length + 1) (a * 2 ^ shN b))).set x.1 (uD 0) = List.map uD (limN ((lim a).length + 1) (a * 2 ^ shN b));rw [<- List.map_set,set_self (limN_zero hz)]),yH⟩,rfl,rfl⟩ (by show ((lim a).length + 1) - (x.1 + 1) < ((lim a).length + 1) - x.1;omega)
 ·
  refine yE (yA (yB (zX (zA ?_))));refine yW [6,7,8] [] 510 [(9,.mw 315 ((lim a).length + 1) 0 1 ((lim a).length + 1))] [(315,.mrow 126 1 (.map (limN ((lim a).length + 1) (a * 2 ^ shN b)) uD 0))] ?_;refine ⟨⟨⟨Sub.mw rfl rfl (by have := x.2.2;omega),yM⟩,yH,rfl,rfl⟩,?_⟩;refine zB (zE zL [1038] 700 rfl ?_);repeat (first | refine zH ?_ | refine gZ ?_)
  refine zC (zA ?_);refine yW [6,7,8,9] [315] 710 [(10,.mo 514 ((lim a).length + 1 - (lim b).length))] [(514,.mrow 126 1 (.map (List.replicate ((lim a).length + 1 - (lim b).length) 0) uD 0))] ?_;refine ⟨⟨⟨Sub.mo om,yM⟩,⟨SubO.mr (by rw [cC0];congr 3;omega),yH⟩,rfl,rfl⟩,?_⟩;refine zB ?_;refine zB (zE zL [] 800 rfl ?_);repeat (first | refine zH ?_ | refine gZ ?_)
  refine zC (zA (zR ?_));refine yC (ι := DvL (limN ((lim a).length + 1) (a * 2 ^ shN b)) (lim (b * 2 ^ shN b)) ((lim a).length + 1 - (lim b).length) (lim b).length) [6,7,8,9,10] [] 850 (fun y => [(11,.v (.int .i64 ((y.k : Int) - 1)))]) (fun y => [(315,.mrow 126 1 (.map y.U uD 0)),(514,.mrow 126 1 (.map y.o uD 0))]) (fun y => y.k) (DvL.start (by rw [gA];omega) (bB _ _) (by rw [vI];exact htl)) ?_;refine ⟨⟨⟨u21 (by show _ = ((((lim a).length + 1 - (lim b).length) : Nat) : Int) - 1;omega),yM⟩,yH,rfl,rfl⟩,fun y => ?_⟩;have hyk := y.le;have hyU := y.hU;have hyo := y.ho;have hkt : ((y.k : Int) - 1).toNat = y.k - 1 := by omega
  have hmo : ((lim a).length + 1 - (lim b).length) = (MR.map y.o uD 0).len := by rw [MR.len,hyo]
  have hmU : ((lim a).length + 1) = (MR.map y.U uD 0).len := by rw [MR.len,hyU];omega
  refine zB ?_;refine zB (zE zL [] 900 rfl ?_);repeat (first | refine zH ?_ | refine gZ ?_)
  refine zC (zA (zW (fun c8 => ?_) (fun c8 => ?_)))
  ·
   refine zM (zA (zB (zR ?_)));refine zE zL [1058] 1100 rfl ?_;repeat (first | refine zH ?_ | refine gZ ?_)
   refine qC _ _ ((natDigit_G y.U (lim (b * 2 ^ shN b)) ((lim a).length + 1) (y.k - 1) (lim b).length (by rw [y.hU];omega) om hsl hn y.gU gv hvt (y.facts gv hsl om).2.1 om).mw om om) rfl ?_;repeat (first | refine zH ?_ | refine gZ ?_)
   refine zC (zP (zA ?_));refine zE zL [] 1200 rfl ?_;repeat (first | refine zH ?_ | refine gZ ?_)
   refine zC ?_;exact zS (y.next gv hsl om) ⟨⟨u21 (by show (y.k : Int) - 1 - 1 = ((y.k - 1 : Nat) : Int) - 1;omega),yM⟩,⟨SubO.mr (by show List.map uD (wnC y.U (y.k - 1) _) = List.map uD y.R;rw [wnC_drop (n := (lim b).length) om (gA _ _)];rfl),SubO.mr (by rw [hkt];exact tF _ _ _),yH⟩,rfl,rfl⟩ (by show y.k - 1 < y.k;omega)
  ·
   refine yE (yA (yB (zX (zA ?_))));refine jZ 514 rfl (by repeat (first | exact trivial | exact hmo | exact ⟨hmU,rfl⟩ | refine ⟨?_,?_⟩)) (by repeat (first | exact trivial | refine ⟨?_,?_⟩)) ?_;refine jZ 315 rfl (by repeat (first | exact trivial | exact hmo | exact ⟨hmU,rfl⟩ | refine ⟨?_,?_⟩)) (by repeat (first | exact trivial | refine ⟨?_,?_⟩)) ?_;refine zB (zZ zL [] [[],[0],[],[],[2,3],(rgN 5),[],(rgN 7),(rgN 8),(rgN 9)] 1200 yQ kr rfl ?_);repeat (first | refine zH ?_ | refine gZ ?_)
   refine zO _ ((jK y.o y.go om).args ⟨SubP.ownSl rfl,trivial⟩) rfl ?_;repeat (first | refine zH ?_ | refine gZ ?_)
   refine zO _ ((jK (y.U.take (lim b).length) (y.gU.take _) (by rw [As];omega)).args ⟨u18 (cut_rows om),trivial⟩) rfl ?_;repeat (first | refine zH ?_ | refine gZ ?_)
   refine zO _ (natRight_ok _ (shN b) (by refine Au (jR (L_lt (y.gU.take _))) (by rw [As];omega)) om) rfl ?_;repeat (first | refine zH ?_ | refine gZ ?_)
   refine zC (zA (zK ?_));obtain ⟨e1,e2⟩ := y.fin om gv hsl;rw [pD0 hXl,vI] at e1 e2;rw [sh_div] at e1;exact u4 rfl (u19 ⟨u9 (by rw [e1]),u9 (by rw [e2,sh_mod]),trivial⟩)
theorem bR {x y q r : Int} (h : r + y * q = x) (hr : (0 < y /\ 0 <= r /\ r < y) \/ (y < 0 /\ r <= 0 /\ y < r)) : Int.fdiv x y = q := by
 rcases hr with ⟨h0,h1,h2⟩ | ⟨h0,h1,h2⟩
 ·rw [Int.fdiv_eq_ediv_of_nonneg _ om];exact ((Int.ediv_emod_unique h0).2 ⟨h,h1,h2⟩).1
 ·have e : Int.fdiv x y = Int.fdiv (-x) (-y) := by simp
  rw [e,Int.fdiv_eq_ediv_of_nonneg _ om];refine ((Int.ediv_emod_unique (r := -r) om).2 ⟨?_,by omega,by omega⟩).1;rw [Int.neg_mul];omega
variable {md me : Bool}
theorem qN0 {b : Nat} (h : (lim b).length = 1) : (lim b).getD 0 0 = b := by
 have h1 := pF0 (l := lim b) (n := 0) h;rw [vI,Nat.pow_zero,Nat.one_mul] at h1;simpa [VL] using h1.symm
theorem lim_one_r (r : Nat) : VL [r] = r := by rw [uS,wM0];rfl
theorem jA1 {P : Program} {E : Pn} {K : DS -> Prop} {p : Prop} {r : Out} (hr : r.sat P E K) (hp : p := by first | exact ⟨by decide,by show 0 < _;omega⟩ | exact Ej) : (Out.need p r).sat P E K := ⟨hp,hr⟩
theorem natDivMod0_ok (a b : Nat) (ha : (lim a).length <= 100000) (hb : (lim b).length <= 100000) (h0 : 0 < b) : Fx 246 [usD (lim a),usD (lim b)] (.tup [usD (lim (a / b)),usD (lim (a % b))]) := by
 have hneg := mN0 a b;have hbp : 0 < (lim b).length := Cr.2 (fun h => by rw [lim_nil] at h;omega);refine yD zL Tryz.func246 rfl rfl rfl rfl rfl rfl ?_;intros;refine zJ 100 ?_;refine zB ?_;refine zB (zE zL [] 200 rfl ?_);refine zF ?_;refine zO _ (xY a b om om) rfl ?_;refine zF ?_;refine zC (zA (zW (fun c1 => ?_) (fun c1 => ?_)))
 ·
  refine zB (zE zL [13] 300 rfl ?_);refine zF ?_;refine mM _ _ _ (CloneU_ok (lim a) om) ?_;refine zf (zA (zK (zN ?_)));exact u4 rfl (u19 ⟨by rw [Eg (hneg.1 om),qI];exact u12 rfl,SubP.ownSl (by rw [Du (hneg.1 om)]),trivial⟩)
 ·
  refine zM (zA (zB (zJ 400 ?_)));refine zW (fun c3 => ?_) (fun c3 => ?_)
  ·
   refine zB (zE zL [] 500 rfl ?_);repeat (first | refine zH ?_ | refine jA1 ?_)
   refine zO _ (natShort_ok a ((lim b).getD 0 0) om (by have e := qN0 (b := b) om;omega) (qG (yU b) _)) rfl ?_;repeat (first | refine zH ?_ | refine jA1 ?_)
   refine zC (zA ?_);refine zB (zE zL [] 600 rfl ?_);refine zF ?_;refine zO _ ((jK [a % (lim b).getD 0 0] (fun x hx => by have e := Ee.1 hx;subst e;exact Bl (Cj _ (by have e := qN0 (b := b) om;omega)) (Cx (qG (yU b) _))) (by show 1 <= 100000000;omega)).args ⟨u18 rfl,trivial⟩) rfl ?_;refine zf (zA (zK (zN ?_)));have e := qN0 (b := b) om;exact u4 rfl (u19 ⟨u9 (by rw [e]),u9 (by rw [e,lim_one_r]),trivial⟩)
  ·
   refine zM (zA ?_);refine zB (zE zL [] 700 rfl ?_);refine zF ?_;refine zO _ (natDivide_ok a b om om (qR om)) rfl ?_;refine zf (zA (zK ?_));exact u4 rfl (u6 _)
theorem natDivMod_ok (a b : Nat) (ha : (lim a).length <= 600) (hb : (lim b).length <= 600) (h0 : 0 < b) : Fx 221 [usD (lim a),usD (lim b)] (.tup [usD (lim (a / b)),usD (lim (a % b)),faD 0 0]) := by
 have hbp : 0 < (lim b).length := Cr.2 (fun h => by rw [lim_nil] at h;omega);refine yD zL Tryz.func221 rfl rfl rfl rfl rfl rfl ?_;intros;refine zJ 100 ?_;refine zB ?_;refine zB (zE zL [] 200 rfl ?_);refine zF ?_;refine zO _ (wD a b ha hb) rfl ?_;refine zF ?_;refine zC (zA (zJ 300 ?_));refine zW (fun c2 => ?_) (fun c2 => ?_)
 ·
  exact absurd c2 de
 ·
  refine zM (zA (zB (zJ 500 ?_)));refine zW (fun c4 => ?_) (fun c4 => ?_)
  ·
   exact absurd c4 om
  ·
   refine zM (zA ?_);refine zB (zE zL [] 700 rfl ?_);refine zF ?_;refine zO _ (natDivMod0_ok a b om om h0) rfl ?_;refine zF ?_;refine zC (zA (zJ 800 ?_));refine zK ?_;exact u4 rfl (u6 _)
def dmQ (s t : Bool) (x y : Nat) : Nat := if s ≠ t /\ 0 < x % y then x / y + 1 else x / y
def dmR (s t : Bool) (x y : Nat) : Nat := if s ≠ t /\ 0 < x % y then y - x % y else x % y
theorem dm_Z {s t : Bool} {x y : Nat} (hy : 0 < y) : ZI (s != t) (dmQ s t x y) = Int.fdiv (ZI s x) (ZI t y) /\ ZI t (dmR s t x y) = Int.fmod (ZI s x) (ZI t y) := by
 have hm := Cj x hy;have hd := Co x y;have key : ∀ q r : Int,r + ZI t y * q = ZI s x -> ((0 < ZI t y /\ 0 <= r /\ r < ZI t y) \/ (ZI t y < 0 /\ r <= 0 /\ ZI t y < r)) -> q = Int.fdiv (ZI s x) (ZI t y) /\ r = Int.fmod (ZI s x) (ZI t y) := by
  intro q r h1 h2;have h3 := bR h1 h2;refine ⟨h3.symm,?_⟩;have h4 := Int.mul_fdiv_add_fmod (ZI s x) (ZI t y);rw [h3] at h4;omega
 refine key _ _ ?_ ?_
 ·unfold dmQ dmR;generalize x % y = r at *;generalize x / y = q at *;have hq : (y : Int) * ((q : Nat) : Int) + (r : Int) = (x : Int) := by rw [<- Int.natCast_mul,<- Int.natCast_add,hd]
  cases s <;> cases t <;> unfold ZI <;> simp only [ne_eq,not_true_eq_false,false_and,if_false,not_false_eq_true,true_and,reduceCtorEq,if_true,Ay,bne_self_eq_false,show (false != true) = true from rfl,show (true != false) = true from rfl]
  ·omega
  ·by_cases hr : 0 < r
   ·rw [Ab hr,Ab hr]
    push_cast
    simp only [Int.neg_mul,Int.mul_neg,Int.neg_neg,Int.mul_add,Int.mul_one];omega
   ·rw [Aa hr,Aa hr];simp only [Int.neg_mul,Int.mul_neg,Int.neg_neg];omega
  ·by_cases hr : 0 < r
   ·rw [Ab hr,Ab hr]
    push_cast
    simp only [Int.neg_mul,Int.mul_neg,Int.neg_neg,Int.mul_add,Int.mul_one];omega
   ·rw [Aa hr,Aa hr];simp only [Int.neg_mul,Int.mul_neg,Int.neg_neg];omega
  ·simp only [Int.neg_mul,Int.mul_neg,Int.neg_neg];omega
 ·unfold dmR;generalize x % y = r at *
  cases s <;> cases t <;> unfold ZI <;> simp only [ne_eq,not_true_eq_false,false_and,if_false,not_false_eq_true,true_and,reduceCtorEq,if_true,Ay,bne_self_eq_false,show (false != true) = true from rfl,show (true != false) = true from rfl]
  ·omega
  ·by_cases hr : 0 < r
   ·rw [Ab hr];omega
   ·rw [Aa hr];omega
  ·by_cases hr : 0 < r
   ·rw [Ab hr];omega
   ·rw [Aa hr];omega
  ·omega
theorem yO0 {s t : Bool} {x y : Nat} (hy : 0 < y) : dmQ s t x y <= x := by
 unfold dmQ;have h1 := Co x y;have h2 := Cj x hy;split
 ·rename_i h;have h3 : 1 < y := by omega
  rcases Bu (x / y) with h4 | h4
  ·omega
  ·have h5 : 2 * (x / y) <= y * (x / y) := Bi _ h3;omega
 ·exact Nat.div_le_self _ _
theorem tH0 {s t : Bool} {x y : Nat} (hy : 0 < y) : dmR s t x y <= y := by
 unfold dmR;have h2 := Cj x hy;split <;> omega
variable {md me : Bool}
theorem cR0 : lim 1 = [1] := by rw [xZ (by decide),show 1 / 4294967296 = 0 by decide,qI]
theorem gD (b : Bool) (n : Nat) (h : (lim n).length <= 128) : Fx 224 [.v (.bool b),usD (lim n)] (.tup [.agg (zV (ZI b n)),faD 0 0]) := by
 have := vP b (lim n);rw [sg_z h] at this;exact this
theorem len_posL {n : Nat} (h : 0 < ((lim n).length : Int)) : 0 < n := by
 rcases Bu n with h0 | h0
 ·subst h0;rw [qI] at h;exact absurd h de
 ·exact h0
theorem len_nposL {n : Nat} (h : ¬ 0 < ((lim n).length : Int)) : n = 0 := by
 rcases Bu n with h0 | h0
 ·exact h0
 ·have : (lim n) ≠ [] := fun e => by rw [lim_nil] at e;omega
  have := Cr.2 this;omega
theorem dm_T {s t : Bool} {x y : Nat} (h : (s != t) = true /\ 0 < ((lim (x % y)).length : Int)) : dmQ s t x y = x / y + 1 /\ dmR s t x y = y - x % y := by
 have h1 : s ≠ t := by simpa using h.1
 have h2 := len_posL h.2;exact ⟨by rw [dmQ,Ab ⟨h1,h2⟩],by rw [dmR,Ab ⟨h1,h2⟩]⟩
theorem dm_F {s t : Bool} {x y : Nat} (h : ((s != t) && decide (0 < ((lim (x % y)).length : Int))) = false) : dmQ s t x y = x / y /\ dmR s t x y = x % y := by
 have h1 : ¬ (s ≠ t /\ 0 < x % y) := by
  rintro ⟨h1,h2⟩;have h3 : (s != t) = true := by simpa using h1
  rw [h3,Dy,Av] at h;have := len_nposL h;omega
 exact ⟨by rw [dmQ,Aa h1],by rw [dmR,Aa h1]⟩
theorem wE {x y : Nat} (h : x <= y) (hy : (lim y).length <= 128) : (lim x).length <= 128 := Au (qR h) hy
theorem intDivMod_ok (a b : Int) (ha : (lim a.natAbs).length <= 128) (hb : (lim b.natAbs).length <= 128) (h0 : b ≠ 0) : Fx 179 [.agg (zV a),.agg (zV b)] (.tup [.agg (zV (Int.fdiv a b)),.agg (zV (Int.fmod a b)),faD 0 0]) := by
 have hy : 0 < b.natAbs := by omega
 obtain ⟨d1,d2⟩ := dm_Z (s := (decide (a < 0))) (t := (decide (b < 0))) (x := a.natAbs) hy;rw [jW0,jW0] at d1 d2;have hQ : a.natAbs / b.natAbs <= a.natAbs := Nat.div_le_self _ _;have hR : a.natAbs % b.natAbs <= b.natAbs := Cx (Cj _ hy);refine yD zL Tryz.func179 rfl rfl rfl rfl rfl rfl ?_;intros;refine zJ 100 ?_;refine zB ?_;refine zB (zE zL [] 200 rfl ?_);refine zF ?_;refine zO _ ((wG [(decide (a < 0),lim a.natAbs),(decide (b < 0),lim b.natAbs)] (zOks ha hb) (by show 2 <= 100;omega)).args ⟨u18 rfl,trivial⟩) rfl ?_;refine zF ?_;refine zC (zA (zJ 300 ?_));refine zW (fun c2 => ?_) (fun c2 => ?_)
 ·
  exact absurd c2 de
 ·
  refine zM (zA ?_);refine zB (zE zL [] 500 rfl ?_);refine zF ?_;refine zO _ (natDivMod_ok a.natAbs b.natAbs om om hy) rfl ?_;refine zF ?_;refine zC (zA (zB (zJ 600 ?_)));refine zW (fun c5 => ?_) (fun c5 => ?_)
  ·
   exact absurd c5 de
  ·
   refine zM (zA (zB (zJ 800 ?_)));refine zW (fun c7 => ?_) (fun c7 => ?_)
   ·
    obtain ⟨hqe,hre⟩ := dm_T c7;refine zB (zE zL [] 900 rfl ?_);refine zF ?_;refine zO _ ((vD0 _ 1 (by have := wE hQ ha;omega) (by rw [cR0];decide) (by have := wE (x := a.natAbs / b.natAbs + 1) (by rw [<- hqe];exact yO0 hy) ha;omega)).args ⟨u6 _,u18 (by rw [cR0];rfl),trivial⟩) rfl ?_;refine zf (zA ?_);refine zE zL [] 1000 rfl ?_;refine zF ?_;refine zO _ (cH _ _ om (by have := wE hR hb;omega) hR) rfl ?_;refine zf (zA ?_);refine zB (zE zL [] 1100 rfl ?_);refine zF ?_;refine zO _ (gD _ (a.natAbs / b.natAbs + 1) (wE (by first | exact hQ | (rw [<- hqe];exact yO0 hy)) ha)) rfl ?_;refine zF ?_;refine zC (zA (zB (zJ 1200 ?_)));refine zW (fun c11 => ?_) (fun c11 => ?_)
    ·
     exact absurd c11 de
    ·
     refine zM (zA ?_);refine zB (zE zL [] 1400 rfl ?_);refine zF ?_;refine zO _ (gD _ (b.natAbs - a.natAbs % b.natAbs) (wE (by first | exact hR | (rw [<- hre];exact tH0 hy)) hb)) rfl ?_;refine zf (zA ?_);refine zB (zZ zL [] [[],[],[],[0],[0,1,3],(rgN 5)] 1500 yQ kr rfl ?_);refine zf (zA (zK ?_));exact u4 rfl (u19 ⟨u9 (by rw [<- hqe];exact congrArg (fun z => D.agg (zV z)) d1),u9 (by rw [<- hre];exact congrArg (fun z => D.agg (zV z)) d2),u6 _,trivial⟩)
   ·
    refine zM (zA ?_);refine zB (zE zL [] 1100 rfl ?_);refine zF ?_;refine zO _ (gD _ (a.natAbs / b.natAbs) (wE (by first | exact hQ | (rw [<- hqe];exact yO0 hy)) ha)) rfl ?_;refine zF ?_;refine zC (zA (zB (zJ 1200 ?_)));refine zW (fun c11 => ?_) (fun c11 => ?_)
    ·
     exact absurd c11 de
    ·
     refine zM (zA ?_);refine zB (zE zL [] 1400 rfl ?_);refine zF ?_;refine zO _ (gD _ (a.natAbs % b.natAbs) (wE (by first | exact hR | (rw [<- hre];exact tH0 hy)) hb)) rfl ?_;refine zf (zA ?_);refine zB (zZ zL [] [[],[],[],[0],[0,1,3],(rgN 5)] 1500 yQ kr rfl ?_);refine zf (zA (zK ?_));obtain ⟨hqe,hre⟩ := dm_F c7;exact u4 rfl (u19 ⟨u9 (by rw [<- hqe];exact congrArg (fun z => D.agg (zV z)) d1),u9 (by rw [<- hre];exact congrArg (fun z => D.agg (zV z)) d2),u6 _,trivial⟩)
theorem bE0 {n : Int} (h1 : -9223372036854775808 <= n) (h : n < 0) : IntKind.u64.wrap (0 - IntKind.u64.wrap n) = ((n.natAbs : Nat) : Int) := by
 simp only [IntKind.wrap,IntKind.signed,IntKind.bits,Cl,Ay,if_false];omega
theorem bD0 {n : Int} (h2 : n <= 9223372036854775807) (h : ¬ n < 0) : IntKind.u64.wrap n = ((n.natAbs : Nat) : Int) := by
 simp only [IntKind.wrap,IntKind.signed,IntKind.bits,Cl,Ay,if_false];omega
theorem jK1 {m : Nat} (h : m < 18446744073709551616) : Lg [m % 4294967296,m / 4294967296] := fun x hx => by
 rcases Bq.1 hx with rfl | hx
 ·exact Cj _ de
 ·rw [Ee] at hx;subst hx;omega
theorem of_V (m : Nat) : VL [m % 4294967296,m / 4294967296] = m := by rw [uS,uS,wM0];omega
theorem bC0 {e : Int} {m : Nat} (h : e = (m : Int)) (hm : m < 18446744073709551616) : [[D.v (.int .u32 (IntKind.u32.wrap e))],[D.v (.int .u32 (IntKind.u32.wrap (Int.fdiv e (2 ^ min (Int.toNat 32) IntKind.u64.bits))))]] = [m % 4294967296,m / 4294967296].map uD := by
 rw [lo32 h,hi32 h,w32n om];rfl
theorem pQ (n : Int) (h1 : -9223372036854775808 <= n) (h2 : n <= 9223372036854775807) : Fx 158 [.v (.int .i64 n)] (.agg (zV n)) := by
 have hm : n.natAbs < 18446744073709551616 := by omega
 refine yD zL Tryz.func158 rfl rfl rfl rfl rfl rfl ?_;intros;refine zJ 100 ?_;refine zJ 200 ?_;refine zB (zJ 300 ?_);refine zW (fun c2 => ?_) (fun c2 => ?_)
 ·
  refine yN zL [] 400 ?_;refine zA ?_;refine yW [0,2] [0] 410 [(3,.v (.int .u64 (n.natAbs : Nat)))] [] ?_;refine ⟨⟨⟨by first | exact u21 (bE0 h1 c2) | exact u21 (bD0 h2 (by omega)),yM⟩,yH,rfl,rfl⟩,?_⟩;refine zJ 500 ?_;refine zB (zR ?_);refine yC (ι := TrmL [n.natAbs % 4294967296,n.natAbs / 4294967296]) [0,2] [0] 550 (fun x => [(4,.sl false 1 x.r uD 0)]) (fun _ => []) (fun x => x.r.length) ⟨[n.natAbs % 4294967296,n.natAbs / 4294967296],jK1 hm,rfl,Ao _⟩ ?_;refine ⟨⟨⟨u13 (bC0 rfl hm),yM⟩,yH,rfl,rfl⟩,fun x => ?_⟩;have hk : x.r.length <= 2 := x.le;refine zB (zJ 600 ?_);refine zW (fun c5 => ?_) (fun c5 => ?_)
  ·
   refine zM (zA (zR (yN zL [] 700 ?_)));refine zP ?_;have h9 := c5.2;rw [bM] at h9;exact zS (x.next (by omega) (by omega)) ⟨(by repeat (first | exact Sub.of_eq (by rw [dG0];rfl) | refine ⟨?_,?_⟩ | exact lx)),yH,rfl,rfl⟩ (by show (x.r.take (x.r.length - 1)).length < x.r.length;rw [As];omega)
  ·
   refine yE (yA (yB (zX (zA (zJ 800 ?_)))));refine zK ?_;rw [bM] at c5;have e : x.r = lim (VL [n.natAbs % 4294967296,n.natAbs / 4294967296]) := x.fin (fun hp h9 => by rw [h9,Aw (show (0 : Int) < (x.r.length : Nat) by omega)] at c5;exact absurd c5 de);rw [of_V] at e;exact u4 rfl (u20 ⟨u6 _,u9 (by rw [e];rfl),trivial⟩)
 ·
  refine zM (zA ?_);refine yW [0,2] [0] 310 [(3,.v (.int .u64 (n.natAbs : Nat)))] [] ?_;refine ⟨⟨⟨by first | exact u21 (bE0 h1 c2) | exact u21 (bD0 h2 (by omega)),yM⟩,yH,rfl,rfl⟩,?_⟩;refine zJ 500 ?_;refine zB (zR ?_);refine yC (ι := TrmL [n.natAbs % 4294967296,n.natAbs / 4294967296]) [0,2] [0] 550 (fun x => [(4,.sl false 1 x.r uD 0)]) (fun _ => []) (fun x => x.r.length) ⟨[n.natAbs % 4294967296,n.natAbs / 4294967296],jK1 hm,rfl,Ao _⟩ ?_;refine ⟨⟨⟨u13 (bC0 rfl hm),yM⟩,yH,rfl,rfl⟩,fun x => ?_⟩;have hk : x.r.length <= 2 := x.le;refine zB (zJ 600 ?_);refine zW (fun c5 => ?_) (fun c5 => ?_)
  ·
   refine zM (zA (zR (yN zL [] 700 ?_)));refine zP ?_;have h9 := c5.2;rw [bM] at h9;exact zS (x.next (by omega) (by omega)) ⟨(by repeat (first | exact Sub.of_eq (by rw [dG0];rfl) | refine ⟨?_,?_⟩ | exact lx)),yH,rfl,rfl⟩ (by show (x.r.take (x.r.length - 1)).length < x.r.length;rw [As];omega)
  ·
   refine yE (yA (yB (zX (zA (zJ 800 ?_)))));refine zK ?_;rw [bM] at c5;have e : x.r = lim (VL [n.natAbs % 4294967296,n.natAbs / 4294967296]) := x.fin (fun hp h9 => by rw [h9,Aw (show (0 : Int) < (x.r.length : Nat) by omega)] at c5;exact absurd c5 de);rw [of_V] at e;exact u4 rfl (u20 ⟨u6 _,u9 (by rw [e];rfl),trivial⟩)
def jA (c : Int) : Int := if c < 0 then -1 else 1
def qF (a b c : Int) : Int := if c < 0 then (if b < a then Int.fdiv (a - b + (c * jA c - 1)) (c * jA c) else 0) else (if a < b then Int.fdiv (b - a + (c * jA c - 1)) (c * jA c) else 0)
theorem yE0 {x y k : Nat} (hx : (lim x).length <= k) (hy : (lim y).length <= k) : (lim (x + y)).length <= k + 1 := by
 have h1 := Bl (pK x) (Bd de hx);have h2 := Bl (pK y) (Bd de hy);refine jR ?_;rw [Bv];generalize 4294967296 ^ k = B at *;omega
theorem qJ {a b : Int} {k : Nat} (ha : (lim a.natAbs).length <= k) (hb : (lim b.natAbs).length <= k) : (lim (a - b).natAbs).length <= k + 1 := Au (qR (show (a - b).natAbs <= a.natAbs + b.natAbs by omega)) (yE0 ha hb)
theorem pL {a b : Int} {k : Nat} (ha : (lim a.natAbs).length <= k) (hb : (lim b.natAbs).length <= k) : (lim (a + b).natAbs).length <= k + 1 := Au (qR (show (a + b).natAbs <= a.natAbs + b.natAbs by omega)) (yE0 ha hb)
theorem gV0 (c : Int) : (c * jA c).natAbs = c.natAbs := by unfold jA;split <;> omega
theorem lim_sg (c : Int) : (lim (jA c).natAbs).length = 1 := by
 have : (jA c).natAbs = 1 := by unfold jA;split <;> decide
 rw [this,cR0];rfl
theorem kJ : (lim (1 : Int).natAbs).length = 1 := by rw [show (1 : Int).natAbs = 1 from rfl,cR0];rfl
def rgX (x : Int × Int × Int) : List D := rgD x.1 x.2.1 x.2.2
structure RgV (x : Int × Int × Int) : Prop where
 a : (lim x.1.natAbs).length <= 40
 b : (lim x.2.1.natAbs).length <= 40
 c : (lim x.2.2.natAbs).length <= 40
 c0 : x.2.2 ≠ 0
theorem RgV.cp {x : Int × Int × Int} (h : RgV x) : 0 < (lim x.2.2.natAbs).length := Cr.2 (fun e => by have := h.c0;rw [lim_nil] at e;omega)
theorem rgCheck_ok (L : List (Int × Int × Int)) (hv : ∀ k < L.length,RgV (L.getD k (0,0,0))) (hl : L.length <= 100) : Fx 157 [.sl false 6 L rgX (0,0,0)] (faD 0 0) := by
 refine yD zL Tryz.func157 rfl rfl rfl rfl rfl rfl ?_;intros;refine zJ 100 ?_;refine zB (zJ 200 ?_);refine zR ?_;refine yC (ι := {k : Nat // k <= L.length}) [2,5,6] [0] 250 (fun x => [(7,.v (.int .i64 x.1))]) (fun _ => []) (fun x => L.length - x.1) ⟨0,Ap _⟩ ?_;refine ⟨⟨yM,yH,rfl,rfl⟩,fun x => ?_⟩;have hk : x.1 <= L.length := x.2;refine zJ 300 ?_;refine zB (zW (fun c2 => ?_) (fun c2 => ?_))
 ·
  refine zM (zA (zB (zR ?_)));have hvk := hv x.1 c2;refine zJ 400 ?_;refine zB (zE zL [] 500 rfl ?_);refine zF ?_;refine zO _ (zZ0 _ _ _ (by simp only [Ad];exact hvk.a) (by simp only [Ad];exact hvk.b) (by simp only [Ad];exact hvk.c) (by simp only [Ad];exact hvk.cp)) rfl ?_;refine zF ?_;refine zC (zA (zW (fun c4 => ?_) (fun c4 => ?_)))
  ·
   exact absurd c4 de
  ·
   refine zM (zP (zA (yN zL [] 700 ?_)));exact zS (⟨x.1 + 1,by omega⟩) ⟨⟨u21 (by push_cast;rfl),yM⟩,yH,rfl,rfl⟩ (by show L.length - (x.1 + 1) < L.length - x.1;omega)
 ·
  refine yE (yA (yB (zX (zA (zJ 800 ?_)))));refine zK ?_;exact u4 rfl (u6 _)
theorem rgSign_ok (a b c : Int) : Fx 183 [.agg (rgD a b c)] (.agg (zV (jA c))) := by
 refine yD zL Tryz.func183 rfl rfl rfl rfl rfl rfl ?_;intros;refine zJ 100 ?_;refine zB (zJ 200 ?_);refine zW (fun c1 => ?_) (fun c1 => ?_)
 ·
  refine zB (zE zL [] 300 rfl ?_);refine zF ?_;refine zO _ (pQ (-1) de de) rfl ?_;refine zf (zA (zK (zN ?_)));exact u4 rfl (u9 (by rw [jA,Ab (by simpa using c1)];rfl))
 ·
  refine zM (zA ?_);refine zB (zE zL [] 400 rfl ?_);refine zF ?_;refine zO _ (pQ 1 de de) rfl ?_;refine zf (zA (zK ?_));exact u4 rfl (u9 (by rw [jA,Aa (by simpa using c1)];rfl))
theorem mN (a b : Int) (ha : (lim a.natAbs).length <= 128) (hb : (lim b.natAbs).length <= 128) (h0 : b ≠ 0) : Fx 121 [.agg (zV a),.agg (zV b)] (.tup [.agg (zV (Int.fdiv a b)),.agg (zV (Int.fmod a b))]) := by
 refine yD zL Tryz.func121 rfl rfl rfl rfl rfl rfl ?_;intros;refine zJ 100 ?_;refine zB (zE zL [] 200 rfl ?_);refine zF ?_;refine zO _ (intDivMod_ok a b ha hb h0) rfl ?_;refine zf (zA ?_);refine zB (zZ zL [] [[],[],[0],[0,1,2]] 300 yQ kr rfl ?_);refine zf (zA (zK ?_));exact u4 rfl (u6 _)
theorem kF (a b c : Int) (ha : (lim a.natAbs).length <= 40) (hb : (lim b.natAbs).length <= 40) (hc : (lim c.natAbs).length <= 40) (h0 : c ≠ 0) : Fx 125 [.agg (rgD a b c)] (.agg (zV (qF a b c))) := by
 have hsl : (lim (c * jA c).natAbs).length <= 40 := by rw [gV0];exact hc
 have hs0 : c * jA c ≠ 0 := fun h => by have := gV0 c;rw [h] at this;omega
 refine yD zL Tryz.func125 rfl rfl rfl rfl rfl rfl ?_;intros;refine zJ 100 ?_;refine zB (zZ zL [] [[],[0],[],[2],[],[4],[],[6],[4,5,6,7],[],[],[],[0,1,4,5,6,7,8,9,10,11],(rgN 13),(rgN 14)] 200 yQ kr rfl ?_);refine zF ?_;refine zO _ (rgSign_ok a b c) rfl ?_;refine zF ?_;refine zO _ (kA0 c (jA c) om (by rw [lim_sg];decide) om) rfl ?_;refine zF ?_;refine zC (zA (zB (zJ 300 ?_)));refine zW (fun c2 => ?_) (fun c2 => ?_)
 ·
  refine yN zL [] 400 ?_;refine zA (zB ?_);refine zB (zE zL [] 500 rfl ?_);refine zF ?_;refine zO _ (kD b a om om) rfl ?_;refine zF ?_;refine zC (zA (zW (fun c4 => ?_) (fun c4 => ?_)))
  ·
   refine zJ 600 ?_;refine zK (zN ?_);exact u4 rfl (u20 ⟨u9 (by rw [qF,Ab (by simpa using c2),Aa (by simpa using c4)];rfl),by rw [qF,Ab (by simpa using c2),Aa (by simpa using c4)];rw [show (0 : Int).natAbs = 0 from rfl,qI];exact u12 rfl,trivial⟩)
  ·
   refine zM (zA ?_);refine zB (zZ zL [] mK11 700 yQ kr rfl ?_);refine zF ?_;refine zO _ (wU a b om om (by have := qJ ha hb;omega)) rfl ?_;refine zF ?_;refine zO _ (pQ 1 de de) rfl ?_;refine zF ?_;refine zO _ (wU (c * jA c) 1 om (by rw [kJ];decide) (by have := qJ (k := 40) (a := (c * jA c)) (b := 1) om (by rw [kJ];decide);omega)) rfl ?_;refine zF ?_;refine zO _ (qG0 (a - b) ((c * jA c) - 1) (by have := qJ ha hb;omega) (by have := qJ (k := 40) (a := (c * jA c)) (b := 1) om (by rw [kJ];decide);omega) (by have := pL (qJ ha hb) (qJ (k := 40) (a := (c * jA c)) (b := 1) om (by rw [kJ];decide));omega)) rfl ?_;refine zF ?_;refine zO _ (mN (a - b + ((c * jA c) - 1)) (c * jA c) (by have := pL (qJ ha hb) (qJ (k := 40) (a := (c * jA c)) (b := 1) om (by rw [kJ];decide));omega) om hs0) rfl ?_;refine zF ?_;refine zC (zA (zJ 800 ?_));refine zK ?_;exact u4 rfl (u9 (by rw [qF,Ab (by simpa using c2),Ab (by simpa using c4)];rfl))
 ·
  refine zM (zA (zB ?_));refine zB (zE zL [] 500 rfl ?_);refine zF ?_;refine zO _ (kD a b om om) rfl ?_;refine zF ?_;refine zC (zA (zW (fun c4 => ?_) (fun c4 => ?_)))
  ·
   refine zJ 600 ?_;refine zK (zN ?_);exact u4 rfl (u20 ⟨u9 (by rw [qF,Aa (by simpa using c2),Aa (by simpa using c4)];rfl),by rw [qF,Aa (by simpa using c2),Aa (by simpa using c4)];rw [show (0 : Int).natAbs = 0 from rfl,qI];exact u12 rfl,trivial⟩)
  ·
   refine zM (zA ?_);refine zB (zZ zL [] mK11 700 yQ kr rfl ?_);refine zF ?_;refine zO _ (wU b a om om (by have := qJ hb ha;omega)) rfl ?_;refine zF ?_;refine zO _ (pQ 1 de de) rfl ?_;refine zF ?_;refine zO _ (wU (c * jA c) 1 om (by rw [kJ];decide) (by have := qJ (k := 40) (a := (c * jA c)) (b := 1) om (by rw [kJ];decide);omega)) rfl ?_;refine zF ?_;refine zO _ (qG0 (b - a) ((c * jA c) - 1) (by have := qJ hb ha;omega) (by have := qJ (k := 40) (a := (c * jA c)) (b := 1) om (by rw [kJ];decide);omega) (by have := pL (qJ hb ha) (qJ (k := 40) (a := (c * jA c)) (b := 1) om (by rw [kJ];decide));omega)) rfl ?_;refine zF ?_;refine zO _ (mN (b - a + ((c * jA c) - 1)) (c * jA c) (by have := pL (qJ hb ha) (qJ (k := 40) (a := (c * jA c)) (b := 1) om (by rw [kJ];decide));omega) om hs0) rfl ?_;refine zF ?_;refine zC (zA (zJ 800 ?_));refine zK ?_;exact u4 rfl (u9 (by rw [qF,Aa (by simpa using c2),Ab (by simpa using c4)];rfl))
end Go.Proofs.YtinegkcbkefeiaaGreatDoor
