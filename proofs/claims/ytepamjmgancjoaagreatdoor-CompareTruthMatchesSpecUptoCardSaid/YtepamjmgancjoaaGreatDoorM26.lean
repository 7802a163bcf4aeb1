/- Part 26 of the proof. -/
import Derived.Test.YtepamjmgancjoaaGreatDoorM25
import Derived.Test.YtepamjmgancjoaaGreatDoorM13
import Derived.Test.YtepamjmgancjoaaGreatDoorM24
namespace Go.Proofs.YtepamjmgancjoaaGreatDoor
open Go.RowKit
variable {md me : Bool}
theorem FnG.mw {P : Program} {f : FuncId} {k q i i' sz n n' : Nat} {r : List D} {own own' : List DOwn} {out : D} (h : FnG P f (.mw k q i sz n :: r) own out own') (h1 : i' = i) (h2 : n' = n) : FnG P f (.mw k q i' sz n' :: r) own out own' := by
 subst h1;subst h2;exact h
theorem limN_zero {q m X : Nat} (h : X < 4294967296 ^ m) : (limN q X).getD m 0 = 0 := by
 have h1 := VL_drop_one (limN q X) m;have h2 := VL_div (limN_Lg q X) m;have h3 : VL (limN q X) < 4294967296 ^ m := by
  rcases Nat.lt_or_ge X (4294967296 ^ q) with h4 | h4
  ·rw [V_limN h4];exact h
  ·have h5 := L_lt (limN_Lg q X);rw [limN_len] at h5;omega
 rw [Nat.div_eq_of_lt h3] at h2;omega
theorem set_self {l : List Nat} {i v : Nat} (h : l.getD i 0 = v) : l.set i v = l := by
 apply List.ext_getElem?;intro j;rw [List.getElem?_set];split
 ·rename_i e;subst e;split
  ·rename_i hl;rw [← h,List.getD_eq_getElem?_getD,List.getElem?_eq_getElem hl];rfl
  ·rename_i hl;rw [List.getElem?_eq_none (by omega)]
 ·rfl
theorem cut_rows {U : List Nat} {q n : Nat} (h : n ≤ q) : List.take (((n : Nat) : Int).toNat - Int.toNat 0) (List.drop (Int.toNat 0) (List.take q (List.drop 0 (MR.map U uD 0).rows))) = (U.take n).map uD := by
 show List.take (n - 0) (List.take q (U.map uD)) = _;rw [List.take_take,Nat.sub_zero,Nat.min_eq_left h,List.map_take]
def shN (b : Nat) : Nat := 32 - blN ((lim b).getD ((lim b).length - 1) 0)
theorem shN_facts {b : Nat} (h0 : 0 < (lim b).length) : shN b < 32 ∧ (lim (b * 2 ^ shN b)).length = (lim b).length ∧ 2147483648 * 4294967296 ^ ((lim b).length - 1) ≤ b * 2 ^ shN b := by
 obtain ⟨m,hm⟩ : ∃ m,(lim b).length = m + 1 := ⟨(lim b).length - 1,by omega⟩;have ht := lim_top (x := b) h0;have hl := qJ (yM b) ((lim b).length - 1);have hv := top_V (l := lim b) (n := m) hm;have hlow := L_lt (Lg.take (yM b) m);rw [List.length_take,Nat.min_eq_left (by omega)] at hlow;rw [L_dig] at hv;unfold shN;rw [hm,Nat.add_sub_cancel] at ht hl ⊢;obtain ⟨p1,p2⟩ := blN_pow (x := (lim b).getD m 0) (by omega) hl;have hb := blN_le ((lim b).getD m 0);generalize (lim b).getD m 0 = t at *;generalize blN t = k at *;generalize VL ((lim b).take m) = r at *;have hk : 0 < k := by
  rcases Nat.eq_zero_or_pos k with h | h
  ·subst h;rw [Nat.pow_zero] at p2;omega
  ·exact h
 have hP : 2 ^ k * 2 ^ (32 - k) = 4294967296 := by rw [← Nat.pow_add,show k + (32 - k) = 32 by omega]
 have hp0 : 0 < 2 ^ (32 - k) := Nat.pow_pos (by decide);have hB : 0 < 4294967296 ^ m := Nat.pow_pos (by decide);have u1 : b < 4294967296 ^ m * (t + 1) := by rw [Nat.mul_add];omega
 have u2 : b * 2 ^ (32 - k) < 4294967296 ^ (m + 1) := by
  have e1 : b * 2 ^ (32 - k) < 4294967296 ^ m * (t + 1) * 2 ^ (32 - k) := Nat.mul_lt_mul_of_pos_right u1 hp0;have e2 : (t + 1) * 2 ^ (32 - k) ≤ 2 ^ k * 2 ^ (32 - k) := Nat.mul_le_mul_right _ p2;rw [hP] at e2;have e3 : 4294967296 ^ m * ((t + 1) * 2 ^ (32 - k)) ≤ 4294967296 ^ m * 4294967296 := Nat.mul_le_mul_left _ e2;rw [Nat.mul_assoc] at e1;rw [Nat.pow_succ];omega
 have u3 : 2147483648 * 4294967296 ^ m ≤ b * 2 ^ (32 - k) := by
  have e1 : 4294967296 ^ m * t * 2 ^ (32 - k) ≤ b * 2 ^ (32 - k) := Nat.mul_le_mul_right _ (by omega);have e2 : 2 ^ k * 2 ^ (32 - k) ≤ 2 * t * 2 ^ (32 - k) := Nat.mul_le_mul_right _ p1;rw [hP,Nat.mul_assoc] at e2;have e3 : 4294967296 ^ m * 2147483648 ≤ 4294967296 ^ m * (t * 2 ^ (32 - k)) := Nat.mul_le_mul_left _ (by omega);rw [Nat.mul_assoc] at e1;rw [Nat.mul_comm];omega
 refine ⟨by omega,?_,u3⟩;have l1 := lim_length_le u2;have l2 := lim_len_mono (x := b) (y := b * 2 ^ (32 - k)) (Nat.le_mul_of_pos_right _ hp0);omega
theorem sn261 {P : Program} {K : DS → Prop} {p : Prop} {r : Out} (hr : r.sat P K) (hp : p := by first | exact trivial | omega | exact ⟨by decide,by omega,by simp only [List.length_take,List.length_drop,MR.len_rows,← hmU,Nat.sub_zero,Nat.min_self];omega⟩ | exact ini (by omega) (by omega) | exact ⟨hmo,by rw [← hmo];omega⟩ | exact ⟨hmo,by omega⟩ | (constructor <;> omega) | (refine ⟨?_,?_,?_⟩ <;> omega) | (refine ⟨?_,?_,?_,?_⟩ <;> omega) | first | exact trivial | omega | exact ini (by omega) (by omega) | (intro hh;simp at hh;exact ini (by omega) (by omega)) | (intro hh;simp at hh ⊢;omega) | (simp at *;omega) | (simp_all;done)) : (Out.need p r).sat P K := ⟨hp,hr⟩
theorem natDivide_ok (a b : Nat) (ha : (lim a).length ≤ 100000) (hn : 2 ≤ (lim b).length) (hle : (lim b).length ≤ (lim a).length) : Fn Tryz.prog 175 [usD (lim a),usD (lim b)] (.tup [usD (lim (a / b)),usD (lim (a % b))]) := by
 obtain ⟨hs,hsl,hst⟩ := shN_facts (b := b) (by omega);have hn1 : (((lim b).length : Int) - 1).toNat = (lim b).length - 1 := by omega
 have hsp : 2 ^ shN b ≤ 2147483648 := by have h := Nat.pow_le_pow_right (show 0 < 2 by decide) (show shN b ≤ 31 by omega);simpa using h
 have gv := yM (b * 2 ^ shN b);have hLa := lim_lt a;have hXl : (a * 2 ^ shN b) < 4294967296 ^ ((lim a).length + 1) := by rw [Nat.pow_succ];exact Nat.mul_lt_mul_of_lt_of_le hLa (by omega) (by decide)
 have hvt : 0 < (lim (b * 2 ^ shN b)).getD ((lim b).length - 1) 0 := by have := lim_top (x := (b * 2 ^ shN b)) (by omega);rw [hsl] at this;omega
 have htl := top_lt (a := a) (b := (b * 2 ^ shN b)) (s := shN b) (n := (lim b).length) (m := ((lim a).length + 1 - (lim b).length)) (L := (lim a).length) hLa (by omega) (by omega) hsp hst;have hml := lim_length_le hXl;refine yD tabT Tryz.func175 rfl rfl rfl rfl rfl rfl ?_;intro w0 s0 mx;refine zB (zE tabT [] 100 rfl ?_);repeat (first | refine zG ?_ | refine zH ?_ | refine sn261 ?_)
 refine zC (zA ?_);refine zB (zE tabT [] 200 rfl ?_);repeat (first | refine zG ?_ | refine zH ?_ | refine sn261 ?_)
 refine zC (zA ?_);refine zB (zE tabT [] 300 rfl ?_);repeat (first | refine zG ?_ | refine zH ?_ | refine sn261 ?_)
 refine zO _ (Lz32_ok _ (qJ (yM b) _)) rfl ?_;repeat (first | refine zG ?_ | refine zH ?_ | refine sn261 ?_)
 refine zC (zA ?_);refine yN [0,1,6] [] 310 [(7,.v (.int .i64 (shN b : Nat)))] [] ?_;refine ⟨⟨⟨Sub.int (by rw [hn1];rfl),le_t⟩,le_o,rfl,rfl⟩,?_⟩;refine zB (zE tabT [1025] 400 rfl ?_);repeat (first | refine zG ?_ | refine zH ?_ | refine sn261 ?_)
 refine zO _ (natLeft_ok b (shN b) (by omega) (by omega)) rfl ?_;repeat (first | refine zG ?_ | refine zH ?_ | refine sn261 ?_)
 refine sat_fnH _ _ (natLeft_G a (shN b) (by omega) hs) rfl ?_;repeat (first | refine zG ?_ | refine zH ?_ | refine sn261 ?_)
 refine zC (zA ?_);refine zB ?_;refine zM ?_;refine zX (ι := {m : Nat // (lim (a * 2 ^ shN b)).length ≤ m ∧ m ≤ ((lim a).length + 1)}) [0,6,7,8] [] 450 (fun x => [(9,.mw 315 ((lim a).length + 1) 0 1 x.1)]) (fun x => [(315,.mrow 104 1 (.map (limN ((lim a).length + 1) (a * 2 ^ shN b)) uD 0))]) (fun x => ((lim a).length + 1) - x.1) ⟨(lim (a * 2 ^ shN b)).length,Nat.le_refl _,hml⟩ ?_;refine ⟨⟨le_t,le_o,rfl,rfl⟩,fun x => ?_⟩;have hx1 := x.2.1;have hx2 := x.2.2;refine zB ?_;refine zB (zE tabT [] 500 rfl ?_);repeat (first | refine zG ?_ | refine zH ?_ | refine sn261 ?_)
 refine zC (zA ?_);refine zT (fun c4 => ?_) (fun c4 => ?_)
 ·
  refine zK (zA (zM ?_));refine zE tabT [] 600 rfl ?_;repeat (first | refine zG ?_ | refine zH ?_ | refine zR (by first | exact ⟨by rw [MR.len,limN_len],by omega⟩ | (rw [MR.len,limN_len]) | first | exact trivial | omega | exact ⟨by decide,by omega,by simp only [List.length_take,List.length_drop,MR.len_rows,← hmU,Nat.sub_zero,Nat.min_self];omega⟩ | exact ini (by omega) (by omega) | exact ⟨hmo,by rw [← hmo];omega⟩ | exact ⟨hmo,by omega⟩ | (constructor <;> omega) | (refine ⟨?_,?_,?_⟩ <;> omega) | (refine ⟨?_,?_,?_,?_⟩ <;> omega) | first | exact trivial | omega | exact ini (by omega) (by omega) | (intro hh;simp at hh;exact ini (by omega) (by omega)) | (intro hh;simp at hh ⊢;omega) | (simp at *;omega) | (simp_all;done)) ?_)
  refine zC (zJ ?_);exact zQ ⟨x.1 + 1,by omega,by omega⟩ ⟨⟨Sub.mw rfl rfl rfl,le_t⟩,⟨SubO.mr (by have hz : (a * 2 ^ shN b) < 4294967296 ^ x.1 := Nat.lt_of_lt_of_le (lim_lt _) (Nat.pow_le_pow_right (by decide) hx1);show (List.map uD (limN ((lim a).length + 1) (a * 2 ^ shN b))).set x.1 (uD 0) = List.map uD (limN ((lim a).length + 1) (a * 2 ^ shN b));rw [← List.map_set,set_self (limN_zero hz)]),le_o⟩,rfl,rfl⟩ (by show ((lim a).length + 1) - (x.1 + 1) < ((lim a).length + 1) - x.1;omega)
 ·
  refine yB (zU (zW (zS (zA ?_))));refine yN [6,7,8] [] 510 [(9,.mw 315 ((lim a).length + 1) 0 1 ((lim a).length + 1))] [(315,.mrow 104 1 (.map (limN ((lim a).length + 1) (a * 2 ^ shN b)) uD 0))] ?_;refine ⟨⟨⟨Sub.mw rfl rfl (by have := x.2.2;omega),le_t⟩,le_o,rfl,rfl⟩,?_⟩;refine zB (zE tabT [1038] 700 rfl ?_);repeat (first | refine zG ?_ | refine zH ?_ | refine sn261 ?_)
  refine zC (zA ?_);refine yN [6,7,8,9] [315] 710 [(10,.mo 514 ((lim a).length + 1 - (lim b).length))] [(514,.mrow 104 1 (.map (List.replicate ((lim a).length + 1 - (lim b).length) 0) uD 0))] ?_;refine ⟨⟨⟨Sub.mo (by omega),le_t⟩,⟨SubO.mr (by rw [zrows];congr 3;omega),le_o⟩,rfl,rfl⟩,?_⟩;refine zB ?_;refine zB (zE tabT [] 800 rfl ?_);repeat (first | refine zG ?_ | refine zH ?_ | refine sn261 ?_)
  refine zC (zA (zM ?_));refine zX (ι := DvL (limN ((lim a).length + 1) (a * 2 ^ shN b)) (lim (b * 2 ^ shN b)) ((lim a).length + 1 - (lim b).length) (lim b).length) [6,7,8,9,10] [] 850 (fun y => [(11,.v (.int .i64 ((y.k : Int) - 1)))]) (fun y => [(315,.mrow 104 1 (.map y.U uD 0)),(514,.mrow 104 1 (.map y.o uD 0))]) (fun y => y.k) (DvL.start (by rw [limN_len];omega) (limN_Lg _ _) (by rw [L_dig];exact htl)) ?_;refine ⟨⟨⟨Sub.int (by show _ = ((((lim a).length + 1 - (lim b).length) : Nat) : Int) - 1;omega),le_t⟩,le_o,rfl,rfl⟩,fun y => ?_⟩;have hyk := y.le;have hyU := y.hU;have hyo := y.ho;have hkt : ((y.k : Int) - 1).toNat = y.k - 1 := by omega
  have hmo : ((lim a).length + 1 - (lim b).length) = (MR.map y.o uD 0).len := by rw [MR.len,hyo]
  have hmU : ((lim a).length + 1) = (MR.map y.U uD 0).len := by rw [MR.len,hyU];omega
  refine zB ?_;refine zB (zE tabT [] 900 rfl ?_);repeat (first | refine zG ?_ | refine zH ?_ | refine sn261 ?_)
  refine zC (zA ?_);refine zT (fun c8 => ?_) (fun c8 => ?_)
  ·
   refine zK (zA ?_);refine zB ?_;refine zM ?_;refine zE tabT [1058] 1100 rfl ?_;repeat (first | refine zG ?_ | refine zH ?_ | refine sn261 ?_)
   refine sat_fnH _ _ ((natDigit_G y.U (lim (b * 2 ^ shN b)) ((lim a).length + 1) (y.k - 1) (lim b).length (by rw [y.hU];omega) (by omega) hsl hn y.gU gv hvt (y.facts gv hsl (by omega)).2.1 (by omega)).mw (by omega) (by omega)) rfl ?_;repeat (first | refine zG ?_ | refine zH ?_ | refine sn261 ?_)
   refine zC (zJ (zA ?_));refine zE tabT [] 1200 rfl ?_;repeat (first | refine zG ?_ | refine zH ?_ | refine sn261 ?_)
   refine zC ?_;exact zQ (y.next gv hsl (by omega)) ⟨⟨Sub.int (by show (y.k : Int) - 1 - 1 = ((y.k - 1 : Nat) : Int) - 1;omega),le_t⟩,⟨SubO.mr (by show List.map uD (wnC y.U (y.k - 1) _) = List.map uD y.R;rw [wnC_drop (n := (lim b).length) (by omega) (limN_len _ _)];rfl),SubO.mr (by rw [hkt];exact set_rows _ _ _),le_o⟩,rfl,rfl⟩ (by show y.k - 1 < y.k;omega)
  ·
   refine yB (zU (zW (zS (zA ?_))));refine ev_freeze 514 rfl (by repeat (first | exact trivial | exact hmo | exact ⟨hmU,rfl⟩ | refine ⟨?_,?_⟩)) (by repeat (first | exact trivial | refine ⟨?_,?_⟩)) ?_;refine ev_freeze 315 rfl (by repeat (first | exact trivial | exact hmo | exact ⟨hmU,rfl⟩ | refine ⟨?_,?_⟩)) (by repeat (first | exact trivial | refine ⟨?_,?_⟩)) ?_;refine zB (zZ tabT [] [[],[0],[],[],[2,3],[0,1,2,3,4],[],[0,1,2,3,4,5,6],[0,1,2,3,4,5,6,7],[0,1,2,3,4,5,6,7,8]] 1200 mixT (by kernel_rfl) rfl ?_);repeat (first | refine zG ?_ | refine zH ?_ | refine sn261 ?_)
   refine zO _ ((qN y.o y.go (by omega)).args ⟨SubP.ownSl rfl,trivial⟩) rfl ?_;repeat (first | refine zG ?_ | refine zH ?_ | refine sn261 ?_)
   refine zO _ ((qN (y.U.take (lim b).length) (y.gU.take _) (by rw [List.length_take];omega)).args ⟨SubP.slrSl (cut_rows (by omega)),trivial⟩) rfl ?_;repeat (first | refine zG ?_ | refine zH ?_ | refine sn261 ?_)
   refine zO _ (natRight_ok _ (shN b) (by refine Nat.le_trans (lim_length_le (L_lt (y.gU.take _))) (by rw [List.length_take];omega)) (by omega)) rfl ?_;repeat (first | refine zG ?_ | refine zH ?_ | refine sn261 ?_)
   refine zC (zA (zL ?_));obtain ⟨e1,e2⟩ := y.fin (by omega) gv hsl;rw [V_limN hXl,L_dig] at e1 e2;rw [sh_div] at e1;exact FinV.ret rfl (SubP.tup ⟨SubP.of_eq (by rw [e1]),SubP.of_eq (by rw [e2,sh_mod]),trivial⟩)
theorem floor_unique {x y q r : Int} (h : r + y * q = x) (hr : (0 < y ∧ 0 ≤ r ∧ r < y) ∨ (y < 0 ∧ r ≤ 0 ∧ y < r)) : Int.fdiv x y = q := by
 rcases hr with ⟨h0,h1,h2⟩ | ⟨h0,h1,h2⟩
 ·rw [Int.fdiv_eq_ediv_of_nonneg _ (by omega)];exact ((Int.ediv_emod_unique h0).2 ⟨h,h1,h2⟩).1
 ·have e : Int.fdiv x y = Int.fdiv (-x) (-y) := by simp
  rw [e,Int.fdiv_eq_ediv_of_nonneg _ (by omega)];refine ((Int.ediv_emod_unique (r := -r) (by omega)).2 ⟨?_,by omega,by omega⟩).1;rw [Int.neg_mul];omega
variable {md me : Bool}
theorem one_limb {b : Nat} (h : (lim b).length = 1) : (lim b).getD 0 0 = b := by
 have h1 := top_V (l := lim b) (n := 0) h;rw [L_dig,Nat.pow_zero,Nat.one_mul] at h1;simpa [VL] using h1.symm
theorem lim_one_r (r : Nat) : VL [r] = r := by rw [L_cons,L_nil];rfl
theorem sn262 {P : Program} {K : DS → Prop} {p : Prop} {r : Out} (hr : r.sat P K) (hp : p := by first | exact ⟨by decide,by show 0 < _;omega⟩ | first | exact trivial | omega | exact ini (by omega) (by omega) | (intro hh;simp at hh;exact ini (by omega) (by omega)) | (intro hh;simp at hh ⊢;omega) | (simp at *;omega) | (simp_all;done)) : (Out.need p r).sat P K := ⟨hp,hr⟩
theorem natDivMod0_ok (a b : Nat) (ha : (lim a).length ≤ 100000) (hb : (lim b).length ≤ 100000) (h0 : 0 < b) : Fn Tryz.prog 161 [usD (lim a),usD (lim b)] (.tup [usD (lim (a / b)),usD (lim (a % b))]) := by
 have hneg := cmpL_neg a b;have hbp : 0 < (lim b).length := List.length_pos_iff.2 (fun h => by rw [lim_nil] at h;omega);refine yD tabT Tryz.func161 rfl rfl rfl rfl rfl rfl ?_;intro w0 s0 mx;refine ev_R tabT [] 100 ?_;refine zB ?_;refine zB (zE tabT [] 200 rfl ?_);refine zF ?_;refine zO _ (natCompare_ok a b (by omega) (by omega)) rfl ?_;refine zF ?_;refine zC (zA ?_);refine zT (fun c1 => ?_) (fun c1 => ?_)
 ·
  refine zB (zE tabT [13] 300 rfl ?_);refine zF ?_;refine sat_fnO _ _ _ (CloneU_ok (lim a) (by omega)) ?_;refine zF ?_;refine zC (zA (zL (zN ?_)));exact FinV.ret rfl (SubP.tup ⟨by rw [Nat.div_eq_of_lt (hneg.1 (by omega)),yW];exact SubP.nilSl rfl,SubP.ownSl (by rw [Nat.mod_eq_of_lt (hneg.1 (by omega))]),trivial⟩)
 ·
  refine zK (zA ?_);refine zB ?_;refine ev_R tabT [] 400 ?_;refine zT (fun c3 => ?_) (fun c3 => ?_)
  ·
   refine zB (zE tabT [] 500 rfl ?_);repeat (first | refine zG ?_ | refine zH ?_ | refine sn262 ?_)
   refine zO _ (natShort_ok a ((lim b).getD 0 0) (by omega) (by have e := one_limb (b := b) (by omega);omega) (qJ (yM b) _)) rfl ?_;repeat (first | refine zG ?_ | refine zH ?_ | refine sn262 ?_)
   refine zC (zA ?_);refine zB (zE tabT [] 600 rfl ?_);refine zF ?_;refine zO _ ((qN [a % (lim b).getD 0 0] (fun x hx => by have e := List.mem_singleton.1 hx;subst e;exact Nat.lt_of_lt_of_le (Nat.mod_lt _ (by have e := one_limb (b := b) (by omega);omega)) (Nat.le_of_lt (qJ (yM b) _))) (by show 1 ≤ 100000000;omega)).args ⟨SubP.slrSl rfl,trivial⟩) rfl ?_;refine zF ?_;refine zC (zA (zL (zN ?_)));have e := one_limb (b := b) (by omega);exact FinV.ret rfl (SubP.tup ⟨SubP.of_eq (by rw [e]),SubP.of_eq (by rw [e,lim_one_r]),trivial⟩)
  ·
   refine zK (zA ?_);refine zB (zE tabT [] 700 rfl ?_);refine zF ?_;refine zO _ (natDivide_ok a b (by omega) (by omega) (lim_len_mono (by omega))) rfl ?_;refine zF ?_;refine zC (zA (zL ?_));exact FinV.ret rfl (SubP.refl _)
theorem natDivMod_ok (a b : Nat) (ha : (lim a).length ≤ 600) (hb : (lim b).length ≤ 600) (h0 : 0 < b) : Fn Tryz.prog 139 [usD (lim a),usD (lim b)] (.tup [usD (lim (a / b)),usD (lim (a % b)),faD 0 0]) := by
 have hbp : 0 < (lim b).length := List.length_pos_iff.2 (fun h => by rw [lim_nil] at h;omega);refine yD tabT Tryz.func139 rfl rfl rfl rfl rfl rfl ?_;intro w0 s0 mx;refine ev_R tabT [] 100 ?_;refine zB ?_;refine zB (zE tabT [] 200 rfl ?_);refine zF ?_;refine zO _ (natCheck_ok a b ha hb) rfl ?_;refine zF ?_;refine zC (zA ?_);refine ev_R tabT [] 300 ?_;refine zT (fun c2 => ?_) (fun c2 => ?_)
 ·
  exact absurd c2 (by decide)
 ·
  refine zK (zA ?_);refine zB ?_;refine ev_R tabT [] 500 ?_;refine zT (fun c4 => ?_) (fun c4 => ?_)
  ·
   exact absurd c4 (by omega)
  ·
   refine zK (zA ?_);refine zB (zE tabT [] 700 rfl ?_);refine zF ?_;refine zO _ (natDivMod0_ok a b (by omega) (by omega) h0) rfl ?_;refine zF ?_;refine zC (zA ?_);refine ev_R tabT [] 800 ?_;refine zL ?_;exact FinV.ret rfl (SubP.refl _)
def dmQ (s t : Bool) (x y : Nat) : Nat := if s ≠ t ∧ 0 < x % y then x / y + 1 else x / y
def dmR (s t : Bool) (x y : Nat) : Nat := if s ≠ t ∧ 0 < x % y then y - x % y else x % y
theorem dm_Z {s t : Bool} {x y : Nat} (hy : 0 < y) : ZI (s != t) (dmQ s t x y) = Int.fdiv (ZI s x) (ZI t y) ∧ ZI t (dmR s t x y) = Int.fmod (ZI s x) (ZI t y) := by
 have hm := Nat.mod_lt x hy;have hd := Nat.div_add_mod x y;have key : ∀ q r : Int,r + ZI t y * q = ZI s x → ((0 < ZI t y ∧ 0 ≤ r ∧ r < ZI t y) ∨ (ZI t y < 0 ∧ r ≤ 0 ∧ ZI t y < r)) → q = Int.fdiv (ZI s x) (ZI t y) ∧ r = Int.fmod (ZI s x) (ZI t y) := by
  intro q r h1 h2;have h3 := floor_unique h1 h2;refine ⟨h3.symm,?_⟩;have h4 := Int.mul_fdiv_add_fmod (ZI s x) (ZI t y);rw [h3] at h4;omega
 refine key _ _ ?_ ?_
 ·unfold dmQ dmR;generalize x % y = r at *;generalize x / y = q at *;have hq : (y : Int) * ((q : Nat) : Int) + (r : Int) = (x : Int) := by rw [← Int.natCast_mul,← Int.natCast_add,hd]
  cases s <;> cases t <;> unfold ZI <;> simp only [ne_eq,not_true_eq_false,false_and,if_false,not_false_eq_true,true_and,reduceCtorEq,if_true,Bool.false_eq_true,bne_self_eq_false,show (false != true) = true from rfl,show (true != false) = true from rfl]
  ·omega
  ·by_cases hr : 0 < r
   ·rw [if_pos hr,if_pos hr]
    push_cast
    simp only [Int.neg_mul,Int.mul_neg,Int.neg_neg,Int.mul_add,Int.mul_one];omega
   ·rw [if_neg hr,if_neg hr];simp only [Int.neg_mul,Int.mul_neg,Int.neg_neg];omega
  ·by_cases hr : 0 < r
   ·rw [if_pos hr,if_pos hr]
    push_cast
    simp only [Int.neg_mul,Int.mul_neg,Int.neg_neg,Int.mul_add,Int.mul_one];omega
   ·rw [if_neg hr,if_neg hr];simp only [Int.neg_mul,Int.mul_neg,Int.neg_neg];omega
  ·simp only [Int.neg_mul,Int.mul_neg,Int.neg_neg];omega
 ·unfold dmR;generalize x % y = r at *
  cases s <;> cases t <;> unfold ZI <;> simp only [ne_eq,not_true_eq_false,false_and,if_false,not_false_eq_true,true_and,reduceCtorEq,if_true,Bool.false_eq_true,bne_self_eq_false,show (false != true) = true from rfl,show (true != false) = true from rfl]
  ·omega
  ·by_cases hr : 0 < r
   ·rw [if_pos hr];omega
   ·rw [if_neg hr];omega
  ·by_cases hr : 0 < r
   ·rw [if_pos hr];omega
   ·rw [if_neg hr];omega
  ·omega
theorem dmQ_le {s t : Bool} {x y : Nat} (hy : 0 < y) : dmQ s t x y ≤ x := by
 unfold dmQ;have h1 := Nat.div_add_mod x y;have h2 := Nat.mod_lt x hy;split
 ·rename_i h;have h3 : 1 < y := by omega
  rcases Nat.eq_zero_or_pos (x / y) with h4 | h4
  ·omega
  ·have h5 : 2 * (x / y) ≤ y * (x / y) := Nat.mul_le_mul_right _ h3;omega
 ·exact Nat.div_le_self _ _
theorem dmR_lt {s t : Bool} {x y : Nat} (hy : 0 < y) : dmR s t x y ≤ y := by
 unfold dmR;have h2 := Nat.mod_lt x hy;split <;> omega
variable {md me : Bool}
theorem lim_1 : lim 1 = [1] := by rw [lim_pos (by decide),show 1 / 4294967296 = 0 by decide,yW]
theorem intSigned_z (b : Bool) (n : Nat) (h : (lim n).length ≤ 128) : Fn Tryz.prog 137 [.v (.bool b),usD (lim n)] (.tup [.agg (zV (ZI b n)),faD 0 0]) := by
 have := intSigned_ok b (lim n);rw [sg_z h] at this;exact this
theorem len_posL {n : Nat} (h : 0 < ((lim n).length : Int)) : 0 < n := by
 rcases Nat.eq_zero_or_pos n with h0 | h0
 ·subst h0;rw [yW] at h;exact absurd h (by decide)
 ·exact h0
theorem len_nposL {n : Nat} (h : ¬ 0 < ((lim n).length : Int)) : n = 0 := by
 rcases Nat.eq_zero_or_pos n with h0 | h0
 ·exact h0
 ·have : (lim n) ≠ [] := fun e => by rw [lim_nil] at e;omega
  have := List.length_pos_iff.2 this;omega
theorem dm_T {s t : Bool} {x y : Nat} (h : (s != t) = true ∧ 0 < ((lim (x % y)).length : Int)) : dmQ s t x y = x / y + 1 ∧ dmR s t x y = y - x % y := by
 have h1 : s ≠ t := by simpa using h.1
 have h2 := len_posL h.2;exact ⟨by rw [dmQ,if_pos ⟨h1,h2⟩],by rw [dmR,if_pos ⟨h1,h2⟩]⟩
theorem dm_F {s t : Bool} {x y : Nat} (h : ((s != t) && decide (0 < ((lim (x % y)).length : Int))) = false) : dmQ s t x y = x / y ∧ dmR s t x y = x % y := by
 have h1 : ¬ (s ≠ t ∧ 0 < x % y) := by
  rintro ⟨h1,h2⟩;have h3 : (s != t) = true := by simpa using h1
  rw [h3,Bool.true_and,decide_eq_false_iff_not] at h;have := len_nposL h;omega
 exact ⟨by rw [dmQ,if_neg h1],by rw [dmR,if_neg h1]⟩
theorem lim_le128 {x y : Nat} (h : x ≤ y) (hy : (lim y).length ≤ 128) : (lim x).length ≤ 128 := Nat.le_trans (lim_len_mono h) hy
theorem intDivMod_ok (a b : Int) (ha : (lim a.natAbs).length ≤ 128) (hb : (lim b.natAbs).length ≤ 128) (h0 : b ≠ 0) : Fn Tryz.prog 112 [.agg (zV a),.agg (zV b)] (.tup [.agg (zV (Int.fdiv a b)),.agg (zV (Int.fmod a b)),faD 0 0]) := by
 have hy : 0 < b.natAbs := by omega
 obtain ⟨d1,d2⟩ := dm_Z (s := (decide (a < 0))) (t := (decide (b < 0))) (x := a.natAbs) hy;rw [ZI_of,ZI_of] at d1 d2;have hQ : a.natAbs / b.natAbs ≤ a.natAbs := Nat.div_le_self _ _;have hR : a.natAbs % b.natAbs ≤ b.natAbs := Nat.le_of_lt (Nat.mod_lt _ hy);refine yD tabT Tryz.func112 rfl rfl rfl rfl rfl rfl ?_;intro w0 s0 mx;refine ev_R tabT [] 100 ?_;refine zB ?_;refine zB (zE tabT [] 200 rfl ?_);refine zF ?_;refine zO _ ((intCheck_ok [(decide (a < 0),lim a.natAbs),(decide (b < 0),lim b.natAbs)] (zOks ha hb) (by show 2 ≤ 100;omega)).args ⟨SubP.slrSl rfl,trivial⟩) rfl ?_;refine zF ?_;refine zC (zA ?_);refine ev_R tabT [] 300 ?_;refine zT (fun c2 => ?_) (fun c2 => ?_)
 ·
  exact absurd c2 (by decide)
 ·
  refine zK (zA ?_);refine zB (zE tabT [] 500 rfl ?_);refine zF ?_;refine zO _ (natDivMod_ok a.natAbs b.natAbs (by omega) (by omega) hy) rfl ?_;refine zF ?_;refine zC (zA ?_);refine zB ?_;refine ev_R tabT [] 600 ?_;refine zT (fun c5 => ?_) (fun c5 => ?_)
  ·
   exact absurd c5 (by decide)
  ·
   refine zK (zA ?_);refine zB ?_;refine ev_R tabT [] 800 ?_;refine zT (fun c7 => ?_) (fun c7 => ?_)
   ·
    obtain ⟨hqe,hre⟩ := dm_T c7;refine zB (zE tabT [] 900 rfl ?_);refine zF ?_;refine zO _ ((natAdd_ok _ 1 (by have := lim_le128 hQ ha;omega) (by rw [lim_1];decide) (by have := lim_le128 (x := a.natAbs / b.natAbs + 1) (by rw [← hqe];exact dmQ_le hy) ha;omega)).args ⟨SubP.refl _,SubP.slrSl (by rw [lim_1];rfl),trivial⟩) rfl ?_;refine zF ?_;refine zC (zA ?_);refine zE tabT [] 1000 rfl ?_;refine zF ?_;refine zO _ (natSub_ok _ _ (by omega) (by have := lim_le128 hR hb;omega) hR) rfl ?_;refine zF ?_;refine zC (zA ?_);refine zB (zE tabT [] 1100 rfl ?_);refine zF ?_;refine zO _ (intSigned_z _ (a.natAbs / b.natAbs + 1) (lim_le128 (by first | exact hQ | (rw [← hqe];exact dmQ_le hy)) ha)) rfl ?_;refine zF ?_;refine zC (zA ?_);refine zB ?_;refine ev_R tabT [] 1200 ?_;refine zT (fun c11 => ?_) (fun c11 => ?_)
    ·
     exact absurd c11 (by decide)
    ·
     refine zK (zA ?_);refine zB (zE tabT [] 1400 rfl ?_);refine zF ?_;refine zO _ (intSigned_z _ (b.natAbs - a.natAbs % b.natAbs) (lim_le128 (by first | exact hR | (rw [← hre];exact dmR_lt hy)) hb)) rfl ?_;refine zF ?_;refine zC (zA ?_);refine zB (zZ tabT [] [[],[],[],[0],[0,1,3],[0,1,2,3,4]] 1500 mixT (by kernel_rfl) rfl ?_);refine zF ?_;refine zC (zA (zL ?_));exact FinV.ret rfl (SubP.tup ⟨SubP.of_eq (by rw [← hqe];exact congrArg (fun z => D.agg (zV z)) d1),SubP.of_eq (by rw [← hre];exact congrArg (fun z => D.agg (zV z)) d2),SubP.refl _,trivial⟩)
   ·
    refine zK (zA ?_);refine zB (zE tabT [] 1100 rfl ?_);refine zF ?_;refine zO _ (intSigned_z _ (a.natAbs / b.natAbs) (lim_le128 (by first | exact hQ | (rw [← hqe];exact dmQ_le hy)) ha)) rfl ?_;refine zF ?_;refine zC (zA ?_);refine zB ?_;refine ev_R tabT [] 1200 ?_;refine zT (fun c11 => ?_) (fun c11 => ?_)
    ·
     exact absurd c11 (by decide)
    ·
     refine zK (zA ?_);refine zB (zE tabT [] 1400 rfl ?_);refine zF ?_;refine zO _ (intSigned_z _ (a.natAbs % b.natAbs) (lim_le128 (by first | exact hR | (rw [← hre];exact dmR_lt hy)) hb)) rfl ?_;refine zF ?_;refine zC (zA ?_);refine zB (zZ tabT [] [[],[],[],[0],[0,1,3],[0,1,2,3,4]] 1500 mixT (by kernel_rfl) rfl ?_);refine zF ?_;refine zC (zA (zL ?_));obtain ⟨hqe,hre⟩ := dm_F c7;exact FinV.ret rfl (SubP.tup ⟨SubP.of_eq (by rw [← hqe];exact congrArg (fun z => D.agg (zV z)) d1),SubP.of_eq (by rw [← hre];exact congrArg (fun z => D.agg (zV z)) d2),SubP.refl _,trivial⟩)
theorem of_negu {n : Int} (h1 : -9223372036854775808 ≤ n) (h : n < 0) : IntKind.u64.wrap (0 - IntKind.u64.wrap n) = ((n.natAbs : Nat) : Int) := by
 simp only [IntKind.wrap,IntKind.signed,IntKind.bits,Bool.false_and,Bool.false_eq_true,if_false];omega
theorem of_posu {n : Int} (h2 : n ≤ 9223372036854775807) (h : ¬ n < 0) : IntKind.u64.wrap n = ((n.natAbs : Nat) : Int) := by
 simp only [IntKind.wrap,IntKind.signed,IntKind.bits,Bool.false_and,Bool.false_eq_true,if_false];omega
theorem of_Lg {m : Nat} (h : m < 18446744073709551616) : Lg [m % 4294967296,m / 4294967296] := fun x hx => by
 rcases List.mem_cons.1 hx with rfl | hx
 ·exact Nat.mod_lt _ (by decide)
 ·rw [List.mem_singleton] at hx;subst hx;omega
theorem of_V (m : Nat) : VL [m % 4294967296,m / 4294967296] = m := by rw [L_cons,L_cons,L_nil];omega
theorem of_rows {e : Int} {m : Nat} (h : e = (m : Int)) (hm : m < 18446744073709551616) : [[D.v (.int .u32 (IntKind.u32.wrap e))],[D.v (.int .u32 (IntKind.u32.wrap (Int.fdiv e (2 ^ min (Int.toNat 32) IntKind.u64.bits))))]] = [m % 4294967296,m / 4294967296].map uD := by
 rw [lo32 h,hi32 h,w32n (by omega)];rfl
theorem intOf_ok (n : Int) (h1 : -9223372036854775808 ≤ n) (h2 : n ≤ 9223372036854775807) : Fn Tryz.prog 84 [.v (.int .i64 n)] (.agg (zV n)) := by
 have hm : n.natAbs < 18446744073709551616 := by omega
 refine yD tabT Tryz.func84 rfl rfl rfl rfl rfl rfl ?_;intro w0 s0 mx;refine ev_R tabT [] 100 ?_;refine ev_R tabT [] 200 ?_;refine zB ?_;refine ev_R tabT [] 300 ?_;refine zT (fun c2 => ?_) (fun c2 => ?_)
 ·
  refine ev_Q tabT [] 400 ?_;refine zA ?_;refine yN [0,2] [0] 410 [(3,.v (.int .u64 (n.natAbs : Nat)))] [] ?_;refine ⟨⟨⟨by first | exact Sub.int (of_negu h1 c2) | exact Sub.int (of_posu h2 (by omega)),le_t⟩,le_o,rfl,rfl⟩,?_⟩;refine ev_R tabT [] 500 ?_;refine zB ?_;refine zM ?_;refine zX (ι := TrmL [n.natAbs % 4294967296,n.natAbs / 4294967296]) [0,2] [0] 550 (fun x => [(4,.sl false 1 x.r uD 0)]) (fun _ => []) (fun x => x.r.length) ⟨[n.natAbs % 4294967296,n.natAbs / 4294967296],of_Lg hm,rfl,Nat.le_refl _⟩ ?_;refine ⟨⟨⟨Sub.slrSl (of_rows rfl hm),le_t⟩,le_o,rfl,rfl⟩,fun x => ?_⟩;have hk : x.r.length ≤ 2 := x.le;refine zB ?_;refine ev_R tabT [] 600 ?_;refine zT (fun c5 => ?_) (fun c5 => ?_)
  ·
   refine zK (zA (zM ?_));refine ev_Q tabT [] 700 ?_;refine zJ ?_;have h9 := c5.2;rw [t_last] at h9;exact zQ (x.next (by omega) (by omega)) ⟨(by first | exact trivial | (repeat (first | exact trivial | exact Sub.refl _ | refine ⟨?_,?_⟩ | exact Sub.int (by first | rfl | omega | (push_cast;omega)) | exact Sub.nilSl | exact Sub.own rfl | exact Sub.slrSl rfl | exact Sub.ownSl (List.map_append).symm | exact Sub.ownSl rfl | exact Sub.of_eq (by rw [t_cut];rfl)))),le_o,rfl,rfl⟩ (by show (x.r.take (x.r.length - 1)).length < x.r.length;rw [List.length_take];omega)
  ·
   refine yB (zU (zW (zS (zA ?_))));refine ev_R tabT [] 800 ?_;refine zL ?_;rw [t_last] at c5;have e : x.r = lim (VL [n.natAbs % 4294967296,n.natAbs / 4294967296]) := x.fin (fun hp h9 => by rw [h9,decide_eq_true (show (0 : Int) < (x.r.length : Nat) by omega)] at c5;exact absurd c5 (by decide));rw [of_V] at e;exact FinV.ret rfl (SubP.agg ⟨SubP.refl _,SubP.of_eq (by rw [e];rfl),trivial⟩)
 ·
  refine zK (zA ?_);refine yN [0,2] [0] 310 [(3,.v (.int .u64 (n.natAbs : Nat)))] [] ?_;refine ⟨⟨⟨by first | exact Sub.int (of_negu h1 c2) | exact Sub.int (of_posu h2 (by omega)),le_t⟩,le_o,rfl,rfl⟩,?_⟩;refine ev_R tabT [] 500 ?_;refine zB ?_;refine zM ?_;refine zX (ι := TrmL [n.natAbs % 4294967296,n.natAbs / 4294967296]) [0,2] [0] 550 (fun x => [(4,.sl false 1 x.r uD 0)]) (fun _ => []) (fun x => x.r.length) ⟨[n.natAbs % 4294967296,n.natAbs / 4294967296],of_Lg hm,rfl,Nat.le_refl _⟩ ?_;refine ⟨⟨⟨Sub.slrSl (of_rows rfl hm),le_t⟩,le_o,rfl,rfl⟩,fun x => ?_⟩;have hk : x.r.length ≤ 2 := x.le;refine zB ?_;refine ev_R tabT [] 600 ?_;refine zT (fun c5 => ?_) (fun c5 => ?_)
  ·
   refine zK (zA (zM ?_));refine ev_Q tabT [] 700 ?_;refine zJ ?_;have h9 := c5.2;rw [t_last] at h9;exact zQ (x.next (by omega) (by omega)) ⟨(by first | exact trivial | (repeat (first | exact trivial | exact Sub.refl _ | refine ⟨?_,?_⟩ | exact Sub.int (by first | rfl | omega | (push_cast;omega)) | exact Sub.nilSl | exact Sub.own rfl | exact Sub.slrSl rfl | exact Sub.ownSl (List.map_append).symm | exact Sub.ownSl rfl | exact Sub.of_eq (by rw [t_cut];rfl)))),le_o,rfl,rfl⟩ (by show (x.r.take (x.r.length - 1)).length < x.r.length;rw [List.length_take];omega)
  ·
   refine yB (zU (zW (zS (zA ?_))));refine ev_R tabT [] 800 ?_;refine zL ?_;rw [t_last] at c5;have e : x.r = lim (VL [n.natAbs % 4294967296,n.natAbs / 4294967296]) := x.fin (fun hp h9 => by rw [h9,decide_eq_true (show (0 : Int) < (x.r.length : Nat) by omega)] at c5;exact absurd c5 (by decide));rw [of_V] at e;exact FinV.ret rfl (SubP.agg ⟨SubP.refl _,SubP.of_eq (by rw [e];rfl),trivial⟩)
def sgnI (c : Int) : Int := if c < 0 then -1 else 1
def rlen (a b c : Int) : Int := if c < 0 then (if b < a then Int.fdiv (a - b + (c * sgnI c - 1)) (c * sgnI c) else 0) else (if a < b then Int.fdiv (b - a + (c * sgnI c - 1)) (c * sgnI c) else 0)
theorem lim_add_le {x y k : Nat} (hx : (lim x).length ≤ k) (hy : (lim y).length ≤ k) : (lim (x + y)).length ≤ k + 1 := by
 have h1 := Nat.lt_of_lt_of_le (lim_lt x) (Nat.pow_le_pow_right (by decide) hx);have h2 := Nat.lt_of_lt_of_le (lim_lt y) (Nat.pow_le_pow_right (by decide) hy);refine lim_length_le ?_;rw [Nat.pow_succ];generalize 4294967296 ^ k = B at *;omega
theorem qM {a b : Int} {k : Nat} (ha : (lim a.natAbs).length ≤ k) (hb : (lim b.natAbs).length ≤ k) : (lim (a - b).natAbs).length ≤ k + 1 := Nat.le_trans (lim_len_mono (show (a - b).natAbs ≤ a.natAbs + b.natAbs by omega)) (lim_add_le ha hb)
theorem lim_addI {a b : Int} {k : Nat} (ha : (lim a.natAbs).length ≤ k) (hb : (lim b.natAbs).length ≤ k) : (lim (a + b).natAbs).length ≤ k + 1 := Nat.le_trans (lim_len_mono (show (a + b).natAbs ≤ a.natAbs + b.natAbs by omega)) (lim_add_le ha hb)
theorem sgnI_abs (c : Int) : (c * sgnI c).natAbs = c.natAbs := by unfold sgnI;split <;> omega
theorem lim_sg (c : Int) : (lim (sgnI c).natAbs).length = 1 := by
 have : (sgnI c).natAbs = 1 := by unfold sgnI;split <;> decide
 rw [this,lim_1];rfl
theorem lim_I1 : (lim (1 : Int).natAbs).length = 1 := by rw [show (1 : Int).natAbs = 1 from rfl,lim_1];rfl
def rgX (x : Int × Int × Int) : List D := rgD x.1 x.2.1 x.2.2
structure RgV (x : Int × Int × Int) : Prop where
 a : (lim x.1.natAbs).length ≤ 40
 b : (lim x.2.1.natAbs).length ≤ 40
 c : (lim x.2.2.natAbs).length ≤ 40
 c0 : x.2.2 ≠ 0
theorem RgV.cp {x : Int × Int × Int} (h : RgV x) : 0 < (lim x.2.2.natAbs).length := List.length_pos_iff.2 (fun e => by have := h.c0;rw [lim_nil] at e;omega)
theorem rgCheck_ok (L : List (Int × Int × Int)) (hv : ∀ k < L.length,RgV (L.getD k (0,0,0))) (hl : L.length ≤ 100) : Fn Tryz.prog 43 [.sl false 6 L rgX (0,0,0)] (faD 0 0) := by
 refine yD tabT Tryz.func43 rfl rfl rfl rfl rfl rfl ?_;intro w0 s0 mx;refine ev_R tabT [] 100 ?_;refine zB ?_;refine ev_R tabT [] 200 ?_;refine zM ?_;refine zX (ι := {k : Nat // k ≤ L.length}) [2,5,6] [0] 250 (fun x => [(7,.v (.int .i64 x.1))]) (fun _ => []) (fun x => L.length - x.1) ⟨0,Nat.zero_le _⟩ ?_;refine ⟨⟨le_t,le_o,rfl,rfl⟩,fun x => ?_⟩;have hk : x.1 ≤ L.length := x.2;refine ev_R tabT [] 300 ?_;refine zB ?_;refine zT (fun c2 => ?_) (fun c2 => ?_)
 ·
  refine zK (zA ?_);refine zB ?_;refine zM ?_;have hvk := hv x.1 c2;refine ev_R tabT [] 400 ?_;refine zB (zE tabT [] 500 rfl ?_);refine zF ?_;refine zO _ (rgValid_ok _ _ _ (by simp only [Int.toNat_natCast];exact hvk.a) (by simp only [Int.toNat_natCast];exact hvk.b) (by simp only [Int.toNat_natCast];exact hvk.c) (by simp only [Int.toNat_natCast];exact hvk.cp)) rfl ?_;refine zF ?_;refine zC (zA ?_);refine zT (fun c4 => ?_) (fun c4 => ?_)
  ·
   exact absurd c4 (by decide)
  ·
   refine zK (zJ (zA ?_));refine ev_Q tabT [] 700 ?_;exact zQ (⟨x.1 + 1,by omega⟩) ⟨⟨Sub.int (by push_cast;rfl),le_t⟩,le_o,rfl,rfl⟩ (by show L.length - (x.1 + 1) < L.length - x.1;omega)
 ·
  refine yB (zU (zW (zS (zA ?_))));refine ev_R tabT [] 800 ?_;refine zL ?_;exact FinV.ret rfl (SubP.refl _)
theorem rgSign_ok (a b c : Int) : Fn Tryz.prog 79 [.agg (rgD a b c)] (.agg (zV (sgnI c))) := by
 refine yD tabT Tryz.func79 rfl rfl rfl rfl rfl rfl ?_;intro w0 s0 mx;refine ev_R tabT [] 100 ?_;refine zB ?_;refine ev_R tabT [] 200 ?_;refine zT (fun c1 => ?_) (fun c1 => ?_)
 ·
  refine zB (zE tabT [] 300 rfl ?_);refine zF ?_;refine zO _ (intOf_ok (-1) (by decide) (by decide)) rfl ?_;refine zF ?_;refine zC (zA (zL (zN ?_)));exact FinV.ret rfl (SubP.of_eq (by rw [sgnI,if_pos (by simpa using c1)];rfl))
 ·
  refine zK (zA ?_);refine zB (zE tabT [] 400 rfl ?_);refine zF ?_;refine zO _ (intOf_ok 1 (by decide) (by decide)) rfl ?_;refine zF ?_;refine zC (zA (zL ?_));exact FinV.ret rfl (SubP.of_eq (by rw [sgnI,if_neg (by simpa using c1)];rfl))
theorem rgDivMod_ok (a b : Int) (ha : (lim a.natAbs).length ≤ 128) (hb : (lim b.natAbs).length ≤ 128) (h0 : b ≠ 0) : Fn Tryz.prog 81 [.agg (zV a),.agg (zV b)] (.tup [.agg (zV (Int.fdiv a b)),.agg (zV (Int.fmod a b))]) := by
 refine yD tabT Tryz.func81 rfl rfl rfl rfl rfl rfl ?_;intro w0 s0 mx;refine ev_R tabT [] 100 ?_;refine zB (zE tabT [] 200 rfl ?_);refine zF ?_;refine zO _ (intDivMod_ok a b ha hb h0) rfl ?_;refine zF ?_;refine zC (zA ?_);refine zB (zZ tabT [] [[],[],[0],[0,1,2]] 300 mixT (by kernel_rfl) rfl ?_);refine zF ?_;refine zC (zA (zL ?_));exact FinV.ret rfl (SubP.refl _)
theorem rgLength0_ok (a b c : Int) (ha : (lim a.natAbs).length ≤ 40) (hb : (lim b.natAbs).length ≤ 40) (hc : (lim c.natAbs).length ≤ 40) (h0 : c ≠ 0) : Fn Tryz.prog 44 [.agg (rgD a b c)] (.agg (zV (rlen a b c))) := by
 have hsl : (lim (c * sgnI c).natAbs).length ≤ 40 := by rw [sgnI_abs];exact hc
 have hs0 : c * sgnI c ≠ 0 := fun h => by have := sgnI_abs c;rw [h] at this;omega
 refine yD tabT Tryz.func44 rfl rfl rfl rfl rfl rfl ?_;intro w0 s0 mx;refine ev_R tabT [] 100 ?_;refine zB (zZ tabT [] [[],[0],[],[2],[],[4],[],[6],[4,5,6,7],[],[],[],[0,1,4,5,6,7,8,9,10,11],[0,1,2,3,4,5,6,7,8,9,10,11,12],[0,1,2,3,4,5,6,7,8,9,10,11,12,13]] 200 mixT (by kernel_rfl) rfl ?_);refine zF ?_;refine zO _ (rgSign_ok a b c) rfl ?_;refine zF ?_;refine zO _ (rgMul_ok c (sgnI c) (by omega) (by rw [lim_sg];decide) (by omega)) rfl ?_;refine zF ?_;refine zC (zA ?_);refine zB ?_;refine ev_R tabT [] 300 ?_;refine zT (fun c2 => ?_) (fun c2 => ?_)
 ·
  refine ev_Q tabT [] 400 ?_;refine zA ?_;refine zB ?_;refine zB (zE tabT [] 500 rfl ?_);refine zF ?_;refine zO _ (rgLess_ok b a (by omega) (by omega)) rfl ?_;refine zF ?_;refine zC (zA ?_);refine zT (fun c4 => ?_) (fun c4 => ?_)
  ·
   refine ev_R tabT [] 600 ?_;refine zL (zN ?_);exact FinV.ret rfl (SubP.agg ⟨SubP.of_eq (by rw [rlen,if_pos (by simpa using c2),if_neg (by simpa using c4)];rfl),by rw [rlen,if_pos (by simpa using c2),if_neg (by simpa using c4)];rw [show (0 : Int).natAbs = 0 from rfl,yW];exact SubP.nilSl rfl,trivial⟩)
  ·
   refine zK (zA ?_);refine zB (zZ tabT [] [[],[],[0,1],[],[0,1,2],[0,1,2,3,4],[0,1,2,3,4,5],[],[0,1,2,3,4,5,6,7],[0,1,2,3,4,5,6,7,8],[0,1,2,3,4,5,6,7,8,9],[0,1,2,3,4,5,6,7,8,9],[],[],[0,1,2,3,4,5,6,7,8,9,10,12,13],[0,1,2,3,4,5,6,7,8,9,10,11,12,13,14]] 700 mixT (by kernel_rfl) rfl ?_);refine zF ?_;refine zO _ (rgSub_ok a b (by omega) (by omega) (by have := qM ha hb;omega)) rfl ?_;refine zF ?_;refine zO _ (intOf_ok 1 (by decide) (by decide)) rfl ?_;refine zF ?_;refine zO _ (rgSub_ok (c * sgnI c) 1 (by omega) (by rw [lim_I1];decide) (by have := qM (k := 40) (a := (c * sgnI c)) (b := 1) (by omega) (by rw [lim_I1];decide);omega)) rfl ?_;refine zF ?_;refine zO _ (rgAdd_ok (a - b) ((c * sgnI c) - 1) (by have := qM ha hb;omega) (by have := qM (k := 40) (a := (c * sgnI c)) (b := 1) (by omega) (by rw [lim_I1];decide);omega) (by have := lim_addI (qM ha hb) (qM (k := 40) (a := (c * sgnI c)) (b := 1) (by omega) (by rw [lim_I1];decide));omega)) rfl ?_;refine zF ?_;refine zO _ (rgDivMod_ok (a - b + ((c * sgnI c) - 1)) (c * sgnI c) (by have := lim_addI (qM ha hb) (qM (k := 40) (a := (c * sgnI c)) (b := 1) (by omega) (by rw [lim_I1];decide));omega) (by omega) hs0) rfl ?_;refine zF ?_;refine zC (zA ?_);refine ev_R tabT [] 800 ?_;refine zL ?_;exact FinV.ret rfl (SubP.of_eq (by rw [rlen,if_pos (by simpa using c2),if_pos (by simpa using c4)];rfl))
 ·
  refine zK (zA ?_);refine zB ?_;refine zB (zE tabT [] 500 rfl ?_);refine zF ?_;refine zO _ (rgLess_ok a b (by omega) (by omega)) rfl ?_;refine zF ?_;refine zC (zA ?_);refine zT (fun c4 => ?_) (fun c4 => ?_)
  ·
   refine ev_R tabT [] 600 ?_;refine zL (zN ?_);exact FinV.ret rfl (SubP.agg ⟨SubP.of_eq (by rw [rlen,if_neg (by simpa using c2),if_neg (by simpa using c4)];rfl),by rw [rlen,if_neg (by simpa using c2),if_neg (by simpa using c4)];rw [show (0 : Int).natAbs = 0 from rfl,yW];exact SubP.nilSl rfl,trivial⟩)
  ·
   refine zK (zA ?_);refine zB (zZ tabT [] [[],[],[0,1],[],[0,1,2],[0,1,2,3,4],[0,1,2,3,4,5],[],[0,1,2,3,4,5,6,7],[0,1,2,3,4,5,6,7,8],[0,1,2,3,4,5,6,7,8,9],[0,1,2,3,4,5,6,7,8,9],[],[],[0,1,2,3,4,5,6,7,8,9,10,12,13],[0,1,2,3,4,5,6,7,8,9,10,11,12,13,14]] 700 mixT (by kernel_rfl) rfl ?_);refine zF ?_;refine zO _ (rgSub_ok b a (by omega) (by omega) (by have := qM hb ha;omega)) rfl ?_;refine zF ?_;refine zO _ (intOf_ok 1 (by decide) (by decide)) rfl ?_;refine zF ?_;refine zO _ (rgSub_ok (c * sgnI c) 1 (by omega) (by rw [lim_I1];decide) (by have := qM (k := 40) (a := (c * sgnI c)) (b := 1) (by omega) (by rw [lim_I1];decide);omega)) rfl ?_;refine zF ?_;refine zO _ (rgAdd_ok (b - a) ((c * sgnI c) - 1) (by have := qM hb ha;omega) (by have := qM (k := 40) (a := (c * sgnI c)) (b := 1) (by omega) (by rw [lim_I1];decide);omega) (by have := lim_addI (qM hb ha) (qM (k := 40) (a := (c * sgnI c)) (b := 1) (by omega) (by rw [lim_I1];decide));omega)) rfl ?_;refine zF ?_;refine zO _ (rgDivMod_ok (b - a + ((c * sgnI c) - 1)) (c * sgnI c) (by have := lim_addI (qM hb ha) (qM (k := 40) (a := (c * sgnI c)) (b := 1) (by omega) (by rw [lim_I1];decide));omega) (by omega) hs0) rfl ?_;refine zF ?_;refine zC (zA ?_);refine ev_R tabT [] 800 ?_;refine zL ?_;exact FinV.ret rfl (SubP.of_eq (by rw [rlen,if_neg (by simpa using c2),if_pos (by simpa using c4)];rfl))
theorem rgLength_ok (a b c : Int) (ha : (lim a.natAbs).length ≤ 40) (hb : (lim b.natAbs).length ≤ 40) (hc : (lim c.natAbs).length ≤ 40) (h0 : c ≠ 0) : Fn Tryz.prog 14 [.agg (rgD a b c)] (.tup [.agg (zV (rlen a b c)),faD 0 0]) := by
 refine yD tabT Tryz.func14 rfl rfl rfl rfl rfl rfl ?_;intro w0 s0 mx;refine ev_R tabT [] 100 ?_;refine zB ?_;refine zB (zE tabT [] 200 rfl ?_);refine zF ?_;refine zO _ ((rgCheck_ok [(a,b,c)] (fun k hk => by rcases k with _ | k;exact ⟨ha,hb,hc,h0⟩;exact absurd hk (by simp)) (by show 1 ≤ 100;omega)).args ⟨SubP.slrSl rfl,trivial⟩) rfl ?_;refine zF ?_;refine zC (zA ?_);refine ev_R tabT [] 300 ?_;refine zT (fun c2 => ?_) (fun c2 => ?_)
 ·
  exact absurd c2 (by decide)
 ·
  refine zK (zA ?_);refine zB (zE tabT [] 500 rfl ?_);refine zF ?_;refine zO _ (rgLength0_ok a b c ha hb hc h0) rfl ?_;refine zF ?_;refine zC (zA (zL ?_));exact FinV.ret rfl (SubP.refl _)
end Go.Proofs.YtepamjmgancjoaaGreatDoor
