/- Part 22 of the proof. -/
import Derived.Test.YteljekdggfhhmaaGreatDoorM21
import Derived.Test.YteljekdggfhhmaaGreatDoorM13
import Derived.Test.YteljekdggfhhmaaGreatDoorM15
import Derived.Test.YteljekdggfhhmaaGreatDoorM12
import Derived.Test.YteljekdggfhhmaaGreatDoorProg
import Derived.Ground.NamesProg
import Derived.Shelf.Spec.SlicesGrow
import Derived.Shelf.Strconv.Itoa3
import Derived.Shelf.Strconv.Quote
import Derived.Test.YteljekdggfhhmaaGreatDoorM16
import Derived.Test.YteljekdggfhhmaaGreatDoorM19
namespace Go.Proofs.YteljekdggfhhmaaGreatDoor
open Go.RowKit
variable {md me : Bool}
theorem td_n {e : Int} {s : Nat} (h : e = (s : Int)) : Int.tdiv e 65536 = ((s / 65536 : Nat) : Int) := by rw [h,Int.tdiv_eq_ediv_of_nonneg (by omega)];rfl
theorem tm_n {e : Int} {s : Nat} (h : e = (s : Int)) : Int.tmod e 65536 = ((s % 65536 : Nat) : Int) := by rw [h,Int.tmod_eq_emod_of_nonneg (by omega)];rfl
theorem nD_snoc2 {l : List Nat} {y z : Nat} {e f : Int} (h : e = (y : Int)) (h2 : f = (z : Int)) : l.map nD ++ [[.v (.int .i64 e)],[.v (.int .i64 f)]] = (l ++ [y,z]).map nD := by rw [List.map_append,h,h2];rfl
theorem of_lo {d : Nat} (h : d < 4294967296) : IntKind.i64.wrap (Int.tmod (d : Int) 65536) = ((d % 65536 : Nat) : Int) := by
 rw [tm_n rfl,InI.wrap ⟨by omega,by omega⟩]
theorem of_hi {d : Nat} (h : d < 4294967296) : IntKind.i64.wrap (IntKind.u32.wrap (Int.tdiv (d : Int) 65536)) = ((d / 65536 : Nat) : Int) := by
 rw [td_n rfl,show IntKind.u32.wrap ((d / 65536 : Nat) : Int) = ((d / 65536 : Nat) : Int) by
  simp only [IntKind.wrap,IntKind.signed,IntKind.bits,Bool.false_and,Bool.false_eq_true,if_false];omega,InI.wrap ⟨by omega,by omega⟩]
structure Of3 (l : List Nat) where
 k : Nat
 o : List Nat
 eq : V o = VL (l.take k)
 lo : o.length = 2 * k
 dg : Dg o
 le : k ≤ l.length
def Of3.next {l : List Nat} (x : Of3 l) (hl : Lg l) (h : x.k < l.length) : Of3 l := ⟨x.k + 1,x.o ++ [l.getD x.k 0 % 65536,l.getD x.k 0 / 65536],by rw [L_getD_lt h];exact of_step x.eq x.lo h,by simp [x.lo];omega,by rw [L_getD_lt h];exact of_Dg x.dg (hl.at h),h⟩
structure Sm3 (n : Nat) where
 m : Nat
 o : List Nat
 eq : o ++ dig m = dig n
 le : m ≤ n
def Sm3.next {n : Nat} (x : Sm3 n) (h : x.m ≠ 0) : Sm3 n := ⟨x.m / 65536,x.o ++ [x.m % 65536],by rw [← x.eq,dig_pos h,List.append_assoc];rfl,by have := x.le;omega⟩
theorem Sm3.len {n : Nat} (x : Sm3 n) (h : n < 18446744073709551616) : x.o.length ≤ 4 := by
 have h1 : (dig n).length ≤ 4 := dig_length_le (k := 4) (by omega);rw [← x.eq,List.length_append] at h1;omega
structure Cp3 (a b : Nat) where
 k : Nat
 le : k ≤ (dig a).length
 eq : (dig a).drop k = (dig b).drop k
def Cp3.next {a b : Nat} (x : Cp3 a b) (hl : (dig a).length = (dig b).length) (h : 0 < x.k) (he : (dig a).getD (x.k - 1) 0 = (dig b).getD (x.k - 1) 0) : Cp3 a b := ⟨x.k - 1,by have := x.le;omega,by
 have h1 := x.le;rw [getD_lt (by omega),getD_lt (by omega)] at he;rw [List.drop_eq_getElem_cons (by omega),List.drop_eq_getElem_cons (l := dig b) (by omega),he,show x.k - 1 + 1 = x.k by omega,x.eq]⟩
structure Pl3 (a b : Nat) where
 k : Nat
 c : Nat
 o : List Nat
 eq : V o + c * 65536 ^ k = V ((dig a).take k) + V ((dig b).take k)
 lo : o.length = k
 dg : Dg o
 hc : c ≤ 1
 le : k ≤ (dig a).length + (dig b).length + 1
def Pl3.s {a b : Nat} (x : Pl3 a b) : Nat := x.c + (dig a).getD x.k 0 + (dig b).getD x.k 0
def Pl3.next {a b : Nat} (x : Pl3 a b) (h : x.k < (dig a).length ∨ x.k < (dig b).length ∨ 0 < x.c) : Pl3 a b := ⟨x.k + 1,x.s / 65536,x.o ++ [x.s % 65536],plus_step x.eq x.lo rfl,by simp [x.lo],x.dg.snoc (Nat.mod_lt _ (by decide)),by
 have h1 := dig_at a x.k;have h2 := dig_at b x.k;have h3 := x.hc;unfold Pl3.s;omega,by
 rcases h with h | h | h
 ·omega
 ·omega
 ·have := plus_in (dig_Dg a) (dig_Dg b) x.eq h;omega⟩
theorem Pl3.fin {a b : Nat} (x : Pl3 a b) (h1 : (dig a).length ≤ x.k) (h2 : (dig b).length ≤ x.k) (h3 : x.c = 0) : V x.o = a + b := by
 have := plus_done (by rw [← h3];exact x.eq) h1 h2
 rwa [V_dig,V_dig] at this
structure Mi3 (a b : Nat) where
 k : Nat
 c : Nat
 o : List Nat
 eq : V o + V ((dig b).take k) = V ((dig a).take k) + c * 65536 ^ k
 lo : o.length = k
 dg : Dg o
 hc : c ≤ 1
 le : k ≤ (dig a).length
def Mi3.next {a b : Nat} (x : Mi3 a b) (h : x.k < (dig a).length) (y d : Nat) (hy : y + (dig b).getD x.k 0 + x.c = (dig a).getD x.k 0 + 65536 * d) (h2 : y < 65536) (h3 : d ≤ 1) : Mi3 a b := ⟨x.k + 1,d,x.o ++ [y],minus_step x.eq x.lo h (by rw [← getD_lt h];exact hy),by simp [x.lo],x.dg.snoc h2,h3,h⟩
theorem Mi3.fin {a b : Nat} (x : Mi3 a b) (h : (dig a).length ≤ x.k) (hle : b ≤ a) : V x.o = a - b := by
 have hk := x.le;have e : x.k = (dig a).length := by omega
 have h1 := x.eq;rw [e] at h1;have := minus_done x.dg (by rw [x.lo,e]) h1 (by rw [V_dig,V_dig];exact hle) (dig_len_mono hle)
 rwa [V_dig,V_dig] at this
theorem Of3_ok (l : List Nat) (hg : Lg l) (hl : l.length ≤ 100000000) : Fn Tryz.prog 171 [usD l] (natD (VL l)) := by
 refine yJ tabT Tryz.func171 rfl rfl rfl rfl rfl rfl ?_;intro w0 s0 mx;refine ev_R tabT [] 100 ?_;refine ev_R tabT [] 200 ?_;refine yN 3 3 1 rfl ?_;refine zB ?_;refine ev_R tabT [] 300 ?_;refine zO ?_;refine zY (ι := Of3 l) [0] [] 350 (fun x => [(4,.v (.int .i64 (x.k : Nat))),(3,.own 200 1 (x.o.map nD))]) (fun x => [(200,.row 3 1 (x.o.map nD).length)]) (fun x => l.length - x.k) ⟨0,[],by simp [VL,V],rfl,Dg.nil,Nat.zero_le _⟩ ?_;refine ⟨⟨le_t,le_o,rfl,rfl⟩,fun x => ?_⟩;have hk := x.le;have hk2 := x.lo;refine zB ?_;refine ev_R tabT [] 400 ?_;refine yD (fun c3 => ?_) (fun c3 => ?_)
 ·
  refine zL (zA ?_);refine zB ?_;refine zO ?_;refine zV tabT [] [[],[],[],[1,2],[1,2,3],[1,2,3,4],[1,2,3,4,5],[],[],[7,8],[7,8,9],[7,8,9,10],[7,8,9,10,11],[1,2,3,4,5,6,7,8,9,10,11,12],[0,1,2,3,4,5,6,7,8,9,10,11,12,13],[0,1,2,3,4,5,6,7,8,9,10,11,12,13,14]] 600 mixT (by kernel_rfl) rfl ?_;refine zH ?_;refine zC (zJ (zA ?_));refine ev_Q tabT [] 700 ?_;have hx := L_getD_lt c3;have hx2 := hg.at c3;exact zP (x.next hg c3) ⟨(by first | exact trivial | (repeat (first | exact trivial | exact Sub.refl _ | refine ⟨?_,?_⟩ | exact Sub.int (by first | rfl | omega | (push_cast;omega)) | exact Sub.nilSl | exact Sub.own rfl | exact Sub.slrSl rfl | exact Sub.ownSl (List.map_append).symm | exact Sub.ownSl rfl | exact Sub.int (by show (x.k : Int) + 1 = ((x.k + 1 : Nat) : Int);omega) | exact Sub.own (nD_snoc2 (of_lo (by rw [Int.toNat_natCast,hx];exact hx2)) (of_hi (by rw [Int.toNat_natCast,hx];exact hx2)))))),(by repeat (first | exact trivial | exact SubO.same rfl | exact ⟨rfl,rfl,by show _ = (List.map nD (x.o ++ _)).length;simp⟩ | refine ⟨?_,?_⟩)),rfl,rfl⟩ (by show l.length - (x.k + 1) < l.length - x.k;omega)
 ·
  refine yB (zW (zX (zS (zA ?_))));refine yF [] [] 410 [(3,.sl false 1 x.o nD 0)] [] ?_;refine ⟨⟨⟨Sub.ownSl rfl,trivial⟩,le_o,rfl,rfl⟩,?_⟩;refine zB (zE tabT [] 700 rfl ?_);refine zH ?_;refine zT _ (trim_ok _ x.dg (by rw [hk2];omega)) rfl ?_;refine zH ?_;refine zC (zA (zM ?_));exact FinV.ret rfl (SubP.of_eq (by rw [x.eq,List.take_of_length_le (by omega)]))
theorem lg_at {l : List Nat} (h : Lg l) (i : Nat) : l.getD i 0 < 4294967296 := by
 rcases Nat.lt_or_ge i l.length with h1 | h1
 ·rw [L_getD_lt h1];exact h.at h1
 ·rw [List.getD_eq_getElem?_getD,List.getElem?_eq_none h1];show 0 < _;omega
structure Tw (x : List Nat) where
 k : Nat
 c : Nat
 o : List Nat
 eq : VL o + c * 4294967296 ^ k + VL (x.take k) = 4294967296 ^ k
 lo : o.length = k
 lg : Lg o
 hc : c ≤ 1
 le : k ≤ x.length
theorem tw_step {x o : List Nat} {k c s : Nat} (hx : Lg x) (h : VL o + c * 4294967296 ^ k + VL (x.take k) = 4294967296 ^ k) (ho : o.length = k) (hk : k < x.length) (hs : s = c + (4294967295 - x.getD k 0)) :
  VL (o ++ [s % 4294967296]) + s / 4294967296 * 4294967296 ^ (k + 1) + VL (x.take (k + 1)) = 4294967296 ^ (k + 1) := by
 rw [L_snoc,ho,L_take_succ hk,Nat.pow_succ];have hb := hx.at hk;rw [L_getD_lt hk] at hs;generalize 4294967296 ^ k = B at *;have e : s = 4294967296 * (s / 4294967296) + s % 4294967296 := (Nat.div_add_mod s 4294967296).symm;have e2 : B * s = B * (4294967296 * (s / 4294967296)) + B * (s % 4294967296) := by rw [← Nat.mul_add,← e]
 have e3 : B * s + B * x[k] = B * c + B * 4294967295 := by rw [← Nat.mul_add,← Nat.mul_add];congr 1;omega
 have e4 : s / 4294967296 * (B * 4294967296) = B * (4294967296 * (s / 4294967296)) := by rw [Nat.mul_comm,Nat.mul_assoc]
 have e5 : c * B = B * c := Nat.mul_comm _ _;omega
def Tw.s {x : List Nat} (t : Tw x) : Nat := t.c + (4294967295 - x.getD t.k 0)
def Tw.next {x : List Nat} (t : Tw x) (hx : Lg x) (h : t.k < x.length) : Tw x := ⟨t.k + 1,t.s / 4294967296,t.o ++ [t.s % 4294967296],tw_step hx t.eq t.lo h rfl,by simp [t.lo],t.lg.snoc (Nat.mod_lt _ (by decide)),by
 have h1 := lg_at hx t.k;have h2 := t.hc;unfold Tw.s;omega,h⟩
def Tw.start (x : List Nat) : Tw x := ⟨0,1,[],by simp [VL],rfl,Lg.nil,Nat.le_refl _,Nat.zero_le _⟩
theorem Tw.fin {x : List Nat} (t : Tw x) (h : x.length ≤ t.k) (hz : 0 < VL x) : VL t.o = 4294967296 ^ x.length - VL x ∧ t.o.length = x.length := by
 have hk := t.le;have e : t.k = x.length := by omega
 have h1 := t.eq;rw [e,List.take_of_length_le (Nat.le_refl _)] at h1;refine ⟨?_,by rw [t.lo,e]⟩;have h2 := t.hc;rcases Nat.lt_or_ge 0 t.c with h3 | h3
 ·have : t.c = 1 := by omega
  rw [this] at h1;omega
 ·have : t.c = 0 := by omega
  rw [this] at h1;omega
structure Nt (x : List Nat) where
 k : Nat
 o : List Nat
 eq : o = (x.take k).map fun d => 4294967295 - d
 le : k ≤ x.length
def Nt.next {x : List Nat} (t : Nt x) (h : t.k < x.length) : Nt x := ⟨t.k + 1,t.o ++ [4294967295 - x.getD t.k 0],by rw [t.eq,L_getD_lt h,List.take_add_one,List.getElem?_eq_getElem h,List.map_append];rfl,h⟩
theorem Nt.lo {x : List Nat} (t : Nt x) : t.o.length = t.k := by rw [t.eq,List.length_map,List.length_take,Nat.min_eq_left t.le]
theorem top_V {l : List Nat} {n : Nat} (hl : l.length = n + 1) : VL l = VL (l.take n) + 4294967296 ^ n * l.getD n 0 := by
 rw [L_getD_lt (by omega),← L_take_succ (by omega),List.take_of_length_le (by omega)]
structure TrmL (l : List Nat) where
 r : List Nat
 lg : Lg r
 eq : VL r = VL l
 le : r.length ≤ l.length
theorem last_takeL {r : List Nat} (h : 0 < r.length) (h0 : r.getD (r.length - 1) 0 = 0) : VL (r.take (r.length - 1)) = VL r := by
 have h1 := top_V (l := r) (n := r.length - 1) (by omega);rw [h0] at h1;omega
def TrmL.next {l : List Nat} (x : TrmL l) (h : 0 < x.r.length) (h0 : x.r.getD (x.r.length - 1) 0 = 0) : TrmL l := ⟨x.r.take (x.r.length - 1),x.lg.take _,by rw [last_takeL h h0,x.eq],by have := x.le;simp;omega⟩
theorem TrmL.fin {l : List Nat} (x : TrmL l) (h : 0 < x.r.length → x.r.getD (x.r.length - 1) 0 ≠ 0) : x.r = lim (VL l) := by
 rw [← x.eq];refine (lim_V x.lg fun hne => ?_).symm;have hp : 0 < x.r.length := List.length_pos_iff.2 hne;rw [List.getLast_eq_getElem,← L_getD_lt (by omega)];exact h hp


section
variable {P : Program} {b : Ba}
def exJ {ι : Type} (I : ι → DS) (K : Exit → DS → Prop) (ex : Exit) (S : DS) : Prop := match ex with
 | .normal => ∃ i,LeD S (I i)
 | e => K e S
theorem exJ_normal {ι : Type} {I : ι → DS} {K : Exit → DS → Prop} {S : DS} (i : ι) (h : LeD S (I i)) : exJ I K .normal S := ⟨i,h⟩
theorem ev_joinK {ι : Type} (ks os : List Nat) (N : Nat) (chg : ι → List (Nat × D)) (ochg : ι → List (Nat × DOwn)) {x y : Code} {tm : List (Nat × D)} {ow : List (Nat × DOwn)} {nx : Nat} {K : Exit → DS → Prop}
  (h : keepK ks tm fun base => keepO os ow fun ob => Ev P b x ⟨tm,ow,nx⟩ (exJ (fun i => ⟨chg i ++ base,ochg i ++ ob,N⟩) K) ∧ ∀ i,Ev P b y ⟨chg i ++ base,ochg i ++ ob,N⟩ K) : Ev P b (.seq x y) ⟨tm,ow,nx⟩ K := by
 obtain ⟨base,h1⟩ := keepK_get h;obtain ⟨ob,h2,h3⟩ := keepO_get h1;refine zB ?_;intro w s g a Q hr hK;refine h2 w s g a Q hr fun ex w' s' g' a' S' h4 h5 => hK ex w' s' g' a' S' h4 ?_
 cases ex with
 | normal =>
  obtain ⟨i,hi⟩ := h5;exact ev_le _ hi (h3 i)
 | _ => exact h5
end
def thwD (k : Nat) : D → D
 | .own k' sz rows => match Nat.beq k' k with
  | true => match rows with
   | [] => .mo k' 0
   | r :: l => .own k' sz (r :: l)
  | false => .own k' sz rows
 | d => d
def thwL (k : Nat) : List D → List D
 | [] => []
 | d :: l => thwD k d :: thwL k l
def thwT (k : Nat) : List (Nat × D) → List (Nat × D)
 | [] => []
 | (t,d) :: l => (t,thwD k d) :: thwT k l
def thwO (k : Nat) (e : TypeId) (sz : Nat) : List (Nat × DOwn) → List (Nat × DOwn)
 | [] => []
 | (j,c) :: l => (match Nat.beq j k with
  | true => (j,.mrow e sz (.lst []))
  | false => match c with
   | .box t cs => (j,.box t (thwL k cs))
   | c => (j,c)) :: thwO k e sz l
theorem thwT_fnd {k : Nat} : ∀ {l : List (Nat × D)} {t : Nat},fnd1 t (thwT k l) = (fnd1 t l).map (thwD k)
 | [],_ => rfl
 | (u,d) :: l,t => by
  show fnd1 t ((u,thwD k d) :: thwT k l) = _;rw [yI,yI];by_cases h : u = t
  ·simp [h]
  ·rw [if_neg h,if_neg h];exact thwT_fnd
theorem thwD_ok {w : World} {s : Sb} {g : Gh} {k : Nat} (hmo : ∀ v,g.gn k 0 = some v → (TV.mo k 0).P w s g v) {d : D} {v : Value} (hv : d.tv.P w s g v) : (thwD k d).tv.P w s g v := by
 cases d with
 | own k' sz rows =>
  show (match Nat.beq k' k with | true => (match rows with | [] => D.mo k' 0 | r :: l => D.own k' sz (r :: l)) | false => D.own k' sz rows).tv.P w s g v
  cases hb : Nat.beq k' k with
  | false => exact hv
  | true =>
   have e := Nat.eq_of_beq_eq_true hb;subst e
   cases rows with
   | nil =>
    rw [D.tv,TV.P] at hv;show (D.mo k' 0).tv.P w s g v;rw [D.tv];exact hmo v hv.2
   | cons r l => exact hv
 | _ => exact hv
theorem thwL_ok {w : World} {s : Sb} {g : Gh} {k : Nat} (hmo : ∀ v,g.gn k 0 = some v → (TV.mo k 0).P w s g v) : ∀ {l : List D} {vs : List Value},AllT w s g (D.tvl l) vs → AllT w s g (D.tvl (thwL k l)) vs
 | [],vs,hv => by cases vs with | nil => rw [thwL,D.tvl];trivial | cons _ _ => exact hv.elim
 | d :: l,[],hv => by rw [D.tvl] at hv;exact hv.elim
 | d :: l,v :: vs,hv => by
  rw [D.tvl] at hv;rw [thwL,D.tvl];exact ⟨thwD_ok hmo hv.1,thwL_ok hmo hv.2⟩
theorem thwL_one {k : Nat} : ∀ {l : List D},(∀ d ∈ D.tvl l,d.one = true) → ∀ d ∈ D.tvl (thwL k l),d.one = true
 | [],_,d,hd => by rw [thwL,D.tvl] at hd;cases hd
 | x :: l,h,d,hd => by
  rw [thwL,D.tvl] at hd;rw [D.tvl] at h;rcases List.mem_cons.1 hd with rfl | hd
  ·have h1 := h x.tv (by simp)
   cases x with
   | own k' sz rows =>
    show (match Nat.beq k' k with | true => (match rows with | [] => D.mo k' 0 | r :: l => D.own k' sz (r :: l)) | false => D.own k' sz rows).tv.one = true
    cases Nat.beq k' k with
    | false => rfl
    | true => cases rows <;> rfl
   | _ => exact h1
  ·exact thwL_one (fun y hy => h y (by simp [hy])) d hd
theorem thwO_fnd {k : Nat} {e : TypeId} {sz : Nat} : ∀ {l : List (Nat × DOwn)} {j : Nat} {c : DOwn},fnd1 j (thwO k e sz l) = some c → ∃ c0,fnd1 j l = some c0 ∧ ((j = k ∧ c = .mrow e sz (.lst [])) ∨ (j ≠ k ∧ ((∃ t cs,c0 = .box t cs ∧ c = .box t (thwL k cs)) ∨ (c = c0 ∧ ∀ t cs,c0 ≠ .box t cs))))
 | [],_,_,h => by cases h
 | (i,c0) :: l,j,c,h => by
  unfold thwO at h;have step : ∀ x : DOwn,fnd1 j ((i,x) :: thwO k e sz l) = some c → (i = j ∧ x = c) ∨ (i ≠ j ∧ fnd1 j (thwO k e sz l) = some c) := fun x hx => by
   rw [yI] at hx;by_cases hi : i = j
   ·rw [if_pos hi] at hx;exact .inl ⟨hi,Option.some.inj hx⟩
   ·rw [if_neg hi] at hx;exact .inr ⟨hi,hx⟩
  have rest : i ≠ j → fnd1 j (thwO k e sz l) = some c → ∃ c0',fnd1 j ((i,c0) :: l) = some c0' ∧ ((j = k ∧ c = .mrow e sz (.lst [])) ∨ (j ≠ k ∧ ((∃ t cs,c0' = .box t cs ∧ c = .box t (thwL k cs)) ∨ (c = c0' ∧ ∀ t cs,c0' ≠ .box t cs)))) := fun hi hx => by
   obtain ⟨c1,h1,h2⟩ := thwO_fnd hx;exact ⟨c1,by rw [yI,if_neg hi];exact h1,h2⟩
  cases hb : Nat.beq i k with
  | true =>
   rw [hb] at h;have hik := Nat.eq_of_beq_eq_true hb;rcases step _ h with ⟨rfl,rfl⟩ | ⟨hi,hx⟩
   ·exact ⟨c0,by rw [yI];simp,.inl ⟨hik,rfl⟩⟩
   ·exact rest hi hx
  | false =>
   rw [hb] at h;have hik : i ≠ k := by rintro rfl;rw [Nat.beq_refl] at hb;cases hb
   cases c0 with
   | box t cs =>
    rcases step _ h with ⟨rfl,rfl⟩ | ⟨hi,hx⟩
    ·exact ⟨_,by rw [yI];simp,.inr ⟨hik,.inl ⟨t,cs,rfl,rfl⟩⟩⟩
    ·exact rest hi hx
   | _ =>
    rcases step _ h with ⟨rfl,rfl⟩ | ⟨hi,hx⟩
    ·exact ⟨_,by rw [yI];simp,.inr ⟨hik,.inr ⟨rfl,fun _ _ h => by cases h⟩⟩⟩
    ·exact rest hi hx
section
variable {P : Program} {b : Ba}
theorem ev_thaw (k : Nat) {e : TypeId} {sz : Nat} {c : Code} {tm : List (Nat × D)} {ow : List (Nat × DOwn)} {nx : Nat} {K : Exit → DS → Prop} (hk : fnd1 k ow = some (.row e sz 0))
  (h : Ev P b c ⟨thwT k tm,thwO k e sz ow,nx⟩ K) : Ev P b c ⟨tm,ow,nx⟩ K := by
 intro w s g a Q hr hK;have hk0 : fnd k (ows ow) = some (.row e sz 0) := by rw [yU,hk];rfl
 obtain ⟨hok,hblk⟩ := hr.ow k _ hk0;obtain ⟨hmr,hmo⟩ := hok.thaw;have howf : ∀ {j : Nat} {c : Own},fnd j (ows (thwO k e sz ow)) = some c → ∃ c0,fnd j (ows ow) = some c0 ∧ Ok1 w s g j c ∧ blk g j c = blk g j c0 := fun {j c} hj => by
  rw [yU] at hj
  cases hq : fnd1 j (thwO k e sz ow) with
  | none => rw [hq] at hj;cases hj
  | some d =>
   rw [hq] at hj
   cases hj;obtain ⟨c0,h1,h2⟩ := thwO_fnd hq;have h1' : fnd j (ows ow) = some c0.o := by rw [yU,h1];rfl
   refine ⟨c0.o,h1',?_⟩;rcases h2 with ⟨rfl,rfl⟩ | ⟨hne,⟨t,cs,rfl,rfl⟩ | ⟨rfl,_⟩⟩
   ·rw [hk] at h1
    cases h1;exact ⟨hmr,rfl⟩
   ·obtain ⟨N,vs,g1,g2,g3,g4,g5⟩ := (hr.ow j _ h1').1;exact ⟨⟨N,vs,g1,g2,thwL_ok hmo g3,thwL_one g4,g5⟩,rfl⟩
   ·exact ⟨(hr.ow j _ h1').1,rfl⟩
 refine h w s g a Q ⟨hr.kp,hr.lt,hr.sz,fun t d hd => ?_,fun j c hj => ?_,fun j j' c c' N h1 h2 hne hb => ?_,hr.fr,hr.df,hr.gb⟩ hK
 ·have hd' : fnd t (tvs (thwT k tm)) = some d := hd;rw [yR,thwT_fnd] at hd'
  cases hq : fnd1 t tm with
  | none => rw [hq] at hd';cases hd'
  | some x =>
   rw [hq] at hd'
   cases hd';obtain ⟨v,h1,h2⟩ := hr.tm t x.tv (by show fnd t (tvs tm) = _;rw [yR,hq];rfl);exact ⟨v,h1,thwD_ok hmo h2⟩
 ·obtain ⟨c0,h1,h2,h3⟩ := howf hj;exact ⟨h2,fun N hb => (hr.ow j c0 h1).2 N (by rw [← h3];exact hb)⟩
 ·obtain ⟨c0,e1,_,e3⟩ := howf h1;obtain ⟨d0,f1,_,f3⟩ := howf h2;rw [f3];exact hr.sep j j' c0 d0 N e1 f1 hne (by rw [← e3];exact hb)
end
theorem Sub.mo {k n m : Nat} (h : n = m) : Sub (.mo k n) (.mo k m) := by subst h;exact Sub.refl _
theorem Sub.mw {k q i sz n q' i' n' : Nat} (h1 : q = q') (h2 : i = i') (h3 : n = n') : Sub (.mw k q i sz n) (.mw k q' i' sz n') := by subst h1;subst h2;subst h3;exact Sub.refl _
theorem SubO.mr {ty : TypeId} {sz : Nat} {m m' : MR} (h : m.rows = m'.rows) : SubO (.mrow ty sz m) (.mrow ty sz m') := ⟨rfl,rfl,congrArg D.pvss h⟩
theorem SubO.mp {ty : TypeId} {sz : Nat} {m m' : MR} (h : D.pvss m.rows = D.pvss m'.rows) : SubO (.mrow ty sz m) (.mrow ty sz m') := ⟨rfl,rfl,h⟩
theorem SubO.app {α : Type} {ty : TypeId} {sz : Nat} {l r : List α} {f : α → List D} {e : α} : SubO (.mrow ty sz (.app (.map l f e) (r.map f))) (.mrow ty sz (.map (l ++ r) f e)) := ⟨rfl,rfl,congrArg D.pvss (List.map_append).symm⟩
def tooB : ByteArray := ⟨#[118,97,108,117,101,32,105,115,32,116,111,111,32,108,97,114,103,101]⟩
variable {md me : Bool}
theorem CloneU_ok (l : List Nat) (hl : l.length ≤ 2000000) : FnO Tryz.prog 94 [usD l] 133 1 (l.map uD) := by
 refine fnO_ev Tryz.func94 rfl rfl rfl rfl rfl rfl ?_;intro w0 s0 mx;refine zB (zE tabT [5] 100 rfl ?_);repeat (first | refine zF ?_ | refine zG ?_ | refine zQ (by exact qG hl) ?_)
 refine zC (zA ?_);refine zB ?_;refine zB ?_;refine ev_nilRegion Tryz.underlying28 rfl rfl rfl fun c hc => ?_;refine zA ?_;refine zR rfl (fun c1 => ?_) (fun c1 => ?_)
 ·
  refine zB (zE tabT [5] 300 rfl ?_);repeat (first | refine zF ?_ | refine zG ?_ | refine zQ (by exact qG hl) ?_)
  refine zC (zA (zM (zK ?_)));exact FinO.nil rfl (by rw [hc c1];rfl)
 ·
  refine zL (zA ?_);refine zB (zE tabT [5] 400 rfl ?_);repeat (first | refine zF ?_ | refine zG ?_ | refine zQ (by first | rfl | exact qG hl | (rw [List.length_nil];have := qG (f := uD) hl;omega) | (have := qG (f := uD) hl;simp at this ⊢;omega)) ?_)
  refine zC (zA (zM ?_));exact FinO.ret rfl rfl rfl rfl
variable {md me : Bool}
structure Fd {α : Type} (l : List α) (p : α → Bool) where
 k : Nat
 le : k ≤ l.length
 eq : (l.drop k).find? p = l.find? p
def Fd.next {α : Type} {l : List α} {p : α → Bool} (x : Fd l p) (e : α) (hk : x.k < l.length) (h0 : p (l.getD (x.k : Int).toNat e) = false) : Fd l p := ⟨x.k + 1,hk,by rw [← x.eq,drop_at hk e,List.find?_cons_of_neg (by rw [h0];decide)]⟩
theorem Fd.found {α : Type} {l : List α} {p : α → Bool} (x : Fd l p) (e : α) (hk : x.k < l.length) (h0 : p (l.getD (x.k : Int).toNat e) = true) : l.find? p = some (l.getD (x.k : Int).toNat e) := by rw [← x.eq,drop_at hk e,List.find?_cons_of_pos h0]
theorem Fd.none {α : Type} {l : List α} {p : α → Bool} (x : Fd l p) (hk : l.length ≤ x.k) : l.find? p = none := by rw [← x.eq,List.drop_of_length_le hk];rfl
variable {md me : Bool}
end Go.Proofs.YteljekdggfhhmaaGreatDoor
/-
  DERIVED: THE SHELF's CONTRACTS AT THIS DUMP,IN PLAIN WORDS (tools/lay-plain.mjs out of 'YteljekdggfhhmaaGreatDoorShelf3.lean',which tools/lay-shelf.mjs wrote): THE SAME DECLARATIONS UNDER THE SAME NAMES: 'import','namespace','open','def','theorem' AND NOTHING ELSE: no command of the shelf's: FOR A HAND-IN. Each laying: the table of numbers ('.._ren') and one theorem,a field a fact of the dump's own or the kernel's comparison;each contract: ONE APPLICATION.
-/
namespace Go.Proofs
open Go.Shelf
def Tryz.laysItoa_ren : Go.Shelf.Ren := ⟨fun | 171 => 181 | 243 => 200 | 246 => 209 | 283 => 212 | 284 => 213 | 285 => 214 | 286 => 215 | 129 => 221 | 317 => 220 | 318 => 222 | 319 => 223 | 320 => 224 | 337 => 228 | 338 => 229 | n => n,fun | 3 => 3 | 9 => 9 | 2 => 2 | 4 => 4 | 171 => 247 | 0 => 0 | 53 => 152 | 37 => 167 | 5 => 5 | 173 => 250 | 212 => 254 | 51 => 133 | 20 => 20 | 213 => 255 | 46 => 153 | 232 => 262 | 233 => 263 | n => n,fun | 17 => 5 | 18 => 11 | 19 => 12 | n => n⟩
theorem Tryz.laysItoa : Go.Proofs.LaysM.n171 Tryz.prog Tryz.laysItoa_ren := {
 mixed := by kernel_rfl
 f129 := Tryz.func221.trans (congrArg some (by kernel_rfl))
 f171 := Tryz.func181.trans (congrArg some (by kernel_rfl))
 f243 := Tryz.func200.trans (congrArg some (by kernel_rfl))
 f246 := Tryz.func209.trans (congrArg some (by kernel_rfl))
 f283 := Tryz.func212.trans (congrArg some (by kernel_rfl))
 f284 := Tryz.func213.trans (congrArg some (by kernel_rfl))
 f285 := Tryz.func214.trans (congrArg some (by kernel_rfl))
 f286 := Tryz.func215.trans (congrArg some (by kernel_rfl))
 f317 := Tryz.func220.trans (congrArg some (by kernel_rfl))
 f318 := Tryz.func222.trans (congrArg some (by kernel_rfl))
 f319 := Tryz.func223.trans (congrArg some (by kernel_rfl))
 f320 := Tryz.func224.trans (congrArg some (by kernel_rfl))
 f337 := Tryz.func228.trans (congrArg some (by kernel_rfl))
 f338 := Tryz.func229.trans (congrArg some (by kernel_rfl))
 t0 := Tryz.underlying0
 a0 := Tryz.isAgg0
 z0 := Tryz.sizeOf0
 v0 := Tryz.zeroValue0
 t2 := Tryz.underlying2
 a2 := Tryz.isAgg2
 z2 := Tryz.sizeOf2
 v2 := Tryz.zeroValue2
 t3 := Tryz.underlying3
 a3 := Tryz.isAgg3
 z3 := Tryz.sizeOf3
 v3 := Tryz.zeroValue3
 t4 := Tryz.underlying4
 a4 := Tryz.isAgg4
 z4 := Tryz.sizeOf4
 v4 := Tryz.zeroValue4
 t5 := Tryz.underlying5
 a5 := Tryz.isAgg5
 z5 := Tryz.sizeOf5
 v5 := Tryz.zeroValue5
 t9 := Tryz.underlying9
 a9 := Tryz.isAgg9
 z9 := Tryz.sizeOf9
 v9 := Tryz.zeroValue9
 t20 := Tryz.underlying20
 a20 := Tryz.isAgg20
 z20 := Tryz.sizeOf20
 v20 := Tryz.zeroValue20
 t37 := Tryz.underlying167
 a37 := Tryz.isAgg167
 z37 := Tryz.sizeOf167
 v37 := Tryz.zeroValue167
 t46 := Tryz.underlying153
 a46 := Tryz.isAgg153
 z46 := Tryz.sizeOf153
 v46 := Tryz.zeroValue153
 t51 := Tryz.underlying133
 a51 := Tryz.isAgg133
 z51 := Tryz.sizeOf133
 v51 := Tryz.zeroValue133
 t53 := Tryz.underlying152
 a53 := Tryz.isAgg152
 z53 := Tryz.sizeOf152
 v53 := Tryz.zeroValue152
 t171 := Tryz.underlying247
 a171 := Tryz.isAgg247
 z171 := Tryz.sizeOf247
 v171 := Tryz.zeroValue247
 t173 := Tryz.underlying250
 a173 := Tryz.isAgg250
 z173 := Tryz.sizeOf250
 v173 := Tryz.zeroValue250
 t212 := Tryz.underlying254
 a212 := Tryz.isAgg254
 z212 := Tryz.sizeOf254
 v212 := Tryz.zeroValue254
 t213 := Tryz.underlying255
 a213 := Tryz.isAgg255
 z213 := Tryz.sizeOf255
 t232 := Tryz.underlying262
 a232 := Tryz.isAgg262
 z232 := Tryz.sizeOf262
 v232 := Tryz.zeroValue262
 t233 := Tryz.underlying263
 a233 := Tryz.isAgg263
 z233 := Tryz.sizeOf263
 v233 := Tryz.zeroValue263
 g17 := by kernel_rfl
 g18 := by kernel_rfl
 g19 := by kernel_rfl
 i0 := by kernel_rfl
 i2 := by kernel_rfl
 i3 := by kernel_rfl
 i4 := by kernel_rfl
 i5 := by kernel_rfl
 i9 := by kernel_rfl
 i20 := by kernel_rfl
 i37 := by kernel_rfl
 i46 := by kernel_rfl
 i51 := by kernel_rfl
 i53 := by kernel_rfl
 i171 := by kernel_rfl
 i173 := by kernel_rfl
 i212 := by kernel_rfl
 i232 := by kernel_rfl
 i233 := by kernel_rfl
 m17 := by kernel_rfl
 m18 := by kernel_rfl
 m19 := by kernel_rfl }
def Tryz.laysQuote_ren : Go.Shelf.Ren := ⟨fun | 177 => 160 | 250 => 182 | 289 => 201 | 197 => 207 | 323 => 210 | 260 => 211 | 339 => 216 | 340 => 217 | 242 => 218 | 119 => 219 | 345 => 225 | 346 => 226 | 278 => 227 | n => n,fun | 9 => 9 | 5 => 5 | 4 => 4 | 3 => 3 | 37 => 167 | 21 => 21 | 105 => 243 | 46 => 153 | 119 => 179 | 0 => 0 | 139 => 206 | 138 => 205 | 49 => 226 | 234 => 257 | 131 => 258 | 51 => 133 | 236 => 28 | n => n,fun | 3 => 1 | 4 => 2 | 20 => 6 | 21 => 7 | 22 => 8 | 23 => 9 | 24 => 10 | n => n⟩
theorem Tryz.laysQuote : Go.Proofs.Lays.n177 Tryz.prog Tryz.laysQuote_ren := {
 mixed := by kernel_rfl
 f119 := Tryz.func219.trans (congrArg some (by kernel_rfl))
 f177 := Tryz.func160.trans (congrArg some (by kernel_rfl))
 f197 := Tryz.func207.trans (congrArg some (by kernel_rfl))
 f242 := Tryz.func218.trans (congrArg some (by kernel_rfl))
 f250 := Tryz.func182.trans (congrArg some (by kernel_rfl))
 f260 := Tryz.func211.trans (congrArg some (by kernel_rfl))
 f278 := Tryz.func227.trans (congrArg some (by kernel_rfl))
 f289 := Tryz.func201.trans (congrArg some (by kernel_rfl))
 f323 := Tryz.func210.trans (congrArg some (by kernel_rfl))
 f339 := Tryz.func216.trans (congrArg some (by kernel_rfl))
 f340 := Tryz.func217.trans (congrArg some (by kernel_rfl))
 f345 := Tryz.func225.trans (congrArg some (by kernel_rfl))
 f346 := Tryz.func226.trans (congrArg some (by kernel_rfl))
 t0 := Tryz.underlying0
 a0 := Tryz.isAgg0
 z0 := Tryz.sizeOf0
 v0 := Tryz.zeroValue0
 t3 := Tryz.underlying3
 a3 := Tryz.isAgg3
 z3 := Tryz.sizeOf3
 v3 := Tryz.zeroValue3
 t4 := Tryz.underlying4
 a4 := Tryz.isAgg4
 z4 := Tryz.sizeOf4
 v4 := Tryz.zeroValue4
 t5 := Tryz.underlying5
 a5 := Tryz.isAgg5
 z5 := Tryz.sizeOf5
 v5 := Tryz.zeroValue5
 t9 := Tryz.underlying9
 a9 := Tryz.isAgg9
 z9 := Tryz.sizeOf9
 v9 := Tryz.zeroValue9
 t21 := Tryz.underlying21
 a21 := Tryz.isAgg21
 z21 := Tryz.sizeOf21
 v21 := Tryz.zeroValue21
 t37 := Tryz.underlying167
 a37 := Tryz.isAgg167
 z37 := Tryz.sizeOf167
 v37 := Tryz.zeroValue167
 t46 := Tryz.underlying153
 a46 := Tryz.isAgg153
 z46 := Tryz.sizeOf153
 v46 := Tryz.zeroValue153
 t49 := Tryz.underlying226
 a49 := Tryz.isAgg226
 z49 := Tryz.sizeOf226
 v49 := Tryz.zeroValue226
 t51 := Tryz.underlying133
 a51 := Tryz.isAgg133
 z51 := Tryz.sizeOf133
 v51 := Tryz.zeroValue133
 t105 := Tryz.underlying243
 a105 := Tryz.isAgg243
 z105 := Tryz.sizeOf243
 v105 := Tryz.zeroValue243
 t119 := Tryz.underlying179
 a119 := Tryz.isAgg179
 z119 := Tryz.sizeOf179
 t131 := Tryz.underlying258
 a131 := Tryz.isAgg258
 z131 := Tryz.sizeOf258
 v131 := Tryz.zeroValue258
 t138 := Tryz.underlying205
 a138 := Tryz.isAgg205
 z138 := Tryz.sizeOf205
 v138 := Tryz.zeroValue205
 t139 := Tryz.underlying206
 a139 := Tryz.isAgg206
 z139 := Tryz.sizeOf206
 v139 := Tryz.zeroValue206
 t234 := Tryz.underlying257
 a234 := Tryz.isAgg257
 z234 := Tryz.sizeOf257
 v234 := Tryz.zeroValue257
 t236 := Tryz.underlying28
 a236 := Tryz.isAgg28
 z236 := Tryz.sizeOf28
 v236 := Tryz.zeroValue28
 g3 := by kernel_rfl
 g4 := by kernel_rfl
 g20 := by kernel_rfl
 g21 := by kernel_rfl
 g22 := by kernel_rfl
 g23 := by kernel_rfl
 g24 := by kernel_rfl }
end Go.Proofs
namespace Go.Proofs.YteljekdggfhhmaaGreatDoor
open Go.RowKit Go.Shelf
open Go.RowKit
variable {md me : Bool}
def st0 : St := ⟨0,vl0,0,ByteArray.empty,vl0,[]⟩
def stsD (l : List St) : D := .sl false 18 l stD st0
variable {md me : Bool}
def rD (b : Bool) (n : Nat) : D := .agg [.v (.bool b),natD n]
theorem IntOf3_ok (b : Bool) (l : List Nat) (hg : Lg l) (hl : l.length ≤ 100000000) : Fn Tryz.prog 180 [.agg [.v (.bool b),usD l]] (rD b (VL l)) := by
 refine yJ tabT Tryz.func180 rfl rfl rfl rfl rfl rfl ?_;intro w0 s0 mx;refine ev_R tabT [] 100 ?_;refine zB (zV tabT [] [[],[0],[],[2],[2,3],[0,1,2,3,4],[0,1,2,3,4,5]] 200 mixT (by kernel_rfl) rfl ?_);refine zH ?_;refine zT _ (Of3_ok _ (by first | assumption | omega | (simp_all;done)) (by first | assumption | omega | (simp_all;done))) rfl ?_;refine zH ?_;refine zC (zA (zM ?_));exact FinV.ret rfl (SubP.refl _)
theorem TooLarge_ok  : Fn Tryz.prog 88 [] (.agg (stD (raS 42 tooB))) := by
 refine yJ tabT Tryz.func88 rfl rfl rfl rfl rfl rfl ?_;intro w0 s0 mx;refine ev_R tabT [] 100 ?_;refine zB (zE tabT [] 200 rfl ?_);refine zH ?_;refine zT _ (Raise_ok _ _) rfl ?_;refine zH ?_;refine zC (zA (zM ?_));exact FinV.ret rfl (SubP.refl _)
theorem opRaise_ok (c : Int) (s : ByteArray) : Fn Tryz.prog 135 [.v (.int .i64 c),.v (.string s)] (.agg (stD (raS c s))) := by
 refine yJ tabT Tryz.func135 rfl rfl rfl rfl rfl rfl ?_;intro w0 s0 mx;refine ev_R tabT [] 100 ?_;refine ev_R tabT [] 200 ?_;refine zM ?_;exact FinV.ret rfl (SubP.agg (by repeat (first | exact trivial | exact SubP.refl _ | exact SubP.nilSl rfl | refine ⟨?_,?_⟩)))
theorem opLimit_ok  : Fn Tryz.prog 85 [] (.agg (stD (raS 42 tooB))) := by
 refine yJ tabT Tryz.func85 rfl rfl rfl rfl rfl rfl ?_;intro w0 s0 mx;refine ev_R tabT [] 100 ?_;refine zB (zE tabT [] 200 rfl ?_);refine zH ?_;refine zT _ (opRaise_ok _ _) rfl ?_;refine zH ?_;refine zC (zA (zM ?_));exact FinV.ret rfl (SubP.refl _)
variable {md me : Bool}
theorem tk_next {α : Type} {f : α → List D} {l : List α} {k : Nat} (e : α) (h : k < l.length) : (l.take (k + 1)).map f = (l.take k).map f ++ [f (l.getD ((k : Nat) : Int).toNat e)] := by
 rw [List.take_add_one,List.getElem?_eq_getElem h,List.map_append,Int.toNat_natCast,List.getD_eq_getElem?_getD,List.getElem?_eq_getElem h];rfl
theorem tk_len {α : Type} {l : List α} {k : Nat} (h : k < l.length) : (l.take (k + 1)).length = (l.take k).length + 1 := by
 rw [List.length_take,List.length_take];omega
theorem mem_at {α : Type} {l : List α} {k : Nat} (e : α) (h : k < l.length) : l.getD ((k : Nat) : Int).toNat e ∈ l := by
 rw [Int.toNat_natCast,List.getD_eq_getElem?_getD,List.getElem?_eq_getElem h];exact List.getElem_mem _
theorem ob_own (o : Ob) (a b c d e : Nat) : D.pvs [.v (.int .i64 o.kind),.v (.string o.name),.v (.int .i64 o.cls),.own a 1 (o.refs.map iD),.own b 1 (o.order.map iD),.own c 1 (o.names.map sD),.own d 7 (o.items.map vlD),.own e 7 (o.keys.map vlD),.v (.int .i64 o.code),.v (.int .i64 o.state)] = D.pvs (obD o) := by
 simp only [obD,D.pvs,D.pv,yE,List.map_map];rfl
theorem pvss_snoc {a : List (List D)} {r : List D} : D.pvss (a ++ [r]) = D.pvss a ++ [D.pvs r] := by rw [yE,yE,List.map_append];rfl
theorem copied_ok (l : List Vl) (hl : l.length ≤ 2000000) (hv : ∀ v ∈ l,VlIn v) : FnO Tryz.prog 47 [vsD l] 32 7 (l.map vlD) := by
 refine fnO_ev Tryz.func47 rfl rfl rfl rfl rfl rfl ?_;intro w0 s0 mx;refine ev_R tabT [] 100 ?_;refine ev_R tabT [] 200 ?_;refine yN 3 32 7 rfl ?_;refine zB ?_;refine ev_R tabT [] 300 ?_;refine zO ?_;refine zY (ι := {k : Nat // k ≤ l.length}) [6,7] [] 350 (fun x => [(8,.v (.int .i64 x.1)),(3,.own 200 7 ((l.take x.1).map vlD))]) (fun x => [(200,.row 32 7 ((l.take x.1).map vlD).length)]) (fun x => l.length - x.1) ⟨0,Nat.zero_le _⟩ ?_;refine ⟨⟨le_t,le_o,rfl,rfl⟩,fun x => ?_⟩;have hk : x.1 ≤ l.length := x.2;refine ev_R tabT [] 400 ?_;refine zB ?_;refine yD (fun c3 => ?_) (fun c3 => ?_)
 ·
  refine zL (zA ?_);refine zB ?_;refine zO ?_;have hvk : VlIn (l.getD ((x.1 : Nat) : Int).toNat vl0) := hv _ (mem_at vl0 c3);refine ev_R tabT [] 500 ?_;refine zB (zV tabT [15,19] [[],[0],[0,1],[0,1,2],[],[4],[4,5],[0,1,2,3,4,5,6],[0,1,2,3,4,5,6],[0,1,2,3,4,5,6,8],[0,1,2,3,4,5,6,7,8,9],[0,1,2,3,4,5,6,7,8,9,10],[0,1,2,3,4,5,6,7,8,9,10,11],[0,1,2,3,4,5,6,7,8,9,10,11,12]] 600 mixT (by kernel_rfl) rfl ?_);refine zH ?_;refine sat_fnO _ _ _ (CloneU_ok _ hvk.nn) ?_;refine zH ?_;refine sat_fnO _ _ _ (CloneU_ok _ hvk.dn) ?_;refine zH ?_;refine zC (zA ?_);refine zE tabT [] 700 rfl ?_;repeat (first | refine zF ?_ | refine zG ?_ | refine zQ (by first | rfl | (simp only [List.length_map,List.length_take,List.length_cons,List.length_nil];omega) | first | exact trivial | omega | exact ini (by omega) (by omega) | (intro hh;simp at hh;exact ini (by omega) (by omega)) | (intro hh;simp at hh ⊢;omega) | (simp at *;omega) | (simp_all;done)) ?_)
  refine zC (zJ (zA ?_));refine ev_Q tabT [] 800 ?_;exact zP (⟨x.1 + 1,by omega⟩) ⟨⟨Sub.int (by push_cast;rfl),Sub.ownRows (by rw [tk_next vl0 c3];exact (RowsP.refl _).append ⟨⟨SubP.refl _,SubP.refl _,SubP.ownSl rfl,SubP.refl _,SubP.ownSl rfl,SubP.refl _,SubP.refl _,trivial⟩,trivial⟩),le_t⟩,⟨⟨rfl,rfl,by simp only [List.length_append,List.length_map];rw [tk_len c3];rfl⟩,le_o⟩,rfl,rfl⟩ (by show l.length - (x.1 + 1) < l.length - x.1;omega)
 ·
  refine yB (zW (zX (zS (zA ?_))));refine ev_R tabT [] 900 ?_;refine zM ?_;have e : l.take x.1 = l := List.take_of_length_le (by omega);exact FinO.ret rfl rfl (by rw [e]) (by rw [e])
theorem Copy_G (h : List Ob) (hh : HpIn h) : FnG Tryz.prog 11 [hpD md h] [] (.agg [.mo 0 h.length]) [.mrow 37 10 (.map h obD ob0)] := by
 have hhl := hh.len;refine fnH_ev tabT Tryz.func11 rfl rfl rfl rfl rfl rfl rfl ?_;intro w0 s0 mx;refine ev_R tabT [] 100 ?_;refine ev_R tabT [] 200 ?_;refine ev_nilCell 100 0 37 10 rfl rfl ?_;refine zB ?_;refine ev_thaw 200 rfl ?_;refine ev_R tabT [] 300 ?_;refine zO ?_;refine zY (ι := {k : Nat // k ≤ h.length}) [2,3,7,8] [1] 350 (fun x => [(9,.v (.int .i64 x.1))]) (fun x => [(100,.box 24 [.mo 200 (h.take x.1).length]),(200,.mrow 37 10 (.map (h.take x.1) obD ob0))]) (fun x => h.length - x.1) ⟨0,Nat.zero_le _⟩ ?_;refine ⟨⟨le_t,⟨⟨rfl,Sub.mo rfl,rfl,trivial⟩,SubO.mr rfl,le_o⟩,rfl,rfl⟩,fun x => ?_⟩;have hk : x.1 ≤ h.length := x.2;refine ev_R tabT [] 400 ?_;refine zB ?_;refine yD (fun c3 => ?_) (fun c3 => ?_)
 ·
  refine zL (zA ?_);refine zB ?_;refine zO ?_;have hob : ObIn (h.getD ((x.1 : Nat) : Int).toNat ob0) := hh.ob _ (mem_at ob0 c3);refine ev_R tabT [] 500 ?_;refine zB (zV tabT [15,18,21] [[],[0],[0,1],[],[3],[0,1,2,3,4],[],[6],[0,1,2,3,4,5,6,7],[0,1,2,3,4,6,7],[0,1,2,3,4,5,6,7,8,9],[0,1,2,3,4,5,6,7,8,9,10],[0,1,2,3,4,5,6,7,8,9,10,11],[0,1,2,3,4,5,6,7,8,9,10,11,12],[0,1,2,3,4,5,6,7,8,9,10,11,12,13]] 600 mixT (by kernel_rfl) rfl ?_);refine zH ?_;refine sat_fnO _ _ _ (CloneI_ok _ hob.rl) ?_;refine zH ?_;refine sat_fnO _ _ _ (CloneI_ok _ hob.ol) ?_;refine zH ?_;refine sat_fnO _ _ _ (CloneS_ok _ hob.nl) ?_;refine zH ?_;refine zC (zA ?_);refine zB (zV tabT [27,30] [[],[0],[0,1],[],[3],[0,1,2,3,4],[0,1,2,3,4],[0,1,2,3,4,5,6],[0,1,2,3,4,5,6,7],[0,1,2,3,4,5,6,7,8]] 700 mixT (by kernel_rfl) rfl ?_);refine zH ?_;refine sat_fnO _ _ _ (copied_ok _ hob.il hob.iv) ?_;refine zH ?_;refine sat_fnO _ _ _ (copied_ok _ hob.kl hob.kv) ?_;refine zH ?_;refine zC (zA ?_);refine zE tabT [] 800 rfl ?_;repeat (first | refine zF ?_ | refine zG ?_ | refine zQ (by first | rfl | (simp only [MR.len,List.length_take,List.length_cons,List.length_nil];have := hh.len;omega) | first | exact trivial | omega | exact ini (by omega) (by omega) | (intro hh;simp at hh;exact ini (by omega) (by omega)) | (intro hh;simp at hh ⊢;omega) | (simp at *;omega) | (simp_all;done)) ?_)
  refine zC (zJ (zA ?_));refine ev_Q tabT [] 900 ?_;exact zP (⟨x.1 + 1,by omega⟩) ⟨⟨Sub.int (by push_cast;rfl),le_t⟩,⟨⟨rfl,Sub.mo (by rw [tk_len c3];rfl),rfl,trivial⟩,SubO.mp (by show D.pvss (List.map obD _ ++ [_]) = D.pvss (List.map obD _);rw [tk_next ob0 c3,pvss_snoc,pvss_snoc,ob_own]),le_o⟩,rfl,rfl⟩ (by show h.length - (x.1 + 1) < h.length - x.1;omega)
 ·
  refine yB (zW (zX (zS (zA ?_))));refine ev_R tabT [] 1000 ?_;refine zM ?_;have e : h.take x.1 = h := List.take_of_length_le (by omega);exact FinH.ret 200 rfl rfl (by rw [e];exact Sub.refl _) ⟨SubO.mr (by rw [e]),trivial⟩
variable {md me : Bool}
def hpO (h : List Ob) : List DOwn := [.box 24 [.mo 1 h.length],.mrow 37 10 (.map h obD ob0)]
variable {md me : Bool}
def vpD (k : Vl) : D := .pt true (vlD k)
theorem opObject_ok (h : List Ob) (v : Vl) (hv : v.k = 6 → qK h v.r = true) : Fn Tryz.prog 82 [hpD md h,.agg (vlD v)] (.agg (obD (objS h v))) := by
 refine yJ tabT Tryz.func82 rfl rfl rfl rfl rfl rfl ?_;intro w0 s0 mx;refine ev_R tabT [] 100 ?_;refine zB ?_;refine ev_R tabT [] 200 ?_;refine yD (fun c1 => ?_) (fun c1 => ?_)
 ·
  refine ev_R tabT [] 300 ?_;refine zM (zK ?_);have e : objS h v = ob0 := objS_no c1;rw [e];exact FinV.ret rfl (by repeat (first | exact trivial | exact SubP.refl _ | exact SubP.nilSl rfl | refine SubP.agg ?_ | refine ⟨?_,?_⟩))
 ·
  refine zL (zA ?_);refine zB (zE tabT [] 400 rfl ?_);repeat (first | refine zF ?_ | refine zG ?_ | refine zQ (by exact yM (hv c1)) ?_)
  refine zC (zA (zM ?_));have e : objS h v = h.getD v.r.toNat ob0 := objS_at hv c1;rw [e];exact FinV.ret rfl (by repeat (first | exact trivial | exact SubP.refl _ | exact SubP.nilSl rfl | refine SubP.agg ?_ | refine ⟨?_,?_⟩))
theorem IndexFuncV_ok (h : List Ob) (l : List Vl) (k : Vl) (f : FuncId) (H : ∀ x ∈ l,Fn Tryz.prog f [.agg (vlD x),cpD md h,vpD k] (.v (.bool (smK h 1001 x k)))) : Fn Tryz.prog 118 [.sl me 7 l vlD vl0,.clo f [cpD md h,vpD k]] (.v (.int .i64 (plI h l k))) := by
 refine yJ tabT Tryz.func118 rfl rfl rfl rfl rfl rfl ?_;intro w0 s0 mx;refine ev_len 0 rfl fun hl0 => ?_;refine ev_R tabT [] 100 ?_;refine zB ?_;refine ev_R tabT [] 200 ?_;refine zO ?_;refine zY (ι := Al l (fun x => !smK h 1001 x k)) [0,1,7] [] 250 (fun x => [(8,.v (.int .i64 x.k))]) (fun _ => []) (fun x => l.length - x.k) ⟨0,Nat.zero_le _,fun j x hj => by omega⟩ ?_;refine ⟨⟨le_t,le_o,rfl,rfl⟩,fun x => ?_⟩;have hk := x.le;refine ev_R tabT [] 300 ?_;refine zB ?_;refine zR rfl (fun c2 => ?_) (fun c2 => ?_)
 ·have c2 : x.k < l.length := by simpa using c2
  refine zL (zA ?_);refine zB ?_;refine zO ?_;refine ev_R tabT [] 400 ?_;refine zB (zE tabT [] 500 rfl ?_);refine zH ?_;refine zT _ (H _ (by rw [getD_l c2];exact List.getElem_mem _)) rfl ?_;refine zH ?_;refine zC (zA ?_);refine yD (fun c4 => ?_) (fun c4 => ?_)
  ·
   refine ev_R tabT [] 600 ?_;refine zM (zN (zK (yH (zN (zK ?_)))));exact FinV.ret rfl (SubP.int (plI_at x.all (getD_q c2 vl0) c4).symm)
  ·
   refine zL (zJ (zA ?_));refine ev_Q tabT [] 700 ?_;exact zP (x.next (e := vl0) c2 (by rw [c4];rfl)) ⟨le_t,le_o,rfl,rfl⟩ (by show l.length - (x.k + 1) < l.length - x.k;omega)
 ·have c2 : ¬ x.k < l.length := by simpa using c2
  refine yB (zW (zX (zS (zA ?_))));refine ev_R tabT [] 800 ?_;refine zM ?_;exact FinV.ret rfl (SubP.int (plI_none (fun y hy => by
    have := List.all_eq_true.1 (x.yes c2) y hy;simpa using this)).symm)
theorem placeC_ok (h : List Ob) (w k : Vl) (hh : HpIn h) (g : Uh h) (hk : keyedS h k = true) (hv : Vd h k) (hw : Vd h w) : Fn Tryz.prog 133 [.agg (vlD w),cpD md h,vpD k] (.v (.bool (smK h 1001 w k))) := by
 refine yJ tabT Tryz.func133 rfl rfl rfl rfl rfl rfl ?_;intro w0 s0 mx;refine ev_R tabT [] 100 ?_;refine zB (zE tabT [] 200 rfl ?_);refine zH ?_;refine zT _ ((heapKey_ok hh g hk hv hw).out (SubP.bool (smK_symm h 1001 k w))) rfl ?_;refine zH ?_;refine zC (zA (zM ?_));exact FinV.ret rfl (SubP.refl _)
theorem opPlace_ok (h : List Ob) (l : List Vl) (k : Vl) (hh : HpIn h) (g : Uh h) (hk : keyedS h k = true) (hv : Vd h k) (hl : ∀ x ∈ l,Vd h x) : Fn Tryz.prog 83 [hpD md h,.sl me 7 l vlD vl0,.agg (vlD k)] (.v (.int .i64 (plI h l k))) := by
 refine yJ tabT Tryz.func83 rfl rfl rfl rfl rfl rfl ?_;intro w0 s0 mx;refine ev_R tabT [] 100 ?_;refine zB (zE tabT [] 200 rfl ?_);refine zH ?_;refine sat_fnL _ (IndexFuncV_ok h l k 133 fun x hx => placeC_ok h x k hh g hk hv (hl x hx)) rfl rfl ?_;refine zH ?_;refine zC (zA (zM ?_));exact FinV.ret rfl (SubP.refl _)
theorem getD_m {l : List Vl} {i : Nat} (hi : i < l.length) : l.getD i vl0 ∈ l := by
 rw [List.getD_eq_getElem?_getD,List.getElem?_eq_getElem hi];exact List.getElem_mem _
theorem sn221 {P : Program} {K : DS → Prop} {p : Prop} {r : Out} (hr : r.sat P K) (hp : p := by first | exact qG (by simp only [List.length_append];omega) | (simp only [List.length_map,List.length_append,List.length_cons,List.length_nil];omega) | first | exact trivial | omega | exact ini (by omega) (by omega) | (intro hh;simp at hh;exact ini (by omega) (by omega)) | (intro hh;simp at hh ⊢;omega) | (simp at *;omega) | (simp_all;done)) : (Out.need p r).sat P K := ⟨hp,hr⟩
theorem mixed_ok (h : List Ob) (op : Int) (a b : List Vl) (hh : HpIn h) (g : Uh h) (ka : Kd h a) (kb : Kd h b) (hla : a.length ≤ 2000000) (hlb : b.length ≤ 2000000) : Fn Tryz.prog 89 [hpD md h,.v (.int .i64 op),vsD a,vsD b] (.tup [.sl false 7 (mixS h op a b) vlD vl0,.v (.bool (((decide (op = 15) || decide (op = 14)) || decide (op = 6)) || decide (op = 16)))]) := by
 refine yJ tabT Tryz.func89 rfl rfl rfl rfl rfl rfl ?_;intro w0 s0 mx;refine ev_len 2 rfl fun hl2 => ?_;refine ev_len 3 rfl fun hl3 => ?_;refine ev_R tabT [] 100 ?_;refine ev_R tabT [] 200 ?_;refine yN 10 32 7 rfl ?_;refine zB ?_;refine ev_R tabT [] 300 ?_;refine zO ?_;refine zY (ι := {i : Nat // i ≤ a.length}) [1,2,3,4,16,17] [0] 350 (fun x => [(18,.v (.int .i64 x.1)),(10,.own 200 7 (((a.take x.1).filter (mdP h op b)).map vlD))]) (fun x => [(200,.row 32 7 (((a.take x.1).filter (mdP h op b)).map vlD).length)]) (fun x => a.length - x.1) ⟨0,Nat.zero_le _⟩ ?_;refine ⟨⟨⟨Sub.int rfl,Sub.own rfl,le_t⟩,⟨⟨rfl,rfl,rfl⟩,le_o⟩,rfl,rfl⟩,fun x => ?_⟩;have hk1 : x.1 ≤ a.length := x.2;refine ev_R tabT [] 400 ?_;refine zB ?_;refine zR rfl (fun c3 => ?_) (fun c3 => ?_)
 ·have hlt : x.1 < a.length := by simpa using c3
  have hka := ka.keyed _ (getD_m hlt);have hva := ka.vd _ (getD_m hlt);have hfl := filt_len a (mdP h op b) x.1;refine zL (zA ?_);refine zB ?_;refine zO ?_;refine ev_R tabT [] 500 ?_;refine yF [1,2,3,4,10,12,16,17,18] [0,200,402] 510 [] [(402,.box 32 (vlD (a.getD x.1 vl0)))] ?_;refine ⟨⟨le_t,⟨⟨rfl,SubL.same rfl⟩,le_o⟩,rfl,rfl⟩,?_⟩;refine zB (zE tabT [] 600 rfl ?_);refine zH ?_;refine zT _ (Place_ok h b _ hh (fun y hy => keyed_dp (kb.keyed y hy))) rfl ?_;refine zH ?_;refine zC (zA ?_);refine ev_R tabT [] 700 ?_;refine yD (fun c6 => ?_) (fun c6 => ?_)
  ·
   refine zE tabT [] 800 rfl ?_;repeat (first | refine zF ?_ | refine zG ?_ | refine sn221 ?_)
   refine zC (zJ (zA ?_));refine ev_Q tabT [] 900 ?_;have hN := filt_yes (p := mdP h op b) hlt (by simpa [mdP] using c6);exact zP ⟨x.1 + 1,by omega⟩ ⟨⟨Sub.int (by push_cast;rfl),Sub.own (by rw [hN,List.map_append];rfl),le_t⟩,⟨⟨rfl,rfl,by rw [hN];simp⟩,le_o⟩,rfl,rfl⟩ (by show a.length - (x.1 + 1) < a.length - x.1;omega)
  ·
   refine zL (zJ (zA ?_));refine ev_Q tabT [] 900 ?_;have hN := filt_no (p := mdP h op b) hlt (by simpa [mdP] using c6);exact zP ⟨x.1 + 1,by omega⟩ ⟨⟨Sub.int (by push_cast;rfl),Sub.own (by rw [hN]),le_t⟩,⟨⟨rfl,rfl,by rw [hN]⟩,le_o⟩,rfl,rfl⟩ (by show a.length - (x.1 + 1) < a.length - x.1;omega)
 ·have hke : x.1 = a.length := by simp at c3;omega
  have htk : a.take x.1 = a := List.take_of_length_le (by omega);refine yB (zW (zX (zS (zA ?_))));refine zB ?_;refine ev_R tabT [] 1000 ?_;refine zO ?_;refine zY (ι := {i : Nat // i ≤ b.length}) [1,2,4,53,54] [0] 1050 (fun z => [(55,.v (.int .i64 z.1)),(10,.own 200 7 ((a.filter (mdP h op b) ++ (b.take z.1).filter (mx2 h op a)).map vlD))]) (fun z => [(200,.row 32 7 ((a.filter (mdP h op b) ++ (b.take z.1).filter (mx2 h op a)).map vlD).length)]) (fun z => b.length - z.1) ⟨0,Nat.zero_le _⟩ ?_;refine ⟨⟨⟨Sub.int rfl,Sub.own (by rw [htk];simp),le_t⟩,⟨⟨rfl,rfl,by rw [htk];simp⟩,le_o⟩,rfl,rfl⟩,fun z => ?_⟩;have hk2 : z.1 ≤ b.length := z.2;refine ev_R tabT [] 1100 ?_;refine zB ?_;refine zR rfl (fun c10 => ?_) (fun c10 => ?_)
  ·have hlt2 : z.1 < b.length := by simpa using c10
   have hkb := kb.keyed _ (getD_m hlt2);have hvb := kb.vd _ (getD_m hlt2);have hfl := filt_len b (mx2 h op a) z.1;have hfa := List.length_filter_le (mdP h op b) a;refine zL (zA ?_);refine zB ?_;refine zO ?_;refine ev_R tabT [] 1200 ?_;refine yF [1,2,4,10,15,53,54,55] [0,200,1102] 1210 [] [(1102,.box 32 (vlD (b.getD z.1 vl0)))] ?_;refine ⟨⟨le_t,⟨⟨rfl,SubL.same rfl⟩,le_o⟩,rfl,rfl⟩,?_⟩;refine zB (zE tabT [] 1300 rfl ?_);refine zH ?_;refine yG _ (fun hg10 => Place_ok h a _ hh (fun y hy => keyed_dp (ka.keyed y hy))) rfl ?_;refine zH ?_;refine zC (zA ?_);refine yD (fun c12 => ?_) (fun c12 => ?_)
   ·
    refine zE tabT [] 1400 rfl ?_;repeat (first | refine zF ?_ | refine zG ?_ | refine sn221 ?_)
    refine zC (zJ (zA ?_));refine ev_Q tabT [] 1500 ?_;have hN := filt_yes (p := mx2 h op a) hlt2 (by simpa [mx2] using c12);exact zP ⟨z.1 + 1,by omega⟩ ⟨⟨Sub.int (by push_cast;rfl),Sub.own (by rw [hN,← List.append_assoc,List.map_append (l₂ := [_])];rfl),le_t⟩,⟨⟨rfl,rfl,by rw [hN];simp [Nat.add_assoc]⟩,le_o⟩,rfl,rfl⟩ (by show b.length - (z.1 + 1) < b.length - z.1;omega)
   ·
    refine zL (zJ (zA ?_));refine ev_Q tabT [] 1500 ?_;have hN := filt_no (p := mx2 h op a) hlt2 (by simpa [mx2] using c12);exact zP ⟨z.1 + 1,by omega⟩ ⟨⟨Sub.int (by push_cast;rfl),Sub.own (by rw [hN]),le_t⟩,⟨⟨rfl,rfl,by rw [hN]⟩,le_o⟩,rfl,rfl⟩ (by show b.length - (z.1 + 1) < b.length - z.1;omega)
  ·have hke2 : z.1 = b.length := by simp at c10;omega
   refine yB (zW (zX (zS (zA ?_))));refine ev_R tabT [] 1600 ?_;refine zM ?_;exact FinV.ret rfl (SubP.tup ⟨SubP.ownSl (by rw [hke2,List.take_length];rfl),SubP.bool (by rfl),trivial⟩)
variable {md me : Bool}
def unJ (h : List Ob) (x y : Ob) (i : Nat) : List Vl := (List.range x.keys.length).map (unF h x y y.keys) ++ ((List.range i).filter (unP h x y)).map fun i => y.items.getD i vl0
theorem unJ_all (h : List Ob) (x y : Ob) : unJ h x y y.keys.length = unI h x y y.keys.length := by
 rw [unJ,unI,List.take_of_length_le (Nat.le_refl _)]
theorem unJ_len (h : List Ob) (x y : Ob) (i : Nat) : (unJ h x y i).length = (unK h x y i).length := by
 rw [unJ,unK,List.length_append,List.length_append,List.length_map,List.length_map,List.length_map,List.length_range]
theorem un_yes {h : List Ob} {x y : Ob} {i : Nat} (h0 : plI h x.keys (y.keys.getD i vl0) < 0) : unK h x y (i + 1) = unK h x y i ++ [y.keys.getD i vl0] ∧ unJ h x y (i + 1) = unJ h x y i ++ [y.items.getD i vl0] := by
 have hp : unP h x y i = true := decide_eq_true h0;rw [unK,unK,unJ,unJ,un_fil hp,List.map_append,List.map_append,← List.append_assoc,← List.append_assoc];exact ⟨rfl,rfl⟩
theorem un_no {h : List Ob} {x y : Ob} {i : Nat} (h0 : ¬ plI h x.keys (y.keys.getD i vl0) < 0) : unK h x y (i + 1) = unK h x y i ∧ unJ h x y (i + 1) = unJ h x y i := by
 have hp : ¬ unP h x y i = true := by rw [unP,decide_eq_false h0];decide
 rw [unK,unK,unJ,unJ,un_fil' hp];exact ⟨rfl,rfl⟩
theorem range_snoc (f : Nat → Vl) (i : Nat) : (List.range (i + 1)).map f = (List.range i).map f ++ [f i] := by rw [List.range_succ,List.map_append];rfl
theorem take_snoc {l : List Vl} {i : Nat} (hi : i < l.length) : l.take (i + 1) = l.take i ++ [l.getD i vl0] := by
 rw [List.take_succ_eq_append_getElem hi,List.getD_eq_getElem?_getD,List.getElem?_eq_getElem hi];rfl
theorem mapsnoc (l : List Vl) (v : Vl) : (l ++ [v]).map vlD = l.map vlD ++ [vlD v] := by rw [List.map_append];rfl
theorem unK_0 (h : List Ob) (x y : Ob) : unK h x y 0 = x.keys := by simp [unK]
theorem unJ_0 (h : List Ob) (x y : Ob) : unJ h x y 0 = (List.range x.keys.length).map (unF h x y y.keys) := by simp [unJ]
theorem sn222 {P : Program} {K : DS → Prop} {p : Prop} {r : Out} (hr : r.sat P K) (hp : p := by first | (simp only [List.length_map,List.length_cons,List.length_nil,List.length_append,List.length_range,List.length_take];omega) | (simp only [List.length_map,List.length_cons,List.length_nil];omega) | exact ⟨by omega,by omega⟩ | first | exact trivial | omega | exact ini (by omega) (by omega) | (intro hh;simp at hh;exact ini (by omega) (by omega)) | (intro hh;simp at hh ⊢;omega) | (simp at *;omega) | (simp_all;done)) : (Out.need p r).sat P K := ⟨hp,hr⟩
set_option maxHeartbeats 1000000 in
theorem united_ok (h : List Ob) (x y : Ob) (hh : HpIn h) (g : Uh h) (kx : Kd h x.keys) (ky : Kd h y.keys) (hxl : x.items.length = x.keys.length) (hyl : y.items.length = y.keys.length) (hx : x.keys.length ≤ 1000000) (hy : y.keys.length ≤ 1000000) : Fn Tryz.prog 87 [hpD md h,.agg (obD x),.agg (obD y)] (.agg (obD (unO h x y))) := by
 refine yJ tabT Tryz.func87 rfl rfl rfl rfl rfl rfl ?_;intro w0 s0 mx;refine ev_R tabT [] 100 ?_;refine ev_R tabT [] 200 ?_;refine ev_nilCell 101 7 32 7 rfl rfl ?_;refine ev_nilCell 101 6 32 7 rfl rfl ?_;refine zB ?_;refine ev_R tabT [] 300 ?_;refine zO ?_;refine zY (ι := {i : Nat // i ≤ x.keys.length}) [3,4,5,6,7,16,17] [0,1,2,3] 350 (fun a => [(18,.v (.int .i64 a.1))]) (fun a => [(101,.box 37 [.v (.int .i64 3),.v (.string ByteArray.empty),.v (.int .i64 0),.v (.slice none 0 0),.v (.slice none 0 0),.v (.slice none 0 0),.own 201 7 (((List.range a.1).map (unF h x y y.keys)).map vlD),.own 200 7 ((x.keys.take a.1).map vlD),.v (.int .i64 0),.v (.int .i64 0)]),(200,.row 32 7 ((x.keys.take a.1).map vlD).length),(201,.row 32 7 (((List.range a.1).map (unF h x y y.keys)).map vlD).length)]) (fun a => x.keys.length - a.1) ⟨0,Nat.zero_le _⟩ ?_;refine ⟨⟨⟨Sub.int rfl,le_t⟩,⟨⟨rfl,Sub.refl _,rfl,Sub.refl _,rfl,Sub.refl _,rfl,Sub.refl _,rfl,Sub.refl _,rfl,Sub.refl _,rfl,Sub.refl _,rfl,Sub.refl _,rfl,Sub.refl _,rfl,Sub.refl _,rfl,trivial⟩,⟨rfl,rfl,rfl⟩,⟨rfl,rfl,rfl⟩,le_o⟩,rfl,rfl⟩,fun a => ?_⟩;have hk1 : a.1 ≤ x.keys.length := a.2;refine ev_R tabT [] 400 ?_;refine zB ?_;refine zR rfl (fun c3 => ?_) (fun c3 => ?_)
 ·have hlt : a.1 < x.keys.length := by simpa using c3
  refine zL (zA ?_);refine zB ?_;refine zO ?_;refine ev_R tabT [] 500 ?_;refine yF [3,4,5,6,7,8,9,16,17,18] [0,1,2,3,101,200,201,403] 510 [] [(403,.box 32 (vlD (x.keys.getD a.1 vl0)))] ?_;refine ⟨⟨le_t,⟨⟨rfl,SubL.same rfl⟩,le_o⟩,rfl,rfl⟩,?_⟩;refine zB (zE tabT [] 600 rfl ?_);repeat (first | refine zF ?_ | refine zG ?_ | refine zQ (by first | exact ⟨by omega,by omega⟩ | first | exact trivial | omega | exact ini (by omega) (by omega) | (intro hh;simp at hh;exact ini (by omega) (by omega)) | (intro hh;simp at hh ⊢;omega) | (simp at *;omega) | (simp_all;done)) ?_)
  refine zC (zA ?_);refine zB ?_;refine yF [3,4,5,6,7,9,10,16,17,18] [0,1,2,3,101,200,201,403,515] 610 [] [(515,.box 32 (vlD (x.items.getD a.1 vl0)))] ?_;refine ⟨⟨le_t,⟨⟨rfl,SubL.same rfl⟩,le_o⟩,rfl,rfl⟩,?_⟩;refine zB (zE tabT [] 700 rfl ?_);refine zH ?_;refine zT _ (Place_ok h y.keys _ hh (fun k hk => keyed_dp (ky.keyed k hk))) rfl ?_;refine zH ?_;refine zC (zA ?_);refine ev_R tabT [] 800 ?_;refine yD (fun c7 => ?_) (fun c7 => ?_)
  ·
   refine zE tabT [] 900 rfl ?_;repeat (first | refine zF ?_ | refine zG ?_ | refine zQ (by first | exact ⟨by omega,by have := plI_has (l := y.keys) (k := x.keys.getD a.1 vl0) (by omega);omega⟩ | first | exact trivial | omega | exact ini (by omega) (by omega) | (intro hh;simp at hh;exact ini (by omega) (by omega)) | (intro hh;simp at hh ⊢;omega) | (simp at *;omega) | (simp_all;done)) ?_)
   refine zC (zA ?_);refine yF [3,4,5,6,7,9,10,16,17,18] [0,1,2,3,101,200,201,403,515] 910 [] [(515,.box 32 (vlD (unF h x y y.keys a.1)))] ?_;refine ⟨⟨le_t,⟨by rw [show (unF h x y y.keys a.1) = _ from if_pos c7];exact ⟨rfl,SubL.same rfl⟩,le_o⟩,rfl,rfl⟩,?_⟩;refine zV tabT [] [[],[0],[],[2],[0,1,2,3],[],[5],[],[7],[0,1,2,3,4,5,6,7,8],[0,1,2,3,4,5,6],[0,1,2,3,4,5,6,7,8,9,10],[0,1,2,3,4,5,6,7,8,9,10,11],[0,1,2,3,4,5,6,7,8,9,10,11,12]] 1000 mixT (by kernel_rfl) rfl ?_;repeat (first | refine zF ?_ | refine zG ?_ | refine sn222 ?_)
   refine zC (zJ (zA ?_));refine ev_Q tabT [] 1100 ?_;exact zP ⟨a.1 + 1,by omega⟩ ⟨⟨Sub.int (by push_cast;rfl),le_t⟩,⟨⟨rfl,Sub.refl _,rfl,Sub.refl _,rfl,Sub.refl _,rfl,Sub.refl _,rfl,Sub.refl _,rfl,Sub.refl _,rfl,Sub.own (by rw [range_snoc];exact (mapsnoc _ _).symm),rfl,Sub.own (by rw [take_snoc hlt];exact (mapsnoc _ _).symm),rfl,Sub.refl _,rfl,Sub.refl _,rfl,trivial⟩,⟨rfl,rfl,by rw [take_snoc hlt];simp⟩,⟨rfl,rfl,by rw [range_snoc];simp⟩,le_o⟩,rfl,rfl⟩ (by show x.keys.length - (a.1 + 1) < x.keys.length - a.1;omega)
  ·
   refine zL (zA ?_);refine yF [3,4,5,6,7,9,10,16,17,18] [0,1,2,3,101,200,201,403,515] 810 [] [(515,.box 32 (vlD (unF h x y y.keys a.1)))] ?_;refine ⟨⟨le_t,⟨by rw [show (unF h x y y.keys a.1) = _ from if_neg (by simpa using c7)];exact ⟨rfl,SubL.same rfl⟩,le_o⟩,rfl,rfl⟩,?_⟩;refine zV tabT [] [[],[0],[],[2],[0,1,2,3],[],[5],[],[7],[0,1,2,3,4,5,6,7,8],[0,1,2,3,4,5,6],[0,1,2,3,4,5,6,7,8,9,10],[0,1,2,3,4,5,6,7,8,9,10,11],[0,1,2,3,4,5,6,7,8,9,10,11,12]] 1000 mixT (by kernel_rfl) rfl ?_;repeat (first | refine zF ?_ | refine zG ?_ | refine sn222 ?_)
   refine zC (zJ (zA ?_));refine ev_Q tabT [] 1100 ?_;exact zP ⟨a.1 + 1,by omega⟩ ⟨⟨Sub.int (by push_cast;rfl),le_t⟩,⟨⟨rfl,Sub.refl _,rfl,Sub.refl _,rfl,Sub.refl _,rfl,Sub.refl _,rfl,Sub.refl _,rfl,Sub.refl _,rfl,Sub.own (by rw [range_snoc];exact (mapsnoc _ _).symm),rfl,Sub.own (by rw [take_snoc hlt];exact (mapsnoc _ _).symm),rfl,Sub.refl _,rfl,Sub.refl _,rfl,trivial⟩,⟨rfl,rfl,by rw [take_snoc hlt];simp⟩,⟨rfl,rfl,by rw [range_snoc];simp⟩,le_o⟩,rfl,rfl⟩ (by show x.keys.length - (a.1 + 1) < x.keys.length - a.1;omega)
 ·have hke : a.1 = x.keys.length := by simp at c3;omega
  refine yB (zW (zX (zS (zA ?_))));refine zB ?_;refine ev_R tabT [] 1200 ?_;refine zO ?_;refine zY (ι := {i : Nat // i ≤ y.keys.length}) [3,4,5,6,7,54,55] [0,1,2,3] 1250 (fun z => [(56,.v (.int .i64 z.1))]) (fun z => [(101,.box 37 [.v (.int .i64 3),.v (.string ByteArray.empty),.v (.int .i64 0),.v (.slice none 0 0),.v (.slice none 0 0),.v (.slice none 0 0),.own 201 7 ((unJ h x y z.1).map vlD),.own 200 7 ((unK h x y z.1).map vlD),.v (.int .i64 0),.v (.int .i64 0)]),(200,.row 32 7 ((unK h x y z.1).map vlD).length),(201,.row 32 7 ((unJ h x y z.1).map vlD).length)]) (fun z => y.keys.length - z.1) ⟨0,Nat.zero_le _⟩ ?_;refine ⟨⟨⟨Sub.int rfl,le_t⟩,⟨⟨rfl,Sub.refl _,rfl,Sub.refl _,rfl,Sub.refl _,rfl,Sub.refl _,rfl,Sub.refl _,rfl,Sub.refl _,rfl,Sub.own (by rw [unJ_0,hke]),rfl,Sub.own (by rw [unK_0,hke,List.take_length]),rfl,Sub.refl _,rfl,Sub.refl _,rfl,trivial⟩,⟨rfl,rfl,by rw [unK_0,hke,List.take_length]⟩,⟨rfl,rfl,by rw [unJ_0,hke]⟩,le_o⟩,rfl,rfl⟩,fun z => ?_⟩;have hk2 : z.1 ≤ y.keys.length := z.2;refine ev_R tabT [] 1300 ?_;refine zB ?_;refine zR rfl (fun c12 => ?_) (fun c12 => ?_)
  ·have hlt2 : z.1 < y.keys.length := by simpa using c12
   have hkl := unK_len h x y z.1;have hil := unJ_len h x y z.1;refine zL (zA ?_);refine zB ?_;refine zO ?_;refine ev_R tabT [] 1400 ?_;refine yF [3,4,5,6,7,12,13,54,55,56] [0,1,2,3,101,200,201,1303] 1410 [] [(1303,.box 32 (vlD (y.keys.getD z.1 vl0)))] ?_;refine ⟨⟨le_t,⟨⟨rfl,SubL.same rfl⟩,le_o⟩,rfl,rfl⟩,?_⟩;refine zB (zE tabT [] 1500 rfl ?_);refine zH ?_;refine zT _ (Place_ok h x.keys _ hh (fun k hk => keyed_dp (kx.keyed k hk))) rfl ?_;refine zH ?_;refine zC (zA ?_);refine yD (fun c14 => ?_) (fun c14 => ?_)
   ·
    refine zV tabT [] [[],[0],[],[2],[0,1,2,3],[],[5],[],[7],[],[7,8,9],[7,8,9,10],[7,8,9,10,11],[0,1,2,3,4,5,6,7,8,9,10,11,12],[0,1,2,3,4,5,6],[0,1,2,3,4,5,6,7,8,9,10,11,12,13,14],[0,1,2,3,4,5,6,7,8,9,10,11,12,13,14,15],[0,1,2,3,4,5,6,7,8,9,10,11,12,13,14,15,16]] 1600 mixT (by kernel_rfl) rfl ?_;repeat (first | refine zF ?_ | refine zG ?_ | refine sn222 ?_)
    refine zC (zJ (zA ?_));refine ev_Q tabT [] 1700 ?_;have hN := un_yes (h := h) (x := x) (y := y) c14;exact zP ⟨z.1 + 1,by omega⟩ ⟨⟨Sub.int (by push_cast;rfl),le_t⟩,⟨⟨rfl,Sub.refl _,rfl,Sub.refl _,rfl,Sub.refl _,rfl,Sub.refl _,rfl,Sub.refl _,rfl,Sub.refl _,rfl,Sub.own (by rw [hN.2];exact (mapsnoc _ _).symm),rfl,Sub.own (by rw [hN.1];exact (mapsnoc _ _).symm),rfl,Sub.refl _,rfl,Sub.refl _,rfl,trivial⟩,⟨rfl,rfl,by rw [hN.1];simp⟩,⟨rfl,rfl,by rw [hN.2];simp⟩,le_o⟩,rfl,rfl⟩ (by show y.keys.length - (z.1 + 1) < y.keys.length - z.1;omega)
   ·
    refine zL (zJ (zA ?_));refine ev_Q tabT [] 1700 ?_;have hN := un_no (h := h) (x := x) (y := y) (i := z.1) (by simpa using c14);exact zP ⟨z.1 + 1,by omega⟩ ⟨⟨Sub.int (by push_cast;rfl),le_t⟩,⟨⟨rfl,Sub.refl _,rfl,Sub.refl _,rfl,Sub.refl _,rfl,Sub.refl _,rfl,Sub.refl _,rfl,Sub.refl _,rfl,Sub.own (by rw [hN.2]),rfl,Sub.own (by rw [hN.1]),rfl,Sub.refl _,rfl,Sub.refl _,rfl,trivial⟩,⟨rfl,rfl,by rw [hN.1]⟩,⟨rfl,rfl,by rw [hN.2]⟩,le_o⟩,rfl,rfl⟩ (by show y.keys.length - (z.1 + 1) < y.keys.length - z.1;omega)
  ·have hke2 : z.1 = y.keys.length := by simp at c12;omega
   refine yB (zW (zX (zS (zA ?_))));refine ev_R tabT [] 1800 ?_;refine zM ?_;exact FinV.ret rfl (SubP.agg ⟨SubP.refl _,SubP.refl _,SubP.refl _,SubP.nilSl rfl,SubP.nilSl rfl,SubP.nilSl rfl,SubP.ownSl (by rw [hke2,unJ_all];rfl),SubP.ownSl (by rw [hke2];rfl),SubP.refl _,SubP.refl _,trivial⟩)
section
variable {P : Program} {b : Ba} {ops : Array Oper}
end
def ArgS : List D → List D → Prop
 | [],[] => True
 | d :: l,d' :: l' => Sub d d' ∧ ArgS l l'
 | _,_ => False
theorem ArgS.all {w : World} {s : Sb} {g : Gh} : ∀ {l l' : List D} {vs : List Value},ArgS l l' → AllT w s g (D.tvl l) vs → AllT w s g (D.tvl l') vs
 | [],[],_,_,h => h
 | d :: l,d' :: l',[],_,h => by rw [D.tvl] at h;simp [AllT] at h
 | d :: l,d' :: l',v :: vs,h,hv => by
  rw [D.tvl,AllT.cons] at hv;rw [D.tvl,AllT.cons];exact ⟨h.1 _ _ _ _ hv.1,h.2.all hv.2⟩
 | [],_ :: _,_,h,_ => h.elim
 | _ :: _,[],_,h,_ => h.elim
theorem FnG.args {P : Program} {f : FuncId} {args args' : List D} {own own' : List DOwn} {out : D} (h : FnG P f args own out own') (hs : ArgS args' args) : FnG P f args' own out own' :=
 ⟨h.bod,fun w s g vs hg ha => h.run w s g vs hg (hs.all ha)⟩
theorem FnG.out {P : Program} {f : FuncId} {args : List D} {own own' : List DOwn} {out out' : D} (h : FnG P f args own out own') (hs : Sub out out') : FnG P f args own out' own' :=
 ⟨h.bod,fun w s g vs hg ha => (h.run w s g vs hg ha).mono fun r w' hq => by
  obtain ⟨s',g',v,h1,h2,h3⟩ := hq;exact ⟨s',g',v,h1,hs _ _ _ _ h2,h3⟩⟩
variable {md me : Bool}
theorem upd_obI {h : List Ob} {n : Nat} {o : Ob} {row : List D} (hr : D.pvs row = D.pvs (obD o)) : D.pvss ((h.map obD).set n row) = D.pvss ((h.set n o).map obD) := by
 rw [yE,yE,List.map_set,hr,List.map_map,List.map_map,List.map_set];rfl
theorem ob_items (o : Ob) (k : Nat) (l : List Vl) : D.pvs ((obD o).take 6 ++ [.own k 7 (l.map vlD)] ++ (obD o).drop 7) = D.pvs (obD { o with items := l }) := by
 show D.pvs [_,_,_,_,_,_,D.own k 7 (l.map vlD),_,_,_] = D.pvs [_,_,_,_,_,_,D.sl false 7 l vlD vl0,_,_,_];simp only [D.pvs,D.pv,yE,List.map_map];rfl
theorem dict_len {h : List Ob} (g : Uh h) {v : Vl} (hk : (objS h v).kind = 3) : (objS h v).items.length = (objS h v).keys.length := by
 obtain ⟨h6,ho,e⟩ := objS_of (h := h) (v := v) (by omega);rw [e] at hk ⊢;have hin := yM ho;have h49 : ¬ v.r.toNat < 49 := fun hl => by
  rw [show obAt h v.r = bgO v.r.toNat from g.lo_at hl] at hk;exact absurd hk (by show ¬ (9 : Int) = 3;decide)
 have u := g.hi_at (i := v.r.toNat) (by omega) hin.2;rw [← obAt_nat hin] at u;have h1 := (sh_of u.shape).1;unfold cntS at h1;rw [hk,if_neg (by decide +kernel),if_neg (by decide +kernel),if_neg (by decide +kernel),if_pos (by decide +kernel)] at h1;omega
theorem keys_le {h : List Ob} (g : Uh h) (v : Vl) : (objS h v).keys.length ≤ 1000 ∧ (objS h v).items.length ≤ 1000 := by
 by_cases hk : (objS h v).kind = 0
 ·unfold objS at hk ⊢;split
  ·rename_i h1;have := h1.2;simp only [qK,Bool.and_eq_true,Bool.not_eq_true',decide_eq_false_iff_not] at this;rw [if_pos h1] at hk;exact absurd hk this.2
  ·exact ⟨by decide,by decide⟩
 ·obtain ⟨h6,ho,e⟩ := objS_of (h := h) (v := v) hk;rw [e];have hin := yM ho;by_cases h49 : v.r.toNat < 49
  ·rw [show obAt h v.r = bgO v.r.toNat from g.lo_at h49];exact ⟨Nat.zero_le _,Nat.zero_le _⟩
  ·have u := g.hi_at (i := v.r.toNat) (by omega) hin.2;rw [← obAt_nat hin] at u;have hz := u.sizes;unfold sizesS at hz;split at hz
   ·cases hz
   ·split at hz
    ·cases hz
    ·rename_i h2;simp only [Bool.or_eq_true,decide_eq_true_eq,not_or] at h2;obtain ⟨h3,h4⟩ := h2;unfold mx3 at h3;repeat' split at h3
     all_goals omega
theorem chk_hp (s : St) (h : List Ob) : chkG 2 (.agg (stD s)) (hpO h) = true := rfl
theorem upd_two {h : List Ob} {n : Nat} {o : Ob} {r1 r2 : List D} (hr : D.pvs r2 = D.pvs (obD o)) : D.pvss (((h.map obD).set n r1).set n r2) = D.pvss ((h.set n o).map obD) := by
 rw [List.set_set];exact upd_obI hr
theorem isObj_of {h : List Ob} {v : Vl} (hk : (objS h v).kind = 3 ∨ (objS h v).kind = 4) : v.k = 6 ∧ qK h v.r = true := by
 obtain ⟨h6,ho,_⟩ := objS_of (h := h) (v := v) (by omega);exact ⟨h6,ho⟩
def paF (g : Vl → Int → Vl × Bool × Int) (v : Vl) : List Vl → Int → Vl × Bool × Int
 | [],left => (v,true,left)
 | w :: l,left => if left < 0 then (v,true,left) else if (g w left).2.1 = false then ((g w left).1,false,(g w left).2.2) else paF g v l (g w left).2.2
def paP (h : List Ob) (g : Vl → Int → Vl × Bool × Int) (v : Vl) (left : Int) : Vl × Bool × Int :=
 if (objS h v).kind = 2 ∨ (objS h v).kind = 3 ∨ (objS h v).kind = 4 ∨ (objS h v).kind = 5 then (v,decide (left - 1 < 0),left - 1)
 else if (objS h v).kind = 1 then paF g v (objS h v).items (left - 1) else (v,true,left - 1)
def paS (h : List Ob) : Nat → Vl → Int → Vl × Bool × Int
 | 0 => fun v _ => (v,true,-1)
 | f + 1 => paP h (paS h f)
structure PaO (h : List Ob) (left : Int) (l rest out : List Vl) (r : Vl × Bool × Int) : Prop where
 lo : -1 ≤ r.2.2
 hi : r.2.2 ≤ left
 no : r.2.1 = false → 0 ≤ r.2.2 ∧ ∃ L,ptS h (left + 1).toNat (l ++ rest) out = (out ++ L ++ [r.1],false) ∧ (L.length : Int) + 1 = left - r.2.2
 yes : r.2.1 = true → 0 ≤ r.2.2 → ∃ L,ptS h (left + 1).toNat (l ++ rest) out = ptS h (r.2.2 + 1).toNat rest (out ++ L) ∧ (L.length : Int) = left - r.2.2
 end_ : r.2.1 = true → r.2.2 < 0 → ∃ L b,ptS h (left + 1).toNat (l ++ rest) out = (out ++ L,b) ∧ (L.length : Int) = left + 1
section
variable {h : List Ob} (g : Uh h)
include g
omit g in
theorem pa_loop {F : Vl → Int → Vl × Bool × Int} (v : Vl) : ∀ (l : List Vl) (left : Int) (rest out : List Vl),-1 ≤ left → (∀ w ∈ l,∀ (k : Int) (rest out : List Vl),0 ≤ k → k ≤ left → PaO h k [w] rest out (F w k)) → PaO h left l rest out (paF F v l left)
 | [],left,rest,out,h1,_ => by
  refine ⟨h1,Int.le_refl _,(fun hh => by cases hh),fun _ h0 => ⟨[],by rw [List.append_nil];rfl,by show (0 : Int) = left - left;omega⟩,fun _ h0 => ⟨[],true,?_,by show (0 : Int) = left + 1;have h0 : left < 0 := h0;omega⟩⟩;have h0 : left < 0 := h0;rw [show (left + 1).toNat = 0 by omega,List.append_nil];rfl
 | w :: l,left,rest,out,h1,hF => by
  by_cases c1 : left < 0
  ·have e : paF F v (w :: l) left = (v,true,left) := by rw [paF,if_pos c1]
   rw [e];refine ⟨h1,Int.le_refl _,(fun hh => by cases hh),fun _ h0 => absurd h0 (by show ¬ (0 : Int) ≤ left;omega),fun _ _ => ⟨[],true,?_,by simp;omega⟩⟩;rw [show (left + 1).toNat = 0 by omega,List.append_nil];rfl
  ·have hw := hF w List.mem_cons_self left (l ++ rest) out (by omega) (Int.le_refl _);have hlo := hw.lo;have hhi := hw.hi;by_cases c2 : (F w left).2.1 = false
   ·have e : paF F v (w :: l) left = ((F w left).1,false,(F w left).2.2) := by rw [paF,if_neg c1,if_pos c2]
    rw [e];refine ⟨hlo,hhi,fun _ => hw.no c2,(fun hh => by cases hh),(fun hh => by cases hh)⟩
   ·have c2' : (F w left).2.1 = true := by simpa using c2
    have e : paF F v (w :: l) left = paF F v l (F w left).2.2 := by rw [paF,if_neg c1,if_neg c2]
    rw [e];by_cases c3 : (F w left).2.2 < 0
    ·obtain ⟨L,b,e1,e2⟩ := hw.end_ c2' c3;have hm : (F w left).2.2 = -1 := by omega
     have e3 : paF F v l (F w left).2.2 = (v,true,(F w left).2.2) := by
      cases l with
      | nil => rfl
      | cons x l => rw [paF,if_pos c3]
     rw [e3];exact ⟨hlo,hhi,(fun hh => by cases hh),fun _ h0 => absurd (show 0 ≤ (F w left).2.2 from h0) (by omega),fun _ _ => ⟨L,b,e1,e2⟩⟩
    ·obtain ⟨L,e1,e2⟩ := hw.yes c2' (by omega);have e1 : ptS h (left + 1).toNat (w :: l ++ rest) out = ptS h ((F w left).2.2 + 1).toNat (l ++ rest) (out ++ L) := e1;have ih := pa_loop v l (F w left).2.2 rest (out ++ L) hlo fun x hx k rest out h0 hk => hF x (List.mem_cons_of_mem _ hx) k rest out h0 (by omega);refine ⟨ih.lo,by have := ih.hi;omega,fun hb => ?_,fun hb h0 => ?_,fun hb h0 => ?_⟩
     ·obtain ⟨a1,L2,a2,a3⟩ := ih.no hb;exact ⟨a1,L ++ L2,by rw [e1,a2];simp,by rw [List.length_append];push_cast;omega⟩
     ·obtain ⟨L2,a2,a3⟩ := ih.yes hb h0;exact ⟨L ++ L2,by rw [e1,a2];simp,by rw [List.length_append];push_cast;omega⟩
     ·obtain ⟨L2,b,a2,a3⟩ := ih.end_ hb h0;exact ⟨L ++ L2,b,by rw [e1,a2];simp,by rw [List.length_append];push_cast;omega⟩
theorem pa_spec : ∀ (f : Nat) (v : Vl) (left : Int) (rest out : List Vl),Vd h v → 0 ≤ left → left < f → PaO h left [v] rest out (paS h f v left) ∧ (paS h f v left).2.2 < left
 | 0,_,left,_,_,_,h0,h1 => by omega
 | f + 1,v,left,rest,out,hv,h0,h1 => by
  have h9 : ¬ v.k = 9 := fun hk => by
   have := hv.1;unfold vokS at this;rw [if_neg (by omega),if_neg (by omega),if_neg (by omega),if_neg (by omega),if_neg (by omega),if_neg (by omega),if_neg (by omega),if_neg (by omega)] at this
   cases this
  have ef : (left + 1).toNat = (left - 1 + 1).toNat + 1 := by omega
  rw [paS,paP];by_cases c1 : (objS h v).kind = 2 ∨ (objS h v).kind = 3 ∨ (objS h v).kind = 4 ∨ (objS h v).kind = 5
  ·have hb : badS h v = true := by
    unfold badS;simp only [Bool.or_eq_true,decide_eq_true_eq];omega
   have e : ptS h (left + 1).toNat ([v] ++ rest) out = (out ++ [v],false) := by
    rw [ef];show ptS h _ (v :: rest) out = _;rw [ptS_cons,if_pos hb]
   rw [if_pos c1];refine ⟨⟨by show -1 ≤ left - 1;omega,by show left - 1 ≤ left;omega,fun hh => ?_,fun hh h2 => ?_,fun hh h2 => ⟨[v],false,e,?_⟩⟩,by show left - 1 < left;omega⟩
   ·have hh : ¬ left - 1 < 0 := of_decide_eq_false hh;exact ⟨by show 0 ≤ left - 1;omega,[],by rw [e,List.append_nil],by show (0 : Int) + 1 = left - (left - 1);omega⟩
   ·have hh : left - 1 < 0 := of_decide_eq_true hh;have h2 : 0 ≤ left - 1 := h2;omega
   ·have h2 : left - 1 < 0 := h2;show (1 : Int) = left + 1;omega
  ·have hb : ¬ badS h v = true := by
    unfold badS;simp only [Bool.or_eq_true,decide_eq_true_eq];omega
   rw [if_neg c1];by_cases c2 : (objS h v).kind = 1
   ·rw [if_pos c2];have hl := (keys_le g v).2;have e : ptS h (left + 1).toNat ([v] ++ rest) out = ptS h (left - 1 + 1).toNat ((objS h v).items ++ rest) (out ++ [v]) := by
     rw [ef];show ptS h _ (v :: rest) out = _;rw [ptS_cons,if_neg hb,if_pos c2,List.take_of_length_le (by omega)]
    have hit : ∀ w ∈ (objS h v).items,Vd h w := fun w hw => by
     obtain ⟨h6,ho,eo⟩ := objS_of (h := h) (v := v) (by omega);rw [eo] at hw c2;exact ⟨it_vok g ho c2 hw,it_rv g ho hw⟩
    have ih := pa_loop (F := paS h f) v (objS h v).items (left - 1) rest (out ++ [v]) (by omega) fun w hw k rest out hk0 hk => (pa_spec f w k rest out (hit w hw) hk0 (by omega)).1;have hhi := ih.hi;refine ⟨⟨ih.lo,by omega,fun hb => ?_,fun hb h2 => ?_,fun hb h2 => ?_⟩,by omega⟩
    ·obtain ⟨a1,L,a2,a3⟩ := ih.no hb;exact ⟨a1,v :: L,by rw [e,a2];simp,by rw [List.length_cons];push_cast;omega⟩
    ·obtain ⟨L,a2,a3⟩ := ih.yes hb h2;exact ⟨v :: L,by rw [e,a2];simp,by rw [List.length_cons];push_cast;omega⟩
    ·obtain ⟨L,b,a2,a3⟩ := ih.end_ hb h2;exact ⟨v :: L,b,by rw [e,a2];simp,by rw [List.length_cons];push_cast;omega⟩
   ·rw [if_neg c2];have e : ptS h (left + 1).toNat ([v] ++ rest) out = ptS h (left - 1 + 1).toNat rest (out ++ [v]) := by
     rw [ef];show ptS h _ (v :: rest) out = _;rw [ptS_cons,if_neg hb,if_neg c2]
    refine ⟨⟨by show -1 ≤ left - 1;omega,by show left - 1 ≤ left;omega,(fun hh => by cases hh),fun _ _ => ⟨[v],e,by show (1 : Int) = left - (left - 1);omega⟩,fun _ h2 => ⟨[v],true,?_,?_⟩⟩,by show left - 1 < left;omega⟩
    ·have h2 : left - 1 < 0 := h2;rw [e,show (left - 1 + 1).toNat = 0 by omega];rfl
    ·have h2 : left - 1 < 0 := h2;show (1 : Int) = left + 1;omega
theorem pa_key {v : Vl} (hv : Vd h v) : ((paS h 1001 v 1000).2.1 = false → (yP h v).2 = false ∧ (yP h v).1.length ≤ 1000 ∧ (yP h v).1.getD ((yP h v).1.length - 1) vl0 = (paS h 1001 v 1000).1)
  ∧ ((paS h 1001 v 1000).2.1 = true → (paS h 1001 v 1000).2.2 < 0 → 1000 < (yP h v).1.length) ∧ ((paS h 1001 v 1000).2.1 = true → 0 ≤ (paS h 1001 v 1000).2.2 → keyedS h v = true) := by
 have hp := (pa_spec g 1001 v 1000 [] [] hv (by decide) (by decide)).1;have e : ptS h ((1000 : Int) + 1).toNat ([v] ++ []) [] = yP h v := rfl;refine ⟨fun hb => ?_,fun hb h0 => ?_,fun hb h0 => ?_⟩
 ·obtain ⟨a1,L,a2,a3⟩ := hp.no hb;rw [e,List.nil_append] at a2;rw [a2];refine ⟨rfl,?_,?_⟩
  ·show (L ++ [_]).length ≤ 1000;rw [List.length_append,List.length_singleton];omega
  ·show (L ++ [(paS h 1001 v 1000).1]).getD ((L ++ [_]).length - 1) vl0 = _;rw [List.length_append,List.length_singleton,Nat.add_sub_cancel,List.getD_eq_getElem?_getD,List.getElem?_append_right (Nat.le_refl _),Nat.sub_self];rfl
 ·obtain ⟨L,b,a2,a3⟩ := hp.end_ hb h0;rw [e,List.nil_append] at a2;rw [a2];show 1000 < L.length;omega
 ·obtain ⟨L,a2,a3⟩ := hp.yes hb h0;rw [e,List.nil_append] at a2;have a4 : ptS h ((paS h 1001 v 1000).2.2 + 1).toNat [] L = (L,true) := by
   rw [show ((paS h 1001 v 1000).2.2 + 1).toNat = (paS h 1001 v 1000).2.2.toNat + 1 by omega];rfl
  rw [a4] at a2;rw [keyedS,a2];show (true && decide ((L.length : Int) ≤ 1000)) = true;rw [Bool.true_and,decide_eq_true_eq];omega
end
variable {md me : Bool}
theorem pa_rng (h : List Ob) : ∀ (f : Nat) (v : Vl) (left : Int),0 ≤ left → -1 ≤ (paS h f v left).2.2 ∧ (paS h f v left).2.2 ≤ left
 | 0,_,left,h0 => by show (-1 : Int) ≤ -1 ∧ (-1 : Int) ≤ left;omega
 | f + 1,v,left,h0 => by
  have hl : ∀ (l : List Vl) (k : Int),-1 ≤ k → -1 ≤ (paF (paS h f) v l k).2.2 ∧ (paF (paS h f) v l k).2.2 ≤ k := by
   intro l;induction l with
   | nil => intro k hk;exact ⟨hk,Int.le_refl _⟩
   | cons w l ih =>
    intro k hk;rw [paF];split
    ·exact ⟨hk,Int.le_refl _⟩
    ·have h1 := pa_rng h f w k (by omega);split
     ·exact h1
     ·have h2 := ih (paS h f w k).2.2 h1.1;omega
  rw [paS,paP];split
  ·show -1 ≤ left - 1 ∧ left - 1 ≤ left;omega
  ·split
   ·have := hl (objS h v).items (left - 1) (by omega);omega
   ·show -1 ≤ left - 1 ∧ left - 1 ≤ left;omega
theorem pa_vd {h : List Ob} (g : Uh h) : ∀ (f : Nat) (v : Vl) (left : Int),Vd h v → Vd h (paS h f v left).1
 | 0,_,_,hv => hv
 | f + 1,v,left,hv => by
  have hl : ∀ (l : List Vl) (k : Int),(∀ w ∈ l,Vd h w) → Vd h (paF (paS h f) v l k).1 := by
   intro l;induction l with
   | nil => intro k _;exact hv
   | cons w l ih =>
    intro k hw;rw [paF];split
    ·exact hv
    ·split
     ·exact pa_vd g f w k (hw w List.mem_cons_self)
     ·exact ih _ fun x hx => hw x (List.mem_cons_of_mem _ hx)
  rw [paS,paP];split
  ·exact hv
  ·split
   ·rename_i c2;refine hl _ _ fun w hw => ?_;obtain ⟨h6,ho,eo⟩ := objS_of (h := h) (v := v) (by omega);rw [eo] at hw c2;exact ⟨it_vok g ho c2 hw,it_rv g ho hw⟩
   ·exact hv
theorem vd_has {h : List Ob} {v : Vl} (hv : Vd h v) : hasS h v = true := by
 simp only [hasS,Bool.and_eq_true,Bool.or_eq_true,Bool.not_eq_true',decide_eq_false_iff_not];refine ⟨hv.1,?_⟩;by_cases hk : v.k = 6
 ·exact .inr (hv.2 hk)
 ·exact .inl hk
structure Pw (F : Vl → Int → Vl × Bool × Int) (v : Vl) (l : List Vl) (l0 : Int) where
 k : Nat
 left : Int
 le : k ≤ l.length
 lo : -1 ≤ left
 hi : left ≤ l0
 eq : paF F v (l.drop k) left = paF F v l l0
theorem pw_drop {l : List Vl} {k : Nat} (hk : k < l.length) : l.drop k = l.getD k vl0 :: l.drop (k + 1) := by
 rw [List.drop_eq_getElem_cons hk,List.getD_eq_getElem?_getD,List.getElem?_eq_getElem hk];rfl
def Pw.next {F : Vl → Int → Vl × Bool × Int} {v : Vl} {l : List Vl} {l0 : Int} (x : Pw F v l l0) (hF : ∀ w k,0 ≤ k → -1 ≤ (F w k).2.2 ∧ (F w k).2.2 ≤ k) (hk : x.k < l.length) (h0 : ¬ x.left < 0) (h1 : ¬ (F (l.getD x.k vl0) x.left).2.1 = false) : Pw F v l l0 :=
 ⟨x.k + 1,(F (l.getD x.k vl0) x.left).2.2,hk,(hF _ _ (by omega)).1,by have := (hF (l.getD x.k vl0) x.left (by omega)).2;have := x.hi;omega,by rw [← x.eq,pw_drop hk,paF,if_neg h0,if_neg h1]⟩
theorem Pw.out {F : Vl → Int → Vl × Bool × Int} {v : Vl} {l : List Vl} {l0 : Int} (x : Pw F v l l0) (hk : x.k < l.length) (h0 : x.left < 0) : paF F v l l0 = (v,true,x.left) := by rw [← x.eq,pw_drop hk,paF,if_pos h0]
theorem Pw.bad {F : Vl → Int → Vl × Bool × Int} {v : Vl} {l : List Vl} {l0 : Int} (x : Pw F v l l0) (hk : x.k < l.length) (h0 : ¬ x.left < 0) (h1 : (F (l.getD x.k vl0) x.left).2.1 = false) : paF F v l l0 = ((F (l.getD x.k vl0) x.left).1,false,(F (l.getD x.k vl0) x.left).2.2) := by rw [← x.eq,pw_drop hk,paF,if_neg h0,if_pos h1]
theorem Pw.fin {F : Vl → Int → Vl × Bool × Int} {v : Vl} {l : List Vl} {l0 : Int} (x : Pw F v l l0) (hk : ¬ x.k < l.length) : paF F v l l0 = (v,true,x.left) := by
 rw [← x.eq,List.drop_of_length_le (by omega),paF]
def paD (r : Vl × Bool × Int) : D := .tpo [.agg (vlD r.1),.v (.bool r.2.1)]
def lfO (left : Int) : List DOwn := [.box 3 [.v (.int .i64 left)]]
theorem cmpObject_ok (h : List Ob) (v : Vl) (hv : v.k = 6 → qK h v.r = true) : Fn Tryz.prog 183 [hpD md h,.agg (vlD v)] (.agg (obD (objS h v))) := by
 refine yJ tabT Tryz.func183 rfl rfl rfl rfl rfl rfl ?_;intro w0 s0 mx;refine ev_R tabT [] 100 ?_;refine zB ?_;refine ev_R tabT [] 200 ?_;refine yD (fun c1 => ?_) (fun c1 => ?_)
 ·
  refine ev_R tabT [] 300 ?_;refine zM (zK ?_);have e : objS h v = ob0 := objS_no c1;rw [e];exact FinV.ret rfl (by repeat (first | exact trivial | exact SubP.refl _ | exact SubP.nilSl rfl | refine SubP.agg ?_ | refine ⟨?_,?_⟩))
 ·
  refine zL (zA ?_);refine zB (zE tabT [] 400 rfl ?_);repeat (first | refine zF ?_ | refine zG ?_ | refine zQ (by exact yM (hv c1)) ?_)
  refine zC (zA (zM ?_));have e : objS h v = h.getD v.r.toNat ob0 := objS_at hv c1;rw [e];exact FinV.ret rfl (by repeat (first | exact trivial | exact SubP.refl _ | exact SubP.nilSl rfl | refine SubP.agg ?_ | refine ⟨?_,?_⟩))
theorem cmpRaise_ok (c : Int) (s : ByteArray) : Fn Tryz.prog 163 [.v (.int .i64 c),.v (.string s)] (.agg (stD (raS c s))) := by
 refine yJ tabT Tryz.func163 rfl rfl rfl rfl rfl rfl ?_;intro w0 s0 mx;refine ev_R tabT [] 100 ?_;refine ev_R tabT [] 200 ?_;refine zM ?_;exact FinV.ret rfl (SubP.agg (by repeat (first | exact trivial | exact SubP.refl _ | exact SubP.nilSl rfl | refine ⟨?_,?_⟩)))
set_option maxHeartbeats 1000000 in
theorem part_step (h : List Ob) (v : Vl) (left : Int) (F : Vl → Int → Vl × Bool × Int) (g : Uh h) (hv : v.k = 6 → qK h v.r = true) (h0 : 0 ≤ left) (h1 : left ≤ 1000) (hF : ∀ w k,0 ≤ k → -1 ≤ (F w k).2.2 ∧ (F w k).2.2 ≤ k) (H : (objS h v).kind = 1 → ∀ w ∈ (objS h v).items,∀ k,0 ≤ k → k < left → FnG Tryz.prog 162 [hpD md h,.agg (vlD w),.bp 0 0] (lfO k) (paD (F w k)) (lfO (F w k).2.2)) : FnG Tryz.prog 162 [hpD md h,.agg (vlD v),.bp 0 0] (lfO left) (paD (paP h F v left)) (lfO (paP h F v left).2.2) := by
 have hil := (keys_le g v).2;refine fnH_ev tabT Tryz.func162 rfl rfl rfl rfl rfl rfl rfl ?_;intro w0 s0 mx;refine ev_R tabT [] 100 ?_;refine ev_R tabT [] 200 ?_;refine zB (zE tabT [] 300 rfl ?_);refine zH ?_;refine zT _ (cmpObject_ok h v hv) rfl ?_;refine zH ?_;refine zC (zA ?_);refine zB ?_;refine ev_R tabT [] 400 ?_;refine zO ?_;refine zB ?_;refine ev_R tabT [] 500 ?_;refine yD (fun c4 => ?_) (fun c4 => ?_)
 ·
  refine zL (zA ?_);refine yD (fun c4x => ?_) (fun c4x => ?_)
  ·
   refine zB (zV tabT [] [[],[],[1],[1,2],[1,2,3],[0],[0,1,2,3,4,5]] 900 mixT (by kernel_rfl) rfl ?_);refine zH ?_;refine zC (zA (zM (zN (zK ?_))));have e : paP h F v left = _ := if_pos (by omega);rw [e];exact FinH.ret 1 rfl rfl (Sub.refl _) ⟨⟨rfl,Sub.refl _,rfl,trivial⟩,trivial⟩
  ·
   simp_all
 ·
  refine ev_R tabT [] 600 ?_;refine yD (fun c5 => ?_) (fun c5 => ?_)
  ·
   refine zL (zA ?_);refine yD (fun c5x => ?_) (fun c5x => ?_)
   ·
    refine zB (zV tabT [] [[],[],[1],[1,2],[1,2,3],[0],[0,1,2,3,4,5]] 900 mixT (by kernel_rfl) rfl ?_);refine zH ?_;refine zC (zA (zM (zN (zK ?_))));have e : paP h F v left = _ := if_pos (by omega);rw [e];exact FinH.ret 1 rfl rfl (Sub.refl _) ⟨⟨rfl,Sub.refl _,rfl,trivial⟩,trivial⟩
   ·
    simp_all
  ·
   refine ev_R tabT [] 700 ?_;refine yD (fun c6 => ?_) (fun c6 => ?_)
   ·
    refine zL (zA ?_);refine yD (fun c6x => ?_) (fun c6x => ?_)
    ·
     refine zB (zV tabT [] [[],[],[1],[1,2],[1,2,3],[0],[0,1,2,3,4,5]] 900 mixT (by kernel_rfl) rfl ?_);refine zH ?_;refine zC (zA (zM (zN (zK ?_))));have e : paP h F v left = _ := if_pos (by omega);rw [e];exact FinH.ret 1 rfl rfl (Sub.refl _) ⟨⟨rfl,Sub.refl _,rfl,trivial⟩,trivial⟩
    ·
     simp_all
   ·
    refine ev_Q tabT [] 800 ?_;refine zA ?_;refine yD (fun c7 => ?_) (fun c7 => ?_)
    ·
     refine zB (zV tabT [] [[],[],[1],[1,2],[1,2,3],[0],[0,1,2,3,4,5]] 900 mixT (by kernel_rfl) rfl ?_);refine zH ?_;refine zC (zA (zM (zN (zK ?_))));have e : paP h F v left = _ := if_pos (by omega);rw [e];exact FinH.ret 1 rfl rfl (Sub.refl _) ⟨⟨rfl,Sub.refl _,rfl,trivial⟩,trivial⟩
    ·
     refine ev_R tabT [] 1000 ?_;refine yD (fun c9 => ?_) (fun c9 => ?_)
     ·
      refine ev_R tabT [] 1100 ?_;refine zO ?_;refine zY (ι := Pw F v (objS h v).items (left - 1)) [2,3,4,6,36,37] [1,2,3] 1150 (fun x => [(38,.v (.int .i64 x.k))]) (fun x => [(0,.box 3 [.v (.int .i64 x.left)])]) (fun x => (objS h v).items.length - x.k) ⟨0,left - 1,Nat.zero_le _,by omega,Int.le_refl _,rfl⟩ ?_;refine ⟨⟨⟨Sub.int rfl,le_t⟩,⟨⟨rfl,Sub.int rfl,rfl,trivial⟩,le_o⟩,rfl,rfl⟩,fun x => ?_⟩;have hk := x.le;have hlo := x.lo;have hhi := x.hi;refine ev_R tabT [] 1200 ?_;refine zB ?_;refine zR rfl (fun c11 => ?_) (fun c11 => ?_)
      ·have c11 : x.k < (objS h v).items.length := by simpa using c11
       refine zL (zA ?_);refine zB ?_;refine zO ?_;refine ev_R tabT [] 1300 ?_;refine zB ?_;refine yF [2,3,4,6,10,36,37,38] [0,1,2,3,1202] 1310 [] [(1202,.box 32 (vlD ((objS h v).items.getD x.k vl0)))] ?_;refine ⟨⟨le_t,⟨⟨rfl,SubL.same rfl⟩,le_o⟩,rfl,rfl⟩,?_⟩;refine ev_R tabT [] 1400 ?_;refine zR rfl (fun c13 => ?_) (fun c13 => ?_)
       ·have c13 : x.left < 0 := by simpa using c13
        refine ev_R tabT [] 1500 ?_;refine zM (zK (zN (zK (yH (zN (zN (zK ?_)))))));have e : paP h F v left = _ := (if_neg (by omega)).trans ((if_pos c9).trans (x.out c11 c13));rw [e];exact FinH.ret 1 rfl rfl (Sub.refl _) ⟨⟨rfl,Sub.refl _,rfl,trivial⟩,trivial⟩
       ·have c13 : ¬ x.left < 0 := by simpa using c13
        have hFx := hF ((objS h v).items.getD x.k vl0) x.left (by omega);refine zL (zA ?_);refine zB (zE tabT [1051] 1600 rfl ?_);refine zH ?_;refine yK _ _ (H c9 ((objS h v).items.getD x.k vl0) (getD_m c11) x.left (by omega) (by have := x.hi;omega)) rfl ?_;refine zH ?_;refine zC (zA ?_);refine yF [2,3,4,6,11,36,37,38] [1,2,3,1407] 1610 [(12,.v (.bool (F ((objS h v).items.getD x.k vl0) x.left).2.1))] [(0,.box 3 [.v (.int .i64 (F ((objS h v).items.getD x.k vl0) x.left).2.2)]),(1407,.box 32 (vlD (F ((objS h v).items.getD x.k vl0) x.left).1))] ?_;refine ⟨⟨le_t,⟨⟨rfl,Sub.refl _,rfl,trivial⟩,⟨rfl,SubL.same rfl⟩,le_o⟩,rfl,rfl⟩,?_⟩;refine ev_R tabT [] 1700 ?_;refine zR rfl (fun c16 => ?_) (fun c16 => ?_)
        ·have c16 : (F ((objS h v).items.getD x.k vl0) x.left).2.1 = false := by simpa using c16
         refine ev_R tabT [] 1800 ?_;refine zM (zN (zK (yH (zN (zN (zK ?_))))));have e : paP h F v left = _ := (if_neg (by omega)).trans ((if_pos c9).trans (x.bad c11 c13 c16));rw [e];exact FinH.ret 1 rfl rfl (Sub.refl _) ⟨⟨rfl,Sub.refl _,rfl,trivial⟩,trivial⟩
        ·have c16 : ¬ (F ((objS h v).items.getD x.k vl0) x.left).2.1 = false := by simpa using c16
         refine zL (zJ (zA ?_));refine ev_Q tabT [] 1900 ?_;exact zP (x.next hF c11 c13 c16) ⟨⟨Sub.int (by show (x.k : Int) + 1 = ((x.k + 1 : Nat) : Int);push_cast;rfl),le_t⟩,⟨⟨rfl,Sub.refl _,rfl,trivial⟩,le_o⟩,rfl,rfl⟩ (by show (objS h v).items.length - (x.k + 1) < (objS h v).items.length - x.k;omega)
      ·have c11 : ¬ x.k < (objS h v).items.length := by simpa using c11
       refine yB (zW (zX (zS (zJ (zA ?_)))));refine ev_R tabT [] 2000 ?_;refine zM ?_;have e : paP h F v left = _ := (if_neg (by omega)).trans ((if_pos c9).trans (x.fin c11));rw [e];exact FinH.ret 1 rfl rfl (Sub.refl _) ⟨⟨rfl,Sub.refl _,rfl,trivial⟩,trivial⟩
     ·
      refine zL (zJ (zA ?_));refine ev_R tabT [] 2000 ?_;refine zM ?_;have e : paP h F v left = _ := (if_neg (by omega)).trans (if_neg c9);rw [e];exact FinH.ret 1 rfl rfl (Sub.refl _) ⟨⟨rfl,Sub.refl _,rfl,trivial⟩,trivial⟩
theorem part_n {h : List Ob} (g : Uh h) : ∀ (f : Nat) (v : Vl) (left : Int),Rv h v → 0 ≤ left → left < f → left ≤ 1000 → FnG Tryz.prog 162 [hpD md h,.agg (vlD v),.bp 0 0] (lfO left) (paD (paS h f v left)) (lfO (paS h f v left).2.2)
 | 0,_,left,_,h0,h1,_ => by omega
 | f + 1,v,left,hv,h0,h1,h2 => part_step h v left (paS h f) g hv h0 h2 (fun w k hk => pa_rng h f w k hk) fun hk1 w hw k hk hkl => part_n g f w k (by
   obtain ⟨h6,ho,eo⟩ := objS_of (h := h) (v := v) (by omega);rw [eo] at hw;exact it_rv g ho hw) hk (by omega) (by omega)
def kqB : ByteArray := ⟨#[39]⟩
def kmB : ByteArray := ⟨#[39,32,99,97,110,110,111,116,32,98,101,32,97,32,107,101,121]⟩
def keyR (h : List Ob) (v : Vl) : St := if (paS h 1001 v 1000).2.1 = false then raS 32 (kqB ++ (obAt h (clA h (paS h 1001 v 1000).1)).name ++ kmB) else if (paS h 1001 v 1000).2.2 < 0 then raS 42 tooB else st0
theorem kbsz (a : Array UInt8) : (⟨a⟩ : ByteArray).size = a.size := rfl
theorem key_cases {h : List Ob} (g : Uh h) {v : Vl} (hv : Vd h v) :
  ((paS h 1001 v 1000).2.1 = false ∧ (yP h v).2 = false ∧ (yP h v).1.length ≤ 1000 ∧ 0 < (yP h v).1.length ∧ (yP h v).1.getD (((yP h v).1.length : Int) - 1).toNat vl0 = (paS h 1001 v 1000).1 ∧ keyR h v = raS 32 (kqB ++ (obAt h (clA h (paS h 1001 v 1000).1)).name ++ kmB))
  ∨ ((paS h 1001 v 1000).2.1 = true ∧ (paS h 1001 v 1000).2.2 < 0 ∧ 1000 < (yP h v).1.length ∧ keyR h v = raS 42 tooB)
  ∨ ((paS h 1001 v 1000).2.1 = true ∧ 0 ≤ (paS h 1001 v 1000).2.2 ∧ (yP h v).2 = true ∧ (yP h v).1.length ≤ 1000 ∧ keyedS h v = true ∧ keyR h v = st0) := by
 obtain ⟨a,b,c⟩ := pa_key g hv;by_cases h1 : (paS h 1001 v 1000).2.1 = false
 ·obtain ⟨a1,a2,a3⟩ := a h1;refine .inl ⟨h1,a1,a2,?_,?_,if_pos h1⟩
  ·have hp := (pa_spec g 1001 v 1000 [] [] hv (by decide) (by decide)).1;obtain ⟨_,L,e,_⟩ := hp.no h1;have e : yP h v = _ := e;rw [e];show 0 < ([] ++ L ++ [_]).length;rw [List.length_append];exact Nat.succ_pos _
  ·rw [show (((yP h v).1.length : Int) - 1).toNat = (yP h v).1.length - 1 by omega];exact a3
 ·have h1' : (paS h 1001 v 1000).2.1 = true := by simpa using h1
  by_cases h2 : (paS h 1001 v 1000).2.2 < 0
  ·exact .inr (.inl ⟨h1',h2,b h1' h2,(if_neg h1).trans (if_pos h2)⟩)
  ·have hk := c h1' (by omega);have hk2 := hk;simp only [keyedS,Bool.and_eq_true,decide_eq_true_eq] at hk2;exact .inr (.inr ⟨h1',by omega,hk2.1,by omega,hk,(if_neg h1).trans (if_neg h2)⟩)
theorem sn223 {P : Program} {K : DS → Prop} {p : Prop} {r : Out} (hr : r.sat P K) (hp : p := by first | (simp only [ByteArray.size_append,kbsz,List.size_toArray,List.length_cons,List.length_nil];omega) | first | exact trivial | omega | exact ini (by omega) (by omega) | (intro hh;simp at hh;exact ini (by omega) (by omega)) | (intro hh;simp at hh ⊢;omega) | (simp at *;omega) | (simp_all;done)) : (Out.need p r).sat P K := ⟨hp,hr⟩
theorem cmpKey_ok (h : List Ob) (v : Vl) (hh : HpIn h) (g : Uh h) (hv : Vd h v) : Fn Tryz.prog 132 [hpD md h,.agg (vlD v)] (.agg (stD (keyR h v))) := by
 have hb := pa_vd g 1001 v 1000 hv;have hcf := cf_of g (vd_has hb);have hnm := (hh.at (clA h (paS h 1001 v 1000).1)).nm;refine yJ tabT Tryz.func132 rfl rfl rfl rfl rfl rfl ?_;intro w0 s0 mx;refine ev_R tabT [] 100 ?_;refine ev_R tabT [] 200 ?_;refine zB ?_;refine zB (zE tabT [1011] 300 rfl ?_);refine zH ?_;refine yK _ _ (part_n g 1001 v 1000 hv.2 (by decide) (by decide) (by decide)) rfl ?_;refine zH ?_;refine zC (zA ?_);refine yF [2,4,5,6] [0,2,100,206] 310 [(7,.v (.bool (paS h 1001 v 1000).2.1))] [(100,.box 3 [.v (.int .i64 (paS h 1001 v 1000).2.2)]),(206,.box 32 (vlD (paS h 1001 v 1000).1))] ?_;refine ⟨⟨le_t,⟨⟨rfl,Sub.refl _,rfl,trivial⟩,⟨rfl,SubL.same rfl⟩,le_o⟩,rfl,rfl⟩,?_⟩;refine ev_R tabT [] 400 ?_;refine zR rfl (fun c3 => ?_) (fun c3 => ?_)
 ·have c3 : (paS h 1001 v 1000).2.1 = false := by simpa using c3
  refine zB (zE tabT [] 500 rfl ?_);repeat (first | refine zF ?_ | refine zG ?_ | refine sn223 ?_)
  refine zT _ (heapName_ok h (paS h 1001 v 1000).1 g hcf) rfl ?_;repeat (first | refine zF ?_ | refine zG ?_ | refine sn223 ?_)
  refine zT _ (cmpRaise_ok _ _) rfl ?_;repeat (first | refine zF ?_ | refine zG ?_ | refine sn223 ?_)
  refine zC (zA (zM (zK ?_)));rw [show keyR h v = _ from if_pos c3];exact FinV.ret rfl (SubP.refl _)
 ·have c3 : ¬ (paS h 1001 v 1000).2.1 = false := by simpa using c3
  refine zL (zA ?_);refine zB ?_;refine ev_R tabT [] 600 ?_;refine yD (fun c5 => ?_) (fun c5 => ?_)
  ·
   refine zB (zE tabT [] 700 rfl ?_);refine zH ?_;refine zT _ (cmpRaise_ok _ _) rfl ?_;refine zH ?_;refine zC (zA (zM (zK ?_)));rw [show keyR h v = _ from (if_neg c3).trans (if_pos c5)];exact FinV.ret rfl (SubP.refl _)
  ·
   refine zL (zA ?_);refine ev_R tabT [] 800 ?_;refine zM ?_;rw [show keyR h v = _ from (if_neg c3).trans (if_neg (by omega))];exact FinV.ret rfl (by repeat (first | exact trivial | exact SubP.refl _ | exact SubP.nilSl rfl | refine SubP.agg ?_ | refine ⟨?_,?_⟩))
theorem sn224 {P : Program} {K : DS → Prop} {p : Prop} {r : Out} (hr : r.sat P K) (hp : p := by first | exact ⟨by omega,by omega⟩ | first | (simp only [ByteArray.size_append,kbsz,List.size_toArray,List.length_cons,List.length_nil];omega) | first | exact trivial | omega | exact ini (by omega) (by omega) | (intro hh;simp at hh;exact ini (by omega) (by omega)) | (intro hh;simp at hh ⊢;omega) | (simp at *;omega) | (simp_all;done)) : (Out.need p r).sat P K := ⟨hp,hr⟩
theorem KeyD_ok (h : List Ob) (v : Vl) (hh : HpIn h) (g : Uh h) (hv : Vd h v) : Fn Tryz.prog 86 [hpD md h,.agg (vlD v)] (.agg (stD (keyR h v))) := by
 have hb := pa_vd g 1001 v 1000 hv;have hcf := cf_of g (vd_has hb);have hnm := (hh.at (clA h (paS h 1001 v 1000).1)).nm;have hc := key_cases g hv;refine yJ tabT Tryz.func86 rfl rfl rfl rfl rfl rfl ?_;intro w0 s0 mx;refine ev_R tabT [] 100 ?_;refine zB (zE tabT [] 200 rfl ?_);refine zH ?_;refine zT _ (PartsOf_ok h v hh) rfl ?_;refine zH ?_;refine zC (zA ?_);refine zB ?_;refine zO ?_;refine ev_R tabT [] 300 ?_;refine zR rfl (fun c2 => ?_) (fun c2 => ?_)
 ·have c2 : (yP h v).2 = false ∧ (yP h v).1.length ≤ 1000 := by simp at c2;exact ⟨c2.1,by omega⟩
  obtain ⟨k1,k2,k3,k4,k5,k6⟩ : (paS h 1001 v 1000).2.1 = false ∧ (yP h v).2 = false ∧ (yP h v).1.length ≤ 1000 ∧ 0 < (yP h v).1.length ∧ (yP h v).1.getD (((yP h v).1.length : Int) - 1).toNat vl0 = (paS h 1001 v 1000).1 ∧ keyR h v = _ := by
   rcases hc with hc | hc | hc
   ·exact hc
   ·omega
   ·rw [c2.1] at hc;exact absurd hc.2.2.1 (by decide)
  refine zB (zV tabT [] [[],[],[],[2],[2,3],[1,2,3,4],[1,2,3,4,5],[0,1,2,3,4,5,6],[0,1,2,3,4,5,6,7],[0,1,2,3,4,5,6,7,8],[0,1,2,3,4,5,6,7,8,9],[0,1,2,3,4,5,6,7,8,9,10]] 400 mixT (by kernel_rfl) rfl ?_);repeat (first | refine zF ?_ | refine zG ?_ | refine sn224 ?_)
  refine zT _ (by rw [k5];exact ClassName_ok h (paS h 1001 v 1000).1 g hcf) rfl ?_;repeat (first | refine zF ?_ | refine zG ?_ | refine sn224 ?_)
  refine zT _ (Raise_ok _ _) rfl ?_;repeat (first | refine zF ?_ | refine zG ?_ | refine sn224 ?_)
  refine zC (zA (zM (zN (zK ?_))));rw [k6];exact FinV.ret rfl (SubP.refl _)
 ·have c2 : ¬ ((yP h v).2 = false ∧ (yP h v).1.length ≤ 1000) := by simp at c2;intro hq;have := c2 hq.1;omega
  refine ev_R tabT [] 500 ?_;refine yD (fun c4 => ?_) (fun c4 => ?_)
  ·
   refine zB (zE tabT [] 600 rfl ?_);refine zH ?_;refine zT _ (Raise_ok _ _) rfl ?_;refine zH ?_;refine zC (zA (zM (zN (zK ?_))));rcases hc with hc | hc | hc
   ·exact absurd ⟨hc.2.1,hc.2.2.1⟩ c2
   ·rw [hc.2.2.2];exact FinV.ret rfl (SubP.refl _)
   ·omega
  ·
   refine zL (zJ (zA ?_));refine ev_R tabT [] 700 ?_;refine zM ?_;rcases hc with hc | hc | hc
   ·exact absurd ⟨hc.2.1,hc.2.2.1⟩ c2
   ·omega
   ·rw [hc.2.2.2.2.2];exact FinV.ret rfl (by repeat (first | exact trivial | exact SubP.refl _ | exact SubP.nilSl rfl | refine SubP.agg ?_ | refine ⟨?_,?_⟩))
theorem opKey_ok (h : List Ob) (v : Vl) (hh : HpIn h) (g : Uh h) (hv : Vd h v) : Fn Tryz.prog 81 [hpD md h,.agg (vlD v)] (.tup [.agg (stD (keyR h v)),.v (.bool (decide ((keyR h v).k = 0)))]) := by
 refine yJ tabT Tryz.func81 rfl rfl rfl rfl rfl rfl ?_;intro w0 s0 mx;refine ev_R tabT [] 100 ?_;refine zB (zE tabT [] 200 rfl ?_);refine zH ?_;refine zT _ (cmpKey_ok h v hh g hv) rfl ?_;refine zH ?_;refine zC (zA ?_);refine zB (zV tabT [] [[],[],[1],[1,2],[0],[0,1,2,3,4]] 300 mixT (by kernel_rfl) rfl ?_);refine zH ?_;refine zC (zA (zM ?_));exact FinV.ret rfl (SubP.refl _)
end Go.Proofs.YteljekdggfhhmaaGreatDoor
