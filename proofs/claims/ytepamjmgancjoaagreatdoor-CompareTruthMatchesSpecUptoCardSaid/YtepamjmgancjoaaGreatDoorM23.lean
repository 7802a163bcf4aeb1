/- Part 23 of the proof. -/
import Derived.Test.YtepamjmgancjoaaGreatDoorM13
import Derived.Test.YtepamjmgancjoaaGreatDoorM21
import Derived.Test.YtepamjmgancjoaaGreatDoorM22
import Derived.Test.YtepamjmgancjoaaGreatDoorM15
import Derived.Test.YtepamjmgancjoaaGreatDoorM12
import Derived.Test.YtepamjmgancjoaaGreatDoorM5
namespace Go.Proofs.YtepamjmgancjoaaGreatDoor
theorem qJ {l : List Nat} (h : Lg l) (i : Nat) : l.getD i 0 < 4294967296 := by
 rcases Nat.lt_or_ge i l.length with h1 | h1
 ·rw [yP h1];exact h.at h1
 ·rw [List.getD_eq_getElem?_getD,List.getElem?_eq_none h1];show 0 < _;omega
structure Tw (x : List Nat) where
 k : Nat
 c : Nat
 o : List Nat
 eq : VL o + c * 4294967296 ^ k + VL (x.take k) = 4294967296 ^ k
 lo : o.length = k
 lg : Lg o
 hc : c ≤ 1
 le : k ≤ x.length
theorem tw_step {x o : List Nat} {k c s : Nat} (hx : Lg x) (h : VL o + c * 4294967296 ^ k + VL (x.take k) = 4294967296 ^ k) (ho : o.length = k) (hk : k < x.length) (hs : s = c + (4294967295 - x.getD k 0)) :
  VL (o ++ [s % 4294967296]) + s / 4294967296 * 4294967296 ^ (k + 1) + VL (x.take (k + 1)) = 4294967296 ^ (k + 1) := by
 rw [L_snoc,ho,L_take_succ hk,Nat.pow_succ];have hb := hx.at hk;rw [yP hk] at hs;generalize 4294967296 ^ k = B at *;have e : s = 4294967296 * (s / 4294967296) + s % 4294967296 := (Nat.div_add_mod s 4294967296).symm;have e2 : B * s = B * (4294967296 * (s / 4294967296)) + B * (s % 4294967296) := by rw [← Nat.mul_add,← e]
 have e3 : B * s + B * x[k] = B * c + B * 4294967295 := by rw [← Nat.mul_add,← Nat.mul_add];congr 1;omega
 have e4 : s / 4294967296 * (B * 4294967296) = B * (4294967296 * (s / 4294967296)) := by rw [Nat.mul_comm,Nat.mul_assoc]
 have e5 : c * B = B * c := Nat.mul_comm _ _;omega
def Tw.s {x : List Nat} (t : Tw x) : Nat := t.c + (4294967295 - x.getD t.k 0)
def Tw.next {x : List Nat} (t : Tw x) (hx : Lg x) (h : t.k < x.length) : Tw x := ⟨t.k + 1,t.s / 4294967296,t.o ++ [t.s % 4294967296],tw_step hx t.eq t.lo h rfl,by simp [t.lo],t.lg.snoc (Nat.mod_lt _ (by decide)),by
 have h1 := qJ hx t.k;have h2 := t.hc;unfold Tw.s;omega,h⟩
def Tw.start (x : List Nat) : Tw x := ⟨0,1,[],by simp [VL],rfl,Lg.nil,Nat.le_refl _,Nat.zero_le _⟩
theorem Tw.fin {x : List Nat} (t : Tw x) (h : x.length ≤ t.k) (hz : 0 < VL x) : VL t.o = 4294967296 ^ x.length - VL x ∧ t.o.length = x.length := by
 have hk := t.le;have e : t.k = x.length := by omega
 have h1 := t.eq;rw [e,List.take_of_length_le (Nat.le_refl _)] at h1;refine ⟨?_,by rw [t.lo,e]⟩;have h2 := t.hc;rcases Nat.lt_or_ge 0 t.c with h3 | h3
 ·have : t.c = 1 := by omega
  rw [this] at h1;omega
 ·have : t.c = 0 := by omega
  rw [this] at h1;omega
structure Nt (x : List Nat) where
 k : Nat
 o : List Nat
 eq : o = (x.take k).map fun d => 4294967295 - d
 le : k ≤ x.length
def Nt.next {x : List Nat} (t : Nt x) (h : t.k < x.length) : Nt x := ⟨t.k + 1,t.o ++ [4294967295 - x.getD t.k 0],by rw [t.eq,yP h,List.take_add_one,List.getElem?_eq_getElem h,List.map_append];rfl,h⟩
theorem Nt.lo {x : List Nat} (t : Nt x) : t.o.length = t.k := by rw [t.eq,List.length_map,List.length_take,Nat.min_eq_left t.le]
theorem top_V {l : List Nat} {n : Nat} (hl : l.length = n + 1) : VL l = VL (l.take n) + 4294967296 ^ n * l.getD n 0 := by
 rw [yP (by omega),← L_take_succ (by omega),List.take_of_length_le (by omega)]
structure TrmL (l : List Nat) where
 r : List Nat
 lg : Lg r
 eq : VL r = VL l
 le : r.length ≤ l.length
theorem last_takeL {r : List Nat} (h : 0 < r.length) (h0 : r.getD (r.length - 1) 0 = 0) : VL (r.take (r.length - 1)) = VL r := by
 have h1 := top_V (l := r) (n := r.length - 1) (by omega);rw [h0] at h1;omega
def TrmL.next {l : List Nat} (x : TrmL l) (h : 0 < x.r.length) (h0 : x.r.getD (x.r.length - 1) 0 = 0) : TrmL l := ⟨x.r.take (x.r.length - 1),x.lg.take _,by rw [last_takeL h h0,x.eq],by have := x.le;simp;omega⟩
theorem TrmL.fin {l : List Nat} (x : TrmL l) (h : 0 < x.r.length → x.r.getD (x.r.length - 1) 0 ≠ 0) : x.r = lim (VL l) := by
 rw [← x.eq];refine (lim_V x.lg fun hne => ?_).symm;have hp : 0 < x.r.length := List.length_pos_iff.2 hne;rw [List.getLast_eq_getElem,← yP (by omega)];exact h hp
theorem int_ok {b : Bool} {l : List Nat} (hg : Lg l) (h : intOk b l = true) : l = lim (VL l) ∧ b = decide (ZI b (VL l) < 0) ∧ l.length ≤ 128 := by
 unfold intOk at h;rw [Bool.and_eq_true,Bool.or_eq_true,Bool.and_eq_true,Bool.and_eq_true,decide_eq_true_eq,decide_eq_true_eq,decide_eq_true_eq,decide_eq_true_eq] at h;obtain ⟨h1,h2⟩ := h;rcases h2 with ⟨h2,h3⟩ | ⟨h2,h3⟩
 ·have hl : l = [] := List.eq_nil_of_length_eq_zero h2;subst hl;have hb : b = false := by simpa using h3
  subst hb;exact ⟨by rw [L_nil,yW],rfl,Nat.zero_le _⟩
 ·have hn : NoLeadL l := fun hne => by
   rw [List.getLast_eq_getElem]
   rwa [yP (by omega)] at h3
  have hv := (lim_V hg hn).symm;refine ⟨hv,?_,h1⟩;have hp : 0 < VL l := by
   rcases Nat.eq_zero_or_pos (VL l) with h0 | h0
   ·rw [h0,yW] at hv;rw [hv] at h2;exact absurd h2 (by decide)
   ·exact h0
  unfold ZI
  cases b
  ·simp
  ·simp;omega
theorem lim_nil {n : Nat} : lim n = [] ↔ n = 0 := by
 constructor
 ·intro h;rcases Nat.eq_zero_or_pos n with h0 | h0
  ·exact h0
  ·rw [lim_pos (by omega)] at h;cases h
 ·rintro rfl;exact yW
theorem lim_len {n : Nat} : (decide ((0 : Int) < ((lim n).length : Nat))) = decide (0 < n) := by
 apply decide_eq_decide.2;constructor
 ·intro h;rcases Nat.eq_zero_or_pos n with h0 | h0
  ·rw [h0,yW] at h;exact absurd h (by decide)
  ·exact h0
 ·intro h;have : lim n ≠ [] := fun e => by rw [lim_nil] at e;omega
  have := List.length_pos_iff.2 this;omega
theorem dig_len {n : Nat} : (decide ((0 : Int) < ((dig n).length : Nat))) = decide (0 < n) := by
 apply decide_eq_decide.2;constructor
 ·intro h;rcases Nat.eq_zero_or_pos n with h0 | h0
  ·rw [h0,qG] at h;exact absurd h (by decide)
  ·exact h0
 ·intro h;have : dig n ≠ [] := fun e => by rw [dig_eq_nil] at e;omega
  have := List.length_pos_iff.2 this;omega
theorem ZI_of (z : Int) : ZI (decide (z < 0)) z.natAbs = z := by
 unfold ZI;by_cases h : z < 0
 ·rw [decide_eq_true h,if_pos rfl];omega
 ·rw [decide_eq_false h,if_neg (by decide)];omega
open Go.RowKit
section
variable {P : Program} {b : Ba}
def exJ {ι : Type} (I : ι → DS) (K : Exit → DS → Prop) (ex : Exit) (S : DS) : Prop := match ex with
 | .normal => ∃ i,LeD S (I i)
 | e => K e S
theorem yL {ι : Type} {I : ι → DS} {K : Exit → DS → Prop} {S : DS} (i : ι) (h : LeD S (I i)) : exJ I K .normal S := ⟨i,h⟩
theorem ev_joinK {ι : Type} (ks os : List Nat) (N : Nat) (chg : ι → List (Nat × D)) (ochg : ι → List (Nat × DOwn)) {x y : Code} {tm : List (Nat × D)} {ow : List (Nat × DOwn)} {nx : Nat} {K : Exit → DS → Prop}
  (h : keepK ks tm fun base => keepO os ow fun ob => Ev P b x ⟨tm,ow,nx⟩ (exJ (fun i => ⟨chg i ++ base,ochg i ++ ob,N⟩) K) ∧ ∀ i,Ev P b y ⟨chg i ++ base,ochg i ++ ob,N⟩ K) : Ev P b (.seq x y) ⟨tm,ow,nx⟩ K := by
 obtain ⟨base,h1⟩ := keepK_get h;obtain ⟨ob,h2,h3⟩ := keepO_get h1;refine zB ?_;intro w s g a Q hr hK;refine h2 w s g a Q hr fun ex w' s' g' a' S' h4 h5 => hK ex w' s' g' a' S' h4 ?_
 cases ex with
 | normal =>
  obtain ⟨i,hi⟩ := h5;exact ev_le _ hi (h3 i)
 | _ => exact h5
end
def thwD (k : Nat) : D → D
 | .own k' sz rows => match Nat.beq k' k with
  | true => match rows with
   | [] => .mo k' 0
   | r :: l => .own k' sz (r :: l)
  | false => .own k' sz rows
 | d => d
def thwL (k : Nat) : List D → List D
 | [] => []
 | d :: l => thwD k d :: thwL k l
def thwT (k : Nat) : List (Nat × D) → List (Nat × D)
 | [] => []
 | (t,d) :: l => (t,thwD k d) :: thwT k l
def thwO (k : Nat) (e : TypeId) (sz : Nat) : List (Nat × DOwn) → List (Nat × DOwn)
 | [] => []
 | (j,c) :: l => (match Nat.beq j k with
  | true => (j,.mrow e sz (.lst []))
  | false => match c with
   | .box t cs => (j,.box t (thwL k cs))
   | c => (j,c)) :: thwO k e sz l
theorem thwT_fnd {k : Nat} : ∀ {l : List (Nat × D)} {t : Nat},fnd1 t (thwT k l) = (fnd1 t l).map (thwD k)
 | [],_ => rfl
 | (u,d) :: l,t => by
  show fnd1 t ((u,thwD k d) :: thwT k l) = _;rw [yJ,yJ];by_cases h : u = t
  ·simp [h]
  ·rw [if_neg h,if_neg h];exact thwT_fnd
theorem thwD_ok {w : World} {s : Sb} {g : Gh} {k : Nat} (hmo : ∀ v,g.gn k 0 = some v → (TV.mo k 0).P w s g v) {d : D} {v : Value} (hv : d.tv.P w s g v) : (thwD k d).tv.P w s g v := by
 cases d with
 | own k' sz rows =>
  show (match Nat.beq k' k with | true => (match rows with | [] => D.mo k' 0 | r :: l => D.own k' sz (r :: l)) | false => D.own k' sz rows).tv.P w s g v
  cases hb : Nat.beq k' k with
  | false => exact hv
  | true =>
   have e := Nat.eq_of_beq_eq_true hb;subst e
   cases rows with
   | nil =>
    rw [D.tv,TV.P] at hv;show (D.mo k' 0).tv.P w s g v;rw [D.tv];exact hmo v hv.2
   | cons r l => exact hv
 | _ => exact hv
theorem thwL_ok {w : World} {s : Sb} {g : Gh} {k : Nat} (hmo : ∀ v,g.gn k 0 = some v → (TV.mo k 0).P w s g v) : ∀ {l : List D} {vs : List Value},AllT w s g (D.tvl l) vs → AllT w s g (D.tvl (thwL k l)) vs
 | [],vs,hv => by cases vs with | nil => rw [thwL,D.tvl];trivial | cons _ _ => exact hv.elim
 | d :: l,[],hv => by rw [D.tvl] at hv;exact hv.elim
 | d :: l,v :: vs,hv => by
  rw [D.tvl] at hv;rw [thwL,D.tvl];exact ⟨thwD_ok hmo hv.1,thwL_ok hmo hv.2⟩
theorem thwL_one {k : Nat} : ∀ {l : List D},(∀ d ∈ D.tvl l,d.one = true) → ∀ d ∈ D.tvl (thwL k l),d.one = true
 | [],_,d,hd => by rw [thwL,D.tvl] at hd;cases hd
 | x :: l,h,d,hd => by
  rw [thwL,D.tvl] at hd;rw [D.tvl] at h;rcases List.mem_cons.1 hd with rfl | hd
  ·have h1 := h x.tv (by simp)
   cases x with
   | own k' sz rows =>
    show (match Nat.beq k' k with | true => (match rows with | [] => D.mo k' 0 | r :: l => D.own k' sz (r :: l)) | false => D.own k' sz rows).tv.one = true
    cases Nat.beq k' k with
    | false => rfl
    | true => cases rows <;> rfl
   | _ => exact h1
  ·exact thwL_one (fun y hy => h y (by simp [hy])) d hd
theorem thwO_fnd {k : Nat} {e : TypeId} {sz : Nat} : ∀ {l : List (Nat × DOwn)} {j : Nat} {c : DOwn},fnd1 j (thwO k e sz l) = some c → ∃ c0,fnd1 j l = some c0 ∧ ((j = k ∧ c = .mrow e sz (.lst [])) ∨ (j ≠ k ∧ ((∃ t cs,c0 = .box t cs ∧ c = .box t (thwL k cs)) ∨ (c = c0 ∧ ∀ t cs,c0 ≠ .box t cs))))
 | [],_,_,h => by cases h
 | (i,c0) :: l,j,c,h => by
  unfold thwO at h;have step : ∀ x : DOwn,fnd1 j ((i,x) :: thwO k e sz l) = some c → (i = j ∧ x = c) ∨ (i ≠ j ∧ fnd1 j (thwO k e sz l) = some c) := fun x hx => by
   rw [yJ] at hx;by_cases hi : i = j
   ·rw [if_pos hi] at hx;exact .inl ⟨hi,Option.some.inj hx⟩
   ·rw [if_neg hi] at hx;exact .inr ⟨hi,hx⟩
  have rest : i ≠ j → fnd1 j (thwO k e sz l) = some c → ∃ c0',fnd1 j ((i,c0) :: l) = some c0' ∧ ((j = k ∧ c = .mrow e sz (.lst [])) ∨ (j ≠ k ∧ ((∃ t cs,c0' = .box t cs ∧ c = .box t (thwL k cs)) ∨ (c = c0' ∧ ∀ t cs,c0' ≠ .box t cs)))) := fun hi hx => by
   obtain ⟨c1,h1,h2⟩ := thwO_fnd hx;exact ⟨c1,by rw [yJ,if_neg hi];exact h1,h2⟩
  cases hb : Nat.beq i k with
  | true =>
   rw [hb] at h;have hik := Nat.eq_of_beq_eq_true hb;rcases step _ h with ⟨rfl,rfl⟩ | ⟨hi,hx⟩
   ·exact ⟨c0,by rw [yJ];simp,.inl ⟨hik,rfl⟩⟩
   ·exact rest hi hx
  | false =>
   rw [hb] at h;have hik : i ≠ k := by rintro rfl;rw [Nat.beq_refl] at hb;cases hb
   cases c0 with
   | box t cs =>
    rcases step _ h with ⟨rfl,rfl⟩ | ⟨hi,hx⟩
    ·exact ⟨_,by rw [yJ];simp,.inr ⟨hik,.inl ⟨t,cs,rfl,rfl⟩⟩⟩
    ·exact rest hi hx
   | _ =>
    rcases step _ h with ⟨rfl,rfl⟩ | ⟨hi,hx⟩
    ·exact ⟨_,by rw [yJ];simp,.inr ⟨hik,.inr ⟨rfl,fun _ _ h => by cases h⟩⟩⟩
    ·exact rest hi hx
section
variable {P : Program} {b : Ba}
theorem ev_thaw (k : Nat) {e : TypeId} {sz : Nat} {c : Code} {tm : List (Nat × D)} {ow : List (Nat × DOwn)} {nx : Nat} {K : Exit → DS → Prop} (hk : fnd1 k ow = some (.row e sz 0))
  (h : Ev P b c ⟨thwT k tm,thwO k e sz ow,nx⟩ K) : Ev P b c ⟨tm,ow,nx⟩ K := by
 intro w s g a Q hr hK;have hk0 : fnd k (ows ow) = some (.row e sz 0) := by rw [yV,hk];rfl
 obtain ⟨hok,hblk⟩ := hr.ow k _ hk0;obtain ⟨hmr,hmo⟩ := hok.thaw;have howf : ∀ {j : Nat} {c : Own},fnd j (ows (thwO k e sz ow)) = some c → ∃ c0,fnd j (ows ow) = some c0 ∧ Ok1 w s g j c ∧ blk g j c = blk g j c0 := fun {j c} hj => by
  rw [yV] at hj
  cases hq : fnd1 j (thwO k e sz ow) with
  | none => rw [hq] at hj;cases hj
  | some d =>
   rw [hq] at hj
   cases hj;obtain ⟨c0,h1,h2⟩ := thwO_fnd hq;have h1' : fnd j (ows ow) = some c0.o := by rw [yV,h1];rfl
   refine ⟨c0.o,h1',?_⟩;rcases h2 with ⟨rfl,rfl⟩ | ⟨hne,⟨t,cs,rfl,rfl⟩ | ⟨rfl,_⟩⟩
   ·rw [hk] at h1
    cases h1;exact ⟨hmr,rfl⟩
   ·obtain ⟨N,vs,g1,g2,g3,g4,g5⟩ := (hr.ow j _ h1').1;exact ⟨⟨N,vs,g1,g2,thwL_ok hmo g3,thwL_one g4,g5⟩,rfl⟩
   ·exact ⟨(hr.ow j _ h1').1,rfl⟩
 refine h w s g a Q ⟨hr.kp,hr.lt,hr.sz,fun t d hd => ?_,fun j c hj => ?_,fun j j' c c' N h1 h2 hne hb => ?_,hr.fr,hr.df,hr.gb⟩ hK
 ·have hd' : fnd t (tvs (thwT k tm)) = some d := hd;rw [yR,thwT_fnd] at hd'
  cases hq : fnd1 t tm with
  | none => rw [hq] at hd';cases hd'
  | some x =>
   rw [hq] at hd'
   cases hd';obtain ⟨v,h1,h2⟩ := hr.tm t x.tv (by show fnd t (tvs tm) = _;rw [yR,hq];rfl);exact ⟨v,h1,thwD_ok hmo h2⟩
 ·obtain ⟨c0,h1,h2,h3⟩ := howf hj;exact ⟨h2,fun N hb => (hr.ow j c0 h1).2 N (by rw [← h3];exact hb)⟩
 ·obtain ⟨c0,e1,_,e3⟩ := howf h1;obtain ⟨d0,f1,_,f3⟩ := howf h2;rw [f3];exact hr.sep j j' c0 d0 N e1 f1 hne (by rw [← e3];exact hb)
end
theorem Sub.mo {k n m : Nat} (h : n = m) : Sub (.mo k n) (.mo k m) := by subst h;exact Sub.refl _
theorem Sub.mw {k q i sz n q' i' n' : Nat} (h1 : q = q') (h2 : i = i') (h3 : n = n') : Sub (.mw k q i sz n) (.mw k q' i' sz n') := by subst h1;subst h2;subst h3;exact Sub.refl _
theorem Sub.moMw {k n q i sz m : Nat} (h0 : 0 < n) (h1 : n = q) (h2 : 0 = i) (h3 : n = m) : Sub (.mo k n) (.mw k q i sz m) := by subst h1;subst h2;subst h3;exact fun w s g v hv => mo_mw h0 hv
theorem SubO.mr {ty : TypeId} {sz : Nat} {m m' : MR} (h : m.rows = m'.rows) : SubO (.mrow ty sz m) (.mrow ty sz m') := ⟨rfl,rfl,congrArg D.pvss h⟩
theorem SubO.mp {ty : TypeId} {sz : Nat} {m m' : MR} (h : D.pvss m.rows = D.pvss m'.rows) : SubO (.mrow ty sz m) (.mrow ty sz m') := ⟨rfl,rfl,h⟩
theorem SubO.app {α : Type} {ty : TypeId} {sz : Nat} {l r : List α} {f : α → List D} {e : α} : SubO (.mrow ty sz (.app (.map l f e) (r.map f))) (.mrow ty sz (.map (l ++ r) f e)) := ⟨rfl,rfl,congrArg D.pvss (List.map_append).symm⟩
theorem dig_1 : (dig 1).length = 1 := by decide +kernel
def plB (b1 : Bool) (n1 : Nat) (b2 : Bool) (n2 : Nat) : Bool × Nat := if b1 = b2 then (b1,n1 + n2) else if n2 ≤ n1 then (b1,n1 - n2) else (b2,n2 - n1)
variable {md me : Bool}
def iV (x : Bool × List Nat) : List D := [.v (.bool x.1),usD x.2]
def faD (c i : Int) : D := .agg [.v (.int .i64 c),.v (.int .i64 i)]
def sgB (b : Bool) (l : List Nat) : Bool := if l.length ≤ 128 then b && decide ((0 : Int) < (l.length : Nat)) else false
def sgL (l : List Nat) : List Nat := if l.length ≤ 128 then l else []
def sgC (l : List Nat) : Int := if l.length ≤ 128 then 0 else 14
def sgI (l : List Nat) : Int := if l.length ≤ 128 then 0 else -1
def sgD (b : Bool) (l : List Nat) : D := .tup [.agg (iV (sgB b l,sgL l)),faD (sgC l) (sgI l)]
theorem sgD_le {b : Bool} {l : List Nat} (h : l.length ≤ 128) : D.tup [.agg (iV (b && decide ((0 : Int) < (l.length : Nat)),l)),faD 0 0] = sgD b l := by rw [sgD,sgB,sgL,sgC,sgI,if_pos h,if_pos h,if_pos h,if_pos h]
theorem sgD_gt {b : Bool} {l : List Nat} (h : ¬ l.length ≤ 128) : SubP (D.tup [.agg [.v (.bool false),.v (.slice none 0 0)],faD 14 (-1)]) (sgD b l) := by
 have e : D.tup [.agg (iV (false,[])),faD 14 (-1)] = sgD b l := by rw [sgD,sgB,sgL,sgC,sgI,if_neg h,if_neg h,if_neg h,if_neg h]
 rw [← e];exact SubP.tup ⟨SubP.agg ⟨SubP.refl _,SubP.nilSl rfl,trivial⟩,SubP.refl _,trivial⟩
def limN : Nat → Nat → List Nat
 | 0,_ => []
 | n + 1,v => v % 4294967296 :: limN n (v / 4294967296)
theorem limN_len : ∀ n v,(limN n v).length = n
 | 0,_ => rfl
 | n + 1,v => by rw [limN,List.length_cons,limN_len n]
theorem limN_Lg : ∀ n v,Lg (limN n v)
 | 0,_ => Lg.nil
 | n + 1,v => fun x hx => by
  rw [limN] at hx;rcases List.mem_cons.1 hx with rfl | hx
  ·exact Nat.mod_lt _ (by decide)
  ·exact limN_Lg n _ x hx
theorem limN_V : ∀ {l : List Nat},Lg l → limN l.length (VL l) = l
 | [],_ => rfl
 | d :: l,h => by
  have h1 := h d List.mem_cons_self;rw [L_cons,List.length_cons,limN,show (d + 4294967296 * VL l) % 4294967296 = d by omega,show (d + 4294967296 * VL l) / 4294967296 = VL l by omega,limN_V fun x hx => h x (List.mem_cons_of_mem _ hx)]
theorem V_limN {n v : Nat} (h : v < 4294967296 ^ n) : VL (limN n v) = v := by
 induction n generalizing v with
 | zero => simp at h;subst h;rfl
 | succ n ih =>
  rw [limN,L_cons,ih (by rw [Nat.pow_succ] at h;omega)];omega
theorem Lg_app {l r : List Nat} (h1 : Lg l) (h2 : Lg r) : Lg (l ++ r) := fun x hx => (List.mem_append.1 hx).elim (h1 x) (h2 x)
theorem fdiv_pow {s : Nat} {p : Int} {q : Nat} (h : p = (q : Int)) : Int.fdiv (s : Int) p = ((s / q : Nat) : Int) := by
 subst h;rw [Int.fdiv_eq_ediv_of_nonneg _ (by omega)];rfl
theorem store_at {o x : List Nat} {k v : Nat} (ho : o.length = k) (hk : k < x.length) : (MR.upd (.map (o ++ x.drop k) uD 0) k (uD v)).rows = (MR.map ((o ++ [v]) ++ x.drop (k + 1)) uD 0).rows := by
 simp only [MR.rows];rw [← List.map_set];congr 1;rw [List.set_append_right _ _ (by omega),ho,Nat.sub_self,List.drop_eq_getElem_cons hk,List.set_cons_zero];simp
theorem row_at {o x : List Nat} {k : Nat} (ho : o.length = k) : (o ++ x.drop k).getD k 0 = x.getD k 0 := by
 rw [List.getD_eq_getElem?_getD,List.getElem?_append_right (by omega),ho,Nat.sub_self,List.getElem?_drop,List.getD_eq_getElem?_getD];rfl
theorem intAt_ok (c i : Int) : Fn Tryz.prog 155 [.v (.int .i64 c),.v (.int .i64 i)] (faD c i) := by
 refine yD tabT Tryz.func155 rfl rfl rfl rfl rfl rfl ?_;intro w0 s0 mx;refine ev_R tabT [] 100 ?_;refine ev_R tabT [] 200 ?_;refine zL ?_;exact FinV.ret rfl (SubP.refl _)
theorem intValid_ok (b : Bool) (l : List Nat) (hl : l.length ≤ 2000000) : Fn Tryz.prog 134 [.agg [.v (.bool b),usD l]] (.v (.bool (intOk b l))) := by
 refine yD tabT Tryz.func134 rfl rfl rfl rfl rfl rfl ?_;intro w0 s0 mx;refine ev_R tabT [] 100 ?_;refine ev_R tabT [] 200 ?_;refine zB (zE tabT [] 300 rfl ?_);repeat (first | refine zG ?_ | refine zH ?_ | refine zR (by first | exact trivial | omega | exact ini (by omega) (by omega) | (intro hh;simp at hh;exact ini (by omega) (by omega)) | (intro hh;simp at hh ⊢;omega) | (simp at *;omega) | (simp_all;done) | (intros;exact ini (by omega) (by omega))) ?_)
 refine zC (zA (zL ?_));exact FinV.ret rfl (SubP.bool (by rw [← intOk_raw]))
theorem intCheck_ok (L : List (Bool × List Nat)) (hv : ∀ k < L.length,intOk (L.getD k (false,[])).1 (L.getD k (false,[])).2 = true ∧ (L.getD k (false,[])).2.length ≤ 2000000) (hl : L.length ≤ 100) : Fn Tryz.prog 135 [.sl false 2 L iV (false,[])] (faD 0 0) := by
 refine yD tabT Tryz.func135 rfl rfl rfl rfl rfl rfl ?_;intro w0 s0 mx;refine ev_R tabT [] 100 ?_;refine zB ?_;refine ev_R tabT [] 200 ?_;refine zM ?_;refine zX (ι := {k : Nat // k ≤ L.length}) [2,5,6] [0] 250 (fun x => [(7,.v (.int .i64 x.1))]) (fun _ => []) (fun x => L.length - x.1) ⟨0,Nat.zero_le _⟩ ?_;refine ⟨⟨le_t,le_o,rfl,rfl⟩,fun x => ?_⟩;have hk : x.1 ≤ L.length := x.2;refine ev_R tabT [] 300 ?_;refine zB ?_;refine zT (fun c2 => ?_) (fun c2 => ?_)
 ·
  refine zK (zA ?_);refine zB ?_;refine zM ?_;refine ev_R tabT [] 400 ?_;refine zB (zE tabT [] 500 rfl ?_);refine zF ?_;refine zO _ (intValid_ok _ _ (by first | assumption | omega | (simp_all;done))) rfl ?_;refine zF ?_;refine zC (zA ?_);refine zT (fun c4 => ?_) (fun c4 => ?_)
  ·
   exact Bool.noConfusion (c4.symm.trans (hv x.1 (by omega)).1)
  ·
   refine zK (zJ (zA ?_));refine ev_Q tabT [] 700 ?_;exact zQ (⟨x.1 + 1,by omega⟩) ⟨⟨Sub.int (by push_cast;rfl),le_t⟩,le_o,rfl,rfl⟩ (by show L.length - (x.1 + 1) < L.length - x.1;omega)
 ·
  refine yB (zU (zW (zS (zA ?_))));refine ev_R tabT [] 800 ?_;refine zL ?_;exact FinV.ret rfl (SubP.refl _)
theorem intSigned_ok (b : Bool) (l : List Nat) : Fn Tryz.prog 137 [.v (.bool b),usD l] (sgD b l) := by
 refine yD tabT Tryz.func137 rfl rfl rfl rfl rfl rfl ?_;intro w0 s0 mx;refine ev_R tabT [] 100 ?_;refine zB ?_;refine ev_R tabT [] 200 ?_;refine zT (fun c1 => ?_) (fun c1 => ?_)
 ·
  refine zB (zE tabT [] 300 rfl ?_);refine zF ?_;refine zO _ (intAt_ok _ _) rfl ?_;refine zF ?_;refine zC (zA (zL (zN ?_)));exact FinV.ret rfl (sgD_gt (b := b) (l := l) (by omega))
 ·
  refine zK (zA ?_);refine ev_R tabT [] 400 ?_;refine zL ?_;exact FinV.ret rfl (SubP.of_eq (sgD_le (b := b) (l := l) (by omega)))
theorem CloneU_ok (l : List Nat) (hl : l.length ≤ 2000000) : FnO Tryz.prog 173 [usD l] 104 1 (l.map uD) := by
 refine fnO_ev Tryz.func173 rfl rfl rfl rfl rfl rfl ?_;intro w0 s0 mx;refine zB (zE tabT [5] 100 rfl ?_);repeat (first | refine zG ?_ | refine zH ?_ | refine zR (by exact lenMap hl) ?_)
 refine zC (zA ?_);refine zB ?_;refine zB ?_;refine ev_nilRegion Tryz.underlying25 rfl rfl rfl fun c hc => ?_;refine zA ?_;refine zY rfl (fun c1 => ?_) (fun c1 => ?_)
 ·
  refine zB (zE tabT [5] 300 rfl ?_);repeat (first | refine zG ?_ | refine zH ?_ | refine zR (by exact lenMap hl) ?_)
  refine zC (zA (zL (zN ?_)));exact FinO.nil rfl (by rw [hc c1];rfl)
 ·
  refine zK (zA ?_);refine zB (zE tabT [5] 400 rfl ?_);repeat (first | refine zG ?_ | refine zH ?_ | refine zR (by first | rfl | exact lenMap hl | (rw [List.length_nil];have := lenMap (f := uD) hl;omega) | (have := lenMap (f := uD) hl;simp at this ⊢;omega)) ?_)
  refine zC (zA (zL ?_));exact FinO.ret rfl rfl rfl rfl
theorem lim_len_lt {x y : Nat} (h : (lim x).length < (lim y).length) : x < y := by
 have h0 : y ≠ 0 := by intro e;subst e;rw [yW] at h;simp at h
 have h1 := lim_lt x;have h2 := lim_ge h0;exact Nat.lt_of_lt_of_le h1 (Nat.le_trans (Nat.pow_le_pow_right (by omega) (by omega)) h2)
theorem lim_len_mono {x y : Nat} (h : x ≤ y) : (lim x).length ≤ (lim y).length := by
 rcases Nat.lt_or_ge (lim y).length (lim x).length with h1 | h1
 ·have := lim_len_lt h1;omega
 ·exact h1
def cmpL (x y : Nat) : Int := if (lim x).length = (lim y).length then cmpN x y else ((lim x).length : Int) - ((lim y).length : Int)
theorem cmpL_ne {x y : Nat} (h : (lim x).length ≠ (lim y).length) : cmpL x y = ((lim x).length : Int) - ((lim y).length : Int) := if_neg h
theorem cmpL_eq {x y : Nat} (h : (lim x).length = (lim y).length) : cmpL x y = cmpN x y := if_pos h
theorem cmpL_N (x y : Nat) : min (max (cmpL x y) (-1)) 1 = cmpN x y := by
 unfold cmpL;split
 ·unfold cmpN;split
  ·rfl
  ·split <;> rfl
 ·rename_i h;rcases Nat.lt_or_gt_of_ne h with h1 | h1
  ·rw [cmpN,if_pos (lim_len_lt h1)];omega
  ·have := lim_len_lt h1;rw [cmpN,if_neg (by omega),if_pos this];omega
theorem cmpL_neg (x y : Nat) : cmpL x y < 0 ↔ x < y := by
 have h := cmpL_N x y;unfold cmpN at h;constructor
 ·intro h1;by_cases h2 : x < y
  ·exact h2
  ·rw [if_neg h2] at h;split at h <;> omega
 ·intro h1;rw [if_pos h1] at h;omega
structure CpL (a b : Nat) where
 k : Nat
 le : k ≤ (lim a).length
 eq : (lim a).drop k = (lim b).drop k
def CpL.next {a b : Nat} (x : CpL a b) (hl : (lim a).length = (lim b).length) (h : 0 < x.k) (he : (lim a).getD (x.k - 1) 0 = (lim b).getD (x.k - 1) 0) : CpL a b := ⟨x.k - 1,by have := x.le;omega,by
 have h1 := x.le;rw [yP (by omega),yP (by omega)] at he;rw [List.drop_eq_getElem_cons (by omega),List.drop_eq_getElem_cons (l := lim b) (by omega),he,show x.k - 1 + 1 = x.k by omega,x.eq]⟩
theorem ltL_at {la lb : List Nat} {i : Nat} (ha : Lg la) (hl : la.length = lb.length) (hi : i < la.length) (hd : la.drop (i + 1) = lb.drop (i + 1)) (h : la[i] < lb[i]) : VL la < VL lb := by
 rw [L_take_drop la (i + 1) (by omega),L_take_drop lb (i + 1) (by omega),hd,L_take_succ hi,L_take_succ (l := lb) (m := i) (by omega)];have h1 := L_lt (ha.take i);rw [List.length_take,Nat.min_eq_left (Nat.le_of_lt hi)] at h1;have h2 : 4294967296 ^ i * (la[i] + 1) ≤ 4294967296 ^ i * lb[i] := Nat.mul_le_mul_left _ h;rw [Nat.mul_add] at h2;omega
theorem cpl_lt {a b k : Nat} (hl : (lim a).length = (lim b).length) (hk : 0 < k) (hk2 : k ≤ (lim a).length) (hd : (lim a).drop k = (lim b).drop k) (h : (lim a).getD (k - 1) 0 < (lim b).getD (k - 1) 0) : a < b := by
 rw [yP (by omega),yP (by omega)] at h;have := ltL_at (yM a) hl (i := k - 1) (by omega) (by rw [show k - 1 + 1 = k by omega];exact hd) h
 rwa [L_dig,L_dig] at this
theorem VL_take_ge {l : List Nat} {k : Nat} (h : l.length ≤ k) : VL (l.take (k + 1)) = VL (l.take k) := by rw [List.take_of_length_le h,List.take_of_length_le (by omega)]
theorem getD_geL {l : List Nat} {k : Nat} (h : l.length ≤ k) : l.getD k 0 = 0 := by rw [List.getD_eq_getElem?_getD,List.getElem?_eq_none h];rfl
theorem yS (l : List Nat) (k : Nat) : VL (l.take (k + 1)) = VL (l.take k) + 4294967296 ^ k * l.getD k 0 := by
 rcases Nat.lt_or_ge k l.length with h | h
 ·rw [L_take_succ h,yP h]
 ·rw [VL_take_ge h,getD_geL h];omega
structure PlL (a b : List Nat) where
 k : Nat
 c : Nat
 o : List Nat
 eq : VL o + c * 4294967296 ^ k = VL (a.take k) + VL (b.take k)
 lo : o.length = k
 lg : Lg o
 hc : c ≤ 1
 le : k ≤ a.length
def PlL.s {a b : List Nat} (x : PlL a b) : Nat := x.c + a.getD x.k 0 + b.getD x.k 0
theorem pll_step {a b o : List Nat} {k c s : Nat} (h : VL o + c * 4294967296 ^ k = VL (a.take k) + VL (b.take k)) (ho : o.length = k) (hs : s = c + a.getD k 0 + b.getD k 0) :
  VL (o ++ [s % 4294967296]) + s / 4294967296 * 4294967296 ^ (k + 1) = VL (a.take (k + 1)) + VL (b.take (k + 1)) := by
 rw [L_snoc,ho,yS a,yS b,Nat.pow_succ];generalize 4294967296 ^ k = B at *;have e : s = 4294967296 * (s / 4294967296) + s % 4294967296 := (Nat.div_add_mod s 4294967296).symm;have e2 : B * s = B * (4294967296 * (s / 4294967296)) + B * (s % 4294967296) := by rw [← Nat.mul_add,← e]
 have e3 : B * s = B * c + B * a.getD k 0 + B * b.getD k 0 := by rw [hs,Nat.mul_add,Nat.mul_add]
 have e4 : s / 4294967296 * (B * 4294967296) = B * (4294967296 * (s / 4294967296)) := by rw [Nat.mul_comm,Nat.mul_assoc]
 have e5 : c * B = B * c := Nat.mul_comm _ _;omega
theorem PlL.s_le {a b : List Nat} (x : PlL a b) (ha : Lg a) (hb : Lg b) : x.s ≤ 8589934591 := by
 have h1 := qJ ha x.k;have h2 := qJ hb x.k;have h3 := x.hc;unfold PlL.s;omega
def PlL.next {a b : List Nat} (x : PlL a b) (ha : Lg a) (hb : Lg b) (h : x.k < a.length) : PlL a b := ⟨x.k + 1,x.s / 4294967296,x.o ++ [x.s % 4294967296],pll_step x.eq x.lo rfl,by simp [x.lo],x.lg.snoc (Nat.mod_lt _ (by decide)),by have := x.s_le ha hb;omega,h⟩
def PlL.start (a b : List Nat) : PlL a b := ⟨0,0,[],by simp [VL],rfl,Lg.nil,Nat.zero_le _,Nat.zero_le _⟩
theorem PlL.fin {a b : List Nat} (x : PlL a b) (h : a.length ≤ x.k) (hl : b.length ≤ a.length) : VL (x.o ++ [x.c]) = VL a + VL b ∧ Lg (x.o ++ [x.c]) := by
 have h1 := x.eq;rw [List.take_of_length_le h,List.take_of_length_le (by omega)] at h1;refine ⟨by rw [L_snoc,x.lo,Nat.mul_comm];exact h1,x.lg.snoc (by have := x.hc;omega)⟩
structure MiL (a b : List Nat) where
 k : Nat
 c : Nat
 o : List Nat
 eq : VL o + VL (b.take k) = VL (a.take k) + c * 4294967296 ^ k
 lo : o.length = k
 lg : Lg o
 hc : c ≤ 1
 le : k ≤ a.length
def lsD (x y b : Nat) : Nat := (x + 8589934592 - y - b) % 4294967296
def lsB (x y b : Nat) : Nat := if x < y + b then 1 else 0
theorem sb_eq {x y b : Nat} (hx : x < 4294967296) (hy : y < 4294967296) (hb : b ≤ 1) : lsD x y b + y + b = x + 4294967296 * lsB x y b := by
 unfold lsD lsB;split <;> omega
theorem sb_lt (x y b : Nat) : lsD x y b < 4294967296 := Nat.mod_lt _ (by decide)
theorem lsB_le (x y b : Nat) : lsB x y b ≤ 1 := by unfold lsB;split <;> omega
theorem mil_step {a b o : List Nat} {k c y d : Nat} (h : VL o + VL (b.take k) = VL (a.take k) + c * 4294967296 ^ k) (ho : o.length = k) (hy : y + b.getD k 0 + c = a.getD k 0 + 4294967296 * d) :
  VL (o ++ [y]) + VL (b.take (k + 1)) = VL (a.take (k + 1)) + d * 4294967296 ^ (k + 1) := by
 rw [L_snoc,ho,yS a,yS b,Nat.pow_succ];generalize 4294967296 ^ k = B at *;have e : B * y + B * b.getD k 0 + B * c = B * a.getD k 0 + B * (4294967296 * d) := by rw [← Nat.mul_add,← Nat.mul_add,← Nat.mul_add,hy]
 have e4 : d * (B * 4294967296) = B * (4294967296 * d) := by rw [Nat.mul_comm,Nat.mul_assoc]
 have e5 : c * B = B * c := Nat.mul_comm _ _;omega
def MiL.next {a b : List Nat} (x : MiL a b) (ha : Lg a) (hb : Lg b) (h : x.k < a.length) : MiL a b := ⟨x.k + 1,lsB (a.getD x.k 0) (b.getD x.k 0) x.c,x.o ++ [lsD (a.getD x.k 0) (b.getD x.k 0) x.c],mil_step x.eq x.lo (sb_eq (qJ ha _) (qJ hb _) x.hc),by simp [x.lo],x.lg.snoc (sb_lt _ _ _),lsB_le _ _ _,h⟩
def MiL.start (a b : List Nat) : MiL a b := ⟨0,0,[],by simp [VL],rfl,Lg.nil,Nat.zero_le _,Nat.zero_le _⟩
theorem MiL.fin {a b : List Nat} (x : MiL a b) (h : a.length ≤ x.k) (hl : b.length ≤ a.length) (hle : VL b ≤ VL a) : VL x.o = VL a - VL b := by
 have hk := x.le;have h1 := x.eq;have h2 := x.hc;have h3 := L_lt x.lg;rw [List.take_of_length_le h,List.take_of_length_le (by omega)] at h1;rw [x.lo] at h3;rcases Nat.eq_zero_or_pos x.c with h4 | h4
 ·rw [h4] at h1;omega
 ·rw [show x.c = 1 by omega] at h1;omega
theorem wb32 (v : BitVec 32) : IntKind.u32.wrap (v.toNat : Int) = (v.toNat : Int) := by
 have := v.isLt;simp only [IntKind.wrap,IntKind.signed,IntKind.bits,Bool.false_and,Bool.false_eq_true,if_false];omega
theorem ofb32 (v : BitVec 32) : BitVec.ofInt 32 (v.toNat : Int) = v := by rw [BitVec.ofInt_natCast,BitVec.ofNat_toNat,BitVec.setWidth_eq]
theorem bAnd32 (x y : BitVec 32) : bAnd .u32 (x.toNat : Int) (y.toNat : Int) = ((x &&& y).toNat : Int) := by
 show IntKind.u32.wrap ((BitVec.ofInt 32 (x.toNat : Int) &&& BitVec.ofInt 32 (y.toNat : Int)).toNat : Int) = _;rw [ofb32,ofb32,wb32]
theorem bOr32 (x y : BitVec 32) : bOr .u32 (x.toNat : Int) (y.toNat : Int) = ((x ||| y).toNat : Int) := by
 show IntKind.u32.wrap ((BitVec.ofInt 32 (x.toNat : Int) ||| BitVec.ofInt 32 (y.toNat : Int)).toNat : Int) = _;rw [ofb32,ofb32,wb32]
theorem bXor32 (x y : BitVec 32) : bXor .u32 (x.toNat : Int) (y.toNat : Int) = ((x ^^^ y).toNat : Int) := by
 show IntKind.u32.wrap ((BitVec.ofInt 32 (x.toNat : Int) ^^^ BitVec.ofInt 32 (y.toNat : Int)).toNat : Int) = _;rw [ofb32,ofb32,wb32]
theorem bNot32 (x : BitVec 32) : bNot .u32 (x.toNat : Int) = ((~~~x).toNat : Int) := by
 show IntKind.u32.wrap ((BitVec.ofInt 32 4294967295 ^^^ BitVec.ofInt 32 (x.toNat : Int)).toNat : Int) = _;rw [ofb32,show BitVec.ofInt 32 4294967295 = BitVec.allOnes 32 by decide,BitVec.allOnes_xor,wb32]
theorem top32 (v : BitVec 32) : v.toNat / 2147483648 = if v.msb then 1 else 0 := by
 have h := v.isLt;rw [BitVec.msb_eq_decide];by_cases h1 : 2 ^ (32 - 1) ≤ v.toNat
 ·rw [decide_eq_true h1,if_pos rfl];omega
 ·rw [decide_eq_false h1,if_neg (by decide)];omega
theorem msb32 {x : Nat} (h : x < 4294967296) : (BitVec.ofNat 32 x).msb = decide (2147483648 ≤ x) := by
 rw [BitVec.msb_eq_decide,BitVec.toNat_ofNat,Nat.mod_eq_of_lt h]
theorem nat32 {x : Nat} (h : x < 4294967296) : x = (BitVec.ofNat 32 x).toNat := by rw [BitVec.toNat_ofNat,Nat.mod_eq_of_lt h]
theorem sub32_lo {x y b : Nat} (hx : x < 4294967296) (hy : y < 4294967296) (hb : b ≤ 1) : IntKind.u32.wrap (IntKind.u32.wrap ((x : Int) - (y : Int)) - (b : Int)) = ((lsD x y b : Nat) : Int) := by
 simp only [IntKind.wrap,IntKind.signed,IntKind.bits,Bool.false_and,Bool.false_eq_true,if_false,lsD];omega
theorem sub32_hi {x y b : Nat} (hx : x < 4294967296) (hy : y < 4294967296) (hb : b ≤ 1) :
  Int.fdiv (bOr .u32 (bAnd .u32 (bNot .u32 (x : Int)) (y : Int)) (bAnd .u32 (bNot .u32 (bXor .u32 (x : Int) (y : Int))) ((lsD x y b : Nat) : Int))) (2 ^ min (Int.toNat 31) IntKind.u32.bits) = ((lsB x y b : Nat) : Int) := by
 have hd : lsD x y b < 4294967296 := sb_lt x y b;have hs := sb_eq hx hy hb;have m1 := msb32 hx;have m2 := msb32 hy;have m3 := msb32 hd;rw [show ((x : Nat) : Int) = ((BitVec.ofNat 32 x).toNat : Int) by rw [← nat32 hx],show ((y : Nat) : Int) = ((BitVec.ofNat 32 y).toNat : Int) by rw [← nat32 hy],show ((lsD x y b : Nat) : Int) = ((BitVec.ofNat 32 (lsD x y b)).toNat : Int) by rw [← nat32 hd],bNot32,bAnd32,bXor32,bNot32,bAnd32,bOr32];rw [show ((2 : Int) ^ min (Int.toNat 31) IntKind.u32.bits) = ((2147483648 : Nat) : Int) by decide,Int.fdiv_eq_ediv_of_nonneg _ (by omega),← Int.natCast_ediv,top32];simp only [BitVec.msb_or,BitVec.msb_and,BitVec.msb_not,BitVec.msb_xor,m1,m2,m3];congr 1;unfold lsB at *;generalize lsD x y b = d at *;by_cases h1 : 2147483648 ≤ x <;> by_cases h2 : 2147483648 ≤ y <;> by_cases h3 : 2147483648 ≤ d <;> by_cases h4 : x < y + b <;> simp only [h1,h2,h3,h4,decide_true,decide_false,if_true,if_false,Bool.and_true,Bool.and_false,Bool.not_true,Bool.not_false,Bool.or_true,Bool.or_false,Bool.true_and,Bool.false_and,Bool.xor_true,Bool.xor_false,Bool.true_or,Bool.false_or] at hs ⊢ <;> (first | rfl | omega)
variable {md me : Bool}
theorem lim_top {x : Nat} (h : 0 < (lim x).length) : (lim x).getD ((lim x).length - 1) 0 ≠ 0 := by
 have h1 := lim_noLead x (List.length_pos_iff.1 h)
 rwa [List.getLast_eq_getElem,← yP (by omega)] at h1
theorem natValid_ok (x : Nat) (hx : (lim x).length ≤ 600) : Fn Tryz.prog 171 [usD (lim x)] (.v (.bool true)) := by
 refine yD tabT Tryz.func171 rfl rfl rfl rfl rfl rfl ?_;intro w0 s0 mx;refine ev_R tabT [] 100 ?_;refine zB (zE tabT [] 200 rfl ?_);repeat (first | refine zG ?_ | refine zH ?_ | refine zR (by first | exact trivial | omega | exact ini (by omega) (by omega) | (intro hh;simp at hh;exact ini (by omega) (by omega)) | (intro hh;simp at hh ⊢;omega) | (simp at *;omega) | (simp_all;done) | (simp;intro _ h2;have := List.length_pos_iff.2 h2;omega)) ?_)
 refine zC (zA (zL ?_));exact FinV.ret rfl (SubP.bool (by simp;refine ⟨by omega,?_⟩;by_cases h : lim x = [];exact Or.inl h;exact Or.inr (by have := lim_top (x := x) (List.length_pos_iff.2 h);rwa [List.getD_eq_getElem?_getD] at this)))
theorem natCheck_ok (x y : Nat) (hx : (lim x).length ≤ 600) (hy : (lim y).length ≤ 600) : Fn Tryz.prog 156 [usD (lim x),usD (lim y)] (faD 0 0) := by
 refine yD tabT Tryz.func156 rfl rfl rfl rfl rfl rfl ?_;intro w0 s0 mx;refine ev_R tabT [] 100 ?_;refine zB ?_;refine zM ?_;refine zB (zE tabT [] 200 rfl ?_);refine zF ?_;refine zO _ (natValid_ok _ (by first | assumption | omega | (simp_all;done))) rfl ?_;refine zF ?_;refine zC (zA ?_);refine zT (fun c1 => ?_) (fun c1 => ?_)
 ·
  exact absurd c1 (by decide)
 ·
  refine zB (zE tabT [] 400 rfl ?_);refine zF ?_;refine zO _ (natValid_ok _ (by first | assumption | omega | (simp_all;done))) rfl ?_;refine zF ?_;refine zC (zA ?_);refine zT (fun c3 => ?_) (fun c3 => ?_)
  ·
   exact absurd c3 (by decide)
  ·
   refine zK (zJ (zA ?_));refine ev_R tabT [] 600 ?_;refine zL ?_;exact FinV.ret rfl (SubP.refl _)
theorem qN (l : List Nat) (hg : Lg l) (hl : l.length ≤ 100000000) : Fn Tryz.prog 172 [usD l] (usD (lim (VL l))) := by
 refine yD tabT Tryz.func172 rfl rfl rfl rfl rfl rfl ?_;intro w0 s0 mx;refine ev_R tabT [] 100 ?_;refine zB ?_;refine zM ?_;refine zX (ι := TrmL l) [] [] 150 (fun x => [(0,.sl false 1 x.r uD 0)]) (fun _ => []) (fun x => x.r.length) ⟨l,hg,rfl,Nat.le_refl _⟩ ?_;refine ⟨⟨le_t,le_o,rfl,rfl⟩,fun x => ?_⟩;have hk := x.le;refine zB ?_;refine ev_R tabT [] 200 ?_;refine zT (fun c1 => ?_) (fun c1 => ?_)
 ·
  refine zK (zA (zM ?_));refine ev_Q tabT [] 300 ?_;refine zJ ?_;have h9 := c1.2;rw [t_last] at h9;exact zQ (x.next (by omega) (by omega)) ⟨(by first | exact trivial | (repeat (first | exact trivial | exact Sub.refl _ | refine ⟨?_,?_⟩ | exact Sub.int (by first | rfl | omega | (push_cast;omega)) | exact Sub.nilSl | exact Sub.own rfl | exact Sub.slrSl rfl | exact Sub.ownSl (List.map_append).symm | exact Sub.ownSl rfl | exact Sub.of_eq (by rw [t_cut];rfl)))),le_o,rfl,rfl⟩ (by show (x.r.take (x.r.length - 1)).length < x.r.length;rw [List.length_take];omega)
 ·
  refine yB (zU (zW (zS (zA ?_))));refine ev_R tabT [] 400 ?_;refine zL ?_;rw [t_last] at c1;have e : x.r = lim (VL l) := x.fin (fun hp h9 => by rw [h9,decide_eq_true (show (0 : Int) < (x.r.length : Nat) by omega)] at c1;exact absurd c1 (by decide));exact FinV.ret rfl (SubP.of_eq (by rw [e];rfl))
theorem natFit_ok (l : List Nat) (hg : Lg l) (hl : l.length ≤ 100000000) (h6 : (lim (VL l)).length ≤ 600) : Fn Tryz.prog 157 [usD l] (.tup [usD (lim (VL l)),faD 0 0]) := by
 refine yD tabT Tryz.func157 rfl rfl rfl rfl rfl rfl ?_;intro w0 s0 mx;refine ev_R tabT [] 100 ?_;refine zB ?_;refine zB (zE tabT [] 200 rfl ?_);refine zF ?_;refine zO _ (qN _ (by first | assumption | omega | (simp_all;done)) (by first | assumption | omega | (simp_all;done))) rfl ?_;refine zF ?_;refine zC (zA ?_);refine ev_R tabT [] 300 ?_;refine zT (fun c2 => ?_) (fun c2 => ?_)
 ·
  exact absurd c2 (by omega)
 ·
  refine zK (zA ?_);refine ev_R tabT [] 500 ?_;refine zL ?_;exact FinV.ret rfl (SubP.refl _)
theorem natCompare_ok (a b : Nat) (ha : (lim a).length ≤ 100000000) (hb : (lim b).length ≤ 100000000) : Fn Tryz.prog 159 [usD (lim a),usD (lim b)] (.v (.int .i64 (cmpL a b))) := by
 refine yD tabT Tryz.func159 rfl rfl rfl rfl rfl rfl ?_;intro w0 s0 mx;refine ev_R tabT [] 100 ?_;refine zB ?_;refine ev_R tabT [] 200 ?_;refine zT (fun c1 => ?_) (fun c1 => ?_)
 ·
  refine ev_R tabT [] 300 ?_;refine zL (zN ?_);exact FinV.ret rfl (SubP.int (cmpL_ne (by omega)).symm)
 ·
  refine zK (zA ?_);refine zB ?_;refine ev_R tabT [] 400 ?_;refine zM ?_;refine zX (ι := CpL a b) [0,1] [] 450 (fun x => [(5,.v (.int .i64 ((x.k : Int) - 1)))]) (fun _ => []) (fun x => x.k) ⟨(lim a).length,Nat.le_refl _,by rw [List.drop_of_length_le (Nat.le_refl _),List.drop_of_length_le (by omega)]⟩ ?_;refine ⟨⟨le_t,le_o,rfl,rfl⟩,fun x => ?_⟩;have hk := x.le;have hkt : ((x.k : Int) - 1).toNat = x.k - 1 := by omega
  refine zB ?_;refine ev_R tabT [] 500 ?_;refine zT (fun c4 => ?_) (fun c4 => ?_)
  ·
   refine zK (zA ?_);refine zB ?_;refine zM ?_;refine zB (zZ tabT [] [[],[],[0,1],[0,1,2],[],[],[4,5],[4,5,6],[0,1,2,3,4,5,6,7]] 700 mixT (by kernel_rfl) rfl ?_);refine zF ?_;refine zC (zA ?_);refine zT (fun c6 => ?_) (fun c6 => ?_)
   ·
    refine zB ?_;refine zB (zZ tabT [] [[],[],[0,1],[0,1,2],[],[],[4,5],[4,5,6],[0,1,2,3,4,5,6,7]] 800 mixT (by kernel_rfl) rfl ?_);refine zF ?_;refine zC (zA ?_);refine zT (fun c7 => ?_) (fun c7 => ?_)
    ·
     refine ev_R tabT [] 900 ?_;refine zL (zN (zP (zN (yG (zP (zN ?_))))));rw [hkt] at c7;exact FinV.ret rfl (SubP.int (by rw [cmpL_eq (by omega),cmp_lt (cpl_lt (by omega) (by omega) hk x.eq (by omega))]))
    ·
     refine zK (zA ?_);refine ev_R tabT [] 1000 ?_;refine zL (zP (zN (yG (zP (zN ?_)))));rw [hkt] at c6 c7;exact FinV.ret rfl (SubP.int (by rw [cmpL_eq (by omega),cmp_gt (cpl_lt (by omega) (by omega) (by omega) x.eq.symm (by omega))]))
   ·
    refine zK (zJ (zA ?_));refine ev_Q tabT [] 800 ?_;rw [hkt] at c6;exact zQ (x.next (by omega) (by omega) (by omega)) ⟨(by first | exact trivial | (repeat (first | exact trivial | exact Sub.refl _ | refine ⟨?_,?_⟩ | exact Sub.int (by first | rfl | omega | (push_cast;omega)) | exact Sub.nilSl | exact Sub.own rfl | exact Sub.slrSl rfl | exact Sub.ownSl (List.map_append).symm | exact Sub.ownSl rfl | exact Sub.int (by show (x.k : Int) - 1 - 1 = ((x.k - 1 : Nat) : Int) - 1;omega)))),le_o,rfl,rfl⟩ (by show x.k - 1 < x.k;omega)
  ·
   refine yB (zU (zW (zS (zA ?_))));refine ev_R tabT [] 1100 ?_;refine zL ?_;have hz : x.k = 0 := by omega
   have he := x.eq;rw [hz] at he;exact FinV.ret rfl (SubP.int (by rw [cmpL_eq (by omega),cmp_eq (by have := congrArg VL he;rwa [List.drop_zero,List.drop_zero,L_dig,L_dig] at this)]))
theorem natCmp_ok (a b : Nat) (ha : (lim a).length ≤ 600) (hb : (lim b).length ≤ 600) : Fn Tryz.prog 138 [usD (lim a),usD (lim b)] (.tup [.v (.int .i64 (cmpN a b)),faD 0 0]) := by
 refine yD tabT Tryz.func138 rfl rfl rfl rfl rfl rfl ?_;intro w0 s0 mx;refine ev_R tabT [] 100 ?_;refine zB ?_;refine zB (zE tabT [] 200 rfl ?_);refine zF ?_;refine zO _ (natCheck_ok _ _ (by first | assumption | omega | (simp_all;done)) (by first | assumption | omega | (simp_all;done))) rfl ?_;refine zF ?_;refine zC (zA ?_);refine ev_R tabT [] 300 ?_;refine zT (fun c2 => ?_) (fun c2 => ?_)
 ·
  exact absurd c2 (by decide)
 ·
  refine zK (zA ?_);refine zB (zE tabT [] 500 rfl ?_);refine zF ?_;refine zO _ (natCompare_ok _ _ (by first | assumption | omega | (simp_all;done)) (by first | assumption | omega | (simp_all;done))) rfl ?_;refine zF ?_;refine zC (zA (zL ?_));exact FinV.ret rfl (SubP.tup ⟨SubP.int (by have h := cmpL_N a b;generalize cmpL a b = c at *;rw [← h];split <;> (try split) <;> (try split at *) <;> omega),SubP.refl _,trivial⟩)
def I32 (x : Int) : Prop := 0 ≤ x ∧ x < 4294967296
theorem i32_at {l : List Nat} (h : Lg l) (i : Nat) : I32 ((l.getD i 0 : Nat) : Int) := by
 have := qJ h i;exact ⟨by omega,by omega⟩
theorem i32_0 : I32 0 := ⟨by decide,by decide⟩
theorem Lg_drop {l : List Nat} (h : Lg l) (i : Nat) : Lg (l.drop i) := fun x hx => h x (List.mem_of_mem_drop hx)
theorem sub32_ok {x y b : Int} (hx : I32 x) (hy : I32 y) (hb : 0 ≤ b ∧ b ≤ 1) : IntKind.u32.wrap (IntKind.u32.wrap (x - y) - b) = ((lsD x.toNat y.toNat b.toNat : Nat) : Int) ∧
  Int.fdiv (bOr .u32 (bAnd .u32 (bNot .u32 x) y) (bAnd .u32 (bNot .u32 (bXor .u32 x y)) ((lsD x.toNat y.toNat b.toNat : Nat) : Int))) (2 ^ min (Int.toNat 31) IntKind.u32.bits) = ((lsB x.toNat y.toNat b.toNat : Nat) : Int) := by
 obtain ⟨x,rfl⟩ := Int.eq_ofNat_of_zero_le hx.1;obtain ⟨y,rfl⟩ := Int.eq_ofNat_of_zero_le hy.1;obtain ⟨b,rfl⟩ := Int.eq_ofNat_of_zero_le hb.1;have h1 := hx.2;have h2 := hy.2;have h3 := hb.2;simp only [Int.toNat_natCast];exact ⟨sub32_lo (by omega) (by omega) (by omega),sub32_hi (by omega) (by omega) (by omega)⟩
theorem Sub32_ok (x y b : Int) (hx : I32 x) (hy : I32 y) (hb : 0 ≤ b ∧ b ≤ 1) : Fn Tryz.prog 176 [.v (.int .u32 x),.v (.int .u32 y),.v (.int .u32 b)] (.tup [.v (.int .u32 (lsD x.toNat y.toNat b.toNat : Nat)),.v (.int .u32 (lsB x.toNat y.toNat b.toNat : Nat))]) := by
 refine yD tabT Tryz.func176 rfl rfl rfl rfl rfl rfl ?_;intro w0 s0 mx;refine ev_R tabT [] 100 ?_;refine ev_R tabT [] 200 ?_;refine ev_R tabT [] 300 ?_;refine zL ?_;obtain ⟨e1,e2⟩ := sub32_ok hx hy hb;exact FinV.ret rfl (SubP.tup ⟨SubP.int e1,SubP.int (by rw [e1];exact e2),trivial⟩)
theorem CloneU_G (l : List Nat) (hl : l.length ≤ 2000000) : FnG Tryz.prog 173 [usD l] [] (.mo 0 l.length) [.mrow 104 1 (.map l uD 0)] := by
 refine fnH_ev tabT Tryz.func173 rfl rfl rfl rfl rfl rfl rfl ?_;intro w0 s0 mx;refine zB (zE tabT [] 100 rfl ?_);repeat (first | refine zG ?_ | refine zH ?_ | refine zR (by exact lenMap hl) ?_)
 refine zC (zA ?_);refine zB ?_;refine zB ?_;refine ev_nilRegion Tryz.underlying25 rfl rfl rfl fun c hc => ?_;refine zA ?_;refine zY rfl (fun c1 => ?_) (fun c1 => ?_)
 ·
  refine zB (zE tabT [] 300 rfl ?_);repeat (first | refine zG ?_ | refine zH ?_ | refine zR (by exact lenMap hl) ?_)
  refine zC (zA ?_);refine yO 2 104 1 rfl ?_;refine ev_thaw 300 rfl ?_;refine zL (zN ?_);obtain rfl := hc c1;exact FinH.ret 300 rfl rfl (Sub.refl _) ⟨SubO.mr rfl,trivial⟩
 ·
  refine zK (zA ?_);refine zB (zE tabT [1005] 400 rfl ?_);repeat (first | refine zG ?_ | refine zH ?_ | refine zR (by first | rfl | exact lenMap hl | (simp only [MR.len,List.length_nil,List.length_map];omega)) ?_)
  refine zC (zA (zL ?_));exact FinH.ret 100 rfl rfl (Sub.mo (by rw [List.length_map,Nat.zero_add])) ⟨SubO.mr rfl,trivial⟩
theorem sn231 {P : Program} {K : DS → Prop} {p : Prop} {r : Out} (hr : r.sat P K) (hp : p := by first | exact ⟨hm,by rw [← hm];exact c4⟩ | exact ⟨hm,by rw [← hm];omega⟩ | first | exact trivial | omega | exact ini (by omega) (by omega) | (intro hh;simp at hh;exact ini (by omega) (by omega)) | (intro hh;simp at hh ⊢;omega) | (simp at *;omega) | (simp_all;done)) : (Out.need p r).sat P K := ⟨hp,hr⟩
theorem natSub0_ok (a b : Nat) (ha : (lim a).length ≤ 100000) (hb : (lim b).length ≤ 100000) (hle : b ≤ a) : Fn Tryz.prog 163 [usD (lim a),usD (lim b)] (usD (lim (a - b))) := by
 refine yD tabT Tryz.func163 rfl rfl rfl rfl rfl rfl ?_;intro w0 s0 mx;refine ev_R tabT [] 100 ?_;refine zB (zE tabT [1010] 200 rfl ?_);refine zF ?_;refine sat_fnH _ _ (CloneU_G (lim a) (by omega)) rfl ?_;refine zF ?_;refine zC (zA ?_);refine ev_R tabT [] 300 ?_;refine zB ?_;refine ev_R tabT [] 400 ?_;refine zM ?_;refine zX (ι := MiL (lim a) (lim b)) [1,5,12] [] 450 (fun x => [(6,.v (.int .u32 x.c)),(13,.v (.int .i64 x.k))]) (fun x => [(101,.mrow 104 1 (.map (x.o ++ (lim a).drop x.k) uD 0))]) (fun x => (lim a).length - x.k) (MiL.start _ _) ?_;refine ⟨⟨le_t,le_o,rfl,rfl⟩,fun x => ?_⟩;have hk := x.le;have hlo := x.lo;have hc1 := x.hc;have hm : (lim a).length = (MR.map (x.o ++ (lim a).drop x.k) uD 0).len := by rw [MR.len,List.length_append,List.length_drop];omega
 refine ev_R tabT [] 500 ?_;refine zB ?_;refine zT (fun c4 => ?_) (fun c4 => ?_)
 ·
  refine zK (zA ?_);refine zB ?_;refine zM ?_;refine ev_R tabT [] 600 ?_;refine ev_R tabT [] 700 ?_;refine zB ?_;refine ev_R tabT [] 800 ?_;refine zT (fun c7 => ?_) (fun c7 => ?_)
  ·
   refine ev_Q tabT [] 900 ?_;refine zA ?_;refine zE tabT [] 1000 rfl ?_;repeat (first | refine zG ?_ | refine zH ?_ | refine sn231 ?_)
   refine zO _ (Sub32_ok _ _ _ (i32_at (Lg_app x.lg (Lg_drop (yM a) _)) _) (by first | exact i32_0 | exact i32_at (yM b) _) ⟨by omega,by omega⟩) rfl ?_;repeat (first | refine zG ?_ | refine zH ?_ | refine sn231 ?_)
   refine zC (zJ (zA ?_));refine ev_Q tabT [] 1100 ?_;exact zQ (x.next (yM a) (yM b) (by omega)) ⟨(by first | exact trivial | (repeat (first | exact trivial | exact Sub.refl _ | refine ⟨?_,?_⟩ | exact Sub.int (by first | rfl | omega | (push_cast;omega)) | exact Sub.nilSl | exact Sub.own rfl | exact Sub.slrSl rfl | exact Sub.ownSl (List.map_append).symm | exact Sub.ownSl rfl | exact Sub.int (by (try simp only [Int.toNat_natCast,row_at x.lo]);(try rw [show Int.toNat 0 = (lim b).getD x.k 0 from (getD_geL (by omega)).symm]);rfl)))),⟨SubO.mr (by (try simp only [Int.toNat_natCast,row_at x.lo]);(try rw [show Int.toNat 0 = (lim b).getD x.k 0 from (getD_geL (by omega)).symm]);exact store_at x.lo (by omega)),le_o⟩,rfl,rfl⟩ (by show (lim a).length - (x.k + 1) < (lim a).length - x.k;omega)
  ·
   refine zK (zA ?_);refine zE tabT [] 1000 rfl ?_;repeat (first | refine zG ?_ | refine zH ?_ | refine sn231 ?_)
   refine zO _ (Sub32_ok _ _ _ (i32_at (Lg_app x.lg (Lg_drop (yM a) _)) _) (by first | exact i32_0 | exact i32_at (yM b) _) ⟨by omega,by omega⟩) rfl ?_;repeat (first | refine zG ?_ | refine zH ?_ | refine sn231 ?_)
   refine zC (zJ (zA ?_));refine ev_Q tabT [] 1100 ?_;exact zQ (x.next (yM a) (yM b) (by omega)) ⟨(by first | exact trivial | (repeat (first | exact trivial | exact Sub.refl _ | refine ⟨?_,?_⟩ | exact Sub.int (by first | rfl | omega | (push_cast;omega)) | exact Sub.nilSl | exact Sub.own rfl | exact Sub.slrSl rfl | exact Sub.ownSl (List.map_append).symm | exact Sub.ownSl rfl | exact Sub.int (by (try simp only [Int.toNat_natCast,row_at x.lo]);(try rw [show Int.toNat 0 = (lim b).getD x.k 0 from (getD_geL (by omega)).symm]);rfl)))),⟨SubO.mr (by (try simp only [Int.toNat_natCast,row_at x.lo]);(try rw [show Int.toNat 0 = (lim b).getD x.k 0 from (getD_geL (by omega)).symm]);exact store_at x.lo (by omega)),le_o⟩,rfl,rfl⟩ (by show (lim a).length - (x.k + 1) < (lim a).length - x.k;omega)
 ·
  refine yB (zU (zW (zS (zA ?_))));refine ev_freeze 101 rfl (by repeat (first | exact trivial | exact hm | refine ⟨?_,?_⟩)) (by repeat (first | exact trivial | refine ⟨?_,?_⟩)) ?_;refine zB (zE tabT [] 1200 rfl ?_);refine zF ?_;refine zO _ ((qN x.o x.lg (by omega)).args ⟨SubP.ownSl (by show List.map uD _ = _;rw [List.drop_of_length_le (by omega),List.append_nil]),trivial⟩) rfl ?_;refine zF ?_;refine zC (zA (zL ?_));have e := x.fin (by omega) (lim_len_mono hle) (by rw [L_dig,L_dig];exact hle);rw [L_dig,L_dig] at e;exact FinV.ret rfl (SubP.of_eq (by rw [e]))
theorem VL_set {o : List Nat} {j y : Nat} (h : j < o.length) : VL (o.set j y) + 4294967296 ^ j * o.getD j 0 = VL o + 4294967296 ^ j * y := by
 induction o generalizing j with
 | nil => cases h
 | cons d o ih =>
  cases j with
  | zero => simp [L_cons];omega
  | succ j =>
   have h1 := ih (j := j) (by simpa using h);rw [List.set_cons_succ,L_cons,L_cons,List.getD_cons_succ,Nat.pow_succ];generalize 4294967296 ^ j = B at *;have e1 : B * 4294967296 * o.getD j 0 = 4294967296 * (B * o.getD j 0) := by rw [Nat.mul_comm B,Nat.mul_assoc]
   have e2 : B * 4294967296 * y = 4294967296 * (B * y) := by rw [Nat.mul_comm B,Nat.mul_assoc]
   omega
theorem VL_drop_zero {o : List Nat} {n : Nat} (h : VL (o.drop n) = 0) : o.getD n 0 = 0 ∧ VL (o.drop (n + 1)) = 0 := by
 rcases Nat.lt_or_ge n o.length with h1 | h1
 ·rw [List.drop_eq_getElem_cons h1,L_cons] at h;rw [yP h1];omega
 ·rw [getD_geL h1,List.drop_of_length_le (by omega)];exact ⟨rfl,rfl⟩
structure MuO (a b : List Nat) where
 i : Nat
 o : List Nat
 eq : VL o = VL (a.take i) * VL b
 lo : o.length = a.length + b.length
 lg : Lg o
 hz : VL (o.drop (i + b.length)) = 0
 le : i ≤ a.length
structure MuI (a b : List Nat) (i : Nat) where
 k : Nat
 c : Nat
 o : List Nat
 eq : VL o + c * 4294967296 ^ (i + k) = VL (a.take i) * VL b + 4294967296 ^ i * (a.getD i 0 * VL (b.take k))
 lo : o.length = a.length + b.length
 lg : Lg o
 hz : VL (o.drop (i + b.length)) = 0
 hc : c < 4294967296
 le : k ≤ b.length
def MuO.start (a b : List Nat) : MuO a b := ⟨0,List.replicate (a.length + b.length) 0,by simp [VL,L_zeros],by simp,Lg_zeros _,by rw [List.drop_replicate,L_zeros],Nat.zero_le _⟩
def MuI.start {a b : List Nat} (x : MuO a b) : MuI a b x.i := ⟨0,0,x.o,by simp [VL,x.eq],x.lo,x.lg,x.hz,by decide,Nat.zero_le _⟩
def MuI.s {a b : List Nat} {i : Nat} (x : MuI a b i) : Nat := x.c + a.getD i 0 * b.getD x.k 0 + x.o.getD (i + x.k) 0
theorem mul_lt32 {x y : Nat} (hx : x < 4294967296) (hy : y < 4294967296) : x * y ≤ 18446744065119617025 := Nat.mul_le_mul (show x ≤ 4294967295 by omega) (show y ≤ 4294967295 by omega)
theorem MuI.s_lt {a b : List Nat} {i : Nat} (x : MuI a b i) (ha : Lg a) (hb : Lg b) : x.s < 18446744073709551616 := by
 have h1 := mul_lt32 (qJ ha i) (qJ hb x.k);have h2 := qJ x.lg (i + x.k);have h3 := x.hc;unfold MuI.s;omega
theorem mul_step {a b o : List Nat} {i k c s : Nat} (h : VL o + c * 4294967296 ^ (i + k) = VL (a.take i) * VL b + 4294967296 ^ i * (a.getD i 0 * VL (b.take k))) (hj : i + k < o.length) (hs : s = c + a.getD i 0 * b.getD k 0 + o.getD (i + k) 0) :
  VL (o.set (i + k) (s % 4294967296)) + s / 4294967296 * 4294967296 ^ (i + (k + 1)) = VL (a.take i) * VL b + 4294967296 ^ i * (a.getD i 0 * VL (b.take (k + 1))) := by
 have h1 := VL_set (y := s % 4294967296) hj;have e0 : 4294967296 ^ i * (a.getD i 0 * VL (b.take (k + 1))) = 4294967296 ^ i * (a.getD i 0 * VL (b.take k)) + 4294967296 ^ (i + k) * (a.getD i 0 * b.getD k 0) := by
  rw [yS b,Nat.mul_add,Nat.mul_add,Nat.pow_add];congr 1;rw [Nat.mul_assoc];congr 1;rw [← Nat.mul_assoc,← Nat.mul_assoc,Nat.mul_comm (a.getD i 0)]
 rw [e0,← Nat.add_assoc i k 1,Nat.pow_succ];generalize 4294967296 ^ (i + k) = B at *;generalize 4294967296 ^ i * (a.getD i 0 * VL (b.take k)) = R at *;generalize VL (a.take i) * VL b = Q at *;generalize a.getD i 0 * b.getD k 0 = M at *;have e : s = 4294967296 * (s / 4294967296) + s % 4294967296 := (Nat.div_add_mod s 4294967296).symm;have e2 : B * s = B * (4294967296 * (s / 4294967296)) + B * (s % 4294967296) := by rw [← Nat.mul_add,← e]
 have e3 : B * s = B * c + B * M + B * o.getD (i + k) 0 := by rw [hs,Nat.mul_add,Nat.mul_add]
 have e4 : s / 4294967296 * (B * 4294967296) = B * (4294967296 * (s / 4294967296)) := by rw [Nat.mul_comm,Nat.mul_assoc]
 have e5 : c * B = B * c := Nat.mul_comm _ _;omega
def MuI.next {a b : List Nat} {i : Nat} (x : MuI a b i) (ha : Lg a) (hb : Lg b) (hi : i < a.length) (h : x.k < b.length) : MuI a b i := ⟨x.k + 1,x.s / 4294967296,x.o.set (i + x.k) (x.s % 4294967296),mul_step x.eq (by rw [x.lo];omega) rfl,by rw [List.length_set,x.lo],x.lg.set _ (Nat.mod_lt _ (by decide)),by rw [List.drop_set_of_lt (by omega)];exact x.hz,by have := x.s_lt ha hb;omega,h⟩
def MuI.fin {a b : List Nat} {i : Nat} (x : MuI a b i) (hi : i < a.length) (h : b.length ≤ x.k) : MuO a b := ⟨i + 1,x.o.set (i + b.length) x.c,by
 have hk := x.le;have e : x.k = b.length := by omega
 have h1 := x.eq;have h2 := VL_set (o := x.o) (j := i + b.length) (y := x.c) (by rw [x.lo];omega);rw [(VL_drop_zero x.hz).1] at h2;rw [e,List.take_of_length_le (Nat.le_refl _)] at h1;rw [yS a,Nat.add_mul];have e5 : x.c * 4294967296 ^ (i + b.length) = 4294967296 ^ (i + b.length) * x.c := Nat.mul_comm _ _;rw [Nat.mul_assoc];omega,by rw [List.length_set,x.lo],x.lg.set _ x.hc,by
 rw [List.drop_set_of_lt (by omega),show i + 1 + b.length = i + b.length + 1 by omega];exact (VL_drop_zero x.hz).2,hi⟩
theorem MuO.fin {a b : List Nat} (x : MuO a b) (h : a.length ≤ x.i) : VL x.o = VL a * VL b := by rw [x.eq,List.take_of_length_le h]
structure Sho (a : List Nat) (d : Nat) where
 k : Nat
 r : Nat
 o : List Nat
 eq : VL (o.drop k) * d + r = VL (a.drop k)
 lo : o.length = a.length
 lg : Lg o
 hr : r < d
 le : k ≤ a.length
def Sho.start (a : List Nat) {d : Nat} (h : 0 < d) : Sho a d := ⟨a.length,0,List.replicate a.length 0,by rw [List.drop_replicate,Nat.sub_self,List.drop_of_length_le (Nat.le_refl _)];simp [VL],by simp,Lg_zeros _,h,Nat.le_refl _⟩
def Sho.s {a : List Nat} {d : Nat} (x : Sho a d) : Nat := x.r * 4294967296 + a.getD (x.k - 1) 0
theorem Sho.s_lt {a : List Nat} {d : Nat} (x : Sho a d) (ha : Lg a) (hd : d < 4294967296) : x.s / d < 4294967296 := by
 have h1 := qJ ha (x.k - 1);have h2 := x.hr;rw [Nat.div_lt_iff_lt_mul (by omega)];unfold Sho.s;have : x.r * 4294967296 + 4294967296 ≤ d * 4294967296 := by omega
 omega
def Sho.next {a : List Nat} {d : Nat} (x : Sho a d) (ha : Lg a) (hd : d < 4294967296) (h : 0 < x.k) : Sho a d := ⟨x.k - 1,x.s % d,x.o.set (x.k - 1) (x.s / d),by
 have hk := x.le;have hl := x.lo;have h1 := x.eq;have e := Nat.div_add_mod x.s d;rw [List.drop_eq_getElem_cons (by rw [List.length_set];omega),List.drop_eq_getElem_cons (l := a) (by omega),L_cons,L_cons,List.getElem_set_self,show x.k - 1 + 1 = x.k by omega,List.drop_set_of_lt (by omega),← h1,← yP (by omega : x.k - 1 < a.length)];rw [Nat.add_mul,Nat.mul_comm (x.s / d),Nat.mul_assoc];rw [Nat.mul_add];unfold Sho.s at *;generalize VL (x.o.drop x.k) * d = Q at *;omega,by rw [List.length_set,x.lo],x.lg.set _ (x.s_lt ha hd),Nat.mod_lt _ (by have := x.hr;omega),by have := x.le;omega⟩
theorem Sho.fin {a : List Nat} {d : Nat} (x : Sho a d) (h : x.k = 0) : VL x.o = VL a / d ∧ x.r = VL a % d := by
 have h1 := x.eq;have h2 := x.hr;rw [h,List.drop_zero,List.drop_zero] at h1;have hd : 0 < d := by omega
 rw [← h1];constructor
 ·rw [Nat.mul_comm,Nat.mul_add_div hd,Nat.div_eq_of_lt h2,Nat.add_zero]
 ·rw [Nat.mul_comm,Nat.mul_add_mod,Nat.mod_eq_of_lt h2]
variable {md me : Bool}
theorem hi32 {e : Int} {s : Nat} (h : e = (s : Int)) : Int.fdiv e (2 ^ min (Int.toNat 32) IntKind.u64.bits) = ((s / 4294967296 : Nat) : Int) := by rw [h];exact fdiv_pow (by decide)
theorem lo32 {e : Int} {s : Nat} (h : e = (s : Int)) : IntKind.u32.wrap e = ((s % 4294967296 : Nat) : Int) := by
 rw [h];simp only [IntKind.wrap,IntKind.signed,IntKind.bits,Bool.false_and,Bool.false_eq_true,if_false];omega
theorem uD_snoc {l : List Nat} {y : Nat} {e : Int} (h : e = (y : Int)) : l.map uD ++ [[.v (.int .u32 e)]] = (l ++ [y]).map uD := by rw [List.map_append,h];rfl
theorem plL_s {a b : List Nat} (x : PlL a b) {e : Int} (h : e = (x.c : Int) + ((a.getD x.k 0 : Nat) : Int) + ((b.getD x.k 0 : Nat) : Int)) : e = ((x.s : Nat) : Int) := by
 rw [h];unfold PlL.s;omega
theorem natAdd0_ok (a b : Nat) (ha : (lim a).length ≤ 100000) (hb : (lim b).length ≤ 100000) : Fn Tryz.prog 162 [usD (lim a),usD (lim b)] (usD (lim (a + b))) := by
 refine yD tabT Tryz.func162 rfl rfl rfl rfl rfl rfl ?_;intro w0 s0 mx;refine ev_R tabT [] 100 ?_;refine zB ?_;refine ev_R tabT [] 200 ?_;refine zT (fun c1 => ?_) (fun c1 => ?_)
 ·
  refine ev_Q tabT [] 300 ?_;refine zA ?_;refine ev_R tabT [1019] 400 ?_;refine ev_freeze 303 rfl (by repeat (first | exact trivial | exact rfl | refine ⟨?_,?_⟩)) (by repeat (first | exact trivial | refine ⟨?_,?_⟩)) ?_;refine ev_R tabT [] 500 ?_;refine zB ?_;refine ev_R tabT [] 600 ?_;refine zM ?_;refine zX (ι := PlL (lim b) (lim a)) [1,20,21] [] 650 (fun x => [(22,.v (.int .i64 (x.k : Nat))),(6,.v (.int .u64 (x.c : Nat))),(5,.own 303 1 (x.o.map uD))]) (fun x => [(303,.row 104 1 (x.o.map uD).length)]) (fun x => (lim b).length - x.k) (PlL.start _ _) ?_;refine ⟨⟨le_t,le_o,rfl,rfl⟩,fun x => ?_⟩;have hk := x.le;have hk2 := x.lo;have hk3 := x.hc;have hk4 := qJ (yM b) x.k;have hk5 := qJ (yM a) x.k;refine ev_R tabT [] 700 ?_;refine zB ?_;refine zT (fun c6 => ?_) (fun c6 => ?_)
  ·
   refine zK (zA ?_);refine zB ?_;refine zM ?_;refine ev_R tabT [] 800 ?_;refine ev_R tabT [] 900 ?_;refine zB ?_;refine ev_R tabT [] 1000 ?_;refine zT (fun c9 => ?_) (fun c9 => ?_)
   ·
    refine ev_Q tabT [] 1100 ?_;refine zA ?_;refine ev_R tabT [] 1200 ?_;refine ev_Q tabT [] 1300 ?_;refine zJ (zA ?_);refine ev_Q tabT [] 1400 ?_;have zb := @getD_geL (lim a) x.k;exact zQ (x.next (yM b) (yM a) (by omega)) ⟨(by first | exact trivial | (repeat (first | exact trivial | exact Sub.refl _ | refine ⟨?_,?_⟩ | exact Sub.int (by first | rfl | omega | (push_cast;omega)) | exact Sub.nilSl | exact Sub.own rfl | exact Sub.slrSl rfl | exact Sub.ownSl (List.map_append).symm | exact Sub.ownSl rfl | exact Sub.int (by show (x.k : Int) + 1 = ((x.k + 1 : Nat) : Int);omega) | exact Sub.int (hi32 (plL_s x (by (try simp only [Int.toNat_natCast]);simp only [IntKind.wrap,IntKind.signed,IntKind.bits,Bool.false_and,Bool.false_eq_true,if_false];omega))) | exact Sub.own (uD_snoc (lo32 (plL_s x (by (try simp only [Int.toNat_natCast]);simp only [IntKind.wrap,IntKind.signed,IntKind.bits,Bool.false_and,Bool.false_eq_true,if_false];omega))))))),(by repeat (first | exact trivial | exact SubO.same rfl | exact ⟨rfl,rfl,by show _ = (List.map uD (x.o ++ _)).length;simp⟩ | refine ⟨?_,?_⟩)),rfl,rfl⟩ (by show (lim b).length - (x.k + 1) < (lim b).length - x.k;omega)
   ·
    refine zK (zA ?_);refine ev_R tabT [] 1200 ?_;refine ev_Q tabT [] 1300 ?_;refine zJ (zA ?_);refine ev_Q tabT [] 1400 ?_;have zb := @getD_geL (lim a) x.k;exact zQ (x.next (yM b) (yM a) (by omega)) ⟨(by first | exact trivial | (repeat (first | exact trivial | exact Sub.refl _ | refine ⟨?_,?_⟩ | exact Sub.int (by first | rfl | omega | (push_cast;omega)) | exact Sub.nilSl | exact Sub.own rfl | exact Sub.slrSl rfl | exact Sub.ownSl (List.map_append).symm | exact Sub.ownSl rfl | exact Sub.int (by show (x.k : Int) + 1 = ((x.k + 1 : Nat) : Int);omega) | exact Sub.int (hi32 (plL_s x (by (try simp only [Int.toNat_natCast]);simp only [IntKind.wrap,IntKind.signed,IntKind.bits,Bool.false_and,Bool.false_eq_true,if_false];omega))) | exact Sub.own (uD_snoc (lo32 (plL_s x (by (try simp only [Int.toNat_natCast]);simp only [IntKind.wrap,IntKind.signed,IntKind.bits,Bool.false_and,Bool.false_eq_true,if_false];omega))))))),(by repeat (first | exact trivial | exact SubO.same rfl | exact ⟨rfl,rfl,by show _ = (List.map uD (x.o ++ _)).length;simp⟩ | refine ⟨?_,?_⟩)),rfl,rfl⟩ (by show (lim b).length - (x.k + 1) < (lim b).length - x.k;omega)
  ·
   refine yB (zU (zW (zS (zA ?_))));refine zB (zE tabT [] 1500 rfl ?_);refine zF ?_;refine zO _ ((qN (x.o ++ [x.c]) (x.lg.snoc (by omega)) (by simp;omega)).args ⟨SubP.ownSl (uD_snoc (by simp only [IntKind.wrap,IntKind.signed,IntKind.bits,Bool.false_and,Bool.false_eq_true,if_false];omega)),trivial⟩) rfl ?_;refine zF ?_;refine zC (zA (zL ?_));have e := (x.fin (by omega) (by omega)).1;rw [L_dig,L_dig] at e;exact FinV.ret rfl (SubP.of_eq (by rw [e];(try rw [Nat.add_comm])))
 ·
  refine zK (zA ?_);refine ev_R tabT [1019] 400 ?_;refine ev_freeze 203 rfl (by repeat (first | exact trivial | exact rfl | refine ⟨?_,?_⟩)) (by repeat (first | exact trivial | refine ⟨?_,?_⟩)) ?_;refine ev_R tabT [] 500 ?_;refine zB ?_;refine ev_R tabT [] 600 ?_;refine zM ?_;refine zX (ι := PlL (lim a) (lim b)) [1,20,21] [] 650 (fun x => [(22,.v (.int .i64 (x.k : Nat))),(6,.v (.int .u64 (x.c : Nat))),(5,.own 203 1 (x.o.map uD))]) (fun x => [(203,.row 104 1 (x.o.map uD).length)]) (fun x => (lim a).length - x.k) (PlL.start _ _) ?_;refine ⟨⟨le_t,le_o,rfl,rfl⟩,fun x => ?_⟩;have hk := x.le;have hk2 := x.lo;have hk3 := x.hc;have hk4 := qJ (yM a) x.k;have hk5 := qJ (yM b) x.k;refine ev_R tabT [] 700 ?_;refine zB ?_;refine zT (fun c6 => ?_) (fun c6 => ?_)
  ·
   refine zK (zA ?_);refine zB ?_;refine zM ?_;refine ev_R tabT [] 800 ?_;refine ev_R tabT [] 900 ?_;refine zB ?_;refine ev_R tabT [] 1000 ?_;refine zT (fun c9 => ?_) (fun c9 => ?_)
   ·
    refine ev_Q tabT [] 1100 ?_;refine zA ?_;refine ev_R tabT [] 1200 ?_;refine ev_Q tabT [] 1300 ?_;refine zJ (zA ?_);refine ev_Q tabT [] 1400 ?_;have zb := @getD_geL (lim b) x.k;exact zQ (x.next (yM a) (yM b) (by omega)) ⟨(by first | exact trivial | (repeat (first | exact trivial | exact Sub.refl _ | refine ⟨?_,?_⟩ | exact Sub.int (by first | rfl | omega | (push_cast;omega)) | exact Sub.nilSl | exact Sub.own rfl | exact Sub.slrSl rfl | exact Sub.ownSl (List.map_append).symm | exact Sub.ownSl rfl | exact Sub.int (by show (x.k : Int) + 1 = ((x.k + 1 : Nat) : Int);omega) | exact Sub.int (hi32 (plL_s x (by (try simp only [Int.toNat_natCast]);simp only [IntKind.wrap,IntKind.signed,IntKind.bits,Bool.false_and,Bool.false_eq_true,if_false];omega))) | exact Sub.own (uD_snoc (lo32 (plL_s x (by (try simp only [Int.toNat_natCast]);simp only [IntKind.wrap,IntKind.signed,IntKind.bits,Bool.false_and,Bool.false_eq_true,if_false];omega))))))),(by repeat (first | exact trivial | exact SubO.same rfl | exact ⟨rfl,rfl,by show _ = (List.map uD (x.o ++ _)).length;simp⟩ | refine ⟨?_,?_⟩)),rfl,rfl⟩ (by show (lim a).length - (x.k + 1) < (lim a).length - x.k;omega)
   ·
    refine zK (zA ?_);refine ev_R tabT [] 1200 ?_;refine ev_Q tabT [] 1300 ?_;refine zJ (zA ?_);refine ev_Q tabT [] 1400 ?_;have zb := @getD_geL (lim b) x.k;exact zQ (x.next (yM a) (yM b) (by omega)) ⟨(by first | exact trivial | (repeat (first | exact trivial | exact Sub.refl _ | refine ⟨?_,?_⟩ | exact Sub.int (by first | rfl | omega | (push_cast;omega)) | exact Sub.nilSl | exact Sub.own rfl | exact Sub.slrSl rfl | exact Sub.ownSl (List.map_append).symm | exact Sub.ownSl rfl | exact Sub.int (by show (x.k : Int) + 1 = ((x.k + 1 : Nat) : Int);omega) | exact Sub.int (hi32 (plL_s x (by (try simp only [Int.toNat_natCast]);simp only [IntKind.wrap,IntKind.signed,IntKind.bits,Bool.false_and,Bool.false_eq_true,if_false];omega))) | exact Sub.own (uD_snoc (lo32 (plL_s x (by (try simp only [Int.toNat_natCast]);simp only [IntKind.wrap,IntKind.signed,IntKind.bits,Bool.false_and,Bool.false_eq_true,if_false];omega))))))),(by repeat (first | exact trivial | exact SubO.same rfl | exact ⟨rfl,rfl,by show _ = (List.map uD (x.o ++ _)).length;simp⟩ | refine ⟨?_,?_⟩)),rfl,rfl⟩ (by show (lim a).length - (x.k + 1) < (lim a).length - x.k;omega)
  ·
   refine yB (zU (zW (zS (zA ?_))));refine zB (zE tabT [] 1500 rfl ?_);refine zF ?_;refine zO _ ((qN (x.o ++ [x.c]) (x.lg.snoc (by omega)) (by simp;omega)).args ⟨SubP.ownSl (uD_snoc (by simp only [IntKind.wrap,IntKind.signed,IntKind.bits,Bool.false_and,Bool.false_eq_true,if_false];omega)),trivial⟩) rfl ?_;refine zF ?_;refine zC (zA (zL ?_));have e := (x.fin (by omega) (by omega)).1;rw [L_dig,L_dig] at e;exact FinV.ret rfl (SubP.of_eq (by rw [e];(try rw [Nat.add_comm])))
theorem zrows (n : Nat) : (MR.map (List.replicate n ()) (fun _ => litS [.int .u32 0]) ()).rows = (MR.map (List.replicate n 0) uD 0).rows := by
 simp only [MR.rows,List.map_replicate];rfl
theorem set_rows (o : List Nat) (j v : Nat) : (MR.upd (.map o uD 0) j (uD v)).rows = (MR.map (o.set j v) uD 0).rows := by
 simp only [MR.rows,List.map_set]
theorem w64 {n : Nat} (h : n < 18446744073709551616) : IntKind.u64.wrap (n : Int) = (n : Int) := by
 simp only [IntKind.wrap,IntKind.signed,IntKind.bits,Bool.false_and,Bool.false_eq_true,if_false];omega
theorem w32n {n : Nat} (h : n < 4294967296) : IntKind.u32.wrap (n : Int) = (n : Int) := by
 simp only [IntKind.wrap,IntKind.signed,IntKind.bits,Bool.false_and,Bool.false_eq_true,if_false];omega
theorem muI_s {a b : List Nat} {i : Nat} (y : MuI a b i) (ha : Lg a) (hb : Lg b) : IntKind.u64.wrap ((y.c : Int) + IntKind.u64.wrap (IntKind.u64.wrap (IntKind.u64.wrap ((a.getD i 0 : Nat) : Int) * IntKind.u64.wrap ((b.getD y.k 0 : Nat) : Int)) + IntKind.u64.wrap ((y.o.getD (i + y.k) 0 : Nat) : Int))) = ((y.s : Nat) : Int) := by
 have h0 := y.s_lt ha hb;have h1 := qJ ha i;have h2 := qJ hb y.k;have h3 := qJ y.lg (i + y.k);have h4 := mul_lt32 h1 h2;have h5 := y.hc;unfold MuI.s at *;rw [w64 (n := a.getD i 0) (by omega),w64 (n := b.getD y.k 0) (by omega),w64 (n := y.o.getD (i + y.k) 0) (by omega),← Int.natCast_mul,w64 (n := a.getD i 0 * b.getD y.k 0) (by omega),← Int.natCast_add,w64 (n := a.getD i 0 * b.getD y.k 0 + y.o.getD (i + y.k) 0) (by omega),← Int.natCast_add,w64 (by omega)];congr 1;omega
theorem sn232 {P : Program} {K : DS → Prop} {p : Prop} {r : Out} (hr : r.sat P K) (hp : p := by first | exact ⟨hm2,by rw [← hm2];omega⟩ | exact ⟨hm2,by omega⟩ | exact ⟨hm,by rw [← hm];omega⟩ | exact ⟨hm,by omega⟩ | first | exact trivial | omega | exact ini (by omega) (by omega) | (intro hh;simp at hh;exact ini (by omega) (by omega)) | (intro hh;simp at hh ⊢;omega) | (simp at *;omega) | (simp_all;done)) : (Out.need p r).sat P K := ⟨hp,hr⟩
theorem natMul0_ok (a b : Nat) (ha : (lim a).length ≤ 100000) (hb : (lim b).length ≤ 100000) : Fn Tryz.prog 158 [usD (lim a),usD (lim b)] (usD (lim (a * b))) := by
 refine yD tabT Tryz.func158 rfl rfl rfl rfl rfl rfl ?_;intro w0 s0 mx;refine ev_R tabT [] 100 ?_;refine ev_R tabT [1016] 200 ?_;refine yN [0,1] [] 210 [(5,.mo 105 ((lim a).length + (lim b).length))] [(105,.mrow 104 1 (.map (List.replicate ((lim a).length + (lim b).length) 0) uD 0))] ?_;refine ⟨⟨⟨Sub.mo (by omega),le_t⟩,⟨SubO.mr (by rw [zrows];congr 3),le_o⟩,rfl,rfl⟩,?_⟩;refine zB ?_;refine ev_R tabT [] 300 ?_;refine zM ?_;refine zX (ι := MuO (lim a) (lim b)) [1,5,17,18] [] 350 (fun x => [(19,.v (.int .i64 (x.i : Nat)))]) (fun x => [(105,.mrow 104 1 (.map x.o uD 0))]) (fun x => (lim a).length - x.i) (MuO.start _ _) ?_;refine ⟨⟨le_t,le_o,rfl,rfl⟩,fun x => ?_⟩;have hk := x.le;have hlo := x.lo;have hm : ((lim a).length + (lim b).length) = (MR.map x.o uD 0).len := by rw [MR.len,hlo]
 refine ev_R tabT [] 400 ?_;refine zB ?_;refine zT (fun c3 => ?_) (fun c3 => ?_)
 ·
  refine zK (zA ?_);refine zB ?_;refine zM ?_;refine ev_R tabT [] 500 ?_;refine ev_R tabT [] 600 ?_;refine zB ?_;refine ev_R tabT [] 700 ?_;refine zM ?_;refine zX (ι := MuI (lim a) (lim b) x.i) [1,5,6,7,17,18,19,24,25] [] 750 (fun y => [(26,.v (.int .i64 (y.k : Nat))),(8,.v (.int .u64 (y.c : Nat)))]) (fun y => [(105,.mrow 104 1 (.map y.o uD 0))]) (fun y => (lim b).length - y.k) (MuI.start x) ?_;refine ⟨⟨le_t,le_o,rfl,rfl⟩,fun y => ?_⟩;have hky := y.le;have hly := y.lo;have hm2 : ((lim a).length + (lim b).length) = (MR.map y.o uD 0).len := by rw [MR.len,hly]
  have hj : ((x.i : Int) + (y.k : Int)).toNat = x.i + y.k := by omega
  have es := muI_s y (yM a) (yM b);refine ev_R tabT [] 800 ?_;refine zB ?_;refine zT (fun c7 => ?_) (fun c7 => ?_)
  ·
   refine zK (zA ?_);refine zB ?_;refine zM ?_;refine ev_R tabT [] 900 ?_;refine zB (zE tabT [] 1000 rfl ?_);repeat (first | refine zG ?_ | refine zH ?_ | refine sn232 ?_)
   refine zC (zA ?_);refine zB (zE tabT [] 1100 rfl ?_);repeat (first | refine zG ?_ | refine zH ?_ | refine sn232 ?_)
   refine zC (zA ?_);refine ev_Q tabT [] 1200 ?_;refine zJ (zA ?_);refine ev_Q tabT [] 1300 ?_;exact zQ (y.next (yM a) (yM b) (by omega) (by omega)) ⟨(by first | exact trivial | (repeat (first | exact trivial | exact Sub.refl _ | refine ⟨?_,?_⟩ | exact Sub.int (by first | rfl | omega | (push_cast;omega)) | exact Sub.nilSl | exact Sub.own rfl | exact Sub.slrSl rfl | exact Sub.ownSl (List.map_append).symm | exact Sub.ownSl rfl | exact Sub.int (by show (y.k : Int) + 1 = ((y.k + 1 : Nat) : Int);omega) | exact Sub.int (by (try simp only [hj,Int.toNat_natCast]);rw [es];exact hi32 rfl)))),⟨SubO.mr (by (try simp only [hj,Int.toNat_natCast]);rw [es,lo32 rfl];exact set_rows _ _ _),le_o⟩,rfl,rfl⟩ (by show (lim b).length - (y.k + 1) < (lim b).length - y.k;omega)
  ·
   refine yB (zU (zW (zS (zA ?_))));refine zE tabT [] 1400 rfl ?_;repeat (first | refine zG ?_ | refine zH ?_ | refine sn232 ?_)
   refine zC (zJ (zA ?_));refine ev_Q tabT [] 1500 ?_;exact zQ (y.fin (by omega) (by omega)) ⟨(by first | exact trivial | (repeat (first | exact trivial | exact Sub.refl _ | refine ⟨?_,?_⟩ | exact Sub.int (by first | rfl | omega | (push_cast;omega)) | exact Sub.nilSl | exact Sub.own rfl | exact Sub.slrSl rfl | exact Sub.ownSl (List.map_append).symm | exact Sub.ownSl rfl | exact Sub.int (by show (x.i : Int) + 1 = ((x.i + 1 : Nat) : Int);omega)))),⟨SubO.mr (by have hj : ((x.i : Int) + ((lim b).length : Int)).toNat = x.i + (lim b).length := (by omega);(try simp only [hj]);rw [w32n y.hc];exact set_rows _ _ _),le_o⟩,rfl,rfl⟩ (by show (lim a).length - (x.i + 1) < (lim a).length - x.i;omega)
 ·
  refine yB (zU (zW (zS (zA ?_))));refine ev_freeze 105 rfl (by repeat (first | exact trivial | exact hm | refine ⟨?_,?_⟩)) (by repeat (first | exact trivial | refine ⟨?_,?_⟩)) ?_;refine zB (zE tabT [] 1600 rfl ?_);refine zF ?_;refine zO _ ((qN x.o x.lg (by omega)).args ⟨SubP.ownSl rfl,trivial⟩) rfl ?_;refine zF ?_;refine zC (zA (zL ?_));have e := x.fin (by omega);rw [L_dig,L_dig] at e;exact FinV.ret rfl (SubP.of_eq (by rw [e]))
theorem or64 {h l : Nat} (hh : h < 4294967296) (hl : l < 4294967296) : bOr .u64 (IntKind.u64.wrap (IntKind.u64.wrap (h : Int) * 2 ^ min (Int.toNat 32) IntKind.u64.bits)) (IntKind.u64.wrap (l : Int)) = ((h * 4294967296 + l : Nat) : Int) := by
 rw [show ((2 : Int) ^ min (Int.toNat 32) IntKind.u64.bits) = ((4294967296 : Nat) : Int) by decide,w64 (n := h) (by omega),w64 (n := l) (by omega),← Int.natCast_mul,w64 (n := h * 4294967296) (by omega)];show IntKind.u64.wrap ((BitVec.ofInt 64 ((h * 4294967296 : Nat) : Int) ||| BitVec.ofInt 64 ((l : Nat) : Int)).toNat : Int) = _;rw [BitVec.ofInt_natCast,BitVec.ofInt_natCast,BitVec.toNat_or,BitVec.toNat_ofNat,BitVec.toNat_ofNat,Nat.mod_eq_of_lt (by omega),Nat.mod_eq_of_lt (by omega)];have e := Nat.two_pow_add_eq_or_of_lt (i := 32) (b := l) (by simpa using hl) h;rw [show (2 : Nat) ^ 32 = 4294967296 by decide,Nat.mul_comm 4294967296 h] at e;rw [← e,w64 (by omega)]
theorem div32_ok {h l d : Int} (hh : I32 h) (hl : I32 l) (hd : I32 d) (hlt : h < d) :
  bOr .u64 (IntKind.u64.wrap (IntKind.u64.wrap h * 2 ^ min (Int.toNat 32) IntKind.u64.bits)) (IntKind.u64.wrap l) = ((h.toNat * 4294967296 + l.toNat : Nat) : Int) ∧ IntKind.u64.wrap d = ((d.toNat : Nat) : Int) ∧ (h.toNat * 4294967296 + l.toNat) / d.toNat < 4294967296 ∧ (h.toNat * 4294967296 + l.toNat) % d.toNat < 4294967296 := by
 obtain ⟨h,rfl⟩ := Int.eq_ofNat_of_zero_le hh.1;obtain ⟨l,rfl⟩ := Int.eq_ofNat_of_zero_le hl.1;obtain ⟨d,rfl⟩ := Int.eq_ofNat_of_zero_le hd.1;have h1 := hh.2;have h2 := hl.2;have h3 := hd.2;simp only [Int.toNat_natCast];refine ⟨or64 (by omega) (by omega),w64 (by omega),?_,?_⟩
 ·rw [Nat.div_lt_iff_lt_mul (by omega)];omega
 ·exact Nat.lt_of_lt_of_le (Nat.mod_lt _ (by omega)) (by omega)
theorem sn233 {P : Program} {K : DS → Prop} {p : Prop} {r : Out} (hr : r.sat P K) (hp : p := by first | (rw [e2];omega) | first | exact trivial | omega | exact ini (by omega) (by omega) | (intro hh;simp at hh;exact ini (by omega) (by omega)) | (intro hh;simp at hh ⊢;omega) | (simp at *;omega) | (simp_all;done)) : (Out.need p r).sat P K := ⟨hp,hr⟩
theorem Div32_ok (h l d : Int) (hh : I32 h) (hl : I32 l) (hd : I32 d) (hlt : h < d) : Fn Tryz.prog 178 [.v (.int .u32 h),.v (.int .u32 l),.v (.int .u32 d)] (.tup [.v (.int .u32 ((h.toNat * 4294967296 + l.toNat) / d.toNat : Nat)),.v (.int .u32 ((h.toNat * 4294967296 + l.toNat) % d.toNat : Nat))]) := by
 obtain ⟨e1,e2,e3,e4⟩ := div32_ok hh hl hd hlt;have hd0 : 0 < d := by have := hh.1;omega
 refine yD tabT Tryz.func178 rfl rfl rfl rfl rfl rfl ?_;intro w0 s0 mx;refine zB (zE tabT [] 100 rfl ?_);repeat (first | refine zG ?_ | refine zH ?_ | refine sn233 ?_)
 refine zC (zA ?_);refine zB ?_;refine zB (zE tabT [] 200 rfl ?_);repeat (first | refine zG ?_ | refine zH ?_ | refine sn233 ?_)
 refine zC (zA ?_);refine zT (fun c1 => ?_) (fun c1 => ?_)
 ·
  exact absurd c1 (by simp;omega)
 ·
  refine zK (zA ?_);refine zB (zE tabT [] 400 rfl ?_);repeat (first | refine zG ?_ | refine zH ?_ | refine sn233 ?_)
  refine zC (zA ?_);refine zB (zZ tabT [] [[],[],[1],[0,1,2],[0,1,2,3],[],[],[6],[5,6,7],[5,6,7,8],[0,1,2,3,4],[0,1,2,3,4,5,6,7,8,9,10]] 500 mixT (by kernel_rfl) rfl ?_);repeat (first | refine zG ?_ | refine zH ?_ | refine sn233 ?_)
  refine zC (zA (zL ?_));exact FinV.ret rfl (SubP.tup ⟨SubP.int (by rw [e1,e2,← Int.ofNat_tdiv,w64 (Nat.lt_trans e3 (by decide)),w32n e3]),SubP.int (by rw [e1,e2,← Int.ofNat_tmod,w32n e4]),trivial⟩)
variable {md me : Bool}
theorem natAdd_ok (a b : Nat) (ha : (lim a).length ≤ 600) (hb : (lim b).length ≤ 600) (hab : (lim (a + b)).length ≤ 600) : Fn Tryz.prog 140 [usD (lim a),usD (lim b)] (.tup [usD (lim (a + b)),faD 0 0]) := by
 refine yD tabT Tryz.func140 rfl rfl rfl rfl rfl rfl ?_;intro w0 s0 mx;refine ev_R tabT [] 100 ?_;refine zB ?_;refine zB (zE tabT [] 200 rfl ?_);refine zF ?_;refine zO _ (natCheck_ok _ _ (by first | assumption | omega | (simp_all;done)) (by first | assumption | omega | (simp_all;done))) rfl ?_;refine zF ?_;refine zC (zA ?_);refine ev_R tabT [] 300 ?_;refine zT (fun c2 => ?_) (fun c2 => ?_)
 ·
  exact absurd c2 (by decide)
 ·
  refine zK (zA ?_);refine zB (zE tabT [] 500 rfl ?_);refine zF ?_;refine zO _ (natAdd0_ok a b (by omega) (by omega)) rfl ?_;refine zF ?_;refine zO _ (natFit_ok (lim (a + b)) (yM _) (by omega) (by rw [L_dig];exact hab)) rfl ?_;refine zF ?_;refine zC (zA (zL ?_));exact FinV.ret rfl (SubP.tup ⟨SubP.of_eq (by rw [L_dig]),SubP.refl _,trivial⟩)
theorem natMul_ok (a b : Nat) (ha : (lim a).length ≤ 600) (hb : (lim b).length ≤ 600) (hab : (lim (a * b)).length ≤ 600) : Fn Tryz.prog 136 [usD (lim a),usD (lim b)] (.tup [usD (lim (a * b)),faD 0 0]) := by
 refine yD tabT Tryz.func136 rfl rfl rfl rfl rfl rfl ?_;intro w0 s0 mx;refine ev_R tabT [] 100 ?_;refine zB ?_;refine zB (zE tabT [] 200 rfl ?_);refine zF ?_;refine zO _ (natCheck_ok _ _ (by first | assumption | omega | (simp_all;done)) (by first | assumption | omega | (simp_all;done))) rfl ?_;refine zF ?_;refine zC (zA ?_);refine ev_R tabT [] 300 ?_;refine zT (fun c2 => ?_) (fun c2 => ?_)
 ·
  exact absurd c2 (by decide)
 ·
  refine zK (zA ?_);refine zB (zE tabT [] 500 rfl ?_);refine zF ?_;refine zO _ (natMul0_ok a b (by omega) (by omega)) rfl ?_;refine zF ?_;refine zO _ (natFit_ok (lim (a * b)) (yM _) (by omega) (by rw [L_dig];exact hab)) rfl ?_;refine zF ?_;refine zC (zA (zL ?_));exact FinV.ret rfl (SubP.tup ⟨SubP.of_eq (by rw [L_dig]),SubP.refl _,trivial⟩)
theorem natSub_ok (a b : Nat) (ha : (lim a).length ≤ 600) (hb : (lim b).length ≤ 600) (hle : b ≤ a) : Fn Tryz.prog 141 [usD (lim a),usD (lim b)] (.tup [usD (lim (a - b)),faD 0 0]) := by
 have hneg := cmpL_neg a b;refine yD tabT Tryz.func141 rfl rfl rfl rfl rfl rfl ?_;intro w0 s0 mx;refine ev_R tabT [] 100 ?_;refine zB ?_;refine zB (zE tabT [] 200 rfl ?_);refine zF ?_;refine zO _ (natCheck_ok _ _ (by first | assumption | omega | (simp_all;done)) (by first | assumption | omega | (simp_all;done))) rfl ?_;refine zF ?_;refine zC (zA ?_);refine ev_R tabT [] 300 ?_;refine zT (fun c2 => ?_) (fun c2 => ?_)
 ·
  exact absurd c2 (by decide)
 ·
  refine zK (zA ?_);refine zB ?_;refine zB (zE tabT [] 500 rfl ?_);refine zF ?_;refine zO _ (natCompare_ok a b (by omega) (by omega)) rfl ?_;refine zF ?_;refine zC (zA ?_);refine zT (fun c4 => ?_) (fun c4 => ?_)
  ·
   exact absurd c4 (by simp;omega)
  ·
   refine zK (zA ?_);refine zB (zE tabT [] 700 rfl ?_);refine zF ?_;refine zO _ (natSub0_ok _ _ (by first | assumption | omega | (simp_all;done)) (by first | assumption | omega | (simp_all;done)) (by first | assumption | omega | (simp_all;done))) rfl ?_;refine zF ?_;refine zC (zA (zL ?_));exact FinV.ret rfl (SubP.refl _)
theorem sn234 {P : Program} {K : DS → Prop} {p : Prop} {r : Out} (hr : r.sat P K) (hp : p := by first | exact ⟨hm,by rw [← hm];omega⟩ | exact ⟨hm,by omega⟩ | first | exact trivial | omega | exact ini (by omega) (by omega) | (intro hh;simp at hh;exact ini (by omega) (by omega)) | (intro hh;simp at hh ⊢;omega) | (simp at *;omega) | (simp_all;done)) : (Out.need p r).sat P K := ⟨hp,hr⟩
theorem natShort_ok (a d : Nat) (ha : (lim a).length ≤ 100000) (h0 : 0 < d) (hd : d < 4294967296) : Fn Tryz.prog 174 [usD (lim a),.v (.int .u32 d)] (.tup [usD (lim (a / d)),.v (.int .u32 (a % d : Nat))]) := by
 refine yD tabT Tryz.func174 rfl rfl rfl rfl rfl rfl ?_;intro w0 s0 mx;refine ev_R tabT [] 100 ?_;refine ev_R tabT [1011] 200 ?_;refine yN [0,1] [] 210 [(6,.mo 102 (lim a).length)] [(102,.mrow 104 1 (.map (List.replicate (lim a).length 0) uD 0))] ?_;refine ⟨⟨⟨Sub.mo (by omega),le_t⟩,⟨SubO.mr (by rw [zrows];congr 3),le_o⟩,rfl,rfl⟩,?_⟩;refine ev_R tabT [] 300 ?_;refine zB ?_;refine ev_R tabT [] 400 ?_;refine zM ?_;refine zX (ι := Sho (lim a) d) [0,1,6] [] 450 (fun x => [(8,.v (.int .i64 ((x.k : Int) - 1))),(7,.v (.int .u32 (x.r : Nat)))]) (fun x => [(102,.mrow 104 1 (.map x.o uD 0))]) (fun x => x.k) (Sho.start _ h0) ?_;refine ⟨⟨le_t,le_o,rfl,rfl⟩,fun x => ?_⟩;have hk := x.le;have hlo := x.lo;have hr := x.hr;have hm : (lim a).length = (MR.map x.o uD 0).len := by rw [MR.len,hlo]
 have hkt : ((x.k : Int) - 1).toNat = x.k - 1 := by omega
 refine zB ?_;refine ev_R tabT [] 500 ?_;refine zT (fun c4 => ?_) (fun c4 => ?_)
 ·
  refine zK (zA ?_);refine zB ?_;refine zM ?_;refine zE tabT [] 700 rfl ?_;repeat (first | refine zG ?_ | refine zH ?_ | refine sn234 ?_)
  refine zO _ (Div32_ok _ _ _ ⟨by omega,by omega⟩ (i32_at (yM a) _) ⟨by omega,by omega⟩ (by omega)) rfl ?_;repeat (first | refine zG ?_ | refine zH ?_ | refine sn234 ?_)
  refine zC (zJ (zA ?_));refine ev_Q tabT [] 800 ?_;have es : x.s = x.r * 4294967296 + (lim a).getD (x.k - 1) 0 := rfl;exact zQ (x.next (yM a) hd (by omega)) ⟨⟨Sub.int (by show (x.k : Int) - 1 - 1 = ((x.k - 1 : Nat) : Int) - 1;omega),Sub.int (by simp only [hkt,Int.toNat_natCast];show _ = ((x.s % d : Nat) : Int);rw [es]),le_t⟩,⟨SubO.mr (by simp only [hkt,Int.toNat_natCast];show _ = (MR.map (x.o.set (x.k - 1) (x.s / d)) uD 0).rows;rw [es];exact set_rows _ _ _),le_o⟩,rfl,rfl⟩ (by show x.k - 1 < x.k;omega)
 ·
  refine yB (zU (zW (zS (zA ?_))));refine ev_freeze 102 rfl (by repeat (first | exact trivial | exact hm | refine ⟨?_,?_⟩)) (by repeat (first | exact trivial | refine ⟨?_,?_⟩)) ?_;refine zB (zE tabT [] 800 rfl ?_);refine zF ?_;refine zO _ ((qN x.o x.lg (by omega)).args ⟨SubP.ownSl rfl,trivial⟩) rfl ?_;refine zF ?_;refine zC (zA (zL ?_));have e := x.fin (by omega);rw [L_dig] at e;exact FinV.ret rfl (SubP.tup ⟨SubP.of_eq (by rw [e.1]),SubP.int (by rw [e.2]),trivial⟩)
theorem two_split (n : Nat) : 2 ^ n = 4294967296 ^ (n / 32) * 2 ^ (n % 32) := by
 conv => lhs;rw [← Nat.div_add_mod n 32]
 rw [Nat.pow_add,Nat.pow_mul]
theorem P_dvd (n : Nat) : 4294967296 = 2 ^ (n % 32) * 2 ^ (32 - n % 32) := by
 have h := Nat.mod_lt n (show 0 < 32 by decide);rw [← Nat.pow_add,show n % 32 + (32 - n % 32) = 32 by omega]
theorem P_pos (n : Nat) : 0 < 2 ^ (n % 32) := Nat.pow_pos (by decide)
theorem P_le (n : Nat) : 2 ^ (n % 32) ≤ 2147483648 := by
 have h := Nat.mod_lt n (show 0 < 32 by decide);have h1 : 2 ^ (n % 32) ≤ 2 ^ 31 := Nat.pow_le_pow_right (by decide) (by omega);simpa using h1
structure Lf (l : List Nat) (n : Nat) where
 k : Nat
 c : Nat
 o : List Nat
 eq : VL o + c * 4294967296 ^ (n / 32 + k) = VL (l.take k) * 2 ^ n
 lo : o.length = n / 32 + k
 lg : Lg o
 hc : c < 2 ^ (n % 32)
 le : k ≤ l.length
def Lf.start (l : List Nat) (n : Nat) : Lf l n := ⟨0,0,List.replicate (n / 32) 0,by simp [L_zeros,VL],by simp,Lg_zeros _,P_pos n,Nat.zero_le _⟩
def Lf.w {l : List Nat} {n : Nat} (x : Lf l n) : Nat := l.getD x.k 0 * 2 ^ (n % 32)
theorem lf_low (x n : Nat) : x * 2 ^ (n % 32) % 4294967296 = 2 ^ (n % 32) * (x % 2 ^ (32 - n % 32)) := by
 conv => lhs;rw [P_dvd n,Nat.mul_comm x]
 rw [Nat.mul_mod_mul_left]
theorem lf_or {x n c : Nat} (hc : c < 2 ^ (n % 32)) : x * 2 ^ (n % 32) % 4294967296 ||| c = x * 2 ^ (n % 32) % 4294967296 + c := by
 rw [lf_low,Nat.two_pow_add_eq_or_of_lt hc]
theorem lf_lt {x n c : Nat} (hc : c < 2 ^ (n % 32)) : x * 2 ^ (n % 32) % 4294967296 + c < 4294967296 := by
 have h0 := P_dvd n;have h1 : x % 2 ^ (32 - n % 32) < 2 ^ (32 - n % 32) := Nat.mod_lt _ (Nat.pow_pos (by decide));have h2 : 2 ^ (n % 32) * (x % 2 ^ (32 - n % 32) + 1) ≤ 2 ^ (n % 32) * 2 ^ (32 - n % 32) := Nat.mul_le_mul_left _ h1;rw [Nat.mul_add] at h2;rw [lf_low];omega
theorem lf_w_lt {x : Nat} (n : Nat) (h : x < 4294967296) : x * 2 ^ (n % 32) < 18446744073709551616 := by
 have h1 : x * 2 ^ (n % 32) ≤ 4294967295 * 2147483648 := Nat.mul_le_mul (by omega) (P_le n);omega
theorem lf_hi {x : Nat} (n : Nat) (h : x < 4294967296) : x * 2 ^ (n % 32) / 4294967296 < 2 ^ (n % 32) := by
 rw [Nat.div_lt_iff_lt_mul (by decide),Nat.mul_comm];exact Nat.mul_lt_mul_of_pos_left h (P_pos n)
theorem lf_step {l o : List Nat} {n k c : Nat} (h : VL o + c * 4294967296 ^ (n / 32 + k) = VL (l.take k) * 2 ^ n) (ho : o.length = n / 32 + k) :
  VL (o ++ [l.getD k 0 * 2 ^ (n % 32) % 4294967296 + c]) + l.getD k 0 * 2 ^ (n % 32) / 4294967296 * 4294967296 ^ (n / 32 + (k + 1)) = VL (l.take (k + 1)) * 2 ^ n := by
 have e0 : 4294967296 ^ k * l.getD k 0 * 2 ^ n = 4294967296 ^ (n / 32 + k) * (l.getD k 0 * 2 ^ (n % 32)) := by
  rw [two_split n,Nat.pow_add,Nat.mul_mul_mul_comm,Nat.mul_comm (4294967296 ^ k)]
 rw [L_snoc,ho,yS l,Nat.add_mul,e0,← Nat.add_assoc (n / 32) k 1,Nat.pow_succ];generalize 4294967296 ^ (n / 32 + k) = B at *;generalize l.getD k 0 * 2 ^ (n % 32) = w at *;generalize VL (l.take k) * 2 ^ n = R at *;have e := Nat.div_add_mod w 4294967296;have e2 : B * w = B * (4294967296 * (w / 4294967296)) + B * (w % 4294967296) := by rw [← Nat.mul_add,e]
 have e3 : B * (w % 4294967296 + c) = B * (w % 4294967296) + B * c := Nat.mul_add _ _ _;have e4 : w / 4294967296 * (B * 4294967296) = B * (4294967296 * (w / 4294967296)) := by rw [Nat.mul_comm,Nat.mul_assoc]
 have e5 : c * B = B * c := Nat.mul_comm _ _;omega
def Lf.next {l : List Nat} {n : Nat} (x : Lf l n) (hg : Lg l) (h : x.k < l.length) : Lf l n := ⟨x.k + 1,x.w / 4294967296,x.o ++ [x.w % 4294967296 + x.c],lf_step x.eq x.lo,by simp [x.lo];omega,x.lg.snoc (lf_lt x.hc),lf_hi n (qJ hg _),h⟩
theorem Lf.fin {l : List Nat} {n : Nat} (x : Lf l n) (h : l.length ≤ x.k) : VL (x.o ++ [x.c]) = VL l * 2 ^ n ∧ Lg (x.o ++ [x.c]) ∧ (x.o ++ [x.c]).length = n / 32 + l.length + 1 := by
 have hk := x.le;have h1 := x.eq;have h2 := P_le n;have h3 := x.hc;rw [List.take_of_length_le h] at h1;refine ⟨by rw [L_snoc,x.lo,Nat.mul_comm];exact h1,x.lg.snoc (by omega),by rw [List.length_append,x.lo,List.length_singleton];omega⟩
theorem VL_div {l : List Nat} (hg : Lg l) (i : Nat) : VL l / 4294967296 ^ i = VL (l.drop i) := by
 rcases Nat.lt_or_ge i l.length with h | h
 ·have h1 := L_take_drop l i (Nat.le_of_lt h);have h2 := L_lt (hg.take i);rw [List.length_take,Nat.min_eq_left (Nat.le_of_lt h)] at h2;rw [h1,Nat.add_mul_div_left _ _ (Nat.pow_pos (by decide)),Nat.div_eq_of_lt h2,Nat.zero_add]
 ·rw [List.drop_of_length_le h,L_nil];exact Nat.div_eq_of_lt (Nat.lt_of_lt_of_le (L_lt hg) (Nat.pow_le_pow_right (by decide) h))
theorem VL_drop_one (l : List Nat) (i : Nat) : VL (l.drop i) = l.getD i 0 + 4294967296 * VL (l.drop (i + 1)) := by
 rcases Nat.lt_or_ge i l.length with h | h
 ·rw [List.drop_eq_getElem_cons h,L_cons,yP h]
 ·rw [List.drop_of_length_le h,List.drop_of_length_le (by omega),getD_geL h];rfl
structure Rg (l : List Nat) (n : Nat) where
 k : Nat
 o : List Nat
 eq : VL o = VL l / 2 ^ n % 4294967296 ^ k
 lo : o.length = k
 lg : Lg o
 le : k ≤ l.length
def Rg.start (l : List Nat) (n : Nat) : Rg l n := ⟨0,[],by rw [Nat.pow_zero,Nat.mod_one];rfl,rfl,Lg.nil,Nat.zero_le _⟩
def Rg.w {l : List Nat} {n : Nat} (x : Rg l n) : Nat := l.getD (n / 32 + x.k) 0 + 4294967296 * l.getD (n / 32 + x.k + 1) 0
theorem rg_limb {l : List Nat} {n k : Nat} (hg : Lg l) : VL l / 2 ^ n / 4294967296 ^ k % 4294967296 = (l.getD (n / 32 + k) 0 + 4294967296 * l.getD (n / 32 + k + 1) 0) / 2 ^ (n % 32) % 4294967296 := by
 rw [Nat.div_div_eq_div_mul,two_split n,Nat.mul_right_comm,← Nat.pow_add,← Nat.div_div_eq_div_mul,VL_div hg,VL_drop_one,VL_drop_one l (n / 32 + k + 1),Nat.mul_add,← Nat.add_assoc];generalize l.getD (n / 32 + k) 0 + 4294967296 * l.getD (n / 32 + k + 1) 0 = W;generalize VL (l.drop (n / 32 + k + 1 + 1)) = R;have e : 4294967296 * (4294967296 * R) = 2 ^ (n % 32) * (4294967296 * (2 ^ (32 - n % 32) * R)) := by
  have h := P_dvd n;generalize 2 ^ (n % 32) = P at *;generalize 2 ^ (32 - n % 32) = T at *
  calc 4294967296 * (4294967296 * R) = (P * T) * (4294967296 * R) := by rw [← h]
   _ = P * (4294967296 * (T * R)) := by rw [Nat.mul_assoc,Nat.mul_left_comm T]
 rw [e,Nat.add_mul_div_left _ _ (P_pos n),Nat.add_mul_mod_self_left]
def Rg.next {l : List Nat} {n : Nat} (x : Rg l n) (hg : Lg l) (h : n / 32 + x.k < l.length) : Rg l n := ⟨x.k + 1,x.o ++ [x.w / 2 ^ (n % 32) % 4294967296],by
 rw [L_snoc,x.lo,x.eq];unfold Rg.w;rw [← rg_limb hg,Nat.pow_succ,Nat.mod_mul],by simp [x.lo],x.lg.snoc (Nat.mod_lt _ (by decide)),by omega⟩
theorem Rg.fin {l : List Nat} {n : Nat} (x : Rg l n) (hg : Lg l) (h : l.length ≤ n / 32 + x.k) : VL x.o = VL l / 2 ^ n := by
 rw [x.eq];refine Nat.mod_eq_of_lt ?_;have h1 : VL l < 4294967296 ^ (n / 32 + x.k) := Nat.lt_of_lt_of_le (L_lt hg) (Nat.pow_le_pow_right (by decide) h);rw [Nat.div_lt_iff_lt_mul (Nat.pow_pos (by decide))];refine Nat.lt_of_lt_of_le h1 ?_;rw [Nat.pow_add,Nat.mul_comm,two_split n];exact Nat.mul_le_mul_left _ (Nat.le_mul_of_pos_right _ (P_pos n))
end Go.Proofs.YtepamjmgancjoaaGreatDoor
