/- Part 26 of the proof. -/
import Derived.Test.YtinegkcbkefeiaaGreatDoorN25
import Derived.Shelf.Small.Strs
namespace Go.Proofs.YtinegkcbkefeiaaGreatDoor
open Go.RowKit
variable {md me : Bool}
def cqO (md : Bool) (h : List Ob) (n : Nat) : DOwn := .box 111 [.sl md 10 h obD ob0,.v (.int .i64 n)]
def cqD (md : Bool) (h : List Ob) (n : Nat) : D := .pt true [.sl md 10 h obD ob0,.v (.int .i64 n)]
def rsL (c : Int) (s : ByteArray) : List D := [.v (.int .i64 1),.v (.int .i64 0),.v (.bool false),.v (.slice none 0 0),.v (.bool false),.v (.slice none 0 0),.v (.string ByteArray.empty),.v (.int .i64 0),.v (.int .i64 c),.v (.string s),.v (.int .i64 0),.v (.bool false),.v (.slice none 0 0),.v (.bool false),.v (.slice none 0 0),.v (.string ByteArray.empty),.v (.int .i64 0),.v (.slice none 0 0)]
def mZ (c : Int) (s : ByteArray) : Value := .iface 108 (.agg #[.int .i64 1,.int .i64 0,.bool false,.slice none 0 0,.bool false,.slice none 0 0,.string ByteArray.empty,.int .i64 0,.int .i64 c,.string s,.int .i64 0,.bool false,.slice none 0 0,.bool false,.slice none 0 0,.string ByteArray.empty,.int .i64 0,.slice none 0 0])
def qT0 : ByteArray := ⟨#[99,111,109,112,97,114,105,115,111,110,32,116,97,107,101,115,32,116,111,111,32,108,111,110,103]⟩
abbrev QR := Option (Bool × Nat)
def qE : QR -> Except Value (Bool × Nat)
 | some r => .ok r
 | none => .error (mZ 42 qT0)
def qB (r : Bool × Nat) : D := .v (.bool r.1)
def qO (md : Bool) (h : List Ob) (r : Bool × Nat) : DOwn := cqO md h r.2
def pairR (n : Nat) : Except Value Nat := if n = 0 then .error (mZ 42 qT0) else .ok (n - 1)
theorem cmpRaiseL_ok (c : Int) (s : ByteArray) : Fx 51 [.v (.int .i64 c),.v (.string s)] (.agg (rsL c s)) := by
 refine yD zL Tryz.func51 rfl rfl rfl rfl rfl rfl ?_;intro w0 s0 mx;refine zJ 100 ?_;refine zJ 200 ?_;refine zK ?_;exact u4 rfl (u6 _)
theorem dX0 (h : List Ob) (n : Nat) (hn : n <= 10000) : FnQ Tryz.prog 89 [.bp 0 0] (cqO md h n) (pairR n) (fun _ => .v (.tuple #[])) (fun m => cqO md h m) (.v (.tuple #[])) := by
 refine vW0 zL Tryz.func89 rfl rfl rfl rfl rfl rfl (fun _ => rfl) rfl ?_;intro w0 s0 mx;refine zB (zJ 100 ?_);refine zT rfl (fun c0 => ?_) (fun c0 => ?_)
 ·have c0 : n = 0 := by simpa using c0
  refine zE zL [] 200 rfl ?_;refine zF ?_;refine zO _ (cmpRaiseL_ok _ _) rfl ?_;refine zF ?_;refine sat_pan (FinQ.pan (Ab c0) _ rfl) ?_;refine zf (zA ?_);exact wJ 103
 ·have c0 : ¬ n = 0 := by simpa using c0
  refine zM (zA (yN zL [] 300 ?_));exact FinQ.of (n - 1) (Aa c0) (FinH.normal 1 rfl rfl (u0 _) ⟨⟨rfl,u0 _,rfl,u21 om,rfl,trivial⟩,trivial⟩)
theorem IndexFuncQ_ok (h : List Ob) (n : Nat) (l : List Vl) (k : Vl) (H : ∀ x ∈ l,Fx 204 [.agg (vlD x),.pt true [cqD md h n],vpD k] (.v (.bool (smK h 1001 x k)))) : Fx 115 [.sl me 7 l vlD vl0,.clo 204 [.pt true [cqD md h n],vpD k]] (.v (.int .i64 (plI h l k))) := by
 refine yD zL Tryz.func115 rfl rfl rfl rfl rfl rfl ?_;intro w0 s0 mx;refine wX 0 rfl fun hl0 => ?_;refine zJ 100 ?_;refine zB (zJ 200 ?_);refine zR ?_;refine yC (ι := Al l (fun x => !smK h 1001 x k)) [0,1,7] [] 250 (fun x => [(8,.v (.int .i64 x.k))]) (fun _ => []) (fun x => l.length - x.k) ⟨0,Ap _,fun j x hj => by omega⟩ ?_;refine ⟨⟨yM,yH,rfl,rfl⟩,fun x => ?_⟩;have hk := x.le;refine zJ 300 ?_;refine zB (zT rfl (fun c2 => ?_) (fun c2 => ?_))
 ·have c2 : x.k < l.length := by simpa using c2
  refine zM (zA (zB (zR (zJ 400 ?_))));refine zB (zE zL [] 500 rfl ?_);refine zF ?_;refine zO _ (H _ (by rw [qN c2];exact Be _)) rfl ?_;refine zF ?_;refine zC (zA (zW (fun c4 => ?_) (fun c4 => ?_)))
  ·
   refine zJ 600 ?_;refine zK (zQ (zN (yL (zQ (zN ?_)))));exact u4 rfl (u10 (kG0 x.all (cL c2 vl0) c4).symm)
  ·
   refine zM (zP (zA (yN zL [] 700 ?_)));exact zS (x.next (e := vl0) c2 (by rw [c4];rfl)) ⟨yM,yH,rfl,rfl⟩ (by show l.length - (x.k + 1) < l.length - x.k;omega)
 ·have c2 : ¬ x.k < l.length := by simpa using c2
  refine yE (yA (yB (zX (zA (zJ 800 ?_)))));refine zK ?_;exact u4 rfl (u10 (tI (fun y hy => by
    have := Bf.1 (x.yes c2) y hy;simpa using this)).symm)
theorem placeQC_ok (h : List Ob) (n : Nat) (w k : Vl) (hh : HpIn h) (g : Uh h) (hk : uX h k = true) (hv : Vd h k) (hw : Vd h w) : Fx 204 [.agg (vlD w),.pt true [cqD md h n],vpD k] (.v (.bool (smK h 1001 w k))) := by
 refine yD zL Tryz.func204 rfl rfl rfl rfl rfl rfl ?_;intro w0 s0 mx;refine zJ 100 ?_;refine zB (zZ zL [] [[],[0],[0,1],[0,1,2],[],[],(rgN 6),(rgN 7)] 200 yQ kr rfl ?_);refine zF ?_;refine zO _ ((yJ0 hh g hk hv hw).out (u7 (tE h 1001 k w))) rfl ?_;refine zf (zA (zK ?_));exact u4 rfl (u6 _)
theorem uU0 (h : List Ob) (n : Nat) (l : List Vl) (k : Vl) (hh : HpIn h) (g : Uh h) (hk : uX h k = true) (hv : Vd h k) (hl : ∀ x ∈ l,Vd h x) : Fx 155 [cqD md h n,.sl me 7 l vlD vl0,.agg (vlD k)] (.v (.int .i64 (plI h l k))) := by
 refine yD zL Tryz.func155 rfl rfl rfl rfl rfl rfl ?_;intro w0 s0 mx;refine zJ 100 ?_;refine zB (zE zL [] 200 rfl ?_);refine zF ?_;refine cA _ (IndexFuncQ_ok h n l k fun x hx => placeQC_ok h n x k hh g hk hv (hl x hx)) rfl rfl ?_;refine zf (zA (zK ?_));exact u4 rfl (u6 _)
def wiB (h : List Ob) (a b : List Vl) : Bool := a.all fun k => decide (0 <= plI h b k)
def fiI (p : Vl -> Bool) : List Vl -> Int
 | [] => -1
 | x :: l => if p x then 0 else (if fiI p l < 0 then -1 else fiI p l + 1)
theorem bU0 {p : Vl -> Bool} : ∀ {l : List Vl},(∀ x ∈ l,p x = false) -> fiI p l = -1
 | [],_ => rfl
 | x :: l,h => by
  rw [fiI,Aa (by rw [h x Ck];simp),Ab];rw [bU0 fun y hy => h y (Bx _ hy)];decide
theorem jT1 {p : Vl -> Bool} : ∀ {l : List Vl} {k : Nat} {y : Vl},(∀ j x,j < k -> l[j]? = some x -> p x = false) -> l[k]? = some y -> p y = true -> fiI p l = k
 | [],k,y,_,h,_ => by simp at h
 | x :: l,0,y,_,h,hp => by
  simp at h;subst h;rw [fiI,Ab hp];rfl
 | x :: l,k + 1,y,ha,h,hp => by
  have h0 := ha 0 x om rfl;have ih := jT1 (l := l) (k := k) (y := y) (fun j z hj hz => ha (j + 1) z om (by simpa using hz)) (by simpa using h) hp;rw [fiI,Aa (by rw [h0];simp),ih,Aa om]
  push_cast;rfl
theorem zX1 (p : Vl -> Bool) : ∀ l : List Vl,decide (0 <= fiI p l) = l.any p
 | [] => rfl
 | x :: l => by
  have ih := zX1 p l;rw [fiI,List.any_cons]
  cases hp : p x with
  | true => rfl
  | false =>
   simp only [Ay,if_false,Bool.false_or,<- ih];split
   ·rename_i h;rw [Bz om,Bz om]
   ·rename_i h;rw [Aw om,Aw om]
theorem withinC_ok (h : List Ob) (n : Nat) (y : Ob) (k : Vl) (hh : HpIn h) (g : Uh h) (hy : ∀ x ∈ y.keys,Vd h x) (hk : uX h k = true) (hv : Vd h k) : Fx 156 [.agg (vlD k),.pt true [cqD md h n],.pt true (obD y)] (.v (.bool (decide (plI h y.keys k < 0)))) := by
 refine yD zL Tryz.func156 rfl rfl rfl rfl rfl rfl ?_;intro w0 s0 mx;refine zJ 100 ?_;refine zB (zE zL [] 200 rfl ?_);refine zF ?_;refine zO _ (uU0 h n y.keys k hh g hk hv hy) rfl ?_;refine zf (zA (zK ?_));exact u4 rfl (u6 _)
theorem IndexFuncW_ok (h : List Ob) (n : Nat) (y : Ob) (p : Vl -> Bool) (l : List Vl) (H : ∀ x ∈ l,Fx 156 [.agg (vlD x),.pt true [cqD md h n],.pt true (obD y)] (.v (.bool (p x)))) : Fx 115 [.sl me 7 l vlD vl0,.clo 156 [.pt true [cqD md h n],.pt true (obD y)]] (.v (.int .i64 (fiI p l))) := by
 refine yD zL Tryz.func115 rfl rfl rfl rfl rfl rfl ?_;intro w0 s0 mx;refine wX 0 rfl fun hl0 => ?_;refine zJ 100 ?_;refine zB (zJ 200 ?_);refine zR ?_;refine yC (ι := Al l (fun x => !p x)) [0,1,7] [] 250 (fun x => [(8,.v (.int .i64 x.k))]) (fun _ => []) (fun x => l.length - x.k) ⟨0,Ap _,fun j x hj => by omega⟩ ?_;refine ⟨⟨yM,yH,rfl,rfl⟩,fun x => ?_⟩;have hk := x.le;refine zJ 300 ?_;refine zB (zT rfl (fun c2 => ?_) (fun c2 => ?_))
 ·have c2 : x.k < l.length := by simpa using c2
  refine zM (zA (zB (zR (zJ 400 ?_))));refine zB (zE zL [] 500 rfl ?_);refine zF ?_;refine zO _ (H _ (by rw [qN c2];exact Be _)) rfl ?_;refine zF ?_;refine zC (zA (zT rfl (fun c4 => ?_) (fun c4 => ?_)))
  ·
   refine zJ 600 ?_;refine zK (zQ (zN (yL (zQ (zN ?_)))));exact u4 rfl (u10 (jT1 (fun j z hj hz => by have := x.all j z hj hz;simpa using this) (cL c2 vl0) c4).symm)
  ·
   refine zM (zP (zA (yN zL [] 700 ?_)));exact zS (x.next (e := vl0) c2 (by rw [c4];rfl)) ⟨yM,yH,rfl,rfl⟩ (by show l.length - (x.k + 1) < l.length - x.k;omega)
 ·have c2 : ¬ x.k < l.length := by simpa using c2
  refine yE (yA (yB (zX (zA (zJ 800 ?_)))));refine zK ?_;exact u4 rfl (u10 (bU0 (fun y hy => by
    have := Bf.1 (x.yes c2) y hy;simpa using this)).symm)
theorem ContainsFuncW_ok (h : List Ob) (n : Nat) (y : Ob) (p : Vl -> Bool) (l : List Vl) (H : ∀ x ∈ l,Fx 156 [.agg (vlD x),.pt true [cqD md h n],.pt true (obD y)] (.v (.bool (p x)))) : Fx 60 [.sl me 7 l vlD vl0,.clo 156 [.pt true [cqD md h n],.pt true (obD y)]] (.v (.bool (l.any p))) := by
 refine yD zL Tryz.func60 rfl rfl rfl rfl rfl rfl ?_;intro w0 s0 mx;refine zJ 100 ?_;refine zB (zE zL [] 200 rfl ?_);refine zF ?_;refine zO _ (IndexFuncW_ok h n y p l H) rfl ?_;refine zf (zA (zK ?_));exact u4 rfl (u7 (zX1 p l))
theorem withinQ_ok (h : List Ob) (n : Nat) (x y : Ob) (hh : HpIn h) (g : Uh h) (hy : ∀ x ∈ y.keys,Vd h x) (hk : ∀ k ∈ x.keys,uX h k = true /\ Vd h k) : Fx 93 [cqD md h n,.agg (obD x),.agg (obD y)] (.v (.bool (wiB h x.keys y.keys))) := by
 refine yD zL Tryz.func93 rfl rfl rfl rfl rfl rfl ?_;intro w0 s0 mx;refine zJ 100 ?_;refine zB (zE zL [] 200 rfl ?_);refine zF ?_;refine cA _ (ContainsFuncW_ok h n y (fun k => decide (plI h y.keys k < 0)) x.keys fun k hx => withinC_ok h n y k hh g hy (hk k hx).1 (hk k hx).2) rfl rfl ?_;refine zf (zA (zK ?_));exact u4 rfl (u7 (by rw [wiB,List.all_eq_not_any_not];congr 2;funext k;rw [Df];simp))
variable {md me : Bool}
theorem attS_pos {h : List Ob} {v : Vl} {s : ByteArray} {l : List Vl} (e : 0 < (attS h v s l).length) : (spS h v s).2.2 = true := by
 cases hb : (spS h v s).2.2 with
 | true => rfl
 | false => rw [attS_nil.2 hb] at e;exact absurd e de
variable {md me : Bool}
theorem vok_int {v : Vl} (hv : qZ v = true) (hk : v.k = 2) : uV v.nn v.nl = true := by
 unfold qZ at hv;rw [Aa om,Aa om,Ab hk,Ai,Ai,Ai] at hv;exact hv.1.1.1
theorem fix_5 {o : Ob} {v : Vl} (hk : o.kind = 5) : fixV o v = v := by
 unfold fixV;split
 ·rename_i h;simp [hk] at h
 ·rfl
theorem rg_of {h : List Ob} (hh : HpIn h) (g : Uh h) {n : Int} (hn : yY h n = true) (hk : (yJ h n).kind = 5) : RgO (yJ h n) := by
 have hin := yV hn;have hlt : n.toNat < h.length := by have := hin;unfold inH at this;omega
 have h49 : 49 <= n.toNat := by
  rcases Bs n.toNat 49 with h1 | h1
  ·have e := g.lo_at h1;have e2 : yJ h n = bgO n.toNat := e;rw [e2] at hk;exact absurd hk (by show ¬ (9 : Int) = 5;decide)
  ·exact h1
 have hu := g.hi_at h49 hlt;have e3 : yJ h (n.toNat : Nat) = yJ h n := rfl;rw [e3] at hu;have hO := hh.at n;have hV := yY0 hu.vals;have hS := (dM0 hu.shape).1;rw [cnt5 hk] at hS;have hl : (yJ h n).items.length = 3 := by omega
 have hr := hu.links;unfold jN at hr;rw [Ab hk] at hr;unfold rngS at hr;rw [Ai,Ak,Bf] at hr;have hit : ∀ j < 3,(yJ h n).items.getD j vl0 ∈ (yJ h n).items := fun j hj => by
  rw [An,Ah om];exact Be _
 have hrp : ∀ j < 3,((yJ h n).items.getD j vl0).k = 2 /\ ((yJ h n).items.getD j vl0).nl.length <= 40 := fun j hj => by
  have := hr.1 _ (hit j hj);unfold rngP at this;rw [Ai,Ak,Ak] at this;exact this
 have hok : ∀ j < 3,uV ((yJ h n).items.getD j vl0).nn ((yJ h n).items.getD j vl0).nl = true := fun j hj => by
  have := hV.ok _ (List.mem_append_right _ (hit j hj));rw [fix_5 hk] at this;exact vok_int this (hrp j hj).1
 have hlg : ∀ j < 3,Lg ((yJ h n).items.getD j vl0).nl := fun j hj => (hO.iv _ (hit j hj)).nl;refine ⟨by omega,hO.il,fun j hj => (hrp j hj).2,hlg,hok,?_⟩;rcases Bu (VL ((yJ h n).items.getD 2 vl0).nl) with h0 | h0
 ·have e := (pP (hlg 2 de) (hok 2 de)).1;rw [h0,qI] at e;rw [e] at hr;exact absurd hr.2 de
 ·exact h0
variable {md me : Bool}
def lsQ (F : Nat -> Vl -> Vl -> QR) : List (Vl × Option Vl) -> Nat -> QR
 | [],n => some (true,n)
 | x :: l,n => match x.2 with
  | none => some (false,n)
  | some y => match F n x.1 y with
   | none => none
   | some r => if r.1 = true then lsQ F l r.2 else some (false,r.2)
def prL (a b : List Vl) : List (Vl × Option Vl) := (List.range a.length).map fun i => (a.getD i vl0,some (b.getD i vl0))
def prQ (F : Nat -> Vl -> Vl -> QR) (a b : List Vl) (n : Nat) : QR := if a.length = b.length then lsQ F (prL a b) n else some (false,n)
def dcE (h : List Ob) (x y : Ob) (i : Nat) : Vl × Option Vl := (x.items.getD i vl0,if plI h y.keys (x.keys.getD i vl0) < 0 then none else some (y.items.getD (plI h y.keys (x.keys.getD i vl0)).toNat vl0))
def dcL (h : List Ob) (x y : Ob) : List (Vl × Option Vl) := (List.range x.keys.length).map (dcE h x y)
def dcQ (F : Nat -> Vl -> Vl -> QR) (h : List Ob) (x y : Ob) (n : Nat) : QR := if x.keys.length = y.keys.length then lsQ F (dcL h x y) n else some (false,n)
def rgE (x y : Ob) : Bool := rgQ (ZI (rgO x).sa (rgO x).na) (ZI (rgO x).sb (rgO x).nb) (ZI (rgO x).sc (rgO x).nc) (ZI (rgO y).sa (rgO y).na) (ZI (rgO y).sb (rgO y).nb) (ZI (rgO y).sc (rgO y).nc)
def obQ (F : Nat -> Vl -> Vl -> QR) (h : List Ob) (x y : Ob) (n : Nat) : QR :=
 if ¬ x.kind = y.kind then some (false,n)
 else if x.kind = 1 \/ x.kind = 2 then prQ F x.items y.items n
 else if x.kind = 3 then dcQ F h x y n
 else if x.kind = 4 then some (decide (x.keys.length = y.keys.length) && wiB h x.keys y.keys,n)
 else if x.kind = 5 then some (rgE x y,n)
 else some (false,n)
def eqP (F : Nat -> Vl -> Vl -> QR) (h : List Ob) (n : Nat) (a b : Vl) : QR := if n = 0 then none else if a = b then some (true,n - 1) else obQ F h (zY h a) (zY h b) (n - 1)
def eqS (h : List Ob) : Nat -> Nat -> Vl -> Vl -> QR
 | 0 => fun _ _ _ => none
 | f + 1 => fun n a b => eqP (eqS h f) h n a b
def LeQ (F : Nat -> Vl -> Vl -> QR) : Prop := ∀ n x y r,F n x y = some r -> r.2 <= n
theorem qE1 {F : Nat -> Vl -> Vl -> QR} (hF : LeQ F) : ∀ (l : List (Vl × Option Vl)) (n : Nat) (r : Bool × Nat),lsQ F l n = some r -> r.2 <= n
 | [],n,r,h => by cases h;exact Ao _
 | (x,none) :: l,n,r,h => by cases h;exact Ao _
 | (x,some y) :: l,n,r,h => by
  simp only [lsQ] at h
  cases hF1 : F n x y with
  | none => rw [hF1] at h;cases h
  | some q =>
   rw [hF1] at h;have h1 := hF _ _ _ _ hF1;simp only at h;split at h
   ·have := qE1 hF l q.2 r h;omega
   ·cases h;exact h1
theorem ob_le {F : Nat -> Vl -> Vl -> QR} (hF : LeQ F) {h : List Ob} {x y : Ob} {n : Nat} {r : Bool × Nat} (e : obQ F h x y n = some r) : r.2 <= n := by
 unfold obQ at e;split at e
 ·cases e;exact Ao _
 ·split at e
  ·unfold prQ at e;split at e
   ·exact qE1 hF _ _ _ e
   ·cases e;exact Ao _
  ·split at e
   ·unfold dcQ at e;split at e
    ·exact qE1 hF _ _ _ e
    ·cases e;exact Ao _
   ·split at e
    ·cases e;exact Ao _
    ·split at e <;> (cases e;exact Ao _)
theorem eqP_le {F : Nat -> Vl -> Vl -> QR} (hF : LeQ F) (h : List Ob) : LeQ (eqP F h) := by
 intro n a b r e;unfold eqP at e;split at e
 ·cases e
 ·split at e
  ·cases e;exact Nat.sub_le _ _
  ·have := ob_le hF e;omega
theorem cX (h : List Ob) : ∀ f,LeQ (eqS h f)
 | 0 => fun _ _ _ _ e => by cases e
 | f + 1 => eqP_le (cX h f) h
structure Lq (F : Nat -> Vl -> Vl -> QR) (l : List (Vl × Option Vl)) (n : Nat) where
 k : Nat
 m : Nat
 le : k <= l.length
 hm : m <= n
 eq : lsQ F (l.drop k) m = lsQ F l n
section
variable {F : Nat -> Vl -> Vl -> QR} {l : List (Vl × Option Vl)} {n : Nat}
theorem Lq.at (x : Lq F l n) {v : Vl} {w : Option Vl} (hg : l[x.k]? = some (v,w)) : lsQ F l n = lsQ F ((v,w) :: l.drop (x.k + 1)) x.m := by
 rw [<- x.eq,By (Af.1 hg).1,(Af.1 hg).2]
theorem Lq.pan (x : Lq F l n) {v w : Vl} (hg : l[x.k]? = some (v,some w)) (hr : F x.m v w = none) : lsQ F l n = none := by
 rw [x.at hg];simp only [lsQ,hr]
theorem Lq.no (x : Lq F l n) {v w : Vl} (hg : l[x.k]? = some (v,some w)) {m2 : Nat} (hr : F x.m v w = some (false,m2)) : lsQ F l n = some (false,m2) := by
 rw [x.at hg];simp only [lsQ,hr];rfl
theorem Lq.non (x : Lq F l n) {v : Vl} (hg : l[x.k]? = some (v,none)) : lsQ F l n = some (false,x.m) := by
 rw [x.at hg];rfl
def Lq.next (x : Lq F l n) (hF : LeQ F) {v w : Vl} (hg : l[x.k]? = some (v,some w)) {m2 : Nat} (hr : F x.m v w = some (true,m2)) : Lq F l n :=
 ⟨x.k + 1,m2,(Af.1 hg).1,by have := hF _ _ _ _ hr;have := x.hm;simp only at *;omega,by rw [x.at hg];simp only [lsQ,hr];rfl⟩
theorem Lq.fin (x : Lq F l n) (h : ¬ x.k < l.length) : lsQ F l n = some (true,x.m) := by
 rw [<- x.eq,Ax om];rfl
end
theorem qK0 (a b : List Vl) : (prL a b).length = a.length := by simp [prL]
theorem uT0 (a b : List Vl) {k : Nat} (h : k < a.length) : (prL a b)[k]? = some (a.getD k vl0,some (b.getD k vl0)) := by simp [prL,h]
theorem jP0 (h : List Ob) (x y : Ob) : (dcL h x y).length = x.keys.length := by simp [dcL]
theorem zA0 (h : List Ob) (x y : Ob) {k : Nat} (hk : k < x.keys.length) : (dcL h x y)[k]? = some (dcE h x y k) := by simp [dcL,hk]
theorem vN {r : QR} {a : Bool × Nat} (h : r = some a) : qE r = .ok a := by rw [h];rfl
theorem kG {r : QR} (h : r = none) : qE r = .error (mZ 42 qT0) := by rw [h];rfl
theorem vY (h : List Ob) (n : Nat) (a b : List Vl) (F : Nat -> Vl -> Vl -> QR) (ha : a.length <= 1000) (hF : LeQ F) (H : ∀ m,m <= n -> ∀ x ∈ a,∀ y ∈ b,FnQ Tryz.prog 32 [.bp 0 0,.agg (vlD x),.agg (vlD y)] (cqO md h m) (qE (F m x y)) qB (qO md h) (.v (.bool false))) : FnQ Tryz.prog 91 [vsD a,vsD b,.clo (1000000 + 32) [.bp 0 0]] (cqO md h n) (qE (prQ F a b n)) qB (qO md h) (.v (.bool false)) := by
 refine vW0 zL Tryz.func91 rfl rfl rfl rfl rfl rfl (fun _ => rfl) rfl ?_;intro w0 s0 mx;refine zJ 100 ?_;refine zB (zJ 200 ?_);refine zT rfl (fun c1 => ?_) (fun c1 => ?_)
 ·replace c1 : ¬ a.length = b.length := by simp at c1;omega
  refine zJ 300 ?_;refine zK (zN ?_);exact FinQ.of (false,n) (vN (by rw [prQ,Aa c1])) (u11 1 rfl rfl (u0 _) ⟨⟨rfl,u0 _,rfl,u0 _,rfl,trivial⟩,trivial⟩)
 ·replace c1 : a.length = b.length := by simp at c1;omega
  refine zM (zA (zB (zJ 400 ?_)));refine zR ?_;refine yC (ι := Lq F (prL a b) n) [1,2,15,16] [] 450 (fun x => [(17,.v (.int .i64 x.k))]) (fun x => [(0,.box 111 [.sl md 10 h obD ob0,.v (.int .i64 x.m)])]) (fun x => a.length - x.k) ⟨0,n,Ap _,Ao _,rfl⟩ ?_;refine ⟨⟨yM,⟨⟨rfl,u0 _,rfl,u21 rfl,rfl,trivial⟩,yH⟩,rfl,rfl⟩,fun x => ?_⟩;have hxl := x.le;rw [qK0] at hxl;refine zJ 500 ?_;refine zB (zT rfl (fun c4 => ?_) (fun c4 => ?_))
  ·have c4 : x.k < a.length := by simpa using c4
   have hlb : x.k < b.length := by omega
   refine zM (zA (zB (zR (zJ 600 ?_))));refine zJ 700 ?_;rcases hr : F x.m (a.getD x.k vl0) (b.getD x.k vl0) with _ | ⟨bb,m2⟩
   ·refine zB (zE zL [1029] 800 rfl ?_);refine zF ?_;refine xD _ _ ((H x.m x.hm _ (by rw [qN c4];exact Be _) _ (by rw [qN hlb];exact Be _)).no (kG hr)) (FinQ.pan (kG (by rw [prQ,Ab c1];exact x.pan (uT0 a b c4) hr))) rfl ?_;refine zf (zA ?_);exact wJ 0
   ·refine zB (zE zL [1029] 800 rfl ?_);refine zF ?_;refine qC _ _ ((H x.m x.hm _ (by rw [qN c4];exact Be _) _ (by rw [qN hlb];exact Be _)).yes (vN hr)) rfl ?_;refine zF ?_;refine zC (zA (zW (fun c7 => ?_) (fun c7 => ?_)))
    ·
     refine zJ 900 ?_;refine zK (zQ (zN (yL (zQ (zN ?_)))));have hb : bb = false := by simpa [qB] using c7
     subst hb;exact FinQ.of (false,m2) (vN (by rw [prQ,Ab c1];exact x.no (uT0 a b c4) hr)) (u11 1 rfl rfl (u0 _) ⟨⟨rfl,u0 _,rfl,u0 _,rfl,trivial⟩,trivial⟩)
    ·
     refine zM (zP (zA (yN zL [] 1000 ?_)));have hb : bb = true := by simpa [qB] using c7
     subst hb;exact zS (x.next hF (uT0 a b c4) hr) ⟨⟨u21 (by show (x.k : Int) + 1 = ((x.k + 1 : Nat) : Int);push_cast;rfl),yM⟩,⟨⟨rfl,u0 _,rfl,u21 rfl,rfl,trivial⟩,yH⟩,rfl,rfl⟩ (by show a.length - (x.k + 1) < a.length - x.k;omega)
  ·have c4 : ¬ x.k < a.length := by simpa using c4
   refine yE (yA (yB (zX (zA (zJ 1100 ?_)))));refine zK ?_;exact FinQ.of (true,x.m) (vN (by rw [prQ,Ab c1];exact x.fin (by rw [qK0];exact c4))) (u11 1 rfl rfl (u0 _) ⟨⟨rfl,u0 _,rfl,u0 _,rfl,trivial⟩,trivial⟩)
variable {md me : Bool}
theorem tri (p : Prop) (o : QR) : p \/ (¬ p /\ o = none) \/ ∃ bb m2,¬ p /\ o = some (bb,m2) := by
 by_cases hp : p
 ·exact .inl hp
 ·match o with
  | none => exact .inr (.inl ⟨hp,rfl⟩)
  | some (bb,m2) => exact .inr (.inr ⟨bb,m2,hp,rfl⟩)
set_option maxHeartbeats 1000000 in
theorem mK0 (h : List Ob) (n : Nat) (p q : Ob) (F : Nat -> Vl -> Vl -> QR) (hh : HpIn h) (g : Uh h) (kp : Kd h p.keys) (kq : Kd h q.keys) (hp1 : p.items.length = p.keys.length) (hq1 : q.items.length = q.keys.length) (hl : p.keys.length <= 1000) (hF : LeQ F) (H : ∀ m,m <= n -> ∀ x ∈ p.items,∀ y ∈ q.items,FnQ Tryz.prog 32 [.bp 0 0,.agg (vlD x),.agg (vlD y)] (cqO md h m) (qE (F m x y)) qB (qO md h) (.v (.bool false))) : FnQ Tryz.prog 92 [.bp 0 0,.agg (obD p),.agg (obD q)] (cqO md h n) (qE (dcQ F h p q n)) qB (qO md h) (.v (.bool false)) := by
 refine vW0 zL Tryz.func92 rfl rfl rfl rfl rfl rfl (fun _ => rfl) rfl ?_;intro w0 s0 mx;refine zJ 100 ?_;refine zB (zJ 200 ?_);refine zT rfl (fun c1 => ?_) (fun c1 => ?_)
 ·replace c1 : ¬ p.keys.length = q.keys.length := by simp at c1;omega
  refine zJ 300 ?_;refine zK (zN ?_);exact FinQ.of (false,n) (vN (by rw [dcQ,Aa c1])) (u11 1 rfl rfl (u0 _) ⟨⟨rfl,u0 _,rfl,u0 _,rfl,trivial⟩,trivial⟩)
 ·replace c1 : p.keys.length = q.keys.length := by simp at c1;omega
  refine zM (zA (zB (zJ 400 ?_)));refine zR ?_;refine yC (ι := Lq F (dcL h p q) n) [0,4,5,18,19] [1,2] 450 (fun x => [(20,.v (.int .i64 x.k))]) (fun x => [(0,.box 111 [.sl md 10 h obD ob0,.v (.int .i64 x.m)])]) (fun x => p.keys.length - x.k) ⟨0,n,Ap _,Ao _,rfl⟩ ?_;refine ⟨⟨yM,⟨⟨rfl,u0 _,rfl,u21 rfl,rfl,trivial⟩,yH⟩,rfl,rfl⟩,fun x => ?_⟩;have hxl := x.le;rw [jP0] at hxl;refine zJ 500 ?_;refine zB (zT rfl (fun c4 => ?_) (fun c4 => ?_))
  ·have c4 : x.k < p.keys.length := by simpa using c4
   have hpk : 0 <= (plI h q.keys (p.keys.getD x.k vl0)) -> (plI h q.keys (p.keys.getD x.k vl0)).toNat < q.keys.length := fun h0 => (xC0 h0).1;refine zM (zA (zB (zR (zJ 600 ?_))));refine zB (zE zL [] 700 rfl ?_);refine zF ?_;refine cA _ (uU0 h x.m q.keys (p.keys.getD x.k vl0) hh g (kp.keyed _ (uP c4)) (kp.vd _ (uP c4)) kq.vd) rfl rfl ?_;refine zf (zA ?_);rcases tri ((plI h q.keys (p.keys.getD x.k vl0)) < 0) (F x.m (p.items.getD x.k vl0) (q.items.getD (plI h q.keys (p.keys.getD x.k vl0)).toNat vl0)) with hp | ⟨hp0,hr⟩ | ⟨bb,m2,hp0,hr⟩
   ·refine zB (zZ zL [1044] mK7 800 yQ kr rfl ?_);refine zF ?_;refine vM (fun hs => absurd hs (by rw [Aw hp];decide)) (fun _ => ?_);refine zF ?_;refine vM (fun hs => absurd hs (by rw [Aw hp];decide)) (fun _ => ?_);refine zF ?_;refine vM (fun _ => ?_) (fun hs => absurd hs (by rw [Aw hp];decide));refine zF ?_;refine zC (zA (zW (fun c7 => ?_) (fun c7 => ?_)))
    ·
     refine zJ 900 ?_;refine zK (zQ (zN (yL (zQ (zN ?_)))));exact FinQ.of (false,x.m) (vN (by rw [dcQ,Ab c1];exact x.non (by rw [zA0 h p q c4,dcE,Ab hp]))) (u11 1 rfl rfl (u0 _) ⟨⟨rfl,u0 _,rfl,u0 _,rfl,trivial⟩,trivial⟩)
    ·
     cases c7
   ·refine zB (zZ zL [1044] mK7 800 yQ kr rfl ?_);refine zF ?_;refine vM (fun _ => ?_) (fun hs => absurd hs (by rw [Bz hp0];decide));refine zF ?_;refine xD _ _ ((H x.m x.hm _ (by first | exact uP (by omega) | (rw [qN (by omega)];exact Be _)) _ (by first | exact uP (by omega) | (rw [qN (by omega)];exact Be _))).no (kG hr)) (FinQ.pan (kG (by rw [dcQ,Ab c1];exact x.pan (by rw [zA0 h p q c4,dcE,Aa om]) hr))) rfl ?_;refine zf (zA ?_);exact wJ 0
   ·refine zB (zZ zL [1044] mK7 800 yQ kr rfl ?_);refine zF ?_;refine vM (fun _ => ?_) (fun hs => absurd hs (by rw [Bz hp0];decide));refine zF ?_;refine qC _ _ ((H x.m x.hm _ (by first | exact uP (by omega) | (rw [qN (by omega)];exact Be _)) _ (by first | exact uP (by omega) | (rw [qN (by omega)];exact Be _))).yes (vN hr)) rfl ?_;refine zF ?_;refine zC (zA (zW (fun c7 => ?_) (fun c7 => ?_)))
    ·
     refine zJ 900 ?_;refine zK (zQ (zN (yL (zQ (zN ?_)))));have hb : bb = false := by
      rcases c7 with h9 | h9
      ·exact absurd h9 hp0
      ·simpa [qB] using h9
     subst hb;exact FinQ.of (false,m2) (vN (by rw [dcQ,Ab c1];exact x.no (by rw [zA0 h p q c4,dcE,Aa om]) hr)) (u11 1 rfl rfl (u0 _) ⟨⟨rfl,u0 _,rfl,u0 _,rfl,trivial⟩,trivial⟩)
    ·
     refine zM (zP (zA (yN zL [] 1000 ?_)));have hb : bb = true := by simpa [qB] using c7.2
     subst hb;exact zS (x.next hF (by rw [zA0 h p q c4,dcE,Aa om]) hr) ⟨⟨u21 (by show (x.k : Int) + 1 = ((x.k + 1 : Nat) : Int);push_cast;rfl),yM⟩,⟨⟨rfl,u0 _,rfl,u21 rfl,rfl,trivial⟩,yH⟩,rfl,rfl⟩ (by show p.keys.length - (x.k + 1) < p.keys.length - x.k;omega)
  ·have c4 : ¬ x.k < p.keys.length := by simpa using c4
   refine yE (yA (yB (zX (zA (zJ 1100 ?_)))));refine zK ?_;exact FinQ.of (true,x.m) (vN (by rw [dcQ,Ab c1];exact x.fin (by rw [jP0];exact c4))) (u11 1 rfl rfl (u0 _) ⟨⟨rfl,u0 _,rfl,u0 _,rfl,trivial⟩,trivial⟩)
theorem vV {h : List Ob} (g : Uh h) {v : Vl} (hv : v.k = 6 -> yY h v.r = true) (hk : (zY h v).kind ≠ 6 /\ (zY h v).kind ≠ 17) {x : Vl} (hx : x ∈ (zY h v).items) : Vd h x := by
 by_cases h0 : (zY h v).kind = 0
 ·by_cases h6 : v.k = 6
  ·rw [qR0 hv h6] at h0;have := g.kind (hv h6);omega
  ·rw [qP0 h6] at hx;exact absurd hx (by show ¬ x ∈ ([] : List Vl);simp)
 ·obtain ⟨h6,ho,e⟩ := vU h0;rw [e] at hk hx;refine ⟨?_,vJ0 g ho hx⟩;have hin := yV ho;by_cases h49 : v.r.toNat < 49
  ·rw [show yJ h v.r = bgO v.r.toNat from g.lo_at h49] at hx;exact absurd hx (by show ¬ x ∈ ([] : List Vl);simp)
  ·have e2 : qZ (fixV (yJ h ((v.r.toNat : Nat) : Int)) x) = true := (yY0 (g.hi_at om hin.2).vals).ok x (Az.2 (.inr hx));rw [<- kZ hin] at e2
   rwa [fixV,Aa (by rintro ⟨_,h2 | h2⟩;exact hk.1 h2;exact hk.2 h2)] at e2
theorem rg_S {h : List Ob} (hh : HpIn h) (g : Uh h) {v : Vl} (hv : v.k = 6 -> yY h v.r = true) (hk : (zY h v).kind = 5) : RgO (zY h v) := by
 obtain ⟨h6,ho,e⟩ := vU (h := h) (v := v) om;rw [e] at hk ⊢;exact rg_of hh g ho hk
theorem jX1 {F : Nat -> Vl -> Vl -> QR} {h : List Ob} {n : Nat} {a b : Vl} (h0 : n = 0) : eqP F h n a b = none := Ab h0
theorem jW1 {F : Nat -> Vl -> Vl -> QR} {h : List Ob} {n : Nat} {a b : Vl} (h0 : ¬ n = 0) (h1 : a = b) : eqP F h n a b = some (true,n - 1) := (Aa h0).trans (Ab h1)
theorem xN {F : Nat -> Vl -> Vl -> QR} {h : List Ob} {n : Nat} {a b : Vl} (h0 : ¬ n = 0) (h1 : ¬ a = b) : eqP F h n a b = obQ F h (zY h a) (zY h b) (n - 1) := (Aa h0).trans (Aa h1)
section
variable {F : Nat -> Vl -> Vl -> QR} {h : List Ob} {x y : Ob} {n : Nat}
theorem jL1 (c : ¬ x.kind = y.kind) : obQ F h x y n = some (false,n) := Ab c
theorem pJ0 (c : x.kind = y.kind) (d : x.kind = 1 \/ x.kind = 2) : obQ F h x y n = prQ F x.items y.items n := (Aa om).trans (Ab d)
theorem ob_3 (c : x.kind = y.kind) (d : x.kind = 3) : obQ F h x y n = dcQ F h x y n := (Aa om).trans ((Aa om).trans (Ab d))
theorem ob_4 (c : x.kind = y.kind) (d : x.kind = 4) : obQ F h x y n = some (decide (x.keys.length = y.keys.length) && wiB h x.keys y.keys,n) := (Aa om).trans ((Aa om).trans ((Aa om).trans (Ab d)))
theorem ob_5 (c : x.kind = y.kind) (d : x.kind = 5) : obQ F h x y n = some (rgE x y,n) := (Aa om).trans ((Aa om).trans ((Aa om).trans ((Aa om).trans (Ab d))))
theorem ob_x (c : x.kind = y.kind) (d : ¬ (x.kind = 1 \/ x.kind = 2) /\ ¬ x.kind = 3 /\ ¬ x.kind = 4 /\ ¬ x.kind = 5) : obQ F h x y n = some (false,n) := (Aa om).trans ((Aa d.1).trans ((Aa d.2.1).trans ((Aa d.2.2.1).trans (Aa d.2.2.2))))
end
set_option maxHeartbeats 2000000 in
theorem yN0 (h : List Ob) (n : Nat) (a b : Vl) (F : Nat -> Vl -> Vl -> QR) (hn : n <= 10000) (hh : HpIn h) (g : Uh h) (hva : Vd h a) (hvb : Vd h b) (hF : LeQ F) (H : ∀ m,m < n -> ∀ x y,Vd h x -> Vd h y -> FnQ Tryz.prog 32 [.bp 0 0,.agg (vlD x),.agg (vlD y)] (cqO md h m) (qE (F m x y)) qB (qO md h) (.v (.bool false))) : FnQ Tryz.prog 32 [.bp 0 0,.agg (vlD a),.agg (vlD b)] (cqO md h n) (qE (eqP F h n a b)) qB (qO md h) (.v (.bool false)) := by
 refine vW0 zL Tryz.func32 rfl rfl rfl rfl rfl rfl (fun _ => rfl) rfl ?_;intro w0 s0 mx;refine zJ 100 ?_;by_cases c0 : n = 0
 ·refine zB (zE zL [1012] 200 rfl ?_);refine zF ?_;refine xD _ _ ((dX0 h n hn).no (Ab c0)) (FinQ.pan (kG (jX1 c0))) rfl ?_;refine zf (zA ?_);exact wJ 0
 ·refine zB (zE zL [1012] 200 rfl ?_);refine zF ?_;refine qC _ _ ((dX0 h n hn).yes (Aa c0)) rfl ?_;refine zf (zA (zB ?_));refine zB (zE zL [] 300 rfl ?_);refine zF ?_;refine zO _ (gV a b) rfl ?_;refine zF ?_;refine zC (zA (zT rfl (fun c2 => ?_) (fun c2 => ?_)))
  ·have c2 : a = b := by simpa using c2
   refine zJ 400 ?_;refine zK (zN ?_);exact FinQ.of (true,n - 1) (vN (jW1 c0 c2)) (u11 1 rfl rfl (u0 _) ⟨⟨rfl,u0 _,rfl,u0 _,rfl,trivial⟩,trivial⟩)
  ·have c2 : ¬ a = b := by simpa using c2
   refine zM (zA ?_);refine zB (zZ zL [] mK13 500 yQ kr rfl ?_);refine zF ?_;refine zO _ (wY h a hva.2) rfl ?_;refine zF ?_;refine zO _ (wY h b hvb.2) rfl ?_;refine zF ?_;refine zC (zA (zB (zJ 600 ?_)));refine zT rfl (fun c5 => ?_) (fun c5 => ?_)
   ·have c5 : ¬ (zY h a).kind = (zY h b).kind := by simpa using c5
    refine zJ 700 ?_;refine zK (zN ?_);exact FinQ.of (false,n - 1) (vN (by rw [xN c0 c2,jL1 c5])) (u11 1 rfl rfl (u0 _) ⟨⟨rfl,u0 _,rfl,u0 _,rfl,trivial⟩,trivial⟩)
   ·have c5 : (zY h a).kind = (zY h b).kind := by simpa using c5
    refine zM (zA (zB (zJ 800 ?_)));refine zR (zB (zJ 900 ?_));refine zW (fun c8 => ?_) (fun c8 => ?_)
    ·
     refine zM (zA (zW (fun c8x => ?_) (fun c8x => ?_)))
     ·
      rcases hr : prQ F (zY h a).items (zY h b).items (n - 1) with _ | ⟨bb,m2⟩
      ·refine zB (zE zL [1044] 1100 rfl ?_);refine zF ?_;refine xD _ _ ((vY h (n - 1) (zY h a).items (zY h b).items F (uJ g a).2 hF fun m hm x hx y hy => H m om x y (vV g hva.2 om hx) (vV g hvb.2 om hy)).no (kG hr)) (FinQ.pan (kG (by rw [xN c0 c2,pJ0 c5 om];exact hr))) rfl ?_;refine zf (zA ?_);exact wJ 0
      ·refine zB (zE zL [1044] 1100 rfl ?_);refine zF ?_;refine qC _ _ ((vY h (n - 1) (zY h a).items (zY h b).items F (uJ g a).2 hF fun m hm x hx y hy => H m om x y (vV g hva.2 om hx) (vV g hvb.2 om hy)).yes (vN hr)) rfl ?_;refine zf (zA (zK (zQ (zN ?_))));exact FinQ.of (bb,m2) (vN (by rw [xN c0 c2,pJ0 c5 om];exact hr)) (u11 1 rfl rfl (u0 _) ⟨⟨rfl,u0 _,rfl,u0 _,rfl,trivial⟩,trivial⟩)
     ·
      simp_all
    ·
     refine yN zL [] 1000 ?_;refine zA (zW (fun c9 => ?_) (fun c9 => ?_))
     ·
      rcases hr : prQ F (zY h a).items (zY h b).items (n - 1) with _ | ⟨bb,m2⟩
      ·refine zB (zE zL [1044] 1100 rfl ?_);refine zF ?_;refine xD _ _ ((vY h (n - 1) (zY h a).items (zY h b).items F (uJ g a).2 hF fun m hm x hx y hy => H m om x y (vV g hva.2 om hx) (vV g hvb.2 om hy)).no (kG hr)) (FinQ.pan (kG (by rw [xN c0 c2,pJ0 c5 om];exact hr))) rfl ?_;refine zf (zA ?_);exact wJ 0
      ·refine zB (zE zL [1044] 1100 rfl ?_);refine zF ?_;refine qC _ _ ((vY h (n - 1) (zY h a).items (zY h b).items F (uJ g a).2 hF fun m hm x hx y hy => H m om x y (vV g hva.2 om hx) (vV g hvb.2 om hy)).yes (vN hr)) rfl ?_;refine zf (zA (zK (zQ (zN ?_))));exact FinQ.of (bb,m2) (vN (by rw [xN c0 c2,pJ0 c5 om];exact hr)) (u11 1 rfl rfl (u0 _) ⟨⟨rfl,u0 _,rfl,u0 _,rfl,trivial⟩,trivial⟩)
     ·
      refine zJ 1200 ?_;refine zW (fun c11 => ?_) (fun c11 => ?_)
      ·
       rcases hr : dcQ F h (zY h a) (zY h b) (n - 1) with _ | ⟨bb,m2⟩
       ·refine zB (zE zL [1050] 1300 rfl ?_);refine zF ?_;refine xD _ _ ((mK0 h (n - 1) (zY h a) (zY h b) F hh g (pO g hva.2 (.inl om)) (pO g hvb.2 (.inl om)) (mE g om) (mE g om) (uJ g a).1 hF fun m hm x hx y hy => H m om x y (vV g hva.2 om hx) (vV g hvb.2 om hy)).no (kG hr)) (FinQ.pan (kG (by rw [xN c0 c2,ob_3 c5 om];exact hr))) rfl ?_;refine zf (zA ?_);exact wJ 0
       ·refine zB (zE zL [1050] 1300 rfl ?_);refine zF ?_;refine qC _ _ ((mK0 h (n - 1) (zY h a) (zY h b) F hh g (pO g hva.2 (.inl om)) (pO g hvb.2 (.inl om)) (mE g om) (mE g om) (uJ g a).1 hF fun m hm x hx y hy => H m om x y (vV g hva.2 om hx) (vV g hvb.2 om hy)).yes (vN hr)) rfl ?_;refine zf (zA (zK (zQ (zN ?_))));exact FinQ.of (bb,m2) (vN (by rw [xN c0 c2,ob_3 c5 om];exact hr)) (u11 1 rfl rfl (u0 _) ⟨⟨rfl,u0 _,rfl,u0 _,rfl,trivial⟩,trivial⟩)
      ·
       refine zJ 1400 ?_;refine zW (fun c13 => ?_) (fun c13 => ?_)
       ·
        refine zB (zE zL [] 1500 rfl ?_);refine zF ?_;refine qE0 _ (fun hg11 => withinQ_ok h (n - 1) (zY h a) (zY h b) hh g (pO g hvb.2 (.inr om)).vd (fun k hk => ⟨(pO g hva.2 (.inr om)).keyed k hk,(pO g hva.2 (.inr om)).vd k hk⟩)) rfl rfl ?_;refine zf (zA (zK (zQ (zN ?_))));exact FinQ.of (decide ((zY h a).keys.length = (zY h b).keys.length) && wiB h (zY h a).keys (zY h b).keys,n - 1) (vN (by rw [xN c0 c2,ob_4 c5 om])) (u11 1 rfl rfl (Sub.bool (by rw [Df];simp;intro _;omega)) ⟨⟨rfl,u0 _,rfl,u0 _,rfl,trivial⟩,trivial⟩)
       ·
        refine zJ 1600 ?_;refine zW (fun c15 => ?_) (fun c15 => ?_)
        ·
         have hra : RgO (zY h a) := rg_S hh g hva.2 om;have hrb : RgO (zY h b) := rg_S hh g hvb.2 om;refine zB (zZ zL [] [[],[0],[],[0,1,2],[0,1,2,3],(rgN 5),(rgN 6),(rgN 6),[],[0,1,2,3,4,5,6,8],(rgN 10)] 1700 yQ kr rfl ?_);refine zF ?_;refine zO _ (gL (zY h a) hra) rfl ?_;refine zF ?_;refine zO _ (gL (zY h b) hrb) rfl ?_;refine zF ?_;refine zO _ ((by rw [RgO.dat hra,RgO.dat hrb];exact rgSame_ok _ _ _ _ _ _ hra.siz.1 hra.siz.2.1 hra.siz.2.2.1 hra.siz.2.2.2 hrb.siz.1 hrb.siz.2.1 hrb.siz.2.2.1 hrb.siz.2.2.2)) rfl ?_;refine zF ?_;refine zC (zA (zJ 1800 ?_));refine zK (zQ (zN ?_));exact FinQ.of (rgE (zY h a) (zY h b),n - 1) (vN (by rw [xN c0 c2,ob_5 c5 om])) (u11 1 rfl rfl (u0 _) ⟨⟨rfl,u0 _,rfl,u0 _,rfl,trivial⟩,trivial⟩)
        ·
         refine zM (zP (zA (zJ 1900 ?_)));refine zK ?_;exact FinQ.of (false,n - 1) (vN (by rw [xN c0 c2,ob_x c5 om])) (u11 1 rfl rfl (u0 _) ⟨⟨rfl,u0 _,rfl,u0 _,rfl,trivial⟩,trivial⟩)
theorem wp_mono2 {P : Program} {o : Oper} {a : Act} {w : World} {K K' : Act -> World -> Prop} {Q Q' : Exit -> Act -> World -> Prop} (hK : ∀ a w,K a w -> K' a w) (hQ : ∀ e a w,e ≠ .normal -> Q e a w -> Q' e a w) (h : o.wp P a w K Q) : o.wp P a w K' Q' := by
 unfold Oper.wp at *;generalize (execOp a.eval o).run P w = r at *;unfold Oper.upon at *;split at h
 ·exact hK _ _ h
 ·exact hK _ _ h
 ·exact hK _ _ h
 ·refine Calls.mono h ?_;intro e w'' he
  cases e with
  | returned v => exact hK _ _ he
  | panicked ch => exact hQ _ _ _ (by intro h;cases h) he
  | outgrown => obtain ⟨a0,w0,h0⟩ := he;exact ⟨a0,w0,hQ _ _ _ (by intro h;cases h) h0⟩
 ·exact Rows.mono h fun v w'' => hK _ _
 ·exact hQ _ _ _ (by intro h;cases h) h
 ·exact h
theorem dI {P : Program} {ops : Array Oper} {Q : Exit -> Act -> World -> Prop} : ∀ {l1 l2 : List Oper} {a : Act} {w : World},wpList P ops (Exit.then (fun a w => wpList P ops Q l2 a w) Q) l1 a w -> wpList P ops Q (l1 ++ l2) a w
 | [],_,_,_,h => h
 | o :: l1,l2,a,w,h => by
  rw [List.cons_append];unfold wpList at h ⊢;by_cases hw : Region.wanted o (yielded ops a.tmps) = true
  ·rw [Ab hw] at h ⊢;refine h.imp (wp_mono2 (fun a w => dI) fun e a w hne hq => ?_) (And.imp id fun ⟨a0,w0,h0⟩ => ⟨a0,w0,h0⟩)
   cases e <;> first | exact absurd rfl hne | exact hq
  ·rw [Aa hw] at h ⊢;exact dI h
theorem qH0 {P : Program} {T : List (Nat × TI)} (hT : wS P T = true) (fls : List Nat) {ops l1 l2 : List Oper} {b : Ba} {tm : List (Nat × D)} {ow : List (Nat × DOwn)} {nx0 : Nat} (nx1 : Nat) (K : DS -> Prop) {Q : Exit -> Act -> World -> Prop} {w : World} {s : Sb} {g : Gh} {a : Act} (hr : Rel b w s g (DS.ste ⟨tm,ow,nx0⟩) a) (hn : Nat.ble (nx0 + l1.length) nx1 = true)
  (h : (zS0 T fls ops none b.sz nx0 nx1 l1 nat0 tm ow []).sat P (fun _ => False) K) (hQ : ∀ w' s' g' a' S',Rel b w' s' g' (DS.ste S') a' -> K S' -> wpList P ops.toArray Q l2 a' w') : wpList P ops.toArray Q (l1 ++ l2) a w := by
 refine dI ?_;obtain ⟨rows,tm',ow',h1,h2,_⟩ := xM hT xI0 h;refine Tr.run _ h1 (fun w' s' g' a' hR => ?_) (fun ch w' s' g' a' hch _ => hch.elim) w s g a hr.toF;exact hQ w' s' g' a' ⟨tm',ow',nx1⟩ (RelF.toRel hR (fun t d hd => hd) (fun k c hk => hk) (fun k hk => by have := Ar hn;have hk' : nx1 <= k := hk;omega)) h2
theorem Rel.past {b : Ba} {w w' : World} {s s' : Sb} {g : Gh} {S : Ste} {a : Act} {acc : List (Nat × Own)} (h : Rel b w s g S a) (hp : Pst w s g acc w' s') (ha : ∀ k c,fnd k acc = some c -> fnd k S.ow = some c) {tm' : List (Nat × TV)} {ow' : List (Nat × Own)}
  (ht : ∀ t d,fnd t tm' = some d -> fnd t S.tm = some d) (ho : ∀ k c,fnd k ow' = some c -> fnd k S.ow = some c /\ fnd k acc = none) : Rel b w' s' g ⟨tm',ow',S.nx⟩ a := by
 have hne : ∀ k c,fnd k ow' = some c -> ∀ N,blk g k c = some N -> ∀ k0 c0,fnd k0 acc = some c0 -> blk g k0 c0 ≠ some N := fun k c hk N hb k0 c0 h0 => by
  obtain ⟨h1,h2⟩ := ho k c hk;refine h.sep k k0 c c0 N h1 (ha _ _ h0) ?_ hb;rintro rfl;rw [h2] at h0;cases h0
 refine ⟨⟨h.kp.ex.trans hp.ex,fun B o hs => ?_,fun B o hs => ?_,hp.os.trans h.kp.os,hp.tape.trans h.kp.tape,hp.output.trans h.kp.output,Au h.kp.size hp.size,fun k hk hm => ?_,h.kp.gl⟩,hp.lt,h.sz,fun t d hd => ?_,fun k c hk => ?_,fun k k' c c' N h1 h2 => h.sep k k' c c' N (ho k c h1).1 (ho k' c' h2).1,h.fr,h.df,h.gb⟩
 ·rcases hp.st B o hs with h1 | h1 | ⟨k0,c0,h0,h1⟩
  ·exact h.kp.st B o h1
  ·exact .inr (.inl (Au h.kp.size h1))
  ·exact .inr ((h.ow k0 c0 (ha k0 c0 h0)).2 B h1)
 ·rcases hp.sst B o hs with h1 | h1 | ⟨k0,c0,h0,h1⟩
  ·exact h.kp.sst B o h1
  ·exact .inr (.inl (Au h.kp.size h1))
  ·exact .inr ((h.ow k0 c0 (ha k0 c0 h0)).2 B h1)
 ·refine (hp.block k (Bl hk h.kp.size) fun k0 c0 h0 hb => ?_).trans (h.kp.block k hk hm);rcases (h.ow k0 c0 (ha k0 c0 h0)).2 k hb with h1 | h1
  ·omega
  ·exact hm h1
 ·obtain ⟨v,h1,h2⟩ := h.tm t d (ht t d hd);exact ⟨v,h1,TV.mono hp.ex (GLe.refl g) h2⟩
 ·obtain ⟨h1,h2⟩ := h.ow k c (ho k c hk).1;refine ⟨h1.keep hp.ex (GLe.refl g) (fun _ => rfl) (fun N hb => hp.block N (h1.lt hb) (hne k c hk N hb)) fun N o hb hs => ?_,h2⟩;rcases hp.st N o hs with h3 | h3 | ⟨k0,c0,h0,h3⟩
  ·exact h3
  ·have := h1.lt hb;omega
  ·exact absurd h3 (hne k c hk N hb k0 c0 h0)
theorem Rel.putV {b : Ba} {w : World} {s : Sb} {g : Gh} {S : Ste} {a : Act} (h : Rel b w s g S a) {t : Nat} {d : TV} {v : Value} (ht : t < b.sz) (hd : d.P w s g v) : Rel b w s g ⟨(t,d) :: S.tm,S.ow,S.nx⟩ (a.put (some t) v) :=
 (h.step (acc := []) (acc' := []) (dst := some t) (out := d) (v := v) (nx := S.nx) (Stp.refl w s g h.lt) (fun k c h => by cases h) (fun k c h => by cases h) (Ao _) (fun k c h => by cases h) (fun e he => by cases he;exact ht) hd).congr (fun _ _ h => h) (fun _ _ h => h) (Ao _)
theorem start_rel {args : List D} {w : World} {s : Sb} {vs : List Value} {n m : Nat} (hfl : D.flats args = true) (hlt : ∀ B o,s B o -> B < w.heap.size) (hgl : Glb w s) (hv : AllV w s (D.pvs args) vs) (hm : m = n) (hl : args.length <= n) :
  Rel ⟨w,s,fun _ => False,n,⟨fun _ => none,fun _ _ => none⟩,[]⟩ w s ⟨fun _ => none,fun _ _ => none⟩ (DS.ste ⟨argD 0 args,[],0⟩) { tmps := vs.toArray ++ Array.replicate (m - vs.toArray.size) undef,defers := [] } := by
 subst hm;have hlen := hv.length;rw [jV] at hlen;refine ⟨⟨Ex.refl w s,(fun B o h => .inl h),(fun B o h => .inl h),rfl,rfl,rfl,Ao _,fun _ _ _ => rfl,hgl⟩,hlt,?_,fun t d ht => ?_,(fun _ _ h => by cases h),(fun _ _ _ _ _ h => by cases h),fun _ _ => ⟨rfl,fun _ => rfl⟩,rfl,fun _ _ => ⟨(fun _ h => by cases h),fun _ _ h => by cases h⟩⟩
 ·simp;omega
 ·have ht' : fnd t (tvs (argD 0 args)) = some d := ht;rw [qD] at ht'
  cases hx : yT t (argD 0 args) with
  | none => rw [hx] at ht';cases ht'
  | some e =>
   rw [hx] at ht';cases ht';obtain ⟨j,h1,h2⟩ := tP hx;obtain ⟨v,h3,h4⟩ := hv.get (cD h2);have hj := (Af.1 h3).1;refine ⟨v,?_,D.ofPV (pT hfl (Bh h2)) h4⟩;have ht' : t = j := by omega
   rw [ht',Dt (by simpa using hj)];simpa using h3
def zsV : List Value := [.int .i64 0,.int .i64 0,.bool false,.slice none 0 0,.bool false,.slice none 0 0,.string ByteArray.empty,.int .i64 0,.int .i64 0,.string ByteArray.empty,.int .i64 0,.bool false,.slice none 0 0,.bool false,.slice none 0 0,.string ByteArray.empty,.int .i64 0,.slice none 0 0]
def rsV (c : Int) (t : ByteArray) : List Value := [.int .i64 1,.int .i64 0,.bool false,.slice none 0 0,.bool false,.slice none 0 0,.string ByteArray.empty,.int .i64 0,.int .i64 c,.string t,.int .i64 0,.bool false,.slice none 0 0,.bool false,.slice none 0 0,.string ByteArray.empty,.int .i64 0,.slice none 0 0]
theorem rsV_of {w : World} {s : Sb} {g : Gh} {c : Int} {t : ByteArray} {vs : List Value} (h : AllT w s g (D.tvl (rsL c t)) vs) : vs = rsV c t := qV0 (l := rsL c t) (r := rsV c t) rfl h
theorem zsV_of {w : World} {s : Sb} {g : Gh} {vs : List Value} (h : AllT w s g (D.tvl (jT zsV)) vs) : vs = zsV := qV0 (l := jT zsV) (r := zsV) rfl h
theorem rc_idle (p : Addr) (w : World) :
  CallsD Tryz.prog 88 #[.pointer (some p)] .returning w fun e u' w' => e = .returned (.tuple #[]) /\ u' = .returning /\ w' = w := by
 refine callsD_of_wpS Tryz.func88 rfl fun c₀ cs hu => ?_;apply wpS_seq;apply wpS_region;simp [wpOpsS,go_sem,recoverD,hu,Tryz.ntmps88,Exit.thenS];apply wpS_seq;apply wpS_region;simp [wpOpsS,go_sem,Exit.thenS];refine wpS_cond (t := false) (by simp [Act.eval,Array.replicate]) ?_;simp only [Ay,if_false];refine wpS_of_wp (wp_skip ?_)
 cases c₀
 simp_all [bodyPostS,results,Tryz.results88]
structure RcP (w : World) (s : Sb) (N : Nat) (vs : List Value) (w' : World) (s' : Sb) : Prop where
 p : Pst w s ⟨fun k => if k = 0 then some N else none,fun _ _ => none⟩ [(0,.box 33 [])] w' s'
 c : w'.heap[N]? = some (.cells vs.toArray 33 (0,0))
 n : ∀ o,¬ s' N o
theorem rc_pan (c : Int) (t : ByteArray) (N : Nat) (older : List PanicEntry) (w : World) (s : Sb) (hlt : ∀ B o,s B o -> B < w.heap.size) (hN : w.heap[N]? = some (.cells zsV.toArray 33 (0,0))) (hs : ∀ o,¬ s N o) (hgl : Glb w s) :
  CallsD Tryz.prog 88 #[.pointer (some ⟨N,0,none⟩)] (.panicking ({ v := mZ c t,recovered := false } :: older)) w fun e u' w' => e = .returned (.tuple #[]) /\ u' = .panicking ({ v := mZ c t,recovered := true } :: older) /\ ∃ s',RcP w s N (rsV c t) w' s' := by
 refine callsD_of_wpS Tryz.func88 rfl fun c₀ cs hu => ?_;apply wpS_seq;apply wpS_region;simp [wpOpsS,go_sem,recoverD,hu,Tryz.ntmps88,Exit.thenS,mZ];apply wpS_seq;apply wpS_region;simp [wpOpsS,go_sem,Exit.thenS];refine wpS_cond (t := true) (by simp [Act.eval,Array.replicate]) ?_;simp only [if_true];refine wpS_of_wp ?_;refine (show Ev Tryz.prog ⟨w,s,fun B => B = N,Tryz.f88.ntmps,⟨fun k => if k = 0 then some N else none,fun _ _ => none⟩,[]⟩ _ ⟨[(0,.bp 0 0),(1,.v (mZ c t))],[(0,.box 33 (jT zsV))],1⟩ (fun ex S => ex = .normal /\ yT 0 S.ow = some (.box 33 (rsL c t))) from ?_) w s ⟨fun k => if k = 0 then some N else none,fun _ _ => none⟩ _ _ ?_ ?_
 ·refine zJ 100 ?_;refine zB (zJ 200 ?_);refine ev_condF rfl ?_;refine zM (zA (yN zL [] 300 ?_));exact ⟨rfl,rfl⟩
 ·refine ⟨⟨Ex.refl w s,(fun _ _ h => .inl h),(fun _ _ h => .inl h),rfl,rfl,rfl,Ao _,fun _ _ _ => rfl,hgl⟩,hlt,(by simp),fun u d hd => ?_,fun k c' hk => ?_,fun k k' c1 c2 M h1 h2 hne => ?_,fun k hk => ?_,rfl,fun _ _ => ⟨fun _ h => h,fun _ _ h => h⟩⟩
  ·have hd : fnd u (tvs [(0,.bp 0 0),(1,.v (mZ c t))]) = some d := hd;rw [qD,yP,yP] at hd;by_cases h0 : 0 = u
   ·subst h0;simp at hd;subst hd;exact ⟨.pointer (some ⟨N,0,none⟩),by simp,N,rfl,rfl⟩
   ·by_cases h1 : 1 = u
    ·subst h1;simp at hd;subst hd;exact ⟨mZ c t,by simp [mZ],rfl⟩
    ·simp only [h0,h1,if_false] at hd;cases hd
  ·have hk : fnd k [(0,Own.box 33 (D.tvl (jT zsV)))] = some c' := hk;obtain ⟨rfl,rfl⟩ := yZ hk;refine ⟨⟨N,zsV,rfl,hN,by rw [vX];exact AllT.lits _ _ _ _,fun d hd => ?_,hs⟩,fun M hM => .inr ?_⟩
   ·rw [vX] at hd;obtain ⟨z,hz,rfl⟩ := Cs.1 hd;exact Bf.1 (show zsV.all (fun v => v.oneCell') = true from rfl) z hz
   ·have : some N = some M := hM
    cases this;rfl
  ·have h1 : fnd k [(0,Own.box 33 (D.tvl (jT zsV)))] = some c1 := h1;have h2 : fnd k' [(0,Own.box 33 (D.tvl (jT zsV)))] = some c2 := h2;exact absurd ((yZ h1).1.trans (yZ h2).1.symm) hne
  ·have hk : 1 <= k := hk;have : k ≠ 0 := by omega
   simp [this]
 ·rintro ex w' s' g' a' S' hR ⟨rfl,hk⟩;refine ⟨hR.df,_,rfl,.tuple #[],by simp [results,Tryz.results88],rfl,rfl,s',?_⟩;have h1 : fnd 0 S'.ste.ow = some (DOwn.box 33 (rsL c t)).o := by show fnd 0 (ows S'.ow) = _;rw [qK,hk];rfl
  obtain ⟨M,vs,e1,e2,e3,e4,e5⟩ := (hR.ow 0 _ h1).1;have hM : M = N := by
   have := (hR.gb 0 de).1 N rfl;rw [e1] at this;cases this;rfl
  subst hM;have hvs := rsV_of e3;subst hvs;exact ⟨⟨hR.kp.ex,hR.lt,hR.kp.os,hR.kp.tape,hR.kp.output,hR.kp.size,fun B hB hne => hR.kp.block B hB fun e => hne 0 _ rfl (by rw [show B = M from e];rfl),fun B o hB => (hR.kp.st B o hB).imp id (Or.imp id fun e => ⟨0,_,rfl,by rw [show B = M from e];rfl⟩),fun B o hB => (hR.kp.sst B o hB).imp id (Or.imp id fun e => ⟨0,_,rfl,by rw [show B = M from e];rfl⟩)⟩,e2,e5⟩
theorem FnQ.run {α : Type} {P : Program} {f : FuncId} {args : List D} {own : DOwn} {res : Except Value α} {out : α -> D} {own' : α -> DOwn} {o0 : D} (h : FnQ P f args own res out own' o0) {w : World} {s : Sb} {g : Gh} {vs : List Value}
  (hfr : ∀ (acc' : List (Nat × Own)),acc'.map (·.1) = [0] -> Good w s g [(0,own.o)] acc') (hv : AllT w s g (D.tvl args) vs) :
  Bod P f /\ Calls P f vs.toArray w fun e w' => (∃ a,res = .ok a /\ ∃ s' v,e = .returned v /\ (∃ g',(out a).tv.P w' s' g' v) /\ Pst w s g [(0,own.o)] w' s') \/ ∃ V,res = .error V /\ ∃ s',e = .panicked [{ v := V,recovered := false }] /\ Pst w s g [(0,own.o)] w' s' := by
 cases res with
 | ok a =>
  have h : GFun P f (D.tvl args) [(0,own.o)] (out a).tv [(0,(own' a).o)] := h;refine ⟨h.bod,(h.run w s g vs (hfr _ rfl) hv).mono ?_⟩;rintro e w' ⟨s',g',v,rfl,h1,h2⟩;exact .inl ⟨a,rfl,s',v,rfl,⟨g',h1⟩,h2.ex,h2.lt,h2.os,h2.tape,h2.output,h2.size,h2.block,h2.st,h2.sst⟩
 | error V =>
  have h : GFunE P (pnV V) f (D.tvl args) [(0,own.o)] o0.tv [(0,deadO.o)] := h;refine ⟨h.bod,(h.run w s g vs (hfr _ rfl) hv).mono ?_⟩;rintro e w' (⟨s',g',v,rfl,h1,h2⟩ | ⟨ch,s',rfl,h1,h2⟩)
  ·exfalso;obtain ⟨N,us,_,_,h3,_⟩ := h2.ok 0 deadO.o rfl;rw [D.tvl,D.tvl] at h3
   cases us with
   | nil => exact h3
   | cons u us => exact h3.1
  ·exact .inr ⟨V,rfl,s',by rw [show ch = _ from h1],h2⟩
theorem run_gen {md : Bool} (h : List Ob) (f : FuncId) (hf0 : f < 1000000) (caps : List D) (hfl : D.flats caps = true) (res : Except Value (Bool × Nat)) (out : St)
  (HC : FnQ Tryz.prog f (.bp 0 0 :: caps) (cqO md h 10000) res qB (qO md h) (.v (.bool false)))
  (ho : ∀ r,res = .ok r -> out = vlS (boV r.1)) (he : ∀ V,res = .error V -> ∃ c t,V = mZ c t /\ out = raS c t) :
  Fx 30 [hpD md h,.clo f caps] (.agg (stD out)) := by
 refine ⟨⟨_,Tryz.func30,rfl,rfl⟩,fun w s vs hlt hgl hv => calls_of_wp_defers Tryz.func30 rfl ?_⟩;have hfl0 : D.flats [hpD md h,.clo f caps] = true := by
  rw [D.flats,D.flats,D.flats,D.flat.eq_def (.clo f caps)];simp only [hfl,Bool.and_true];rfl
 have hr0 := start_rel (n := Tryz.f30.ntmps) (m := Tryz.f30.ntmps) (args := [hpD md h,.clo f caps]) hfl0 hlt hgl hv rfl (show 2 <= _ by decide);refine wp_seq ?_;refine (show Ev Tryz.prog ⟨w,s,fun _ => False,Tryz.f30.ntmps,⟨fun _ => none,fun _ _ => none⟩,[]⟩ _ ⟨argD 0 [hpD md h,.clo f caps],[],0⟩ (fun ex S => ex = .normal /\ S = ⟨(4,.bp 1 0) :: (2,.bp 0 0) :: argD 0 [hpD md h,.clo f caps],[(1,.box 33 (jT zsV)),(0,.box 24 [.sl md 10 h obD ob0])],100⟩) from ?_) w s _ _ _ hr0 ?_
 ·refine yN zL [] 100 ?_;exact ⟨rfl,rfl⟩
 rintro ex w1 s1 g1 a1 S1 hR1 ⟨rfl,rfl⟩;refine wp_seq (wp_region_lit (qH0 (l1 := [_]) (l2 := [_]) zL [] 200 (fun S => S = ⟨(5,.clo 88 [.bp 1 0]) :: (4,.bp 1 0) :: (2,.bp 0 0) :: argD 0 [hpD md h,.clo f caps],[(1,.box 33 (jT zsV)),(0,.box 24 [.sl md 10 h obD ob0])],200⟩) hR1 rfl ?_ ?_))
 ·refine zf ?_;rfl
 rintro w2 s2 g2 a2 S2 hR2 rfl;refine wpList_step fun K hK => ?_;rw [Ab (show Region.wanted _ _ = true from rfl)];obtain ⟨v5,t5,hv5⟩ := hR2.tm 5 (TV.clo 88 [.bp 1 0]) rfl;rw [TV.P] at hv5;obtain ⟨us,e5,hu5⟩ := hv5;obtain ⟨N1,hN1,rfl⟩ : ∃ N1,g2.bx 1 = some N1 /\ us = [.pointer (some ⟨N1,0,none⟩)] := by
  match us,hu5 with
  | [u],hu5 => obtain ⟨⟨N1,h1,rfl⟩,_⟩ := hu5;exact ⟨N1,h1,rfl⟩
  | [],hu5 => exact hu5.elim
  | _ :: _ :: _,hu5 => exact hu5.2.elim
 rw [jR0 de] at e5;subst e5;have hev : a2.eval (.tmp 5) = .func (.func 88) #[] #[.pointer (some ⟨N1,0,none⟩)] := by
  show a2.tmps.getD 5 undef = _;rw [Cy,t5];rfl
 simp [Oper.wp,Oper.upon,execOp,go_sem,t5];rw [show a2.defers = [] from hR2.df];refine hK _ _ ?_;obtain ⟨d,hd⟩ : ∃ d : Deferred,d = { target := .fn (.func 88) #[.pointer (some ⟨N1,0,none⟩)],args := #[] } := ⟨_,rfl⟩
 have hRd : Rel ⟨w,s,fun _ => False,Tryz.f30.ntmps,g2,[d]⟩ w2 s2 g2 (DS.ste ⟨(5,.clo 88 [.bp 1 0]) :: (4,.bp 1 0) :: (2,.bp 0 0) :: argD 0 [hpD md h,.clo f caps],[(1,.box 33 (jT zsV)),(0,.box 24 [.sl md 10 h obD ob0])],200⟩) { tmps := a2.tmps,defers := [d] } :=
  ⟨⟨hR2.kp.ex,hR2.kp.st,hR2.kp.sst,hR2.kp.os,hR2.kp.tape,hR2.kp.output,hR2.kp.size,hR2.kp.block,hR2.kp.gl⟩,hR2.lt,hR2.sz,hR2.tm,hR2.ow,hR2.sep,hR2.fr,rfl,fun k hk => ⟨fun _ h => h,fun _ _ h => h⟩⟩
 rw [<- hd];refine wp_seq (wp_region_lit (qH0 (l1 := [_,_,_,_]) (l2 := [_,_,_,_]) zL [] 300 (fun S => S = ⟨(9,.bp 203 0) :: (8,.agg [.sl md 10 h obD ob0,.v (.int .i64 10000)]) :: (7,hpD md h) :: (6,.clo f caps) :: (5,.clo 88 [.bp 1 0]) :: (4,.bp 1 0) :: (2,.bp 0 0) :: argD 0 [hpD md h,.clo f caps],[(203,cqO md h 10000),(1,.box 33 (jT zsV)),(0,.box 24 [.sl md 10 h obD ob0])],300⟩) hRd rfl ?_ ?_))
 ·refine zf ?_;rfl
 rintro w3 s3 g3 a3 S3 hR3 rfl;refine wpList_step fun K2 hK2 => ?_;rw [Ab (show Region.wanted _ _ = true from rfl)];obtain ⟨v6,t6,hv6⟩ := hR3.tm 6 (D.clo f caps).tv rfl;rw [D.tv,TV.P] at hv6;obtain ⟨cvs,e6,hc6⟩ := hv6;rw [jR0 hf0] at e6;subst e6;obtain ⟨v9,t9,N9,hN9,rfl⟩ := hR3.tm 9 (TV.bp 203 0) rfl;have hev6 : a3.eval (.tmp 6) = .func (.func f) #[] cvs.toArray := by
  show a3.tmps.getD 6 undef = _;rw [Cy,t6];rfl
 have hev9 : [Operand.tmp 9].map a3.eval = [.pointer (some ⟨N9,0,none⟩)] := by
  show [a3.tmps.getD 9 undef] = _;rw [Cy,t9];rfl
 have hbox : fnd 203 (DS.ste ⟨(9,.bp 203 0) :: (8,.agg [.sl md 10 h obD ob0,.v (.int .i64 10000)]) :: (7,hpD md h) :: (6,.clo f caps) :: (5,.clo 88 [.bp 1 0]) :: (4,.bp 1 0) :: (2,.bp 0 0) :: argD 0 [hpD md h,.clo f caps],[(203,cqO md h 10000),(1,.box 33 (jT zsV)),(0,.box 24 [.sl md 10 h obD ob0])],300⟩).ow = some (cqO md h 10000).o := rfl;have hre : ∀ {l : List D} {vs : List Value} {g g' : Gh},D.flats l = true -> AllT w3 s3 g (D.tvl l) vs -> AllT w3 s3 g' (D.tvl l) vs := fun hf ha => D.ofPVs hf (AllT.weakS (D.toPVs (D.flats_pures hf)) ha);obtain ⟨hbod,hcall⟩ := HC.run (w := w3) (s := s3) (g := ⟨fun k => if k = 0 then some N9 else none,fun _ _ => none⟩) (vs := [Operand.tmp 9].map a3.eval ++ cvs) (fun acc' hacc => by
  refine ⟨hR3.lt,fun k c hk => ?_,fun k k' c c' N h1 h2 hne => absurd ((yZ h1).1.trans (yZ h2).1.symm) hne,fun k c hk hno => ?_,hR3.kp.gb⟩
  ·obtain ⟨rfl,rfl⟩ := yZ hk;obtain ⟨M,us,e1,e2,e3,e4,e5⟩ := (hR3.ow 203 _ hbox).1;rw [hN9] at e1;cases e1;exact ⟨N9,us,rfl,e2,hre (l := [.sl md 10 h obD ob0,.v (.int .i64 10000)]) rfl e3,e4,e5⟩
  ·have hk0 : k ∈ acc'.map (·.1) := kM hk;rw [hacc,Ee] at hk0;subst hk0;rw [yF] at hno;simp at hno) (by
  rw [hev9,D.tvl];exact ⟨⟨N9,rfl,rfl⟩,hre hfl hc6⟩)
 unfold Oper.wp;rw [kS hbod hev6];refine hcall.mono ?_;have hpst : ∀ {w4 : World} {s4 : Sb},Pst w3 s3 ⟨fun k => if k = 0 then some N9 else none,fun _ _ => none⟩ [(0,(cqO md h 10000).o)] w4 s4 -> Pst w3 s3 g3 [(203,(cqO md h 10000).o)] w4 s4 := fun hp => by
  have hb1 : blk g3 203 (cqO md h 10000).o = some N9 := hN9;refine ⟨hp.ex,hp.lt,hp.os,hp.tape,hp.output,hp.size,fun N hN hne => hp.block N hN fun k c hk hb => ?_,fun B o hB => ?_,fun B o hB => ?_⟩
  ·obtain ⟨rfl,rfl⟩ := yZ hk;exact hne 203 _ rfl (hb1.trans hb)
  ·rcases hp.st B o hB with h1 | h1 | ⟨k,c,hk,hb⟩
   ·exact .inl h1
   ·exact .inr (.inl h1)
   ·obtain ⟨rfl,rfl⟩ := yZ hk;exact .inr (.inr ⟨203,_,rfl,hb1.trans hb⟩)
  ·rcases hp.sst B o hB with h1 | h1 | ⟨k,c,hk,hb⟩
   ·exact .inl h1
   ·exact .inr (.inl h1)
   ·obtain ⟨rfl,rfl⟩ := yZ hk;exact .inr (.inr ⟨203,_,rfl,hb1.trans hb⟩)
 have hpast : ∀ {w4 : World} {s4 : Sb},Pst w3 s3 ⟨fun k => if k = 0 then some N9 else none,fun _ _ => none⟩ [(0,(cqO md h 10000).o)] w4 s4 -> Rel ⟨w,s,fun _ => False,Tryz.f30.ntmps,g2,[d]⟩ w4 s4 g3 (DS.ste ⟨[(4,.bp 1 0)],[(1,.box 33 (jT zsV))],300⟩) a3 := fun hp => hR3.past (hpst hp) (fun k c hk => by obtain ⟨rfl,rfl⟩ := yZ hk;rfl) (fun t d ht => by
   have ht : fnd t [(4,TV.bp 1 0)] = some d := ht;rw [yF] at ht;by_cases h4 : 4 = t
   ·subst h4;simp at ht;subst ht;rfl
   ·simp only [h4,if_false] at ht;cases ht) (fun k c hk => by
   have hk : fnd k [(1,Own.box 33 (D.tvl (jT zsV)))] = some c := hk;obtain ⟨rfl,rfl⟩ := yZ hk;exact ⟨rfl,rfl⟩)
 have hstp : ∀ {w5 : World} {s5 : Sb},Kp ⟨w,s,fun _ => False,Tryz.f30.ntmps,g2,[d]⟩ w5 s5 -> (∀ B o,s5 B o -> B < w5.heap.size) -> PStp w s w5 s5 := fun hk hl => ⟨hk.ex,hl,hk.os,hk.tape,hk.output,hk.size,fun N hN => hk.block N hN id,fun B o hs => (hk.st B o hs).elim .inl fun x => x.elim .inr fun x => x.elim,fun B o hs => (hk.sst B o hs).elim .inl fun x => x.elim .inr fun x => x.elim⟩;rintro e w4 (⟨r,hr,s4,v,rfl,⟨g',hv4⟩,hp⟩ | ⟨V,hV,s4,rfl,hp⟩)
 ·refine hK2 _ _ ?_;have hv4 : v = .bool r.1 := hv4;subst hv4;have hR5 : Rel ⟨w,s,fun _ => False,Tryz.f30.ntmps,g2,[d]⟩ w4 s4 g3 (DS.ste ⟨[(10,.v (.bool r.1)),(4,.bp 1 0)],[(1,.box 33 (jT zsV))],300⟩) (a3.put (some 10) (.bool r.1)) := (hpast hp).putV (t := 10) (d := .pv (PV.lit (.bool r.1))) (show 10 < Tryz.f30.ntmps by decide) rfl;refine qH0 (l1 := [_,_,_]) (l2 := []) zL [] 400 (fun S => S = ⟨(12,.agg (stD (vlS (boV r.1)))) :: (11,.agg (vlD (boV r.1))) :: (10,.v (.bool r.1)) :: (4,.bp 1 0) :: [],[(1,.box 33 (stD (vlS (boV r.1)))),(1,.box 33 (jT zsV))],400⟩) hR5 rfl ?_ ?_
  ·refine zF ?_;refine zO _ (gF r.1) rfl ?_;refine zF ?_;refine zO _ (gK (boV r.1)) rfl ?_;refine zf ?_;rfl
  rintro w5 s5 g5 a5 S5 hR5 rfl;refine wp_ret ?_;show Leaves _ _ a5.tmps _ a5.defers .returning w5;rw [show a5.defers = [d] from hR5.df,hd];refine leaves_cons (f := 88) (args := #[.pointer (some ⟨N1,0,none⟩)]) (by simp) (by simp [go_sem]) ((rc_idle ⟨N1,0,none⟩ w5).mono ?_);rintro e u' w6 ⟨rfl,rfl,rfl⟩;obtain ⟨v,h1,h2⟩ := Res1.run (P := Tryz.prog) hR5 (vD zL (r := .cell 4 33) (d := .agg (stD (vlS (boV r.1)))) rfl);exact ⟨v,xW rfl h1,s5,v,rfl,by rw [ho r hr];exact h2,hstp hR5.kp hR5.lt⟩
 ·obtain ⟨c,t,rfl,hout⟩ := he V hV;have hR4 := hpast hp;show Leaves _ _ a3.tmps _ a3.defers (.panicking _) w4;rw [show a3.defers = [d] from hR3.df,hd];obtain ⟨M,us,e1,e2,e3,e4,e5⟩ := (hR4.ow 1 (Own.box 33 (D.tvl (jT zsV))) rfl).1;have hM : M = N1 := by
   have := (hR4.gb 1 de).1 N1 hN1;rw [e1] at this;cases this;rfl
  subst hM;have hus := zsV_of e3;subst hus;refine leaves_cons (f := 88) (args := #[.pointer (some ⟨M,0,none⟩)]) (by simp) (by simp [go_sem]) ((rc_pan c t M [] w4 s4 hR4.lt e2 e5 hR4.kp.gb).mono ?_);rintro e u' w6 ⟨rfl,rfl,s6,hrc⟩;have hb1 : blk g3 1 (Own.box 33 (D.tvl (jT zsV))) = some M := e1;have hstp2 : Stp w4 s4 g3 [(1,.box 33 (D.tvl (jT zsV)))] w6 s6 g3 [(1,.box 33 (D.tvl (rsL c t)))] := by
   refine ⟨hrc.p.ex,hrc.p.lt,GLe.refl g3,fun _ _ => ⟨rfl,fun _ => rfl⟩,hrc.p.os,hrc.p.tape,hrc.p.output,hrc.p.size,fun N hN hne => hrc.p.block N hN fun k c' hk hb => ?_,fun B o hB => ?_,fun B o hB => ?_,fun k c' hk => ?_,fun k c' N hk hb => ?_,fun k k' c1 c2 N h1 h2 hne => absurd ((yZ h1).1.trans (yZ h2).1.symm) hne,fun k c' hk => ?_⟩
   ·obtain ⟨rfl,rfl⟩ := yZ hk;exact hne 1 _ rfl (hb1.trans hb)
   ·rcases hrc.p.st B o hB with h1 | h1 | ⟨k,c',hk,hb⟩
    ·exact .inl h1
    ·exact .inr (.inl h1)
    ·obtain ⟨rfl,rfl⟩ := yZ hk;exact .inr (.inr ⟨1,_,rfl,hb1.trans hb⟩)
   ·rcases hrc.p.sst B o hB with h1 | h1 | ⟨k,c',hk,hb⟩
    ·exact .inl h1
    ·exact .inr (.inl h1)
    ·obtain ⟨rfl,rfl⟩ := yZ hk;exact .inr (.inr ⟨1,_,rfl,hb1.trans hb⟩)
   ·obtain ⟨rfl,rfl⟩ := yZ hk;refine ⟨M,rsV c t,e1,hrc.c,?_,fun d' hd' => ?_,hrc.n⟩
    ·rw [show rsL c t = jT (rsV c t) from rfl,vX];exact AllT.lits _ _ _ _
    ·rw [show rsL c t = jT (rsV c t) from rfl,vX] at hd';obtain ⟨z,hz,rfl⟩ := Cs.1 hd';exact Bf.1 (show (rsV c t).all (fun v => v.oneCell') = true from rfl) z hz
   ·obtain ⟨rfl,rfl⟩ := yZ hk;exact .inr ⟨1,_,rfl,hb⟩
   ·obtain ⟨rfl,rfl⟩ := yZ hk;exact ⟨_,rfl⟩
  have hR6 := hR4.step (dst := none) (out := .pv (PV.lit undef)) (v := undef) (nx := 300) hstp2 (fun k c' hk => by obtain ⟨rfl,rfl⟩ := yZ hk;rfl) (fun k c' hk => by obtain ⟨rfl,rfl⟩ := yZ hk;exact .inl ⟨_,rfl⟩) (Ao _) (fun k c' hk => by obtain ⟨rfl,rfl⟩ := yZ hk;decide) (fun _ h => by cases h) rfl;have hR6 : Rel ⟨w,s,fun _ => False,Tryz.f30.ntmps,g2,[d]⟩ w6 s6 g3 (DS.ste ⟨[(4,.bp 1 0)],[(1,.box 33 (rsL c t)),(1,.box 33 (jT zsV))],300⟩) a3 := hR6;obtain ⟨v,h1,h2⟩ := Res1.run (P := Tryz.prog) hR6 (vD zL (r := .cell 4 33) (d := .agg (rsL c t)) rfl);have hsub : SubP (.agg (rsL c t)) (.agg (stD (raS c t))) := u20 nz;exact ⟨v,xW rfl h1,s6,v,rfl,by rw [hout];exact hsub _ _ _ h2,hstp hR6.kp hR6.lt⟩
variable {md me : Bool}
theorem gA0 {h : List Ob} (hh : HpIn h) (g : Uh h) : ∀ (f n : Nat) (a b : Vl),n <= f -> n <= 10000 -> Vd h a -> Vd h b -> FnQ Tryz.prog 32 [.bp 0 0,.agg (vlD a),.agg (vlD b)] (cqO md h n) (qE (eqS h f n a b)) qB (qO md h) (.v (.bool false))
 | 0,n,a,b,h0,h1,ha,hb => by
  have e : n = 0 := by omega
  subst e;exact yN0 h 0 a b (fun _ _ _ => none) h1 hh g ha hb (fun _ _ _ _ e => by cases e) fun m hm => absurd hm om
 | f + 1,n,a,b,h0,h1,ha,hb => yN0 h n a b (eqS h f) h1 hh g ha hb (cX h f) fun m hm x y hx hy => gA0 hh g f m x y om om hx hy
def qSt : QR -> St
 | some r => vlS (boV r.1)
 | none => raS 42 qT0
theorem qSt_ok {q : QR} : ∀ r,qE q = .ok r -> qSt q = vlS (boV r.1) := by
 intro r h
 cases q with
 | none => cases h
 | some q => cases h;rfl
theorem qSt_no {q : QR} : ∀ V,qE q = .error V -> ∃ c t,V = mZ c t /\ qSt q = raS c t := by
 intro V h
 cases q with
 | none => cases h;exact ⟨42,qT0,rfl,rfl⟩
 | some q => cases h
end Go.Proofs.YtinegkcbkefeiaaGreatDoor
/-
  DERIVED: THE SHELF's CONTRACTS AT THIS DUMP,IN PLAIN WORDS (tools/lay-plain.mjs out of 'YtinegkcbkefeiaaGreatDoorShelf4.lean',which tools/lay-shelf.mjs wrote): THE SAME DECLARATIONS UNDER THE SAME NAMES: 'import','namespace','open','def','theorem' AND NOTHING ELSE: no command of the shelf's: FOR A HAND-IN. Each laying: the table of numbers ('.._ren') and one theorem,a field a fact of the dump's own or the kernel's comparison;each contract: ONE APPLICATION.
-/
namespace Go.Proofs
open Go.Shelf
end Go.Proofs
namespace Go.Proofs.YtinegkcbkefeiaaGreatDoor
open Go.RowKit Go.Shelf
open Go.RowKit
variable {md me : Bool}
def cmpI (a b : Int) : Int := if a < b then -1 else if b < a then 1 else 0
variable {md me : Bool}
abbrev LR := Except (Int × ByteArray) (Bool × Nat)
section
variable {F : Nat -> Vl -> Vl -> QR} {G : Nat -> Vl -> Vl -> LR} {z : Bool} {l : List (Vl × Vl)} {n : Nat}
end
section
variable {F : Nat -> Vl -> Vl -> QR} {G : Nat -> Vl -> Vl -> LR} {h : List Ob} {op : Int} {n : Nat} {a b : Vl}
end
variable {md me : Bool}
def jO (md : Bool) (h : List Ob) (n : Int) : DOwn := .box 128 [.sl md 10 h obD ob0,.v (.int .i64 n)]
def jD (md : Bool) (h : List Ob) (n : Int) : D := .pt true [.sl md 10 h obD ob0,.v (.int .i64 n)]
def vd0 (b : Bool) (s : St) : D := .agg (.v (.bool b) :: stD s)
def qT : QR -> Bool
 | some r => r.1
 | none => false
def qS : QR -> St
 | some _ => st0
 | none => raS 42 qT0
def jl : QR -> Int
 | some r => (r.2 : Nat)
 | none => -1
def vdD (q : QR) : D := vd0 (qT q) (qS q)
def zsL : List D := [.v (.int .i64 0),.v (.int .i64 0),.v (.bool false),.v (.slice none 0 0),.v (.bool false),.v (.slice none 0 0),.v (.string ByteArray.empty),.v (.int .i64 0),.v (.int .i64 0),.v (.string ByteArray.empty),.v (.int .i64 0),.v (.bool false),.v (.slice none 0 0),.v (.bool false),.v (.slice none 0 0),.v (.string ByteArray.empty),.v (.int .i64 0),.v (.slice none 0 0)]
theorem qT_y {q : QR} (h : qT q = true) : ∃ m,q = some (true,m) := by
 cases q with
 | none => cases h
 | some r => obtain ⟨b,m⟩ := r;have h : b = true := h;rw [h];exact ⟨m,rfl⟩
theorem qT_n {q : QR} (h : qT q = false) : q = none \/ ∃ m,q = some (false,m) := by
 cases q with
 | none => exact .inl rfl
 | some r => obtain ⟨b,m⟩ := r;have h : b = false := h;rw [h];exact .inr ⟨m,rfl⟩
theorem Lq.bad {F : Nat -> Vl -> Vl -> QR} {l : List (Vl × Option Vl)} {n : Nat} (x : Lq F l n) {v w : Vl} (hg : l[x.k]? = some (v,some w)) (h : qT (F x.m v w) = false) : lsQ F l n = F x.m v w := by
 rcases qT_n h with e | ⟨m,e⟩
 ·rw [e];exact x.pan hg e
 ·rw [e];exact x.no hg e
theorem spent0_ok (h : List Ob) (n : Nat) (hn : n = 0) : FnG Tryz.prog 102 [.bp 0 0] [jO md h (n : Nat)] (.tpo [vd0 false (raS 42 qT0),.v (.bool true)]) [jO md h (-1)] := by
 refine mK zL Tryz.func102 rfl rfl rfl rfl rfl rfl rfl ?_;intro w0 s0 mx;refine zJ 100 ?_;refine zJ 200 ?_;refine zB (zJ 300 ?_);refine zT rfl (fun c2 => ?_) (fun c2 => ?_)
 ·have c2 : n = 0 := by have h9 := c2;simp at h9;omega
  refine zB (zE zL [] 400 rfl ?_);refine zF ?_;refine zO _ (dB _ _) rfl ?_;refine zf (zA (zK (zN ?_)));exact u11 1 rfl rfl (u0 _) ⟨⟨rfl,u0 _,rfl,u21 om,rfl,trivial⟩,trivial⟩
 ·have c2 : ¬ n = 0 := by have h9 := c2;simp at h9;omega
  exact absurd hn c2
theorem spent1_ok (h : List Ob) (n : Nat) (hn : ¬ n = 0) (hl : n <= 10000) : FnG Tryz.prog 102 [.bp 0 0] [jO md h (n : Nat)] (.tpo [.agg (.v (.bool false) :: zsL),.v (.bool false)]) [jO md h ((n - 1 : Nat) : Int)] := by
 refine mK zL Tryz.func102 rfl rfl rfl rfl rfl rfl rfl ?_;intro w0 s0 mx;refine zJ 100 ?_;refine zJ 200 ?_;refine zB (zJ 300 ?_);refine zT rfl (fun c2 => ?_) (fun c2 => ?_)
 ·have c2 : n = 0 := by have h9 := c2;simp at h9;omega
  exact absurd c2 hn
 ·have c2 : ¬ n = 0 := by have h9 := c2;simp at h9;omega
  refine zM (zA (zJ 500 ?_));refine zK ?_;exact u11 1 rfl rfl (u0 _) ⟨⟨rfl,u0 _,rfl,u21 om,rfl,trivial⟩,trivial⟩
theorem withinJ_ok (h : List Ob) (n : Int) (p q : Ob) (hh : HpIn h) (kp : Kd h p.keys) (kq : Kd h q.keys) (hl : p.keys.length <= 1000) : Fx 105 [jD md h n,.agg (obD p),.agg (obD q)] (.v (.bool (wiB h p.keys q.keys))) := by
 refine yD zL Tryz.func105 rfl rfl rfl rfl rfl rfl ?_;intro w0 s0 mx;refine zJ 100 ?_;refine zB (zJ 200 ?_);refine zR ?_;refine yC (ι := Al p.keys (fun k => decide (0 <= plI h q.keys k))) [0,5,10,11] [1] 250 (fun x => [(12,.v (.int .i64 x.k))]) (fun _ => []) (fun x => p.keys.length - x.k) ⟨0,Ap _,fun j x hj => by omega⟩ ?_;refine ⟨⟨yM,yH,rfl,rfl⟩,fun x => ?_⟩;have hk := x.le;refine zJ 300 ?_;refine zB (zT rfl (fun c2 => ?_) (fun c2 => ?_))
 ·have c2 : x.k < p.keys.length := by simpa using c2
  refine zM (zA (zB (zR (zJ 400 ?_))));refine zB (zZ zL [] [[],[0],[0,1],[0,1,2],[],[4],[],(rgN 7),(rgN 8)] 500 yQ kr rfl ?_);refine zF ?_;refine zO _ (dC h q.keys _ hh (fun x hx => gB (kq.keyed x hx))) rfl ?_;refine zF ?_;refine zC (zA (zT rfl (fun c4 => ?_) (fun c4 => ?_)))
  ·have c4 : ¬ 0 <= plI h q.keys (p.keys.getD x.k vl0) := by
    have h9 := c4;simp only [Ad,Ak] at h9;omega
   refine zJ 600 ?_;refine zK (zQ (zN (yL (zQ (zN ?_)))))
   exact u4 rfl (u7 (by
     symm
     rw [wiB,<- Bool.not_eq_true,Bf];intro h8;exact c4 (Aj (h8 _ (uP c2)))))
  ·have c4 : 0 <= plI h q.keys (p.keys.getD x.k vl0) := by
    have h9 := c4;simp only [Ad,Av] at h9;omega
   refine zM (zP (zA (yN zL [] 700 ?_)));exact zS (x.next (e := vl0) c2 (Aw c4)) ⟨yM,yH,rfl,rfl⟩ (by show p.keys.length - (x.k + 1) < p.keys.length - x.k;omega)
 ·have c2 : ¬ x.k < p.keys.length := by simpa using c2
  refine yE (yA (yB (zX (zA (zJ 800 ?_)))));refine zK ?_;exact u4 rfl (u7 (x.yes c2).symm)
theorem vStepS_ok (b : Bool) (s : St) : Fx 46 [vd0 b s] (.agg (stD (if s.k = 1 then s else vlS (boV b)))) := by
 refine yD zL Tryz.func46 rfl rfl rfl rfl rfl rfl ?_;intro w0 s0 mx;refine zJ 100 ?_;refine zB (zJ 200 ?_);refine zT rfl (fun c1 => ?_) (fun c1 => ?_)
 ·have c1 : s.k = 1 := by simpa using c1
  refine zJ 300 ?_;refine zK (zN ?_);rw [Ab c1];exact u4 rfl (u6 _)
 ·have c1 : ¬ s.k = 1 := by simpa using c1
  refine zM (zA ?_);refine zB (zE zL [] 400 rfl ?_);refine zF ?_;refine zO _ (B_ok b) rfl ?_;refine zF ?_;refine zO _ (wM _) rfl ?_;refine zf (zA (zK ?_));rw [Aa c1];exact u4 rfl (u6 _)
theorem yC0 (h : List Ob) : FnG Tryz.prog 44 [hpD md h] [] (.bp 0 0) [jO md h 10000] := by
 refine mK zL Tryz.func44 rfl rfl rfl rfl rfl rfl rfl ?_;intro w0 s0 mx;refine zJ 100 ?_;refine zJ 200 ?_;refine zK ?_;exact u11 102 rfl rfl (u0 _) ⟨⟨rfl,u0 _,rfl,u0 _,rfl,trivial⟩,trivial⟩
theorem tU0 (h : List Ob) (n : Nat) (a b : List Vl) (F : Nat -> Vl -> Vl -> QR) (ha : a.length <= 1000) (hF : LeQ F) (H : ∀ m,m <= n -> ∀ x ∈ a,∀ y ∈ b,FnG Tryz.prog 45 [.bp 0 0,.agg (vlD x),.agg (vlD y)] [jO md h (m : Nat)] (vdD (F m x y)) [jO md h (jl (F m x y))]) : FnG Tryz.prog 103 [.bp 0 0,vsD a,vsD b,.v (.bool false)] [jO md h (n : Nat)] (vdD (prQ F a b n)) [jO md h (jl (prQ F a b n))] := by
 refine mK zL Tryz.func103 rfl rfl rfl rfl rfl rfl rfl ?_;intro w0 s0 mx;refine zJ 100 ?_;refine zB (zJ 200 ?_);refine zT rfl (fun c1 => ?_) (fun c1 => ?_)
 ·replace c1 : ¬ a.length = b.length := by simp at c1;omega
  refine zJ 300 ?_;refine zK (zN ?_);rw [show prQ F a b n = some (false,n) from Aa c1];exact u11 1 rfl rfl (Sub.ofP (u20 nz) rfl rfl) ⟨⟨rfl,u0 _,rfl,u0 _,rfl,trivial⟩,trivial⟩
 ·replace c1 : a.length = b.length := by simp at c1;omega
  refine zM (zA (zB (zJ 400 ?_)));refine zR ?_;refine yC (ι := Lq F (prL a b) n) [0,1,2,3,8,18] [1] 450 (fun x => [(19,.v (.int .i64 x.k))]) (fun x => [(0,.box 128 [.sl md 10 h obD ob0,.v (.int .i64 (x.m : Nat))])]) (fun x => a.length - x.k) ⟨0,n,Ap _,Ao _,rfl⟩ ?_;refine ⟨⟨yM,⟨⟨rfl,u0 _,rfl,u0 _,rfl,trivial⟩,yH⟩,rfl,rfl⟩,fun x => ?_⟩;have hxl := x.le;rw [qK0] at hxl;refine zJ 500 ?_;refine zB (zT rfl (fun c4 => ?_) (fun c4 => ?_))
  ·have c4 : x.k < a.length := by simpa using c4
   have hlb : x.k < b.length := by omega
   refine zM (zA (zB (zR (zJ 600 ?_))));refine zJ 700 ?_;refine zB (zJ 800 ?_);refine zW (fun c7 => ?_) (fun c7 => ?_)
   ·
    exact absurd c7 de
   ·
    refine zZ zL [1042] [[],[],[],[1,2],[1,2,3],[],[],[5,6],[5,6,7],(rgN 9),(rgN 10)] 1000 yQ kr rfl ?_;refine zF ?_;refine qC _ _ (H x.m x.hm _ (by rw [qN om];exact Be _) _ (by rw [qN om];exact Be _)) rfl ?_;refine zF ?_;refine zC (zA (zJ 1100 ?_));refine zT rfl (fun c10 => ?_) (fun c10 => ?_)
    ·have c10 : qT (F x.m (a.getD x.k vl0) (b.getD x.k vl0)) = false := by simpa using c10
     refine zJ 1200 ?_;refine zK (zQ (zN (yL (zQ (zN ?_)))));rw [show prQ F a b n = (F x.m (a.getD x.k vl0) (b.getD x.k vl0)) from (Ab c1).trans (x.bad (uT0 a b c4) c10)];exact u11 1 rfl rfl (u0 _) ⟨⟨rfl,u0 _,rfl,u0 _,rfl,trivial⟩,trivial⟩
    ·have c10 : qT (F x.m (a.getD x.k vl0) (b.getD x.k vl0)) = true := by simpa using c10
     obtain ⟨m2,hr⟩ := qT_y c10;refine zM (zP (zA (yN zL [] 1300 ?_)));exact zS (x.next hF (uT0 a b c4) hr) ⟨⟨u21 (by show (x.k : Int) + 1 = ((x.k + 1 : Nat) : Int);push_cast;rfl),yM⟩,⟨⟨rfl,u0 _,rfl,u21 (by simp only [Ad,hr];rfl),rfl,trivial⟩,yH⟩,rfl,rfl⟩ (by show a.length - (x.k + 1) < a.length - x.k;omega)
  ·have c4 : ¬ x.k < a.length := by simpa using c4
   refine yE (yA (yB (zX (zA (zJ 1400 ?_)))));refine zK ?_;rw [show prQ F a b n = some (true,x.m) from (Ab c1).trans (x.fin (by rw [qK0];exact c4))];exact u11 1 rfl rfl (Sub.ofP (u20 nz) rfl rfl) ⟨⟨rfl,u0 _,rfl,u0 _,rfl,trivial⟩,trivial⟩
section
variable {h : List Ob} {A B C : List Vl}
end
theorem rgQ_iff {a b c x y z : Int} : rgQ a b c x y z = true ↔ qF a b c = qF x y z /\ (qF a b c = 0 \/ a = x /\ a + c * (qF a b c - 1) = x + z * (qF x y z - 1)) := by
 unfold rgQ;simp only [Ai,Cp,Ak];constructor
 ·rintro ⟨h1,h2⟩;refine ⟨h1,h2.imp id fun ⟨h3,h4⟩ => ⟨by omega,by rw [<- h1];omega⟩⟩
 ·rintro ⟨h1,h2⟩;refine ⟨h1,h2.imp id fun ⟨h3,h4⟩ => ⟨by omega,by rw [<- h1] at h4;omega⟩⟩
section
variable {h : List Ob} (hk : ∀ v : Vl,(zY h v).kind = 3 \/ (zY h v).kind = 4 -> Dk h (zY h v).keys)
include hk
end
theorem cmpI_eq {a b : Int} : cmpI a b = 0 ↔ a = b := by
 unfold cmpI;split <;> (try split) <;> omega
end Go.Proofs.YtinegkcbkefeiaaGreatDoor
