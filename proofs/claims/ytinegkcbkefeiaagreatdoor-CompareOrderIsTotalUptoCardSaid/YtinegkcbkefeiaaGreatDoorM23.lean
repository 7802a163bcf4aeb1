/- Part 23 of the proof. -/
import Derived.Test.YtinegkcbkefeiaaGreatDoorM22
import Derived.Shelf.Small.Strs
namespace Go.Proofs.YtinegkcbkefeiaaGreatDoor
open Go.RowKit
variable {md me : Bool}
def cqO (md : Bool) (h : List Ob) (n : Nat) : DOwn := .box 111 [.sl md 10 h obD ob0,.v (.int .i64 n)]
def cqD (md : Bool) (h : List Ob) (n : Nat) : D := .pt true [.sl md 10 h obD ob0,.v (.int .i64 n)]
def rsL (c : Int) (s : ByteArray) : List D := [.v (.int .i64 1),.v (.int .i64 0),.v (.bool false),.v (.slice none 0 0),.v (.bool false),.v (.slice none 0 0),.v (.string ByteArray.empty),.v (.int .i64 0),.v (.int .i64 c),.v (.string s),.v (.int .i64 0),.v (.bool false),.v (.slice none 0 0),.v (.bool false),.v (.slice none 0 0),.v (.string ByteArray.empty),.v (.int .i64 0),.v (.slice none 0 0)]
def gY (c : Int) (s : ByteArray) : Value := .iface 108 (.agg #[.int .i64 1,.int .i64 0,.bool false,.slice none 0 0,.bool false,.slice none 0 0,.string ByteArray.empty,.int .i64 0,.int .i64 c,.string s,.int .i64 0,.bool false,.slice none 0 0,.bool false,.slice none 0 0,.string ByteArray.empty,.int .i64 0,.slice none 0 0])
def tD : ByteArray := ⟨#[99,111,109,112,97,114,105,115,111,110,32,116,97,107,101,115,32,116,111,111,32,108,111,110,103]⟩
abbrev QR := Option (Bool × Nat)
def qE : QR → Except Value (Bool × Nat)
 | some r => .ok r
 | none => .error (gY 42 tD)
def qB (r : Bool × Nat) : D := .v (.bool r.1)
def qO (md : Bool) (h : List Ob) (r : Bool × Nat) : DOwn := cqO md h r.2
def pairR (n : Nat) : Except Value Nat := if n = 0 then .error (gY 42 tD) else .ok (n - 1)
theorem gA (c : Int) (s : ByteArray) : Fn Tryz.prog 51 [.v (.int .i64 c),.v (.string s)] (.agg (rsL c s)) := by
 refine yG zL Tryz.func51 rfl rfl rfl rfl rfl rfl ?_;intro w0 s0 mx;refine zJ 100 ?_;refine zJ 200 ?_;refine zM ?_;exact FinV.ret rfl (SubP.refl _)
theorem zP0 (h : List Ob) (n : Nat) (hn : n ≤ 10000) : FnQ Tryz.prog 89 [.bp 0 0] (cqO md h n) (pairR n) (fun _ => .v (.tuple #[])) (fun m => cqO md h m) (.v (.tuple #[])) := by
 refine pY zL Tryz.func89 rfl rfl rfl rfl rfl rfl (fun _ => rfl) rfl ?_;intro w0 s0 mx;refine zB (zJ 100 ?_);refine zT rfl (fun c0 => ?_) (fun c0 => ?_)
 ·have c0 : n = 0 := by simpa using c0
  refine zE zL [] 200 rfl ?_;refine zF ?_;refine zR _ (gA _ _) rfl ?_;refine zF ?_;refine uL0 (FinQ.pan (if_pos c0) _ rfl) ?_;refine zF ?_;refine zC (zA ?_);exact uN 103
 ·have c0 : ¬ n = 0 := by simpa using c0
  refine zK (zA (yN zL [] 300 ?_));exact FinQ.of (n - 1) (if_neg c0) (FinH.normal 1 rfl rfl (Sub.refl _) ⟨⟨rfl,Sub.refl _,rfl,Sub.int (by omega),rfl,trivial⟩,trivial⟩)
theorem IndexFuncQ_ok (h : List Ob) (n : Nat) (l : List Vl) (k : Vl) (H : ∀ x ∈ l,Fn Tryz.prog 204 [.agg (vlD x),.pt true [cqD md h n],vpD k] (.v (.bool (smK h 1001 x k)))) : Fn Tryz.prog 115 [.sl me 7 l vlD vl0,.clo 204 [.pt true [cqD md h n],vpD k]] (.v (.int .i64 (plI h l k))) := by
 refine yG zL Tryz.func115 rfl rfl rfl rfl rfl rfl ?_;intro w0 s0 mx;refine xK 0 rfl fun hl0 => ?_;refine zJ 100 ?_;refine zB (zJ 200 ?_);refine zP ?_;refine yB (ι := Al l (fun x => !smK h 1001 x k)) [0,1,7] [] 250 (fun x => [(8,.v (.int .i64 x.k))]) (fun _ => []) (fun x => l.length - x.k) ⟨0,Nat.zero_le _,fun j x hj => by omega⟩ ?_;refine ⟨⟨yL,yI,rfl,rfl⟩,fun x => ?_⟩;have hk := x.le;refine zJ 300 ?_;refine zB (zT rfl (fun c2 => ?_) (fun c2 => ?_))
 ·have c2 : x.k < l.length := by simpa using c2
  refine zK (zA (zB (zP (zJ 400 ?_))));refine zB (zE zL [] 500 rfl ?_);refine zF ?_;refine zR _ (H _ (by rw [qS c2];exact List.getElem_mem _)) rfl ?_;refine zF ?_;refine zC (zA (zX (fun c4 => ?_) (fun c4 => ?_)))
  ·
   refine zJ 600 ?_;refine zM (zQ (zO (yK (zQ (zO ?_)))));exact FinV.ret rfl (SubP.int (kU0 x.all (cR c2 vl0) c4).symm)
  ·
   refine zK (zN (zA (yN zL [] 700 ?_)));exact zS (x.next (e := vl0) c2 (by rw [c4];rfl)) ⟨yL,yI,rfl,rfl⟩ (by show l.length - (x.k + 1) < l.length - x.k;omega)
 ·have c2 : ¬ x.k < l.length := by simpa using c2
  refine yF (zZ (yA (zW (zA (zJ 800 ?_)))));refine zM ?_;exact FinV.ret rfl (SubP.int (zM0 (fun y hy => by
    have := List.all_eq_true.1 (x.yes c2) y hy;simpa using this)).symm)
theorem placeQC_ok (h : List Ob) (n : Nat) (w k : Vl) (hh : HpIn h) (g : Uh h) (hk : wI h k = true) (hv : Vd h k) (hw : Vd h w) : Fn Tryz.prog 204 [.agg (vlD w),.pt true [cqD md h n],vpD k] (.v (.bool (smK h 1001 w k))) := by
 refine yG zL Tryz.func204 rfl rfl rfl rfl rfl rfl ?_;intro w0 s0 mx;refine zJ 100 ?_;refine zB (yD zL [] [[],[0],[0,1],[0,1,2],[],[],(rgN 6),(rgN 7)] 200 yU (by kernel_rfl) rfl ?_);refine zF ?_;refine zR _ ((heapKey_ok hh g hk hv hw).out (SubP.bool (dL h 1001 k w))) rfl ?_;refine zF ?_;refine zC (zA (zM ?_));exact FinV.ret rfl (SubP.refl _)
theorem qP0 (h : List Ob) (n : Nat) (l : List Vl) (k : Vl) (hh : HpIn h) (g : Uh h) (hk : wI h k = true) (hv : Vd h k) (hl : ∀ x ∈ l,Vd h x) : Fn Tryz.prog 155 [cqD md h n,.sl me 7 l vlD vl0,.agg (vlD k)] (.v (.int .i64 (plI h l k))) := by
 refine yG zL Tryz.func155 rfl rfl rfl rfl rfl rfl ?_;intro w0 s0 mx;refine zJ 100 ?_;refine zB (zE zL [] 200 rfl ?_);refine zF ?_;refine xN _ (IndexFuncQ_ok h n l k fun x hx => placeQC_ok h n x k hh g hk hv (hl x hx)) rfl rfl ?_;refine zF ?_;refine zC (zA (zM ?_));exact FinV.ret rfl (SubP.refl _)
def wiB (h : List Ob) (a b : List Vl) : Bool := a.all fun k => decide (0 ≤ plI h b k)
def fiI (p : Vl → Bool) : List Vl → Int
 | [] => -1
 | x :: l => if p x then 0 else (if fiI p l < 0 then -1 else fiI p l + 1)
theorem mU0 {p : Vl → Bool} : ∀ {l : List Vl},(∀ x ∈ l,p x = false) → fiI p l = -1
 | [],_ => rfl
 | x :: l,h => by
  rw [fiI,if_neg (by rw [h x List.mem_cons_self];simp),if_pos];rw [mU0 fun y hy => h y (List.mem_cons_of_mem _ hy)];decide
theorem zT1 {p : Vl → Bool} : ∀ {l : List Vl} {k : Nat} {y : Vl},(∀ j x,j < k → l[j]? = some x → p x = false) → l[k]? = some y → p y = true → fiI p l = k
 | [],k,y,_,h,_ => by simp at h
 | x :: l,0,y,_,h,hp => by
  simp at h;subst h;rw [fiI,if_pos hp];rfl
 | x :: l,k + 1,y,ha,h,hp => by
  have h0 := ha 0 x (by omega) rfl;have ih := zT1 (l := l) (k := k) (y := y) (fun j z hj hz => ha (j + 1) z (by omega) (by simpa using hz)) (by simpa using h) hp;rw [fiI,if_neg (by rw [h0];simp),ih,if_neg (by omega)]
  push_cast;rfl
theorem tC0 (p : Vl → Bool) : ∀ l : List Vl,decide (0 ≤ fiI p l) = l.any p
 | [] => rfl
 | x :: l => by
  have ih := tC0 p l;rw [fiI,List.any_cons]
  cases hp : p x with
  | true => rfl
  | false =>
   simp only [Bool.false_eq_true,if_false,Bool.false_or,← ih];split
   ·rename_i h;rw [decide_eq_false (by omega),decide_eq_false (by omega)]
   ·rename_i h;rw [decide_eq_true (by omega),decide_eq_true (by omega)]
theorem withinC_ok (h : List Ob) (n : Nat) (y : Ob) (k : Vl) (hh : HpIn h) (g : Uh h) (hy : ∀ x ∈ y.keys,Vd h x) (hk : wI h k = true) (hv : Vd h k) : Fn Tryz.prog 156 [.agg (vlD k),.pt true [cqD md h n],.pt true (obD y)] (.v (.bool (decide (plI h y.keys k < 0)))) := by
 refine yG zL Tryz.func156 rfl rfl rfl rfl rfl rfl ?_;intro w0 s0 mx;refine zJ 100 ?_;refine zB (zE zL [] 200 rfl ?_);refine zF ?_;refine zR _ (qP0 h n y.keys k hh g hk hv hy) rfl ?_;refine zF ?_;refine zC (zA (zM ?_));exact FinV.ret rfl (SubP.refl _)
theorem IndexFuncW_ok (h : List Ob) (n : Nat) (y : Ob) (p : Vl → Bool) (l : List Vl) (H : ∀ x ∈ l,Fn Tryz.prog 156 [.agg (vlD x),.pt true [cqD md h n],.pt true (obD y)] (.v (.bool (p x)))) : Fn Tryz.prog 115 [.sl me 7 l vlD vl0,.clo 156 [.pt true [cqD md h n],.pt true (obD y)]] (.v (.int .i64 (fiI p l))) := by
 refine yG zL Tryz.func115 rfl rfl rfl rfl rfl rfl ?_;intro w0 s0 mx;refine xK 0 rfl fun hl0 => ?_;refine zJ 100 ?_;refine zB (zJ 200 ?_);refine zP ?_;refine yB (ι := Al l (fun x => !p x)) [0,1,7] [] 250 (fun x => [(8,.v (.int .i64 x.k))]) (fun _ => []) (fun x => l.length - x.k) ⟨0,Nat.zero_le _,fun j x hj => by omega⟩ ?_;refine ⟨⟨yL,yI,rfl,rfl⟩,fun x => ?_⟩;have hk := x.le;refine zJ 300 ?_;refine zB (zT rfl (fun c2 => ?_) (fun c2 => ?_))
 ·have c2 : x.k < l.length := by simpa using c2
  refine zK (zA (zB (zP (zJ 400 ?_))));refine zB (zE zL [] 500 rfl ?_);refine zF ?_;refine zR _ (H _ (by rw [qS c2];exact List.getElem_mem _)) rfl ?_;refine zF ?_;refine zC (zA (zT rfl (fun c4 => ?_) (fun c4 => ?_)))
  ·
   refine zJ 600 ?_;refine zM (zQ (zO (yK (zQ (zO ?_)))));exact FinV.ret rfl (SubP.int (zT1 (fun j z hj hz => by have := x.all j z hj hz;simpa using this) (cR c2 vl0) c4).symm)
  ·
   refine zK (zN (zA (yN zL [] 700 ?_)));exact zS (x.next (e := vl0) c2 (by rw [c4];rfl)) ⟨yL,yI,rfl,rfl⟩ (by show l.length - (x.k + 1) < l.length - x.k;omega)
 ·have c2 : ¬ x.k < l.length := by simpa using c2
  refine yF (zZ (yA (zW (zA (zJ 800 ?_)))));refine zM ?_;exact FinV.ret rfl (SubP.int (mU0 (fun y hy => by
    have := List.all_eq_true.1 (x.yes c2) y hy;simpa using this)).symm)
theorem ContainsFuncW_ok (h : List Ob) (n : Nat) (y : Ob) (p : Vl → Bool) (l : List Vl) (H : ∀ x ∈ l,Fn Tryz.prog 156 [.agg (vlD x),.pt true [cqD md h n],.pt true (obD y)] (.v (.bool (p x)))) : Fn Tryz.prog 60 [.sl me 7 l vlD vl0,.clo 156 [.pt true [cqD md h n],.pt true (obD y)]] (.v (.bool (l.any p))) := by
 refine yG zL Tryz.func60 rfl rfl rfl rfl rfl rfl ?_;intro w0 s0 mx;refine zJ 100 ?_;refine zB (zE zL [] 200 rfl ?_);refine zF ?_;refine zR _ (IndexFuncW_ok h n y p l H) rfl ?_;refine zF ?_;refine zC (zA (zM ?_));exact FinV.ret rfl (SubP.bool (tC0 p l))
theorem cF (h : List Ob) (n : Nat) (x y : Ob) (hh : HpIn h) (g : Uh h) (hy : ∀ x ∈ y.keys,Vd h x) (hk : ∀ k ∈ x.keys,wI h k = true ∧ Vd h k) : Fn Tryz.prog 93 [cqD md h n,.agg (obD x),.agg (obD y)] (.v (.bool (wiB h x.keys y.keys))) := by
 refine yG zL Tryz.func93 rfl rfl rfl rfl rfl rfl ?_;intro w0 s0 mx;refine zJ 100 ?_;refine zB (zE zL [] 200 rfl ?_);refine zF ?_;refine xN _ (ContainsFuncW_ok h n y (fun k => decide (plI h y.keys k < 0)) x.keys fun k hx => withinC_ok h n y k hh g hy (hk k hx).1 (hk k hx).2) rfl rfl ?_;refine zF ?_;refine zC (zA (zM ?_));exact FinV.ret rfl (SubP.bool (by rw [wiB,List.all_eq_not_any_not];congr 2;funext k;rw [Bool.eq_iff_iff];simp))
variable {md me : Bool}
variable {md me : Bool}
theorem vok_int {v : Vl} (hv : qG v = true) (hk : v.k = 2) : jY v.nn v.nl = true := by
 unfold qG at hv;rw [if_neg (by omega),if_neg (by omega),if_pos hk,Bool.and_eq_true,Bool.and_eq_true,Bool.and_eq_true] at hv;exact hv.1.1.1
theorem fix_5 {o : Ob} {v : Vl} (hk : o.kind = 5) : fixV o v = v := by
 unfold fixV;split
 ·rename_i h;simp [hk] at h
 ·rfl
theorem rg_of {h : List Ob} (hh : HpIn h) (g : Uh h) {n : Int} (hn : jR h n = true) (hk : (yO h n).kind = 5) : RgO (yO h n) := by
 have hin := yV hn;have hlt : n.toNat < h.length := by have := hin;unfold inH at this;omega
 have h49 : 49 ≤ n.toNat := by
  rcases Nat.lt_or_ge n.toNat 49 with h1 | h1
  ·have e := g.lo_at h1;have e2 : yO h n = bgO n.toNat := e;rw [e2] at hk;exact absurd hk (by show ¬ (9 : Int) = 5;decide)
  ·exact h1
 have hu := g.hi_at h49 hlt;have e3 : yO h (n.toNat : Nat) = yO h n := rfl;rw [e3] at hu;have hO := hh.at n;have hV := qB0 hu.vals;have hS := (tZ0 hu.shape).1;rw [cnt5 hk] at hS;have hl : (yO h n).items.length = 3 := by omega
 have hr := hu.links;unfold jF at hr;rw [if_pos hk] at hr;unfold rngS at hr;rw [Bool.and_eq_true,decide_eq_true_eq,List.all_eq_true] at hr;have hit : ∀ j < 3,(yO h n).items.getD j vl0 ∈ (yO h n).items := fun j hj => by
  rw [List.getD_eq_getElem?_getD,List.getElem?_eq_getElem (by omega)];exact List.getElem_mem _
 have hrp : ∀ j < 3,((yO h n).items.getD j vl0).k = 2 ∧ ((yO h n).items.getD j vl0).nl.length ≤ 40 := fun j hj => by
  have := hr.1 _ (hit j hj);unfold rngP at this;rw [Bool.and_eq_true,decide_eq_true_eq,decide_eq_true_eq] at this;exact this
 have hok : ∀ j < 3,jY ((yO h n).items.getD j vl0).nn ((yO h n).items.getD j vl0).nl = true := fun j hj => by
  have := hV.ok _ (List.mem_append_right _ (hit j hj));rw [fix_5 hk] at this;exact vok_int this (hrp j hj).1
 have hlg : ∀ j < 3,Lg ((yO h n).items.getD j vl0).nl := fun j hj => (hO.iv _ (hit j hj)).nl;refine ⟨by omega,hO.il,fun j hj => (hrp j hj).2,hlg,hok,?_⟩;rcases Nat.eq_zero_or_pos (VL ((yO h n).items.getD 2 vl0).nl) with h0 | h0
 ·have e := (mA (hlg 2 (by decide)) (hok 2 (by decide))).1;rw [h0,qC] at e;rw [e] at hr;exact absurd hr.2 (by decide)
 ·exact h0
variable {md me : Bool}
def lsQ (F : Nat → Vl → Vl → QR) : List (Vl × Option Vl) → Nat → QR
 | [],n => some (true,n)
 | x :: l,n => match x.2 with
  | none => some (false,n)
  | some y => match F n x.1 y with
   | none => none
   | some r => if r.1 = true then lsQ F l r.2 else some (false,r.2)
def prL (a b : List Vl) : List (Vl × Option Vl) := (List.range a.length).map fun i => (a.getD i vl0,some (b.getD i vl0))
def prQ (F : Nat → Vl → Vl → QR) (a b : List Vl) (n : Nat) : QR := if a.length = b.length then lsQ F (prL a b) n else some (false,n)
def dcE (h : List Ob) (x y : Ob) (i : Nat) : Vl × Option Vl := (x.items.getD i vl0,if plI h y.keys (x.keys.getD i vl0) < 0 then none else some (y.items.getD (plI h y.keys (x.keys.getD i vl0)).toNat vl0))
def dcL (h : List Ob) (x y : Ob) : List (Vl × Option Vl) := (List.range x.keys.length).map (dcE h x y)
def dcQ (F : Nat → Vl → Vl → QR) (h : List Ob) (x y : Ob) (n : Nat) : QR := if x.keys.length = y.keys.length then lsQ F (dcL h x y) n else some (false,n)
def rgE (x y : Ob) : Bool := rgQ (ZI (rgO x).sa (rgO x).na) (ZI (rgO x).sb (rgO x).nb) (ZI (rgO x).sc (rgO x).nc) (ZI (rgO y).sa (rgO y).na) (ZI (rgO y).sb (rgO y).nb) (ZI (rgO y).sc (rgO y).nc)
def obQ (F : Nat → Vl → Vl → QR) (h : List Ob) (x y : Ob) (n : Nat) : QR :=
 if ¬ x.kind = y.kind then some (false,n)
 else if x.kind = 1 ∨ x.kind = 2 then prQ F x.items y.items n
 else if x.kind = 3 then dcQ F h x y n
 else if x.kind = 4 then some (decide (x.keys.length = y.keys.length) && wiB h x.keys y.keys,n)
 else if x.kind = 5 then some (rgE x y,n)
 else some (false,n)
def eqP (F : Nat → Vl → Vl → QR) (h : List Ob) (n : Nat) (a b : Vl) : QR := if n = 0 then none else if a = b then some (true,n - 1) else obQ F h (zY h a) (zY h b) (n - 1)
def eqS (h : List Ob) : Nat → Nat → Vl → Vl → QR
 | 0 => fun _ _ _ => none
 | f + 1 => fun n a b => eqP (eqS h f) h n a b
def LeQ (F : Nat → Vl → Vl → QR) : Prop := ∀ n x y r,F n x y = some r → r.2 ≤ n
theorem cG0 {F : Nat → Vl → Vl → QR} (hF : LeQ F) : ∀ (l : List (Vl × Option Vl)) (n : Nat) (r : Bool × Nat),lsQ F l n = some r → r.2 ≤ n
 | [],n,r,h => by cases h;exact Nat.le_refl _
 | (x,none) :: l,n,r,h => by cases h;exact Nat.le_refl _
 | (x,some y) :: l,n,r,h => by
  simp only [lsQ] at h
  cases hF1 : F n x y with
  | none => rw [hF1] at h;cases h
  | some q =>
   rw [hF1] at h;have h1 := hF _ _ _ _ hF1;simp only at h;split at h
   ·have := cG0 hF l q.2 r h;omega
   ·cases h;exact h1
theorem ob_le {F : Nat → Vl → Vl → QR} (hF : LeQ F) {h : List Ob} {x y : Ob} {n : Nat} {r : Bool × Nat} (e : obQ F h x y n = some r) : r.2 ≤ n := by
 unfold obQ at e;split at e
 ·cases e;exact Nat.le_refl _
 ·split at e
  ·unfold prQ at e;split at e
   ·exact cG0 hF _ _ _ e
   ·cases e;exact Nat.le_refl _
  ·split at e
   ·unfold dcQ at e;split at e
    ·exact cG0 hF _ _ _ e
    ·cases e;exact Nat.le_refl _
   ·split at e
    ·cases e;exact Nat.le_refl _
    ·split at e <;> (cases e;exact Nat.le_refl _)
theorem eqP_le {F : Nat → Vl → Vl → QR} (hF : LeQ F) (h : List Ob) : LeQ (eqP F h) := by
 intro n a b r e;unfold eqP at e;split at e
 ·cases e
 ·split at e
  ·cases e;exact Nat.sub_le _ _
  ·have := ob_le hF e;omega
theorem cX (h : List Ob) : ∀ f,LeQ (eqS h f)
 | 0 => fun _ _ _ _ e => by cases e
 | f + 1 => eqP_le (cX h f) h
structure Lq (F : Nat → Vl → Vl → QR) (l : List (Vl × Option Vl)) (n : Nat) where
 k : Nat
 m : Nat
 le : k ≤ l.length
 hm : m ≤ n
 eq : lsQ F (l.drop k) m = lsQ F l n
section
variable {F : Nat → Vl → Vl → QR} {l : List (Vl × Option Vl)} {n : Nat}
theorem Lq.at (x : Lq F l n) {v : Vl} {w : Option Vl} (hg : l[x.k]? = some (v,w)) : lsQ F l n = lsQ F ((v,w) :: l.drop (x.k + 1)) x.m := by
 rw [← x.eq,List.drop_eq_getElem_cons (List.getElem?_eq_some_iff.1 hg).1,(List.getElem?_eq_some_iff.1 hg).2]
theorem Lq.pan (x : Lq F l n) {v w : Vl} (hg : l[x.k]? = some (v,some w)) (hr : F x.m v w = none) : lsQ F l n = none := by
 rw [x.at hg];simp only [lsQ,hr]
theorem Lq.no (x : Lq F l n) {v w : Vl} (hg : l[x.k]? = some (v,some w)) {m2 : Nat} (hr : F x.m v w = some (false,m2)) : lsQ F l n = some (false,m2) := by
 rw [x.at hg];simp only [lsQ,hr];rfl
theorem Lq.non (x : Lq F l n) {v : Vl} (hg : l[x.k]? = some (v,none)) : lsQ F l n = some (false,x.m) := by
 rw [x.at hg];rfl
def Lq.next (x : Lq F l n) (hF : LeQ F) {v w : Vl} (hg : l[x.k]? = some (v,some w)) {m2 : Nat} (hr : F x.m v w = some (true,m2)) : Lq F l n :=
 ⟨x.k + 1,m2,(List.getElem?_eq_some_iff.1 hg).1,by have := hF _ _ _ _ hr;have := x.hm;simp only at *;omega,by rw [x.at hg];simp only [lsQ,hr];rfl⟩
theorem Lq.fin (x : Lq F l n) (h : ¬ x.k < l.length) : lsQ F l n = some (true,x.m) := by
 rw [← x.eq,List.drop_of_length_le (by omega)];rfl
end
theorem kS0 (a b : List Vl) : (prL a b).length = a.length := by simp [prL]
theorem wL0 (a b : List Vl) {k : Nat} (h : k < a.length) : (prL a b)[k]? = some (a.getD k vl0,some (b.getD k vl0)) := by simp [prL,h]
theorem pJ0 (h : List Ob) (x y : Ob) : (dcL h x y).length = x.keys.length := by simp [dcL]
theorem xS0 (h : List Ob) (x y : Ob) {k : Nat} (hk : k < x.keys.length) : (dcL h x y)[k]? = some (dcE h x y k) := by simp [dcL,hk]
theorem vJ {r : QR} {a : Bool × Nat} (h : r = some a) : qE r = .ok a := by rw [h];rfl
theorem kQ {r : QR} (h : r = none) : qE r = .error (gY 42 tD) := by rw [h];rfl
theorem vI (h : List Ob) (n : Nat) (a b : List Vl) (F : Nat → Vl → Vl → QR) (ha : a.length ≤ 1000) (hF : LeQ F) (H : ∀ m,m ≤ n → ∀ x ∈ a,∀ y ∈ b,FnQ Tryz.prog 32 [.bp 0 0,.agg (vlD x),.agg (vlD y)] (cqO md h m) (qE (F m x y)) qB (qO md h) (.v (.bool false))) : FnQ Tryz.prog 91 [vsD a,vsD b,.clo (1000000 + 32) [.bp 0 0]] (cqO md h n) (qE (prQ F a b n)) qB (qO md h) (.v (.bool false)) := by
 refine pY zL Tryz.func91 rfl rfl rfl rfl rfl rfl (fun _ => rfl) rfl ?_;intro w0 s0 mx;refine zJ 100 ?_;refine zB (zJ 200 ?_);refine zT rfl (fun c1 => ?_) (fun c1 => ?_)
 ·replace c1 : ¬ a.length = b.length := by simp at c1;omega
  refine zJ 300 ?_;refine zM (zO ?_);exact FinQ.of (false,n) (vJ (by rw [prQ,if_neg c1])) (FinH.ret 1 rfl rfl (Sub.refl _) ⟨⟨rfl,Sub.refl _,rfl,Sub.refl _,rfl,trivial⟩,trivial⟩)
 ·replace c1 : a.length = b.length := by simp at c1;omega
  refine zK (zA (zB (zJ 400 ?_)));refine zP ?_;refine yB (ι := Lq F (prL a b) n) [1,2,15,16] [] 450 (fun x => [(17,.v (.int .i64 x.k))]) (fun x => [(0,.box 111 [.sl md 10 h obD ob0,.v (.int .i64 x.m)])]) (fun x => a.length - x.k) ⟨0,n,Nat.zero_le _,Nat.le_refl _,rfl⟩ ?_;refine ⟨⟨yL,⟨⟨rfl,Sub.refl _,rfl,Sub.int rfl,rfl,trivial⟩,yI⟩,rfl,rfl⟩,fun x => ?_⟩;have hxl := x.le;rw [kS0] at hxl;refine zJ 500 ?_;refine zB (zT rfl (fun c4 => ?_) (fun c4 => ?_))
  ·have c4 : x.k < a.length := by simpa using c4
   have hlb : x.k < b.length := by omega
   refine zK (zA (zB (zP (zJ 600 ?_))));refine zJ 700 ?_;rcases hr : F x.m (a.getD x.k vl0) (b.getD x.k vl0) with _ | ⟨bb,m2⟩
   ·refine zB (zE zL [1029] 800 rfl ?_);refine zF ?_;refine uS _ _ ((H x.m x.hm _ (by rw [qS c4];exact List.getElem_mem _) _ (by rw [qS hlb];exact List.getElem_mem _)).no (kQ hr)) (FinQ.pan (kQ (by rw [prQ,if_pos c1];exact x.pan (wL0 a b c4) hr))) rfl ?_;refine zF ?_;refine zC (zA ?_);exact uN 0
   ·refine zB (zE zL [1029] 800 rfl ?_);refine zF ?_;refine jO _ _ ((H x.m x.hm _ (by rw [qS c4];exact List.getElem_mem _) _ (by rw [qS hlb];exact List.getElem_mem _)).yes (vJ hr)) rfl ?_;refine zF ?_;refine zC (zA (zX (fun c7 => ?_) (fun c7 => ?_)))
    ·
     refine zJ 900 ?_;refine zM (zQ (zO (yK (zQ (zO ?_)))));have hb : bb = false := by simpa [qB] using c7
     subst hb;exact FinQ.of (false,m2) (vJ (by rw [prQ,if_pos c1];exact x.no (wL0 a b c4) hr)) (FinH.ret 1 rfl rfl (Sub.refl _) ⟨⟨rfl,Sub.refl _,rfl,Sub.refl _,rfl,trivial⟩,trivial⟩)
    ·
     refine zK (zN (zA (yN zL [] 1000 ?_)));have hb : bb = true := by simpa [qB] using c7
     subst hb;exact zS (x.next hF (wL0 a b c4) hr) ⟨⟨Sub.int (by show (x.k : Int) + 1 = ((x.k + 1 : Nat) : Int);push_cast;rfl),yL⟩,⟨⟨rfl,Sub.refl _,rfl,Sub.int rfl,rfl,trivial⟩,yI⟩,rfl,rfl⟩ (by show a.length - (x.k + 1) < a.length - x.k;omega)
  ·have c4 : ¬ x.k < a.length := by simpa using c4
   refine yF (zZ (yA (zW (zA (zJ 1100 ?_)))));refine zM ?_;exact FinQ.of (true,x.m) (vJ (by rw [prQ,if_pos c1];exact x.fin (by rw [kS0];exact c4))) (FinH.ret 1 rfl rfl (Sub.refl _) ⟨⟨rfl,Sub.refl _,rfl,Sub.refl _,rfl,trivial⟩,trivial⟩)
variable {md me : Bool}
theorem tri (p : Prop) (o : QR) : p ∨ (¬ p ∧ o = none) ∨ ∃ bb m2,¬ p ∧ o = some (bb,m2) := by
 by_cases hp : p
 ·exact .inl hp
 ·match o with
  | none => exact .inr (.inl ⟨hp,rfl⟩)
  | some (bb,m2) => exact .inr (.inr ⟨bb,m2,hp,rfl⟩)
set_option maxHeartbeats 1000000 in
theorem xR0 (h : List Ob) (n : Nat) (p q : Ob) (F : Nat → Vl → Vl → QR) (hh : HpIn h) (g : Uh h) (kp : Kd h p.keys) (kq : Kd h q.keys) (hp1 : p.items.length = p.keys.length) (hq1 : q.items.length = q.keys.length) (hl : p.keys.length ≤ 1000) (hF : LeQ F) (H : ∀ m,m ≤ n → ∀ x ∈ p.items,∀ y ∈ q.items,FnQ Tryz.prog 32 [.bp 0 0,.agg (vlD x),.agg (vlD y)] (cqO md h m) (qE (F m x y)) qB (qO md h) (.v (.bool false))) : FnQ Tryz.prog 92 [.bp 0 0,.agg (obD p),.agg (obD q)] (cqO md h n) (qE (dcQ F h p q n)) qB (qO md h) (.v (.bool false)) := by
 refine pY zL Tryz.func92 rfl rfl rfl rfl rfl rfl (fun _ => rfl) rfl ?_;intro w0 s0 mx;refine zJ 100 ?_;refine zB (zJ 200 ?_);refine zT rfl (fun c1 => ?_) (fun c1 => ?_)
 ·replace c1 : ¬ p.keys.length = q.keys.length := by simp at c1;omega
  refine zJ 300 ?_;refine zM (zO ?_);exact FinQ.of (false,n) (vJ (by rw [dcQ,if_neg c1])) (FinH.ret 1 rfl rfl (Sub.refl _) ⟨⟨rfl,Sub.refl _,rfl,Sub.refl _,rfl,trivial⟩,trivial⟩)
 ·replace c1 : p.keys.length = q.keys.length := by simp at c1;omega
  refine zK (zA (zB (zJ 400 ?_)));refine zP ?_;refine yB (ι := Lq F (dcL h p q) n) [0,4,5,18,19] [1,2] 450 (fun x => [(20,.v (.int .i64 x.k))]) (fun x => [(0,.box 111 [.sl md 10 h obD ob0,.v (.int .i64 x.m)])]) (fun x => p.keys.length - x.k) ⟨0,n,Nat.zero_le _,Nat.le_refl _,rfl⟩ ?_;refine ⟨⟨yL,⟨⟨rfl,Sub.refl _,rfl,Sub.int rfl,rfl,trivial⟩,yI⟩,rfl,rfl⟩,fun x => ?_⟩;have hxl := x.le;rw [pJ0] at hxl;refine zJ 500 ?_;refine zB (zT rfl (fun c4 => ?_) (fun c4 => ?_))
  ·have c4 : x.k < p.keys.length := by simpa using c4
   have hpk : 0 ≤ (plI h q.keys (p.keys.getD x.k vl0)) → (plI h q.keys (p.keys.getD x.k vl0)).toNat < q.keys.length := fun h0 => (bS h0).1;refine zK (zA (zB (zP (zJ 600 ?_))));refine zB (zE zL [] 700 rfl ?_);refine zF ?_;refine xN _ (qP0 h x.m q.keys (p.keys.getD x.k vl0) hh g (kp.keyed _ (gS c4)) (kp.vd _ (gS c4)) kq.vd) rfl rfl ?_;refine zF ?_;refine zC (zA ?_);rcases tri ((plI h q.keys (p.keys.getD x.k vl0)) < 0) (F x.m (p.items.getD x.k vl0) (q.items.getD (plI h q.keys (p.keys.getD x.k vl0)).toNat vl0)) with hp | ⟨hp0,hr⟩ | ⟨bb,m2,hp0,hr⟩
   ·refine zB (yD zL [1044] mK4 800 yU (by kernel_rfl) rfl ?_);refine zF ?_;refine vC (fun hs => absurd hs (by rw [decide_eq_true hp];decide)) (fun _ => ?_);refine zF ?_;refine vC (fun hs => absurd hs (by rw [decide_eq_true hp];decide)) (fun _ => ?_);refine zF ?_;refine vC (fun _ => ?_) (fun hs => absurd hs (by rw [decide_eq_true hp];decide));refine zF ?_;refine zC (zA (zX (fun c7 => ?_) (fun c7 => ?_)))
    ·
     refine zJ 900 ?_;refine zM (zQ (zO (yK (zQ (zO ?_)))));exact FinQ.of (false,x.m) (vJ (by rw [dcQ,if_pos c1];exact x.non (by rw [xS0 h p q c4,dcE,if_pos hp]))) (FinH.ret 1 rfl rfl (Sub.refl _) ⟨⟨rfl,Sub.refl _,rfl,Sub.refl _,rfl,trivial⟩,trivial⟩)
    ·
     cases c7
   ·refine zB (yD zL [1044] mK4 800 yU (by kernel_rfl) rfl ?_);refine zF ?_;refine vC (fun _ => ?_) (fun hs => absurd hs (by rw [decide_eq_false hp0];decide));refine zF ?_;refine uS _ _ ((H x.m x.hm _ (by first | exact gS (by omega) | (rw [qS (by omega)];exact List.getElem_mem _)) _ (by first | exact gS (by omega) | (rw [qS (by omega)];exact List.getElem_mem _))).no (kQ hr)) (FinQ.pan (kQ (by rw [dcQ,if_pos c1];exact x.pan (by rw [xS0 h p q c4,dcE,if_neg (by omega)]) hr))) rfl ?_;refine zF ?_;refine zC (zA ?_);exact uN 0
   ·refine zB (yD zL [1044] mK4 800 yU (by kernel_rfl) rfl ?_);refine zF ?_;refine vC (fun _ => ?_) (fun hs => absurd hs (by rw [decide_eq_false hp0];decide));refine zF ?_;refine jO _ _ ((H x.m x.hm _ (by first | exact gS (by omega) | (rw [qS (by omega)];exact List.getElem_mem _)) _ (by first | exact gS (by omega) | (rw [qS (by omega)];exact List.getElem_mem _))).yes (vJ hr)) rfl ?_;refine zF ?_;refine zC (zA (zX (fun c7 => ?_) (fun c7 => ?_)))
    ·
     refine zJ 900 ?_;refine zM (zQ (zO (yK (zQ (zO ?_)))));have hb : bb = false := by
      rcases c7 with h9 | h9
      ·exact absurd h9 hp0
      ·simpa [qB] using h9
     subst hb;exact FinQ.of (false,m2) (vJ (by rw [dcQ,if_pos c1];exact x.no (by rw [xS0 h p q c4,dcE,if_neg (by omega)]) hr)) (FinH.ret 1 rfl rfl (Sub.refl _) ⟨⟨rfl,Sub.refl _,rfl,Sub.refl _,rfl,trivial⟩,trivial⟩)
    ·
     refine zK (zN (zA (yN zL [] 1000 ?_)));have hb : bb = true := by simpa [qB] using c7.2
     subst hb;exact zS (x.next hF (by rw [xS0 h p q c4,dcE,if_neg (by omega)]) hr) ⟨⟨Sub.int (by show (x.k : Int) + 1 = ((x.k + 1 : Nat) : Int);push_cast;rfl),yL⟩,⟨⟨rfl,Sub.refl _,rfl,Sub.int rfl,rfl,trivial⟩,yI⟩,rfl,rfl⟩ (by show p.keys.length - (x.k + 1) < p.keys.length - x.k;omega)
  ·have c4 : ¬ x.k < p.keys.length := by simpa using c4
   refine yF (zZ (yA (zW (zA (zJ 1100 ?_)))));refine zM ?_;exact FinQ.of (true,x.m) (vJ (by rw [dcQ,if_pos c1];exact x.fin (by rw [pJ0];exact c4))) (FinH.ret 1 rfl rfl (Sub.refl _) ⟨⟨rfl,Sub.refl _,rfl,Sub.refl _,rfl,trivial⟩,trivial⟩)
theorem uG {h : List Ob} (g : Uh h) {v : Vl} (hv : v.k = 6 → jR h v.r = true) (hk : (zY h v).kind ≠ 6 ∧ (zY h v).kind ≠ 17) {x : Vl} (hx : x ∈ (zY h v).items) : Vd h x := by
 by_cases h0 : (zY h v).kind = 0
 ·by_cases h6 : v.k = 6
  ·rw [uS0 hv h6] at h0;have := g.kind (hv h6);omega
  ·rw [uR0 h6] at hx;exact absurd hx (by show ¬ x ∈ ([] : List Vl);simp)
 ·obtain ⟨h6,ho,e⟩ := gZ h0;rw [e] at hk hx;refine ⟨?_,mL0 g ho hx⟩;have hin := yV ho;by_cases h49 : v.r.toNat < 49
  ·rw [show yO h v.r = bgO v.r.toNat from g.lo_at h49] at hx;exact absurd hx (by show ¬ x ∈ ([] : List Vl);simp)
  ·have e2 : qG (fixV (yO h ((v.r.toNat : Nat) : Int)) x) = true := (qB0 (g.hi_at (by omega) hin.2).vals).ok x (List.mem_append.2 (.inr hx));rw [← kT hin] at e2
   rwa [fixV,if_neg (by rintro ⟨_,h2 | h2⟩;exact hk.1 h2;exact hk.2 h2)] at e2
theorem rg_S {h : List Ob} (hh : HpIn h) (g : Uh h) {v : Vl} (hv : v.k = 6 → jR h v.r = true) (hk : (zY h v).kind = 5) : RgO (zY h v) := by
 obtain ⟨h6,ho,e⟩ := gZ (h := h) (v := v) (by omega);rw [e] at hk ⊢;exact rg_of hh g ho hk
theorem zV1 {F : Nat → Vl → Vl → QR} {h : List Ob} {n : Nat} {a b : Vl} (h0 : n = 0) : eqP F h n a b = none := if_pos h0
theorem dR0 {F : Nat → Vl → Vl → QR} {h : List Ob} {n : Nat} {a b : Vl} (h0 : ¬ n = 0) (h1 : a = b) : eqP F h n a b = some (true,n - 1) := (if_neg h0).trans (if_pos h1)
theorem pL {F : Nat → Vl → Vl → QR} {h : List Ob} {n : Nat} {a b : Vl} (h0 : ¬ n = 0) (h1 : ¬ a = b) : eqP F h n a b = obQ F h (zY h a) (zY h b) (n - 1) := (if_neg h0).trans (if_neg h1)
section
variable {F : Nat → Vl → Vl → QR} {h : List Ob} {x y : Ob} {n : Nat}
theorem zM1 (c : ¬ x.kind = y.kind) : obQ F h x y n = some (false,n) := if_pos c
theorem mC0 (c : x.kind = y.kind) (d : x.kind = 1 ∨ x.kind = 2) : obQ F h x y n = prQ F x.items y.items n := (if_neg (by omega)).trans (if_pos d)
theorem ob_3 (c : x.kind = y.kind) (d : x.kind = 3) : obQ F h x y n = dcQ F h x y n := (if_neg (by omega)).trans ((if_neg (by omega)).trans (if_pos d))
theorem ob_4 (c : x.kind = y.kind) (d : x.kind = 4) : obQ F h x y n = some (decide (x.keys.length = y.keys.length) && wiB h x.keys y.keys,n) := (if_neg (by omega)).trans ((if_neg (by omega)).trans ((if_neg (by omega)).trans (if_pos d)))
theorem ob_5 (c : x.kind = y.kind) (d : x.kind = 5) : obQ F h x y n = some (rgE x y,n) := (if_neg (by omega)).trans ((if_neg (by omega)).trans ((if_neg (by omega)).trans ((if_neg (by omega)).trans (if_pos d))))
theorem ob_x (c : x.kind = y.kind) (d : ¬ (x.kind = 1 ∨ x.kind = 2) ∧ ¬ x.kind = 3 ∧ ¬ x.kind = 4 ∧ ¬ x.kind = 5) : obQ F h x y n = some (false,n) := (if_neg (by omega)).trans ((if_neg d.1).trans ((if_neg d.2.1).trans ((if_neg d.2.2.1).trans (if_neg d.2.2.2))))
end
set_option maxHeartbeats 2000000 in
theorem cV (h : List Ob) (n : Nat) (a b : Vl) (F : Nat → Vl → Vl → QR) (hn : n ≤ 10000) (hh : HpIn h) (g : Uh h) (hva : Vd h a) (hvb : Vd h b) (hF : LeQ F) (H : ∀ m,m < n → ∀ x y,Vd h x → Vd h y → FnQ Tryz.prog 32 [.bp 0 0,.agg (vlD x),.agg (vlD y)] (cqO md h m) (qE (F m x y)) qB (qO md h) (.v (.bool false))) : FnQ Tryz.prog 32 [.bp 0 0,.agg (vlD a),.agg (vlD b)] (cqO md h n) (qE (eqP F h n a b)) qB (qO md h) (.v (.bool false)) := by
 refine pY zL Tryz.func32 rfl rfl rfl rfl rfl rfl (fun _ => rfl) rfl ?_;intro w0 s0 mx;refine zJ 100 ?_;by_cases c0 : n = 0
 ·refine zB (zE zL [1012] 200 rfl ?_);refine zF ?_;refine uS _ _ ((zP0 h n hn).no (if_pos c0)) (FinQ.pan (kQ (zV1 c0))) rfl ?_;refine zF ?_;refine zC (zA ?_);exact uN 0
 ·refine zB (zE zL [1012] 200 rfl ?_);refine zF ?_;refine jO _ _ ((zP0 h n hn).yes (if_neg c0)) rfl ?_;refine zF ?_;refine zC (zA (zB ?_));refine zB (zE zL [] 300 rfl ?_);refine zF ?_;refine zR _ (xI a b) rfl ?_;refine zF ?_;refine zC (zA (zT rfl (fun c2 => ?_) (fun c2 => ?_)))
  ·have c2 : a = b := by simpa using c2
   refine zJ 400 ?_;refine zM (zO ?_);exact FinQ.of (true,n - 1) (vJ (dR0 c0 c2)) (FinH.ret 1 rfl rfl (Sub.refl _) ⟨⟨rfl,Sub.refl _,rfl,Sub.refl _,rfl,trivial⟩,trivial⟩)
  ·have c2 : ¬ a = b := by simpa using c2
   refine zK (zA ?_);refine zB (yD zL [] mK8 500 yU (by kernel_rfl) rfl ?_);refine zF ?_;refine zR _ (vY h a hva.2) rfl ?_;refine zF ?_;refine zR _ (vY h b hvb.2) rfl ?_;refine zF ?_;refine zC (zA (zB (zJ 600 ?_)));refine zT rfl (fun c5 => ?_) (fun c5 => ?_)
   ·have c5 : ¬ (zY h a).kind = (zY h b).kind := by simpa using c5
    refine zJ 700 ?_;refine zM (zO ?_);exact FinQ.of (false,n - 1) (vJ (by rw [pL c0 c2,zM1 c5])) (FinH.ret 1 rfl rfl (Sub.refl _) ⟨⟨rfl,Sub.refl _,rfl,Sub.refl _,rfl,trivial⟩,trivial⟩)
   ·have c5 : (zY h a).kind = (zY h b).kind := by simpa using c5
    refine zK (zA (zB (zJ 800 ?_)));refine zP (zB (zJ 900 ?_));refine zX (fun c8 => ?_) (fun c8 => ?_)
    ·
     refine zK (zA (zX (fun c8x => ?_) (fun c8x => ?_)))
     ·
      rcases hr : prQ F (zY h a).items (zY h b).items (n - 1) with _ | ⟨bb,m2⟩
      ·refine zB (zE zL [1044] 1100 rfl ?_);refine zF ?_;refine uS _ _ ((vI h (n - 1) (zY h a).items (zY h b).items F (jX g a).2 hF fun m hm x hx y hy => H m (by omega) x y (uG g hva.2 (by omega) hx) (uG g hvb.2 (by omega) hy)).no (kQ hr)) (FinQ.pan (kQ (by rw [pL c0 c2,mC0 c5 (by omega)];exact hr))) rfl ?_;refine zF ?_;refine zC (zA ?_);exact uN 0
      ·refine zB (zE zL [1044] 1100 rfl ?_);refine zF ?_;refine jO _ _ ((vI h (n - 1) (zY h a).items (zY h b).items F (jX g a).2 hF fun m hm x hx y hy => H m (by omega) x y (uG g hva.2 (by omega) hx) (uG g hvb.2 (by omega) hy)).yes (vJ hr)) rfl ?_;refine zF ?_;refine zC (zA (zM (zQ (zO ?_))));exact FinQ.of (bb,m2) (vJ (by rw [pL c0 c2,mC0 c5 (by omega)];exact hr)) (FinH.ret 1 rfl rfl (Sub.refl _) ⟨⟨rfl,Sub.refl _,rfl,Sub.refl _,rfl,trivial⟩,trivial⟩)
     ·
      simp_all
    ·
     refine yN zL [] 1000 ?_;refine zA (zX (fun c9 => ?_) (fun c9 => ?_))
     ·
      rcases hr : prQ F (zY h a).items (zY h b).items (n - 1) with _ | ⟨bb,m2⟩
      ·refine zB (zE zL [1044] 1100 rfl ?_);refine zF ?_;refine uS _ _ ((vI h (n - 1) (zY h a).items (zY h b).items F (jX g a).2 hF fun m hm x hx y hy => H m (by omega) x y (uG g hva.2 (by omega) hx) (uG g hvb.2 (by omega) hy)).no (kQ hr)) (FinQ.pan (kQ (by rw [pL c0 c2,mC0 c5 (by omega)];exact hr))) rfl ?_;refine zF ?_;refine zC (zA ?_);exact uN 0
      ·refine zB (zE zL [1044] 1100 rfl ?_);refine zF ?_;refine jO _ _ ((vI h (n - 1) (zY h a).items (zY h b).items F (jX g a).2 hF fun m hm x hx y hy => H m (by omega) x y (uG g hva.2 (by omega) hx) (uG g hvb.2 (by omega) hy)).yes (vJ hr)) rfl ?_;refine zF ?_;refine zC (zA (zM (zQ (zO ?_))));exact FinQ.of (bb,m2) (vJ (by rw [pL c0 c2,mC0 c5 (by omega)];exact hr)) (FinH.ret 1 rfl rfl (Sub.refl _) ⟨⟨rfl,Sub.refl _,rfl,Sub.refl _,rfl,trivial⟩,trivial⟩)
     ·
      refine zJ 1200 ?_;refine zX (fun c11 => ?_) (fun c11 => ?_)
      ·
       rcases hr : dcQ F h (zY h a) (zY h b) (n - 1) with _ | ⟨bb,m2⟩
       ·refine zB (zE zL [1050] 1300 rfl ?_);refine zF ?_;refine uS _ _ ((xR0 h (n - 1) (zY h a) (zY h b) F hh g (tF g hva.2 (.inl (by omega))) (tF g hvb.2 (.inl (by omega))) (dY g (by omega)) (dY g (by omega)) (jX g a).1 hF fun m hm x hx y hy => H m (by omega) x y (uG g hva.2 (by omega) hx) (uG g hvb.2 (by omega) hy)).no (kQ hr)) (FinQ.pan (kQ (by rw [pL c0 c2,ob_3 c5 (by omega)];exact hr))) rfl ?_;refine zF ?_;refine zC (zA ?_);exact uN 0
       ·refine zB (zE zL [1050] 1300 rfl ?_);refine zF ?_;refine jO _ _ ((xR0 h (n - 1) (zY h a) (zY h b) F hh g (tF g hva.2 (.inl (by omega))) (tF g hvb.2 (.inl (by omega))) (dY g (by omega)) (dY g (by omega)) (jX g a).1 hF fun m hm x hx y hy => H m (by omega) x y (uG g hva.2 (by omega) hx) (uG g hvb.2 (by omega) hy)).yes (vJ hr)) rfl ?_;refine zF ?_;refine zC (zA (zM (zQ (zO ?_))));exact FinQ.of (bb,m2) (vJ (by rw [pL c0 c2,ob_3 c5 (by omega)];exact hr)) (FinH.ret 1 rfl rfl (Sub.refl _) ⟨⟨rfl,Sub.refl _,rfl,Sub.refl _,rfl,trivial⟩,trivial⟩)
      ·
       refine zJ 1400 ?_;refine zX (fun c13 => ?_) (fun c13 => ?_)
       ·
        refine zB (zE zL [] 1500 rfl ?_);refine zF ?_;refine wG0 _ (fun hg11 => cF h (n - 1) (zY h a) (zY h b) hh g (tF g hvb.2 (.inr (by omega))).vd (fun k hk => ⟨(tF g hva.2 (.inr (by omega))).keyed k hk,(tF g hva.2 (.inr (by omega))).vd k hk⟩)) rfl rfl ?_;refine zF ?_;refine zC (zA (zM (zQ (zO ?_))));exact FinQ.of (decide ((zY h a).keys.length = (zY h b).keys.length) && wiB h (zY h a).keys (zY h b).keys,n - 1) (vJ (by rw [pL c0 c2,ob_4 c5 (by omega)])) (FinH.ret 1 rfl rfl (Sub.bool (by rw [Bool.eq_iff_iff];simp;intro _;omega)) ⟨⟨rfl,Sub.refl _,rfl,Sub.refl _,rfl,trivial⟩,trivial⟩)
       ·
        refine zJ 1600 ?_;refine zX (fun c15 => ?_) (fun c15 => ?_)
        ·
         have hra : RgO (zY h a) := rg_S hh g hva.2 (by omega);have hrb : RgO (zY h b) := rg_S hh g hvb.2 (by omega);refine zB (yD zL [] [[],[0],[],[0,1,2],[0,1,2,3],(rgN 5),(rgN 6),(rgN 6),[],[0,1,2,3,4,5,6,8],(rgN 10)] 1700 yU (by kernel_rfl) rfl ?_);refine zF ?_;refine zR _ (mH (zY h a) hra) rfl ?_;refine zF ?_;refine zR _ (mH (zY h b) hrb) rfl ?_;refine zF ?_;refine zR _ ((by rw [RgO.dat hra,RgO.dat hrb];exact rgSame_ok _ _ _ _ _ _ hra.siz.1 hra.siz.2.1 hra.siz.2.2.1 hra.siz.2.2.2 hrb.siz.1 hrb.siz.2.1 hrb.siz.2.2.1 hrb.siz.2.2.2)) rfl ?_;refine zF ?_;refine zC (zA (zJ 1800 ?_));refine zM (zQ (zO ?_));exact FinQ.of (rgE (zY h a) (zY h b),n - 1) (vJ (by rw [pL c0 c2,ob_5 c5 (by omega)])) (FinH.ret 1 rfl rfl (Sub.refl _) ⟨⟨rfl,Sub.refl _,rfl,Sub.refl _,rfl,trivial⟩,trivial⟩)
        ·
         refine zK (zN (zA (zJ 1900 ?_)));refine zM ?_;exact FinQ.of (false,n - 1) (vJ (by rw [pL c0 c2,ob_x c5 (by omega)])) (FinH.ret 1 rfl rfl (Sub.refl _) ⟨⟨rfl,Sub.refl _,rfl,Sub.refl _,rfl,trivial⟩,trivial⟩)
theorem wp_mono2 {P : Program} {o : Oper} {a : Act} {w : World} {K K' : Act → World → Prop} {Q Q' : Exit → Act → World → Prop} (hK : ∀ a w,K a w → K' a w) (hQ : ∀ e a w,e ≠ .normal → Q e a w → Q' e a w) (h : o.wp P a w K Q) : o.wp P a w K' Q' := by
 unfold Oper.wp at *;generalize (execOp a.eval o).run P w = r at *;unfold Oper.upon at *;split at h
 ·exact hK _ _ h
 ·exact hK _ _ h
 ·exact hK _ _ h
 ·refine Calls.mono h ?_;intro e w'' he
  cases e with
  | returned v => exact hK _ _ he
  | panicked ch => exact hQ _ _ _ (by intro h;cases h) he
  | outgrown => obtain ⟨a0,w0,h0⟩ := he;exact ⟨a0,w0,hQ _ _ _ (by intro h;cases h) h0⟩
 ·exact Rows.mono h fun v w'' => hK _ _
 ·exact hQ _ _ _ (by intro h;cases h) h
 ·exact h
theorem mP {P : Program} {ops : Array Oper} {Q : Exit → Act → World → Prop} : ∀ {l1 l2 : List Oper} {a : Act} {w : World},wpList P ops (Exit.then (fun a w => wpList P ops Q l2 a w) Q) l1 a w → wpList P ops Q (l1 ++ l2) a w
 | [],_,_,_,h => h
 | o :: l1,l2,a,w,h => by
  rw [List.cons_append];unfold wpList at h ⊢;by_cases hw : Region.wanted o (yielded ops a.tmps) = true
  ·rw [if_pos hw] at h ⊢;refine h.imp (wp_mono2 (fun a w => mP) fun e a w hne hq => ?_) (And.imp id fun ⟨a0,w0,h0⟩ => ⟨a0,w0,h0⟩)
   cases e <;> first | exact absurd rfl hne | exact hq
  ·rw [if_neg hw] at h ⊢;exact mP h
theorem uM0 {P : Program} {T : List (Nat × TI)} (hT : wE P T = true) (fls : List Nat) {ops l1 l2 : List Oper} {b : Ba} {tm : List (Nat × D)} {ow : List (Nat × DOwn)} {nx0 : Nat} (nx1 : Nat) (K : DS → Prop) {Q : Exit → Act → World → Prop} {w : World} {s : Sb} {g : Gh} {a : Act} (hr : Rel b w s g (DS.ste ⟨tm,ow,nx0⟩) a) (hn : Nat.ble (nx0 + l1.length) nx1 = true)
  (h : (yI0 T fls ops none b.sz nx0 nx1 l1 nat0 tm ow []).sat P (fun _ => False) K) (hQ : ∀ w' s' g' a' S',Rel b w' s' g' (DS.ste S') a' → K S' → wpList P ops.toArray Q l2 a' w') : wpList P ops.toArray Q (l1 ++ l2) a w := by
 refine mP ?_;obtain ⟨rows,tm',ow',h1,h2,_⟩ := wL hT uT0 h;refine Tr.run _ h1 (fun w' s' g' a' hR => ?_) (fun ch w' s' g' a' hch _ => hch.elim) w s g a hr.toF;exact hQ w' s' g' a' ⟨tm',ow',nx1⟩ (RelF.toRel hR (fun t d hd => hd) (fun k c hk => hk) (fun k hk => by have := Nat.le_of_ble_eq_true hn;have hk' : nx1 ≤ k := hk;omega)) h2
theorem Rel.past {b : Ba} {w w' : World} {s s' : Sb} {g : Gh} {S : Ste} {a : Act} {acc : List (Nat × Own)} (h : Rel b w s g S a) (hp : Pst w s g acc w' s') (ha : ∀ k c,fnd k acc = some c → fnd k S.ow = some c) {tm' : List (Nat × TV)} {ow' : List (Nat × Own)}
  (ht : ∀ t d,fnd t tm' = some d → fnd t S.tm = some d) (ho : ∀ k c,fnd k ow' = some c → fnd k S.ow = some c ∧ fnd k acc = none) : Rel b w' s' g ⟨tm',ow',S.nx⟩ a := by
 have hne : ∀ k c,fnd k ow' = some c → ∀ N,blk g k c = some N → ∀ k0 c0,fnd k0 acc = some c0 → blk g k0 c0 ≠ some N := fun k c hk N hb k0 c0 h0 => by
  obtain ⟨h1,h2⟩ := ho k c hk;refine h.sep k k0 c c0 N h1 (ha _ _ h0) ?_ hb;rintro rfl;rw [h2] at h0;cases h0
 refine ⟨⟨h.kp.ex.trans hp.ex,fun B o hs => ?_,fun B o hs => ?_,hp.os.trans h.kp.os,hp.tape.trans h.kp.tape,hp.output.trans h.kp.output,Nat.le_trans h.kp.size hp.size,fun k hk hm => ?_,h.kp.gl⟩,hp.lt,h.sz,fun t d hd => ?_,fun k c hk => ?_,fun k k' c c' N h1 h2 => h.sep k k' c c' N (ho k c h1).1 (ho k' c' h2).1,h.fr,h.df,h.gb⟩
 ·rcases hp.st B o hs with h1 | h1 | ⟨k0,c0,h0,h1⟩
  ·exact h.kp.st B o h1
  ·exact .inr (.inl (Nat.le_trans h.kp.size h1))
  ·exact .inr ((h.ow k0 c0 (ha k0 c0 h0)).2 B h1)
 ·rcases hp.sst B o hs with h1 | h1 | ⟨k0,c0,h0,h1⟩
  ·exact h.kp.sst B o h1
  ·exact .inr (.inl (Nat.le_trans h.kp.size h1))
  ·exact .inr ((h.ow k0 c0 (ha k0 c0 h0)).2 B h1)
 ·refine (hp.block k (Nat.lt_of_lt_of_le hk h.kp.size) fun k0 c0 h0 hb => ?_).trans (h.kp.block k hk hm);rcases (h.ow k0 c0 (ha k0 c0 h0)).2 k hb with h1 | h1
  ·omega
  ·exact hm h1
 ·obtain ⟨v,h1,h2⟩ := h.tm t d (ht t d hd);exact ⟨v,h1,TV.mono hp.ex (GLe.refl g) h2⟩
 ·obtain ⟨h1,h2⟩ := h.ow k c (ho k c hk).1;refine ⟨h1.keep hp.ex (GLe.refl g) (fun _ => rfl) (fun N hb => hp.block N (h1.lt hb) (hne k c hk N hb)) fun N o hb hs => ?_,h2⟩;rcases hp.st N o hs with h3 | h3 | ⟨k0,c0,h0,h3⟩
  ·exact h3
  ·have := h1.lt hb;omega
  ·exact absurd h3 (hne k c hk N hb k0 c0 h0)
theorem Rel.putV {b : Ba} {w : World} {s : Sb} {g : Gh} {S : Ste} {a : Act} (h : Rel b w s g S a) {t : Nat} {d : TV} {v : Value} (ht : t < b.sz) (hd : d.P w s g v) : Rel b w s g ⟨(t,d) :: S.tm,S.ow,S.nx⟩ (a.put (some t) v) :=
 (h.step (acc := []) (acc' := []) (dst := some t) (out := d) (v := v) (nx := S.nx) (Stp.refl w s g h.lt) (fun k c h => by cases h) (fun k c h => by cases h) (Nat.le_refl _) (fun k c h => by cases h) (fun e he => by cases he;exact ht) hd).congr (fun _ _ h => h) (fun _ _ h => h) (Nat.le_refl _)
theorem start_rel {args : List D} {w : World} {s : Sb} {vs : List Value} {n m : Nat} (hfl : D.flats args = true) (hlt : ∀ B o,s B o → B < w.heap.size) (hgl : Glb w s) (hv : AllV w s (D.pvs args) vs) (hm : m = n) (hl : args.length ≤ n) :
  Rel ⟨w,s,fun _ => False,n,⟨fun _ => none,fun _ _ => none⟩,[]⟩ w s ⟨fun _ => none,fun _ _ => none⟩ (DS.ste ⟨argD 0 args,[],0⟩) { tmps := vs.toArray ++ Array.replicate (m - vs.toArray.size) undef,defers := [] } := by
 subst hm;have hlen := hv.length;rw [jK] at hlen;refine ⟨⟨Ex.refl w s,(fun B o h => .inl h),(fun B o h => .inl h),rfl,rfl,rfl,Nat.le_refl _,fun _ _ _ => rfl,hgl⟩,hlt,?_,fun t d ht => ?_,(fun _ _ h => by cases h),(fun _ _ _ _ _ h => by cases h),fun _ _ => ⟨rfl,fun _ => rfl⟩,rfl,fun _ _ => ⟨(fun _ h => by cases h),fun _ _ h => by cases h⟩⟩
 ·simp;omega
 ·have ht' : fnd t (tvs (argD 0 args)) = some d := ht;rw [qA] at ht'
  cases hx : yS t (argD 0 args) with
  | none => rw [hx] at ht';cases ht'
  | some e =>
   rw [hx] at ht';cases ht';obtain ⟨j,h1,h2⟩ := bA hx;obtain ⟨v,h3,h4⟩ := hv.get (bR h2);have hj := (List.getElem?_eq_some_iff.1 h3).1;refine ⟨v,?_,D.ofPV (mE hfl (List.mem_of_getElem? h2)) h4⟩;have ht' : t = j := by omega
   rw [ht',Array.getElem?_append_left (by simpa using hj)];simpa using h3
def zsV : List Value := [.int .i64 0,.int .i64 0,.bool false,.slice none 0 0,.bool false,.slice none 0 0,.string ByteArray.empty,.int .i64 0,.int .i64 0,.string ByteArray.empty,.int .i64 0,.bool false,.slice none 0 0,.bool false,.slice none 0 0,.string ByteArray.empty,.int .i64 0,.slice none 0 0]
def rsV (c : Int) (t : ByteArray) : List Value := [.int .i64 1,.int .i64 0,.bool false,.slice none 0 0,.bool false,.slice none 0 0,.string ByteArray.empty,.int .i64 0,.int .i64 c,.string t,.int .i64 0,.bool false,.slice none 0 0,.bool false,.slice none 0 0,.string ByteArray.empty,.int .i64 0,.slice none 0 0]
theorem rsV_of {w : World} {s : Sb} {g : Gh} {c : Int} {t : ByteArray} {vs : List Value} (h : AllT w s g (D.tvl (rsL c t)) vs) : vs = rsV c t := zV0 (l := rsL c t) (r := rsV c t) rfl h
theorem zsV_of {w : World} {s : Sb} {g : Gh} {vs : List Value} (h : AllT w s g (D.tvl (jM zsV)) vs) : vs = zsV := zV0 (l := jM zsV) (r := zsV) rfl h
theorem rc_idle (p : Addr) (w : World) :
  CallsD Tryz.prog 88 #[.pointer (some p)] .returning w fun e u' w' => e = .returned (.tuple #[]) ∧ u' = .returning ∧ w' = w := by
 refine callsD_of_wpS Tryz.func88 rfl fun c₀ cs hu => ?_;apply wpS_seq;apply wpS_region;simp [wpOpsS,go_sem,recoverD,hu,Tryz.ntmps88,Exit.thenS];apply wpS_seq;apply wpS_region;simp [wpOpsS,go_sem,Exit.thenS];refine wpS_cond (t := false) (by simp [Act.eval,Array.replicate]) ?_;simp only [Bool.false_eq_true,if_false];refine wpS_of_wp (wp_skip ?_)
 cases c₀
 simp_all [bodyPostS,results,Tryz.results88]
structure RcP (w : World) (s : Sb) (N : Nat) (vs : List Value) (w' : World) (s' : Sb) : Prop where
 p : Pst w s ⟨fun k => if k = 0 then some N else none,fun _ _ => none⟩ [(0,.box 33 [])] w' s'
 c : w'.heap[N]? = some (.cells vs.toArray 33 (0,0))
 n : ∀ o,¬ s' N o
theorem rc_pan (c : Int) (t : ByteArray) (N : Nat) (older : List PanicEntry) (w : World) (s : Sb) (hlt : ∀ B o,s B o → B < w.heap.size) (hN : w.heap[N]? = some (.cells zsV.toArray 33 (0,0))) (hs : ∀ o,¬ s N o) (hgl : Glb w s) :
  CallsD Tryz.prog 88 #[.pointer (some ⟨N,0,none⟩)] (.panicking ({ v := gY c t,recovered := false } :: older)) w fun e u' w' => e = .returned (.tuple #[]) ∧ u' = .panicking ({ v := gY c t,recovered := true } :: older) ∧ ∃ s',RcP w s N (rsV c t) w' s' := by
 refine callsD_of_wpS Tryz.func88 rfl fun c₀ cs hu => ?_;apply wpS_seq;apply wpS_region;simp [wpOpsS,go_sem,recoverD,hu,Tryz.ntmps88,Exit.thenS,gY];apply wpS_seq;apply wpS_region;simp [wpOpsS,go_sem,Exit.thenS];refine wpS_cond (t := true) (by simp [Act.eval,Array.replicate]) ?_;simp only [if_true];refine wpS_of_wp ?_;refine (show Ev Tryz.prog ⟨w,s,fun B => B = N,Tryz.f88.ntmps,⟨fun k => if k = 0 then some N else none,fun _ _ => none⟩,[]⟩ _ ⟨[(0,.bp 0 0),(1,.v (gY c t))],[(0,.box 33 (jM zsV))],1⟩ (fun ex S => ex = .normal ∧ yS 0 S.ow = some (.box 33 (rsL c t))) from ?_) w s ⟨fun k => if k = 0 then some N else none,fun _ _ => none⟩ _ _ ?_ ?_
 ·refine zJ 100 ?_;refine zB (zJ 200 ?_);refine ev_condF rfl ?_;refine zK (zA (yN zL [] 300 ?_));exact ⟨rfl,rfl⟩
 ·refine ⟨⟨Ex.refl w s,(fun _ _ h => .inl h),(fun _ _ h => .inl h),rfl,rfl,rfl,Nat.le_refl _,fun _ _ _ => rfl,hgl⟩,hlt,(by simp),fun u d hd => ?_,fun k c' hk => ?_,fun k k' c1 c2 M h1 h2 hne => ?_,fun k hk => ?_,rfl,fun _ _ => ⟨fun _ h => h,fun _ _ h => h⟩⟩
  ·have hd : fnd u (tvs [(0,.bp 0 0),(1,.v (gY c t))]) = some d := hd;rw [qA,yP,yP] at hd;by_cases h0 : 0 = u
   ·subst h0;simp at hd;subst hd;exact ⟨.pointer (some ⟨N,0,none⟩),by simp,N,rfl,rfl⟩
   ·by_cases h1 : 1 = u
    ·subst h1;simp at hd;subst hd;exact ⟨gY c t,by simp [gY],rfl⟩
    ·simp only [h0,h1,if_false] at hd;cases hd
  ·have hk : fnd k [(0,Own.box 33 (D.tvl (jM zsV)))] = some c' := hk;obtain ⟨rfl,rfl⟩ := yW hk;refine ⟨⟨N,zsV,rfl,hN,by rw [vH];exact AllT.lits _ _ _ _,fun d hd => ?_,hs⟩,fun M hM => .inr ?_⟩
   ·rw [vH] at hd;obtain ⟨z,hz,rfl⟩ := List.mem_map.1 hd;exact List.all_eq_true.1 (show zsV.all (fun v => v.oneCell') = true from rfl) z hz
   ·have : some N = some M := hM
    cases this;rfl
  ·have h1 : fnd k [(0,Own.box 33 (D.tvl (jM zsV)))] = some c1 := h1;have h2 : fnd k' [(0,Own.box 33 (D.tvl (jM zsV)))] = some c2 := h2;exact absurd ((yW h1).1.trans (yW h2).1.symm) hne
  ·have hk : 1 ≤ k := hk;have : k ≠ 0 := by omega
   simp [this]
 ·rintro ex w' s' g' a' S' hR ⟨rfl,hk⟩;refine ⟨hR.df,_,rfl,.tuple #[],by simp [results,Tryz.results88],rfl,rfl,s',?_⟩;have h1 : fnd 0 S'.ste.ow = some (DOwn.box 33 (rsL c t)).o := by show fnd 0 (ows S'.ow) = _;rw [qD,hk];rfl
  obtain ⟨M,vs,e1,e2,e3,e4,e5⟩ := (hR.ow 0 _ h1).1;have hM : M = N := by
   have := (hR.gb 0 (by decide)).1 N rfl;rw [e1] at this;cases this;rfl
  subst hM;have hvs := rsV_of e3;subst hvs;exact ⟨⟨hR.kp.ex,hR.lt,hR.kp.os,hR.kp.tape,hR.kp.output,hR.kp.size,fun B hB hne => hR.kp.block B hB fun e => hne 0 _ rfl (by rw [show B = M from e];rfl),fun B o hB => (hR.kp.st B o hB).imp id (Or.imp id fun e => ⟨0,_,rfl,by rw [show B = M from e];rfl⟩),fun B o hB => (hR.kp.sst B o hB).imp id (Or.imp id fun e => ⟨0,_,rfl,by rw [show B = M from e];rfl⟩)⟩,e2,e5⟩
theorem FnQ.run {α : Type} {P : Program} {f : FuncId} {args : List D} {own : DOwn} {res : Except Value α} {out : α → D} {own' : α → DOwn} {o0 : D} (h : FnQ P f args own res out own' o0) {w : World} {s : Sb} {g : Gh} {vs : List Value}
  (hfr : ∀ (acc' : List (Nat × Own)),acc'.map (·.1) = [0] → Good w s g [(0,own.o)] acc') (hv : AllT w s g (D.tvl args) vs) :
  Bod P f ∧ Calls P f vs.toArray w fun e w' => (∃ a,res = .ok a ∧ ∃ s' v,e = .returned v ∧ (∃ g',(out a).tv.P w' s' g' v) ∧ Pst w s g [(0,own.o)] w' s') ∨ ∃ V,res = .error V ∧ ∃ s',e = .panicked [{ v := V,recovered := false }] ∧ Pst w s g [(0,own.o)] w' s' := by
 cases res with
 | ok a =>
  have h : GFun P f (D.tvl args) [(0,own.o)] (out a).tv [(0,(own' a).o)] := h;refine ⟨h.bod,(h.run w s g vs (hfr _ rfl) hv).mono ?_⟩;rintro e w' ⟨s',g',v,rfl,h1,h2⟩;exact .inl ⟨a,rfl,s',v,rfl,⟨g',h1⟩,h2.ex,h2.lt,h2.os,h2.tape,h2.output,h2.size,h2.block,h2.st,h2.sst⟩
 | error V =>
  have h : GFunE P (pnV V) f (D.tvl args) [(0,own.o)] o0.tv [(0,deadO.o)] := h;refine ⟨h.bod,(h.run w s g vs (hfr _ rfl) hv).mono ?_⟩;rintro e w' (⟨s',g',v,rfl,h1,h2⟩ | ⟨ch,s',rfl,h1,h2⟩)
  ·exfalso;obtain ⟨N,us,_,_,h3,_⟩ := h2.ok 0 deadO.o rfl;rw [D.tvl,D.tvl] at h3
   cases us with
   | nil => exact h3
   | cons u us => exact h3.1
  ·exact .inr ⟨V,rfl,s',by rw [show ch = _ from h1],h2⟩
theorem kL0 {md : Bool} (h : List Ob) (f : FuncId) (hf0 : f < 1000000) (caps : List D) (hfl : D.flats caps = true) (res : Except Value (Bool × Nat)) (out : St)
  (HC : FnQ Tryz.prog f (.bp 0 0 :: caps) (cqO md h 10000) res qB (qO md h) (.v (.bool false)))
  (ho : ∀ r,res = .ok r → out = vlS (boV r.1)) (he : ∀ V,res = .error V → ∃ c t,V = gY c t ∧ out = raS c t) :
  Fn Tryz.prog 30 [hpD md h,.clo f caps] (.agg (stD out)) := by
 refine ⟨⟨_,Tryz.func30,rfl,rfl⟩,fun w s vs hlt hgl hv => calls_of_wp_defers Tryz.func30 rfl ?_⟩;have hfl0 : D.flats [hpD md h,.clo f caps] = true := by
  rw [D.flats,D.flats,D.flats,D.flat.eq_def (.clo f caps)];simp only [hfl,Bool.and_true];rfl
 have hr0 := start_rel (n := Tryz.f30.ntmps) (m := Tryz.f30.ntmps) (args := [hpD md h,.clo f caps]) hfl0 hlt hgl hv rfl (show 2 ≤ _ by decide);refine wp_seq ?_;refine (show Ev Tryz.prog ⟨w,s,fun _ => False,Tryz.f30.ntmps,⟨fun _ => none,fun _ _ => none⟩,[]⟩ _ ⟨argD 0 [hpD md h,.clo f caps],[],0⟩ (fun ex S => ex = .normal ∧ S = ⟨(4,.bp 1 0) :: (2,.bp 0 0) :: argD 0 [hpD md h,.clo f caps],[(1,.box 33 (jM zsV)),(0,.box 24 [.sl md 10 h obD ob0])],100⟩) from ?_) w s _ _ _ hr0 ?_
 ·refine yN zL [] 100 ?_;exact ⟨rfl,rfl⟩
 rintro ex w1 s1 g1 a1 S1 hR1 ⟨rfl,rfl⟩;refine wp_seq (wp_region_lit (uM0 (l1 := [_]) (l2 := [_]) zL [] 200 (fun S => S = ⟨(5,.clo 88 [.bp 1 0]) :: (4,.bp 1 0) :: (2,.bp 0 0) :: argD 0 [hpD md h,.clo f caps],[(1,.box 33 (jM zsV)),(0,.box 24 [.sl md 10 h obD ob0])],200⟩) hR1 rfl ?_ ?_))
 ·refine zF ?_;refine zC ?_;rfl
 rintro w2 s2 g2 a2 S2 hR2 rfl;refine wpList_step fun K hK => ?_;rw [if_pos (show Region.wanted _ _ = true from rfl)];obtain ⟨v5,t5,hv5⟩ := hR2.tm 5 (TV.clo 88 [.bp 1 0]) rfl;rw [TV.P] at hv5;obtain ⟨us,e5,hu5⟩ := hv5;obtain ⟨N1,hN1,rfl⟩ : ∃ N1,g2.bx 1 = some N1 ∧ us = [.pointer (some ⟨N1,0,none⟩)] := by
  match us,hu5 with
  | [u],hu5 => obtain ⟨⟨N1,h1,rfl⟩,_⟩ := hu5;exact ⟨N1,h1,rfl⟩
  | [],hu5 => exact hu5.elim
  | _ :: _ :: _,hu5 => exact hu5.2.elim
 rw [yQ0 (by decide)] at e5;subst e5;have hev : a2.eval (.tmp 5) = .func (.func 88) #[] #[.pointer (some ⟨N1,0,none⟩)] := by
  show a2.tmps.getD 5 undef = _;rw [Array.getD_eq_getD_getElem?,t5];rfl
 simp [Oper.wp,Oper.upon,execOp,go_sem,t5];rw [show a2.defers = [] from hR2.df];refine hK _ _ ?_;obtain ⟨d,hd⟩ : ∃ d : Deferred,d = { target := .fn (.func 88) #[.pointer (some ⟨N1,0,none⟩)],args := #[] } := ⟨_,rfl⟩
 have hRd : Rel ⟨w,s,fun _ => False,Tryz.f30.ntmps,g2,[d]⟩ w2 s2 g2 (DS.ste ⟨(5,.clo 88 [.bp 1 0]) :: (4,.bp 1 0) :: (2,.bp 0 0) :: argD 0 [hpD md h,.clo f caps],[(1,.box 33 (jM zsV)),(0,.box 24 [.sl md 10 h obD ob0])],200⟩) { tmps := a2.tmps,defers := [d] } :=
  ⟨⟨hR2.kp.ex,hR2.kp.st,hR2.kp.sst,hR2.kp.os,hR2.kp.tape,hR2.kp.output,hR2.kp.size,hR2.kp.block,hR2.kp.gl⟩,hR2.lt,hR2.sz,hR2.tm,hR2.ow,hR2.sep,hR2.fr,rfl,fun k hk => ⟨fun _ h => h,fun _ _ h => h⟩⟩
 rw [← hd];refine wp_seq (wp_region_lit (uM0 (l1 := [_,_,_,_]) (l2 := [_,_,_,_]) zL [] 300 (fun S => S = ⟨(9,.bp 203 0) :: (8,.agg [.sl md 10 h obD ob0,.v (.int .i64 10000)]) :: (7,hpD md h) :: (6,.clo f caps) :: (5,.clo 88 [.bp 1 0]) :: (4,.bp 1 0) :: (2,.bp 0 0) :: argD 0 [hpD md h,.clo f caps],[(203,cqO md h 10000),(1,.box 33 (jM zsV)),(0,.box 24 [.sl md 10 h obD ob0])],300⟩) hRd rfl ?_ ?_))
 ·refine zF ?_;refine zC ?_;rfl
 rintro w3 s3 g3 a3 S3 hR3 rfl;refine wpList_step fun K2 hK2 => ?_;rw [if_pos (show Region.wanted _ _ = true from rfl)];obtain ⟨v6,t6,hv6⟩ := hR3.tm 6 (D.clo f caps).tv rfl;rw [D.tv,TV.P] at hv6;obtain ⟨cvs,e6,hc6⟩ := hv6;rw [yQ0 hf0] at e6;subst e6;obtain ⟨v9,t9,N9,hN9,rfl⟩ := hR3.tm 9 (TV.bp 203 0) rfl;have hev6 : a3.eval (.tmp 6) = .func (.func f) #[] cvs.toArray := by
  show a3.tmps.getD 6 undef = _;rw [Array.getD_eq_getD_getElem?,t6];rfl
 have hev9 : [Operand.tmp 9].map a3.eval = [.pointer (some ⟨N9,0,none⟩)] := by
  show [a3.tmps.getD 9 undef] = _;rw [Array.getD_eq_getD_getElem?,t9];rfl
 have hbox : fnd 203 (DS.ste ⟨(9,.bp 203 0) :: (8,.agg [.sl md 10 h obD ob0,.v (.int .i64 10000)]) :: (7,hpD md h) :: (6,.clo f caps) :: (5,.clo 88 [.bp 1 0]) :: (4,.bp 1 0) :: (2,.bp 0 0) :: argD 0 [hpD md h,.clo f caps],[(203,cqO md h 10000),(1,.box 33 (jM zsV)),(0,.box 24 [.sl md 10 h obD ob0])],300⟩).ow = some (cqO md h 10000).o := rfl;have hre : ∀ {l : List D} {vs : List Value} {g g' : Gh},D.flats l = true → AllT w3 s3 g (D.tvl l) vs → AllT w3 s3 g' (D.tvl l) vs := fun hf ha => D.ofPVs hf (AllT.weakS (D.toPVs (D.flats_pures hf)) ha);obtain ⟨hbod,hcall⟩ := HC.run (w := w3) (s := s3) (g := ⟨fun k => if k = 0 then some N9 else none,fun _ _ => none⟩) (vs := [Operand.tmp 9].map a3.eval ++ cvs) (fun acc' hacc => by
  refine ⟨hR3.lt,fun k c hk => ?_,fun k k' c c' N h1 h2 hne => absurd ((yW h1).1.trans (yW h2).1.symm) hne,fun k c hk hno => ?_,hR3.kp.gb⟩
  ·obtain ⟨rfl,rfl⟩ := yW hk;obtain ⟨M,us,e1,e2,e3,e4,e5⟩ := (hR3.ow 203 _ hbox).1;rw [hN9] at e1;cases e1;exact ⟨N9,us,rfl,e2,hre (l := [.sl md 10 h obD ob0,.v (.int .i64 10000)]) rfl e3,e4,e5⟩
  ·have hk0 : k ∈ acc'.map (·.1) := xU hk;rw [hacc,List.mem_singleton] at hk0;subst hk0;rw [yC] at hno;simp at hno) (by
  rw [hev9,D.tvl];exact ⟨⟨N9,rfl,rfl⟩,hre hfl hc6⟩)
 unfold Oper.wp;rw [gC hbod hev6];refine hcall.mono ?_;have hpst : ∀ {w4 : World} {s4 : Sb},Pst w3 s3 ⟨fun k => if k = 0 then some N9 else none,fun _ _ => none⟩ [(0,(cqO md h 10000).o)] w4 s4 → Pst w3 s3 g3 [(203,(cqO md h 10000).o)] w4 s4 := fun hp => by
  have hb1 : blk g3 203 (cqO md h 10000).o = some N9 := hN9;refine ⟨hp.ex,hp.lt,hp.os,hp.tape,hp.output,hp.size,fun N hN hne => hp.block N hN fun k c hk hb => ?_,fun B o hB => ?_,fun B o hB => ?_⟩
  ·obtain ⟨rfl,rfl⟩ := yW hk;exact hne 203 _ rfl (hb1.trans hb)
  ·rcases hp.st B o hB with h1 | h1 | ⟨k,c,hk,hb⟩
   ·exact .inl h1
   ·exact .inr (.inl h1)
   ·obtain ⟨rfl,rfl⟩ := yW hk;exact .inr (.inr ⟨203,_,rfl,hb1.trans hb⟩)
  ·rcases hp.sst B o hB with h1 | h1 | ⟨k,c,hk,hb⟩
   ·exact .inl h1
   ·exact .inr (.inl h1)
   ·obtain ⟨rfl,rfl⟩ := yW hk;exact .inr (.inr ⟨203,_,rfl,hb1.trans hb⟩)
 have hpast : ∀ {w4 : World} {s4 : Sb},Pst w3 s3 ⟨fun k => if k = 0 then some N9 else none,fun _ _ => none⟩ [(0,(cqO md h 10000).o)] w4 s4 → Rel ⟨w,s,fun _ => False,Tryz.f30.ntmps,g2,[d]⟩ w4 s4 g3 (DS.ste ⟨[(4,.bp 1 0)],[(1,.box 33 (jM zsV))],300⟩) a3 := fun hp => hR3.past (hpst hp) (fun k c hk => by obtain ⟨rfl,rfl⟩ := yW hk;rfl) (fun t d ht => by
   have ht : fnd t [(4,TV.bp 1 0)] = some d := ht;rw [yC] at ht;by_cases h4 : 4 = t
   ·subst h4;simp at ht;subst ht;rfl
   ·simp only [h4,if_false] at ht;cases ht) (fun k c hk => by
   have hk : fnd k [(1,Own.box 33 (D.tvl (jM zsV)))] = some c := hk;obtain ⟨rfl,rfl⟩ := yW hk;exact ⟨rfl,rfl⟩)
 have hstp : ∀ {w5 : World} {s5 : Sb},Kp ⟨w,s,fun _ => False,Tryz.f30.ntmps,g2,[d]⟩ w5 s5 → (∀ B o,s5 B o → B < w5.heap.size) → PStp w s w5 s5 := fun hk hl => ⟨hk.ex,hl,hk.os,hk.tape,hk.output,hk.size,fun N hN => hk.block N hN id,fun B o hs => (hk.st B o hs).elim .inl fun x => x.elim .inr fun x => x.elim,fun B o hs => (hk.sst B o hs).elim .inl fun x => x.elim .inr fun x => x.elim⟩;rintro e w4 (⟨r,hr,s4,v,rfl,⟨g',hv4⟩,hp⟩ | ⟨V,hV,s4,rfl,hp⟩)
 ·refine hK2 _ _ ?_;have hv4 : v = .bool r.1 := hv4;subst hv4;have hR5 : Rel ⟨w,s,fun _ => False,Tryz.f30.ntmps,g2,[d]⟩ w4 s4 g3 (DS.ste ⟨[(10,.v (.bool r.1)),(4,.bp 1 0)],[(1,.box 33 (jM zsV))],300⟩) (a3.put (some 10) (.bool r.1)) := (hpast hp).putV (t := 10) (d := .pv (PV.lit (.bool r.1))) (show 10 < Tryz.f30.ntmps by decide) rfl;refine uM0 (l1 := [_,_,_]) (l2 := []) zL [] 400 (fun S => S = ⟨(12,.agg (stD (vlS (boV r.1)))) :: (11,.agg (vlD (boV r.1))) :: (10,.v (.bool r.1)) :: (4,.bp 1 0) :: [],[(1,.box 33 (stD (vlS (boV r.1)))),(1,.box 33 (jM zsV))],400⟩) hR5 rfl ?_ ?_
  ·refine zF ?_;refine zR _ (heapBool_ok r.1) rfl ?_;refine zF ?_;refine zR _ (cmpValue_ok (boV r.1)) rfl ?_;refine zF ?_;refine zC ?_;rfl
  rintro w5 s5 g5 a5 S5 hR5 rfl;refine wp_ret ?_;show Leaves _ _ a5.tmps _ a5.defers .returning w5;rw [show a5.defers = [d] from hR5.df,hd];refine leaves_cons (f := 88) (args := #[.pointer (some ⟨N1,0,none⟩)]) (by simp) (by simp [go_sem]) ((rc_idle ⟨N1,0,none⟩ w5).mono ?_);rintro e u' w6 ⟨rfl,rfl,rfl⟩;obtain ⟨v,h1,h2⟩ := Res1.run (P := Tryz.prog) hR5 (uT zL (r := .cell 4 33) (d := .agg (stD (vlS (boV r.1)))) rfl);exact ⟨v,wT rfl h1,s5,v,rfl,by rw [ho r hr];exact h2,hstp hR5.kp hR5.lt⟩
 ·obtain ⟨c,t,rfl,hout⟩ := he V hV;have hR4 := hpast hp;show Leaves _ _ a3.tmps _ a3.defers (.panicking _) w4;rw [show a3.defers = [d] from hR3.df,hd];obtain ⟨M,us,e1,e2,e3,e4,e5⟩ := (hR4.ow 1 (Own.box 33 (D.tvl (jM zsV))) rfl).1;have hM : M = N1 := by
   have := (hR4.gb 1 (by decide)).1 N1 hN1;rw [e1] at this;cases this;rfl
  subst hM;have hus := zsV_of e3;subst hus;refine leaves_cons (f := 88) (args := #[.pointer (some ⟨M,0,none⟩)]) (by simp) (by simp [go_sem]) ((rc_pan c t M [] w4 s4 hR4.lt e2 e5 hR4.kp.gb).mono ?_);rintro e u' w6 ⟨rfl,rfl,s6,hrc⟩;have hb1 : blk g3 1 (Own.box 33 (D.tvl (jM zsV))) = some M := e1;have hstp2 : Stp w4 s4 g3 [(1,.box 33 (D.tvl (jM zsV)))] w6 s6 g3 [(1,.box 33 (D.tvl (rsL c t)))] := by
   refine ⟨hrc.p.ex,hrc.p.lt,GLe.refl g3,fun _ _ => ⟨rfl,fun _ => rfl⟩,hrc.p.os,hrc.p.tape,hrc.p.output,hrc.p.size,fun N hN hne => hrc.p.block N hN fun k c' hk hb => ?_,fun B o hB => ?_,fun B o hB => ?_,fun k c' hk => ?_,fun k c' N hk hb => ?_,fun k k' c1 c2 N h1 h2 hne => absurd ((yW h1).1.trans (yW h2).1.symm) hne,fun k c' hk => ?_⟩
   ·obtain ⟨rfl,rfl⟩ := yW hk;exact hne 1 _ rfl (hb1.trans hb)
   ·rcases hrc.p.st B o hB with h1 | h1 | ⟨k,c',hk,hb⟩
    ·exact .inl h1
    ·exact .inr (.inl h1)
    ·obtain ⟨rfl,rfl⟩ := yW hk;exact .inr (.inr ⟨1,_,rfl,hb1.trans hb⟩)
   ·rcases hrc.p.sst B o hB with h1 | h1 | ⟨k,c',hk,hb⟩
    ·exact .inl h1
    ·exact .inr (.inl h1)
    ·obtain ⟨rfl,rfl⟩ := yW hk;exact .inr (.inr ⟨1,_,rfl,hb1.trans hb⟩)
   ·obtain ⟨rfl,rfl⟩ := yW hk;refine ⟨M,rsV c t,e1,hrc.c,?_,fun d' hd' => ?_,hrc.n⟩
    ·rw [show rsL c t = jM (rsV c t) from rfl,vH];exact AllT.lits _ _ _ _
    ·rw [show rsL c t = jM (rsV c t) from rfl,vH] at hd';obtain ⟨z,hz,rfl⟩ := List.mem_map.1 hd';exact List.all_eq_true.1 (show (rsV c t).all (fun v => v.oneCell') = true from rfl) z hz
   ·obtain ⟨rfl,rfl⟩ := yW hk;exact .inr ⟨1,_,rfl,hb⟩
   ·obtain ⟨rfl,rfl⟩ := yW hk;exact ⟨_,rfl⟩
  have hR6 := hR4.step (dst := none) (out := .pv (PV.lit undef)) (v := undef) (nx := 300) hstp2 (fun k c' hk => by obtain ⟨rfl,rfl⟩ := yW hk;rfl) (fun k c' hk => by obtain ⟨rfl,rfl⟩ := yW hk;exact .inl ⟨_,rfl⟩) (Nat.le_refl _) (fun k c' hk => by obtain ⟨rfl,rfl⟩ := yW hk;decide) (fun _ h => by cases h) rfl;have hR6 : Rel ⟨w,s,fun _ => False,Tryz.f30.ntmps,g2,[d]⟩ w6 s6 g3 (DS.ste ⟨[(4,.bp 1 0)],[(1,.box 33 (rsL c t)),(1,.box 33 (jM zsV))],300⟩) a3 := hR6;obtain ⟨v,h1,h2⟩ := Res1.run (P := Tryz.prog) hR6 (uT zL (r := .cell 4 33) (d := .agg (rsL c t)) rfl);have hsub : SubP (.agg (rsL c t)) (.agg (stD (raS c t))) := SubP.agg (by repeat (first | exact trivial | exact SubP.refl _ | exact SubP.nilSl rfl | refine ⟨?_,?_⟩));exact ⟨v,wT rfl h1,s6,v,rfl,by rw [hout];exact hsub _ _ _ h2,hstp hR6.kp hR6.lt⟩
variable {md me : Bool}
theorem kG {h : List Ob} (hh : HpIn h) (g : Uh h) : ∀ (f n : Nat) (a b : Vl),n ≤ f → n ≤ 10000 → Vd h a → Vd h b → FnQ Tryz.prog 32 [.bp 0 0,.agg (vlD a),.agg (vlD b)] (cqO md h n) (qE (eqS h f n a b)) qB (qO md h) (.v (.bool false))
 | 0,n,a,b,h0,h1,ha,hb => by
  have e : n = 0 := by omega
  subst e;exact cV h 0 a b (fun _ _ _ => none) h1 hh g ha hb (fun _ _ _ _ e => by cases e) fun m hm => absurd hm (by omega)
 | f + 1,n,a,b,h0,h1,ha,hb => cV h n a b (eqS h f) h1 hh g ha hb (cX h f) fun m hm x y hx hy => kG hh g f m x y (by omega) (by omega) hx hy
def qSt : QR → St
 | some r => vlS (boV r.1)
 | none => raS 42 tD
theorem qSt_ok {q : QR} : ∀ r,qE q = .ok r → qSt q = vlS (boV r.1) := by
 intro r h
 cases q with
 | none => cases h
 | some q => cases h;rfl
theorem qSt_no {q : QR} : ∀ V,qE q = .error V → ∃ c t,V = gY c t ∧ qSt q = raS c t := by
 intro V h
 cases q with
 | none => cases h;exact ⟨42,tD,rfl,rfl⟩
 | some q => cases h
theorem cmpEqualC_ok (h : List Ob) (a b : Vl) (hh : HpIn h) (g : Uh h) (hva : Vd h a) (hvb : Vd h b) : FnQ Tryz.prog 31 [.bp 0 0,vpD a,vpD b] (cqO md h 10000) (qE (eqS h 10000 10000 a b)) qB (qO md h) (.v (.bool false)) := by
 refine pY zL Tryz.func31 rfl rfl rfl rfl rfl rfl (fun _ => rfl) rfl ?_;intro w0 s0 mx;refine zJ 100 ?_;rcases hr : eqS h 10000 10000 a b with _ | ⟨bb,m2⟩
 ·refine zB (zE zL [1008] 200 rfl ?_);refine zF ?_;refine uS _ _ ((kG hh g 10000 10000 a b (Nat.le_refl _) (Nat.le_refl _) hva hvb).no (kQ hr)) (FinQ.pan (kQ rfl)) rfl ?_;refine zF ?_;refine zC (zA ?_);exact uN 0
 ·refine zB (zE zL [1008] 200 rfl ?_);refine zF ?_;refine jO _ _ ((kG hh g 10000 10000 a b (Nat.le_refl _) (Nat.le_refl _) hva hvb).yes (vJ hr)) rfl ?_;refine zF ?_;refine zC (zA (zM ?_));exact FinQ.of (bb,m2) (vJ (rfl)) (FinH.ret 1 rfl rfl (Sub.refl _) ⟨⟨rfl,Sub.refl _,rfl,Sub.refl _,rfl,trivial⟩,trivial⟩)
theorem cmpEqual_ok (h : List Ob) (a b : Vl) (hh : HpIn h) (g : Uh h) (hva : Vd h a) (hvb : Vd h b) : Fn Tryz.prog 9 [hpD md h,.agg (vlD a),.agg (vlD b)] (.agg (stD (qSt (eqS h 10000 10000 a b)))) := by
 refine yG zL Tryz.func9 rfl rfl rfl rfl rfl rfl ?_;intro w0 s0 mx;refine zJ 100 ?_;refine zB (zE zL [] 200 rfl ?_);refine zF ?_;refine xN _ (kL0 h 31 (by decide) [vpD a,vpD b] rfl _ _ (cmpEqualC_ok h a b hh g hva hvb) qSt_ok qSt_no) rfl rfl ?_;refine zF ?_;refine zC (zA (zM ?_));exact FinV.ret rfl (SubP.refl _)
theorem mF0 {F : Nat → Vl → Vl → QR} : ∀ {l : List (Vl × Option Vl)} {n m : Nat},lsQ F l n = some (true,m) → ∀ p ∈ l,∃ y n' m',p.2 = some y ∧ F n' p.1 y = some (true,m')
 | [],_,_,_,p,hp => by cases hp
 | (x,none) :: l,n,m,h,p,hp => by cases h
 | (x,some y) :: l,n,m,h,p,hp => by
  simp only [lsQ] at h
  cases hF : F n x y with
  | none => rw [hF] at h;cases h
  | some r =>
   obtain ⟨r1,r2⟩ := r;rw [hF] at h;simp only at h
   cases r1 with
   | false => cases h
   | true =>
    rcases List.mem_cons.1 hp with rfl | hp
    ·exact ⟨y,n,r2,rfl,hF⟩
    ·exact mF0 h p hp
theorem wW0 {F : Nat → Vl → Vl → QR} : ∀ {l : List (Vl × Option Vl)} {n m : Nat},lsQ F l n = some (false,m) → ∃ p ∈ l,p.2 = none ∨ ∃ y n' m',p.2 = some y ∧ F n' p.1 y = some (false,m')
 | [],_,_,h => by cases h
 | (x,none) :: l,n,m,h => ⟨_,List.mem_cons_self,.inl rfl⟩
 | (x,some y) :: l,n,m,h => by
  simp only [lsQ] at h
  cases hF : F n x y with
  | none => rw [hF] at h;cases h
  | some r =>
   obtain ⟨r1,r2⟩ := r;rw [hF] at h;simp only at h
   cases r1 with
   | false => exact ⟨_,List.mem_cons_self,.inr ⟨y,n,r2,rfl,hF⟩⟩
   | true =>
    obtain ⟨p,hp,h2⟩ := wW0 h;exact ⟨p,List.mem_cons_of_mem _ hp,h2⟩
def TQ (F : Nat → Vl → Vl → QR) (a b : Vl) : Prop := ∃ n m,F n a b = some (true,m)
def NQ (F : Nat → Vl → Vl → QR) (a b : Vl) : Prop := ∃ n m,F n a b = some (false,m)
theorem pr_true {F : Nat → Vl → Vl → QR} {a b : List Vl} {n m : Nat} (h : prQ F a b n = some (true,m)) : a.length = b.length ∧ ∀ i,i < a.length → TQ F (a.getD i vl0) (b.getD i vl0) := by
 unfold prQ at h;split at h
 ·rename_i hl;refine ⟨hl,fun i hi => ?_⟩;obtain ⟨y,n',m',h1,h2⟩ := mF0 h (a.getD i vl0,some (b.getD i vl0)) (List.mem_of_getElem? (wL0 a b hi))
  cases h1;exact ⟨n',m',h2⟩
 ·cases h
theorem pr_false {F : Nat → Vl → Vl → QR} {a b : List Vl} {n m : Nat} (h : prQ F a b n = some (false,m)) : a.length ≠ b.length ∨ ∃ i,i < a.length ∧ NQ F (a.getD i vl0) (b.getD i vl0) := by
 unfold prQ at h;split at h
 ·obtain ⟨p,hp,h2⟩ := wW0 h;obtain ⟨i,hi,rfl⟩ := List.mem_map.1 hp;rcases h2 with h2 | ⟨y,n',m',h1,h2⟩
  ·cases h2
  ·cases h1;exact .inr ⟨i,List.mem_range.1 hi,n',m',h2⟩
 ·rename_i hl;exact .inl hl
theorem dY0 {h : List Ob} {a b : List Vl} : wiB h a b = true ↔ ∀ i,i < a.length → 0 ≤ plI h b (a.getD i vl0) := by
 unfold wiB;rw [List.all_eq_true];constructor
 ·intro H i hi;simpa using H _ (gS hi)
 ·intro H x hx;obtain ⟨i,hi,e⟩ := List.getElem_of_mem hx;have := H i hi;rw [List.getD_eq_getElem?_getD,List.getElem?_eq_getElem hi,e] at this;simpa using this
theorem bM0 : ∀ (n : Nat) (f : Nat → Nat),(∀ i,i < n + 1 → f i < n) → ∃ i j,i < j ∧ j < n + 1 ∧ f i = f j
 | 0,f,h => absurd (h 0 (by omega)) (by omega)
 | n + 1,f,h => by
  by_cases hx : ∃ i,i < n + 1 ∧ f i = f (n + 1)
  ·obtain ⟨i,hi,e⟩ := hx;exact ⟨i,n + 1,hi,by omega,e⟩
  ·have hx : ∀ i,i < n + 1 → f i ≠ f (n + 1) := fun i hi e => hx ⟨i,hi,e⟩;have hl := h (n + 1) (by omega);obtain ⟨i,j,h1,h2,h3⟩ := bM0 n (fun i => if f i = n then f (n + 1) else f i) fun i hi => by
    have h1 := h i (by omega);have h2 := hx i hi;show (if f i = n then f (n + 1) else f i) < n;split <;> omega
   refine ⟨i,j,h1,by omega,?_⟩;have hi := hx i (by omega);have hj := hx j (by omega);split at h3 <;> split at h3 <;> omega
section
variable {h : List Ob} {A B C : List Vl}
theorem pl_inj (ka : Dk h A) {i i' : Nat} (hi : i < A.length) (hi' : i' < A.length) (h0 : 0 ≤ plI h B (A.getD i vl0)) (he : (plI h B (A.getD i vl0)).toNat = (plI h B (A.getD i' vl0)).toNat) (h0' : 0 ≤ plI h B (A.getD i' vl0)) : i = i' := by
 refine Classical.byContradiction fun hne => ?_;obtain ⟨_,h2⟩ := bS h0;obtain ⟨_,h3⟩ := bS h0';rw [← he] at h3;have h4 := ka i i' hi hi' hne;rw [dL] at h2;have h5 := qJ0 h 1001 _ _ (A.getD i' vl0) h2;rw [h3,h4] at h5
 cases h5
end
section
variable {h : List Ob} (hk : ∀ v : Vl,(zY h v).kind = 3 ∨ (zY h v).kind = 4 → Dk h (zY h v).keys)
include hk
end
variable {md me : Bool}
theorem Fn.eqo {P : Program} {f : FuncId} {args : List D} {out out' : D} (h : Fn P f args out) (e : out = out') : Fn P f args out' := e ▸ h
section
variable {h : List Ob} {f n : Nat} {a b c : Vl}
end
theorem kd_dk {h : List Ob} (g : Uh h) (v : Vl) (hk : (zY h v).kind = 3 ∨ (zY h v).kind = 4) : Dk h (zY h v).keys := by
 obtain ⟨h6,ho,_⟩ := gZ (h := h) (v := v) (by omega);exact (tF g (fun _ => ho) hk).dk
variable {md me : Bool}
namespace Qr
def vQ (n : Int) (d : Nat) : Vl := if d = 1 then nuV n else ⟨3,decide (n < 0),lim n.natAbs,false,lim d,ByteArray.empty,0⟩
structure Q (n : Int) (d : Nat) : Prop where
 d0 : 0 < d
 co : Nat.gcd n.natAbs d = 1
 nl : (lim n.natAbs).length ≤ 128
 dl : (lim d).length ≤ 128
theorem ZI_abs (b : Bool) (n : Nat) : (ZI b n).natAbs = n := by
 unfold ZI;split
 ·rw [Int.natAbs_neg];rfl
 ·rfl
theorem co_uniq {a d b e : Nat} (hd : 0 < d) (h1 : Nat.gcd a d = 1) (h2 : Nat.gcd b e = 1) (h : a * e = b * d) : a = b ∧ d = e := by
 have h3 : d ∣ e := Nat.Coprime.dvd_of_dvd_mul_left (m := a) (by rw [Nat.coprime_comm];exact h1) ⟨b,by rw [h,Nat.mul_comm]⟩;have h4 : e ∣ d := Nat.Coprime.dvd_of_dvd_mul_left (m := b) (by rw [Nat.coprime_comm];exact h2) ⟨a,by rw [← h,Nat.mul_comm]⟩;have h5 := Nat.dvd_antisymm h3 h4;subst h5;exact ⟨Nat.eq_of_mul_eq_mul_right hd h,rfl⟩
theorem uniq {n m : Int} {d e : Nat} (p : Q n d) (q : Q m e) (h : mkRat n d = mkRat m e) : n = m ∧ d = e := by
 have hd := p.d0;have he := q.d0;rw [Rat.mkRat_eq_iff (by omega) (by omega)] at h;have h1 := congrArg Int.natAbs h;rw [Int.natAbs_mul,Int.natAbs_mul,Int.natAbs_natCast,Int.natAbs_natCast] at h1;obtain ⟨h2,h3⟩ := co_uniq hd p.co q.co h1;subst h3;exact ⟨Int.eq_of_mul_eq_mul_right (by omega) h,rfl⟩
def nV (v : Vl) : Int := ZI v.nn (VL v.nl)
def dV (v : Vl) : Nat := if v.k = 3 then VL v.dl else 1
structure Nm (v : Vl) : Prop where
 k : v.k = 2 ∨ v.k = 3
 q : Q (nV v) (dV v)
 e : v = vQ (nV v) (dV v)
theorem nm_of {v : Vl} (gn : Lg v.nl) (gd : Lg v.dl) (hk : v.k = 2 ∨ v.k = 3) (hv : qG v = true) : Nm v := by
 have h1 : jY v.nn v.nl = true ∧ v.s = ByteArray.empty ∧ v.r = 0 := by
  rcases hk with hk | hk
  ·rw [qG,if_neg (by omega),if_neg (by omega),if_pos hk] at hv;simp only [Bool.and_eq_true,decide_eq_true_eq,emS] at hv;exact ⟨hv.1.1.1,hv.1.2,hv.2⟩
  ·rw [qG,if_neg (by omega),if_neg (by omega),if_neg (by omega),if_pos hk] at hv;simp only [Bool.and_eq_true,decide_eq_true_eq,emS,ratS] at hv;exact ⟨hv.1.1.1.1.1.1,hv.1.2,hv.2⟩
 obtain ⟨e1,e2,e3⟩ := mA gn h1.1;have hab : (nV v).natAbs = VL v.nl := ZI_abs _ _;have hnl : (lim (nV v).natAbs).length ≤ 128 := by rw [hab,← e1];exact e3
 rcases hk with hk | hk
 ·have hd : dV v = 1 := if_neg (by omega);rw [qG,if_neg (by omega),if_neg (by omega),if_pos hk] at hv;simp only [Bool.and_eq_true,decide_eq_true_eq,zI,bL] at hv;have hdn := hv.1.1.2;refine ⟨.inl hk,by rw [hd];exact ⟨by decide,Nat.gcd_one_right _,hnl,by decide +kernel⟩,?_⟩;rw [hd,vQ,if_pos rfl];obtain ⟨k,nn,nl,dn,dl,s,r⟩ := v;have a1 : k = 2 := hk;have a2 : dn = false := hdn.1;have a3 : dl = [] := hdn.2;have a4 : s = ByteArray.empty := h1.2.1;have a5 : r = 0 := h1.2.2;subst a1;subst a2;subst a3;subst a4;subst a5;show Vl.mk 2 nn nl false [] ByteArray.empty 0 = Vl.mk 2 (decide (nV _ < 0)) (lim (nV _).natAbs) false [] ByteArray.empty 0;rw [hab];congr 1
 ·have hd : dV v = VL v.dl := if_pos hk;rw [qG,if_neg (by omega),if_neg (by omega),if_neg (by omega),if_pos hk] at hv;simp only [Bool.and_eq_true,decide_eq_true_eq,ratS,Bool.not_eq_true'] at hv;have hr := hv.1.1.1;have hdn : v.dn = false := hr.1.2.1;have hd0 := hr.1.2.2;obtain ⟨f1,f2,f3⟩ := mA gd hr.1.1.2;have hpos : 0 < VL v.dl := by
   rcases Nat.eq_zero_or_pos (VL v.dl) with h9 | h9
   ·rw [h9,qC] at f1;rw [f1] at hd0;cases hd0
   ·exact h9
  have hco : Nat.gcd (VL v.nl) (VL v.dl) = 1 := by
   have h9 := hr.2;rw [beq_iff_eq] at h9;unfold cmpN at h9;split at h9
   ·exact absurd h9 (by decide)
   ·split at h9
    ·exact absurd h9 (by decide)
    ·omega
  have hne : VL v.dl ≠ 1 := fun h9 => by
   have h8 := hv.1.1.2;rw [h9,show lim 1 = [1] from by decide +kernel] at f1;rw [f1] at h8;exact absurd h8 (by decide)
  refine ⟨.inr hk,by rw [hd];exact ⟨hpos,by rw [hab];exact hco,hnl,by rw [← f1];exact f3⟩,?_⟩;rw [hd,vQ,if_neg hne];obtain ⟨k,nn,nl,dn,dl,s,r⟩ := v;have a1 : k = 3 := hk;have a2 : dn = false := hdn;have a4 : s = ByteArray.empty := h1.2.1;have a5 : r = 0 := h1.2.2;subst a1;subst a2;subst a4;subst a5;show Vl.mk 3 nn nl false dl ByteArray.empty 0 = Vl.mk 3 (decide (nV _ < 0)) (lim (nV _).natAbs) false (lim (VL dl)) ByteArray.empty 0;rw [hab];have b1 : nl = lim (VL nl) := e1;have b2 : nn = decide (nV ⟨3,nn,nl,false,dl,ByteArray.empty,0⟩ < 0) := e2;have b3 : dl = lim (VL dl) := f1;rw [← b1,← b2,← b3]
section
variable {v w : Vl} (p : Nm v) (q : Nm w)
include p q
end
end Qr
namespace Qr
end Qr
namespace Qr
end Qr
variable {md me : Bool}
def fV (n : Int) (d : Nat) : List D := [.v (.bool (decide (n < 0))),usD (lim n.natAbs),.v (.bool false),usD (lim d)]
def fX (x : Int × Nat) : List D := fV x.1 x.2
structure Eu (a b : Nat) where
 x : Nat
 y : Nat
 g : Nat.gcd x y = Nat.gcd a b
 lx : (lim x).length ≤ 600
 ly : (lim y).length ≤ 600
def Eu.next {a b : Nat} (e : Eu a b) (h : 0 < e.y) : Eu a b := ⟨e.y,e.x % e.y,by rw [← e.g,Nat.gcd_comm e.x e.y,Nat.gcd_rec e.y e.x,Nat.gcd_comm],e.ly,Nat.le_trans (qV (Nat.le_of_lt (Nat.mod_lt _ h))) e.ly⟩
theorem Eu.fin {a b : Nat} (e : Eu a b) (h : e.y = 0) : e.x = Nat.gcd a b := by rw [← e.g,h,Nat.gcd_zero_right]
theorem kW {x y k m : Nat} (hx : (lim x).length ≤ k) (hy : (lim y).length ≤ m) : (lim (x * y)).length ≤ k + m := by
 have h1 := Nat.lt_of_lt_of_le (xQ x) (Nat.pow_le_pow_right (by decide) hx);have h2 := Nat.lt_of_lt_of_le (xQ y) (Nat.pow_le_pow_right (by decide) hy);refine qU ?_;rw [Nat.pow_add];exact Nat.mul_lt_mul'' h1 h2
theorem fV_0 : fV 0 0 = [.v (.bool false),usD [],.v (.bool false),usD []] := by
 unfold fV;rw [show (0 : Int).natAbs = 0 from rfl,qC];rfl
theorem fV_nil : SubP (.agg [.v (.bool false),.v (.slice none 0 0),.v (.bool false),.v (.slice none 0 0)]) (.agg (fV 0 0)) := by
 rw [fV_0];exact SubP.agg ⟨SubP.refl _,SubP.nilSl rfl,SubP.refl _,SubP.nilSl rfl,trivial⟩
theorem qOk {n : Int} {d : Nat} (q : Qr.Q n d) : jY (decide (n < 0)) (lim n.natAbs) = true := zOk q.nl
theorem qOk2 {n : Int} {d : Nat} (q : Qr.Q n d) : jY false (lim d) = true := by
 have h := zOk (z := (d : Int)) q.dl;rw [decide_eq_false (by omega),Int.natAbs_natCast] at h;exact h
theorem natGcd_ok (a b : Nat) (ha : (lim a).length ≤ 600) (hb : (lim b).length ≤ 600) : Fn Tryz.prog 238 [usD (lim a),usD (lim b)] (.tup [usD (lim (Nat.gcd a b)),faD 0 0]) := by
 refine yG zL Tryz.func238 rfl rfl rfl rfl rfl rfl ?_;intro w0 s0 mx;refine zJ 100 ?_;refine zB ?_;refine zB (zE zL [] 200 rfl ?_);refine zF ?_;refine zR _ (uU a b ha hb) rfl ?_;refine zF ?_;refine zC (zA (zJ 300 ?_));refine zX (fun c2 => ?_) (fun c2 => ?_)
 ·
  exact absurd c2 (by decide)
 ·
  refine zK (zA ?_);refine zB (zE zL [17] 500 rfl ?_);refine zF ?_;refine mZ _ _ _ (cA (lim a) (by omega)) ?_;refine zF ?_;refine zC (zA (zB (zP ?_)));refine yB (ι := Eu a b) [5] [1] 550 (fun x => [(0,usD (lim x.x)),(1,usD (lim x.y))]) (fun _ => []) (fun x => x.y) ⟨a,b,rfl,ha,hb⟩ ?_;refine ⟨⟨⟨Sub.ownSl rfl,Sub.refl _,yL⟩,yI,rfl,rfl⟩,fun x => ?_⟩
  skip
  refine zB (zJ 600 ?_);refine zT rfl (fun c5 => ?_) (fun c5 => ?_)
  ·have hy := wX0 (of_decide_eq_true c5);refine zK (zA (zP ?_));refine zB (zE zL [] 700 rfl ?_);refine zF ?_;refine zR _ (kV x.x x.y (by have := x.lx;omega) (by have := x.ly;omega) hy) rfl ?_;refine zF ?_;refine zC (zA ?_);refine zE zL [28] 800 rfl ?_;refine zF ?_;refine mZ _ _ _ (cA (lim x.y) (by have := x.ly;omega)) ?_;refine zF ?_;refine zC (zN ?_);exact zS (x.next hy) ⟨⟨Sub.ownSl rfl,Sub.refl _,yL⟩,yI,rfl,rfl⟩ (by show x.x % x.y < x.y;exact Nat.mod_lt _ hy)
  ·have hy := jB0 (of_decide_eq_false c5);refine yF (zZ (yA (zW (zA (zJ 900 ?_)))));refine zM ?_;exact FinV.ret rfl (SubP.tup ⟨SubP.of_eq (by rw [x.fin hy]),SubP.refl _,trivial⟩)
theorem ratValid_ok (n : Int) (d : Nat) (q : Qr.Q n d) : Fn Tryz.prog 205 [.agg (fV n d)] (.v (.bool true)) := by
 have k1 := qOk q;have k2 := qOk2 q;have hn := q.nl;have hd := q.dl;have hd0 : lim d ≠ [] := fun e => by rw [lim_nil] at e;have := q.d0;omega
 have hg := natGcd_ok n.natAbs d (by omega) (by omega);rw [q.co,gL0] at hg;refine yG zL Tryz.func205 rfl rfl rfl rfl rfl rfl ?_;intro w0 s0 mx;refine zJ 100 ?_;refine zB ?_;refine zB (zE zL [] 200 rfl ?_);refine zF ?_;refine zR _ (wX _ (lim n.natAbs) (by omega)) rfl ?_;refine zF ?_;refine yM _ (fun hg7 => wX _ (lim d) (by omega)) rfl ?_;refine zF ?_;refine zC (zA (zX (fun c1 => ?_) (fun c1 => ?_)))
 ·
  simp [k1,k2,hd0] at c1
 ·
  refine zK (zA ?_);refine zB (zE zL [] 400 rfl ?_);refine zF ?_;refine zR _ (hg) rfl ?_;refine zF ?_;refine zC (zA (zJ 500 ?_));refine zM ?_;exact FinV.ret rfl (SubP.bool (by rfl))
theorem ratCheck_ok (L : List (Int × Nat)) (hv : ∀ k < L.length,Qr.Q (L.getD k (0,1)).1 (L.getD k (0,1)).2) (hl : L.length ≤ 100) : Fn Tryz.prog 161 [.sl false 4 L fX (0,1)] (faD 0 0) := by
 refine yG zL Tryz.func161 rfl rfl rfl rfl rfl rfl ?_;intro w0 s0 mx;refine zJ 100 ?_;refine zB (zJ 200 ?_);refine zP ?_;refine yB (ι := {k : Nat // k ≤ L.length}) [2,5,6] [0] 250 (fun x => [(7,.v (.int .i64 x.1))]) (fun _ => []) (fun x => L.length - x.1) ⟨0,Nat.zero_le _⟩ ?_;refine ⟨⟨yL,yI,rfl,rfl⟩,fun x => ?_⟩;have hk : x.1 ≤ L.length := x.2;refine zJ 300 ?_;refine zB (zX (fun c2 => ?_) (fun c2 => ?_))
 ·
  refine zK (zA (zB (zP ?_)));have hvk := hv x.1 c2;refine zJ 400 ?_;refine zB (zE zL [] 500 rfl ?_);refine zF ?_;refine zR _ (ratValid_ok _ _ (by simp only [Int.toNat_natCast];exact hvk)) rfl ?_;refine zF ?_;refine zC (zA (zX (fun c4 => ?_) (fun c4 => ?_)))
  ·
   exact absurd c4 (by decide)
  ·
   refine zK (zN (zA (yN zL [] 700 ?_)));exact zS (⟨x.1 + 1,by omega⟩) ⟨⟨Sub.int (by push_cast;rfl),yL⟩,yI,rfl,rfl⟩ (by show L.length - (x.1 + 1) < L.length - x.1;omega)
 ·
  refine yF (zZ (yA (zW (zA (zJ 800 ?_)))));refine zM ?_;exact FinV.ret rfl (SubP.refl _)
theorem ratCheck2 {n m : Int} {d e : Nat} (q : Qr.Q n d) (r : Qr.Q m e) : ∀ k < [(n,d),(m,e)].length,Qr.Q ([(n,d),(m,e)].getD k (0,1)).1 ([(n,d),(m,e)].getD k (0,1)).2 := by
 intro k hk;rcases k with _ | _ | k
 ·exact q
 ·exact r
 ·exact absurd hk (by simp)
variable {md me : Bool}
theorem nm_n {v : Vl} (p : Qr.Nm v) : v.nn = decide (Qr.nV v < 0) ∧ v.nl = lim (Qr.nV v).natAbs := by
 refine ⟨(congrArg Vl.nn p.e).trans ?_,(congrArg Vl.nl p.e).trans ?_⟩
 ·unfold Qr.vQ;split <;> rfl
 ·unfold Qr.vQ;split <;> rfl
theorem zO1 {v : Vl} (p : Qr.Nm v) (h : v.k = 3) : v.dn = false ∧ v.dl = lim (Qr.dV v) := by
 have h1 : ¬ Qr.dV v = 1 := fun h1 => by
  have hk := congrArg Vl.k p.e;unfold Qr.vQ at hk;rw [if_pos h1] at hk;have hk : v.k = 2 := hk;omega
 refine ⟨(congrArg Vl.dn p.e).trans ?_,(congrArg Vl.dl p.e).trans ?_⟩
 ·unfold Qr.vQ;rw [if_neg h1]
 ·unfold Qr.vQ;rw [if_neg h1]
theorem nm_d2 {v : Vl} (p : Qr.Nm v) (h : v.k = 2) : Qr.dV v = 1 := by
 unfold Qr.dV;rw [if_neg (by omega)]
theorem nm_f2 {v : Vl} (p : Qr.Nm v) (h : v.k = 2) : fV (Qr.nV v) (Qr.dV v) = [.v (.bool v.nn),usD v.nl,.v (.bool false),usD [1]] := by
 unfold fV;rw [← (nm_n p).1,← (nm_n p).2,nm_d2 p h,gL0]
theorem nm_f3 {v : Vl} (p : Qr.Nm v) (h : v.k = 3) : fV (Qr.nV v) (Qr.dV v) = [.v (.bool v.nn),usD v.nl,.v (.bool v.dn),usD v.dl] := by
 unfold fV;rw [← (nm_n p).1,← (nm_n p).2,(zO1 p h).1,(zO1 p h).2]
section
variable {h : List Ob} (g : Uh h)
include g
end
variable {md me : Bool}
theorem vW0 {h : List Ob} {v : Vl} (hv : Vd h v) : hasS h v = true := by
 simp only [hasS,Bool.and_eq_true,Bool.or_eq_true,Bool.not_eq_true',decide_eq_false_iff_not];refine ⟨hv.1,?_⟩;by_cases hk : v.k = 6
 ·exact .inr (hv.2 hk)
 ·exact .inl hk
theorem kbsz (a : Array UInt8) : (⟨a⟩ : ByteArray).size = a.size := rfl
end Go.Proofs.YtinegkcbkefeiaaGreatDoor
/-
  DERIVED: THE SHELF's CONTRACTS AT THIS DUMP,IN PLAIN WORDS (tools/lay-plain.mjs out of 'YtinegkcbkefeiaaGreatDoorShelf4.lean',which tools/lay-shelf.mjs wrote): THE SAME DECLARATIONS UNDER THE SAME NAMES: 'import','namespace','open','def','theorem' AND NOTHING ELSE: no command of the shelf's: FOR A HAND-IN. Each laying: the table of numbers ('.._ren') and one theorem,a field a fact of the dump's own or the kernel's comparison;each contract: ONE APPLICATION.
-/
namespace Go.Proofs
open Go.Shelf
def Tryz.laysStrCmp_ren : Go.Shelf.Ren := ⟨fun | 106 => 99 | 213 => 164 | 265 => 211 | n => n,fun | 9 => 9 | 3 => 3 | n => n,fun | n => n⟩
theorem Tryz.laysStrCmp : Go.Proofs.Lays.n106 Tryz.prog Tryz.laysStrCmp_ren := {
 mixed := by kernel_rfl
 f106 := Tryz.func99.trans (congrArg some (by kernel_rfl))
 f213 := Tryz.func164.trans (congrArg some (by kernel_rfl))
 f265 := Tryz.func211.trans (congrArg some (by kernel_rfl))
 t3 := Tryz.underlying3
 a3 := Tryz.isAgg3
 z3 := Tryz.sizeOf3
 v3 := Tryz.zeroValue3
 t9 := Tryz.underlying9
 a9 := Tryz.isAgg9
 z9 := Tryz.sizeOf9
 v9 := Tryz.zeroValue9 }
end Go.Proofs
namespace Go.Proofs.YtinegkcbkefeiaaGreatDoor
open Go.RowKit Go.Shelf
def cmpB (a b : ByteArray) : Int := Lib.compareBytes a.data.toList b.data.toList
theorem StrCmp_ok (a b : ByteArray) : Fn Tryz.prog 99 [.v (.string a),.v (.string b)] (.v (.int .i64 (cmpB a b))) := by
 refine yE0 ⟨_,Tryz.func99,rfl,rfl⟩ fun w s vs hg hv => ?_;rw [bB hv];refine (Any.strings_Compare Tryz.laysStrCmp a b w).mono ?_;rintro e w' ⟨rfl,rfl⟩;exact ⟨rfl,Below.refl _ _⟩
open Go.RowKit
variable {md me : Bool}
def fitO (op n : Int) : Bool := decide (n < 0) || (decide (n = 0) && decide (op = 2))
def isN (v : Vl) : Bool := decide (v.k = 2 ∨ v.k = 3)
def cmpQ (n : Int) (d : Nat) (m : Int) (e : Nat) : Int := if n * e < m * d then -1 else if n * e = m * d then 0 else 1
def cmpI (a b : Int) : Int := if a < b then -1 else if b < a then 1 else 0
def oiD (op : Int) : D := .pt true [.v (.int .i64 op)]
theorem wU0 (n : Int) (e : Nat) (h : 0 ≤ n) : n * e = ((n.natAbs * e : Nat) : Int) := by
 rw [Int.natCast_mul,Int.natAbs_of_nonneg h]
theorem wV0 (n : Int) (e : Nat) (h : n < 0) : n * e = -((n.natAbs * e : Nat) : Int) := by
 rw [Int.natCast_mul,Int.ofNat_natAbs_of_nonpos (by omega),Int.neg_mul,Int.neg_neg]
theorem cq_nn {n m : Int} {d e : Nat} (hn : n < 0) (hm : m < 0) : -(cmpN (n.natAbs * e) (m.natAbs * d)) = cmpQ n d m e := by
 unfold cmpQ cmpN;rw [wV0 n e hn,wV0 m d hm];generalize n.natAbs * e = x;generalize m.natAbs * d = y;split <;> (try split) <;> (try split) <;> (try split) <;> omega
theorem cq_pp {n m : Int} {d e : Nat} (hn : ¬ n < 0) (hm : ¬ m < 0) : cmpN (n.natAbs * e) (m.natAbs * d) = cmpQ n d m e := by
 unfold cmpQ cmpN;rw [wU0 n e (by omega),wU0 m d (by omega)];generalize n.natAbs * e = x;generalize m.natAbs * d = y;split <;> (try split) <;> (try split) <;> (try split) <;> omega
theorem cq_np {n m : Int} {d e : Nat} (hn : n < 0) (hm : ¬ m < 0) (he : 0 < e) : -1 = cmpQ n d m e := by
 unfold cmpQ;rw [wV0 n e hn,wU0 m d (by omega),if_pos];have : 0 < n.natAbs * e := Nat.mul_pos (by omega) he;omega
theorem cq_pn {n m : Int} {d e : Nat} (hn : ¬ n < 0) (hm : m < 0) (hd : 0 < d) : 1 = cmpQ n d m e := by
 unfold cmpQ;have : 0 < m.natAbs * d := Nat.mul_pos (by omega) hd;rw [wU0 n e (by omega),wV0 m d hm,if_neg (by omega),if_neg (by omega)]
theorem cmpN_rng (x y : Nat) : -1 ≤ cmpN x y ∧ cmpN x y ≤ 1 := by unfold cmpN;split <;> (try split) <;> decide
theorem wrapN {c : Int} (h : -1 ≤ c ∧ c ≤ 1) : IntKind.i64.wrap (-c) = -c := by
 rcases (by omega : c = -1 ∨ c = 0 ∨ c = 1) with rfl | rfl | rfl <;> decide
def rqN (v : Vl) : Int := if isN v = true then Qr.nV v else 0
def rqD (v : Vl) : Nat := if isN v = true then Qr.dV v else 0
theorem rq_y {v : Vl} (h : v.k = 2 ∨ v.k = 3) : rqN v = Qr.nV v ∧ rqD v = Qr.dV v ∧ isN v = true := by
 have hb : isN v = true := decide_eq_true h;exact ⟨if_pos hb,if_pos hb,hb⟩
theorem rq_n {v : Vl} (h : ¬ (v.k = 2 ∨ v.k = 3)) : rqN v = 0 ∧ rqD v = 0 ∧ isN v = false := by
 have hb : isN v = false := decide_eq_false h;exact ⟨if_neg (by rw [hb];decide),if_neg (by rw [hb];decide),hb⟩
theorem xC0 (n : Int) : Fn Tryz.prog 212 [.v (.int .i64 n)] (.v (.bool false)) := by
 refine yG zL Tryz.func212 rfl rfl rfl rfl rfl rfl ?_;intro w0 s0 mx;refine zJ 100 ?_;refine zJ 200 ?_;refine zM ?_;exact FinV.ret rfl (SubP.bool (by simp))
theorem cmpCompare_ok (a b : Int) : Fn Tryz.prog 165 [.v (.int .i64 a),.v (.int .i64 b)] (.v (.int .i64 (cmpI a b))) := by
 refine yG zL Tryz.func165 rfl rfl rfl rfl rfl rfl ?_;intro w0 s0 mx;refine zJ 100 ?_;refine zB (zE zL [] 200 rfl ?_);refine zF ?_;refine zR _ (xC0 a) rfl ?_;refine zF ?_;refine zC (zA ?_);refine zB (zE zL [] 300 rfl ?_);refine zF ?_;refine zR _ (xC0 b) rfl ?_;refine zF ?_;refine zC (zA (zB (zJ 400 ?_)));refine zX (fun c3 => ?_) (fun c3 => ?_)
 ·
  exact absurd c3 (by decide)
 ·
  refine zK (zA (zB (zJ 800 ?_)));refine zX (fun c7 => ?_) (fun c7 => ?_)
  ·
   exact absurd c7 (by decide)
  ·
   refine zK (zA (zB (zJ 1000 ?_)));refine zX (fun c9 => ?_) (fun c9 => ?_)
   ·
    refine zJ 1100 ?_;refine zM (zO ?_);exact FinV.ret rfl (SubP.int (if_pos c9).symm)
   ·
    refine zK (zA (zB (zJ 1200 ?_)));refine zX (fun c11 => ?_) (fun c11 => ?_)
    ·
     refine zJ 1300 ?_;refine zM (zO ?_);exact FinV.ret rfl (SubP.int ((if_neg (Int.not_lt.2 c9)).trans (if_pos c11)).symm)
    ·
     refine zK (zA (zJ 1400 ?_));refine zM ?_;exact FinV.ret rfl (SubP.int ((if_neg (Int.not_lt.2 c9)).trans (if_neg (Int.not_lt.2 c11))).symm)
theorem dA (v : Vl) (p : Qr.Nm v ∨ ¬ (v.k = 2 ∨ v.k = 3)) : Fn Tryz.prog 97 [.agg (vlD v)] (.tup [.agg (fV (rqN v) (rqD v)),.v (.bool (isN v))]) := by
 refine yG zL Tryz.func97 rfl rfl rfl rfl rfl rfl ?_;intro w0 s0 mx;refine zJ 100 ?_;refine zB (zJ 200 ?_);refine zP (zJ 300 ?_);refine zX (fun c2 => ?_) (fun c2 => ?_)
 ·
  refine zJ 400 ?_;refine zM (zQ (zO ?_));rw [(rq_y (.inl c2)).1,(rq_y (.inl c2)).2.1,(rq_y (.inl c2)).2.2,nm_f2 (p.resolve_right fun h => h (.inl c2)) c2];exact FinV.ret rfl (SubP.tup ⟨SubP.agg ⟨SubP.refl _,SubP.refl _,SubP.refl _,SubP.slrSl rfl,trivial⟩,SubP.refl _,trivial⟩)
 ·
  refine zJ 500 ?_;refine zX (fun c4 => ?_) (fun c4 => ?_)
  ·
   refine zJ 600 ?_;refine zM (zQ (zO ?_));rw [(rq_y (.inr c4)).1,(rq_y (.inr c4)).2.1,(rq_y (.inr c4)).2.2];exact FinV.ret rfl (SubP.tup ⟨SubP.of_eq (by rw [nm_f3 (p.resolve_right fun h => h (.inr c4)) c4];rfl),SubP.refl _,trivial⟩)
  ·
   refine zK (zN (zA (zJ 700 ?_)));refine zM ?_;have hx : ¬ (v.k = 2 ∨ v.k = 3) := by omega
   rw [(rq_n hx).1,(rq_n hx).2.1,(rq_n hx).2.2];exact FinV.ret rfl (SubP.tup ⟨fV_nil,SubP.refl _,trivial⟩)
theorem ratCmp_ok {n m : Int} {d e : Nat} (p : Qr.Q n d) (q : Qr.Q m e) : Fn Tryz.prog 98 [.agg (fV n d),.agg (fV m e)] (.tup [.v (.int .i64 (cmpQ n d m e)),faD 0 0]) := by
 have hn := p.nl;have hd := p.dl;have hm := q.nl;have he := q.dl;have hnm : (lim (n.natAbs * m.natAbs)).length ≤ 256 := kW hn hm;have hde : (lim (d * e)).length ≤ 256 := kW hd he;have hp0 : 0 < d * e := Nat.mul_pos p.d0 q.d0;have hne : (lim (n.natAbs * e)).length ≤ 256 := kW hn he;have hdm : (lim (d * m.natAbs)).length ≤ 256 := kW hd hm;have hmd : (lim (m.natAbs * d)).length ≤ 256 := kW hm hd;refine yG zL Tryz.func98 rfl rfl rfl rfl rfl rfl ?_;intro w0 s0 mx;refine zJ 100 ?_;refine zB ?_;refine zB (zE zL [] 200 rfl ?_);refine zF ?_;refine zR _ ((ratCheck_ok [(n,d),(m,e)] (ratCheck2 p q) (by show 2 ≤ 100;omega)).args ⟨SubP.slrSl rfl,trivial⟩) rfl ?_;refine zF ?_;refine zC (zA (zJ 300 ?_));refine zX (fun c2 => ?_) (fun c2 => ?_)
 ·
  exact absurd c2 (by decide)
 ·
  refine zK (zA ?_);refine zB (zE zL [] 500 rfl ?_);refine zF ?_;refine zR _ (tA n.natAbs e (by omega) (by omega) (by omega)) rfl ?_;refine zF ?_;refine zC (zA ?_);refine zB (zE zL [] 600 rfl ?_);refine zF ?_;refine zR _ (tA m.natAbs d (by omega) (by omega) (by omega)) rfl ?_;refine zF ?_;refine zC (zA ?_);refine zB (zE zL [] 700 rfl ?_);refine zF ?_;refine zR _ (tB (n.natAbs * e) (m.natAbs * d) (by omega) (by omega)) rfl ?_;refine zF ?_;refine zC (zA (zB (zP (zJ 800 ?_))));refine zT rfl (fun c7 => ?_) (fun c7 => ?_)
  ·have c7 : n < 0 ∧ m < 0 := by simpa using c7
   refine zJ 900 ?_;refine zM (zQ (zO ?_));exact FinV.ret rfl (SubP.tup ⟨SubP.int (by rw [← cq_nn c7.1 c7.2,Int.zero_sub];exact wrapN (cmpN_rng _ _)),SubP.refl _,trivial⟩)
  ·have c7 : ¬ (n < 0 ∧ m < 0) := by simpa using c7
   refine zJ 1000 ?_;refine zT rfl (fun c9 => ?_) (fun c9 => ?_)
   ·have c9 : n < 0 := by simpa using c9
    refine zJ 1100 ?_;refine zM (zQ (zO ?_));exact FinV.ret rfl (SubP.tup ⟨SubP.int (cq_np c9 (fun h => c7 ⟨c9,h⟩) q.d0),SubP.refl _,trivial⟩)
   ·have c9 : ¬ n < 0 := by simpa using c9
    refine zJ 1200 ?_;refine zT rfl (fun c11 => ?_) (fun c11 => ?_)
    ·have c11 : m < 0 := by simpa using c11
     refine zJ 1300 ?_;refine zM (zQ (zO ?_));exact FinV.ret rfl (SubP.tup ⟨SubP.int (cq_pn c9 c11 p.d0),SubP.refl _,trivial⟩)
    ·have c11 : ¬ m < 0 := by simpa using c11
     refine zK (zN (zA (zJ 1400 ?_)));refine zM ?_;exact FinV.ret rfl (SubP.tup ⟨SubP.int (cq_pp c9 c11),SubP.refl _,trivial⟩)
theorem mT0 (op n : Int) : Fn Tryz.prog 96 [.v (.int .i64 n),oiD op] (.v (.bool (fitO op n))) := by
 refine yG zL Tryz.func96 rfl rfl rfl rfl rfl rfl ?_;intro w0 s0 mx;refine zJ 100 ?_;refine zJ 200 ?_;refine zM ?_;exact FinV.ret rfl (SubP.bool (by unfold fitO;simp))
end Go.Proofs.YtinegkcbkefeiaaGreatDoor
