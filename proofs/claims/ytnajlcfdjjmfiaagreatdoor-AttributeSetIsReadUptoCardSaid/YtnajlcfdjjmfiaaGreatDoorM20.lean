/- Part 20 of the proof. -/
import Derived.Test.YtnajlcfdjjmfiaaGreatDoorM19
import Derived.Test.YtnajlcfdjjmfiaaGreatDoorM12
import Derived.Test.YtnajlcfdjjmfiaaGreatDoorM13
import Derived.Test.YtnajlcfdjjmfiaaGreatDoorProg
import Derived.Ground.NamesProg
import Derived.Shelf.Spec.SlicesGrow
import Derived.Shelf.Strconv.Itoa3
import Derived.Shelf.Strconv.Quote
import Derived.Test.YtnajlcfdjjmfiaaGreatDoorM16
import Derived.Test.YtnajlcfdjjmfiaaGreatDoorM15
import Derived.Test.YtnajlcfdjjmfiaaGreatDoorM18
import Derived.Lib.ItoaLen
import Derived.Lib.QuoteLoop
import Derived.Lib.PrintData
import Derived.Test.YtnajlcfdjjmfiaaGreatDoorM17
namespace Go.Proofs.YtnajlcfdjjmfiaaGreatDoor
open Go.RowKit
variable {md me : Bool}
def kcL : List Int := [2,3,4,5,6,7,0,15,27,2]
def ocL : List Int := [0,8,9,10,11,12,13,14,16,1,0,17,18,19,20,21,22,23,24,25,26]
def ocS (o : Ob) : Int := if o.kind = 10 then o.cls else ocL.getD o.kind.toNat 0
def clA (h : List Ob) (v : Vl) : Int := if v.k = 6 then ocS (zW h v.r) else kcL.getD v.k.toNat 0
theorem mZ0 {v : Vl} (h : jK v = true) : 0 ≤ v.k ∧ v.k < 9 := by
 unfold jK at h;repeat' split at h
 all_goals first | omega | cases h
structure Cf (h : List Ob) (v : Vl) : Prop where
 k : 0 ≤ v.k ∧ v.k < 9
 obj : v.k = 6 → yD h v.r = true
 kind : v.k = 6 → 0 < (zW h v.r).kind ∧ (zW h v.r).kind < 21
 cls : v.k = 6 → (zW h v.r).kind = 10 → inH h (zW h v.r).cls
theorem Uh.kind {h : List Ob} (g : Uh h) {n : Int} (hn : yD h n = true) : 0 < (zW h n).kind ∧ (zW h n).kind < 21 := by
 have hi := yB hn;by_cases h49 : n.toNat < 49
 ·rw [show zW h n = bgO n.toNat from g.lo_at h49];exact ⟨by show (0 : Int) < 9;decide,by show (9 : Int) < 21;decide⟩
 ·have h1 := (g.hi_at (by omega) hi.2).kind;have h2 : ¬ (zW h n).kind = 0 := by
   intro h0;simp only [yD,Bool.and_eq_true] at hn;have := hn.2;rw [show (h.getD n.toNat ob0).kind = 0 from h0] at this;exact absurd this (by decide)
  exact ⟨by have := h1.1;show 0 < (zW h n).kind;have h3 : (zW h ((n.toNat : Nat) : Int)).kind = (zW h n).kind := rfl;omega,h1.2⟩
theorem cf_of {h : List Ob} {v : Vl} (g : Uh h) (hh : hasS h v = true) : Cf h v := by
 have hv : jK v = true := by
  simp only [hasS,Bool.and_eq_true] at hh;exact hh.1
 exact ⟨mZ0 hv,uC hh,fun hk => g.kind (uC hh hk),fun hk => g.cls (yB (uC hh hk))⟩
theorem ocS_in {h : List Ob} {o : Ob} (g : Uh h) (hk : 0 < o.kind ∧ o.kind < 21) (hc : o.kind = 10 → inH h o.cls) : inH h (ocS o) := by
 unfold ocS;split
 ·rename_i h1;exact hc h1
 ·have h3 := List.all_eq_true.1 (show (List.range 21).all (fun n => decide (0 ≤ ocL.getD n 0 ∧ ocL.getD n 0 < 49)) = true by decide +kernel) o.kind.toNat (List.mem_range.2 (by omega));have h4 := of_decide_eq_true h3;have := g.lo;exact ⟨h4.1,by omega⟩
theorem clA_in {h : List Ob} {v : Vl} (g : Uh h) (c : Cf h v) : inH h (clA h v) := by
 unfold clA;split
 ·rename_i h1;exact ocS_in g (c.kind h1) (c.cls h1)
 ·have h3 := List.all_eq_true.1 (show (List.range 9).all (fun n => decide (0 ≤ kcL.getD n 0 ∧ kcL.getD n 0 < 49)) = true by decide +kernel) v.k.toNat (List.mem_range.2 (by have := c.k;omega));have h4 := of_decide_eq_true h3;have := g.lo;exact ⟨h4.1,by omega⟩
theorem kindClasses_ok  : Fn Tryz.prog 100 [] (isD kcL) := by
 refine yQ zP Tryz.func100 rfl rfl rfl rfl rfl rfl ?_;intro w0 s0 mx;refine zN 100 ?_;refine zN 200 ?_;refine zL ?_;exact FinV.ret rfl (SubP.slrSl rfl)
theorem objectClasses_ok  : Fn Tryz.prog 101 [] (isD ocL) := by
 refine yQ zP Tryz.func101 rfl rfl rfl rfl rfl rfl ?_;intro w0 s0 mx;refine zN 100 ?_;refine zN 200 ?_;refine zL ?_;exact FinV.ret rfl (SubP.slrSl rfl)
theorem jR (h : List Ob) (v : Vl) (c : Cf h v) : Fn Tryz.prog 67 [hpD md h,.agg (vlD v)] (.v (.int .i64 (clA h v))) := by
 refine yQ zP Tryz.func67 rfl rfl rfl rfl rfl rfl ?_;intro w0 s0 mx;refine zN 100 ?_;refine zB (zN 200 ?_);refine zS rfl (fun c1 => ?_) (fun c1 => ?_)
 ·replace c1 : ¬ v.k = 6 := by have h1 := c1;simp only [Bool.not_eq_true',decide_eq_false_iff_not] at h1;exact h1
  refine zB (zT zP [] [[],[],[1],[0,1,2],[0,1,2,3],(rgN 5)] 300 yP (by kernel_rfl) rfl ?_);repeat (first | refine zG ?_ | refine zH ?_ | refine zV (by exact ⟨c.k.1,by show v.k.toNat < 10;have := c.k;omega⟩) ?_)
  refine zQ _ (kindClasses_ok) rfl ?_;repeat (first | refine zG ?_ | refine zH ?_ | refine zV (by exact ⟨c.k.1,by show v.k.toNat < 10;have := c.k;omega⟩) ?_)
  refine zC (zA (zL (zK ?_)));exact FinV.ret rfl (SubP.int (by rw [clA,if_neg c1]))
 ·replace c1 : v.k = 6 := by have h1 := c1;simp only [Bool.not_eq_false',decide_eq_true_eq] at h1;exact h1
  refine zO (zA ?_);refine zB (zE zP [] 400 rfl ?_);repeat (first | refine zG ?_ | refine zH ?_ | refine zV (by exact yB (c.obj c1)) ?_)
  refine zC (zA (zB (zN 500 ?_)));refine zS rfl (fun c4 => ?_) (fun c4 => ?_)
  ·first | replace c4 := of_decide_eq_true c4 | replace c4 := of_decide_eq_false c4
   refine zN 600 ?_;refine zL (zK ?_);exact FinV.ret rfl (SubP.int (by rw [clA,if_pos c1,ocS,if_pos c4]))
  ·first | replace c4 := of_decide_eq_true c4 | replace c4 := of_decide_eq_false c4
   refine zO (zA ?_);refine zB (zT zP [] [[],[],[1],[0,1,2],[0,1,2,3],(rgN 5)] 700 yP (by kernel_rfl) rfl ?_);repeat (first | refine zG ?_ | refine zH ?_ | refine zV (by exact ⟨Int.le_of_lt (c.kind c1).1,by show (zW h v.r).kind.toNat < 21;have h1 : 0 < (zW h v.r).kind ∧ (zW h v.r).kind < 21 := c.kind c1;omega⟩) ?_)
   refine zQ _ (objectClasses_ok) rfl ?_;repeat (first | refine zG ?_ | refine zH ?_ | refine zV (by exact ⟨Int.le_of_lt (c.kind c1).1,by show (zW h v.r).kind.toNat < 21;have h1 : 0 < (zW h v.r).kind ∧ (zW h v.r).kind < 21 := c.kind c1;omega⟩) ?_)
   refine zC (zA (zL ?_));exact FinV.ret rfl (SubP.int (by rw [clA,if_pos c1,ocS,if_neg c4]))
theorem heapName_ok (h : List Ob) (v : Vl) (g : Uh h) (c : Cf h v) : Fn Tryz.prog 33 [hpD md h,.agg (vlD v)] (.v (.string (zW h (clA h v)).name)) := by
 refine yQ zP Tryz.func33 rfl rfl rfl rfl rfl rfl ?_;intro w0 s0 mx;refine zN 100 ?_;refine zB (zT zP [] mK15 200 yP (by kernel_rfl) rfl ?_);repeat (first | refine zG ?_ | refine zH ?_ | refine zV (by exact clA_in g c) ?_)
 refine zQ _ (jR h v c) rfl ?_;repeat (first | refine zG ?_ | refine zH ?_ | refine zV (by exact clA_in g c) ?_)
 refine zC (zA (zL ?_));exact FinV.ret rfl (SubP.refl _)
variable {md me : Bool}
variable {md me : Bool}
variable {md me : Bool}
variable {md me : Bool}
variable {md me : Bool}
theorem pP {α : Type} [DecidableEq α] : ∀ (l : List α) (n : α),ixI l n < l.length
 | [],n => by show (-1 : Int) < ((0 : Nat) : Int);omega
 | x :: l,n => by
  have := pP l n;rw [ixI,List.length_cons];split
  ·omega
  ·split <;> omega
def jC (o : Ob) (s : ByteArray) : Bool := decide (0 ≤ ixI o.names s)
def jF (o : Ob) (s : ByteArray) : Vl := if ixI o.names s < 0 then vl0 else o.items.getD (ixI o.names s).toNat vl0
structure Fd {α : Type} (l : List α) (p : α → Bool) where
 k : Nat
 le : k ≤ l.length
 eq : (l.drop k).find? p = l.find? p
def Fd.next {α : Type} {l : List α} {p : α → Bool} (x : Fd l p) (e : α) (hk : x.k < l.length) (h0 : p (l.getD (x.k : Int).toNat e) = false) : Fd l p := ⟨x.k + 1,hk,by rw [← x.eq,zV0 hk e,List.find?_cons_of_neg (by rw [h0];decide)]⟩
theorem Fd.found {α : Type} {l : List α} {p : α → Bool} (x : Fd l p) (e : α) (hk : x.k < l.length) (h0 : p (l.getD (x.k : Int).toNat e) = true) : l.find? p = some (l.getD (x.k : Int).toNat e) := by rw [← x.eq,zV0 hk e,List.find?_cons_of_pos h0]
theorem Fd.none {α : Type} {l : List α} {p : α → Bool} (x : Fd l p) (hk : l.length ≤ x.k) : l.find? p = none := by rw [← x.eq,List.drop_of_length_le hk];rfl
def fdO (h : List Ob) (l : List Int) (s : ByteArray) : Option Int := l.find? fun c => jC (zW h c) s
def fdV (h : List Ob) (s : ByteArray) : Option Int → Vl
 | some c => jF (zW h c) s
 | none => vl0
def fdC : Option Int → Int
 | some c => c
 | none => 0
def Cok (h : List Ob) (l : List Int) : Prop := l.length ≤ 2000000 ∧ ∀ c ∈ l,inH h c ∧ (zW h c).names.length ≤ (zW h c).items.length
theorem cC {h : List Ob} {l : List Int} (hc : Cok h l) {k : Nat} (hk : k < l.length) : inH h (l.getD (k : Int).toNat 0) ∧ (zW h (l.getD (k : Int).toNat 0)).names.length ≤ (zW h (l.getD (k : Int).toNat 0)).items.length := hc.2 _ (by rw [gS hk];exact List.getElem_mem _)
theorem bX (s : ByteArray) : Fn Tryz.prog 5 [.v (.string s)] (.v (.bool (vA s))) := by
 refine yQ zP Tryz.func5 rfl rfl rfl rfl rfl rfl ?_;intro w0 s0 mx;refine zN 100 ?_;refine zB (zE zP [] 200 rfl ?_);refine zF ?_;refine zQ _ (mH _) rfl ?_;refine zF ?_;refine zC (zA (zL ?_));exact FinV.ret rfl (SubP.refl _)
theorem yJ (h : List Ob) (v : Vl) (hv : v.k = 6 → yD h v.r = true) : Fn Tryz.prog 24 [hpD md h,.agg (vlD v)] (.agg (obD (zJ h v))) := by
 refine yQ zP Tryz.func24 rfl rfl rfl rfl rfl rfl ?_;intro w0 s0 mx;refine zN 100 ?_;refine zB (zN 200 ?_);refine zZ (fun c1 => ?_) (fun c1 => ?_)
 ·
  refine zN 300 ?_;refine zL (zK ?_);have e : zJ h v = ob0 := gU c1;rw [e];exact FinV.ret rfl (by repeat (first | exact trivial | exact SubP.refl _ | exact SubP.nilSl rfl | refine SubP.agg ?_ | refine ⟨?_,?_⟩))
 ·
  refine zO (zA ?_);refine zB (zE zP [] 400 rfl ?_);repeat (first | refine zG ?_ | refine zH ?_ | refine zV (by exact yB (hv c1)) ?_)
  refine zC (zA (zL ?_));have e : zJ h v = h.getD v.r.toNat ob0 := objS_at hv c1;rw [e];exact FinV.ret rfl (by repeat (first | exact trivial | exact SubP.refl _ | exact SubP.nilSl rfl | refine SubP.agg ?_ | refine ⟨?_,?_⟩))
theorem vE (o : Ob) (s : ByteArray) (hn : o.names.length ≤ o.items.length) : Fn Tryz.prog 27 [.agg (obD o),.v (.string s)] (.tup [.agg (vlD (jF o s)),.v (.bool (jC o s))]) := by
 have hlt := pP o.names s;refine yQ zP Tryz.func27 rfl rfl rfl rfl rfl rfl ?_;intro w0 s0 mx;refine zN 100 ?_;refine zB (zE zP [] 200 rfl ?_);refine zF ?_;refine zQ _ (gA _ _) rfl ?_;refine zF ?_;refine zC (zA (zB (zN 300 ?_)));refine zZ (fun c2 => ?_) (fun c2 => ?_)
 ·
  refine zN 400 ?_;refine zL (zK ?_);exact FinV.ret rfl (SubP.tup ⟨by rw [jF,if_pos c2];exact (by repeat (first | exact trivial | exact SubP.refl _ | exact SubP.nilSl rfl | refine SubP.agg ?_ | refine ⟨?_,?_⟩)),SubP.bool (by rw [jC,decide_eq_false (by omega)]),trivial⟩)
 ·
  refine zO (zA (zN 500 ?_));refine zL ?_;exact FinV.ret rfl (SubP.tup ⟨by rw [jF,if_neg (by omega)];exact SubP.refl _,SubP.bool (by rw [jC,decide_eq_true (by omega)]),trivial⟩)
theorem dL0 (o : Ob) (s : ByteArray) (hn : o.names.length ≤ o.items.length) (hl : o.names.length ≤ 2000000) : Fn Tryz.prog 13 [.agg (obD o),.v (.string s)] (.tup [.agg (vlD (jF o s)),.v (.bool (jC o s))]) := by
 refine yQ zP Tryz.func13 rfl rfl rfl rfl rfl rfl ?_;intro w0 s0 mx;refine zN 100 ?_;refine zB (zN 200 ?_);refine zU ?_;refine yH (ι := Nf o.names s) [1,2,4,9,10] [0,1] 250 (fun x => [(11,.v (.int .i64 x.k))]) (fun _ => []) (fun x => o.names.length - x.k) ⟨0,Nat.zero_le _,fun j hj => by omega⟩ ?_;refine ⟨⟨yR,yM,rfl,rfl⟩,fun x => ?_⟩;have hk := x.le;refine zN 300 ?_;refine zB (zZ (fun c2 => ?_) (fun c2 => ?_))
 ·
  refine zO (zA (zB (zU (zN 400 ?_))));refine zN 500 ?_;refine zS rfl (fun c4 => ?_) (fun c4 => ?_)
  ·replace c4 : s = o.names.getD (x.k : Int).toNat ByteArray.empty := (of_decide_eq_true c4).symm
   refine zN 600 ?_;refine zL (zM (zK (yT (zM (zK ?_)))));have e : ixI o.names s = x.k := x.found c2 c4;exact FinV.ret rfl (SubP.tup ⟨by rw [jF,e,if_neg (by omega)];exact SubP.refl _,SubP.bool (by rw [jC,e,decide_eq_true (by omega)]),trivial⟩)
  ·replace c4 : ¬ s = o.names.getD (x.k : Int).toNat ByteArray.empty := fun e => (of_decide_eq_false c4) e.symm
   refine zO (zR (zA (qC zP [] 700 ?_)));exact zX (x.next c2 c4) ⟨yR,yM,rfl,rfl⟩ (by show o.names.length - (x.k + 1) < o.names.length - x.k;omega)
 ·
  refine yO (yF (yG (yC (zA (zN 800 ?_)))));refine zL ?_;have e : ixI o.names s = -1 := x.none c2;exact FinV.ret rfl (SubP.tup ⟨by rw [jF,e,if_pos (by omega)];exact (by repeat (first | exact trivial | exact SubP.refl _ | exact SubP.nilSl rfl | refine SubP.agg ?_ | refine ⟨?_,?_⟩)),SubP.bool (by rw [jC,e];rfl),trivial⟩)
theorem vL (h : List Ob) (l : List Int) (s : ByteArray) (hh : HpIn h) (hc : Cok h l) : Fn Tryz.prog 63 [hpD md h,isD l,.v (.string s)] (.tup [.agg (vlD (fdV h s (fdO h l s))),.v (.int .i64 (fdC (fdO h l s))),.v (.bool (fdO h l s).isSome)]) := by
 have hl := hc.1;refine yQ zP Tryz.func63 rfl rfl rfl rfl rfl rfl ?_;intro w0 s0 mx;refine zN 100 ?_;refine zB (zN 200 ?_);refine zU ?_;refine yH (ι := Fd l (fun c => jC (zW h c) s)) [2,3,6,13,14] [0,1] 250 (fun x => [(15,.v (.int .i64 x.k))]) (fun _ => []) (fun x => l.length - x.k) ⟨0,Nat.zero_le _,rfl⟩ ?_;refine ⟨⟨yR,yM,rfl,rfl⟩,fun x => ?_⟩;have hk := x.le;refine zN 300 ?_;refine zB (zZ (fun c2 => ?_) (fun c2 => ?_))
 ·
  refine zO (zA (zB (zU (zN 400 ?_))));refine zB (zE zP [] 500 rfl ?_);repeat (first | refine zG ?_ | refine zH ?_ | refine zV (by exact (cC hc c2).1) ?_)
  refine zQ _ (vE _ _ (cC hc c2).2) rfl ?_;repeat (first | refine zG ?_ | refine zH ?_ | refine zV (by exact (cC hc c2).1) ?_)
  refine zC (zA (zN 600 ?_));refine zS rfl (fun c5 => ?_) (fun c5 => ?_)
  ·
   refine zN 700 ?_;refine zL (zM (zK (yT (zM (zK ?_)))));have e : fdO h l s = some (l.getD (x.k : Int).toNat 0) := x.found 0 c2 c5;exact FinV.ret rfl (SubP.tup ⟨by rw [e];exact SubP.refl _,by rw [e];exact SubP.refl _,by rw [e];exact SubP.refl _,trivial⟩)
  ·
   refine zO (zR (zA (qC zP [] 800 ?_)));exact zX (x.next 0 c2 c5) ⟨yR,yM,rfl,rfl⟩ (by show l.length - (x.k + 1) < l.length - x.k;omega)
 ·
  refine yO (yF (yG (yC (zA (zN 900 ?_)))));refine zL ?_;have e : fdO h l s = none := x.none (by omega);exact FinV.ret rfl (SubP.tup ⟨by rw [e];exact (by repeat (first | exact trivial | exact SubP.refl _ | exact SubP.nilSl rfl | refine SubP.agg ?_ | refine ⟨?_,?_⟩)),by rw [e];exact SubP.refl _,by rw [e];exact SubP.refl _,trivial⟩)
theorem Among_ok (h : List Ob) (l : List Int) (s : ByteArray) (hh : HpIn h) (hc : Cok h l) : Fn Tryz.prog 19 [hpD md h,isD l,.v (.string s)] (.tup [.agg (vlD (fdV h s (fdO h l s))),.v (.int .i64 (fdC (fdO h l s))),.v (.bool (fdO h l s).isSome)]) := by
 have hl := hc.1;refine yQ zP Tryz.func19 rfl rfl rfl rfl rfl rfl ?_;intro w0 s0 mx;refine zN 100 ?_;refine zB (zN 200 ?_);refine zU ?_;refine yH (ι := Fd l (fun c => jC (zW h c) s)) [2,3,6,13,14] [0,1] 250 (fun x => [(15,.v (.int .i64 x.k))]) (fun _ => []) (fun x => l.length - x.k) ⟨0,Nat.zero_le _,rfl⟩ ?_;refine ⟨⟨yR,yM,rfl,rfl⟩,fun x => ?_⟩;have hk := x.le;refine zN 300 ?_;refine zB (zZ (fun c2 => ?_) (fun c2 => ?_))
 ·
  refine zO (zA (zB (zU (zN 400 ?_))));refine zB (zE zP [] 500 rfl ?_);repeat (first | refine zG ?_ | refine zH ?_ | refine zV (by exact (cC hc c2).1) ?_)
  refine zQ _ (dL0 _ _ (cC hc c2).2 (hh.at (l.getD (x.k : Int).toNat 0)).nl) rfl ?_;repeat (first | refine zG ?_ | refine zH ?_ | refine zV (by exact (cC hc c2).1) ?_)
  refine zC (zA (zN 600 ?_));refine zS rfl (fun c5 => ?_) (fun c5 => ?_)
  ·
   refine zN 700 ?_;refine zL (zM (zK (yT (zM (zK ?_)))));have e : fdO h l s = some (l.getD (x.k : Int).toNat 0) := x.found 0 c2 c5;exact FinV.ret rfl (SubP.tup ⟨by rw [e];exact SubP.refl _,by rw [e];exact SubP.refl _,by rw [e];exact SubP.refl _,trivial⟩)
  ·
   refine zO (zR (zA (qC zP [] 800 ?_)));exact zX (x.next 0 c2 c5) ⟨yR,yM,rfl,rfl⟩ (by show l.length - (x.k + 1) < l.length - x.k;omega)
 ·
  refine yO (yF (yG (yC (zA (zN 900 ?_)))));refine zL ?_;have e : fdO h l s = none := x.none (by omega);exact FinV.ret rfl (SubP.tup ⟨by rw [e];exact (by repeat (first | exact trivial | exact SubP.refl _ | exact SubP.nilSl rfl | refine SubP.agg ?_ | refine ⟨?_,?_⟩)),by rw [e];exact SubP.refl _,by rw [e];exact SubP.refl _,trivial⟩)
theorem jW (h : List Ob) (c : Int) (s : ByteArray) (hh : HpIn h) (hn : inH h c) (hc : Cok h (zW h c).order) : Fn Tryz.prog 34 [hpD md h,.v (.int .i64 c),.v (.string s)] (.tup [.agg (vlD (fdV h s (fdO h (zW h c).order s))),.v (.int .i64 (fdC (fdO h (zW h c).order s))),.v (.bool (fdO h (zW h c).order s).isSome)]) := by
 refine yQ zP Tryz.func34 rfl rfl rfl rfl rfl rfl ?_;intro w0 s0 mx;refine zN 100 ?_;refine zB (zT zP [] [[],[],[1],[],[1,2,3],[1,2,3,4],[1,2,3,4,5],[],(rgN 8),(rgN 9),(rgN 9),(rgN 9),(rgN 12),(rgN 13),(rgN 14)] 200 yP (by kernel_rfl) rfl ?_);repeat (first | refine zG ?_ | refine zH ?_ | refine zV (by exact hn) ?_)
 refine zQ _ (vL h (zW h c).order s hh hc) rfl ?_;repeat (first | refine zG ?_ | refine zH ?_ | refine zV (by exact hn) ?_)
 refine zC (zA (zL ?_));exact FinV.ret rfl (SubP.refl _)
theorem Inherited_ok (h : List Ob) (c : Int) (s : ByteArray) (hh : HpIn h) (hn : inH h c) (hc : Cok h (zW h c).order) : Fn Tryz.prog 7 [hpD md h,.v (.int .i64 c),.v (.string s)] (.tup [.agg (vlD (fdV h s (fdO h (zW h c).order s))),.v (.bool (fdO h (zW h c).order s).isSome)]) := by
 refine yQ zP Tryz.func7 rfl rfl rfl rfl rfl rfl ?_;intro w0 s0 mx;refine zN 100 ?_;refine zB (zT zP [] [[],[],[1],[],[1,2,3],[1,2,3,4],[1,2,3,4,5],[],(rgN 8),(rgN 9),(rgN 10),(rgN 10),(rgN 10),[],[0,1,2,3,4,5,6,7,8,9,10,13],[0,1,2,3,4,5,6,7,8,9,10,11,13,14],(rgN 16)] 200 yP (by kernel_rfl) rfl ?_);repeat (first | refine zG ?_ | refine zH ?_ | refine zV (by exact hn) ?_)
 refine zQ _ (Among_ok h (zW h c).order s hh hc) rfl ?_;repeat (first | refine zG ?_ | refine zH ?_ | refine zV (by exact hn) ?_)
 refine zC (zA (zN 300 ?_));refine zL ?_;exact FinV.ret rfl (SubP.refl _)
theorem uX (h : List Ob) (v : Vl) (hv : v.k = 6 → yD h v.r = true) : Fn Tryz.prog 99 [hpD md h,.agg (vlD v)] (.v (.bool (uG h v))) := by
 refine yQ zP Tryz.func99 rfl rfl rfl rfl rfl rfl ?_;intro w0 s0 mx;refine zN 100 ?_;refine zB (zE zP [] 200 rfl ?_);refine zF ?_;refine yU _ (fun hg6 => yJ _ _ (by first | assumption | omega | (simp_all;done))) rfl ?_;refine zF ?_;refine zC (zA (zL ?_));exact FinV.ret rfl (SubP.refl _)
variable {md me : Bool}
theorem used_a {k : Nat} (hk : k < 21) (ha : Lib.contains (uB (k : Int)).data.toList [97] = true) : uB (k : Int) ≠ ⟨#[]⟩ ∧ dZ (uB (k : Int)) = 61 := by
 have := List.all_eq_true.1 (show (List.range 21).all (fun (k : Nat) => !(Lib.contains (uB (k : Int)).data.toList [97]) || (!decide (uB (k : Int) = ⟨#[]⟩) && decide (dZ (uB (k : Int)) = 61))) = true by decide +kernel) k (List.mem_range.2 hk);rw [ha,Bool.not_true,Bool.false_or,Bool.and_eq_true,Bool.not_eq_true',decide_eq_false_iff_not,decide_eq_true_eq] at this;exact this
theorem names_items {o : Ob} (hk : 0 ≤ o.kind ∧ o.kind < 21) (hs : jV o = 0) : o.names.length ≤ o.items.length := by
 have h1 := (tF hs).1;unfold jV at hs;split at hs
 ·rename_i ha;have h3 := List.all_eq_true.1 ha 3 (by decide);by_cases hz : (o.names.length : Int) = 0
  ·omega
  ·have e : Lib.contains (uB o.kind).data.toList [97] = true := by
    have h4 : (!(!(decide ((o.names.length : Int) = 0)) && !(Lib.contains (uB o.kind).data.toList [97]))) = true := h3;rw [decide_eq_false hz] at h4;simpa using h4
   have hkk : o.kind = ((o.kind.toNat : Nat) : Int) := by omega
   rw [hkk] at e;have h5 := used_a (k := o.kind.toNat) (by omega) e;rw [← hkk] at h5;rw [cntS,if_neg h5.1,if_neg (by rw [h5.2];decide),if_pos h5.2] at h1;omega
 ·cases hs
theorem nm_it {h : List Ob} (g : Uh h) {n : Int} (hn : inH h n) : (zW h n).names.length ≤ (zW h n).items.length := by
 by_cases h49 : n.toNat < 49
 ·rw [show zW h n = bgO n.toNat from g.lo_at h49];exact Nat.zero_le _
 ·have u := g.hi_at (i := n.toNat) (by omega) hn.2;exact names_items u.kind u.shape
theorem wR0 {k : Nat} (hk : k < 49) {r : Int} (hr : r ∈ (bgO k).order) : 0 ≤ r ∧ r < 49 := by
 have := List.all_eq_true.1 (List.all_eq_true.1 (show (List.range 49).all (fun k => (bgO k).order.all fun r => decide (0 ≤ r) && decide (r < 49)) = true by decide +kernel) k (List.mem_range.2 hk)) r hr;rw [Bool.and_eq_true,decide_eq_true_eq,decide_eq_true_eq] at this;exact this
theorem cok_of {h : List Ob} (hh : HpIn h) (g : Uh h) {c : Int} (hn : inH h c) : Cok h (zW h c).order := by
 refine ⟨(hh.at c).ol,fun r hr => ?_⟩;have hin : inH h r := by
  by_cases h49 : c.toNat < 49
  ·rw [show zW h c = bgO c.toNat from g.lo_at h49] at hr;have := wR0 h49 hr;have := g.lo;exact ⟨by omega,by omega⟩
  ·exact yB ((jM0 (g.hi_at (by omega) hn.2).vals).order r hr)
 exact ⟨hin,nm_it g hin⟩
theorem own_rv {h : List Ob} (g : Uh h) {n : Int} (hn : inH h n) (s : ByteArray) (hk : (jF (zW h n) s).k = 6) : yD h (jF (zW h n) s).r = true := by
 have hlt := pP (zW h n).names s;have hni := nm_it g hn;by_cases hi : ixI (zW h n).names s < 0
 ·rw [jF,if_pos hi] at hk;exact absurd hk (by decide)
 ·rw [jF,if_neg hi] at hk ⊢;have hj : (ixI (zW h n).names s).toNat < (zW h n).items.length := by omega
  rw [List.getD_eq_getElem?_getD,List.getElem?_eq_getElem hj] at hk ⊢;exact g.items hn (List.getElem_mem _) hk
theorem fd_rv {h : List Ob} (hh : HpIn h) (g : Uh h) {c : Int} (hn : inH h c) (s : ByteArray) (hk : (fdV h s (fdO h (zW h c).order s)).k = 6) : yD h (fdV h s (fdO h (zW h c).order s)).r = true := by
 cases hf : fdO h (zW h c).order s with
 | none => rw [hf] at hk;exact absurd hk (show ¬ (0 : Int) = 6 by decide)
 | some r =>
  rw [hf] at hk;exact own_rv g ((cok_of hh g hn).2 r (List.mem_of_find?_eq_some hf)).1 s hk
theorem one_item {h : List Ob} (g : Uh h) {n : Int} (hn : inH h n) (hk : (zW h n).kind = 13 ∨ (zW h n).kind = 14) : (zW h n).items.length = 1 := by
 by_cases h49 : n.toNat < 49
 ·rw [show zW h n = bgO n.toNat from g.lo_at h49] at hk;have h9 : (bgO n.toNat).kind = 9 := rfl;omega
 ·have u := g.hi_at (i := n.toNat) (by omega) hn.2;have h1 := (tF u.shape).1;rw [← uJ hn] at h1;have hc : cntS (zW h n) = 1 := by
   rcases hk with hk | hk
   ·rw [xW 13 49 (by decide +kernel) hk];decide +kernel
   ·rw [xW 14 49 (by decide +kernel) hk];decide +kernel
  omega
def spS (h : List Ob) (v : Vl) (s : ByteArray) : Vl × List Vl × Bool :=
 if ¬ (zJ h v).kind = 10 then (vl0,[],false)
 else if (fdO h (zW h (zJ h v).cls).order s).isSome = false then (vl0,[],false)
 else if uG h (fdV h s (fdO h (zW h (zJ h v).cls).order s)) = true then (fdV h s (fdO h (zW h (zJ h v).cls).order s),[v],true)
 else if (zJ h (fdV h s (fdO h (zW h (zJ h v).cls).order s))).kind = 13 then ((zJ h (fdV h s (fdO h (zW h (zJ h v).cls).order s))).items.getD 0 vl0,[],true)
 else if (zJ h (fdV h s (fdO h (zW h (zJ h v).cls).order s))).kind = 14 then ((zJ h (fdV h s (fdO h (zW h (zJ h v).cls).order s))).items.getD 0 vl0,[rfV (zJ h v).cls],true)
 else (fdV h s (fdO h (zW h (zJ h v).cls).order s),[],true)
theorem obj_item {h : List Ob} (g : Uh h) {v : Vl} (hk : (zJ h v).kind = 13 ∨ (zJ h v).kind = 14) : 0 < (zJ h v).items.length := by
 have h1 := qA (h := h) (v := v) (by omega);rw [h1.2.2] at hk ⊢;rw [one_item g (yB h1.2.1) hk];decide
theorem inst_cls {h : List Ob} (g : Uh h) {v : Vl} (hk : (zJ h v).kind = 10) : inH h (zJ h v).cls := by
 have h1 := qA (h := h) (v := v) (by omega);rw [h1.2.2] at hk ⊢;exact g.cls (yB h1.2.1) hk
set_option maxHeartbeats 1000000 in
theorem Special_ok (h : List Ob) (v : Vl) (s : ByteArray) (hh : HpIn h) (g : Uh h) (hv : v.k = 6 → yD h v.r = true) : Fn Tryz.prog 71 [hpD md h,.agg (vlD v),.v (.string s)] (.tup [.agg (vlD (spS h v s).1),vsD (spS h v s).2.1,.v (.bool (spS h v s).2.2)]) := by
 refine yQ zP Tryz.func71 rfl rfl rfl rfl rfl rfl ?_;intro w0 s0 mx;refine zN 100 ?_;refine zB ?_;refine zB (zE zP [] 200 rfl ?_);refine zF ?_;refine zQ _ (yJ _ _ (by first | assumption | omega | (simp_all;done))) rfl ?_;refine zF ?_;refine zC (zA (zS rfl (fun c1 => ?_) (fun c1 => ?_)))
 ·replace c1 : ¬ (zJ h v).kind = 10 := by simpa using c1
  refine zN 300 ?_;refine zL (zK ?_);exact FinV.ret rfl (SubP.tup ⟨by rw [spS,if_pos c1];exact (by repeat (first | exact trivial | exact SubP.refl _ | exact SubP.nilSl rfl | refine SubP.agg ?_ | refine ⟨?_,?_⟩)),by rw [spS,if_pos c1];exact SubP.nilSl rfl,by rw [spS,if_pos c1];exact SubP.refl _,trivial⟩)
 ·replace c1 : (zJ h v).kind = 10 := by simpa using c1
  have hob := qA (h := h) (v := v) (by omega);have hin := inst_cls g c1;have hrv := fun hk => fd_rv hh g hin s hk;refine zO (zA ?_);refine zB (zE zP [] 400 rfl ?_);repeat (first | refine zG ?_ | refine zH ?_ | refine zV (by exact yB hob.2.1) ?_)
  refine zC (zA ?_);refine yN [2,3,4,6] [0,1,2] 410 [(9,.v (.int .i64 (zJ h v).cls))] [] ?_;refine ⟨⟨⟨Sub.int (by rw [hob.2.2]),by repeat (first | exact trivial | exact Sub.refl _ | refine ⟨?_,?_⟩)⟩,yM,rfl,rfl⟩,?_⟩;refine zB (zE zP [] 500 rfl ?_);refine zF ?_;refine zQ _ (jW h (zJ h v).cls s hh hin (cok_of hh g hin)) rfl ?_;refine zF ?_;refine zC (zA (zB (zN 600 ?_)));refine zS rfl (fun c5 => ?_) (fun c5 => ?_)
  ·replace c5 : (fdO h (zW h (zJ h v).cls).order s).isSome = false := by simpa using c5
   refine zN 700 ?_;refine zL (zK ?_);exact FinV.ret rfl (SubP.tup ⟨by rw [spS,if_neg (not_not_intro c1),if_pos c5];exact (by repeat (first | exact trivial | exact SubP.refl _ | exact SubP.nilSl rfl | refine SubP.agg ?_ | refine ⟨?_,?_⟩)),by rw [spS,if_neg (not_not_intro c1),if_pos c5];exact SubP.nilSl rfl,by rw [spS,if_neg (not_not_intro c1),if_pos c5];exact SubP.refl _,trivial⟩)
  ·replace c5 : (fdO h (zW h (zJ h v).cls).order s).isSome = true := by simpa using c5
   refine zO (zA (zB ?_));refine zB (zE zP [] 800 rfl ?_);refine zF ?_;refine zQ _ (yJ h (fdV h s (fdO h (zW h (zJ h v).cls).order s)) hrv) rfl ?_;refine zF ?_;refine zC (zA (zU ?_));refine zB (zE zP [] 900 rfl ?_);refine zF ?_;refine zQ _ (uX h (fdV h s (fdO h (zW h (zJ h v).cls).order s)) hrv) rfl ?_;refine zF ?_;refine zC (zA (zS rfl (fun c8 => ?_) (fun c8 => ?_)))
   ·
    refine zB (zT zP [] [[],[],[1],[0],[0,1,2,3],(rgN 5)] 1000 yP (by kernel_rfl) rfl ?_);refine zF ?_;refine zC (zA (zL (zM (zK ?_))));exact FinV.ret rfl (SubP.tup ⟨by rw [spS,if_neg (not_not_intro c1),if_neg (by rw [c5];decide),if_pos c8];exact SubP.refl _,by rw [spS,if_neg (not_not_intro c1),if_neg (by rw [c5];decide),if_pos c8];exact SubP.slrSl rfl,by rw [spS,if_neg (not_not_intro c1),if_neg (by rw [c5];decide),if_pos c8];exact SubP.refl _,trivial⟩)
   ·
    refine zN 1100 ?_;refine zZ (fun c10 => ?_) (fun c10 => ?_)
    ·
     refine zB (zE zP [] 1200 rfl ?_);repeat (first | refine zG ?_ | refine zH ?_ | refine zV (by exact ⟨by omega,obj_item g (Or.inl c10)⟩) ?_)
     refine zC (zA (zL (zM (zK ?_))));exact FinV.ret rfl (SubP.tup ⟨by rw [spS,if_neg (not_not_intro c1),if_neg (by rw [c5];decide),if_neg (by rw [c8];decide),if_pos c10];exact SubP.refl _,by rw [spS,if_neg (not_not_intro c1),if_neg (by rw [c5];decide),if_neg (by rw [c8];decide),if_pos c10];exact SubP.nilSl rfl,by rw [spS,if_neg (not_not_intro c1),if_neg (by rw [c5];decide),if_neg (by rw [c8];decide),if_pos c10];exact SubP.refl _,trivial⟩)
    ·
     refine zN 1300 ?_;refine zZ (fun c12 => ?_) (fun c12 => ?_)
     ·
      refine zB (zT zP [] mK16 1400 yP (by kernel_rfl) rfl ?_);repeat (first | refine zG ?_ | refine zH ?_ | refine zV (by exact ⟨by omega,obj_item g (Or.inr c12)⟩) ?_)
      refine zQ _ (qI _) rfl ?_;repeat (first | refine zG ?_ | refine zH ?_ | refine zV (by exact ⟨by omega,obj_item g (Or.inr c12)⟩) ?_)
      refine zC (zA (zL (zM (zK ?_))));exact FinV.ret rfl (SubP.tup ⟨by rw [spS,if_neg (not_not_intro c1),if_neg (by rw [c5];decide),if_neg (by rw [c8];decide),if_neg (by omega),if_pos c12];exact SubP.refl _,by rw [spS,if_neg (not_not_intro c1),if_neg (by rw [c5];decide),if_neg (by rw [c8];decide),if_neg (by omega),if_pos c12];exact SubP.slrSl rfl,by rw [spS,if_neg (not_not_intro c1),if_neg (by rw [c5];decide),if_neg (by rw [c8];decide),if_neg (by omega),if_pos c12];exact SubP.refl _,trivial⟩)
     ·
      refine zO (zR (zA (zN 1500 ?_)));refine zL ?_;exact FinV.ret rfl (SubP.tup ⟨by rw [spS,if_neg (not_not_intro c1),if_neg (by rw [c5];decide),if_neg (by rw [c8];decide),if_neg (by omega),if_neg (by omega)];exact SubP.refl _,by rw [spS,if_neg (not_not_intro c1),if_neg (by rw [c5];decide),if_neg (by rw [c8];decide),if_neg (by omega),if_neg (by omega)];exact SubP.nilSl rfl,by rw [spS,if_neg (not_not_intro c1),if_neg (by rw [c5];decide),if_neg (by rw [c8];decide),if_neg (by omega),if_neg (by omega)];exact SubP.refl _,trivial⟩)
variable {md me : Bool}
def mtL (c : Int) : List ByteArray := if c = 4 then [(⟨#[98,105,116,115]⟩ : ByteArray)] else if c = 5 then [(⟨#[100,101,110]⟩ : ByteArray),(⟨#[110,117,109]⟩ : ByteArray)] else if c = 6 then kB (⟨#[99,111,117,110,116,32,101,110,99,111,100,101,32,101,110,100,115,95,119,105,116,104,32,102,105,110,100,32,106,111,105,110,32,108,111,119,101,114,32,114,101,112,108,97,99,101,32,115,112,108,105,116,32,115,116,97,114,116,115,95,119,105,116,104,32,115,116,114,105,112,32,117,112,112,101,114]⟩ : ByteArray) else if c = 7 then [(⟨#[100,101,99,111,100,101]⟩ : ByteArray),(⟨#[102,105,110,100]⟩ : ByteArray),(⟨#[104,101,120]⟩ : ByteArray)] else if c = 8 then [(⟨#[99,111,117,110,116]⟩ : ByteArray),(⟨#[105,110,100,101,120]⟩ : ByteArray)] else if c = 9 then kB (⟨#[97,112,112,101,110,100,32,99,108,101,97,114,32,99,111,112,121,32,99,111,117,110,116,32,101,120,116,101,110,100,32,105,110,100,101,120,32,105,110,115,101,114,116,32,112,111,112,32,114,101,109,111,118,101,32,114,101,118,101,114,115,101,32,115,111,114,116]⟩ : ByteArray) else if c = 10 then kB (⟨#[99,108,101,97,114,32,99,111,112,121,32,103,101,116,32,105,116,101,109,115,32,107,101,121,115,32,112,111,112,32,115,101,116,95,100,101,102,97,117,108,116,32,117,112,100,97,116,101,32,118,97,108,117,101,115]⟩ : ByteArray) else if c = 11 then kB (⟨#[97,100,100,32,99,108,101,97,114,32,99,111,112,121,32,100,105,115,99,97,114,100,32,114,101,109,111,118,101]⟩ : ByteArray) else if c = 18 then [(⟨#[119,105,116,104,95,100,101,108,101,116,101,114]⟩ : ByteArray),(⟨#[119,105,116,104,95,115,101,116,116,101,114]⟩ : ByteArray)] else if c = 23 then [(⟨#[99,108,111,115,101]⟩ : ByteArray),(⟨#[115,101,110,100]⟩ : ByteArray),(⟨#[116,104,114,111,119]⟩ : ByteArray)] else if c = 25 then [(⟨#[99,97,110,99,101,108]⟩ : ByteArray),(⟨#[100,111,110,101]⟩ : ByteArray)] else []
theorem vI (c : Int) : Fn Tryz.prog 69 [.v (.int .i64 c)] (ssD (mtL c)) := by
 refine yQ zP Tryz.func69 rfl rfl rfl rfl rfl rfl ?_;intro w0 s0 mx;refine zN 100 ?_;refine zB (zN 200 ?_);refine zU (zN 300 ?_);refine zZ (fun c2 => ?_) (fun c2 => ?_)
 ·
  refine zN 400 ?_;refine zL (zM (zK ?_));exact FinV.ret rfl (SubP.slrSl (by rw [mtL,if_pos c2];rfl))
 ·
  refine zN 500 ?_;refine zZ (fun c4 => ?_) (fun c4 => ?_)
  ·
   refine zN 600 ?_;refine zL (zM (zK ?_));exact FinV.ret rfl (SubP.slrSl (by rw [mtL,if_neg c2,if_pos c4];rfl))
  ·
   refine zN 700 ?_;refine zZ (fun c6 => ?_) (fun c6 => ?_)
   ·
    refine zB (zE zP [] 800 rfl ?_);refine zF ?_;refine zQ _ (gC _ rfl (by decide +kernel) (by decide +kernel) (by decide +kernel)) rfl ?_;refine zF ?_;refine zC (zA (zL (zM (zK ?_))));exact FinV.ret rfl (SubP.of_eq (by rw [mtL,if_neg c2,if_neg c4,if_pos c6];try rfl))
   ·
    refine zN 900 ?_;refine zZ (fun c8 => ?_) (fun c8 => ?_)
    ·
     refine zN 1000 ?_;refine zL (zM (zK ?_));exact FinV.ret rfl (SubP.slrSl (by rw [mtL,if_neg c2,if_neg c4,if_neg c6,if_pos c8];rfl))
    ·
     refine zN 1100 ?_;refine zZ (fun c10 => ?_) (fun c10 => ?_)
     ·
      refine zN 1200 ?_;refine zL (zM (zK ?_));exact FinV.ret rfl (SubP.slrSl (by rw [mtL,if_neg c2,if_neg c4,if_neg c6,if_neg c8,if_pos c10];rfl))
     ·
      refine zN 1300 ?_;refine zZ (fun c12 => ?_) (fun c12 => ?_)
      ·
       refine zB (zE zP [] 1400 rfl ?_);refine zF ?_;refine zQ _ (gC _ rfl (by decide +kernel) (by decide +kernel) (by decide +kernel)) rfl ?_;refine zF ?_;refine zC (zA (zL (zM (zK ?_))));exact FinV.ret rfl (SubP.of_eq (by rw [mtL,if_neg c2,if_neg c4,if_neg c6,if_neg c8,if_neg c10,if_pos c12];try rfl))
      ·
       refine zN 1500 ?_;refine zZ (fun c14 => ?_) (fun c14 => ?_)
       ·
        refine zB (zE zP [] 1600 rfl ?_);refine zF ?_;refine zQ _ (gC _ rfl (by decide +kernel) (by decide +kernel) (by decide +kernel)) rfl ?_;refine zF ?_;refine zC (zA (zL (zM (zK ?_))));exact FinV.ret rfl (SubP.of_eq (by rw [mtL,if_neg c2,if_neg c4,if_neg c6,if_neg c8,if_neg c10,if_neg c12,if_pos c14];try rfl))
       ·
        refine zN 1700 ?_;refine zZ (fun c16 => ?_) (fun c16 => ?_)
        ·
         refine zB (zE zP [] 1800 rfl ?_);refine zF ?_;refine zQ _ (gC _ rfl (by decide +kernel) (by decide +kernel) (by decide +kernel)) rfl ?_;refine zF ?_;refine zC (zA (zL (zM (zK ?_))));exact FinV.ret rfl (SubP.of_eq (by rw [mtL,if_neg c2,if_neg c4,if_neg c6,if_neg c8,if_neg c10,if_neg c12,if_neg c14,if_pos c16];try rfl))
        ·
         refine zN 1900 ?_;refine zZ (fun c18 => ?_) (fun c18 => ?_)
         ·
          refine zN 2000 ?_;refine zL (zM (zK ?_));exact FinV.ret rfl (SubP.slrSl (by rw [mtL,if_neg c2,if_neg c4,if_neg c6,if_neg c8,if_neg c10,if_neg c12,if_neg c14,if_neg c16,if_pos c18];rfl))
         ·
          refine zN 2100 ?_;refine zZ (fun c20 => ?_) (fun c20 => ?_)
          ·
           refine zN 2200 ?_;refine zL (zM (zK ?_));exact FinV.ret rfl (SubP.slrSl (by rw [mtL,if_neg c2,if_neg c4,if_neg c6,if_neg c8,if_neg c10,if_neg c12,if_neg c14,if_neg c16,if_neg c18,if_pos c20];rfl))
          ·
           refine zN 2300 ?_;refine zZ (fun c22 => ?_) (fun c22 => ?_)
           ·
            refine zN 2400 ?_;refine zL (zM (zK ?_));exact FinV.ret rfl (SubP.slrSl (by rw [mtL,if_neg c2,if_neg c4,if_neg c6,if_neg c8,if_neg c10,if_neg c12,if_neg c14,if_neg c16,if_neg c18,if_neg c20,if_pos c22];rfl))
           ·
            refine zO (zR (zA (zN 2500 ?_)));refine zL ?_;exact FinV.ret rfl (SubP.nilSl (by rw [mtL,if_neg c2,if_neg c4,if_neg c6,if_neg c8,if_neg c10,if_neg c12,if_neg c14,if_neg c16,if_neg c18,if_neg c20,if_neg c22]))
def uR (h : List Ob) (p : ByteArray × Bool) (v : Vl) : ByteArray × Bool :=
 if v.k = 7 then (v.s,true) else if (zJ h v).kind = 7 then ((zJ h v).name,true) else if (zJ h v).kind = 8 then p else (⟨#[]⟩,false)
def kU (h : List Ob) (v : Vl) : ByteArray × Bool := uR h (⟨#[]⟩,false) v
def qX (h : List Ob) (v : Vl) : ByteArray × Bool := uR h (kU h ((zJ h v).items.getD 0 vl0)) v
theorem meth_item {h : List Ob} (g : Uh h) {v : Vl} (hk : (zJ h v).kind = 8) : 0 < (zJ h v).items.length ∧ uG h ((zJ h v).items.getD 0 vl0) = true := by
 have h1 := qA (h := h) (v := v) (by omega);have hin := yB h1.2.1;rw [h1.2.2] at hk ⊢;by_cases h49 : v.r.toNat < 49
 ·rw [show zW h v.r = bgO v.r.toNat from g.lo_at h49] at hk;have h9 : (bgO v.r.toNat).kind = 9 := rfl;omega
 ·have u := g.hi_at (i := v.r.toNat) (by omega) hin.2;have hs := (tF u.shape).1;have hl := u.links;rw [← uJ hin] at hs hl;have hc : cntS (zW h v.r) = 2 := by rw [xW 8 50 (by decide +kernel) hk];decide +kernel
  refine ⟨by omega,?_⟩;rw [qY,if_neg (by omega),if_neg (by omega),if_pos hk] at hl;exact hl
theorem named_is (h : List Ob) (g : Uh h) (v : Vl) : (qX h v).2 = ((decide (v.k = 7) || decide ((zJ h v).kind = 7)) || decide ((zJ h v).kind = 8)) := by
 unfold qX uR;by_cases c1 : v.k = 7
 ·rw [if_pos c1,decide_eq_true c1];rfl
 ·rw [if_neg c1,decide_eq_false c1];by_cases c2 : (zJ h v).kind = 7
  ·rw [if_pos c2,decide_eq_true c2];rfl
  ·rw [if_neg c2,decide_eq_false c2];by_cases c3 : (zJ h v).kind = 8
   ·rw [if_pos c3,decide_eq_true c3];have hc := (meth_item g c3).2;rw [uG,Bool.or_eq_true,decide_eq_true_eq,decide_eq_true_eq] at hc;show (uR h _ _).2 = true;rw [uR];rcases hc with hc | hc
    ·rw [if_pos hc]
    ·by_cases c4 : ((zJ h v).items.getD 0 vl0).k = 7
     ·rw [if_pos c4]
     ·rw [if_neg c4,if_pos hc]
   ·rw [if_neg c3,decide_eq_false c3];rfl
section
variable {P : Program} {b : Ba}
def exJ {ι : Type} (I : ι → DS) (K : Exit → DS → Prop) (ex : Exit) (S : DS) : Prop := match ex with
 | .normal => ∃ i,LeD S (I i)
 | e => K e S
theorem jZ {ι : Type} {I : ι → DS} {K : Exit → DS → Prop} {S : DS} (i : ι) (h : LeD S (I i)) : exJ I K .normal S := ⟨i,h⟩
theorem xA {ι : Type} {I : ι → DS} {K : Exit → DS → Prop} {S : DS} (h : K .ret S) : exJ I K .ret S := h
theorem dC {ι : Type} (ks os : List Nat) (N : Nat) (chg : ι → List (Nat × D)) (ochg : ι → List (Nat × DOwn)) {x y : Code} {tm : List (Nat × D)} {ow : List (Nat × DOwn)} {nx : Nat} {K : Exit → DS → Prop}
  (h : xH0 ks tm fun base => xG0 os ow fun ob => Ev P b x ⟨tm,ow,nx⟩ (exJ (fun i => ⟨chg i ++ base,ochg i ++ ob,N⟩) K) ∧ ∀ i,Ev P b y ⟨chg i ++ base,ochg i ++ ob,N⟩ K) : Ev P b (.seq x y) ⟨tm,ow,nx⟩ K := by
 obtain ⟨base,h1⟩ := kX h;obtain ⟨ob,h2,h3⟩ := kW h1;refine zB ?_;intro w s g a Q hr hK;refine h2 w s g a Q hr fun ex w' s' g' a' S' h4 h5 => hK ex w' s' g' a' S' h4 ?_
 cases ex with
 | normal =>
  obtain ⟨i,hi⟩ := h5;exact tL0 _ hi (h3 i)
 | _ => exact h5
end
def thwD (k : Nat) : D → D
 | .own k' sz rows => match Nat.beq k' k with
  | true => match rows with
   | [] => .mo k' 0
   | r :: l => .own k' sz (r :: l)
  | false => .own k' sz rows
 | d => d
def thwL (k : Nat) : List D → List D
 | [] => []
 | d :: l => thwD k d :: thwL k l
def thwT (k : Nat) : List (Nat × D) → List (Nat × D)
 | [] => []
 | (t,d) :: l => (t,thwD k d) :: thwT k l
def thwO (k : Nat) (e : TypeId) (sz : Nat) : List (Nat × DOwn) → List (Nat × DOwn)
 | [] => []
 | (j,c) :: l => (match Nat.beq j k with
  | true => (j,.mrow e sz (.lst []))
  | false => match c with
   | .box t cs => (j,.box t (thwL k cs))
   | c => (j,c)) :: thwO k e sz l
theorem vA0 {k : Nat} : ∀ {l : List (Nat × D)} {t : Nat},yY t (thwT k l) = (yY t l).map (thwD k)
 | [],_ => rfl
 | (u,d) :: l,t => by
  show yY t ((u,thwD k d) :: thwT k l) = _;rw [yV,yV];by_cases h : u = t
  ·simp [h]
  ·rw [if_neg h,if_neg h];exact vA0
theorem xZ0 {w : World} {s : Sb} {g : Gh} {k : Nat} (hmo : ∀ v,g.gn k 0 = some v → (TV.mo k 0).P w s g v) {d : D} {v : Value} (hv : d.tv.P w s g v) : (thwD k d).tv.P w s g v := by
 cases d with
 | own k' sz rows =>
  show (match Nat.beq k' k with | true => (match rows with | [] => D.mo k' 0 | r :: l => D.own k' sz (r :: l)) | false => D.own k' sz rows).tv.P w s g v
  cases hb : Nat.beq k' k with
  | false => exact hv
  | true =>
   have e := Nat.eq_of_beq_eq_true hb;subst e
   cases rows with
   | nil =>
    rw [D.tv,TV.P] at hv;show (D.mo k' 0).tv.P w s g v;rw [D.tv];exact hmo v hv.2
   | cons r l => exact hv
 | _ => exact hv
theorem xY0 {w : World} {s : Sb} {g : Gh} {k : Nat} (hmo : ∀ v,g.gn k 0 = some v → (TV.mo k 0).P w s g v) : ∀ {l : List D} {vs : List Value},AllT w s g (D.tvl l) vs → AllT w s g (D.tvl (thwL k l)) vs
 | [],vs,hv => by cases vs with | nil => rw [thwL,D.tvl];trivial | cons _ _ => exact hv.elim
 | d :: l,[],hv => by rw [D.tvl] at hv;exact hv.elim
 | d :: l,v :: vs,hv => by
  rw [D.tvl] at hv;rw [thwL,D.tvl];exact ⟨xZ0 hmo hv.1,xY0 hmo hv.2⟩
theorem vC0 {k : Nat} : ∀ {l : List D},(∀ d ∈ D.tvl l,d.one = true) → ∀ d ∈ D.tvl (thwL k l),d.one = true
 | [],_,d,hd => by rw [thwL,D.tvl] at hd;cases hd
 | x :: l,h,d,hd => by
  rw [thwL,D.tvl] at hd;rw [D.tvl] at h;rcases List.mem_cons.1 hd with rfl | hd
  ·have h1 := h x.tv (by simp)
   cases x with
   | own k' sz rows =>
    show (match Nat.beq k' k with | true => (match rows with | [] => D.mo k' 0 | r :: l => D.own k' sz (r :: l)) | false => D.own k' sz rows).tv.one = true
    cases Nat.beq k' k with
    | false => rfl
    | true => cases rows <;> rfl
   | _ => exact h1
  ·exact vC0 (fun y hy => h y (by simp [hy])) d hd
theorem vB0 {k : Nat} {e : TypeId} {sz : Nat} : ∀ {l : List (Nat × DOwn)} {j : Nat} {c : DOwn},yY j (thwO k e sz l) = some c → ∃ c0,yY j l = some c0 ∧ ((j = k ∧ c = .mrow e sz (.lst [])) ∨ (j ≠ k ∧ ((∃ t cs,c0 = .box t cs ∧ c = .box t (thwL k cs)) ∨ (c = c0 ∧ ∀ t cs,c0 ≠ .box t cs))))
 | [],_,_,h => by cases h
 | (i,c0) :: l,j,c,h => by
  unfold thwO at h;have step : ∀ x : DOwn,yY j ((i,x) :: thwO k e sz l) = some c → (i = j ∧ x = c) ∨ (i ≠ j ∧ yY j (thwO k e sz l) = some c) := fun x hx => by
   rw [yV] at hx;by_cases hi : i = j
   ·rw [if_pos hi] at hx;exact .inl ⟨hi,Option.some.inj hx⟩
   ·rw [if_neg hi] at hx;exact .inr ⟨hi,hx⟩
  have rest : i ≠ j → yY j (thwO k e sz l) = some c → ∃ c0',yY j ((i,c0) :: l) = some c0' ∧ ((j = k ∧ c = .mrow e sz (.lst [])) ∨ (j ≠ k ∧ ((∃ t cs,c0' = .box t cs ∧ c = .box t (thwL k cs)) ∨ (c = c0' ∧ ∀ t cs,c0' ≠ .box t cs)))) := fun hi hx => by
   obtain ⟨c1,h1,h2⟩ := vB0 hx;exact ⟨c1,by rw [yV,if_neg hi];exact h1,h2⟩
  cases hb : Nat.beq i k with
  | true =>
   rw [hb] at h;have hik := Nat.eq_of_beq_eq_true hb;rcases step _ h with ⟨rfl,rfl⟩ | ⟨hi,hx⟩
   ·exact ⟨c0,by rw [yV];simp,.inl ⟨hik,rfl⟩⟩
   ·exact rest hi hx
  | false =>
   rw [hb] at h;have hik : i ≠ k := by rintro rfl;rw [Nat.beq_refl] at hb;cases hb
   cases c0 with
   | box t cs =>
    rcases step _ h with ⟨rfl,rfl⟩ | ⟨hi,hx⟩
    ·exact ⟨_,by rw [yV];simp,.inr ⟨hik,.inl ⟨t,cs,rfl,rfl⟩⟩⟩
    ·exact rest hi hx
   | _ =>
    rcases step _ h with ⟨rfl,rfl⟩ | ⟨hi,hx⟩
    ·exact ⟨_,by rw [yV];simp,.inr ⟨hik,.inr ⟨rfl,fun _ _ h => by cases h⟩⟩⟩
    ·exact rest hi hx
section
variable {P : Program} {b : Ba}
theorem uG0 (k : Nat) {e : TypeId} {sz : Nat} {c : Code} {tm : List (Nat × D)} {ow : List (Nat × DOwn)} {nx : Nat} {K : Exit → DS → Prop} (hk : yY k ow = some (.row e sz 0))
  (h : Ev P b c ⟨thwT k tm,thwO k e sz ow,nx⟩ K) : Ev P b c ⟨tm,ow,nx⟩ K := by
 intro w s g a Q hr hK;have hk0 : fnd k (ows ow) = some (.row e sz 0) := by rw [qO,hk];rfl
 obtain ⟨hok,hblk⟩ := hr.ow k _ hk0;obtain ⟨hmr,hmo⟩ := hok.thaw;have howf : ∀ {j : Nat} {c : Own},fnd j (ows (thwO k e sz ow)) = some c → ∃ c0,fnd j (ows ow) = some c0 ∧ Ok1 w s g j c ∧ blk g j c = blk g j c0 := fun {j c} hj => by
  rw [qO] at hj
  cases hq : yY j (thwO k e sz ow) with
  | none => rw [hq] at hj;cases hj
  | some d =>
   rw [hq] at hj
   cases hj;obtain ⟨c0,h1,h2⟩ := vB0 hq;have h1' : fnd j (ows ow) = some c0.o := by rw [qO,h1];rfl
   refine ⟨c0.o,h1',?_⟩;rcases h2 with ⟨rfl,rfl⟩ | ⟨hne,⟨t,cs,rfl,rfl⟩ | ⟨rfl,_⟩⟩
   ·rw [hk] at h1
    cases h1;exact ⟨hmr,rfl⟩
   ·obtain ⟨N,vs,g1,g2,g3,g4,g5⟩ := (hr.ow j _ h1').1;exact ⟨⟨N,vs,g1,g2,xY0 hmo g3,vC0 g4,g5⟩,rfl⟩
   ·exact ⟨(hr.ow j _ h1').1,rfl⟩
 refine h w s g a Q ⟨hr.kp,hr.lt,hr.sz,fun t d hd => ?_,fun j c hj => ?_,fun j j' c c' N h1 h2 hne hb => ?_,hr.fr,hr.df,hr.gb⟩ hK
 ·have hd' : fnd t (tvs (thwT k tm)) = some d := hd;rw [qK,vA0] at hd'
  cases hq : yY t tm with
  | none => rw [hq] at hd';cases hd'
  | some x =>
   rw [hq] at hd'
   cases hd';obtain ⟨v,h1,h2⟩ := hr.tm t x.tv (by show fnd t (tvs tm) = _;rw [qK,hq];rfl);exact ⟨v,h1,xZ0 hmo h2⟩
 ·obtain ⟨c0,h1,h2,h3⟩ := howf hj;exact ⟨h2,fun N hb => (hr.ow j c0 h1).2 N (by rw [← h3];exact hb)⟩
 ·obtain ⟨c0,e1,_,e3⟩ := howf h1;obtain ⟨d0,f1,_,f3⟩ := howf h2;rw [f3];exact hr.sep j j' c0 d0 N e1 f1 hne (by rw [← e3];exact hb)
end
theorem Sub.mo {k n m : Nat} (h : n = m) : Sub (.mo k n) (.mo k m) := by subst h;exact Sub.refl _
theorem SubO.mr {ty : TypeId} {sz : Nat} {m m' : MR} (h : m.rows = m'.rows) : SubO (.mrow ty sz m) (.mrow ty sz m') := ⟨rfl,rfl,congrArg D.pvss h⟩
theorem SubO.mp {ty : TypeId} {sz : Nat} {m m' : MR} (h : D.pvss m.rows = D.pvss m'.rows) : SubO (.mrow ty sz m) (.mrow ty sz m') := ⟨rfl,rfl,h⟩
end Go.Proofs.YtnajlcfdjjmfiaaGreatDoor
/-
  DERIVED: THE SHELF's CONTRACTS AT THIS DUMP,IN PLAIN WORDS (tools/lay-plain.mjs out of 'YtnajlcfdjjmfiaaGreatDoorShelf3.lean',which tools/lay-shelf.mjs wrote): THE SAME DECLARATIONS UNDER THE SAME NAMES: 'import','namespace','open','def','theorem' AND NOTHING ELSE: no command of the shelf's: FOR A HAND-IN. Each laying: the table of numbers ('.._ren') and one theorem,a field a fact of the dump's own or the kernel's comparison;each contract: ONE APPLICATION.
-/
namespace Go.Proofs
open Go.Shelf
def Tryz.laysGrowV_ren : Go.Shelf.Ren := ⟨fun | 4 => 102 | n => n,fun | 22 => 34 | 25 => 29 | 3 => 3 | 4 => 4 | 9 => 9 | 20 => 20 | 0 => 0 | n => n,fun | n => n⟩
theorem Tryz.laysGrowV : Go.Proofs.Lays8.n4 Tryz.prog Tryz.laysGrowV_ren := {
 mixed := by kernel_rfl
 f4 := ⟨Tryz.f102.name,by decide,Tryz.func102.trans (congrArg some (by kernel_rfl))⟩
 t0 := Tryz.underlying0
 a0 := Tryz.isAgg0
 z0 := Tryz.sizeOf0
 v0 := Tryz.zeroValue0
 t3 := Tryz.underlying3
 a3 := Tryz.isAgg3
 z3 := Tryz.sizeOf3
 v3 := Tryz.zeroValue3
 t4 := Tryz.underlying4
 a4 := Tryz.isAgg4
 z4 := Tryz.sizeOf4
 v4 := Tryz.zeroValue4
 t9 := Tryz.underlying9
 a9 := Tryz.isAgg9
 z9 := Tryz.sizeOf9
 v9 := Tryz.zeroValue9
 t20 := Tryz.underlying20
 a20 := Tryz.isAgg20
 z20 := Tryz.sizeOf20
 v20 := Tryz.zeroValue20
 t22 := Tryz.underlying34
 a22 := Tryz.isAgg34
 z22 := Tryz.sizeOf34
 v22 := Tryz.zeroValue34 }
end Go.Proofs
namespace Go.Proofs.YtnajlcfdjjmfiaaGreatDoor
open Go.RowKit Go.Shelf
theorem grow_O {P : Program} {f : FuncId} {e : TypeId} {sz : Nat} (hb : Bod P f) (n : Nat)
  (h0 : n = 0 → ∀ w,Calls P f #[.slice none 0 0,.int .i64 n] w fun r w' => r = .returned (.slice none 0 0) ∧ w' = w)
  (h1 : 0 < n → ∀ w : World,Calls P f #[.slice none 0 0,.int .i64 n] w fun r w' => ∃ (cur : Array Value) (G : Nat),r = .returned (.slice (some ⟨w.heap.size,0,none⟩) 0 G) ∧ w' = w.drew.alloc (.cells cur e) ∧ cur.size = G * sz ∧ G ≤ maxLen) :
  FnO P f [.v (.slice none 0 0),.v (.int .i64 n)] e sz [] := by
 refine ⟨hb,fun w s vs hlt _ hv => ?_⟩
 match vs,hv with
 | [a,b],⟨ha,hb',_⟩ =>
  have ha : a = .slice none 0 0 := ha;have hb' : b = .int .i64 n := hb';subst ha hb';rcases Nat.eq_zero_or_pos n with hn | hn
  ·refine (h0 hn w).mono fun r w' hq => ?_;obtain ⟨rfl,rfl⟩ := hq;refine ⟨s,⟨fun _ => none,fun k m => if k = 0 ∧ m = 0 then some (.slice none 0 0) else none⟩,0,.slice none 0 0,rfl,?_,⟨fun m hm => ?_,_,rfl,.inl ⟨rfl,rfl⟩⟩,fun N hN => ?_,⟨Ex.refl _ _,hlt,rfl,rfl,rfl,Nat.le_refl _,fun _ _ => rfl,fun _ _ h => .inl h,fun _ _ h => .inl h⟩⟩
   ·rw [TV.P];exact ⟨⟨none,0,rfl,Nat.le_refl _,by omega,(fun _ h => by cases h),fun i row h => by simp [D.pvss] at h⟩,rfl⟩
   ·have hm : 0 < m := hm;exact if_neg (by omega)
   ·cases hN
  ·refine (h1 hn w).mono fun r w' hq => ?_;obtain ⟨cur,G,rfl,rfl,hc,hG⟩ := hq;have hnew : (w.drew.alloc (.cells cur e)).heap[w.heap.size]? = some (.cells cur e (0,0)) := heap_alloc_new w.drew _;have hold : ∀ N,N < w.heap.size → (w.drew.alloc (.cells cur e)).heap[N]? = w.heap[N]? := fun N hN => heap_alloc_old w.drew _ hN;have hsz : (w.drew.alloc (.cells cur e)).heap.size = w.heap.size + 1 := by
    show (w.drew.heap.push _).size = _;rw [Array.size_push];rfl
   refine ⟨s,⟨fun _ => none,fun k m => if k = 0 ∧ m = 0 then some (.slice (some ⟨w.heap.size,0,none⟩) 0 G) else none⟩,0,.slice (some ⟨w.heap.size,0,none⟩) 0 G,rfl,?_,⟨fun m hm => ?_,_,rfl,.inr ⟨w.heap.size,G,cur,rfl,.of hnew,Nat.zero_le _,hG,hc,fun o _ h => ?_⟩⟩,fun N hN => ?_,⟨⟨fun _ _ h => h,fun b o hs => vR (hold b (hlt b o hs)),fun _ _ h => h⟩,fun B o h => ?_,rfl,rfl,rfl,by omega,hold,fun _ _ h => .inl h,fun _ _ h => .inl h⟩⟩
   ·rw [TV.P];exact ⟨⟨_,G,rfl,Nat.zero_le _,by unfold maxLen at hG;omega,(fun _ h => by cases h),fun i row h => by simp [D.pvss] at h⟩,rfl⟩
   ·have hm : 0 < m := hm;exact if_neg (by omega)
   ·have := hlt _ _ h;omega
   ·have hN : some w.heap.size = some N := hN
    cases hN;exact Nat.le_refl _
   ·have := hlt B o h;omega
theorem GrowV_ok (n : Nat) (hn : n ≤ 100000000) : FnO Tryz.prog 102 [.v (.slice none 0 0),.v (.int .i64 n)] 29 7 [] := by
 refine grow_O ⟨_,Tryz.func102,rfl,rfl⟩ n (fun h w => ?_) fun h w => ?_
 ·subst h;exact Any8.slices_Grow_room Tryz.laysGrowV none 0 0 0 w (by omega) (by omega) (by omega) (by omega)
 ·obtain ⟨ie,z,hu,hi,hz,hsz,hzc,hs0,hb0,hb1⟩ := (xK (yA (t := 34) zP (show fnd 34 TT = some (.sl 29 7) by rfl))).2.2.h
  have hx := Any8.slices_Grow_grow Tryz.laysGrowV ie z hi hz (by omega) none 0 0 n [] w (Nat.le_refl _) (by omega) (by
   have := Nat.mul_le_mul (show 0 + n ≤ 100000000 by omega) hb1;omega) (by omega) (by simp) (fun _ => rfl) (fun _ h => by cases h)
  refine hx.mono fun r w' hq => ?_;obtain ⟨rfl,rfl⟩ := hq;have hG : n ≤ grownCap w (0 + n) 0 (Tryz.laysGrowV_ren.t 25) := Nat.le_trans (by omega) (grownCap_ge w (0 + n) 0 _);refine ⟨_,_,rfl,rfl,?_,grownCap_le_maxLen w _ _ _ (by unfold maxLen;omega)⟩;simp only [Array.size_append,List.size_toArray,List.length_nil,size_zeroCells,hzc];omega
open Go.RowKit
variable {md me : Bool}
def vssD (l : List (List Vl)) : D := .sl false 1 l (fun x => [vsD x]) []
def caS (f : Vl) (l : List Vl) : St := ⟨2,vl0,0,ByteArray.empty,f,l⟩
def ctL (L : List (List Vl)) (k : Nat) : List Vl := (L.take k).flatten
theorem bS {L : List (List Vl)} {k : Nat} (h : k < L.length) : ctL L (k + 1) = ctL L k ++ L.getD k [] := by
 unfold ctL;rw [List.take_add_one,List.getElem?_eq_getElem h,List.flatten_append,List.getD_eq_getElem?_getD,List.getElem?_eq_getElem h];simp
theorem kU0 (L : List (List Vl)) (k : Nat) : (ctL L k).length ≤ (ctL L L.length).length := by
 unfold ctL;rw [List.take_length]
 conv => rhs;rw [← List.take_append_drop k L,List.flatten_append,List.length_append]
 omega
theorem dH0 (a b : List Vl) : ctL [a,b] [a,b].length = a ++ b := by simp [ctL]
theorem SubP.slrRows {α : Type} {m : Bool} {sz : Nat} {rows : List (List D)} {l : List α} {f : α → List D} {e : α} (h : RowsP rows (l.map f)) : SubP (.slr m sz rows) (.sl m sz l f e) := fun w s v hv => by
 have h1 := vL0 (m := m) (sz := sz) h (w := w) (s := s) (v := v) hv;rw [yK,List.map_map] at h1;exact h1
theorem bW0 (h : List Ob) (v : Vl) (s : ByteArray) : (spS h v s).2.1.length ≤ 1 := by
 unfold spS;repeat' split
 all_goals first | exact Nat.le_refl _ | exact Nat.zero_le _
theorem cH (L : List (List Vl)) (hl : (ctL L L.length).length ≤ 100000000) (hL : L.length ≤ 1000) : FnO Tryz.prog 72 [vssD L] 29 7 ((ctL L L.length).map vlD) := by
 refine bH Tryz.func72 rfl rfl rfl rfl rfl rfl ?_;intro w0 s0 mx;refine zN 100 ?_;refine zN 200 ?_;refine zB (zN 300 ?_);refine zU ?_;refine yH (ι := {k : Nat // k ≤ L.length}) [0,9,10] [] 350 (fun x => [(3,.v (.int .i64 ((ctL L x.1).length : Nat))),(11,.v (.int .i64 x.1))]) (fun _ => []) (fun x => L.length - x.1) ⟨0,Nat.zero_le _⟩ ?_;refine ⟨⟨yR,yM,rfl,rfl⟩,fun x => ?_⟩;have hk : x.1 ≤ L.length := x.2;have hf := kU0 L (x.1 + 1);have hn : ∀ h : x.1 < L.length,(ctL L (x.1 + 1)).length = (ctL L x.1).length + (L.getD ((x.1 : Nat) : Int).toNat []).length := fun h => by rw [bS h,List.length_append];rfl
 have hf0 := kU0 L x.1;refine zN 400 ?_;refine zB (zZ (fun c3 => ?_) (fun c3 => ?_))
 ·
  refine zO (zA (zB (zU (zN 500 ?_))));refine zB (zE zP [] 600 rfl ?_);repeat (first | refine zG ?_ | refine zH ?_ | refine zV (by first | (have h9 := hn c3;exact ini (by omega) (by omega)) | first | exact trivial | omega | exact ini (by omega) (by omega) | (intro hh;simp at hh;exact ini (by omega) (by omega)) | (intro hh;simp at hh ⊢;omega) | (simp at *;omega) | (simp_all;done)) ?_)
  refine zC (zA (zN 700 ?_));refine zZ (fun c6 => ?_) (fun c6 => ?_)
  ·
   omega
  ·
   refine zO (zR (zA (qC zP [] 900 ?_)));exact zX (⟨x.1 + 1,by omega⟩) ⟨⟨Sub.int (by rw [bS c3,List.length_append];push_cast;rfl),Sub.int (by push_cast;rfl),yR⟩,yM,rfl,rfl⟩ (by show L.length - (x.1 + 1) < L.length - x.1;omega)
 ·
  refine yO (yF (yG (yC (zA ?_))));refine zB (zE zP [24] 1000 rfl ?_);refine zF ?_;refine jH _ _ _ (GrowV_ok _ (by have := kU0 L x.1;omega)) ?_;refine zF ?_;refine zC (zA (zB (zN 1100 ?_)));refine zU ?_;refine yH (ι := {k : Nat // k ≤ L.length}) [25,26] [] 1150 (fun y => [(27,.v (.int .i64 y.1)),(6,.own 401 7 ((ctL L y.1).map vlD))]) (fun y => [(401,.row 29 7 ((ctL L y.1).map vlD).length)]) (fun y => L.length - y.1) ⟨0,Nat.zero_le _⟩ ?_;refine ⟨⟨yR,yM,rfl,rfl⟩,fun y => ?_⟩;have hky : y.1 ≤ L.length := y.2;have hfy := kU0 L (y.1 + 1);have hfy0 := kU0 L y.1;have hny : ∀ h : y.1 < L.length,(ctL L (y.1 + 1)).length = (ctL L y.1).length + (L.getD ((y.1 : Nat) : Int).toNat []).length := fun h => by rw [bS h,List.length_append];rfl
  refine zN 1200 ?_;refine zB (zZ (fun c11 => ?_) (fun c11 => ?_))
  ·
   refine zO (zA (zB (zU (zN 1300 ?_))));refine zE zP [] 1400 rfl ?_;repeat (first | refine zG ?_ | refine zH ?_ | refine zV (by first | (have := hny c11;simp only [List.length_map];omega) | first | exact trivial | omega | exact ini (by omega) (by omega) | (intro hh;simp at hh;exact ini (by omega) (by omega)) | (intro hh;simp at hh ⊢;omega) | (simp at *;omega) | (simp_all;done)) ?_)
   refine zC (zR (zA (qC zP [] 1500 ?_)));exact zX (⟨y.1 + 1,by omega⟩) ⟨⟨Sub.int (by push_cast;rfl),Sub.own (by rw [bS c11,List.map_append];rfl),yR⟩,⟨⟨rfl,rfl,by show _ = (List.map vlD (ctL L (y.1 + 1))).length;rw [bS c11];simp⟩,yM⟩,rfl,rfl⟩ (by show L.length - (y.1 + 1) < L.length - y.1;omega)
  ·
   refine yO (yF (yG (yC (zA (zN 1600 ?_)))));refine zL ?_;have e : y.1 = L.length := by omega
   exact FinO.ret rfl rfl (by rw [e]) (by rw [e])
variable {md me : Bool}




def tooB : ByteArray := ⟨#[118,97,108,117,101,32,105,115,32,116,111,111,32,108,97,114,103,101]⟩
variable {md me : Bool}
theorem mI (l : List Nat) (hl : l.length ≤ 2000000) : FnO Tryz.prog 57 [usD l] 83 1 (l.map uD) := by
 refine bH Tryz.func57 rfl rfl rfl rfl rfl rfl ?_;intro w0 s0 mx;refine zB (zE zP [5] 100 rfl ?_);repeat (first | refine zG ?_ | refine zH ?_ | refine zV (by exact jL hl) ?_)
 refine zC (zA (zB (zB ?_)));refine uS Tryz.underlying25 rfl rfl rfl fun c hc => ?_;refine zA (zS rfl (fun c1 => ?_) (fun c1 => ?_))
 ·
  refine zB (zE zP [5] 300 rfl ?_);repeat (first | refine zG ?_ | refine zH ?_ | refine zV (by exact jL hl) ?_)
  refine zC (zA (zL (zK ?_)));exact FinO.nil rfl (by rw [hc c1];rfl)
 ·
  refine zO (zA ?_);refine zB (zE zP [5] 400 rfl ?_);repeat (first | refine zG ?_ | refine zH ?_ | refine zV (by first | rfl | exact jL hl | (rw [List.length_nil];have := jL (f := uD) hl;omega) | (have := jL (f := uD) hl;simp at this ⊢;omega)) ?_)
  refine zC (zA (zL ?_));exact FinO.ret rfl rfl rfl rfl
variable {md me : Bool}
theorem xX0 {α : Type} {f : α → List D} {l : List α} {k : Nat} (e : α) (h : k < l.length) : (l.take (k + 1)).map f = (l.take k).map f ++ [f (l.getD ((k : Nat) : Int).toNat e)] := by
 rw [List.take_add_one,List.getElem?_eq_getElem h,List.map_append,Int.toNat_natCast,List.getD_eq_getElem?_getD,List.getElem?_eq_getElem h];rfl
theorem pI0 {α : Type} {l : List α} {k : Nat} (h : k < l.length) : (l.take (k + 1)).length = (l.take k).length + 1 := by
 rw [List.length_take,List.length_take];omega
theorem gW0 {α : Type} {l : List α} {k : Nat} (e : α) (h : k < l.length) : l.getD ((k : Nat) : Int).toNat e ∈ l := by
 rw [Int.toNat_natCast,List.getD_eq_getElem?_getD,List.getElem?_eq_getElem h];exact List.getElem_mem _
theorem ob_own (o : Ob) (a b c d e : Nat) : D.pvs [.v (.int .i64 o.kind),.v (.string o.name),.v (.int .i64 o.cls),.own a 1 (o.refs.map iD),.own b 1 (o.order.map iD),.own c 1 (o.names.map sD),.own d 7 (o.items.map vlD),.own e 7 (o.keys.map vlD),.v (.int .i64 o.code),.v (.int .i64 o.state)] = D.pvs (obD o) := by
 simp only [obD,D.pvs,D.pv,yK,List.map_map];rfl
theorem pvss_snoc {a : List (List D)} {r : List D} : D.pvss (a ++ [r]) = D.pvss a ++ [D.pvs r] := by rw [yK,yK,List.map_append];rfl
theorem jD0 (l : List Vl) (hl : l.length ≤ 2000000) (hv : ∀ v ∈ l,VlIn v) : FnO Tryz.prog 23 [vsD l] 29 7 (l.map vlD) := by
 refine bH Tryz.func23 rfl rfl rfl rfl rfl rfl ?_;intro w0 s0 mx;refine zN 100 ?_;refine zN 200 ?_;refine jA 3 29 7 rfl ?_;refine zB (zN 300 ?_);refine zU ?_;refine yH (ι := {k : Nat // k ≤ l.length}) [6,7] [] 350 (fun x => [(8,.v (.int .i64 x.1)),(3,.own 200 7 ((l.take x.1).map vlD))]) (fun x => [(200,.row 29 7 ((l.take x.1).map vlD).length)]) (fun x => l.length - x.1) ⟨0,Nat.zero_le _⟩ ?_;refine ⟨⟨yR,yM,rfl,rfl⟩,fun x => ?_⟩;have hk : x.1 ≤ l.length := x.2;refine zN 400 ?_;refine zB (zZ (fun c3 => ?_) (fun c3 => ?_))
 ·
  refine zO (zA (zB (zU ?_)));have hvk : VlIn (l.getD ((x.1 : Nat) : Int).toNat vl0) := hv _ (gW0 vl0 c3);refine zN 500 ?_;refine zB (zT zP [15,19] [[],[0],[0,1],[0,1,2],[],[4],[4,5],(rgN 7),(rgN 7),[0,1,2,3,4,5,6,8],(rgN 10),(rgN 11),(rgN 12),(rgN 13)] 600 yP (by kernel_rfl) rfl ?_);refine zF ?_;refine jH _ _ _ (mI _ hvk.nn) ?_;refine zF ?_;refine jH _ _ _ (mI _ hvk.dn) ?_;refine zF ?_;refine zC (zA ?_);refine zE zP [] 700 rfl ?_;repeat (first | refine zG ?_ | refine zH ?_ | refine zV (by first | rfl | (simp only [List.length_map,List.length_take,List.length_cons,List.length_nil];omega) | first | exact trivial | omega | exact ini (by omega) (by omega) | (intro hh;simp at hh;exact ini (by omega) (by omega)) | (intro hh;simp at hh ⊢;omega) | (simp at *;omega) | (simp_all;done)) ?_)
  refine zC (zR (zA (qC zP [] 800 ?_)));exact zX (⟨x.1 + 1,by omega⟩) ⟨⟨Sub.int (by push_cast;rfl),Sub.ownRows (by rw [xX0 vl0 c3];exact (RowsP.refl _).append ⟨⟨SubP.refl _,SubP.refl _,SubP.ownSl rfl,SubP.refl _,SubP.ownSl rfl,SubP.refl _,SubP.refl _,trivial⟩,trivial⟩),yR⟩,⟨⟨rfl,rfl,by simp only [List.length_append,List.length_map];rw [pI0 c3];rfl⟩,yM⟩,rfl,rfl⟩ (by show l.length - (x.1 + 1) < l.length - x.1;omega)
 ·
  refine yO (yF (yG (yC (zA (zN 900 ?_)))));refine zL ?_;have e : l.take x.1 = l := List.take_of_length_le (by omega);exact FinO.ret rfl rfl (by rw [e]) (by rw [e])
theorem mJ0 (h : List Ob) (hh : HpIn h) : FnG Tryz.prog 9 [hpD md h] [] (.agg [.mo 0 h.length]) [.mrow 36 10 (.map h obD ob0)] := by
 have hhl := hh.len;refine jJ zP Tryz.func9 rfl rfl rfl rfl rfl rfl rfl ?_;intro w0 s0 mx;refine zN 100 ?_;refine zN 200 ?_;refine tZ 100 0 36 10 rfl rfl ?_;refine zB ?_;refine uG0 200 rfl ?_;refine zN 300 ?_;refine zU ?_;refine yH (ι := {k : Nat // k ≤ h.length}) [2,3,7,8] [1] 350 (fun x => [(9,.v (.int .i64 x.1))]) (fun x => [(100,.box 24 [.mo 200 (h.take x.1).length]),(200,.mrow 36 10 (.map (h.take x.1) obD ob0))]) (fun x => h.length - x.1) ⟨0,Nat.zero_le _⟩ ?_;refine ⟨⟨yR,⟨⟨rfl,Sub.mo rfl,rfl,trivial⟩,SubO.mr rfl,yM⟩,rfl,rfl⟩,fun x => ?_⟩;have hk : x.1 ≤ h.length := x.2;refine zN 400 ?_;refine zB (zZ (fun c3 => ?_) (fun c3 => ?_))
 ·
  refine zO (zA (zB (zU ?_)));have hob : ObIn (h.getD ((x.1 : Nat) : Int).toNat ob0) := hh.ob _ (gW0 ob0 c3);refine zN 500 ?_;refine zB (zT zP [15,18,21] mK17 600 yP (by kernel_rfl) rfl ?_);refine zF ?_;refine jH _ _ _ (mJ _ hob.rl) ?_;refine zF ?_;refine jH _ _ _ (mJ _ hob.ol) ?_;refine zF ?_;refine jH _ _ _ (jL0 _ hob.nl) ?_;refine zF ?_;refine zC (zA ?_);refine zB (zT zP [27,30] mK18 700 yP (by kernel_rfl) rfl ?_);refine zF ?_;refine jH _ _ _ (jD0 _ hob.il hob.iv) ?_;refine zF ?_;refine jH _ _ _ (jD0 _ hob.kl hob.kv) ?_;refine zF ?_;refine zC (zA ?_);refine zE zP [] 800 rfl ?_;repeat (first | refine zG ?_ | refine zH ?_ | refine zV (by first | rfl | (simp only [MR.len,List.length_take,List.length_cons,List.length_nil];have := hh.len;omega) | first | exact trivial | omega | exact ini (by omega) (by omega) | (intro hh;simp at hh;exact ini (by omega) (by omega)) | (intro hh;simp at hh ⊢;omega) | (simp at *;omega) | (simp_all;done)) ?_)
  refine zC (zR (zA (qC zP [] 900 ?_)));exact zX (⟨x.1 + 1,by omega⟩) ⟨⟨Sub.int (by push_cast;rfl),yR⟩,⟨⟨rfl,Sub.mo (by rw [pI0 c3];rfl),rfl,trivial⟩,SubO.mp (by show D.pvss (List.map obD _ ++ [_]) = D.pvss (List.map obD _);rw [xX0 ob0 c3,pvss_snoc,pvss_snoc,ob_own]),yM⟩,rfl,rfl⟩ (by show h.length - (x.1 + 1) < h.length - x.1;omega)
 ·
  refine yO (yF (yG (yC (zA (zN 1000 ?_)))));refine zL ?_;have e : h.take x.1 = h := List.take_of_length_le (by omega);exact FinH.ret 200 rfl rfl (by rw [e];exact Sub.refl _) ⟨SubO.mr (by rw [e]),trivial⟩
variable {md me : Bool}
def hpO (h : List Ob) : List DOwn := [.box 24 [.mo 1 h.length],.mrow 36 10 (.map h obD ob0)]
theorem vl_own (v : Vl) (a b : Nat) : D.pvs [.v (.int .i64 v.k),.v (.bool v.nn),.own a 1 (v.nl.map uD),.v (.bool v.dn),.own b 1 (v.dl.map uD),.v (.string v.s),.v (.int .i64 v.r)] = D.pvs (vlD v) := by
 simp only [vlD,D.pvs,D.pv,yK,List.map_map];rfl
theorem upd_same {α : Type} {f : α → List D} {e : α} {l : List α} {k : Nat} {r : List D} (hk : k < l.length) (hr : D.pvs r = D.pvs (f (l.getD ((k : Nat) : Int).toNat e))) : D.pvss ((l.map f).set ((k : Nat) : Int).toNat r) = D.pvss (l.map f) := by
 rw [Int.toNat_natCast] at *;rw [yK,yK,List.map_set,hr];apply List.ext_getElem?;intro i;rw [List.getElem?_set];by_cases h : k = i
 ·subst h;simp [hk,List.getD_eq_getElem?_getD]
 ·simp [h]
theorem app_ob {h : List Ob} {o : Ob} {r : List D} (hr : D.pvs r = D.pvs (obD o)) : D.pvss (h.map obD ++ [r]) = D.pvss ((h ++ [o]).map obD) := by rw [List.map_append,pvss_snoc,hr];exact pvss_snoc.symm
theorem yD0 (l : List Vl) (hl : l.length ≤ 2000000) : FnG Tryz.prog 40 [vsD l] [] (.mo 0 l.length) [.mrow 29 7 (.map l vlD vl0)] := by
 refine jJ zP Tryz.func40 rfl rfl rfl rfl rfl rfl rfl ?_;intro w0 s0 mx;refine zB (zE zP [] 100 rfl ?_);repeat (first | refine zG ?_ | refine zH ?_ | refine zV (by exact jL hl) ?_)
 refine zC (zA (zB (zB ?_)));refine uS Tryz.underlying34 rfl rfl rfl fun c hc => ?_;refine zA (zS rfl (fun c1 => ?_) (fun c1 => ?_))
 ·
  refine zB (zE zP [] 300 rfl ?_);repeat (first | refine zG ?_ | refine zH ?_ | refine zV (by exact jL hl) ?_)
  refine zC (zA ?_);refine jA 2 29 7 rfl ?_;refine uG0 300 rfl ?_;refine zL (zK ?_);obtain rfl := hc c1;exact FinH.ret 300 rfl rfl (Sub.refl _) ⟨SubO.mr rfl,trivial⟩
 ·
  refine zO (zA ?_);refine zB (zE zP [1005] 400 rfl ?_);repeat (first | refine zG ?_ | refine zH ?_ | refine zV (by first | rfl | exact jL hl | (simp only [MR.len,List.length_nil,List.length_map];omega)) ?_)
  refine zC (zA (zL ?_));exact FinH.ret 100 rfl rfl (Sub.mo (by rw [List.length_map,Nat.zero_add])) ⟨SubO.mr rfl,trivial⟩
theorem bB0 {P : Program} {K : DS → Prop} {p : Prop} {r : Out} (hr : r.sat P K) (hp : p := by first | exact ⟨rfl,by show _ < l.length;omega⟩ | rfl | first | exact trivial | omega | exact ini (by omega) (by omega) | (intro hh;simp at hh;exact ini (by omega) (by omega)) | (intro hh;simp at hh ⊢;omega) | (simp at *;omega) | (simp_all;done)) : (Out.need p r).sat P K := ⟨hp,hr⟩
theorem kY (l : List Vl) (hl : l.length ≤ 2000000) (hv : ∀ v ∈ l,VlIn v) : FnO Tryz.prog 122 [vsD l] 29 7 (l.map vlD) := by
 refine bH Tryz.func122 rfl rfl rfl rfl rfl rfl ?_;intro w0 s0 mx;refine zN 100 ?_;refine zB (zE zP [1006] 200 rfl ?_);refine zF ?_;refine yS _ _ (yD0 l hl) rfl ?_;refine zF ?_;refine zC (zA (zB (zN 300 ?_)));refine zU ?_;refine yH (ι := {k : Nat // k ≤ l.length}) [3,8] [] 350 (fun x => [(9,.v (.int .i64 x.1))]) (fun x => [(101,.mrow 29 7 (.map l vlD vl0))]) (fun x => l.length - x.1) ⟨0,Nat.zero_le _⟩ ?_;refine ⟨⟨yR,yM,rfl,rfl⟩,fun x => ?_⟩;have hk : x.1 ≤ l.length := x.2;refine zN 400 ?_;refine zB (zZ (fun c3 => ?_) (fun c3 => ?_))
 ·
  refine zO (zA (zB (zU ?_)));have hvk : VlIn (l.getD ((x.1 : Nat) : Int).toNat vl0) := hv _ (gW0 vl0 c3);refine zN 500 ?_;refine zT zP [22,29] [[],[],[],[],[],[],[4,5],[4,5,6],[4,5,6,7],[4,5,6,7,8],[4,5,6,7,8,9],[],[],[11,12],[11,12,13],[11,12,13,14],[11,12,13,14,15],[4,5,6,7,8,9,10,11,12,13,14,15,16],[0,1,4,5,6,7,8,9,10,11,12,13,14,15,16,17],[0,1,4,5,6,7,8,9,10,11,12,13,14,15,16,17,18],[0,1,4,5,6,7,8,9,10,11,12,13,14,15,16,17,18,19],[0,1,4,5,6,7,8,9,10,11,12,13,14,15,16,17,18,19,20],(rgN 22),(rgN 23),(rgN 24),(rgN 25)] 600 yP (by kernel_rfl) rfl ?_;repeat (first | refine zG ?_ | refine zH ?_ | refine bB0 ?_)
  refine jH _ _ _ (mI _ hvk.nn) ?_;repeat (first | refine zG ?_ | refine zH ?_ | refine bB0 ?_)
  refine jH _ _ _ (mI _ hvk.dn) ?_;repeat (first | refine zG ?_ | refine zH ?_ | refine bB0 ?_)
  refine zC (zR (zA (qC zP [] 700 ?_)));exact zX (⟨x.1 + 1,by omega⟩) ⟨⟨Sub.int (by push_cast;rfl),yR⟩,⟨SubO.mp (by show D.pvss (((l.map vlD).set _ _).set _ _) = _;rw [List.set_set];exact upd_same c3 (vl_own _ _ _)),yM⟩,rfl,rfl⟩ (by show l.length - (x.1 + 1) < l.length - x.1;omega)
 ·
  refine yO (yF (yG (yC (zA ?_))));refine bM 101 rfl (by repeat (first | exact trivial | exact rfl | refine ⟨?_,?_⟩)) (by repeat (first | exact trivial | refine ⟨?_,?_⟩)) ?_;refine zN 800 ?_;refine zL ?_;exact FinO.ret rfl rfl rfl rfl
theorem heapClone_ok (o : Ob) (ho : ObIn o) : Fn Tryz.prog 98 [.agg (obD o)] (.agg (obD o)) := by
 refine yQ zP Tryz.func98 rfl rfl rfl rfl rfl rfl ?_;intro w0 s0 mx;refine zN 100 ?_;refine zB (zT zP [5,8,11] mK17 200 yP (by kernel_rfl) rfl ?_);refine zF ?_;refine jH _ _ _ (mJ _ ho.rl) ?_;refine zF ?_;refine jH _ _ _ (mJ _ ho.ol) ?_;refine zF ?_;refine jH _ _ _ (jL0 _ ho.nl) ?_;refine zF ?_;refine zC (zA ?_);refine zB (zT zP [17,20] mK18 300 yP (by kernel_rfl) rfl ?_);refine zF ?_;refine jH _ _ _ (kY _ ho.il ho.iv) ?_;refine zF ?_;refine jH _ _ _ (kY _ ho.kl ho.kv) ?_;refine zF ?_;refine zC (zA (zN 400 ?_));refine zL ?_;exact FinV.ret rfl (SubP.agg ⟨SubP.refl _,SubP.refl _,SubP.refl _,SubP.ownSl rfl,SubP.ownSl rfl,SubP.ownSl rfl,SubP.ownSl rfl,SubP.ownSl rfl,SubP.refl _,SubP.refl _,trivial⟩)
theorem bA0 {P : Program} {K : DS → Prop} {p : Prop} {r : Out} (hr : r.sat P K) (hp : p := by first | rfl | exact ⟨rfl,by simp only [MR.len,List.length_map];omega⟩ | exact ⟨rfl,by simp [MR.len];omega⟩ | (simp only [MR.len,List.length_map,List.length_append,List.length_singleton];omega) | (simp [MR.len];exact ini (by omega) (by omega)) | first | exact trivial | omega | exact ini (by omega) (by omega) | (intro hh;simp at hh;exact ini (by omega) (by omega)) | (intro hh;simp at hh ⊢;omega) | (simp at *;omega) | (simp_all;done)) : (Out.need p r).sat P K := ⟨hp,hr⟩
theorem bE (h : List Ob) (o : Ob) (hh : h.length ≤ 4000000) (ho : ObIn o) : FnG Tryz.prog 61 [.bp 0 0,.agg (obD o)] (hpO h) (.v (.int .i64 (h.length : Nat))) (hpO (h ++ [o])) := by
 refine jJ zP Tryz.func61 rfl rfl rfl rfl rfl rfl rfl ?_;intro w0 s0 mx;refine zN 100 ?_;refine zB (zT zP [] [[],[],[1],[1,2],[1,2,3],[],[5],[5,6],[1,2,3,4,5,6,7],(rgN 9),(rgN 10),(rgN 11)] 200 yP (by kernel_rfl) rfl ?_);repeat (first | refine zG ?_ | refine zH ?_ | refine bA0 ?_)
 refine zQ _ (heapClone_ok _ (by first | assumption | omega | (simp_all;done))) rfl ?_;repeat (first | refine zG ?_ | refine zH ?_ | refine bA0 ?_)
 refine zC (zA ?_);refine zB (zE zP [] 300 rfl ?_);repeat (first | refine zG ?_ | refine zH ?_ | refine bA0 ?_)
 refine zC (zA (zL ?_));exact FinH.ret 2 rfl rfl (Sub.int (by simp)) ⟨⟨rfl,Sub.mo (by simp),rfl,trivial⟩,SubO.mp (app_ob rfl),trivial⟩
variable {md me : Bool}
def cpD (md : Bool) (h : List Ob) : D := .pt true [.sl md 10 h obD ob0]
section
variable {h : List Ob} {F G : Vl → Vl → Bool}
end
section
variable {h : List Ob} {x y : Ob} {i : Nat} (hi : i < y.keys.length)
include hi
end
variable {md me : Bool}
variable {md me : Bool}
variable {md me : Bool}
section
variable {P : Program} {b : Ba} {ops : Array Oper}
end
def ArgS : List D → List D → Prop
 | [],[] => True
 | d :: l,d' :: l' => Sub d d' ∧ ArgS l l'
 | _,_ => False
theorem ArgS.all {w : World} {s : Sb} {g : Gh} : ∀ {l l' : List D} {vs : List Value},ArgS l l' → AllT w s g (D.tvl l) vs → AllT w s g (D.tvl l') vs
 | [],[],_,_,h => h
 | d :: l,d' :: l',[],_,h => by rw [D.tvl] at h;simp [AllT] at h
 | d :: l,d' :: l',v :: vs,h,hv => by
  rw [D.tvl,AllT.cons] at hv;rw [D.tvl,AllT.cons];exact ⟨h.1 _ _ _ _ hv.1,h.2.all hv.2⟩
 | [],_ :: _,_,h,_ => h.elim
 | _ :: _,[],_,h,_ => h.elim
theorem FnG.args {P : Program} {f : FuncId} {args args' : List D} {own own' : List DOwn} {out : D} (h : FnG P f args own out own') (hs : ArgS args' args) : FnG P f args' own out own' :=
 ⟨h.bod,fun w s g vs hg ha => h.run w s g vs hg (hs.all ha)⟩
variable {md me : Bool}
theorem dG {h : List Ob} {n : Nat} {o : Ob} {row : List D} (hr : D.pvs row = D.pvs (obD o)) : D.pvss ((h.map obD).set n row) = D.pvss ((h.set n o).map obD) := by
 rw [yK,yK,List.map_set,hr,List.map_map,List.map_map,List.map_set];rfl
def sB (n : UInt8) : ByteArray := ⟨#[n]⟩
def cV (v : Vl) : Nat := 60 + 10 * v.s.size + 8 * v.nl.length + 8 * v.dl.length
def cVs (l : List Vl) : Nat := (l.map cV).sum + 1
def cO (o : Ob) : Nat := 120 + 10 * o.name.size + (o.names.map fun s => s.size + 1).sum + 23 * o.refs.length + 23 * o.order.length + cVs o.keys + cVs o.items
theorem kA0 {α : Type} [DecidableEq α] : ∀ (l : List α) (n : α),ixI l n < l.length
 | [],n => by show (-1 : Int) < ((0 : Nat) : Int);omega
 | x :: l,n => by
  have := kA0 l n;rw [ixI,List.length_cons];split
  ·omega
  ·split <;> omega
structure VlC (N : Nat) (v : Vl) : Prop where
 vin : VlIn v
 r : v.k = 6 → v.r < (N : Int)
structure ObC (N : Nat) (o : Ob) : Prop where
 oin : ObIn o
 st : o.kind = 18 → o.state - 1 < (N : Int)
 cls : o.kind = 10 ∨ o.kind = 7 → o.cls < (N : Int)
 refs : ∀ n ∈ o.refs,0 ≤ n ∧ n < (N : Int)
 order : ∀ n ∈ o.order,0 ≤ n ∧ n < (N : Int)
 keys : ∀ v ∈ o.keys,VlC N v
 items : ∀ v ∈ o.items,VlC N v


variable {md me : Bool}


variable {md me : Bool}
variable {md me : Bool}
variable {md me : Bool}
variable {md me : Bool}
variable {md me : Bool}
variable {md me : Bool}
variable {md me : Bool}
variable {md me : Bool}
theorem jN0 {v : Vl} (h : jK v = true) : v.nl.length ≤ 128 ∧ v.dl.length ≤ 128 ∧ v.s.size ≤ 4000 := by
 have hz : ∀ {b : Bool} {l : List Nat},zI b l = true → l.length ≤ 128 := fun h => by rw [zI,gH0] at h;rw [h.2];decide
 have hi : ∀ {b : Bool} {l : List Nat},vQ b l = true → l.length ≤ 128 := fun h => by
  simp only [vQ,Bool.and_eq_true,decide_eq_true_eq] at h;exact h.1
 have he : ∀ {s : ByteArray},emS s = true → s.size ≤ 4000 := fun h => by
  have := of_decide_eq_true h;subst this;decide
 unfold jK at h;repeat' split at h
 all_goals (try simp only [Bool.and_eq_true,decide_eq_true_eq] at h)
 ·exact ⟨hz h.1.1.1,hz h.1.1.2,he h.1.2⟩
 ·exact ⟨hz h.1.1.1,hz h.1.1.2,he h.1.2⟩
 ·exact ⟨hi h.1.1.1,hz h.1.1.2,he h.1.2⟩
 ·have hr := h.1.1.1;simp only [ratS,Bool.and_eq_true] at hr;exact ⟨hi hr.1.1.1,hi hr.1.1.2,he h.1.2⟩
 ·exact ⟨hz h.1.1.1.1,hz h.1.1.1.2,by have := h.2;omega⟩
 ·exact ⟨hz h.1.1.1,hz h.1.1.2,by have := h.2;omega⟩
 ·have hd := h.2;simp only [dotS,Bool.and_eq_true,decide_eq_true_eq] at hd;exact ⟨hz h.1.1.1,hz h.1.1.2,by have := hd.2;omega⟩
 ·exact ⟨hz h.1.1,hz h.1.2,he h.2⟩
 ·cases h
theorem pA0 {v : Vl} (h : jK v = true) : cV v ≤ 2108 + 10 * v.s.size := by
 have := jN0 h;unfold cV;omega
theorem fix_lim (o : Ob) (v : Vl) : cV (fixV o v) = cV v ∧ (fixV o v).s = v.s := by
 unfold fixV;split <;> exact ⟨rfl,rfl⟩
theorem gV {s : ByteArray} (h : vA s = true) : s.size ≤ 24 := by
 simp only [vA,Bool.and_eq_true,Bool.not_eq_true',Bool.or_eq_false_iff,decide_eq_false_iff_not] at h;have := h.1.2;omega
theorem name_size {o : Ob} (hs : jV o = 0) (hz : vT o = 0) : o.name.size ≤ 60 := by
 by_cases hc : Lib.contains (uB o.kind).data.toList [110] = true
 ·unfold vT at hz;rw [hc,Bool.true_and] at hz;split at hz
  ·cases hz
  ·rename_i h1;have h1 : xM o = true := by simpa using h1
   unfold xM at h1;split at h1
   ·simp only [dotS,Bool.and_eq_true,decide_eq_true_eq] at h1;have := h1.2;omega
   ·have := gV h1;omega
 ·unfold jV at hs;split at hs
  ·rename_i h1;have h2 := List.all_eq_true.1 h1 0 (by decide);have e : (lettersB.extract ((0 : Nat) : Int).toNat (((0 : Nat) : Int) + 1).toNat).data.toList = [110] := by decide +kernel
   unfold ltP at h2;rw [e] at h2;have hc : Lib.contains (uB o.kind).data.toList [110] = false := by simpa using hc
   rw [hc] at h2;have h3 : decide (o.name = ⟨#[]⟩) = true := by simpa [jA0] using h2
   have := of_decide_eq_true h3;rw [this];decide
  ·cases hs
theorem sizes_le {o : Ob} (hz : vT o = 0) : o.names.length ≤ 200 ∧ o.items.length ≤ 1000 ∧ o.keys.length ≤ 1000 ∧ o.refs.length ≤ 1000 := by
 unfold vT at hz;split at hz
 ·cases hz
 ·split at hz
  ·cases hz
  ·rename_i h2;simp only [Bool.or_eq_true,decide_eq_true_eq,not_or] at h2;obtain ⟨h3,h4⟩ := h2;unfold mx3 at h3;repeat' split at h3
   all_goals omega
theorem order_le {h : List Ob} {o : Ob} {i : Int} (hs : jV o = 0) (ho : uI h o i = true) : o.order.length ≤ 40 := by
 by_cases hk : o.kind = 9
 ·unfold uI at ho;rw [if_neg (fun hh => hh hk)] at ho;simp only [Bool.and_eq_true,decide_eq_true_eq] at ho;rw [ho.2,List.length_append];have : (uQ (tG h o)).1.length ≤ 39 := by
   unfold uQ;repeat' split
   ·exact Nat.zero_le _
   ·exact Nat.zero_le _
   ·exact Nat.zero_le _
   ·show (mgS (tG h o)).1.length ≤ 39;omega
  show 1 + _ ≤ _;omega
 ·rw [(tF hs).2.2.2.2 hk];exact Nat.zero_le _
theorem bg_ok : (List.range 49).all (fun i => decide (cO (bgO i) ≤ 6704) && (((bgO i).refs.all fun n => decide (0 ≤ n) && decide (n < 49)) && ((bgO i).order.all fun n => decide (0 ≤ n) && decide (n < 49)))) = true := by decide +kernel
theorem kZ0 {i : Nat} (hi : i < 49) : cO (bgO i) ≤ 6704 ∧ (∀ n ∈ (bgO i).refs,0 ≤ n ∧ n < 49) ∧ ∀ n ∈ (bgO i).order,0 ≤ n ∧ n < 49 := by
 have h := List.all_eq_true.1 bg_ok i (List.mem_range.2 hi);simp only [Bool.and_eq_true,decide_eq_true_eq,List.all_eq_true] at h;exact ⟨h.1,h.2.1,h.2.2⟩
theorem gZ {h : List Ob} {n : Int} (hn : yD h n = true) : 0 ≤ n ∧ n < (h.length : Int) := by
 have := zD0 hn;omega
theorem uh_obC {h : List Ob} (g : Uh h) (hh : HpIn h) {i : Nat} (hi : i < h.length) : ObC h.length (zW h i) := by
 have hin := hh.at (i : Nat);have hlo := g.lo;by_cases h49 : i < 49
 ·have e := g.lo_at h49;have hb := kZ0 h49;rw [e] at hin ⊢;exact ⟨hin,fun hk => absurd hk (by show ¬ (9 : Int) = 18;decide),fun hk => absurd hk (by show ¬ ((9 : Int) = 10 ∨ (9 : Int) = 7);decide),fun n hn => by have := hb.2.1 n hn;omega,fun n hn => by have := hb.2.2 n hn;omega,(fun v hv => by cases hv),(fun v hv => by cases hv)⟩
 ·have u := g.hi_at (by omega) hi;have v := jM0 u.vals;refine ⟨hin,fun hk => ?_,fun _ => (gZ v.cls).2,fun n hn => gZ (v.refs n hn),fun n hn => gZ (v.order n hn),fun x hx => ⟨hin.kv x hx,fun hk => (gZ (v.vals x (List.mem_append.2 (.inl hx)) hk)).2⟩,fun x hx => ⟨hin.iv x hx,fun hk => (gZ (v.vals x (List.mem_append.2 (.inr hx)) hk)).2⟩⟩;have hst := (tF u.shape).2.2.1;by_cases h0 : (zW h i).state = 0
  ·omega
  ·have h1 := v.weak hk h0;rw [yE0 (by omega) hin.st.2] at h1;exact (gZ h1).2
theorem vl0_C (N : Nat) : VlC N vl0 := ⟨pB0,fun hk => absurd hk (by show ¬ (0 : Int) = 6;decide)⟩
def Gv (h : List Ob) (v : Vl) : Prop := jK v = true ∧ VlC h.length v
theorem pX0 {h : List Ob} {v : Vl} (hi : VlIn v) (hh : hasS h v = true) : Gv h v := by
 refine ⟨?_,hi,fun hk => (gZ (uC hh hk)).2⟩;simp only [hasS,Bool.and_eq_true] at hh;exact hh.1
end Go.Proofs.YtnajlcfdjjmfiaaGreatDoor
