/- Part 19 of the proof. -/
import Derived.Test.YtinegkcbkefeiaaGreatDoorW18
import Derived.Shelf.Spec.SlicesGrow
import Derived.Shelf.Strconv.Itoa3
import Derived.Shelf.Strconv.Quote
namespace Go.Proofs.YtinegkcbkefeiaaGreatDoor
open Go.RowKit
variable {md me : Bool}
section
variable {h : List Ob} {v : Vl} {b : Bool} {l : List Vl} {k : Nat}
end
variable {md me : Bool}
noncomputable def shS (a b : List Ob) : Bool := decide (a.length = b.length) && (List.range a.length).all fun j => decide (a.getD j ob0 = b.getD j ob0)
theorem shS_self (a : List Ob) : shS a a = true := by simp [shS]
theorem SameHeap_ok (a b : List Ob) (ha : a.length ≤ 2000000) (hb : b.length ≤ 2000000) : Fn Tryz.prog 20 [hpD md a,hpD me b] (.v (.bool (shS a b))) := by
 refine yE zK Tryz.func20 rfl rfl rfl rfl rfl rfl ?_;intro w0 s0 mx;refine zJ 100 ?_;refine zB (zJ 200 ?_);refine zT rfl (fun c1 => ?_) (fun c1 => ?_)
 ·replace c1 : ¬ a.length = b.length := by have := c1;simp only [Bl,Aw] at this;omega
  refine zJ 300 ?_;refine zL (zN ?_);exact u4 rfl (u7 (by rw [shS,By c1];rfl))
 ·replace c1 : a.length = b.length := by have := c1;simp only [Bt,An] at this;omega
  refine zM (zA (zB (zJ 400 ?_)));refine zR ?_;refine yC (ι := Up a.length (fun j => decide (a.getD j ob0 = b.getD j ob0))) [2,3,15] [0,1] 450 (fun x => [(16,.v (.int .i64 x.k))]) (fun _ => []) (fun x => a.length - x.k) ⟨0,Ar _,fun j hj => by omega⟩ ?_;refine ⟨⟨yK,yH,rfl,rfl⟩,fun x => ?_⟩;have hk := x.le;refine zJ 500 ?_;refine zB (zT rfl (fun c4 => ?_) (fun c4 => ?_))
  ·replace c4 := Ag c4
   replace c4 : x.k < a.length := by omega
   refine zM (zA (zB (zR (zJ 600 ?_))));refine zB (zZ zK [] [[],[0],[],[0,1,2],[0,1,2,3],[],[5],[],[5,6,7],[5,6,7,8],(rgN 10),(rgN 11)] 700 yQ (by kernel_rfl) rfl ?_);repeat (first | refine zG ?_ | refine zH ?_ | refine zW (by exact ⟨by omega,by omega⟩) ?_)
   refine zP _ (pW _ _) rfl ?_;repeat (first | refine zG ?_ | refine zH ?_ | refine zW (by exact ⟨by omega,by omega⟩) ?_)
   refine zC (zA (zT rfl (fun c6 => ?_) (fun c6 => ?_)))
   ·replace c6 : decide (a.getD x.k ob0 = b.getD x.k ob0) = false := by have h1 := c6;rw [Bl] at h1;exact h1
    refine zJ 800 ?_;refine zL (zQ (zN (yL (zQ (zN ?_)))));exact u4 rfl (u7 (by rw [shS,Up.no (p := fun j => decide (a.getD j ob0 = b.getD j ob0)) c4 c6,Bool.and_false]))
   ·replace c6 : decide (a.getD x.k ob0 = b.getD x.k ob0) = true := by have h1 := c6;rw [Bt] at h1;exact h1
    refine zM (zO (zA (yM zK [] 900 ?_)));exact zS (x.next c4 c6) ⟨yK,yH,rfl,rfl⟩ (by show a.length - (x.k + 1) < a.length - x.k;omega)
  ·replace c4 := of_decide_eq_false c4
   replace c4 : ¬ x.k < a.length := by omega
   refine yD (yA (yB (zX (zA (zJ 1000 ?_)))));refine zL ?_;exact u4 rfl (u7 (by rw [shS,Ax c1,x.yes c4];rfl))
variable {md me : Bool}
def kcL : List Int := [2,3,4,5,6,7,0,15,27,2]
def ocL : List Int := [0,8,9,10,11,12,13,14,16,1,0,17,18,19,20,21,22,23,24,25,26]
def ocS (o : Ob) : Int := if o.kind = 10 then o.cls else ocL.getD o.kind.toNat 0
def clA (h : List Ob) (v : Vl) : Int := if v.k = 6 then ocS (yO h v.r) else kcL.getD v.k.toNat 0
theorem voks_k {v : Vl} (h : qX v = true) : 0 ≤ v.k ∧ v.k < 9 := by
 unfold qX at h;repeat' split at h
 all_goals first | omega | cases h
structure Cf (h : List Ob) (v : Vl) : Prop where
 k : 0 ≤ v.k ∧ v.k < 9
 obj : v.k = 6 → uM h v.r = true
 kind : v.k = 6 → 0 < (yO h v.r).kind ∧ (yO h v.r).kind < 21
 cls : v.k = 6 → (yO h v.r).kind = 10 → inH h (yO h v.r).cls
theorem Uh.kind {h : List Ob} (g : Uh h) {n : Int} (hn : uM h n = true) : 0 < (yO h n).kind ∧ (yO h n).kind < 21 := by
 have hi := yY hn;by_cases h49 : n.toNat < 49
 ·rw [show yO h n = bgO n.toNat from g.lo_at h49];exact ⟨by show (0 : Int) < 9;decide,by show (9 : Int) < 21;decide⟩
 ·have h1 := (g.hi_at (by omega) hi.2).kind;have h2 : ¬ (yO h n).kind = 0 := by
   intro h0;simp only [uM,Ai] at hn;have := hn.2;rw [show (h.getD n.toNat ob0).kind = 0 from h0] at this;exact absurd this (by decide)
  exact ⟨by have := h1.1;show 0 < (yO h n).kind;have h3 : (yO h ((n.toNat : Nat) : Int)).kind = (yO h n).kind := rfl;omega,h1.2⟩
theorem wE0 {h : List Ob} {v : Vl} (g : Uh h) (hh : hasS h v = true) : Cf h v := by
 have hv : qX v = true := by
  simp only [hasS,Ai] at hh;exact hh.1
 exact ⟨voks_k hv,qX0 hh,fun hk => g.kind (qX0 hh hk),fun hk => g.cls (yY (qX0 hh hk))⟩
theorem oc_ge {k : Int} (h : 15 ≤ k) (h2 : k < 21) : ocL.getD k.toNat 0 = 21 + k - 15 := by
 obtain ⟨n,rfl⟩ : ∃ n : Nat,k = (n : Int) := ⟨k.toNat,by omega⟩;have := Bp.1 (show (List.range 21).all (fun n => decide (n < 15 ∨ ocL.getD n 0 = 21 + (n : Int) - 15)) = true by decide +kernel) n (Db.2 (by omega));have := (Ag this).resolve_left (by omega);exact this
theorem oc_lt {k : Int} (h : 1 ≤ k) (h2 : k < 8) : ocL.getD k.toNat 0 = 8 + k - 1 := by
 obtain ⟨n,rfl⟩ : ∃ n : Nat,k = (n : Int) := ⟨k.toNat,by omega⟩;have := Bp.1 (show (List.range 8).all (fun n => decide (n < 1 ∨ ocL.getD n 0 = 8 + (n : Int) - 1)) = true by decide +kernel) n (Db.2 (by omega));have := (Ag this).resolve_left (by omega);exact this
theorem ocS_in {h : List Ob} {o : Ob} (g : Uh h) (hk : 0 < o.kind ∧ o.kind < 21) (hc : o.kind = 10 → inH h o.cls) : inH h (ocS o) := by
 unfold ocS;split
 ·rename_i h1;exact hc h1
 ·have h3 := Bp.1 (show (List.range 21).all (fun n => decide (0 ≤ ocL.getD n 0 ∧ ocL.getD n 0 < 49)) = true by decide +kernel) o.kind.toNat (Db.2 (by omega));have h4 := Ag h3;have := g.lo;exact ⟨h4.1,by omega⟩
theorem mL0 {h : List Ob} {v : Vl} (g : Uh h) (c : Cf h v) : inH h (clA h v) := by
 unfold clA;split
 ·rename_i h1;exact ocS_in g (c.kind h1) (c.cls h1)
 ·have h3 := Bp.1 (show (List.range 9).all (fun n => decide (0 ≤ kcL.getD n 0 ∧ kcL.getD n 0 < 49)) = true by decide +kernel) v.k.toNat (Db.2 (by have := c.k;omega));have h4 := Ag h3;have := g.lo;exact ⟨h4.1,by omega⟩
theorem kindClasses_ok  : Fn Tryz.prog 133 [] (isD kcL) := by
 refine yE zK Tryz.func133 rfl rfl rfl rfl rfl rfl ?_;intro w0 s0 mx;refine zJ 100 ?_;refine zJ 200 ?_;refine zL ?_;exact u4 rfl (SubP.slrSl rfl)
theorem objectClasses_ok  : Fn Tryz.prog 134 [] (isD ocL) := by
 refine yE zK Tryz.func134 rfl rfl rfl rfl rfl rfl ?_;intro w0 s0 mx;refine zJ 100 ?_;refine zJ 200 ?_;refine zL ?_;exact u4 rfl (SubP.slrSl rfl)
theorem heapClassOf_ok (h : List Ob) (v : Vl) (c : Cf h v) : Fn Tryz.prog 75 [hpD md h,.agg (vlD v)] (.v (.int .i64 (clA h v))) := by
 refine yE zK Tryz.func75 rfl rfl rfl rfl rfl rfl ?_;intro w0 s0 mx;refine zJ 100 ?_;refine zB (zJ 200 ?_);refine zT rfl (fun c1 => ?_) (fun c1 => ?_)
 ·replace c1 : ¬ v.k = 6 := by have h1 := c1;simp only [Bl,Aw] at h1;exact h1
  refine zB (zZ zK [] [[],[],[1],[0,1,2],[0,1,2,3],(rgN 5)] 300 yQ (by kernel_rfl) rfl ?_);repeat (first | refine zG ?_ | refine zH ?_ | refine zW (by exact ⟨c.k.1,by show v.k.toNat < 10;have := c.k;omega⟩) ?_)
  refine zP _ (kindClasses_ok) rfl ?_;repeat (first | refine zG ?_ | refine zH ?_ | refine zW (by exact ⟨c.k.1,by show v.k.toNat < 10;have := c.k;omega⟩) ?_)
  refine zC (zA (zL (zN ?_)));exact u4 rfl (u10 (by rw [clA,Aa c1]))
 ·replace c1 : v.k = 6 := by have h1 := c1;simp only [Bt,An] at h1;exact h1
  refine zM (zA ?_);refine zB (zE zK [] 400 rfl ?_);repeat (first | refine zG ?_ | refine zH ?_ | refine zW (by exact yY (c.obj c1)) ?_)
  refine zC (zA (zB (zJ 500 ?_)));refine zT rfl (fun c4 => ?_) (fun c4 => ?_)
  ·first | replace c4 := Ag c4 | replace c4 := of_decide_eq_false c4
   refine zJ 600 ?_;refine zL (zN ?_);exact u4 rfl (u10 (by rw [clA,Ae c1,ocS,Ae c4]))
  ·first | replace c4 := Ag c4 | replace c4 := of_decide_eq_false c4
   refine zM (zA ?_);refine zB (zZ zK [] [[],[],[1],[0,1,2],[0,1,2,3],(rgN 5)] 700 yQ (by kernel_rfl) rfl ?_);repeat (first | refine zG ?_ | refine zH ?_ | refine zW (by exact ⟨Int.le_of_lt (c.kind c1).1,by show (yO h v.r).kind.toNat < 21;have h1 : 0 < (yO h v.r).kind ∧ (yO h v.r).kind < 21 := c.kind c1;omega⟩) ?_)
   refine zP _ (objectClasses_ok) rfl ?_;repeat (first | refine zG ?_ | refine zH ?_ | refine zW (by exact ⟨Int.le_of_lt (c.kind c1).1,by show (yO h v.r).kind.toNat < 21;have h1 : 0 < (yO h v.r).kind ∧ (yO h v.r).kind < 21 := c.kind c1;omega⟩) ?_)
   refine zC (zA (zL ?_));exact u4 rfl (u10 (by rw [clA,Ae c1,ocS,Aa c4]))
theorem xZ {P : Program} {E : Pn} {K : DS → Prop} {p : Prop} {r : Out} (hr : r.sat P E K) (hp : p := by first | exact ini (by omega) (by omega) | omega) : (Out.need p r).sat P E K := ⟨hp,hr⟩
theorem classOfObject_ok (o : Ob) (hk : 0 < o.kind ∧ o.kind < 21) : Fn Tryz.prog 135 [.agg (obD o)] (.v (.int .i64 (ocS o))) := by
 refine yE zK Tryz.func135 rfl rfl rfl rfl rfl rfl ?_;intro w0 s0 mx;refine zB (zE zK [] 100 rfl ?_);repeat (first | refine zG ?_ | refine zH ?_ | refine xZ ?_)
 refine zC (zA (zB ?_));refine zB (zE zK [] 200 rfl ?_);repeat (first | refine zG ?_ | refine zH ?_ | refine xZ ?_)
 refine zC (zA (zR ?_));refine zB (zE zK [] 300 rfl ?_);repeat (first | refine zG ?_ | refine zH ?_ | refine xZ ?_)
 refine zC (zA (zT rfl (fun c2 => ?_) (fun c2 => ?_)))
 ·first | replace c2 := Ag c2 | replace c2 := of_decide_eq_false c2
  refine zB (zE zK [] 400 rfl ?_);repeat (first | refine zG ?_ | refine zH ?_ | refine xZ ?_)
  refine zC (zA (zL (zQ (zN ?_))));exact u4 rfl (u10 (by rw [ocS,Ae c2]))
 ·first | replace c2 := Ag c2 | replace c2 := of_decide_eq_false c2
  refine zB (zE zK [] 500 rfl ?_);repeat (first | refine zG ?_ | refine zH ?_ | refine xZ ?_)
  refine zC (zA (zT rfl (fun c4 => ?_) (fun c4 => ?_)))
  ·first | replace c4 := Ag c4 | replace c4 := of_decide_eq_false c4
   refine zB (zE zK [] 600 rfl ?_);repeat (first | refine zG ?_ | refine zH ?_ | refine xZ ?_)
   refine zC (zA (zL (zQ (zN ?_))));exact u4 rfl (u10 (by rw [ocS,Aa c2,c4];rfl))
  ·first | replace c4 := Ag c4 | replace c4 := of_decide_eq_false c4
   refine zB (zE zK [] 700 rfl ?_);repeat (first | refine zG ?_ | refine zH ?_ | refine xZ ?_)
   refine zC (zA (zT rfl (fun c6 => ?_) (fun c6 => ?_)))
   ·first | replace c6 := Ag c6 | replace c6 := of_decide_eq_false c6
    refine zB (zE zK [] 800 rfl ?_);repeat (first | refine zG ?_ | refine zH ?_ | refine xZ ?_)
    refine zC (zA (zL (zQ (zN ?_))));exact u4 rfl (u10 (by rw [ocS,Aa c2,c6];rfl))
   ·first | replace c6 := Ag c6 | replace c6 := of_decide_eq_false c6
    refine zB (zE zK [] 900 rfl ?_);repeat (first | refine zG ?_ | refine zH ?_ | refine xZ ?_)
    refine zC (zA (zT rfl (fun c8 => ?_) (fun c8 => ?_)))
    ·first | replace c8 := Ag c8 | replace c8 := of_decide_eq_false c8
     refine zB (zE zK [] 1000 rfl ?_);repeat (first | refine zG ?_ | refine zH ?_ | refine xZ ?_)
     refine zC (zA (zL (zQ (zN ?_))));exact u4 rfl (u10 (by rw [ocS,Aa c2,c8];rfl))
    ·first | replace c8 := Ag c8 | replace c8 := of_decide_eq_false c8
     refine zB (zE zK [] 1100 rfl ?_);repeat (first | refine zG ?_ | refine zH ?_ | refine xZ ?_)
     refine zC (zA (zT rfl (fun c10 => ?_) (fun c10 => ?_)))
     ·first | replace c10 := Ag c10 | replace c10 := of_decide_eq_false c10
      refine zB (zE zK [] 1200 rfl ?_);repeat (first | refine zG ?_ | refine zH ?_ | refine xZ ?_)
      refine zC (zA (zL (zQ (zN ?_))));exact u4 rfl (u10 (by rw [ocS,Aa c2,c10];rfl))
     ·first | replace c10 := Ag c10 | replace c10 := of_decide_eq_false c10
      refine zB (zE zK [] 1300 rfl ?_);repeat (first | refine zG ?_ | refine zH ?_ | refine xZ ?_)
      refine zC (zA (zT rfl (fun c12 => ?_) (fun c12 => ?_)))
      ·first | replace c12 := Ag c12 | replace c12 := of_decide_eq_false c12
       refine zB (zE zK [] 1400 rfl ?_);repeat (first | refine zG ?_ | refine zH ?_ | refine xZ ?_)
       refine zC (zA (zL (zQ (zN ?_))));exact u4 rfl (u10 (by rw [ocS,Aa c2,c12];rfl))
      ·first | replace c12 := Ag c12 | replace c12 := of_decide_eq_false c12
       refine zB (zE zK [] 1500 rfl ?_);repeat (first | refine zG ?_ | refine zH ?_ | refine xZ ?_)
       refine zC (zA (zT rfl (fun c14 => ?_) (fun c14 => ?_)))
       ·first | replace c14 := Ag c14 | replace c14 := of_decide_eq_false c14
        refine zB (zE zK [] 1600 rfl ?_);repeat (first | refine zG ?_ | refine zH ?_ | refine xZ ?_)
        refine zC (zA (zL (zQ (zN ?_))));exact u4 rfl (u10 (by rw [ocS,Aa c2,c14];rfl))
       ·first | replace c14 := Ag c14 | replace c14 := of_decide_eq_false c14
        refine zM (zO (zA (zB ?_)));refine zB (zE zK [] 1700 rfl ?_);repeat (first | refine zG ?_ | refine zH ?_ | refine xZ ?_)
        refine zC (zA (zT rfl (fun c16 => ?_) (fun c16 => ?_)))
        ·first | replace c16 := Ag c16 | replace c16 := of_decide_eq_false c16
         refine zB (zE zK [] 1800 rfl ?_);repeat (first | refine zG ?_ | refine zH ?_ | refine xZ ?_)
         refine zC (zA (zL (zN ?_)));exact u4 rfl (u10 (by rw [ocS,Aa c2,oc_ge (by omega) hk.2]))
        ·first | replace c16 := Ag c16 | replace c16 := of_decide_eq_false c16
         refine zM (zA ?_);refine zB (zE zK [] 1900 rfl ?_);repeat (first | refine zG ?_ | refine zH ?_ | refine xZ ?_)
         refine zC (zA (zL ?_));exact u4 rfl (u10 (by rw [ocS,Aa c2,oc_lt (by omega) (by omega)]))
theorem ClassOf_ok (h : List Ob) (v : Vl) (c : Cf h v) : Fn Tryz.prog 76 [hpD md h,.agg (vlD v)] (.v (.int .i64 (clA h v))) := by
 refine yE zK Tryz.func76 rfl rfl rfl rfl rfl rfl ?_;intro w0 s0 mx;refine zJ 100 ?_;refine zB (zJ 200 ?_);refine zR (zJ 300 ?_);refine zT rfl (fun c2 => ?_) (fun c2 => ?_)
 ·first | replace c2 := Ag c2 | replace c2 := of_decide_eq_false c2
  refine zJ 400 ?_;refine zL (zQ (zN ?_));exact u4 rfl (u10 (by rw [clA,Aa (by omega),c2];rfl))
 ·first | replace c2 := Ag c2 | replace c2 := of_decide_eq_false c2
  refine zJ 500 ?_;refine zT rfl (fun c4 => ?_) (fun c4 => ?_)
  ·first | replace c4 := Ag c4 | replace c4 := of_decide_eq_false c4
   refine zJ 600 ?_;refine zL (zQ (zN ?_));exact u4 rfl (u10 (by rw [clA,Aa (by omega),c4];rfl))
  ·first | replace c4 := Ag c4 | replace c4 := of_decide_eq_false c4
   refine zJ 700 ?_;refine zT rfl (fun c6 => ?_) (fun c6 => ?_)
   ·first | replace c6 := Ag c6 | replace c6 := of_decide_eq_false c6
    refine zJ 800 ?_;refine zL (zQ (zN ?_));exact u4 rfl (u10 (by rw [clA,Aa (by omega),c6];rfl))
   ·first | replace c6 := Ag c6 | replace c6 := of_decide_eq_false c6
    refine zJ 900 ?_;refine zT rfl (fun c8 => ?_) (fun c8 => ?_)
    ·first | replace c8 := Ag c8 | replace c8 := of_decide_eq_false c8
     refine zJ 1000 ?_;refine zL (zQ (zN ?_));exact u4 rfl (u10 (by rw [clA,Aa (by omega),c8];rfl))
    ·first | replace c8 := Ag c8 | replace c8 := of_decide_eq_false c8
     refine zJ 1100 ?_;refine zT rfl (fun c10 => ?_) (fun c10 => ?_)
     ·first | replace c10 := Ag c10 | replace c10 := of_decide_eq_false c10
      refine zJ 1200 ?_;refine zL (zQ (zN ?_));exact u4 rfl (u10 (by rw [clA,Aa (by omega),c10];rfl))
     ·first | replace c10 := Ag c10 | replace c10 := of_decide_eq_false c10
      refine zJ 1300 ?_;refine zT rfl (fun c12 => ?_) (fun c12 => ?_)
      ·first | replace c12 := Ag c12 | replace c12 := of_decide_eq_false c12
       refine zJ 1400 ?_;refine zL (zQ (zN ?_));exact u4 rfl (u10 (by rw [clA,Aa (by omega),c12];rfl))
      ·first | replace c12 := Ag c12 | replace c12 := of_decide_eq_false c12
       refine zJ 1500 ?_;refine zT rfl (fun c14 => ?_) (fun c14 => ?_)
       ·first | replace c14 := Ag c14 | replace c14 := of_decide_eq_false c14
        refine zJ 1600 ?_;refine zL (zQ (zN ?_));exact u4 rfl (u10 (by rw [clA,Aa (by omega),c14];rfl))
       ·first | replace c14 := Ag c14 | replace c14 := of_decide_eq_false c14
        refine zJ 1700 ?_;refine zT rfl (fun c16 => ?_) (fun c16 => ?_)
        ·first | replace c16 := Ag c16 | replace c16 := of_decide_eq_false c16
         refine zB (zE zK [] 1800 rfl ?_);repeat (first | refine zG ?_ | refine zH ?_ | refine zW (by exact yY (c.obj c16)) ?_)
         refine zP _ (classOfObject_ok _ (c.kind c16)) rfl ?_;repeat (first | refine zG ?_ | refine zH ?_ | refine zW (by exact yY (c.obj c16)) ?_)
         refine zC (zA (zL (zQ (zN ?_))));exact u4 rfl (u10 (by rw [clA,Ae c16]))
        ·first | replace c16 := Ag c16 | replace c16 := of_decide_eq_false c16
         refine zM (zO (zA (zJ 1900 ?_)));refine zL ?_;exact u4 rfl (u10 (by rw [clA,Aa c16,show v.k = 0 by have := c.k;omega];rfl))
theorem gH (h : List Ob) (v : Vl) (g : Uh h) (c : Cf h v) : Fn Tryz.prog 52 [hpD md h,.agg (vlD v)] (.v (.string (yO h (clA h v)).name)) := by
 refine yE zK Tryz.func52 rfl rfl rfl rfl rfl rfl ?_;intro w0 s0 mx;refine zJ 100 ?_;refine zB (zZ zK [] mK12 200 yQ (by kernel_rfl) rfl ?_);repeat (first | refine zG ?_ | refine zH ?_ | refine zW (by exact mL0 g c) ?_)
 refine zP _ (heapClassOf_ok h v c) rfl ?_;repeat (first | refine zG ?_ | refine zH ?_ | refine zW (by exact mL0 g c) ?_)
 refine zC (zA (zL ?_));exact u4 rfl (u6 _)
theorem xA (h : List Ob) (v : Vl) (g : Uh h) (c : Cf h v) : Fn Tryz.prog 54 [hpD md h,.agg (vlD v)] (.v (.string (yO h (clA h v)).name)) := by
 refine yE zK Tryz.func54 rfl rfl rfl rfl rfl rfl ?_;intro w0 s0 mx;refine zJ 100 ?_;refine zB (zZ zK [] mK12 200 yQ (by kernel_rfl) rfl ?_);repeat (first | refine zG ?_ | refine zH ?_ | refine zW (by exact mL0 g c) ?_)
 refine zP _ (ClassOf_ok h v c) rfl ?_;repeat (first | refine zG ?_ | refine zH ?_ | refine zW (by exact mL0 g c) ?_)
 refine zC (zA (zL ?_));exact u4 rfl (u6 _)
variable {md me : Bool}
variable {md me : Bool}
variable {md me : Bool}
def nuV (n : Int) : Vl := ⟨2,decide (n < 0),lim n.natAbs,false,[],ByteArray.empty,0⟩
variable {md me : Bool}
structure Bn (l : List Bool) where
 j : Nat
 o : List Nat
 eq : V o = VB (l.take (16 * j))
 lo : o.length = j
 dg : Dg o
 le : 16 * j ≤ l.length + 15
def Bn.next {l : List Bool} (x : Bn l) (h : 16 * x.j < l.length) : Bn l := ⟨x.j + 1,x.o ++ [gX l (16 * x.j) 0],binary_step x.eq x.lo h,by simp [x.lo],x.dg.snoc (mM0 _ _ _),by omega⟩
theorem mN0 {l : List Bool} {i k : Nat} (hk : k < 16) : gX l i k = gX l i (k + 1) * 2 + (if decide (i + k < l.length) && l.getD (i + k) false then 1 else 0) := by
 rw [chunk_step hk,Au];by_cases h : i + k < l.length
 ·rw [dif_pos h,Ax h,Bool.true_and,Ao,Ah h];cases l[i + k] <;> rfl
 ·rw [dif_neg h,By h];rfl
def wF0 (l : List Bool) (i k : Nat) : Bool := decide (i + k < l.length) && l.getD (i + k) false
theorem chunk_one {l : List Bool} {i k : Nat} (hk : k < 16) (h : wF0 l i k = true) : gX l i k = gX l i (k + 1) * 2 + 1 := by rw [mN0 hk];unfold wF0 at h;rw [h];rfl
theorem chunk_nil {l : List Bool} {i k : Nat} (hk : k < 16) (h : wF0 l i k = false) : gX l i k = gX l i (k + 1) * 2 := by rw [mN0 hk];unfold wF0 at h;rw [h];rfl
structure Bj where
 k : Nat
 le : k ≤ 16
theorem bit_T {l : List Bool} {I k : Nat} (hk : 1 ≤ k) (h : (I : Int) + ((k : Int) - 1) < l.length ∧ l.getD ((I : Int) + ((k : Int) - 1)).toNat false = true) : wF0 l I (k - 1) = true := by
 unfold wF0;rw [show ((I : Int) + ((k : Int) - 1)).toNat = I + (k - 1) by omega] at h;rw [h.2,Ax (by omega)];rfl
theorem bit_F {l : List Bool} {I k : Nat} (hk : 1 ≤ k) (h : (decide ((I : Int) + ((k : Int) - 1) < l.length) && l.getD ((I : Int) + ((k : Int) - 1)).toNat false) = false) : wF0 l I (k - 1) = false := by
 unfold wF0;rw [show ((I : Int) + ((k : Int) - 1)).toNat = I + (k - 1) by omega] at h;rw [show decide (I + (k - 1) < l.length) = decide ((I : Int) + ((k : Int) - 1) < l.length) from decide_eq_decide.2 (by omega)];exact h
theorem Bn.all {l : List Bool} (x : Bn l) (h : l.length ≤ 16 * x.j) : V x.o = VB l := by rw [x.eq,Ak h]
structure Nb (n : Int) where
 m : Int
 o : List Bool
 eq : VB o + m.natAbs * 2 ^ o.length = n.natAbs
 lo : -9223372036854775808 ≤ m
 hi : m ≤ 9223372036854775807
 ln : o.length ≤ 64
theorem nb_bit (m : Int) : (!decide (Int.tmod m 2 = 0)) = (m.natAbs % 2 == 1) := by
 have : (Int.tmod m 2).natAbs = m.natAbs % 2 := by
  rw [Int.natAbs_tmod];rfl
 rw [Co,Bl,Aw,beq_iff_eq,← this];have h : (Int.tmod m 2).natAbs < 2 := by rw [this];omega
 omega
theorem cI (m : Int) : (Int.tdiv m 2).natAbs = m.natAbs / 2 := by rw [Int.natAbs_tdiv];rfl
def Nb.next {n : Int} (x : Nb n) (h : x.o.length ≤ 63) : Nb n := ⟨Int.tdiv x.m 2,x.o ++ [!decide (Int.tmod x.m 2 = 0)],by
 rw [nb_bit,cI,Am,Ec];exact uY0 x.eq rfl,by have := cI x.m;have := x.lo;have := x.hi;omega,by have := cI x.m;have := x.lo;have := x.hi;omega,by simp;omega⟩
theorem Nb.len {n : Int} (x : Nb n) (h : ¬ x.m = 0) (h1 : -9223372036854775808 ≤ n) (h2 : n ≤ 9223372036854775807) : x.o.length ≤ 63 := by
 rcases Bs 63 x.o.length with h3 | h3
 ·have h4 : 2 ^ 64 ≤ 2 ^ x.o.length := Be (by omega) h3;have h5 : 1 * 2 ^ x.o.length ≤ x.m.natAbs * 2 ^ x.o.length := Bh _ (by omega);have h6 := x.eq;omega
 ·exact h3
theorem Nb.fin {n : Int} (x : Nb n) (h : x.m = 0) : VB x.o = n.natAbs := by rw [← x.eq,h];simp
theorem wO0 (l : List Bool) (hl : l.length ≤ 100000000) : Fn Tryz.prog 213 [.sl false 1 l bD false] (qW (VB l)) := by
 refine yE zK Tryz.func213 rfl rfl rfl rfl rfl rfl ?_;intro w0 s0 mx;refine zJ 100 ?_;refine zJ 200 ?_;refine qC 3 3 1 rfl ?_;refine zB (zJ 300 ?_);refine zR ?_;refine yC (ι := Bn l) [0] [] 350 (fun x => [(4,.v (.int .i64 (16 * x.j : Nat))),(3,.own 200 1 (x.o.map nD))]) (fun x => [(200,.row 3 1 (x.o.map nD).length)]) (fun x => l.length + 16 - 16 * x.j) ⟨0,[],rfl,rfl,Dg.nil,by omega⟩ ?_;refine ⟨⟨yK,yH,rfl,rfl⟩,fun x => ?_⟩;have hk := x.le;have hk2 := x.lo;refine zB (zJ 400 ?_);refine zY (fun c3 => ?_) (fun c3 => ?_)
 ·
  refine zM (zA (zB (zR (zJ 600 ?_))));refine zB (zJ 700 ?_);refine zR ?_;refine yC (ι := Bj) [0,3,4] [200] 750 (fun y => [(6,.v (.int .i64 ((y.k : Int) - 1))),(5,.v (.int .i64 (gX l (16 * x.j) y.k : Nat)))]) (fun _ => []) (fun y => y.k) ⟨16,Aj _⟩ ?_;refine ⟨⟨(by first | exact trivial | (repeat (first | exact trivial | exact u0 _ | refine ⟨?_,?_⟩ | exact u21 (by first | rfl | omega | (push_cast;omega)) | exact u17 | exact Sub.own rfl | exact u13 rfl | exact u5 (Af).symm | exact u5 rfl | exact u21 (by rw [chunk_top];rfl)))),yH,rfl,rfl⟩,fun y => ?_⟩;have hy := y.le;have hy2 := mM0 l (16 * x.j) y.k;refine zB (zJ 800 ?_);refine zY (fun c7 => ?_) (fun c7 => ?_)
  ·
   refine zM (zA (zB (zR (zJ 1000 ?_))));refine zJ 1100 ?_;refine zY (fun c10 => ?_) (fun c10 => ?_)
   ·
    refine yM zK [] 1200 ?_;refine zO (zA (yM zK [] 1300 ?_));exact zS ⟨y.k - 1,by omega⟩ ⟨(by first | exact trivial | (repeat (first | exact trivial | exact u0 _ | refine ⟨?_,?_⟩ | exact u21 (by first | rfl | omega | (push_cast;omega)) | exact u17 | exact Sub.own rfl | exact u13 rfl | exact u5 (Af).symm | exact u5 rfl | exact u21 (by show (y.k : Int) - 1 - 1 = ((y.k - 1 : Nat) : Int) - 1;omega) | exact u21 (by show _ = ((gX l (16 * x.j) (y.k - 1) : Nat) : Int);rw [chunk_one (k := y.k - 1) (by omega) (bit_T (by omega) c10),show y.k - 1 + 1 = y.k by omega];push_cast;rfl)))),yH,rfl,rfl⟩ (by show y.k - 1 < y.k;omega)
   ·
    refine zM (zO (zA (yM zK [] 1200 ?_)));exact zS ⟨y.k - 1,by omega⟩ ⟨(by first | exact trivial | (repeat (first | exact trivial | exact u0 _ | refine ⟨?_,?_⟩ | exact u21 (by first | rfl | omega | (push_cast;omega)) | exact u17 | exact Sub.own rfl | exact u13 rfl | exact u5 (Af).symm | exact u5 rfl | exact u21 (by show (y.k : Int) - 1 - 1 = ((y.k - 1 : Nat) : Int) - 1;omega) | exact u21 (by show _ = ((gX l (16 * x.j) (y.k - 1) : Nat) : Int);rw [chunk_nil (k := y.k - 1) (by omega) (bit_F (by omega) c10),show y.k - 1 + 1 = y.k by omega];push_cast;rfl)))),yH,rfl,rfl⟩ (by show y.k - 1 < y.k;omega)
  ·
   refine yD (yA (yB (zX (zA (yM zK [] 1300 ?_)))));refine zO (zA (yM zK [] 1400 ?_));obtain ⟨ky,hky⟩ := y;have hz : ky = 0 := by simp only at c7;omega
   subst hz;exact zS (x.next (by omega)) ⟨(by first | exact trivial | (repeat (first | exact trivial | exact u0 _ | refine ⟨?_,?_⟩ | exact u21 (by first | rfl | omega | (push_cast;omega)) | exact u17 | exact Sub.own rfl | exact u13 rfl | exact u5 (Af).symm | exact u5 rfl | exact u21 (by show ((16 * x.j : Nat) : Int) + 16 = ((16 * (x.j + 1) : Nat) : Int);omega) | exact Sub.own (by show _ = List.map nD (x.o ++ [_]);rw [Af];rfl)))),(by repeat (first | exact trivial | exact u15 rfl | exact ⟨rfl,rfl,by show _ = (List.map nD (x.o ++ [_])).length;simp⟩ | refine ⟨?_,?_⟩)),rfl,rfl⟩ (by show l.length + 16 - 16 * (x.j + 1) < l.length + 16 - 16 * x.j;omega)
 ·
  refine yD (yA (yB (zX (zA ?_))));refine qA [] [] 410 [(3,.sl false 1 x.o nD 0)] [] ?_;refine ⟨⟨⟨u5 rfl,trivial⟩,yH,rfl,rfl⟩,?_⟩;refine zB (zE zK [] 1400 rfl ?_);refine zF ?_;refine zP _ (xB _ x.dg (by rw [hk2];omega)) rfl ?_;refine zF ?_;refine zC (zA (zL ?_));exact u4 rfl (u9 (by rw [x.all (by omega)]))
theorem wF (n : Int) (h1 : -9223372036854775808 ≤ n) (h2 : n ≤ 9223372036854775807) : Fn Tryz.prog 167 [.v (.int .i64 n)] (.agg [.v (.bool (decide (n < 0))),qW n.natAbs]) := by
 refine yE zK Tryz.func167 rfl rfl rfl rfl rfl rfl ?_;intro w0 s0 mx;refine zJ 100 ?_;refine zJ 200 ?_;refine qC 3 4 1 rfl ?_;refine zJ 300 ?_;refine zB (zR ?_);refine yC (ι := Nb n) [2,4] [0] 350 (fun x => [(0,.v (.int .i64 x.m)),(3,.own 200 1 (x.o.map bD))]) (fun x => [(200,.row 4 1 (x.o.map bD).length)]) (fun x => x.m.natAbs) ⟨n,[],by simp [VB],h1,h2,by simp⟩ ?_;refine ⟨⟨yK,yH,rfl,rfl⟩,fun x => ?_⟩;have hk := x.lo;have hk2 := x.hi;refine zB (zJ 400 ?_);refine zY (fun c3 => ?_) (fun c3 => ?_)
 ·
  refine zM (zA (zR ?_));refine zB (zE zK [] 500 rfl ?_);repeat (first | refine zG ?_ | refine zH ?_ | refine zW (by first | exact trivial | omega | exact ini (by omega) (by omega) | (intro hh;simp at hh;exact ini (by omega) (by omega)) | (intro hh;simp at hh ⊢;omega) | (simp at *;omega) | (simp_all;done) | (have h3 := x.len c3 h1 h2;simp only [Bb,Aq,Bd];omega)) ?_)
  refine zC (zA ?_);refine zE zK [] 600 rfl ?_;repeat (first | refine zG ?_ | refine zH ?_ | refine zW (by first | exact trivial | omega | exact ini (by omega) (by omega) | (intro hh;simp at hh;exact ini (by omega) (by omega)) | (intro hh;simp at hh ⊢;omega) | (simp at *;omega) | (simp_all;done) | (have h3 := cI x.m;exact ⟨by decide,ini (by omega) (by omega)⟩)) ?_)
  refine zC (zO ?_);exact zS (x.next (x.len c3 h1 h2)) ⟨(by first | exact trivial | (repeat (first | exact trivial | exact u0 _ | refine ⟨?_,?_⟩ | exact u21 (by first | rfl | omega | (push_cast;omega)) | exact u17 | exact Sub.own rfl | exact u13 rfl | exact u5 (Af).symm | exact u5 rfl | exact Sub.own (by show _ = List.map bD (x.o ++ [_]);rw [Af];rfl)))),(by repeat (first | exact trivial | exact u15 rfl | exact ⟨rfl,rfl,by show _ = (List.map bD (x.o ++ [_])).length;simp⟩ | refine ⟨?_,?_⟩)),rfl,rfl⟩ (by show (Int.tdiv x.m 2).natAbs < x.m.natAbs;have := cI x.m;omega)
 ·
  refine yD (yA (yB (zX (zA ?_))));refine qA [2,4] [0] 410 [(3,.sl false 1 x.o bD false)] [] ?_;refine ⟨⟨⟨u5 rfl,by repeat (first | exact trivial | exact u0 _ | refine ⟨?_,?_⟩)⟩,yH,rfl,rfl⟩,?_⟩;refine zB (zE zK [] 700 rfl ?_);refine zF ?_;refine zP _ (wO0 _ (by have := x.ln;omega)) rfl ?_;refine zF ?_;refine zC (zA (zL ?_));exact u4 rfl (u20 ⟨u6 _,u9 (by rw [x.fin (by omega)]),trivial⟩)
variable {md me : Bool}
variable {md me : Bool}
theorem qG {l : List Nat} (h : Lg l) (i : Nat) : l.getD i 0 < 4294967296 := by
 rcases Bs i l.length with h1 | h1
 ·rw [qV h1];exact h.at h1
 ·rw [Ao,Dr h1];show 0 < _;omega
theorem pD0 {l : List Nat} {n : Nat} (hl : l.length = n + 1) : VL l = VL (l.take n) + 4294967296 ^ n * l.getD n 0 := by
 rw [qV (by omega),← wP (by omega),Ak (by omega)]
structure TrmL (l : List Nat) where
 r : List Nat
 lg : Lg r
 eq : VL r = VL l
 le : r.length ≤ l.length
theorem last_takeL {r : List Nat} (h : 0 < r.length) (h0 : r.getD (r.length - 1) 0 = 0) : VL (r.take (r.length - 1)) = VL r := by
 have h1 := pD0 (l := r) (n := r.length - 1) (by omega);rw [h0] at h1;omega
def TrmL.next {l : List Nat} (x : TrmL l) (h : 0 < x.r.length) (h0 : x.r.getD (x.r.length - 1) 0 = 0) : TrmL l := ⟨x.r.take (x.r.length - 1),x.lg.take _,by rw [last_takeL h h0,x.eq],by have := x.le;simp;omega⟩
theorem TrmL.fin {l : List Nat} (x : TrmL l) (h : 0 < x.r.length → x.r.getD (x.r.length - 1) 0 ≠ 0) : x.r = lim (VL l) := by
 rw [← x.eq];refine (qH1 x.lg fun hne => ?_).symm;have hp : 0 < x.r.length := Cu.2 hne;rw [List.getLast_eq_getElem,← qV (by omega)];exact h hp
theorem pM {b : Bool} {l : List Nat} (hg : Lg l) (h : uR b l = true) : l = lim (VL l) ∧ b = decide (ZI b (VL l) < 0) ∧ l.length ≤ 128 := by
 unfold uR at h;rw [Ai,Cz,Ai,Ai,An,An,An,An] at h;obtain ⟨h1,h2⟩ := h;rcases h2 with ⟨h2,h3⟩ | ⟨h2,h3⟩
 ·have hl : l = [] := Bk h2;subst hl;have hb : b = false := by simpa using h3
  subst hb;exact ⟨by rw [wK0,qJ],rfl,Ar _⟩
 ·have hn : jX0 l := fun hne => by
   rw [List.getLast_eq_getElem]
   rwa [qV (by omega)] at h3
  have hv := (qH1 hg hn).symm;refine ⟨hv,?_,h1⟩;have hp : 0 < VL l := by
   rcases Bv (VL l) with h0 | h0
   ·rw [h0,qJ] at hv;rw [hv] at h2;exact absurd h2 (by decide)
   ·exact h0
  unfold ZI
  cases b
  ·simp
  ·simp;omega
theorem lim_nil {n : Nat} : lim n = [] ↔ n = 0 := by
 constructor
 ·intro h;rcases Bv n with h0 | h0
  ·exact h0
  ·rw [gD (by omega)] at h;cases h
 ·rintro rfl;exact qJ
theorem lim_len {n : Nat} : (decide ((0 : Int) < ((lim n).length : Nat))) = decide (0 < n) := by
 apply decide_eq_decide.2;constructor
 ·intro h;rcases Bv n with h0 | h0
  ·rw [h0,qJ] at h;exact absurd h (by decide)
  ·exact h0
 ·intro h;have : lim n ≠ [] := fun e => by rw [lim_nil] at e;omega
  have := Cu.2 this;omega
theorem cZ {n : Nat} : (decide ((0 : Int) < ((dig n).length : Nat))) = decide (0 < n) := by
 apply decide_eq_decide.2;constructor
 ·intro h;rcases Bv n with h0 | h0
  ·rw [h0,uF] at h;exact absurd h (by decide)
  ·exact h0
 ·intro h;have : dig n ≠ [] := fun e => by rw [dig_eq_nil] at e;omega
  have := Cu.2 this;omega
theorem gH0 (z : Int) : ZI (decide (z < 0)) z.natAbs = z := by
 unfold ZI;by_cases h : z < 0
 ·rw [Ax h,Ae rfl];omega
 ·rw [By h,Aa (by decide)];omega
theorem zU0 : (dig 1).length = 1 := by decide +kernel
def plB (b1 : Bool) (n1 : Nat) (b2 : Bool) (n2 : Nat) : Bool × Nat := if b1 = b2 then (b1,n1 + n2) else if n2 ≤ n1 then (b1,n1 - n2) else (b2,n2 - n1)
variable {md me : Bool}
def iV (x : Bool × List Nat) : List D := [.v (.bool x.1),usD x.2]
def faD (c i : Int) : D := .agg [.v (.int .i64 c),.v (.int .i64 i)]
def sgB (b : Bool) (l : List Nat) : Bool := if l.length ≤ 128 then b && decide ((0 : Int) < (l.length : Nat)) else false
def sgL (l : List Nat) : List Nat := if l.length ≤ 128 then l else []
def sgC (l : List Nat) : Int := if l.length ≤ 128 then 0 else 14
def sgI (l : List Nat) : Int := if l.length ≤ 128 then 0 else -1
def sgD (b : Bool) (l : List Nat) : D := .tup [.agg (iV (sgB b l,sgL l)),faD (sgC l) (sgI l)]
theorem zI1 {b : Bool} {l : List Nat} (h : l.length ≤ 128) : D.tup [.agg (iV (b && decide ((0 : Int) < (l.length : Nat)),l)),faD 0 0] = sgD b l := by rw [sgD,sgB,sgL,sgC,sgI,Ae h,Ae h,Ae h,Ae h]
theorem sgD_gt {b : Bool} {l : List Nat} (h : ¬ l.length ≤ 128) : SubP (D.tup [.agg [.v (.bool false),.v (.slice none 0 0)],faD 14 (-1)]) (sgD b l) := by
 have e : D.tup [.agg (iV (false,[])),faD 14 (-1)] = sgD b l := by rw [sgD,sgB,sgL,sgC,sgI,Aa h,Aa h,Aa h,Aa h]
 rw [← e];exact u19 ⟨u20 ⟨u6 _,u12 rfl,trivial⟩,u6 _,trivial⟩
def limN : Nat → Nat → List Nat
 | 0,_ => []
 | n + 1,v => v % 4294967296 :: limN n (v / 4294967296)
theorem gE : ∀ n v,(limN n v).length = n
 | 0,_ => rfl
 | n + 1,v => by rw [limN,Aq,gE n]
theorem dW : ∀ n v,Lg (limN n v)
 | 0,_ => Lg.nil
 | n + 1,v => fun x hx => by
  rw [limN] at hx;rcases Bq.1 hx with rfl | hx
  ·exact Ce _ (by decide)
  ·exact dW n _ x hx
theorem zU1 : ∀ {l : List Nat},Lg l → limN l.length (VL l) = l
 | [],_ => rfl
 | d :: l,h => by
  have h1 := h d Cs;rw [uX,Aq,limN,show (d + 4294967296 * VL l) % 4294967296 = d by omega,show (d + 4294967296 * VL l) / 4294967296 = VL l by omega,zU1 fun x hx => h x (Bz _ hx)]
theorem mZ0 {n v : Nat} (h : v < 4294967296 ^ n) : VL (limN n v) = v := by
 induction n generalizing v with
 | zero => simp at h;subst h;rfl
 | succ n ih =>
  rw [limN,uX,ih (by rw [Bx] at h;omega)];omega
theorem yR1 {l r : List Nat} (h1 : Lg l) (h2 : Lg r) : Lg (l ++ r) := fun x hx => (Bc.1 hx).elim (h1 x) (h2 x)
theorem tJ {s : Nat} {p : Int} {q : Nat} (h : p = (q : Int)) : Int.fdiv (s : Int) p = ((s / q : Nat) : Int) := by
 subst h;rw [Int.fdiv_eq_ediv_of_nonneg _ (by omega)];rfl
theorem qE0 {o x : List Nat} {k v : Nat} (ho : o.length = k) (hk : k < x.length) : (MR.upd (.map (o ++ x.drop k) uD 0) k (uD v)).rows = (MR.map ((o ++ [v]) ++ x.drop (k + 1)) uD 0).rows := by
 simp only [MR.rows];rw [← List.map_set];congr 1;rw [List.set_append_right _ _ (by omega),ho,Nat.sub_self,Bw hk,List.set_cons_zero];simp
theorem uO0 {o x : List Nat} {k : Nat} (ho : o.length = k) : (o ++ x.drop k).getD k 0 = x.getD k 0 := by
 rw [Ao,Ci (by omega),ho,Nat.sub_self,De,Ao];rfl
theorem intAt_ok (c i : Int) : Fn Tryz.prog 245 [.v (.int .i64 c),.v (.int .i64 i)] (faD c i) := by
 refine yE zK Tryz.func245 rfl rfl rfl rfl rfl rfl ?_;intro w0 s0 mx;refine zJ 100 ?_;refine zJ 200 ?_;refine zL ?_;exact u4 rfl (u6 _)
theorem gF (b : Bool) (l : List Nat) (hl : l.length ≤ 2000000) : Fn Tryz.prog 119 [.agg [.v (.bool b),usD l]] (.v (.bool (uR b l))) := by
 refine yE zK Tryz.func119 rfl rfl rfl rfl rfl rfl ?_;intro w0 s0 mx;refine zJ 100 ?_;refine zJ 200 ?_;refine zB (zE zK [] 300 rfl ?_);repeat (first | refine zG ?_ | refine zH ?_ | refine zW (by first | exact trivial | omega | exact ini (by omega) (by omega) | (intro hh;simp at hh;exact ini (by omega) (by omega)) | (intro hh;simp at hh ⊢;omega) | (simp at *;omega) | (simp_all;done) | (intros;exact ini (by omega) (by omega))) ?_)
 refine zC (zA (zL ?_));exact u4 rfl (u7 (by rw [← vL0]))
theorem wK (L : List (Bool × List Nat)) (hv : ∀ k < L.length,uR (L.getD k (false,[])).1 (L.getD k (false,[])).2 = true ∧ (L.getD k (false,[])).2.length ≤ 2000000) (hl : L.length ≤ 100) : Fn Tryz.prog 220 [.sl false 2 L iV (false,[])] (faD 0 0) := by
 refine yE zK Tryz.func220 rfl rfl rfl rfl rfl rfl ?_;intro w0 s0 mx;refine zJ 100 ?_;refine zB (zJ 200 ?_);refine zR ?_;refine yC (ι := {k : Nat // k ≤ L.length}) [2,5,6] [0] 250 (fun x => [(7,.v (.int .i64 x.1))]) (fun _ => []) (fun x => L.length - x.1) ⟨0,Ar _⟩ ?_;refine ⟨⟨yK,yH,rfl,rfl⟩,fun x => ?_⟩;have hk : x.1 ≤ L.length := x.2;refine zJ 300 ?_;refine zB (zY (fun c2 => ?_) (fun c2 => ?_))
 ·
  refine zM (zA (zB (zR (zJ 400 ?_))));refine zB (zE zK [] 500 rfl ?_);refine zF ?_;refine zP _ (gF _ _ (by first | assumption | omega | (simp_all;done))) rfl ?_;refine zF ?_;refine zC (zA (zY (fun c4 => ?_) (fun c4 => ?_)))
  ·
   exact Bool.noConfusion (c4.symm.trans (hv x.1 (by omega)).1)
  ·
   refine zM (zO (zA (yM zK [] 700 ?_)));exact zS (⟨x.1 + 1,by omega⟩) ⟨⟨u21 (by push_cast;rfl),yK⟩,yH,rfl,rfl⟩ (by show L.length - (x.1 + 1) < L.length - x.1;omega)
 ·
  refine yD (yA (yB (zX (zA (zJ 800 ?_)))));refine zL ?_;exact u4 rfl (u6 _)
theorem vW (b : Bool) (l : List Nat) : Fn Tryz.prog 224 [.v (.bool b),usD l] (sgD b l) := by
 refine yE zK Tryz.func224 rfl rfl rfl rfl rfl rfl ?_;intro w0 s0 mx;refine zJ 100 ?_;refine zB (zJ 200 ?_);refine zY (fun c1 => ?_) (fun c1 => ?_)
 ·
  refine zB (zE zK [] 300 rfl ?_);refine zF ?_;refine zP _ (intAt_ok _ _) rfl ?_;refine zF ?_;refine zC (zA (zL (zN ?_)));exact u4 rfl (sgD_gt (b := b) (l := l) (by omega))
 ·
  refine zM (zA (zJ 400 ?_));refine zL ?_;exact u4 rfl (u9 (zI1 (b := b) (l := l) (by omega)))
theorem kT (l : List Nat) (hl : l.length ≤ 2000000) : FnO Tryz.prog 101 [usD l] 126 1 (l.map uD) := by
 refine vV0 Tryz.func101 rfl rfl rfl rfl rfl rfl ?_;intro w0 s0 mx;refine zB (zE zK [5] 100 rfl ?_);repeat (first | refine zG ?_ | refine zH ?_ | refine zW (by exact uI hl) ?_)
 refine zC (zA (zB (zB ?_)));refine vX Tryz.underlying25 rfl rfl rfl fun c hc => ?_;refine zA (zT rfl (fun c1 => ?_) (fun c1 => ?_))
 ·
  refine zB (zE zK [5] 300 rfl ?_);repeat (first | refine zG ?_ | refine zH ?_ | refine zW (by exact uI hl) ?_)
  refine zC (zA (zL (zN ?_)));exact FinO.nil rfl (by rw [hc c1];rfl)
 ·
  refine zM (zA ?_);refine zB (zE zK [5] 400 rfl ?_);repeat (first | refine zG ?_ | refine zH ?_ | refine zW (by first | rfl | exact uI hl | (rw [Bd];have := uI (f := uD) hl;omega) | (have := uI (f := uD) hl;simp at this ⊢;omega)) ?_)
  refine zC (zA (zL ?_));exact FinO.ret rfl rfl rfl rfl
variable {md me : Bool}
end Go.Proofs.YtinegkcbkefeiaaGreatDoor
/-
  DERIVED: THE SHELF's CONTRACTS AT THIS DUMP,IN PLAIN WORDS (tools/lay-plain.mjs out of 'YtinegkcbkefeiaaGreatDoorShelf3.lean',which tools/lay-shelf.mjs wrote): THE SAME DECLARATIONS UNDER THE SAME NAMES: 'import','namespace','open','def','theorem' AND NOTHING ELSE: no command of the shelf's: FOR A HAND-IN. Each laying: the table of numbers ('.._ren') and one theorem,a field a fact of the dump's own or the kernel's comparison;each contract: ONE APPLICATION.
-/
namespace Go.Proofs
open Go.Shelf
end Go.Proofs
namespace Go.Proofs.YtinegkcbkefeiaaGreatDoor
open Go.RowKit Go.Shelf
open Go.RowKit
variable {md me : Bool}
def st0 : St := ⟨0,vl0,0,ByteArray.empty,vl0,[]⟩
variable {md me : Bool}
def rD (b : Bool) (n : Nat) : D := .agg [.v (.bool b),qW n]
def qD (b : Bool) (n d : Nat) : D := .agg [.v (.bool b),qW n,qW d]
theorem yJ1 {a b : Nat} (h : 0 ≤ uC a b) : b ≤ a := by
 rcases Bs a b with h1 | h1
 ·rw [wD0 h1] at h;omega
 ·exact h1
theorem cmp_le {a b : Nat} (h : ¬ 0 ≤ uC a b) : a ≤ b := by
 rcases Bs b a with h1 | h1
 ·rw [yS0 h1] at h;omega
 ·exact h1
theorem cmp_nge {a b : Nat} (h : ¬ 0 ≤ uC a b) : ¬ b ≤ a := fun h1 => by
 rcases Bs b a with h2 | h2
 ·rw [yS0 h2] at h;omega
 ·rw [mI0 (by omega)] at h;omega
theorem kS (b : Bool) (l : List Nat) (hg : Lg l) (hl : l.length ≤ 100000000) : Fn Tryz.prog 132 [.agg [.v (.bool b),usD l]] (rD b (VL l)) := by
 refine yE zK Tryz.func132 rfl rfl rfl rfl rfl rfl ?_;intro w0 s0 mx;refine zJ 100 ?_;refine zB (zZ zK [] [[],[0],[],[2],[2,3],(rgN 5),(rgN 6)] 200 yQ (by kernel_rfl) rfl ?_);refine zF ?_;refine zP _ (pB0 _ (by first | assumption | omega | (simp_all;done)) (by first | assumption | omega | (simp_all;done))) rfl ?_;refine zF ?_;refine zC (zA (zL ?_));exact u4 rfl (u6 _)
theorem RatioOf_ok (b c : Bool) (l m : List Nat) (hg : Lg l) (hl : l.length ≤ 100000000) (hm : Lg m) (hn : m.length ≤ 100000000) : Fn Tryz.prog 168 [.agg [.v (.bool b),usD l,.v (.bool c),usD m]] (qD b (VL l) (VL m)) := by
 refine yE zK Tryz.func168 rfl rfl rfl rfl rfl rfl ?_;intro w0 s0 mx;refine zJ 100 ?_;refine zB (zZ zK [] [[],[0],[0,1],[],[3],[3,4],(rgN 6),(rgN 7),(rgN 8)] 200 yQ (by kernel_rfl) rfl ?_);refine zF ?_;refine zP _ (kS b l hg hl) rfl ?_;refine zF ?_;refine zP _ (pB0 m hm hn) rfl ?_;refine zF ?_;refine zC (zA (zL ?_));exact u4 rfl (u6 _)
theorem Whole3_ok (b : Bool) (n : Nat) : Fn Tryz.prog 169 [rD b n] (qD b n 1) := by
 refine yE zK Tryz.func169 rfl rfl rfl rfl rfl rfl ?_;intro w0 s0 mx;refine zJ 100 ?_;refine zB (zZ zK [] [[],[],[0,1],[0,1,2]] 200 yQ (by kernel_rfl) rfl ?_);refine zF ?_;refine zP _ (zJ0 1 (by omega) (by omega)) rfl ?_;refine zF ?_;refine zC (zA (zL ?_));exact u4 rfl (u6 _)
theorem IntMinus_ok (b : Bool) (n : Nat) : Fn Tryz.prog 129 [rD b n] (rD (!b && decide (0 < n)) n) := by
 refine yE zK Tryz.func129 rfl rfl rfl rfl rfl rfl ?_;intro w0 s0 mx;refine zJ 100 ?_;refine zJ 200 ?_;refine zL ?_;exact u4 rfl (u20 ⟨u7 (by rw [cZ]),u6 _,trivial⟩)
theorem jZ (b1 b2 : Bool) (n1 n2 : Nat) (h1 : (dig n1).length ≤ 100000000) (h2 : (dig n2).length ≤ 100000000) : Fn Tryz.prog 128 [rD b1 n1,rD b2 n2] (rD (plB b1 n1 b2 n2).1 (plB b1 n1 b2 n2).2) := by
 refine yE zK Tryz.func128 rfl rfl rfl rfl rfl rfl ?_;intro w0 s0 mx;refine zJ 100 ?_;refine zB (zR (zJ 200 ?_));refine zY (fun c1 => ?_) (fun c1 => ?_)
 ·
  refine zB (zZ zK [] mK7 300 yQ (by kernel_rfl) rfl ?_);refine zF ?_;refine zP _ (jV0 n1 n2 h1 h2) rfl ?_;refine zF ?_;refine zC (zA (zL (zQ (zN ?_))));exact u4 rfl (u9 (by rw [plB,Ae (by simpa using c1)];rfl))
 ·
  refine zB (zE zK [] 400 rfl ?_);refine zF ?_;refine zP _ (vR _ _ (by first | assumption | omega | (simp_all;done)) (by first | assumption | omega | (simp_all;done))) rfl ?_;refine zF ?_;refine zC (zA (zY (fun c3 => ?_) (fun c3 => ?_)))
  ·
   refine zB (zZ zK [] mK7 500 yQ (by kernel_rfl) rfl ?_);refine zF ?_;refine zP _ (xV n1 n2 (yJ1 (by omega)) h1) rfl ?_;refine zF ?_;refine zC (zA (zL (zQ (zN ?_))));exact u4 rfl (u9 (by rw [plB,Aa (by simpa using c1),Ae (yJ1 (by omega))];rfl))
  ·
   refine zM (zO (zA ?_));refine zB (zZ zK [] mK7 600 yQ (by kernel_rfl) rfl ?_);refine zF ?_;refine zP _ (xV n2 n1 (cmp_le (by omega)) h2) rfl ?_;refine zF ?_;refine zC (zA (zL ?_));exact u4 rfl (u9 (by rw [plB,Aa (by simpa using c1),Aa (cmp_nge (by omega))];rfl))
theorem yV0 (v : Vl) (hg : Lg v.nl) (hl : v.nl.length ≤ 100000000) (hm : Lg v.dl) (hn : v.dl.length ≤ 100000000) : Fn Tryz.prog 108 [.agg (vlD v)] (qD v.nn (VL v.nl) (if v.k = 3 then VL v.dl else 1)) := by
 refine yE zK Tryz.func108 rfl rfl rfl rfl rfl rfl ?_;intro w0 s0 mx;refine zJ 100 ?_;refine zB (zJ 200 ?_);refine zY (fun c1 => ?_) (fun c1 => ?_)
 ·
  refine zB (zE zK [] 300 rfl ?_);refine zF ?_;refine zP _ (RatioOf_ok v.nn v.dn v.nl v.dl hg hl hm hn) rfl ?_;refine zF ?_;refine zC (zA (zL (zN ?_)));exact u4 rfl (u9 (by rw [Ae (by simpa using c1)];rfl))
 ·
  refine zM (zA ?_);refine zB (zE zK [] 400 rfl ?_);refine zF ?_;refine zP _ (kS v.nn v.nl hg hl) rfl ?_;refine zF ?_;refine zP _ (Whole3_ok _ _) rfl ?_;refine zF ?_;refine zC (zA (zL ?_));exact u4 rfl (u9 (by rw [Aa (by simpa using c1)];rfl))
theorem zL0 (v : Vl) : Fn Tryz.prog 106 [.agg (vlD v)] (.v (.bool (decide (v.k = 2) || decide (v.k = 3)))) := by
 refine yE zK Tryz.func106 rfl rfl rfl rfl rfl rfl ?_;intro w0 s0 mx;refine zJ 100 ?_;refine zJ 200 ?_;refine zL ?_;exact u4 rfl (u6 _)
variable {md me : Bool}
theorem cmpValue_ok (v : Vl) : Fn Tryz.prog 57 [.agg (vlD v)] (.agg (stD (vlS v))) := by
 refine yE zK Tryz.func57 rfl rfl rfl rfl rfl rfl ?_;intro w0 s0 mx;refine zJ 100 ?_;refine zJ 200 ?_;refine zL ?_;exact u4 rfl (u20 (by repeat (first | exact trivial | exact u6 _ | exact u12 rfl | refine ⟨?_,?_⟩)))
theorem uV (h : List Ob) (v : Vl) (hv : v.k = 6 → uM h v.r = true) : Fn Tryz.prog 56 [hpD md h,.agg (vlD v)] (.agg (obD (zU h v))) := by
 refine yE zK Tryz.func56 rfl rfl rfl rfl rfl rfl ?_;intro w0 s0 mx;refine zJ 100 ?_;refine zB (zJ 200 ?_);refine zY (fun c1 => ?_) (fun c1 => ?_)
 ·
  refine zJ 300 ?_;refine zL (zN ?_);have e : zU h v = ob0 := bF0 c1;rw [e];exact u4 rfl (by repeat (first | exact trivial | exact u6 _ | exact u12 rfl | refine u20 ?_ | refine ⟨?_,?_⟩))
 ·
  refine zM (zA ?_);refine zB (zE zK [] 400 rfl ?_);repeat (first | refine zG ?_ | refine zH ?_ | refine zW (by exact yY (hv c1)) ?_)
  refine zC (zA (zL ?_));have e : zU h v = h.getD v.r.toNat ob0 := xH0 hv c1;rw [e];exact u4 rfl (by repeat (first | exact trivial | exact u6 _ | exact u12 rfl | refine u20 ?_ | refine ⟨?_,?_⟩))
theorem dU {x y : Nat} (h : (lim x).length < (lim y).length) : x < y := by
 have h0 : y ≠ 0 := by intro e;subst e;rw [qJ] at h;simp at h
 have h1 := kD x;have h2 := lim_ge h0;exact Bi h1 (Av (Be (by omega) (by omega)) h2)
theorem jH {x y : Nat} (h : x ≤ y) : (lim x).length ≤ (lim y).length := by
 rcases Bs (lim y).length (lim x).length with h1 | h1
 ·have := dU h1;omega
 ·exact h1
def cmpL (x y : Nat) : Int := if (lim x).length = (lim y).length then uC x y else ((lim x).length : Int) - ((lim y).length : Int)
theorem cmpL_ne {x y : Nat} (h : (lim x).length ≠ (lim y).length) : cmpL x y = ((lim x).length : Int) - ((lim y).length : Int) := Aa h
theorem gD0 {x y : Nat} (h : (lim x).length = (lim y).length) : cmpL x y = uC x y := Ae h
theorem yK1 (x y : Nat) : min (max (cmpL x y) (-1)) 1 = uC x y := by
 unfold cmpL;split
 ·unfold uC;split
  ·rfl
  ·split <;> rfl
 ·rename_i h;rcases Nat.lt_or_gt_of_ne h with h1 | h1
  ·rw [uC,Ae (dU h1)];omega
  ·have := dU h1;rw [uC,Aa (by omega),Ae this];omega
theorem mJ0 (x y : Nat) : cmpL x y < 0 ↔ x < y := by
 have h := yK1 x y;unfold uC at h;constructor
 ·intro h1;by_cases h2 : x < y
  ·exact h2
  ·rw [Aa h2] at h;split at h <;> omega
 ·intro h1;rw [Ae h1] at h;omega
structure CpL (a b : Nat) where
 k : Nat
 le : k ≤ (lim a).length
 eq : (lim a).drop k = (lim b).drop k
def CpL.next {a b : Nat} (x : CpL a b) (hl : (lim a).length = (lim b).length) (h : 0 < x.k) (he : (lim a).getD (x.k - 1) 0 = (lim b).getD (x.k - 1) 0) : CpL a b := ⟨x.k - 1,by have := x.le;omega,by
 have h1 := x.le;rw [qV (by omega),qV (by omega)] at he;rw [Bw (by omega),Bw (l := lim b) (by omega),he,show x.k - 1 + 1 = x.k by omega,x.eq]⟩
theorem ltL_at {la lb : List Nat} {i : Nat} (ha : Lg la) (hl : la.length = lb.length) (hi : i < la.length) (hd : la.drop (i + 1) = lb.drop (i + 1)) (h : la[i] < lb[i]) : VL la < VL lb := by
 rw [wQ la (i + 1) (by omega),wQ lb (i + 1) (by omega),hd,wP hi,wP (l := lb) (m := i) (by omega)];have h1 := L_lt (ha.take i);rw [Ap,Cy (Cr hi)] at h1;have h2 : 4294967296 ^ i * (la[i] + 1) ≤ 4294967296 ^ i * lb[i] := Ch _ h;rw [Br] at h2;omega
theorem yI1 {a b k : Nat} (hl : (lim a).length = (lim b).length) (hk : 0 < k) (hk2 : k ≤ (lim a).length) (hd : (lim a).drop k = (lim b).drop k) (h : (lim a).getD (k - 1) 0 < (lim b).getD (k - 1) 0) : a < b := by
 rw [qV (by omega),qV (by omega)] at h;have := ltL_at (yU a) hl (i := k - 1) (by omega) (by rw [show k - 1 + 1 = k by omega];exact hd) h
 rwa [vO,vO] at this
theorem VL_take_ge {l : List Nat} {k : Nat} (h : l.length ≤ k) : VL (l.take (k + 1)) = VL (l.take k) := by rw [Ak h,Ak (by omega)]
theorem uE {l : List Nat} {k : Nat} (h : l.length ≤ k) : l.getD k 0 = 0 := by rw [Ao,Dr h];rfl
theorem qM (l : List Nat) (k : Nat) : VL (l.take (k + 1)) = VL (l.take k) + 4294967296 ^ k * l.getD k 0 := by
 rcases Bs k l.length with h | h
 ·rw [wP h,qV h]
 ·rw [VL_take_ge h,uE h];omega
structure PlL (a b : List Nat) where
 k : Nat
 c : Nat
 o : List Nat
 eq : VL o + c * 4294967296 ^ k = VL (a.take k) + VL (b.take k)
 lo : o.length = k
 lg : Lg o
 hc : c ≤ 1
 le : k ≤ a.length
def PlL.s {a b : List Nat} (x : PlL a b) : Nat := x.c + a.getD x.k 0 + b.getD x.k 0
theorem pll_step {a b o : List Nat} {k c s : Nat} (h : VL o + c * 4294967296 ^ k = VL (a.take k) + VL (b.take k)) (ho : o.length = k) (hs : s = c + a.getD k 0 + b.getD k 0) :
  VL (o ++ [s % 4294967296]) + s / 4294967296 * 4294967296 ^ (k + 1) = VL (a.take (k + 1)) + VL (b.take (k + 1)) := by
 rw [pX,ho,qM a,qM b,Bx];generalize 4294967296 ^ k = B at *;have e : s = 4294967296 * (s / 4294967296) + s % 4294967296 := (Cl s 4294967296).symm;have e2 : B * s = B * (4294967296 * (s / 4294967296)) + B * (s % 4294967296) := by rw [← Br,← e]
 have e3 : B * s = B * c + B * a.getD k 0 + B * b.getD k 0 := by rw [hs,Br,Br]
 have e4 : s / 4294967296 * (B * 4294967296) = B * (4294967296 * (s / 4294967296)) := by rw [Au,Bo]
 have e5 : c * B = B * c := Au _ _;omega
theorem PlL.s_le {a b : List Nat} (x : PlL a b) (ha : Lg a) (hb : Lg b) : x.s ≤ 8589934591 := by
 have h1 := qG ha x.k;have h2 := qG hb x.k;have h3 := x.hc;unfold PlL.s;omega
def PlL.next {a b : List Nat} (x : PlL a b) (ha : Lg a) (hb : Lg b) (h : x.k < a.length) : PlL a b := ⟨x.k + 1,x.s / 4294967296,x.o ++ [x.s % 4294967296],pll_step x.eq x.lo rfl,by simp [x.lo],x.lg.snoc (Ce _ (by decide)),by have := x.s_le ha hb;omega,h⟩
def PlL.start (a b : List Nat) : PlL a b := ⟨0,0,[],by simp [VL],rfl,Lg.nil,Ar _,Ar _⟩
theorem PlL.fin {a b : List Nat} (x : PlL a b) (h : a.length ≤ x.k) (hl : b.length ≤ a.length) : VL (x.o ++ [x.c]) = VL a + VL b ∧ Lg (x.o ++ [x.c]) := by
 have h1 := x.eq;rw [Ak h,Ak (by omega)] at h1;refine ⟨by rw [pX,x.lo,Au];exact h1,x.lg.snoc (by have := x.hc;omega)⟩
structure MiL (a b : List Nat) where
 k : Nat
 c : Nat
 o : List Nat
 eq : VL o + VL (b.take k) = VL (a.take k) + c * 4294967296 ^ k
 lo : o.length = k
 lg : Lg o
 hc : c ≤ 1
 le : k ≤ a.length
def lsD (x y b : Nat) : Nat := (x + 8589934592 - y - b) % 4294967296
def lsB (x y b : Nat) : Nat := if x < y + b then 1 else 0
theorem qA1 {x y b : Nat} (hx : x < 4294967296) (hy : y < 4294967296) (hb : b ≤ 1) : lsD x y b + y + b = x + 4294967296 * lsB x y b := by
 unfold lsD lsB;split <;> omega
theorem yZ1 (x y b : Nat) : lsD x y b < 4294967296 := Ce _ (by decide)
theorem zS1 (x y b : Nat) : lsB x y b ≤ 1 := by unfold lsB;split <;> omega
theorem mil_step {a b o : List Nat} {k c y d : Nat} (h : VL o + VL (b.take k) = VL (a.take k) + c * 4294967296 ^ k) (ho : o.length = k) (hy : y + b.getD k 0 + c = a.getD k 0 + 4294967296 * d) :
  VL (o ++ [y]) + VL (b.take (k + 1)) = VL (a.take (k + 1)) + d * 4294967296 ^ (k + 1) := by
 rw [pX,ho,qM a,qM b,Bx];generalize 4294967296 ^ k = B at *;have e : B * y + B * b.getD k 0 + B * c = B * a.getD k 0 + B * (4294967296 * d) := by rw [← Br,← Br,← Br,hy]
 have e4 : d * (B * 4294967296) = B * (4294967296 * d) := by rw [Au,Bo]
 have e5 : c * B = B * c := Au _ _;omega
def MiL.next {a b : List Nat} (x : MiL a b) (ha : Lg a) (hb : Lg b) (h : x.k < a.length) : MiL a b := ⟨x.k + 1,lsB (a.getD x.k 0) (b.getD x.k 0) x.c,x.o ++ [lsD (a.getD x.k 0) (b.getD x.k 0) x.c],mil_step x.eq x.lo (qA1 (qG ha _) (qG hb _) x.hc),by simp [x.lo],x.lg.snoc (yZ1 _ _ _),zS1 _ _ _,h⟩
def MiL.start (a b : List Nat) : MiL a b := ⟨0,0,[],by simp [VL],rfl,Lg.nil,Ar _,Ar _⟩
theorem MiL.fin {a b : List Nat} (x : MiL a b) (h : a.length ≤ x.k) (hl : b.length ≤ a.length) (hle : VL b ≤ VL a) : VL x.o = VL a - VL b := by
 have hk := x.le;have h1 := x.eq;have h2 := x.hc;have h3 := L_lt x.lg;rw [Ak h,Ak (by omega)] at h1;rw [x.lo] at h3;rcases Bv x.c with h4 | h4
 ·rw [h4] at h1;omega
 ·rw [show x.c = 1 by omega] at h1;omega
theorem wb32 (v : BitVec 32) : IntKind.u32.wrap (v.toNat : Int) = (v.toNat : Int) := by
 have := v.isLt;simp only [IntKind.wrap,IntKind.signed,IntKind.bits,Ck,Ay,if_false];omega
theorem xG0 (v : BitVec 32) : BitVec.ofInt 32 (v.toNat : Int) = v := by rw [BitVec.ofInt_natCast,BitVec.ofNat_toNat,BitVec.setWidth_eq]
theorem yN1 (x y : BitVec 32) : bAnd .u32 (x.toNat : Int) (y.toNat : Int) = ((x &&& y).toNat : Int) := by
 show IntKind.u32.wrap ((BitVec.ofInt 32 (x.toNat : Int) &&& BitVec.ofInt 32 (y.toNat : Int)).toNat : Int) = _;rw [xG0,xG0,wb32]
theorem bOr32 (x y : BitVec 32) : bOr .u32 (x.toNat : Int) (y.toNat : Int) = ((x ||| y).toNat : Int) := by
 show IntKind.u32.wrap ((BitVec.ofInt 32 (x.toNat : Int) ||| BitVec.ofInt 32 (y.toNat : Int)).toNat : Int) = _;rw [xG0,xG0,wb32]
theorem bXor32 (x y : BitVec 32) : bXor .u32 (x.toNat : Int) (y.toNat : Int) = ((x ^^^ y).toNat : Int) := by
 show IntKind.u32.wrap ((BitVec.ofInt 32 (x.toNat : Int) ^^^ BitVec.ofInt 32 (y.toNat : Int)).toNat : Int) = _;rw [xG0,xG0,wb32]
theorem yM1 (x : BitVec 32) : bNot .u32 (x.toNat : Int) = ((~~~x).toNat : Int) := by
 show IntKind.u32.wrap ((BitVec.ofInt 32 4294967295 ^^^ BitVec.ofInt 32 (x.toNat : Int)).toNat : Int) = _;rw [xG0,show BitVec.ofInt 32 4294967295 = BitVec.allOnes 32 by decide,BitVec.allOnes_xor,wb32]
theorem top32 (v : BitVec 32) : v.toNat / 2147483648 = if v.msb then 1 else 0 := by
 have h := v.isLt;rw [BitVec.msb_eq_decide];by_cases h1 : 2 ^ (32 - 1) ≤ v.toNat
 ·rw [Ax h1,Ae rfl];omega
 ·rw [By h1,Aa (by decide)];omega
theorem qG1 {x : Nat} (h : x < 4294967296) : (BitVec.ofNat 32 x).msb = decide (2147483648 ≤ x) := by
 rw [BitVec.msb_eq_decide,BitVec.toNat_ofNat,Dt h]
theorem qE1 {x : Nat} (h : x < 4294967296) : x = (BitVec.ofNat 32 x).toNat := by rw [BitVec.toNat_ofNat,Dt h]
theorem sub32_lo {x y b : Nat} (hx : x < 4294967296) (hy : y < 4294967296) (hb : b ≤ 1) : IntKind.u32.wrap (IntKind.u32.wrap ((x : Int) - (y : Int)) - (b : Int)) = ((lsD x y b : Nat) : Int) := by
 simp only [IntKind.wrap,IntKind.signed,IntKind.bits,Ck,Ay,if_false,lsD];omega
theorem sub32_hi {x y b : Nat} (hx : x < 4294967296) (hy : y < 4294967296) (hb : b ≤ 1) :
  Int.fdiv (bOr .u32 (bAnd .u32 (bNot .u32 (x : Int)) (y : Int)) (bAnd .u32 (bNot .u32 (bXor .u32 (x : Int) (y : Int))) ((lsD x y b : Nat) : Int))) (2 ^ min (Int.toNat 31) IntKind.u32.bits) = ((lsB x y b : Nat) : Int) := by
 have hd : lsD x y b < 4294967296 := yZ1 x y b;have hs := qA1 hx hy hb;have m1 := qG1 hx;have m2 := qG1 hy;have m3 := qG1 hd;rw [show ((x : Nat) : Int) = ((BitVec.ofNat 32 x).toNat : Int) by rw [← qE1 hx],show ((y : Nat) : Int) = ((BitVec.ofNat 32 y).toNat : Int) by rw [← qE1 hy],show ((lsD x y b : Nat) : Int) = ((BitVec.ofNat 32 (lsD x y b)).toNat : Int) by rw [← qE1 hd],yM1,yN1,bXor32,yM1,yN1,bOr32];rw [show ((2 : Int) ^ min (Int.toNat 31) IntKind.u32.bits) = ((2147483648 : Nat) : Int) by decide,Int.fdiv_eq_ediv_of_nonneg _ (by omega),← Int.natCast_ediv,top32];simp only [BitVec.msb_or,BitVec.msb_and,BitVec.msb_not,BitVec.msb_xor,m1,m2,m3];congr 1;unfold lsB at *;generalize lsD x y b = d at *;by_cases h1 : 2147483648 ≤ x <;> by_cases h2 : 2147483648 ≤ y <;> by_cases h3 : 2147483648 ≤ d <;> by_cases h4 : x < y + b <;> simp only [h1,h2,h3,h4,decide_true,decide_false,if_true,if_false,Bool.and_true,Bool.and_false,Bool.not_true,Bool.not_false,Bool.or_true,Bool.or_false,Bool.true_and,Ck,Bool.xor_true,Bool.xor_false,Bool.true_or,Bool.false_or] at hs ⊢ <;> (first | rfl | omega)
variable {md me : Bool}
theorem qT0 {x : Nat} (h : 0 < (lim x).length) : (lim x).getD ((lim x).length - 1) 0 ≠ 0 := by
 have h1 := lim_noLead x (Cu.1 h)
 rwa [List.getLast_eq_getElem,← qV (by omega)] at h1
theorem cJ (x : Nat) (hx : (lim x).length ≤ 600) : Fn Tryz.prog 239 [usD (lim x)] (.v (.bool true)) := by
 refine yE zK Tryz.func239 rfl rfl rfl rfl rfl rfl ?_;intro w0 s0 mx;refine zJ 100 ?_;refine zB (zE zK [] 200 rfl ?_);repeat (first | refine zG ?_ | refine zH ?_ | refine zW (by first | exact trivial | omega | exact ini (by omega) (by omega) | (intro hh;simp at hh;exact ini (by omega) (by omega)) | (intro hh;simp at hh ⊢;omega) | (simp at *;omega) | (simp_all;done) | (simp;intro _ h2;have := Cu.2 h2;omega)) ?_)
 refine zC (zA (zL ?_));exact u4 rfl (u7 (by simp;refine ⟨by omega,?_⟩;by_cases h : lim x = [];exact Or.inl h;exact Or.inr (by have := qT0 (x := x) (Cu.2 h);rwa [Ao] at this)))
theorem vJ (x y : Nat) (hx : (lim x).length ≤ 600) (hy : (lim y).length ≤ 600) : Fn Tryz.prog 207 [usD (lim x),usD (lim y)] (faD 0 0) := by
 refine yE zK Tryz.func207 rfl rfl rfl rfl rfl rfl ?_;intro w0 s0 mx;refine zJ 100 ?_;refine zB (zR ?_);refine zB (zE zK [] 200 rfl ?_);refine zF ?_;refine zP _ (cJ _ (by first | assumption | omega | (simp_all;done))) rfl ?_;refine zF ?_;refine zC (zA (zY (fun c1 => ?_) (fun c1 => ?_)))
 ·
  exact absurd c1 (by decide)
 ·
  refine zB (zE zK [] 400 rfl ?_);refine zF ?_;refine zP _ (cJ _ (by first | assumption | omega | (simp_all;done))) rfl ?_;refine zF ?_;refine zC (zA (zY (fun c3 => ?_) (fun c3 => ?_)))
  ·
   exact absurd c3 (by decide)
  ·
   refine zM (zO (zA (zJ 600 ?_)));refine zL ?_;exact u4 rfl (u6 _)
theorem jN (l : List Nat) (hg : Lg l) (hl : l.length ≤ 100000000) : Fn Tryz.prog 241 [usD l] (usD (lim (VL l))) := by
 refine yE zK Tryz.func241 rfl rfl rfl rfl rfl rfl ?_;intro w0 s0 mx;refine zJ 100 ?_;refine zB (zR ?_);refine yC (ι := TrmL l) [] [] 150 (fun x => [(0,.sl false 1 x.r uD 0)]) (fun _ => []) (fun x => x.r.length) ⟨l,hg,rfl,Aj _⟩ ?_;refine ⟨⟨yK,yH,rfl,rfl⟩,fun x => ?_⟩;have hk := x.le;refine zB (zJ 200 ?_);refine zY (fun c1 => ?_) (fun c1 => ?_)
 ·
  refine zM (zA (zR (yM zK [] 300 ?_)));refine zO ?_;have h9 := c1.2;rw [bI] at h9;exact zS (x.next (by omega) (by omega)) ⟨(by first | exact trivial | (repeat (first | exact trivial | exact u0 _ | refine ⟨?_,?_⟩ | exact u21 (by first | rfl | omega | (push_cast;omega)) | exact u17 | exact Sub.own rfl | exact u13 rfl | exact u5 (Af).symm | exact u5 rfl | exact Sub.of_eq (by rw [dF0];rfl)))),yH,rfl,rfl⟩ (by show (x.r.take (x.r.length - 1)).length < x.r.length;rw [Ap];omega)
 ·
  refine yD (yA (yB (zX (zA (zJ 400 ?_)))));refine zL ?_;rw [bI] at c1;have e : x.r = lim (VL l) := x.fin (fun hp h9 => by rw [h9,Ax (show (0 : Int) < (x.r.length : Nat) by omega)] at c1;exact absurd c1 (by decide));exact u4 rfl (u9 (by rw [e];rfl))
theorem vA0 (l : List Nat) (hg : Lg l) (hl : l.length ≤ 100000000) (h6 : (lim (VL l)).length ≤ 600) : Fn Tryz.prog 208 [usD l] (.tup [usD (lim (VL l)),faD 0 0]) := by
 refine yE zK Tryz.func208 rfl rfl rfl rfl rfl rfl ?_;intro w0 s0 mx;refine zJ 100 ?_;refine zB ?_;refine zB (zE zK [] 200 rfl ?_);refine zF ?_;refine zP _ (jN _ (by first | assumption | omega | (simp_all;done)) (by first | assumption | omega | (simp_all;done))) rfl ?_;refine zF ?_;refine zC (zA (zJ 300 ?_));refine zY (fun c2 => ?_) (fun c2 => ?_)
 ·
  exact absurd c2 (by omega)
 ·
  refine zM (zA (zJ 500 ?_));refine zL ?_;exact u4 rfl (u6 _)
theorem gC (a b : Nat) (ha : (lim a).length ≤ 100000000) (hb : (lim b).length ≤ 100000000) : Fn Tryz.prog 210 [usD (lim a),usD (lim b)] (.v (.int .i64 (cmpL a b))) := by
 refine yE zK Tryz.func210 rfl rfl rfl rfl rfl rfl ?_;intro w0 s0 mx;refine zJ 100 ?_;refine zB (zJ 200 ?_);refine zY (fun c1 => ?_) (fun c1 => ?_)
 ·
  refine zJ 300 ?_;refine zL (zN ?_);exact u4 rfl (u10 (cmpL_ne (by omega)).symm)
 ·
  refine zM (zA (zB (zJ 400 ?_)));refine zR ?_;refine yC (ι := CpL a b) [0,1] [] 450 (fun x => [(5,.v (.int .i64 ((x.k : Int) - 1)))]) (fun _ => []) (fun x => x.k) ⟨(lim a).length,Aj _,by rw [Az (Aj _),Az (by omega)]⟩ ?_;refine ⟨⟨yK,yH,rfl,rfl⟩,fun x => ?_⟩;have hk := x.le;have hkt : ((x.k : Int) - 1).toNat = x.k - 1 := by omega
  refine zB (zJ 500 ?_);refine zY (fun c4 => ?_) (fun c4 => ?_)
  ·
   refine zM (zA (zB (zR ?_)));refine zB (zZ zK [] mK1 700 yQ (by kernel_rfl) rfl ?_);refine zF ?_;refine zC (zA (zY (fun c6 => ?_) (fun c6 => ?_)))
   ·
    refine zB ?_;refine zB (zZ zK [] mK1 800 yQ (by kernel_rfl) rfl ?_);refine zF ?_;refine zC (zA (zY (fun c7 => ?_) (fun c7 => ?_)))
    ·
     refine zJ 900 ?_;refine zL (zN (zQ (zN (yL (zQ (zN ?_))))));rw [hkt] at c7;exact u4 rfl (u10 (by rw [gD0 (by omega),wD0 (yI1 (by omega) (by omega) hk x.eq (by omega))]))
    ·
     refine zM (zA (zJ 1000 ?_));refine zL (zQ (zN (yL (zQ (zN ?_)))));rw [hkt] at c6 c7;exact u4 rfl (u10 (by rw [gD0 (by omega),yS0 (yI1 (by omega) (by omega) (by omega) x.eq.symm (by omega))]))
   ·
    refine zM (zO (zA (yM zK [] 800 ?_)));rw [hkt] at c6;exact zS (x.next (by omega) (by omega) (by omega)) ⟨(by first | exact trivial | (repeat (first | exact trivial | exact u0 _ | refine ⟨?_,?_⟩ | exact u21 (by first | rfl | omega | (push_cast;omega)) | exact u17 | exact Sub.own rfl | exact u13 rfl | exact u5 (Af).symm | exact u5 rfl | exact u21 (by show (x.k : Int) - 1 - 1 = ((x.k - 1 : Nat) : Int) - 1;omega)))),yH,rfl,rfl⟩ (by show x.k - 1 < x.k;omega)
  ·
   refine yD (yA (yB (zX (zA (zJ 1100 ?_)))));refine zL ?_;have hz : x.k = 0 := by omega
   have he := x.eq;rw [hz] at he;exact u4 rfl (u10 (by rw [gD0 (by omega),mI0 (by have := congrArg VL he;rwa [Dc,Dc,vO,vO] at this)]))
theorem cM (a b : Nat) (ha : (lim a).length ≤ 600) (hb : (lim b).length ≤ 600) : Fn Tryz.prog 163 [usD (lim a),usD (lim b)] (.tup [.v (.int .i64 (uC a b)),faD 0 0]) := by
 refine yE zK Tryz.func163 rfl rfl rfl rfl rfl rfl ?_;intro w0 s0 mx;refine zJ 100 ?_;refine zB ?_;refine zB (zE zK [] 200 rfl ?_);refine zF ?_;refine zP _ (vJ _ _ (by first | assumption | omega | (simp_all;done)) (by first | assumption | omega | (simp_all;done))) rfl ?_;refine zF ?_;refine zC (zA (zJ 300 ?_));refine zY (fun c2 => ?_) (fun c2 => ?_)
 ·
  exact absurd c2 (by decide)
 ·
  refine zM (zA ?_);refine zB (zE zK [] 500 rfl ?_);refine zF ?_;refine zP _ (gC _ _ (by first | assumption | omega | (simp_all;done)) (by first | assumption | omega | (simp_all;done))) rfl ?_;refine zF ?_;refine zC (zA (zL ?_));exact u4 rfl (u19 ⟨u10 (by have h := yK1 a b;generalize cmpL a b = c at *;rw [← h];split <;> (try split) <;> (try split at *) <;> omega),u6 _,trivial⟩)
def I32 (x : Int) : Prop := 0 ≤ x ∧ x < 4294967296
theorem pO {l : List Nat} (h : Lg l) (i : Nat) : I32 ((l.getD i 0 : Nat) : Int) := by
 have := qG h i;exact ⟨by omega,by omega⟩
theorem uB1 : I32 0 := ⟨by decide,by decide⟩
theorem cB0 {l : List Nat} (h : Lg l) (i : Nat) : Lg (l.drop i) := fun x hx => h x (Df hx)
theorem sub32_ok {x y b : Int} (hx : I32 x) (hy : I32 y) (hb : 0 ≤ b ∧ b ≤ 1) : IntKind.u32.wrap (IntKind.u32.wrap (x - y) - b) = ((lsD x.toNat y.toNat b.toNat : Nat) : Int) ∧
  Int.fdiv (bOr .u32 (bAnd .u32 (bNot .u32 x) y) (bAnd .u32 (bNot .u32 (bXor .u32 x y)) ((lsD x.toNat y.toNat b.toNat : Nat) : Int))) (2 ^ min (Int.toNat 31) IntKind.u32.bits) = ((lsB x.toNat y.toNat b.toNat : Nat) : Int) := by
 obtain ⟨x,rfl⟩ := Cg hx.1;obtain ⟨y,rfl⟩ := Cg hy.1;obtain ⟨b,rfl⟩ := Cg hb.1;have h1 := hx.2;have h2 := hy.2;have h3 := hb.2;simp only [Ab];exact ⟨sub32_lo (by omega) (by omega) (by omega),sub32_hi (by omega) (by omega) (by omega)⟩
theorem tQ (x y b : Int) (hx : I32 x) (hy : I32 y) (hb : 0 ≤ b ∧ b ≤ 1) : Fn Tryz.prog 256 [.v (.int .u32 x),.v (.int .u32 y),.v (.int .u32 b)] (.tup [.v (.int .u32 (lsD x.toNat y.toNat b.toNat : Nat)),.v (.int .u32 (lsB x.toNat y.toNat b.toNat : Nat))]) := by
 refine yE zK Tryz.func256 rfl rfl rfl rfl rfl rfl ?_;intro w0 s0 mx;refine zJ 100 ?_;refine zJ 200 ?_;refine zJ 300 ?_;refine zL ?_;obtain ⟨e1,e2⟩ := sub32_ok hx hy hb;exact u4 rfl (u19 ⟨u10 e1,u10 (by rw [e1];exact e2),trivial⟩)
theorem CloneU_G (l : List Nat) (hl : l.length ≤ 2000000) : FnG Tryz.prog 101 [usD l] [] (.mo 0 l.length) [.mrow 126 1 (.map l uD 0)] := by
 refine xN zK Tryz.func101 rfl rfl rfl rfl rfl rfl rfl ?_;intro w0 s0 mx;refine zB (zE zK [] 100 rfl ?_);repeat (first | refine zG ?_ | refine zH ?_ | refine zW (by exact uI hl) ?_)
 refine zC (zA (zB (zB ?_)));refine vX Tryz.underlying25 rfl rfl rfl fun c hc => ?_;refine zA (zT rfl (fun c1 => ?_) (fun c1 => ?_))
 ·
  refine zB (zE zK [] 300 rfl ?_);repeat (first | refine zG ?_ | refine zH ?_ | refine zW (by exact uI hl) ?_)
  refine zC (zA ?_);refine qC 2 126 1 rfl ?_;refine bZ0 300 rfl ?_;refine zL (zN ?_);obtain rfl := hc c1;exact u11 300 rfl rfl (u0 _) ⟨SubO.mr rfl,trivial⟩
 ·
  refine zM (zA ?_);refine zB (zE zK [1005] 400 rfl ?_);repeat (first | refine zG ?_ | refine zH ?_ | refine zW (by first | rfl | exact uI hl | (simp only [MR.len,Bd,Bb];omega)) ?_)
  refine zC (zA (zL ?_));exact u11 100 rfl rfl (Sub.mo (by rw [Bb,Cd])) ⟨SubO.mr rfl,trivial⟩
theorem cH0 {P : Program} {E : Pn} {K : DS → Prop} {p : Prop} {r : Out} (hr : r.sat P E K) (hp : p := by first | exact ⟨hm,by rw [← hm];exact c4⟩ | exact ⟨hm,by rw [← hm];omega⟩ | exact Eh) : (Out.need p r).sat P E K := ⟨hp,hr⟩
theorem natSub0_ok (a b : Nat) (ha : (lim a).length ≤ 100000) (hb : (lim b).length ≤ 100000) (hle : b ≤ a) : Fn Tryz.prog 248 [usD (lim a),usD (lim b)] (usD (lim (a - b))) := by
 refine yE zK Tryz.func248 rfl rfl rfl rfl rfl rfl ?_;intro w0 s0 mx;refine zJ 100 ?_;refine zB (zE zK [1010] 200 rfl ?_);refine zF ?_;refine yR _ _ (CloneU_G (lim a) (by omega)) rfl ?_;refine zF ?_;refine zC (zA (zJ 300 ?_));refine zB (zJ 400 ?_);refine zR ?_;refine yC (ι := MiL (lim a) (lim b)) [1,5,12] [] 450 (fun x => [(6,.v (.int .u32 x.c)),(13,.v (.int .i64 x.k))]) (fun x => [(101,.mrow 126 1 (.map (x.o ++ (lim a).drop x.k) uD 0))]) (fun x => (lim a).length - x.k) (MiL.start _ _) ?_;refine ⟨⟨yK,yH,rfl,rfl⟩,fun x => ?_⟩;have hk := x.le;have hlo := x.lo;have hc1 := x.hc;have hm : (lim a).length = (MR.map (x.o ++ (lim a).drop x.k) uD 0).len := by rw [MR.len,Am,Bm];omega
 refine zJ 500 ?_;refine zB (zY (fun c4 => ?_) (fun c4 => ?_))
 ·
  refine zM (zA (zB (zR (zJ 600 ?_))));refine zJ 700 ?_;refine zB (zJ 800 ?_);refine zY (fun c7 => ?_) (fun c7 => ?_)
  ·
   refine yM zK [] 900 ?_;refine zA ?_;refine zE zK [] 1000 rfl ?_;repeat (first | refine zG ?_ | refine zH ?_ | refine cH0 ?_)
   refine zP _ (tQ _ _ _ (pO (yR1 x.lg (cB0 (yU a) _)) _) (by first | exact uB1 | exact pO (yU b) _) ⟨by omega,by omega⟩) rfl ?_;repeat (first | refine zG ?_ | refine zH ?_ | refine cH0 ?_)
   refine zC (zO (zA (yM zK [] 1100 ?_)));exact zS (x.next (yU a) (yU b) (by omega)) ⟨(by first | exact trivial | (repeat (first | exact trivial | exact u0 _ | refine ⟨?_,?_⟩ | exact u21 (by first | rfl | omega | (push_cast;omega)) | exact u17 | exact Sub.own rfl | exact u13 rfl | exact u5 (Af).symm | exact u5 rfl | exact u21 (by (try simp only [Ab,uO0 x.lo]);(try rw [show Int.toNat 0 = (lim b).getD x.k 0 from (uE (by omega)).symm]);rfl)))),⟨SubO.mr (by (try simp only [Ab,uO0 x.lo]);(try rw [show Int.toNat 0 = (lim b).getD x.k 0 from (uE (by omega)).symm]);exact qE0 x.lo (by omega)),yH⟩,rfl,rfl⟩ (by show (lim a).length - (x.k + 1) < (lim a).length - x.k;omega)
  ·
   refine zM (zA ?_);refine zE zK [] 1000 rfl ?_;repeat (first | refine zG ?_ | refine zH ?_ | refine cH0 ?_)
   refine zP _ (tQ _ _ _ (pO (yR1 x.lg (cB0 (yU a) _)) _) (by first | exact uB1 | exact pO (yU b) _) ⟨by omega,by omega⟩) rfl ?_;repeat (first | refine zG ?_ | refine zH ?_ | refine cH0 ?_)
   refine zC (zO (zA (yM zK [] 1100 ?_)));exact zS (x.next (yU a) (yU b) (by omega)) ⟨(by first | exact trivial | (repeat (first | exact trivial | exact u0 _ | refine ⟨?_,?_⟩ | exact u21 (by first | rfl | omega | (push_cast;omega)) | exact u17 | exact Sub.own rfl | exact u13 rfl | exact u5 (Af).symm | exact u5 rfl | exact u21 (by (try simp only [Ab,uO0 x.lo]);(try rw [show Int.toNat 0 = (lim b).getD x.k 0 from (uE (by omega)).symm]);rfl)))),⟨SubO.mr (by (try simp only [Ab,uO0 x.lo]);(try rw [show Int.toNat 0 = (lim b).getD x.k 0 from (uE (by omega)).symm]);exact qE0 x.lo (by omega)),yH⟩,rfl,rfl⟩ (by show (lim a).length - (x.k + 1) < (lim a).length - x.k;omega)
 ·
  refine yD (yA (yB (zX (zA ?_))));refine jX 101 rfl (by repeat (first | exact trivial | exact hm | refine ⟨?_,?_⟩)) (by repeat (first | exact trivial | refine ⟨?_,?_⟩)) ?_;refine zB (zE zK [] 1200 rfl ?_);refine zF ?_;refine zP _ ((jN x.o x.lg (by omega)).args ⟨SubP.ownSl (by show List.map uD _ = _;rw [Az (by omega),Dd]),trivial⟩) rfl ?_;refine zF ?_;refine zC (zA (zL ?_));have e := x.fin (by omega) (jH hle) (by rw [vO,vO];exact hle);rw [vO,vO] at e;exact u4 rfl (u9 (by rw [e]))
theorem yP1 {o : List Nat} {j y : Nat} (h : j < o.length) : VL (o.set j y) + 4294967296 ^ j * o.getD j 0 = VL o + 4294967296 ^ j * y := by
 induction o generalizing j with
 | nil => cases h
 | cons d o ih =>
  cases j with
  | zero => simp [uX];omega
  | succ j =>
   have h1 := ih (j := j) (by simpa using h);rw [List.set_cons_succ,uX,uX,List.getD_cons_succ,Bx];generalize 4294967296 ^ j = B at *;have e1 : B * 4294967296 * o.getD j 0 = 4294967296 * (B * o.getD j 0) := by rw [Au B,Bo]
   have e2 : B * 4294967296 * y = 4294967296 * (B * y) := by rw [Au B,Bo]
   omega
theorem bV {o : List Nat} {n : Nat} (h : VL (o.drop n) = 0) : o.getD n 0 = 0 ∧ VL (o.drop (n + 1)) = 0 := by
 rcases Bs n o.length with h1 | h1
 ·rw [Bw h1,uX] at h;rw [qV h1];omega
 ·rw [uE h1,Az (by omega)];exact ⟨rfl,rfl⟩
structure MuO (a b : List Nat) where
 i : Nat
 o : List Nat
 eq : VL o = VL (a.take i) * VL b
 lo : o.length = a.length + b.length
 lg : Lg o
 hz : VL (o.drop (i + b.length)) = 0
 le : i ≤ a.length
structure MuI (a b : List Nat) (i : Nat) where
 k : Nat
 c : Nat
 o : List Nat
 eq : VL o + c * 4294967296 ^ (i + k) = VL (a.take i) * VL b + 4294967296 ^ i * (a.getD i 0 * VL (b.take k))
 lo : o.length = a.length + b.length
 lg : Lg o
 hz : VL (o.drop (i + b.length)) = 0
 hc : c < 4294967296
 le : k ≤ b.length
def MuO.start (a b : List Nat) : MuO a b := ⟨0,List.replicate (a.length + b.length) 0,by simp [VL,gI0],by simp,tR _,by rw [List.drop_replicate,gI0],Ar _⟩
def MuI.start {a b : List Nat} (x : MuO a b) : MuI a b x.i := ⟨0,0,x.o,by simp [VL,x.eq],x.lo,x.lg,x.hz,by decide,Ar _⟩
def MuI.s {a b : List Nat} {i : Nat} (x : MuI a b i) : Nat := x.c + a.getD i 0 * b.getD x.k 0 + x.o.getD (i + x.k) 0
theorem tG {x y : Nat} (hx : x < 4294967296) (hy : y < 4294967296) : x * y ≤ 18446744065119617025 := Nat.mul_le_mul (show x ≤ 4294967295 by omega) (show y ≤ 4294967295 by omega)
theorem MuI.s_lt {a b : List Nat} {i : Nat} (x : MuI a b i) (ha : Lg a) (hb : Lg b) : x.s < 18446744073709551616 := by
 have h1 := tG (qG ha i) (qG hb x.k);have h2 := qG x.lg (i + x.k);have h3 := x.hc;unfold MuI.s;omega
theorem mul_step {a b o : List Nat} {i k c s : Nat} (h : VL o + c * 4294967296 ^ (i + k) = VL (a.take i) * VL b + 4294967296 ^ i * (a.getD i 0 * VL (b.take k))) (hj : i + k < o.length) (hs : s = c + a.getD i 0 * b.getD k 0 + o.getD (i + k) 0) :
  VL (o.set (i + k) (s % 4294967296)) + s / 4294967296 * 4294967296 ^ (i + (k + 1)) = VL (a.take i) * VL b + 4294967296 ^ i * (a.getD i 0 * VL (b.take (k + 1))) := by
 have h1 := yP1 (y := s % 4294967296) hj;have e0 : 4294967296 ^ i * (a.getD i 0 * VL (b.take (k + 1))) = 4294967296 ^ i * (a.getD i 0 * VL (b.take k)) + 4294967296 ^ (i + k) * (a.getD i 0 * b.getD k 0) := by
  rw [qM b,Br,Br,Ea];congr 1;rw [Bo];congr 1;rw [← Bo,← Bo,Au (a.getD i 0)]
 rw [e0,← Dw i k 1,Bx];generalize 4294967296 ^ (i + k) = B at *;generalize 4294967296 ^ i * (a.getD i 0 * VL (b.take k)) = R at *;generalize VL (a.take i) * VL b = Q at *;generalize a.getD i 0 * b.getD k 0 = M at *;have e : s = 4294967296 * (s / 4294967296) + s % 4294967296 := (Cl s 4294967296).symm;have e2 : B * s = B * (4294967296 * (s / 4294967296)) + B * (s % 4294967296) := by rw [← Br,← e]
 have e3 : B * s = B * c + B * M + B * o.getD (i + k) 0 := by rw [hs,Br,Br]
 have e4 : s / 4294967296 * (B * 4294967296) = B * (4294967296 * (s / 4294967296)) := by rw [Au,Bo]
 have e5 : c * B = B * c := Au _ _;omega
def MuI.next {a b : List Nat} {i : Nat} (x : MuI a b i) (ha : Lg a) (hb : Lg b) (hi : i < a.length) (h : x.k < b.length) : MuI a b i := ⟨x.k + 1,x.s / 4294967296,x.o.set (i + x.k) (x.s % 4294967296),mul_step x.eq (by rw [x.lo];omega) rfl,by rw [Cv,x.lo],x.lg.set _ (Ce _ (by decide)),by rw [List.drop_set_of_lt (by omega)];exact x.hz,by have := x.s_lt ha hb;omega,h⟩
def MuI.fin {a b : List Nat} {i : Nat} (x : MuI a b i) (hi : i < a.length) (h : b.length ≤ x.k) : MuO a b := ⟨i + 1,x.o.set (i + b.length) x.c,by
 have hk := x.le;have e : x.k = b.length := by omega
 have h1 := x.eq;have h2 := yP1 (o := x.o) (j := i + b.length) (y := x.c) (by rw [x.lo];omega);rw [(bV x.hz).1] at h2;rw [e,Ak (Aj _)] at h1;rw [qM a,Bf];have e5 : x.c * 4294967296 ^ (i + b.length) = 4294967296 ^ (i + b.length) * x.c := Au _ _;rw [Bo];omega,by rw [Cv,x.lo],x.lg.set _ x.hc,by
 rw [List.drop_set_of_lt (by omega),show i + 1 + b.length = i + b.length + 1 by omega];exact (bV x.hz).2,hi⟩
theorem MuO.fin {a b : List Nat} (x : MuO a b) (h : a.length ≤ x.i) : VL x.o = VL a * VL b := by rw [x.eq,Ak h]
structure Sho (a : List Nat) (d : Nat) where
 k : Nat
 r : Nat
 o : List Nat
 eq : VL (o.drop k) * d + r = VL (a.drop k)
 lo : o.length = a.length
 lg : Lg o
 hr : r < d
 le : k ≤ a.length
def Sho.start (a : List Nat) {d : Nat} (h : 0 < d) : Sho a d := ⟨a.length,0,List.replicate a.length 0,by rw [List.drop_replicate,Nat.sub_self,Az (Aj _)];simp [VL],by simp,tR _,h,Aj _⟩
def Sho.s {a : List Nat} {d : Nat} (x : Sho a d) : Nat := x.r * 4294967296 + a.getD (x.k - 1) 0
theorem Sho.s_lt {a : List Nat} {d : Nat} (x : Sho a d) (ha : Lg a) (hd : d < 4294967296) : x.s / d < 4294967296 := by
 have h1 := qG ha (x.k - 1);have h2 := x.hr;rw [Dh (by omega)];unfold Sho.s;have : x.r * 4294967296 + 4294967296 ≤ d * 4294967296 := by omega
 omega
def Sho.next {a : List Nat} {d : Nat} (x : Sho a d) (ha : Lg a) (hd : d < 4294967296) (h : 0 < x.k) : Sho a d := ⟨x.k - 1,x.s % d,x.o.set (x.k - 1) (x.s / d),by
 have hk := x.le;have hl := x.lo;have h1 := x.eq;have e := Cl x.s d;rw [Bw (by rw [Cv];omega),Bw (l := a) (by omega),uX,uX,List.getElem_set_self,show x.k - 1 + 1 = x.k by omega,List.drop_set_of_lt (by omega),← h1,← qV (by omega : x.k - 1 < a.length)];rw [Bf,Au (x.s / d),Bo];rw [Br];unfold Sho.s at *;generalize VL (x.o.drop x.k) * d = Q at *;omega,by rw [Cv,x.lo],x.lg.set _ (x.s_lt ha hd),Ce _ (by have := x.hr;omega),by have := x.le;omega⟩
theorem Sho.fin {a : List Nat} {d : Nat} (x : Sho a d) (h : x.k = 0) : VL x.o = VL a / d ∧ x.r = VL a % d := by
 have h1 := x.eq;have h2 := x.hr;rw [h,Dc,Dc] at h1;have hd : 0 < d := by omega
 rw [← h1];constructor
 ·rw [Au,Nat.mul_add_div hd,Ee h2,Cb]
 ·rw [Au,Nat.mul_add_mod,Dt h2]
end Go.Proofs.YtinegkcbkefeiaaGreatDoor
