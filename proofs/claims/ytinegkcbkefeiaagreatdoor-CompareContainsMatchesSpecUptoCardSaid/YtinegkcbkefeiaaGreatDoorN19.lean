/- Part 19 of the proof. -/
import Derived.Test.YtinegkcbkefeiaaGreatDoorN18
import Derived.Shelf.Spec.SlicesGrow
namespace Go.Proofs.YtinegkcbkefeiaaGreatDoor
open Go.RowKit
variable {md me : Bool}
section
variable {h : List Ob} {v : Vl} {b : Bool} {l : List Vl} {k : Nat}
end
variable {md me : Bool}
def rfV (r : Int) : Vl := ⟨6,false,[],false,[],ByteArray.empty,r⟩
theorem heapRef_ok (r : Int) : Fx 176 [.v (.int .i64 r)] (.agg (vlD (rfV r))) := by
 refine yD zL Tryz.func176 rfl rfl rfl rfl rfl rfl ?_;intros;refine zJ 100 ?_;refine zJ 200 ?_;refine zK ?_;exact u4 rfl (u20 nz)
theorem O_ok (r : Int) : Fx 229 [.v (.int .i64 r)] (.agg (vlD (rfV r))) := by
 refine yD zL Tryz.func229 rfl rfl rfl rfl rfl rfl ?_;intros;refine zJ 100 ?_;refine zJ 200 ?_;refine zK ?_;exact u4 rfl (u20 nz)
variable {md me : Bool}
def kcL : List Int := [2,3,4,5,6,7,0,15,27,2]
def ocL : List Int := [0,8,9,10,11,12,13,14,16,1,0,17,18,19,20,21,22,23,24,25,26]
def ocS (o : Ob) : Int := if o.kind = 10 then o.cls else ocL.getD o.kind.toNat 0
def clA (h : List Ob) (v : Vl) : Int := if v.k = 6 then ocS (yJ h v.r) else kcL.getD v.k.toNat 0
theorem voks_k {v : Vl} (h : qZ v = true) : 0 <= v.k /\ v.k < 9 := by
 unfold qZ at h;repeat' split at h
 all_goals first | omega | cases h
structure Cf (h : List Ob) (v : Vl) : Prop where
 k : 0 <= v.k /\ v.k < 9
 obj : v.k = 6 -> yY h v.r = true
 kind : v.k = 6 -> 0 < (yJ h v.r).kind /\ (yJ h v.r).kind < 21
 cls : v.k = 6 -> (yJ h v.r).kind = 10 -> inH h (yJ h v.r).cls
theorem Uh.kind {h : List Ob} (g : Uh h) {n : Int} (hn : yY h n = true) : 0 < (yJ h n).kind /\ (yJ h n).kind < 21 := by
 have hi := yV hn;by_cases h49 : n.toNat < 49
 ·rw [show yJ h n = bgO n.toNat from g.lo_at h49];exact ⟨by show (0 : Int) < 9;decide,by show (9 : Int) < 21;decide⟩
 ·have h1 := (g.hi_at om hi.2).kind;have h2 : ¬ (yJ h n).kind = 0 := by
   intro h0;simp only [yY,Ai] at hn;have := hn.2;rw [show (h.getD n.toNat ob0).kind = 0 from h0] at this;exact absurd this de
  exact ⟨by have := h1.1;show 0 < (yJ h n).kind;have h3 : (yJ h ((n.toNat : Nat) : Int)).kind = (yJ h n).kind := rfl;omega,h1.2⟩
theorem pP0 {h : List Ob} {v : Vl} (g : Uh h) (hh : hasS h v = true) : Cf h v := by
 have hv : qZ v = true := by
  simp only [hasS,Ai] at hh;exact hh.1
 exact ⟨voks_k hv,jA0 hh,fun hk => g.kind (jA0 hh hk),fun hk => g.cls (yV (jA0 hh hk))⟩
theorem oc_ge {k : Int} (h : 15 <= k) (h2 : k < 21) : ocL.getD k.toNat 0 = 21 + k - 15 := by
 obtain ⟨n,rfl⟩ : ∃ n : Nat,k = (n : Int) := ⟨k.toNat,by omega⟩;have := Bf.1 (show (List.range 21).all (fun n => decide (n < 15 \/ ocL.getD n 0 = 21 + (n : Int) - 15)) = true by decide +kernel) n (Cu.2 om);have := (Aj this).resolve_left om;exact this
theorem oc_lt {k : Int} (h : 1 <= k) (h2 : k < 8) : ocL.getD k.toNat 0 = 8 + k - 1 := by
 obtain ⟨n,rfl⟩ : ∃ n : Nat,k = (n : Int) := ⟨k.toNat,by omega⟩;have := Bf.1 (show (List.range 8).all (fun n => decide (n < 1 \/ ocL.getD n 0 = 8 + (n : Int) - 1)) = true by decide +kernel) n (Cu.2 om);have := (Aj this).resolve_left om;exact this
theorem ocS_in {h : List Ob} {o : Ob} (g : Uh h) (hk : 0 < o.kind /\ o.kind < 21) (hc : o.kind = 10 -> inH h o.cls) : inH h (ocS o) := by
 unfold ocS;split
 ·rename_i h1;exact hc h1
 ·have h3 := Bf.1 (show (List.range 21).all (fun n => decide (0 <= ocL.getD n 0 /\ ocL.getD n 0 < 49)) = true by decide +kernel) o.kind.toNat (Cu.2 om);have h4 := Aj h3;have := g.lo;exact ⟨h4.1,by omega⟩
theorem mP0 {h : List Ob} {v : Vl} (g : Uh h) (c : Cf h v) : inH h (clA h v) := by
 unfold clA;split
 ·rename_i h1;exact ocS_in g (c.kind h1) (c.cls h1)
 ·have h3 := Bf.1 (show (List.range 9).all (fun n => decide (0 <= kcL.getD n 0 /\ kcL.getD n 0 < 49)) = true by decide +kernel) v.k.toNat (Cu.2 (by have := c.k;omega));have h4 := Aj h3;have := g.lo;exact ⟨h4.1,by omega⟩
theorem kindClasses_ok  : Fx 133 [] (isD kcL) := by
 refine yD zL Tryz.func133 rfl rfl rfl rfl rfl rfl ?_;intros;refine zJ 100 ?_;refine zJ 200 ?_;refine zK ?_;exact u4 rfl (u18 rfl)
theorem objectClasses_ok  : Fx 134 [] (isD ocL) := by
 refine yD zL Tryz.func134 rfl rfl rfl rfl rfl rfl ?_;intros;refine zJ 100 ?_;refine zJ 200 ?_;refine zK ?_;exact u4 rfl (u18 rfl)
theorem heapClassOf_ok (h : List Ob) (v : Vl) (c : Cf h v) : Fx 75 [hpD md h,.agg (vlD v)] (.v (.int .i64 (clA h v))) := by
 refine yD zL Tryz.func75 rfl rfl rfl rfl rfl rfl ?_;intros;refine zJ 100 ?_;refine zB (zJ 200 ?_);refine zT rfl (fun c1 => ?_) (fun c1 => ?_)
 ·replace c1 : ¬ v.k = 6 := by have h1 := c1;simp only [Bp,Av] at h1;exact h1
  refine zB (zZ zL [] [[],[],[1],[0,1,2],[0,1,2,3],(rgN 5)] 300 yQ kr rfl ?_);repeat (first | refine zH ?_ | refine zU (by exact ⟨c.k.1,by show v.k.toNat < 10;have := c.k;omega⟩) ?_)
  refine zO _ (kindClasses_ok) rfl ?_;repeat (first | refine zH ?_ | refine zU (by exact ⟨c.k.1,by show v.k.toNat < 10;have := c.k;omega⟩) ?_)
  refine zC (zA (zK (zN ?_)));exact u4 rfl (u10 (by rw [clA,Aa c1]))
 ·replace c1 : v.k = 6 := by have h1 := c1;simp only [Bw,Ak] at h1;exact h1
  refine zM (zA ?_);refine zB (zE zL [] 400 rfl ?_);repeat (first | refine zH ?_ | refine zU (by exact yV (c.obj c1)) ?_)
  refine zC (zA (zB (zJ 500 ?_)));refine zT rfl (fun c4 => ?_) (fun c4 => ?_)
  ·first | replace c4 := Aj c4 | replace c4 := of_decide_eq_false c4
   refine zJ 600 ?_;refine zK (zN ?_);exact u4 rfl (u10 (by rw [clA,Ab c1,ocS,Ab c4]))
  ·first | replace c4 := Aj c4 | replace c4 := of_decide_eq_false c4
   refine zM (zA ?_);refine zB (zZ zL [] [[],[],[1],[0,1,2],[0,1,2,3],(rgN 5)] 700 yQ kr rfl ?_);repeat (first | refine zH ?_ | refine zU (by exact ⟨Int.le_of_lt (c.kind c1).1,by show (yJ h v.r).kind.toNat < 21;have h1 : 0 < (yJ h v.r).kind /\ (yJ h v.r).kind < 21 := c.kind c1;omega⟩) ?_)
   refine zO _ (objectClasses_ok) rfl ?_;repeat (first | refine zH ?_ | refine zU (by exact ⟨Int.le_of_lt (c.kind c1).1,by show (yJ h v.r).kind.toNat < 21;have h1 : 0 < (yJ h v.r).kind /\ (yJ h v.r).kind < 21 := c.kind c1;omega⟩) ?_)
   refine zC (zA (zK ?_));exact u4 rfl (u10 (by rw [clA,Ab c1,ocS,Aa c4]))
theorem xV {P : Program} {E : Pn} {K : DS -> Prop} {p : Prop} {r : Out} (hr : r.sat P E K) (hp : p := by first | exact ini (by omega) (by omega) | omega) : (Out.need p r).sat P E K := ⟨hp,hr⟩
theorem classOfObject_ok (o : Ob) (hk : 0 < o.kind /\ o.kind < 21) : Fx 135 [.agg (obD o)] (.v (.int .i64 (ocS o))) := by
 refine yD zL Tryz.func135 rfl rfl rfl rfl rfl rfl ?_;intros;refine zB (zE zL [] 100 rfl ?_);repeat (first | refine zH ?_ | refine xV ?_)
 refine zC (zA (zB ?_));refine zB (zE zL [] 200 rfl ?_);repeat (first | refine zH ?_ | refine xV ?_)
 refine zC (zA (zR ?_));refine zB (zE zL [] 300 rfl ?_);repeat (first | refine zH ?_ | refine xV ?_)
 refine zC (zA (zT rfl (fun c2 => ?_) (fun c2 => ?_)))
 ·first | replace c2 := Aj c2 | replace c2 := of_decide_eq_false c2
  refine zB (zE zL [] 400 rfl ?_);repeat (first | refine zH ?_ | refine xV ?_)
  refine zC (zA (zK (zQ (zN ?_))));exact u4 rfl (u10 (by rw [ocS,Ab c2]))
 ·first | replace c2 := Aj c2 | replace c2 := of_decide_eq_false c2
  refine zB (zE zL [] 500 rfl ?_);repeat (first | refine zH ?_ | refine xV ?_)
  refine zC (zA (zT rfl (fun c4 => ?_) (fun c4 => ?_)))
  ·first | replace c4 := Aj c4 | replace c4 := of_decide_eq_false c4
   refine zB (zE zL [] 600 rfl ?_);repeat (first | refine zH ?_ | refine xV ?_)
   refine zC (zA (zK (zQ (zN ?_))));exact u4 rfl (u10 (by rw [ocS,Aa c2,c4];rfl))
  ·first | replace c4 := Aj c4 | replace c4 := of_decide_eq_false c4
   refine zB (zE zL [] 700 rfl ?_);repeat (first | refine zH ?_ | refine xV ?_)
   refine zC (zA (zT rfl (fun c6 => ?_) (fun c6 => ?_)))
   ·first | replace c6 := Aj c6 | replace c6 := of_decide_eq_false c6
    refine zB (zE zL [] 800 rfl ?_);repeat (first | refine zH ?_ | refine xV ?_)
    refine zC (zA (zK (zQ (zN ?_))));exact u4 rfl (u10 (by rw [ocS,Aa c2,c6];rfl))
   ·first | replace c6 := Aj c6 | replace c6 := of_decide_eq_false c6
    refine zB (zE zL [] 900 rfl ?_);repeat (first | refine zH ?_ | refine xV ?_)
    refine zC (zA (zT rfl (fun c8 => ?_) (fun c8 => ?_)))
    ·first | replace c8 := Aj c8 | replace c8 := of_decide_eq_false c8
     refine zB (zE zL [] 1000 rfl ?_);repeat (first | refine zH ?_ | refine xV ?_)
     refine zC (zA (zK (zQ (zN ?_))));exact u4 rfl (u10 (by rw [ocS,Aa c2,c8];rfl))
    ·first | replace c8 := Aj c8 | replace c8 := of_decide_eq_false c8
     refine zB (zE zL [] 1100 rfl ?_);repeat (first | refine zH ?_ | refine xV ?_)
     refine zC (zA (zT rfl (fun c10 => ?_) (fun c10 => ?_)))
     ·first | replace c10 := Aj c10 | replace c10 := of_decide_eq_false c10
      refine zB (zE zL [] 1200 rfl ?_);repeat (first | refine zH ?_ | refine xV ?_)
      refine zC (zA (zK (zQ (zN ?_))));exact u4 rfl (u10 (by rw [ocS,Aa c2,c10];rfl))
     ·first | replace c10 := Aj c10 | replace c10 := of_decide_eq_false c10
      refine zB (zE zL [] 1300 rfl ?_);repeat (first | refine zH ?_ | refine xV ?_)
      refine zC (zA (zT rfl (fun c12 => ?_) (fun c12 => ?_)))
      ·first | replace c12 := Aj c12 | replace c12 := of_decide_eq_false c12
       refine zB (zE zL [] 1400 rfl ?_);repeat (first | refine zH ?_ | refine xV ?_)
       refine zC (zA (zK (zQ (zN ?_))));exact u4 rfl (u10 (by rw [ocS,Aa c2,c12];rfl))
      ·first | replace c12 := Aj c12 | replace c12 := of_decide_eq_false c12
       refine zB (zE zL [] 1500 rfl ?_);repeat (first | refine zH ?_ | refine xV ?_)
       refine zC (zA (zT rfl (fun c14 => ?_) (fun c14 => ?_)))
       ·first | replace c14 := Aj c14 | replace c14 := of_decide_eq_false c14
        refine zB (zE zL [] 1600 rfl ?_);repeat (first | refine zH ?_ | refine xV ?_)
        refine zC (zA (zK (zQ (zN ?_))));exact u4 rfl (u10 (by rw [ocS,Aa c2,c14];rfl))
       ·first | replace c14 := Aj c14 | replace c14 := of_decide_eq_false c14
        refine zM (zP (zA (zB ?_)));refine zB (zE zL [] 1700 rfl ?_);repeat (first | refine zH ?_ | refine xV ?_)
        refine zC (zA (zT rfl (fun c16 => ?_) (fun c16 => ?_)))
        ·first | replace c16 := Aj c16 | replace c16 := of_decide_eq_false c16
         refine zB (zE zL [] 1800 rfl ?_);repeat (first | refine zH ?_ | refine xV ?_)
         refine zC (zA (zK (zN ?_)));exact u4 rfl (u10 (by rw [ocS,Aa c2,oc_ge om hk.2]))
        ·first | replace c16 := Aj c16 | replace c16 := of_decide_eq_false c16
         refine zM (zA ?_);refine zB (zE zL [] 1900 rfl ?_);repeat (first | refine zH ?_ | refine xV ?_)
         refine zC (zA (zK ?_));exact u4 rfl (u10 (by rw [ocS,Aa c2,oc_lt om om]))
theorem ClassOf_ok (h : List Ob) (v : Vl) (c : Cf h v) : Fx 76 [hpD md h,.agg (vlD v)] (.v (.int .i64 (clA h v))) := by
 refine yD zL Tryz.func76 rfl rfl rfl rfl rfl rfl ?_;intros;refine zJ 100 ?_;refine zB (zJ 200 ?_);refine zR (zJ 300 ?_);refine zT rfl (fun c2 => ?_) (fun c2 => ?_)
 ·first | replace c2 := Aj c2 | replace c2 := of_decide_eq_false c2
  refine zJ 400 ?_;refine zK (zQ (zN ?_));exact u4 rfl (u10 (by rw [clA,Aa om,c2];rfl))
 ·first | replace c2 := Aj c2 | replace c2 := of_decide_eq_false c2
  refine zJ 500 ?_;refine zT rfl (fun c4 => ?_) (fun c4 => ?_)
  ·first | replace c4 := Aj c4 | replace c4 := of_decide_eq_false c4
   refine zJ 600 ?_;refine zK (zQ (zN ?_));exact u4 rfl (u10 (by rw [clA,Aa om,c4];rfl))
  ·first | replace c4 := Aj c4 | replace c4 := of_decide_eq_false c4
   refine zJ 700 ?_;refine zT rfl (fun c6 => ?_) (fun c6 => ?_)
   ·first | replace c6 := Aj c6 | replace c6 := of_decide_eq_false c6
    refine zJ 800 ?_;refine zK (zQ (zN ?_));exact u4 rfl (u10 (by rw [clA,Aa om,c6];rfl))
   ·first | replace c6 := Aj c6 | replace c6 := of_decide_eq_false c6
    refine zJ 900 ?_;refine zT rfl (fun c8 => ?_) (fun c8 => ?_)
    ·first | replace c8 := Aj c8 | replace c8 := of_decide_eq_false c8
     refine zJ 1000 ?_;refine zK (zQ (zN ?_));exact u4 rfl (u10 (by rw [clA,Aa om,c8];rfl))
    ·first | replace c8 := Aj c8 | replace c8 := of_decide_eq_false c8
     refine zJ 1100 ?_;refine zT rfl (fun c10 => ?_) (fun c10 => ?_)
     ·first | replace c10 := Aj c10 | replace c10 := of_decide_eq_false c10
      refine zJ 1200 ?_;refine zK (zQ (zN ?_));exact u4 rfl (u10 (by rw [clA,Aa om,c10];rfl))
     ·first | replace c10 := Aj c10 | replace c10 := of_decide_eq_false c10
      refine zJ 1300 ?_;refine zT rfl (fun c12 => ?_) (fun c12 => ?_)
      ·first | replace c12 := Aj c12 | replace c12 := of_decide_eq_false c12
       refine zJ 1400 ?_;refine zK (zQ (zN ?_));exact u4 rfl (u10 (by rw [clA,Aa om,c12];rfl))
      ·first | replace c12 := Aj c12 | replace c12 := of_decide_eq_false c12
       refine zJ 1500 ?_;refine zT rfl (fun c14 => ?_) (fun c14 => ?_)
       ·first | replace c14 := Aj c14 | replace c14 := of_decide_eq_false c14
        refine zJ 1600 ?_;refine zK (zQ (zN ?_));exact u4 rfl (u10 (by rw [clA,Aa om,c14];rfl))
       ·first | replace c14 := Aj c14 | replace c14 := of_decide_eq_false c14
        refine zJ 1700 ?_;refine zT rfl (fun c16 => ?_) (fun c16 => ?_)
        ·first | replace c16 := Aj c16 | replace c16 := of_decide_eq_false c16
         refine zB (zE zL [] 1800 rfl ?_);repeat (first | refine zH ?_ | refine zU (by exact yV (c.obj c16)) ?_)
         refine zO _ (classOfObject_ok _ (c.kind c16)) rfl ?_;repeat (first | refine zH ?_ | refine zU (by exact yV (c.obj c16)) ?_)
         refine zC (zA (zK (zQ (zN ?_))));exact u4 rfl (u10 (by rw [clA,Ab c16]))
        ·first | replace c16 := Aj c16 | replace c16 := of_decide_eq_false c16
         refine zM (zP (zA (zJ 1900 ?_)));refine zK ?_;exact u4 rfl (u10 (by rw [clA,Aa c16,show v.k = 0 by have := c.k;omega];rfl))
theorem gE (h : List Ob) (v : Vl) (g : Uh h) (c : Cf h v) : Fx 52 [hpD md h,.agg (vlD v)] (.v (.string (yJ h (clA h v)).name)) := by
 refine yD zL Tryz.func52 rfl rfl rfl rfl rfl rfl ?_;intros;refine zJ 100 ?_;refine zB (zZ zL [] mK10 200 yQ kr rfl ?_);repeat (first | refine zH ?_ | refine zU (by exact mP0 g c) ?_)
 refine zO _ (heapClassOf_ok h v c) rfl ?_;repeat (first | refine zH ?_ | refine zU (by exact mP0 g c) ?_)
 refine zC (zA (zK ?_));exact u4 rfl (u6 _)
theorem xA (h : List Ob) (v : Vl) (g : Uh h) (c : Cf h v) : Fx 54 [hpD md h,.agg (vlD v)] (.v (.string (yJ h (clA h v)).name)) := by
 refine yD zL Tryz.func54 rfl rfl rfl rfl rfl rfl ?_;intros;refine zJ 100 ?_;refine zB (zZ zL [] mK10 200 yQ kr rfl ?_);repeat (first | refine zH ?_ | refine zU (by exact mP0 g c) ?_)
 refine zO _ (ClassOf_ok h v c) rfl ?_;repeat (first | refine zH ?_ | refine zU (by exact mP0 g c) ?_)
 refine zC (zA (zK ?_));exact u4 rfl (u6 _)
variable {md me : Bool}
variable {md me : Bool}
variable {md me : Bool}
def nuV (n : Int) : Vl := ⟨2,decide (n < 0),lim n.natAbs,false,[],ByteArray.empty,0⟩
variable {md me : Bool}
structure Bn (l : List Bool) where
 j : Nat
 o : List Nat
 eq : V o = VB (l.take (16 * j))
 lo : o.length = j
 dg : Dg o
 le : 16 * j <= l.length + 15
def Bn.next {l : List Bool} (x : Bn l) (h : 16 * x.j < l.length) : Bn l := ⟨x.j + 1,x.o ++ [kA l (16 * x.j) 0],binary_step x.eq x.lo h,by simp [x.lo],x.dg.snoc (mQ0 _ _ _),by omega⟩
theorem mR0 {l : List Bool} {i k : Nat} (hk : k < 16) : kA l i k = kA l i (k + 1) * 2 + (if decide (i + k < l.length) && l.getD (i + k) false then 1 else 0) := by
 rw [chunk_step hk,At];by_cases h : i + k < l.length
 ·rw [dif_pos h,Aw h,Dy,An,Ah h];cases l[i + k] <;> rfl
 ·rw [dif_neg h,Bz h];rfl
def wH0 (l : List Bool) (i k : Nat) : Bool := decide (i + k < l.length) && l.getD (i + k) false
theorem chunk_one {l : List Bool} {i k : Nat} (hk : k < 16) (h : wH0 l i k = true) : kA l i k = kA l i (k + 1) * 2 + 1 := by rw [mR0 hk];unfold wH0 at h;rw [h];rfl
theorem chunk_nil {l : List Bool} {i k : Nat} (hk : k < 16) (h : wH0 l i k = false) : kA l i k = kA l i (k + 1) * 2 := by rw [mR0 hk];unfold wH0 at h;rw [h];rfl
structure Bj where
 k : Nat
 le : k <= 16
theorem bit_T {l : List Bool} {I k : Nat} (hk : 1 <= k) (h : (I : Int) + ((k : Int) - 1) < l.length /\ l.getD ((I : Int) + ((k : Int) - 1)).toNat false = true) : wH0 l I (k - 1) = true := by
 unfold wH0;rw [show ((I : Int) + ((k : Int) - 1)).toNat = I + (k - 1) by omega] at h;rw [h.2,Aw om];rfl
theorem bit_F {l : List Bool} {I k : Nat} (hk : 1 <= k) (h : (decide ((I : Int) + ((k : Int) - 1) < l.length) && l.getD ((I : Int) + ((k : Int) - 1)).toNat false) = false) : wH0 l I (k - 1) = false := by
 unfold wH0;rw [show ((I : Int) + ((k : Int) - 1)).toNat = I + (k - 1) by omega] at h;rw [show decide (I + (k - 1) < l.length) = decide ((I : Int) + ((k : Int) - 1) < l.length) from decide_eq_decide.2 om];exact h
theorem Bn.all {l : List Bool} (x : Bn l) (h : l.length <= 16 * x.j) : V x.o = VB l := by rw [x.eq,Am h]
structure Nb (n : Int) where
 m : Int
 o : List Bool
 eq : VB o + m.natAbs * 2 ^ o.length = n.natAbs
 lo : -9223372036854775808 <= m
 hi : m <= 9223372036854775807
 ln : o.length <= 64
theorem nb_bit (m : Int) : (!decide (Int.tmod m 2 = 0)) = (m.natAbs % 2 == 1) := by
 have : (Int.tmod m 2).natAbs = m.natAbs % 2 := by
  rw [Int.natAbs_tmod];rfl
 rw [Df,Bp,Av,beq_iff_eq,<- this];have h : (Int.tmod m 2).natAbs < 2 := by rw [this];omega
 omega
theorem cF (m : Int) : (Int.tdiv m 2).natAbs = m.natAbs / 2 := by rw [Int.natAbs_tdiv];rfl
def Nb.next {n : Int} (x : Nb n) (h : x.o.length <= 63) : Nb n := ⟨Int.tdiv x.m 2,x.o ++ [!decide (Int.tmod x.m 2 = 0)],by
 rw [nb_bit,cF,Ag,Dm];exact uZ0 x.eq rfl,by have := cF x.m;have := x.lo;have := x.hi;omega,by have := cF x.m;have := x.lo;have := x.hi;omega,by simp;omega⟩
theorem Nb.len {n : Int} (x : Nb n) (h : ¬ x.m = 0) (h1 : -9223372036854775808 <= n) (h2 : n <= 9223372036854775807) : x.o.length <= 63 := by
 rcases Bs 63 x.o.length with h3 | h3
 ·have h4 : 2 ^ 64 <= 2 ^ x.o.length := Bd om h3;have h5 : 1 * 2 ^ x.o.length <= x.m.natAbs * 2 ^ x.o.length := Bi _ om;have h6 := x.eq;omega
 ·exact h3
theorem Nb.fin {n : Int} (x : Nb n) (h : x.m = 0) : VB x.o = n.natAbs := by rw [<- x.eq,h];simp
theorem wO0 (l : List Bool) (hl : l.length <= 100000000) : Fx 213 [.sl false 1 l bD false] (qX (VB l)) := by
 refine yD zL Tryz.func213 rfl rfl rfl rfl rfl rfl ?_;intros;refine zJ 100 ?_;refine zJ 200 ?_;refine qA 3 3 1 rfl ?_;refine zB (zJ 300 ?_);refine zR ?_;refine yC (ι := Bn l) [0] [] 350 (fun x => [(4,.v (.int .i64 (16 * x.j : Nat))),(3,.own 200 1 (x.o.map nD))]) (fun x => [(200,.row 3 1 (x.o.map nD).length)]) (fun x => l.length + 16 - 16 * x.j) ⟨0,[],rfl,rfl,Dg.nil,by omega⟩ ?_;refine ⟨⟨yM,yH,rfl,rfl⟩,fun x => ?_⟩;have hk := x.le;have hk2 := x.lo;refine zB (zJ 400 ?_);refine zW (fun c3 => ?_) (fun c3 => ?_)
 ·
  refine zM (zA (zB (zR (zJ 600 ?_))));refine zB (zJ 700 ?_);refine zR ?_;refine yC (ι := Bj) [0,3,4] [200] 750 (fun y => [(6,.v (.int .i64 ((y.k : Int) - 1))),(5,.v (.int .i64 (kA l (16 * x.j) y.k : Nat)))]) (fun _ => []) (fun y => y.k) ⟨16,Ao _⟩ ?_;refine ⟨⟨(by repeat (first | exact u21 (by rw [chunk_top];rfl) | refine ⟨?_,?_⟩ | exact lx)),yH,rfl,rfl⟩,fun y => ?_⟩;have hy := y.le;have hy2 := mQ0 l (16 * x.j) y.k;refine zB (zJ 800 ?_);refine zW (fun c7 => ?_) (fun c7 => ?_)
  ·
   refine zM (zA (zB (zR (zJ 1000 ?_))));refine zJ 1100 ?_;refine zW (fun c10 => ?_) (fun c10 => ?_)
   ·
    refine yN zL [] 1200 ?_;refine zP (zA (yN zL [] 1300 ?_));exact zS ⟨y.k - 1,by omega⟩ ⟨(by repeat (first | exact u21 (by show (y.k : Int) - 1 - 1 = ((y.k - 1 : Nat) : Int) - 1;omega) | exact u21 (by show _ = ((kA l (16 * x.j) (y.k - 1) : Nat) : Int);rw [chunk_one (k := y.k - 1) om (bit_T om c10),show y.k - 1 + 1 = y.k by omega];push_cast;rfl) | refine ⟨?_,?_⟩ | exact lx)),yH,rfl,rfl⟩ (by show y.k - 1 < y.k;omega)
   ·
    refine zM (zP (zA (yN zL [] 1200 ?_)));exact zS ⟨y.k - 1,by omega⟩ ⟨(by repeat (first | exact u21 (by show (y.k : Int) - 1 - 1 = ((y.k - 1 : Nat) : Int) - 1;omega) | exact u21 (by show _ = ((kA l (16 * x.j) (y.k - 1) : Nat) : Int);rw [chunk_nil (k := y.k - 1) om (bit_F om c10),show y.k - 1 + 1 = y.k by omega];push_cast;rfl) | refine ⟨?_,?_⟩ | exact lx)),yH,rfl,rfl⟩ (by show y.k - 1 < y.k;omega)
  ·
   refine yE (yA (yB (zX (zA (yN zL [] 1300 ?_)))));refine zP (zA (yN zL [] 1400 ?_));obtain ⟨ky,hky⟩ := y;have hz : ky = 0 := by simp only at c7;omega
   subst hz;exact zS (x.next (by omega)) ⟨(by repeat (first | exact u21 (by show ((16 * x.j : Nat) : Int) + 16 = ((16 * (x.j + 1) : Nat) : Int);omega) | exact Sub.own (by show _ = List.map nD (x.o ++ [_]);rw [Ae];rfl) | refine ⟨?_,?_⟩ | exact lx)),(by repeat (first | exact trivial | exact u15 rfl | exact ⟨rfl,rfl,by show _ = (List.map nD (x.o ++ [_])).length;simp⟩ | refine ⟨?_,?_⟩)),rfl,rfl⟩ (by show l.length + 16 - 16 * (x.j + 1) < l.length + 16 - 16 * x.j;omega)
 ·
  refine yE (yA (yB (zX (zA ?_))));refine yW [] [] 410 [(3,.sl false 1 x.o nD 0)] [] ?_;refine ⟨⟨⟨u5 rfl,trivial⟩,yH,rfl,rfl⟩,?_⟩;refine zB (zE zL [] 1400 rfl ?_);refine zF ?_;refine zO _ (xB _ x.dg (by rw [hk2];omega)) rfl ?_;refine zf (zA (zK ?_));exact u4 rfl (u9 (by rw [x.all om]))
theorem wA (n : Int) (h1 : -9223372036854775808 <= n) (h2 : n <= 9223372036854775807) : Fx 167 [.v (.int .i64 n)] (.agg [.v (.bool (decide (n < 0))),qX n.natAbs]) := by
 refine yD zL Tryz.func167 rfl rfl rfl rfl rfl rfl ?_;intros;refine zJ 100 ?_;refine zJ 200 ?_;refine qA 3 4 1 rfl ?_;refine zJ 300 ?_;refine zB (zR ?_);refine yC (ι := Nb n) [2,4] [0] 350 (fun x => [(0,.v (.int .i64 x.m)),(3,.own 200 1 (x.o.map bD))]) (fun x => [(200,.row 4 1 (x.o.map bD).length)]) (fun x => x.m.natAbs) ⟨n,[],by simp [VB],h1,h2,by simp⟩ ?_;refine ⟨⟨yM,yH,rfl,rfl⟩,fun x => ?_⟩;have hk := x.lo;have hk2 := x.hi;refine zB (zJ 400 ?_);refine zW (fun c3 => ?_) (fun c3 => ?_)
 ·
  refine zM (zA (zR ?_));refine zB (zE zL [] 500 rfl ?_);repeat (first | refine zH ?_ | refine zU (by first | exact trivial | omega | exact ini (by omega) (by omega) | (intro hh;simp at hh;exact ini om om) | (intro hh;simp at hh ⊢;omega) | (simp at *;omega) | (simp_all;done) | (have h3 := x.len c3 h1 h2;simp only [Bb,Aq,Bc];omega)) ?_)
  refine zC (zA ?_);refine zE zL [] 600 rfl ?_;repeat (first | refine zH ?_ | refine zU (by first | exact trivial | omega | exact ini (by omega) (by omega) | (intro hh;simp at hh;exact ini om om) | (intro hh;simp at hh ⊢;omega) | (simp at *;omega) | (simp_all;done) | (have h3 := cF x.m;exact ⟨by decide,ini om om⟩)) ?_)
  refine zC (zP ?_);exact zS (x.next (x.len c3 h1 h2)) ⟨(by repeat (first | exact Sub.own (by show _ = List.map bD (x.o ++ [_]);rw [Ae];rfl) | refine ⟨?_,?_⟩ | exact lx)),(by repeat (first | exact trivial | exact u15 rfl | exact ⟨rfl,rfl,by show _ = (List.map bD (x.o ++ [_])).length;simp⟩ | refine ⟨?_,?_⟩)),rfl,rfl⟩ (by show (Int.tdiv x.m 2).natAbs < x.m.natAbs;have := cF x.m;omega)
 ·
  refine yE (yA (yB (zX (zA ?_))));refine yW [2,4] [0] 410 [(3,.sl false 1 x.o bD false)] [] ?_;refine ⟨⟨⟨u5 rfl,by repeat (first | exact trivial | exact u0 _ | refine ⟨?_,?_⟩)⟩,yH,rfl,rfl⟩,?_⟩;refine zB (zE zL [] 700 rfl ?_);refine zF ?_;refine zO _ (wO0 _ (by have := x.ln;omega)) rfl ?_;refine zf (zA (zK ?_));exact u4 rfl (u20 ⟨u6 _,u9 (by rw [x.fin om]),trivial⟩)
variable {md me : Bool}
theorem bL0 {α : Type} [DecidableEq α] : ∀ (l : List α) (n : α),ixI l n < l.length
 | [],n => by show (-1 : Int) < ((0 : Nat) : Int);omega
 | x :: l,n => by
  have := bL0 l n;rw [ixI,Aq];split
  ·omega
  ·split <;> omega
def ownB (o : Ob) (s : ByteArray) : Bool := decide (0 <= ixI o.names s)
def ownV (o : Ob) (s : ByteArray) : Vl := if ixI o.names s < 0 then vl0 else o.items.getD (ixI o.names s).toNat vl0
structure Fd {α : Type} (l : List α) (p : α -> Bool) where
 k : Nat
 le : k <= l.length
 eq : (l.drop k).find? p = l.find? p
def Fd.next {α : Type} {l : List α} {p : α -> Bool} (x : Fd l p) (e : α) (hk : x.k < l.length) (h0 : p (l.getD (x.k : Int).toNat e) = false) : Fd l p := ⟨x.k + 1,hk,by rw [<- x.eq,jM0 hk e,List.find?_cons_of_neg (by rw [h0];decide)]⟩
theorem Fd.found {α : Type} {l : List α} {p : α -> Bool} (x : Fd l p) (e : α) (hk : x.k < l.length) (h0 : p (l.getD (x.k : Int).toNat e) = true) : l.find? p = some (l.getD (x.k : Int).toNat e) := by rw [<- x.eq,jM0 hk e,List.find?_cons_of_pos h0]
theorem Fd.none {α : Type} {l : List α} {p : α -> Bool} (x : Fd l p) (hk : l.length <= x.k) : l.find? p = none := by rw [<- x.eq,Ax hk];rfl
def fdO (h : List Ob) (l : List Int) (s : ByteArray) : Option Int := l.find? fun c => ownB (yJ h c) s
def fdV (h : List Ob) (s : ByteArray) : Option Int -> Vl
 | some c => ownV (yJ h c) s
 | none => vl0
def fdC : Option Int -> Int
 | some c => c
 | none => 0
def Cok (h : List Ob) (l : List Int) : Prop := l.length <= 2000000 /\ ∀ c ∈ l,inH h c /\ (yJ h c).names.length <= (yJ h c).items.length
theorem yP0 {h : List Ob} {l : List Int} (hc : Cok h l) {k : Nat} (hk : k < l.length) : inH h (l.getD (k : Int).toNat 0) /\ (yJ h (l.getD (k : Int).toNat 0)).names.length <= (yJ h (l.getD (k : Int).toNat 0)).items.length := hc.2 _ (by rw [qN hk];exact Be _)
theorem gO (h : List Ob) (v : Vl) (hv : v.k = 6 -> yY h v.r = true) : Fx 173 [hpD md h,.agg (vlD v)] (.agg (obD (zY h v))) := by
 refine yD zL Tryz.func173 rfl rfl rfl rfl rfl rfl ?_;intros;refine zJ 100 ?_;refine zB (zJ 200 ?_);refine zW (fun c1 => ?_) (fun c1 => ?_)
 ·
  refine zJ 300 ?_;refine zK (zN ?_);have e : zY h v = ob0 := qP0 c1;rw [e];exact u4 rfl (by repeat (first | exact trivial | exact u6 _ | exact u12 rfl | refine u20 ?_ | refine ⟨?_,?_⟩))
 ·
  refine zM (zA ?_);refine zB (zE zL [] 400 rfl ?_);repeat (first | refine zH ?_ | refine zU (by exact yV (hv c1)) ?_)
  refine zC (zA (zK ?_));have e : zY h v = h.getD v.r.toNat ob0 := qR0 hv c1;rw [e];exact u4 rfl (by repeat (first | exact trivial | exact u6 _ | exact u12 rfl | refine u20 ?_ | refine ⟨?_,?_⟩))
theorem attrOwn_ok (o : Ob) (s : ByteArray) (hn : o.names.length <= o.items.length) : Fx 242 [.agg (obD o),.v (.string s)] (.tup [.agg (vlD (ownV o s)),.v (.bool (ownB o s))]) := by
 have hlt := bL0 o.names s;refine yD zL Tryz.func242 rfl rfl rfl rfl rfl rfl ?_;intros;refine zJ 100 ?_;refine zB (zE zL [] 200 rfl ?_);refine zF ?_;refine zO _ (zL0 _ _) rfl ?_;refine zF ?_;refine zC (zA (zB (zJ 300 ?_)));refine zW (fun c2 => ?_) (fun c2 => ?_)
 ·
  refine zJ 400 ?_;refine zK (zN ?_);exact u4 rfl (u19 ⟨by rw [ownV,Ab c2];exact (by repeat (first | exact trivial | exact u6 _ | exact u12 rfl | refine u20 ?_ | refine ⟨?_,?_⟩)),u7 (by rw [ownB,Bz (by omega)]),trivial⟩)
 ·
  refine zM (zA (zJ 500 ?_));refine zK ?_;exact u4 rfl (u19 ⟨by rw [ownV,Aa om];exact u6 _,u7 (by rw [ownB,Aw om]),trivial⟩)
theorem Own_ok (o : Ob) (s : ByteArray) (hn : o.names.length <= o.items.length) (hl : o.names.length <= 2000000) : Fx 257 [.agg (obD o),.v (.string s)] (.tup [.agg (vlD (ownV o s)),.v (.bool (ownB o s))]) := by
 refine yD zL Tryz.func257 rfl rfl rfl rfl rfl rfl ?_;intros;refine zJ 100 ?_;refine zB (zJ 200 ?_);refine zR ?_;refine yC (ι := Nf o.names s) [1,2,4,9,10] [0,1] 250 (fun x => [(11,.v (.int .i64 x.k))]) (fun _ => []) (fun x => o.names.length - x.k) ⟨0,Ap _,fun j hj => by omega⟩ ?_;refine ⟨⟨yM,yH,rfl,rfl⟩,fun x => ?_⟩;have hk := x.le;refine zJ 300 ?_;refine zB (zW (fun c2 => ?_) (fun c2 => ?_))
 ·
  refine zM (zA (zB (zR (zJ 400 ?_))));refine zJ 500 ?_;refine zT rfl (fun c4 => ?_) (fun c4 => ?_)
  ·replace c4 : s = o.names.getD (x.k : Int).toNat ByteArray.empty := (Aj c4).symm
   refine zJ 600 ?_;refine zK (zQ (zN (yL (zQ (zN ?_)))));have e : ixI o.names s = x.k := x.found c2 c4;exact u4 rfl (u19 ⟨by rw [ownV,e,Aa om];exact u6 _,u7 (by rw [ownB,e,Aw om]),trivial⟩)
  ·replace c4 : ¬ s = o.names.getD (x.k : Int).toNat ByteArray.empty := fun e => (of_decide_eq_false c4) e.symm
   refine zM (zP (zA (yN zL [] 700 ?_)));exact zS (x.next c2 c4) ⟨yM,yH,rfl,rfl⟩ (by show o.names.length - (x.k + 1) < o.names.length - x.k;omega)
 ·
  refine yE (yA (yB (zX (zA (zJ 800 ?_)))));refine zK ?_;have e : ixI o.names s = -1 := x.none c2;exact u4 rfl (u19 ⟨by rw [ownV,e,Ab om];exact (by repeat (first | exact trivial | exact u6 _ | exact u12 rfl | refine u20 ?_ | refine ⟨?_,?_⟩)),u7 (by rw [ownB,e];rfl),trivial⟩)
theorem attrFind0_ok (h : List Ob) (l : List Int) (s : ByteArray) (hh : HpIn h) (hc : Cok h l) : Fx 215 [hpD md h,isD l,.v (.string s)] (.tup [.agg (vlD (fdV h s (fdO h l s))),.v (.int .i64 (fdC (fdO h l s))),.v (.bool (fdO h l s).isSome)]) := by
 have hl := hc.1;refine yD zL Tryz.func215 rfl rfl rfl rfl rfl rfl ?_;intros;refine zJ 100 ?_;refine zB (zJ 200 ?_);refine zR ?_;refine yC (ι := Fd l (fun c => ownB (yJ h c) s)) [2,3,6,13,14] [0,1] 250 (fun x => [(15,.v (.int .i64 x.k))]) (fun _ => []) (fun x => l.length - x.k) ⟨0,Ap _,rfl⟩ ?_;refine ⟨⟨yM,yH,rfl,rfl⟩,fun x => ?_⟩;have hk := x.le;refine zJ 300 ?_;refine zB (zW (fun c2 => ?_) (fun c2 => ?_))
 ·
  refine zM (zA (zB (zR (zJ 400 ?_))));refine zB (zE zL [] 500 rfl ?_);repeat (first | refine zH ?_ | refine zU (by exact (yP0 hc c2).1) ?_)
  refine zO _ (attrOwn_ok _ _ (yP0 hc c2).2) rfl ?_;repeat (first | refine zH ?_ | refine zU (by exact (yP0 hc c2).1) ?_)
  refine zC (zA (zJ 600 ?_));refine zT rfl (fun c5 => ?_) (fun c5 => ?_)
  ·
   refine zJ 700 ?_;refine zK (zQ (zN (yL (zQ (zN ?_)))));have e : fdO h l s = some (l.getD (x.k : Int).toNat 0) := x.found 0 c2 c5;exact u4 rfl (u19 ⟨by rw [e];exact u6 _,by rw [e];exact u6 _,by rw [e];exact u6 _,trivial⟩)
  ·
   refine zM (zP (zA (yN zL [] 800 ?_)));exact zS (x.next 0 c2 c5) ⟨yM,yH,rfl,rfl⟩ (by show l.length - (x.k + 1) < l.length - x.k;omega)
 ·
  refine yE (yA (yB (zX (zA (zJ 900 ?_)))));refine zK ?_;have e : fdO h l s = none := x.none om;exact u4 rfl (u19 ⟨by rw [e];exact (by repeat (first | exact trivial | exact u6 _ | exact u12 rfl | refine u20 ?_ | refine ⟨?_,?_⟩)),by rw [e];exact u6 _,by rw [e];exact u6 _,trivial⟩)
theorem Among_ok (h : List Ob) (l : List Int) (s : ByteArray) (hh : HpIn h) (hc : Cok h l) : Fx 249 [hpD md h,isD l,.v (.string s)] (.tup [.agg (vlD (fdV h s (fdO h l s))),.v (.int .i64 (fdC (fdO h l s))),.v (.bool (fdO h l s).isSome)]) := by
 have hl := hc.1;refine yD zL Tryz.func249 rfl rfl rfl rfl rfl rfl ?_;intros;refine zJ 100 ?_;refine zB (zJ 200 ?_);refine zR ?_;refine yC (ι := Fd l (fun c => ownB (yJ h c) s)) [2,3,6,13,14] [0,1] 250 (fun x => [(15,.v (.int .i64 x.k))]) (fun _ => []) (fun x => l.length - x.k) ⟨0,Ap _,rfl⟩ ?_;refine ⟨⟨yM,yH,rfl,rfl⟩,fun x => ?_⟩;have hk := x.le;refine zJ 300 ?_;refine zB (zW (fun c2 => ?_) (fun c2 => ?_))
 ·
  refine zM (zA (zB (zR (zJ 400 ?_))));refine zB (zE zL [] 500 rfl ?_);repeat (first | refine zH ?_ | refine zU (by exact (yP0 hc c2).1) ?_)
  refine zO _ (Own_ok _ _ (yP0 hc c2).2 (hh.at (l.getD (x.k : Int).toNat 0)).nl) rfl ?_;repeat (first | refine zH ?_ | refine zU (by exact (yP0 hc c2).1) ?_)
  refine zC (zA (zJ 600 ?_));refine zT rfl (fun c5 => ?_) (fun c5 => ?_)
  ·
   refine zJ 700 ?_;refine zK (zQ (zN (yL (zQ (zN ?_)))));have e : fdO h l s = some (l.getD (x.k : Int).toNat 0) := x.found 0 c2 c5;exact u4 rfl (u19 ⟨by rw [e];exact u6 _,by rw [e];exact u6 _,by rw [e];exact u6 _,trivial⟩)
  ·
   refine zM (zP (zA (yN zL [] 800 ?_)));exact zS (x.next 0 c2 c5) ⟨yM,yH,rfl,rfl⟩ (by show l.length - (x.k + 1) < l.length - x.k;omega)
 ·
  refine yE (yA (yB (zX (zA (zJ 900 ?_)))));refine zK ?_;have e : fdO h l s = none := x.none om;exact u4 rfl (u19 ⟨by rw [e];exact (by repeat (first | exact trivial | exact u6 _ | exact u12 rfl | refine u20 ?_ | refine ⟨?_,?_⟩)),by rw [e];exact u6 _,by rw [e];exact u6 _,trivial⟩)
theorem attrFind_ok (h : List Ob) (c : Int) (s : ByteArray) (hh : HpIn h) (hn : inH h c) (hc : Cok h (yJ h c).order) : Fx 174 [hpD md h,.v (.int .i64 c),.v (.string s)] (.tup [.agg (vlD (fdV h s (fdO h (yJ h c).order s))),.v (.int .i64 (fdC (fdO h (yJ h c).order s))),.v (.bool (fdO h (yJ h c).order s).isSome)]) := by
 refine yD zL Tryz.func174 rfl rfl rfl rfl rfl rfl ?_;intros;refine zJ 100 ?_;refine zB (zZ zL [] [[],[],[1],[],[1,2,3],[1,2,3,4],[1,2,3,4,5],[],(rgN 8),(rgN 9),(rgN 9),(rgN 9),(rgN 12),(rgN 13),(rgN 14)] 200 yQ kr rfl ?_);repeat (first | refine zH ?_ | refine zU (by exact hn) ?_)
 refine zO _ (attrFind0_ok h (yJ h c).order s hh hc) rfl ?_;repeat (first | refine zH ?_ | refine zU (by exact hn) ?_)
 refine zC (zA (zK ?_));exact u4 rfl (u6 _)
theorem Inherited_ok (h : List Ob) (c : Int) (s : ByteArray) (hh : HpIn h) (hn : inH h c) (hc : Cok h (yJ h c).order) : Fx 228 [hpD md h,.v (.int .i64 c),.v (.string s)] (.tup [.agg (vlD (fdV h s (fdO h (yJ h c).order s))),.v (.bool (fdO h (yJ h c).order s).isSome)]) := by
 refine yD zL Tryz.func228 rfl rfl rfl rfl rfl rfl ?_;intros;refine zJ 100 ?_;refine zB (zZ zL [] [[],[],[1],[],[1,2,3],[1,2,3,4],[1,2,3,4,5],[],(rgN 8),(rgN 9),(rgN 10),(rgN 10),(rgN 10),[],[0,1,2,3,4,5,6,7,8,9,10,13],[0,1,2,3,4,5,6,7,8,9,10,11,13,14],(rgN 16)] 200 yQ kr rfl ?_);repeat (first | refine zH ?_ | refine zU (by exact hn) ?_)
 refine zO _ (Among_ok h (yJ h c).order s hh hc) rfl ?_;repeat (first | refine zH ?_ | refine zU (by exact hn) ?_)
 refine zC (zA (zJ 300 ?_));refine zK ?_;exact u4 rfl (u6 _)
theorem attrFunction_ok (h : List Ob) (v : Vl) (hv : v.k = 6 -> yY h v.r = true) : Fx 175 [hpD md h,.agg (vlD v)] (.v (.bool (tR0 h v))) := by
 refine yD zL Tryz.func175 rfl rfl rfl rfl rfl rfl ?_;intros;refine zJ 100 ?_;refine zB (zE zL [] 200 rfl ?_);refine zF ?_;refine yK _ (fun hg6 => gO _ _ ao) rfl ?_;refine zf (zA (zK ?_));exact u4 rfl (u6 _)
variable {md me : Bool}
theorem qG {l : List Nat} (h : Lg l) (i : Nat) : l.getD i 0 < 4294967296 := by
 rcases Bs i l.length with h1 | h1
 ·rw [qU h1];exact h.at h1
 ·rw [An,Ds h1];show 0 < _;omega
theorem pF0 {l : List Nat} {n : Nat} (hl : l.length = n + 1) : VL l = VL (l.take n) + 4294967296 ^ n * l.getD n 0 := by
 rw [qU om,<- wN om,Am om]
structure TrmL (l : List Nat) where
 r : List Nat
 lg : Lg r
 eq : VL r = VL l
 le : r.length <= l.length
theorem last_takeL {r : List Nat} (h : 0 < r.length) (h0 : r.getD (r.length - 1) 0 = 0) : VL (r.take (r.length - 1)) = VL r := by
 have h1 := pF0 (l := r) (n := r.length - 1) om;rw [h0] at h1;omega
def TrmL.next {l : List Nat} (x : TrmL l) (h : 0 < x.r.length) (h0 : x.r.getD (x.r.length - 1) 0 = 0) : TrmL l := ⟨x.r.take (x.r.length - 1),x.lg.take _,by rw [last_takeL h h0,x.eq],by have := x.le;simp;omega⟩
theorem TrmL.fin {l : List Nat} (x : TrmL l) (h : 0 < x.r.length -> x.r.getD (x.r.length - 1) 0 ≠ 0) : x.r = lim (VL l) := by
 rw [<- x.eq];refine (qF1 x.lg fun hne => ?_).symm;have hp : 0 < x.r.length := Cr.2 hne;rw [List.getLast_eq_getElem,<- qU om];exact h hp
theorem pP {b : Bool} {l : List Nat} (hg : Lg l) (h : uV b l = true) : l = lim (VL l) /\ b = decide (ZI b (VL l) < 0) /\ l.length <= 128 := by
 unfold uV at h;rw [Ai,Cp,Ai,Ai,Ak,Ak,Ak,Ak] at h;obtain ⟨h1,h2⟩ := h;rcases h2 with ⟨h2,h3⟩ | ⟨h2,h3⟩
 ·have hl : l = [] := Bk h2;subst hl;have hb : b = false := by simpa using h3
  subst hb;exact ⟨by rw [wM0,qI],rfl,Ap _⟩
 ·have hn : uA0 l := fun hne => by
   rw [List.getLast_eq_getElem]
   rwa [qU om] at h3
  have hv := (qF1 hg hn).symm;refine ⟨hv,?_,h1⟩;have hp : 0 < VL l := by
   rcases Bu (VL l) with h0 | h0
   ·rw [h0,qI] at hv;rw [hv] at h2;exact absurd h2 de
   ·exact h0
  unfold ZI
  cases b
  ·simp
  ·simp;omega
theorem lim_nil {n : Nat} : lim n = [] ↔ n = 0 := by
 constructor
 ·intro h;rcases Bu n with h0 | h0
  ·exact h0
  ·rw [xZ om] at h;cases h
 ·rintro rfl;exact qI
theorem lim_len {n : Nat} : (decide ((0 : Int) < ((lim n).length : Nat))) = decide (0 < n) := by
 apply decide_eq_decide.2;constructor
 ·intro h;rcases Bu n with h0 | h0
  ·rw [h0,qI] at h;exact absurd h de
  ·exact h0
 ·intro h;have : lim n ≠ [] := fun e => by rw [lim_nil] at e;omega
  have := Cr.2 this;omega
theorem cY {n : Nat} : (decide ((0 : Int) < ((dig n).length : Nat))) = decide (0 < n) := by
 apply decide_eq_decide.2;constructor
 ·intro h;rcases Bu n with h0 | h0
  ·rw [h0,jY] at h;exact absurd h de
  ·exact h0
 ·intro h;have : dig n ≠ [] := fun e => by rw [dig_eq_nil] at e;omega
  have := Cr.2 this;omega
theorem jW0 (z : Int) : ZI (decide (z < 0)) z.natAbs = z := by
 unfold ZI;by_cases h : z < 0
 ·rw [Aw h,Ab rfl];omega
 ·rw [Bz h,Aa de];omega
theorem jO0 : (dig 1).length = 1 := by decide +kernel
def tooB : ByteArray := ⟨#[118,97,108,117,101,32,105,115,32,116,111,111,32,108,97,114,103,101]⟩
def plB (b1 : Bool) (n1 : Nat) (b2 : Bool) (n2 : Nat) : Bool × Nat := if b1 = b2 then (b1,n1 + n2) else if n2 <= n1 then (b1,n1 - n2) else (b2,n2 - n1)
variable {md me : Bool}
def iV (x : Bool × List Nat) : List D := [.v (.bool x.1),usD x.2]
def faD (c i : Int) : D := .agg [.v (.int .i64 c),.v (.int .i64 i)]
def sgB (b : Bool) (l : List Nat) : Bool := if l.length <= 128 then b && decide ((0 : Int) < (l.length : Nat)) else false
def sgL (l : List Nat) : List Nat := if l.length <= 128 then l else []
def sgC (l : List Nat) : Int := if l.length <= 128 then 0 else 14
def sgI (l : List Nat) : Int := if l.length <= 128 then 0 else -1
def sgD (b : Bool) (l : List Nat) : D := .tup [.agg (iV (sgB b l,sgL l)),faD (sgC l) (sgI l)]
theorem zF1 {b : Bool} {l : List Nat} (h : l.length <= 128) : D.tup [.agg (iV (b && decide ((0 : Int) < (l.length : Nat)),l)),faD 0 0] = sgD b l := by rw [sgD,sgB,sgL,sgC,sgI,Ab h,Ab h,Ab h,Ab h]
theorem sgD_gt {b : Bool} {l : List Nat} (h : ¬ l.length <= 128) : SubP (D.tup [.agg [.v (.bool false),.v (.slice none 0 0)],faD 14 (-1)]) (sgD b l) := by
 have e : D.tup [.agg (iV (false,[])),faD 14 (-1)] = sgD b l := by rw [sgD,sgB,sgL,sgC,sgI,Aa h,Aa h,Aa h,Aa h]
 rw [<- e];exact u19 ⟨u20 ⟨u6 _,u12 rfl,trivial⟩,u6 _,trivial⟩
def limN : Nat -> Nat -> List Nat
 | 0,_ => []
 | n + 1,v => v % 4294967296 :: limN n (v / 4294967296)
theorem gA : ∀ n v,(limN n v).length = n
 | 0,_ => rfl
 | n + 1,v => by rw [limN,Aq,gA n]
theorem bB : ∀ n v,Lg (limN n v)
 | 0,_ => Lg.nil
 | n + 1,v => fun x hx => by
  rw [limN] at hx;rcases Bq.1 hx with rfl | hx
  ·exact Cj _ de
  ·exact bB n _ x hx
theorem zP1 : ∀ {l : List Nat},Lg l -> limN l.length (VL l) = l
 | [],_ => rfl
 | d :: l,h => by
  have h1 := h d Ck;rw [uS,Aq,limN,show (d + 4294967296 * VL l) % 4294967296 = d by omega,show (d + 4294967296 * VL l) / 4294967296 = VL l by omega,zP1 fun x hx => h x (Bx _ hx)]
theorem pD0 {n v : Nat} (h : v < 4294967296 ^ n) : VL (limN n v) = v := by
 induction n generalizing v with
 | zero => simp at h;subst h;rfl
 | succ n ih =>
  rw [limN,uS,ih (by rw [Bv] at h;omega)];omega
theorem yM1 {l r : List Nat} (h1 : Lg l) (h2 : Lg r) : Lg (l ++ r) := fun x hx => (Az.1 hx).elim (h1 x) (h2 x)
theorem tM {s : Nat} {p : Int} {q : Nat} (h : p = (q : Int)) : Int.fdiv (s : Int) p = ((s / q : Nat) : Int) := by
 subst h;rw [Int.fdiv_eq_ediv_of_nonneg _ om];rfl
theorem qD0 {o x : List Nat} {k v : Nat} (ho : o.length = k) (hk : k < x.length) : (MR.upd (.map (o ++ x.drop k) uD 0) k (uD v)).rows = (MR.map ((o ++ [v]) ++ x.drop (k + 1)) uD 0).rows := by
 simp only [MR.rows];rw [<- List.map_set];congr 1;rw [List.set_append_right _ _ om,ho,Nat.sub_self,By hk,List.set_cons_zero];simp
theorem uP0 {o x : List Nat} {k : Nat} (ho : o.length = k) : (o ++ x.drop k).getD k 0 = x.getD k 0 := by
 rw [An,Ce om,ho,Nat.sub_self,De,An];rfl
theorem intAt_ok (c i : Int) : Fx 245 [.v (.int .i64 c),.v (.int .i64 i)] (faD c i) := by
 refine yD zL Tryz.func245 rfl rfl rfl rfl rfl rfl ?_;intros;refine zJ 100 ?_;refine zJ 200 ?_;refine zK ?_;exact u4 rfl (u6 _)
theorem gC (b : Bool) (l : List Nat) (hl : l.length <= 2000000) : Fx 119 [.agg [.v (.bool b),usD l]] (.v (.bool (uV b l))) := by
 refine yD zL Tryz.func119 rfl rfl rfl rfl rfl rfl ?_;intros;refine zJ 100 ?_;refine zJ 200 ?_;refine zB (zE zL [] 300 rfl ?_);repeat (first | refine zH ?_ | refine zU (by first | exact trivial | omega | exact ini (by omega) (by omega) | (intro hh;simp at hh;exact ini om om) | (intro hh;simp at hh ⊢;omega) | (simp at *;omega) | (simp_all;done) | (intros;exact ini om om)) ?_)
 refine zC (zA (zK ?_));exact u4 rfl (u7 (by rw [<- vM0]))
theorem wG (L : List (Bool × List Nat)) (hv : ∀ k < L.length,uV (L.getD k (false,[])).1 (L.getD k (false,[])).2 = true /\ (L.getD k (false,[])).2.length <= 2000000) (hl : L.length <= 100) : Fx 220 [.sl false 2 L iV (false,[])] (faD 0 0) := by
 refine yD zL Tryz.func220 rfl rfl rfl rfl rfl rfl ?_;intros;refine zJ 100 ?_;refine zB (zJ 200 ?_);refine zR ?_;refine yC (ι := {k : Nat // k <= L.length}) [2,5,6] [0] 250 (fun x => [(7,.v (.int .i64 x.1))]) (fun _ => []) (fun x => L.length - x.1) ⟨0,Ap _⟩ ?_;refine ⟨⟨yM,yH,rfl,rfl⟩,fun x => ?_⟩;have hk : x.1 <= L.length := x.2;refine zJ 300 ?_;refine zB (zW (fun c2 => ?_) (fun c2 => ?_))
 ·
  refine zM (zA (zB (zR (zJ 400 ?_))));refine zB (zE zL [] 500 rfl ?_);refine zF ?_;refine zO _ (gC _ _ ao) rfl ?_;refine zF ?_;refine zC (zA (zW (fun c4 => ?_) (fun c4 => ?_)))
  ·
   exact Bool.noConfusion (c4.symm.trans (hv x.1 om).1)
  ·
   refine zM (zP (zA (yN zL [] 700 ?_)));exact zS (⟨x.1 + 1,by omega⟩) ⟨⟨u21 (by push_cast;rfl),yM⟩,yH,rfl,rfl⟩ (by show L.length - (x.1 + 1) < L.length - x.1;omega)
 ·
  refine yE (yA (yB (zX (zA (zJ 800 ?_)))));refine zK ?_;exact u4 rfl (u6 _)
theorem vP (b : Bool) (l : List Nat) : Fx 224 [.v (.bool b),usD l] (sgD b l) := by
 refine yD zL Tryz.func224 rfl rfl rfl rfl rfl rfl ?_;intros;refine zJ 100 ?_;refine zB (zJ 200 ?_);refine zW (fun c1 => ?_) (fun c1 => ?_)
 ·
  refine zB (zE zL [] 300 rfl ?_);refine zF ?_;refine zO _ (intAt_ok _ _) rfl ?_;refine zf (zA (zK (zN ?_)));exact u4 rfl (sgD_gt (b := b) (l := l) om)
 ·
  refine zM (zA (zJ 400 ?_));refine zK ?_;exact u4 rfl (u9 (zF1 (b := b) (l := l) om))
theorem CloneU_ok (l : List Nat) (hl : l.length <= 2000000) : FnO Tryz.prog 101 [usD l] 126 1 (l.map uD) := by
 refine bT0 Tryz.func101 rfl rfl rfl rfl rfl rfl ?_;intros;refine zB (zE zL [5] 100 rfl ?_);repeat (first | refine zH ?_ | refine zU (by exact xI hl) ?_)
 refine zC (zA (zB (zB ?_)));refine kO Tryz.underlying25 rfl rfl rfl fun c hc => ?_;refine zA (zT rfl (fun c1 => ?_) (fun c1 => ?_))
 ·
  refine zB (zE zL [5] 300 rfl ?_);repeat (first | refine zH ?_ | refine zU (by exact xI hl) ?_)
  refine zC (zA (zK (zN ?_)));exact FinO.nil rfl (by rw [hc c1];rfl)
 ·
  refine zM (zA ?_);refine zB (zE zL [5] 400 rfl ?_);repeat (first | refine zH ?_ | refine zU (by first | rfl | exact xI hl | (rw [Bc];have := xI (f := uD) hl;omega) | (have := xI (f := uD) hl;simp at this ⊢;omega)) ?_)
  refine zC (zA (zK ?_));exact FinO.ret rfl rfl rfl rfl
variable {md me : Bool}
theorem used_a {k : Nat} (hk : k < 21) (ha : Lib.contains (uU (k : Int)).data.toList [97] = true) : uU (k : Int) ≠ ⟨#[]⟩ /\ zR0 (uU (k : Int)) = 61 := by
 have := Bf.1 (show (List.range 21).all (fun (k : Nat) => !(Lib.contains (uU (k : Int)).data.toList [97]) || (!decide (uU (k : Int) = ⟨#[]⟩) && decide (zR0 (uU (k : Int)) = 61))) = true by decide +kernel) k (Cu.2 hk);rw [ha,Bool.not_true,Bool.false_or,Ai,Bp,Av,Ak] at this;exact this
theorem names_items {o : Ob} (hk : 0 <= o.kind /\ o.kind < 21) (hs : uO o = 0) : o.names.length <= o.items.length := by
 have h1 := (dM0 hs).1;unfold uO at hs;split at hs
 ·rename_i ha;have h3 := Bf.1 ha 3 de;by_cases hz : (o.names.length : Int) = 0
  ·omega
  ·have e : Lib.contains (uU o.kind).data.toList [97] = true := by
    have h4 : (!(!(decide ((o.names.length : Int) = 0)) && !(Lib.contains (uU o.kind).data.toList [97]))) = true := h3;rw [Bz hz] at h4;simpa using h4
   have hkk : o.kind = ((o.kind.toNat : Nat) : Int) := by omega
   rw [hkk] at e;have h5 := used_a (k := o.kind.toNat) om e;rw [<- hkk] at h5;rw [cntS,Aa h5.1,Aa (by rw [h5.2];decide),Ab h5.2] at h1;omega
 ·cases hs
theorem jM1 {h : List Ob} (g : Uh h) {n : Int} (hn : inH h n) : (yJ h n).names.length <= (yJ h n).items.length := by
 by_cases h49 : n.toNat < 49
 ·rw [show yJ h n = bgO n.toNat from g.lo_at h49];exact Ap _
 ·have u := g.hi_at (i := n.toNat) om hn.2;exact names_items u.kind u.shape
theorem bg_order {k : Nat} (hk : k < 49) {r : Int} (hr : r ∈ (bgO k).order) : 0 <= r /\ r < 49 := by
 have := Bf.1 (Bf.1 (show (List.range 49).all (fun k => (bgO k).order.all fun r => decide (0 <= r) && decide (r < 49)) = true by decide +kernel) k (Cu.2 hk)) r hr;rw [Ai,Ak,Ak] at this;exact this
theorem tM0 {h : List Ob} (hh : HpIn h) (g : Uh h) {c : Int} (hn : inH h c) : Cok h (yJ h c).order := by
 refine ⟨(hh.at c).ol,fun r hr => ?_⟩;have hin : inH h r := by
  by_cases h49 : c.toNat < 49
  ·rw [show yJ h c = bgO c.toNat from g.lo_at h49] at hr;have := bg_order h49 hr;have := g.lo;exact ⟨by omega,by omega⟩
  ·exact yV ((yY0 (g.hi_at om hn.2).vals).order r hr)
 exact ⟨hin,jM1 g hin⟩
theorem own_rv {h : List Ob} (g : Uh h) {n : Int} (hn : inH h n) (s : ByteArray) (hk : (ownV (yJ h n) s).k = 6) : yY h (ownV (yJ h n) s).r = true := by
 have hlt := bL0 (yJ h n).names s;have hni := jM1 g hn;by_cases hi : ixI (yJ h n).names s < 0
 ·rw [ownV,Ab hi] at hk;exact absurd hk de
 ·rw [ownV,Aa hi] at hk ⊢;have hj : (ixI (yJ h n).names s).toNat < (yJ h n).items.length := by omega
  rw [An,Ah hj] at hk ⊢;exact g.items hn (Be _) hk
theorem jU1 {h : List Ob} (hh : HpIn h) (g : Uh h) {c : Int} (hn : inH h c) (s : ByteArray) (hk : (fdV h s (fdO h (yJ h c).order s)).k = 6) : yY h (fdV h s (fdO h (yJ h c).order s)).r = true := by
 cases hf : fdO h (yJ h c).order s with
 | none => rw [hf] at hk;exact absurd hk (show ¬ (0 : Int) = 6 by decide)
 | some r =>
  rw [hf] at hk;exact own_rv g ((tM0 hh g hn).2 r (List.mem_of_find?_eq_some hf)).1 s hk
theorem one_item {h : List Ob} (g : Uh h) {n : Int} (hn : inH h n) (hk : (yJ h n).kind = 13 \/ (yJ h n).kind = 14) : (yJ h n).items.length = 1 := by
 by_cases h49 : n.toNat < 49
 ·rw [show yJ h n = bgO n.toNat from g.lo_at h49] at hk;have h9 : (bgO n.toNat).kind = 9 := rfl;omega
 ·have u := g.hi_at (i := n.toNat) om hn.2;have h1 := (dM0 u.shape).1;rw [<- kZ hn] at h1;have hc : cntS (yJ h n) = 1 := by
   rcases hk with hk | hk
   ·rw [pW 13 49 (by decide +kernel) hk];decide +kernel
   ·rw [pW 14 49 (by decide +kernel) hk];decide +kernel
  omega
def spS (h : List Ob) (v : Vl) (s : ByteArray) : Vl × List Vl × Bool :=
 if ¬ (zY h v).kind = 10 then (vl0,[],false)
 else if (fdO h (yJ h (zY h v).cls).order s).isSome = false then (vl0,[],false)
 else if tR0 h (fdV h s (fdO h (yJ h (zY h v).cls).order s)) = true then (fdV h s (fdO h (yJ h (zY h v).cls).order s),[v],true)
 else if (zY h (fdV h s (fdO h (yJ h (zY h v).cls).order s))).kind = 13 then ((zY h (fdV h s (fdO h (yJ h (zY h v).cls).order s))).items.getD 0 vl0,[],true)
 else if (zY h (fdV h s (fdO h (yJ h (zY h v).cls).order s))).kind = 14 then ((zY h (fdV h s (fdO h (yJ h (zY h v).cls).order s))).items.getD 0 vl0,[rfV (zY h v).cls],true)
 else (fdV h s (fdO h (yJ h (zY h v).cls).order s),[],true)
theorem kY {h : List Ob} (g : Uh h) {v : Vl} (hk : (zY h v).kind = 13 \/ (zY h v).kind = 14) : 0 < (zY h v).items.length := by
 have h1 := vU (h := h) (v := v) om;rw [h1.2.2] at hk ⊢;rw [one_item g (yV h1.2.1) hk];decide
theorem kT0 {h : List Ob} (g : Uh h) {v : Vl} (hk : (zY h v).kind = 10) : inH h (zY h v).cls := by
 have h1 := vU (h := h) (v := v) om;rw [h1.2.2] at hk ⊢;exact g.cls (yV h1.2.1) hk
set_option maxHeartbeats 1000000 in
theorem Special_ok (h : List Ob) (v : Vl) (s : ByteArray) (hh : HpIn h) (g : Uh h) (hv : v.k = 6 -> yY h v.r = true) : Fx 112 [hpD md h,.agg (vlD v),.v (.string s)] (.tup [.agg (vlD (spS h v s).1),vsD (spS h v s).2.1,.v (.bool (spS h v s).2.2)]) := by
 refine yD zL Tryz.func112 rfl rfl rfl rfl rfl rfl ?_;intros;refine zJ 100 ?_;refine zB ?_;refine zB (zE zL [] 200 rfl ?_);refine zF ?_;refine zO _ (gO _ _ ao) rfl ?_;refine zF ?_;refine zC (zA (zT rfl (fun c1 => ?_) (fun c1 => ?_)))
 ·replace c1 : ¬ (zY h v).kind = 10 := by simpa using c1
  refine zJ 300 ?_;refine zK (zN ?_);exact u4 rfl (u19 ⟨by rw [spS,Ab c1];exact (by repeat (first | exact trivial | exact u6 _ | exact u12 rfl | refine u20 ?_ | refine ⟨?_,?_⟩)),by rw [spS,Ab c1];exact u12 rfl,by rw [spS,Ab c1];exact u6 _,trivial⟩)
 ·replace c1 : (zY h v).kind = 10 := by simpa using c1
  have hob := vU (h := h) (v := v) om;have hin := kT0 g c1;have hrv := fun hk => jU1 hh g hin s hk;refine zM (zA ?_);refine zB (zE zL [] 400 rfl ?_);repeat (first | refine zH ?_ | refine zU (by exact yV hob.2.1) ?_)
  refine zC (zA ?_);refine yW [2,3,4,6] [0,1,2] 410 [(9,.v (.int .i64 (zY h v).cls))] [] ?_;refine ⟨⟨⟨u21 (by rw [hob.2.2]),by repeat (first | exact trivial | exact u0 _ | refine ⟨?_,?_⟩)⟩,yH,rfl,rfl⟩,?_⟩;refine zB (zE zL [] 500 rfl ?_);refine zF ?_;refine zO _ (attrFind_ok h (zY h v).cls s hh hin (tM0 hh g hin)) rfl ?_;refine zF ?_;refine zC (zA (zB (zJ 600 ?_)));refine zT rfl (fun c5 => ?_) (fun c5 => ?_)
  ·replace c5 : (fdO h (yJ h (zY h v).cls).order s).isSome = false := by simpa using c5
   refine zJ 700 ?_;refine zK (zN ?_);exact u4 rfl (u19 ⟨by rw [spS,Aa (not_not_intro c1),Ab c5];exact (by repeat (first | exact trivial | exact u6 _ | exact u12 rfl | refine u20 ?_ | refine ⟨?_,?_⟩)),by rw [spS,Aa (not_not_intro c1),Ab c5];exact u12 rfl,by rw [spS,Aa (not_not_intro c1),Ab c5];exact u6 _,trivial⟩)
  ·replace c5 : (fdO h (yJ h (zY h v).cls).order s).isSome = true := by simpa using c5
   refine zM (zA (zB ?_));refine zB (zE zL [] 800 rfl ?_);refine zF ?_;refine zO _ (gO h (fdV h s (fdO h (yJ h (zY h v).cls).order s)) hrv) rfl ?_;refine zf (zA (zR ?_));refine zB (zE zL [] 900 rfl ?_);refine zF ?_;refine zO _ (attrFunction_ok h (fdV h s (fdO h (yJ h (zY h v).cls).order s)) hrv) rfl ?_;refine zF ?_;refine zC (zA (zT rfl (fun c8 => ?_) (fun c8 => ?_)))
   ·
    refine zB (zZ zL [] [[],[],[1],[0],[0,1,2,3],(rgN 5)] 1000 yQ kr rfl ?_);refine zf (zA (zK (zQ (zN ?_))));exact u4 rfl (u19 ⟨by rw [spS,Aa (not_not_intro c1),Aa (by rw [c5];decide),Ab c8];exact u6 _,by rw [spS,Aa (not_not_intro c1),Aa (by rw [c5];decide),Ab c8];exact u18 rfl,by rw [spS,Aa (not_not_intro c1),Aa (by rw [c5];decide),Ab c8];exact u6 _,trivial⟩)
   ·
    refine zJ 1100 ?_;refine zW (fun c10 => ?_) (fun c10 => ?_)
    ·
     refine zB (zE zL [] 1200 rfl ?_);repeat (first | refine zH ?_ | refine zU (by exact ⟨by omega,kY g (Or.inl c10)⟩) ?_)
     refine zC (zA (zK (zQ (zN ?_))));exact u4 rfl (u19 ⟨by rw [spS,Aa (not_not_intro c1),Aa (by rw [c5];decide),Aa (by rw [c8];decide),Ab c10];exact u6 _,by rw [spS,Aa (not_not_intro c1),Aa (by rw [c5];decide),Aa (by rw [c8];decide),Ab c10];exact u12 rfl,by rw [spS,Aa (not_not_intro c1),Aa (by rw [c5];decide),Aa (by rw [c8];decide),Ab c10];exact u6 _,trivial⟩)
    ·
     refine zJ 1300 ?_;refine zW (fun c12 => ?_) (fun c12 => ?_)
     ·
      refine zB (zZ zL [] [[],[0],[0,1],[0,1,2],[],[4],[4,5],(rgN 6),(rgN 8),(rgN 9)] 1400 yQ kr rfl ?_);repeat (first | refine zH ?_ | refine zU (by exact ⟨by omega,kY g (Or.inr c12)⟩) ?_)
      refine zO _ (heapRef_ok _) rfl ?_;repeat (first | refine zH ?_ | refine zU (by exact ⟨by omega,kY g (Or.inr c12)⟩) ?_)
      refine zC (zA (zK (zQ (zN ?_))));exact u4 rfl (u19 ⟨by rw [spS,Aa (not_not_intro c1),Aa (by rw [c5];decide),Aa (by rw [c8];decide),Aa om,Ab c12];exact u6 _,by rw [spS,Aa (not_not_intro c1),Aa (by rw [c5];decide),Aa (by rw [c8];decide),Aa om,Ab c12];exact u18 rfl,by rw [spS,Aa (not_not_intro c1),Aa (by rw [c5];decide),Aa (by rw [c8];decide),Aa om,Ab c12];exact u6 _,trivial⟩)
     ·
      refine zM (zP (zA (zJ 1500 ?_)));refine zK ?_;exact u4 rfl (u19 ⟨by rw [spS,Aa (not_not_intro c1),Aa (by rw [c5];decide),Aa (by rw [c8];decide),Aa om,Aa om];exact u6 _,by rw [spS,Aa (not_not_intro c1),Aa (by rw [c5];decide),Aa (by rw [c8];decide),Aa om,Aa om];exact u12 rfl,by rw [spS,Aa (not_not_intro c1),Aa (by rw [c5];decide),Aa (by rw [c8];decide),Aa om,Aa om];exact u6 _,trivial⟩)
set_option maxHeartbeats 1000000 in
theorem Method_ok (h : List Ob) (v : Vl) (s : ByteArray) (hh : HpIn h) (g : Uh h) (hv : v.k = 6 -> yY h v.r = true) : Fx 185 [hpD md h,.agg (vlD v),.v (.string s)] (.tup [.agg (vlD (spS h v s).1),vsD (spS h v s).2.1,.v (.bool (spS h v s).2.2)]) := by
 refine yD zL Tryz.func185 rfl rfl rfl rfl rfl rfl ?_;intros;refine zJ 100 ?_;refine zB (zE zL [] 200 rfl ?_);refine zF ?_;refine zO _ (uA _ _) rfl ?_;refine zF ?_;refine zC (zA (zB (zJ 300 ?_)));refine zT rfl (fun c2 => ?_) (fun c2 => ?_)
 ·replace c2 : ¬ (zY h v).kind = 10 := by simpa using c2
  refine zJ 400 ?_;refine zK (zN ?_);exact u4 rfl (u19 ⟨by rw [spS,Ab c2];exact (by repeat (first | exact trivial | exact u6 _ | exact u12 rfl | refine u20 ?_ | refine ⟨?_,?_⟩)),by rw [spS,Ab c2];exact u12 rfl,by rw [spS,Ab c2];exact u6 _,trivial⟩)
 ·replace c2 : (zY h v).kind = 10 := by simpa using c2
  have hin := kT0 g c2;have hrv := fun hk => jU1 hh g hin s hk;refine zM (zA ?_);refine zB (zE zL [] 500 rfl ?_);refine zF ?_;refine zO _ (Inherited_ok h (zY h v).cls s hh hin (tM0 hh g hin)) rfl ?_;refine zF ?_;refine zC (zA (zB (zJ 600 ?_)));refine zT rfl (fun c5 => ?_) (fun c5 => ?_)
  ·replace c5 : (fdO h (yJ h (zY h v).cls).order s).isSome = false := by simpa using c5
   refine zJ 700 ?_;refine zK (zN ?_);exact u4 rfl (u19 ⟨by rw [spS,Aa (not_not_intro c2),Ab c5];exact (by repeat (first | exact trivial | exact u6 _ | exact u12 rfl | refine u20 ?_ | refine ⟨?_,?_⟩)),by rw [spS,Aa (not_not_intro c2),Ab c5];exact u12 rfl,by rw [spS,Aa (not_not_intro c2),Ab c5];exact u6 _,trivial⟩)
  ·replace c5 : (fdO h (yJ h (zY h v).cls).order s).isSome = true := by simpa using c5
   refine zM (zA (zB ?_));refine zB (zE zL [] 800 rfl ?_);refine zF ?_;refine zO _ (mV h (fdV h s (fdO h (yJ h (zY h v).cls).order s))) rfl ?_;refine zF ?_;refine zC (zA (zT rfl (fun c7 => ?_) (fun c7 => ?_)))
   ·
    refine zB (zZ zL [] [[],[],[1],[0],[0,1,2,3],(rgN 5)] 900 yQ kr rfl ?_);refine zf (zA (zK (zN ?_)));exact u4 rfl (u19 ⟨by rw [spS,Aa (not_not_intro c2),Aa (by rw [c5];decide),Ab c7];exact u6 _,by rw [spS,Aa (not_not_intro c2),Aa (by rw [c5];decide),Ab c7];exact u18 rfl,by rw [spS,Aa (not_not_intro c2),Aa (by rw [c5];decide),Ab c7];exact u6 _,trivial⟩)
   ·
    refine zM (zA (zB ?_));refine zB (zE zL [] 1000 rfl ?_);refine zF ?_;refine zO _ (uA _ _) rfl ?_;refine zF ?_;refine zC (zA (zJ 1100 ?_));refine zR (zJ 1200 ?_);refine zW (fun c11 => ?_) (fun c11 => ?_)
    ·
     refine zB (zZ zL [] [[],[0],[0,1],[0,1,2],[],[4],[4,5],[4,5,6],(rgN 7),(rgN 9),(rgN 10)] 1300 yQ kr rfl ?_);repeat (first | refine zH ?_ | refine zU (by exact ⟨by omega,kY g (Or.inr c11)⟩) ?_)
     refine zO _ (O_ok _) rfl ?_;repeat (first | refine zH ?_ | refine zU (by exact ⟨by omega,kY g (Or.inr c11)⟩) ?_)
     refine zC (zA (zK (zQ (zN ?_))));exact u4 rfl (u19 ⟨by rw [spS,Aa (not_not_intro c2),Aa (by rw [c5];decide),Aa (by rw [c7];decide),Aa om,Ab c11];exact u6 _,by rw [spS,Aa (not_not_intro c2),Aa (by rw [c5];decide),Aa (by rw [c7];decide),Aa om,Ab c11];exact u18 rfl,by rw [spS,Aa (not_not_intro c2),Aa (by rw [c5];decide),Aa (by rw [c7];decide),Aa om,Ab c11];exact u6 _,trivial⟩)
    ·
     refine zJ 1400 ?_;refine zW (fun c13 => ?_) (fun c13 => ?_)
     ·
      refine zB (zE zL [] 1500 rfl ?_);repeat (first | refine zH ?_ | refine zU (by exact ⟨by omega,kY g (Or.inl c13)⟩) ?_)
      refine zC (zA (zK (zQ (zN ?_))));exact u4 rfl (u19 ⟨by rw [spS,Aa (not_not_intro c2),Aa (by rw [c5];decide),Aa (by rw [c7];decide),Ab c13];exact u6 _,by rw [spS,Aa (not_not_intro c2),Aa (by rw [c5];decide),Aa (by rw [c7];decide),Ab c13];exact u12 rfl,by rw [spS,Aa (not_not_intro c2),Aa (by rw [c5];decide),Aa (by rw [c7];decide),Ab c13];exact u6 _,trivial⟩)
     ·
      refine zM (zP (zA (zJ 1600 ?_)));refine zK ?_;exact u4 rfl (u19 ⟨by rw [spS,Aa (not_not_intro c2),Aa (by rw [c5];decide),Aa (by rw [c7];decide),Aa om,Aa om];exact u6 _,by rw [spS,Aa (not_not_intro c2),Aa (by rw [c5];decide),Aa (by rw [c7];decide),Aa om,Aa om];exact u12 rfl,by rw [spS,Aa (not_not_intro c2),Aa (by rw [c5];decide),Aa (by rw [c7];decide),Aa om,Aa om];exact u6 _,trivial⟩)
end Go.Proofs.YtinegkcbkefeiaaGreatDoor
/-
  DERIVED: THE SHELF's CONTRACTS AT THIS DUMP,IN PLAIN WORDS (tools/lay-plain.mjs out of 'YtinegkcbkefeiaaGreatDoorShelf3.lean',which tools/lay-shelf.mjs wrote): THE SAME DECLARATIONS UNDER THE SAME NAMES: 'import','namespace','open','def','theorem' AND NOTHING ELSE: no command of the shelf's: FOR A HAND-IN. Each laying: the table of numbers ('.._ren') and one theorem,a field a fact of the dump's own or the kernel's comparison;each contract: ONE APPLICATION.
-/
namespace Go.Proofs
open Go.Shelf
def Tryz.laysGrowV_ren : Go.Shelf.Ren := ⟨fun | 4 => 177 | n => n,fun | 22 => 31 | 25 => 29 | 3 => 3 | 4 => 4 | 9 => 9 | 20 => 20 | 0 => 0 | n => n,fun | n => n⟩
theorem Tryz.laysGrowV : Go.Proofs.Lays8.n4 Tryz.prog Tryz.laysGrowV_ren := {
 mixed := by kernel_rfl
 f4 := ⟨Tryz.f177.name,by decide,Tryz.func177.trans (congrArg some (by kernel_rfl))⟩
 t0 := Tryz.underlying0
 a0 := Tryz.isAgg0
 z0 := Tryz.sizeOf0
 v0 := Tryz.zeroValue0
 t3 := Tryz.underlying3
 a3 := Tryz.isAgg3
 z3 := Tryz.sizeOf3
 v3 := Tryz.zeroValue3
 t4 := Tryz.underlying4
 a4 := Tryz.isAgg4
 z4 := Tryz.sizeOf4
 v4 := Tryz.zeroValue4
 t9 := Tryz.underlying9
 a9 := Tryz.isAgg9
 z9 := Tryz.sizeOf9
 v9 := Tryz.zeroValue9
 t20 := Tryz.underlying20
 a20 := Tryz.isAgg20
 z20 := Tryz.sizeOf20
 v20 := Tryz.zeroValue20
 t22 := Tryz.underlying31
 a22 := Tryz.isAgg31
 z22 := Tryz.sizeOf31
 v22 := Tryz.zeroValue31 }
end Go.Proofs
namespace Go.Proofs.YtinegkcbkefeiaaGreatDoor
open Go.RowKit Go.Shelf
theorem grow_O {P : Program} {f : FuncId} {e : TypeId} {sz : Nat} (hb : Bod P f) (n : Nat)
  (h0 : n = 0 -> ∀ w,Calls P f #[.slice none 0 0,.int .i64 n] w fun r w' => r = .returned (.slice none 0 0) /\ w' = w)
  (h1 : 0 < n -> ∀ w : World,Calls P f #[.slice none 0 0,.int .i64 n] w fun r w' => ∃ (cur : Array Value) (G : Nat),r = .returned (.slice (some ⟨w.heap.size,0,none⟩) 0 G) /\ w' = w.drew.alloc (.cells cur e) /\ cur.size = G * sz /\ G <= maxLen) :
  FnO P f [.v (.slice none 0 0),.v (.int .i64 n)] e sz [] := by
 refine ⟨hb,fun w s vs hlt _ hv => ?_⟩
 match vs,hv with
 | [a,b],⟨ha,hb',_⟩ =>
  have ha : a = .slice none 0 0 := ha;have hb' : b = .int .i64 n := hb';subst ha hb';rcases Bu n with hn | hn
  ·refine (h0 hn w).mono fun r w' hq => ?_;obtain ⟨rfl,rfl⟩ := hq;refine ⟨s,⟨fun _ => none,fun k m => if k = 0 /\ m = 0 then some (.slice none 0 0) else none⟩,0,.slice none 0 0,rfl,?_,⟨fun m hm => ?_,_,rfl,.inl ⟨rfl,rfl⟩⟩,fun N hN => ?_,⟨Ex.refl _ _,hlt,rfl,rfl,rfl,Ao _,fun _ _ => rfl,fun _ _ h => .inl h,fun _ _ h => .inl h⟩⟩
   ·rw [TV.P];exact ⟨⟨none,0,rfl,Ao _,by omega,(fun _ h => by cases h),fun i row h => by simp [D.pvss] at h⟩,rfl⟩
   ·have hm : 0 < m := hm;exact Aa om
   ·cases hN
  ·refine (h1 hn w).mono fun r w' hq => ?_;obtain ⟨cur,G,rfl,rfl,hc,hG⟩ := hq;have hnew : (w.drew.alloc (.cells cur e)).heap[w.heap.size]? = some (.cells cur e (0,0)) := heap_alloc_new w.drew _;have hold : ∀ N,N < w.heap.size -> (w.drew.alloc (.cells cur e)).heap[N]? = w.heap[N]? := fun N hN => heap_alloc_old w.drew _ hN;have hsz : (w.drew.alloc (.cells cur e)).heap.size = w.heap.size + 1 := by
    show (w.drew.heap.push _).size = _;rw [Array.size_push];rfl
   refine ⟨s,⟨fun _ => none,fun k m => if k = 0 /\ m = 0 then some (.slice (some ⟨w.heap.size,0,none⟩) 0 G) else none⟩,0,.slice (some ⟨w.heap.size,0,none⟩) 0 G,rfl,?_,⟨fun m hm => ?_,_,rfl,.inr ⟨w.heap.size,G,cur,rfl,.of hnew,Ap _,hG,hc,fun o _ h => ?_⟩⟩,fun N hN => ?_,⟨⟨fun _ _ h => h,fun b o hs => vZ (hold b (hlt b o hs)),fun _ _ h => h⟩,fun B o h => ?_,rfl,rfl,rfl,by omega,hold,fun _ _ h => .inl h,fun _ _ h => .inl h⟩⟩
   ·rw [TV.P];exact ⟨⟨_,G,rfl,Ap _,by unfold maxLen at hG;omega,(fun _ h => by cases h),fun i row h => by simp [D.pvss] at h⟩,rfl⟩
   ·have hm : 0 < m := hm;exact Aa om
   ·have := hlt _ _ h;omega
   ·have hN : some w.heap.size = some N := hN
    cases hN;exact Ao _
   ·have := hlt B o h;omega
theorem GrowV_ok (n : Nat) (hn : n <= 100000000) : FnO Tryz.prog 177 [.v (.slice none 0 0),.v (.int .i64 n)] 29 7 [] := by
 refine grow_O ⟨_,Tryz.func177,rfl,rfl⟩ n (fun h w => ?_) fun h w => ?_
 ·subst h;exact Any8.slices_Grow_room Tryz.laysGrowV none 0 0 0 w om om om om
 ·obtain ⟨ie,z,hu,hi,hz,hsz,hzc,hs0,hb0,hb1⟩ := (kC (yG (t := 31) zL (show fnd 31 TT = some (.sl 29 7) by rfl))).2.2.h
  have hx := Any8.slices_Grow_grow Tryz.laysGrowV ie z hi hz om none 0 0 n [] w (Ao _) om (by
   have := Nat.mul_le_mul (show 0 + n <= 100000000 by omega) hb1;omega) om (by simp) (fun _ => rfl) (fun _ h => by cases h)
  refine hx.mono fun r w' hq => ?_;obtain ⟨rfl,rfl⟩ := hq;have hG : n <= grownCap w (0 + n) 0 (Tryz.laysGrowV_ren.t 25) := Au om (grownCap_ge w (0 + n) 0 _);refine ⟨_,_,rfl,rfl,?_,grownCap_le_maxLen w _ _ _ (by unfold maxLen;omega)⟩;simp only [Array.size_append,Cd,Bc,size_zeroCells,hzc];omega
open Go.RowKit
variable {md me : Bool}
def st0 : St := ⟨0,vl0,0,ByteArray.empty,vl0,[]⟩
def stsD (l : List St) : D := .sl false 18 l stD st0
def vssD (l : List (List Vl)) : D := .sl false 1 l (fun x => [vsD x]) []
def caS (f : Vl) (l : List Vl) : St := ⟨2,vl0,0,ByteArray.empty,f,l⟩
def attS (h : List Ob) (v : Vl) (s : ByteArray) (l : List Vl) : List St := if (spS h v s).2.2 = true then [caS (spS h v s).1 ((spS h v s).2.1 ++ l)] else []
def ctL (L : List (List Vl)) (k : Nat) : List Vl := (L.take k).flatten
theorem zB0 {L : List (List Vl)} {k : Nat} (h : k < L.length) : ctL L (k + 1) = ctL L k ++ L.getD k [] := by
 unfold ctL;rw [List.take_add_one,Ah h,List.flatten_append,An,Ah h];simp
theorem tK0 (L : List (List Vl)) (k : Nat) : (ctL L k).length <= (ctL L L.length).length := by
 unfold ctL;rw [List.take_length]
 conv => rhs;rw [<- Ec k L,List.flatten_append,Ag]
 omega
theorem tJ0 (a b : List Vl) : ctL [a,b] [a,b].length = a ++ b := by simp [ctL]
theorem SubP.slrRows {α : Type} {m : Bool} {sz : Nat} {rows : List (List D)} {l : List α} {f : α -> List D} {e : α} (h : RowsP rows (l.map f)) : SubP (.slr m sz rows) (.sl m sz l f e) := fun w s v hv => by
 have h1 := gY0 (m := m) (sz := sz) h (w := w) (s := s) (v := v) hv;rw [yR,Dl] at h1;exact h1
theorem qY1 (h : List Ob) (v : Vl) (s : ByteArray) : (spS h v s).2.1.length <= 1 := by
 unfold spS;repeat' split
 all_goals first | exact Ao _ | exact Ap _
theorem yU0 (L : List (List Vl)) (hl : (ctL L L.length).length <= 100000000) (hL : L.length <= 1000) : FnO Tryz.prog 113 [vssD L] 29 7 ((ctL L L.length).map vlD) := by
 refine bT0 Tryz.func113 rfl rfl rfl rfl rfl rfl ?_;intros;refine zJ 100 ?_;refine zJ 200 ?_;refine zB (zJ 300 ?_);refine zR ?_;refine yC (ι := {k : Nat // k <= L.length}) [0,9,10] [] 350 (fun x => [(3,.v (.int .i64 ((ctL L x.1).length : Nat))),(11,.v (.int .i64 x.1))]) (fun _ => []) (fun x => L.length - x.1) ⟨0,Ap _⟩ ?_;refine ⟨⟨yM,yH,rfl,rfl⟩,fun x => ?_⟩;have hk : x.1 <= L.length := x.2;have hf := tK0 L (x.1 + 1);have hn : ∀ h : x.1 < L.length,(ctL L (x.1 + 1)).length = (ctL L x.1).length + (L.getD ((x.1 : Nat) : Int).toNat []).length := fun h => by rw [zB0 h,Ag];rfl
 have hf0 := tK0 L x.1;refine zJ 400 ?_;refine zB (zW (fun c3 => ?_) (fun c3 => ?_))
 ·
  refine zM (zA (zB (zR (zJ 500 ?_))));refine zB (zE zL [] 600 rfl ?_);repeat (first | refine zH ?_ | refine zU (by first | (have h9 := hn c3;exact ini om om) | exact Ej) ?_)
  refine zC (zA (zJ 700 ?_));refine zW (fun c6 => ?_) (fun c6 => ?_)
  ·
   omega
  ·
   refine zM (zP (zA (yN zL [] 900 ?_)));exact zS (⟨x.1 + 1,by omega⟩) ⟨⟨u21 (by rw [zB0 c3,Ag];push_cast;rfl),u21 (by push_cast;rfl),yM⟩,yH,rfl,rfl⟩ (by show L.length - (x.1 + 1) < L.length - x.1;omega)
 ·
  refine yE (yA (yB (zX (zA ?_))));refine zB (zE zL [24] 1000 rfl ?_);refine zF ?_;refine mM _ _ _ (GrowV_ok _ (by have := tK0 L x.1;omega)) ?_;refine zF ?_;refine zC (zA (zB (zJ 1100 ?_)));refine zR ?_;refine yC (ι := {k : Nat // k <= L.length}) [25,26] [] 1150 (fun y => [(27,.v (.int .i64 y.1)),(6,.own 401 7 ((ctL L y.1).map vlD))]) (fun y => [(401,.row 29 7 ((ctL L y.1).map vlD).length)]) (fun y => L.length - y.1) ⟨0,Ap _⟩ ?_;refine ⟨⟨yM,yH,rfl,rfl⟩,fun y => ?_⟩;have hky : y.1 <= L.length := y.2;have hfy := tK0 L (y.1 + 1);have hfy0 := tK0 L y.1;have hny : ∀ h : y.1 < L.length,(ctL L (y.1 + 1)).length = (ctL L y.1).length + (L.getD ((y.1 : Nat) : Int).toNat []).length := fun h => by rw [zB0 h,Ag];rfl
  refine zJ 1200 ?_;refine zB (zW (fun c11 => ?_) (fun c11 => ?_))
  ·
   refine zM (zA (zB (zR (zJ 1300 ?_))));refine zE zL [] 1400 rfl ?_;repeat (first | refine zH ?_ | refine zU (by first | (have := hny c11;simp only [Bb];omega) | exact Ej) ?_)
   refine zC (zP (zA (yN zL [] 1500 ?_)));exact zS (⟨y.1 + 1,by omega⟩) ⟨⟨u21 (by push_cast;rfl),Sub.own (by rw [zB0 c11,Ae];rfl),yM⟩,⟨⟨rfl,rfl,by show _ = (List.map vlD (ctL L (y.1 + 1))).length;rw [zB0 c11];simp⟩,yH⟩,rfl,rfl⟩ (by show L.length - (y.1 + 1) < L.length - y.1;omega)
  ·
   refine yE (yA (yB (zX (zA (zJ 1600 ?_)))));refine zK ?_;have e : y.1 = L.length := by omega
   exact FinO.ret rfl rfl (by rw [e]) (by rw [e])
theorem pX (h : List Ob) (v : Vl) (s : ByteArray) (l : List Vl) (hh : HpIn h) (g : Uh h) (hv : v.k = 6 -> yY h v.r = true) (hl : l.length <= 1000000) : Fx 55 [hpD md h,.agg (vlD v),.v (.string s),vsD l] (stsD (attS h v s l)) := by
 refine yD zL Tryz.func55 rfl rfl rfl rfl rfl rfl ?_;intros;refine zJ 100 ?_;refine zB (zE zL [] 200 rfl ?_);refine zF ?_;refine zO _ (Special_ok _ _ _ ao ao ao) rfl ?_;refine zF ?_;refine zC (zA (zB (zJ 300 ?_)));refine zW (fun c2 => ?_) (fun c2 => ?_)
 ·
  refine zJ 400 ?_;refine zK (zN ?_);exact u4 rfl (u12 (by rw [attS,Aa (by simp [c2])]))
 ·
  refine zM (zA ?_);refine zB (zZ zL [26] [[],[],[],[1,2],[1,2,3],(rgN 5),(rgN 6),(rgN 7)] 500 yQ kr rfl ?_);refine zF ?_;refine mM _ _ _ ((yU0 [(spS h v s).2.1,l] (by have := qY1 h v s;rw [tJ0,Ag];omega) (by show 2 <= 1000;omega)).args ⟨u18 rfl,trivial⟩) ?_;refine zf (zA (zK ?_));rw [attS,Ab (by simpa using c2)];exact u4 rfl (SubP.slrRows ⟨by repeat (first | exact trivial | exact u6 _ | exact u12 rfl | exact SubP.ownSl (by rw [tJ0];rfl) | refine ⟨?_,?_⟩),trivial⟩)
theorem CallOf_ok (f : Vl) (l : List Vl) : Fx 186 [.agg (vlD f),vsD l] (.agg (stD (caS f l))) := by
 refine yD zL Tryz.func186 rfl rfl rfl rfl rfl rfl ?_;intros;refine zJ 100 ?_;refine zJ 200 ?_;refine zK ?_;exact u4 rfl (u20 nz)
theorem bZ (h : List Ob) (v : Vl) (s : ByteArray) (l : List Vl) (hh : HpIn h) (g : Uh h) (hv : v.k = 6 -> yY h v.r = true) (hl : l.length <= 1000000) : Fx 126 [hpD md h,.agg (vlD v),.v (.string s),vsD l] (.tup [.agg (stD (caS (spS h v s).1 ((spS h v s).2.1 ++ l))),.v (.bool (spS h v s).2.2)]) := by
 refine yD zL Tryz.func126 rfl rfl rfl rfl rfl rfl ?_;intros;refine zJ 100 ?_;refine zB (zE zL [] 200 rfl ?_);refine zF ?_;refine zO _ (Method_ok _ _ _ ao ao ao) rfl ?_;refine zf (zA ?_);refine zB (zZ zL [25] [[],[],[],[1,2],[1,2,3],(rgN 5),[],(rgN 6),(rgN 8)] 300 yQ kr rfl ?_);refine zF ?_;refine mM _ _ _ ((yU0 [(spS h v s).2.1,l] (by have := qY1 h v s;rw [tJ0,Ag];omega) (by show 2 <= 1000;omega)).args ⟨u18 rfl,trivial⟩) ?_;refine zF ?_;refine zO _ ((CallOf_ok _ ((spS h v s).2.1 ++ l)).args ⟨u6 _,SubP.ownSl (by simp [ctL]),trivial⟩) rfl ?_;refine zf (zA (zK ?_));exact u4 rfl (u6 _)
theorem attempts_ok (h : List Ob) (v : Vl) (s : ByteArray) (l : List Vl) (hh : HpIn h) (g : Uh h) (hv : v.k = 6 -> yY h v.r = true) (hl : l.length <= 1000000) : Fx 67 [hpD md h,.agg (vlD v),.v (.string s),vsD l] (stsD (attS h v s l)) := by
 refine yD zL Tryz.func67 rfl rfl rfl rfl rfl rfl ?_;intros;refine zJ 100 ?_;refine zB ?_;refine zB (zE zL [] 200 rfl ?_);refine zF ?_;refine zO _ (bZ _ _ _ _ ao ao ao ao) rfl ?_;refine zF ?_;refine zC (zA (zJ 300 ?_));refine zW (fun c2 => ?_) (fun c2 => ?_)
 ·
  refine zJ 400 ?_;refine zK (zN ?_);exact u4 rfl (u18 (by rw [attS,Ab (by simpa using c2)];rfl))
 ·
  refine zM (zA (zJ 500 ?_));refine zK ?_;exact u4 rfl (u12 (by rw [attS,Aa (by simp [c2])]))
variable {md me : Bool}
def rD (b : Bool) (n : Nat) : D := .agg [.v (.bool b),qX n]
theorem yD1 {a b : Nat} (h : 0 <= cmpN a b) : b <= a := by
 rcases Bs a b with h1 | h1
 ·rw [wF0 h1] at h;omega
 ·exact h1
theorem cmp_le {a b : Nat} (h : ¬ 0 <= cmpN a b) : a <= b := by
 rcases Bs b a with h1 | h1
 ·rw [yQ0 h1] at h;omega
 ·exact h1
theorem cmp_nge {a b : Nat} (h : ¬ 0 <= cmpN a b) : ¬ b <= a := fun h1 => by
 rcases Bs b a with h2 | h2
 ·rw [yQ0 h2] at h;omega
 ·rw [mM0 om] at h;omega
theorem dE (b : Bool) (l : List Nat) (hg : Lg l) (hl : l.length <= 100000000) : Fx 132 [.agg [.v (.bool b),usD l]] (rD b (VL l)) := by
 refine yD zL Tryz.func132 rfl rfl rfl rfl rfl rfl ?_;intros;refine zJ 100 ?_;refine zB (zZ zL [] [[],[0],[],[2],[2,3],(rgN 5),(rgN 6)] 200 yQ kr rfl ?_);refine zF ?_;refine zO _ (tZ0 _ ao ao) rfl ?_;refine zf (zA (zK ?_));exact u4 rfl (u6 _)
theorem zJ0 (b : Bool) (n : Nat) : Fx 129 [rD b n] (rD (!b && decide (0 < n)) n) := by
 refine yD zL Tryz.func129 rfl rfl rfl rfl rfl rfl ?_;intros;refine zJ 100 ?_;refine zJ 200 ?_;refine zK ?_;exact u4 rfl (u20 ⟨u7 (by rw [cY]),u6 _,trivial⟩)
theorem jL (b1 b2 : Bool) (n1 n2 : Nat) (h1 : (dig n1).length <= 100000000) (h2 : (dig n2).length <= 100000000) : Fx 128 [rD b1 n1,rD b2 n2] (rD (plB b1 n1 b2 n2).1 (plB b1 n1 b2 n2).2) := by
 refine yD zL Tryz.func128 rfl rfl rfl rfl rfl rfl ?_;intros;refine zJ 100 ?_;refine zB (zR (zJ 200 ?_));refine zW (fun c1 => ?_) (fun c1 => ?_)
 ·
  refine zB (zZ zL [] mK6 300 yQ kr rfl ?_);refine zF ?_;refine zO _ (jZ0 n1 n2 h1 h2) rfl ?_;refine zf (zA (zK (zQ (zN ?_))));exact u4 rfl (u9 (by rw [plB,Ab (by simpa using c1)];rfl))
 ·
  refine zB (zE zL [] 400 rfl ?_);refine zF ?_;refine zO _ (vJ _ _ ao ao) rfl ?_;refine zF ?_;refine zC (zA (zW (fun c3 => ?_) (fun c3 => ?_)))
  ·
   refine zB (zZ zL [] mK6 500 yQ kr rfl ?_);refine zF ?_;refine zO _ (xR n1 n2 (yD1 om) h1) rfl ?_;refine zf (zA (zK (zQ (zN ?_))));exact u4 rfl (u9 (by rw [plB,Aa (by simpa using c1),Ab (yD1 om)];rfl))
  ·
   refine zM (zP (zA ?_));refine zB (zZ zL [] mK6 600 yQ kr rfl ?_);refine zF ?_;refine zO _ (xR n2 n1 (cmp_le om) h2) rfl ?_;refine zf (zA (zK ?_));exact u4 rfl (u9 (by rw [plB,Aa (by simpa using c1),Aa (cmp_nge om)];rfl))
theorem I7_ok (v : Vl) (hg : Lg v.nl) (hl : v.nl.length <= 100000000) : Fx 73 [.agg (vlD v)] (rD v.nn (VL v.nl)) := by
 refine yD zL Tryz.func73 rfl rfl rfl rfl rfl rfl ?_;intros;refine zJ 100 ?_;refine zB (zE zL [] 200 rfl ?_);refine zF ?_;refine zO _ (dE _ _ ao ao) rfl ?_;refine zf (zA (zK ?_));exact u4 rfl (u6 _)
variable {md me : Bool}
theorem gK (v : Vl) : Fx 57 [.agg (vlD v)] (.agg (stD (vlS v))) := by
 refine yD zL Tryz.func57 rfl rfl rfl rfl rfl rfl ?_;intros;refine zJ 100 ?_;refine zJ 200 ?_;refine zK ?_;exact u4 rfl (u20 nz)
theorem gM (c : Int) (s : ByteArray) : Fx 51 [.v (.int .i64 c),.v (.string s)] (.agg (stD (raS c s))) := by
 refine yD zL Tryz.func51 rfl rfl rfl rfl rfl rfl ?_;intros;refine zJ 100 ?_;refine zJ 200 ?_;refine zK ?_;exact u4 rfl (u20 nz)
theorem wY (h : List Ob) (v : Vl) (hv : v.k = 6 -> yY h v.r = true) : Fx 56 [hpD md h,.agg (vlD v)] (.agg (obD (zY h v))) := by
 refine yD zL Tryz.func56 rfl rfl rfl rfl rfl rfl ?_;intros;refine zJ 100 ?_;refine zB (zJ 200 ?_);refine zW (fun c1 => ?_) (fun c1 => ?_)
 ·
  refine zJ 300 ?_;refine zK (zN ?_);have e : zY h v = ob0 := qP0 c1;rw [e];exact u4 rfl (by repeat (first | exact trivial | exact u6 _ | exact u12 rfl | refine u20 ?_ | refine ⟨?_,?_⟩))
 ·
  refine zM (zA ?_);refine zB (zE zL [] 400 rfl ?_);repeat (first | refine zH ?_ | refine zU (by exact yV (hv c1)) ?_)
  refine zC (zA (zK ?_));have e : zY h v = h.getD v.r.toNat ob0 := qR0 hv c1;rw [e];exact u4 rfl (by repeat (first | exact trivial | exact u6 _ | exact u12 rfl | refine u20 ?_ | refine ⟨?_,?_⟩))
end Go.Proofs.YtinegkcbkefeiaaGreatDoor
