/- Part 20 of the proof. -/
import Derived.Test.YtbhndnphimmjjaaGreatDoorM19
import Derived.Test.YtbhndnphimmjjaaGreatDoorM12
import Derived.Test.YtbhndnphimmjjaaGreatDoorM13
import Derived.Test.YtbhndnphimmjjaaGreatDoorProg
import Derived.Ground.NamesProg
import Derived.Shelf.Spec.SlicesGrow
import Derived.Shelf.Strconv.Itoa3
import Derived.Shelf.Strconv.Quote
import Derived.Test.YtbhndnphimmjjaaGreatDoorM16
import Derived.Test.YtbhndnphimmjjaaGreatDoorM15
namespace Go.Proofs.YtbhndnphimmjjaaGreatDoor
open Go.RowKit
variable {md me : Bool}
def kcL : List Int := [2,3,4,5,6,7,0,15,27,2]
def ocL : List Int := [0,8,9,10,11,12,13,14,16,1,0,17,18,19,20,21,22,23,24,25,26]
def ocS (o : Ob) : Int := if o.kind = 10 then o.cls else ocL.getD o.kind.toNat 0
def clA (h : List Ob) (v : Vl) : Int := if v.k = 6 then ocS (yG h v.r) else kcL.getD v.k.toNat 0
theorem voks_k {v : Vl} (h : jD v = true) : 0 ≤ v.k ∧ v.k < 9 := by
 unfold jD at h;repeat' split at h
 all_goals first | omega | cases h
structure Cf (h : List Ob) (v : Vl) : Prop where
 k : 0 ≤ v.k ∧ v.k < 9
 obj : v.k = 6 → qC h v.r = true
 kind : v.k = 6 → 0 < (yG h v.r).kind ∧ (yG h v.r).kind < 21
 cls : v.k = 6 → (yG h v.r).kind = 10 → inH h (yG h v.r).cls
theorem Uh.kind {h : List Ob} (g : Uh h) {n : Int} (hn : qC h n = true) : 0 < (yG h n).kind ∧ (yG h n).kind < 21 := by
 have hi := yZ hn;by_cases h49 : n.toNat < 49
 ·rw [show yG h n = bgO n.toNat from g.lo_at h49];exact ⟨by show (0 : Int) < 9;decide,by show (9 : Int) < 21;decide⟩
 ·have h1 := (g.hi_at (by omega) hi.2).kind;have h2 : ¬ (yG h n).kind = 0 := by
   intro h0;simp only [qC,Bool.and_eq_true] at hn;have := hn.2;rw [show (h.getD n.toNat ob0).kind = 0 from h0] at this;exact absurd this (by decide)
  exact ⟨by have := h1.1;show 0 < (yG h n).kind;have h3 : (yG h ((n.toNat : Nat) : Int)).kind = (yG h n).kind := rfl;omega,h1.2⟩
theorem gU0 {h : List Ob} {v : Vl} (g : Uh h) (hh : hasS h v = true) : Cf h v := by
 have hv : jD v = true := by
  simp only [hasS,Bool.and_eq_true] at hh;exact hh.1
 exact ⟨voks_k hv,xD hh,fun hk => g.kind (xD hh hk),fun hk => g.cls (yZ (xD hh hk))⟩
theorem oc_ge {k : Int} (h : 15 ≤ k) (h2 : k < 21) : ocL.getD k.toNat 0 = 21 + k - 15 := by
 obtain ⟨n,rfl⟩ : ∃ n : Nat,k = (n : Int) := ⟨k.toNat,by omega⟩;have := List.all_eq_true.1 (show (List.range 21).all (fun n => decide (n < 15 ∨ ocL.getD n 0 = 21 + (n : Int) - 15)) = true by decide +kernel) n (List.mem_range.2 (by omega));have := (of_decide_eq_true this).resolve_left (by omega);exact this
theorem oc_lt {k : Int} (h : 1 ≤ k) (h2 : k < 8) : ocL.getD k.toNat 0 = 8 + k - 1 := by
 obtain ⟨n,rfl⟩ : ∃ n : Nat,k = (n : Int) := ⟨k.toNat,by omega⟩;have := List.all_eq_true.1 (show (List.range 8).all (fun n => decide (n < 1 ∨ ocL.getD n 0 = 8 + (n : Int) - 1)) = true by decide +kernel) n (List.mem_range.2 (by omega));have := (of_decide_eq_true this).resolve_left (by omega);exact this
theorem ocS_in {h : List Ob} {o : Ob} (g : Uh h) (hk : 0 < o.kind ∧ o.kind < 21) (hc : o.kind = 10 → inH h o.cls) : inH h (ocS o) := by
 unfold ocS;split
 ·rename_i h1;exact hc h1
 ·have h3 := List.all_eq_true.1 (show (List.range 21).all (fun n => decide (0 ≤ ocL.getD n 0 ∧ ocL.getD n 0 < 49)) = true by decide +kernel) o.kind.toNat (List.mem_range.2 (by omega));have h4 := of_decide_eq_true h3;have := g.lo;exact ⟨h4.1,by omega⟩
theorem wO {h : List Ob} {v : Vl} (g : Uh h) (c : Cf h v) : inH h (clA h v) := by
 unfold clA;split
 ·rename_i h1;exact ocS_in g (c.kind h1) (c.cls h1)
 ·have h3 := List.all_eq_true.1 (show (List.range 9).all (fun n => decide (0 ≤ kcL.getD n 0 ∧ kcL.getD n 0 < 49)) = true by decide +kernel) v.k.toNat (List.mem_range.2 (by have := c.k;omega));have h4 := of_decide_eq_true h3;have := g.lo;exact ⟨h4.1,by omega⟩
theorem kindClasses_ok  : Fn Tryz.prog 127 [] (isD kcL) := by
 refine yL zN Tryz.func127 rfl rfl rfl rfl rfl rfl ?_;intro w0 s0 mx;refine zJ 100 ?_;refine zJ 200 ?_;refine zM ?_;exact FinV.ret rfl (SubP.slrSl rfl)
theorem objectClasses_ok  : Fn Tryz.prog 128 [] (isD ocL) := by
 refine yL zN Tryz.func128 rfl rfl rfl rfl rfl rfl ?_;intro w0 s0 mx;refine zJ 100 ?_;refine zJ 200 ?_;refine zM ?_;exact FinV.ret rfl (SubP.slrSl rfl)
theorem heapClassOf_ok (h : List Ob) (v : Vl) (c : Cf h v) : Fn Tryz.prog 91 [hpD md h,.agg (vlD v)] (.v (.int .i64 (clA h v))) := by
 refine yL zN Tryz.func91 rfl rfl rfl rfl rfl rfl ?_;intro w0 s0 mx;refine zJ 100 ?_;refine zB (zJ 200 ?_);refine zS rfl (fun c1 => ?_) (fun c1 => ?_)
 ·replace c1 : ¬ v.k = 6 := by have h1 := c1;simp only [Bool.not_eq_true',decide_eq_false_iff_not] at h1;exact h1
  refine zB (zW zN [] [[],[],[1],[0,1,2],[0,1,2,3],(rgN 5)] 300 yQ (by kernel_rfl) rfl ?_);repeat (first | refine zF ?_ | refine zG ?_ | refine zT (by exact ⟨c.k.1,by show v.k.toNat < 10;have := c.k;omega⟩) ?_)
  refine zV _ (kindClasses_ok) rfl ?_;repeat (first | refine zF ?_ | refine zG ?_ | refine zT (by exact ⟨c.k.1,by show v.k.toNat < 10;have := c.k;omega⟩) ?_)
  refine zC (zA (zM (zL ?_)));exact FinV.ret rfl (SubP.int (by rw [clA,if_neg c1]))
 ·replace c1 : v.k = 6 := by have h1 := c1;simp only [Bool.not_eq_false',decide_eq_true_eq] at h1;exact h1
  refine zK (zA ?_);refine zB (zE zN [] 400 rfl ?_);repeat (first | refine zF ?_ | refine zG ?_ | refine zT (by exact yZ (c.obj c1)) ?_)
  refine zC (zA (zB (zJ 500 ?_)));refine zS rfl (fun c4 => ?_) (fun c4 => ?_)
  ·first | replace c4 := of_decide_eq_true c4 | replace c4 := of_decide_eq_false c4
   refine zJ 600 ?_;refine zM (zL ?_);exact FinV.ret rfl (SubP.int (by rw [clA,if_pos c1,ocS,if_pos c4]))
  ·first | replace c4 := of_decide_eq_true c4 | replace c4 := of_decide_eq_false c4
   refine zK (zA ?_);refine zB (zW zN [] [[],[],[1],[0,1,2],[0,1,2,3],(rgN 5)] 700 yQ (by kernel_rfl) rfl ?_);repeat (first | refine zF ?_ | refine zG ?_ | refine zT (by exact ⟨Int.le_of_lt (c.kind c1).1,by show (yG h v.r).kind.toNat < 21;have h1 : 0 < (yG h v.r).kind ∧ (yG h v.r).kind < 21 := c.kind c1;omega⟩) ?_)
   refine zV _ (objectClasses_ok) rfl ?_;repeat (first | refine zF ?_ | refine zG ?_ | refine zT (by exact ⟨Int.le_of_lt (c.kind c1).1,by show (yG h v.r).kind.toNat < 21;have h1 : 0 < (yG h v.r).kind ∧ (yG h v.r).kind < 21 := c.kind c1;omega⟩) ?_)
   refine zC (zA (zM ?_));exact FinV.ret rfl (SubP.int (by rw [clA,if_pos c1,ocS,if_neg c4]))
theorem wD {P : Program} {K : DS → Prop} {p : Prop} {r : Out} (hr : r.sat P K) (hp : p := by first | exact ini (by omega) (by omega) | omega) : (Out.need p r).sat P K := ⟨hp,hr⟩
theorem classOfObject_ok (o : Ob) (hk : 0 < o.kind ∧ o.kind < 21) : Fn Tryz.prog 103 [.agg (obD o)] (.v (.int .i64 (ocS o))) := by
 refine yL zN Tryz.func103 rfl rfl rfl rfl rfl rfl ?_;intro w0 s0 mx;refine zB (zE zN [] 100 rfl ?_);repeat (first | refine zF ?_ | refine zG ?_ | refine wD ?_)
 refine zC (zA (zB ?_));refine zB (zE zN [] 200 rfl ?_);repeat (first | refine zF ?_ | refine zG ?_ | refine wD ?_)
 refine zC (zA (zQ ?_));refine zB (zE zN [] 300 rfl ?_);repeat (first | refine zF ?_ | refine zG ?_ | refine wD ?_)
 refine zC (zA (zS rfl (fun c2 => ?_) (fun c2 => ?_)))
 ·first | replace c2 := of_decide_eq_true c2 | replace c2 := of_decide_eq_false c2
  refine zB (zE zN [] 400 rfl ?_);repeat (first | refine zF ?_ | refine zG ?_ | refine wD ?_)
  refine zC (zA (zM (zP (zL ?_))));exact FinV.ret rfl (SubP.int (by rw [ocS,if_pos c2]))
 ·first | replace c2 := of_decide_eq_true c2 | replace c2 := of_decide_eq_false c2
  refine zB (zE zN [] 500 rfl ?_);repeat (first | refine zF ?_ | refine zG ?_ | refine wD ?_)
  refine zC (zA (zS rfl (fun c4 => ?_) (fun c4 => ?_)))
  ·first | replace c4 := of_decide_eq_true c4 | replace c4 := of_decide_eq_false c4
   refine zB (zE zN [] 600 rfl ?_);repeat (first | refine zF ?_ | refine zG ?_ | refine wD ?_)
   refine zC (zA (zM (zP (zL ?_))));exact FinV.ret rfl (SubP.int (by rw [ocS,if_neg c2,c4];rfl))
  ·first | replace c4 := of_decide_eq_true c4 | replace c4 := of_decide_eq_false c4
   refine zB (zE zN [] 700 rfl ?_);repeat (first | refine zF ?_ | refine zG ?_ | refine wD ?_)
   refine zC (zA (zS rfl (fun c6 => ?_) (fun c6 => ?_)))
   ·first | replace c6 := of_decide_eq_true c6 | replace c6 := of_decide_eq_false c6
    refine zB (zE zN [] 800 rfl ?_);repeat (first | refine zF ?_ | refine zG ?_ | refine wD ?_)
    refine zC (zA (zM (zP (zL ?_))));exact FinV.ret rfl (SubP.int (by rw [ocS,if_neg c2,c6];rfl))
   ·first | replace c6 := of_decide_eq_true c6 | replace c6 := of_decide_eq_false c6
    refine zB (zE zN [] 900 rfl ?_);repeat (first | refine zF ?_ | refine zG ?_ | refine wD ?_)
    refine zC (zA (zS rfl (fun c8 => ?_) (fun c8 => ?_)))
    ·first | replace c8 := of_decide_eq_true c8 | replace c8 := of_decide_eq_false c8
     refine zB (zE zN [] 1000 rfl ?_);repeat (first | refine zF ?_ | refine zG ?_ | refine wD ?_)
     refine zC (zA (zM (zP (zL ?_))));exact FinV.ret rfl (SubP.int (by rw [ocS,if_neg c2,c8];rfl))
    ·first | replace c8 := of_decide_eq_true c8 | replace c8 := of_decide_eq_false c8
     refine zB (zE zN [] 1100 rfl ?_);repeat (first | refine zF ?_ | refine zG ?_ | refine wD ?_)
     refine zC (zA (zS rfl (fun c10 => ?_) (fun c10 => ?_)))
     ·first | replace c10 := of_decide_eq_true c10 | replace c10 := of_decide_eq_false c10
      refine zB (zE zN [] 1200 rfl ?_);repeat (first | refine zF ?_ | refine zG ?_ | refine wD ?_)
      refine zC (zA (zM (zP (zL ?_))));exact FinV.ret rfl (SubP.int (by rw [ocS,if_neg c2,c10];rfl))
     ·first | replace c10 := of_decide_eq_true c10 | replace c10 := of_decide_eq_false c10
      refine zB (zE zN [] 1300 rfl ?_);repeat (first | refine zF ?_ | refine zG ?_ | refine wD ?_)
      refine zC (zA (zS rfl (fun c12 => ?_) (fun c12 => ?_)))
      ·first | replace c12 := of_decide_eq_true c12 | replace c12 := of_decide_eq_false c12
       refine zB (zE zN [] 1400 rfl ?_);repeat (first | refine zF ?_ | refine zG ?_ | refine wD ?_)
       refine zC (zA (zM (zP (zL ?_))));exact FinV.ret rfl (SubP.int (by rw [ocS,if_neg c2,c12];rfl))
      ·first | replace c12 := of_decide_eq_true c12 | replace c12 := of_decide_eq_false c12
       refine zB (zE zN [] 1500 rfl ?_);repeat (first | refine zF ?_ | refine zG ?_ | refine wD ?_)
       refine zC (zA (zS rfl (fun c14 => ?_) (fun c14 => ?_)))
       ·first | replace c14 := of_decide_eq_true c14 | replace c14 := of_decide_eq_false c14
        refine zB (zE zN [] 1600 rfl ?_);repeat (first | refine zF ?_ | refine zG ?_ | refine wD ?_)
        refine zC (zA (zM (zP (zL ?_))));exact FinV.ret rfl (SubP.int (by rw [ocS,if_neg c2,c14];rfl))
       ·first | replace c14 := of_decide_eq_true c14 | replace c14 := of_decide_eq_false c14
        refine zK (zO (zA (zB ?_)));refine zB (zE zN [] 1700 rfl ?_);repeat (first | refine zF ?_ | refine zG ?_ | refine wD ?_)
        refine zC (zA (zS rfl (fun c16 => ?_) (fun c16 => ?_)))
        ·first | replace c16 := of_decide_eq_true c16 | replace c16 := of_decide_eq_false c16
         refine zB (zE zN [] 1800 rfl ?_);repeat (first | refine zF ?_ | refine zG ?_ | refine wD ?_)
         refine zC (zA (zM (zL ?_)));exact FinV.ret rfl (SubP.int (by rw [ocS,if_neg c2,oc_ge (by omega) hk.2]))
        ·first | replace c16 := of_decide_eq_true c16 | replace c16 := of_decide_eq_false c16
         refine zK (zA ?_);refine zB (zE zN [] 1900 rfl ?_);repeat (first | refine zF ?_ | refine zG ?_ | refine wD ?_)
         refine zC (zA (zM ?_));exact FinV.ret rfl (SubP.int (by rw [ocS,if_neg c2,oc_lt (by omega) (by omega)]))
theorem ClassOf_ok (h : List Ob) (v : Vl) (c : Cf h v) : Fn Tryz.prog 68 [hpD md h,.agg (vlD v)] (.v (.int .i64 (clA h v))) := by
 refine yL zN Tryz.func68 rfl rfl rfl rfl rfl rfl ?_;intro w0 s0 mx;refine zJ 100 ?_;refine zB (zJ 200 ?_);refine zQ (zJ 300 ?_);refine zS rfl (fun c2 => ?_) (fun c2 => ?_)
 ·first | replace c2 := of_decide_eq_true c2 | replace c2 := of_decide_eq_false c2
  refine zJ 400 ?_;refine zM (zP (zL ?_));exact FinV.ret rfl (SubP.int (by rw [clA,if_neg (by omega),c2];rfl))
 ·first | replace c2 := of_decide_eq_true c2 | replace c2 := of_decide_eq_false c2
  refine zJ 500 ?_;refine zS rfl (fun c4 => ?_) (fun c4 => ?_)
  ·first | replace c4 := of_decide_eq_true c4 | replace c4 := of_decide_eq_false c4
   refine zJ 600 ?_;refine zM (zP (zL ?_));exact FinV.ret rfl (SubP.int (by rw [clA,if_neg (by omega),c4];rfl))
  ·first | replace c4 := of_decide_eq_true c4 | replace c4 := of_decide_eq_false c4
   refine zJ 700 ?_;refine zS rfl (fun c6 => ?_) (fun c6 => ?_)
   ·first | replace c6 := of_decide_eq_true c6 | replace c6 := of_decide_eq_false c6
    refine zJ 800 ?_;refine zM (zP (zL ?_));exact FinV.ret rfl (SubP.int (by rw [clA,if_neg (by omega),c6];rfl))
   ·first | replace c6 := of_decide_eq_true c6 | replace c6 := of_decide_eq_false c6
    refine zJ 900 ?_;refine zS rfl (fun c8 => ?_) (fun c8 => ?_)
    ·first | replace c8 := of_decide_eq_true c8 | replace c8 := of_decide_eq_false c8
     refine zJ 1000 ?_;refine zM (zP (zL ?_));exact FinV.ret rfl (SubP.int (by rw [clA,if_neg (by omega),c8];rfl))
    ·first | replace c8 := of_decide_eq_true c8 | replace c8 := of_decide_eq_false c8
     refine zJ 1100 ?_;refine zS rfl (fun c10 => ?_) (fun c10 => ?_)
     ·first | replace c10 := of_decide_eq_true c10 | replace c10 := of_decide_eq_false c10
      refine zJ 1200 ?_;refine zM (zP (zL ?_));exact FinV.ret rfl (SubP.int (by rw [clA,if_neg (by omega),c10];rfl))
     ·first | replace c10 := of_decide_eq_true c10 | replace c10 := of_decide_eq_false c10
      refine zJ 1300 ?_;refine zS rfl (fun c12 => ?_) (fun c12 => ?_)
      ·first | replace c12 := of_decide_eq_true c12 | replace c12 := of_decide_eq_false c12
       refine zJ 1400 ?_;refine zM (zP (zL ?_));exact FinV.ret rfl (SubP.int (by rw [clA,if_neg (by omega),c12];rfl))
      ·first | replace c12 := of_decide_eq_true c12 | replace c12 := of_decide_eq_false c12
       refine zJ 1500 ?_;refine zS rfl (fun c14 => ?_) (fun c14 => ?_)
       ·first | replace c14 := of_decide_eq_true c14 | replace c14 := of_decide_eq_false c14
        refine zJ 1600 ?_;refine zM (zP (zL ?_));exact FinV.ret rfl (SubP.int (by rw [clA,if_neg (by omega),c14];rfl))
       ·first | replace c14 := of_decide_eq_true c14 | replace c14 := of_decide_eq_false c14
        refine zJ 1700 ?_;refine zS rfl (fun c16 => ?_) (fun c16 => ?_)
        ·first | replace c16 := of_decide_eq_true c16 | replace c16 := of_decide_eq_false c16
         refine zB (zE zN [] 1800 rfl ?_);repeat (first | refine zF ?_ | refine zG ?_ | refine zT (by exact yZ (c.obj c16)) ?_)
         refine zV _ (classOfObject_ok _ (c.kind c16)) rfl ?_;repeat (first | refine zF ?_ | refine zG ?_ | refine zT (by exact yZ (c.obj c16)) ?_)
         refine zC (zA (zM (zP (zL ?_))));exact FinV.ret rfl (SubP.int (by rw [clA,if_pos c16]))
        ·first | replace c16 := of_decide_eq_true c16 | replace c16 := of_decide_eq_false c16
         refine zK (zO (zA (zJ 1900 ?_)));refine zM ?_;exact FinV.ret rfl (SubP.int (by rw [clA,if_neg c16,show v.k = 0 by have := c.k;omega];rfl))
theorem gN (h : List Ob) (v : Vl) (g : Uh h) (c : Cf h v) : Fn Tryz.prog 38 [hpD md h,.agg (vlD v)] (.v (.string (yG h (clA h v)).name)) := by
 refine yL zN Tryz.func38 rfl rfl rfl rfl rfl rfl ?_;intro w0 s0 mx;refine zJ 100 ?_;refine zB (zW zN [] mK10 200 yQ (by kernel_rfl) rfl ?_);repeat (first | refine zF ?_ | refine zG ?_ | refine zT (by exact wO g c) ?_)
 refine zV _ (heapClassOf_ok h v c) rfl ?_;repeat (first | refine zF ?_ | refine zG ?_ | refine zT (by exact wO g c) ?_)
 refine zC (zA (zM ?_));exact FinV.ret rfl (SubP.refl _)
theorem xN (h : List Ob) (v : Vl) (g : Uh h) (c : Cf h v) : Fn Tryz.prog 52 [hpD md h,.agg (vlD v)] (.v (.string (yG h (clA h v)).name)) := by
 refine yL zN Tryz.func52 rfl rfl rfl rfl rfl rfl ?_;intro w0 s0 mx;refine zJ 100 ?_;refine zB (zW zN [] mK10 200 yQ (by kernel_rfl) rfl ?_);repeat (first | refine zF ?_ | refine zG ?_ | refine zT (by exact wO g c) ?_)
 refine zV _ (ClassOf_ok h v c) rfl ?_;repeat (first | refine zF ?_ | refine zG ?_ | refine zT (by exact wO g c) ?_)
 refine zC (zA (zM ?_));exact FinV.ret rfl (SubP.refl _)
variable {md me : Bool}
variable {md me : Bool}
theorem bAt_lt (s : ByteArray) (i : Nat) : bAt s i < 256 := by
 unfold bAt;split
 ·exact UInt8.toNat_lt _
 ·decide
variable {md me : Bool}
def nuV (n : Int) : Vl := ⟨2,decide (n < 0),lim n.natAbs,false,[],ByteArray.empty,0⟩
variable {md me : Bool}
def nD (n : Nat) : List D := [.v (.int .i64 n)]
def natD (n : Nat) : D := .sl false 1 (dig n) nD 0
structure Trm (l : List Nat) where
 r : List Nat
 dg : Dg r
 eq : V r = V l
 le : r.length ≤ l.length
theorem last_take {r : List Nat} (h : 0 < r.length) (h0 : r.getD (r.length - 1) 0 = 0) : V (r.take (r.length - 1)) = V r := by
 have h1 := uA r (r.length - 1);rw [h0,show r.length - 1 + 1 = r.length by omega,List.take_of_length_le (Nat.le_refl _)] at h1;omega
def Trm.next {l : List Nat} (x : Trm l) (h : 0 < x.r.length) (h0 : x.r.getD (x.r.length - 1) 0 = 0) : Trm l := ⟨x.r.take (x.r.length - 1),x.dg.take _,by rw [last_take h h0,x.eq],by have := x.le;simp;omega⟩
theorem Trm.fin {l : List Nat} (x : Trm l) (h : 0 < x.r.length → x.r.getD (x.r.length - 1) 0 ≠ 0) : x.r = dig (V l) := by
 rw [← x.eq];refine (zL1 x.dg fun hne => ?_).symm;have hp : 0 < x.r.length := List.length_pos_iff.2 hne;rw [List.getLast_eq_getElem,← xG (by omega)];exact h hp
structure Bn (l : List Bool) where
 j : Nat
 o : List Nat
 eq : V o = VB (l.take (16 * j))
 lo : o.length = j
 dg : Dg o
 le : 16 * j ≤ l.length + 15
def Bn.next {l : List Bool} (x : Bn l) (h : 16 * x.j < l.length) : Bn l := ⟨x.j + 1,x.o ++ [wT l (16 * x.j) 0],binary_step x.eq x.lo h,by simp [x.lo],x.dg.snoc (xR0 _ _ _),by omega⟩
theorem t_cut {α : Type} (r : List α) : List.take (((r.length : Int) - 1).toNat - Int.toNat 0) (List.drop (Int.toNat 0) r) = r.take (r.length - 1) := by
 show List.take _ r = _;congr 1;simp
theorem bE0 (r : List Nat) : r.getD ((r.length : Int) - 1).toNat 0 = r.getD (r.length - 1) 0 := by congr 1;omega
theorem xS0 {l : List Bool} {i k : Nat} (hk : k < 16) : wT l i k = wT l i (k + 1) * 2 + (if decide (i + k < l.length) && l.getD (i + k) false then 1 else 0) := by
 rw [chunk_step hk,Nat.mul_comm];by_cases h : i + k < l.length
 ·rw [dif_pos h,decide_eq_true h,Bool.true_and,List.getD_eq_getElem?_getD,List.getElem?_eq_getElem h];cases l[i + k] <;> rfl
 ·rw [dif_neg h,decide_eq_false h];rfl
def jK0 (l : List Bool) (i k : Nat) : Bool := decide (i + k < l.length) && l.getD (i + k) false
theorem chunk_one {l : List Bool} {i k : Nat} (hk : k < 16) (h : jK0 l i k = true) : wT l i k = wT l i (k + 1) * 2 + 1 := by rw [xS0 hk];unfold jK0 at h;rw [h];rfl
theorem chunk_nil {l : List Bool} {i k : Nat} (hk : k < 16) (h : jK0 l i k = false) : wT l i k = wT l i (k + 1) * 2 := by rw [xS0 hk];unfold jK0 at h;rw [h];rfl
structure Bj where
 k : Nat
 le : k ≤ 16
theorem bit_T {l : List Bool} {I k : Nat} (hk : 1 ≤ k) (h : (I : Int) + ((k : Int) - 1) < l.length ∧ l.getD ((I : Int) + ((k : Int) - 1)).toNat false = true) : jK0 l I (k - 1) = true := by
 unfold jK0;rw [show ((I : Int) + ((k : Int) - 1)).toNat = I + (k - 1) by omega] at h;rw [h.2,decide_eq_true (by omega)];rfl
theorem bit_F {l : List Bool} {I k : Nat} (hk : 1 ≤ k) (h : (decide ((I : Int) + ((k : Int) - 1) < l.length) && l.getD ((I : Int) + ((k : Int) - 1)).toNat false) = false) : jK0 l I (k - 1) = false := by
 unfold jK0;rw [show ((I : Int) + ((k : Int) - 1)).toNat = I + (k - 1) by omega] at h;rw [show decide (I + (k - 1) < l.length) = decide ((I : Int) + ((k : Int) - 1) < l.length) from decide_eq_decide.2 (by omega)];exact h
theorem Bn.all {l : List Bool} (x : Bn l) (h : l.length ≤ 16 * x.j) : V x.o = VB l := by rw [x.eq,List.take_of_length_le h]
structure Nb (n : Int) where
 m : Int
 o : List Bool
 eq : VB o + m.natAbs * 2 ^ o.length = n.natAbs
 lo : -9223372036854775808 ≤ m
 hi : m ≤ 9223372036854775807
 ln : o.length ≤ 64
theorem nb_bit (m : Int) : (!decide (Int.tmod m 2 = 0)) = (m.natAbs % 2 == 1) := by
 have : (Int.tmod m 2).natAbs = m.natAbs % 2 := by
  rw [Int.natAbs_tmod];rfl
 rw [Bool.eq_iff_iff,Bool.not_eq_true',decide_eq_false_iff_not,beq_iff_eq,← this];have h : (Int.tmod m 2).natAbs < 2 := by rw [this];omega
 omega
theorem dV (m : Int) : (Int.tdiv m 2).natAbs = m.natAbs / 2 := by rw [Int.natAbs_tdiv];rfl
def Nb.next {n : Int} (x : Nb n) (h : x.o.length ≤ 63) : Nb n := ⟨Int.tdiv x.m 2,x.o ++ [!decide (Int.tmod x.m 2 = 0)],by
 rw [nb_bit,dV,List.length_append,List.length_singleton];exact ones_step x.eq rfl,by have := dV x.m;have := x.lo;have := x.hi;omega,by have := dV x.m;have := x.lo;have := x.hi;omega,by simp;omega⟩
theorem Nb.len {n : Int} (x : Nb n) (h : ¬ x.m = 0) (h1 : -9223372036854775808 ≤ n) (h2 : n ≤ 9223372036854775807) : x.o.length ≤ 63 := by
 rcases Nat.lt_or_ge 63 x.o.length with h3 | h3
 ·have h4 : 2 ^ 64 ≤ 2 ^ x.o.length := Nat.pow_le_pow_right (by omega) h3;have h5 : 1 * 2 ^ x.o.length ≤ x.m.natAbs * 2 ^ x.o.length := Nat.mul_le_mul_right _ (by omega);have h6 := x.eq;omega
 ·exact h3
theorem Nb.fin {n : Int} (x : Nb n) (h : x.m = 0) : VB x.o = n.natAbs := by rw [← x.eq,h];simp
structure Lb (n : Nat) where
 j : Nat
 o : List Nat
 eq : VL o = V ((dig n).take (2 * j))
 lo : o.length = j
 lg : Lg o
 le : 2 * j < (dig n).length + 2
theorem tW (n i : Nat) : (dig n).getD i 0 < 65536 := by
 rcases Nat.lt_or_ge i (dig n).length with h | h
 ·rw [xG h];exact (xK n).at h
 ·rw [gO h];omega
def lbD (n j : Nat) : Nat := (dig n).getD (2 * j) 0 + (dig n).getD (2 * j + 1) 0 * 65536
theorem lb_T (n j : Nat) : IntKind.u32.wrap (IntKind.u32.wrap (((dig n).getD (2 * j) 0 : Nat) : Int) + IntKind.u32.wrap (IntKind.u32.wrap (((dig n).getD (2 * j + 1) 0 : Nat) : Int) * 65536)) = ((lbD n j : Nat) : Int) := by
 have h1 := tW n (2 * j);have h2 := tW n (2 * j + 1);unfold lbD;simp only [IntKind.wrap,IntKind.signed,IntKind.bits,Bool.false_and,Bool.false_eq_true,if_false];omega
theorem lb_F (n j : Nat) (h : (dig n).length ≤ 2 * j + 1) : IntKind.u32.wrap (((dig n).getD (2 * j) 0 : Nat) : Int) = ((lbD n j : Nat) : Int) := by
 have h1 := tW n (2 * j);unfold lbD;rw [gO h];simp only [IntKind.wrap,IntKind.signed,IntKind.bits,Bool.false_and,Bool.false_eq_true,if_false];omega
def Lb.next {n : Nat} (x : Lb n) (h : 2 * x.j < (dig n).length) : Lb n := ⟨x.j + 1,x.o ++ [lbD n x.j],limbs_step x.eq x.lo,by simp [x.lo],x.lg.snoc (by have h1 := tW n (2 * x.j);have h2 := tW n (2 * x.j + 1);unfold lbD;omega),by omega⟩
theorem Lb.fin {n : Nat} (x : Lb n) (h : (dig n).length ≤ 2 * x.j) : x.o = lim n := limbs_end (by rw [x.lo];exact x.eq) (by rw [x.lo];exact h) (by rw [x.lo];exact x.le) x.lg
theorem uB0 (l : List Nat) (hd : Dg l) (hl : l.length ≤ 1000000000) : Fn Tryz.prog 170 [.sl false 1 l nD 0] (natD (V l)) := by
 refine yL zN Tryz.func170 rfl rfl rfl rfl rfl rfl ?_;intro w0 s0 mx;refine zJ 100 ?_;refine zB (zQ ?_);refine yB (ι := Trm l) [] [] 150 (fun x => [(0,.sl false 1 x.r nD 0)]) (fun _ => []) (fun x => x.r.length) ⟨l,hd,rfl,Nat.le_refl _⟩ ?_;refine ⟨⟨yI,yF,rfl,rfl⟩,fun x => ?_⟩;have hk := x.le;refine zB (zJ 200 ?_);refine yD (fun c1 => ?_) (fun c1 => ?_)
 ·
  refine zK (zA (zQ (yS zN [] 300 ?_)));refine zO ?_;exact zU (x.next (by omega) (by have := c1.2;rw [bE0] at this;omega)) ⟨(by first | exact trivial | (repeat (first | exact trivial | exact Sub.refl _ | refine ⟨?_,?_⟩ | exact Sub.int (by first | rfl | omega | (push_cast;omega)) | exact Sub.nilSl | exact Sub.own rfl | exact Sub.slrSl rfl | exact Sub.ownSl (List.map_append).symm | exact Sub.ownSl rfl | exact Sub.of_eq (by show D.sl false 1 _ nD 0 = _;rw [t_cut];rfl)))),yF,rfl,rfl⟩ (by show (x.r.take (x.r.length - 1)).length < x.r.length;rw [List.length_take];omega)
 ·
  refine yE (zZ (yA (zX (zA (zJ 400 ?_)))));refine zM ?_;exact FinV.ret rfl (SubP.of_eq (by show _ = D.sl false 1 _ nD 0;rw [← x.fin fun h e => by rw [bE0,e,decide_eq_true (by omega)] at c1;cases c1]))
theorem Binary_ok (l : List Bool) (hl : l.length ≤ 100000000) : Fn Tryz.prog 177 [.sl false 1 l bD false] (natD (VB l)) := by
 refine yL zN Tryz.func177 rfl rfl rfl rfl rfl rfl ?_;intro w0 s0 mx;refine zJ 100 ?_;refine zJ 200 ?_;refine yV 3 3 1 rfl ?_;refine zB (zJ 300 ?_);refine zQ ?_;refine yB (ι := Bn l) [0] [] 350 (fun x => [(4,.v (.int .i64 (16 * x.j : Nat))),(3,.own 200 1 (x.o.map nD))]) (fun x => [(200,.row 3 1 (x.o.map nD).length)]) (fun x => l.length + 16 - 16 * x.j) ⟨0,[],rfl,rfl,Dg.nil,by omega⟩ ?_;refine ⟨⟨yI,yF,rfl,rfl⟩,fun x => ?_⟩;have hk := x.le;have hk2 := x.lo;refine zB (zJ 400 ?_);refine yD (fun c3 => ?_) (fun c3 => ?_)
 ·
  refine zK (zA (zB (zQ (zJ 600 ?_))));refine zB (zJ 700 ?_);refine zQ ?_;refine yB (ι := Bj) [0,3,4] [200] 750 (fun y => [(6,.v (.int .i64 ((y.k : Int) - 1))),(5,.v (.int .i64 (wT l (16 * x.j) y.k : Nat)))]) (fun _ => []) (fun y => y.k) ⟨16,Nat.le_refl _⟩ ?_;refine ⟨⟨(by first | exact trivial | (repeat (first | exact trivial | exact Sub.refl _ | refine ⟨?_,?_⟩ | exact Sub.int (by first | rfl | omega | (push_cast;omega)) | exact Sub.nilSl | exact Sub.own rfl | exact Sub.slrSl rfl | exact Sub.ownSl (List.map_append).symm | exact Sub.ownSl rfl | exact Sub.int (by rw [chunk_top];rfl)))),yF,rfl,rfl⟩,fun y => ?_⟩;have hy := y.le;have hy2 := xR0 l (16 * x.j) y.k;refine zB (zJ 800 ?_);refine yD (fun c7 => ?_) (fun c7 => ?_)
  ·
   refine zK (zA (zB (zQ (zJ 1000 ?_))));refine zJ 1100 ?_;refine yD (fun c10 => ?_) (fun c10 => ?_)
   ·
    refine yS zN [] 1200 ?_;refine zO (zA (yS zN [] 1300 ?_));exact zU ⟨y.k - 1,by omega⟩ ⟨(by first | exact trivial | (repeat (first | exact trivial | exact Sub.refl _ | refine ⟨?_,?_⟩ | exact Sub.int (by first | rfl | omega | (push_cast;omega)) | exact Sub.nilSl | exact Sub.own rfl | exact Sub.slrSl rfl | exact Sub.ownSl (List.map_append).symm | exact Sub.ownSl rfl | exact Sub.int (by show (y.k : Int) - 1 - 1 = ((y.k - 1 : Nat) : Int) - 1;omega) | exact Sub.int (by show _ = ((wT l (16 * x.j) (y.k - 1) : Nat) : Int);rw [chunk_one (k := y.k - 1) (by omega) (bit_T (by omega) c10),show y.k - 1 + 1 = y.k by omega];push_cast;rfl)))),yF,rfl,rfl⟩ (by show y.k - 1 < y.k;omega)
   ·
    refine zK (zO (zA (yS zN [] 1200 ?_)));exact zU ⟨y.k - 1,by omega⟩ ⟨(by first | exact trivial | (repeat (first | exact trivial | exact Sub.refl _ | refine ⟨?_,?_⟩ | exact Sub.int (by first | rfl | omega | (push_cast;omega)) | exact Sub.nilSl | exact Sub.own rfl | exact Sub.slrSl rfl | exact Sub.ownSl (List.map_append).symm | exact Sub.ownSl rfl | exact Sub.int (by show (y.k : Int) - 1 - 1 = ((y.k - 1 : Nat) : Int) - 1;omega) | exact Sub.int (by show _ = ((wT l (16 * x.j) (y.k - 1) : Nat) : Int);rw [chunk_nil (k := y.k - 1) (by omega) (bit_F (by omega) c10),show y.k - 1 + 1 = y.k by omega];push_cast;rfl)))),yF,rfl,rfl⟩ (by show y.k - 1 < y.k;omega)
  ·
   refine yE (zZ (yA (zX (zA (yS zN [] 1300 ?_)))));refine zO (zA (yS zN [] 1400 ?_));obtain ⟨ky,hky⟩ := y;have hz : ky = 0 := by simp only at c7;omega
   subst hz;exact zU (x.next (by omega)) ⟨(by first | exact trivial | (repeat (first | exact trivial | exact Sub.refl _ | refine ⟨?_,?_⟩ | exact Sub.int (by first | rfl | omega | (push_cast;omega)) | exact Sub.nilSl | exact Sub.own rfl | exact Sub.slrSl rfl | exact Sub.ownSl (List.map_append).symm | exact Sub.ownSl rfl | exact Sub.int (by show ((16 * x.j : Nat) : Int) + 16 = ((16 * (x.j + 1) : Nat) : Int);omega) | exact Sub.own (by show _ = List.map nD (x.o ++ [_]);rw [List.map_append];rfl)))),(by repeat (first | exact trivial | exact SubO.same rfl | exact ⟨rfl,rfl,by show _ = (List.map nD (x.o ++ [_])).length;simp⟩ | refine ⟨?_,?_⟩)),rfl,rfl⟩ (by show l.length + 16 - 16 * (x.j + 1) < l.length + 16 - 16 * x.j;omega)
 ·
  refine yE (zZ (yA (zX (zA ?_))));refine yO [] [] 410 [(3,.sl false 1 x.o nD 0)] [] ?_;refine ⟨⟨⟨Sub.ownSl rfl,trivial⟩,yF,rfl,rfl⟩,?_⟩;refine zB (zE zN [] 1400 rfl ?_);refine zH ?_;refine zV _ (uB0 _ x.dg (by rw [hk2];omega)) rfl ?_;refine zH ?_;refine zC (zA (zM ?_));exact FinV.ret rfl (SubP.of_eq (by rw [x.all (by omega)]))
theorem Number3_ok (n : Int) (h1 : -9223372036854775808 ≤ n) (h2 : n ≤ 9223372036854775807) : Fn Tryz.prog 160 [.v (.int .i64 n)] (.agg [.v (.bool (decide (n < 0))),natD n.natAbs]) := by
 refine yL zN Tryz.func160 rfl rfl rfl rfl rfl rfl ?_;intro w0 s0 mx;refine zJ 100 ?_;refine zJ 200 ?_;refine yV 3 4 1 rfl ?_;refine zJ 300 ?_;refine zB (zQ ?_);refine yB (ι := Nb n) [2,4] [0] 350 (fun x => [(0,.v (.int .i64 x.m)),(3,.own 200 1 (x.o.map bD))]) (fun x => [(200,.row 4 1 (x.o.map bD).length)]) (fun x => x.m.natAbs) ⟨n,[],by simp [VB],h1,h2,by simp⟩ ?_;refine ⟨⟨yI,yF,rfl,rfl⟩,fun x => ?_⟩;have hk := x.lo;have hk2 := x.hi;refine zB (zJ 400 ?_);refine yD (fun c3 => ?_) (fun c3 => ?_)
 ·
  refine zK (zA (zQ ?_));refine zB (zE zN [] 500 rfl ?_);repeat (first | refine zF ?_ | refine zG ?_ | refine zT (by first | exact trivial | omega | exact ini (by omega) (by omega) | (intro hh;simp at hh;exact ini (by omega) (by omega)) | (intro hh;simp at hh ⊢;omega) | (simp at *;omega) | (simp_all;done) | (have h3 := x.len c3 h1 h2;simp only [List.length_map,List.length_cons,List.length_nil];omega)) ?_)
  refine zC (zA ?_);refine zE zN [] 600 rfl ?_;repeat (first | refine zF ?_ | refine zG ?_ | refine zT (by first | exact trivial | omega | exact ini (by omega) (by omega) | (intro hh;simp at hh;exact ini (by omega) (by omega)) | (intro hh;simp at hh ⊢;omega) | (simp at *;omega) | (simp_all;done) | (have h3 := dV x.m;exact ⟨by decide,ini (by omega) (by omega)⟩)) ?_)
  refine zC (zO ?_);exact zU (x.next (x.len c3 h1 h2)) ⟨(by first | exact trivial | (repeat (first | exact trivial | exact Sub.refl _ | refine ⟨?_,?_⟩ | exact Sub.int (by first | rfl | omega | (push_cast;omega)) | exact Sub.nilSl | exact Sub.own rfl | exact Sub.slrSl rfl | exact Sub.ownSl (List.map_append).symm | exact Sub.ownSl rfl | exact Sub.own (by show _ = List.map bD (x.o ++ [_]);rw [List.map_append];rfl)))),(by repeat (first | exact trivial | exact SubO.same rfl | exact ⟨rfl,rfl,by show _ = (List.map bD (x.o ++ [_])).length;simp⟩ | refine ⟨?_,?_⟩)),rfl,rfl⟩ (by show (Int.tdiv x.m 2).natAbs < x.m.natAbs;have := dV x.m;omega)
 ·
  refine yE (zZ (yA (zX (zA ?_))));refine yO [2,4] [0] 410 [(3,.sl false 1 x.o bD false)] [] ?_;refine ⟨⟨⟨Sub.ownSl rfl,by repeat (first | exact trivial | exact Sub.refl _ | refine ⟨?_,?_⟩)⟩,yF,rfl,rfl⟩,?_⟩;refine zB (zE zN [] 700 rfl ?_);refine zH ?_;refine zV _ (Binary_ok _ (by have := x.ln;omega)) rfl ?_;refine zH ?_;refine zC (zA (zM ?_));exact FinV.ret rfl (SubP.agg ⟨SubP.refl _,SubP.of_eq (by rw [x.fin (by omega)]),trivial⟩)
theorem Limbs3_ok (n : Nat) (hl : (dig n).length ≤ 100000000) : Fn Tryz.prog 176 [natD n] (.sl false 1 (lim n) uD 0) := by
 refine yL zN Tryz.func176 rfl rfl rfl rfl rfl rfl ?_;intro w0 s0 mx;refine zJ 100 ?_;refine zJ 200 ?_;refine yV 3 102 1 rfl ?_;refine zB (zJ 300 ?_);refine zQ ?_;refine yB (ι := Lb n) [0] [] 350 (fun x => [(4,.v (.int .i64 (2 * x.j : Nat))),(3,.own 200 1 (x.o.map uD))]) (fun x => [(200,.row 102 1 (x.o.map uD).length)]) (fun x => (dig n).length + 2 - 2 * x.j) ⟨0,[],by simp [VL,V],rfl,Lg.nil,by omega⟩ ?_;refine ⟨⟨yI,yF,rfl,rfl⟩,fun x => ?_⟩;have hk := x.le;have hk2 := x.lo;refine zB (zJ 400 ?_);refine yD (fun c3 => ?_) (fun c3 => ?_)
 ·
  refine zK (zA (zB (zQ (zJ 600 ?_))));refine zB (zJ 700 ?_);refine yD (fun c6 => ?_) (fun c6 => ?_)
  ·
   refine yS zN [] 800 ?_;refine zA (yS zN [] 900 ?_);refine zO (zA (yS zN [] 1000 ?_));exact zU (x.next (by omega)) ⟨(by first | exact trivial | (repeat (first | exact trivial | exact Sub.refl _ | refine ⟨?_,?_⟩ | exact Sub.int (by first | rfl | omega | (push_cast;omega)) | exact Sub.nilSl | exact Sub.own rfl | exact Sub.slrSl rfl | exact Sub.ownSl (List.map_append).symm | exact Sub.ownSl rfl | exact Sub.int (by show ((2 * x.j : Nat) : Int) + 2 = ((2 * (x.j + 1) : Nat) : Int);omega) | exact Sub.own (by show _ = List.map uD (x.o ++ [_]);rw [List.map_append];show _ = List.map uD x.o ++ [[D.v (Value.int .u32 ((lbD n x.j : Nat) : Int))]];rw [← lb_T n x.j];rfl)))),(by repeat (first | exact trivial | exact SubO.same rfl | exact ⟨rfl,rfl,by show _ = (List.map uD (x.o ++ [_])).length;simp⟩ | refine ⟨?_,?_⟩)),rfl,rfl⟩ (by show (dig n).length + 2 - 2 * (x.j + 1) < (dig n).length + 2 - 2 * x.j;omega)
  ·
   refine zK (zA (yS zN [] 900 ?_));refine zO (zA (yS zN [] 1000 ?_));exact zU (x.next (by omega)) ⟨(by first | exact trivial | (repeat (first | exact trivial | exact Sub.refl _ | refine ⟨?_,?_⟩ | exact Sub.int (by first | rfl | omega | (push_cast;omega)) | exact Sub.nilSl | exact Sub.own rfl | exact Sub.slrSl rfl | exact Sub.ownSl (List.map_append).symm | exact Sub.ownSl rfl | exact Sub.int (by show ((2 * x.j : Nat) : Int) + 2 = ((2 * (x.j + 1) : Nat) : Int);omega) | exact Sub.own (by show _ = List.map uD (x.o ++ [_]);rw [List.map_append];show _ = List.map uD x.o ++ [[D.v (Value.int .u32 ((lbD n x.j : Nat) : Int))]];rw [← lb_F n x.j (by omega)];rfl)))),(by repeat (first | exact trivial | exact SubO.same rfl | exact ⟨rfl,rfl,by show _ = (List.map uD (x.o ++ [_])).length;simp⟩ | refine ⟨?_,?_⟩)),rfl,rfl⟩ (by show (dig n).length + 2 - 2 * (x.j + 1) < (dig n).length + 2 - 2 * x.j;omega)
 ·
  refine yE (zZ (yA (zX (zA (zJ 1000 ?_)))));refine zM ?_;exact FinV.ret rfl (SubP.ownSl (by rw [x.fin (by omega)]))
theorem whole_neg (z : Int) : (decide (z < 0) && decide ((0 : Int) < ((dig z.natAbs).length : Nat))) = decide (z < 0) := by
 by_cases h : z < 0
 ·rw [decide_eq_true h,Bool.true_and];refine decide_eq_true ?_;have h2 : dig z.natAbs ≠ [] := fun e => by rw [dig_eq_nil] at e;omega
  have := List.length_pos_iff.2 h2;omega
 ·rw [decide_eq_false h];rfl
theorem Whole7_ok (z : Int) (hl : (dig z.natAbs).length ≤ 100000000) : Fn Tryz.prog 159 [.agg [.v (.bool (decide (z < 0))),natD z.natAbs]] (.agg (vlD (nuV z))) := by
 refine yL zN Tryz.func159 rfl rfl rfl rfl rfl rfl ?_;intro w0 s0 mx;refine zJ 100 ?_;refine zB (zW zN [] [[],[0],[0,1],[0,1,2],[0,1,2,3],(rgN 5),(rgN 6),(rgN 7),[],[8],[0,1,2,8,9],(rgN 11),(rgN 12),(rgN 13)] 200 yQ (by kernel_rfl) rfl ?_);refine zH ?_;refine zV _ (Limbs3_ok _ (by first | assumption | omega | (simp_all;done))) rfl ?_;refine zH ?_;refine zC (zA (zM ?_));exact FinV.ret rfl (SubP.agg ⟨SubP.refl _,SubP.of_eq (by rw [whole_neg];rfl),SubP.refl _,SubP.refl _,SubP.nilSl rfl,SubP.refl _,SubP.refl _,trivial⟩)
theorem dig_small {n : Int} (h1 : -9223372036854775808 ≤ n) (h2 : n ≤ 9223372036854775807) : (dig n.natAbs).length ≤ 100000000 := Nat.le_trans (vA (k := 4) (by omega)) (by omega)
theorem N_ok (n : Int) (h1 : -9223372036854775808 ≤ n) (h2 : n ≤ 9223372036854775807) : Fn Tryz.prog 132 [.v (.int .i64 n)] (.agg (vlD (nuV n))) := by
 refine yL zN Tryz.func132 rfl rfl rfl rfl rfl rfl ?_;intro w0 s0 mx;refine zJ 100 ?_;refine zB (zE zN [] 200 rfl ?_);refine zH ?_;refine zV _ (Number3_ok n h1 h2) rfl ?_;refine zH ?_;refine zV _ (Whole7_ok n (dig_small h1 h2)) rfl ?_;refine zH ?_;refine zC (zA (zM ?_));exact FinV.ret rfl (SubP.refl _)
variable {md me : Bool}
theorem qH0 {α : Type} [DecidableEq α] : ∀ (l : List α) (n : α),ixI l n < l.length
 | [],n => by show (-1 : Int) < ((0 : Nat) : Int);omega
 | x :: l,n => by
  have := qH0 l n;rw [ixI,List.length_cons];split
  ·omega
  ·split <;> omega
def ownB (o : Ob) (s : ByteArray) : Bool := decide (0 ≤ ixI o.names s)
def ownV (o : Ob) (s : ByteArray) : Vl := if ixI o.names s < 0 then vl0 else o.items.getD (ixI o.names s).toNat vl0
structure Fd {α : Type} (l : List α) (p : α → Bool) where
 k : Nat
 le : k ≤ l.length
 eq : (l.drop k).find? p = l.find? p
def Fd.next {α : Type} {l : List α} {p : α → Bool} (x : Fd l p) (e : α) (hk : x.k < l.length) (h0 : p (l.getD (x.k : Int).toNat e) = false) : Fd l p := ⟨x.k + 1,hk,by rw [← x.eq,zV0 hk e,List.find?_cons_of_neg (by rw [h0];decide)]⟩
theorem Fd.found {α : Type} {l : List α} {p : α → Bool} (x : Fd l p) (e : α) (hk : x.k < l.length) (h0 : p (l.getD (x.k : Int).toNat e) = true) : l.find? p = some (l.getD (x.k : Int).toNat e) := by rw [← x.eq,zV0 hk e,List.find?_cons_of_pos h0]
theorem Fd.none {α : Type} {l : List α} {p : α → Bool} (x : Fd l p) (hk : l.length ≤ x.k) : l.find? p = none := by rw [← x.eq,List.drop_of_length_le hk];rfl
def fdO (h : List Ob) (l : List Int) (s : ByteArray) : Option Int := l.find? fun c => ownB (yG h c) s
def fdV (h : List Ob) (s : ByteArray) : Option Int → Vl
 | some c => ownV (yG h c) s
 | none => vl0
def fdC : Option Int → Int
 | some c => c
 | none => 0
def Cok (h : List Ob) (l : List Int) : Prop := l.length ≤ 2000000 ∧ ∀ c ∈ l,inH h c ∧ (yG h c).names.length ≤ (yG h c).items.length
theorem tX {h : List Ob} {l : List Int} (hc : Cok h l) {k : Nat} (hk : k < l.length) : inH h (l.getD (k : Int).toNat 0) ∧ (yG h (l.getD (k : Int).toNat 0)).names.length ≤ (yG h (l.getD (k : Int).toNat 0)).items.length := hc.2 _ (by rw [kR hk];exact List.getElem_mem _)
theorem NameText_ok (s : ByteArray) : Fn Tryz.prog 7 [.v (.string s)] (.v (.bool (uK s))) := by
 refine yL zN Tryz.func7 rfl rfl rfl rfl rfl rfl ?_;intro w0 s0 mx;refine zJ 100 ?_;refine zB (zE zN [] 200 rfl ?_);refine zH ?_;refine zV _ (mE _) rfl ?_;refine zH ?_;refine zC (zA (zM ?_));exact FinV.ret rfl (SubP.refl _)
theorem qP (h : List Ob) (v : Vl) (hv : v.k = 6 → qC h v.r = true) : Fn Tryz.prog 29 [hpD md h,.agg (vlD v)] (.agg (obD (zR h v))) := by
 refine yL zN Tryz.func29 rfl rfl rfl rfl rfl rfl ?_;intro w0 s0 mx;refine zJ 100 ?_;refine zB (zJ 200 ?_);refine yD (fun c1 => ?_) (fun c1 => ?_)
 ·
  refine zJ 300 ?_;refine zM (zL ?_);have e : zR h v = ob0 := objS_no c1;rw [e];exact FinV.ret rfl (by repeat (first | exact trivial | exact SubP.refl _ | exact SubP.nilSl rfl | refine SubP.agg ?_ | refine ⟨?_,?_⟩))
 ·
  refine zK (zA ?_);refine zB (zE zN [] 400 rfl ?_);repeat (first | refine zF ?_ | refine zG ?_ | refine zT (by exact yZ (hv c1)) ?_)
  refine zC (zA (zM ?_));have e : zR h v = h.getD v.r.toNat ob0 := objS_at hv c1;rw [e];exact FinV.ret rfl (by repeat (first | exact trivial | exact SubP.refl _ | exact SubP.nilSl rfl | refine SubP.agg ?_ | refine ⟨?_,?_⟩))
theorem attrOwn_ok (o : Ob) (s : ByteArray) (hn : o.names.length ≤ o.items.length) : Fn Tryz.prog 32 [.agg (obD o),.v (.string s)] (.tup [.agg (vlD (ownV o s)),.v (.bool (ownB o s))]) := by
 have hlt := qH0 o.names s;refine yL zN Tryz.func32 rfl rfl rfl rfl rfl rfl ?_;intro w0 s0 mx;refine zJ 100 ?_;refine zB (zE zN [] 200 rfl ?_);refine zH ?_;refine zV _ (vH _ _) rfl ?_;refine zH ?_;refine zC (zA (zB (zJ 300 ?_)));refine yD (fun c2 => ?_) (fun c2 => ?_)
 ·
  refine zJ 400 ?_;refine zM (zL ?_);exact FinV.ret rfl (SubP.tup ⟨by rw [ownV,if_pos c2];exact (by repeat (first | exact trivial | exact SubP.refl _ | exact SubP.nilSl rfl | refine SubP.agg ?_ | refine ⟨?_,?_⟩)),SubP.bool (by rw [ownB,decide_eq_false (by omega)]),trivial⟩)
 ·
  refine zK (zA (zJ 500 ?_));refine zM ?_;exact FinV.ret rfl (SubP.tup ⟨by rw [ownV,if_neg (by omega)];exact SubP.refl _,SubP.bool (by rw [ownB,decide_eq_true (by omega)]),trivial⟩)
theorem Own_ok (o : Ob) (s : ByteArray) (hn : o.names.length ≤ o.items.length) (hl : o.names.length ≤ 2000000) : Fn Tryz.prog 15 [.agg (obD o),.v (.string s)] (.tup [.agg (vlD (ownV o s)),.v (.bool (ownB o s))]) := by
 refine yL zN Tryz.func15 rfl rfl rfl rfl rfl rfl ?_;intro w0 s0 mx;refine zJ 100 ?_;refine zB (zJ 200 ?_);refine zQ ?_;refine yB (ι := Nf o.names s) [1,2,4,9,10] [0,1] 250 (fun x => [(11,.v (.int .i64 x.k))]) (fun _ => []) (fun x => o.names.length - x.k) ⟨0,Nat.zero_le _,fun j hj => by omega⟩ ?_;refine ⟨⟨yI,yF,rfl,rfl⟩,fun x => ?_⟩;have hk := x.le;refine zJ 300 ?_;refine zB (yD (fun c2 => ?_) (fun c2 => ?_))
 ·
  refine zK (zA (zB (zQ (zJ 400 ?_))));refine zJ 500 ?_;refine zS rfl (fun c4 => ?_) (fun c4 => ?_)
  ·replace c4 : s = o.names.getD (x.k : Int).toNat ByteArray.empty := (of_decide_eq_true c4).symm
   refine zJ 600 ?_;refine zM (zP (zL (yP (zP (zL ?_)))));have e : ixI o.names s = x.k := x.found c2 c4;exact FinV.ret rfl (SubP.tup ⟨by rw [ownV,e,if_neg (by omega)];exact SubP.refl _,SubP.bool (by rw [ownB,e,decide_eq_true (by omega)]),trivial⟩)
  ·replace c4 : ¬ s = o.names.getD (x.k : Int).toNat ByteArray.empty := fun e => (of_decide_eq_false c4) e.symm
   refine zK (zO (zA (yS zN [] 700 ?_)));exact zU (x.next c2 c4) ⟨yI,yF,rfl,rfl⟩ (by show o.names.length - (x.k + 1) < o.names.length - x.k;omega)
 ·
  refine yE (zZ (yA (zX (zA (zJ 800 ?_)))));refine zM ?_;have e : ixI o.names s = -1 := x.none c2;exact FinV.ret rfl (SubP.tup ⟨by rw [ownV,e,if_pos (by omega)];exact (by repeat (first | exact trivial | exact SubP.refl _ | exact SubP.nilSl rfl | refine SubP.agg ?_ | refine ⟨?_,?_⟩)),SubP.bool (by rw [ownB,e];rfl),trivial⟩)
theorem attrFind0_ok (h : List Ob) (l : List Int) (s : ByteArray) (hh : HpIn h) (hc : Cok h l) : Fn Tryz.prog 87 [hpD md h,isD l,.v (.string s)] (.tup [.agg (vlD (fdV h s (fdO h l s))),.v (.int .i64 (fdC (fdO h l s))),.v (.bool (fdO h l s).isSome)]) := by
 have hl := hc.1;refine yL zN Tryz.func87 rfl rfl rfl rfl rfl rfl ?_;intro w0 s0 mx;refine zJ 100 ?_;refine zB (zJ 200 ?_);refine zQ ?_;refine yB (ι := Fd l (fun c => ownB (yG h c) s)) [2,3,6,13,14] [0,1] 250 (fun x => [(15,.v (.int .i64 x.k))]) (fun _ => []) (fun x => l.length - x.k) ⟨0,Nat.zero_le _,rfl⟩ ?_;refine ⟨⟨yI,yF,rfl,rfl⟩,fun x => ?_⟩;have hk := x.le;refine zJ 300 ?_;refine zB (yD (fun c2 => ?_) (fun c2 => ?_))
 ·
  refine zK (zA (zB (zQ (zJ 400 ?_))));refine zB (zE zN [] 500 rfl ?_);repeat (first | refine zF ?_ | refine zG ?_ | refine zT (by exact (tX hc c2).1) ?_)
  refine zV _ (attrOwn_ok _ _ (tX hc c2).2) rfl ?_;repeat (first | refine zF ?_ | refine zG ?_ | refine zT (by exact (tX hc c2).1) ?_)
  refine zC (zA (zJ 600 ?_));refine zS rfl (fun c5 => ?_) (fun c5 => ?_)
  ·
   refine zJ 700 ?_;refine zM (zP (zL (yP (zP (zL ?_)))));have e : fdO h l s = some (l.getD (x.k : Int).toNat 0) := x.found 0 c2 c5;exact FinV.ret rfl (SubP.tup ⟨by rw [e];exact SubP.refl _,by rw [e];exact SubP.refl _,by rw [e];exact SubP.refl _,trivial⟩)
  ·
   refine zK (zO (zA (yS zN [] 800 ?_)));exact zU (x.next 0 c2 c5) ⟨yI,yF,rfl,rfl⟩ (by show l.length - (x.k + 1) < l.length - x.k;omega)
 ·
  refine yE (zZ (yA (zX (zA (zJ 900 ?_)))));refine zM ?_;have e : fdO h l s = none := x.none (by omega);exact FinV.ret rfl (SubP.tup ⟨by rw [e];exact (by repeat (first | exact trivial | exact SubP.refl _ | exact SubP.nilSl rfl | refine SubP.agg ?_ | refine ⟨?_,?_⟩)),by rw [e];exact SubP.refl _,by rw [e];exact SubP.refl _,trivial⟩)
theorem Among_ok (h : List Ob) (l : List Int) (s : ByteArray) (hh : HpIn h) (hc : Cok h l) : Fn Tryz.prog 24 [hpD md h,isD l,.v (.string s)] (.tup [.agg (vlD (fdV h s (fdO h l s))),.v (.int .i64 (fdC (fdO h l s))),.v (.bool (fdO h l s).isSome)]) := by
 have hl := hc.1;refine yL zN Tryz.func24 rfl rfl rfl rfl rfl rfl ?_;intro w0 s0 mx;refine zJ 100 ?_;refine zB (zJ 200 ?_);refine zQ ?_;refine yB (ι := Fd l (fun c => ownB (yG h c) s)) [2,3,6,13,14] [0,1] 250 (fun x => [(15,.v (.int .i64 x.k))]) (fun _ => []) (fun x => l.length - x.k) ⟨0,Nat.zero_le _,rfl⟩ ?_;refine ⟨⟨yI,yF,rfl,rfl⟩,fun x => ?_⟩;have hk := x.le;refine zJ 300 ?_;refine zB (yD (fun c2 => ?_) (fun c2 => ?_))
 ·
  refine zK (zA (zB (zQ (zJ 400 ?_))));refine zB (zE zN [] 500 rfl ?_);repeat (first | refine zF ?_ | refine zG ?_ | refine zT (by exact (tX hc c2).1) ?_)
  refine zV _ (Own_ok _ _ (tX hc c2).2 (hh.at (l.getD (x.k : Int).toNat 0)).nl) rfl ?_;repeat (first | refine zF ?_ | refine zG ?_ | refine zT (by exact (tX hc c2).1) ?_)
  refine zC (zA (zJ 600 ?_));refine zS rfl (fun c5 => ?_) (fun c5 => ?_)
  ·
   refine zJ 700 ?_;refine zM (zP (zL (yP (zP (zL ?_)))));have e : fdO h l s = some (l.getD (x.k : Int).toNat 0) := x.found 0 c2 c5;exact FinV.ret rfl (SubP.tup ⟨by rw [e];exact SubP.refl _,by rw [e];exact SubP.refl _,by rw [e];exact SubP.refl _,trivial⟩)
  ·
   refine zK (zO (zA (yS zN [] 800 ?_)));exact zU (x.next 0 c2 c5) ⟨yI,yF,rfl,rfl⟩ (by show l.length - (x.k + 1) < l.length - x.k;omega)
 ·
  refine yE (zZ (yA (zX (zA (zJ 900 ?_)))));refine zM ?_;have e : fdO h l s = none := x.none (by omega);exact FinV.ret rfl (SubP.tup ⟨by rw [e];exact (by repeat (first | exact trivial | exact SubP.refl _ | exact SubP.nilSl rfl | refine SubP.agg ?_ | refine ⟨?_,?_⟩)),by rw [e];exact SubP.refl _,by rw [e];exact SubP.refl _,trivial⟩)
theorem gW (h : List Ob) (c : Int) (s : ByteArray) (hh : HpIn h) (hn : inH h c) (hc : Cok h (yG h c).order) : Fn Tryz.prog 39 [hpD md h,.v (.int .i64 c),.v (.string s)] (.tup [.agg (vlD (fdV h s (fdO h (yG h c).order s))),.v (.int .i64 (fdC (fdO h (yG h c).order s))),.v (.bool (fdO h (yG h c).order s).isSome)]) := by
 refine yL zN Tryz.func39 rfl rfl rfl rfl rfl rfl ?_;intro w0 s0 mx;refine zJ 100 ?_;refine zB (zW zN [] [[],[],[1],[],[1,2,3],[1,2,3,4],[1,2,3,4,5],[],(rgN 8),(rgN 9),(rgN 9),(rgN 9),(rgN 12),(rgN 13),(rgN 14)] 200 yQ (by kernel_rfl) rfl ?_);repeat (first | refine zF ?_ | refine zG ?_ | refine zT (by exact hn) ?_)
 refine zV _ (attrFind0_ok h (yG h c).order s hh hc) rfl ?_;repeat (first | refine zF ?_ | refine zG ?_ | refine zT (by exact hn) ?_)
 refine zC (zA (zM ?_));exact FinV.ret rfl (SubP.refl _)
theorem xM (h : List Ob) (c : Int) (s : ByteArray) (hh : HpIn h) (hn : inH h c) (hc : Cok h (yG h c).order) : Fn Tryz.prog 9 [hpD md h,.v (.int .i64 c),.v (.string s)] (.tup [.agg (vlD (fdV h s (fdO h (yG h c).order s))),.v (.bool (fdO h (yG h c).order s).isSome)]) := by
 refine yL zN Tryz.func9 rfl rfl rfl rfl rfl rfl ?_;intro w0 s0 mx;refine zJ 100 ?_;refine zB (zW zN [] [[],[],[1],[],[1,2,3],[1,2,3,4],[1,2,3,4,5],[],(rgN 8),(rgN 9),(rgN 10),(rgN 10),(rgN 10),[],[0,1,2,3,4,5,6,7,8,9,10,13],[0,1,2,3,4,5,6,7,8,9,10,11,13,14],(rgN 16)] 200 yQ (by kernel_rfl) rfl ?_);repeat (first | refine zF ?_ | refine zG ?_ | refine zT (by exact hn) ?_)
 refine zV _ (Among_ok h (yG h c).order s hh hc) rfl ?_;repeat (first | refine zF ?_ | refine zG ?_ | refine zT (by exact hn) ?_)
 refine zC (zA (zJ 300 ?_));refine zM ?_;exact FinV.ret rfl (SubP.refl _)
theorem attrFunction_ok (h : List Ob) (v : Vl) (hv : v.k = 6 → qC h v.r = true) : Fn Tryz.prog 126 [hpD md h,.agg (vlD v)] (.v (.bool (pQ0 h v))) := by
 refine yL zN Tryz.func126 rfl rfl rfl rfl rfl rfl ?_;intro w0 s0 mx;refine zJ 100 ?_;refine zB (zE zN [] 200 rfl ?_);refine zH ?_;refine yM _ (fun hg6 => qP _ _ (by first | assumption | omega | (simp_all;done))) rfl ?_;refine zH ?_;refine zC (zA (zM ?_));exact FinV.ret rfl (SubP.refl _)
variable {md me : Bool}
theorem used_a {k : Nat} (hk : k < 21) (ha : Lib.contains (jP (k : Int)).data.toList [97] = true) : jP (k : Int) ≠ ⟨#[]⟩ ∧ dZ (jP (k : Int)) = 61 := by
 have := List.all_eq_true.1 (show (List.range 21).all (fun (k : Nat) => !(Lib.contains (jP (k : Int)).data.toList [97]) || (!decide (jP (k : Int) = ⟨#[]⟩) && decide (dZ (jP (k : Int)) = 61))) = true by decide +kernel) k (List.mem_range.2 hk);rw [ha,Bool.not_true,Bool.false_or,Bool.and_eq_true,Bool.not_eq_true',decide_eq_false_iff_not,decide_eq_true_eq] at this;exact this
theorem names_items {o : Ob} (hk : 0 ≤ o.kind ∧ o.kind < 21) (hs : jM o = 0) : o.names.length ≤ o.items.length := by
 have h1 := (uI0 hs).1;unfold jM at hs;split at hs
 ·rename_i ha;have h3 := List.all_eq_true.1 ha 3 (by decide);by_cases hz : (o.names.length : Int) = 0
  ·omega
  ·have e : Lib.contains (jP o.kind).data.toList [97] = true := by
    have h4 : (!(!(decide ((o.names.length : Int) = 0)) && !(Lib.contains (jP o.kind).data.toList [97]))) = true := h3;rw [decide_eq_false hz] at h4;simpa using h4
   have hkk : o.kind = ((o.kind.toNat : Nat) : Int) := by omega
   rw [hkk] at e;have h5 := used_a (k := o.kind.toNat) (by omega) e;rw [← hkk] at h5;rw [cntS,if_neg h5.1,if_neg (by rw [h5.2];decide),if_pos h5.2] at h1;omega
 ·cases hs
theorem zC1 {h : List Ob} (g : Uh h) {n : Int} (hn : inH h n) : (yG h n).names.length ≤ (yG h n).items.length := by
 by_cases h49 : n.toNat < 49
 ·rw [show yG h n = bgO n.toNat from g.lo_at h49];exact Nat.zero_le _
 ·have u := g.hi_at (i := n.toNat) (by omega) hn.2;exact names_items u.kind u.shape
theorem bg_order {k : Nat} (hk : k < 49) {r : Int} (hr : r ∈ (bgO k).order) : 0 ≤ r ∧ r < 49 := by
 have := List.all_eq_true.1 (List.all_eq_true.1 (show (List.range 49).all (fun k => (bgO k).order.all fun r => decide (0 ≤ r) && decide (r < 49)) = true by decide +kernel) k (List.mem_range.2 hk)) r hr;rw [Bool.and_eq_true,decide_eq_true_eq,decide_eq_true_eq] at this;exact this
theorem kW {h : List Ob} (hh : HpIn h) (g : Uh h) {c : Int} (hn : inH h c) : Cok h (yG h c).order := by
 refine ⟨(hh.at c).ol,fun r hr => ?_⟩;have hin : inH h r := by
  by_cases h49 : c.toNat < 49
  ·rw [show yG h c = bgO c.toNat from g.lo_at h49] at hr;have := bg_order h49 hr;have := g.lo;exact ⟨by omega,by omega⟩
  ·exact yZ ((yF0 (g.hi_at (by omega) hn.2).vals).order r hr)
 exact ⟨hin,zC1 g hin⟩
theorem own_rv {h : List Ob} (g : Uh h) {n : Int} (hn : inH h n) (s : ByteArray) (hk : (ownV (yG h n) s).k = 6) : qC h (ownV (yG h n) s).r = true := by
 have hlt := qH0 (yG h n).names s;have hni := zC1 g hn;by_cases hi : ixI (yG h n).names s < 0
 ·rw [ownV,if_pos hi] at hk;exact absurd hk (by decide)
 ·rw [ownV,if_neg hi] at hk ⊢;have hj : (ixI (yG h n).names s).toNat < (yG h n).items.length := by omega
  rw [List.getD_eq_getElem?_getD,List.getElem?_eq_getElem hj] at hk ⊢;exact g.items hn (List.getElem_mem _) hk
theorem gS0 {h : List Ob} (hh : HpIn h) (g : Uh h) {c : Int} (hn : inH h c) (s : ByteArray) (hk : (fdV h s (fdO h (yG h c).order s)).k = 6) : qC h (fdV h s (fdO h (yG h c).order s)).r = true := by
 cases hf : fdO h (yG h c).order s with
 | none => rw [hf] at hk;exact absurd hk (show ¬ (0 : Int) = 6 by decide)
 | some r =>
  rw [hf] at hk;exact own_rv g ((kW hh g hn).2 r (List.mem_of_find?_eq_some hf)).1 s hk
theorem one_item {h : List Ob} (g : Uh h) {n : Int} (hn : inH h n) (hk : (yG h n).kind = 13 ∨ (yG h n).kind = 14) : (yG h n).items.length = 1 := by
 by_cases h49 : n.toNat < 49
 ·rw [show yG h n = bgO n.toNat from g.lo_at h49] at hk;have h9 : (bgO n.toNat).kind = 9 := rfl;omega
 ·have u := g.hi_at (i := n.toNat) (by omega) hn.2;have h1 := (uI0 u.shape).1;rw [← xX hn] at h1;have hc : cntS (yG h n) = 1 := by
   rcases hk with hk | hk
   ·rw [gG 13 49 (by decide +kernel) hk];decide +kernel
   ·rw [gG 14 49 (by decide +kernel) hk];decide +kernel
  omega
def spS (h : List Ob) (v : Vl) (s : ByteArray) : Vl × List Vl × Bool :=
 if ¬ (zR h v).kind = 10 then (vl0,[],false)
 else if (fdO h (yG h (zR h v).cls).order s).isSome = false then (vl0,[],false)
 else if pQ0 h (fdV h s (fdO h (yG h (zR h v).cls).order s)) = true then (fdV h s (fdO h (yG h (zR h v).cls).order s),[v],true)
 else if (zR h (fdV h s (fdO h (yG h (zR h v).cls).order s))).kind = 13 then ((zR h (fdV h s (fdO h (yG h (zR h v).cls).order s))).items.getD 0 vl0,[],true)
 else if (zR h (fdV h s (fdO h (yG h (zR h v).cls).order s))).kind = 14 then ((zR h (fdV h s (fdO h (yG h (zR h v).cls).order s))).items.getD 0 vl0,[rfV (zR h v).cls],true)
 else (fdV h s (fdO h (yG h (zR h v).cls).order s),[],true)
theorem xW {h : List Ob} (g : Uh h) {v : Vl} (hk : (zR h v).kind = 13 ∨ (zR h v).kind = 14) : 0 < (zR h v).items.length := by
 have h1 := mW (h := h) (v := v) (by omega);rw [h1.2.2] at hk ⊢;rw [one_item g (yZ h1.2.1) hk];decide
theorem uZ {h : List Ob} (g : Uh h) {v : Vl} (hk : (zR h v).kind = 10) : inH h (zR h v).cls := by
 have h1 := mW (h := h) (v := v) (by omega);rw [h1.2.2] at hk ⊢;exact g.cls (yZ h1.2.1) hk
set_option maxHeartbeats 1000000 in
theorem Special_ok (h : List Ob) (v : Vl) (s : ByteArray) (hh : HpIn h) (g : Uh h) (hv : v.k = 6 → qC h v.r = true) : Fn Tryz.prog 94 [hpD md h,.agg (vlD v),.v (.string s)] (.tup [.agg (vlD (spS h v s).1),vsD (spS h v s).2.1,.v (.bool (spS h v s).2.2)]) := by
 refine yL zN Tryz.func94 rfl rfl rfl rfl rfl rfl ?_;intro w0 s0 mx;refine zJ 100 ?_;refine zB ?_;refine zB (zE zN [] 200 rfl ?_);refine zH ?_;refine zV _ (qP _ _ (by first | assumption | omega | (simp_all;done))) rfl ?_;refine zH ?_;refine zC (zA (zS rfl (fun c1 => ?_) (fun c1 => ?_)))
 ·replace c1 : ¬ (zR h v).kind = 10 := by simpa using c1
  refine zJ 300 ?_;refine zM (zL ?_);exact FinV.ret rfl (SubP.tup ⟨by rw [spS,if_pos c1];exact (by repeat (first | exact trivial | exact SubP.refl _ | exact SubP.nilSl rfl | refine SubP.agg ?_ | refine ⟨?_,?_⟩)),by rw [spS,if_pos c1];exact SubP.nilSl rfl,by rw [spS,if_pos c1];exact SubP.refl _,trivial⟩)
 ·replace c1 : (zR h v).kind = 10 := by simpa using c1
  have hob := mW (h := h) (v := v) (by omega);have hin := uZ g c1;have hrv := fun hk => gS0 hh g hin s hk;refine zK (zA ?_);refine zB (zE zN [] 400 rfl ?_);repeat (first | refine zF ?_ | refine zG ?_ | refine zT (by exact yZ hob.2.1) ?_)
  refine zC (zA ?_);refine yO [2,3,4,6] [0,1,2] 410 [(9,.v (.int .i64 (zR h v).cls))] [] ?_;refine ⟨⟨⟨Sub.int (by rw [hob.2.2]),by repeat (first | exact trivial | exact Sub.refl _ | refine ⟨?_,?_⟩)⟩,yF,rfl,rfl⟩,?_⟩;refine zB (zE zN [] 500 rfl ?_);refine zH ?_;refine zV _ (gW h (zR h v).cls s hh hin (kW hh g hin)) rfl ?_;refine zH ?_;refine zC (zA (zB (zJ 600 ?_)));refine zS rfl (fun c5 => ?_) (fun c5 => ?_)
  ·replace c5 : (fdO h (yG h (zR h v).cls).order s).isSome = false := by simpa using c5
   refine zJ 700 ?_;refine zM (zL ?_);exact FinV.ret rfl (SubP.tup ⟨by rw [spS,if_neg (not_not_intro c1),if_pos c5];exact (by repeat (first | exact trivial | exact SubP.refl _ | exact SubP.nilSl rfl | refine SubP.agg ?_ | refine ⟨?_,?_⟩)),by rw [spS,if_neg (not_not_intro c1),if_pos c5];exact SubP.nilSl rfl,by rw [spS,if_neg (not_not_intro c1),if_pos c5];exact SubP.refl _,trivial⟩)
  ·replace c5 : (fdO h (yG h (zR h v).cls).order s).isSome = true := by simpa using c5
   refine zK (zA (zB ?_));refine zB (zE zN [] 800 rfl ?_);refine zH ?_;refine zV _ (qP h (fdV h s (fdO h (yG h (zR h v).cls).order s)) hrv) rfl ?_;refine zH ?_;refine zC (zA (zQ ?_));refine zB (zE zN [] 900 rfl ?_);refine zH ?_;refine zV _ (attrFunction_ok h (fdV h s (fdO h (yG h (zR h v).cls).order s)) hrv) rfl ?_;refine zH ?_;refine zC (zA (zS rfl (fun c8 => ?_) (fun c8 => ?_)))
   ·
    refine zB (zW zN [] [[],[],[1],[0],[0,1,2,3],(rgN 5)] 1000 yQ (by kernel_rfl) rfl ?_);refine zH ?_;refine zC (zA (zM (zP (zL ?_))));exact FinV.ret rfl (SubP.tup ⟨by rw [spS,if_neg (not_not_intro c1),if_neg (by rw [c5];decide),if_pos c8];exact SubP.refl _,by rw [spS,if_neg (not_not_intro c1),if_neg (by rw [c5];decide),if_pos c8];exact SubP.slrSl rfl,by rw [spS,if_neg (not_not_intro c1),if_neg (by rw [c5];decide),if_pos c8];exact SubP.refl _,trivial⟩)
   ·
    refine zJ 1100 ?_;refine yD (fun c10 => ?_) (fun c10 => ?_)
    ·
     refine zB (zE zN [] 1200 rfl ?_);repeat (first | refine zF ?_ | refine zG ?_ | refine zT (by exact ⟨by omega,xW g (Or.inl c10)⟩) ?_)
     refine zC (zA (zM (zP (zL ?_))));exact FinV.ret rfl (SubP.tup ⟨by rw [spS,if_neg (not_not_intro c1),if_neg (by rw [c5];decide),if_neg (by rw [c8];decide),if_pos c10];exact SubP.refl _,by rw [spS,if_neg (not_not_intro c1),if_neg (by rw [c5];decide),if_neg (by rw [c8];decide),if_pos c10];exact SubP.nilSl rfl,by rw [spS,if_neg (not_not_intro c1),if_neg (by rw [c5];decide),if_neg (by rw [c8];decide),if_pos c10];exact SubP.refl _,trivial⟩)
    ·
     refine zJ 1300 ?_;refine yD (fun c12 => ?_) (fun c12 => ?_)
     ·
      refine zB (zW zN [] [[],[0],[0,1],[0,1,2],[],[4],[4,5],(rgN 6),(rgN 8),(rgN 9)] 1400 yQ (by kernel_rfl) rfl ?_);repeat (first | refine zF ?_ | refine zG ?_ | refine zT (by exact ⟨by omega,xW g (Or.inr c12)⟩) ?_)
      refine zV _ (heapRef_ok _) rfl ?_;repeat (first | refine zF ?_ | refine zG ?_ | refine zT (by exact ⟨by omega,xW g (Or.inr c12)⟩) ?_)
      refine zC (zA (zM (zP (zL ?_))));exact FinV.ret rfl (SubP.tup ⟨by rw [spS,if_neg (not_not_intro c1),if_neg (by rw [c5];decide),if_neg (by rw [c8];decide),if_neg (by omega),if_pos c12];exact SubP.refl _,by rw [spS,if_neg (not_not_intro c1),if_neg (by rw [c5];decide),if_neg (by rw [c8];decide),if_neg (by omega),if_pos c12];exact SubP.slrSl rfl,by rw [spS,if_neg (not_not_intro c1),if_neg (by rw [c5];decide),if_neg (by rw [c8];decide),if_neg (by omega),if_pos c12];exact SubP.refl _,trivial⟩)
     ·
      refine zK (zO (zA (zJ 1500 ?_)));refine zM ?_;exact FinV.ret rfl (SubP.tup ⟨by rw [spS,if_neg (not_not_intro c1),if_neg (by rw [c5];decide),if_neg (by rw [c8];decide),if_neg (by omega),if_neg (by omega)];exact SubP.refl _,by rw [spS,if_neg (not_not_intro c1),if_neg (by rw [c5];decide),if_neg (by rw [c8];decide),if_neg (by omega),if_neg (by omega)];exact SubP.nilSl rfl,by rw [spS,if_neg (not_not_intro c1),if_neg (by rw [c5];decide),if_neg (by rw [c8];decide),if_neg (by omega),if_neg (by omega)];exact SubP.refl _,trivial⟩)
set_option maxHeartbeats 1000000 in
theorem Method_ok (h : List Ob) (v : Vl) (s : ByteArray) (hh : HpIn h) (g : Uh h) (hv : v.k = 6 → qC h v.r = true) : Fn Tryz.prog 98 [hpD md h,.agg (vlD v),.v (.string s)] (.tup [.agg (vlD (spS h v s).1),vsD (spS h v s).2.1,.v (.bool (spS h v s).2.2)]) := by
 refine yL zN Tryz.func98 rfl rfl rfl rfl rfl rfl ?_;intro w0 s0 mx;refine zJ 100 ?_;refine zB (zE zN [] 200 rfl ?_);refine zH ?_;refine zV _ (jJ _ _) rfl ?_;refine zH ?_;refine zC (zA (zB (zJ 300 ?_)));refine zS rfl (fun c2 => ?_) (fun c2 => ?_)
 ·replace c2 : ¬ (zR h v).kind = 10 := by simpa using c2
  refine zJ 400 ?_;refine zM (zL ?_);exact FinV.ret rfl (SubP.tup ⟨by rw [spS,if_pos c2];exact (by repeat (first | exact trivial | exact SubP.refl _ | exact SubP.nilSl rfl | refine SubP.agg ?_ | refine ⟨?_,?_⟩)),by rw [spS,if_pos c2];exact SubP.nilSl rfl,by rw [spS,if_pos c2];exact SubP.refl _,trivial⟩)
 ·replace c2 : (zR h v).kind = 10 := by simpa using c2
  have hin := uZ g c2;have hrv := fun hk => gS0 hh g hin s hk;refine zK (zA ?_);refine zB (zE zN [] 500 rfl ?_);refine zH ?_;refine zV _ (xM h (zR h v).cls s hh hin (kW hh g hin)) rfl ?_;refine zH ?_;refine zC (zA (zB (zJ 600 ?_)));refine zS rfl (fun c5 => ?_) (fun c5 => ?_)
  ·replace c5 : (fdO h (yG h (zR h v).cls).order s).isSome = false := by simpa using c5
   refine zJ 700 ?_;refine zM (zL ?_);exact FinV.ret rfl (SubP.tup ⟨by rw [spS,if_neg (not_not_intro c2),if_pos c5];exact (by repeat (first | exact trivial | exact SubP.refl _ | exact SubP.nilSl rfl | refine SubP.agg ?_ | refine ⟨?_,?_⟩)),by rw [spS,if_neg (not_not_intro c2),if_pos c5];exact SubP.nilSl rfl,by rw [spS,if_neg (not_not_intro c2),if_pos c5];exact SubP.refl _,trivial⟩)
  ·replace c5 : (fdO h (yG h (zR h v).cls).order s).isSome = true := by simpa using c5
   refine zK (zA (zB ?_));refine zB (zE zN [] 800 rfl ?_);refine zH ?_;refine zV _ (gV h (fdV h s (fdO h (yG h (zR h v).cls).order s))) rfl ?_;refine zH ?_;refine zC (zA (zS rfl (fun c7 => ?_) (fun c7 => ?_)))
   ·
    refine zB (zW zN [] [[],[],[1],[0],[0,1,2,3],(rgN 5)] 900 yQ (by kernel_rfl) rfl ?_);refine zH ?_;refine zC (zA (zM (zL ?_)));exact FinV.ret rfl (SubP.tup ⟨by rw [spS,if_neg (not_not_intro c2),if_neg (by rw [c5];decide),if_pos c7];exact SubP.refl _,by rw [spS,if_neg (not_not_intro c2),if_neg (by rw [c5];decide),if_pos c7];exact SubP.slrSl rfl,by rw [spS,if_neg (not_not_intro c2),if_neg (by rw [c5];decide),if_pos c7];exact SubP.refl _,trivial⟩)
   ·
    refine zK (zA (zB ?_));refine zB (zE zN [] 1000 rfl ?_);refine zH ?_;refine zV _ (jJ _ _) rfl ?_;refine zH ?_;refine zC (zA (zJ 1100 ?_));refine zQ (zJ 1200 ?_);refine yD (fun c11 => ?_) (fun c11 => ?_)
    ·
     refine zB (zW zN [] [[],[0],[0,1],[0,1,2],[],[4],[4,5],[4,5,6],(rgN 7),(rgN 9),(rgN 10)] 1300 yQ (by kernel_rfl) rfl ?_);repeat (first | refine zF ?_ | refine zG ?_ | refine zT (by exact ⟨by omega,xW g (Or.inr c11)⟩) ?_)
     refine zV _ (O_ok _) rfl ?_;repeat (first | refine zF ?_ | refine zG ?_ | refine zT (by exact ⟨by omega,xW g (Or.inr c11)⟩) ?_)
     refine zC (zA (zM (zP (zL ?_))));exact FinV.ret rfl (SubP.tup ⟨by rw [spS,if_neg (not_not_intro c2),if_neg (by rw [c5];decide),if_neg (by rw [c7];decide),if_neg (by omega),if_pos c11];exact SubP.refl _,by rw [spS,if_neg (not_not_intro c2),if_neg (by rw [c5];decide),if_neg (by rw [c7];decide),if_neg (by omega),if_pos c11];exact SubP.slrSl rfl,by rw [spS,if_neg (not_not_intro c2),if_neg (by rw [c5];decide),if_neg (by rw [c7];decide),if_neg (by omega),if_pos c11];exact SubP.refl _,trivial⟩)
    ·
     refine zJ 1400 ?_;refine yD (fun c13 => ?_) (fun c13 => ?_)
     ·
      refine zB (zE zN [] 1500 rfl ?_);repeat (first | refine zF ?_ | refine zG ?_ | refine zT (by exact ⟨by omega,xW g (Or.inl c13)⟩) ?_)
      refine zC (zA (zM (zP (zL ?_))));exact FinV.ret rfl (SubP.tup ⟨by rw [spS,if_neg (not_not_intro c2),if_neg (by rw [c5];decide),if_neg (by rw [c7];decide),if_pos c13];exact SubP.refl _,by rw [spS,if_neg (not_not_intro c2),if_neg (by rw [c5];decide),if_neg (by rw [c7];decide),if_pos c13];exact SubP.nilSl rfl,by rw [spS,if_neg (not_not_intro c2),if_neg (by rw [c5];decide),if_neg (by rw [c7];decide),if_pos c13];exact SubP.refl _,trivial⟩)
     ·
      refine zK (zO (zA (zJ 1600 ?_)));refine zM ?_;exact FinV.ret rfl (SubP.tup ⟨by rw [spS,if_neg (not_not_intro c2),if_neg (by rw [c5];decide),if_neg (by rw [c7];decide),if_neg (by omega),if_neg (by omega)];exact SubP.refl _,by rw [spS,if_neg (not_not_intro c2),if_neg (by rw [c5];decide),if_neg (by rw [c7];decide),if_neg (by omega),if_neg (by omega)];exact SubP.nilSl rfl,by rw [spS,if_neg (not_not_intro c2),if_neg (by rw [c5];decide),if_neg (by rw [c7];decide),if_neg (by omega),if_neg (by omega)];exact SubP.refl _,trivial⟩)
variable {md me : Bool}
section
variable {P : Program} {b : Ba}
def exJ {ι : Type} (I : ι → DS) (K : Exit → DS → Prop) (ex : Exit) (S : DS) : Prop := match ex with
 | .normal => ∃ i,LeD S (I i)
 | e => K e S
theorem yY {ι : Type} {I : ι → DS} {K : Exit → DS → Prop} {S : DS} (i : ι) (h : LeD S (I i)) : exJ I K .normal S := ⟨i,h⟩
theorem uF {ι : Type} {I : ι → DS} {K : Exit → DS → Prop} {S : DS} (h : K .ret S) : exJ I K .ret S := h
theorem vN {ι : Type} (ks os : List Nat) (N : Nat) (chg : ι → List (Nat × D)) (ochg : ι → List (Nat × DOwn)) {x y : Code} {tm : List (Nat × D)} {ow : List (Nat × DOwn)} {nx : Nat} {K : Exit → DS → Prop}
  (h : gP0 ks tm fun base => gO0 os ow fun ob => Ev P b x ⟨tm,ow,nx⟩ (exJ (fun i => ⟨chg i ++ base,ochg i ++ ob,N⟩) K) ∧ ∀ i,Ev P b y ⟨chg i ++ base,ochg i ++ ob,N⟩ K) : Ev P b (.seq x y) ⟨tm,ow,nx⟩ K := by
 obtain ⟨base,h1⟩ := kP h;obtain ⟨ob,h2,h3⟩ := kO h1;refine zB ?_;intro w s g a Q hr hK;refine h2 w s g a Q hr fun ex w' s' g' a' S' h4 h5 => hK ex w' s' g' a' S' h4 ?_
 cases ex with
 | normal =>
  obtain ⟨i,hi⟩ := h5;exact zI1 _ hi (h3 i)
 | _ => exact h5
end
def thwD (k : Nat) : D → D
 | .own k' sz rows => match Nat.beq k' k with
  | true => match rows with
   | [] => .mo k' 0
   | r :: l => .own k' sz (r :: l)
  | false => .own k' sz rows
 | d => d
def thwL (k : Nat) : List D → List D
 | [] => []
 | d :: l => thwD k d :: thwL k l
def thwT (k : Nat) : List (Nat × D) → List (Nat × D)
 | [] => []
 | (t,d) :: l => (t,thwD k d) :: thwT k l
def thwO (k : Nat) (e : TypeId) (sz : Nat) : List (Nat × DOwn) → List (Nat × DOwn)
 | [] => []
 | (j,c) :: l => (match Nat.beq j k with
  | true => (j,.mrow e sz (.lst []))
  | false => match c with
   | .box t cs => (j,.box t (thwL k cs))
   | c => (j,c)) :: thwO k e sz l
theorem vS0 {k : Nat} : ∀ {l : List (Nat × D)} {t : Nat},yT t (thwT k l) = (yT t l).map (thwD k)
 | [],_ => rfl
 | (u,d) :: l,t => by
  show yT t ((u,thwD k d) :: thwT k l) = _;rw [yR,yR];by_cases h : u = t
  ·simp [h]
  ·rw [if_neg h,if_neg h];exact vS0
theorem kL0 {w : World} {s : Sb} {g : Gh} {k : Nat} (hmo : ∀ v,g.gn k 0 = some v → (TV.mo k 0).P w s g v) {d : D} {v : Value} (hv : d.tv.P w s g v) : (thwD k d).tv.P w s g v := by
 cases d with
 | own k' sz rows =>
  show (match Nat.beq k' k with | true => (match rows with | [] => D.mo k' 0 | r :: l => D.own k' sz (r :: l)) | false => D.own k' sz rows).tv.P w s g v
  cases hb : Nat.beq k' k with
  | false => exact hv
  | true =>
   have e := Nat.eq_of_beq_eq_true hb;subst e
   cases rows with
   | nil =>
    rw [D.tv,TV.P] at hv;show (D.mo k' 0).tv.P w s g v;rw [D.tv];exact hmo v hv.2
   | cons r l => exact hv
 | _ => exact hv
theorem kK0 {w : World} {s : Sb} {g : Gh} {k : Nat} (hmo : ∀ v,g.gn k 0 = some v → (TV.mo k 0).P w s g v) : ∀ {l : List D} {vs : List Value},AllT w s g (D.tvl l) vs → AllT w s g (D.tvl (thwL k l)) vs
 | [],vs,hv => by cases vs with | nil => rw [thwL,D.tvl];trivial | cons _ _ => exact hv.elim
 | d :: l,[],hv => by rw [D.tvl] at hv;exact hv.elim
 | d :: l,v :: vs,hv => by
  rw [D.tvl] at hv;rw [thwL,D.tvl];exact ⟨kL0 hmo hv.1,kK0 hmo hv.2⟩
theorem vU0 {k : Nat} : ∀ {l : List D},(∀ d ∈ D.tvl l,d.one = true) → ∀ d ∈ D.tvl (thwL k l),d.one = true
 | [],_,d,hd => by rw [thwL,D.tvl] at hd;cases hd
 | x :: l,h,d,hd => by
  rw [thwL,D.tvl] at hd;rw [D.tvl] at h;rcases List.mem_cons.1 hd with rfl | hd
  ·have h1 := h x.tv (by simp)
   cases x with
   | own k' sz rows =>
    show (match Nat.beq k' k with | true => (match rows with | [] => D.mo k' 0 | r :: l => D.own k' sz (r :: l)) | false => D.own k' sz rows).tv.one = true
    cases Nat.beq k' k with
    | false => rfl
    | true => cases rows <;> rfl
   | _ => exact h1
  ·exact vU0 (fun y hy => h y (by simp [hy])) d hd
theorem vT0 {k : Nat} {e : TypeId} {sz : Nat} : ∀ {l : List (Nat × DOwn)} {j : Nat} {c : DOwn},yT j (thwO k e sz l) = some c → ∃ c0,yT j l = some c0 ∧ ((j = k ∧ c = .mrow e sz (.lst [])) ∨ (j ≠ k ∧ ((∃ t cs,c0 = .box t cs ∧ c = .box t (thwL k cs)) ∨ (c = c0 ∧ ∀ t cs,c0 ≠ .box t cs))))
 | [],_,_,h => by cases h
 | (i,c0) :: l,j,c,h => by
  unfold thwO at h;have step : ∀ x : DOwn,yT j ((i,x) :: thwO k e sz l) = some c → (i = j ∧ x = c) ∨ (i ≠ j ∧ yT j (thwO k e sz l) = some c) := fun x hx => by
   rw [yR] at hx;by_cases hi : i = j
   ·rw [if_pos hi] at hx;exact .inl ⟨hi,Option.some.inj hx⟩
   ·rw [if_neg hi] at hx;exact .inr ⟨hi,hx⟩
  have rest : i ≠ j → yT j (thwO k e sz l) = some c → ∃ c0',yT j ((i,c0) :: l) = some c0' ∧ ((j = k ∧ c = .mrow e sz (.lst [])) ∨ (j ≠ k ∧ ((∃ t cs,c0' = .box t cs ∧ c = .box t (thwL k cs)) ∨ (c = c0' ∧ ∀ t cs,c0' ≠ .box t cs)))) := fun hi hx => by
   obtain ⟨c1,h1,h2⟩ := vT0 hx;exact ⟨c1,by rw [yR,if_neg hi];exact h1,h2⟩
  cases hb : Nat.beq i k with
  | true =>
   rw [hb] at h;have hik := Nat.eq_of_beq_eq_true hb;rcases step _ h with ⟨rfl,rfl⟩ | ⟨hi,hx⟩
   ·exact ⟨c0,by rw [yR];simp,.inl ⟨hik,rfl⟩⟩
   ·exact rest hi hx
  | false =>
   rw [hb] at h;have hik : i ≠ k := by rintro rfl;rw [Nat.beq_refl] at hb;cases hb
   cases c0 with
   | box t cs =>
    rcases step _ h with ⟨rfl,rfl⟩ | ⟨hi,hx⟩
    ·exact ⟨_,by rw [yR];simp,.inr ⟨hik,.inl ⟨t,cs,rfl,rfl⟩⟩⟩
    ·exact rest hi hx
   | _ =>
    rcases step _ h with ⟨rfl,rfl⟩ | ⟨hi,hx⟩
    ·exact ⟨_,by rw [yR];simp,.inr ⟨hik,.inr ⟨rfl,fun _ _ h => by cases h⟩⟩⟩
    ·exact rest hi hx
section
variable {P : Program} {b : Ba}
theorem gQ (k : Nat) {e : TypeId} {sz : Nat} {c : Code} {tm : List (Nat × D)} {ow : List (Nat × DOwn)} {nx : Nat} {K : Exit → DS → Prop} (hk : yT k ow = some (.row e sz 0))
  (h : Ev P b c ⟨thwT k tm,thwO k e sz ow,nx⟩ K) : Ev P b c ⟨tm,ow,nx⟩ K := by
 intro w s g a Q hr hK;have hk0 : fnd k (ows ow) = some (.row e sz 0) := by rw [qL,hk];rfl
 obtain ⟨hok,hblk⟩ := hr.ow k _ hk0;obtain ⟨hmr,hmo⟩ := hok.thaw;have howf : ∀ {j : Nat} {c : Own},fnd j (ows (thwO k e sz ow)) = some c → ∃ c0,fnd j (ows ow) = some c0 ∧ Ok1 w s g j c ∧ blk g j c = blk g j c0 := fun {j c} hj => by
  rw [qL] at hj
  cases hq : yT j (thwO k e sz ow) with
  | none => rw [hq] at hj;cases hj
  | some d =>
   rw [hq] at hj
   cases hj;obtain ⟨c0,h1,h2⟩ := vT0 hq;have h1' : fnd j (ows ow) = some c0.o := by rw [qL,h1];rfl
   refine ⟨c0.o,h1',?_⟩;rcases h2 with ⟨rfl,rfl⟩ | ⟨hne,⟨t,cs,rfl,rfl⟩ | ⟨rfl,_⟩⟩
   ·rw [hk] at h1
    cases h1;exact ⟨hmr,rfl⟩
   ·obtain ⟨N,vs,g1,g2,g3,g4,g5⟩ := (hr.ow j _ h1').1;exact ⟨⟨N,vs,g1,g2,kK0 hmo g3,vU0 g4,g5⟩,rfl⟩
   ·exact ⟨(hr.ow j _ h1').1,rfl⟩
 refine h w s g a Q ⟨hr.kp,hr.lt,hr.sz,fun t d hd => ?_,fun j c hj => ?_,fun j j' c c' N h1 h2 hne hb => ?_,hr.fr,hr.df,hr.gb⟩ hK
 ·have hd' : fnd t (tvs (thwT k tm)) = some d := hd;rw [qI,vS0] at hd'
  cases hq : yT t tm with
  | none => rw [hq] at hd';cases hd'
  | some x =>
   rw [hq] at hd'
   cases hd';obtain ⟨v,h1,h2⟩ := hr.tm t x.tv (by show fnd t (tvs tm) = _;rw [qI,hq];rfl);exact ⟨v,h1,kL0 hmo h2⟩
 ·obtain ⟨c0,h1,h2,h3⟩ := howf hj;exact ⟨h2,fun N hb => (hr.ow j c0 h1).2 N (by rw [← h3];exact hb)⟩
 ·obtain ⟨c0,e1,_,e3⟩ := howf h1;obtain ⟨d0,f1,_,f3⟩ := howf h2;rw [f3];exact hr.sep j j' c0 d0 N e1 f1 hne (by rw [← e3];exact hb)
end
theorem Sub.mo {k n m : Nat} (h : n = m) : Sub (.mo k n) (.mo k m) := by subst h;exact Sub.refl _
theorem SubO.mr {ty : TypeId} {sz : Nat} {m m' : MR} (h : m.rows = m'.rows) : SubO (.mrow ty sz m) (.mrow ty sz m') := ⟨rfl,rfl,congrArg D.pvss h⟩
theorem SubO.mp {ty : TypeId} {sz : Nat} {m m' : MR} (h : D.pvss m.rows = D.pvss m'.rows) : SubO (.mrow ty sz m) (.mrow ty sz m') := ⟨rfl,rfl,h⟩
end Go.Proofs.YtbhndnphimmjjaaGreatDoor
/-
  DERIVED: THE SHELF's CONTRACTS AT THIS DUMP,IN PLAIN WORDS (tools/lay-plain.mjs out of 'YtbhndnphimmjjaaGreatDoorShelf3.lean',which tools/lay-shelf.mjs wrote): THE SAME DECLARATIONS UNDER THE SAME NAMES: 'import','namespace','open','def','theorem' AND NOTHING ELSE: no command of the shelf's: FOR A HAND-IN. Each laying: the table of numbers ('.._ren') and one theorem,a field a fact of the dump's own or the kernel's comparison;each contract: ONE APPLICATION.
-/
namespace Go.Proofs
open Go.Shelf
def Tryz.laysGrowV_ren : Go.Shelf.Ren := ⟨fun | 4 => 129 | n => n,fun | 22 => 34 | 25 => 29 | 3 => 3 | 4 => 4 | 9 => 9 | 20 => 20 | 0 => 0 | n => n,fun | n => n⟩
theorem uH {α : Type} {a b : α} (h : a = b := by kernel_rfl) : some a = some b := congrArg some h
theorem Tryz.laysGrowV : Go.Proofs.Lays8.n4 Tryz.prog Tryz.laysGrowV_ren := {
 mixed := by kernel_rfl
 f4 := ⟨Tryz.f129.name,by decide,Tryz.func129.trans uH⟩
 t0 := Tryz.underlying0
 a0 := Tryz.isAgg0
 z0 := Tryz.sizeOf0
 v0 := Tryz.zeroValue0
 t3 := Tryz.underlying3
 a3 := Tryz.isAgg3
 z3 := Tryz.sizeOf3
 v3 := Tryz.zeroValue3
 t4 := Tryz.underlying4
 a4 := Tryz.isAgg4
 z4 := Tryz.sizeOf4
 v4 := Tryz.zeroValue4
 t9 := Tryz.underlying9
 a9 := Tryz.isAgg9
 z9 := Tryz.sizeOf9
 v9 := Tryz.zeroValue9
 t20 := Tryz.underlying20
 a20 := Tryz.isAgg20
 z20 := Tryz.sizeOf20
 v20 := Tryz.zeroValue20
 t22 := Tryz.underlying34
 a22 := Tryz.isAgg34
 z22 := Tryz.sizeOf34
 v22 := Tryz.zeroValue34 }
def Tryz.laysItoa_ren : Go.Shelf.Ren := ⟨fun | 171 => 174 | 243 => 187 | 246 => 194 | 283 => 197 | 284 => 198 | 285 => 199 | 286 => 200 | 129 => 206 | 317 => 205 | 318 => 207 | 319 => 208 | 320 => 209 | 337 => 213 | 338 => 214 | n => n,fun | 3 => 3 | 9 => 9 | 2 => 2 | 4 => 4 | 171 => 220 | 0 => 0 | 53 => 189 | 37 => 143 | 5 => 5 | 173 => 223 | 212 => 227 | 51 => 102 | 20 => 20 | 213 => 228 | 46 => 133 | 232 => 235 | 233 => 236 | n => n,fun | 17 => 5 | 18 => 11 | 19 => 12 | n => n⟩
theorem Tryz.laysItoa : Go.Proofs.LaysM.n171 Tryz.prog Tryz.laysItoa_ren := {
 mixed := by kernel_rfl
 f129 := Tryz.func206.trans uH
 f171 := Tryz.func174.trans uH
 f243 := Tryz.func187.trans uH
 f246 := Tryz.func194.trans uH
 f283 := Tryz.func197.trans uH
 f284 := Tryz.func198.trans uH
 f285 := Tryz.func199.trans uH
 f286 := Tryz.func200.trans uH
 f317 := Tryz.func205.trans uH
 f318 := Tryz.func207.trans uH
 f319 := Tryz.func208.trans uH
 f320 := Tryz.func209.trans uH
 f337 := Tryz.func213.trans uH
 f338 := Tryz.func214.trans uH
 t0 := Tryz.underlying0
 a0 := Tryz.isAgg0
 z0 := Tryz.sizeOf0
 v0 := Tryz.zeroValue0
 t2 := Tryz.underlying2
 a2 := Tryz.isAgg2
 z2 := Tryz.sizeOf2
 v2 := Tryz.zeroValue2
 t3 := Tryz.underlying3
 a3 := Tryz.isAgg3
 z3 := Tryz.sizeOf3
 v3 := Tryz.zeroValue3
 t4 := Tryz.underlying4
 a4 := Tryz.isAgg4
 z4 := Tryz.sizeOf4
 v4 := Tryz.zeroValue4
 t5 := Tryz.underlying5
 a5 := Tryz.isAgg5
 z5 := Tryz.sizeOf5
 v5 := Tryz.zeroValue5
 t9 := Tryz.underlying9
 a9 := Tryz.isAgg9
 z9 := Tryz.sizeOf9
 v9 := Tryz.zeroValue9
 t20 := Tryz.underlying20
 a20 := Tryz.isAgg20
 z20 := Tryz.sizeOf20
 v20 := Tryz.zeroValue20
 t37 := Tryz.underlying143
 a37 := Tryz.isAgg143
 z37 := Tryz.sizeOf143
 v37 := Tryz.zeroValue143
 t46 := Tryz.underlying133
 a46 := Tryz.isAgg133
 z46 := Tryz.sizeOf133
 v46 := Tryz.zeroValue133
 t51 := Tryz.underlying102
 a51 := Tryz.isAgg102
 z51 := Tryz.sizeOf102
 v51 := Tryz.zeroValue102
 t53 := Tryz.underlying189
 a53 := Tryz.isAgg189
 z53 := Tryz.sizeOf189
 v53 := Tryz.zeroValue189
 t171 := Tryz.underlying220
 a171 := Tryz.isAgg220
 z171 := Tryz.sizeOf220
 v171 := Tryz.zeroValue220
 t173 := Tryz.underlying223
 a173 := Tryz.isAgg223
 z173 := Tryz.sizeOf223
 v173 := Tryz.zeroValue223
 t212 := Tryz.underlying227
 a212 := Tryz.isAgg227
 z212 := Tryz.sizeOf227
 v212 := Tryz.zeroValue227
 t213 := Tryz.underlying228
 a213 := Tryz.isAgg228
 z213 := Tryz.sizeOf228
 t232 := Tryz.underlying235
 a232 := Tryz.isAgg235
 z232 := Tryz.sizeOf235
 v232 := Tryz.zeroValue235
 t233 := Tryz.underlying236
 a233 := Tryz.isAgg236
 z233 := Tryz.sizeOf236
 v233 := Tryz.zeroValue236
 g17 := by kernel_rfl
 g18 := by kernel_rfl
 g19 := by kernel_rfl
 i0 := by kernel_rfl
 i2 := by kernel_rfl
 i3 := by kernel_rfl
 i4 := by kernel_rfl
 i5 := by kernel_rfl
 i9 := by kernel_rfl
 i20 := by kernel_rfl
 i37 := by kernel_rfl
 i46 := by kernel_rfl
 i51 := by kernel_rfl
 i53 := by kernel_rfl
 i171 := by kernel_rfl
 i173 := by kernel_rfl
 i212 := by kernel_rfl
 i232 := by kernel_rfl
 i233 := by kernel_rfl
 m17 := by kernel_rfl
 m18 := by kernel_rfl
 m19 := by kernel_rfl }
def Tryz.laysQuote_ren : Go.Shelf.Ren := ⟨fun | 177 => 157 | 250 => 175 | 289 => 188 | 197 => 192 | 323 => 195 | 260 => 196 | 339 => 201 | 340 => 202 | 242 => 203 | 119 => 204 | 345 => 210 | 346 => 211 | 278 => 212 | n => n,fun | 9 => 9 | 5 => 5 | 4 => 4 | 3 => 3 | 37 => 143 | 21 => 21 | 105 => 216 | 46 => 133 | 119 => 149 | 0 => 0 | 139 => 168 | 138 => 167 | 49 => 200 | 234 => 230 | 131 => 231 | 51 => 102 | 236 => 25 | n => n,fun | 3 => 1 | 4 => 2 | 20 => 6 | 21 => 7 | 22 => 8 | 23 => 9 | 24 => 10 | n => n⟩
theorem Tryz.laysQuote : Go.Proofs.Lays.n177 Tryz.prog Tryz.laysQuote_ren := {
 mixed := by kernel_rfl
 f119 := Tryz.func204.trans uH
 f177 := Tryz.func157.trans uH
 f197 := Tryz.func192.trans uH
 f242 := Tryz.func203.trans uH
 f250 := Tryz.func175.trans uH
 f260 := Tryz.func196.trans uH
 f278 := Tryz.func212.trans uH
 f289 := Tryz.func188.trans uH
 f323 := Tryz.func195.trans uH
 f339 := Tryz.func201.trans uH
 f340 := Tryz.func202.trans uH
 f345 := Tryz.func210.trans uH
 f346 := Tryz.func211.trans uH
 t0 := Tryz.underlying0
 a0 := Tryz.isAgg0
 z0 := Tryz.sizeOf0
 v0 := Tryz.zeroValue0
 t3 := Tryz.underlying3
 a3 := Tryz.isAgg3
 z3 := Tryz.sizeOf3
 v3 := Tryz.zeroValue3
 t4 := Tryz.underlying4
 a4 := Tryz.isAgg4
 z4 := Tryz.sizeOf4
 v4 := Tryz.zeroValue4
 t5 := Tryz.underlying5
 a5 := Tryz.isAgg5
 z5 := Tryz.sizeOf5
 v5 := Tryz.zeroValue5
 t9 := Tryz.underlying9
 a9 := Tryz.isAgg9
 z9 := Tryz.sizeOf9
 v9 := Tryz.zeroValue9
 t21 := Tryz.underlying21
 a21 := Tryz.isAgg21
 z21 := Tryz.sizeOf21
 v21 := Tryz.zeroValue21
 t37 := Tryz.underlying143
 a37 := Tryz.isAgg143
 z37 := Tryz.sizeOf143
 v37 := Tryz.zeroValue143
 t46 := Tryz.underlying133
 a46 := Tryz.isAgg133
 z46 := Tryz.sizeOf133
 v46 := Tryz.zeroValue133
 t49 := Tryz.underlying200
 a49 := Tryz.isAgg200
 z49 := Tryz.sizeOf200
 v49 := Tryz.zeroValue200
 t51 := Tryz.underlying102
 a51 := Tryz.isAgg102
 z51 := Tryz.sizeOf102
 v51 := Tryz.zeroValue102
 t105 := Tryz.underlying216
 a105 := Tryz.isAgg216
 z105 := Tryz.sizeOf216
 v105 := Tryz.zeroValue216
 t119 := Tryz.underlying149
 a119 := Tryz.isAgg149
 z119 := Tryz.sizeOf149
 t131 := Tryz.underlying231
 a131 := Tryz.isAgg231
 z131 := Tryz.sizeOf231
 v131 := Tryz.zeroValue231
 t138 := Tryz.underlying167
 a138 := Tryz.isAgg167
 z138 := Tryz.sizeOf167
 v138 := Tryz.zeroValue167
 t139 := Tryz.underlying168
 a139 := Tryz.isAgg168
 z139 := Tryz.sizeOf168
 v139 := Tryz.zeroValue168
 t234 := Tryz.underlying230
 a234 := Tryz.isAgg230
 z234 := Tryz.sizeOf230
 v234 := Tryz.zeroValue230
 t236 := Tryz.underlying25
 a236 := Tryz.isAgg25
 z236 := Tryz.sizeOf25
 v236 := Tryz.zeroValue25
 g3 := by kernel_rfl
 g4 := by kernel_rfl
 g20 := by kernel_rfl
 g21 := by kernel_rfl
 g22 := by kernel_rfl
 g23 := by kernel_rfl
 g24 := by kernel_rfl }
end Go.Proofs
namespace Go.Proofs.YtbhndnphimmjjaaGreatDoor
open Go.RowKit Go.Shelf
theorem grow_O {P : Program} {f : FuncId} {e : TypeId} {sz : Nat} (hb : Bod P f) (n : Nat)
  (h0 : n = 0 → ∀ w,Calls P f #[.slice none 0 0,.int .i64 n] w fun r w' => r = .returned (.slice none 0 0) ∧ w' = w)
  (h1 : 0 < n → ∀ w : World,Calls P f #[.slice none 0 0,.int .i64 n] w fun r w' => ∃ (cur : Array Value) (G : Nat),r = .returned (.slice (some ⟨w.heap.size,0,none⟩) 0 G) ∧ w' = w.drew.alloc (.cells cur e) ∧ cur.size = G * sz ∧ G ≤ maxLen) :
  FnO P f [.v (.slice none 0 0),.v (.int .i64 n)] e sz [] := by
 refine ⟨hb,fun w s vs hlt _ hv => ?_⟩
 match vs,hv with
 | [a,b],⟨ha,hb',_⟩ =>
  have ha : a = .slice none 0 0 := ha;have hb' : b = .int .i64 n := hb';subst ha hb';rcases Nat.eq_zero_or_pos n with hn | hn
  ·refine (h0 hn w).mono fun r w' hq => ?_;obtain ⟨rfl,rfl⟩ := hq;refine ⟨s,⟨fun _ => none,fun k m => if k = 0 ∧ m = 0 then some (.slice none 0 0) else none⟩,0,.slice none 0 0,rfl,?_,⟨fun m hm => ?_,_,rfl,.inl ⟨rfl,rfl⟩⟩,fun N hN => ?_,⟨Ex.refl _ _,hlt,rfl,rfl,rfl,Nat.le_refl _,fun _ _ => rfl,fun _ _ h => .inl h,fun _ _ h => .inl h⟩⟩
   ·rw [TV.P];exact ⟨⟨none,0,rfl,Nat.le_refl _,by omega,(fun _ h => by cases h),fun i row h => by simp [D.pvss] at h⟩,rfl⟩
   ·have hm : 0 < m := hm;exact if_neg (by omega)
   ·cases hN
  ·refine (h1 hn w).mono fun r w' hq => ?_;obtain ⟨cur,G,rfl,rfl,hc,hG⟩ := hq;have hnew : (w.drew.alloc (.cells cur e)).heap[w.heap.size]? = some (.cells cur e (0,0)) := heap_alloc_new w.drew _;have hold : ∀ N,N < w.heap.size → (w.drew.alloc (.cells cur e)).heap[N]? = w.heap[N]? := fun N hN => heap_alloc_old w.drew _ hN;have hsz : (w.drew.alloc (.cells cur e)).heap.size = w.heap.size + 1 := by
    show (w.drew.heap.push _).size = _;rw [Array.size_push];rfl
   refine ⟨s,⟨fun _ => none,fun k m => if k = 0 ∧ m = 0 then some (.slice (some ⟨w.heap.size,0,none⟩) 0 G) else none⟩,0,.slice (some ⟨w.heap.size,0,none⟩) 0 G,rfl,?_,⟨fun m hm => ?_,_,rfl,.inr ⟨w.heap.size,G,cur,rfl,.of hnew,Nat.zero_le _,hG,hc,fun o _ h => ?_⟩⟩,fun N hN => ?_,⟨⟨fun _ _ h => h,fun b o hs => vB (hold b (hlt b o hs)),fun _ _ h => h⟩,fun B o h => ?_,rfl,rfl,rfl,by omega,hold,fun _ _ h => .inl h,fun _ _ h => .inl h⟩⟩
   ·rw [TV.P];exact ⟨⟨_,G,rfl,Nat.zero_le _,by unfold maxLen at hG;omega,(fun _ h => by cases h),fun i row h => by simp [D.pvss] at h⟩,rfl⟩
   ·have hm : 0 < m := hm;exact if_neg (by omega)
   ·have := hlt _ _ h;omega
   ·have hN : some w.heap.size = some N := hN
    cases hN;exact Nat.le_refl _
   ·have := hlt B o h;omega
theorem GrowV_ok (n : Nat) (hn : n ≤ 100000000) : FnO Tryz.prog 129 [.v (.slice none 0 0),.v (.int .i64 n)] 29 7 [] := by
 refine grow_O ⟨_,Tryz.func129,rfl,rfl⟩ n (fun h w => ?_) fun h w => ?_
 ·subst h;exact Any8.slices_Grow_room Tryz.laysGrowV none 0 0 0 w (by omega) (by omega) (by omega) (by omega)
 ·obtain ⟨ie,z,hu,hi,hz,hsz,hzc,hs0,hb0,hb1⟩ := (wW (yC (t := 34) zN (show fnd 34 TT = some (.sl 29 7) by rfl))).2.2.h
  have hx := Any8.slices_Grow_grow Tryz.laysGrowV ie z hi hz (by omega) none 0 0 n [] w (Nat.le_refl _) (by omega) (by
   have := Nat.mul_le_mul (show 0 + n ≤ 100000000 by omega) hb1;omega) (by omega) (by simp) (fun _ => rfl) (fun _ h => by cases h)
  refine hx.mono fun r w' hq => ?_;obtain ⟨rfl,rfl⟩ := hq;have hG : n ≤ grownCap w (0 + n) 0 (Tryz.laysGrowV_ren.t 25) := Nat.le_trans (by omega) (grownCap_ge w (0 + n) 0 _);refine ⟨_,_,rfl,rfl,?_,grownCap_le_maxLen w _ _ _ (by unfold maxLen;omega)⟩;simp only [Array.size_append,List.size_toArray,List.length_nil,size_zeroCells,hzc];omega
open Go.RowKit
variable {md me : Bool}
def st0 : St := ⟨0,vl0,0,ByteArray.empty,vl0,[]⟩
def stsD (l : List St) : D := .sl false 18 l stD st0
def vssD (l : List (List Vl)) : D := .sl false 1 l (fun x => [vsD x]) []
def caS (f : Vl) (l : List Vl) : St := ⟨2,vl0,0,ByteArray.empty,f,l⟩
def ctL (L : List (List Vl)) (k : Nat) : List Vl := (L.take k).flatten
theorem bO {L : List (List Vl)} {k : Nat} (h : k < L.length) : ctL L (k + 1) = ctL L k ++ L.getD k [] := by
 unfold ctL;rw [List.take_add_one,List.getElem?_eq_getElem h,List.flatten_append,List.getD_eq_getElem?_getD,List.getElem?_eq_getElem h];simp
theorem pM0 (L : List (List Vl)) (k : Nat) : (ctL L k).length ≤ (ctL L L.length).length := by
 unfold ctL;rw [List.take_length]
 conv => rhs;rw [← List.take_append_drop k L,List.flatten_append,List.length_append]
 omega
theorem tE0 (a b : List Vl) : ctL [a,b] [a,b].length = a ++ b := by simp [ctL]
theorem cJ0 (h : List Ob) (v : Vl) (s : ByteArray) : (spS h v s).2.1.length ≤ 1 := by
 unfold spS;repeat' split
 all_goals first | exact Nat.le_refl _ | exact Nat.zero_le _
theorem cG (L : List (List Vl)) (hl : (ctL L L.length).length ≤ 100000000) (hL : L.length ≤ 1000) : FnO Tryz.prog 95 [vssD L] 29 7 ((ctL L L.length).map vlD) := by
 refine bE Tryz.func95 rfl rfl rfl rfl rfl rfl ?_;intro w0 s0 mx;refine zJ 100 ?_;refine zJ 200 ?_;refine zB (zJ 300 ?_);refine zQ ?_;refine yB (ι := {k : Nat // k ≤ L.length}) [0,9,10] [] 350 (fun x => [(3,.v (.int .i64 ((ctL L x.1).length : Nat))),(11,.v (.int .i64 x.1))]) (fun _ => []) (fun x => L.length - x.1) ⟨0,Nat.zero_le _⟩ ?_;refine ⟨⟨yI,yF,rfl,rfl⟩,fun x => ?_⟩;have hk : x.1 ≤ L.length := x.2;have hf := pM0 L (x.1 + 1);have hn : ∀ h : x.1 < L.length,(ctL L (x.1 + 1)).length = (ctL L x.1).length + (L.getD ((x.1 : Nat) : Int).toNat []).length := fun h => by rw [bO h,List.length_append];rfl
 have hf0 := pM0 L x.1;refine zJ 400 ?_;refine zB (yD (fun c3 => ?_) (fun c3 => ?_))
 ·
  refine zK (zA (zB (zQ (zJ 500 ?_))));refine zB (zE zN [] 600 rfl ?_);repeat (first | refine zF ?_ | refine zG ?_ | refine zT (by first | (have h9 := hn c3;exact ini (by omega) (by omega)) | first | exact trivial | omega | exact ini (by omega) (by omega) | (intro hh;simp at hh;exact ini (by omega) (by omega)) | (intro hh;simp at hh ⊢;omega) | (simp at *;omega) | (simp_all;done)) ?_)
  refine zC (zA (zJ 700 ?_));refine yD (fun c6 => ?_) (fun c6 => ?_)
  ·
   omega
  ·
   refine zK (zO (zA (yS zN [] 900 ?_)));exact zU (⟨x.1 + 1,by omega⟩) ⟨⟨Sub.int (by rw [bO c3,List.length_append];push_cast;rfl),Sub.int (by push_cast;rfl),yI⟩,yF,rfl,rfl⟩ (by show L.length - (x.1 + 1) < L.length - x.1;omega)
 ·
  refine yE (zZ (yA (zX (zA ?_))));refine zB (zE zN [24] 1000 rfl ?_);refine zH ?_;refine uB _ _ _ (GrowV_ok _ (by have := pM0 L x.1;omega)) ?_;refine zH ?_;refine zC (zA (zB (zJ 1100 ?_)));refine zQ ?_;refine yB (ι := {k : Nat // k ≤ L.length}) [25,26] [] 1150 (fun y => [(27,.v (.int .i64 y.1)),(6,.own 401 7 ((ctL L y.1).map vlD))]) (fun y => [(401,.row 29 7 ((ctL L y.1).map vlD).length)]) (fun y => L.length - y.1) ⟨0,Nat.zero_le _⟩ ?_;refine ⟨⟨yI,yF,rfl,rfl⟩,fun y => ?_⟩;have hky : y.1 ≤ L.length := y.2;have hfy := pM0 L (y.1 + 1);have hfy0 := pM0 L y.1;have hny : ∀ h : y.1 < L.length,(ctL L (y.1 + 1)).length = (ctL L y.1).length + (L.getD ((y.1 : Nat) : Int).toNat []).length := fun h => by rw [bO h,List.length_append];rfl
  refine zJ 1200 ?_;refine zB (yD (fun c11 => ?_) (fun c11 => ?_))
  ·
   refine zK (zA (zB (zQ (zJ 1300 ?_))));refine zE zN [] 1400 rfl ?_;repeat (first | refine zF ?_ | refine zG ?_ | refine zT (by first | (have := hny c11;simp only [List.length_map];omega) | first | exact trivial | omega | exact ini (by omega) (by omega) | (intro hh;simp at hh;exact ini (by omega) (by omega)) | (intro hh;simp at hh ⊢;omega) | (simp at *;omega) | (simp_all;done)) ?_)
   refine zC (zO (zA (yS zN [] 1500 ?_)));exact zU (⟨y.1 + 1,by omega⟩) ⟨⟨Sub.int (by push_cast;rfl),Sub.own (by rw [bO c11,List.map_append];rfl),yI⟩,⟨⟨rfl,rfl,by show _ = (List.map vlD (ctL L (y.1 + 1))).length;rw [bO c11];simp⟩,yF⟩,rfl,rfl⟩ (by show L.length - (y.1 + 1) < L.length - y.1;omega)
  ·
   refine yE (zZ (yA (zX (zA (zJ 1600 ?_)))));refine zM ?_;have e : y.1 = L.length := by omega
   exact FinO.ret rfl rfl (by rw [e]) (by rw [e])
theorem tC (f : Vl) (l : List Vl) : Fn Tryz.prog 54 [.agg (vlD f),vsD l] (.agg (stD (caS f l))) := by
 refine yL zN Tryz.func54 rfl rfl rfl rfl rfl rfl ?_;intro w0 s0 mx;refine zJ 100 ?_;refine zJ 200 ?_;refine zM ?_;exact FinV.ret rfl (SubP.agg (by repeat (first | exact trivial | exact SubP.refl _ | exact SubP.nilSl rfl | refine ⟨?_,?_⟩)))
theorem pN (h : List Ob) (v : Vl) (s : ByteArray) (l : List Vl) (hh : HpIn h) (g : Uh h) (hv : v.k = 6 → qC h v.r = true) (hl : l.length ≤ 1000000) : Fn Tryz.prog 55 [hpD md h,.agg (vlD v),.v (.string s),vsD l] (.tup [.agg (stD (caS (spS h v s).1 ((spS h v s).2.1 ++ l))),.v (.bool (spS h v s).2.2)]) := by
 refine yL zN Tryz.func55 rfl rfl rfl rfl rfl rfl ?_;intro w0 s0 mx;refine zJ 100 ?_;refine zB (zE zN [] 200 rfl ?_);refine zH ?_;refine zV _ (Method_ok _ _ _ (by first | assumption | omega | (simp_all;done)) (by first | assumption | omega | (simp_all;done)) (by first | assumption | omega | (simp_all;done))) rfl ?_;refine zH ?_;refine zC (zA ?_);refine zB (zW zN [25] mK11 300 yQ (by kernel_rfl) rfl ?_);refine zH ?_;refine uB _ _ _ ((cG [(spS h v s).2.1,l] (by have := cJ0 h v s;rw [tE0,List.length_append];omega) (by show 2 ≤ 1000;omega)).args ⟨SubP.slrSl rfl,trivial⟩) ?_;refine zH ?_;refine zV _ ((tC _ ((spS h v s).2.1 ++ l)).args ⟨SubP.refl _,SubP.ownSl (by simp [ctL]),trivial⟩) rfl ?_;refine zH ?_;refine zC (zA (zM ?_));exact FinV.ret rfl (SubP.refl _)
variable {md me : Bool}
theorem td_n {e : Int} {s : Nat} (h : e = (s : Int)) : Int.tdiv e 65536 = ((s / 65536 : Nat) : Int) := by rw [h,Int.tdiv_eq_ediv_of_nonneg (by omega)];rfl
theorem tm_n {e : Int} {s : Nat} (h : e = (s : Int)) : Int.tmod e 65536 = ((s % 65536 : Nat) : Int) := by rw [h,Int.tmod_eq_emod_of_nonneg (by omega)];rfl
theorem nD_snoc2 {l : List Nat} {y z : Nat} {e f : Int} (h : e = (y : Int)) (h2 : f = (z : Int)) : l.map nD ++ [[.v (.int .i64 e)],[.v (.int .i64 f)]] = (l ++ [y,z]).map nD := by rw [List.map_append,h,h2];rfl
theorem of_lo {d : Nat} (h : d < 4294967296) : IntKind.i64.wrap (Int.tmod (d : Int) 65536) = ((d % 65536 : Nat) : Int) := by
 rw [tm_n rfl,InI.wrap ⟨by omega,by omega⟩]
theorem of_hi {d : Nat} (h : d < 4294967296) : IntKind.i64.wrap (IntKind.u32.wrap (Int.tdiv (d : Int) 65536)) = ((d / 65536 : Nat) : Int) := by
 rw [td_n rfl,show IntKind.u32.wrap ((d / 65536 : Nat) : Int) = ((d / 65536 : Nat) : Int) by
  simp only [IntKind.wrap,IntKind.signed,IntKind.bits,Bool.false_and,Bool.false_eq_true,if_false];omega,InI.wrap ⟨by omega,by omega⟩]
structure Of3 (l : List Nat) where
 k : Nat
 o : List Nat
 eq : V o = VL (l.take k)
 lo : o.length = 2 * k
 dg : Dg o
 le : k ≤ l.length
def Of3.next {l : List Nat} (x : Of3 l) (hl : Lg l) (h : x.k < l.length) : Of3 l := ⟨x.k + 1,x.o ++ [l.getD x.k 0 % 65536,l.getD x.k 0 / 65536],by rw [bV h];exact mK0 x.eq x.lo h,by simp [x.lo];omega,by rw [bV h];exact cX0 x.dg (hl.at h),h⟩
theorem Of3_ok (l : List Nat) (hg : Lg l) (hl : l.length ≤ 100000000) : Fn Tryz.prog 148 [usD l] (natD (VL l)) := by
 refine yL zN Tryz.func148 rfl rfl rfl rfl rfl rfl ?_;intro w0 s0 mx;refine zJ 100 ?_;refine zJ 200 ?_;refine yV 3 3 1 rfl ?_;refine zB (zJ 300 ?_);refine zQ ?_;refine yB (ι := Of3 l) [0] [] 350 (fun x => [(4,.v (.int .i64 (x.k : Nat))),(3,.own 200 1 (x.o.map nD))]) (fun x => [(200,.row 3 1 (x.o.map nD).length)]) (fun x => l.length - x.k) ⟨0,[],by simp [VL,V],rfl,Dg.nil,Nat.zero_le _⟩ ?_;refine ⟨⟨yI,yF,rfl,rfl⟩,fun x => ?_⟩;have hk := x.le;have hk2 := x.lo;refine zB (zJ 400 ?_);refine yD (fun c3 => ?_) (fun c3 => ?_)
 ·
  refine zK (zA (zB (zQ ?_)));refine zW zN [] [[],[],[],[1,2],[1,2,3],[1,2,3,4],[1,2,3,4,5],[],[],[7,8],[7,8,9],[7,8,9,10],[7,8,9,10,11],[1,2,3,4,5,6,7,8,9,10,11,12],(rgN 14),(rgN 15)] 600 yQ (by kernel_rfl) rfl ?_;refine zH ?_;refine zC (zO (zA (yS zN [] 700 ?_)));have hx := bV c3;have hx2 := hg.at c3;exact zU (x.next hg c3) ⟨(by first | exact trivial | (repeat (first | exact trivial | exact Sub.refl _ | refine ⟨?_,?_⟩ | exact Sub.int (by first | rfl | omega | (push_cast;omega)) | exact Sub.nilSl | exact Sub.own rfl | exact Sub.slrSl rfl | exact Sub.ownSl (List.map_append).symm | exact Sub.ownSl rfl | exact Sub.int (by show (x.k : Int) + 1 = ((x.k + 1 : Nat) : Int);omega) | exact Sub.own (nD_snoc2 (of_lo (by rw [Int.toNat_natCast,hx];exact hx2)) (of_hi (by rw [Int.toNat_natCast,hx];exact hx2)))))),(by repeat (first | exact trivial | exact SubO.same rfl | exact ⟨rfl,rfl,by show _ = (List.map nD (x.o ++ _)).length;simp⟩ | refine ⟨?_,?_⟩)),rfl,rfl⟩ (by show l.length - (x.k + 1) < l.length - x.k;omega)
 ·
  refine yE (zZ (yA (zX (zA ?_))));refine yO [] [] 410 [(3,.sl false 1 x.o nD 0)] [] ?_;refine ⟨⟨⟨Sub.ownSl rfl,trivial⟩,yF,rfl,rfl⟩,?_⟩;refine zB (zE zN [] 700 rfl ?_);refine zH ?_;refine zV _ (uB0 _ x.dg (by rw [hk2];omega)) rfl ?_;refine zH ?_;refine zC (zA (zM ?_));exact FinV.ret rfl (SubP.of_eq (by rw [x.eq,List.take_of_length_le (by omega)]))




def tooB : ByteArray := ⟨#[118,97,108,117,101,32,105,115,32,116,111,111,32,108,97,114,103,101]⟩
end Go.Proofs.YtbhndnphimmjjaaGreatDoor
