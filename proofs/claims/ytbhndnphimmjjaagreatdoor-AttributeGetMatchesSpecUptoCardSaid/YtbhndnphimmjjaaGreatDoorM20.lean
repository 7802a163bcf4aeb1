/- Part 20 of the proof. -/
import Derived.Test.YtbhndnphimmjjaaGreatDoorM19
import Derived.Test.YtbhndnphimmjjaaGreatDoorM12
import Derived.Test.YtbhndnphimmjjaaGreatDoorM13
namespace Go.Proofs.YtbhndnphimmjjaaGreatDoor
open Go.RowKit
variable {md me : Bool}
def kcL : List Int := [2,3,4,5,6,7,0,15,27,2]
def ocL : List Int := [0,8,9,10,11,12,13,14,16,1,0,17,18,19,20,21,22,23,24,25,26]
def ocS (o : Ob) : Int := if o.kind = 10 then o.cls else ocL.getD o.kind.toNat 0
def clA (h : List Ob) (v : Vl) : Int := if v.k = 6 then ocS (yA h v.r) else kcL.getD v.k.toNat 0
theorem voks_k {v : Vl} (h : jF v = true) : 0 ≤ v.k ∧ v.k < 9 := by
 unfold jF at h;repeat' split at h
 all_goals first | omega | cases h
structure Cf (h : List Ob) (v : Vl) : Prop where
 k : 0 ≤ v.k ∧ v.k < 9
 obj : v.k = 6 → yW h v.r = true
 kind : v.k = 6 → 0 < (yA h v.r).kind ∧ (yA h v.r).kind < 21
 cls : v.k = 6 → (yA h v.r).kind = 10 → inH h (yA h v.r).cls
theorem Uh.kind {h : List Ob} (g : Uh h) {n : Int} (hn : yW h n = true) : 0 < (yA h n).kind ∧ (yA h n).kind < 21 := by
 have hi := yQ hn;by_cases h49 : n.toNat < 49
 ·rw [show yA h n = bgO n.toNat from g.lo_at h49];exact ⟨by show (0 : Int) < 9;decide,by show (9 : Int) < 21;decide⟩
 ·have h1 := (g.hi_at (by omega) hi.2).kind;have h2 : ¬ (yA h n).kind = 0 := by
   intro h0;simp only [yW,Bool.and_eq_true] at hn;have := hn.2;rw [show (h.getD n.toNat ob0).kind = 0 from h0] at this;exact absurd this (by decide)
  exact ⟨by have := h1.1;show 0 < (yA h n).kind;have h3 : (yA h ((n.toNat : Nat) : Int)).kind = (yA h n).kind := rfl;omega,h1.2⟩
theorem wF0 {h : List Ob} {v : Vl} (g : Uh h) (hh : hasS h v = true) : Cf h v := by
 have hv : jF v = true := by
  simp only [hasS,Bool.and_eq_true] at hh;exact hh.1
 exact ⟨voks_k hv,kI hh,fun hk => g.kind (kI hh hk),fun hk => g.cls (yQ (kI hh hk))⟩
theorem oc_ge {k : Int} (h : 15 ≤ k) (h2 : k < 21) : ocL.getD k.toNat 0 = 21 + k - 15 := by
 obtain ⟨n,rfl⟩ : ∃ n : Nat,k = (n : Int) := ⟨k.toNat,by omega⟩;have := List.all_eq_true.1 (show (List.range 21).all (fun n => decide (n < 15 ∨ ocL.getD n 0 = 21 + (n : Int) - 15)) = true by decide +kernel) n (List.mem_range.2 (by omega));have := (of_decide_eq_true this).resolve_left (by omega);exact this
theorem oc_lt {k : Int} (h : 1 ≤ k) (h2 : k < 8) : ocL.getD k.toNat 0 = 8 + k - 1 := by
 obtain ⟨n,rfl⟩ : ∃ n : Nat,k = (n : Int) := ⟨k.toNat,by omega⟩;have := List.all_eq_true.1 (show (List.range 8).all (fun n => decide (n < 1 ∨ ocL.getD n 0 = 8 + (n : Int) - 1)) = true by decide +kernel) n (List.mem_range.2 (by omega));have := (of_decide_eq_true this).resolve_left (by omega);exact this
theorem ocS_in {h : List Ob} {o : Ob} (g : Uh h) (hk : 0 < o.kind ∧ o.kind < 21) (hc : o.kind = 10 → inH h o.cls) : inH h (ocS o) := by
 unfold ocS;split
 ·rename_i h1;exact hc h1
 ·have h3 := List.all_eq_true.1 (show (List.range 21).all (fun n => decide (0 ≤ ocL.getD n 0 ∧ ocL.getD n 0 < 49)) = true by decide +kernel) o.kind.toNat (List.mem_range.2 (by omega));have h4 := of_decide_eq_true h3;have := g.lo;exact ⟨h4.1,by omega⟩
theorem xW {h : List Ob} {v : Vl} (g : Uh h) (c : Cf h v) : inH h (clA h v) := by
 unfold clA;split
 ·rename_i h1;exact ocS_in g (c.kind h1) (c.cls h1)
 ·have h3 := List.all_eq_true.1 (show (List.range 9).all (fun n => decide (0 ≤ kcL.getD n 0 ∧ kcL.getD n 0 < 49)) = true by decide +kernel) v.k.toNat (List.mem_range.2 (by have := c.k;omega));have h4 := of_decide_eq_true h3;have := g.lo;exact ⟨h4.1,by omega⟩
theorem kindClasses_ok  : Fn Tryz.prog 127 [] (isD kcL) := by
 refine yL zM Tryz.func127 rfl rfl rfl rfl rfl rfl ?_;intro w0 s0 mx;refine zL 100 ?_;refine zL 200 ?_;refine zJ ?_;exact FinV.ret rfl (SubP.slrSl rfl)
theorem objectClasses_ok  : Fn Tryz.prog 128 [] (isD ocL) := by
 refine yL zM Tryz.func128 rfl rfl rfl rfl rfl rfl ?_;intro w0 s0 mx;refine zL 100 ?_;refine zL 200 ?_;refine zJ ?_;exact FinV.ret rfl (SubP.slrSl rfl)
theorem wC (h : List Ob) (v : Vl) (c : Cf h v) : Fn Tryz.prog 91 [hpD md h,.agg (vlD v)] (.v (.int .i64 (clA h v))) := by
 refine yL zM Tryz.func91 rfl rfl rfl rfl rfl rfl ?_;intro w0 s0 mx;refine zL 100 ?_;refine zB (zL 200 ?_);refine zS rfl (fun c1 => ?_) (fun c1 => ?_)
 ·replace c1 : ¬ v.k = 6 := by have h1 := c1;simp only [Bool.not_eq_true',decide_eq_false_iff_not] at h1;exact h1
  refine zB (zV zM [] [[],[],[1],[0,1,2],[0,1,2,3],(rgN 5)] 300 yR (by kernel_rfl) rfl ?_);repeat (first | refine zG ?_ | refine zH ?_ | refine zU (by exact ⟨c.k.1,by show v.k.toNat < 10;have := c.k;omega⟩) ?_)
  refine zT _ (kindClasses_ok) rfl ?_;repeat (first | refine zG ?_ | refine zH ?_ | refine zU (by exact ⟨c.k.1,by show v.k.toNat < 10;have := c.k;omega⟩) ?_)
  refine zC (zA (zJ (zK ?_)));exact FinV.ret rfl (SubP.int (by rw [clA,if_neg c1]))
 ·replace c1 : v.k = 6 := by have h1 := c1;simp only [Bool.not_eq_false',decide_eq_true_eq] at h1;exact h1
  refine zO (zA ?_);refine zB (zE zM [] 400 rfl ?_);repeat (first | refine zG ?_ | refine zH ?_ | refine zU (by exact yQ (c.obj c1)) ?_)
  refine zC (zA (zB (zL 500 ?_)));refine zS rfl (fun c4 => ?_) (fun c4 => ?_)
  ·first | replace c4 := of_decide_eq_true c4 | replace c4 := of_decide_eq_false c4
   refine zL 600 ?_;refine zJ (zK ?_);exact FinV.ret rfl (SubP.int (by rw [clA,if_pos c1,ocS,if_pos c4]))
  ·first | replace c4 := of_decide_eq_true c4 | replace c4 := of_decide_eq_false c4
   refine zO (zA ?_);refine zB (zV zM [] [[],[],[1],[0,1,2],[0,1,2,3],(rgN 5)] 700 yR (by kernel_rfl) rfl ?_);repeat (first | refine zG ?_ | refine zH ?_ | refine zU (by exact ⟨Int.le_of_lt (c.kind c1).1,by show (yA h v.r).kind.toNat < 21;have h1 : 0 < (yA h v.r).kind ∧ (yA h v.r).kind < 21 := c.kind c1;omega⟩) ?_)
   refine zT _ (objectClasses_ok) rfl ?_;repeat (first | refine zG ?_ | refine zH ?_ | refine zU (by exact ⟨Int.le_of_lt (c.kind c1).1,by show (yA h v.r).kind.toNat < 21;have h1 : 0 < (yA h v.r).kind ∧ (yA h v.r).kind < 21 := c.kind c1;omega⟩) ?_)
   refine zC (zA (zJ ?_));exact FinV.ret rfl (SubP.int (by rw [clA,if_pos c1,ocS,if_neg c4]))
theorem wR {P : Program} {K : DS → Prop} {p : Prop} {r : Out} (hr : r.sat P K) (hp : p := by first | exact ini (by omega) (by omega) | omega) : (Out.need p r).sat P K := ⟨hp,hr⟩
theorem classOfObject_ok (o : Ob) (hk : 0 < o.kind ∧ o.kind < 21) : Fn Tryz.prog 103 [.agg (obD o)] (.v (.int .i64 (ocS o))) := by
 refine yL zM Tryz.func103 rfl rfl rfl rfl rfl rfl ?_;intro w0 s0 mx;refine zB (zE zM [] 100 rfl ?_);repeat (first | refine zG ?_ | refine zH ?_ | refine wR ?_)
 refine zC (zA (zB ?_));refine zB (zE zM [] 200 rfl ?_);repeat (first | refine zG ?_ | refine zH ?_ | refine wR ?_)
 refine zC (zA (zQ ?_));refine zB (zE zM [] 300 rfl ?_);repeat (first | refine zG ?_ | refine zH ?_ | refine wR ?_)
 refine zC (zA (zS rfl (fun c2 => ?_) (fun c2 => ?_)))
 ·first | replace c2 := of_decide_eq_true c2 | replace c2 := of_decide_eq_false c2
  refine zB (zE zM [] 400 rfl ?_);repeat (first | refine zG ?_ | refine zH ?_ | refine wR ?_)
  refine zC (zA (zJ (zN (zK ?_))));exact FinV.ret rfl (SubP.int (by rw [ocS,if_pos c2]))
 ·first | replace c2 := of_decide_eq_true c2 | replace c2 := of_decide_eq_false c2
  refine zB (zE zM [] 500 rfl ?_);repeat (first | refine zG ?_ | refine zH ?_ | refine wR ?_)
  refine zC (zA (zS rfl (fun c4 => ?_) (fun c4 => ?_)))
  ·first | replace c4 := of_decide_eq_true c4 | replace c4 := of_decide_eq_false c4
   refine zB (zE zM [] 600 rfl ?_);repeat (first | refine zG ?_ | refine zH ?_ | refine wR ?_)
   refine zC (zA (zJ (zN (zK ?_))));exact FinV.ret rfl (SubP.int (by rw [ocS,if_neg c2,c4];rfl))
  ·first | replace c4 := of_decide_eq_true c4 | replace c4 := of_decide_eq_false c4
   refine zB (zE zM [] 700 rfl ?_);repeat (first | refine zG ?_ | refine zH ?_ | refine wR ?_)
   refine zC (zA (zS rfl (fun c6 => ?_) (fun c6 => ?_)))
   ·first | replace c6 := of_decide_eq_true c6 | replace c6 := of_decide_eq_false c6
    refine zB (zE zM [] 800 rfl ?_);repeat (first | refine zG ?_ | refine zH ?_ | refine wR ?_)
    refine zC (zA (zJ (zN (zK ?_))));exact FinV.ret rfl (SubP.int (by rw [ocS,if_neg c2,c6];rfl))
   ·first | replace c6 := of_decide_eq_true c6 | replace c6 := of_decide_eq_false c6
    refine zB (zE zM [] 900 rfl ?_);repeat (first | refine zG ?_ | refine zH ?_ | refine wR ?_)
    refine zC (zA (zS rfl (fun c8 => ?_) (fun c8 => ?_)))
    ·first | replace c8 := of_decide_eq_true c8 | replace c8 := of_decide_eq_false c8
     refine zB (zE zM [] 1000 rfl ?_);repeat (first | refine zG ?_ | refine zH ?_ | refine wR ?_)
     refine zC (zA (zJ (zN (zK ?_))));exact FinV.ret rfl (SubP.int (by rw [ocS,if_neg c2,c8];rfl))
    ·first | replace c8 := of_decide_eq_true c8 | replace c8 := of_decide_eq_false c8
     refine zB (zE zM [] 1100 rfl ?_);repeat (first | refine zG ?_ | refine zH ?_ | refine wR ?_)
     refine zC (zA (zS rfl (fun c10 => ?_) (fun c10 => ?_)))
     ·first | replace c10 := of_decide_eq_true c10 | replace c10 := of_decide_eq_false c10
      refine zB (zE zM [] 1200 rfl ?_);repeat (first | refine zG ?_ | refine zH ?_ | refine wR ?_)
      refine zC (zA (zJ (zN (zK ?_))));exact FinV.ret rfl (SubP.int (by rw [ocS,if_neg c2,c10];rfl))
     ·first | replace c10 := of_decide_eq_true c10 | replace c10 := of_decide_eq_false c10
      refine zB (zE zM [] 1300 rfl ?_);repeat (first | refine zG ?_ | refine zH ?_ | refine wR ?_)
      refine zC (zA (zS rfl (fun c12 => ?_) (fun c12 => ?_)))
      ·first | replace c12 := of_decide_eq_true c12 | replace c12 := of_decide_eq_false c12
       refine zB (zE zM [] 1400 rfl ?_);repeat (first | refine zG ?_ | refine zH ?_ | refine wR ?_)
       refine zC (zA (zJ (zN (zK ?_))));exact FinV.ret rfl (SubP.int (by rw [ocS,if_neg c2,c12];rfl))
      ·first | replace c12 := of_decide_eq_true c12 | replace c12 := of_decide_eq_false c12
       refine zB (zE zM [] 1500 rfl ?_);repeat (first | refine zG ?_ | refine zH ?_ | refine wR ?_)
       refine zC (zA (zS rfl (fun c14 => ?_) (fun c14 => ?_)))
       ·first | replace c14 := of_decide_eq_true c14 | replace c14 := of_decide_eq_false c14
        refine zB (zE zM [] 1600 rfl ?_);repeat (first | refine zG ?_ | refine zH ?_ | refine wR ?_)
        refine zC (zA (zJ (zN (zK ?_))));exact FinV.ret rfl (SubP.int (by rw [ocS,if_neg c2,c14];rfl))
       ·first | replace c14 := of_decide_eq_true c14 | replace c14 := of_decide_eq_false c14
        refine zO (zP (zA (zB ?_)));refine zB (zE zM [] 1700 rfl ?_);repeat (first | refine zG ?_ | refine zH ?_ | refine wR ?_)
        refine zC (zA (zS rfl (fun c16 => ?_) (fun c16 => ?_)))
        ·first | replace c16 := of_decide_eq_true c16 | replace c16 := of_decide_eq_false c16
         refine zB (zE zM [] 1800 rfl ?_);repeat (first | refine zG ?_ | refine zH ?_ | refine wR ?_)
         refine zC (zA (zJ (zK ?_)));exact FinV.ret rfl (SubP.int (by rw [ocS,if_neg c2,oc_ge (by omega) hk.2]))
        ·first | replace c16 := of_decide_eq_true c16 | replace c16 := of_decide_eq_false c16
         refine zO (zA ?_);refine zB (zE zM [] 1900 rfl ?_);repeat (first | refine zG ?_ | refine zH ?_ | refine wR ?_)
         refine zC (zA (zJ ?_));exact FinV.ret rfl (SubP.int (by rw [ocS,if_neg c2,oc_lt (by omega) (by omega)]))
theorem zH0 (h : List Ob) (v : Vl) (c : Cf h v) : Fn Tryz.prog 68 [hpD md h,.agg (vlD v)] (.v (.int .i64 (clA h v))) := by
 refine yL zM Tryz.func68 rfl rfl rfl rfl rfl rfl ?_;intro w0 s0 mx;refine zL 100 ?_;refine zB (zL 200 ?_);refine zQ (zL 300 ?_);refine zS rfl (fun c2 => ?_) (fun c2 => ?_)
 ·first | replace c2 := of_decide_eq_true c2 | replace c2 := of_decide_eq_false c2
  refine zL 400 ?_;refine zJ (zN (zK ?_));exact FinV.ret rfl (SubP.int (by rw [clA,if_neg (by omega),c2];rfl))
 ·first | replace c2 := of_decide_eq_true c2 | replace c2 := of_decide_eq_false c2
  refine zL 500 ?_;refine zS rfl (fun c4 => ?_) (fun c4 => ?_)
  ·first | replace c4 := of_decide_eq_true c4 | replace c4 := of_decide_eq_false c4
   refine zL 600 ?_;refine zJ (zN (zK ?_));exact FinV.ret rfl (SubP.int (by rw [clA,if_neg (by omega),c4];rfl))
  ·first | replace c4 := of_decide_eq_true c4 | replace c4 := of_decide_eq_false c4
   refine zL 700 ?_;refine zS rfl (fun c6 => ?_) (fun c6 => ?_)
   ·first | replace c6 := of_decide_eq_true c6 | replace c6 := of_decide_eq_false c6
    refine zL 800 ?_;refine zJ (zN (zK ?_));exact FinV.ret rfl (SubP.int (by rw [clA,if_neg (by omega),c6];rfl))
   ·first | replace c6 := of_decide_eq_true c6 | replace c6 := of_decide_eq_false c6
    refine zL 900 ?_;refine zS rfl (fun c8 => ?_) (fun c8 => ?_)
    ·first | replace c8 := of_decide_eq_true c8 | replace c8 := of_decide_eq_false c8
     refine zL 1000 ?_;refine zJ (zN (zK ?_));exact FinV.ret rfl (SubP.int (by rw [clA,if_neg (by omega),c8];rfl))
    ·first | replace c8 := of_decide_eq_true c8 | replace c8 := of_decide_eq_false c8
     refine zL 1100 ?_;refine zS rfl (fun c10 => ?_) (fun c10 => ?_)
     ·first | replace c10 := of_decide_eq_true c10 | replace c10 := of_decide_eq_false c10
      refine zL 1200 ?_;refine zJ (zN (zK ?_));exact FinV.ret rfl (SubP.int (by rw [clA,if_neg (by omega),c10];rfl))
     ·first | replace c10 := of_decide_eq_true c10 | replace c10 := of_decide_eq_false c10
      refine zL 1300 ?_;refine zS rfl (fun c12 => ?_) (fun c12 => ?_)
      ·first | replace c12 := of_decide_eq_true c12 | replace c12 := of_decide_eq_false c12
       refine zL 1400 ?_;refine zJ (zN (zK ?_));exact FinV.ret rfl (SubP.int (by rw [clA,if_neg (by omega),c12];rfl))
      ·first | replace c12 := of_decide_eq_true c12 | replace c12 := of_decide_eq_false c12
       refine zL 1500 ?_;refine zS rfl (fun c14 => ?_) (fun c14 => ?_)
       ·first | replace c14 := of_decide_eq_true c14 | replace c14 := of_decide_eq_false c14
        refine zL 1600 ?_;refine zJ (zN (zK ?_));exact FinV.ret rfl (SubP.int (by rw [clA,if_neg (by omega),c14];rfl))
       ·first | replace c14 := of_decide_eq_true c14 | replace c14 := of_decide_eq_false c14
        refine zL 1700 ?_;refine zS rfl (fun c16 => ?_) (fun c16 => ?_)
        ·first | replace c16 := of_decide_eq_true c16 | replace c16 := of_decide_eq_false c16
         refine zB (zE zM [] 1800 rfl ?_);repeat (first | refine zG ?_ | refine zH ?_ | refine zU (by exact yQ (c.obj c16)) ?_)
         refine zT _ (classOfObject_ok _ (c.kind c16)) rfl ?_;repeat (first | refine zG ?_ | refine zH ?_ | refine zU (by exact yQ (c.obj c16)) ?_)
         refine zC (zA (zJ (zN (zK ?_))));exact FinV.ret rfl (SubP.int (by rw [clA,if_pos c16]))
        ·first | replace c16 := of_decide_eq_true c16 | replace c16 := of_decide_eq_false c16
         refine zO (zP (zA (zL 1900 ?_)));refine zJ ?_;exact FinV.ret rfl (SubP.int (by rw [clA,if_neg c16,show v.k = 0 by have := c.k;omega];rfl))
theorem heapName_ok (h : List Ob) (v : Vl) (g : Uh h) (c : Cf h v) : Fn Tryz.prog 38 [hpD md h,.agg (vlD v)] (.v (.string (yA h (clA h v)).name)) := by
 refine yL zM Tryz.func38 rfl rfl rfl rfl rfl rfl ?_;intro w0 s0 mx;refine zL 100 ?_;refine zB (zV zM [] mK12 200 yR (by kernel_rfl) rfl ?_);repeat (first | refine zG ?_ | refine zH ?_ | refine zU (by exact xW g c) ?_)
 refine zT _ (wC h v c) rfl ?_;repeat (first | refine zG ?_ | refine zH ?_ | refine zU (by exact xW g c) ?_)
 refine zC (zA (zJ ?_));exact FinV.ret rfl (SubP.refl _)
theorem ClassName_ok (h : List Ob) (v : Vl) (g : Uh h) (c : Cf h v) : Fn Tryz.prog 52 [hpD md h,.agg (vlD v)] (.v (.string (yA h (clA h v)).name)) := by
 refine yL zM Tryz.func52 rfl rfl rfl rfl rfl rfl ?_;intro w0 s0 mx;refine zL 100 ?_;refine zB (zV zM [] mK12 200 yR (by kernel_rfl) rfl ?_);repeat (first | refine zG ?_ | refine zH ?_ | refine zU (by exact xW g c) ?_)
 refine zT _ (zH0 h v c) rfl ?_;repeat (first | refine zG ?_ | refine zH ?_ | refine zU (by exact xW g c) ?_)
 refine zC (zA (zJ ?_));exact FinV.ret rfl (SubP.refl _)
variable {md me : Bool}
variable {md me : Bool}
theorem bAt_lt (s : ByteArray) (i : Nat) : bAt s i < 256 := by
 unfold bAt;split
 ·exact UInt8.toNat_lt _
 ·decide
variable {md me : Bool}
def nuV (n : Int) : Vl := ⟨2,decide (n < 0),lim n.natAbs,false,[],ByteArray.empty,0⟩
variable {md me : Bool}
def nD (n : Nat) : List D := [.v (.int .i64 n)]
def natD (n : Nat) : D := .sl false 1 (dig n) nD 0
structure Trm (l : List Nat) where
 r : List Nat
 dg : Dg r
 eq : V r = V l
 le : r.length ≤ l.length
theorem last_take {r : List Nat} (h : 0 < r.length) (h0 : r.getD (r.length - 1) 0 = 0) : V (r.take (r.length - 1)) = V r := by
 have h1 := uF r (r.length - 1);rw [h0,show r.length - 1 + 1 = r.length by omega,List.take_of_length_le (Nat.le_refl _)] at h1;omega
def Trm.next {l : List Nat} (x : Trm l) (h : 0 < x.r.length) (h0 : x.r.getD (x.r.length - 1) 0 = 0) : Trm l := ⟨x.r.take (x.r.length - 1),x.dg.take _,by rw [last_take h h0,x.eq],by have := x.le;simp;omega⟩
theorem Trm.fin {l : List Nat} (x : Trm l) (h : 0 < x.r.length → x.r.getD (x.r.length - 1) 0 ≠ 0) : x.r = dig (V l) := by
 rw [← x.eq];refine (yW1 x.dg fun hne => ?_).symm;have hp : 0 < x.r.length := List.length_pos_iff.2 hne;rw [List.getLast_eq_getElem,← xP (by omega)];exact h hp
structure Bn (l : List Bool) where
 j : Nat
 o : List Nat
 eq : V o = VB (l.take (16 * j))
 lo : o.length = j
 dg : Dg o
 le : 16 * j ≤ l.length + 15
def Bn.next {l : List Bool} (x : Bn l) (h : 16 * x.j < l.length) : Bn l := ⟨x.j + 1,x.o ++ [xF l (16 * x.j) 0],binary_step x.eq x.lo h,by simp [x.lo],x.dg.snoc (gM0 _ _ _),by omega⟩
theorem t_cut {α : Type} (r : List α) : List.take (((r.length : Int) - 1).toNat - Int.toNat 0) (List.drop (Int.toNat 0) r) = r.take (r.length - 1) := by
 show List.take _ r = _;congr 1;simp
theorem tF0 (r : List Nat) : r.getD ((r.length : Int) - 1).toNat 0 = r.getD (r.length - 1) 0 := by congr 1;omega
theorem gN0 {l : List Bool} {i k : Nat} (hk : k < 16) : xF l i k = xF l i (k + 1) * 2 + (if decide (i + k < l.length) && l.getD (i + k) false then 1 else 0) := by
 rw [chunk_step hk,Nat.mul_comm];by_cases h : i + k < l.length
 ·rw [dif_pos h,decide_eq_true h,Bool.true_and,List.getD_eq_getElem?_getD,List.getElem?_eq_getElem h];cases l[i + k] <;> rfl
 ·rw [dif_neg h,decide_eq_false h];rfl
def uI0 (l : List Bool) (i k : Nat) : Bool := decide (i + k < l.length) && l.getD (i + k) false
theorem chunk_one {l : List Bool} {i k : Nat} (hk : k < 16) (h : uI0 l i k = true) : xF l i k = xF l i (k + 1) * 2 + 1 := by rw [gN0 hk];unfold uI0 at h;rw [h];rfl
theorem chunk_nil {l : List Bool} {i k : Nat} (hk : k < 16) (h : uI0 l i k = false) : xF l i k = xF l i (k + 1) * 2 := by rw [gN0 hk];unfold uI0 at h;rw [h];rfl
structure Bj where
 k : Nat
 le : k ≤ 16
theorem bit_T {l : List Bool} {I k : Nat} (hk : 1 ≤ k) (h : (I : Int) + ((k : Int) - 1) < l.length ∧ l.getD ((I : Int) + ((k : Int) - 1)).toNat false = true) : uI0 l I (k - 1) = true := by
 unfold uI0;rw [show ((I : Int) + ((k : Int) - 1)).toNat = I + (k - 1) by omega] at h;rw [h.2,decide_eq_true (by omega)];rfl
theorem bit_F {l : List Bool} {I k : Nat} (hk : 1 ≤ k) (h : (decide ((I : Int) + ((k : Int) - 1) < l.length) && l.getD ((I : Int) + ((k : Int) - 1)).toNat false) = false) : uI0 l I (k - 1) = false := by
 unfold uI0;rw [show ((I : Int) + ((k : Int) - 1)).toNat = I + (k - 1) by omega] at h;rw [show decide (I + (k - 1) < l.length) = decide ((I : Int) + ((k : Int) - 1) < l.length) from decide_eq_decide.2 (by omega)];exact h
theorem Bn.all {l : List Bool} (x : Bn l) (h : l.length ≤ 16 * x.j) : V x.o = VB l := by rw [x.eq,List.take_of_length_le h]
structure Nb (n : Int) where
 m : Int
 o : List Bool
 eq : VB o + m.natAbs * 2 ^ o.length = n.natAbs
 lo : -9223372036854775808 ≤ m
 hi : m ≤ 9223372036854775807
 ln : o.length ≤ 64
theorem nb_bit (m : Int) : (!decide (Int.tmod m 2 = 0)) = (m.natAbs % 2 == 1) := by
 have : (Int.tmod m 2).natAbs = m.natAbs % 2 := by
  rw [Int.natAbs_tmod];rfl
 rw [Bool.eq_iff_iff,Bool.not_eq_true',decide_eq_false_iff_not,beq_iff_eq,← this];have h : (Int.tmod m 2).natAbs < 2 := by rw [this];omega
 omega
theorem bR (m : Int) : (Int.tdiv m 2).natAbs = m.natAbs / 2 := by rw [Int.natAbs_tdiv];rfl
def Nb.next {n : Int} (x : Nb n) (h : x.o.length ≤ 63) : Nb n := ⟨Int.tdiv x.m 2,x.o ++ [!decide (Int.tmod x.m 2 = 0)],by
 rw [nb_bit,bR,List.length_append,List.length_singleton];exact ones_step x.eq rfl,by have := bR x.m;have := x.lo;have := x.hi;omega,by have := bR x.m;have := x.lo;have := x.hi;omega,by simp;omega⟩
theorem Nb.len {n : Int} (x : Nb n) (h : ¬ x.m = 0) (h1 : -9223372036854775808 ≤ n) (h2 : n ≤ 9223372036854775807) : x.o.length ≤ 63 := by
 rcases Nat.lt_or_ge 63 x.o.length with h3 | h3
 ·have h4 : 2 ^ 64 ≤ 2 ^ x.o.length := Nat.pow_le_pow_right (by omega) h3;have h5 : 1 * 2 ^ x.o.length ≤ x.m.natAbs * 2 ^ x.o.length := Nat.mul_le_mul_right _ (by omega);have h6 := x.eq;omega
 ·exact h3
theorem Nb.fin {n : Int} (x : Nb n) (h : x.m = 0) : VB x.o = n.natAbs := by rw [← x.eq,h];simp
structure Lb (n : Nat) where
 j : Nat
 o : List Nat
 eq : VL o = V ((dig n).take (2 * j))
 lo : o.length = j
 lg : Lg o
 le : 2 * j < (dig n).length + 2
theorem cX (n i : Nat) : (dig n).getD i 0 < 65536 := by
 rcases Nat.lt_or_ge i (dig n).length with h | h
 ·rw [xP h];exact (xU n).at h
 ·rw [kJ h];omega
def lbD (n j : Nat) : Nat := (dig n).getD (2 * j) 0 + (dig n).getD (2 * j + 1) 0 * 65536
theorem lb_T (n j : Nat) : IntKind.u32.wrap (IntKind.u32.wrap (((dig n).getD (2 * j) 0 : Nat) : Int) + IntKind.u32.wrap (IntKind.u32.wrap (((dig n).getD (2 * j + 1) 0 : Nat) : Int) * 65536)) = ((lbD n j : Nat) : Int) := by
 have h1 := cX n (2 * j);have h2 := cX n (2 * j + 1);unfold lbD;simp only [IntKind.wrap,IntKind.signed,IntKind.bits,Bool.false_and,Bool.false_eq_true,if_false];omega
theorem lb_F (n j : Nat) (h : (dig n).length ≤ 2 * j + 1) : IntKind.u32.wrap (((dig n).getD (2 * j) 0 : Nat) : Int) = ((lbD n j : Nat) : Int) := by
 have h1 := cX n (2 * j);unfold lbD;rw [kJ h];simp only [IntKind.wrap,IntKind.signed,IntKind.bits,Bool.false_and,Bool.false_eq_true,if_false];omega
def Lb.next {n : Nat} (x : Lb n) (h : 2 * x.j < (dig n).length) : Lb n := ⟨x.j + 1,x.o ++ [lbD n x.j],limbs_step x.eq x.lo,by simp [x.lo],x.lg.snoc (by have h1 := cX n (2 * x.j);have h2 := cX n (2 * x.j + 1);unfold lbD;omega),by omega⟩
theorem Lb.fin {n : Nat} (x : Lb n) (h : (dig n).length ≤ 2 * x.j) : x.o = lim n := limbs_end (by rw [x.lo];exact x.eq) (by rw [x.lo];exact h) (by rw [x.lo];exact x.le) x.lg
theorem vA0 (l : List Nat) (hd : Dg l) (hl : l.length ≤ 1000000000) : Fn Tryz.prog 170 [.sl false 1 l nD 0] (natD (V l)) := by
 refine yL zM Tryz.func170 rfl rfl rfl rfl rfl rfl ?_;intro w0 s0 mx;refine zL 100 ?_;refine zB (zQ ?_);refine yC (ι := Trm l) [] [] 150 (fun x => [(0,.sl false 1 x.r nD 0)]) (fun _ => []) (fun x => x.r.length) ⟨l,hd,rfl,Nat.le_refl _⟩ ?_;refine ⟨⟨yH,yG,rfl,rfl⟩,fun x => ?_⟩;have hk := x.le;refine zB (zL 200 ?_);refine zY (fun c1 => ?_) (fun c1 => ?_)
 ·
  refine zO (zA (zQ (yT zM [] 300 ?_)));refine zP ?_;exact zW (x.next (by omega) (by have := c1.2;rw [tF0] at this;omega)) ⟨(by first | exact trivial | (repeat (first | exact trivial | exact Sub.refl _ | refine ⟨?_,?_⟩ | exact Sub.int (by first | rfl | omega | (push_cast;omega)) | exact Sub.nilSl | exact Sub.own rfl | exact Sub.slrSl rfl | exact Sub.ownSl (List.map_append).symm | exact Sub.ownSl rfl | exact Sub.of_eq (by show D.sl false 1 _ nD 0 = _;rw [t_cut];rfl)))),yG,rfl,rfl⟩ (by show (x.r.take (x.r.length - 1)).length < x.r.length;rw [List.length_take];omega)
 ·
  refine yF (zZ (yB (zX (zA (zL 400 ?_)))));refine zJ ?_;exact FinV.ret rfl (SubP.of_eq (by show _ = D.sl false 1 _ nD 0;rw [← x.fin fun h e => by rw [tF0,e,decide_eq_true (by omega)] at c1;cases c1]))
theorem Binary_ok (l : List Bool) (hl : l.length ≤ 100000000) : Fn Tryz.prog 177 [.sl false 1 l bD false] (natD (VB l)) := by
 refine yL zM Tryz.func177 rfl rfl rfl rfl rfl rfl ?_;intro w0 s0 mx;refine zL 100 ?_;refine zL 200 ?_;refine qA 3 3 1 rfl ?_;refine zB (zL 300 ?_);refine zQ ?_;refine yC (ι := Bn l) [0] [] 350 (fun x => [(4,.v (.int .i64 (16 * x.j : Nat))),(3,.own 200 1 (x.o.map nD))]) (fun x => [(200,.row 3 1 (x.o.map nD).length)]) (fun x => l.length + 16 - 16 * x.j) ⟨0,[],rfl,rfl,Dg.nil,by omega⟩ ?_;refine ⟨⟨yH,yG,rfl,rfl⟩,fun x => ?_⟩;have hk := x.le;have hk2 := x.lo;refine zB (zL 400 ?_);refine zY (fun c3 => ?_) (fun c3 => ?_)
 ·
  refine zO (zA (zB (zQ (zL 600 ?_))));refine zB (zL 700 ?_);refine zQ ?_;refine yC (ι := Bj) [0,3,4] [200] 750 (fun y => [(6,.v (.int .i64 ((y.k : Int) - 1))),(5,.v (.int .i64 (xF l (16 * x.j) y.k : Nat)))]) (fun _ => []) (fun y => y.k) ⟨16,Nat.le_refl _⟩ ?_;refine ⟨⟨(by first | exact trivial | (repeat (first | exact trivial | exact Sub.refl _ | refine ⟨?_,?_⟩ | exact Sub.int (by first | rfl | omega | (push_cast;omega)) | exact Sub.nilSl | exact Sub.own rfl | exact Sub.slrSl rfl | exact Sub.ownSl (List.map_append).symm | exact Sub.ownSl rfl | exact Sub.int (by rw [chunk_top];rfl)))),yG,rfl,rfl⟩,fun y => ?_⟩;have hy := y.le;have hy2 := gM0 l (16 * x.j) y.k;refine zB (zL 800 ?_);refine zY (fun c7 => ?_) (fun c7 => ?_)
  ·
   refine zO (zA (zB (zQ (zL 1000 ?_))));refine zL 1100 ?_;refine zY (fun c10 => ?_) (fun c10 => ?_)
   ·
    refine yT zM [] 1200 ?_;refine zP (zA (yT zM [] 1300 ?_));exact zW ⟨y.k - 1,by omega⟩ ⟨(by first | exact trivial | (repeat (first | exact trivial | exact Sub.refl _ | refine ⟨?_,?_⟩ | exact Sub.int (by first | rfl | omega | (push_cast;omega)) | exact Sub.nilSl | exact Sub.own rfl | exact Sub.slrSl rfl | exact Sub.ownSl (List.map_append).symm | exact Sub.ownSl rfl | exact Sub.int (by show (y.k : Int) - 1 - 1 = ((y.k - 1 : Nat) : Int) - 1;omega) | exact Sub.int (by show _ = ((xF l (16 * x.j) (y.k - 1) : Nat) : Int);rw [chunk_one (k := y.k - 1) (by omega) (bit_T (by omega) c10),show y.k - 1 + 1 = y.k by omega];push_cast;rfl)))),yG,rfl,rfl⟩ (by show y.k - 1 < y.k;omega)
   ·
    refine zO (zP (zA (yT zM [] 1200 ?_)));exact zW ⟨y.k - 1,by omega⟩ ⟨(by first | exact trivial | (repeat (first | exact trivial | exact Sub.refl _ | refine ⟨?_,?_⟩ | exact Sub.int (by first | rfl | omega | (push_cast;omega)) | exact Sub.nilSl | exact Sub.own rfl | exact Sub.slrSl rfl | exact Sub.ownSl (List.map_append).symm | exact Sub.ownSl rfl | exact Sub.int (by show (y.k : Int) - 1 - 1 = ((y.k - 1 : Nat) : Int) - 1;omega) | exact Sub.int (by show _ = ((xF l (16 * x.j) (y.k - 1) : Nat) : Int);rw [chunk_nil (k := y.k - 1) (by omega) (bit_F (by omega) c10),show y.k - 1 + 1 = y.k by omega];push_cast;rfl)))),yG,rfl,rfl⟩ (by show y.k - 1 < y.k;omega)
  ·
   refine yF (zZ (yB (zX (zA (yT zM [] 1300 ?_)))));refine zP (zA (yT zM [] 1400 ?_));obtain ⟨ky,hky⟩ := y;have hz : ky = 0 := by simp only at c7;omega
   subst hz;exact zW (x.next (by omega)) ⟨(by first | exact trivial | (repeat (first | exact trivial | exact Sub.refl _ | refine ⟨?_,?_⟩ | exact Sub.int (by first | rfl | omega | (push_cast;omega)) | exact Sub.nilSl | exact Sub.own rfl | exact Sub.slrSl rfl | exact Sub.ownSl (List.map_append).symm | exact Sub.ownSl rfl | exact Sub.int (by show ((16 * x.j : Nat) : Int) + 16 = ((16 * (x.j + 1) : Nat) : Int);omega) | exact Sub.own (by show _ = List.map nD (x.o ++ [_]);rw [List.map_append];rfl)))),(by repeat (first | exact trivial | exact SubO.same rfl | exact ⟨rfl,rfl,by show _ = (List.map nD (x.o ++ [_])).length;simp⟩ | refine ⟨?_,?_⟩)),rfl,rfl⟩ (by show l.length + 16 - 16 * (x.j + 1) < l.length + 16 - 16 * x.j;omega)
 ·
  refine yF (zZ (yB (zX (zA ?_))));refine yK [] [] 410 [(3,.sl false 1 x.o nD 0)] [] ?_;refine ⟨⟨⟨Sub.ownSl rfl,trivial⟩,yG,rfl,rfl⟩,?_⟩;refine zB (zE zM [] 1400 rfl ?_);refine zF ?_;refine zT _ (vA0 _ x.dg (by rw [hk2];omega)) rfl ?_;refine zF ?_;refine zC (zA (zJ ?_));exact FinV.ret rfl (SubP.of_eq (by rw [x.all (by omega)]))
theorem Number3_ok (n : Int) (h1 : -9223372036854775808 ≤ n) (h2 : n ≤ 9223372036854775807) : Fn Tryz.prog 160 [.v (.int .i64 n)] (.agg [.v (.bool (decide (n < 0))),natD n.natAbs]) := by
 refine yL zM Tryz.func160 rfl rfl rfl rfl rfl rfl ?_;intro w0 s0 mx;refine zL 100 ?_;refine zL 200 ?_;refine qA 3 4 1 rfl ?_;refine zL 300 ?_;refine zB (zQ ?_);refine yC (ι := Nb n) [2,4] [0] 350 (fun x => [(0,.v (.int .i64 x.m)),(3,.own 200 1 (x.o.map bD))]) (fun x => [(200,.row 4 1 (x.o.map bD).length)]) (fun x => x.m.natAbs) ⟨n,[],by simp [VB],h1,h2,by simp⟩ ?_;refine ⟨⟨yH,yG,rfl,rfl⟩,fun x => ?_⟩;have hk := x.lo;have hk2 := x.hi;refine zB (zL 400 ?_);refine zY (fun c3 => ?_) (fun c3 => ?_)
 ·
  refine zO (zA (zQ ?_));refine zB (zE zM [] 500 rfl ?_);repeat (first | refine zG ?_ | refine zH ?_ | refine zU (by first | exact trivial | omega | exact ini (by omega) (by omega) | (intro hh;simp at hh;exact ini (by omega) (by omega)) | (intro hh;simp at hh ⊢;omega) | (simp at *;omega) | (simp_all;done) | (have h3 := x.len c3 h1 h2;simp only [List.length_map,List.length_cons,List.length_nil];omega)) ?_)
  refine zC (zA ?_);refine zE zM [] 600 rfl ?_;repeat (first | refine zG ?_ | refine zH ?_ | refine zU (by first | exact trivial | omega | exact ini (by omega) (by omega) | (intro hh;simp at hh;exact ini (by omega) (by omega)) | (intro hh;simp at hh ⊢;omega) | (simp at *;omega) | (simp_all;done) | (have h3 := bR x.m;exact ⟨by decide,ini (by omega) (by omega)⟩)) ?_)
  refine zC (zP ?_);exact zW (x.next (x.len c3 h1 h2)) ⟨(by first | exact trivial | (repeat (first | exact trivial | exact Sub.refl _ | refine ⟨?_,?_⟩ | exact Sub.int (by first | rfl | omega | (push_cast;omega)) | exact Sub.nilSl | exact Sub.own rfl | exact Sub.slrSl rfl | exact Sub.ownSl (List.map_append).symm | exact Sub.ownSl rfl | exact Sub.own (by show _ = List.map bD (x.o ++ [_]);rw [List.map_append];rfl)))),(by repeat (first | exact trivial | exact SubO.same rfl | exact ⟨rfl,rfl,by show _ = (List.map bD (x.o ++ [_])).length;simp⟩ | refine ⟨?_,?_⟩)),rfl,rfl⟩ (by show (Int.tdiv x.m 2).natAbs < x.m.natAbs;have := bR x.m;omega)
 ·
  refine yF (zZ (yB (zX (zA ?_))));refine yK [2,4] [0] 410 [(3,.sl false 1 x.o bD false)] [] ?_;refine ⟨⟨⟨Sub.ownSl rfl,by repeat (first | exact trivial | exact Sub.refl _ | refine ⟨?_,?_⟩)⟩,yG,rfl,rfl⟩,?_⟩;refine zB (zE zM [] 700 rfl ?_);refine zF ?_;refine zT _ (Binary_ok _ (by have := x.ln;omega)) rfl ?_;refine zF ?_;refine zC (zA (zJ ?_));exact FinV.ret rfl (SubP.agg ⟨SubP.refl _,SubP.of_eq (by rw [x.fin (by omega)]),trivial⟩)
theorem Limbs3_ok (n : Nat) (hl : (dig n).length ≤ 100000000) : Fn Tryz.prog 176 [natD n] (.sl false 1 (lim n) uD 0) := by
 refine yL zM Tryz.func176 rfl rfl rfl rfl rfl rfl ?_;intro w0 s0 mx;refine zL 100 ?_;refine zL 200 ?_;refine qA 3 102 1 rfl ?_;refine zB (zL 300 ?_);refine zQ ?_;refine yC (ι := Lb n) [0] [] 350 (fun x => [(4,.v (.int .i64 (2 * x.j : Nat))),(3,.own 200 1 (x.o.map uD))]) (fun x => [(200,.row 102 1 (x.o.map uD).length)]) (fun x => (dig n).length + 2 - 2 * x.j) ⟨0,[],by simp [VL,V],rfl,Lg.nil,by omega⟩ ?_;refine ⟨⟨yH,yG,rfl,rfl⟩,fun x => ?_⟩;have hk := x.le;have hk2 := x.lo;refine zB (zL 400 ?_);refine zY (fun c3 => ?_) (fun c3 => ?_)
 ·
  refine zO (zA (zB (zQ (zL 600 ?_))));refine zB (zL 700 ?_);refine zY (fun c6 => ?_) (fun c6 => ?_)
  ·
   refine yT zM [] 800 ?_;refine zA (yT zM [] 900 ?_);refine zP (zA (yT zM [] 1000 ?_));exact zW (x.next (by omega)) ⟨(by first | exact trivial | (repeat (first | exact trivial | exact Sub.refl _ | refine ⟨?_,?_⟩ | exact Sub.int (by first | rfl | omega | (push_cast;omega)) | exact Sub.nilSl | exact Sub.own rfl | exact Sub.slrSl rfl | exact Sub.ownSl (List.map_append).symm | exact Sub.ownSl rfl | exact Sub.int (by show ((2 * x.j : Nat) : Int) + 2 = ((2 * (x.j + 1) : Nat) : Int);omega) | exact Sub.own (by show _ = List.map uD (x.o ++ [_]);rw [List.map_append];show _ = List.map uD x.o ++ [[D.v (Value.int .u32 ((lbD n x.j : Nat) : Int))]];rw [← lb_T n x.j];rfl)))),(by repeat (first | exact trivial | exact SubO.same rfl | exact ⟨rfl,rfl,by show _ = (List.map uD (x.o ++ [_])).length;simp⟩ | refine ⟨?_,?_⟩)),rfl,rfl⟩ (by show (dig n).length + 2 - 2 * (x.j + 1) < (dig n).length + 2 - 2 * x.j;omega)
  ·
   refine zO (zA (yT zM [] 900 ?_));refine zP (zA (yT zM [] 1000 ?_));exact zW (x.next (by omega)) ⟨(by first | exact trivial | (repeat (first | exact trivial | exact Sub.refl _ | refine ⟨?_,?_⟩ | exact Sub.int (by first | rfl | omega | (push_cast;omega)) | exact Sub.nilSl | exact Sub.own rfl | exact Sub.slrSl rfl | exact Sub.ownSl (List.map_append).symm | exact Sub.ownSl rfl | exact Sub.int (by show ((2 * x.j : Nat) : Int) + 2 = ((2 * (x.j + 1) : Nat) : Int);omega) | exact Sub.own (by show _ = List.map uD (x.o ++ [_]);rw [List.map_append];show _ = List.map uD x.o ++ [[D.v (Value.int .u32 ((lbD n x.j : Nat) : Int))]];rw [← lb_F n x.j (by omega)];rfl)))),(by repeat (first | exact trivial | exact SubO.same rfl | exact ⟨rfl,rfl,by show _ = (List.map uD (x.o ++ [_])).length;simp⟩ | refine ⟨?_,?_⟩)),rfl,rfl⟩ (by show (dig n).length + 2 - 2 * (x.j + 1) < (dig n).length + 2 - 2 * x.j;omega)
 ·
  refine yF (zZ (yB (zX (zA (zL 1000 ?_)))));refine zJ ?_;exact FinV.ret rfl (SubP.ownSl (by rw [x.fin (by omega)]))
theorem whole_neg (z : Int) : (decide (z < 0) && decide ((0 : Int) < ((dig z.natAbs).length : Nat))) = decide (z < 0) := by
 by_cases h : z < 0
 ·rw [decide_eq_true h,Bool.true_and];refine decide_eq_true ?_;have h2 : dig z.natAbs ≠ [] := fun e => by rw [dig_eq_nil] at e;omega
  have := List.length_pos_iff.2 h2;omega
 ·rw [decide_eq_false h];rfl
theorem Whole7_ok (z : Int) (hl : (dig z.natAbs).length ≤ 100000000) : Fn Tryz.prog 159 [.agg [.v (.bool (decide (z < 0))),natD z.natAbs]] (.agg (vlD (nuV z))) := by
 refine yL zM Tryz.func159 rfl rfl rfl rfl rfl rfl ?_;intro w0 s0 mx;refine zL 100 ?_;refine zB (zV zM [] [[],[0],[0,1],[0,1,2],[0,1,2,3],(rgN 5),(rgN 6),(rgN 7),[],[8],[0,1,2,8,9],(rgN 11),(rgN 12),(rgN 13)] 200 yR (by kernel_rfl) rfl ?_);refine zF ?_;refine zT _ (Limbs3_ok _ (by first | assumption | omega | (simp_all;done))) rfl ?_;refine zF ?_;refine zC (zA (zJ ?_));exact FinV.ret rfl (SubP.agg ⟨SubP.refl _,SubP.of_eq (by rw [whole_neg];rfl),SubP.refl _,SubP.refl _,SubP.nilSl rfl,SubP.refl _,SubP.refl _,trivial⟩)
theorem dig_small {n : Int} (h1 : -9223372036854775808 ≤ n) (h2 : n ≤ 9223372036854775807) : (dig n.natAbs).length ≤ 100000000 := Nat.le_trans (vI (k := 4) (by omega)) (by omega)
theorem N_ok (n : Int) (h1 : -9223372036854775808 ≤ n) (h2 : n ≤ 9223372036854775807) : Fn Tryz.prog 132 [.v (.int .i64 n)] (.agg (vlD (nuV n))) := by
 refine yL zM Tryz.func132 rfl rfl rfl rfl rfl rfl ?_;intro w0 s0 mx;refine zL 100 ?_;refine zB (zE zM [] 200 rfl ?_);refine zF ?_;refine zT _ (Number3_ok n h1 h2) rfl ?_;refine zF ?_;refine zT _ (Whole7_ok n (dig_small h1 h2)) rfl ?_;refine zF ?_;refine zC (zA (zJ ?_));exact FinV.ret rfl (SubP.refl _)
variable {md me : Bool}
theorem pR0 {α : Type} [DecidableEq α] : ∀ (l : List α) (n : α),ixI l n < l.length
 | [],n => by show (-1 : Int) < ((0 : Nat) : Int);omega
 | x :: l,n => by
  have := pR0 l n;rw [ixI,List.length_cons];split
  ·omega
  ·split <;> omega
def ownB (o : Ob) (s : ByteArray) : Bool := decide (0 ≤ ixI o.names s)
def ownV (o : Ob) (s : ByteArray) : Vl := if ixI o.names s < 0 then vl0 else o.items.getD (ixI o.names s).toNat vl0
structure Fd {α : Type} (l : List α) (p : α → Bool) where
 k : Nat
 le : k ≤ l.length
 eq : (l.drop k).find? p = l.find? p
def Fd.next {α : Type} {l : List α} {p : α → Bool} (x : Fd l p) (e : α) (hk : x.k < l.length) (h0 : p (l.getD (x.k : Int).toNat e) = false) : Fd l p := ⟨x.k + 1,hk,by rw [← x.eq,yV0 hk e,List.find?_cons_of_neg (by rw [h0];decide)]⟩
theorem Fd.found {α : Type} {l : List α} {p : α → Bool} (x : Fd l p) (e : α) (hk : x.k < l.length) (h0 : p (l.getD (x.k : Int).toNat e) = true) : l.find? p = some (l.getD (x.k : Int).toNat e) := by rw [← x.eq,yV0 hk e,List.find?_cons_of_pos h0]
theorem Fd.none {α : Type} {l : List α} {p : α → Bool} (x : Fd l p) (hk : l.length ≤ x.k) : l.find? p = none := by rw [← x.eq,List.drop_of_length_le hk];rfl
def fdO (h : List Ob) (l : List Int) (s : ByteArray) : Option Int := l.find? fun c => ownB (yA h c) s
def fdV (h : List Ob) (s : ByteArray) : Option Int → Vl
 | some c => ownV (yA h c) s
 | none => vl0
def fdC : Option Int → Int
 | some c => c
 | none => 0
def Cok (h : List Ob) (l : List Int) : Prop := l.length ≤ 2000000 ∧ ∀ c ∈ l,inH h c ∧ (yA h c).names.length ≤ (yA h c).items.length
theorem cY {h : List Ob} {l : List Int} (hc : Cok h l) {k : Nat} (hk : k < l.length) : inH h (l.getD (k : Int).toNat 0) ∧ (yA h (l.getD (k : Int).toNat 0)).names.length ≤ (yA h (l.getD (k : Int).toNat 0)).items.length := hc.2 _ (by rw [gY hk];exact List.getElem_mem _)
theorem NameText_ok (s : ByteArray) : Fn Tryz.prog 7 [.v (.string s)] (.v (.bool (uR s))) := by
 refine yL zM Tryz.func7 rfl rfl rfl rfl rfl rfl ?_;intro w0 s0 mx;refine zL 100 ?_;refine zB (zE zM [] 200 rfl ?_);refine zF ?_;refine zT _ (mW _) rfl ?_;refine zF ?_;refine zC (zA (zJ ?_));exact FinV.ret rfl (SubP.refl _)
theorem yZ (h : List Ob) (v : Vl) (hv : v.k = 6 → yW h v.r = true) : Fn Tryz.prog 29 [hpD md h,.agg (vlD v)] (.agg (obD (zR h v))) := by
 refine yL zM Tryz.func29 rfl rfl rfl rfl rfl rfl ?_;intro w0 s0 mx;refine zL 100 ?_;refine zB (zL 200 ?_);refine zY (fun c1 => ?_) (fun c1 => ?_)
 ·
  refine zL 300 ?_;refine zJ (zK ?_);have e : zR h v = ob0 := pH0 c1;rw [e];exact FinV.ret rfl (by repeat (first | exact trivial | exact SubP.refl _ | exact SubP.nilSl rfl | refine SubP.agg ?_ | refine ⟨?_,?_⟩))
 ·
  refine zO (zA ?_);refine zB (zE zM [] 400 rfl ?_);repeat (first | refine zG ?_ | refine zH ?_ | refine zU (by exact yQ (hv c1)) ?_)
  refine zC (zA (zJ ?_));have e : zR h v = h.getD v.r.toNat ob0 := objS_at hv c1;rw [e];exact FinV.ret rfl (by repeat (first | exact trivial | exact SubP.refl _ | exact SubP.nilSl rfl | refine SubP.agg ?_ | refine ⟨?_,?_⟩))
theorem gP (o : Ob) (s : ByteArray) (hn : o.names.length ≤ o.items.length) : Fn Tryz.prog 32 [.agg (obD o),.v (.string s)] (.tup [.agg (vlD (ownV o s)),.v (.bool (ownB o s))]) := by
 have hlt := pR0 o.names s;refine yL zM Tryz.func32 rfl rfl rfl rfl rfl rfl ?_;intro w0 s0 mx;refine zL 100 ?_;refine zB (zE zM [] 200 rfl ?_);refine zF ?_;refine zT _ (tP _ _) rfl ?_;refine zF ?_;refine zC (zA (zB (zL 300 ?_)));refine zY (fun c2 => ?_) (fun c2 => ?_)
 ·
  refine zL 400 ?_;refine zJ (zK ?_);exact FinV.ret rfl (SubP.tup ⟨by rw [ownV,if_pos c2];exact (by repeat (first | exact trivial | exact SubP.refl _ | exact SubP.nilSl rfl | refine SubP.agg ?_ | refine ⟨?_,?_⟩)),SubP.bool (by rw [ownB,decide_eq_false (by omega)]),trivial⟩)
 ·
  refine zO (zA (zL 500 ?_));refine zJ ?_;exact FinV.ret rfl (SubP.tup ⟨by rw [ownV,if_neg (by omega)];exact SubP.refl _,SubP.bool (by rw [ownB,decide_eq_true (by omega)]),trivial⟩)
theorem gZ0 (o : Ob) (s : ByteArray) (hn : o.names.length ≤ o.items.length) (hl : o.names.length ≤ 2000000) : Fn Tryz.prog 15 [.agg (obD o),.v (.string s)] (.tup [.agg (vlD (ownV o s)),.v (.bool (ownB o s))]) := by
 refine yL zM Tryz.func15 rfl rfl rfl rfl rfl rfl ?_;intro w0 s0 mx;refine zL 100 ?_;refine zB (zL 200 ?_);refine zQ ?_;refine yC (ι := Nf o.names s) [1,2,4,9,10] [0,1] 250 (fun x => [(11,.v (.int .i64 x.k))]) (fun _ => []) (fun x => o.names.length - x.k) ⟨0,Nat.zero_le _,fun j hj => by omega⟩ ?_;refine ⟨⟨yH,yG,rfl,rfl⟩,fun x => ?_⟩;have hk := x.le;refine zL 300 ?_;refine zB (zY (fun c2 => ?_) (fun c2 => ?_))
 ·
  refine zO (zA (zB (zQ (zL 400 ?_))));refine zL 500 ?_;refine zS rfl (fun c4 => ?_) (fun c4 => ?_)
  ·replace c4 : s = o.names.getD (x.k : Int).toNat ByteArray.empty := (of_decide_eq_true c4).symm
   refine zL 600 ?_;refine zJ (zN (zK (yP (zN (zK ?_)))));have e : ixI o.names s = x.k := x.found c2 c4;exact FinV.ret rfl (SubP.tup ⟨by rw [ownV,e,if_neg (by omega)];exact SubP.refl _,SubP.bool (by rw [ownB,e,decide_eq_true (by omega)]),trivial⟩)
  ·replace c4 : ¬ s = o.names.getD (x.k : Int).toNat ByteArray.empty := fun e => (of_decide_eq_false c4) e.symm
   refine zO (zP (zA (yT zM [] 700 ?_)));exact zW (x.next c2 c4) ⟨yH,yG,rfl,rfl⟩ (by show o.names.length - (x.k + 1) < o.names.length - x.k;omega)
 ·
  refine yF (zZ (yB (zX (zA (zL 800 ?_)))));refine zJ ?_;have e : ixI o.names s = -1 := x.none c2;exact FinV.ret rfl (SubP.tup ⟨by rw [ownV,e,if_pos (by omega)];exact (by repeat (first | exact trivial | exact SubP.refl _ | exact SubP.nilSl rfl | refine SubP.agg ?_ | refine ⟨?_,?_⟩)),SubP.bool (by rw [ownB,e];rfl),trivial⟩)
theorem xZ (h : List Ob) (l : List Int) (s : ByteArray) (hh : HpIn h) (hc : Cok h l) : Fn Tryz.prog 87 [hpD md h,isD l,.v (.string s)] (.tup [.agg (vlD (fdV h s (fdO h l s))),.v (.int .i64 (fdC (fdO h l s))),.v (.bool (fdO h l s).isSome)]) := by
 have hl := hc.1;refine yL zM Tryz.func87 rfl rfl rfl rfl rfl rfl ?_;intro w0 s0 mx;refine zL 100 ?_;refine zB (zL 200 ?_);refine zQ ?_;refine yC (ι := Fd l (fun c => ownB (yA h c) s)) [2,3,6,13,14] [0,1] 250 (fun x => [(15,.v (.int .i64 x.k))]) (fun _ => []) (fun x => l.length - x.k) ⟨0,Nat.zero_le _,rfl⟩ ?_;refine ⟨⟨yH,yG,rfl,rfl⟩,fun x => ?_⟩;have hk := x.le;refine zL 300 ?_;refine zB (zY (fun c2 => ?_) (fun c2 => ?_))
 ·
  refine zO (zA (zB (zQ (zL 400 ?_))));refine zB (zE zM [] 500 rfl ?_);repeat (first | refine zG ?_ | refine zH ?_ | refine zU (by exact (cY hc c2).1) ?_)
  refine zT _ (gP _ _ (cY hc c2).2) rfl ?_;repeat (first | refine zG ?_ | refine zH ?_ | refine zU (by exact (cY hc c2).1) ?_)
  refine zC (zA (zL 600 ?_));refine zS rfl (fun c5 => ?_) (fun c5 => ?_)
  ·
   refine zL 700 ?_;refine zJ (zN (zK (yP (zN (zK ?_)))));have e : fdO h l s = some (l.getD (x.k : Int).toNat 0) := x.found 0 c2 c5;exact FinV.ret rfl (SubP.tup ⟨by rw [e];exact SubP.refl _,by rw [e];exact SubP.refl _,by rw [e];exact SubP.refl _,trivial⟩)
  ·
   refine zO (zP (zA (yT zM [] 800 ?_)));exact zW (x.next 0 c2 c5) ⟨yH,yG,rfl,rfl⟩ (by show l.length - (x.k + 1) < l.length - x.k;omega)
 ·
  refine yF (zZ (yB (zX (zA (zL 900 ?_)))));refine zJ ?_;have e : fdO h l s = none := x.none (by omega);exact FinV.ret rfl (SubP.tup ⟨by rw [e];exact (by repeat (first | exact trivial | exact SubP.refl _ | exact SubP.nilSl rfl | refine SubP.agg ?_ | refine ⟨?_,?_⟩)),by rw [e];exact SubP.refl _,by rw [e];exact SubP.refl _,trivial⟩)
theorem qC0 (h : List Ob) (l : List Int) (s : ByteArray) (hh : HpIn h) (hc : Cok h l) : Fn Tryz.prog 24 [hpD md h,isD l,.v (.string s)] (.tup [.agg (vlD (fdV h s (fdO h l s))),.v (.int .i64 (fdC (fdO h l s))),.v (.bool (fdO h l s).isSome)]) := by
 have hl := hc.1;refine yL zM Tryz.func24 rfl rfl rfl rfl rfl rfl ?_;intro w0 s0 mx;refine zL 100 ?_;refine zB (zL 200 ?_);refine zQ ?_;refine yC (ι := Fd l (fun c => ownB (yA h c) s)) [2,3,6,13,14] [0,1] 250 (fun x => [(15,.v (.int .i64 x.k))]) (fun _ => []) (fun x => l.length - x.k) ⟨0,Nat.zero_le _,rfl⟩ ?_;refine ⟨⟨yH,yG,rfl,rfl⟩,fun x => ?_⟩;have hk := x.le;refine zL 300 ?_;refine zB (zY (fun c2 => ?_) (fun c2 => ?_))
 ·
  refine zO (zA (zB (zQ (zL 400 ?_))));refine zB (zE zM [] 500 rfl ?_);repeat (first | refine zG ?_ | refine zH ?_ | refine zU (by exact (cY hc c2).1) ?_)
  refine zT _ (gZ0 _ _ (cY hc c2).2 (hh.at (l.getD (x.k : Int).toNat 0)).nl) rfl ?_;repeat (first | refine zG ?_ | refine zH ?_ | refine zU (by exact (cY hc c2).1) ?_)
  refine zC (zA (zL 600 ?_));refine zS rfl (fun c5 => ?_) (fun c5 => ?_)
  ·
   refine zL 700 ?_;refine zJ (zN (zK (yP (zN (zK ?_)))));have e : fdO h l s = some (l.getD (x.k : Int).toNat 0) := x.found 0 c2 c5;exact FinV.ret rfl (SubP.tup ⟨by rw [e];exact SubP.refl _,by rw [e];exact SubP.refl _,by rw [e];exact SubP.refl _,trivial⟩)
  ·
   refine zO (zP (zA (yT zM [] 800 ?_)));exact zW (x.next 0 c2 c5) ⟨yH,yG,rfl,rfl⟩ (by show l.length - (x.k + 1) < l.length - x.k;omega)
 ·
  refine yF (zZ (yB (zX (zA (zL 900 ?_)))));refine zJ ?_;have e : fdO h l s = none := x.none (by omega);exact FinV.ret rfl (SubP.tup ⟨by rw [e];exact (by repeat (first | exact trivial | exact SubP.refl _ | exact SubP.nilSl rfl | refine SubP.agg ?_ | refine ⟨?_,?_⟩)),by rw [e];exact SubP.refl _,by rw [e];exact SubP.refl _,trivial⟩)
theorem kS (h : List Ob) (c : Int) (s : ByteArray) (hh : HpIn h) (hn : inH h c) (hc : Cok h (yA h c).order) : Fn Tryz.prog 39 [hpD md h,.v (.int .i64 c),.v (.string s)] (.tup [.agg (vlD (fdV h s (fdO h (yA h c).order s))),.v (.int .i64 (fdC (fdO h (yA h c).order s))),.v (.bool (fdO h (yA h c).order s).isSome)]) := by
 refine yL zM Tryz.func39 rfl rfl rfl rfl rfl rfl ?_;intro w0 s0 mx;refine zL 100 ?_;refine zB (zV zM [] [[],[],[1],[],[1,2,3],[1,2,3,4],[1,2,3,4,5],[],(rgN 8),(rgN 9),(rgN 9),(rgN 9),(rgN 12),(rgN 13),(rgN 14)] 200 yR (by kernel_rfl) rfl ?_);repeat (first | refine zG ?_ | refine zH ?_ | refine zU (by exact hn) ?_)
 refine zT _ (xZ h (yA h c).order s hh hc) rfl ?_;repeat (first | refine zG ?_ | refine zH ?_ | refine zU (by exact hn) ?_)
 refine zC (zA (zJ ?_));exact FinV.ret rfl (SubP.refl _)
theorem gC (h : List Ob) (c : Int) (s : ByteArray) (hh : HpIn h) (hn : inH h c) (hc : Cok h (yA h c).order) : Fn Tryz.prog 9 [hpD md h,.v (.int .i64 c),.v (.string s)] (.tup [.agg (vlD (fdV h s (fdO h (yA h c).order s))),.v (.bool (fdO h (yA h c).order s).isSome)]) := by
 refine yL zM Tryz.func9 rfl rfl rfl rfl rfl rfl ?_;intro w0 s0 mx;refine zL 100 ?_;refine zB (zV zM [] [[],[],[1],[],[1,2,3],[1,2,3,4],[1,2,3,4,5],[],(rgN 8),(rgN 9),(rgN 10),(rgN 10),(rgN 10),[],[0,1,2,3,4,5,6,7,8,9,10,13],[0,1,2,3,4,5,6,7,8,9,10,11,13,14],(rgN 16)] 200 yR (by kernel_rfl) rfl ?_);repeat (first | refine zG ?_ | refine zH ?_ | refine zU (by exact hn) ?_)
 refine zT _ (qC0 h (yA h c).order s hh hc) rfl ?_;repeat (first | refine zG ?_ | refine zH ?_ | refine zU (by exact hn) ?_)
 refine zC (zA (zL 300 ?_));refine zJ ?_;exact FinV.ret rfl (SubP.refl _)
theorem xY (h : List Ob) (v : Vl) (hv : v.k = 6 → yW h v.r = true) : Fn Tryz.prog 126 [hpD md h,.agg (vlD v)] (.v (.bool (kR h v))) := by
 refine yL zM Tryz.func126 rfl rfl rfl rfl rfl rfl ?_;intro w0 s0 mx;refine zL 100 ?_;refine zB (zE zM [] 200 rfl ?_);refine zF ?_;refine yS _ (fun hg6 => yZ _ _ (by first | assumption | omega | (simp_all;done))) rfl ?_;refine zF ?_;refine zC (zA (zJ ?_));exact FinV.ret rfl (SubP.refl _)
variable {md me : Bool}
theorem used_a {k : Nat} (hk : k < 21) (ha : Lib.contains (jS (k : Int)).data.toList [97] = true) : jS (k : Int) ≠ ⟨#[]⟩ ∧ bU (jS (k : Int)) = 61 := by
 have := List.all_eq_true.1 (show (List.range 21).all (fun (k : Nat) => !(Lib.contains (jS (k : Int)).data.toList [97]) || (!decide (jS (k : Int) = ⟨#[]⟩) && decide (bU (jS (k : Int)) = 61))) = true by decide +kernel) k (List.mem_range.2 hk);rw [ha,Bool.not_true,Bool.false_or,Bool.and_eq_true,Bool.not_eq_true',decide_eq_false_iff_not,decide_eq_true_eq] at this;exact this
theorem names_items {o : Ob} (hk : 0 ≤ o.kind ∧ o.kind < 21) (hs : jO o = 0) : o.names.length ≤ o.items.length := by
 have h1 := (qO0 hs).1;unfold jO at hs;split at hs
 ·rename_i ha;have h3 := List.all_eq_true.1 ha 3 (by decide);by_cases hz : (o.names.length : Int) = 0
  ·omega
  ·have e : Lib.contains (jS o.kind).data.toList [97] = true := by
    have h4 : (!(!(decide ((o.names.length : Int) = 0)) && !(Lib.contains (jS o.kind).data.toList [97]))) = true := h3;rw [decide_eq_false hz] at h4;simpa using h4
   have hkk : o.kind = ((o.kind.toNat : Nat) : Int) := by omega
   rw [hkk] at e;have h5 := used_a (k := o.kind.toNat) (by omega) e;rw [← hkk] at h5;rw [cntS,if_neg h5.1,if_neg (by rw [h5.2];decide),if_pos h5.2] at h1;omega
 ·cases hs
theorem bP0 {h : List Ob} (g : Uh h) {n : Int} (hn : inH h n) : (yA h n).names.length ≤ (yA h n).items.length := by
 by_cases h49 : n.toNat < 49
 ·rw [show yA h n = bgO n.toNat from g.lo_at h49];exact Nat.zero_le _
 ·have u := g.hi_at (i := n.toNat) (by omega) hn.2;exact names_items u.kind u.shape
theorem bg_order {k : Nat} (hk : k < 49) {r : Int} (hr : r ∈ (bgO k).order) : 0 ≤ r ∧ r < 49 := by
 have := List.all_eq_true.1 (List.all_eq_true.1 (show (List.range 49).all (fun k => (bgO k).order.all fun r => decide (0 ≤ r) && decide (r < 49)) = true by decide +kernel) k (List.mem_range.2 hk)) r hr;rw [Bool.and_eq_true,decide_eq_true_eq,decide_eq_true_eq] at this;exact this
theorem vP {h : List Ob} (hh : HpIn h) (g : Uh h) {c : Int} (hn : inH h c) : Cok h (yA h c).order := by
 refine ⟨(hh.at c).ol,fun r hr => ?_⟩;have hin : inH h r := by
  by_cases h49 : c.toNat < 49
  ·rw [show yA h c = bgO c.toNat from g.lo_at h49] at hr;have := bg_order h49 hr;have := g.lo;exact ⟨by omega,by omega⟩
  ·exact yQ ((qG0 (g.hi_at (by omega) hn.2).vals).order r hr)
 exact ⟨hin,bP0 g hin⟩
theorem pD0 {h : List Ob} (g : Uh h) {n : Int} (hn : inH h n) (s : ByteArray) (hk : (ownV (yA h n) s).k = 6) : yW h (ownV (yA h n) s).r = true := by
 have hlt := pR0 (yA h n).names s;have hni := bP0 g hn;by_cases hi : ixI (yA h n).names s < 0
 ·rw [ownV,if_pos hi] at hk;exact absurd hk (by decide)
 ·rw [ownV,if_neg hi] at hk ⊢;have hj : (ixI (yA h n).names s).toNat < (yA h n).items.length := by omega
  rw [List.getD_eq_getElem?_getD,List.getElem?_eq_getElem hj] at hk ⊢;exact g.items hn (List.getElem_mem _) hk
theorem kO0 {h : List Ob} (hh : HpIn h) (g : Uh h) {c : Int} (hn : inH h c) (s : ByteArray) (hk : (fdV h s (fdO h (yA h c).order s)).k = 6) : yW h (fdV h s (fdO h (yA h c).order s)).r = true := by
 cases hf : fdO h (yA h c).order s with
 | none => rw [hf] at hk;exact absurd hk (show ¬ (0 : Int) = 6 by decide)
 | some r =>
  rw [hf] at hk;exact pD0 g ((vP hh g hn).2 r (List.mem_of_find?_eq_some hf)).1 s hk
theorem one_item {h : List Ob} (g : Uh h) {n : Int} (hn : inH h n) (hk : (yA h n).kind = 13 ∨ (yA h n).kind = 14) : (yA h n).items.length = 1 := by
 by_cases h49 : n.toNat < 49
 ·rw [show yA h n = bgO n.toNat from g.lo_at h49] at hk;have h9 : (bgO n.toNat).kind = 9 := rfl;omega
 ·have u := g.hi_at (i := n.toNat) (by omega) hn.2;have h1 := (qO0 u.shape).1;rw [← vW hn] at h1;have hc : cntS (yA h n) = 1 := by
   rcases hk with hk | hk
   ·rw [xV 13 49 (by decide +kernel) hk];decide +kernel
   ·rw [xV 14 49 (by decide +kernel) hk];decide +kernel
  omega
def spS (h : List Ob) (v : Vl) (s : ByteArray) : Vl × List Vl × Bool :=
 if ¬ (zR h v).kind = 10 then (vl0,[],false)
 else if (fdO h (yA h (zR h v).cls).order s).isSome = false then (vl0,[],false)
 else if kR h (fdV h s (fdO h (yA h (zR h v).cls).order s)) = true then (fdV h s (fdO h (yA h (zR h v).cls).order s),[v],true)
 else if (zR h (fdV h s (fdO h (yA h (zR h v).cls).order s))).kind = 13 then ((zR h (fdV h s (fdO h (yA h (zR h v).cls).order s))).items.getD 0 vl0,[],true)
 else if (zR h (fdV h s (fdO h (yA h (zR h v).cls).order s))).kind = 14 then ((zR h (fdV h s (fdO h (yA h (zR h v).cls).order s))).items.getD 0 vl0,[rfV (zR h v).cls],true)
 else (fdV h s (fdO h (yA h (zR h v).cls).order s),[],true)
theorem jM {h : List Ob} (g : Uh h) {v : Vl} (hk : (zR h v).kind = 13 ∨ (zR h v).kind = 14) : 0 < (zR h v).items.length := by
 have h1 := jH (h := h) (v := v) (by omega);rw [h1.2.2] at hk ⊢;rw [one_item g (yQ h1.2.1) hk];decide
theorem uJ {h : List Ob} (g : Uh h) {v : Vl} (hk : (zR h v).kind = 10) : inH h (zR h v).cls := by
 have h1 := jH (h := h) (v := v) (by omega);rw [h1.2.2] at hk ⊢;exact g.cls (yQ h1.2.1) hk
set_option maxHeartbeats 1000000 in
theorem zD0 (h : List Ob) (v : Vl) (s : ByteArray) (hh : HpIn h) (g : Uh h) (hv : v.k = 6 → yW h v.r = true) : Fn Tryz.prog 94 [hpD md h,.agg (vlD v),.v (.string s)] (.tup [.agg (vlD (spS h v s).1),vsD (spS h v s).2.1,.v (.bool (spS h v s).2.2)]) := by
 refine yL zM Tryz.func94 rfl rfl rfl rfl rfl rfl ?_;intro w0 s0 mx;refine zL 100 ?_;refine zB ?_;refine zB (zE zM [] 200 rfl ?_);refine zF ?_;refine zT _ (yZ _ _ (by first | assumption | omega | (simp_all;done))) rfl ?_;refine zF ?_;refine zC (zA (zS rfl (fun c1 => ?_) (fun c1 => ?_)))
 ·replace c1 : ¬ (zR h v).kind = 10 := by simpa using c1
  refine zL 300 ?_;refine zJ (zK ?_);exact FinV.ret rfl (SubP.tup ⟨by rw [spS,if_pos c1];exact (by repeat (first | exact trivial | exact SubP.refl _ | exact SubP.nilSl rfl | refine SubP.agg ?_ | refine ⟨?_,?_⟩)),by rw [spS,if_pos c1];exact SubP.nilSl rfl,by rw [spS,if_pos c1];exact SubP.refl _,trivial⟩)
 ·replace c1 : (zR h v).kind = 10 := by simpa using c1
  have hob := jH (h := h) (v := v) (by omega);have hin := uJ g c1;have hrv := fun hk => kO0 hh g hin s hk;refine zO (zA ?_);refine zB (zE zM [] 400 rfl ?_);repeat (first | refine zG ?_ | refine zH ?_ | refine zU (by exact yQ hob.2.1) ?_)
  refine zC (zA ?_);refine yK [2,3,4,6] [0,1,2] 410 [(9,.v (.int .i64 (zR h v).cls))] [] ?_;refine ⟨⟨⟨Sub.int (by rw [hob.2.2]),by repeat (first | exact trivial | exact Sub.refl _ | refine ⟨?_,?_⟩)⟩,yG,rfl,rfl⟩,?_⟩;refine zB (zE zM [] 500 rfl ?_);refine zF ?_;refine zT _ (kS h (zR h v).cls s hh hin (vP hh g hin)) rfl ?_;refine zF ?_;refine zC (zA (zB (zL 600 ?_)));refine zS rfl (fun c5 => ?_) (fun c5 => ?_)
  ·replace c5 : (fdO h (yA h (zR h v).cls).order s).isSome = false := by simpa using c5
   refine zL 700 ?_;refine zJ (zK ?_);exact FinV.ret rfl (SubP.tup ⟨by rw [spS,if_neg (not_not_intro c1),if_pos c5];exact (by repeat (first | exact trivial | exact SubP.refl _ | exact SubP.nilSl rfl | refine SubP.agg ?_ | refine ⟨?_,?_⟩)),by rw [spS,if_neg (not_not_intro c1),if_pos c5];exact SubP.nilSl rfl,by rw [spS,if_neg (not_not_intro c1),if_pos c5];exact SubP.refl _,trivial⟩)
  ·replace c5 : (fdO h (yA h (zR h v).cls).order s).isSome = true := by simpa using c5
   refine zO (zA (zB ?_));refine zB (zE zM [] 800 rfl ?_);refine zF ?_;refine zT _ (yZ h (fdV h s (fdO h (yA h (zR h v).cls).order s)) hrv) rfl ?_;refine zF ?_;refine zC (zA (zQ ?_));refine zB (zE zM [] 900 rfl ?_);refine zF ?_;refine zT _ (xY h (fdV h s (fdO h (yA h (zR h v).cls).order s)) hrv) rfl ?_;refine zF ?_;refine zC (zA (zS rfl (fun c8 => ?_) (fun c8 => ?_)))
   ·
    refine zB (zV zM [] [[],[],[1],[0],[0,1,2,3],(rgN 5)] 1000 yR (by kernel_rfl) rfl ?_);refine zF ?_;refine zC (zA (zJ (zN (zK ?_))));exact FinV.ret rfl (SubP.tup ⟨by rw [spS,if_neg (not_not_intro c1),if_neg (by rw [c5];decide),if_pos c8];exact SubP.refl _,by rw [spS,if_neg (not_not_intro c1),if_neg (by rw [c5];decide),if_pos c8];exact SubP.slrSl rfl,by rw [spS,if_neg (not_not_intro c1),if_neg (by rw [c5];decide),if_pos c8];exact SubP.refl _,trivial⟩)
   ·
    refine zL 1100 ?_;refine zY (fun c10 => ?_) (fun c10 => ?_)
    ·
     refine zB (zE zM [] 1200 rfl ?_);repeat (first | refine zG ?_ | refine zH ?_ | refine zU (by exact ⟨by omega,jM g (Or.inl c10)⟩) ?_)
     refine zC (zA (zJ (zN (zK ?_))));exact FinV.ret rfl (SubP.tup ⟨by rw [spS,if_neg (not_not_intro c1),if_neg (by rw [c5];decide),if_neg (by rw [c8];decide),if_pos c10];exact SubP.refl _,by rw [spS,if_neg (not_not_intro c1),if_neg (by rw [c5];decide),if_neg (by rw [c8];decide),if_pos c10];exact SubP.nilSl rfl,by rw [spS,if_neg (not_not_intro c1),if_neg (by rw [c5];decide),if_neg (by rw [c8];decide),if_pos c10];exact SubP.refl _,trivial⟩)
    ·
     refine zL 1300 ?_;refine zY (fun c12 => ?_) (fun c12 => ?_)
     ·
      refine zB (zV zM [] [[],[0],[0,1],[0,1,2],[],[4],[4,5],(rgN 6),(rgN 8),(rgN 9)] 1400 yR (by kernel_rfl) rfl ?_);repeat (first | refine zG ?_ | refine zH ?_ | refine zU (by exact ⟨by omega,jM g (Or.inr c12)⟩) ?_)
      refine zT _ (uC _) rfl ?_;repeat (first | refine zG ?_ | refine zH ?_ | refine zU (by exact ⟨by omega,jM g (Or.inr c12)⟩) ?_)
      refine zC (zA (zJ (zN (zK ?_))));exact FinV.ret rfl (SubP.tup ⟨by rw [spS,if_neg (not_not_intro c1),if_neg (by rw [c5];decide),if_neg (by rw [c8];decide),if_neg (by omega),if_pos c12];exact SubP.refl _,by rw [spS,if_neg (not_not_intro c1),if_neg (by rw [c5];decide),if_neg (by rw [c8];decide),if_neg (by omega),if_pos c12];exact SubP.slrSl rfl,by rw [spS,if_neg (not_not_intro c1),if_neg (by rw [c5];decide),if_neg (by rw [c8];decide),if_neg (by omega),if_pos c12];exact SubP.refl _,trivial⟩)
     ·
      refine zO (zP (zA (zL 1500 ?_)));refine zJ ?_;exact FinV.ret rfl (SubP.tup ⟨by rw [spS,if_neg (not_not_intro c1),if_neg (by rw [c5];decide),if_neg (by rw [c8];decide),if_neg (by omega),if_neg (by omega)];exact SubP.refl _,by rw [spS,if_neg (not_not_intro c1),if_neg (by rw [c5];decide),if_neg (by rw [c8];decide),if_neg (by omega),if_neg (by omega)];exact SubP.nilSl rfl,by rw [spS,if_neg (not_not_intro c1),if_neg (by rw [c5];decide),if_neg (by rw [c8];decide),if_neg (by omega),if_neg (by omega)];exact SubP.refl _,trivial⟩)
set_option maxHeartbeats 1000000 in
theorem uQ0 (h : List Ob) (v : Vl) (s : ByteArray) (hh : HpIn h) (g : Uh h) (hv : v.k = 6 → yW h v.r = true) : Fn Tryz.prog 98 [hpD md h,.agg (vlD v),.v (.string s)] (.tup [.agg (vlD (spS h v s).1),vsD (spS h v s).2.1,.v (.bool (spS h v s).2.2)]) := by
 refine yL zM Tryz.func98 rfl rfl rfl rfl rfl rfl ?_;intro w0 s0 mx;refine zL 100 ?_;refine zB (zE zM [] 200 rfl ?_);refine zF ?_;refine zT _ (qM _ _) rfl ?_;refine zF ?_;refine zC (zA (zB (zL 300 ?_)));refine zS rfl (fun c2 => ?_) (fun c2 => ?_)
 ·replace c2 : ¬ (zR h v).kind = 10 := by simpa using c2
  refine zL 400 ?_;refine zJ (zK ?_);exact FinV.ret rfl (SubP.tup ⟨by rw [spS,if_pos c2];exact (by repeat (first | exact trivial | exact SubP.refl _ | exact SubP.nilSl rfl | refine SubP.agg ?_ | refine ⟨?_,?_⟩)),by rw [spS,if_pos c2];exact SubP.nilSl rfl,by rw [spS,if_pos c2];exact SubP.refl _,trivial⟩)
 ·replace c2 : (zR h v).kind = 10 := by simpa using c2
  have hin := uJ g c2;have hrv := fun hk => kO0 hh g hin s hk;refine zO (zA ?_);refine zB (zE zM [] 500 rfl ?_);refine zF ?_;refine zT _ (gC h (zR h v).cls s hh hin (vP hh g hin)) rfl ?_;refine zF ?_;refine zC (zA (zB (zL 600 ?_)));refine zS rfl (fun c5 => ?_) (fun c5 => ?_)
  ·replace c5 : (fdO h (yA h (zR h v).cls).order s).isSome = false := by simpa using c5
   refine zL 700 ?_;refine zJ (zK ?_);exact FinV.ret rfl (SubP.tup ⟨by rw [spS,if_neg (not_not_intro c2),if_pos c5];exact (by repeat (first | exact trivial | exact SubP.refl _ | exact SubP.nilSl rfl | refine SubP.agg ?_ | refine ⟨?_,?_⟩)),by rw [spS,if_neg (not_not_intro c2),if_pos c5];exact SubP.nilSl rfl,by rw [spS,if_neg (not_not_intro c2),if_pos c5];exact SubP.refl _,trivial⟩)
  ·replace c5 : (fdO h (yA h (zR h v).cls).order s).isSome = true := by simpa using c5
   refine zO (zA (zB ?_));refine zB (zE zM [] 800 rfl ?_);refine zF ?_;refine zT _ (wZ h (fdV h s (fdO h (yA h (zR h v).cls).order s))) rfl ?_;refine zF ?_;refine zC (zA (zS rfl (fun c7 => ?_) (fun c7 => ?_)))
   ·
    refine zB (zV zM [] [[],[],[1],[0],[0,1,2,3],(rgN 5)] 900 yR (by kernel_rfl) rfl ?_);refine zF ?_;refine zC (zA (zJ (zK ?_)));exact FinV.ret rfl (SubP.tup ⟨by rw [spS,if_neg (not_not_intro c2),if_neg (by rw [c5];decide),if_pos c7];exact SubP.refl _,by rw [spS,if_neg (not_not_intro c2),if_neg (by rw [c5];decide),if_pos c7];exact SubP.slrSl rfl,by rw [spS,if_neg (not_not_intro c2),if_neg (by rw [c5];decide),if_pos c7];exact SubP.refl _,trivial⟩)
   ·
    refine zO (zA (zB ?_));refine zB (zE zM [] 1000 rfl ?_);refine zF ?_;refine zT _ (qM _ _) rfl ?_;refine zF ?_;refine zC (zA (zL 1100 ?_));refine zQ (zL 1200 ?_);refine zY (fun c11 => ?_) (fun c11 => ?_)
    ·
     refine zB (zV zM [] [[],[0],[0,1],[0,1,2],[],[4],[4,5],[4,5,6],(rgN 7),(rgN 9),(rgN 10)] 1300 yR (by kernel_rfl) rfl ?_);repeat (first | refine zG ?_ | refine zH ?_ | refine zU (by exact ⟨by omega,jM g (Or.inr c11)⟩) ?_)
     refine zT _ (O_ok _) rfl ?_;repeat (first | refine zG ?_ | refine zH ?_ | refine zU (by exact ⟨by omega,jM g (Or.inr c11)⟩) ?_)
     refine zC (zA (zJ (zN (zK ?_))));exact FinV.ret rfl (SubP.tup ⟨by rw [spS,if_neg (not_not_intro c2),if_neg (by rw [c5];decide),if_neg (by rw [c7];decide),if_neg (by omega),if_pos c11];exact SubP.refl _,by rw [spS,if_neg (not_not_intro c2),if_neg (by rw [c5];decide),if_neg (by rw [c7];decide),if_neg (by omega),if_pos c11];exact SubP.slrSl rfl,by rw [spS,if_neg (not_not_intro c2),if_neg (by rw [c5];decide),if_neg (by rw [c7];decide),if_neg (by omega),if_pos c11];exact SubP.refl _,trivial⟩)
    ·
     refine zL 1400 ?_;refine zY (fun c13 => ?_) (fun c13 => ?_)
     ·
      refine zB (zE zM [] 1500 rfl ?_);repeat (first | refine zG ?_ | refine zH ?_ | refine zU (by exact ⟨by omega,jM g (Or.inl c13)⟩) ?_)
      refine zC (zA (zJ (zN (zK ?_))));exact FinV.ret rfl (SubP.tup ⟨by rw [spS,if_neg (not_not_intro c2),if_neg (by rw [c5];decide),if_neg (by rw [c7];decide),if_pos c13];exact SubP.refl _,by rw [spS,if_neg (not_not_intro c2),if_neg (by rw [c5];decide),if_neg (by rw [c7];decide),if_pos c13];exact SubP.nilSl rfl,by rw [spS,if_neg (not_not_intro c2),if_neg (by rw [c5];decide),if_neg (by rw [c7];decide),if_pos c13];exact SubP.refl _,trivial⟩)
     ·
      refine zO (zP (zA (zL 1600 ?_)));refine zJ ?_;exact FinV.ret rfl (SubP.tup ⟨by rw [spS,if_neg (not_not_intro c2),if_neg (by rw [c5];decide),if_neg (by rw [c7];decide),if_neg (by omega),if_neg (by omega)];exact SubP.refl _,by rw [spS,if_neg (not_not_intro c2),if_neg (by rw [c5];decide),if_neg (by rw [c7];decide),if_neg (by omega),if_neg (by omega)];exact SubP.nilSl rfl,by rw [spS,if_neg (not_not_intro c2),if_neg (by rw [c5];decide),if_neg (by rw [c7];decide),if_neg (by omega),if_neg (by omega)];exact SubP.refl _,trivial⟩)
variable {md me : Bool}
def mtL (c : Int) : List ByteArray := if c = 4 then [(⟨#[98,105,116,115]⟩ : ByteArray)] else if c = 5 then [(⟨#[100,101,110]⟩ : ByteArray),(⟨#[110,117,109]⟩ : ByteArray)] else if c = 6 then kL (⟨#[99,111,117,110,116,32,101,110,99,111,100,101,32,101,110,100,115,95,119,105,116,104,32,102,105,110,100,32,106,111,105,110,32,108,111,119,101,114,32,114,101,112,108,97,99,101,32,115,112,108,105,116,32,115,116,97,114,116,115,95,119,105,116,104,32,115,116,114,105,112,32,117,112,112,101,114]⟩ : ByteArray) else if c = 7 then [(⟨#[100,101,99,111,100,101]⟩ : ByteArray),(⟨#[102,105,110,100]⟩ : ByteArray),(⟨#[104,101,120]⟩ : ByteArray)] else if c = 8 then [(⟨#[99,111,117,110,116]⟩ : ByteArray),(⟨#[105,110,100,101,120]⟩ : ByteArray)] else if c = 9 then kL (⟨#[97,112,112,101,110,100,32,99,108,101,97,114,32,99,111,112,121,32,99,111,117,110,116,32,101,120,116,101,110,100,32,105,110,100,101,120,32,105,110,115,101,114,116,32,112,111,112,32,114,101,109,111,118,101,32,114,101,118,101,114,115,101,32,115,111,114,116]⟩ : ByteArray) else if c = 10 then kL (⟨#[99,108,101,97,114,32,99,111,112,121,32,103,101,116,32,105,116,101,109,115,32,107,101,121,115,32,112,111,112,32,115,101,116,95,100,101,102,97,117,108,116,32,117,112,100,97,116,101,32,118,97,108,117,101,115]⟩ : ByteArray) else if c = 11 then kL (⟨#[97,100,100,32,99,108,101,97,114,32,99,111,112,121,32,100,105,115,99,97,114,100,32,114,101,109,111,118,101]⟩ : ByteArray) else if c = 18 then [(⟨#[119,105,116,104,95,100,101,108,101,116,101,114]⟩ : ByteArray),(⟨#[119,105,116,104,95,115,101,116,116,101,114]⟩ : ByteArray)] else if c = 23 then [(⟨#[99,108,111,115,101]⟩ : ByteArray),(⟨#[115,101,110,100]⟩ : ByteArray),(⟨#[116,104,114,111,119]⟩ : ByteArray)] else if c = 25 then [(⟨#[99,97,110,99,101,108]⟩ : ByteArray),(⟨#[100,111,110,101]⟩ : ByteArray)] else []
theorem kA (c : Int) : Fn Tryz.prog 92 [.v (.int .i64 c)] (ssD (mtL c)) := by
 refine yL zM Tryz.func92 rfl rfl rfl rfl rfl rfl ?_;intro w0 s0 mx;refine zL 100 ?_;refine zB (zL 200 ?_);refine zQ (zL 300 ?_);refine zY (fun c2 => ?_) (fun c2 => ?_)
 ·
  refine zL 400 ?_;refine zJ (zN (zK ?_));exact FinV.ret rfl (SubP.slrSl (by rw [mtL,if_pos c2];rfl))
 ·
  refine zL 500 ?_;refine zY (fun c4 => ?_) (fun c4 => ?_)
  ·
   refine zL 600 ?_;refine zJ (zN (zK ?_));exact FinV.ret rfl (SubP.slrSl (by rw [mtL,if_neg c2,if_pos c4];rfl))
  ·
   refine zL 700 ?_;refine zY (fun c6 => ?_) (fun c6 => ?_)
   ·
    refine zB (zE zM [] 800 rfl ?_);refine zF ?_;refine zT _ (uN _ rfl (by decide +kernel) (by decide +kernel) (by decide +kernel)) rfl ?_;refine zF ?_;refine zC (zA (zJ (zN (zK ?_))));exact FinV.ret rfl (SubP.of_eq (by rw [mtL,if_neg c2,if_neg c4,if_pos c6];try rfl))
   ·
    refine zL 900 ?_;refine zY (fun c8 => ?_) (fun c8 => ?_)
    ·
     refine zL 1000 ?_;refine zJ (zN (zK ?_));exact FinV.ret rfl (SubP.slrSl (by rw [mtL,if_neg c2,if_neg c4,if_neg c6,if_pos c8];rfl))
    ·
     refine zL 1100 ?_;refine zY (fun c10 => ?_) (fun c10 => ?_)
     ·
      refine zL 1200 ?_;refine zJ (zN (zK ?_));exact FinV.ret rfl (SubP.slrSl (by rw [mtL,if_neg c2,if_neg c4,if_neg c6,if_neg c8,if_pos c10];rfl))
     ·
      refine zL 1300 ?_;refine zY (fun c12 => ?_) (fun c12 => ?_)
      ·
       refine zB (zE zM [] 1400 rfl ?_);refine zF ?_;refine zT _ (uN _ rfl (by decide +kernel) (by decide +kernel) (by decide +kernel)) rfl ?_;refine zF ?_;refine zC (zA (zJ (zN (zK ?_))));exact FinV.ret rfl (SubP.of_eq (by rw [mtL,if_neg c2,if_neg c4,if_neg c6,if_neg c8,if_neg c10,if_pos c12];try rfl))
      ·
       refine zL 1500 ?_;refine zY (fun c14 => ?_) (fun c14 => ?_)
       ·
        refine zB (zE zM [] 1600 rfl ?_);refine zF ?_;refine zT _ (uN _ rfl (by decide +kernel) (by decide +kernel) (by decide +kernel)) rfl ?_;refine zF ?_;refine zC (zA (zJ (zN (zK ?_))));exact FinV.ret rfl (SubP.of_eq (by rw [mtL,if_neg c2,if_neg c4,if_neg c6,if_neg c8,if_neg c10,if_neg c12,if_pos c14];try rfl))
       ·
        refine zL 1700 ?_;refine zY (fun c16 => ?_) (fun c16 => ?_)
        ·
         refine zB (zE zM [] 1800 rfl ?_);refine zF ?_;refine zT _ (uN _ rfl (by decide +kernel) (by decide +kernel) (by decide +kernel)) rfl ?_;refine zF ?_;refine zC (zA (zJ (zN (zK ?_))));exact FinV.ret rfl (SubP.of_eq (by rw [mtL,if_neg c2,if_neg c4,if_neg c6,if_neg c8,if_neg c10,if_neg c12,if_neg c14,if_pos c16];try rfl))
        ·
         refine zL 1900 ?_;refine zY (fun c18 => ?_) (fun c18 => ?_)
         ·
          refine zL 2000 ?_;refine zJ (zN (zK ?_));exact FinV.ret rfl (SubP.slrSl (by rw [mtL,if_neg c2,if_neg c4,if_neg c6,if_neg c8,if_neg c10,if_neg c12,if_neg c14,if_neg c16,if_pos c18];rfl))
         ·
          refine zL 2100 ?_;refine zY (fun c20 => ?_) (fun c20 => ?_)
          ·
           refine zL 2200 ?_;refine zJ (zN (zK ?_));exact FinV.ret rfl (SubP.slrSl (by rw [mtL,if_neg c2,if_neg c4,if_neg c6,if_neg c8,if_neg c10,if_neg c12,if_neg c14,if_neg c16,if_neg c18,if_pos c20];rfl))
          ·
           refine zL 2300 ?_;refine zY (fun c22 => ?_) (fun c22 => ?_)
           ·
            refine zL 2400 ?_;refine zJ (zN (zK ?_));exact FinV.ret rfl (SubP.slrSl (by rw [mtL,if_neg c2,if_neg c4,if_neg c6,if_neg c8,if_neg c10,if_neg c12,if_neg c14,if_neg c16,if_neg c18,if_neg c20,if_pos c22];rfl))
           ·
            refine zO (zP (zA (zL 2500 ?_)));refine zJ ?_;exact FinV.ret rfl (SubP.nilSl (by rw [mtL,if_neg c2,if_neg c4,if_neg c6,if_neg c8,if_neg c10,if_neg c12,if_neg c14,if_neg c16,if_neg c18,if_neg c20,if_neg c22]))
theorem MethodsOf_ok (c : Int) : Fn Tryz.prog 69 [.v (.int .i64 c)] (ssD (mtL c)) := by
 refine yL zM Tryz.func69 rfl rfl rfl rfl rfl rfl ?_;intro w0 s0 mx;refine zL 100 ?_;refine zB (zL 200 ?_);refine zQ (zL 300 ?_);refine zY (fun c2 => ?_) (fun c2 => ?_)
 ·
  refine zL 400 ?_;refine zJ (zN (zK ?_));exact FinV.ret rfl (SubP.slrSl (by rw [mtL,if_pos c2];rfl))
 ·
  refine zL 500 ?_;refine zY (fun c4 => ?_) (fun c4 => ?_)
  ·
   refine zL 600 ?_;refine zJ (zN (zK ?_));exact FinV.ret rfl (SubP.slrSl (by rw [mtL,if_neg c2,if_pos c4];rfl))
  ·
   refine zL 700 ?_;refine zY (fun c6 => ?_) (fun c6 => ?_)
   ·
    refine zB (zE zM [] 800 rfl ?_);refine zF ?_;refine zT _ (uN _ rfl (by decide +kernel) (by decide +kernel) (by decide +kernel)) rfl ?_;refine zF ?_;refine zC (zA (zJ (zN (zK ?_))));exact FinV.ret rfl (SubP.of_eq (by rw [mtL,if_neg c2,if_neg c4,if_pos c6];try rfl))
   ·
    refine zL 900 ?_;refine zY (fun c8 => ?_) (fun c8 => ?_)
    ·
     refine zL 1000 ?_;refine zJ (zN (zK ?_));exact FinV.ret rfl (SubP.slrSl (by rw [mtL,if_neg c2,if_neg c4,if_neg c6,if_pos c8];rfl))
    ·
     refine zL 1100 ?_;refine zY (fun c10 => ?_) (fun c10 => ?_)
     ·
      refine zL 1200 ?_;refine zJ (zN (zK ?_));exact FinV.ret rfl (SubP.slrSl (by rw [mtL,if_neg c2,if_neg c4,if_neg c6,if_neg c8,if_pos c10];rfl))
     ·
      refine zL 1300 ?_;refine zY (fun c12 => ?_) (fun c12 => ?_)
      ·
       refine zB (zE zM [] 1400 rfl ?_);refine zF ?_;refine zT _ (uN _ rfl (by decide +kernel) (by decide +kernel) (by decide +kernel)) rfl ?_;refine zF ?_;refine zC (zA (zJ (zN (zK ?_))));exact FinV.ret rfl (SubP.of_eq (by rw [mtL,if_neg c2,if_neg c4,if_neg c6,if_neg c8,if_neg c10,if_pos c12];try rfl))
      ·
       refine zL 1500 ?_;refine zY (fun c14 => ?_) (fun c14 => ?_)
       ·
        refine zB (zE zM [] 1600 rfl ?_);refine zF ?_;refine zT _ (uN _ rfl (by decide +kernel) (by decide +kernel) (by decide +kernel)) rfl ?_;refine zF ?_;refine zC (zA (zJ (zN (zK ?_))));exact FinV.ret rfl (SubP.of_eq (by rw [mtL,if_neg c2,if_neg c4,if_neg c6,if_neg c8,if_neg c10,if_neg c12,if_pos c14];try rfl))
       ·
        refine zL 1700 ?_;refine zY (fun c16 => ?_) (fun c16 => ?_)
        ·
         refine zB (zE zM [] 1800 rfl ?_);refine zF ?_;refine zT _ (uN _ rfl (by decide +kernel) (by decide +kernel) (by decide +kernel)) rfl ?_;refine zF ?_;refine zC (zA (zJ (zN (zK ?_))));exact FinV.ret rfl (SubP.of_eq (by rw [mtL,if_neg c2,if_neg c4,if_neg c6,if_neg c8,if_neg c10,if_neg c12,if_neg c14,if_pos c16];try rfl))
        ·
         refine zL 1900 ?_;refine zY (fun c18 => ?_) (fun c18 => ?_)
         ·
          refine zL 2000 ?_;refine zJ (zN (zK ?_));exact FinV.ret rfl (SubP.slrSl (by rw [mtL,if_neg c2,if_neg c4,if_neg c6,if_neg c8,if_neg c10,if_neg c12,if_neg c14,if_neg c16,if_pos c18];rfl))
         ·
          refine zL 2100 ?_;refine zY (fun c20 => ?_) (fun c20 => ?_)
          ·
           refine zL 2200 ?_;refine zJ (zN (zK ?_));exact FinV.ret rfl (SubP.slrSl (by rw [mtL,if_neg c2,if_neg c4,if_neg c6,if_neg c8,if_neg c10,if_neg c12,if_neg c14,if_neg c16,if_neg c18,if_pos c20];rfl))
          ·
           refine zL 2300 ?_;refine zY (fun c22 => ?_) (fun c22 => ?_)
           ·
            refine zL 2400 ?_;refine zJ (zN (zK ?_));exact FinV.ret rfl (SubP.slrSl (by rw [mtL,if_neg c2,if_neg c4,if_neg c6,if_neg c8,if_neg c10,if_neg c12,if_neg c14,if_neg c16,if_neg c18,if_neg c20,if_pos c22];rfl))
           ·
            refine zO (zP (zA (zL 2500 ?_)));refine zJ ?_;exact FinV.ret rfl (SubP.nilSl (by rw [mtL,if_neg c2,if_neg c4,if_neg c6,if_neg c8,if_neg c10,if_neg c12,if_neg c14,if_neg c16,if_neg c18,if_neg c20,if_neg c22]))
def jP (h : List Ob) (p : ByteArray × Bool) (v : Vl) : ByteArray × Bool :=
 if v.k = 7 then (v.s,true) else if (zR h v).kind = 7 then ((zR h v).name,true) else if (zR h v).kind = 8 then p else (⟨#[]⟩,false)
def jC0 (h : List Ob) (v : Vl) : ByteArray × Bool := jP h (⟨#[]⟩,false) v
def jN (h : List Ob) (v : Vl) : ByteArray × Bool := jP h (jC0 h ((zR h v).items.getD 0 vl0)) v
theorem qW {h : List Ob} (g : Uh h) {v : Vl} (hk : (zR h v).kind = 8) : 0 < (zR h v).items.length ∧ kR h ((zR h v).items.getD 0 vl0) = true := by
 have h1 := jH (h := h) (v := v) (by omega);have hin := yQ h1.2.1;rw [h1.2.2] at hk ⊢;by_cases h49 : v.r.toNat < 49
 ·rw [show yA h v.r = bgO v.r.toNat from g.lo_at h49] at hk;have h9 : (bgO v.r.toNat).kind = 9 := rfl;omega
 ·have u := g.hi_at (i := v.r.toNat) (by omega) hin.2;have hs := (qO0 u.shape).1;have hl := u.links;rw [← vW hin] at hs hl;have hc : cntS (yA h v.r) = 2 := by rw [xV 8 50 (by decide +kernel) hk];decide +kernel
  refine ⟨by omega,?_⟩;rw [jD,if_neg (by omega),if_neg (by omega),if_pos hk] at hl;exact hl
theorem cM {h : List Ob} {v : Vl} (hc : kR h v = true) : ¬ (zR h v).kind = 8 := by
 rw [kR,Bool.or_eq_true,decide_eq_true_eq,decide_eq_true_eq] at hc;rcases hc with h1 | h1
 ·rw [pH0 (by omega)];show ¬ (0 : Int) = 8;decide
 ·omega
theorem cL (h : List Ob) (v : Vl) (p : ByteArray × Bool) (hi : (zR h v).kind = 8 → 0 < (zR h v).items.length) (H : (zR h v).kind = 8 → Fn Tryz.prog 67 [hpD md h,.agg (vlD ((zR h v).items.getD 0 vl0))] (.tup [.v (.string p.1),.v (.bool p.2)])) : Fn Tryz.prog 67 [hpD md h,.agg (vlD v)] (.tup [.v (.string (jP h p v).1),.v (.bool (jP h p v).2)]) := by
 refine yL zM Tryz.func67 rfl rfl rfl rfl rfl rfl ?_;intro w0 s0 mx;refine zL 100 ?_;refine zB (zL 200 ?_);refine zY (fun c1 => ?_) (fun c1 => ?_)
 ·
  refine zL 300 ?_;refine zJ (zK ?_);exact FinV.ret rfl (SubP.tup ⟨by rw [jP,if_pos c1];exact SubP.refl _,by rw [jP,if_pos c1];exact SubP.refl _,trivial⟩)
 ·
  refine zO (zA (zB ?_));refine zB (zE zM [] 400 rfl ?_);refine zF ?_;refine zT _ (qM _ _) rfl ?_;refine zF ?_;refine zC (zA (zL 500 ?_));refine zQ (zL 600 ?_);refine zY (fun c5 => ?_) (fun c5 => ?_)
  ·
   refine zL 700 ?_;refine zJ (zN (zK ?_));exact FinV.ret rfl (SubP.tup ⟨by rw [jP,if_neg c1,if_pos c5];exact SubP.refl _,by rw [jP,if_neg c1,if_pos c5];exact SubP.refl _,trivial⟩)
  ·
   refine zL 800 ?_;refine zY (fun c7 => ?_) (fun c7 => ?_)
   ·
    refine zB (zV zM [] [[],[],[1],[1,2],[1,2,3],(rgN 5),(rgN 6),(rgN 6),(rgN 8),(rgN 9)] 900 yR (by kernel_rfl) rfl ?_);repeat (first | refine zG ?_ | refine zH ?_ | refine zU (by exact ⟨by omega,hi c7⟩) ?_)
    refine zT _ (H c7) rfl ?_;repeat (first | refine zG ?_ | refine zH ?_ | refine zU (by exact ⟨by omega,hi c7⟩) ?_)
    refine zC (zA (zJ (zN (zK ?_))));exact FinV.ret rfl (SubP.tup ⟨by rw [jP,if_neg c1,if_neg c5,if_pos c7];exact SubP.refl _,by rw [jP,if_neg c1,if_neg c5,if_pos c7];exact SubP.refl _,trivial⟩)
   ·
    refine zO (zP (zA (zL 1000 ?_)));refine zJ ?_;exact FinV.ret rfl (SubP.tup ⟨by rw [jP,if_neg c1,if_neg c5,if_neg c7];exact SubP.refl _,by rw [jP,if_neg c1,if_neg c5,if_neg c7];exact SubP.refl _,trivial⟩)
theorem named_ok (h : List Ob) (v : Vl) (g : Uh h) : Fn Tryz.prog 67 [hpD md h,.agg (vlD v)] (.tup [.v (.string (jN h v).1),.v (.bool (jN h v).2)]) :=
 cL h v _ (fun hk => (qW g hk).1) fun hk => cL h _ _ (fun h8 => absurd h8 (cM (qW g hk).2)) fun h8 => absurd h8 (cM (qW g hk).2)
theorem xR0 (h : List Ob) (g : Uh h) (v : Vl) : (jN h v).2 = ((decide (v.k = 7) || decide ((zR h v).kind = 7)) || decide ((zR h v).kind = 8)) := by
 unfold jN jP;by_cases c1 : v.k = 7
 ·rw [if_pos c1,decide_eq_true c1];rfl
 ·rw [if_neg c1,decide_eq_false c1];by_cases c2 : (zR h v).kind = 7
  ·rw [if_pos c2,decide_eq_true c2];rfl
  ·rw [if_neg c2,decide_eq_false c2];by_cases c3 : (zR h v).kind = 8
   ·rw [if_pos c3,decide_eq_true c3];have hc := (qW g c3).2;rw [kR,Bool.or_eq_true,decide_eq_true_eq,decide_eq_true_eq] at hc;show (jP h _ _).2 = true;rw [jP];rcases hc with hc | hc
    ·rw [if_pos hc]
    ·by_cases c4 : ((zR h v).items.getD 0 vl0).k = 7
     ·rw [if_pos c4]
     ·rw [if_neg c4,if_pos hc]
   ·rw [if_neg c3,decide_eq_false c3];rfl
section
variable {P : Program} {b : Ba}
def exJ {ι : Type} (I : ι → DS) (K : Exit → DS → Prop) (ex : Exit) (S : DS) : Prop := match ex with
 | .normal => ∃ i,LeD S (I i)
 | e => K e S
theorem pU {ι : Type} {I : ι → DS} {K : Exit → DS → Prop} {S : DS} (i : ι) (h : LeD S (I i)) : exJ I K .normal S := ⟨i,h⟩
theorem ev_joinK {ι : Type} (ks os : List Nat) (N : Nat) (chg : ι → List (Nat × D)) (ochg : ι → List (Nat × DOwn)) {x y : Code} {tm : List (Nat × D)} {ow : List (Nat × DOwn)} {nx : Nat} {K : Exit → DS → Prop}
  (h : kL0 ks tm fun base => kK0 os ow fun ob => Ev P b x ⟨tm,ow,nx⟩ (exJ (fun i => ⟨chg i ++ base,ochg i ++ ob,N⟩) K) ∧ ∀ i,Ev P b y ⟨chg i ++ base,ochg i ++ ob,N⟩ K) : Ev P b (.seq x y) ⟨tm,ow,nx⟩ K := by
 obtain ⟨base,h1⟩ := mJ h;obtain ⟨ob,h2,h3⟩ := mI h1;refine zB ?_;intro w s g a Q hr hK;refine h2 w s g a Q hr fun ex w' s' g' a' S' h4 h5 => hK ex w' s' g' a' S' h4 ?_
 cases ex with
 | normal =>
  obtain ⟨i,hi⟩ := h5;exact yV1 _ hi (h3 i)
 | _ => exact h5
end
def thwD (k : Nat) : D → D
 | .own k' sz rows => match Nat.beq k' k with
  | true => match rows with
   | [] => .mo k' 0
   | r :: l => .own k' sz (r :: l)
  | false => .own k' sz rows
 | d => d
def thwL (k : Nat) : List D → List D
 | [] => []
 | d :: l => thwD k d :: thwL k l
def thwT (k : Nat) : List (Nat × D) → List (Nat × D)
 | [] => []
 | (t,d) :: l => (t,thwD k d) :: thwT k l
def thwO (k : Nat) (e : TypeId) (sz : Nat) : List (Nat × DOwn) → List (Nat × DOwn)
 | [] => []
 | (j,c) :: l => (match Nat.beq j k with
  | true => (j,.mrow e sz (.lst []))
  | false => match c with
   | .box t cs => (j,.box t (thwL k cs))
   | c => (j,c)) :: thwO k e sz l
theorem wQ0 {k : Nat} : ∀ {l : List (Nat × D)} {t : Nat},yV t (thwT k l) = (yV t l).map (thwD k)
 | [],_ => rfl
 | (u,d) :: l,t => by
  show yV t ((u,thwD k d) :: thwT k l) = _;rw [yU,yU];by_cases h : u = t
  ·simp [h]
  ·rw [if_neg h,if_neg h];exact wQ0
theorem mI0 {w : World} {s : Sb} {g : Gh} {k : Nat} (hmo : ∀ v,g.gn k 0 = some v → (TV.mo k 0).P w s g v) {d : D} {v : Value} (hv : d.tv.P w s g v) : (thwD k d).tv.P w s g v := by
 cases d with
 | own k' sz rows =>
  show (match Nat.beq k' k with | true => (match rows with | [] => D.mo k' 0 | r :: l => D.own k' sz (r :: l)) | false => D.own k' sz rows).tv.P w s g v
  cases hb : Nat.beq k' k with
  | false => exact hv
  | true =>
   have e := Nat.eq_of_beq_eq_true hb;subst e
   cases rows with
   | nil =>
    rw [D.tv,TV.P] at hv;show (D.mo k' 0).tv.P w s g v;rw [D.tv];exact hmo v hv.2
   | cons r l => exact hv
 | _ => exact hv
theorem mH0 {w : World} {s : Sb} {g : Gh} {k : Nat} (hmo : ∀ v,g.gn k 0 = some v → (TV.mo k 0).P w s g v) : ∀ {l : List D} {vs : List Value},AllT w s g (D.tvl l) vs → AllT w s g (D.tvl (thwL k l)) vs
 | [],vs,hv => by cases vs with | nil => rw [thwL,D.tvl];trivial | cons _ _ => exact hv.elim
 | d :: l,[],hv => by rw [D.tvl] at hv;exact hv.elim
 | d :: l,v :: vs,hv => by
  rw [D.tvl] at hv;rw [thwL,D.tvl];exact ⟨mI0 hmo hv.1,mH0 hmo hv.2⟩
theorem wS0 {k : Nat} : ∀ {l : List D},(∀ d ∈ D.tvl l,d.one = true) → ∀ d ∈ D.tvl (thwL k l),d.one = true
 | [],_,d,hd => by rw [thwL,D.tvl] at hd;cases hd
 | x :: l,h,d,hd => by
  rw [thwL,D.tvl] at hd;rw [D.tvl] at h;rcases List.mem_cons.1 hd with rfl | hd
  ·have h1 := h x.tv (by simp)
   cases x with
   | own k' sz rows =>
    show (match Nat.beq k' k with | true => (match rows with | [] => D.mo k' 0 | r :: l => D.own k' sz (r :: l)) | false => D.own k' sz rows).tv.one = true
    cases Nat.beq k' k with
    | false => rfl
    | true => cases rows <;> rfl
   | _ => exact h1
  ·exact wS0 (fun y hy => h y (by simp [hy])) d hd
theorem wR0 {k : Nat} {e : TypeId} {sz : Nat} : ∀ {l : List (Nat × DOwn)} {j : Nat} {c : DOwn},yV j (thwO k e sz l) = some c → ∃ c0,yV j l = some c0 ∧ ((j = k ∧ c = .mrow e sz (.lst [])) ∨ (j ≠ k ∧ ((∃ t cs,c0 = .box t cs ∧ c = .box t (thwL k cs)) ∨ (c = c0 ∧ ∀ t cs,c0 ≠ .box t cs))))
 | [],_,_,h => by cases h
 | (i,c0) :: l,j,c,h => by
  unfold thwO at h;have step : ∀ x : DOwn,yV j ((i,x) :: thwO k e sz l) = some c → (i = j ∧ x = c) ∨ (i ≠ j ∧ yV j (thwO k e sz l) = some c) := fun x hx => by
   rw [yU] at hx;by_cases hi : i = j
   ·rw [if_pos hi] at hx;exact .inl ⟨hi,Option.some.inj hx⟩
   ·rw [if_neg hi] at hx;exact .inr ⟨hi,hx⟩
  have rest : i ≠ j → yV j (thwO k e sz l) = some c → ∃ c0',yV j ((i,c0) :: l) = some c0' ∧ ((j = k ∧ c = .mrow e sz (.lst [])) ∨ (j ≠ k ∧ ((∃ t cs,c0' = .box t cs ∧ c = .box t (thwL k cs)) ∨ (c = c0' ∧ ∀ t cs,c0' ≠ .box t cs)))) := fun hi hx => by
   obtain ⟨c1,h1,h2⟩ := wR0 hx;exact ⟨c1,by rw [yU,if_neg hi];exact h1,h2⟩
  cases hb : Nat.beq i k with
  | true =>
   rw [hb] at h;have hik := Nat.eq_of_beq_eq_true hb;rcases step _ h with ⟨rfl,rfl⟩ | ⟨hi,hx⟩
   ·exact ⟨c0,by rw [yU];simp,.inl ⟨hik,rfl⟩⟩
   ·exact rest hi hx
  | false =>
   rw [hb] at h;have hik : i ≠ k := by rintro rfl;rw [Nat.beq_refl] at hb;cases hb
   cases c0 with
   | box t cs =>
    rcases step _ h with ⟨rfl,rfl⟩ | ⟨hi,hx⟩
    ·exact ⟨_,by rw [yU];simp,.inr ⟨hik,.inl ⟨t,cs,rfl,rfl⟩⟩⟩
    ·exact rest hi hx
   | _ =>
    rcases step _ h with ⟨rfl,rfl⟩ | ⟨hi,hx⟩
    ·exact ⟨_,by rw [yU];simp,.inr ⟨hik,.inr ⟨rfl,fun _ _ h => by cases h⟩⟩⟩
    ·exact rest hi hx
section
variable {P : Program} {b : Ba}
theorem yO0 (k : Nat) {e : TypeId} {sz : Nat} {c : Code} {tm : List (Nat × D)} {ow : List (Nat × DOwn)} {nx : Nat} {K : Exit → DS → Prop} (hk : yV k ow = some (.row e sz 0))
  (h : Ev P b c ⟨thwT k tm,thwO k e sz ow,nx⟩ K) : Ev P b c ⟨tm,ow,nx⟩ K := by
 intro w s g a Q hr hK;have hk0 : fnd k (ows ow) = some (.row e sz 0) := by rw [qK,hk];rfl
 obtain ⟨hok,hblk⟩ := hr.ow k _ hk0;obtain ⟨hmr,hmo⟩ := hok.thaw;have howf : ∀ {j : Nat} {c : Own},fnd j (ows (thwO k e sz ow)) = some c → ∃ c0,fnd j (ows ow) = some c0 ∧ Ok1 w s g j c ∧ blk g j c = blk g j c0 := fun {j c} hj => by
  rw [qK] at hj
  cases hq : yV j (thwO k e sz ow) with
  | none => rw [hq] at hj;cases hj
  | some d =>
   rw [hq] at hj
   cases hj;obtain ⟨c0,h1,h2⟩ := wR0 hq;have h1' : fnd j (ows ow) = some c0.o := by rw [qK,h1];rfl
   refine ⟨c0.o,h1',?_⟩;rcases h2 with ⟨rfl,rfl⟩ | ⟨hne,⟨t,cs,rfl,rfl⟩ | ⟨rfl,_⟩⟩
   ·rw [hk] at h1
    cases h1;exact ⟨hmr,rfl⟩
   ·obtain ⟨N,vs,g1,g2,g3,g4,g5⟩ := (hr.ow j _ h1').1;exact ⟨⟨N,vs,g1,g2,mH0 hmo g3,wS0 g4,g5⟩,rfl⟩
   ·exact ⟨(hr.ow j _ h1').1,rfl⟩
 refine h w s g a Q ⟨hr.kp,hr.lt,hr.sz,fun t d hd => ?_,fun j c hj => ?_,fun j j' c c' N h1 h2 hne hb => ?_,hr.fr,hr.df,hr.gb⟩ hK
 ·have hd' : fnd t (tvs (thwT k tm)) = some d := hd;rw [qG,wQ0] at hd'
  cases hq : yV t tm with
  | none => rw [hq] at hd';cases hd'
  | some x =>
   rw [hq] at hd'
   cases hd';obtain ⟨v,h1,h2⟩ := hr.tm t x.tv (by show fnd t (tvs tm) = _;rw [qG,hq];rfl);exact ⟨v,h1,mI0 hmo h2⟩
 ·obtain ⟨c0,h1,h2,h3⟩ := howf hj;exact ⟨h2,fun N hb => (hr.ow j c0 h1).2 N (by rw [← h3];exact hb)⟩
 ·obtain ⟨c0,e1,_,e3⟩ := howf h1;obtain ⟨d0,f1,_,f3⟩ := howf h2;rw [f3];exact hr.sep j j' c0 d0 N e1 f1 hne (by rw [← e3];exact hb)
end
theorem Sub.mo {k n m : Nat} (h : n = m) : Sub (.mo k n) (.mo k m) := by subst h;exact Sub.refl _
theorem SubO.mr {ty : TypeId} {sz : Nat} {m m' : MR} (h : m.rows = m'.rows) : SubO (.mrow ty sz m) (.mrow ty sz m') := ⟨rfl,rfl,congrArg D.pvss h⟩
theorem SubO.mp {ty : TypeId} {sz : Nat} {m m' : MR} (h : D.pvss m.rows = D.pvss m'.rows) : SubO (.mrow ty sz m) (.mrow ty sz m') := ⟨rfl,rfl,h⟩
end Go.Proofs.YtbhndnphimmjjaaGreatDoor
