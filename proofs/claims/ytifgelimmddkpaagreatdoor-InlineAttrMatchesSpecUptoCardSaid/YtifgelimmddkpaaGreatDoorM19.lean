/- Part 19 of the proof. -/
import Derived.Test.YtifgelimmddkpaaGreatDoorM18
import Derived.Shelf.Spec.SlicesGrow
import Derived.Shelf.Strconv.Itoa3
import Derived.Shelf.Strconv.Quote
namespace Go.Proofs.YtifgelimmddkpaaGreatDoor
open Go.RowKit
variable {md me : Bool}
def txV (s : ByteArray) : Vl := ⟨4,false,[],false,[],s,0⟩
def rfV (r : Int) : Vl := ⟨6,false,[],false,[],ByteArray.empty,r⟩
theorem vB (s : ByteArray) : Fn Tryz.prog 91 [.v (.string s)] (.agg (vlD (txV s))) := by
 refine yL zJ Tryz.func91 rfl rfl rfl rfl rfl rfl ?_;intro w0 s0 mx;refine zL 100 ?_;refine zL 200 ?_;refine zK ?_;exact FinV.ret rfl (SubP.agg (by repeat (first | exact trivial | exact SubP.refl _ | exact SubP.nilSl rfl | refine ⟨?_,?_⟩)))
theorem T_ok (s : ByteArray) : Fn Tryz.prog 63 [.v (.string s)] (.agg (vlD (txV s))) := by
 refine yL zJ Tryz.func63 rfl rfl rfl rfl rfl rfl ?_;intro w0 s0 mx;refine zL 100 ?_;refine zL 200 ?_;refine zK ?_;exact FinV.ret rfl (SubP.agg (by repeat (first | exact trivial | exact SubP.refl _ | exact SubP.nilSl rfl | refine ⟨?_,?_⟩)))
theorem jW (r : Int) : Fn Tryz.prog 23 [.v (.int .i64 r)] (.agg (vlD (rfV r))) := by
 refine yL zJ Tryz.func23 rfl rfl rfl rfl rfl rfl ?_;intro w0 s0 mx;refine zL 100 ?_;refine zL 200 ?_;refine zK ?_;exact FinV.ret rfl (SubP.agg (by repeat (first | exact trivial | exact SubP.refl _ | exact SubP.nilSl rfl | refine ⟨?_,?_⟩)))
theorem O_ok (r : Int) : Fn Tryz.prog 25 [.v (.int .i64 r)] (.agg (vlD (rfV r))) := by
 refine yL zJ Tryz.func25 rfl rfl rfl rfl rfl rfl ?_;intro w0 s0 mx;refine zL 100 ?_;refine zL 200 ?_;refine zK ?_;exact FinV.ret rfl (SubP.agg (by repeat (first | exact trivial | exact SubP.refl _ | exact SubP.nilSl rfl | refine ⟨?_,?_⟩)))
variable {md me : Bool}
def kcL : List Int := [2,3,4,5,6,7,0,15,27,2]
def ocL : List Int := [0,8,9,10,11,12,13,14,16,1,0,17,18,19,20,21,22,23,24,25,26]
def ocS (o : Ob) : Int := if o.kind = 10 then o.cls else ocL.getD o.kind.toNat 0
def clA (h : List Ob) (v : Vl) : Int := if v.k = 6 then ocS (zX h v.r) else kcL.getD v.k.toNat 0
theorem voks_k {v : Vl} (h : jJ v = true) : 0 ≤ v.k ∧ v.k < 9 := by
 unfold jJ at h;repeat' split at h
 all_goals first | omega | cases h
structure Cf (h : List Ob) (v : Vl) : Prop where
 k : 0 ≤ v.k ∧ v.k < 9
 obj : v.k = 6 → yO h v.r = true
 kind : v.k = 6 → 0 < (zX h v.r).kind ∧ (zX h v.r).kind < 21
 cls : v.k = 6 → (zX h v.r).kind = 10 → inH h (zX h v.r).cls
theorem Uh.kind {h : List Ob} (g : Uh h) {n : Int} (hn : yO h n = true) : 0 < (zX h n).kind ∧ (zX h n).kind < 21 := by
 have hi := yJ hn;by_cases h49 : n.toNat < 49
 ·rw [show zX h n = bgO n.toNat from g.lo_at h49];exact ⟨by show (0 : Int) < 9;decide,by show (9 : Int) < 21;decide⟩
 ·have h1 := (g.hi_at (by omega) hi.2).kind;have h2 : ¬ (zX h n).kind = 0 := by
   intro h0;simp only [yO,Ah] at hn;have := hn.2;rw [show (h.getD n.toNat ob0).kind = 0 from h0] at this;exact absurd this (by decide)
  exact ⟨by have := h1.1;show 0 < (zX h n).kind;have h3 : (zX h ((n.toNat : Nat) : Int)).kind = (zX h n).kind := rfl;omega,h1.2⟩
theorem oc_ge {k : Int} (h : 15 ≤ k) (h2 : k < 21) : ocL.getD k.toNat 0 = 21 + k - 15 := by
 obtain ⟨n,rfl⟩ : ∃ n : Nat,k = (n : Int) := ⟨k.toNat,by omega⟩;have := Bd.1 (show (List.range 21).all (fun n => decide (n < 15 ∨ ocL.getD n 0 = 21 + (n : Int) - 15)) = true by decide +kernel) n (Ch.2 (by omega));have := (Af this).resolve_left (by omega);exact this
theorem oc_lt {k : Int} (h : 1 ≤ k) (h2 : k < 8) : ocL.getD k.toNat 0 = 8 + k - 1 := by
 obtain ⟨n,rfl⟩ : ∃ n : Nat,k = (n : Int) := ⟨k.toNat,by omega⟩;have := Bd.1 (show (List.range 8).all (fun n => decide (n < 1 ∨ ocL.getD n 0 = 8 + (n : Int) - 1)) = true by decide +kernel) n (Ch.2 (by omega));have := (Af this).resolve_left (by omega);exact this
theorem kindClasses_ok  : Fn Tryz.prog 133 [] (isD kcL) := by
 refine yL zJ Tryz.func133 rfl rfl rfl rfl rfl rfl ?_;intro w0 s0 mx;refine zL 100 ?_;refine zL 200 ?_;refine zK ?_;exact FinV.ret rfl (SubP.slrSl rfl)
theorem objectClasses_ok  : Fn Tryz.prog 134 [] (isD ocL) := by
 refine yL zJ Tryz.func134 rfl rfl rfl rfl rfl rfl ?_;intro w0 s0 mx;refine zL 100 ?_;refine zL 200 ?_;refine zK ?_;exact FinV.ret rfl (SubP.slrSl rfl)
theorem wI (h : List Ob) (v : Vl) (c : Cf h v) : Fn Tryz.prog 98 [hpD md h,.agg (vlD v)] (.v (.int .i64 (clA h v))) := by
 refine yL zJ Tryz.func98 rfl rfl rfl rfl rfl rfl ?_;intro w0 s0 mx;refine zL 100 ?_;refine zB (zL 200 ?_);refine zS rfl (fun c1 => ?_) (fun c1 => ?_)
 ·replace c1 : ¬ v.k = 6 := by have h1 := c1;simp only [Bc,At] at h1;exact h1
  refine zB (zU zJ [] [[],[],[1],[0,1,2],[0,1,2,3],(rgN 5)] 300 yP (by kernel_rfl) rfl ?_);repeat (first | refine zG ?_ | refine zH ?_ | refine zW (by exact ⟨c.k.1,by show v.k.toNat < 10;have := c.k;omega⟩) ?_)
  refine zT _ (kindClasses_ok) rfl ?_;repeat (first | refine zG ?_ | refine zH ?_ | refine zW (by exact ⟨c.k.1,by show v.k.toNat < 10;have := c.k;omega⟩) ?_)
  refine zC (zA (zK (zM ?_)));exact FinV.ret rfl (SubP.int (by rw [clA,Aa c1]))
 ·replace c1 : v.k = 6 := by have h1 := c1;simp only [Bo,Am] at h1;exact h1
  refine zN (zA ?_);refine zB (zE zJ [] 400 rfl ?_);repeat (first | refine zG ?_ | refine zH ?_ | refine zW (by exact yJ (c.obj c1)) ?_)
  refine zC (zA (zB (zL 500 ?_)));refine zS rfl (fun c4 => ?_) (fun c4 => ?_)
  ·first | replace c4 := Af c4 | replace c4 := of_decide_eq_false c4
   refine zL 600 ?_;refine zK (zM ?_);exact FinV.ret rfl (SubP.int (by rw [clA,Ab c1,ocS,Ab c4]))
  ·first | replace c4 := Af c4 | replace c4 := of_decide_eq_false c4
   refine zN (zA ?_);refine zB (zU zJ [] [[],[],[1],[0,1,2],[0,1,2,3],(rgN 5)] 700 yP (by kernel_rfl) rfl ?_);repeat (first | refine zG ?_ | refine zH ?_ | refine zW (by exact ⟨Int.le_of_lt (c.kind c1).1,by show (zX h v.r).kind.toNat < 21;have h1 : 0 < (zX h v.r).kind ∧ (zX h v.r).kind < 21 := c.kind c1;omega⟩) ?_)
   refine zT _ (objectClasses_ok) rfl ?_;repeat (first | refine zG ?_ | refine zH ?_ | refine zW (by exact ⟨Int.le_of_lt (c.kind c1).1,by show (zX h v.r).kind.toNat < 21;have h1 : 0 < (zX h v.r).kind ∧ (zX h v.r).kind < 21 := c.kind c1;omega⟩) ?_)
   refine zC (zA (zK ?_));exact FinV.ret rfl (SubP.int (by rw [clA,Ab c1,ocS,Aa c4]))
theorem xA {P : Program} {K : DS → Prop} {p : Prop} {r : Out} (hr : r.sat P K) (hp : p := by first | exact ini (by omega) (by omega) | omega) : (Out.need p r).sat P K := ⟨hp,hr⟩
theorem classOfObject_ok (o : Ob) (hk : 0 < o.kind ∧ o.kind < 21) : Fn Tryz.prog 108 [.agg (obD o)] (.v (.int .i64 (ocS o))) := by
 refine yL zJ Tryz.func108 rfl rfl rfl rfl rfl rfl ?_;intro w0 s0 mx;refine zB (zE zJ [] 100 rfl ?_);repeat (first | refine zG ?_ | refine zH ?_ | refine xA ?_)
 refine zC (zA (zB ?_));refine zB (zE zJ [] 200 rfl ?_);repeat (first | refine zG ?_ | refine zH ?_ | refine xA ?_)
 refine zC (zA (zR ?_));refine zB (zE zJ [] 300 rfl ?_);repeat (first | refine zG ?_ | refine zH ?_ | refine xA ?_)
 refine zC (zA (zS rfl (fun c2 => ?_) (fun c2 => ?_)))
 ·first | replace c2 := Af c2 | replace c2 := of_decide_eq_false c2
  refine zB (zE zJ [] 400 rfl ?_);repeat (first | refine zG ?_ | refine zH ?_ | refine xA ?_)
  refine zC (zA (zK (zQ (zM ?_))));exact FinV.ret rfl (SubP.int (by rw [ocS,Ab c2]))
 ·first | replace c2 := Af c2 | replace c2 := of_decide_eq_false c2
  refine zB (zE zJ [] 500 rfl ?_);repeat (first | refine zG ?_ | refine zH ?_ | refine xA ?_)
  refine zC (zA (zS rfl (fun c4 => ?_) (fun c4 => ?_)))
  ·first | replace c4 := Af c4 | replace c4 := of_decide_eq_false c4
   refine zB (zE zJ [] 600 rfl ?_);repeat (first | refine zG ?_ | refine zH ?_ | refine xA ?_)
   refine zC (zA (zK (zQ (zM ?_))));exact FinV.ret rfl (SubP.int (by rw [ocS,Aa c2,c4];rfl))
  ·first | replace c4 := Af c4 | replace c4 := of_decide_eq_false c4
   refine zB (zE zJ [] 700 rfl ?_);repeat (first | refine zG ?_ | refine zH ?_ | refine xA ?_)
   refine zC (zA (zS rfl (fun c6 => ?_) (fun c6 => ?_)))
   ·first | replace c6 := Af c6 | replace c6 := of_decide_eq_false c6
    refine zB (zE zJ [] 800 rfl ?_);repeat (first | refine zG ?_ | refine zH ?_ | refine xA ?_)
    refine zC (zA (zK (zQ (zM ?_))));exact FinV.ret rfl (SubP.int (by rw [ocS,Aa c2,c6];rfl))
   ·first | replace c6 := Af c6 | replace c6 := of_decide_eq_false c6
    refine zB (zE zJ [] 900 rfl ?_);repeat (first | refine zG ?_ | refine zH ?_ | refine xA ?_)
    refine zC (zA (zS rfl (fun c8 => ?_) (fun c8 => ?_)))
    ·first | replace c8 := Af c8 | replace c8 := of_decide_eq_false c8
     refine zB (zE zJ [] 1000 rfl ?_);repeat (first | refine zG ?_ | refine zH ?_ | refine xA ?_)
     refine zC (zA (zK (zQ (zM ?_))));exact FinV.ret rfl (SubP.int (by rw [ocS,Aa c2,c8];rfl))
    ·first | replace c8 := Af c8 | replace c8 := of_decide_eq_false c8
     refine zB (zE zJ [] 1100 rfl ?_);repeat (first | refine zG ?_ | refine zH ?_ | refine xA ?_)
     refine zC (zA (zS rfl (fun c10 => ?_) (fun c10 => ?_)))
     ·first | replace c10 := Af c10 | replace c10 := of_decide_eq_false c10
      refine zB (zE zJ [] 1200 rfl ?_);repeat (first | refine zG ?_ | refine zH ?_ | refine xA ?_)
      refine zC (zA (zK (zQ (zM ?_))));exact FinV.ret rfl (SubP.int (by rw [ocS,Aa c2,c10];rfl))
     ·first | replace c10 := Af c10 | replace c10 := of_decide_eq_false c10
      refine zB (zE zJ [] 1300 rfl ?_);repeat (first | refine zG ?_ | refine zH ?_ | refine xA ?_)
      refine zC (zA (zS rfl (fun c12 => ?_) (fun c12 => ?_)))
      ·first | replace c12 := Af c12 | replace c12 := of_decide_eq_false c12
       refine zB (zE zJ [] 1400 rfl ?_);repeat (first | refine zG ?_ | refine zH ?_ | refine xA ?_)
       refine zC (zA (zK (zQ (zM ?_))));exact FinV.ret rfl (SubP.int (by rw [ocS,Aa c2,c12];rfl))
      ·first | replace c12 := Af c12 | replace c12 := of_decide_eq_false c12
       refine zB (zE zJ [] 1500 rfl ?_);repeat (first | refine zG ?_ | refine zH ?_ | refine xA ?_)
       refine zC (zA (zS rfl (fun c14 => ?_) (fun c14 => ?_)))
       ·first | replace c14 := Af c14 | replace c14 := of_decide_eq_false c14
        refine zB (zE zJ [] 1600 rfl ?_);repeat (first | refine zG ?_ | refine zH ?_ | refine xA ?_)
        refine zC (zA (zK (zQ (zM ?_))));exact FinV.ret rfl (SubP.int (by rw [ocS,Aa c2,c14];rfl))
       ·first | replace c14 := Af c14 | replace c14 := of_decide_eq_false c14
        refine zN (zP (zA (zB ?_)));refine zB (zE zJ [] 1700 rfl ?_);repeat (first | refine zG ?_ | refine zH ?_ | refine xA ?_)
        refine zC (zA (zS rfl (fun c16 => ?_) (fun c16 => ?_)))
        ·first | replace c16 := Af c16 | replace c16 := of_decide_eq_false c16
         refine zB (zE zJ [] 1800 rfl ?_);repeat (first | refine zG ?_ | refine zH ?_ | refine xA ?_)
         refine zC (zA (zK (zM ?_)));exact FinV.ret rfl (SubP.int (by rw [ocS,Aa c2,oc_ge (by omega) hk.2]))
        ·first | replace c16 := Af c16 | replace c16 := of_decide_eq_false c16
         refine zN (zA ?_);refine zB (zE zJ [] 1900 rfl ?_);repeat (first | refine zG ?_ | refine zH ?_ | refine xA ?_)
         refine zC (zA (zK ?_));exact FinV.ret rfl (SubP.int (by rw [ocS,Aa c2,oc_lt (by omega) (by omega)]))
theorem zC0 (h : List Ob) (v : Vl) (c : Cf h v) : Fn Tryz.prog 69 [hpD md h,.agg (vlD v)] (.v (.int .i64 (clA h v))) := by
 refine yL zJ Tryz.func69 rfl rfl rfl rfl rfl rfl ?_;intro w0 s0 mx;refine zL 100 ?_;refine zB (zL 200 ?_);refine zR (zL 300 ?_);refine zS rfl (fun c2 => ?_) (fun c2 => ?_)
 ·first | replace c2 := Af c2 | replace c2 := of_decide_eq_false c2
  refine zL 400 ?_;refine zK (zQ (zM ?_));exact FinV.ret rfl (SubP.int (by rw [clA,Aa (by omega),c2];rfl))
 ·first | replace c2 := Af c2 | replace c2 := of_decide_eq_false c2
  refine zL 500 ?_;refine zS rfl (fun c4 => ?_) (fun c4 => ?_)
  ·first | replace c4 := Af c4 | replace c4 := of_decide_eq_false c4
   refine zL 600 ?_;refine zK (zQ (zM ?_));exact FinV.ret rfl (SubP.int (by rw [clA,Aa (by omega),c4];rfl))
  ·first | replace c4 := Af c4 | replace c4 := of_decide_eq_false c4
   refine zL 700 ?_;refine zS rfl (fun c6 => ?_) (fun c6 => ?_)
   ·first | replace c6 := Af c6 | replace c6 := of_decide_eq_false c6
    refine zL 800 ?_;refine zK (zQ (zM ?_));exact FinV.ret rfl (SubP.int (by rw [clA,Aa (by omega),c6];rfl))
   ·first | replace c6 := Af c6 | replace c6 := of_decide_eq_false c6
    refine zL 900 ?_;refine zS rfl (fun c8 => ?_) (fun c8 => ?_)
    ·first | replace c8 := Af c8 | replace c8 := of_decide_eq_false c8
     refine zL 1000 ?_;refine zK (zQ (zM ?_));exact FinV.ret rfl (SubP.int (by rw [clA,Aa (by omega),c8];rfl))
    ·first | replace c8 := Af c8 | replace c8 := of_decide_eq_false c8
     refine zL 1100 ?_;refine zS rfl (fun c10 => ?_) (fun c10 => ?_)
     ·first | replace c10 := Af c10 | replace c10 := of_decide_eq_false c10
      refine zL 1200 ?_;refine zK (zQ (zM ?_));exact FinV.ret rfl (SubP.int (by rw [clA,Aa (by omega),c10];rfl))
     ·first | replace c10 := Af c10 | replace c10 := of_decide_eq_false c10
      refine zL 1300 ?_;refine zS rfl (fun c12 => ?_) (fun c12 => ?_)
      ·first | replace c12 := Af c12 | replace c12 := of_decide_eq_false c12
       refine zL 1400 ?_;refine zK (zQ (zM ?_));exact FinV.ret rfl (SubP.int (by rw [clA,Aa (by omega),c12];rfl))
      ·first | replace c12 := Af c12 | replace c12 := of_decide_eq_false c12
       refine zL 1500 ?_;refine zS rfl (fun c14 => ?_) (fun c14 => ?_)
       ·first | replace c14 := Af c14 | replace c14 := of_decide_eq_false c14
        refine zL 1600 ?_;refine zK (zQ (zM ?_));exact FinV.ret rfl (SubP.int (by rw [clA,Aa (by omega),c14];rfl))
       ·first | replace c14 := Af c14 | replace c14 := of_decide_eq_false c14
        refine zL 1700 ?_;refine zS rfl (fun c16 => ?_) (fun c16 => ?_)
        ·first | replace c16 := Af c16 | replace c16 := of_decide_eq_false c16
         refine zB (zE zJ [] 1800 rfl ?_);repeat (first | refine zG ?_ | refine zH ?_ | refine zW (by exact yJ (c.obj c16)) ?_)
         refine zT _ (classOfObject_ok _ (c.kind c16)) rfl ?_;repeat (first | refine zG ?_ | refine zH ?_ | refine zW (by exact yJ (c.obj c16)) ?_)
         refine zC (zA (zK (zQ (zM ?_))));exact FinV.ret rfl (SubP.int (by rw [clA,Ab c16]))
        ·first | replace c16 := Af c16 | replace c16 := of_decide_eq_false c16
         refine zN (zP (zA (zL 1900 ?_)));refine zK ?_;exact FinV.ret rfl (SubP.int (by rw [clA,Aa c16,show v.k = 0 by have := c.k;omega];rfl))
variable {md me : Bool}
variable {md me : Bool}
theorem bAt_lt (s : ByteArray) (i : Nat) : bAt s i < 256 := by
 unfold bAt;split
 ·exact UInt8.toNat_lt _
 ·decide
variable {md me : Bool}
def nuV (n : Int) : Vl := ⟨2,decide (n < 0),lim n.natAbs,false,[],ByteArray.empty,0⟩
variable {md me : Bool}
structure Bn (l : List Bool) where
 j : Nat
 o : List Nat
 eq : V o = VB (l.take (16 * j))
 lo : o.length = j
 dg : Dg o
 le : 16 * j ≤ l.length + 15
def Bn.next {l : List Bool} (x : Bn l) (h : 16 * x.j < l.length) : Bn l := ⟨x.j + 1,x.o ++ [xL l (16 * x.j) 0],binary_step x.eq x.lo h,by simp [x.lo],x.dg.snoc (xY0 _ _ _),by omega⟩
theorem xZ0 {l : List Bool} {i k : Nat} (hk : k < 16) : xL l i k = xL l i (k + 1) * 2 + (if decide (i + k < l.length) && l.getD (i + k) false then 1 else 0) := by
 rw [chunk_step hk,Cs];by_cases h : i + k < l.length
 ·rw [dif_pos h,Bg h,Bool.true_and,Ai,Ac h];cases l[i + k] <;> rfl
 ·rw [dif_neg h,Br h];rfl
def jU0 (l : List Bool) (i k : Nat) : Bool := decide (i + k < l.length) && l.getD (i + k) false
theorem chunk_one {l : List Bool} {i k : Nat} (hk : k < 16) (h : jU0 l i k = true) : xL l i k = xL l i (k + 1) * 2 + 1 := by rw [xZ0 hk];unfold jU0 at h;rw [h];rfl
theorem chunk_nil {l : List Bool} {i k : Nat} (hk : k < 16) (h : jU0 l i k = false) : xL l i k = xL l i (k + 1) * 2 := by rw [xZ0 hk];unfold jU0 at h;rw [h];rfl
structure Bj where
 k : Nat
 le : k ≤ 16
theorem bit_T {l : List Bool} {I k : Nat} (hk : 1 ≤ k) (h : (I : Int) + ((k : Int) - 1) < l.length ∧ l.getD ((I : Int) + ((k : Int) - 1)).toNat false = true) : jU0 l I (k - 1) = true := by
 unfold jU0;rw [show ((I : Int) + ((k : Int) - 1)).toNat = I + (k - 1) by omega] at h;rw [h.2,Bg (by omega)];rfl
theorem bit_F {l : List Bool} {I k : Nat} (hk : 1 ≤ k) (h : (decide ((I : Int) + ((k : Int) - 1) < l.length) && l.getD ((I : Int) + ((k : Int) - 1)).toNat false) = false) : jU0 l I (k - 1) = false := by
 unfold jU0;rw [show ((I : Int) + ((k : Int) - 1)).toNat = I + (k - 1) by omega] at h;rw [show decide (I + (k - 1) < l.length) = decide ((I : Int) + ((k : Int) - 1) < l.length) from decide_eq_decide.2 (by omega)];exact h
theorem Bn.all {l : List Bool} (x : Bn l) (h : l.length ≤ 16 * x.j) : V x.o = VB l := by rw [x.eq,An h]
structure Nb (n : Int) where
 m : Int
 o : List Bool
 eq : VB o + m.natAbs * 2 ^ o.length = n.natAbs
 lo : -9223372036854775808 ≤ m
 hi : m ≤ 9223372036854775807
 ln : o.length ≤ 64
theorem nb_bit (m : Int) : (!decide (Int.tmod m 2 = 0)) = (m.natAbs % 2 == 1) := by
 have : (Int.tmod m 2).natAbs = m.natAbs % 2 := by
  rw [Int.natAbs_tmod];rfl
 rw [Bool.eq_iff_iff,Bc,At,beq_iff_eq,← this];have h : (Int.tmod m 2).natAbs < 2 := by rw [this];omega
 omega
theorem bK (m : Int) : (Int.tdiv m 2).natAbs = m.natAbs / 2 := by rw [Int.natAbs_tdiv];rfl
def Nb.next {n : Int} (x : Nb n) (h : x.o.length ≤ 63) : Nb n := ⟨Int.tdiv x.m 2,x.o ++ [!decide (Int.tmod x.m 2 = 0)],by
 rw [nb_bit,bK,Ae,Cj];exact ones_step x.eq rfl,by have := bK x.m;have := x.lo;have := x.hi;omega,by have := bK x.m;have := x.lo;have := x.hi;omega,by simp;omega⟩
theorem Nb.len {n : Int} (x : Nb n) (h : ¬ x.m = 0) (h1 : -9223372036854775808 ≤ n) (h2 : n ≤ 9223372036854775807) : x.o.length ≤ 63 := by
 rcases Cc 63 x.o.length with h3 | h3
 ·have h4 : 2 ^ 64 ≤ 2 ^ x.o.length := Dj (by omega) h3;have h5 : 1 * 2 ^ x.o.length ≤ x.m.natAbs * 2 ^ x.o.length := Ck _ (by omega);have h6 := x.eq;omega
 ·exact h3
theorem Nb.fin {n : Int} (x : Nb n) (h : x.m = 0) : VB x.o = n.natAbs := by rw [← x.eq,h];simp
structure Lb (n : Nat) where
 j : Nat
 o : List Nat
 eq : VL o = V ((dig n).take (2 * j))
 lo : o.length = j
 lg : Lg o
 le : 2 * j < (dig n).length + 2
def lbD (n j : Nat) : Nat := (dig n).getD (2 * j) 0 + (dig n).getD (2 * j + 1) 0 * 65536
theorem lb_T (n j : Nat) : IntKind.u32.wrap (IntKind.u32.wrap (((dig n).getD (2 * j) 0 : Nat) : Int) + IntKind.u32.wrap (IntKind.u32.wrap (((dig n).getD (2 * j + 1) 0 : Nat) : Int) * 65536)) = ((lbD n j : Nat) : Int) := by
 have h1 := vR n (2 * j);have h2 := vR n (2 * j + 1);unfold lbD;simp only [IntKind.wrap,IntKind.signed,IntKind.bits,Bool.false_and,Cg,if_false];omega
theorem lb_F (n j : Nat) (h : (dig n).length ≤ 2 * j + 1) : IntKind.u32.wrap (((dig n).getD (2 * j) 0 : Nat) : Int) = ((lbD n j : Nat) : Int) := by
 have h1 := vR n (2 * j);unfold lbD;rw [xD h];simp only [IntKind.wrap,IntKind.signed,IntKind.bits,Bool.false_and,Cg,if_false];omega
def Lb.next {n : Nat} (x : Lb n) (h : 2 * x.j < (dig n).length) : Lb n := ⟨x.j + 1,x.o ++ [lbD n x.j],limbs_step x.eq x.lo,by simp [x.lo],x.lg.snoc (by have h1 := vR n (2 * x.j);have h2 := vR n (2 * x.j + 1);unfold lbD;omega),by omega⟩
theorem Lb.fin {n : Nat} (x : Lb n) (h : (dig n).length ≤ 2 * x.j) : x.o = lim n := limbs_end (by rw [x.lo];exact x.eq) (by rw [x.lo];exact h) (by rw [x.lo];exact x.le) x.lg
theorem Binary_ok (l : List Bool) (hl : l.length ≤ 100000000) : Fn Tryz.prog 184 [.sl false 1 l bD false] (natD (VB l)) := by
 refine yL zJ Tryz.func184 rfl rfl rfl rfl rfl rfl ?_;intro w0 s0 mx;refine zL 100 ?_;refine zL 200 ?_;refine yW 3 3 1 rfl ?_;refine zB (zL 300 ?_);refine zR ?_;refine yC (ι := Bn l) [0] [] 350 (fun x => [(4,.v (.int .i64 (16 * x.j : Nat))),(3,.own 200 1 (x.o.map nD))]) (fun x => [(200,.row 3 1 (x.o.map nD).length)]) (fun x => l.length + 16 - 16 * x.j) ⟨0,[],rfl,rfl,Dg.nil,by omega⟩ ?_;refine ⟨⟨yG,yD,rfl,rfl⟩,fun x => ?_⟩;have hk := x.le;have hk2 := x.lo;refine zB (zL 400 ?_);refine zZ (fun c3 => ?_) (fun c3 => ?_)
 ·
  refine zN (zA (zB (zR (zL 600 ?_))));refine zB (zL 700 ?_);refine zR ?_;refine yC (ι := Bj) [0,3,4] [200] 750 (fun y => [(6,.v (.int .i64 ((y.k : Int) - 1))),(5,.v (.int .i64 (xL l (16 * x.j) y.k : Nat)))]) (fun _ => []) (fun y => y.k) ⟨16,Ar _⟩ ?_;refine ⟨⟨(by first | exact trivial | (repeat (first | exact trivial | exact Sub.refl _ | refine ⟨?_,?_⟩ | exact Sub.int (by first | rfl | omega | (push_cast;omega)) | exact Sub.nilSl | exact Sub.own rfl | exact Sub.slrSl rfl | exact Sub.ownSl (Ad).symm | exact Sub.ownSl rfl | exact Sub.int (by rw [chunk_top];rfl)))),yD,rfl,rfl⟩,fun y => ?_⟩;have hy := y.le;have hy2 := xY0 l (16 * x.j) y.k;refine zB (zL 800 ?_);refine zZ (fun c7 => ?_) (fun c7 => ?_)
  ·
   refine zN (zA (zB (zR (zL 1000 ?_))));refine zL 1100 ?_;refine zZ (fun c10 => ?_) (fun c10 => ?_)
   ·
    refine yT zJ [] 1200 ?_;refine zP (zA (yT zJ [] 1300 ?_));exact zV ⟨y.k - 1,by omega⟩ ⟨(by first | exact trivial | (repeat (first | exact trivial | exact Sub.refl _ | refine ⟨?_,?_⟩ | exact Sub.int (by first | rfl | omega | (push_cast;omega)) | exact Sub.nilSl | exact Sub.own rfl | exact Sub.slrSl rfl | exact Sub.ownSl (Ad).symm | exact Sub.ownSl rfl | exact Sub.int (by show (y.k : Int) - 1 - 1 = ((y.k - 1 : Nat) : Int) - 1;omega) | exact Sub.int (by show _ = ((xL l (16 * x.j) (y.k - 1) : Nat) : Int);rw [chunk_one (k := y.k - 1) (by omega) (bit_T (by omega) c10),show y.k - 1 + 1 = y.k by omega];push_cast;rfl)))),yD,rfl,rfl⟩ (by show y.k - 1 < y.k;omega)
   ·
    refine zN (zP (zA (yT zJ [] 1200 ?_)));exact zV ⟨y.k - 1,by omega⟩ ⟨(by first | exact trivial | (repeat (first | exact trivial | exact Sub.refl _ | refine ⟨?_,?_⟩ | exact Sub.int (by first | rfl | omega | (push_cast;omega)) | exact Sub.nilSl | exact Sub.own rfl | exact Sub.slrSl rfl | exact Sub.ownSl (Ad).symm | exact Sub.ownSl rfl | exact Sub.int (by show (y.k : Int) - 1 - 1 = ((y.k - 1 : Nat) : Int) - 1;omega) | exact Sub.int (by show _ = ((xL l (16 * x.j) (y.k - 1) : Nat) : Int);rw [chunk_nil (k := y.k - 1) (by omega) (bit_F (by omega) c10),show y.k - 1 + 1 = y.k by omega];push_cast;rfl)))),yD,rfl,rfl⟩ (by show y.k - 1 < y.k;omega)
  ·
   refine yF (yA (yB (zY (zA (yT zJ [] 1300 ?_)))));refine zP (zA (yT zJ [] 1400 ?_));obtain ⟨ky,hky⟩ := y;have hz : ky = 0 := by simp only at c7;omega
   subst hz;exact zV (x.next (by omega)) ⟨(by first | exact trivial | (repeat (first | exact trivial | exact Sub.refl _ | refine ⟨?_,?_⟩ | exact Sub.int (by first | rfl | omega | (push_cast;omega)) | exact Sub.nilSl | exact Sub.own rfl | exact Sub.slrSl rfl | exact Sub.ownSl (Ad).symm | exact Sub.ownSl rfl | exact Sub.int (by show ((16 * x.j : Nat) : Int) + 16 = ((16 * (x.j + 1) : Nat) : Int);omega) | exact Sub.own (by show _ = List.map nD (x.o ++ [_]);rw [Ad];rfl)))),(by repeat (first | exact trivial | exact SubO.same rfl | exact ⟨rfl,rfl,by show _ = (List.map nD (x.o ++ [_])).length;simp⟩ | refine ⟨?_,?_⟩)),rfl,rfl⟩ (by show l.length + 16 - 16 * (x.j + 1) < l.length + 16 - 16 * x.j;omega)
 ·
  refine yF (yA (yB (zY (zA ?_))));refine yH [] [] 410 [(3,.sl false 1 x.o nD 0)] [] ?_;refine ⟨⟨⟨Sub.ownSl rfl,trivial⟩,yD,rfl,rfl⟩,?_⟩;refine zB (zE zJ [] 1400 rfl ?_);refine zF ?_;refine zT _ (wY _ x.dg (by rw [hk2];omega)) rfl ?_;refine zF ?_;refine zC (zA (zK ?_));exact FinV.ret rfl (SubP.of_eq (by rw [x.all (by omega)]))
theorem Number3_ok (n : Int) (h1 : -9223372036854775808 ≤ n) (h2 : n ≤ 9223372036854775807) : Fn Tryz.prog 167 [.v (.int .i64 n)] (.agg [.v (.bool (decide (n < 0))),natD n.natAbs]) := by
 refine yL zJ Tryz.func167 rfl rfl rfl rfl rfl rfl ?_;intro w0 s0 mx;refine zL 100 ?_;refine zL 200 ?_;refine yW 3 4 1 rfl ?_;refine zL 300 ?_;refine zB (zR ?_);refine yC (ι := Nb n) [2,4] [0] 350 (fun x => [(0,.v (.int .i64 x.m)),(3,.own 200 1 (x.o.map bD))]) (fun x => [(200,.row 4 1 (x.o.map bD).length)]) (fun x => x.m.natAbs) ⟨n,[],by simp [VB],h1,h2,by simp⟩ ?_;refine ⟨⟨yG,yD,rfl,rfl⟩,fun x => ?_⟩;have hk := x.lo;have hk2 := x.hi;refine zB (zL 400 ?_);refine zZ (fun c3 => ?_) (fun c3 => ?_)
 ·
  refine zN (zA (zR ?_));refine zB (zE zJ [] 500 rfl ?_);repeat (first | refine zG ?_ | refine zH ?_ | refine zW (by first | exact trivial | omega | exact ini (by omega) (by omega) | (intro hh;simp at hh;exact ini (by omega) (by omega)) | (intro hh;simp at hh ⊢;omega) | (simp at *;omega) | (simp_all;done) | (have h3 := x.len c3 h1 h2;simp only [Ao,Ak,Aq];omega)) ?_)
  refine zC (zA ?_);refine zE zJ [] 600 rfl ?_;repeat (first | refine zG ?_ | refine zH ?_ | refine zW (by first | exact trivial | omega | exact ini (by omega) (by omega) | (intro hh;simp at hh;exact ini (by omega) (by omega)) | (intro hh;simp at hh ⊢;omega) | (simp at *;omega) | (simp_all;done) | (have h3 := bK x.m;exact ⟨by decide,ini (by omega) (by omega)⟩)) ?_)
  refine zC (zP ?_);exact zV (x.next (x.len c3 h1 h2)) ⟨(by first | exact trivial | (repeat (first | exact trivial | exact Sub.refl _ | refine ⟨?_,?_⟩ | exact Sub.int (by first | rfl | omega | (push_cast;omega)) | exact Sub.nilSl | exact Sub.own rfl | exact Sub.slrSl rfl | exact Sub.ownSl (Ad).symm | exact Sub.ownSl rfl | exact Sub.own (by show _ = List.map bD (x.o ++ [_]);rw [Ad];rfl)))),(by repeat (first | exact trivial | exact SubO.same rfl | exact ⟨rfl,rfl,by show _ = (List.map bD (x.o ++ [_])).length;simp⟩ | refine ⟨?_,?_⟩)),rfl,rfl⟩ (by show (Int.tdiv x.m 2).natAbs < x.m.natAbs;have := bK x.m;omega)
 ·
  refine yF (yA (yB (zY (zA ?_))));refine yH [2,4] [0] 410 [(3,.sl false 1 x.o bD false)] [] ?_;refine ⟨⟨⟨Sub.ownSl rfl,by repeat (first | exact trivial | exact Sub.refl _ | refine ⟨?_,?_⟩)⟩,yD,rfl,rfl⟩,?_⟩;refine zB (zE zJ [] 700 rfl ?_);refine zF ?_;refine zT _ (Binary_ok _ (by have := x.ln;omega)) rfl ?_;refine zF ?_;refine zC (zA (zK ?_));exact FinV.ret rfl (SubP.agg ⟨SubP.refl _,SubP.of_eq (by rw [x.fin (by omega)]),trivial⟩)
theorem Limbs3_ok (n : Nat) (hl : (dig n).length ≤ 100000000) : Fn Tryz.prog 183 [natD n] (.sl false 1 (lim n) uD 0) := by
 refine yL zJ Tryz.func183 rfl rfl rfl rfl rfl rfl ?_;intro w0 s0 mx;refine zL 100 ?_;refine zL 200 ?_;refine yW 3 110 1 rfl ?_;refine zB (zL 300 ?_);refine zR ?_;refine yC (ι := Lb n) [0] [] 350 (fun x => [(4,.v (.int .i64 (2 * x.j : Nat))),(3,.own 200 1 (x.o.map uD))]) (fun x => [(200,.row 110 1 (x.o.map uD).length)]) (fun x => (dig n).length + 2 - 2 * x.j) ⟨0,[],by simp [VL,V],rfl,Lg.nil,by omega⟩ ?_;refine ⟨⟨yG,yD,rfl,rfl⟩,fun x => ?_⟩;have hk := x.le;have hk2 := x.lo;refine zB (zL 400 ?_);refine zZ (fun c3 => ?_) (fun c3 => ?_)
 ·
  refine zN (zA (zB (zR (zL 600 ?_))));refine zB (zL 700 ?_);refine zZ (fun c6 => ?_) (fun c6 => ?_)
  ·
   refine yT zJ [] 800 ?_;refine zA (yT zJ [] 900 ?_);refine zP (zA (yT zJ [] 1000 ?_));exact zV (x.next (by omega)) ⟨(by first | exact trivial | (repeat (first | exact trivial | exact Sub.refl _ | refine ⟨?_,?_⟩ | exact Sub.int (by first | rfl | omega | (push_cast;omega)) | exact Sub.nilSl | exact Sub.own rfl | exact Sub.slrSl rfl | exact Sub.ownSl (Ad).symm | exact Sub.ownSl rfl | exact Sub.int (by show ((2 * x.j : Nat) : Int) + 2 = ((2 * (x.j + 1) : Nat) : Int);omega) | exact Sub.own (by show _ = List.map uD (x.o ++ [_]);rw [Ad];show _ = List.map uD x.o ++ [[D.v (Value.int .u32 ((lbD n x.j : Nat) : Int))]];rw [← lb_T n x.j];rfl)))),(by repeat (first | exact trivial | exact SubO.same rfl | exact ⟨rfl,rfl,by show _ = (List.map uD (x.o ++ [_])).length;simp⟩ | refine ⟨?_,?_⟩)),rfl,rfl⟩ (by show (dig n).length + 2 - 2 * (x.j + 1) < (dig n).length + 2 - 2 * x.j;omega)
  ·
   refine zN (zA (yT zJ [] 900 ?_));refine zP (zA (yT zJ [] 1000 ?_));exact zV (x.next (by omega)) ⟨(by first | exact trivial | (repeat (first | exact trivial | exact Sub.refl _ | refine ⟨?_,?_⟩ | exact Sub.int (by first | rfl | omega | (push_cast;omega)) | exact Sub.nilSl | exact Sub.own rfl | exact Sub.slrSl rfl | exact Sub.ownSl (Ad).symm | exact Sub.ownSl rfl | exact Sub.int (by show ((2 * x.j : Nat) : Int) + 2 = ((2 * (x.j + 1) : Nat) : Int);omega) | exact Sub.own (by show _ = List.map uD (x.o ++ [_]);rw [Ad];show _ = List.map uD x.o ++ [[D.v (Value.int .u32 ((lbD n x.j : Nat) : Int))]];rw [← lb_F n x.j (by omega)];rfl)))),(by repeat (first | exact trivial | exact SubO.same rfl | exact ⟨rfl,rfl,by show _ = (List.map uD (x.o ++ [_])).length;simp⟩ | refine ⟨?_,?_⟩)),rfl,rfl⟩ (by show (dig n).length + 2 - 2 * (x.j + 1) < (dig n).length + 2 - 2 * x.j;omega)
 ·
  refine yF (yA (yB (zY (zA (zL 1000 ?_)))));refine zK ?_;exact FinV.ret rfl (SubP.ownSl (by rw [x.fin (by omega)]))
theorem whole_neg (z : Int) : (decide (z < 0) && decide ((0 : Int) < ((dig z.natAbs).length : Nat))) = decide (z < 0) := by
 by_cases h : z < 0
 ·rw [Bg h,Bool.true_and];refine Bg ?_;have h2 : dig z.natAbs ≠ [] := fun e => by rw [dig_eq_nil] at e;omega
  have := List.length_pos_iff.2 h2;omega
 ·rw [Br h];rfl
theorem Whole7_ok (z : Int) (hl : (dig z.natAbs).length ≤ 100000000) : Fn Tryz.prog 166 [.agg [.v (.bool (decide (z < 0))),natD z.natAbs]] (.agg (vlD (nuV z))) := by
 refine yL zJ Tryz.func166 rfl rfl rfl rfl rfl rfl ?_;intro w0 s0 mx;refine zL 100 ?_;refine zB (zU zJ [] [[],[0],[0,1],[0,1,2],[0,1,2,3],(rgN 5),(rgN 6),(rgN 7),[],[8],[0,1,2,8,9],(rgN 11),(rgN 12),(rgN 13)] 200 yP (by kernel_rfl) rfl ?_);refine zF ?_;refine zT _ (Limbs3_ok _ (by first | assumption | omega | (simp_all;done))) rfl ?_;refine zF ?_;refine zC (zA (zK ?_));exact FinV.ret rfl (SubP.agg ⟨SubP.refl _,SubP.of_eq (by rw [whole_neg];rfl),SubP.refl _,SubP.refl _,SubP.nilSl rfl,SubP.refl _,SubP.refl _,trivial⟩)
theorem dig_small {n : Int} (h1 : -9223372036854775808 ≤ n) (h2 : n ≤ 9223372036854775807) : (dig n.natAbs).length ≤ 100000000 := Bq (vM (k := 4) (by omega)) (by omega)
theorem N_ok (n : Int) (h1 : -9223372036854775808 ≤ n) (h2 : n ≤ 9223372036854775807) : Fn Tryz.prog 142 [.v (.int .i64 n)] (.agg (vlD (nuV n))) := by
 refine yL zJ Tryz.func142 rfl rfl rfl rfl rfl rfl ?_;intro w0 s0 mx;refine zL 100 ?_;refine zB (zE zJ [] 200 rfl ?_);refine zF ?_;refine zT _ (Number3_ok n h1 h2) rfl ?_;refine zF ?_;refine zT _ (Whole7_ok n (dig_small h1 h2)) rfl ?_;refine zF ?_;refine zC (zA (zK ?_));exact FinV.ret rfl (SubP.refl _)
variable {md me : Bool}
theorem xJ0 {α : Type} [DecidableEq α] : ∀ (l : List α) (n : α),ixI l n < l.length
 | [],n => by show (-1 : Int) < ((0 : Nat) : Int);omega
 | x :: l,n => by
  have := xJ0 l n;rw [ixI,Ak];split
  ·omega
  ·split <;> omega
def ownB (o : Ob) (s : ByteArray) : Bool := decide (0 ≤ ixI o.names s)
def ownV (o : Ob) (s : ByteArray) : Vl := if ixI o.names s < 0 then vl0 else o.items.getD (ixI o.names s).toNat vl0
structure Fd {α : Type} (l : List α) (p : α → Bool) where
 k : Nat
 le : k ≤ l.length
 eq : (l.drop k).find? p = l.find? p
def Fd.next {α : Type} {l : List α} {p : α → Bool} (x : Fd l p) (e : α) (hk : x.k < l.length) (h0 : p (l.getD (x.k : Int).toNat e) = false) : Fd l p := ⟨x.k + 1,hk,by rw [← x.eq,yM0 hk e,List.find?_cons_of_neg (by rw [h0];decide)]⟩
theorem Fd.found {α : Type} {l : List α} {p : α → Bool} (x : Fd l p) (e : α) (hk : x.k < l.length) (h0 : p (l.getD (x.k : Int).toNat e) = true) : l.find? p = some (l.getD (x.k : Int).toNat e) := by rw [← x.eq,yM0 hk e,List.find?_cons_of_pos h0]
theorem Fd.none {α : Type} {l : List α} {p : α → Bool} (x : Fd l p) (hk : l.length ≤ x.k) : l.find? p = none := by rw [← x.eq,Bx hk];rfl
def fdO (h : List Ob) (l : List Int) (s : ByteArray) : Option Int := l.find? fun c => ownB (zX h c) s
def fdV (h : List Ob) (s : ByteArray) : Option Int → Vl
 | some c => ownV (zX h c) s
 | none => vl0
def fdC : Option Int → Int
 | some c => c
 | none => 0
def Cok (h : List Ob) (l : List Int) : Prop := l.length ≤ 2000000 ∧ ∀ c ∈ l,inH h c ∧ (zX h c).names.length ≤ (zX h c).items.length
theorem cR {h : List Ob} {l : List Int} (hc : Cok h l) {k : Nat} (hk : k < l.length) : inH h (l.getD (k : Int).toNat 0) ∧ (zX h (l.getD (k : Int).toNat 0)).names.length ≤ (zX h (l.getD (k : Int).toNat 0)).items.length := hc.2 _ (by rw [gX hk];exact Ca _)
theorem NameText_ok (s : ByteArray) : Fn Tryz.prog 6 [.v (.string s)] (.v (.bool (uZ s))) := by
 refine yL zJ Tryz.func6 rfl rfl rfl rfl rfl rfl ?_;intro w0 s0 mx;refine zL 100 ?_;refine zB (zE zJ [] 200 rfl ?_);refine zF ?_;refine zT _ (mT _) rfl ?_;refine zF ?_;refine zC (zA (zK ?_));exact FinV.ret rfl (SubP.refl _)
theorem yY (h : List Ob) (v : Vl) (hv : v.k = 6 → yO h v.r = true) : Fn Tryz.prog 35 [hpD md h,.agg (vlD v)] (.agg (obD (zO h v))) := by
 refine yL zJ Tryz.func35 rfl rfl rfl rfl rfl rfl ?_;intro w0 s0 mx;refine zL 100 ?_;refine zB (zL 200 ?_);refine zZ (fun c1 => ?_) (fun c1 => ?_)
 ·
  refine zL 300 ?_;refine zK (zM ?_);have e : zO h v = ob0 := bJ c1;rw [e];exact FinV.ret rfl (by repeat (first | exact trivial | exact SubP.refl _ | exact SubP.nilSl rfl | refine SubP.agg ?_ | refine ⟨?_,?_⟩))
 ·
  refine zN (zA ?_);refine zB (zE zJ [] 400 rfl ?_);repeat (first | refine zG ?_ | refine zH ?_ | refine zW (by exact yJ (hv c1)) ?_)
  refine zC (zA (zK ?_));have e : zO h v = h.getD v.r.toNat ob0 := objS_at hv c1;rw [e];exact FinV.ret rfl (by repeat (first | exact trivial | exact SubP.refl _ | exact SubP.nilSl rfl | refine SubP.agg ?_ | refine ⟨?_,?_⟩))
theorem gR (o : Ob) (s : ByteArray) (hn : o.names.length ≤ o.items.length) : Fn Tryz.prog 38 [.agg (obD o),.v (.string s)] (.tup [.agg (vlD (ownV o s)),.v (.bool (ownB o s))]) := by
 have hlt := xJ0 o.names s;refine yL zJ Tryz.func38 rfl rfl rfl rfl rfl rfl ?_;intro w0 s0 mx;refine zL 100 ?_;refine zB (zE zJ [] 200 rfl ?_);refine zF ?_;refine zT _ (gF _ _) rfl ?_;refine zF ?_;refine zC (zA (zB (zL 300 ?_)));refine zZ (fun c2 => ?_) (fun c2 => ?_)
 ·
  refine zL 400 ?_;refine zK (zM ?_);exact FinV.ret rfl (SubP.tup ⟨by rw [ownV,Ab c2];exact (by repeat (first | exact trivial | exact SubP.refl _ | exact SubP.nilSl rfl | refine SubP.agg ?_ | refine ⟨?_,?_⟩)),SubP.bool (by rw [ownB,Br (by omega)]),trivial⟩)
 ·
  refine zN (zA (zL 500 ?_));refine zK ?_;exact FinV.ret rfl (SubP.tup ⟨by rw [ownV,Aa (by omega)];exact SubP.refl _,SubP.bool (by rw [ownB,Bg (by omega)]),trivial⟩)
theorem gM0 (o : Ob) (s : ByteArray) (hn : o.names.length ≤ o.items.length) (hl : o.names.length ≤ 2000000) : Fn Tryz.prog 14 [.agg (obD o),.v (.string s)] (.tup [.agg (vlD (ownV o s)),.v (.bool (ownB o s))]) := by
 refine yL zJ Tryz.func14 rfl rfl rfl rfl rfl rfl ?_;intro w0 s0 mx;refine zL 100 ?_;refine zB (zL 200 ?_);refine zR ?_;refine yC (ι := Nf o.names s) [1,2,4,9,10] [0,1] 250 (fun x => [(11,.v (.int .i64 x.k))]) (fun _ => []) (fun x => o.names.length - x.k) ⟨0,Ap _,fun j hj => by omega⟩ ?_;refine ⟨⟨yG,yD,rfl,rfl⟩,fun x => ?_⟩;have hk := x.le;refine zL 300 ?_;refine zB (zZ (fun c2 => ?_) (fun c2 => ?_))
 ·
  refine zN (zA (zB (zR (zL 400 ?_))));refine zL 500 ?_;refine zS rfl (fun c4 => ?_) (fun c4 => ?_)
  ·replace c4 : s = o.names.getD (x.k : Int).toNat ByteArray.empty := (Af c4).symm
   refine zL 600 ?_;refine zK (zQ (zM (yU (zQ (zM ?_)))));have e : ixI o.names s = x.k := x.found c2 c4;exact FinV.ret rfl (SubP.tup ⟨by rw [ownV,e,Aa (by omega)];exact SubP.refl _,SubP.bool (by rw [ownB,e,Bg (by omega)]),trivial⟩)
  ·replace c4 : ¬ s = o.names.getD (x.k : Int).toNat ByteArray.empty := fun e => (of_decide_eq_false c4) e.symm
   refine zN (zP (zA (yT zJ [] 700 ?_)));exact zV (x.next c2 c4) ⟨yG,yD,rfl,rfl⟩ (by show o.names.length - (x.k + 1) < o.names.length - x.k;omega)
 ·
  refine yF (yA (yB (zY (zA (zL 800 ?_)))));refine zK ?_;have e : ixI o.names s = -1 := x.none c2;exact FinV.ret rfl (SubP.tup ⟨by rw [ownV,e,Ab (by omega)];exact (by repeat (first | exact trivial | exact SubP.refl _ | exact SubP.nilSl rfl | refine SubP.agg ?_ | refine ⟨?_,?_⟩)),SubP.bool (by rw [ownB,e];rfl),trivial⟩)
theorem gC (h : List Ob) (l : List Int) (s : ByteArray) (hh : HpIn h) (hc : Cok h l) : Fn Tryz.prog 94 [hpD md h,isD l,.v (.string s)] (.tup [.agg (vlD (fdV h s (fdO h l s))),.v (.int .i64 (fdC (fdO h l s))),.v (.bool (fdO h l s).isSome)]) := by
 have hl := hc.1;refine yL zJ Tryz.func94 rfl rfl rfl rfl rfl rfl ?_;intro w0 s0 mx;refine zL 100 ?_;refine zB (zL 200 ?_);refine zR ?_;refine yC (ι := Fd l (fun c => ownB (zX h c) s)) [2,3,6,13,14] [0,1] 250 (fun x => [(15,.v (.int .i64 x.k))]) (fun _ => []) (fun x => l.length - x.k) ⟨0,Ap _,rfl⟩ ?_;refine ⟨⟨yG,yD,rfl,rfl⟩,fun x => ?_⟩;have hk := x.le;refine zL 300 ?_;refine zB (zZ (fun c2 => ?_) (fun c2 => ?_))
 ·
  refine zN (zA (zB (zR (zL 400 ?_))));refine zB (zE zJ [] 500 rfl ?_);repeat (first | refine zG ?_ | refine zH ?_ | refine zW (by exact (cR hc c2).1) ?_)
  refine zT _ (gR _ _ (cR hc c2).2) rfl ?_;repeat (first | refine zG ?_ | refine zH ?_ | refine zW (by exact (cR hc c2).1) ?_)
  refine zC (zA (zL 600 ?_));refine zS rfl (fun c5 => ?_) (fun c5 => ?_)
  ·
   refine zL 700 ?_;refine zK (zQ (zM (yU (zQ (zM ?_)))));have e : fdO h l s = some (l.getD (x.k : Int).toNat 0) := x.found 0 c2 c5;exact FinV.ret rfl (SubP.tup ⟨by rw [e];exact SubP.refl _,by rw [e];exact SubP.refl _,by rw [e];exact SubP.refl _,trivial⟩)
  ·
   refine zN (zP (zA (yT zJ [] 800 ?_)));exact zV (x.next 0 c2 c5) ⟨yG,yD,rfl,rfl⟩ (by show l.length - (x.k + 1) < l.length - x.k;omega)
 ·
  refine yF (yA (yB (zY (zA (zL 900 ?_)))));refine zK ?_;have e : fdO h l s = none := x.none (by omega);exact FinV.ret rfl (SubP.tup ⟨by rw [e];exact (by repeat (first | exact trivial | exact SubP.refl _ | exact SubP.nilSl rfl | refine SubP.agg ?_ | refine ⟨?_,?_⟩)),by rw [e];exact SubP.refl _,by rw [e];exact SubP.refl _,trivial⟩)
theorem yU0 (h : List Ob) (l : List Int) (s : ByteArray) (hh : HpIn h) (hc : Cok h l) : Fn Tryz.prog 30 [hpD md h,isD l,.v (.string s)] (.tup [.agg (vlD (fdV h s (fdO h l s))),.v (.int .i64 (fdC (fdO h l s))),.v (.bool (fdO h l s).isSome)]) := by
 have hl := hc.1;refine yL zJ Tryz.func30 rfl rfl rfl rfl rfl rfl ?_;intro w0 s0 mx;refine zL 100 ?_;refine zB (zL 200 ?_);refine zR ?_;refine yC (ι := Fd l (fun c => ownB (zX h c) s)) [2,3,6,13,14] [0,1] 250 (fun x => [(15,.v (.int .i64 x.k))]) (fun _ => []) (fun x => l.length - x.k) ⟨0,Ap _,rfl⟩ ?_;refine ⟨⟨yG,yD,rfl,rfl⟩,fun x => ?_⟩;have hk := x.le;refine zL 300 ?_;refine zB (zZ (fun c2 => ?_) (fun c2 => ?_))
 ·
  refine zN (zA (zB (zR (zL 400 ?_))));refine zB (zE zJ [] 500 rfl ?_);repeat (first | refine zG ?_ | refine zH ?_ | refine zW (by exact (cR hc c2).1) ?_)
  refine zT _ (gM0 _ _ (cR hc c2).2 (hh.at (l.getD (x.k : Int).toNat 0)).nl) rfl ?_;repeat (first | refine zG ?_ | refine zH ?_ | refine zW (by exact (cR hc c2).1) ?_)
  refine zC (zA (zL 600 ?_));refine zS rfl (fun c5 => ?_) (fun c5 => ?_)
  ·
   refine zL 700 ?_;refine zK (zQ (zM (yU (zQ (zM ?_)))));have e : fdO h l s = some (l.getD (x.k : Int).toNat 0) := x.found 0 c2 c5;exact FinV.ret rfl (SubP.tup ⟨by rw [e];exact SubP.refl _,by rw [e];exact SubP.refl _,by rw [e];exact SubP.refl _,trivial⟩)
  ·
   refine zN (zP (zA (yT zJ [] 800 ?_)));exact zV (x.next 0 c2 c5) ⟨yG,yD,rfl,rfl⟩ (by show l.length - (x.k + 1) < l.length - x.k;omega)
 ·
  refine yF (yA (yB (zY (zA (zL 900 ?_)))));refine zK ?_;have e : fdO h l s = none := x.none (by omega);exact FinV.ret rfl (SubP.tup ⟨by rw [e];exact (by repeat (first | exact trivial | exact SubP.refl _ | exact SubP.nilSl rfl | refine SubP.agg ?_ | refine ⟨?_,?_⟩)),by rw [e];exact SubP.refl _,by rw [e];exact SubP.refl _,trivial⟩)
theorem vS (h : List Ob) (c : Int) (s : ByteArray) (hh : HpIn h) (hn : inH h c) (hc : Cok h (zX h c).order) : Fn Tryz.prog 45 [hpD md h,.v (.int .i64 c),.v (.string s)] (.tup [.agg (vlD (fdV h s (fdO h (zX h c).order s))),.v (.int .i64 (fdC (fdO h (zX h c).order s))),.v (.bool (fdO h (zX h c).order s).isSome)]) := by
 refine yL zJ Tryz.func45 rfl rfl rfl rfl rfl rfl ?_;intro w0 s0 mx;refine zL 100 ?_;refine zB (zU zJ [] [[],[],[1],[],[1,2,3],[1,2,3,4],[1,2,3,4,5],[],(rgN 8),(rgN 9),(rgN 9),(rgN 9),(rgN 12),(rgN 13),(rgN 14)] 200 yP (by kernel_rfl) rfl ?_);repeat (first | refine zG ?_ | refine zH ?_ | refine zW (by exact hn) ?_)
 refine zT _ (gC h (zX h c).order s hh hc) rfl ?_;repeat (first | refine zG ?_ | refine zH ?_ | refine zW (by exact hn) ?_)
 refine zC (zA (zK ?_));exact FinV.ret rfl (SubP.refl _)
theorem vI (h : List Ob) (c : Int) (s : ByteArray) (hh : HpIn h) (hn : inH h c) (hc : Cok h (zX h c).order) : Fn Tryz.prog 8 [hpD md h,.v (.int .i64 c),.v (.string s)] (.tup [.agg (vlD (fdV h s (fdO h (zX h c).order s))),.v (.bool (fdO h (zX h c).order s).isSome)]) := by
 refine yL zJ Tryz.func8 rfl rfl rfl rfl rfl rfl ?_;intro w0 s0 mx;refine zL 100 ?_;refine zB (zU zJ [] [[],[],[1],[],[1,2,3],[1,2,3,4],[1,2,3,4,5],[],(rgN 8),(rgN 9),(rgN 10),(rgN 10),(rgN 10),[],[0,1,2,3,4,5,6,7,8,9,10,13],[0,1,2,3,4,5,6,7,8,9,10,11,13,14],(rgN 16)] 200 yP (by kernel_rfl) rfl ?_);repeat (first | refine zG ?_ | refine zH ?_ | refine zW (by exact hn) ?_)
 refine zT _ (yU0 h (zX h c).order s hh hc) rfl ?_;repeat (first | refine zG ?_ | refine zH ?_ | refine zW (by exact hn) ?_)
 refine zC (zA (zL 300 ?_));refine zK ?_;exact FinV.ret rfl (SubP.refl _)
theorem gB (h : List Ob) (v : Vl) (hv : v.k = 6 → yO h v.r = true) : Fn Tryz.prog 132 [hpD md h,.agg (vlD v)] (.v (.bool (uT h v))) := by
 refine yL zJ Tryz.func132 rfl rfl rfl rfl rfl rfl ?_;intro w0 s0 mx;refine zL 100 ?_;refine zB (zE zJ [] 200 rfl ?_);refine zF ?_;refine yS _ (fun hg6 => yY _ _ (by first | assumption | omega | (simp_all;done))) rfl ?_;refine zF ?_;refine zC (zA (zK ?_));exact FinV.ret rfl (SubP.refl _)
variable {md me : Bool}
theorem used_a {k : Nat} (hk : k < 21) (ha : Lib.contains (jY (k : Int)).data.toList [97] = true) : jY (k : Int) ≠ ⟨#[]⟩ ∧ bO (jY (k : Int)) = 61 := by
 have := Bd.1 (show (List.range 21).all (fun (k : Nat) => !(Lib.contains (jY (k : Int)).data.toList [97]) || (!decide (jY (k : Int) = ⟨#[]⟩) && decide (bO (jY (k : Int)) = 61))) = true by decide +kernel) k (Ch.2 hk);rw [ha,Bool.not_true,Bool.false_or,Ah,Bc,At,Am] at this;exact this
theorem names_items {o : Ob} (hk : 0 ≤ o.kind ∧ o.kind < 21) (hs : jS o = 0) : o.names.length ≤ o.items.length := by
 have h1 := (tS hs).1;unfold jS at hs;split at hs
 ·rename_i ha;have h3 := Bd.1 ha 3 (by decide);by_cases hz : (o.names.length : Int) = 0
  ·omega
  ·have e : Lib.contains (jY o.kind).data.toList [97] = true := by
    have h4 : (!(!(decide ((o.names.length : Int) = 0)) && !(Lib.contains (jY o.kind).data.toList [97]))) = true := h3;rw [Br hz] at h4;simpa using h4
   have hkk : o.kind = ((o.kind.toNat : Nat) : Int) := by omega
   rw [hkk] at e;have h5 := used_a (k := o.kind.toNat) (by omega) e;rw [← hkk] at h5;rw [cntS,Aa h5.1,Aa (by rw [h5.2];decide),Ab h5.2] at h1;omega
 ·cases hs
theorem nm_it {h : List Ob} (g : Uh h) {n : Int} (hn : inH h n) : (zX h n).names.length ≤ (zX h n).items.length := by
 by_cases h49 : n.toNat < 49
 ·rw [show zX h n = bgO n.toNat from g.lo_at h49];exact Ap _
 ·have u := g.hi_at (i := n.toNat) (by omega) hn.2;exact names_items u.kind u.shape
theorem gE0 {k : Nat} (hk : k < 49) {r : Int} (hr : r ∈ (bgO k).order) : 0 ≤ r ∧ r < 49 := by
 have := Bd.1 (Bd.1 (show (List.range 49).all (fun k => (bgO k).order.all fun r => decide (0 ≤ r) && decide (r < 49)) = true by decide +kernel) k (Ch.2 hk)) r hr;rw [Ah,Am,Am] at this;exact this
theorem cok_of {h : List Ob} (hh : HpIn h) (g : Uh h) {c : Int} (hn : inH h c) : Cok h (zX h c).order := by
 refine ⟨(hh.at c).ol,fun r hr => ?_⟩;have hin : inH h r := by
  by_cases h49 : c.toNat < 49
  ·rw [show zX h c = bgO c.toNat from g.lo_at h49] at hr;have := gE0 h49 hr;have := g.lo;exact ⟨by omega,by omega⟩
  ·exact yJ ((yY0 (g.hi_at (by omega) hn.2).vals).order r hr)
 exact ⟨hin,nm_it g hin⟩
theorem one_item {h : List Ob} (g : Uh h) {n : Int} (hn : inH h n) (hk : (zX h n).kind = 13 ∨ (zX h n).kind = 14) : (zX h n).items.length = 1 := by
 by_cases h49 : n.toNat < 49
 ·rw [show zX h n = bgO n.toNat from g.lo_at h49] at hk;have h9 : (bgO n.toNat).kind = 9 := rfl;omega
 ·have u := g.hi_at (i := n.toNat) (by omega) hn.2;have h1 := (tS u.shape).1;rw [← uB hn] at h1;have hc : cntS (zX h n) = 1 := by
   rcases hk with hk | hk
   ·rw [xZ 13 49 (by decide +kernel) hk];decide +kernel
   ·rw [xZ 14 49 (by decide +kernel) hk];decide +kernel
  omega
def spS (h : List Ob) (v : Vl) (s : ByteArray) : Vl × List Vl × Bool :=
 if ¬ (zO h v).kind = 10 then (vl0,[],false)
 else if (fdO h (zX h (zO h v).cls).order s).isSome = false then (vl0,[],false)
 else if uT h (fdV h s (fdO h (zX h (zO h v).cls).order s)) = true then (fdV h s (fdO h (zX h (zO h v).cls).order s),[v],true)
 else if (zO h (fdV h s (fdO h (zX h (zO h v).cls).order s))).kind = 13 then ((zO h (fdV h s (fdO h (zX h (zO h v).cls).order s))).items.getD 0 vl0,[],true)
 else if (zO h (fdV h s (fdO h (zX h (zO h v).cls).order s))).kind = 14 then ((zO h (fdV h s (fdO h (zX h (zO h v).cls).order s))).items.getD 0 vl0,[rfV (zO h v).cls],true)
 else (fdV h s (fdO h (zX h (zO h v).cls).order s),[],true)
variable {md me : Bool}
def mtL (c : Int) : List ByteArray := if c = 4 then [(⟨#[98,105,116,115]⟩ : ByteArray)] else if c = 5 then [(⟨#[100,101,110]⟩ : ByteArray),(⟨#[110,117,109]⟩ : ByteArray)] else if c = 6 then kK (⟨#[99,111,117,110,116,32,101,110,99,111,100,101,32,101,110,100,115,95,119,105,116,104,32,102,105,110,100,32,106,111,105,110,32,108,111,119,101,114,32,114,101,112,108,97,99,101,32,115,112,108,105,116,32,115,116,97,114,116,115,95,119,105,116,104,32,115,116,114,105,112,32,117,112,112,101,114]⟩ : ByteArray) else if c = 7 then [(⟨#[100,101,99,111,100,101]⟩ : ByteArray),(⟨#[102,105,110,100]⟩ : ByteArray),(⟨#[104,101,120]⟩ : ByteArray)] else if c = 8 then [(⟨#[99,111,117,110,116]⟩ : ByteArray),(⟨#[105,110,100,101,120]⟩ : ByteArray)] else if c = 9 then kK (⟨#[97,112,112,101,110,100,32,99,108,101,97,114,32,99,111,112,121,32,99,111,117,110,116,32,101,120,116,101,110,100,32,105,110,100,101,120,32,105,110,115,101,114,116,32,112,111,112,32,114,101,109,111,118,101,32,114,101,118,101,114,115,101,32,115,111,114,116]⟩ : ByteArray) else if c = 10 then kK (⟨#[99,108,101,97,114,32,99,111,112,121,32,103,101,116,32,105,116,101,109,115,32,107,101,121,115,32,112,111,112,32,115,101,116,95,100,101,102,97,117,108,116,32,117,112,100,97,116,101,32,118,97,108,117,101,115]⟩ : ByteArray) else if c = 11 then kK (⟨#[97,100,100,32,99,108,101,97,114,32,99,111,112,121,32,100,105,115,99,97,114,100,32,114,101,109,111,118,101]⟩ : ByteArray) else if c = 18 then [(⟨#[119,105,116,104,95,100,101,108,101,116,101,114]⟩ : ByteArray),(⟨#[119,105,116,104,95,115,101,116,116,101,114]⟩ : ByteArray)] else if c = 23 then [(⟨#[99,108,111,115,101]⟩ : ByteArray),(⟨#[115,101,110,100]⟩ : ByteArray),(⟨#[116,104,114,111,119]⟩ : ByteArray)] else if c = 25 then [(⟨#[99,97,110,99,101,108]⟩ : ByteArray),(⟨#[100,111,110,101]⟩ : ByteArray)] else []
theorem gZ (c : Int) : Fn Tryz.prog 99 [.v (.int .i64 c)] (ssD (mtL c)) := by
 refine yL zJ Tryz.func99 rfl rfl rfl rfl rfl rfl ?_;intro w0 s0 mx;refine zL 100 ?_;refine zB (zL 200 ?_);refine zR (zL 300 ?_);refine zZ (fun c2 => ?_) (fun c2 => ?_)
 ·
  refine zL 400 ?_;refine zK (zQ (zM ?_));exact FinV.ret rfl (SubP.slrSl (by rw [mtL,Ab c2];rfl))
 ·
  refine zL 500 ?_;refine zZ (fun c4 => ?_) (fun c4 => ?_)
  ·
   refine zL 600 ?_;refine zK (zQ (zM ?_));exact FinV.ret rfl (SubP.slrSl (by rw [mtL,Aa c2,Ab c4];rfl))
  ·
   refine zL 700 ?_;refine zZ (fun c6 => ?_) (fun c6 => ?_)
   ·
    refine zB (zE zJ [] 800 rfl ?_);refine zF ?_;refine zT _ (uV _ rfl (by decide +kernel) (by decide +kernel) (by decide +kernel)) rfl ?_;refine zF ?_;refine zC (zA (zK (zQ (zM ?_))));exact FinV.ret rfl (SubP.of_eq (by rw [mtL,Aa c2,Aa c4,Ab c6];try rfl))
   ·
    refine zL 900 ?_;refine zZ (fun c8 => ?_) (fun c8 => ?_)
    ·
     refine zL 1000 ?_;refine zK (zQ (zM ?_));exact FinV.ret rfl (SubP.slrSl (by rw [mtL,Aa c2,Aa c4,Aa c6,Ab c8];rfl))
    ·
     refine zL 1100 ?_;refine zZ (fun c10 => ?_) (fun c10 => ?_)
     ·
      refine zL 1200 ?_;refine zK (zQ (zM ?_));exact FinV.ret rfl (SubP.slrSl (by rw [mtL,Aa c2,Aa c4,Aa c6,Aa c8,Ab c10];rfl))
     ·
      refine zL 1300 ?_;refine zZ (fun c12 => ?_) (fun c12 => ?_)
      ·
       refine zB (zE zJ [] 1400 rfl ?_);refine zF ?_;refine zT _ (uV _ rfl (by decide +kernel) (by decide +kernel) (by decide +kernel)) rfl ?_;refine zF ?_;refine zC (zA (zK (zQ (zM ?_))));exact FinV.ret rfl (SubP.of_eq (by rw [mtL,Aa c2,Aa c4,Aa c6,Aa c8,Aa c10,Ab c12];try rfl))
      ·
       refine zL 1500 ?_;refine zZ (fun c14 => ?_) (fun c14 => ?_)
       ·
        refine zB (zE zJ [] 1600 rfl ?_);refine zF ?_;refine zT _ (uV _ rfl (by decide +kernel) (by decide +kernel) (by decide +kernel)) rfl ?_;refine zF ?_;refine zC (zA (zK (zQ (zM ?_))));exact FinV.ret rfl (SubP.of_eq (by rw [mtL,Aa c2,Aa c4,Aa c6,Aa c8,Aa c10,Aa c12,Ab c14];try rfl))
       ·
        refine zL 1700 ?_;refine zZ (fun c16 => ?_) (fun c16 => ?_)
        ·
         refine zB (zE zJ [] 1800 rfl ?_);refine zF ?_;refine zT _ (uV _ rfl (by decide +kernel) (by decide +kernel) (by decide +kernel)) rfl ?_;refine zF ?_;refine zC (zA (zK (zQ (zM ?_))));exact FinV.ret rfl (SubP.of_eq (by rw [mtL,Aa c2,Aa c4,Aa c6,Aa c8,Aa c10,Aa c12,Aa c14,Ab c16];try rfl))
        ·
         refine zL 1900 ?_;refine zZ (fun c18 => ?_) (fun c18 => ?_)
         ·
          refine zL 2000 ?_;refine zK (zQ (zM ?_));exact FinV.ret rfl (SubP.slrSl (by rw [mtL,Aa c2,Aa c4,Aa c6,Aa c8,Aa c10,Aa c12,Aa c14,Aa c16,Ab c18];rfl))
         ·
          refine zL 2100 ?_;refine zZ (fun c20 => ?_) (fun c20 => ?_)
          ·
           refine zL 2200 ?_;refine zK (zQ (zM ?_));exact FinV.ret rfl (SubP.slrSl (by rw [mtL,Aa c2,Aa c4,Aa c6,Aa c8,Aa c10,Aa c12,Aa c14,Aa c16,Aa c18,Ab c20];rfl))
          ·
           refine zL 2300 ?_;refine zZ (fun c22 => ?_) (fun c22 => ?_)
           ·
            refine zL 2400 ?_;refine zK (zQ (zM ?_));exact FinV.ret rfl (SubP.slrSl (by rw [mtL,Aa c2,Aa c4,Aa c6,Aa c8,Aa c10,Aa c12,Aa c14,Aa c16,Aa c18,Aa c20,Ab c22];rfl))
           ·
            refine zN (zP (zA (zL 2500 ?_)));refine zK ?_;exact FinV.ret rfl (SubP.nilSl (by rw [mtL,Aa c2,Aa c4,Aa c6,Aa c8,Aa c10,Aa c12,Aa c14,Aa c16,Aa c18,Aa c20,Aa c22]))
theorem MethodsOf_ok (c : Int) : Fn Tryz.prog 71 [.v (.int .i64 c)] (ssD (mtL c)) := by
 refine yL zJ Tryz.func71 rfl rfl rfl rfl rfl rfl ?_;intro w0 s0 mx;refine zL 100 ?_;refine zB (zL 200 ?_);refine zR (zL 300 ?_);refine zZ (fun c2 => ?_) (fun c2 => ?_)
 ·
  refine zL 400 ?_;refine zK (zQ (zM ?_));exact FinV.ret rfl (SubP.slrSl (by rw [mtL,Ab c2];rfl))
 ·
  refine zL 500 ?_;refine zZ (fun c4 => ?_) (fun c4 => ?_)
  ·
   refine zL 600 ?_;refine zK (zQ (zM ?_));exact FinV.ret rfl (SubP.slrSl (by rw [mtL,Aa c2,Ab c4];rfl))
  ·
   refine zL 700 ?_;refine zZ (fun c6 => ?_) (fun c6 => ?_)
   ·
    refine zB (zE zJ [] 800 rfl ?_);refine zF ?_;refine zT _ (uV _ rfl (by decide +kernel) (by decide +kernel) (by decide +kernel)) rfl ?_;refine zF ?_;refine zC (zA (zK (zQ (zM ?_))));exact FinV.ret rfl (SubP.of_eq (by rw [mtL,Aa c2,Aa c4,Ab c6];try rfl))
   ·
    refine zL 900 ?_;refine zZ (fun c8 => ?_) (fun c8 => ?_)
    ·
     refine zL 1000 ?_;refine zK (zQ (zM ?_));exact FinV.ret rfl (SubP.slrSl (by rw [mtL,Aa c2,Aa c4,Aa c6,Ab c8];rfl))
    ·
     refine zL 1100 ?_;refine zZ (fun c10 => ?_) (fun c10 => ?_)
     ·
      refine zL 1200 ?_;refine zK (zQ (zM ?_));exact FinV.ret rfl (SubP.slrSl (by rw [mtL,Aa c2,Aa c4,Aa c6,Aa c8,Ab c10];rfl))
     ·
      refine zL 1300 ?_;refine zZ (fun c12 => ?_) (fun c12 => ?_)
      ·
       refine zB (zE zJ [] 1400 rfl ?_);refine zF ?_;refine zT _ (uV _ rfl (by decide +kernel) (by decide +kernel) (by decide +kernel)) rfl ?_;refine zF ?_;refine zC (zA (zK (zQ (zM ?_))));exact FinV.ret rfl (SubP.of_eq (by rw [mtL,Aa c2,Aa c4,Aa c6,Aa c8,Aa c10,Ab c12];try rfl))
      ·
       refine zL 1500 ?_;refine zZ (fun c14 => ?_) (fun c14 => ?_)
       ·
        refine zB (zE zJ [] 1600 rfl ?_);refine zF ?_;refine zT _ (uV _ rfl (by decide +kernel) (by decide +kernel) (by decide +kernel)) rfl ?_;refine zF ?_;refine zC (zA (zK (zQ (zM ?_))));exact FinV.ret rfl (SubP.of_eq (by rw [mtL,Aa c2,Aa c4,Aa c6,Aa c8,Aa c10,Aa c12,Ab c14];try rfl))
       ·
        refine zL 1700 ?_;refine zZ (fun c16 => ?_) (fun c16 => ?_)
        ·
         refine zB (zE zJ [] 1800 rfl ?_);refine zF ?_;refine zT _ (uV _ rfl (by decide +kernel) (by decide +kernel) (by decide +kernel)) rfl ?_;refine zF ?_;refine zC (zA (zK (zQ (zM ?_))));exact FinV.ret rfl (SubP.of_eq (by rw [mtL,Aa c2,Aa c4,Aa c6,Aa c8,Aa c10,Aa c12,Aa c14,Ab c16];try rfl))
        ·
         refine zL 1900 ?_;refine zZ (fun c18 => ?_) (fun c18 => ?_)
         ·
          refine zL 2000 ?_;refine zK (zQ (zM ?_));exact FinV.ret rfl (SubP.slrSl (by rw [mtL,Aa c2,Aa c4,Aa c6,Aa c8,Aa c10,Aa c12,Aa c14,Aa c16,Ab c18];rfl))
         ·
          refine zL 2100 ?_;refine zZ (fun c20 => ?_) (fun c20 => ?_)
          ·
           refine zL 2200 ?_;refine zK (zQ (zM ?_));exact FinV.ret rfl (SubP.slrSl (by rw [mtL,Aa c2,Aa c4,Aa c6,Aa c8,Aa c10,Aa c12,Aa c14,Aa c16,Aa c18,Ab c20];rfl))
          ·
           refine zL 2300 ?_;refine zZ (fun c22 => ?_) (fun c22 => ?_)
           ·
            refine zL 2400 ?_;refine zK (zQ (zM ?_));exact FinV.ret rfl (SubP.slrSl (by rw [mtL,Aa c2,Aa c4,Aa c6,Aa c8,Aa c10,Aa c12,Aa c14,Aa c16,Aa c18,Aa c20,Ab c22];rfl))
           ·
            refine zN (zP (zA (zL 2500 ?_)));refine zK ?_;exact FinV.ret rfl (SubP.nilSl (by rw [mtL,Aa c2,Aa c4,Aa c6,Aa c8,Aa c10,Aa c12,Aa c14,Aa c16,Aa c18,Aa c20,Aa c22]))
def jT (h : List Ob) (p : ByteArray × Bool) (v : Vl) : ByteArray × Bool :=
 if v.k = 7 then (v.s,true) else if (zO h v).kind = 7 then ((zO h v).name,true) else if (zO h v).kind = 8 then p else (⟨#[]⟩,false)
def qQ0 (h : List Ob) (v : Vl) : ByteArray × Bool := jT h (⟨#[]⟩,false) v
def jR (h : List Ob) (v : Vl) : ByteArray × Bool := jT h (qQ0 h ((zO h v).items.getD 0 vl0)) v
theorem meth_item {h : List Ob} (g : Uh h) {v : Vl} (hk : (zO h v).kind = 8) : 0 < (zO h v).items.length ∧ uT h ((zO h v).items.getD 0 vl0) = true := by
 have h1 := qD (h := h) (v := v) (by omega);have hin := yJ h1.2.1;rw [h1.2.2] at hk ⊢;by_cases h49 : v.r.toNat < 49
 ·rw [show zX h v.r = bgO v.r.toNat from g.lo_at h49] at hk;have h9 : (bgO v.r.toNat).kind = 9 := rfl;omega
 ·have u := g.hi_at (i := v.r.toNat) (by omega) hin.2;have hs := (tS u.shape).1;have hl := u.links;rw [← uB hin] at hs hl;have hc : cntS (zX h v.r) = 2 := by rw [xZ 8 50 (by decide +kernel) hk];decide +kernel
  refine ⟨by omega,?_⟩;rw [qY,Aa (by omega),Aa (by omega),Ab hk] at hl;exact hl
theorem cF {h : List Ob} {v : Vl} (hc : uT h v = true) : ¬ (zO h v).kind = 8 := by
 rw [uT,Bz,Am,Am] at hc;rcases hc with h1 | h1
 ·rw [bJ (by omega)];show ¬ (0 : Int) = 8;decide
 ·omega
theorem cE (h : List Ob) (v : Vl) (p : ByteArray × Bool) (hi : (zO h v).kind = 8 → 0 < (zO h v).items.length) (H : (zO h v).kind = 8 → Fn Tryz.prog 68 [hpD md h,.agg (vlD ((zO h v).items.getD 0 vl0))] (.tup [.v (.string p.1),.v (.bool p.2)])) : Fn Tryz.prog 68 [hpD md h,.agg (vlD v)] (.tup [.v (.string (jT h p v).1),.v (.bool (jT h p v).2)]) := by
 refine yL zJ Tryz.func68 rfl rfl rfl rfl rfl rfl ?_;intro w0 s0 mx;refine zL 100 ?_;refine zB (zL 200 ?_);refine zZ (fun c1 => ?_) (fun c1 => ?_)
 ·
  refine zL 300 ?_;refine zK (zM ?_);exact FinV.ret rfl (SubP.tup ⟨by rw [jT,Ab c1];exact SubP.refl _,by rw [jT,Ab c1];exact SubP.refl _,trivial⟩)
 ·
  refine zN (zA (zB ?_));refine zB (zE zJ [] 400 rfl ?_);refine zF ?_;refine zT _ (qJ _ _) rfl ?_;refine zF ?_;refine zC (zA (zL 500 ?_));refine zR (zL 600 ?_);refine zZ (fun c5 => ?_) (fun c5 => ?_)
  ·
   refine zL 700 ?_;refine zK (zQ (zM ?_));exact FinV.ret rfl (SubP.tup ⟨by rw [jT,Aa c1,Ab c5];exact SubP.refl _,by rw [jT,Aa c1,Ab c5];exact SubP.refl _,trivial⟩)
  ·
   refine zL 800 ?_;refine zZ (fun c7 => ?_) (fun c7 => ?_)
   ·
    refine zB (zU zJ [] [[],[],[1],[1,2],[1,2,3],(rgN 5),(rgN 6),(rgN 6),(rgN 8),(rgN 9)] 900 yP (by kernel_rfl) rfl ?_);repeat (first | refine zG ?_ | refine zH ?_ | refine zW (by exact ⟨by omega,hi c7⟩) ?_)
    refine zT _ (H c7) rfl ?_;repeat (first | refine zG ?_ | refine zH ?_ | refine zW (by exact ⟨by omega,hi c7⟩) ?_)
    refine zC (zA (zK (zQ (zM ?_))));exact FinV.ret rfl (SubP.tup ⟨by rw [jT,Aa c1,Aa c5,Ab c7];exact SubP.refl _,by rw [jT,Aa c1,Aa c5,Ab c7];exact SubP.refl _,trivial⟩)
   ·
    refine zN (zP (zA (zL 1000 ?_)));refine zK ?_;exact FinV.ret rfl (SubP.tup ⟨by rw [jT,Aa c1,Aa c5,Aa c7];exact SubP.refl _,by rw [jT,Aa c1,Aa c5,Aa c7];exact SubP.refl _,trivial⟩)
end Go.Proofs.YtifgelimmddkpaaGreatDoor
/-
  DERIVED: THE SHELF's CONTRACTS AT THIS DUMP,IN PLAIN WORDS (tools/lay-plain.mjs out of 'YtifgelimmddkpaaGreatDoorShelf3.lean',which tools/lay-shelf.mjs wrote): THE SAME DECLARATIONS UNDER THE SAME NAMES: 'import','namespace','open','def','theorem' AND NOTHING ELSE: no command of the shelf's: FOR A HAND-IN. Each laying: the table of numbers ('.._ren') and one theorem,a field a fact of the dump's own or the kernel's comparison;each contract: ONE APPLICATION.
-/
namespace Go.Proofs
open Go.Shelf
def Tryz.laysGrowV_ren : Go.Shelf.Ren := ⟨fun | 4 => 135 | n => n,fun | 22 => 34 | 25 => 29 | 3 => 3 | 4 => 4 | 9 => 9 | 20 => 20 | 0 => 0 | n => n,fun | n => n⟩
theorem uW {α : Type} {a b : α} (h : a = b := by kernel_rfl) : some a = some b := congrArg some h
theorem Tryz.laysGrowV : Go.Proofs.Lays8.n4 Tryz.prog Tryz.laysGrowV_ren := {
 mixed := by kernel_rfl
 f4 := ⟨Tryz.f135.name,by decide,Tryz.func135.trans uW⟩
 t0 := Tryz.underlying0
 a0 := Tryz.isAgg0
 z0 := Tryz.sizeOf0
 v0 := Tryz.zeroValue0
 t3 := Tryz.underlying3
 a3 := Tryz.isAgg3
 z3 := Tryz.sizeOf3
 v3 := Tryz.zeroValue3
 t4 := Tryz.underlying4
 a4 := Tryz.isAgg4
 z4 := Tryz.sizeOf4
 v4 := Tryz.zeroValue4
 t9 := Tryz.underlying9
 a9 := Tryz.isAgg9
 z9 := Tryz.sizeOf9
 v9 := Tryz.zeroValue9
 t20 := Tryz.underlying20
 a20 := Tryz.isAgg20
 z20 := Tryz.sizeOf20
 v20 := Tryz.zeroValue20
 t22 := Tryz.underlying34
 a22 := Tryz.isAgg34
 z22 := Tryz.sizeOf34
 v22 := Tryz.zeroValue34 }
def Tryz.laysItoa_ren : Go.Shelf.Ren := ⟨fun | 171 => 181 | 243 => 192 | 246 => 199 | 283 => 202 | 284 => 203 | 285 => 204 | 286 => 205 | 129 => 211 | 317 => 210 | 318 => 212 | 319 => 213 | 320 => 214 | 337 => 218 | 338 => 219 | n => n,fun | 3 => 3 | 9 => 9 | 2 => 2 | 4 => 4 | 171 => 227 | 0 => 0 | 53 => 197 | 37 => 154 | 5 => 5 | 173 => 230 | 212 => 234 | 51 => 110 | 20 => 20 | 213 => 235 | 46 => 140 | 232 => 242 | 233 => 243 | n => n,fun | 17 => 5 | 18 => 11 | 19 => 12 | n => n⟩
theorem Tryz.laysItoa : Go.Proofs.LaysM.n171 Tryz.prog Tryz.laysItoa_ren := {
 mixed := by kernel_rfl
 f129 := Tryz.func211.trans uW
 f171 := Tryz.func181.trans uW
 f243 := Tryz.func192.trans uW
 f246 := Tryz.func199.trans uW
 f283 := Tryz.func202.trans uW
 f284 := Tryz.func203.trans uW
 f285 := Tryz.func204.trans uW
 f286 := Tryz.func205.trans uW
 f317 := Tryz.func210.trans uW
 f318 := Tryz.func212.trans uW
 f319 := Tryz.func213.trans uW
 f320 := Tryz.func214.trans uW
 f337 := Tryz.func218.trans uW
 f338 := Tryz.func219.trans uW
 t0 := Tryz.underlying0
 a0 := Tryz.isAgg0
 z0 := Tryz.sizeOf0
 v0 := Tryz.zeroValue0
 t2 := Tryz.underlying2
 a2 := Tryz.isAgg2
 z2 := Tryz.sizeOf2
 v2 := Tryz.zeroValue2
 t3 := Tryz.underlying3
 a3 := Tryz.isAgg3
 z3 := Tryz.sizeOf3
 v3 := Tryz.zeroValue3
 t4 := Tryz.underlying4
 a4 := Tryz.isAgg4
 z4 := Tryz.sizeOf4
 v4 := Tryz.zeroValue4
 t5 := Tryz.underlying5
 a5 := Tryz.isAgg5
 z5 := Tryz.sizeOf5
 v5 := Tryz.zeroValue5
 t9 := Tryz.underlying9
 a9 := Tryz.isAgg9
 z9 := Tryz.sizeOf9
 v9 := Tryz.zeroValue9
 t20 := Tryz.underlying20
 a20 := Tryz.isAgg20
 z20 := Tryz.sizeOf20
 v20 := Tryz.zeroValue20
 t37 := Tryz.underlying154
 a37 := Tryz.isAgg154
 z37 := Tryz.sizeOf154
 v37 := Tryz.zeroValue154
 t46 := Tryz.underlying140
 a46 := Tryz.isAgg140
 z46 := Tryz.sizeOf140
 v46 := Tryz.zeroValue140
 t51 := Tryz.underlying110
 a51 := Tryz.isAgg110
 z51 := Tryz.sizeOf110
 v51 := Tryz.zeroValue110
 t53 := Tryz.underlying197
 a53 := Tryz.isAgg197
 z53 := Tryz.sizeOf197
 v53 := Tryz.zeroValue197
 t171 := Tryz.underlying227
 a171 := Tryz.isAgg227
 z171 := Tryz.sizeOf227
 v171 := Tryz.zeroValue227
 t173 := Tryz.underlying230
 a173 := Tryz.isAgg230
 z173 := Tryz.sizeOf230
 v173 := Tryz.zeroValue230
 t212 := Tryz.underlying234
 a212 := Tryz.isAgg234
 z212 := Tryz.sizeOf234
 v212 := Tryz.zeroValue234
 t213 := Tryz.underlying235
 a213 := Tryz.isAgg235
 z213 := Tryz.sizeOf235
 t232 := Tryz.underlying242
 a232 := Tryz.isAgg242
 z232 := Tryz.sizeOf242
 v232 := Tryz.zeroValue242
 t233 := Tryz.underlying243
 a233 := Tryz.isAgg243
 z233 := Tryz.sizeOf243
 v233 := Tryz.zeroValue243
 g17 := by kernel_rfl
 g18 := by kernel_rfl
 g19 := by kernel_rfl
 i0 := by kernel_rfl
 i2 := by kernel_rfl
 i3 := by kernel_rfl
 i4 := by kernel_rfl
 i5 := by kernel_rfl
 i9 := by kernel_rfl
 i20 := by kernel_rfl
 i37 := by kernel_rfl
 i46 := by kernel_rfl
 i51 := by kernel_rfl
 i53 := by kernel_rfl
 i171 := by kernel_rfl
 i173 := by kernel_rfl
 i212 := by kernel_rfl
 i232 := by kernel_rfl
 i233 := by kernel_rfl
 m17 := by kernel_rfl
 m18 := by kernel_rfl
 m19 := by kernel_rfl }
def Tryz.laysQuote_ren : Go.Shelf.Ren := ⟨fun | 177 => 164 | 250 => 182 | 289 => 193 | 197 => 197 | 323 => 200 | 260 => 201 | 339 => 206 | 340 => 207 | 242 => 208 | 119 => 209 | 345 => 215 | 346 => 216 | 278 => 217 | n => n,fun | 9 => 9 | 5 => 5 | 4 => 4 | 3 => 3 | 37 => 154 | 21 => 21 | 105 => 223 | 46 => 140 | 119 => 150 | 0 => 0 | 139 => 176 | 138 => 175 | 49 => 202 | 234 => 237 | 131 => 238 | 51 => 110 | 236 => 25 | n => n,fun | 3 => 1 | 4 => 2 | 20 => 6 | 21 => 7 | 22 => 8 | 23 => 9 | 24 => 10 | n => n⟩
theorem Tryz.laysQuote : Go.Proofs.Lays.n177 Tryz.prog Tryz.laysQuote_ren := {
 mixed := by kernel_rfl
 f119 := Tryz.func209.trans uW
 f177 := Tryz.func164.trans uW
 f197 := Tryz.func197.trans uW
 f242 := Tryz.func208.trans uW
 f250 := Tryz.func182.trans uW
 f260 := Tryz.func201.trans uW
 f278 := Tryz.func217.trans uW
 f289 := Tryz.func193.trans uW
 f323 := Tryz.func200.trans uW
 f339 := Tryz.func206.trans uW
 f340 := Tryz.func207.trans uW
 f345 := Tryz.func215.trans uW
 f346 := Tryz.func216.trans uW
 t0 := Tryz.underlying0
 a0 := Tryz.isAgg0
 z0 := Tryz.sizeOf0
 v0 := Tryz.zeroValue0
 t3 := Tryz.underlying3
 a3 := Tryz.isAgg3
 z3 := Tryz.sizeOf3
 v3 := Tryz.zeroValue3
 t4 := Tryz.underlying4
 a4 := Tryz.isAgg4
 z4 := Tryz.sizeOf4
 v4 := Tryz.zeroValue4
 t5 := Tryz.underlying5
 a5 := Tryz.isAgg5
 z5 := Tryz.sizeOf5
 v5 := Tryz.zeroValue5
 t9 := Tryz.underlying9
 a9 := Tryz.isAgg9
 z9 := Tryz.sizeOf9
 v9 := Tryz.zeroValue9
 t21 := Tryz.underlying21
 a21 := Tryz.isAgg21
 z21 := Tryz.sizeOf21
 v21 := Tryz.zeroValue21
 t37 := Tryz.underlying154
 a37 := Tryz.isAgg154
 z37 := Tryz.sizeOf154
 v37 := Tryz.zeroValue154
 t46 := Tryz.underlying140
 a46 := Tryz.isAgg140
 z46 := Tryz.sizeOf140
 v46 := Tryz.zeroValue140
 t49 := Tryz.underlying202
 a49 := Tryz.isAgg202
 z49 := Tryz.sizeOf202
 v49 := Tryz.zeroValue202
 t51 := Tryz.underlying110
 a51 := Tryz.isAgg110
 z51 := Tryz.sizeOf110
 v51 := Tryz.zeroValue110
 t105 := Tryz.underlying223
 a105 := Tryz.isAgg223
 z105 := Tryz.sizeOf223
 v105 := Tryz.zeroValue223
 t119 := Tryz.underlying150
 a119 := Tryz.isAgg150
 z119 := Tryz.sizeOf150
 t131 := Tryz.underlying238
 a131 := Tryz.isAgg238
 z131 := Tryz.sizeOf238
 v131 := Tryz.zeroValue238
 t138 := Tryz.underlying175
 a138 := Tryz.isAgg175
 z138 := Tryz.sizeOf175
 v138 := Tryz.zeroValue175
 t139 := Tryz.underlying176
 a139 := Tryz.isAgg176
 z139 := Tryz.sizeOf176
 v139 := Tryz.zeroValue176
 t234 := Tryz.underlying237
 a234 := Tryz.isAgg237
 z234 := Tryz.sizeOf237
 v234 := Tryz.zeroValue237
 t236 := Tryz.underlying25
 a236 := Tryz.isAgg25
 z236 := Tryz.sizeOf25
 v236 := Tryz.zeroValue25
 g3 := by kernel_rfl
 g4 := by kernel_rfl
 g20 := by kernel_rfl
 g21 := by kernel_rfl
 g22 := by kernel_rfl
 g23 := by kernel_rfl
 g24 := by kernel_rfl }
end Go.Proofs
namespace Go.Proofs.YtifgelimmddkpaaGreatDoor
open Go.RowKit Go.Shelf
theorem grow_O {P : Program} {f : FuncId} {e : TypeId} {sz : Nat} (hb : Bod P f) (n : Nat)
  (h0 : n = 0 → ∀ w,Calls P f #[.slice none 0 0,.int .i64 n] w fun r w' => r = .returned (.slice none 0 0) ∧ w' = w)
  (h1 : 0 < n → ∀ w : World,Calls P f #[.slice none 0 0,.int .i64 n] w fun r w' => ∃ (cur : Array Value) (G : Nat),r = .returned (.slice (some ⟨w.heap.size,0,none⟩) 0 G) ∧ w' = w.drew.alloc (.cells cur e) ∧ cur.size = G * sz ∧ G ≤ maxLen) :
  FnO P f [.v (.slice none 0 0),.v (.int .i64 n)] e sz [] := by
 refine ⟨hb,fun w s vs hlt _ hv => ?_⟩
 match vs,hv with
 | [a,b],⟨ha,hb',_⟩ =>
  have ha : a = .slice none 0 0 := ha;have hb' : b = .int .i64 n := hb';subst ha hb';rcases Cu n with hn | hn
  ·refine (h0 hn w).mono fun r w' hq => ?_;obtain ⟨rfl,rfl⟩ := hq;refine ⟨s,⟨fun _ => none,fun k m => if k = 0 ∧ m = 0 then some (.slice none 0 0) else none⟩,0,.slice none 0 0,rfl,?_,⟨fun m hm => ?_,_,rfl,.inl ⟨rfl,rfl⟩⟩,fun N hN => ?_,⟨Ex.refl _ _,hlt,rfl,rfl,rfl,Ar _,fun _ _ => rfl,fun _ _ h => .inl h,fun _ _ h => .inl h⟩⟩
   ·rw [TV.P];exact ⟨⟨none,0,rfl,Ar _,by omega,(fun _ h => by cases h),fun i row h => by simp [D.pvss] at h⟩,rfl⟩
   ·have hm : 0 < m := hm;exact Aa (by omega)
   ·cases hN
  ·refine (h1 hn w).mono fun r w' hq => ?_;obtain ⟨cur,G,rfl,rfl,hc,hG⟩ := hq;have hnew : (w.drew.alloc (.cells cur e)).heap[w.heap.size]? = some (.cells cur e (0,0)) := heap_alloc_new w.drew _;have hold : ∀ N,N < w.heap.size → (w.drew.alloc (.cells cur e)).heap[N]? = w.heap[N]? := fun N hN => heap_alloc_old w.drew _ hN;have hsz : (w.drew.alloc (.cells cur e)).heap.size = w.heap.size + 1 := by
    show (w.drew.heap.push _).size = _;rw [Array.size_push];rfl
   refine ⟨s,⟨fun _ => none,fun k m => if k = 0 ∧ m = 0 then some (.slice (some ⟨w.heap.size,0,none⟩) 0 G) else none⟩,0,.slice (some ⟨w.heap.size,0,none⟩) 0 G,rfl,?_,⟨fun m hm => ?_,_,rfl,.inr ⟨w.heap.size,G,cur,rfl,.of hnew,Ap _,hG,hc,fun o _ h => ?_⟩⟩,fun N hN => ?_,⟨⟨fun _ _ h => h,fun b o hs => vN (hold b (hlt b o hs)),fun _ _ h => h⟩,fun B o h => ?_,rfl,rfl,rfl,by omega,hold,fun _ _ h => .inl h,fun _ _ h => .inl h⟩⟩
   ·rw [TV.P];exact ⟨⟨_,G,rfl,Ap _,by unfold maxLen at hG;omega,(fun _ h => by cases h),fun i row h => by simp [D.pvss] at h⟩,rfl⟩
   ·have hm : 0 < m := hm;exact Aa (by omega)
   ·have := hlt _ _ h;omega
   ·have hN : some w.heap.size = some N := hN
    cases hN;exact Ar _
   ·have := hlt B o h;omega
theorem GrowV_ok (n : Nat) (hn : n ≤ 100000000) : FnO Tryz.prog 135 [.v (.slice none 0 0),.v (.int .i64 n)] 29 7 [] := by
 refine grow_O ⟨_,Tryz.func135,rfl,rfl⟩ n (fun h w => ?_) fun h w => ?_
 ·subst h;exact Any8.slices_Grow_room Tryz.laysGrowV none 0 0 0 w (by omega) (by omega) (by omega) (by omega)
 ·obtain ⟨ie,z,hu,hi,hz,hsz,hzc,hs0,hb0,hb1⟩ := (xM (yI (t := 34) zJ (show fnd 34 TT = some (.sl 29 7) by rfl))).2.2.h
  have hx := Any8.slices_Grow_grow Tryz.laysGrowV ie z hi hz (by omega) none 0 0 n [] w (Ar _) (by omega) (by
   have := Nat.mul_le_mul (show 0 + n ≤ 100000000 by omega) hb1;omega) (by omega) (by simp) (fun _ => rfl) (fun _ h => by cases h)
  refine hx.mono fun r w' hq => ?_;obtain ⟨rfl,rfl⟩ := hq;have hG : n ≤ grownCap w (0 + n) 0 (Tryz.laysGrowV_ren.t 25) := Bq (by omega) (grownCap_ge w (0 + n) 0 _);refine ⟨_,_,rfl,rfl,?_,grownCap_le_maxLen w _ _ _ (by unfold maxLen;omega)⟩;simp only [Array.size_append,Bi,Aq,size_zeroCells,hzc];omega
open Go.RowKit
variable {md me : Bool}
def st0 : St := ⟨0,vl0,0,ByteArray.empty,vl0,[]⟩
def stsD (l : List St) : D := .sl false 18 l stD st0
def vssD (l : List (List Vl)) : D := .sl false 1 l (fun x => [vsD x]) []
def caS (f : Vl) (l : List Vl) : St := ⟨2,vl0,0,ByteArray.empty,f,l⟩
def ctL (L : List (List Vl)) (k : Nat) : List Vl := (L.take k).flatten
theorem tC {L : List (List Vl)} {k : Nat} (h : k < L.length) : ctL L (k + 1) = ctL L k ++ L.getD k [] := by
 unfold ctL;rw [List.take_add_one,Ac h,List.flatten_append,Ai,Ac h];simp
theorem dB0 (L : List (List Vl)) (k : Nat) : (ctL L k).length ≤ (ctL L L.length).length := by
 unfold ctL;rw [List.take_length]
 conv => rhs;rw [← List.take_append_drop k L,List.flatten_append,Ae]
 omega
theorem cA0 (a b : List Vl) : ctL [a,b] [a,b].length = a ++ b := by simp [ctL]
theorem SubP.slrRows {α : Type} {m : Bool} {sz : Nat} {rows : List (List D)} {l : List α} {f : α → List D} {e : α} (h : RowsP rows (l.map f)) : SubP (.slr m sz rows) (.sl m sz l f e) := fun w s v hv => by
 have h1 := zK0 (m := m) (sz := sz) h (w := w) (s := s) (v := v) hv;rw [yR,Cb] at h1;exact h1
theorem zV1 (h : List Ob) (v : Vl) (s : ByteArray) : (spS h v s).2.1.length ≤ 1 := by
 unfold spS;repeat' split
 all_goals first | exact Ar _ | exact Ap _
theorem zB0 (L : List (List Vl)) (hl : (ctL L L.length).length ≤ 100000000) (hL : L.length ≤ 1000) : FnO Tryz.prog 102 [vssD L] 29 7 ((ctL L L.length).map vlD) := by
 refine pY Tryz.func102 rfl rfl rfl rfl rfl rfl ?_;intro w0 s0 mx;refine zL 100 ?_;refine zL 200 ?_;refine zB (zL 300 ?_);refine zR ?_;refine yC (ι := {k : Nat // k ≤ L.length}) [0,9,10] [] 350 (fun x => [(3,.v (.int .i64 ((ctL L x.1).length : Nat))),(11,.v (.int .i64 x.1))]) (fun _ => []) (fun x => L.length - x.1) ⟨0,Ap _⟩ ?_;refine ⟨⟨yG,yD,rfl,rfl⟩,fun x => ?_⟩;have hk : x.1 ≤ L.length := x.2;have hf := dB0 L (x.1 + 1);have hn : ∀ h : x.1 < L.length,(ctL L (x.1 + 1)).length = (ctL L x.1).length + (L.getD ((x.1 : Nat) : Int).toNat []).length := fun h => by rw [tC h,Ae];rfl
 have hf0 := dB0 L x.1;refine zL 400 ?_;refine zB (zZ (fun c3 => ?_) (fun c3 => ?_))
 ·
  refine zN (zA (zB (zR (zL 500 ?_))));refine zB (zE zJ [] 600 rfl ?_);repeat (first | refine zG ?_ | refine zH ?_ | refine zW (by first | (have h9 := hn c3;exact ini (by omega) (by omega)) | exact Dz) ?_)
  refine zC (zA (zL 700 ?_));refine zZ (fun c6 => ?_) (fun c6 => ?_)
  ·
   omega
  ·
   refine zN (zP (zA (yT zJ [] 900 ?_)));exact zV (⟨x.1 + 1,by omega⟩) ⟨⟨Sub.int (by rw [tC c3,Ae];push_cast;rfl),Sub.int (by push_cast;rfl),yG⟩,yD,rfl,rfl⟩ (by show L.length - (x.1 + 1) < L.length - x.1;omega)
 ·
  refine yF (yA (yB (zY (zA ?_))));refine zB (zE zJ [24] 1000 rfl ?_);refine zF ?_;refine qK _ _ _ (GrowV_ok _ (by have := dB0 L x.1;omega)) ?_;refine zF ?_;refine zC (zA (zB (zL 1100 ?_)));refine zR ?_;refine yC (ι := {k : Nat // k ≤ L.length}) [25,26] [] 1150 (fun y => [(27,.v (.int .i64 y.1)),(6,.own 401 7 ((ctL L y.1).map vlD))]) (fun y => [(401,.row 29 7 ((ctL L y.1).map vlD).length)]) (fun y => L.length - y.1) ⟨0,Ap _⟩ ?_;refine ⟨⟨yG,yD,rfl,rfl⟩,fun y => ?_⟩;have hky : y.1 ≤ L.length := y.2;have hfy := dB0 L (y.1 + 1);have hfy0 := dB0 L y.1;have hny : ∀ h : y.1 < L.length,(ctL L (y.1 + 1)).length = (ctL L y.1).length + (L.getD ((y.1 : Nat) : Int).toNat []).length := fun h => by rw [tC h,Ae];rfl
  refine zL 1200 ?_;refine zB (zZ (fun c11 => ?_) (fun c11 => ?_))
  ·
   refine zN (zA (zB (zR (zL 1300 ?_))));refine zE zJ [] 1400 rfl ?_;repeat (first | refine zG ?_ | refine zH ?_ | refine zW (by first | (have := hny c11;simp only [Ao];omega) | exact Dz) ?_)
   refine zC (zP (zA (yT zJ [] 1500 ?_)));exact zV (⟨y.1 + 1,by omega⟩) ⟨⟨Sub.int (by push_cast;rfl),Sub.own (by rw [tC c11,Ad];rfl),yG⟩,⟨⟨rfl,rfl,by show _ = (List.map vlD (ctL L (y.1 + 1))).length;rw [tC c11];simp⟩,yD⟩,rfl,rfl⟩ (by show L.length - (y.1 + 1) < L.length - y.1;omega)
  ·
   refine yF (yA (yB (zY (zA (zL 1600 ?_)))));refine zK ?_;have e : y.1 = L.length := by omega
   exact FinO.ret rfl rfl (by rw [e]) (by rw [e])
theorem mV (f : Vl) (l : List Vl) : Fn Tryz.prog 76 [.agg (vlD f),vsD l] (.agg (stD (caS f l))) := by
 refine yL zJ Tryz.func76 rfl rfl rfl rfl rfl rfl ?_;intro w0 s0 mx;refine zL 100 ?_;refine zL 200 ?_;refine zK ?_;exact FinV.ret rfl (SubP.agg (by repeat (first | exact trivial | exact SubP.refl _ | exact SubP.nilSl rfl | refine ⟨?_,?_⟩)))
variable {md me : Bool}




def tooB : ByteArray := ⟨#[118,97,108,117,101,32,105,115,32,116,111,111,32,108,97,114,103,101]⟩
variable {md me : Bool}
theorem mU (l : List Nat) (hl : l.length ≤ 2000000) : FnO Tryz.prog 90 [usD l] 110 1 (l.map uD) := by
 refine pY Tryz.func90 rfl rfl rfl rfl rfl rfl ?_;intro w0 s0 mx;refine zB (zE zJ [5] 100 rfl ?_);repeat (first | refine zG ?_ | refine zH ?_ | refine zW (by exact jG hl) ?_)
 refine zC (zA (zB (zB ?_)));refine uK Tryz.underlying25 rfl rfl rfl fun c hc => ?_;refine zA (zS rfl (fun c1 => ?_) (fun c1 => ?_))
 ·
  refine zB (zE zJ [5] 300 rfl ?_);repeat (first | refine zG ?_ | refine zH ?_ | refine zW (by exact jG hl) ?_)
  refine zC (zA (zK (zM ?_)));exact FinO.nil rfl (by rw [hc c1];rfl)
 ·
  refine zN (zA ?_);refine zB (zE zJ [5] 400 rfl ?_);repeat (first | refine zG ?_ | refine zH ?_ | refine zW (by first | rfl | exact jG hl | (rw [Aq];have := jG (f := uD) hl;omega) | (have := jG (f := uD) hl;simp at this ⊢;omega)) ?_)
  refine zC (zA (zK ?_));exact FinO.ret rfl rfl rfl rfl
variable {md me : Bool}
theorem uJ0 {α : Type} {f : α → List D} {l : List α} {k : Nat} (e : α) (h : k < l.length) : (l.take (k + 1)).map f = (l.take k).map f ++ [f (l.getD ((k : Nat) : Int).toNat e)] := by
 rw [List.take_add_one,Ac h,Ad,Aw,Ai,Ac h];rfl
theorem kR0 {α : Type} {l : List α} {k : Nat} (h : k < l.length) : (l.take (k + 1)).length = (l.take k).length + 1 := by
 rw [Au,Au];omega
theorem xE0 {α : Type} {l : List α} {k : Nat} (e : α) (h : k < l.length) : l.getD ((k : Nat) : Int).toNat e ∈ l := by
 rw [Aw,Ai,Ac h];exact Ca _
theorem tB0 (o : Ob) (a b c d e : Nat) : D.pvs [.v (.int .i64 o.kind),.v (.string o.name),.v (.int .i64 o.cls),.own a 1 (o.refs.map iD),.own b 1 (o.order.map iD),.own c 1 (o.names.map sD),.own d 7 (o.items.map vlD),.own e 7 (o.keys.map vlD),.v (.int .i64 o.code),.v (.int .i64 o.state)] = D.pvs (obD o) := by
 simp only [obD,D.pvs,D.pv,yR,Cb];rfl
theorem pvss_snoc {a : List (List D)} {r : List D} : D.pvss (a ++ [r]) = D.pvss a ++ [D.pvs r] := by rw [yR,yR,Ad];rfl
theorem mL (l : List Vl) (hl : l.length ≤ 2000000) (hv : ∀ v ∈ l,VlIn v) : FnO Tryz.prog 34 [vsD l] 29 7 (l.map vlD) := by
 refine pY Tryz.func34 rfl rfl rfl rfl rfl rfl ?_;intro w0 s0 mx;refine zL 100 ?_;refine zL 200 ?_;refine yW 3 29 7 rfl ?_;refine zB (zL 300 ?_);refine zR ?_;refine yC (ι := {k : Nat // k ≤ l.length}) [6,7] [] 350 (fun x => [(8,.v (.int .i64 x.1)),(3,.own 200 7 ((l.take x.1).map vlD))]) (fun x => [(200,.row 29 7 ((l.take x.1).map vlD).length)]) (fun x => l.length - x.1) ⟨0,Ap _⟩ ?_;refine ⟨⟨yG,yD,rfl,rfl⟩,fun x => ?_⟩;have hk : x.1 ≤ l.length := x.2;refine zL 400 ?_;refine zB (zZ (fun c3 => ?_) (fun c3 => ?_))
 ·
  refine zN (zA (zB (zR ?_)));have hvk : VlIn (l.getD ((x.1 : Nat) : Int).toNat vl0) := hv _ (xE0 vl0 c3);refine zL 500 ?_;refine zB (zU zJ [15,19] [[],[0],[0,1],[0,1,2],[],[4],[4,5],(rgN 7),(rgN 7),[0,1,2,3,4,5,6,8],(rgN 10),(rgN 11),(rgN 12),(rgN 13)] 600 yP (by kernel_rfl) rfl ?_);refine zF ?_;refine qK _ _ _ (mU _ hvk.nn) ?_;refine zF ?_;refine qK _ _ _ (mU _ hvk.dn) ?_;refine zF ?_;refine zC (zA ?_);refine zE zJ [] 700 rfl ?_;repeat (first | refine zG ?_ | refine zH ?_ | refine zW (by first | rfl | (simp only [Ao,Au,Ak,Aq];omega) | exact Dz) ?_)
  refine zC (zP (zA (yT zJ [] 800 ?_)));exact zV (⟨x.1 + 1,by omega⟩) ⟨⟨Sub.int (by push_cast;rfl),Sub.ownRows (by rw [uJ0 vl0 c3];exact (RowsP.refl _).append ⟨⟨SubP.refl _,SubP.refl _,SubP.ownSl rfl,SubP.refl _,SubP.ownSl rfl,SubP.refl _,SubP.refl _,trivial⟩,trivial⟩),yG⟩,⟨⟨rfl,rfl,by simp only [Ae,Ao];rw [kR0 c3];rfl⟩,yD⟩,rfl,rfl⟩ (by show l.length - (x.1 + 1) < l.length - x.1;omega)
 ·
  refine yF (yA (yB (zY (zA (zL 900 ?_)))));refine zK ?_;have e : l.take x.1 = l := An (by omega);exact FinO.ret rfl rfl (by rw [e]) (by rw [e])
theorem cJ0 (h : List Ob) (hh : HpIn h) : FnG Tryz.prog 10 [hpD md h] [] (.agg [.mo 0 h.length]) [.mrow 36 10 (.map h obD ob0)] := by
 have hhl := hh.len;refine qS zJ Tryz.func10 rfl rfl rfl rfl rfl rfl rfl ?_;intro w0 s0 mx;refine zL 100 ?_;refine zL 200 ?_;refine wP 100 0 36 10 rfl rfl ?_;refine zB ?_;refine kM 200 rfl ?_;refine zL 300 ?_;refine zR ?_;refine yC (ι := {k : Nat // k ≤ h.length}) [2,3,7,8] [1] 350 (fun x => [(9,.v (.int .i64 x.1))]) (fun x => [(100,.box 24 [.mo 200 (h.take x.1).length]),(200,.mrow 36 10 (.map (h.take x.1) obD ob0))]) (fun x => h.length - x.1) ⟨0,Ap _⟩ ?_;refine ⟨⟨yG,⟨⟨rfl,Sub.mo rfl,rfl,trivial⟩,SubO.mr rfl,yD⟩,rfl,rfl⟩,fun x => ?_⟩;have hk : x.1 ≤ h.length := x.2;refine zL 400 ?_;refine zB (zZ (fun c3 => ?_) (fun c3 => ?_))
 ·
  refine zN (zA (zB (zR ?_)));have hob : ObIn (h.getD ((x.1 : Nat) : Int).toNat ob0) := hh.ob _ (xE0 ob0 c3);refine zL 500 ?_;refine zB (zU zJ [15,18,21] mK10 600 yP (by kernel_rfl) rfl ?_);refine zF ?_;refine qK _ _ _ (vU _ hob.rl) ?_;refine zF ?_;refine qK _ _ _ (vU _ hob.ol) ?_;refine zF ?_;refine qK _ _ _ (tR _ hob.nl) ?_;refine zF ?_;refine zC (zA ?_);refine zB (zU zJ [27,30] mK11 700 yP (by kernel_rfl) rfl ?_);refine zF ?_;refine qK _ _ _ (mL _ hob.il hob.iv) ?_;refine zF ?_;refine qK _ _ _ (mL _ hob.kl hob.kv) ?_;refine zF ?_;refine zC (zA ?_);refine zE zJ [] 800 rfl ?_;repeat (first | refine zG ?_ | refine zH ?_ | refine zW (by first | rfl | (simp only [MR.len,Au,Ak,Aq];have := hh.len;omega) | exact Dz) ?_)
  refine zC (zP (zA (yT zJ [] 900 ?_)));exact zV (⟨x.1 + 1,by omega⟩) ⟨⟨Sub.int (by push_cast;rfl),yG⟩,⟨⟨rfl,Sub.mo (by rw [kR0 c3];rfl),rfl,trivial⟩,SubO.mp (by show D.pvss (List.map obD _ ++ [_]) = D.pvss (List.map obD _);rw [uJ0 ob0 c3,pvss_snoc,pvss_snoc,tB0]),yD⟩,rfl,rfl⟩ (by show h.length - (x.1 + 1) < h.length - x.1;omega)
 ·
  refine yF (yA (yB (zY (zA (zL 1000 ?_)))));refine zK ?_;have e : h.take x.1 = h := An (by omega);exact FinH.ret 200 rfl rfl (by rw [e];exact Sub.refl _) ⟨SubO.mr (by rw [e]),trivial⟩
end Go.Proofs.YtifgelimmddkpaaGreatDoor
