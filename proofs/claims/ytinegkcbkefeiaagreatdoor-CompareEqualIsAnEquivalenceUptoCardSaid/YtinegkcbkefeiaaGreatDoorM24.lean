/- CompareEqualIsAnEquivalence: the given statement. Condition: what the law reads is of bulk at most 1048576 (the second form); the listed variables start as the program's text lays them. -/
import Derived.Test.YtinegkcbkefeiaaGreatDoorM23
import Derived.ProofKit
import Derived.OpenShut
import Derived.ShutString
import Derived.Deep.Matrix
import Derived.Test.YtinegkcbkefeiaaGreatDoorCards
import Derived.Test.YtinegkcbkefeiaaGreatDoorTie
import Derived.Lib.LaidU8T
import Derived.Deep.DeepWitnessRowRef
namespace Go.Proofs.YtinegkcbkefeiaaGreatDoor
open Go.RowKit
theorem uE0 {F : Nat → Vl → Vl → QR} : ∀ {l : List (Vl × Option Vl)} {n m : Nat},lsQ F l n = some (true,m) → ∀ p ∈ l,∃ y n' m',p.2 = some y ∧ F n' p.1 y = some (true,m')
 | [],_,_,_,p,hp => by cases hp
 | (x,none) :: l,n,m,h,p,hp => by cases h
 | (x,some y) :: l,n,m,h,p,hp => by
  simp only [lsQ] at h
  cases hF : F n x y with
  | none => rw [hF] at h;cases h
  | some r =>
   obtain ⟨r1,r2⟩ := r;rw [hF] at h;simp only at h
   cases r1 with
   | false => cases h
   | true =>
    rcases List.mem_cons.1 hp with rfl | hp
    ·exact ⟨y,n,r2,rfl,hF⟩
    ·exact uE0 h p hp
theorem zD0 {F : Nat → Vl → Vl → QR} : ∀ {l : List (Vl × Option Vl)} {n m : Nat},lsQ F l n = some (false,m) → ∃ p ∈ l,p.2 = none ∨ ∃ y n' m',p.2 = some y ∧ F n' p.1 y = some (false,m')
 | [],_,_,h => by cases h
 | (x,none) :: l,n,m,h => ⟨_,List.mem_cons_self,.inl rfl⟩
 | (x,some y) :: l,n,m,h => by
  simp only [lsQ] at h
  cases hF : F n x y with
  | none => rw [hF] at h;cases h
  | some r =>
   obtain ⟨r1,r2⟩ := r;rw [hF] at h;simp only at h
   cases r1 with
   | false => exact ⟨_,List.mem_cons_self,.inr ⟨y,n,r2,rfl,hF⟩⟩
   | true =>
    obtain ⟨p,hp,h2⟩ := zD0 h;exact ⟨p,List.mem_cons_of_mem _ hp,h2⟩
def TQ (F : Nat → Vl → Vl → QR) (a b : Vl) : Prop := ∃ n m,F n a b = some (true,m)
def NQ (F : Nat → Vl → Vl → QR) (a b : Vl) : Prop := ∃ n m,F n a b = some (false,m)
theorem gX0 {F : Nat → Vl → Vl → QR} {a b : List Vl} {n m : Nat} (h : prQ F a b n = some (true,m)) : a.length = b.length ∧ ∀ i,i < a.length → TQ F (a.getD i vl0) (b.getD i vl0) := by
 unfold prQ at h;split at h
 ·rename_i hl;refine ⟨hl,fun i hi => ?_⟩;obtain ⟨y,n',m',h1,h2⟩ := uE0 h (a.getD i vl0,some (b.getD i vl0)) (List.mem_of_getElem? (bG a b hi))
  cases h1;exact ⟨n',m',h2⟩
 ·cases h
theorem pr_false {F : Nat → Vl → Vl → QR} {a b : List Vl} {n m : Nat} (h : prQ F a b n = some (false,m)) : a.length ≠ b.length ∨ ∃ i,i < a.length ∧ NQ F (a.getD i vl0) (b.getD i vl0) := by
 unfold prQ at h;split at h
 ·obtain ⟨p,hp,h2⟩ := zD0 h;obtain ⟨i,hi,rfl⟩ := List.mem_map.1 hp;rcases h2 with h2 | ⟨y,n',m',h1,h2⟩
  ·cases h2
  ·cases h1;exact .inr ⟨i,List.mem_range.1 hi,n',m',h2⟩
 ·rename_i hl;exact .inl hl
abbrev kpl (h : List Ob) (x y : Ob) (i : Nat) : Int := plI h y.keys (x.keys.getD i vl0)
theorem dc_true {F : Nat → Vl → Vl → QR} {h : List Ob} {x y : Ob} {n m : Nat} (e : dcQ F h x y n = some (true,m)) : x.keys.length = y.keys.length ∧ ∀ i,i < x.keys.length → 0 ≤ kpl h x y i ∧ TQ F (x.items.getD i vl0) (y.items.getD (kpl h x y i).toNat vl0) := by
 unfold dcQ at e;split at e
 ·rename_i hl;refine ⟨hl,fun i hi => ?_⟩;obtain ⟨v,n',m',h1,h2⟩ := uE0 e (dcE h x y i) (List.mem_of_getElem? (jF0 h x y hi));unfold dcE at h1 h2;by_cases hp : plI h y.keys (x.keys.getD i vl0) < 0
  ·simp only [if_pos hp] at h1;cases h1
  ·simp only [if_neg hp] at h1;cases h1;exact ⟨by show 0 ≤ plI h y.keys (x.keys.getD i vl0);omega,n',m',h2⟩
 ·cases e
theorem dc_false {F : Nat → Vl → Vl → QR} {h : List Ob} {x y : Ob} {n m : Nat} (e : dcQ F h x y n = some (false,m)) : x.keys.length ≠ y.keys.length ∨ ∃ i,i < x.keys.length ∧ (kpl h x y i < 0 ∨ NQ F (x.items.getD i vl0) (y.items.getD (kpl h x y i).toNat vl0)) := by
 unfold dcQ at e;split at e
 ·obtain ⟨p,hp,h2⟩ := zD0 e;obtain ⟨i,hi,rfl⟩ := List.mem_map.1 hp;refine .inr ⟨i,List.mem_range.1 hi,?_⟩;by_cases hq : plI h y.keys (x.keys.getD i vl0) < 0
  ·exact .inl hq
  ·unfold dcE at h2;simp only [if_neg hq] at h2;rcases h2 with h2 | ⟨v,n',m',h1,h2⟩
   ·cases h2
   ·cases h1;exact .inr ⟨n',m',h2⟩
 ·rename_i hl;exact .inl hl
inductive TS (F : Nat → Vl → Vl → QR) (h : List Ob) (a b : Vl) : Prop
 | same (e : a = b)
 | row (hk : (zT h a).kind = (zT h b).kind) (h12 : (zT h a).kind = 1 ∨ (zT h a).kind = 2) (hl : (zT h a).items.length = (zT h b).items.length) (hi : ∀ i,i < (zT h a).items.length → TQ F ((zT h a).items.getD i vl0) ((zT h b).items.getD i vl0))
 | dict (hk : (zT h a).kind = (zT h b).kind) (h3 : (zT h a).kind = 3) (hl : (zT h a).keys.length = (zT h b).keys.length) (hi : ∀ i,i < (zT h a).keys.length → 0 ≤ kpl h (zT h a) (zT h b) i ∧ TQ F ((zT h a).items.getD i vl0) ((zT h b).items.getD (kpl h (zT h a) (zT h b) i).toNat vl0))
 | set (hk : (zT h a).kind = (zT h b).kind) (h4 : (zT h a).kind = 4) (hl : (zT h a).keys.length = (zT h b).keys.length) (hi : ∀ i,i < (zT h a).keys.length → 0 ≤ kpl h (zT h a) (zT h b) i)
 | range (hk : (zT h a).kind = (zT h b).kind) (h5 : (zT h a).kind = 5) (he : rgE (zT h a) (zT h b) = true)
structure NS (F : Nat → Vl → Vl → QR) (h : List Ob) (a b : Vl) : Prop where
 ne : a ≠ b
 row : (zT h a).kind = (zT h b).kind → ((zT h a).kind = 1 ∨ (zT h a).kind = 2) → (zT h a).items.length = (zT h b).items.length → ∃ i,i < (zT h a).items.length ∧ NQ F ((zT h a).items.getD i vl0) ((zT h b).items.getD i vl0)
 dict : (zT h a).kind = (zT h b).kind → (zT h a).kind = 3 → (zT h a).keys.length = (zT h b).keys.length → ∃ i,i < (zT h a).keys.length ∧ (kpl h (zT h a) (zT h b) i < 0 ∨ NQ F ((zT h a).items.getD i vl0) ((zT h b).items.getD (kpl h (zT h a) (zT h b) i).toNat vl0))
 set : (zT h a).kind = (zT h b).kind → (zT h a).kind = 4 → (zT h a).keys.length = (zT h b).keys.length → ∃ i,i < (zT h a).keys.length ∧ kpl h (zT h a) (zT h b) i < 0
 range : (zT h a).kind = (zT h b).kind → (zT h a).kind = 5 → rgE (zT h a) (zT h b) = false
theorem wi_idx {h : List Ob} {a b : List Vl} : wiB h a b = true ↔ ∀ i,i < a.length → 0 ≤ plI h b (a.getD i vl0) := by
 unfold wiB;rw [List.all_eq_true];constructor
 ·intro H i hi;simpa using H _ (gR hi)
 ·intro H x hx;obtain ⟨i,hi,e⟩ := List.getElem_of_mem hx;have := H i hi;rw [List.getD_eq_getElem?_getD,List.getElem?_eq_getElem hi,e] at this;simpa using this
theorem mQ {F : Nat → Vl → Vl → QR} {h : List Ob} {a b : Vl} (H : TQ (eqP F h) a b) : TS F h a b := by
 obtain ⟨n,m,H⟩ := H;unfold eqP at H;split at H
 ·cases H
 ·split at H
  ·rename_i e;exact .same e
  ·unfold obQ at H;split at H
   ·cases H
   ·rename_i hk;have hk : (zT h a).kind = (zT h b).kind := Classical.not_not.1 hk;split at H
    ·rename_i h12;obtain ⟨h1,h2⟩ := gX0 H;exact .row hk h12 h1 h2
    ·split at H
     ·rename_i h3;obtain ⟨h1,h2⟩ := dc_true H;exact .dict hk h3 h1 h2
     ·split at H
      ·rename_i h4;simp only [Option.some.injEq,Prod.mk.injEq,Bool.and_eq_true,decide_eq_true_eq] at H;exact .set hk h4 H.1.1 (wi_idx.1 H.1.2)
      ·split at H
       ·rename_i h5;simp only [Option.some.injEq,Prod.mk.injEq] at H;exact .range hk h5 H.1
       ·cases H
theorem uC0 {F : Nat → Vl → Vl → QR} {h : List Ob} {a b : Vl} (H : NQ (eqP F h) a b) : NS F h a b := by
 obtain ⟨n,m,H⟩ := H;unfold eqP at H;split at H
 ·cases H
 ·split at H
  ·cases H
  ·rename_i hne;refine ⟨hne,fun hk h12 hl => ?_,fun hk h3 hl => ?_,fun hk h4 hl => ?_,fun hk h5 => ?_⟩
   ·rw [kI0 hk h12] at H;exact (pr_false H).resolve_left fun h => h hl
   ·rw [ob_3 hk h3] at H;exact (dc_false H).resolve_left fun h => h hl
   ·rw [ob_4 hk h4] at H;simp only [Option.some.injEq,Prod.mk.injEq,hl,decide_true,Bool.true_and] at H;refine Classical.byContradiction fun hno => ?_;have : wiB h (zT h a).keys (zT h b).keys = true := wi_idx.2 fun i hi => by
     refine Classical.byContradiction fun h9 => hno ⟨i,hi,?_⟩;show plI h (zT h b).keys ((zT h a).keys.getD i vl0) < 0;omega
    rw [this] at H;exact absurd H.1 (by decide)
   ·rw [ob_5 hk h5] at H;simp only [Option.some.injEq,Prod.mk.injEq] at H;exact H.1
theorem tq_0 {h : List Ob} {a b : Vl} : ¬ TQ (eqS h 0) a b := fun ⟨_,_,e⟩ => by cases e
theorem nq_0 {h : List Ob} {a b : Vl} : ¬ NQ (eqS h 0) a b := fun ⟨_,_,e⟩ => by cases e
theorem dN0 : ∀ (n : Nat) (f : Nat → Nat),(∀ i,i < n + 1 → f i < n) → ∃ i j,i < j ∧ j < n + 1 ∧ f i = f j
 | 0,f,h => absurd (h 0 (by omega)) (by omega)
 | n + 1,f,h => by
  by_cases hx : ∃ i,i < n + 1 ∧ f i = f (n + 1)
  ·obtain ⟨i,hi,e⟩ := hx;exact ⟨i,n + 1,hi,by omega,e⟩
  ·have hx : ∀ i,i < n + 1 → f i ≠ f (n + 1) := fun i hi e => hx ⟨i,hi,e⟩;have hl := h (n + 1) (by omega);obtain ⟨i,j,h1,h2,h3⟩ := dN0 n (fun i => if f i = n then f (n + 1) else f i) fun i hi => by
    have h1 := h i (by omega);have h2 := hx i hi;show (if f i = n then f (n + 1) else f i) < n;split <;> omega
   refine ⟨i,j,h1,by omega,?_⟩;have hi := hx i (by omega);have hj := hx j (by omega);split at h3 <;> split at h3 <;> omega
theorem onto {n : Nat} {f : Nat → Nat} (h : ∀ i,i < n → f i < n) (hinj : ∀ i j,i < n → j < n → f i = f j → i = j) {k : Nat} (hk : k < n) : ∃ i,i < n ∧ f i = k := by
 refine Classical.byContradiction fun hno => ?_;have hno : ∀ i,i < n → f i ≠ k := fun i hi e => hno ⟨i,hi,e⟩;obtain ⟨m,rfl⟩ : ∃ m,n = m + 1 := ⟨n - 1,by omega⟩;obtain ⟨i,j,h1,h2,h3⟩ := dN0 m (fun i => if f i = m then k else f i) fun i hi => by
  have h1 := h i hi;have h2 := hno i hi;show (if f i = m then k else f i) < m;split
  ·rename_i e;have := h2;omega
  ·omega
 have hi := hno i (by omega);have hj := hno j h2;have := hinj i j (by omega) h2;split at h3 <;> split at h3 <;> omega
section
variable {h : List Ob} {A B C : List Vl}
theorem dL0 (kb : Dk h B) {k : Vl} {j : Nat} (hj : j < B.length) (hs : smK h 1001 (B.getD j vl0) k = true) : plI h B k = j := by
 have h0 : 0 ≤ plI h B k := by
  refine Classical.byContradiction fun hn => ?_;have := plI_no (by omega : plI h B k < 0) _ (gR hj);rw [hs] at this;cases this
 obtain ⟨h1,h2⟩ := vJ h0;refine Classical.byContradiction fun hne => ?_;have h3 := kb j (plI h B k).toNat hj h1 (by omega);rw [wT h 1001 _ (B.getD (plI h B k).toNat vl0)] at h3;have h4 := kK h 1001 _ _ (B.getD j vl0) h2;rw [wT h 1001 k] at h4;rw [hs,h3] at h4
 cases h4
theorem pl_inj (ka : Dk h A) {i i' : Nat} (hi : i < A.length) (hi' : i' < A.length) (h0 : 0 ≤ plI h B (A.getD i vl0)) (he : (plI h B (A.getD i vl0)).toNat = (plI h B (A.getD i' vl0)).toNat) (h0' : 0 ≤ plI h B (A.getD i' vl0)) : i = i' := by
 refine Classical.byContradiction fun hne => ?_;obtain ⟨_,h2⟩ := vJ h0;obtain ⟨_,h3⟩ := vJ h0';rw [← he] at h3;have h4 := ka i i' hi hi' hne;rw [wT] at h2;have h5 := kK h 1001 _ _ (A.getD i' vl0) h2;rw [h3,h4] at h5
 cases h5
theorem cU (ka : Dk h A) (hl : A.length = B.length) (hall : ∀ i,i < A.length → 0 ≤ plI h B (A.getD i vl0)) {j : Nat} (hj : j < B.length) : ∃ i,i < A.length ∧ plI h B (A.getD i vl0) = j ∧ plI h A (B.getD j vl0) = i := by
 obtain ⟨i,hi,e⟩ := onto (n := A.length) (f := fun i => (plI h B (A.getD i vl0)).toNat) (fun i hi => by rw [hl];exact (vJ (hall i hi)).1) (fun i i' hi hi' e => pl_inj ka hi hi' (hall i hi) e (hall i' hi')) (k := j) (by omega);have h0 := hall i hi;refine ⟨i,hi,by omega,?_⟩;obtain ⟨_,h2⟩ := vJ h0;rw [e,wT] at h2;exact dL0 ka hi h2
theorem dF (kc : Dk h C) {a : Vl} {j : Nat} (h1 : plI h B a = j) (h2 : 0 ≤ plI h C (B.getD j vl0)) : plI h C a = plI h C (B.getD j vl0) := by
 obtain ⟨h3,h4⟩ := vJ h2;have h0 : 0 ≤ plI h B a := by omega
 obtain ⟨_,h5⟩ := vJ h0;rw [show (plI h B a).toNat = j by omega] at h5;have h6 := kK h 1001 _ _ a h4;rw [h5] at h6;have := dL0 kc h3 h6.symm;omega
end
theorem rgQ_iff {a b c x y z : Int} : rgQ a b c x y z = true ↔ qQ a b c = qQ x y z ∧ (qQ a b c = 0 ∨ a = x ∧ a + c * (qQ a b c - 1) = x + z * (qQ x y z - 1)) := by
 unfold rgQ;simp only [Bool.and_eq_true,Bool.or_eq_true,decide_eq_true_eq];constructor
 ·rintro ⟨h1,h2⟩;refine ⟨h1,h2.imp id fun ⟨h3,h4⟩ => ⟨by omega,by rw [← h1];omega⟩⟩
 ·rintro ⟨h1,h2⟩;refine ⟨h1,h2.imp id fun ⟨h3,h4⟩ => ⟨by omega,by rw [← h1] at h4;omega⟩⟩
theorem rgE_refl (x : Ob) : rgE x x = true := rgQ_iff.2 ⟨rfl,.inr ⟨rfl,rfl⟩⟩
theorem vS0 {x y : Ob} (h : rgE x y = true) : rgE y x = true := by
 obtain ⟨h1,h2⟩ := rgQ_iff.1 h;exact rgQ_iff.2 ⟨h1.symm,h2.imp (fun e => h1.symm.trans e) fun ⟨e1,e2⟩ => ⟨e1.symm,e2.symm⟩⟩
theorem yW0 {x y z : Ob} (h : rgE x y = true) (h' : rgE y z = true) : rgE x z = true := by
 obtain ⟨h1,h2⟩ := rgQ_iff.1 h;obtain ⟨h3,h4⟩ := rgQ_iff.1 h';refine rgQ_iff.2 ⟨h1.trans h3,?_⟩;rcases h2 with h2 | ⟨e1,e2⟩
 ·exact .inl h2
 ·rcases h4 with h4 | ⟨e3,e4⟩
  ·exact .inl (h1.trans h4)
  ·exact .inr ⟨e1.trans e3,e2.trans e4⟩
section
variable {h : List Ob} (hk : ∀ v : Vl,(zT h v).kind = 3 ∨ (zT h v).kind = 4 → Dk h (zT h v).keys)
include hk
omit hk in
theorem eq_D : ∀ (f f' : Nat) (a b : Vl),TQ (eqS h f) a b → NQ (eqS h f') a b → False
 | 0,_,_,_,ht,_ => tq_0 ht
 | _,0,_,_,_,hn => nq_0 hn
 | f + 1,f' + 1,a,b,ht,hn => by
  have n := uC0 hn
  cases mQ ht with
  | same e => exact n.ne e
  | row hk' h12 hl hi =>
   obtain ⟨i,h1,h2⟩ := n.row hk' h12 hl;exact eq_D f f' _ _ (hi i h1) h2
  | dict hk' h3 hl hi =>
   obtain ⟨i,h1,h2⟩ := n.dict hk' h3 hl;rcases h2 with h2 | h2
   ·have := (hi i h1).1;omega
   ·exact eq_D f f' _ _ (hi i h1).2 h2
  | set hk' h4 hl hi =>
   obtain ⟨i,h1,h2⟩ := n.set hk' h4 hl;have := hi i h1;omega
  | range hk' h5 he => rw [n.range hk' h5] at he;cases he
theorem eq_A : ∀ (f f' : Nat) (a b : Vl),TQ (eqS h f) a b → NQ (eqS h f') b a → False
 | 0,_,_,_,ht,_ => tq_0 ht
 | _,0,_,_,_,hn => nq_0 hn
 | f + 1,f' + 1,a,b,ht,hn => by
  have n := uC0 hn
  cases mQ ht with
  | same e => exact n.ne e.symm
  | row hk' h12 hl hi =>
   obtain ⟨i,h1,h2⟩ := n.row hk'.symm (by omega) hl.symm;exact eq_A f f' _ _ (hi i (by omega)) h2
  | dict hk' h3 hl hi =>
   obtain ⟨j,h1,h2⟩ := n.dict hk'.symm (by omega) hl.symm;obtain ⟨i,hi1,hi2,hi3⟩ := cU (hk a (.inl h3)) hl (fun i hi' => (hi i hi').1) h1;have hi3 : kpl h (zT h b) (zT h a) j = i := hi3;have hi2 : kpl h (zT h a) (zT h b) i = j := hi2;rw [hi3] at h2;rcases h2 with h2 | h2
   ·omega
   ·have h4 := (hi i hi1).2;rw [hi2] at h4;simp only [Int.toNat_natCast] at h2 h4;exact eq_A f f' _ _ h4 h2
  | set hk' h4 hl hi =>
   obtain ⟨j,h1,h2⟩ := n.set hk'.symm (by omega) hl.symm;obtain ⟨i,hi1,hi2,hi3⟩ := cU (hk a (.inr h4)) hl hi h1;have hi3 : kpl h (zT h b) (zT h a) j = i := hi3;omega
  | range hk' h5 he => exact absurd (n.range hk'.symm (by omega)) (by rw [vS0 he];decide)
theorem eq_B : ∀ (f f' f'' : Nat) (a b c : Vl),TQ (eqS h f) a b → TQ (eqS h f') a c → NQ (eqS h f'') b c → False
 | 0,_,_,_,_,_,ht,_,_ => tq_0 ht
 | _,0,_,_,_,_,_,ht,_ => tq_0 ht
 | _,_,0,_,_,_,_,_,hn => nq_0 hn
 | f + 1,f' + 1,f'' + 1,a,b,c,ht,hu,hn => by
  have n := uC0 hn
  cases mQ ht with
  | same e => subst e;exact eq_D _ _ _ _ hu hn
  | row hk1 h12 hl hi =>
   cases mQ hu with
   | same e => subst e;exact eq_A hk _ _ _ _ ht hn
   | row hk2 _ hl2 hi2 =>
    obtain ⟨i,h1,h2⟩ := n.row (by omega) (by omega) (by omega);exact eq_B f f' f'' _ _ _ (hi i (by omega)) (hi2 i (by omega)) h2
   | dict hk2 h3 _ _ => omega
   | set hk2 h3 _ _ => omega
   | range hk2 h3 _ => omega
  | dict hk1 h3 hl hi =>
   cases mQ hu with
   | same e => subst e;exact eq_A hk _ _ _ _ ht hn
   | row hk2 h12 _ _ => omega
   | dict hk2 _ hl2 hi2 =>
    obtain ⟨j,h1,h2⟩ := n.dict (by omega) (by omega) (by omega);obtain ⟨i,p1,p2,p3⟩ := cU (hk a (.inl h3)) hl (fun i hi' => (hi i hi').1) h1;have p2 : kpl h (zT h a) (zT h b) i = j := p2;have h5 : kpl h (zT h b) (zT h c) j = kpl h (zT h a) (zT h c) i := dF (hk c (.inl (by omega))) p3 (hi2 i p1).1;rw [h5] at h2;rcases h2 with h2 | h2
    ·have := (hi2 i p1).1;omega
    ·have h4 := (hi i p1).2;rw [p2] at h4;simp only [Int.toNat_natCast] at h4;exact eq_B f f' f'' _ _ _ h4 (hi2 i p1).2 h2
   | set hk2 h3 _ _ => omega
   | range hk2 h3 _ => omega
  | set hk1 h4 hl hi =>
   cases mQ hu with
   | same e => subst e;exact eq_A hk _ _ _ _ ht hn
   | row hk2 h12 _ _ => omega
   | dict hk2 h3 _ _ => omega
   | set hk2 _ hl2 hi2 =>
    obtain ⟨j,h1,h2⟩ := n.set (by omega) (by omega) (by omega);obtain ⟨i,p1,p2,p3⟩ := cU (hk a (.inr h4)) hl hi h1;have h5 : kpl h (zT h b) (zT h c) j = kpl h (zT h a) (zT h c) i := dF (hk c (.inr (by omega))) p3 (hi2 i p1);have := hi2 i p1;omega
   | range hk2 h3 _ => omega
  | range hk1 h5 he =>
   cases mQ hu with
   | same e => subst e;exact eq_A hk _ _ _ _ ht hn
   | row hk2 h12 _ _ => omega
   | dict hk2 h3 _ _ => omega
   | set hk2 h3 _ _ => omega
   | range hk2 _ he2 =>
    have := n.range (by omega) (by omega);rw [yW0 (vS0 he) he2] at this
    cases this
theorem eq_C : ∀ (f f' f'' : Nat) (a b c : Vl),TQ (eqS h f) a b → TQ (eqS h f') b c → NQ (eqS h f'') a c → False
 | 0,_,_,_,_,_,ht,_,_ => tq_0 ht
 | _,0,_,_,_,_,_,ht,_ => tq_0 ht
 | _,_,0,_,_,_,_,_,hn => nq_0 hn
 | f + 1,f' + 1,f'' + 1,a,b,c,ht,hu,hn => by
  have n := uC0 hn
  cases mQ ht with
  | same e => subst e;exact eq_D _ _ _ _ hu hn
  | row hk1 h12 hl hi =>
   cases mQ hu with
   | same e => subst e;exact eq_D _ _ _ _ ht hn
   | row hk2 _ hl2 hi2 =>
    obtain ⟨i,h1,h2⟩ := n.row (by omega) (by omega) (by omega);exact eq_C f f' f'' _ _ _ (hi i (by omega)) (hi2 i (by omega)) h2
   | dict hk2 h3 _ _ => omega
   | set hk2 h3 _ _ => omega
   | range hk2 h3 _ => omega
  | dict hk1 h3 hl hi =>
   cases mQ hu with
   | same e => subst e;exact eq_D _ _ _ _ ht hn
   | row hk2 h12 _ _ => omega
   | dict hk2 _ hl2 hi2 =>
    obtain ⟨i,h1,h2⟩ := n.dict (by omega) (by omega) (by omega);obtain ⟨p0,p1⟩ := hi i h1;have hj : kpl h (zT h a) (zT h b) i = ((kpl h (zT h a) (zT h b) i).toNat : Int) := by omega
    have hjl : (kpl h (zT h a) (zT h b) i).toNat < (zT h b).keys.length := (vJ p0).1;obtain ⟨q0,q1⟩ := hi2 _ hjl;have h5 : kpl h (zT h a) (zT h c) i = kpl h (zT h b) (zT h c) (kpl h (zT h a) (zT h b) i).toNat := dF (hk c (.inl (by omega))) hj q0;rw [h5] at h2;rcases h2 with h2 | h2
    ·omega
    ·exact eq_C f f' f'' _ _ _ p1 q1 h2
   | set hk2 h3 _ _ => omega
   | range hk2 h3 _ => omega
  | set hk1 h4 hl hi =>
   cases mQ hu with
   | same e => subst e;exact eq_D _ _ _ _ ht hn
   | row hk2 h12 _ _ => omega
   | dict hk2 h3 _ _ => omega
   | set hk2 _ hl2 hi2 =>
    obtain ⟨i,h1,h2⟩ := n.set (by omega) (by omega) (by omega);have p0 := hi i h1;have hj : kpl h (zT h a) (zT h b) i = ((kpl h (zT h a) (zT h b) i).toNat : Int) := by omega
    have q0 : 0 ≤ kpl h (zT h b) (zT h c) (kpl h (zT h a) (zT h b) i).toNat := hi2 _ (vJ p0).1;have h5 : kpl h (zT h a) (zT h c) i = kpl h (zT h b) (zT h c) (kpl h (zT h a) (zT h b) i).toNat := dF (hk c (.inr (by omega))) hj q0;omega
   | range hk2 h3 _ => omega
  | range hk1 h5 he =>
   cases mQ hu with
   | same e => subst e;exact eq_D _ _ _ _ ht hn
   | row hk2 h12 _ _ => omega
   | dict hk2 h3 _ _ => omega
   | set hk2 h3 _ _ => omega
   | range hk2 _ he2 =>
    have := n.range (by omega) (by omega);rw [yW0 he he2] at this
    cases this
end
def Ky (h : List Ob) : Nat → Vl → Prop
 | 0,v => badS h v = false ∧ (zT h v).kind ≠ 1
 | n + 1,v => badS h v = false ∧ ((zT h v).kind = 1 → ∀ x ∈ (zT h v).items,Ky h n x)
theorem Ky.succ {h : List Ob} : ∀ {n : Nat} {v : Vl},Ky h n v → Ky h (n + 1) v
 | 0,_,hv => ⟨hv.1,fun hk => absurd hk hv.2⟩
 | _ + 1,_,hv => ⟨hv.1,fun hk x hx => Ky.succ (hv.2 hk x hx)⟩
theorem Ky.mono {h : List Ob} {n m : Nat} {v : Vl} (hv : Ky h n v) (hnm : n ≤ m) : Ky h m v := by
 obtain ⟨d,rfl⟩ := Nat.exists_eq_add_of_le hnm;clear hnm;induction d with
 | zero => exact hv
 | succ d ih => exact ih.succ
theorem Ky.bad {h : List Ob} : ∀ {n : Nat} {v : Vl},Ky h n v → badS h v = false
 | 0,_,hv => hv.1
 | _ + 1,_,hv => hv.1
theorem gW0 (h : List Ob) : ∀ (f : Nat) (left out : List Vl),(ptS h f left out).2 = true → (ptS h f left out).1.length ≤ 1000 → 1000 < f + out.length → out.length + left.length ≤ (ptS h f left out).1.length ∧ ∀ x ∈ left,Ky h ((ptS h f left out).1.length - out.length) x
 | 0,left,out,_,h2,h3 => by have h2' : out.length ≤ 1000 := h2;omega
 | f + 1,[],out,_,_,_ => ⟨Nat.le_refl _,fun _ h => by cases h⟩
 | f + 1,y :: left,out,h1,h2,h3 => by
  rw [kP] at h1 h2 ⊢;split at h1
  ·cases h1
  ·rename_i hb;have hb' : badS h y = false := by simpa using hb
   rw [if_neg hb] at h2 ⊢;split at h1
   ·rename_i hk;rw [if_pos hk] at h2 ⊢;obtain ⟨g1,g2⟩ := gW0 h f _ _ h1 h2 (by simp;omega);simp only [List.length_append,List.length_cons,List.length_nil,List.length_take] at g1 g2 ⊢;generalize (ptS h f (List.take (min (zT h y).items.length 1001) (zT h y).items ++ left) (out ++ [y])).fst.length = N at *;have hall : (zT h y).items.take (min (zT h y).items.length 1001) = (zT h y).items := List.take_of_length_le (by omega);refine ⟨by omega,fun x hx => ?_⟩;rcases List.mem_cons.1 hx with rfl | hx
    ·rw [show N - out.length = (N - (out.length + (0 + 1))) + 1 by omega];exact ⟨hb',fun _ z hz => g2 z (List.mem_append.2 (.inl (by rw [hall];exact hz)))⟩
    ·exact (g2 x (List.mem_append.2 (.inr hx))).mono (by omega)
   ·rename_i hk;rw [if_neg hk] at h2 ⊢;obtain ⟨g1,g2⟩ := gW0 h f _ _ h1 h2 (by simp;omega);simp only [List.length_append,List.length_cons,List.length_nil] at g1 g2 ⊢;generalize (ptS h f left (out ++ [y])).fst.length = N at *;refine ⟨by omega,fun x hx => ?_⟩;rcases List.mem_cons.1 hx with rfl | hx
    ·exact Ky.mono (n := 0) ⟨hb',hk⟩ (by omega)
    ·exact (g2 x hx).mono (by omega)
theorem keyed_ky {h : List Ob} {v : Vl} (hk : uH h v = true) : Ky h 1001 v := by
 simp only [uH,Bool.and_eq_true,decide_eq_true_eq] at hk;have := (gW0 h 1001 [v] [] hk.1 (by have := hk.2;simp only [xI] at this;omega) (by decide)).2 v (by simp);refine this.mono ?_;have h2 := hk.2;simp only [xI] at h2;omega
theorem bad_no {h : List Ob} {v : Vl} (hb : badS h v = false) : (zT h v).kind ≠ 2 ∧ (zT h v).kind ≠ 3 ∧ (zT h v).kind ≠ 4 ∧ (zT h v).kind ≠ 5 := by
 unfold badS at hb;simp only [Bool.or_eq_false_iff,decide_eq_false_iff_not] at hb;exact ⟨hb.1.1.1.2,hb.1.1.2,hb.1.2,hb.2⟩
theorem cL0 {h : List Ob} : ∀ (n f : Nat) (a b : Vl),smK h n a b = true → NQ (eqS h f) a b → False
 | _,0,_,_,_,hn => nq_0 hn
 | 0,f + 1,a,b,hs,hn => (uC0 hn).ne (of_decide_eq_true hs)
 | n + 1,f + 1,a,b,hs,hn => by
  have N := uC0 hn;have hs : gX h (smK h n) a b = true := hs;by_cases hk : (zT h a).kind = 1 ∧ (zT h b).kind = 1
  ·rw [jJ hk,Bool.and_eq_true,decide_eq_true_eq,List.all_eq_true] at hs;obtain ⟨i,h1,h2⟩ := N.row (by omega) (.inl hk.1) (by omega);have h3 := hs.2 i (List.mem_range.2 h1);unfold prP at h3;rw [Int.toNat_natCast] at h3;exact cL0 n f _ _ h3 h2
  ·rw [jV hk,decide_eq_true_eq] at hs;exact N.ne hs
theorem cM0 {h : List Ob} : ∀ (n f : Nat) (a b : Vl),Ky h n a → smK h n a b = false → TQ (eqS h f) a b → False
 | _,0,_,_,_,_,ht => tq_0 ht
 | n,f + 1,a,b,ky,hs,ht => by
  obtain ⟨b2,b3,b4,b5⟩ := bad_no ky.bad
  cases mQ ht with
  | same e => rw [e,cO] at hs;cases hs
  | row hk h12 hl hi =>
   have h1 : (zT h a).kind = 1 := h12.resolve_right b2
   match n,ky,hs with
   | 0,ky,_ => exact ky.2 h1
   | n + 1,ky,hs =>
    have hs : gX h (smK h n) a b = false := hs;rw [jJ ⟨h1,by omega⟩,show decide (((zT h a).items.length : Int) = (zT h b).items.length) = true from decide_eq_true (by omega),Bool.true_and] at hs;have hex : ∃ i,i < (zT h a).items.length ∧ prP (smK h n) (zT h a).items (zT h b).items i = false := by
     refine Classical.byContradiction fun hno => ?_;have : (List.range (zT h a).items.length).all (prP (smK h n) (zT h a).items (zT h b).items) = true := List.all_eq_true.2 fun i hi => by
      cases hp : prP (smK h n) (zT h a).items (zT h b).items i with
      | true => rfl
      | false => exact absurd ⟨i,List.mem_range.1 hi,hp⟩ hno
     rw [this] at hs;cases hs
    obtain ⟨i,h3,h4⟩ := hex;unfold prP at h4;rw [Int.toNat_natCast] at h4;exact cM0 n f _ _ (ky.2 h1 _ (gR h3)) h4 (hi i h3)
  | dict hk h3 hl hi => exact b3 h3
  | set hk h4 hl hi => exact b4 h4
  | range hk h5 he => exact b5 h5
theorem cD0 {h : List Ob} {F : Nat → Vl → Vl → QR} {a b : Vl} (H : TQ (saP F h) a b) : a = b ∨ ((zT h a).kind = (zT h b).kind ∧ ((zT h a).kind = 1 ∨ (zT h a).kind = 5) ∧ (zT h a).items.length = (zT h b).items.length ∧ ∀ i,i < (zT h a).items.length → TQ F ((zT h a).items.getD i vl0) ((zT h b).items.getD i vl0)) := by
 obtain ⟨n,m,H⟩ := H;unfold saP at H;split at H
 ·cases H
 ·split at H
  ·rename_i e;exact .inl e
  ·split at H
   ·rename_i hk;obtain ⟨h1,h2⟩ := gX0 H;exact .inr ⟨hk.1,hk.2,h1,h2⟩
   ·cases H
theorem gP0 {h : List Ob} : ∀ (f : Nat) (a b : Vl),¬ a.k = 6 → TQ (saS h f) a b → a = b
 | 0,_,_,_,⟨_,_,e⟩ => by cases e
 | f + 1,a,b,hk,ht => by
  rcases cD0 ht with e | ⟨_,h2,_⟩
  ·exact e
  ·rw [uA0 hk] at h2;exact absurd h2 (by show ¬ ((0 : Int) = 1 ∨ (0 : Int) = 5);decide)
theorem cE0 {h : List Ob} (hr : ∀ v : Vl,(zT h v).kind = 5 → 2 < (zT h v).items.length ∧ ∀ j < 3,((zT h v).items.getD j vl0).k = 2) : ∀ (f f' : Nat) (a b : Vl),TQ (saS h f) a b → NQ (eqS h f') a b → False
 | 0,_,_,_,⟨_,_,e⟩,_ => by cases e
 | _,0,_,_,_,hn => nq_0 hn
 | f + 1,f' + 1,a,b,ht,hn => by
  have N := uC0 hn;rcases cD0 ht with e | ⟨h1,h2,h3,h4⟩
  ·exact N.ne e
  ·rcases h2 with h2 | h2
   ·obtain ⟨i,h5,h6⟩ := N.row h1 (.inl h2) h3;exact cE0 hr f f' _ _ (h4 i h5) h6
   ·have h5 := N.range h1 h2;obtain ⟨hl,hk⟩ := hr a h2;have e0 := gP0 f _ _ (by rw [hk 0 (by decide)];decide) (h4 0 (by omega));have e1 := gP0 f _ _ (by rw [hk 1 (by decide)];decide) (h4 1 (by omega));have e2 := gP0 f _ _ (by rw [hk 2 (by decide)];decide) (h4 2 (by omega));have : rgO (zT h a) = rgO (zT h b) := by unfold rgO;rw [e0,e1,e2]
    unfold rgE at h5;rw [this] at h5;have h6 := rgE_refl (zT h b);unfold rgE at h6;rw [h6] at h5
    cases h5
variable {md me : Bool}
theorem Fn.eqo {P : Program} {f : FuncId} {args : List D} {out out' : D} (h : Fn P f args out) (e : out = out') : Fn P f args out' := e ▸ h
theorem qs_r {q : QR} (h : (qSt q).k = 0) : ∃ r m,q = some (r,m) ∧ (qSt q).v.r = if r = true then 1 else 0 := by
 cases q with
 | none => exact absurd h (by show ¬ (1 : Int) = 0;decide)
 | some q => obtain ⟨r,m⟩ := q;exact ⟨r,m,rfl,by cases r <;> rfl⟩
theorem l_own {h : List Ob} {f : Nat} {a : Vl} (n : Nat) : qSt (eqS h (f + 1) (n + 1) a a) = vlS (boV true) := by
 rw [show eqS h (f + 1) (n + 1) a a = some (true,n) from cS0 (by omega) rfl];rfl
section
variable {h : List Ob} {f n : Nat} {a b c : Vl}
theorem l_sym (hk : ∀ v : Vl,(zT h v).kind = 3 ∨ (zT h v).kind = 4 → Dk h (zT h v).keys) (hx : (qSt (eqS h f n a b)).k = 0) (hw : (qSt (eqS h f n b a)).k = 0) : (qSt (eqS h f n a b)).v.r = (qSt (eqS h f n b a)).v.r := by
 obtain ⟨r,m,e1,e2⟩ := qs_r hx;obtain ⟨r',m',e3,e4⟩ := qs_r hw;rw [e2,e4]
 cases r <;> cases r'
 ·rfl
 ·exact (eq_A hk f f b a ⟨_,_,e3⟩ ⟨_,_,e1⟩).elim
 ·exact (eq_A hk f f a b ⟨_,_,e1⟩ ⟨_,_,e3⟩).elim
 ·rfl
theorem l_trans (hk : ∀ v : Vl,(zT h v).kind = 3 ∨ (zT h v).kind = 4 → Dk h (zT h v).keys) (hx : (qSt (eqS h f n a b)).k = 0) (hy : (qSt (eqS h f n b c)).k = 0) (hz : (qSt (eqS h f n a c)).k = 0) (h1 : (qSt (eqS h f n a b)).v.r = 1) : (qSt (eqS h f n b c)).v.r = (qSt (eqS h f n a c)).v.r := by
 obtain ⟨r,m,e1,e2⟩ := qs_r hx;obtain ⟨r',m',e3,e4⟩ := qs_r hy;obtain ⟨r'',m'',e5,e6⟩ := qs_r hz;rw [e2] at h1
 cases r with
 | false => exact absurd h1 (by decide)
 | true =>
  rw [e4,e6]
  cases r' <;> cases r''
  ·rfl
  ·exact (eq_B hk f f f a b c ⟨_,_,e1⟩ ⟨_,_,e5⟩ ⟨_,_,e3⟩).elim
  ·exact (eq_C hk f f f a b c ⟨_,_,e1⟩ ⟨_,_,e3⟩ ⟨_,_,e5⟩).elim
  ·rfl
theorem l_same (hr : ∀ v : Vl,(zT h v).kind = 5 → 2 < (zT h v).items.length ∧ ∀ j < 3,((zT h v).items.getD j vl0).k = 2) (hs : (qSt (saS h f n a b)).k = 0) (hs1 : (qSt (saS h f n a b)).v.r = 1) (hx : (qSt (eqS h f n a b)).k = 0) (h0 : (qSt (eqS h f n a b)).v.r = 0) : False := by
 obtain ⟨r,m,e1,e2⟩ := qs_r hx;obtain ⟨r',m',e3,e4⟩ := qs_r hs;rw [e2] at h0;rw [e4] at hs1
 cases r with
 | true => exact absurd h0 (by decide)
 | false =>
  cases r' with
  | false => exact absurd hs1 (by decide)
  | true => exact cE0 hr f f a b ⟨_,_,e3⟩ ⟨_,_,e1⟩
theorem l_key (hx : (qSt (eqS h f n a b)).k = 0) (ha : uH h a = true) : smK h 1001 a b = decide ((qSt (eqS h f n a b)).v.r = 1) := by
 obtain ⟨r,m,e1,e2⟩ := qs_r hx;rw [e2]
 cases hs : smK h 1001 a b with
 | true =>
  cases r with
  | true => rfl
  | false => exact (cL0 1001 f a b hs ⟨_,_,e1⟩).elim
 | false =>
  cases r with
  | true => exact (cM0 1001 f a b (keyed_ky ha) hs ⟨_,_,e1⟩).elim
  | false => rfl
end
theorem rg_k {h : List Ob} (g : Uh h) (v : Vl) (hk : (zT h v).kind = 5) : 2 < (zT h v).items.length ∧ ∀ j < 3,((zT h v).items.getD j vl0).k = 2 := by
 obtain ⟨h6,ho,e⟩ := xN (h := h) (v := v) (by omega);rw [e] at hk ⊢;have hin := yZ ho;have h49 : 49 ≤ v.r.toNat := by
  rcases Nat.lt_or_ge v.r.toNat 49 with h1 | h1
  ·rw [show yO h v.r = bgO v.r.toNat from g.lo_at h1] at hk;exact absurd hk (by show ¬ (9 : Int) = 5;decide)
  ·exact h1
 have hu := g.hi_at h49 hin.2;rw [← gG hin] at hu;have hS := (pL0 hu.shape).1;rw [cnt5 hk] at hS;have hl : (yO h v.r).items.length = 3 := by omega
 have hr := hu.links;unfold jA at hr;rw [if_pos hk] at hr;unfold rngS at hr;rw [Bool.and_eq_true,List.all_eq_true] at hr;refine ⟨by omega,fun j hj => ?_⟩;have := hr.1 _ (gR (l := (yO h v.r).items) (i := j) (by omega));unfold rngP at this;rw [Bool.and_eq_true,decide_eq_true_eq] at this;exact this.1
theorem cN0 {h : List Ob} (g : Uh h) (v : Vl) (hk : (zT h v).kind = 3 ∨ (zT h v).kind = 4) : Dk h (zT h v).keys := by
 obtain ⟨h6,ho,_⟩ := xN (h := h) (v := v) (by omega);exact (qM0 g (fun _ => ho) hk).dk
set_option maxHeartbeats 4000000 in
theorem Law28_ok (h : List Ob) (a b c : Vl) (hh : HpIn h) (hia : VlIn a) (hib : VlIn b) (hic : VlIn c) : Fn Tryz.prog 3 [hpD md h,.agg (vlD a),.agg (vlD b),.agg (vlD c)] (.v (.bool true)) := by
 refine yH zK Tryz.func3 rfl rfl rfl rfl rfl rfl ?_;intro w0 s0 mx;refine zL 100 ?_;refine zB ?_;refine zB (zE zK [] 200 rfl ?_);refine zF ?_;refine zR _ ((Usable_ok h [a,b,c] hh (fun u hu => by simp only [List.mem_cons,List.not_mem_nil,or_false] at hu;rcases hu with rfl | rfl | rfl <;> assumption) (by show 3 ≤ 2000000;omega)).args ⟨SubP.refl _,SubP.slrSl rfl,trivial⟩) rfl ?_
 refine zF ?_;refine zC (zA (zW rfl (fun c1 => ?_) (fun c1 => ?_)))
 ·
  refine zL 300 ?_;refine zM (zO ?_);exact FinV.ret rfl (SubP.refl _)
 ·have hq : (jQ h).1 = 0 ∧ hasS h a = true ∧ hasS h b = true ∧ hasS h c = true := by
   have hu : mN h [a,b,c] = true := by simpa using c1
   simp only [mN,Bool.and_eq_true,decide_eq_true_eq,List.all_cons,List.all_nil,Bool.and_true] at hu;exact hu
  have g : Uh h := uh_of hq.1;have va := kR0 hq.2.1;have vb := kR0 hq.2.2.1;have vc := kR0 hq.2.2.2;obtain ⟨X,hX⟩ : ∃ X,X = qSt (eqS h 10000 10000 a b) := ⟨_,rfl⟩;obtain ⟨Y,hY⟩ : ∃ Y,Y = qSt (eqS h 10000 10000 b c) := ⟨_,rfl⟩;obtain ⟨Z,hZ⟩ : ∃ Z,Z = qSt (eqS h 10000 10000 a c) := ⟨_,rfl⟩;obtain ⟨W,hW⟩ : ∃ W,W = qSt (eqS h 10000 10000 b a) := ⟨_,rfl⟩;obtain ⟨O,hO⟩ : ∃ O,O = qSt (eqS h 10000 10000 a a) := ⟨_,rfl⟩;obtain ⟨M,hM⟩ : ∃ M,M = qSt (saS h 10000 10000 a b) := ⟨_,rfl⟩;have f1 : O.k = 0 ∧ O.v.r = 1 := by rw [hO,l_own (f := 9999) 9999];exact ⟨rfl,rfl⟩
  have f2 : X.k = 0 → W.k = 0 → X.v.r = W.v.r := fun p q => by rw [hX] at p ⊢;rw [hW] at q ⊢;exact l_sym (cN0 g) p q
  have f3 : X.k = 0 → Y.k = 0 → Z.k = 0 → X.v.r = 1 → Y.v.r = Z.v.r := fun p q r s => by rw [hX] at p s;rw [hY] at q ⊢;rw [hZ] at r ⊢;exact l_trans (cN0 g) p q r s
  have f4 : M.k = 0 → M.v.r = 1 → X.k = 0 → X.v.r = 0 → False := fun p q r s => by rw [hM] at p q;rw [hX] at r s;exact l_same (rg_k g) p q r s
  have f5 : X.k = 0 → uH h a = true → smK h 1001 a b = decide (X.v.r = 1) := fun p q => by rw [hX] at p ⊢;exact l_key p q
  refine zJ (zA ?_);refine zB (yF zK [] [[],[],[],[0,1,2],[],[],[],(rgN 7),[],[],[],(rgN 11),[],[],[],(rgN 15),[],[],[],[],(rgN 20),(rgN 21),(rgN 22),(rgN 23)] 400 yW (by kernel_rfl) rfl ?_);refine zF ?_;refine zR _ (Fn.eqo (vQ h a b hh g va vb) (congrArg (fun s => D.agg (stD s)) hX.symm)) rfl ?_;refine zF ?_;refine zR _ (Fn.eqo (vQ h b c hh g vb vc) (congrArg (fun s => D.agg (stD s)) hY.symm)) rfl ?_;refine zF ?_;refine zR _ (Fn.eqo (vQ h a c hh g va vc) (congrArg (fun s => D.agg (stD s)) hZ.symm)) rfl ?_;refine zF ?_;refine zR _ (Fn.eqo (vQ h b a hh g vb va) (congrArg (fun s => D.agg (stD s)) hW.symm)) rfl ?_;refine zF ?_;refine zC (zA ?_);refine zB (zE zK [] 500 rfl ?_);refine zF ?_;refine zR _ (Fn.eqo (vQ h a a hh g va va) (congrArg (fun s => D.agg (stD s)) hO.symm)) rfl ?_;refine zF ?_;refine zC (zA (zB (zL 600 ?_)));refine zY (fun c5 => ?_) (fun c5 => ?_)
  ·
   exact absurd c5 (by simp [f1.1,f1.2])
  ·
   refine zJ (zA (zB (zL 800 ?_)));refine zW rfl (fun c7 => ?_) (fun c7 => ?_)
   ·
    refine zL 900 ?_;refine zM (zO ?_);exact FinV.ret rfl (SubP.refl _)
   ·have k7 : X.k = 0 ∧ Y.k = 0 ∧ Z.k = 0 ∧ W.k = 0 := by
     simp at c7;omega
    refine zJ (zA (zB (zL 1000 ?_)));refine zY (fun c9 => ?_) (fun c9 => ?_)
    ·
     (have e1 := f2 k7.1 k7.2.2.2;have e2 := f3 k7.1 k7.2.1 k7.2.2.1;first | omega | (simp at c9;omega))
    ·
     refine zJ (zA (zB ?_));refine zB (zE zK [] 1200 rfl ?_);refine zF ?_;refine zR _ (Fn.eqo (cmpSame_ok h a b hh g va vb) (congrArg (fun s => D.agg (stD s)) hM.symm)) rfl ?_;refine zF ?_;refine zC (zA (zL 1300 ?_));refine zY (fun c12 => ?_) (fun c12 => ?_)
     ·
      exact (f4 (by omega) (by omega) k7.1 (by omega)).elim
     ·
      refine zJ (zA ?_);refine zB (yF zK [] [[],[],[0,1],[0,1,2],[0,1,2,3],(rgN 5),(rgN 5),(rgN 7),(rgN 8),(rgN 9),(rgN 10),(rgN 11),(rgN 11),(rgN 11),(rgN 14),(rgN 11),[0,1,2,3,4,5,6,7,8,9,10,15],[0,1,2,3,4,5,6,7,8,9,10,15,16],[0,1,2,3,4,5,6,7,8,9,10,15,16,17],(rgN 19),(rgN 20),(rgN 21)] 1500 yW (by kernel_rfl) rfl ?_);refine zF ?_;refine zR _ (yG0 h a hh) rfl ?_;refine zF ?_;refine yL _ (fun hg7 => yG0 h b hh) rfl ?_;refine zF ?_;refine yL _ (fun hg14 => tD hh 1001 a b (dI (by have h9 := hg14;simp at h9;exact h9.1))) rfl ?_;refine zF ?_;refine zC (zA (zM ?_))
      exact FinV.ret rfl (SubP.bool (by
        cases ha : uH h a with
        | false => rfl
        | true =>
         rw [f5 k7.1 ha]
         cases uH h b <;> simp))
open Go.ChangeShapes Go.WideShapes Go.ChangeAt Go.RowKit Go.Deep
theorem xD0 {H : Type} {d : DataW H} {l : List (DataW H)} (h : d ∈ l) : Rows.uptoBulk d ≤ Rows.uptoBulkAll l := by
 induction l with
 | nil => cases h
 | cons x r ih =>
  simp only [Rows.uptoBulkAll]
  cases List.mem_cons.1 h with
  | inl e => subst e;omega
  | inr e => have := ih e;omega
theorem bulk_one {H : Type} (d : DataW H) : 1 ≤ Rows.uptoBulk d := by
 cases d with
 | lit l => cases l <;> simp [Rows.uptoBulk]
 | nil => simp [Rows.uptoBulk]
 | ptr d => simp [Rows.uptoBulk]
 | slice elems spare => simp [Rows.uptoBulk]
 | agg parts => simp [Rows.uptoBulk]
 | iface t d => simp [Rows.uptoBulk]
 | map entries => simp [Rows.uptoBulk]
 | held h => simp [Rows.uptoBulk]
theorem bulk_length {H : Type} (l : List (DataW H)) : l.length ≤ Rows.uptoBulkAll l := by
 induction l with
 | nil => simp [Rows.uptoBulkAll]
 | cons x r ih => have := bulk_one x;simp only [Rows.uptoBulkAll,List.length_cons];omega
theorem qH {H : Type} {l : List (DataW H × List MemPlace)} {i : Nat} {y : DataW H × List MemPlace} (h : l[i]? = some y) {n : Nat} (hn : Rows.uptoBulk (DataW.agg (l.map (·.1))) ≤ n) : Rows.uptoBulk y.1 ≤ n := by
 have h1 : y.1 ∈ l.map (·.1) := List.mem_map.2 ⟨y,List.mem_of_getElem? h,rfl⟩;have h2 := xD0 h1;simp only [Rows.uptoBulk] at hn;omega
def sW (W : World) : Sb := ⟨fun b _ => b < W.heap.size,fun b _ => b < W.heap.size,fun _ _ h => h⟩
def I64 (x : Int) : Prop := -9223372036854775808 ≤ x ∧ x ≤ 9223372036854775807
theorem i64_wf {x : Int} (h : (Lit.int .i64 x).wf = true) : I64 x := by
 simp [Lit.wf] at h;have h1 : IntKind.i64.min = -9223372036854775808 := by decide
 have h2 : IntKind.i64.max = 9223372036854775807 := by decide
 unfold I64;omega
theorem u32_wf {x : Int} (h : (Lit.int .u32 x).wf = true) : 0 ≤ x ∧ x < 4294967296 := by
 simp [Lit.wf] at h;have h1 : IntKind.u32.min = 0 := by decide
 have h2 : IntKind.u32.max = 4294967295 := by decide
 omega
def Opn {H : Type} (enc : TypeId × Value → H) (P : Program) (W : World) (t : TypeId) {α : Type} (f : α → List D) (Q : α → Nat → Prop) : Prop :=
 ∀ (fuel : Nat) (cs : List Value) (d : DataW H) (ps : List MemPlace),cs.length = P.cellsOf t → DataW.trod enc P W 0 (fun _ => true) true fuel t cs = some (d,ps) →
  ∃ x,AllV W (sW W) (D.pvs (f x)) cs ∧ (∀ c ∈ cs,c.oneCell' = true) ∧ ∀ n,Rows.uptoBulk d ≤ n → Q x n
section
variable {H : Type} {enc : TypeId × Value → H} {P : Program} {W : World}
theorem mZ {c : Value} (h : c.oneCell' = true) : ∀ x ∈ [c],x.oneCell' = true := fun x hx => by rw [List.mem_singleton] at hx;rw [hx];exact h
theorem Opn.int {t : TypeId} (ht : P.underlying t = some (.int .i64)) : Opn enc P W t iD (fun x _ => I64 x) := by
 intro fuel cs d ps _ h;obtain ⟨k,rfl,_,wf⟩ := DataW.trod_int ht h;exact ⟨k,⟨rfl,trivial⟩,mZ rfl,fun _ _ => i64_wf wf⟩
theorem Opn.u32 {t : TypeId} (ht : P.underlying t = some (.int .u32)) : Opn enc P W t uD (fun x _ => x < 4294967296) := by
 intro fuel cs d ps _ h;obtain ⟨k,rfl,_,wf⟩ := DataW.trod_int ht h;have h1 := u32_wf wf;refine ⟨k.toNat,⟨?_,trivial⟩,mZ rfl,fun _ _ => by omega⟩;show Value.int .u32 k = .int .u32 (k.toNat : Nat);rw [Int.toNat_of_nonneg h1.1]
theorem Opn.bool {t : TypeId} (ht : P.underlying t = some .bool) : Opn enc P W t (fun b : Bool => [.v (.bool b)]) (fun _ _ => True) := by
 intro fuel cs d ps _ h;obtain ⟨k,rfl,_⟩ := DataW.trod_bool ht h;exact ⟨k,⟨rfl,trivial⟩,mZ rfl,fun _ _ => trivial⟩
theorem Opn.str {t : TypeId} (ht : P.underlying t = some .string) : Opn enc P W t sD (fun s n => s.size ≤ n) := by
 intro fuel cs d ps _ h;obtain ⟨k,rfl,hx,_⟩ := DataW.trod_string ht h;refine ⟨k,⟨rfl,trivial⟩,mZ rfl,fun n hn => ?_⟩;simp only [Prod.mk.injEq] at hx;rw [hx.1] at hn;simp only [Rows.uptoBulk] at hn;have e : k.data.toList.length = k.size := by rw [Array.length_toList];rfl
 omega
theorem Opn.sl {α : Type} {f : α → List D} {Q : α → Nat → Prop} {t e : TypeId} {sz : Nat} (e0 : α) (ht : P.underlying t = some (.slice e)) (hc : P.cellsOf e = sz) (hz : 0 < sz) (he : Opn enc P W e f Q) :
  Opn enc P W t (fun l => [.sl false sz l f e0]) (fun l n => l.length ≤ n ∧ ∀ x ∈ l,Q x n) := by
 intro fuel cs d ps _ h;rcases open_slice ht h with ⟨rfl,hx⟩ | ⟨a,len,cap,m,n,D',Pl,rfl,_,hl,hm,hmm,hx,hel⟩
 ·exact ⟨[],⟨PV.sl_nil,trivial⟩,mZ rfl,fun _ _ => ⟨Nat.zero_le _,fun x hx => by cases hx⟩⟩
 ·simp only [if_true] at hmm;subst hmm;have hq : ∀ i,i < len → ∃ x : α,∃ cs',W.cells? 0 (a.add (i * sz)) sz = some cs' ∧ AllV W (sW W) (D.pvs (f x)) cs' ∧ (∀ c ∈ cs',c.oneCell' = true) ∧ ∀ n,Rows.uptoBulk (D' i) ≤ n → Q x n := fun i hi => by
   obtain ⟨cs',h1,h2⟩ := hel i (by omega);rw [hc] at h1;obtain ⟨_,hlen,_⟩ := World.cells?_some h1;obtain ⟨x,hx1,hx2,hx3⟩ := he n cs' (D' i) (Pl i) (by omega) h2;exact ⟨x,cs',h1,hx1,hx2,hx3⟩
  obtain ⟨g,hg⟩ : ∃ g : Nat → α,∀ i,i < len → ∃ cs',W.cells? 0 (a.add (i * sz)) sz = some cs' ∧ AllV W (sW W) (D.pvs (f (g i))) cs' ∧ (∀ c ∈ cs',c.oneCell' = true) ∧ ∀ n,Rows.uptoBulk (D' i) ≤ n → Q (g i) n :=
   ⟨fun i => if h : i < len then Classical.choose (hq i h) else e0,fun i hi => by simp only [dif_pos hi];exact Classical.choose_spec (hq i hi)⟩
  have hrl : (((List.range len).map g).map fun a => D.pvs (f a)).length = len := by simp
  refine ⟨(List.range len).map g,⟨⟨some a,m,?_,?_,?_,?_,?_⟩,trivial⟩,mZ rfl,fun n hn => ?_⟩
  ·show Value.slice (some a) len m = Value.slice (some a) (((List.range len).map g).map fun a => D.pvs (f a)).length m;rw [hrl]
  ·show (((List.range len).map g).map fun a => D.pvs (f a)).length ≤ m;rw [hrl];exact hl
  ·have : maxLen = 9223372036854775807 := by decide
   omega
  ·intro row hrow;have hrow : row ∈ ((List.range len).map g).map fun a => D.pvs (f a) := hrow;rw [List.map_map] at hrow;obtain ⟨i,hi,rfl⟩ := List.mem_map.1 hrow;obtain ⟨cs',h1,h2,-⟩ := hg i (List.mem_range.1 hi);have h3 := h2.length;obtain ⟨_,h4,_⟩ := World.cells?_some h1;show (D.pvs (f (g i))).length = sz;omega
  ·intro i row hrow;have hrow : (((List.range len).map g).map fun a => D.pvs (f a))[i]? = some row := hrow;rw [List.map_map,List.getElem?_map] at hrow;obtain ⟨j,hj,rfl⟩ := Option.map_eq_some_iff.1 hrow;have hi : i < len := by have := (List.getElem?_eq_some_iff.1 hj).1;simpa using this
   rw [List.getElem?_range hi] at hj
   cases hj;obtain ⟨cs',h1,h2,h3,-⟩ := hg i hi;obtain ⟨_,h4,h5⟩ := World.cells?_some h1;obtain ⟨b,off,spot⟩ := a
   cases spot with
   | some sp =>
    obtain ⟨cs0,k1,-⟩ := hg 0 (by omega);obtain ⟨_,k4,k5⟩ := World.cells?_some k1;have h6 := k5 0 hz;rw [List.getElem?_eq_getElem (by omega)] at h6;have := World.cell?_spot h6;simp [Addr.add] at this
   | none =>
    refine ⟨b,off,rfl,fun j d hd => ?_⟩;obtain ⟨v,hv,hp⟩ := h2.get hd;have hj : j < cs'.length := (List.getElem?_eq_some_iff.1 hv).1;have h6 := h5 j (by omega);rw [hv] at h6;have h7 : W.cell? ⟨b,off + i * sz + j,none⟩ = some v := by rw [add_plain,add_plain] at h6;exact h6
    exact ⟨v,h7,(World.block_lt_of_cell? _ _ h7 : b < W.heap.size),hp,h3 v (List.mem_of_getElem? hv)⟩
  ·simp only [Prod.mk.injEq] at hx;rw [hx.1] at hn;simp only [Rows.uptoBulk] at hn;have h1 := bulk_length ((List.range len).map D');simp only [List.length_map,List.length_range] at h1;refine ⟨by simp;omega,fun x hx => ?_⟩;obtain ⟨i,hi,rfl⟩ := List.mem_map.1 hx;obtain ⟨cs',-,-,-,h4⟩ := hg i (List.mem_range.1 hi);exact h4 n (by have := xD0 (d := D' i) (l := (List.range len).map D') (List.mem_map.2 ⟨i,hi,rfl⟩);omega)
end
theorem list5 {α : Type} {l : List α} (h : l.length = 5) : ∃ c0 c1 c2 c3 c4,l = [c0,c1,c2,c3,c4] := by
 match l,h with
 | [c0,c1,c2,c3,c4],_ => exact ⟨c0,c1,c2,c3,c4,rfl⟩
theorem list7 {α : Type} {l : List α} (h : l.length = 7) : ∃ c0 c1 c2 c3 c4 c5 c6,l = [c0,c1,c2,c3,c4,c5,c6] := by
 match l,h with
 | [c0,c1,c2,c3,c4,c5,c6],_ => exact ⟨c0,c1,c2,c3,c4,c5,c6,rfl⟩
theorem dQ0 {α : Type} {l : List α} (h : l.length = 10) : ∃ c0 c1 c2 c3 c4 c5 c6 c7 c8 c9,l = [c0,c1,c2,c3,c4,c5,c6,c7,c8,c9] := by
 match l,h with
 | [c0,c1,c2,c3,c4,c5,c6,c7,c8,c9],_ => exact ⟨c0,c1,c2,c3,c4,c5,c6,c7,c8,c9,rfl⟩
theorem jI {W : World} {s : Sb} {d : D} {c : Value} (h : AllV W s (D.pvs [d]) [c]) : d.pv.p W s c := h.1
section
variable {H : Type} {enc : TypeId × Value → H} {W : World}
def intD (p : Bool × List Nat) : List D := [.v (.bool p.1),usD p.2]
set_option maxRecDepth 100000 in
theorem Opn.bigI : Opn enc Tryz.prog W 27 intD (fun p n => p.2.length ≤ n ∧ ∀ x ∈ p.2,x < 4294967296) := by
 intro fuel cs d ps hl h;have e4 : Tryz.prog.cellsOf 4 = 1 := by kernel_rfl
 have e22 : Tryz.prog.cellsOf 25 = 1 := by kernel_rfl
 have eI : Tryz.prog.cellsOf 27 = 2 := by kernel_rfl
 rw [eI] at hl
 match cs,hl with
 | [c0,c1],_ =>
  obtain ⟨xs,n1,_,hx,_,hlen,hg⟩ := DataW.trod_struct Tryz.underlying27 h
  match xs,hlen with
  | [y0,y1],_ =>
   have g0 : DataW.trod enc Tryz.prog W 0 (fun _ => true) true n1 4 (([c0,c1].drop 0).take (Tryz.prog.cellsOf 4)) = some y0 := hg 0 _ rfl;rw [e4] at g0
   replace g0 : DataW.trod enc Tryz.prog W 0 (fun _ => true) true n1 4 [c0] = some y0 := g0
   have g1 : DataW.trod enc Tryz.prog W 0 (fun _ => true) true n1 25 (([c0,c1].drop 1).take (Tryz.prog.cellsOf 25)) = some y1 := hg 1 _ rfl;rw [e22] at g1
   replace g1 : DataW.trod enc Tryz.prog W 0 (fun _ => true) true n1 25 [c1] = some y1 := g1
   obtain ⟨x0,a0,o0,q0⟩ := Opn.bool Tryz.underlying4 _ _ y0.1 y0.2 (by rw [e4];rfl) g0;obtain ⟨x1,a1,o1,q1⟩ := Opn.sl 0 Tryz.underlying25 (sz := 1) (by kernel_rfl) (by decide) (Opn.u32 Tryz.underlying126) _ _ y1.1 y1.2 (by rw [e22];rfl) g1;simp only [Prod.mk.injEq] at hx;refine ⟨(x0,x1),⟨jI a0,jI a1,trivial⟩,fun c hc => ?_,fun n hn => ?_⟩
   ·simp only [List.mem_cons,List.not_mem_nil,or_false] at hc;rcases hc with rfl | rfl
    ·exact o0 _ (by simp)
    ·exact o1 _ (by simp)
   ·rw [hx.1] at hn;exact q1 n (qH (i := 1) (y := y1) rfl hn)
set_option maxRecDepth 100000 in
theorem Opn.val : Opn enc Tryz.prog W 29 vlD (fun v n => n ≤ 1048576 → VlIn v) := by
 intro fuel cs d ps hl h;have e3 : Tryz.prog.cellsOf 3 = 1 := by kernel_rfl
 have e9 : Tryz.prog.cellsOf 9 = 1 := by kernel_rfl
 have e24 : Tryz.prog.cellsOf 27 = 2 := by kernel_rfl
 have eV : Tryz.prog.cellsOf 29 = 7 := by kernel_rfl
 rw [eV] at hl;obtain ⟨c0,c1,c2,c3,c4,c5,c6,rfl⟩ := list7 hl;obtain ⟨xs,n1,_,hx,_,hlen,hg⟩ := DataW.trod_struct Tryz.underlying29 h;obtain ⟨y0,y1,y2,y3,y4,rfl⟩ := list5 hlen;have g0 : DataW.trod enc Tryz.prog W 0 (fun _ => true) true n1 3 (([c0,c1,c2,c3,c4,c5,c6].drop 0).take (Tryz.prog.cellsOf 3)) = some y0 := hg 0 _ rfl;rw [e3] at g0
 replace g0 : DataW.trod enc Tryz.prog W 0 (fun _ => true) true n1 3 [c0] = some y0 := g0
 have g1 : DataW.trod enc Tryz.prog W 0 (fun _ => true) true n1 27 (([c0,c1,c2,c3,c4,c5,c6].drop 1).take (Tryz.prog.cellsOf 27)) = some y1 := hg 1 _ rfl;rw [e24] at g1
 replace g1 : DataW.trod enc Tryz.prog W 0 (fun _ => true) true n1 27 [c1,c2] = some y1 := g1
 have g2 : DataW.trod enc Tryz.prog W 0 (fun _ => true) true n1 27 (([c0,c1,c2,c3,c4,c5,c6].drop 3).take (Tryz.prog.cellsOf 27)) = some y2 := hg 2 _ rfl;rw [e24] at g2
 replace g2 : DataW.trod enc Tryz.prog W 0 (fun _ => true) true n1 27 [c3,c4] = some y2 := g2
 have g3 : DataW.trod enc Tryz.prog W 0 (fun _ => true) true n1 9 (([c0,c1,c2,c3,c4,c5,c6].drop 5).take (Tryz.prog.cellsOf 9)) = some y3 := hg 3 _ rfl;rw [e9] at g3
 replace g3 : DataW.trod enc Tryz.prog W 0 (fun _ => true) true n1 9 [c5] = some y3 := g3
 have g4 : DataW.trod enc Tryz.prog W 0 (fun _ => true) true n1 3 (([c0,c1,c2,c3,c4,c5,c6].drop 6).take (Tryz.prog.cellsOf 3)) = some y4 := hg 4 _ rfl;rw [e3] at g4
 replace g4 : DataW.trod enc Tryz.prog W 0 (fun _ => true) true n1 3 [c6] = some y4 := g4
 obtain ⟨x0,a0,o0,q0⟩ := Opn.int Tryz.underlying3 _ _ y0.1 y0.2 (by rw [e3];rfl) g0;obtain ⟨x1,a1,o1,q1⟩ := Opn.bigI _ _ y1.1 y1.2 (by rw [e24];rfl) g1;obtain ⟨x2,a2,o2,q2⟩ := Opn.bigI _ _ y2.1 y2.2 (by rw [e24];rfl) g2;obtain ⟨x3,a3,o3,q3⟩ := Opn.str Tryz.underlying9 _ _ y3.1 y3.2 (by rw [e9];rfl) g3;obtain ⟨x4,a4,o4,q4⟩ := Opn.int Tryz.underlying3 _ _ y4.1 y4.2 (by rw [e3];rfl) g4;simp only [Prod.mk.injEq] at hx;refine ⟨⟨x0,x1.1,x1.2,x2.1,x2.2,x3,x4⟩,⟨jI a0,a1.1,a1.2.1,a2.1,a2.2.1,jI a3,jI a4,trivial⟩,fun c hc => ?_,fun n hn hn2 => ?_⟩
 ·simp only [List.mem_cons,List.not_mem_nil,or_false] at hc;rcases hc with rfl | rfl | rfl | rfl | rfl | rfl | rfl
  ·exact o0 _ (by simp)
  ·exact o1 _ (by simp)
  ·exact o1 _ (by simp)
  ·exact o2 _ (by simp)
  ·exact o2 _ (by simp)
  ·exact o3 _ (by simp)
  ·exact o4 _ (by simp)
 ·rw [hx.1] at hn;have b0 := q0 n (qH (i := 0) (y := y0) rfl hn);have b1 := q1 n (qH (i := 1) (y := y1) rfl hn);have b2 := q2 n (qH (i := 2) (y := y2) rfl hn);have b3 := q3 n (qH (i := 3) (y := y3) rfl hn);have b4 := q4 n (qH (i := 4) (y := y4) rfl hn);exact ⟨b0.1,b0.2,b4.1,b4.2,b1.2,b2.2,by show x1.2.length ≤ _;omega,by show x2.2.length ≤ _;omega,by show x3.size ≤ _;omega⟩
set_option maxRecDepth 100000 in
theorem Opn.obj : Opn enc Tryz.prog W 41 obD (fun o n => n ≤ 1048576 → ObIn o) := by
 intro fuel cs d ps hl h;have e3 : Tryz.prog.cellsOf 3 = 1 := by kernel_rfl
 have e9 : Tryz.prog.cellsOf 9 = 1 := by kernel_rfl
 have eI : Tryz.prog.cellsOf 38 = 1 := by kernel_rfl
 have eS : Tryz.prog.cellsOf 39 = 1 := by kernel_rfl
 have eV : Tryz.prog.cellsOf 31 = 1 := by kernel_rfl
 have eO : Tryz.prog.cellsOf 41 = 10 := by kernel_rfl
 rw [eO] at hl;obtain ⟨c0,c1,c2,c3,c4,c5,c6,c7,c8,c9,rfl⟩ := dQ0 hl;obtain ⟨xs,n1,_,hx,_,hlen,hg⟩ := DataW.trod_struct Tryz.underlying41 h;obtain ⟨y0,y1,y2,y3,y4,y5,y6,y7,y8,y9,rfl⟩ := dQ0 hlen;have g0 : DataW.trod enc Tryz.prog W 0 (fun _ => true) true n1 3 (([c0,c1,c2,c3,c4,c5,c6,c7,c8,c9].drop 0).take (Tryz.prog.cellsOf 3)) = some y0 := hg 0 _ rfl;rw [e3] at g0
 replace g0 : DataW.trod enc Tryz.prog W 0 (fun _ => true) true n1 3 [c0] = some y0 := g0
 have g1 : DataW.trod enc Tryz.prog W 0 (fun _ => true) true n1 9 (([c0,c1,c2,c3,c4,c5,c6,c7,c8,c9].drop 1).take (Tryz.prog.cellsOf 9)) = some y1 := hg 1 _ rfl;rw [e9] at g1
 replace g1 : DataW.trod enc Tryz.prog W 0 (fun _ => true) true n1 9 [c1] = some y1 := g1
 have g2 : DataW.trod enc Tryz.prog W 0 (fun _ => true) true n1 3 (([c0,c1,c2,c3,c4,c5,c6,c7,c8,c9].drop 2).take (Tryz.prog.cellsOf 3)) = some y2 := hg 2 _ rfl;rw [e3] at g2
 replace g2 : DataW.trod enc Tryz.prog W 0 (fun _ => true) true n1 3 [c2] = some y2 := g2
 have g3 : DataW.trod enc Tryz.prog W 0 (fun _ => true) true n1 38 (([c0,c1,c2,c3,c4,c5,c6,c7,c8,c9].drop 3).take (Tryz.prog.cellsOf 38)) = some y3 := hg 3 _ rfl;rw [eI] at g3
 replace g3 : DataW.trod enc Tryz.prog W 0 (fun _ => true) true n1 38 [c3] = some y3 := g3
 have g4 : DataW.trod enc Tryz.prog W 0 (fun _ => true) true n1 38 (([c0,c1,c2,c3,c4,c5,c6,c7,c8,c9].drop 4).take (Tryz.prog.cellsOf 38)) = some y4 := hg 4 _ rfl;rw [eI] at g4
 replace g4 : DataW.trod enc Tryz.prog W 0 (fun _ => true) true n1 38 [c4] = some y4 := g4
 have g5 : DataW.trod enc Tryz.prog W 0 (fun _ => true) true n1 39 (([c0,c1,c2,c3,c4,c5,c6,c7,c8,c9].drop 5).take (Tryz.prog.cellsOf 39)) = some y5 := hg 5 _ rfl;rw [eS] at g5
 replace g5 : DataW.trod enc Tryz.prog W 0 (fun _ => true) true n1 39 [c5] = some y5 := g5
 have g6 : DataW.trod enc Tryz.prog W 0 (fun _ => true) true n1 31 (([c0,c1,c2,c3,c4,c5,c6,c7,c8,c9].drop 6).take (Tryz.prog.cellsOf 31)) = some y6 := hg 6 _ rfl;rw [eV] at g6
 replace g6 : DataW.trod enc Tryz.prog W 0 (fun _ => true) true n1 31 [c6] = some y6 := g6
 have g7 : DataW.trod enc Tryz.prog W 0 (fun _ => true) true n1 31 (([c0,c1,c2,c3,c4,c5,c6,c7,c8,c9].drop 7).take (Tryz.prog.cellsOf 31)) = some y7 := hg 7 _ rfl;rw [eV] at g7
 replace g7 : DataW.trod enc Tryz.prog W 0 (fun _ => true) true n1 31 [c7] = some y7 := g7
 have g8 : DataW.trod enc Tryz.prog W 0 (fun _ => true) true n1 3 (([c0,c1,c2,c3,c4,c5,c6,c7,c8,c9].drop 8).take (Tryz.prog.cellsOf 3)) = some y8 := hg 8 _ rfl;rw [e3] at g8
 replace g8 : DataW.trod enc Tryz.prog W 0 (fun _ => true) true n1 3 [c8] = some y8 := g8
 have g9 : DataW.trod enc Tryz.prog W 0 (fun _ => true) true n1 3 (([c0,c1,c2,c3,c4,c5,c6,c7,c8,c9].drop 9).take (Tryz.prog.cellsOf 3)) = some y9 := hg 9 _ rfl;rw [e3] at g9
 replace g9 : DataW.trod enc Tryz.prog W 0 (fun _ => true) true n1 3 [c9] = some y9 := g9
 obtain ⟨x0,a0,o0,q0⟩ := Opn.int Tryz.underlying3 _ _ y0.1 y0.2 (by rw [e3];rfl) g0;obtain ⟨x1,a1,o1,q1⟩ := Opn.str Tryz.underlying9 _ _ y1.1 y1.2 (by rw [e9];rfl) g1;obtain ⟨x2,a2,o2,q2⟩ := Opn.int Tryz.underlying3 _ _ y2.1 y2.2 (by rw [e3];rfl) g2;obtain ⟨x3,a3,o3,q3⟩ := Opn.sl 0 Tryz.underlying38 (sz := 1) (by kernel_rfl) (by decide) (Opn.int Tryz.underlying3) _ _ y3.1 y3.2 (by rw [eI];rfl) g3;obtain ⟨x4,a4,o4,q4⟩ := Opn.sl 0 Tryz.underlying38 (sz := 1) (by kernel_rfl) (by decide) (Opn.int Tryz.underlying3) _ _ y4.1 y4.2 (by rw [eI];rfl) g4;obtain ⟨x5,a5,o5,q5⟩ := Opn.sl ByteArray.empty Tryz.underlying39 (sz := 1) (by kernel_rfl) (by decide) (Opn.str Tryz.underlying9) _ _ y5.1 y5.2 (by rw [eS];rfl) g5;obtain ⟨x6,a6,o6,q6⟩ := Opn.sl vl0 Tryz.underlying31 (sz := 7) (by kernel_rfl) (by decide) Opn.val _ _ y6.1 y6.2 (by rw [eV];rfl) g6;obtain ⟨x7,a7,o7,q7⟩ := Opn.sl vl0 Tryz.underlying31 (sz := 7) (by kernel_rfl) (by decide) Opn.val _ _ y7.1 y7.2 (by rw [eV];rfl) g7;obtain ⟨x8,a8,o8,q8⟩ := Opn.int Tryz.underlying3 _ _ y8.1 y8.2 (by rw [e3];rfl) g8;obtain ⟨x9,a9,o9,q9⟩ := Opn.int Tryz.underlying3 _ _ y9.1 y9.2 (by rw [e3];rfl) g9;simp only [Prod.mk.injEq] at hx;refine ⟨⟨x0,x1,x2,x3,x4,x5,x6,x7,x8,x9⟩,⟨jI a0,jI a1,jI a2,jI a3,jI a4,jI a5,jI a6,jI a7,jI a8,jI a9,trivial⟩,fun c hc => ?_,fun n hn hn2 => ?_⟩
 ·simp only [List.mem_cons,List.not_mem_nil,or_false] at hc;rcases hc with rfl | rfl | rfl | rfl | rfl | rfl | rfl | rfl | rfl | rfl
  ·exact o0 _ (by simp)
  ·exact o1 _ (by simp)
  ·exact o2 _ (by simp)
  ·exact o3 _ (by simp)
  ·exact o4 _ (by simp)
  ·exact o5 _ (by simp)
  ·exact o6 _ (by simp)
  ·exact o7 _ (by simp)
  ·exact o8 _ (by simp)
  ·exact o9 _ (by simp)
 ·rw [hx.1] at hn;have b0 := q0 n (qH (i := 0) (y := y0) rfl hn);have b1 := q1 n (qH (i := 1) (y := y1) rfl hn);have b2 := q2 n (qH (i := 2) (y := y2) rfl hn);have b3 := q3 n (qH (i := 3) (y := y3) rfl hn);have b4 := q4 n (qH (i := 4) (y := y4) rfl hn);have b5 := q5 n (qH (i := 5) (y := y5) rfl hn);have b6 := q6 n (qH (i := 6) (y := y6) rfl hn);have b7 := q7 n (qH (i := 7) (y := y7) rfl hn);have b8 := q8 n (qH (i := 8) (y := y8) rfl hn);have b9 := q9 n (qH (i := 9) (y := y9) rfl hn)
  exact ⟨b0,b2,b8,b9,by show x1.size ≤ _;omega,by show x3.length ≤ _;omega,by show x4.length ≤ _;omega,by show x5.length ≤ _;omega,by show x6.length ≤ _;omega,by show x7.length ≤ _;omega,
   fun s hs => by have := b5.2 s hs;omega,fun v hv => b6.2 v hv hn2,fun v hv => b7.2 v hv hn2⟩
def hpL (h : List Ob) : List D := [.sl false 10 h obD ob0]
set_option maxRecDepth 100000 in
theorem Opn.heap : Opn enc Tryz.prog W 24 hpL (fun h n => n ≤ 1048576 → HpIn h) := by
 intro fuel cs d ps hl h;have eH : Tryz.prog.cellsOf 24 = 1 := by kernel_rfl
 have eO : Tryz.prog.cellsOf 22 = 1 := by kernel_rfl
 rw [eH] at hl
 match cs,hl with
 | [c0],_ =>
  obtain ⟨xs,n1,_,hx,_,hlen,hg⟩ := DataW.trod_struct Tryz.underlying24 h
  match xs,hlen with
  | [y0],_ =>
   have g0 : DataW.trod enc Tryz.prog W 0 (fun _ => true) true n1 22 (([c0].drop 0).take (Tryz.prog.cellsOf 22)) = some y0 := hg 0 _ rfl;rw [eO] at g0
   replace g0 : DataW.trod enc Tryz.prog W 0 (fun _ => true) true n1 22 [c0] = some y0 := g0
   obtain ⟨x0,a0,o0,q0⟩ := Opn.sl ob0 Tryz.underlying22 (sz := 10) (by kernel_rfl) (by decide) Opn.obj _ _ y0.1 y0.2 (by rw [eO];rfl) g0;simp only [Prod.mk.injEq] at hx;refine ⟨x0,a0,o0,fun n hn hn2 => ?_⟩;rw [hx.1] at hn;have b0 := q0 n (qH (i := 0) (y := y0) rfl hn);exact ⟨fun o ho => b0.2 o ho hn2,by omega⟩
theorem Opn.agg {P : Program} {α : Type} {f : α → List D} {Q : α → Nat → Prop} {t : TypeId} {fs : Array Field} {base : Nat} (ho : Opn enc P W t f Q) (ht : P.underlying t = some (.struct fs)) {v : Value} {d : DataW H} {ps : List MemPlace}
  (hv : Value.okWide P W .any base t v) (h : DataW.Trod enc P W 0 (fun _ => true) true t v d ps) :
  ∃ x,(D.agg (f x)).pv.p W (sW W) v ∧ ∀ n,Rows.uptoBulk d ≤ n → Q x n := by
 obtain ⟨cs,rfl,hsz⟩ := okWide_struct ht hv;obtain ⟨l⟩ := cs;obtain ⟨fuel,hf⟩ := h;obtain ⟨x,h1,-,h3⟩ := ho fuel l d ps hsz hf;exact ⟨x,⟨l,rfl,h1⟩,h3⟩
end


open Go.ChangeShapes Go.WideShapes Go.ChangeAt Go.RowKit
theorem mF {H : Type} {enc : TypeId × Value → H} {P : Program} (hl : laidOutB P = true) {W W' : World} (hb : Below W.heap.size W W') :
  ∀ (ts : List TypeId) (vs : List Value) (ds : List (DataW H)) (ps : List MemPlace),(∀ t ∈ ts,P.readableRec t = true ∧ t < P.types.size) →
   DataW.TrodAll enc P W 0 (fun _ => true) true ts vs ds ps → DataW.TrodAll enc P W' 0 (fun b => decide (b < W.heap.size)) true ts vs ds ps
 | [],[],[],ps,_,h => h
 | t :: ts,v :: vs,d :: ds,ps,hr,h => by
  obtain ⟨p,q,hp,hq,e⟩ := h;have lt : ∀ x ∈ p,x.block < W.heap.size := by obtain ⟨m,hm⟩ := hp;exact DataW.trod_lt m _ _ _ hm
  have ht := hr t (by simp);exact ⟨p,q,Below.trod hl ht.1 ht.2 hp hb lt,mF hl hb ts vs ds q (fun x hx => hr x (by simp [hx])) hq,e⟩
 | [],[],_ :: _,_,_,h => by simp [DataW.TrodAll] at h
 | [],_ :: _,_,_,_,h => by simp [DataW.TrodAll] at h
 | _ :: _,[],_,_,_,h => by simp [DataW.TrodAll] at h
 | _ :: _,_ :: _,[],_,_,h => by simp [DataW.TrodAll] at h
open Go.ChangeShapes Go.WideShapes Go.ChangeAt Go.RowKit Go.Shelf
theorem Law_own : ownKnob Tryz.prog.godebug = none := by kernel_rfl
theorem accept_same : (Rows.laid_unicode_utf8_acceptRanges : DataW Unit) = Lib.acceptData := by kernel_rfl
theorem first_same : (Rows.laid_unicode_utf8_first : DataW Unit) = Lib.firstData := by kernel_rfl
theorem space_same : (Rows.laid_strings_asciiSpace : DataW Unit) = Lib.tabData .u8 Lib.asciiSpaceTab := by kernel_rfl
theorem Law_glob {W : World} (hL : laidMetH Tryz.prog Rows.compareEqualIsAnEquivalenceUptoRow.laid W) (hs : W.ShapedOpen Tryz.prog) : Glb W (sW W) := by
 have h3 : Lib.VarReads Tryz.prog W "unicode/utf8.first" Rows.laid_unicode_utf8_first := Lib.laidMet.reads hL (.tail _ (.tail _ (.tail _ (.head _))));have h4 : Lib.VarReads Tryz.prog W "unicode/utf8.acceptRanges" Rows.laid_unicode_utf8_acceptRanges := Lib.laidMet.reads hL (.head _);have h5 : Lib.VarReads Tryz.prog W "strings.asciiSpace" Rows.laid_strings_asciiSpace := Lib.laidMet.reads hL (.tail _ (.tail _ (.head _)));rw [first_same] at h3;rw [accept_same] at h4;rw [space_same] at h5;have hT : Lib.Utf8Tabs 1 2 W := utf8Tabs_of_readsT (U8Types.of196 Tryz.laysValid) ⟨by kernel_rfl,by kernel_rfl,by kernel_rfl,by kernel_rfl,by kernel_rfl,by kernel_rfl,by kernel_rfl⟩ h3 h4;have hS : Lib.TabIs Tryz.prog W "strings.asciiSpace" .u8 Lib.asciiSpaceTab := by
  obtain ⟨g,t,cs,fuel,p,hg,hty,hvar,hd⟩ := h5;obtain rfl := Option.some.inj ((show Tryz.prog.globalNamed "strings.asciiSpace" = some 0 by kernel_rfl).symm.trans hg);obtain rfl := Option.some.inj ((show (Tryz.prog.globals[0]?).map (·.type) = some 205 by kernel_rfl).symm.trans hty);have := Lib.cells_of_tab Tryz.underlying205 Tryz.underlying5 (by kernel_rfl) (by kernel_rfl) hd;unfold Lib.TabIs;rw [hvar,← this]
 have hM := Go.Proofs.cell_of_shapedOpen_int (g := 3) (t := 3) (zero := #[.int .i64 0]) hs (of_decide_eq_true (by kernel_rfl)) (by kernel_rfl) rfl (by kernel_rfl) (by kernel_rfl) Tryz.underlying3;refine ⟨fun b o => W.cell? ⟨b,o,none⟩,⟨hM,fun c hc => hT.1 c hc,fun i hi => hT.2 i hi,fun c hc => ?_⟩,fun b o v hv => ⟨hv,World.block_lt_of_cell? _ _ hv⟩,fun b o h => by cases h⟩;show W.cell? ⟨0,c,none⟩ = _;rw [hS.cell (by kernel_rfl) c (by rw [Lib.asciiSpaceTab_length];exact hc),Lib.asciiSpaceTab_at c hc]
noncomputable def Law_world (os : Os) : World :=
 let N := (World.settled Tryz.prog os).heap.size
 let w0 := World.holding Tryz.prog os ⟨#[.cells (Lib.whiteT.map fun (z : Nat) => Value.int .u16 (z : Int)).toArray 257,.cells #[.slice (some ⟨N,0,none⟩) 7 7,.slice none 0 0,.int .i64 2] 254],#[],[]⟩
 let put (h : Array Obj) (g : Nat) (cs : Array Value) : Array Obj := h.modify g fun
  | .cells _ t frozen => .cells cs t frozen
  | o => o
 let h1 := put w0.heap 0 (Lib.asciiSpaceTab.map fun z => Value.int .u8 z).toArray
 let h2 := put h1 1 (Lib.firstTab.map fun z => Value.int .u8 z).toArray
 let h3 := put h2 2 ((List.range 16).flatMap fun i => [Value.int .u8 (Lib.accLo i),Value.int .u8 (Lib.accHi i)]).toArray
 let h4 := put h3 4 #[.pointer (some ⟨N + 1,0,none⟩)]
 { w0 with heap := h4 }
def Law_arg : Array Value := #[.agg #[.slice none 0 0],.agg #[.int .i64 0,.bool false,.slice none 0 0,.bool false,.slice none 0 0,.string ⟨#[]⟩,.int .i64 0],.agg #[.int .i64 0,.bool false,.slice none 0 0,.bool false,.slice none 0 0,.string ⟨#[]⟩,.int .i64 0],.agg #[.int .i64 0,.bool false,.slice none 0 0,.bool false,.slice none 0 0,.string ⟨#[]⟩,.int .i64 0]]
theorem Law_met (os : Os) : laidMet Tryz.prog Rows.compareEqualIsAnEquivalenceUptoRow.laid ((Law_world os).forCall (fun _ _ => 0) ⟨#[],Law_arg,[]⟩).memory :=
 laidMet_of_run' 10 (by kernel_rfl) (by kernel_rfl)
theorem Law_row (os : Os) {H : Type} (enc : TypeId × Value → H) :
  (Rows.OpenSpec.upto Rows.compareEqualIsAnEquivalenceSpec).preRow enc Tryz.prog Tryz.f3 Rows.compareEqualIsAnEquivalenceUptoRow.domain false Rows.compareEqualIsAnEquivalenceUptoRow.laid ((Law_world os).forCall (fun _ _ => 0) ⟨#[],Law_arg,[]⟩).memory Law_arg := by
 have hw : (DataW.whole enc Tryz.prog ((Law_world os).forCall (fun _ _ => 0) ⟨#[],Law_arg,[]⟩).memory Tryz.f3.params.toList Rows.compareEqualIsAnEquivalenceSpec.vars false Law_arg.toList 8).map (fun x => (x.1,x.2.1)) =
   some ([.agg [.nil],.agg [.lit (.int .i64 0),.agg [.lit (.bool false),.nil],.agg [.lit (.bool false),.nil],.lit (.string []),.lit (.int .i64 0)],.agg [.lit (.int .i64 0),.agg [.lit (.bool false),.nil],.agg [.lit (.bool false),.nil],.lit (.string []),.lit (.int .i64 0)],.agg [.lit (.int .i64 0),.agg [.lit (.bool false),.nil],.agg [.lit (.bool false),.nil],.lit (.string []),.lit (.int .i64 0)]],[]) := by kernel_rfl
 obtain ⟨⟨x1,x2,x3⟩,hx,hx1⟩ := Option.map_eq_some_iff.1 hw;simp only [Prod.mk.injEq] at hx1;obtain ⟨rfl,rfl⟩ := hx1;exact OpenSpec.preRow_of_cond 8 hx (by kernel_rfl) (fun k hk => by cases hk;kernel_rfl) (by kernel_rfl) (Law_met os)
set_option maxRecDepth 100000 in
set_option maxHeartbeats 2000000 in
theorem Law_lifted (os : Os) (started : os.Started) (H : Type) (enc : TypeId × Value → H) (F : Stop.Interp) :
  ReturnsInHanded {} Tryz.checked os 3 .any ((Rows.OpenSpec.upto Rows.compareEqualIsAnEquivalenceSpec).preRow enc Tryz.prog Tryz.f3 Rows.compareEqualIsAnEquivalenceUptoRow.domain false Rows.compareEqualIsAnEquivalenceUptoRow.laid) (((Rows.OpenSpec.upto Rows.compareEqualIsAnEquivalenceSpec).at F).post enc Tryz.prog Tryz.f3 false true false false) := by
 refine returnsInHanded_of_row (C := Tryz.checked) (s := Rows.OpenSpec.upto Rows.compareEqualIsAnEquivalenceSpec) Law_own started (by kernel_rfl) Tryz.func3
  (witness_row_atRef (enc := enc) (C := Tryz.checked) false (Law_world os) Law_arg rfl (by kernel_rfl) (by kernel_rfl) (by kernel_rfl) (Law_row os enc)) ?_
 intro W base args ds gs before hval0 hW _ hk _ hL hS _;have hval : ∀ (j : Nat) t v,Tryz.f3.params[j]? = some t → args[j]? = some v → Value.okWide Tryz.prog W .any base t v := hval0;have hW' := hW;obtain ⟨p,q,hA0,hV,rfl,hfz,hnd⟩ := hW;have hA : DataW.TrodAll enc Tryz.prog W 0 (fun _ => true) true Tryz.f3.params.toList args.toList ds p := hA0;obtain ⟨rfl,rfl⟩ := trodVars_none hV;have hA1 := hA;rw [Tryz.params3] at hA hval;obtain ⟨v0,vs0,d0,ds0,p0,q0,hargs,rfl,rfl,h0,r0⟩ := trodAll_cons hA;obtain ⟨v1,vs1,d1,ds1,p1,q1,rfl,rfl,rfl,h1,r1⟩ := trodAll_cons r0;obtain ⟨v2,vs2,d2,ds2,p2,q2,rfl,rfl,rfl,h2,r2⟩ := trodAll_cons r1;obtain ⟨v3,vs3,d3,ds3,p3,q3,rfl,rfl,rfl,h3,r3⟩ := trodAll_cons r2;obtain ⟨rfl,rfl,rfl⟩ := trodAll_nil r3;obtain rfl : args = #[v0,v1,v2,v3] := by cases args;simp_all
 have hb : Rows.uptoBulkAll [d0,d1,d2,d3] ≤ 1048576 := by
  have := hk _ rfl;simpa [Rows.uptoSmall] using this
 simp only [Rows.uptoBulkAll] at hb;obtain ⟨x0,a0,i0⟩ := Opn.agg Opn.heap Tryz.underlying24 (hval 0 24 v0 rfl rfl) h0;obtain ⟨x1,a1,i1⟩ := Opn.agg Opn.val Tryz.underlying29 (hval 1 29 v1 rfl rfl) h1;obtain ⟨x2,a2,i2⟩ := Opn.agg Opn.val Tryz.underlying29 (hval 2 29 v2 rfl rfl) h2;obtain ⟨x3,a3,i3⟩ := Opn.agg Opn.val Tryz.underlying29 (hval 3 29 v3 rfl rfl) h3;have hG := Law_glob hL hS;refine ((Law28_ok x0 x1 x2 x3 (i0 1048576 (by omega) (Nat.le_refl _)) (i1 1048576 (by omega) (Nat.le_refl _)) (i2 1048576 (by omega) (Nat.le_refl _)) (i3 1048576 (by omega) (Nat.le_refl _))).2 W (sW W) [v0,v1,v2,v3] (fun _ _ h => h) hG ⟨a0,a1,a2,a3,trivial⟩).mono fun e W' hQ => ?_;obtain ⟨s',x,he,hp,hst⟩ := hQ;have hp : x = .bool true := hp;subst hp;subst he;have bel := hst.below;have hl : laidOutB Tryz.prog = true := by kernel_rfl
 have hread : Tryz.f3.params.toList.all (fun t => Tryz.prog.readableRec t && decide (t < Tryz.prog.types.size)) = true := by kernel_rfl
 refine ⟨_,rfl,[d0,d1,d2,d3],[],_,[],(p0 ++ (p1 ++ (p2 ++ (p3 ++ ([]))))),[],hW',?_,?_,?_,bel.frame _,fun h => by cases h⟩
 ·exact trodAll_mk1 (shut_bool Tryz.underlying4 _)
 ·exact mF hl bel _ _ _ _ (fun t ht => by have := List.all_eq_true.1 hread t ht;simpa using this) hA1
 ·rfl
theorem Law_fi : (Rows.compareEqualIsAnEquivalenceUptoRow.inPlace == Tryz.pinned.checked.prog.inPlace 3) = true := by kernel_rfl
theorem Law_fu : (Rows.compareEqualIsAnEquivalenceUptoRow.unfollowed == Tryz.pinned.checked.prog.unfollowed 3) = true := by kernel_rfl
theorem Law_fr : (Rows.compareEqualIsAnEquivalenceUptoRow.recurses == Tryz.pinned.checked.prog.recurses 3) = true := by kernel_rfl
theorem Law_fn : (Rows.compareEqualIsAnEquivalenceUptoRow.named == Tryz.pinned.checked.prog.varsNamed 3) = true := by kernel_rfl
theorem Law_facts : joinedFacts Tryz.pinned.checked.prog 3 Tryz.f3 (Rows.OpenSpec.upto Rows.compareEqualIsAnEquivalenceSpec).bare Rows.compareEqualIsAnEquivalenceUptoRow = true := by
 unfold joinedFacts;rw [Law_fi,Law_fu,Law_fr,Law_fn];kernel_rfl
theorem Law_inst : Tryz.f3.isInstance Tryz.pinned.checked.prog Rows.compareEqualIsAnEquivalenceUptoRow.origin Rows.compareEqualIsAnEquivalenceUptoRow.targs := of_decide_eq_true (by kernel_rfl)
theorem Law_wrap : Tryz.f3.isWrapper Tryz.pinned.checked.prog Rows.compareEqualIsAnEquivalenceUptoRow.wrapper Rows.compareEqualIsAnEquivalenceUptoRow.mainSum := by unfold Func.isWrapper;first | (rw [if_pos (by decide +kernel)];kernel_rfl) | (rw [if_neg (by decide +kernel)];exact ⟨rfl,rfl⟩)
theorem Law_named : Tryz.pinned.checked.prog.funcNamed Rows.compareEqualIsAnEquivalenceUptoRow.func = some 3 := by kernel_rfl
theorem Law_looks : true = Tryz.pinned.checked.prog.looks [] := by kernel_rfl
theorem Law_goes : false = Rows.compareEqualIsAnEquivalenceUptoRow.goesBy Tryz.pinned.checked.prog := by kernel_rfl
theorem Law_wf : Rows.compareEqualIsAnEquivalenceUptoRow.wfByText (Rows.OpenSpec.upto Rows.compareEqualIsAnEquivalenceSpec) = true := by kernel_rfl
theorem Law_main : Tryz.pinned.checked.prog.mainIs = some (Rows.compareEqualIsAnEquivalenceUptoCard.stood.harness.1,Rows.compareEqualIsAnEquivalenceUptoCard.stood.harness.2.toList) := by kernel_rfl
theorem Law_said : Rows.CompareEqualIsAnEquivalenceUptoSaid :=
 OpenClaim.holds_of_cond 3 Tryz.f3 rfl rfl rfl rfl rfl rfl rfl ⟨rfl,rfl,rfl,rfl,rfl⟩ rfl rfl rfl rfl rfl Law_named Tryz.func3 Law_facts Law_inst Law_wrap
  (fun os started H enc _ F => by rw [OpenClaim.pre_eq_preRow];exact Law_lifted os started H enc F)
theorem Law_plain (f : FuncId) (fn : Func) (hf : Tryz.pinned.checked.prog.funcNamed "brindlewood/brindlewoodlaw7.CompareEqualIsAnEquivalence" = some f) (hfn : Tryz.pinned.checked.prog.funcs[f]? = some fn) :
  true = Tryz.pinned.checked.prog.looks [] ∧ ∀ (j : Nat) t,fn.params[j]? = some t → Tryz.pinned.checked.prog.wantsStandIn t = false := by
 obtain rfl : f = 3 := Option.some.inj (Law_named.symm.trans hf) |>.symm;obtain rfl : fn = Tryz.f3 := (Option.some.inj (Tryz.func3.symm.trans hfn)).symm;refine ⟨Law_looks,fun j t ht => ?_⟩;rw [Tryz.params3] at ht;have hm := Array.mem_of_getElem? ht;simp only [List.mem_toArray,List.mem_cons,List.not_mem_nil,or_false] at hm;have wh : Tryz.prog.wantsStandIn 24 = false := by kernel_rfl
 have wv : Tryz.prog.wantsStandIn 29 = false := by kernel_rfl
 rcases hm with rfl | rfl | rfl | rfl
 ·exact wh
 ·exact wv
 ·exact wv
 ·exact wv
theorem Law_holds : Rows.CompareEqualIsAnEquivalenceUptoCardSaid :=
 Claim7.holds_tied_plain_at .later [] _ _ _ _ Law_said (fun _ h => by cases h) Law_wf (fun _ h => by cases h) compareEqualIsAnEquivalenceUpto_row_tie rfl ⟨rfl,rfl⟩ Law_main rfl Law_plain Law_goes
end Go.Proofs.YtinegkcbkefeiaaGreatDoor
