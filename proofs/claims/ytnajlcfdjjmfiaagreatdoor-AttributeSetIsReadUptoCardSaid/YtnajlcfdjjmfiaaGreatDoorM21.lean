/- Part 21 of the proof. -/
import Derived.Test.YtnajlcfdjjmfiaaGreatDoorM20
namespace Go.Proofs.YtnajlcfdjjmfiaaGreatDoor
open Go.RowKit
def wI : ByteArray := ⟨#[110,97,109,101]⟩
def ordB : ByteArray := ⟨#[111,114,100,101,114]⟩
def onR : ByteArray := ⟨#[111,110,95,114,101,97,100]⟩
def onW : ByteArray := ⟨#[111,110,95,119,114,105,116,101]⟩
def onM : ByteArray := ⟨#[111,110,95,109,105,115,115,105,110,103]⟩
def nhB : ByteArray := ⟨#[39,32,104,97,115,32,110,111,32,97,116,116,114,105,98,117,116,101,32,39]⟩
def qB : ByteArray := ⟨#[39]⟩
def cqB : ByteArray := ⟨#[99,108,97,115,115,32,39]⟩
def mqB : ByteArray := ⟨#[109,111,100,117,108,101,32,39]⟩
def atB : ByteArray := ⟨#[97,116,116,114,105,98,117,116,101,32,39]⟩
def cnrB : ByteArray := ⟨#[39,32,99,97,110,110,111,116,32,98,101,32,114,101,97,100]⟩
def suB : ByteArray := ⟨#[115,117,112,101,114,32,104,97,115,32,110,111,32,97,116,116,114,105,98,117,116,101,32,39]⟩
def dotB : ByteArray := ⟨#[46]⟩
theorem kbs (a : Array UInt8) : (⟨a⟩ : ByteArray).size = a.size := rfl
def mtO (f self : Vl) : Ob := ⟨8,ByteArray.empty,0,[],[],[],[f,self],[],0,0⟩
def tuO (l : List Vl) : Ob := ⟨1,ByteArray.empty,0,[],[],[],l,[],0,0⟩
def biV (s : ByteArray) : Vl := ⟨7,false,[],false,[],s,0⟩
def newS (h : List Ob) (o : Ob) : St × List Ob := (vlS (rfV (h.length : Nat)),h ++ [o])
def bdS (h : List Ob) (a v : Vl) (c : Int) (b : Bool) : St × List Ob :=
 if (b && uG h a) = true then newS h (mtO a v)
 else if (zJ h a).kind = 13 then (vlS ((zJ h a).items.getD 0 vl0),h)
 else if (zJ h a).kind = 14 then newS h (mtO ((zJ h a).items.getD 0 vl0) (rfV c))
 else if (spS h a onR).2.2 = true then (caS (spS h a onR).1 ((spS h a onR).2.1 ++ [if b = true then v else vl0,rfV c]),h)
 else (vlS a,h)
def whoS (h : List Ob) (v : Vl) : ByteArray := if (zJ h v).kind = 9 then cqB ++ (zJ h v).name else if (zJ h v).kind = 11 then mqB ++ (zJ h v).name else qB ++ (zW h (clA h v)).name
def lkS (h : List Ob) (v : Vl) (s : ByteArray) : St := raS 36 (whoS h v ++ nhB ++ s ++ qB)
def gtS (p : Ob) (v : Vl) (s : ByteArray) : St := if (p.items.getD 0 vl0).k = 0 then raS 36 (atB ++ s ++ cnrB) else caS (p.items.getD 0 vl0) [v]
def wiS (h : List Ob) (v : Vl) (s : ByteArray) (a : Vl) (ok : Bool) : St × List Ob :=
 if ok = true ∧ (zJ h a).kind = 12 then (gtS (zJ h a) v s,h)
 else if ok = true ∧ (spS h a onR).2.2 = true ∧ (spS h a onW).2.2 = true then bdS h a v (zJ h v).cls true
 else if jC (zJ h v) s = true then (vlS (jF (zJ h v) s),h)
 else if ok = true then bdS h a v (zJ h v).cls true
 else if (spS h v onM).2.2 = true then (caS (spS h v onM).1 ((spS h v onM).2.1 ++ [txV s]),h)
 else (lkS h v s,h)
def clsS (h : List Ob) (v : Vl) (s : ByteArray) : St × List Ob :=
 if s = wI then (vlS (txV (zJ h v).name),h)
 else if s = ordB then newS h (tuO ((zJ h v).order.map rfV))
 else if (fdO h (zJ h v).order s).isSome = true then bdS h (fdV h s (fdO h (zJ h v).order s)) vl0 v.r false
 else (lkS h v s,h)
def aftL (o : List Int) (c : Int) : List Int := o.drop (ixI o c + 1).toNat
def suC (h : List Ob) (o : Ob) : Int := if (zJ h (o.items.getD 1 vl0)).kind = 10 then (zJ h (o.items.getD 1 vl0)).cls else (o.items.getD 1 vl0).r
def suA (h : List Ob) (o : Ob) (s : ByteArray) : Option Int := fdO h (aftL (zW h (suC h o)).order (o.items.getD 0 vl0).r) s
def upS (h : List Ob) (o : Ob) (s : ByteArray) : St × List Ob :=
 if (suA h o s).isSome = false then (raS 36 (suB ++ s ++ qB),h)
 else if ¬ (zJ h (o.items.getD 1 vl0)).kind = 10 then bdS h (fdV h s (suA h o s)) (o.items.getD 1 vl0) (suC h o) false
 else if (zJ h (fdV h s (suA h o s))).kind = 12 then (gtS (zJ h (fdV h s (suA h o s))) (o.items.getD 1 vl0) s,h)
 else bdS h (fdV h s (suA h o s)) (o.items.getD 1 vl0) (suC h o) true
def biS (h : List Ob) (v : Vl) (s : ByteArray) : St × List Ob :=
 if s = wI ∧ (qX h v).2 = true then (vlS (txV (qX h v).1),h)
 else if hasB (mtL (clA h v)) s = true then newS h (mtO (biV ((zW h (clA h v)).name ++ dotB ++ s)) v)
 else (lkS h v s,h)
def jP (h : List Ob) (v : Vl) (s : ByteArray) : St × List Ob :=
 if (zJ h v).kind = 10 then wiS h v s (fdV h s (fdO h (zW h (zJ h v).cls).order s)) (fdO h (zW h (zJ h v).cls).order s).isSome
 else if (zJ h v).kind = 9 then clsS h v s
 else if (zJ h v).kind = 11 then (if jC (zJ h v) s = true then (vlS (jF (zJ h v) s),h) else (lkS h v s,h))
 else if (zJ h v).kind = 15 then upS h (zJ h v) s
 else biS h v s
def Gc (h : List Ob) (v : Vl) : Prop := VlC h.length v ∧ cV v ≤ 43000
theorem gc_0 (h : List Ob) : Gc h vl0 := ⟨vl0_C _,by show 60 ≤ 43000;omega⟩
theorem tJ0 {h : List Ob} {v : Vl} (hv : Gv h v) : Gc h v := ⟨hv.2,by
 have h1 := pA0 hv.1;have h2 := (jN0 hv.1).2.2;omega⟩
theorem gc_items {h : List Ob} (g : Uh h) (hh : HpIn h) {n : Int} (hn : inH h n) : ∀ x ∈ (zW h n).items,Gc h x := fun x hx => by
 have hC := uh_obC g hh (i := n.toNat) hn.2;rw [← uJ hn] at hC;refine ⟨hC.items x hx,?_⟩;by_cases h49 : n.toNat < 49
 ·rw [show zW h n = bgO n.toNat from g.lo_at h49] at hx
  cases hx
 ·have u := g.hi_at (by omega) hn.2;rw [← uJ hn] at u;have hok := (jM0 u.vals).ok x (List.mem_append.2 (.inr hx));have e := fix_lim (zW h n) x;have h1 := pA0 hok;have h2 := (jN0 hok).2.2;rw [e.1,e.2] at h1;rw [e.2] at h2;omega
theorem wY {h : List Ob} {l : List Vl} (hl : ∀ x ∈ l,Gc h x) (k : Nat) : Gc h (l.getD k vl0) := by
 rw [List.getD_eq_getElem?_getD]
 cases hq : l[k]? with
 | none => exact gc_0 h
 | some v => exact hl v (List.mem_of_getElem? hq)
theorem gc_obj {h : List Ob} (g : Uh h) (hh : HpIn h) (v : Vl) : ∀ x ∈ (zJ h v).items,Gc h x := fun x hx => by
 by_cases hk : v.k = 6 ∧ yD h v.r = true
 ·rw [show zJ h v = zW h v.r from if_pos hk] at hx;exact gc_items g hh (yB hk.2) x hx
 ·rw [show zJ h v = ob0 from if_neg hk] at hx
  cases hx
theorem pZ0 {h : List Ob} {o : Ob} (hl : ∀ x ∈ o.items,Gc h x) (s : ByteArray) : Gc h (jF o s) := by
 unfold jF;split
 ·exact gc_0 h
 ·exact wY hl _
theorem gc_fd {h : List Ob} (g : Uh h) (hh : HpIn h) {L : List Int} (hL : ∀ r ∈ L,inH h r) (s : ByteArray) : Gc h (fdV h s (fdO h L s)) := by
 cases hf : fdO h L s with
 | none => exact gc_0 h
 | some r => exact pZ0 (gc_items g hh (hL r (List.mem_of_find?_eq_some hf))) s
theorem qK0 {h : List Ob} {n : Int} (hn : inH h n) (hl : h.length ≤ 5000000) : Gc h (rfV n) := by
 obtain ⟨m,rfl⟩ : ∃ m : Nat,n = (m : Nat) := ⟨n.toNat,by have := hn.1;omega⟩;have h2 : m < h.length := by have := hn.2;simpa using this
 exact ⟨⟨⟨(by decide : (-9223372036854775808 : Int) ≤ 6),(by decide : (6 : Int) ≤ 9223372036854775807),(by show -9223372036854775808 ≤ (m : Int);omega),(by show (m : Int) ≤ 9223372036854775807;omega),(fun _ h => by cases h),(fun _ h => by cases h),(by decide : 0 ≤ 2000000),(by decide : 0 ≤ 2000000),(by decide : ByteArray.empty.size ≤ 2000000)⟩,fun _ => by show (m : Int) < h.length;omega⟩,by show 60 ≤ 43000;omega⟩
theorem cVs_gc {h : List Ob} {l : List Vl} (hl : ∀ x ∈ l,Gc h x) : cVs l ≤ 43000 * l.length + 1 := by
 induction l with
 | nil => exact Nat.le_refl _
 | cons v l ih =>
  have h1 := (hl v List.mem_cons_self).2;have h2 := ih fun x hx => hl x (List.mem_cons_of_mem _ hx);unfold cVs at h2 ⊢;rw [List.map_cons,List.sum_cons,List.length_cons,Nat.mul_succ];omega
section
variable {h : List Ob} (g : Uh h) (hh : HpIn h) (hp : (jN h).1 = 0)
include g hh hp
omit g hh hp in
theorem gY0 {k : Int} {l : List Vl} (hk : k = 8 ∨ k = 1) (hl : ∀ x ∈ l,Gc h x) (h9 : l.length ≤ 1000) : ObC (h.length + 1) ⟨k,ByteArray.empty,0,[],[],[],l,[],0,0⟩ ∧ cO ⟨k,ByteArray.empty,0,[],[],[],l,[],0,0⟩ ≤ 100000000 := by
 have hc := cVs_gc hl;refine ⟨⟨⟨by show _ ≤ k ∧ k ≤ _;omega,(by decide : (-9223372036854775808 : Int) ≤ 0 ∧ (0 : Int) ≤ 9223372036854775807),(by decide : (-9223372036854775808 : Int) ≤ 0 ∧ (0 : Int) ≤ 9223372036854775807),(by decide : (-9223372036854775808 : Int) ≤ 0 ∧ (0 : Int) ≤ 9223372036854775807),(by decide : ByteArray.empty.size ≤ 2000000),(by decide : 0 ≤ 2000000),(by decide : 0 ≤ 2000000),(by decide : 0 ≤ 2000000),(by show l.length ≤ 2000000;omega),(by decide : 0 ≤ 2000000),(fun _ h => by cases h),(fun v hv => (hl v hv).1.vin),(fun _ h => by cases h)⟩,fun h18 => by have h18 : k = 18 := h18;omega,fun h10 => by have h10 : k = 10 ∨ k = 7 := h10;omega,(fun _ h => by cases h),(fun _ h => by cases h),(fun _ h => by cases h),fun v hv => ⟨(hl v hv).1.vin,fun h6 => by have := (hl v hv).1.r h6;omega⟩⟩,?_⟩;have e : cO ⟨k,ByteArray.empty,0,[],[],[],l,[],0,0⟩ = 120 + 10 * 0 + 0 + 23 * 0 + 23 * 0 + 1 + cVs l := rfl;have : 43000 * l.length ≤ 43000 * 1000 := Nat.mul_le_mul_left _ h9;omega
end
theorem nm_sz {h : List Ob} (g : Uh h) {n : Int} (hn : inH h n) : (zW h n).name.size ≤ 700 := by
 by_cases h49 : n.toNat < 49
 ·rw [show zW h n = bgO n.toNat from g.lo_at h49];have h1 := (kZ0 h49).1;have h2 : cO (bgO n.toNat) = 120 + 10 * (bgO n.toNat).name.size + ((bgO n.toNat).names.map fun s => s.size + 1).sum + 23 * (bgO n.toNat).refs.length + 23 * (bgO n.toNat).order.length + cVs (bgO n.toNat).keys + cVs (bgO n.toNat).items := rfl;omega
 ·have u := g.hi_at (i := n.toNat) (by omega) hn.2;rw [← uJ hn] at u;have := name_size u.shape u.sizes;omega
theorem obj_sz {h : List Ob} (g : Uh h) (v : Vl) : (zJ h v).name.size ≤ 700 := by
 by_cases hk : v.k = 6 ∧ yD h v.r = true
 ·rw [show zJ h v = zW h v.r from if_pos hk];exact nm_sz g (yB hk.2)
 ·rw [show zJ h v = ob0 from if_neg hk];exact Nat.zero_le _
theorem su_links {h : List Ob} (g : Uh h) {v : Vl} (hk : (zJ h v).kind = 15) : (zJ h v).items.length = 2 ∧ inH h (suC h (zJ h v)) ∧ hasB (zW h (suC h (zJ h v))).order ((zJ h v).items.getD 0 vl0).r = true ∧ ((zJ h ((zJ h v).items.getD 1 vl0)).kind = 10 ∨ (zJ h ((zJ h v).items.getD 1 vl0)).kind = 9) := by
 obtain ⟨h6,ho,e⟩ := qA (h := h) (v := v) (by omega);have hin := yB ho;unfold suC;rw [e] at hk ⊢;by_cases h49 : v.r.toNat < 49
 ·rw [show zW h v.r = bgO v.r.toNat from g.lo_at h49] at hk;have h9 : (bgO v.r.toNat).kind = 9 := rfl;omega
 ·have u := g.hi_at (i := v.r.toNat) (by omega) hin.2;rw [← uJ hin] at u;have hs := (tF u.shape).1;rw [tP0 hk] at hs;have hl := u.links;rw [qY,if_neg (by omega),if_neg (by omega),if_neg (by omega),if_neg (by omega),if_neg (by omega),if_neg (by omega),if_pos hk] at hl;have e0 : itm (zW h v.r) 0 = (zW h v.r).items.getD 0 vl0 := rfl;have e1 : itm (zW h v.r) 1 = (zW h v.r).items.getD 1 vl0 := rfl;rw [e1] at hl;refine ⟨by omega,?_⟩;by_cases h10 : (zJ h ((zW h v.r).items.getD 1 vl0)).kind = 10
  ·rw [if_pos h10] at hl ⊢;simp only [supT,Bool.and_eq_true] at hl;exact ⟨yB hl.1.2,hl.2,.inl h10⟩
  ·rw [if_neg h10] at hl ⊢;by_cases h9 : (zJ h ((zW h v.r).items.getD 1 vl0)).kind = 9
   ·rw [if_pos h9] at hl;simp only [supT,Bool.and_eq_true] at hl;exact ⟨yB hl.1.2,hl.2,.inr h9⟩
   ·rw [if_neg h9] at hl
    cases hl
theorem aft_in {h : List Ob} (hh : HpIn h) (g : Uh h) {c : Int} (hc : inH h c) (n : Int) : Cok h (aftL (zW h c).order n) := by
 have hk := cok_of hh g hc;refine ⟨?_,fun r hr => hk.2 r (List.mem_of_mem_drop hr)⟩;have := hk.1;unfold aftL;rw [List.length_drop];omega
section
variable {h : List Ob} (g : Uh h) (hh : HpIn h) (hp : (jN h).1 = 0)
include g hh hp
end
variable {md me : Bool}
theorem obj_names {h : List Ob} (g : Uh h) (v : Vl) : (zJ h v).names.length ≤ (zJ h v).items.length := by
 by_cases h0 : (zJ h v).kind = 0
 ·by_cases hk : v.k = 6 ∧ yD h v.r = true
  ·rw [show zJ h v = zW h v.r from if_pos hk];exact nm_it g (yB hk.2)
  ·rw [show zJ h v = ob0 from if_neg hk];exact Nat.le_refl _
 ·have h1 := qA h0;rw [h1.2.2];exact nm_it g (yB h1.2.1)
def argN : ByteArray := ⟨#[97,114,103,115]⟩
def vX : ByteArray := ⟨#[99,97,117,115,101]⟩
def ctxN : ByteArray := ⟨#[99,111,110,116,101,120,116]⟩
def vS : ByteArray := ⟨#[116,114,97,99,101]⟩
def gW : ByteArray := ⟨#[109,101,109,98,101,114,115]⟩
def nwaB : ByteArray := ⟨#[39,32,104,97,115,32,110,111,32,119,114,105,116,97,98,108,101,32,97,116,116,114,105,98,117,116,101,115]⟩
def cnwB : ByteArray := ⟨#[39,32,99,97,110,110,111,116,32,98,101,32,119,114,105,116,116,101,110]⟩
def cndB : ByteArray := ⟨#[39,32,99,97,110,110,111,116,32,98,101,32,100,101,108,101,116,101,100]⟩
def onWr : ByteArray := ⟨#[111,110,95,119,114,105,116,101]⟩
def onEr : ByteArray := ⟨#[111,110,95,101,114,97,115,101]⟩
def wokS (h : List Ob) (v : Vl) : Bool := decide ((zJ h v).kind = 10) || decide ((zJ h v).kind = 11) || (decide ((zJ h v).kind = 9) && !decide (v.r < 49))
def fixS (h : List Ob) (v : Vl) (s : ByteArray) : Bool :=
 if (zJ h v).kind = 9 then decide (s = wI) || decide (s = ordB)
 else if (zJ h v).kind = 10 then (if s = argN ∨ s = vX ∨ s = ctxN ∨ s = vS then hasB (zW h (zJ h v).cls).order 28 else if s = gW then hasB (zW h (zJ h v).cls).order 48 else false)
 else false
def chO (h : List Ob) (v : Vl) (s : ByteArray) : Option Int := fdO h (zW h (zJ h v).cls).order s
def chV (h : List Ob) (v : Vl) (s : ByteArray) : Vl := fdV h s (chO h v s)
def chF (h : List Ob) (v : Vl) (s : ByteArray) (bar : ByteArray) (fin : St × List Ob) : St × List Ob := if fixS h v s = true then (raS 36 (atB ++ s ++ bar),h) else fin
def chS (h : List Ob) (v : Vl) (s : ByteArray) (k : Nat) (bar hook : ByteArray) (args : List Vl) (fin : St × List Ob) : St × List Ob :=
 if wokS h v = false then (raS 36 (qB ++ (zW h (clA h v)).name ++ nwaB),h)
 else if (zJ h v).kind = 10 ∧ (chO h v s).isSome = true ∧ (zJ h (chV h v s)).kind = 12 ∧ ((zJ h (chV h v s)).items.getD k vl0).k = 0 then (raS 36 (atB ++ s ++ bar),h)
 else if (zJ h v).kind = 10 ∧ (chO h v s).isSome = true ∧ (zJ h (chV h v s)).kind = 12 then (caS ((zJ h (chV h v s)).items.getD k vl0) args,h)
 else if (zJ h v).kind = 10 ∧ (chO h v s).isSome = true ∧ (spS h (chV h v s) hook).2.2 = true then (caS (spS h (chV h v s) hook).1 ((spS h (chV h v s) hook).2.1 ++ args),h)
 else chF h v s bar fin
def vC (o : Ob) : Ob := if o.kind = 9 then { o with state := o.state + 1 } else o
def jB (o : Ob) (s : ByteArray) (w : Vl) : Ob := if ixI o.names s < 0 then { o with names := o.names ++ [s],items := o.items ++ [w] } else { o with items := o.items.set (ixI o.names s).toNat w }
def cutO (o : Ob) (s : ByteArray) : Ob := { o with names := o.names.eraseIdx (ixI o.names s).toNat,items := o.items.eraseIdx (ixI o.names s).toNat }
def setF (h : List Ob) (v : Vl) (s : ByteArray) (w : Vl) : St × List Ob := if ixI (zJ h v).names s < 0 ∧ 200 ≤ (zJ h v).names.length then (raS 42 tooB,h) else (vlS vl0,h.set v.r.toNat (vC (jB (zJ h v) s w)))
def delF (h : List Ob) (v : Vl) (s : ByteArray) : St × List Ob := if ixI (zJ h v).names s < 0 then (lkS h v s,h) else (vlS vl0,h.set v.r.toNat (vC (cutO (zJ h v) s)))
def setS (h : List Ob) (v : Vl) (s : ByteArray) (w : Vl) : St × List Ob := chS h v s 1 cnwB onWr [v,w] (setF h v s w)
def delS (h : List Ob) (v : Vl) (s : ByteArray) : St × List Ob := chS h v s 2 cndB onEr [v] (delF h v s)
structure Wr (h : List Ob) (v : Vl) : Prop where
 k6 : v.k = 6
 ob : yD h v.r = true
 inr : inH h v.r
 eo : zJ h v = zW h v.r
 hi : 49 ≤ v.r.toNat
 nl : (zJ h v).names.length ≤ 200
 il : (zJ h v).items.length ≤ 1000
 ni : (zJ h v).names.length = (zJ h v).items.length
 st : 0 ≤ (zJ h v).state ∧ (zJ h v).state ≤ 1099511627776
theorem wr_of {h : List Ob} (g : Uh h) {v : Vl} (hw : wokS h v = true) : Wr h v := by
 unfold wokS at hw;simp only [Bool.or_eq_true,Bool.and_eq_true,decide_eq_true_eq,Bool.not_eq_true',decide_eq_false_iff_not] at hw;obtain ⟨h6,ho,e⟩ := qA (h := h) (v := v) (by omega);have hin := yB ho;have h49 : ¬ v.r.toNat < 49 := fun hl => by
  have hb : (zJ h v).kind = 9 := by rw [e,show zW h v.r = bgO v.r.toNat from g.lo_at hl];rfl
  have hin1 := hin.1;omega
 have u := g.hi_at (i := v.r.toNat) (by omega) hin.2;rw [← uJ hin] at u;have hz := sizes_le u.sizes;have hs := tF u.shape;rw [e] at hw;refine ⟨h6,ho,hin,e,by omega,by rw [e];exact hz.1,by rw [e];exact hz.2.1,?_,?_⟩
 ·have h1 := hs.1;unfold cntS at h1;rw [e];rcases hw with (hk | hk) | hk
  ·rw [hk,if_neg (by decide +kernel),if_neg (by decide +kernel),if_pos (by decide +kernel)] at h1;omega
  ·rw [hk,if_neg (by decide +kernel),if_neg (by decide +kernel),if_pos (by decide +kernel)] at h1;omega
  ·rw [hk.1,if_neg (by decide +kernel),if_neg (by decide +kernel),if_pos (by decide +kernel)] at h1;omega
 ·rw [e];refine ⟨hs.2.2.1,Int.le_trans hs.2.2.2.1 ?_⟩;unfold xP;repeat' split
  all_goals first | decide | omega
variable {md me : Bool}
theorem yW (v : Vl) : Fn Tryz.prog 28 [.agg (vlD v)] (.agg (stD (vlS v))) := by
 refine yQ zP Tryz.func28 rfl rfl rfl rfl rfl rfl ?_;intro w0 s0 mx;refine zN 100 ?_;refine zN 200 ?_;refine zL ?_;exact FinV.ret rfl (SubP.agg (by repeat (first | exact trivial | exact SubP.refl _ | exact SubP.nilSl rfl | refine ⟨?_,?_⟩)))
theorem cF (c : Int) (s : ByteArray) : Fn Tryz.prog 39 [.v (.int .i64 c),.v (.string s)] (.agg (stD (raS c s))) := by
 refine yQ zP Tryz.func39 rfl rfl rfl rfl rfl rfl ?_;intro w0 s0 mx;refine zN 100 ?_;refine zN 200 ?_;refine zL ?_;exact FinV.ret rfl (SubP.agg (by repeat (first | exact trivial | exact SubP.refl _ | exact SubP.nilSl rfl | refine ⟨?_,?_⟩)))
theorem yX (s : ByteArray) : Fn Tryz.prog 29 [.v (.string s)] (.agg (stD (raS 36 s))) := by
 refine yQ zP Tryz.func29 rfl rfl rfl rfl rfl rfl ?_;intro w0 s0 mx;refine zN 100 ?_;refine zB (zE zP [] 200 rfl ?_);refine zF ?_;refine zQ _ (cF _ _) rfl ?_;refine zF ?_;refine zC (zA (zL ?_));exact FinV.ret rfl (SubP.refl _)
theorem xY (f : Vl) (l : List Vl) : Fn Tryz.prog 35 [.agg (vlD f),vsD l] (.agg (stD (caS f l))) := by
 refine yQ zP Tryz.func35 rfl rfl rfl rfl rfl rfl ?_;intro w0 s0 mx;refine zN 100 ?_;refine zN 200 ?_;refine zL ?_;exact FinV.ret rfl (SubP.agg (by repeat (first | exact trivial | exact SubP.refl _ | exact SubP.nilSl rfl | refine ⟨?_,?_⟩)))
theorem atSpecial_ok (h : List Ob) (v : Vl) (s : ByteArray) (l : List Vl) (hh : HpIn h) (g : Uh h) (hv : v.k = 6 → yD h v.r = true) (hl : l.length ≤ 1000000) : Fn Tryz.prog 36 [hpD md h,.agg (vlD v),.v (.string s),vsD l] (.tup [.agg (stD (caS (spS h v s).1 ((spS h v s).2.1 ++ l))),.v (.bool (spS h v s).2.2)]) := by
 refine yQ zP Tryz.func36 rfl rfl rfl rfl rfl rfl ?_;intro w0 s0 mx;refine zN 100 ?_;refine zB (zE zP [] 200 rfl ?_);refine zF ?_;refine zQ _ (Special_ok _ _ _ (by first | assumption | omega | (simp_all;done)) (by first | assumption | omega | (simp_all;done)) (by first | assumption | omega | (simp_all;done))) rfl ?_;refine zF ?_;refine zC (zA ?_);refine zB (zT zP [25] mK19 300 yP (by kernel_rfl) rfl ?_);refine zF ?_;refine jH _ _ _ ((cH [(spS h v s).2.1,l] (by have := bW0 h v s;rw [dH0,List.length_append];omega) (by show 2 ≤ 1000;omega)).args ⟨SubP.slrSl rfl,trivial⟩) ?_;refine zF ?_;refine zQ _ ((xY _ ((spS h v s).2.1 ++ l)).args ⟨SubP.refl _,SubP.ownSl (by simp [ctL]),trivial⟩) rfl ?_;refine zF ?_;refine zC (zA (zL ?_));exact FinV.ret rfl (SubP.refl _)
def vqD (k : Vl) : D := .pt true (vlD k)
def fxI (p : ByteArray → Bool) : List ByteArray → Int
 | [] => -1
 | x :: l => if p x = true then 0 else if fxI p l < 0 then -1 else fxI p l + 1
theorem kE0 {p : ByteArray → Bool} : ∀ {l : List ByteArray},(∀ x ∈ l,p x = false) → fxI p l = -1
 | [],_ => rfl
 | x :: l,h => by
  rw [fxI,if_neg (by rw [h x List.mem_cons_self];decide),kE0 fun y hy => h y (List.mem_cons_of_mem _ hy),if_pos (by decide)]
theorem tK0 {p : ByteArray → Bool} : ∀ {l : List ByteArray} {k : Nat},(∀ j x,j < k → l[j]? = some x → (!p x) = true) → ∀ {y : ByteArray},l[k]? = some y → p y = true → fxI p l = k
 | [],_,_,_,h,_ => by simp at h
 | x :: l,0,_,y,h,hp => by
  simp at h;subst h;rw [fxI,if_pos hp];rfl
 | x :: l,k + 1,hn,y,h,hp => by
  have h0 := hn 0 x (by omega) rfl;have := tK0 (l := l) (k := k) (fun j z hj hz => hn (j + 1) z (by omega) (by simpa using hz)) (by simpa using h) hp;rw [fxI,if_neg (by intro e;rw [e] at h0;cases h0),this,if_neg (by omega)]
  push_cast;rfl
theorem dB0 (p : ByteArray → Bool) : ∀ l : List ByteArray,decide (0 ≤ fxI p l) = l.any p
 | [] => rfl
 | x :: l => by
  have ih := dB0 p l;rw [fxI,List.any_cons,← ih]
  cases hp : p x with
  | true => rw [if_pos rfl];rfl
  | false =>
   rw [if_neg (by decide),Bool.false_or];split
   ·rename_i h;rw [decide_eq_false (by omega),decide_eq_false (by omega)]
   ·rename_i h;rw [decide_eq_true (by omega),decide_eq_true (by omega)]
theorem mD0 {α : Type} (p : α → Bool) (l : List α) : (!(l.any fun x => !p x)) = l.all p := by
 induction l with
 | nil => rfl
 | cons x l ih => rw [List.any_cons,List.all_cons,← ih];cases p x <;> simp
theorem IndexFuncS_ok (h : List Ob) (v : Vl) (l : List ByteArray) (p : ByteArray → Bool) (f : FuncId) (H : ∀ x ∈ l,Fn Tryz.prog f [.v (.string x),cpD md h,vqD v] (.v (.bool (p x)))) : Fn Tryz.prog 133 [.sl me 1 l sD ByteArray.empty,.clo f [cpD md h,vqD v]] (.v (.int .i64 (fxI p l))) := by
 refine yQ zP Tryz.func133 rfl rfl rfl rfl rfl rfl ?_;intro w0 s0 mx;refine xS 0 rfl fun hl0 => ?_;refine zN 100 ?_;refine zB (zN 200 ?_);refine zU ?_;refine yH (ι := Al l (fun x => !p x)) [0,1,7] [] 250 (fun x => [(8,.v (.int .i64 x.k))]) (fun _ => []) (fun x => l.length - x.k) ⟨0,Nat.zero_le _,fun j x hj => by omega⟩ ?_;refine ⟨⟨yR,yM,rfl,rfl⟩,fun x => ?_⟩;have hk := x.le;refine zN 300 ?_;refine zB (zS rfl (fun c2 => ?_) (fun c2 => ?_))
 ·have c2 : x.k < l.length := by simpa using c2
  refine zO (zA (zB (zU (zN 400 ?_))));refine zB (zE zP [] 500 rfl ?_);refine zF ?_;refine zQ _ (H _ (by rw [gS c2];exact List.getElem_mem _)) rfl ?_;refine zF ?_;refine zC (zA (zS rfl (fun c4 => ?_) (fun c4 => ?_)))
  ·
   refine zN 600 ?_;refine zL (zM (zK (yT (zM (zK ?_)))));exact FinV.ret rfl (SubP.int (tK0 x.all (qI0 c2 ByteArray.empty) c4).symm)
  ·
   refine zO (zR (zA (qC zP [] 700 ?_)));exact zX (x.next (e := ByteArray.empty) c2 (by rw [c4];rfl)) ⟨yR,yM,rfl,rfl⟩ (by show l.length - (x.k + 1) < l.length - x.k;omega)
 ·have c2 : ¬ x.k < l.length := by simpa using c2
  refine yO (yF (yG (yC (zA (zN 800 ?_)))));refine zL ?_;exact FinV.ret rfl (SubP.int (kE0 (fun y hy => by
    have := List.all_eq_true.1 (x.yes c2) y hy;simpa using this)).symm)
theorem xH (h : List Ob) (v : Vl) (l : List ByteArray) (p : ByteArray → Bool) (f : FuncId) (H : ∀ x ∈ l,Fn Tryz.prog f [.v (.string x),cpD md h,vqD v] (.v (.bool (p x)))) : Fn Tryz.prog 120 [.sl me 1 l sD ByteArray.empty,.clo f [cpD md h,vqD v]] (.v (.bool (l.any p))) := by
 refine yQ zP Tryz.func120 rfl rfl rfl rfl rfl rfl ?_;intro w0 s0 mx;refine zN 100 ?_;refine zB (zE zP [] 200 rfl ?_);refine zF ?_;refine zQ _ (IndexFuncS_ok h v l p f H) rfl ?_;refine zF ?_;refine zC (zA (zL ?_));exact FinV.ret rfl (SubP.bool (dB0 p l))
theorem hasC_ok (h : List Ob) (v : Vl) (s : ByteArray) (hh : HpIn h) (g : Uh h) (hv : v.k = 6 → yD h v.r = true) : Fn Tryz.prog 121 [.v (.string s),cpD md h,vqD v] (.v (.bool (!(spS h v s).2.2))) := by
 refine yQ zP Tryz.func121 rfl rfl rfl rfl rfl rfl ?_;intro w0 s0 mx;refine zN 100 ?_;refine zB (zE zP [] 200 rfl ?_);refine zF ?_;refine zQ _ (Special_ok h v s hh g hv) rfl ?_;refine zF ?_;refine zC (zA (zN 300 ?_));refine zL ?_;exact FinV.ret rfl (SubP.refl _)
theorem has_ok (h : List Ob) (v : Vl) (l : List ByteArray) (hh : HpIn h) (g : Uh h) (hv : v.k = 6 → yD h v.r = true) : Fn Tryz.prog 97 [hpD md h,.agg (vlD v),.sl me 1 l sD ByteArray.empty] (.v (.bool (l.all fun s => (spS h v s).2.2))) := by
 refine yQ zP Tryz.func97 rfl rfl rfl rfl rfl rfl ?_;intro w0 s0 mx;refine zN 100 ?_;refine zB (zE zP [] 200 rfl ?_);refine zF ?_;refine yI _ (xH h v l (fun s => !(spS h v s).2.2) 121 fun x _ => hasC_ok h v x hh g hv) rfl rfl ?_;refine zF ?_;refine zC (zA (zL ?_));exact FinV.ret rfl (SubP.bool (mD0 _ _))
theorem mt_in {f w : Vl} (hf : VlIn f) (hw : VlIn w) : ObIn (mtO f w) :=
 ⟨(by decide : (-9223372036854775808 : Int) ≤ 8 ∧ (8 : Int) ≤ 9223372036854775807),(by decide : (-9223372036854775808 : Int) ≤ 0 ∧ (0 : Int) ≤ 9223372036854775807),(by decide : (-9223372036854775808 : Int) ≤ 0 ∧ (0 : Int) ≤ 9223372036854775807),(by decide : (-9223372036854775808 : Int) ≤ 0 ∧ (0 : Int) ≤ 9223372036854775807),(by decide : ByteArray.empty.size ≤ 2000000),(by decide : 0 ≤ 2000000),(by decide : 0 ≤ 2000000),(by decide : 0 ≤ 2000000),(by show 2 ≤ 2000000;decide),(by decide : 0 ≤ 2000000),(fun _ h => by cases h),(fun v hv => by
  have hv : v ∈ [f,w] := hv;simp only [List.mem_cons,List.not_mem_nil,or_false] at hv;rcases hv with rfl | rfl
  ·exact hf
  ·exact hw),(fun _ h => by cases h)⟩
theorem xV : qB.size = 1 ∧ nhB.size = 20 ∧ cqB.size = 7 ∧ mqB.size = 8 ∧ atB.size = 11 ∧ cnrB.size = 16 ∧ suB.size = 24 ∧ dotB.size = 1 := by decide
theorem xD0 {P : Program} {K : DS → Prop} {p : Prop} {r : Out} (hr : r.sat P K) (hp : p := by first | exact ⟨by decide,hp⟩ | exact ⟨rfl,hp⟩ | (simp only [ByteArray.size_append,kbs,List.size_toArray,List.length_cons,List.length_nil];omega) | (show _ ≤ 9223372036854775807;simp only [ByteArray.size_append,atB,cnrB] at *;omega) | first | exact trivial | omega | exact ini (by omega) (by omega) | (intro hh;simp at hh;exact ini (by omega) (by omega)) | (intro hh;simp at hh ⊢;omega) | (simp at *;omega) | (simp_all;done)) : (Out.need p r).sat P K := ⟨hp,hr⟩
theorem kZ (p : Ob) (v : Vl) (s : ByteArray) (hp : 0 < p.items.length) (hs : s.size ≤ 2000000) : Fn Tryz.prog 65 [.agg (obD p),.agg (vlD v),.v (.string s)] (.agg (stD (gtS p v s))) := by
 have hz := xV;refine yQ zP Tryz.func65 rfl rfl rfl rfl rfl rfl ?_;intro w0 s0 mx;refine zB (zE zP [] 100 rfl ?_);repeat (first | refine zG ?_ | refine zH ?_ | refine xD0 ?_)
 refine zC (zA (zB ?_));refine zB (zE zP [] 200 rfl ?_);repeat (first | refine zG ?_ | refine zH ?_ | refine xD0 ?_)
 refine zC (zA (zS rfl (fun c1 => ?_) (fun c1 => ?_)))
 ·have c1w : (p.items.getD 0 vl0).k = 0 := by simpa using c1
  refine zB (zE zP [] 300 rfl ?_);repeat (first | refine zG ?_ | refine zH ?_ | refine xD0 ?_)
  refine zQ _ (yX _) rfl ?_;repeat (first | refine zG ?_ | refine zH ?_ | refine xD0 ?_)
  refine zC (zA (zL (zK ?_)));rw [show gtS p v s = _ from if_pos c1w];exact FinV.ret rfl (SubP.refl _)
 ·have c1w : ¬ (p.items.getD 0 vl0).k = 0 := by simpa using c1
  refine zO (zA ?_);refine zB (zT zP [] [[],[0],[0,1],[0,1,2],[],[4],(rgN 6),(rgN 7)] 400 yP (by kernel_rfl) rfl ?_);repeat (first | refine zG ?_ | refine zH ?_ | refine xD0 ?_)
  refine zQ _ ((xY _ [v]).args ⟨SubP.refl _,SubP.slrSl rfl,trivial⟩) rfl ?_;repeat (first | refine zG ?_ | refine zH ?_ | refine xD0 ?_)
  refine zC (zA (zL ?_));rw [show gtS p v s = _ from if_neg c1w];exact FinV.ret rfl (SubP.refl _)
theorem tE {P : Program} {K : DS → Prop} {p : Prop} {r : Out} (hr : r.sat P K) (hp : p := by first | (simp only [ByteArray.size_append,kbs,List.size_toArray,List.length_cons,List.length_nil];omega) | first | exact trivial | omega | exact ini (by omega) (by omega) | (intro hh;simp at hh;exact ini (by omega) (by omega)) | (intro hh;simp at hh ⊢;omega) | (simp at *;omega) | (simp_all;done)) : (Out.need p r).sat P K := ⟨hp,hr⟩
theorem atLacks_ok (h : List Ob) (v : Vl) (s : ByteArray) (g : Uh h) (c : Cf h v) (hs : s.size ≤ 2000000) (h9 : ¬ (zJ h v).kind = 9) (h11 : ¬ (zJ h v).kind = 11) : Fn Tryz.prog 43 [hpD md h,.agg (vlD v),.v (.string s)] (.agg (stD (lkS h v s))) := by
 have hz := xV;have hnz := nm_sz g (clA_in g c);refine yQ zP Tryz.func43 rfl rfl rfl rfl rfl rfl ?_;intro w0 s0 mx;refine zB (zE zP [] 100 rfl ?_);repeat (first | refine zG ?_ | refine zH ?_ | refine tE ?_)
 refine zC (zA ?_);refine zB (zE zP [] 200 rfl ?_);repeat (first | refine zG ?_ | refine zH ?_ | refine tE ?_)
 refine zQ _ (heapName_ok h v g c) rfl ?_;repeat (first | refine zG ?_ | refine zH ?_ | refine tE ?_)
 refine zQ _ (yX _) rfl ?_;repeat (first | refine zG ?_ | refine zH ?_ | refine tE ?_)
 refine zC (zA (zL ?_));rw [show lkS h v s = raS 36 (qB ++ (zW h (clA h v)).name ++ nhB ++ s ++ qB) by unfold lkS whoS;rw [if_neg h9,if_neg h11]];exact FinV.ret rfl (SubP.refl _)
theorem vB {T : List (Nat × TI)} {rs : List ResultVar} {n0 : Nat} {out d : D} {own' : List DOwn} {S : DS} (hk : Nat.ble n0 2 = true := by rfl) (h : finH T S rs = some d := by rfl) (hs : Sub d (out.ren (qF (iota n0) 2)) := by exact Sub.ofP (SubP.agg (SubPs.refl _)) rfl rfl) (ho : kQ (iota n0) 2 S.ow 0 own' := by exact ⟨⟨rfl,Sub.mo rfl,rfl,trivial⟩,SubO.mp rfl,trivial⟩) : FinH T rs n0 out own' .ret S := FinH.ret 2 hk h hs ho
theorem jS (h : List Ob) (f w : Vl) (hh : h.length ≤ 3000000) (hf : VlIn f) (hw : VlIn w) : FnG Tryz.prog 70 [.bp 0 0,.agg (vlD f),.agg (vlD w)] (hpO h) (.agg (stD (newS h (mtO f w)).1)) (hpO (newS h (mtO f w)).2) := by
 refine jJ zP Tryz.func70 rfl rfl rfl rfl rfl rfl rfl ?_;intro w0 s0 mx;refine zN 100 ?_;refine zB (zE zP [1012] 200 rfl ?_);refine zF ?_;refine yS _ _ ((bE h (mtO f w) (by omega) (mt_in hf hw)).args ⟨Sub.refl _,Sub.ofP (SubP.agg ⟨SubP.refl _,SubP.refl _,SubP.refl _,SubP.nilSl rfl,SubP.nilSl rfl,SubP.nilSl rfl,SubP.slrSl rfl,SubP.nilSl rfl,SubP.refl _,SubP.refl _,trivial⟩) rfl rfl,trivial⟩) rfl ?_;refine zF ?_;refine zQ _ (qI _) rfl ?_;refine zF ?_;refine zQ _ (yW _) rfl ?_;refine zF ?_;refine zC (zA (zL ?_));exact vB
variable {md me : Bool}
theorem tF0 {P : Program} {K : DS → Prop} {p : Prop} {r : Out} (hr : r.sat P K) (hp : p := by first | exact ⟨by decide,obj_item g (.inl c4)⟩ | exact ⟨rfl,obj_item g (.inl c4)⟩ | first | exact trivial | omega | exact ini (by omega) (by omega) | (intro hh;simp at hh;exact ini (by omega) (by omega)) | (intro hh;simp at hh ⊢;omega) | (simp at *;omega) | (simp_all;done)) : (Out.need p r).sat P K := ⟨hp,hr⟩
theorem dZ0 {P : Program} {K : DS → Prop} {p : Prop} {r : Out} (hr : r.sat P K) (hp : p := by first | exact ⟨by decide,obj_item g (.inr c6)⟩ | exact ⟨rfl,obj_item g (.inr c6)⟩ | first | exact trivial | omega | exact ini (by omega) (by omega) | (intro hh;simp at hh;exact ini (by omega) (by omega)) | (intro hh;simp at hh ⊢;omega) | (simp at *;omega) | (simp_all;done)) : (Out.need p r).sat P K := ⟨hp,hr⟩
theorem bound_G (h : List Ob) (a v : Vl) (c : Int) (hh : HpIn h) (g : Uh h) (ha : a.k = 6 → yD h a.r = true) (hia : VlIn a) (hiv : VlIn v) (hc : inH h c) : FnG Tryz.prog 66 [.bp 0 0,.agg (vlD a),.agg (vlD v),.v (.int .i64 c)] (hpO h) (.agg (stD (bdS h a v c true).1)) (hpO (bdS h a v c true).2) := by
 have hg5 := g.hi;obtain ⟨R,hR⟩ : ∃ R,R = bdS h a v c true := ⟨_,rfl⟩;rw [← hR];refine jJ zP Tryz.func66 rfl rfl rfl rfl rfl rfl rfl ?_;intro w0 s0 mx;refine zN 100 ?_;refine zB ?_;refine zB (zT zP [] mK1 200 yP (by kernel_rfl) rfl ?_);refine zF ?_;refine yI _ (yJ h a ha) rfl rfl ?_;refine zF ?_;refine zC (zA (zU ?_));refine yN [0,3,5,6,8,9] [0,1,2,3,4,105] 210 [] [(105,.box 36 (obD (zJ h a)))] ?_;refine ⟨⟨yR,⟨⟨rfl,SubL.same rfl⟩,yM⟩,rfl,rfl⟩,?_⟩;refine zB (zT zP [] mK3 300 yP (by kernel_rfl) rfl ?_);refine zF ?_;refine yI _ (uX h a ha) rfl rfl ?_;refine zF ?_;refine zC (zA (zS rfl (fun c2 => ?_) (fun c2 => ?_)))
 ·have c2 : uG h a = true := by simpa using c2
  refine zB (zE zP [1026] 400 rfl ?_);refine zF ?_;refine yS _ _ (jS h a v (by omega) hia hiv) rfl ?_;refine zF ?_;refine zC (zA (zL (zM (zK ?_))));have hn : R = newS h (mtO a v) := by
   rw [hR];unfold bdS;rw [if_pos (by rw [c2];rfl)]
  subst hn;exact vB
 ·have c2 : uG h a = false := by simpa using c2
  refine zN 500 ?_;refine zZ (fun c4 => ?_) (fun c4 => ?_)
  ·
   refine zB (zE zP [] 600 rfl ?_);repeat (first | refine zG ?_ | refine zH ?_ | refine tF0 ?_)
   refine zQ _ (yW _) rfl ?_;repeat (first | refine zG ?_ | refine zH ?_ | refine tF0 ?_)
   refine zC (zA (zL (zM (zK ?_))));have hn : R = (vlS ((zJ h a).items.getD 0 vl0),h) := by
    rw [hR];unfold bdS;rw [if_neg (by rw [c2];decide),if_pos c4]
   subst hn;exact vB
  ·
   refine zN 700 ?_;refine zZ (fun c6 => ?_) (fun c6 => ?_)
   ·
    refine zB (zT zP [1047] mK5 800 yP (by kernel_rfl) rfl ?_);repeat (first | refine zG ?_ | refine zH ?_ | refine dZ0 ?_)
    refine zQ _ (qI _) rfl ?_;repeat (first | refine zG ?_ | refine zH ?_ | refine dZ0 ?_)
    refine yS _ _ (jS h ((zJ h a).items.getD 0 vl0) (rfV c) (by omega) (wY (gc_obj g hh a) 0).1.vin (qK0 hc (by omega)).1.vin) rfl ?_;repeat (first | refine zG ?_ | refine zH ?_ | refine dZ0 ?_)
    refine zC (zA (zL (zM (zK ?_))));have hn : R = newS h (mtO ((zJ h a).items.getD 0 vl0) (rfV c)) := by
     rw [hR];unfold bdS;rw [if_neg (by rw [c2];decide),if_neg c4,if_pos c6]
    subst hn;exact vB
   ·
    refine zB (zT zP [] mK2 900 yP (by kernel_rfl) rfl ?_);refine zF ?_;refine yI _ ((has_ok h a [onR] hh g ha).args ⟨SubP.refl _,SubP.refl _,SubP.slrSl (m := false) rfl,trivial⟩) rfl rfl ?_;refine zF ?_;refine zC (zA (zS rfl (fun c8 => ?_) (fun c8 => ?_)))
    ·have c8w : (spS h a onR).2.2 = true := by simpa using c8
     refine zB (zT zP [] mK6 1000 yP (by kernel_rfl) rfl ?_);refine zF ?_;refine zQ _ (qI _) rfl ?_;refine zF ?_;refine yI _ ((atSpecial_ok h a onR [v,rfV c] hh g ha (by show 2 ≤ 1000000;decide)).args ⟨SubP.refl _,SubP.refl _,SubP.refl _,SubP.slrSl (m := false) rfl,trivial⟩) rfl rfl ?_;refine zF ?_;refine zC (zA (zN 1100 ?_));refine zL (zM (zK ?_));have hn : R = (caS (spS h a onR).1 ((spS h a onR).2.1 ++ [v,rfV c]),h) := by
      rw [hR];unfold bdS;rw [if_neg (by rw [c2];decide),if_neg c4,if_neg c6,if_pos c8w];rfl
     subst hn;exact vB
    ·have c8w : (spS h a onR).2.2 = false := by simpa using c8
     refine zO (zR (zA ?_));refine zB (zE zP [] 1200 rfl ?_);refine zF ?_;refine zQ _ (yW _) rfl ?_;refine zF ?_;refine zC (zA (zL ?_));have hn : R = (vlS a,h) := by
      rw [hR];unfold bdS;rw [if_neg (by rw [c2];decide),if_neg c4,if_neg c6,if_neg (by rw [c8w];decide)]
     subst hn;exact vB
theorem tE0 {P : Program} {K : DS → Prop} {p : Prop} {r : Out} (hr : r.sat P K) (hp : p := by first | exact ⟨by decide,obj_item g (.inl c2)⟩ | exact ⟨rfl,obj_item g (.inl c2)⟩ | first | exact trivial | omega | exact ini (by omega) (by omega) | (intro hh;simp at hh;exact ini (by omega) (by omega)) | (intro hh;simp at hh ⊢;omega) | (simp at *;omega) | (simp_all;done)) : (Out.need p r).sat P K := ⟨hp,hr⟩
theorem dY0 {P : Program} {K : DS → Prop} {p : Prop} {r : Out} (hr : r.sat P K) (hp : p := by first | exact ⟨by decide,obj_item g (.inr c4)⟩ | exact ⟨rfl,obj_item g (.inr c4)⟩ | first | exact trivial | omega | exact ini (by omega) (by omega) | (intro hh;simp at hh;exact ini (by omega) (by omega)) | (intro hh;simp at hh ⊢;omega) | (simp at *;omega) | (simp_all;done)) : (Out.need p r).sat P K := ⟨hp,hr⟩
theorem ofClass_G (h : List Ob) (a : Vl) (c : Int) (hh : HpIn h) (g : Uh h) (ha : a.k = 6 → yD h a.r = true) (hia : VlIn a) (hc : inH h c) : FnG Tryz.prog 62 [.bp 0 0,.agg (vlD a),.v (.int .i64 c)] (hpO h) (.agg (stD (bdS h a vl0 c false).1)) (hpO (bdS h a vl0 c false).2) := by
 have hg5 := g.hi;obtain ⟨R,hR⟩ : ∃ R,R = bdS h a vl0 c false := ⟨_,rfl⟩;rw [← hR];refine jJ zP Tryz.func62 rfl rfl rfl rfl rfl rfl rfl ?_;intro w0 s0 mx;refine zN 100 ?_;refine zB ?_;refine zB (zT zP [] mK1 200 yP (by kernel_rfl) rfl ?_);refine zF ?_;refine yI _ (yJ h a ha) rfl rfl ?_;refine zF ?_;refine zC (zA (zU ?_));refine yN [0,2,4,6,7] [0,1,2,3,105] 210 [] [(105,.box 36 (obD (zJ h a)))] ?_;refine ⟨⟨yR,⟨⟨rfl,SubL.same rfl⟩,yM⟩,rfl,rfl⟩,?_⟩;refine zN 300 ?_;refine zZ (fun c2 => ?_) (fun c2 => ?_)
 ·
  refine zB (zE zP [] 400 rfl ?_);repeat (first | refine zG ?_ | refine zH ?_ | refine tE0 ?_)
  refine zQ _ (yW _) rfl ?_;repeat (first | refine zG ?_ | refine zH ?_ | refine tE0 ?_)
  refine zC (zA (zL (zM (zK ?_))));have hn : R = (vlS ((zJ h a).items.getD 0 vl0),h) := by
   rw [hR];unfold bdS;rw [if_neg (by simp),if_pos c2]
  subst hn;exact vB
 ·
  refine zN 500 ?_;refine zZ (fun c4 => ?_) (fun c4 => ?_)
  ·
   refine zB (zT zP [1035] mK5 600 yP (by kernel_rfl) rfl ?_);repeat (first | refine zG ?_ | refine zH ?_ | refine dY0 ?_)
   refine zQ _ (qI _) rfl ?_;repeat (first | refine zG ?_ | refine zH ?_ | refine dY0 ?_)
   refine yS _ _ (jS h ((zJ h a).items.getD 0 vl0) (rfV c) (by omega) (wY (gc_obj g hh a) 0).1.vin (qK0 hc (by omega)).1.vin) rfl ?_;repeat (first | refine zG ?_ | refine zH ?_ | refine dY0 ?_)
   refine zC (zA (zL (zM (zK ?_))));have hn : R = newS h (mtO ((zJ h a).items.getD 0 vl0) (rfV c)) := by
    rw [hR];unfold bdS;rw [if_neg (by simp),if_neg c2,if_pos c4]
   subst hn;exact vB
  ·
   refine zB (zT zP [] mK2 700 yP (by kernel_rfl) rfl ?_);refine zF ?_;refine yI _ ((has_ok h a [onR] hh g ha).args ⟨SubP.refl _,SubP.refl _,SubP.slrSl (m := false) rfl,trivial⟩) rfl rfl ?_;refine zF ?_;refine zC (zA (zS rfl (fun c6 => ?_) (fun c6 => ?_)))
   ·have c6w : (spS h a onR).2.2 = true := by simpa using c6
    refine zB (zT zP [] mK6 800 yP (by kernel_rfl) rfl ?_);refine zF ?_;refine zQ _ (qI _) rfl ?_;refine zF ?_;refine yI _ ((atSpecial_ok h a onR [vl0,rfV c] hh g ha (by show 2 ≤ 1000000;decide)).args ⟨SubP.refl _,SubP.refl _,SubP.refl _,SubP.slrRows (by repeat (first | exact trivial | exact SubPs.refl _ | exact SubP.refl _ | exact SubP.nilSl rfl | refine ⟨?_,?_⟩)),trivial⟩) rfl rfl ?_;refine zF ?_;refine zC (zA (zN 900 ?_));refine zL (zM (zK ?_));have hn : R = (caS (spS h a onR).1 ((spS h a onR).2.1 ++ [vl0,rfV c]),h) := by
     rw [hR];unfold bdS;rw [if_neg (by simp),if_neg c2,if_neg c4,if_pos c6w];rfl
    subst hn;exact vB
   ·have c6w : (spS h a onR).2.2 = false := by simpa using c6
    refine zO (zR (zA ?_));refine zB (zE zP [] 1000 rfl ?_);refine zF ?_;refine zQ _ (yW _) rfl ?_;refine zF ?_;refine zC (zA (zL ?_));have hn : R = (vlS a,h) := by
     rw [hR];unfold bdS;rw [if_neg (by simp),if_neg c2,if_neg c4,if_neg (by rw [c6w];decide)]
    subst hn;exact vB
variable {md me : Bool}
theorem prop_item {h : List Ob} (g : Uh h) {a : Vl} (hk : (zJ h a).kind = 12) : (zJ h a).items.length = 3 := by
 obtain ⟨h6,ho,e⟩ := qA (h := h) (v := a) (by omega);have hin := yB ho;rw [e] at hk ⊢;by_cases h49 : a.r.toNat < 49
 ·rw [show zW h a.r = bgO a.r.toNat from g.lo_at h49] at hk;have h9 : (bgO a.r.toNat).kind = 9 := rfl;omega
 ·have u := g.hi_at (i := a.r.toNat) (by omega) hin.2;rw [← uJ hin] at u;have hs := (tF u.shape).1;rw [xW 12 51 (by decide +kernel) hk] at hs;have : IntKind.i64.wrap (IntKind.u8.wrap (dZ (uB 12) - 48)) = 3 := by decide +kernel
  omega
theorem gE0 {P : Program} {K : DS → Prop} {p : Prop} {r : Out} (hr : r.sat P K) (hp : p := by first | exact ⟨hin.1,hin.2⟩ | exact ⟨rfl,hin.2⟩ | exact ⟨by simp [MR.len],by simpa [MR.len] using hin.2⟩ | rfl | (simp only [MR.len];done) | first | exact trivial | omega | exact ini (by omega) (by omega) | (intro hh;simp at hh;exact ini (by omega) (by omega)) | (intro hh;simp at hh ⊢;omega) | (simp at *;omega) | (simp_all;done)) : (Out.need p r).sat P K := ⟨hp,hr⟩
theorem WithT_G (h : List Ob) (v a : Vl) (s : ByteArray) (hh : HpIn h) (g : Uh h) (hk : (zJ h v).kind = 10) (hv : hasS h v = true) (ha : a.k = 6 → yD h a.r = true) (hia : VlIn a) (hiv : VlIn v) (hs : s.size ≤ 100) : FnG Tryz.prog 58 [.bp 0 0,.agg (vlD v),.v (.string s),.agg (vlD a),.v (.bool true)] (hpO h) (.agg (stD (wiS h v s a true).1)) (hpO (wiS h v s a true).2) := by
 have hg5 := g.hi;obtain ⟨R,hR⟩ : ∃ R,R = wiS h v s a true := ⟨_,rfl⟩;rw [← hR];obtain ⟨h6,hob,eo⟩ := qA (h := h) (v := v) (by omega);have hin := yB hob;have hcin := inst_cls g hk;have hvr : v.k = 6 → yD h v.r = true := fun _ => hob;refine jJ zP Tryz.func58 rfl rfl rfl rfl rfl rfl rfl ?_;intro w0 s0 mx;refine zN 100 ?_;refine zB (zT zP [] mK7 200 yP (by kernel_rfl) rfl ?_);repeat (first | refine zG ?_ | refine zH ?_ | refine gE0 ?_)
 refine zC (zA (zB ?_));refine yN [0,2,4,6,8,10,11] [0,1,2,3,4,108] 210 [] [(108,.box 36 (obD (zJ h v)))] ?_;refine ⟨⟨yR,⟨⟨rfl,by rw [eo];exact SubL.same rfl⟩,yM⟩,rfl,rfl⟩,?_⟩;refine zB (zT zP [] mK1 300 yP (by kernel_rfl) rfl ?_);refine zF ?_;refine yI _ (yJ h a ha) rfl rfl ?_;refine zF ?_;refine zC (zA ?_);refine yN [0,2,4,6,8,10,11,12] [0,1,2,3,4,108,215] 310 [] [(215,.box 36 (obD (zJ h a)))] ?_;refine ⟨⟨yR,⟨⟨rfl,SubL.same rfl⟩,yM⟩,rfl,rfl⟩,?_⟩;refine zN 400 ?_;refine zS rfl (fun c3 => ?_) (fun c3 => ?_)
 ·have c3w : (zJ h a).kind = 12 := by simpa using c3
  refine zB (zE zP [] 500 rfl ?_);refine zF ?_;refine zQ _ (kZ (zJ h a) v s (by rw [prop_item g c3w];decide) (by omega)) rfl ?_;refine zF ?_;refine zC (zA (zL (zK ?_)));have hn : R = (gtS (zJ h a) v s,h) := by
   rw [hR];unfold wiS;rw [if_pos ⟨rfl,c3w⟩]
  subst hn;exact vB
 ·have c3w : ¬ (zJ h a).kind = 12 := by simpa using c3
  refine zO (zA (zB ?_));refine zB (zT zP [] mK8 600 yP (by kernel_rfl) rfl ?_);repeat (first | refine zG ?_ | refine zH ?_ | refine uE ?_ | refine pL ?_ | refine pM ?_)
  refine vK0 _ (fun hg7 => (has_ok h a [onR,onW] hh g ha).args ⟨SubP.refl _,SubP.refl _,SubP.slrSl (m := false) rfl,trivial⟩) rfl rfl ?_;repeat (first | refine zG ?_ | refine zH ?_ | refine uE ?_ | refine pL ?_ | refine pM ?_)
  refine zC (zA (zS rfl (fun c5 => ?_) (fun c5 => ?_)))
  ·have c5w : (spS h a onR).2.2 = true ∧ (spS h a onW).2.2 = true := by simpa using c5
   refine zB (zE zP [1054] 700 rfl ?_);refine zF ?_;refine yS _ _ (bound_G h a v (zJ h v).cls hh g ha hia hiv hcin) rfl ?_;refine zF ?_;refine zC (zA (zL (zK ?_)));have hn : R = bdS h a v (zJ h v).cls true := by
    rw [hR];unfold wiS;rw [if_neg (fun hh9 => c3w hh9.2),if_pos ⟨rfl,c5w⟩]
   subst hn;exact vB
  ·have c5w : ¬ ((spS h a onR).2.2 = true ∧ (spS h a onW).2.2 = true) := by simpa using c5
   refine zO (zA (zB ?_));refine zB (zE zP [] 800 rfl ?_);refine zF ?_;refine zQ _ (vE (zJ h v) s (obj_names g v)) rfl ?_;refine zF ?_;refine zC (zA (zN 900 ?_));refine zS rfl (fun c8 => ?_) (fun c8 => ?_)
   ·have c8w : jC (zJ h v) s = true := by simpa using c8
    refine zB (zE zP [] 1000 rfl ?_);refine zF ?_;refine zQ _ (yW _) rfl ?_;refine zF ?_;refine zC (zA (zL (zK ?_)));have hn : R = (vlS (jF (zJ h v) s),h) := by
     rw [hR];unfold wiS;rw [if_neg (fun hh9 => c3w hh9.2),if_neg (fun hh9 => c5w hh9.2),if_pos c8w]
    subst hn;exact vB
   ·have c8w : jC (zJ h v) s = false := by simpa using c8
    refine zO (zA (zB (zN 1100 ?_)));refine dD rfl ?_;refine zB (zE zP [1070] 1200 rfl ?_);refine zF ?_;refine yS _ _ (bound_G h a v (zJ h v).cls hh g ha hia hiv hcin) rfl ?_;refine zF ?_;refine zC (zA (zL (zK ?_)));have hn : R = bdS h a v (zJ h v).cls true := by
     rw [hR];unfold wiS;rw [if_neg (fun hh9 => c3w hh9.2),if_neg (fun hh9 => c5w hh9.2),if_neg (by rw [c8w];decide),if_pos rfl]
    subst hn;exact vB
theorem WithF_G (h : List Ob) (v a : Vl) (s : ByteArray) (hh : HpIn h) (g : Uh h) (hk : (zJ h v).kind = 10) (hv : hasS h v = true) (ha : a.k = 6 → yD h a.r = true) (hia : VlIn a) (hiv : VlIn v) (hs : s.size ≤ 100) : FnG Tryz.prog 58 [.bp 0 0,.agg (vlD v),.v (.string s),.agg (vlD a),.v (.bool false)] (hpO h) (.agg (stD (wiS h v s a false).1)) (hpO (wiS h v s a false).2) := by
 have hg5 := g.hi;obtain ⟨R,hR⟩ : ∃ R,R = wiS h v s a false := ⟨_,rfl⟩;rw [← hR];obtain ⟨h6,hob,eo⟩ := qA (h := h) (v := v) (by omega);have hin := yB hob;have hcin := inst_cls g hk;have hvr : v.k = 6 → yD h v.r = true := fun _ => hob;refine jJ zP Tryz.func58 rfl rfl rfl rfl rfl rfl rfl ?_;intro w0 s0 mx;refine zN 100 ?_;refine zB (zT zP [] mK7 200 yP (by kernel_rfl) rfl ?_);repeat (first | refine zG ?_ | refine zH ?_ | refine gE0 ?_)
 refine zC (zA (zB ?_));refine yN [0,2,4,6,8,10,11] [0,1,2,3,4,108] 210 [] [(108,.box 36 (obD (zJ h v)))] ?_;refine ⟨⟨yR,⟨⟨rfl,by rw [eo];exact SubL.same rfl⟩,yM⟩,rfl,rfl⟩,?_⟩;refine zB (zT zP [] mK1 300 yP (by kernel_rfl) rfl ?_);refine zF ?_;refine yI _ (yJ h a ha) rfl rfl ?_;refine zF ?_;refine zC (zA ?_);refine yN [0,2,4,6,8,10,11,12] [0,1,2,3,4,108,215] 310 [] [(215,.box 36 (obD (zJ h a)))] ?_;refine ⟨⟨yR,⟨⟨rfl,SubL.same rfl⟩,yM⟩,rfl,rfl⟩,?_⟩;refine zN 400 ?_;refine wD rfl ?_;refine zO (zA (zB ?_));refine zB (zT zP [] mK8 600 yP (by kernel_rfl) rfl ?_);repeat (first | refine zG ?_ | refine zH ?_ | refine uE ?_ | refine pL ?_ | refine pM ?_)
 refine yP0 (.v (.bool false)) rfl ?_;repeat (first | refine zG ?_ | refine zH ?_ | refine uE ?_ | refine pL ?_ | refine pM ?_)
 refine zC (zA ?_);refine wD rfl ?_;refine zO (zA (zB ?_));refine zB (zE zP [] 800 rfl ?_);refine zF ?_;refine zQ _ (vE (zJ h v) s (obj_names g v)) rfl ?_;refine zF ?_;refine zC (zA (zN 900 ?_));refine zS rfl (fun c8 => ?_) (fun c8 => ?_)
 ·have c8w : jC (zJ h v) s = true := by simpa using c8
  refine zB (zE zP [] 1000 rfl ?_);refine zF ?_;refine zQ _ (yW _) rfl ?_;refine zF ?_;refine zC (zA (zL (zK ?_)));have hn : R = (vlS (jF (zJ h v) s),h) := by
   rw [hR];unfold wiS;rw [if_neg (fun hh9 => by cases hh9.1),if_neg (fun hh9 => by cases hh9.1),if_pos c8w]
  subst hn;exact vB
 ·have c8w : jC (zJ h v) s = false := by simpa using c8
  refine zO (zA (zB (zN 1100 ?_)));refine wD rfl ?_;refine zO (zA (zB ?_));refine zB (zT zP [] mK20 1300 yP (by kernel_rfl) rfl ?_);refine zF ?_;refine zQ _ (qN _) rfl ?_;refine zF ?_;refine yI _ ((atSpecial_ok h v onM [txV s] hh g hvr (by show 1 ≤ 1000000;decide)).args ⟨SubP.refl _,SubP.refl _,SubP.refl _,SubP.slrSl (m := false) rfl,trivial⟩) rfl rfl ?_;refine zF ?_;refine zC (zA (zN 1400 ?_));refine zS rfl (fun c13 => ?_) (fun c13 => ?_)
  ·have c13w : (spS h v onM).2.2 = true := by simpa using c13
   refine zN 1500 ?_;refine zL (zK ?_);have hn : R = (caS (spS h v onM).1 ((spS h v onM).2.1 ++ [txV s]),h) := by
    rw [hR];unfold wiS;rw [if_neg (fun hh9 => by cases hh9.1),if_neg (fun hh9 => by cases hh9.1),if_neg (by rw [c8w];decide),if_neg (by decide),if_pos c13w]
   subst hn;exact vB
  ·have c13w : (spS h v onM).2.2 = false := by simpa using c13
   refine zO (zA ?_);refine zB (zT zP [] mK2 1600 yP (by kernel_rfl) rfl ?_);refine zF ?_;refine yI _ (atLacks_ok h v s g (cf_of g hv) (by omega) (by omega) (by omega)) rfl rfl ?_;refine zF ?_;refine zC (zA (zL ?_));have hn : R = (lkS h v s,h) := by
    rw [hR];unfold wiS;rw [if_neg (fun hh9 => by cases hh9.1),if_neg (fun hh9 => by cases hh9.1),if_neg (by rw [c8w];decide),if_neg (by decide),if_neg (by rw [c13w];decide)]
   subst hn;exact vB
theorem With_G (h : List Ob) (v a : Vl) (s : ByteArray) (ok : Bool) (hh : HpIn h) (g : Uh h) (hk : (zJ h v).kind = 10) (hv : hasS h v = true) (ha : a.k = 6 → yD h a.r = true) (hia : VlIn a) (hiv : VlIn v) (hs : s.size ≤ 100) : FnG Tryz.prog 58 [.bp 0 0,.agg (vlD v),.v (.string s),.agg (vlD a),.v (.bool ok)] (hpO h) (.agg (stD (wiS h v s a ok).1)) (hpO (wiS h v s a ok).2) := by
 cases ok
 ·exact WithF_G h v a s hh g hk hv ha hia hiv hs
 ·exact WithT_G h v a s hh g hk hv ha hia hiv hs
theorem ofInstance_G (h : List Ob) (v : Vl) (s : ByteArray) (hh : HpIn h) (g : Uh h) (hk : (zJ h v).kind = 10) (hv : hasS h v = true) (hiv : VlIn v) (hs : s.size ≤ 100) : FnG Tryz.prog 25 [.bp 0 0,.agg (vlD v),.v (.string s)] (hpO h) (.agg (stD (wiS h v s (fdV h s (fdO h (zW h (zJ h v).cls).order s)) (fdO h (zW h (zJ h v).cls).order s).isSome).1)) (hpO (wiS h v s (fdV h s (fdO h (zW h (zJ h v).cls).order s)) (fdO h (zW h (zJ h v).cls).order s).isSome).2) := by
 have hg5 := g.hi;obtain ⟨h6,hob,eo⟩ := qA (h := h) (v := v) (by omega);have hin := yB hob;have hcin := inst_cls g hk;have hfr := fun hk9 => fd_rv hh g hcin s hk9;have hfi := (gc_fd g hh (L := (zW h (zJ h v).cls).order) (fun r hr => ((cok_of hh g hcin).2 r hr).1) s).1.vin;have hfind := jW (md := true) h (zJ h v).cls s hh hcin (cok_of hh g hcin);have hwith := With_G h v (fdV h s (fdO h (zW h (zJ h v).cls).order s)) s (fdO h (zW h (zJ h v).cls).order s).isSome hh g hk hv hfr hfi hiv hs;rw [eo] at hfind hwith ⊢;refine jJ zP Tryz.func25 rfl rfl rfl rfl rfl rfl rfl ?_;intro w0 s0 mx;refine zN 100 ?_;refine zB (zT zP [] mK21 200 yP (by kernel_rfl) rfl ?_);repeat (first | refine zG ?_ | refine zH ?_ | refine gE0 ?_)
 refine yI _ (hfind) rfl rfl ?_;repeat (first | refine zG ?_ | refine zH ?_ | refine gE0 ?_)
 refine zC (zA ?_);refine zB (zE zP [1033] 300 rfl ?_);refine zF ?_;refine yS _ _ (hwith) rfl ?_;refine zF ?_;refine zC (zA (zL ?_));exact vB
variable {md me : Bool}
theorem bV0 {l : List Vl} (hl : l.length ≤ 2000000) (hv : ∀ v ∈ l,VlIn v) : ObIn (tuO l) :=
 ⟨(by decide : (-9223372036854775808 : Int) ≤ 1 ∧ (1 : Int) ≤ 9223372036854775807),(by decide : (-9223372036854775808 : Int) ≤ 0 ∧ (0 : Int) ≤ 9223372036854775807),(by decide : (-9223372036854775808 : Int) ≤ 0 ∧ (0 : Int) ≤ 9223372036854775807),(by decide : (-9223372036854775808 : Int) ≤ 0 ∧ (0 : Int) ≤ 9223372036854775807),(by decide : ByteArray.empty.size ≤ 2000000),(by decide : 0 ≤ 2000000),(by decide : 0 ≤ 2000000),(by decide : 0 ≤ 2000000),hl,(by decide : 0 ≤ 2000000),(fun _ h => by cases h),hv,(fun _ h => by cases h)⟩
theorem pT0 {l : List Int} {n : Int} (h : hasB l n = true) : 0 ≤ ixI l n ∧ (ixI l n).toNat < l.length := by
 have h1 := uC0 l n;rw [h] at h1;have h2 := of_decide_eq_true h1;have h3 := kA0 l n;omega
theorem wX0 (l : List Int) (k : Nat) : (l.drop k).take (l.length - k) = l.drop k := List.take_of_length_le (by rw [List.length_drop];omega)
theorem tD0 {P : Program} {K : DS → Prop} {p : Prop} {r : Out} (hr : r.sat P K) (hp : p := by first | (simp only [List.length_map,List.length_take];omega) | first | exact trivial | omega | exact ini (by omega) (by omega) | (intro hh;simp at hh;exact ini (by omega) (by omega)) | (intro hh;simp at hh ⊢;omega) | (simp at *;omega) | (simp_all;done)) : (Out.need p r).sat P K := ⟨hp,hr⟩
theorem atGet_G (h : List Ob) (v : Vl) (s : ByteArray) (hh : HpIn h) (g : Uh h) (hk : (zJ h v).kind = 9) (hs : s.size ≤ 100) : FnG Tryz.prog 26 [.bp 0 0,.v (.int .i64 v.r),.v (.string s)] (hpO h) (.agg (stD (clsS h v s).1)) (hpO (clsS h v s).2) := by
 have hg5 := g.hi;obtain ⟨R,hR⟩ : ∃ R,R = clsS h v s := ⟨_,rfl⟩;rw [← hR];obtain ⟨h6,hob,eo⟩ := qA (h := h) (v := v) (by omega);have hin := yB hob;have hz := xV;have hoz := obj_sz g v;have hfind := jW (md := true) h v.r s hh hin (cok_of hh g hin);rw [← eo] at hfind;have hck := cok_of hh g hin;rw [← eo] at hck;have hol := hck.1;have hfr : (fdV h s (fdO h (zJ h v).order s)).k = 6 → yD h (fdV h s (fdO h (zJ h v).order s)).r = true := fun hk9 => by rw [eo] at hk9 ⊢;exact fd_rv hh g hin s hk9
 have hfi := (gc_fd g hh (L := (zJ h v).order) (fun r hr => (hck.2 r hr).1) s).1.vin;have hrf : ∀ u ∈ (zJ h v).order.map rfV,VlIn u := fun u hu => by
  obtain ⟨r,hr,rfl⟩ := List.mem_map.1 hu;exact (qK0 (hck.2 r hr).1 (by omega)).1.vin
 refine jJ zP Tryz.func26 rfl rfl rfl rfl rfl rfl rfl ?_;intro w0 s0 mx;refine zN 100 ?_;refine zB (zE zP [] 200 rfl ?_);repeat (first | refine zG ?_ | refine zH ?_ | refine gE0 ?_)
 refine zC (zA (zB (zN 300 ?_)));refine zU ?_;refine yN [0,1,2,6,7,21] [0,1,2,107] 310 [] [(107,.box 36 (obD (zJ h v)))] ?_;refine ⟨⟨yR,⟨⟨rfl,by rw [eo];exact SubL.same rfl⟩,yM⟩,rfl,rfl⟩,?_⟩;refine zN 400 ?_;refine zS rfl (fun c3 => ?_) (fun c3 => ?_)
 ·have c3w : s = wI := of_decide_eq_true c3;refine zB (zE zP [] 500 rfl ?_);refine zF ?_;refine zQ _ (qN _) rfl ?_;refine zF ?_;refine zQ _ (yW _) rfl ?_;refine zF ?_;refine zC (zA (zL (zM (zK ?_))));have hn : R = (vlS (txV (zJ h v).name),h) := by
   rw [hR];unfold clsS;rw [if_pos c3w]
  subst hn;exact vB
 ·have c3w : ¬ s = wI := of_decide_eq_false c3;refine zN 600 ?_;refine zS rfl (fun c5 => ?_) (fun c5 => ?_)
  ·have c5w : s = ordB := of_decide_eq_true c5;refine zN 700 ?_;refine jA 8 29 7 rfl ?_;refine zB (zN 800 ?_);refine zU ?_;refine yH (ι := {k : Nat // k ≤ (zJ h v).order.length}) [0,6,31,32] [0,1,2,107] 850 (fun x => [(33,.v (.int .i64 x.1)),(8,.own 700 7 ((((zJ h v).order.take x.1).map rfV).map vlD))]) (fun x => [(700,.row 29 7 ((((zJ h v).order.take x.1).map rfV).map vlD).length)]) (fun x => (zJ h v).order.length - x.1) ⟨0,Nat.zero_le _⟩ ?_;refine ⟨⟨⟨Sub.int rfl,Sub.own rfl,yR⟩,⟨⟨rfl,rfl,rfl⟩,yM⟩,rfl,rfl⟩,fun x => ?_⟩;have hk1 : x.1 ≤ (zJ h v).order.length := x.2;refine zN 900 ?_;refine zB (zS rfl (fun c8 => ?_) (fun c8 => ?_))
   ·have hlt : x.1 < (zJ h v).order.length := by simpa using c8
    refine zO (zA (zB (zU (zN 1000 ?_))));refine zE zP [] 1100 rfl ?_;repeat (first | refine zG ?_ | refine zH ?_ | refine tD0 ?_)
    refine zQ _ (qI _) rfl ?_;repeat (first | refine zG ?_ | refine zH ?_ | refine tD0 ?_)
    refine zC (zR (zA (qC zP [] 1200 ?_)));exact zX ⟨x.1 + 1,by omega⟩ ⟨⟨Sub.int (by push_cast;rfl),Sub.own (by rw [qU hlt 0,List.map_append,List.map_append];rfl),yR⟩,⟨⟨rfl,rfl,by rw [qU hlt 0];simp⟩,yM⟩,rfl,rfl⟩ (by show (zJ h v).order.length - (x.1 + 1) < (zJ h v).order.length - x.1;omega)
   ·have hke : x.1 = (zJ h v).order.length := by
     have h9 : ¬ x.1 < (zJ h v).order.length := by simpa using c8
     omega
    refine yO (yF (yG (yC (zA ?_))));refine zB (zE zP [1046] 1300 rfl ?_);refine zF ?_;refine yS _ _ ((bE h (tuO ((zJ h v).order.map rfV)) (by omega) (bV0 (by rw [List.length_map];omega) hrf)).args ⟨Sub.refl _,Sub.ofP (SubP.agg ⟨SubP.refl _,SubP.refl _,SubP.refl _,SubP.nilSl rfl,SubP.nilSl rfl,SubP.nilSl rfl,SubP.slrSl (by rw [hke,List.take_length];rfl),SubP.nilSl rfl,SubP.refl _,SubP.refl _,trivial⟩) rfl rfl,trivial⟩) rfl ?_;refine zF ?_;refine zQ _ (qI _) rfl ?_;refine zF ?_;refine zQ _ (yW _) rfl ?_;refine zF ?_;refine zC (zA (zL (zM (zK ?_))));have hn : R = newS h (tuO ((zJ h v).order.map rfV)) := by
     rw [hR];unfold clsS;rw [if_neg c3w,if_pos c5w]
    subst hn;exact vB
  ·have c5w : ¬ s = ordB := of_decide_eq_false c5;refine zO (zR (zA (zB ?_)));refine zB (zE zP [] 1400 rfl ?_);refine zF ?_;refine yI _ (hfind) rfl rfl ?_;refine zF ?_;refine zC (zA (zN 1500 ?_));refine zS rfl (fun c14 => ?_) (fun c14 => ?_)
   ·have c14w : (fdO h (zJ h v).order s).isSome = true := by simpa using c14
    refine zB (zE zP [1063] 1600 rfl ?_);refine zF ?_;refine yS _ _ (ofClass_G h (fdV h s (fdO h (zJ h v).order s)) v.r hh g hfr hfi hin) rfl ?_;refine zF ?_;refine zC (zA (zL (zK ?_)));have hn : R = bdS h (fdV h s (fdO h (zJ h v).order s)) vl0 v.r false := by
     rw [hR];unfold clsS;rw [if_neg c3w,if_neg c5w,if_pos c14w]
    subst hn;exact vB
   ·have c14w : (fdO h (zJ h v).order s).isSome = false := by simpa using c14
    refine zO (zA ?_);refine zB (zE zP [] 1700 rfl ?_);repeat (first | refine zG ?_ | refine zH ?_ | refine tE ?_)
    refine zQ _ (yX _) rfl ?_;repeat (first | refine zG ?_ | refine zH ?_ | refine tE ?_)
    refine zC (zA (zL ?_));have hn : R = (raS 36 (cqB ++ (zJ h v).name ++ nhB ++ s ++ qB),h) := by
     rw [hR];unfold clsS;rw [if_neg c3w,if_neg c5w,if_neg (by rw [c14w];decide),lkS,whoS,if_pos hk]
    subst hn;exact vB
theorem dK0 (h : List Ob) (a v w : Vl) (c : Int) : bdS h a v c false = bdS h a w c false := by unfold bdS;simp
theorem tC0 {P : Program} {K : DS → Prop} {p : Prop} {r : Out} (hr : r.sat P K) (hp : p := by first | exact ⟨by rw [← hCt];exact hsin.1,by rw [← hCt];exact hsin.2⟩ | exact ⟨hsin.1,hsin.2⟩ | exact ⟨rfl,hsin.2⟩ | exact ⟨by simp [MR.len],by simpa [MR.len] using hsin.2⟩ | rfl | (simp only [MR.len];done) | first | exact trivial | omega | exact ini (by omega) (by omega) | (intro hh;simp at hh;exact ini (by omega) (by omega)) | (intro hh;simp at hh ⊢;omega) | (simp at *;omega) | (simp_all;done)) : (Out.need p r).sat P K := ⟨hp,hr⟩
theorem tL {P : Program} {K : DS → Prop} {p : Prop} {r : Out} (hr : r.sat P K) (hp : p := by first | exact ⟨by decide,by rw [hl2];decide⟩ | exact ⟨rfl,by rw [hl2];decide⟩ | exact ini (by show _ ≤ ixI (zW h C).order ((zJ h v).items.getD 0 vl0).r + 1;omega) (by show ixI (zW h C).order ((zJ h v).items.getD 0 vl0).r + 1 ≤ _;omega) | first | exact trivial | omega | exact ini (by omega) (by omega) | (intro hh;simp at hh;exact ini (by omega) (by omega)) | (intro hh;simp at hh ⊢;omega) | (simp at *;omega) | (simp_all;done)) : (Out.need p r).sat P K := ⟨hp,hr⟩
set_option maxHeartbeats 2000000 in
theorem above_G (h : List Ob) (v : Vl) (s : ByteArray) (hh : HpIn h) (g : Uh h) (hk : (zJ h v).kind = 15) (hs : s.size ≤ 100) : FnG Tryz.prog 30 [.bp 0 0,.agg (obD (zJ h v)),.v (.string s)] (hpO h) (.agg (stD (upS h (zJ h v) s).1)) (hpO (upS h (zJ h v) s).2) := by
 have hg5 := g.hi;obtain ⟨R,hR⟩ : ∃ R,R = upS h (zJ h v) s := ⟨_,rfl⟩;rw [← hR];obtain ⟨hl2,hsin,hsh,hs109⟩ := su_links g hk;obtain ⟨h6,hob,eo⟩ := qA (h := h) (v := v) (by omega);have hin := yB hob;have hz := xV;have hwm : ((zJ h v).items.getD 1 vl0) ∈ (zJ h v).items := by
  rw [List.getD_eq_getElem?_getD,List.getElem?_eq_getElem (by omega)];exact List.getElem_mem _
 have hwr : ((zJ h v).items.getD 1 vl0).k = 6 → yD h ((zJ h v).items.getD 1 vl0).r = true := fun hk9 => g.items hin (by rw [← eo];exact hwm) hk9;have hwi := (wY (gc_obj g hh v) 1).1.vin;obtain ⟨C,hC⟩ : ∃ C,C = suC h (zJ h v) := ⟨_,rfl⟩;have hCe : suC h (zJ h v) = if (zJ h ((zJ h v).items.getD 1 vl0)).kind = 10 then (zJ h ((zJ h v).items.getD 1 vl0)).cls else ((zJ h v).items.getD 1 vl0).r := rfl;rw [← hC] at hsin hsh hCe;have hrg := pT0 hsh;have hol := (hh.at C).ol;have hck := aft_in hh g hsin ((zJ h v).items.getD 0 vl0).r;have hsa : suA h (zJ h v) s = fdO h (aftL (zW h C).order ((zJ h v).items.getD 0 vl0).r) s := by unfold suA;rw [← hC]
 obtain ⟨A,hA⟩ : ∃ A,A = fdV h s (suA h (zJ h v) s) := ⟨_,rfl⟩;obtain ⟨S,hS⟩ : ∃ S,S = suA h (zJ h v) s := ⟨_,rfl⟩;have har : A.k = 6 → yD h A.r = true := fun hk9 => by
  rw [hA,hsa] at hk9 ⊢
  cases hf : fdO h (aftL (zW h C).order ((zJ h v).items.getD 0 vl0).r) s with
  | none => rw [hf] at hk9;exact absurd hk9 (show ¬ (0 : Int) = 6 by decide)
  | some r =>
   rw [hf] at hk9;exact own_rv g (hck.2 r (List.mem_of_find?_eq_some hf)).1 s hk9
 have hai : VlIn A := by rw [hA,hsa];exact (gc_fd g hh (fun r hr => (hck.2 r hr).1) s).1.vin
 rw [← hS] at hA hsa;refine jJ zP Tryz.func30 rfl rfl rfl rfl rfl rfl rfl ?_;intro w0 s0 mx;refine zN 100 ?_;refine zB (zE zP [] 200 rfl ?_);repeat (first | refine zG ?_ | refine zH ?_ | refine zV (by first | exact ⟨by decide,by rw [hl2];decide⟩ | exact ⟨rfl,by rw [hl2];decide⟩ | first | exact trivial | omega | exact ini (by omega) (by omega) | (intro hh;simp at hh;exact ini (by omega) (by omega)) | (intro hh;simp at hh ⊢;omega) | (simp at *;omega) | (simp_all;done)) ?_)
 refine zC (zA (zN 300 ?_));refine zB ?_;refine yN [0,2,4,6,7,8,9] [0,1,2,3,104] 310 [] [(104,.box 29 (vlD ((zJ h v).items.getD 1 vl0)))] ?_;refine ⟨⟨yR,⟨⟨rfl,SubL.same rfl⟩,yM⟩,rfl,rfl⟩,?_⟩;refine zB (zT zP [] mK1 400 yP (by kernel_rfl) rfl ?_);refine zF ?_;refine yI _ (yJ h ((zJ h v).items.getD 1 vl0) hwr) rfl rfl ?_;refine zF ?_;refine zC (zA (zN 500 ?_));refine zS rfl (fun c4 => ?_) (fun c4 => ?_)
 ·have c4w : (zJ h ((zJ h v).items.getD 1 vl0)).kind = 10 := by simpa using c4
  rw [if_pos c4w] at hCe;refine qC zP [] 600 ?_;refine zA ?_;refine yN [0,2,4,6,7,9] [0,1,2,3,104] 610 [(8,.v (.int .i64 C))] [(315,.box 36 (obD (zJ h ((zJ h v).items.getD 1 vl0))))] ?_;refine ⟨⟨⟨Sub.int hCe.symm,yR⟩,⟨⟨rfl,SubL.same rfl⟩,yM⟩,rfl,rfl⟩,?_⟩;refine zB (zE zP [] 700 rfl ?_);repeat (first | refine zG ?_ | refine zH ?_ | refine tC0 ?_)
  refine zC (zA ?_);refine zB (zT zP [] mK9 800 yP (by kernel_rfl) rfl ?_);repeat (first | refine zG ?_ | refine zH ?_ | refine tL ?_)
  refine zQ _ (gB (zW h C).order ((zJ h v).items.getD 0 vl0).r) rfl ?_;repeat (first | refine zG ?_ | refine zH ?_ | refine tL ?_)
  refine yI _ ((vL h (aftL (zW h C).order ((zJ h v).items.getD 0 vl0).r) s hh hck).args ⟨SubP.refl _,SubP.of_eq (by show D.sl false 1 _ iD 0 = .sl false 1 _ iD 0;congr 1;unfold aftL;exact wX0 _ _),SubP.refl _,trivial⟩) rfl rfl ?_;repeat (first | refine zG ?_ | refine zH ?_ | refine tL ?_)
  refine zC (zA (zB ?_));refine yN [0,2,6,7,8,9,12] [0,1,3,104,719] 810 [(14,.v (.bool S.isSome))] [(719,.box 29 (vlD A))] ?_;refine ⟨⟨⟨Sub.bool (by rw [hsa]),yR⟩,⟨⟨rfl,by rw [hA,hsa];exact SubL.same rfl⟩,yM⟩,rfl,rfl⟩,?_⟩;refine zB (zT zP [] mK1 900 yP (by kernel_rfl) rfl ?_);refine zF ?_;refine yI _ (yJ h A har) rfl rfl ?_;refine zF ?_;refine zC (zA (zU ?_));refine yN [0,2,6,7,8,9,12,14,15] [0,1,3,104,719,815] 910 [] [(815,.box 36 (obD (zJ h A)))] ?_;refine ⟨⟨yR,⟨⟨rfl,SubL.same rfl⟩,yM⟩,rfl,rfl⟩,?_⟩;refine zN 1000 ?_;refine zS rfl (fun c9 => ?_) (fun c9 => ?_)
  ·have c9w : S.isSome = false := by simpa using c9
   refine zB (zE zP [] 1100 rfl ?_);repeat (first | refine zG ?_ | refine zH ?_ | refine tE ?_)
   refine zQ _ (yX _) rfl ?_;repeat (first | refine zG ?_ | refine zH ?_ | refine tE ?_)
   refine zC (zA (zL (zM (zK ?_))));have hn : R = (raS 36 (suB ++ s ++ qB),h) := by
    rw [hR];unfold upS;rw [← hS];rw [if_pos c9w]
   subst hn;exact vB
  ·have c9w : S.isSome = true := by simpa using c9
   refine zN 1200 ?_;refine wD rfl ?_;refine zN 1400 ?_;refine zS rfl (fun c13 => ?_) (fun c13 => ?_)
   ·have c13w : (zJ h A).kind = 12 := by simpa using c13
    refine zB (zE zP [] 1500 rfl ?_);refine zF ?_;refine zQ _ (kZ (zJ h A) ((zJ h v).items.getD 1 vl0) s (by rw [prop_item g c13w];decide) (by omega)) rfl ?_;refine zF ?_;refine zC (zA (zL (zM (zK ?_))));have hn : R = (gtS (zJ h A) ((zJ h v).items.getD 1 vl0) s,h) := by
     rw [hR];unfold upS;rw [← hS];rw [← hA,← hC];rw [if_neg (by rw [c9w];decide),if_neg (not_not_intro c4w),if_pos c13w]
    subst hn;exact vB
   ·have c13w : ¬ (zJ h A).kind = 12 := by simpa using c13
    refine zO (zR (zA ?_));refine zB (zE zP [1090] 1600 rfl ?_);refine zF ?_;refine yS _ _ (bound_G h A ((zJ h v).items.getD 1 vl0) C hh g har hai hwi hsin) rfl ?_;refine zF ?_;refine zC (zA (zL ?_));have hn : R = bdS h A ((zJ h v).items.getD 1 vl0) C true := by
     rw [hR];unfold upS;rw [← hS];rw [← hA,← hC];rw [if_neg (by rw [c9w];decide),if_neg (not_not_intro c4w),if_neg c13w]
    subst hn;exact vB
 ·have c4w : ¬ (zJ h ((zJ h v).items.getD 1 vl0)).kind = 10 := by simpa using c4
  rw [if_neg c4w] at hCe;refine zO (zA ?_);refine yN [0,2,4,6,7,9] [0,1,2,3,104] 510 [(8,.v (.int .i64 C))] [(315,.box 36 (obD (zJ h ((zJ h v).items.getD 1 vl0))))] ?_;refine ⟨⟨⟨Sub.int hCe.symm,yR⟩,⟨⟨rfl,SubL.same rfl⟩,yM⟩,rfl,rfl⟩,?_⟩;refine zB (zE zP [] 700 rfl ?_);repeat (first | refine zG ?_ | refine zH ?_ | refine tC0 ?_)
  refine zC (zA ?_);refine zB (zT zP [] mK9 800 yP (by kernel_rfl) rfl ?_);repeat (first | refine zG ?_ | refine zH ?_ | refine tL ?_)
  refine zQ _ (gB (zW h C).order ((zJ h v).items.getD 0 vl0).r) rfl ?_;repeat (first | refine zG ?_ | refine zH ?_ | refine tL ?_)
  refine yI _ ((vL h (aftL (zW h C).order ((zJ h v).items.getD 0 vl0).r) s hh hck).args ⟨SubP.refl _,SubP.of_eq (by show D.sl false 1 _ iD 0 = .sl false 1 _ iD 0;congr 1;unfold aftL;exact wX0 _ _),SubP.refl _,trivial⟩) rfl rfl ?_;repeat (first | refine zG ?_ | refine zH ?_ | refine tL ?_)
  refine zC (zA (zB ?_));refine yN [0,2,6,7,8,9,12] [0,1,3,104,719] 810 [(14,.v (.bool S.isSome))] [(719,.box 29 (vlD A))] ?_;refine ⟨⟨⟨Sub.bool (by rw [hsa]),yR⟩,⟨⟨rfl,by rw [hA,hsa];exact SubL.same rfl⟩,yM⟩,rfl,rfl⟩,?_⟩;refine zB (zT zP [] mK1 900 yP (by kernel_rfl) rfl ?_);refine zF ?_;refine yI _ (yJ h A har) rfl rfl ?_;refine zF ?_;refine zC (zA (zU ?_));refine yN [0,2,6,7,8,9,12,14,15] [0,1,3,104,719,815] 910 [] [(815,.box 36 (obD (zJ h A)))] ?_;refine ⟨⟨yR,⟨⟨rfl,SubL.same rfl⟩,yM⟩,rfl,rfl⟩,?_⟩;refine zN 1000 ?_;refine zS rfl (fun c9 => ?_) (fun c9 => ?_)
  ·have c9w : S.isSome = false := by simpa using c9
   refine zB (zE zP [] 1100 rfl ?_);repeat (first | refine zG ?_ | refine zH ?_ | refine tE ?_)
   refine zQ _ (yX _) rfl ?_;repeat (first | refine zG ?_ | refine zH ?_ | refine tE ?_)
   refine zC (zA (zL (zM (zK ?_))));have hn : R = (raS 36 (suB ++ s ++ qB),h) := by
    rw [hR];unfold upS;rw [← hS];rw [if_pos c9w]
   subst hn;exact vB
  ·have c9w : S.isSome = true := by simpa using c9
   refine zN 1200 ?_;refine dD rfl ?_;refine zB (zE zP [1077] 1300 rfl ?_);refine zF ?_
   refine yS _ _ (by
     have h9 := ofClass_G h A C hh g har hai hsin;rw [dK0 h A vl0 ((zJ h v).items.getD 1 vl0) C] at h9;exact h9) rfl ?_
   refine zF ?_;refine zC (zA (zL (zM (zK ?_))));have hn : R = bdS h A ((zJ h v).items.getD 1 vl0) C false := by
    rw [hR];unfold upS;rw [← hS];rw [← hA,← hC];rw [if_neg (by rw [c9w];decide),if_pos c4w]
   subst hn;exact vB
end Go.Proofs.YtnajlcfdjjmfiaaGreatDoor
