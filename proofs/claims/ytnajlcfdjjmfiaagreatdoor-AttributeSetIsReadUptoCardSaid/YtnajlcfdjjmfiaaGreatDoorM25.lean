/- Part 25 of the proof. -/
import Derived.Test.YtnajlcfdjjmfiaaGreatDoorM21
import Derived.Test.YtnajlcfdjjmfiaaGreatDoorM22
import Derived.Test.YtnajlcfdjjmfiaaGreatDoorM23
import Derived.Test.YtnajlcfdjjmfiaaGreatDoorM24
import Derived.Test.YtnajlcfdjjmfiaaGreatDoorRows
import Derived.Test.YtnajlcfdjjmfiaaGreatDoorM19
import Derived.ProofKit
import Derived.OpenShut
import Derived.ShutString
import Derived.Deep.Slices
import Derived.Test.YtnajlcfdjjmfiaaGreatDoorM13
import Derived.Deep.Matrix
import Derived.ChangeOld
import Derived.Below
import Derived.SizedLaws
namespace Go.Proofs.YtnajlcfdjjmfiaaGreatDoor
theorem pW0 {l : List Int} (h : 0 < l.length) : hdI l ∈ l := by
 cases l with
 | nil => cases h
 | cons a l => exact List.mem_cons_self
theorem pR0 (Q : Int → Prop) : ∀ (f : Nat) (taken : List Int) (left : List (List Int)),(∀ x ∈ taken,Q x) → (∀ l ∈ left,0 < l.length ∧ ∀ x ∈ l,Q x) → ∀ x ∈ (mgF f taken left).1,Q x
 | 0,taken,_,ht,_ => ht
 | _ + 1,taken,[],ht,_ => ht
 | f + 1,taken,l :: left,ht,hl => by
  unfold mgF;split
  ·exact ht
  ·rename_i h2;rw [Bool.not_eq_false] at h2;refine pR0 Q f _ _ (fun x hx => ?_) (fun y hy => ?_)
   ·rcases List.mem_append.1 hx with hx | hx
    ·exact ht x hx
    ·rw [List.mem_singleton.1 hx];have hf := zO0 (l :: left) ((l :: left).take (l :: left).length) (0,false) (fun h9 => by cases h9) (fun z hz => List.mem_of_mem_take hz) h2;obtain ⟨z,hz,e⟩ := hf;have e' : hdI z = (fdS (l :: left) (l :: left).length).1 := e;rw [← e'];exact (hl z hz).2 _ (pW0 (hl z hz).1)
   ·unfold rsS at hy;obtain ⟨hy1,hy2⟩ := List.mem_filter.1 hy;obtain ⟨z,hz,rfl⟩ := List.mem_map.1 hy1;refine ⟨by have := of_decide_eq_true hy2;omega,fun x hx => (hl z hz).2 x ?_⟩;unfold shI at hx;split at hx
    ·exact List.mem_of_mem_drop hx
    ·exact hx
theorem order_mem (Q : Int → Prop) {B : List (List Int)} (h0 : (uQ B).2.1 = 0) (hB : ∀ l ∈ B,∀ x ∈ l,Q x) : ∀ x ∈ (uQ B).1,Q x := by
 unfold uQ at h0 ⊢;split at h0
 ·intro x hx;rename_i h1;exact absurd h0 h1
 ·rename_i h1;have hg : (ofS B).1 = 0 := Classical.not_not.1 h1;have hgood : mU0 B := vV0 hg;split at h0
  ·cases h0
  ·rename_i h2;split at h0
   ·cases h0
   ·rename_i h3;rw [if_neg (by rw [hg];exact fun h9 => h9 rfl),if_neg h2,if_neg h3];refine pR0 Q 400 [] (lft0 B) (fun x hx => by cases hx) (fun l hl => ?_);unfold lft0 at hl;have hin : ∀ l ∈ B,0 < l.length ∧ ∀ x ∈ l,Q x := fun l hl => ⟨(hgood.2 l hl).1,hB l hl⟩;split at hl
    ·rename_i h4;rcases List.mem_append.1 hl with hl | hl
     ·exact hin l hl
     ·rw [List.mem_singleton.1 hl];refine ⟨by omega,fun x hx => ?_⟩;obtain ⟨z,hz,rfl⟩ := List.mem_map.1 hx;exact hB z hz _ (pW0 (hgood.2 z hz).1)
    ·exact hin l hl
theorem ord9 {h : List Ob} (g : Uh h) : ∀ (m i : Nat),i < m → i < h.length → ∀ r ∈ (zW h i).order,inH h r ∧ (zW h r).kind = 9
 | 0,_,hi,_ => by omega
 | m + 1,i,hi,hl => fun r hr => by
  have hlo := g.lo;by_cases h49 : i < 49
  ·rw [g.lo_at h49] at hr;have hb := wR0 h49 hr;refine ⟨⟨hb.1,by omega⟩,?_⟩;have hr2 : zW h r = bgO r.toNat := by
    have := g.lo_at (i := r.toNat) (by omega);rw [← this];show h.getD r.toNat ob0 = h.getD ((r.toNat : Nat) : Int).toNat ob0;rw [Int.toNat_natCast]
   rw [hr2];rfl
  ·have u := g.hi_at (i := i) (by omega) hl;have ho := u.order;unfold uI at ho;split at ho
   ·rename_i hk;rw [(tF u.shape).2.2.2.2 hk] at hr
    cases hr
   ·rename_i hk;have hk9 : (zW h i).kind = 9 := Classical.not_not.1 hk;simp only [Bool.and_eq_true,decide_eq_true_eq] at ho;rw [ho.2] at hr;rcases List.mem_append.1 hr with hr | hr
    ·rw [List.mem_singleton.1 hr];exact ⟨⟨by omega,by rw [Int.toNat_natCast];exact hl⟩,hk9⟩
    ·refine order_mem (fun r => inH h r ∧ (zW h r).kind = 9) ho.1 (fun l hl' x hx => ?_) r hr;unfold tG at hl';obtain ⟨n,hn,rfl⟩ := List.mem_map.1 hl';have hlk := u.links;unfold qY at hlk;rw [if_neg (by omega),if_neg (by omega),if_neg (by omega),if_neg (by omega),if_pos hk9] at hlk;split at hlk
     ·rename_i hall;have hb := List.all_eq_true.1 hall n hn;simp only [basP,bD0,Bool.not_eq_true',Bool.or_eq_false_iff,decide_eq_false_iff_not,Bool.not_eq_false',decide_eq_true_eq,Bool.or_eq_true] at hb;have hn0 : 0 ≤ n := by omega
      have e : zW h n = zW h ((n.toNat : Nat) : Int) := by
       show h.getD n.toNat ob0 = h.getD ((n.toNat : Nat) : Int).toNat ob0;rw [Int.toNat_natCast]
      rw [e] at hx;exact ord9 g m n.toNat (by omega) (by omega) x hx
     ·cases hlk
theorem ord_cls {h : List Ob} (g : Uh h) {n : Int} (hn : inH h n) : ∀ r ∈ (zW h n).order,(zW h r).kind = 9 := fun r hr => by
 have e : zW h n = zW h ((n.toNat : Nat) : Int) := by
  show h.getD n.toNat ob0 = h.getD ((n.toNat : Nat) : Int).toNat ob0;rw [Int.toNat_natCast]
 rw [e] at hr;exact (ord9 g (n.toNat + 1) n.toNat (Nat.lt_succ_self _) hn.2 r hr).2
theorem ord_hd {h : List Ob} (g : Uh h) {n : Int} (hn : inH h n) (hk : (zW h n).kind = 9) (h49 : 49 ≤ n) : (zW h n).order.head? = some n := by
 have u := g.hi_at (i := n.toNat) (by omega) hn.2;rw [← uJ hn] at u;have ho := u.order;unfold uI at ho;rw [if_neg (fun h9 => h9 hk)] at ho;simp only [Bool.and_eq_true,decide_eq_true_eq] at ho;rw [ho.2];show some ((n.toNat : Nat) : Int) = some n;rw [show ((n.toNat : Nat) : Int) = n from Int.toNat_of_nonneg hn.1]
theorem c14_of {h : List Ob} (g : Uh h) {n : Int} (hn : inH h n) (hk : (zW h n).kind = 14) : uG h ((zW h n).items.getD 0 vl0) = true := by
 by_cases h49 : n.toNat < 49
 ·rw [show zW h n = bgO n.toNat from g.lo_at h49] at hk;have h9 : (bgO n.toNat).kind = 9 := rfl;omega
 ·have u := g.hi_at (i := n.toNat) (by omega) hn.2;rw [← uJ hn] at u;have hl := u.links;unfold qY at hl;rw [if_neg (by omega),if_neg (by omega),if_neg (by omega),if_pos hk] at hl;exact hl
theorem objS_rf {h : List Ob} {n : Int} (hi : yD h n = true) : zJ h (rfV n) = zW h n := if_pos ⟨rfl,hi⟩
theorem wC0 {h : List Ob} {n : Int} (hn : inH h n) (hk : (zW h n).kind ≠ 0) : yD h n = true := by
 obtain ⟨h0,h1⟩ := hn;simp only [yD,Bool.and_eq_true,decide_eq_true_eq,Bool.not_eq_true',decide_eq_false_iff_not];exact ⟨⟨h0,by omega⟩,hk⟩
theorem gq_of {h : List Ob} (g : Uh h) (hh : HpIn h) : Gq.Uh h := by
 have hS : ∀ {n : Int},inH h n → (zW h n).kind ≠ 0 → zJ h (rfV n) = zW h n := fun hn hk => objS_rf (wC0 hn hk);refine ⟨g.lo,by have := g.hi;omega,g.kind,g.cls,g.items,nm_it g,fun hn r hr => ((cok_of hh g hn).2 r hr).1,one_item g,fun hn hk => ?_,fun hn hk => ?_,nm_sz g,gc_items g hh,fun hn hk => ?_,c14_of g,ord_cls g,fun hn hk h49 => ord_hd g hn hk h49,fun {n} hn hk => ?_⟩
 ·have e := hS hn (by omega);have := meth_item g (v := rfV _) (by rw [e];exact hk);rw [e] at this;exact this
 ·have e := hS hn (by omega);have := prop_item g (a := rfV _) (by rw [e];exact hk);rw [e] at this;exact this
 ·have e := hS hn (by omega);have := su_links g (v := rfV _) (by rw [e];exact hk);rw [e] at this;exact this
 ·have e := hS hn (by omega);have hw : wokS h (rfV n) = true := by
   unfold wokS;rw [e];simp only [Bool.or_eq_true,Bool.and_eq_true,decide_eq_true_eq,Bool.not_eq_true',decide_eq_false_iff_not];rcases hk with hk | hk
   ·exact .inl hk
   ·exact .inr ⟨hk.1,by show ¬ n < 49;omega⟩
  have w := wr_of g hw;have h1 := w.hi;have h2 := w.nl;have h3 := w.il;have h4 := w.ni;have h5 := w.st;rw [e] at h2 h3 h4 h5;exact ⟨h1,h2,h3,h4,h5.1,by omega⟩
namespace Gq
theorem at_set {h : List Ob} {n m : Int} {o : Ob} (hn : inH h n) (hm : inH h m) : zW (h.set n.toNat o) m = if m = n then o else zW h m := by
 show (h.set n.toNat o).getD m.toNat ob0 = if m = n then o else h.getD m.toNat ob0;rw [List.getD_eq_getElem?_getD,List.getElem?_set];by_cases e : m = n
 ·subst e;rw [if_pos rfl,if_pos hm.2,if_pos rfl];rfl
 ·have hne : ¬ n.toNat = m.toNat := fun h9 => by
   have := hn.1;have := hm.1;omega
  rw [if_neg hne,if_neg e,List.getD_eq_getElem?_getD]
theorem in_set {h : List Ob} {n m : Int} {o : Ob} : inH (h.set n.toNat o) m ↔ inH h m := by
 unfold inH;rw [List.length_set]
structure Sm (h h' : List Ob) : Prop where
 len : h'.length = h.length
 kind : ∀ {m : Int},inH h m → (zW h' m).kind = (zW h m).kind
 name : ∀ {m : Int},inH h m → (zW h' m).name = (zW h m).name
 cls : ∀ {m : Int},inH h m → (zW h' m).cls = (zW h m).cls
 ord : ∀ {m : Int},inH h m → (zW h' m).order = (zW h m).order
theorem Sm.isO {h h' : List Ob} (s : Sm h h') (m : Int) : yD h' m = yD h m := by
 unfold yD;rw [s.len];by_cases hm : inH h m
 ·have := s.kind hm;have e : (h'.getD m.toNat ob0).kind = (h.getD m.toNat ob0).kind := this;rw [e]
 ·have : (decide (0 ≤ m) && decide (m < h.length)) = false := by
   rw [← Bool.not_eq_true,Bool.and_eq_true,decide_eq_true_eq,decide_eq_true_eq];exact fun h9 => hm ⟨h9.1,by omega⟩
  rw [this];rfl
theorem Sm.inH {h h' : List Ob} (s : Sm h h') {m : Int} : Go.Proofs.YtnajlcfdjjmfiaaGreatDoor.inH h' m ↔ Go.Proofs.YtnajlcfdjjmfiaaGreatDoor.inH h m := by
 unfold Go.Proofs.YtnajlcfdjjmfiaaGreatDoor.inH;rw [s.len]
theorem Sm.obj {h h' : List Ob} (s : Sm h h') (v : Vl) : (zJ h' v).kind = (zJ h v).kind ∧ (zJ h' v).name = (zJ h v).name ∧ (zJ h' v).cls = (zJ h v).cls ∧ (zJ h' v).order = (zJ h v).order := by
 unfold zJ;rw [s.isO];split
 ·rename_i h1;have hin := yB h1.2;exact ⟨s.kind hin,s.name hin,s.cls hin,s.ord hin⟩
 ·exact ⟨rfl,rfl,rfl,rfl⟩
theorem Sm.gc {h h' : List Ob} (s : Sm h h') {x : Vl} (hx : Gc h x) : Gc h' x := ⟨⟨hx.1.vin,fun hk => by rw [s.len];exact hx.1.r hk⟩,hx.2⟩
theorem Sm.su {h h' : List Ob} (s : Sm h h') (o : Ob) : suC h' o = suC h o := by
 unfold suC;rw [(s.obj _).1,(s.obj _).2.2.1]
theorem Sm.call {h h' : List Ob} (s : Sm h h') (v : Vl) : uG h' v = uG h v := by
 unfold uG;rw [(s.obj v).1]
theorem Uh.set {h : List Ob} (g : Uh h) {n : Int} {o : Ob} (hn : inH h n) (hw : ((zW h n).kind = 10 ∨ (zW h n).kind = 11) ∨ ((zW h n).kind = 9 ∧ 49 ≤ n)) (he : o = { zW h n with names := o.names,items := o.items,state := o.state })
  (hg : ∀ x ∈ o.items,Gc h x) (hr : ∀ x ∈ o.items,x.k = 6 → yD h x.r = true) (hl : o.names.length ≤ 200 ∧ o.items.length ≤ 1000 ∧ o.names.length = o.items.length ∧ 0 ≤ o.state ∧ o.state ≤ 1099511627776000) : Uh (h.set n.toNat o) ∧ Sm h (h.set n.toNat o) := by
 have hA : ∀ {m : Int},inH h m → zW (h.set n.toNat o) m = if m = n then o else zW h m := fun hm => at_set hn hm;have hS : Sm h (h.set n.toNat o) := by
  refine ⟨List.length_set,fun hm => ?_,fun hm => ?_,fun hm => ?_,fun hm => ?_⟩
  all_goals
   rw [hA hm];split
   ·rename_i e;subst e;rw [he]
   ·rfl
 have hno : ∀ {m : Int},inH h m → ¬ (((zW h m).kind = 10 ∨ (zW h m).kind = 11) ∨ (zW h m).kind = 9) → zW (h.set n.toNat o) m = zW h m := fun {m} hm hk => by
  rw [hA hm,if_neg];rintro rfl;exact hk (hw.imp id fun h9 => h9.1)
 refine ⟨⟨by rw [hS.len];exact g.lo,by rw [hS.len];exact g.hi,fun {m} hm => ?_,fun hm hk => ?_,fun {m} hm v hv hk => ?_,fun {m} hm => ?_,fun hm r hr' => ?_,fun hm hk => ?_,fun hm hk => ?_,fun hm hk => ?_,fun hm => ?_,fun {m} hm x hx => ?_,fun hm hk => ?_,fun hm hk => ?_,fun hm r hr' => ?_,fun hm hk h49 => ?_,fun {m} hm hk => ?_⟩,hS⟩
 ·rw [hS.isO] at hm;rw [hS.kind (yB hm)];exact g.kind hm
 ·have hm := hS.inH.1 hm;rw [hS.kind hm] at hk;rw [hS.cls hm];exact hS.inH.2 (g.cls hm hk)
 ·have hm := hS.inH.1 hm;rw [hS.isO];rw [hA hm] at hv;split at hv
  ·exact hr v hv hk
  ·exact g.items hm hv hk
 ·have hm := hS.inH.1 hm;rw [hA hm];split
  ·omega
  ·exact g.ni hm
 ·have hm := hS.inH.1 hm;rw [hS.ord hm] at hr';exact hS.inH.2 (g.ord hm r hr')
 ·have hm := hS.inH.1 hm;rw [hS.kind hm] at hk;rw [hno hm (by omega)];exact g.one hm hk
 ·have hm := hS.inH.1 hm;rw [hS.kind hm] at hk;rw [hno hm (by omega),hS.call];exact g.m8 hm hk
 ·have hm := hS.inH.1 hm;rw [hS.kind hm] at hk;rw [hno hm (by omega)];exact g.p12 hm hk
 ·have hm := hS.inH.1 hm;rw [hS.name hm];exact g.nm hm
 ·have hm := hS.inH.1 hm;rw [hA hm] at hx;split at hx
  ·exact hS.gc (hg x hx)
  ·exact hS.gc (g.gc hm x hx)
 ·have hm := hS.inH.1 hm;rw [hS.kind hm] at hk;have q := g.su hm hk;rw [hno hm (by omega),hS.su,(hS.obj _).1];exact ⟨q.1,hS.inH.2 q.2.1,by rw [hS.ord q.2.1];exact q.2.2.1,q.2.2.2⟩
 ·have hm := hS.inH.1 hm;rw [hS.kind hm] at hk;rw [hno hm (by omega),hS.call];exact g.c14 hm hk
 ·have hm := hS.inH.1 hm;rw [hS.ord hm] at hr';rw [hS.kind (g.ord hm r hr')];exact g.cl9 hm r hr'
 ·have hm := hS.inH.1 hm;rw [hS.kind hm] at hk;rw [hS.ord hm];exact g.hd9 hm hk h49
 ·have hm := hS.inH.1 hm;rw [hS.kind hm] at hk;have q := g.wr hm hk;rw [hA hm];split
  ·exact ⟨q.1,hl⟩
  ·exact q
end Gq
structure Alk (h h' : List Ob) (To Tc : ByteArray → Prop) : Prop where
 isO : ∀ {m : Int},yD h m = true → yD h' m = true
 obj : ∀ {u : Vl},(u.k = 6 → yD h u.r = true) → (zJ h' u).kind = (zJ h u).kind ∧ (zJ h' u).name = (zJ h u).name ∧ (zJ h' u).cls = (zJ h u).cls ∧ (zJ h' u).order = (zJ h u).order
 its : ∀ {u : Vl},(u.k = 6 → yD h u.r = true) → (zJ h u).kind = 12 ∨ (zJ h u).kind = 13 ∨ (zJ h u).kind = 14 → (zJ h' u).items = (zJ h u).items
 own : ∀ {u : Vl},(u.k = 6 → yD h u.r = true) → ∀ t,To t → jC (zJ h' u) t = jC (zJ h u) t ∧ jF (zJ h' u) t = jF (zJ h u) t
 cla : ∀ {c : Int},inH h c → (zW h c).kind = 9 → ∀ t,Tc t → jC (zW h' c) t = jC (zW h c) t ∧ jF (zW h' c) t = jF (zW h c) t
 nam : ∀ {c : Int},inH h c → (zW h' c).name = (zW h c).name ∧ (zW h' c).order = (zW h c).order ∧ (zW h' c).kind = (zW h c).kind ∧ (zW h' c).cls = (zW h c).cls
section
variable {h h' : List Ob} {To Tc : ByteArray → Prop} (A : Alk h h' To Tc) (g : Gq.Uh h) (hh : HpIn h)
include A
theorem Alk.fO {L : List Int} (hL : ∀ r ∈ L,inH h r ∧ (zW h r).kind = 9) {t : ByteArray} (ht : Tc t) : fdO h' L t = fdO h L t := by
 induction L with
 | nil => rfl
 | cons r L ih =>
  have h1 := hL r List.mem_cons_self;have h2 := (A.cla h1.1 h1.2 t ht).1;unfold Go.Proofs.YtnajlcfdjjmfiaaGreatDoor.fdO at ih ⊢;rw [List.find?_cons,List.find?_cons,h2,ih fun x hx => hL x (List.mem_cons_of_mem _ hx)]
theorem Alk.fV {L : List Int} (hL : ∀ r ∈ L,inH h r ∧ (zW h r).kind = 9) {t : ByteArray} (ht : Tc t) : fdV h' t (fdO h L t) = fdV h t (fdO h L t) := by
 cases hf : Go.Proofs.YtnajlcfdjjmfiaaGreatDoor.fdO h L t with
 | none => rfl
 | some r =>
  have h1 := hL r (List.mem_of_find?_eq_some hf);exact (A.cla h1.1 h1.2 t ht).2
theorem Alk.call {u : Vl} (hu : u.k = 6 → yD h u.r = true) : uG h' u = uG h u := by
 unfold uG;rw [(A.obj hu).1]
omit A in
theorem ords (g : Gq.Uh h) {c : Int} (hc : inH h c) : ∀ r ∈ (zW h c).order,inH h r ∧ (zW h r).kind = 9 := fun r hr => ⟨g.ord hc r hr,g.cl9 hc r hr⟩
omit A in
theorem xK0 (g : Gq.Uh h) {c : Int} (hc : inH h c) (s : ByteArray) : (fdV h s (fdO h (zW h c).order s)).k = 6 → yD h (fdV h s (fdO h (zW h c).order s)).r = true := by
 intro hk
 cases hf : Go.Proofs.YtnajlcfdjjmfiaaGreatDoor.fdO h (zW h c).order s with
 | none => rw [hf] at hk;exact absurd hk (show ¬ (0 : Int) = 6 by decide)
 | some r =>
  rw [hf] at hk;exact Gq.own_rv g (g.ord hc r (List.mem_of_find?_eq_some hf)) s hk
theorem Alk.sp (g : Gq.Uh h) {u : Vl} (hu : u.k = 6 → yD h u.r = true) {t : ByteArray} (ht : Tc t) : spS h' u t = spS h u t := by
 have ho := A.obj hu;unfold spS;rw [ho.1];by_cases hk : (zJ h u).kind = 10
 ·have hc := Gq.inst_cls g hk;have hL := ords g hc;rw [ho.2.2.1,(A.nam hc).2.1,A.fO hL ht,A.fV hL ht];have hf := xK0 g hc t;rw [A.call hf,(A.obj hf).1];rw [if_neg (show ¬ ¬ (zJ h u).kind = 10 from fun h9 => h9 hk),if_neg (show ¬ ¬ (zJ h u).kind = 10 from fun h9 => h9 hk)];split
  ·rfl
  ·split
   ·rfl
   ·split
    ·rename_i h13;rw [A.its hf (.inr (.inl h13))]
    ·split
     ·rename_i h14;rw [A.its hf (.inr (.inr h14))]
     ·rfl
 ·rw [if_pos hk,if_pos hk]
end
def Eqk (a b : St) : Prop := a.k = b.k ∧ a.s = b.s ∧ (b.v.k = 6 ∨ a.v = b.v)
theorem Eqk.of {a b : St} (h : a = b) : Eqk a b := by subst h;exact ⟨rfl,rfl,.inr rfl⟩
theorem uR0 {h h' : List Ob} {o o' : Ob} : Eqk (newS h' o').1 (newS h o).1 := ⟨rfl,rfl,.inl rfl⟩
section
variable {h h' : List Ob} {To Tc : ByteArray → Prop} (A : Alk h h' To Tc) (g : Gq.Uh h) (hR : Tc onR)
include A g hR
theorem Alk.bd {a v : Vl} {c : Int} {b : Bool} (ha : a.k = 6 → yD h a.r = true) : Eqk (bdS h' a v c b).1 (bdS h a v c b).1 := by
 unfold bdS;rw [A.call ha,(A.obj ha).1,A.sp g ha hR];split
 ·exact uR0
 ·split
  ·rename_i h13;rw [A.its ha (.inr (.inl h13))];exact Eqk.of rfl
  ·split
   ·exact uR0
   ·split
    ·exact Eqk.of rfl
    ·exact Eqk.of rfl
theorem Alk.wi (hW : Tc onW) (hM : Tc onM) {v a : Vl} {s : ByteArray} {ok : Bool} (hs : To s) (hv : v.k = 6 → yD h v.r = true) (hk : (zJ h v).kind = 10) (ha : a.k = 6 → yD h a.r = true) : Eqk (wiS h' v s a ok).1 (wiS h v s a ok).1 := by
 have ho := A.obj hv;have hq := A.own hv s hs;have hlk : lkS h' v s = lkS h v s := by
  unfold lkS whoS;have hv6 : v.k = 6 := (qA (h := h) (v := v) (by omega)).1;have hin := yB (hv hv6);have hcl : clA h' v = clA h v := by
   unfold clA ocS;rw [if_pos hv6,if_pos hv6,(A.nam hin).2.2.1,(A.nam hin).2.2.2]
  have hci : inH h (clA h v) := by
   unfold clA ocS;have e := (qA (h := h) (v := v) (by omega)).2.2;rw [if_pos hv6,if_pos (by rw [← e];exact hk),← e];exact Gq.inst_cls g hk
  rw [ho.1,ho.2.1,hcl,(A.nam hci).1]
 unfold wiS;rw [(A.obj ha).1,A.sp g ha hR,A.sp g ha hW,A.sp g hv hM,hq.1,hq.2,ho.2.2.1,hlk];split
 ·rename_i h1;unfold gtS;rw [A.its ha (.inl h1.2)];exact Eqk.of rfl
 ·split
  ·exact A.bd g hR ha
  ·split
   ·exact Eqk.of rfl
   ·split
    ·exact A.bd g hR ha
    ·split
     ·exact Eqk.of rfl
     ·exact Eqk.of rfl
omit g hR in
theorem Alk.lk9 {v : Vl} {s : ByteArray} (hk : (zJ h v).kind = 9 ∨ (zJ h v).kind = 11) : lkS h' v s = lkS h v s := by
 have hv := (qA (h := h) (v := v) (by omega)).2.1;have ho := A.obj (u := v) (fun _ => hv);unfold lkS whoS;rw [ho.1,ho.2.1];rcases hk with hk | hk
 ·rw [if_pos hk,if_pos hk]
 ·have n9 : ¬ (zJ h v).kind = 9 := by omega
  rw [if_neg n9,if_neg n9,if_pos hk,if_pos hk]
theorem Alk.gat (hW : Tc onW) (hM : Tc onM) {v : Vl} {s : ByteArray} (hs : To s) (hsc : Tc s) (hk : (zJ h v).kind = 10 ∨ (zJ h v).kind = 9 ∨ (zJ h v).kind = 11) : Eqk (jP h' v s).1 (jP h v s).1 := by
 obtain ⟨h6,hob,e⟩ := qA (h := h) (v := v) (by omega);have hin := yB hob;have hv : v.k = 6 → yD h v.r = true := fun _ => hob;have ho := A.obj hv;have hq := A.own hv s hs;unfold jP;rw [ho.1,hq.1,hq.2];rcases hk with hk | hk | hk
 ·have hc := Gq.inst_cls g hk;have hL := ords g hc;rw [if_pos hk,if_pos hk,ho.2.2.1,(A.nam hc).2.1,A.fO hL hsc,A.fV hL hsc];exact A.wi g hR hW hM hs hv hk (xK0 g hc s)
 ·have n10 : ¬ (zJ h v).kind = 10 := by omega
  rw [if_neg n10,if_neg n10,if_pos hk,if_pos hk];have hL : ∀ r ∈ (zJ h v).order,inH h r ∧ (zW h r).kind = 9 := by rw [e];exact ords g hin
  have hf : (fdV h s (fdO h (zJ h v).order s)).k = 6 → yD h (fdV h s (fdO h (zJ h v).order s)).r = true := by rw [e];exact xK0 g hin s
  unfold clsS;rw [ho.2.1,ho.2.2.2,A.fO hL hsc,A.fV hL hsc,A.lk9 (.inl hk)];split
  ·exact Eqk.of rfl
  ·split
   ·exact uR0
   ·split
    ·exact A.bd g hR hf
    ·exact Eqk.of rfl
 ·have n10 : ¬ (zJ h v).kind = 10 := by omega
  have n9 : ¬ (zJ h v).kind = 9 := by omega
  rw [if_neg n10,if_neg n9,if_neg n10,if_neg n9,if_pos hk,if_pos hk,A.lk9 (.inr hk)];split
  ·exact Eqk.of rfl
  ·exact Eqk.of rfl
end
theorem wW {α : Type} [DecidableEq α] (x : α) (l : List α) (n : α) : ixI (x :: l) n = if n = x then 0 else if ixI l n < 0 then -1 else ixI l n + 1 := rfl
theorem tS {α : Type} [DecidableEq α] : ∀ (l : List α) (s t : α),t ≠ s → ixI (l ++ [s]) t = ixI l t
 | [],s,t,h => by
  show ixI (s :: []) t = -1;rw [wW,if_neg h,if_pos (by show (-1 : Int) < 0;omega)]
 | x :: l,s,t,h => by
  rw [List.cons_append,wW,wW,tS l s t h]
theorem pB {α : Type} [DecidableEq α] : ∀ (l : List α) (s : α),ixI l s < 0 → ixI (l ++ [s]) s = l.length
 | [],s,_ => by
  show ixI (s :: []) s = 0;rw [wW,if_pos rfl]
 | x :: l,s,h => by
  rw [wW] at h;rw [List.cons_append,wW];split at h
  ·omega
  ·rename_i h1;split at h
   ·rename_i h2;have ih := pB l s h2;rw [if_neg h1,ih,if_neg (by omega),List.length_cons];omega
   ·omega
theorem zB0 {α : Type} [DecidableEq α] : ∀ (l : List α) (n : α),0 ≤ ixI l n → l[(ixI l n).toNat]? = some n
 | [],_,h => by
  have : (0 : Int) ≤ -1 := h;omega
 | x :: l,n,h => by
  rw [wW] at h ⊢;split
  ·rename_i h1;rw [h1];rfl
  ·rename_i h1;rw [if_neg h1] at h;split at h
   ·omega
   ·rename_i h2;rw [if_neg h2];have ih := zB0 l n (by omega);rw [show (ixI l n + 1).toNat = (ixI l n).toNat + 1 by omega,List.getElem?_cons_succ];exact ih
theorem pN0 (o : Ob) {s t : ByteArray} (w : Vl) (h : t ≠ s) (hl : o.names.length = o.items.length) : jC (jB o s w) t = jC o t ∧ jF (jB o s w) t = jF o t := by
 unfold jB;split
 ·rename_i h1;have e := tS o.names s t h;have hlt := pP o.names t;unfold jC jF;show decide (0 ≤ ixI (o.names ++ [s]) t) = _ ∧ (if ixI (o.names ++ [s]) t < 0 then vl0 else (o.items ++ [w]).getD (ixI (o.names ++ [s]) t).toNat vl0) = _;rw [e];refine ⟨rfl,?_⟩;split
  ·rfl
  ·rw [List.getD_eq_getElem?_getD,List.getD_eq_getElem?_getD,List.getElem?_append_left (by omega)]
 ·rename_i h1;unfold jC jF;show decide (0 ≤ ixI o.names t) = _ ∧ (if ixI o.names t < 0 then vl0 else (o.items.set (ixI o.names s).toNat w).getD (ixI o.names t).toNat vl0) = _;refine ⟨rfl,?_⟩;split
  ·rfl
  ·rename_i h2;have hne : ¬ (ixI o.names s).toNat = (ixI o.names t).toNat := fun h9 => by
    have e1 := zB0 o.names s (by omega);have e2 := zB0 o.names t (by omega);rw [h9,e2] at e1;exact h (Option.some.inj e1)
   rw [List.getD_eq_getElem?_getD,List.getD_eq_getElem?_getD,List.getElem?_set,if_neg hne]
theorem put_eqV (o : Ob) (s : ByteArray) (w : Vl) (hl : o.names.length = o.items.length) : jC (jB o s w) s = true ∧ jF (jB o s w) s = w := by
 unfold jB;split
 ·rename_i h1;have e := pB o.names s h1;unfold jC jF;show decide (0 ≤ ixI (o.names ++ [s]) s) = true ∧ (if ixI (o.names ++ [s]) s < 0 then vl0 else (o.items ++ [w]).getD (ixI (o.names ++ [s]) s).toNat vl0) = w;rw [e];refine ⟨by simp,?_⟩;rw [if_neg (by omega),Int.toNat_natCast,hl,List.getD_eq_getElem?_getD,List.getElem?_append_right (Nat.le_refl _),Nat.sub_self];rfl
 ·rename_i h1;have hlt := pP o.names s;unfold jC jF;show decide (0 ≤ ixI o.names s) = true ∧ (if ixI o.names s < 0 then vl0 else (o.items.set (ixI o.names s).toNat w).getD (ixI o.names s).toNat vl0) = w;refine ⟨decide_eq_true (by omega),?_⟩;rw [if_neg h1,List.getD_eq_getElem?_getD,List.getElem?_set,if_pos rfl,if_pos (by omega)];rfl
theorem cY {h : List Ob} {n : Int} {o2 : Ob} {u : Vl} (hn : inH h n) (S : Gq.Sm h (h.set n.toNat o2)) (hu : u.k = 6 → yD h u.r = true) : zJ (h.set n.toNat o2) u = if u.k = 6 ∧ u.r = n then o2 else zJ h u := by
 by_cases h6 : u.k = 6
 ·have hi := hu h6;rw [show zJ (h.set n.toNat o2) u = zW (h.set n.toNat o2) u.r from if_pos ⟨h6,by rw [S.isO];exact hi⟩,Gq.at_set hn (yB hi),show zJ h u = zW h u.r from if_pos ⟨h6,hi⟩];by_cases e : u.r = n
  ·rw [if_pos e,if_pos ⟨h6,e⟩]
  ·rw [if_neg e,if_neg (fun h9 => e h9.2)]
 ·rw [gU h6,gU h6,if_neg (fun h9 => h6 h9.1)]
theorem mE0 {h : List Ob} {n : Int} {o2 : Ob} {To Tc : ByteArray → Prop} (hn : yD h n = true) (hk : ((zW h n).kind = 10 ∨ (zW h n).kind = 11) ∨ (zW h n).kind = 9) (S : Gq.Sm h (h.set n.toNat o2))
  (hTo : ∀ t,To t → jC o2 t = jC (zW h n) t ∧ jF o2 t = jF (zW h n) t) (hTc : (zW h n).kind = 9 → ∀ t,Tc t → jC o2 t = jC (zW h n) t ∧ jF o2 t = jF (zW h n) t) : Alk h (h.set n.toNat o2) To Tc := by
 have hin := yB hn;refine ⟨fun hm => by rw [S.isO];exact hm,fun {u} _ => S.obj u,fun {u} hu hk2 => ?_,fun {u} hu t ht => ?_,fun {c} hc hk9 t ht => ?_,fun {c} hc => ⟨S.name hc,S.ord hc,S.kind hc,S.cls hc⟩⟩
 ·rw [cY hin S hu,if_neg];rintro ⟨h6,e⟩;rw [show zJ h u = zW h u.r from if_pos ⟨h6,hu h6⟩,e] at hk2;omega
 ·rw [cY hin S hu];split
  ·rename_i h9;rw [show zJ h u = zW h u.r from if_pos ⟨h9.1,hu h9.1⟩,h9.2];exact hTo t ht
  ·exact ⟨rfl,rfl⟩
 ·rw [Gq.at_set hin hc];split
  ·rename_i e;subst e;exact hTc hk9 t ht
  ·exact ⟨rfl,rfl⟩
theorem uA {h : List Ob} {o : Ob} {m : Int} (hm : inH h m) : zW (h ++ [o]) m = zW h m := by
 show (h ++ [o]).getD m.toNat ob0 = h.getD m.toNat ob0;rw [List.getD_eq_getElem?_getD,List.getD_eq_getElem?_getD,List.getElem?_append_left hm.2]
theorem zE0 {h : List Ob} {o : Ob} {m : Int} (hm : yD h m = true) : yD (h ++ [o]) m = true := by
 have hin := yB hm;have e := uA (o := o) hin;unfold yD at hm ⊢;rw [show (h ++ [o]).getD m.toNat ob0 = h.getD m.toNat ob0 from e];simp only [Bool.and_eq_true,decide_eq_true_eq] at hm ⊢;refine ⟨⟨hm.1.1,?_⟩,hm.2⟩;have := hm.1.2;rw [List.length_append,List.length_singleton];omega
theorem gK {h : List Ob} {o : Ob} {u : Vl} (hu : u.k = 6 → yD h u.r = true) : zJ (h ++ [o]) u = zJ h u := by
 by_cases h6 : u.k = 6
 ·rw [show zJ (h ++ [o]) u = zW (h ++ [o]) u.r from if_pos ⟨h6,zE0 (hu h6)⟩,show zJ h u = zW h u.r from if_pos ⟨h6,hu h6⟩,uA (yB (hu h6))]
 ·rw [gU h6,gU h6]
theorem mF0 {h : List Ob} {o : Ob} {To Tc : ByteArray → Prop} : Alk h (h ++ [o]) To Tc := by
 refine ⟨zE0,fun {u} hu => ?_,fun {u} hu _ => by rw [gK hu],fun {u} hu t _ => ?_,fun {c} hc _ t _ => ?_,fun {c} hc => ?_⟩
 ·rw [gK hu];exact ⟨rfl,rfl,rfl,rfl⟩
 ·rw [gK hu];exact ⟨rfl,rfl⟩
 ·rw [uA hc];exact ⟨rfl,rfl⟩
 ·rw [uA hc];exact ⟨rfl,rfl,rfl,rfl⟩
theorem Alk.trans {h h1 h2 : List Ob} {To Tc : ByteArray → Prop} (A : Alk h h1 To Tc) (B : Alk h1 h2 To Tc) (hl : ∀ {c : Int},inH h c → inH h1 c) : Alk h h2 To Tc := by
 refine ⟨fun hm => B.isO (A.isO hm),fun {u} hu => ?_,fun {u} hu hk => ?_,fun {u} hu t ht => ?_,fun {c} hc hk t ht => ?_,fun {c} hc => ?_⟩
 ·have a := A.obj hu;have b := B.obj (u := u) fun h6 => A.isO (hu h6);exact ⟨b.1.trans a.1,b.2.1.trans a.2.1,b.2.2.1.trans a.2.2.1,b.2.2.2.trans a.2.2.2⟩
 ·have a := A.obj hu;rw [B.its (u := u) (fun h6 => A.isO (hu h6)) (by rw [a.1];exact hk),A.its hu hk]
 ·have a := A.own hu t ht;have b := B.own (u := u) (fun h6 => A.isO (hu h6)) t ht;exact ⟨b.1.trans a.1,b.2.trans a.2⟩
 ·have a := A.cla hc hk t ht;have b := B.cla (hl hc) (by rw [(A.nam hc).2.2.1];exact hk) t ht;exact ⟨b.1.trans a.1,b.2.trans a.2⟩
 ·have a := A.nam hc;have b := B.nam (hl hc);exact ⟨b.1.trans a.1,b.2.1.trans a.2.1,b.2.2.1.trans a.2.2.1,b.2.2.2.trans a.2.2.2⟩
theorem cut_put (o : Ob) (s : ByteArray) (w : Vl) (hl : o.names.length = o.items.length) (h0 : ixI o.names s < 0) : (cutO (jB o s w) s).names = o.names ∧ (cutO (jB o s w) s).items = o.items := by
 have e := pB o.names s h0;unfold cutO jB;rw [if_pos h0];show (o.names ++ [s]).eraseIdx (ixI (o.names ++ [s]) s).toNat = _ ∧ (o.items ++ [w]).eraseIdx (ixI (o.names ++ [s]) s).toNat = _;rw [e,Int.toNat_natCast];constructor
 ·rw [List.eraseIdx_append_of_length_le (Nat.le_refl _),Nat.sub_self];simp
 ·rw [hl,List.eraseIdx_append_of_length_le (Nat.le_refl _),Nat.sub_self];simp
namespace Gq
theorem vV {h : List Ob} {o : Ob} {m : Int} (hm : inH (h ++ [o]) m) : inH h m ∨ (zW (h ++ [o]) m = o ∧ m = (h.length : Nat)) := by
 obtain ⟨h0,h1⟩ := hm;rw [List.length_append,List.length_singleton] at h1;by_cases hl : m.toNat < h.length
 ·exact .inl ⟨h0,hl⟩
 ·have e : m.toNat = h.length := by omega
  refine .inr ⟨?_,by omega⟩;show (h ++ [o]).getD m.toNat ob0 = o;rw [List.getD_eq_getElem?_getD,e,List.getElem?_append_right (Nat.le_refl _),Nat.sub_self];rfl
theorem uD0 {h : List Ob} {o : Ob} {m : Int} (hm : inH h m) : inH (h ++ [o]) m := ⟨hm.1,by rw [List.length_append];have := hm.2;omega⟩
theorem dA0 {h : List Ob} {o : Ob} {x : Vl} (hx : Gc h x) : Gc (h ++ [o]) x := ⟨⟨hx.1.vin,fun hk => by have := hx.1.r hk;rw [List.length_append];push_cast;omega⟩,hx.2⟩
theorem Uh.app {h : List Ob} (g : Uh h) {o : Ob} (hk : o.kind = 8 ∨ o.kind = 1) (hn : o.names = []) (ho : o.order = []) (hnm : o.name.size ≤ 700) (hg : ∀ x ∈ o.items,Gc h x) (hr : ∀ x ∈ o.items,x.k = 6 → yD h x.r = true)
  (h8 : o.kind = 8 → 0 < o.items.length ∧ uG h (o.items.getD 0 vl0) = true) (hl : h.length < 100000) : Uh (h ++ [o]) := by
 have hcs : ∀ {u : Vl},(u.k = 6 → yD h u.r = true) → uG (h ++ [o]) u = uG h u := fun hu => by unfold uG;rw [gK hu]
 have hit : ∀ {n : Int},inH h n → ∀ k,((zW h n).items.getD k vl0).k = 6 → yD h ((zW h n).items.getD k vl0).r = true := fun {n} hn k h6 => by
  by_cases hk : k < (zW h n).items.length
  ·refine g.items hn ?_ h6;rw [List.getD_eq_getElem?_getD,List.getElem?_eq_getElem hk];exact List.getElem_mem hk
  ·rw [List.getD_eq_getElem?_getD,List.getElem?_eq_none (by omega)] at h6;exact absurd h6 (show ¬ (0 : Int) = 6 by decide)
 refine ⟨by rw [List.length_append];have := g.lo;omega,by rw [List.length_append,List.length_singleton];omega,fun {n} hm => ?_,fun {n} hm hk9 => ?_,fun {n} hm v hv h6 => ?_,fun {n} hm => ?_,fun {n} hm r hr9 => ?_,fun {n} hm hk9 => ?_,fun {n} hm hk9 => ?_,fun {n} hm hk9 => ?_,fun {n} hm => ?_,fun {n} hm x hx => ?_,fun {n} hm hk9 => ?_,fun {n} hm hk9 => ?_,fun {n} hm r hr9 => ?_,fun {n} hm hk9 h49 => ?_,fun {n} hm hk9 => ?_⟩
 ·rcases vV (yB hm) with hi | ⟨e,_⟩
  ·have hm' : yD h n = true := by
    have hk0 : (zW (h ++ [o]) n).kind ≠ 0 := fun h9 => by
     unfold yD at hm;rw [show ((h ++ [o]).getD n.toNat ob0).kind = 0 from h9] at hm;simp at hm
    rw [uA hi] at hk0;exact wC0 hi hk0
   rw [uA hi];exact g.kind hm'
  ·rw [e];omega
 ·rcases vV hm with hi | ⟨e,_⟩
  ·rw [uA hi] at hk9 ⊢;exact uD0 (g.cls hi hk9)
  ·rw [e] at hk9;omega
 ·rcases vV hm with hi | ⟨e,_⟩
  ·rw [uA hi] at hv;exact zE0 (g.items hi hv h6)
  ·rw [e] at hv;exact zE0 (hr v hv h6)
 ·rcases vV hm with hi | ⟨e,_⟩
  ·rw [uA hi];exact g.ni hi
  ·rw [e,hn];exact Nat.zero_le _
 ·rcases vV hm with hi | ⟨e,_⟩
  ·rw [uA hi] at hr9;exact uD0 (g.ord hi r hr9)
  ·rw [e,ho] at hr9;cases hr9
 ·rcases vV hm with hi | ⟨e,_⟩
  ·rw [uA hi] at hk9 ⊢;exact g.one hi hk9
  ·rw [e] at hk9;omega
 ·rcases vV hm with hi | ⟨e,_⟩
  ·rw [uA hi] at hk9 ⊢;rw [hcs (hit hi 0)];exact g.m8 hi hk9
  ·rw [e] at hk9 ⊢;have q := h8 hk9;rw [hcs fun h6 => hr _ (by rw [List.getD_eq_getElem?_getD,List.getElem?_eq_getElem q.1];exact List.getElem_mem q.1) h6];exact q
 ·rcases vV hm with hi | ⟨e,_⟩
  ·rw [uA hi] at hk9 ⊢;exact g.p12 hi hk9
  ·rw [e] at hk9;omega
 ·rcases vV hm with hi | ⟨e,_⟩
  ·rw [uA hi];exact g.nm hi
  ·rw [e];exact hnm
 ·rcases vV hm with hi | ⟨e,_⟩
  ·rw [uA hi] at hx;exact dA0 (g.gc hi x hx)
  ·rw [e] at hx;exact dA0 (hg x hx)
 ·rcases vV hm with hi | ⟨e,_⟩
  ·rw [uA hi] at hk9 ⊢;have q := g.su hi hk9;have e1 := gK (o := o) (hit hi 1);have e2 : suC (h ++ [o]) (zW h n) = suC h (zW h n) := by unfold suC;rw [e1]
   rw [e2,e1,uA q.2.1];exact ⟨q.1,uD0 q.2.1,q.2.2⟩
  ·rw [e] at hk9;omega
 ·rcases vV hm with hi | ⟨e,_⟩
  ·rw [uA hi] at hk9 ⊢;rw [hcs (hit hi 0)];exact g.c14 hi hk9
  ·rw [e] at hk9;omega
 ·rcases vV hm with hi | ⟨e,_⟩
  ·rw [uA hi] at hr9;rw [uA (g.ord hi r hr9)];exact g.cl9 hi r hr9
  ·rw [e,ho] at hr9;cases hr9
 ·rcases vV hm with hi | ⟨e,_⟩
  ·rw [uA hi] at hk9 ⊢;exact g.hd9 hi hk9 h49
  ·rw [e] at hk9;omega
 ·rcases vV hm with hi | ⟨e,_⟩
  ·rw [uA hi] at hk9 ⊢;exact g.wr hi hk9
  ·rw [e] at hk9;omega
end Gq
namespace Sr
open Go.RowKit
theorem yT0 {o o' : Ob} (hn : o'.names = o.names) (hi : o'.items = o.items) (t : ByteArray) : jC o' t = jC o t ∧ jF o' t = jF o t := by
 unfold jC jF;rw [hn,hi];exact ⟨rfl,rfl⟩
theorem dI0 (o : Ob) : (vC o).names = o.names := by unfold vC;split <;> rfl
theorem dJ0 (o : Ob) : (vC o).items = o.items := by unfold vC;split <;> rfl
theorem kX0 (o : Ob) : (vC o).state = o.state ∨ (vC o).state = o.state + 1 := by
 unfold vC;split
 ·exact .inr rfl
 ·exact .inl rfl
theorem dO0 {h : List Ob} (g : Gq.Uh h) {v : Vl} (hw : wokS h v = true) : ((zW h v.r).kind = 10 ∨ (zW h v.r).kind = 11) ∨ ((zW h v.r).kind = 9 ∧ 49 ≤ v.r) := by
 have wr := Gq.wr_of g hw;unfold wokS at hw;rw [wr.eo] at hw;simp only [Bool.or_eq_true,Bool.and_eq_true,decide_eq_true_eq,Bool.not_eq_true',decide_eq_false_iff_not] at hw;exact hw.imp id fun h9 => ⟨h9.1,by omega⟩
theorem chg {h : List Ob} (g : Gq.Uh h) (hh : HpIn h) {v : Vl} (hw : wokS h v = true) {o : Ob} (he : o = { zJ h v with names := o.names,items := o.items,state := o.state })
  (hg : ∀ x ∈ o.items,Gc h x) (hr : ∀ x ∈ o.items,x.k = 6 → yD h x.r = true) (hz : ∀ x ∈ o.names,x.size ≤ 2000000)
  (hl : o.names.length ≤ 200 ∧ o.items.length ≤ 1000 ∧ o.names.length = o.items.length ∧ 0 ≤ o.state ∧ o.state ≤ 1099511627776000) :
  Gq.Uh (h.set v.r.toNat o) ∧ HpIn (h.set v.r.toNat o) ∧ Gq.Sm h (h.set v.r.toNat o) := by
 have wr := Gq.wr_of g hw;rw [wr.eo] at he;have hs := g.set wr.inr (dO0 g hw) he hg hr hl;refine ⟨hs.1,⟨fun x hx => ?_,by rw [List.length_set];exact hh.len⟩,hs.2⟩;rcases List.mem_or_eq_of_mem_set hx with h1 | h1
 ·exact hh.ob x h1
 ·rw [h1,he];have oi := hh.at v.r;exact ⟨oi.kd,oi.cl,oi.co,(by show -9223372036854775808 ≤ o.state ∧ o.state ≤ 9223372036854775807;omega),oi.nm,oi.rl,oi.ol,(by show o.names.length ≤ 2000000;omega),(by show o.items.length ≤ 2000000;omega),oi.kl,hz,fun x hx => (hg x hx).1.vin,oi.kv⟩
theorem vM0 {h : List Ob} (g : Gq.Uh h) {a : Vl} : ∀ x ∈ (zJ h a).items,x.k = 6 → yD h x.r = true := fun x hx h6 => by
 by_cases hk : a.k = 6 ∧ yD h a.r = true
 ·rw [show zJ h a = zW h a.r from if_pos hk] at hx;exact g.items (yB hk.2) hx h6
 ·rw [show zJ h a = ob0 from if_neg hk] at hx
  cases hx
theorem tH0 {h : List Ob} (g : Gq.Uh h) {a : Vl} (k : Nat) : ((zJ h a).items.getD k vl0).k = 6 → yD h ((zJ h a).items.getD k vl0).r = true := fun h6 => by
 rw [List.getD_eq_getElem?_getD] at h6 ⊢
 cases hq : (zJ h a).items[k]? with
 | none => rw [hq] at h6;exact absurd h6 (show ¬ (0 : Int) = 6 by decide)
 | some x => rw [hq] at h6;exact vM0 g x (List.mem_of_getElem? hq) h6
structure NwO (h : List Ob) (o : Ob) : Prop where
 kd : o.kind = 8 ∨ o.kind = 1
 nm : o.names = []
 od : o.order = []
 sz : o.name.size ≤ 700
 gc : ∀ x ∈ o.items,Gc h x
 rf : ∀ x ∈ o.items,x.k = 6 → yD h x.r = true
 m8 : o.kind = 8 → 0 < o.items.length ∧ uG h (o.items.getD 0 vl0) = true
 oc : ObC (h.length + 1) o
 co : cO o ≤ 100000000
def Nw (h h' : List Ob) : Prop := h' = h ∨ ∃ o,h' = h ++ [o] ∧ NwO h o
theorem bE0 {h : List Ob} {f u : Vl} (hf : Gc h f) (hu : Gc h u) (rf : f.k = 6 → yD h f.r = true) (ru : u.k = 6 → yD h u.r = true) (hc : uG h f = true) : NwO h (mtO f u) := by
 have hl : ∀ x ∈ [f,u],Gc h x := fun x hx => by
  simp only [List.mem_cons,List.not_mem_nil,or_false] at hx;rcases hx with rfl | rfl
  ·exact hf
  ·exact hu
 refine ⟨.inl rfl,rfl,rfl,by show ByteArray.empty.size ≤ 700;decide,hl,fun x hx => ?_,fun _ => ⟨by show 0 < 2;omega,hc⟩,(gY0 (k := 8) (.inl rfl) hl (by show 2 ≤ 1000;omega)).1,(gY0 (k := 8) (.inl rfl) hl (by show 2 ≤ 1000;omega)).2⟩;have hx : x ∈ [f,u] := hx;simp only [List.mem_cons,List.not_mem_nil,or_false] at hx;rcases hx with rfl | rfl
 ·exact rf
 ·exact ru
theorem bP0 {h : List Ob} (g : Gq.Uh h) (hh : HpIn h) {a v : Vl} {c : Int} {b : Bool} (ha : Gc h a) (ra : a.k = 6 → yD h a.r = true) (hv : Gc h v) (rv : v.k = 6 → yD h v.r = true) (hc : yD h c = true) : Nw h (bdS h a v c b).2 := by
 unfold bdS;split
 ·rename_i h1;rw [Bool.and_eq_true] at h1;exact .inr ⟨_,rfl,bE0 ha hv ra rv h1.2⟩
 ·split
  ·exact .inl rfl
  ·split
   ·rename_i h14;have hl := g.hi;obtain ⟨_,ho,e⟩ := qA (h := h) (v := a) (by omega);refine .inr ⟨_,rfl,bE0 (Gq.gc_obj g hh a |> fun q => wY q 0) (qK0 (yB hc) (by omega)) (tH0 g 0) (fun _ => hc) ?_⟩;rw [e] at h14 ⊢;exact g.c14 (yB ho) h14
   ·split
    ·exact .inl rfl
    ·exact .inl rfl
theorem nw_ok {h h' : List Ob} (n : Nw h h') (g : Gq.Uh h) (hh : HpIn h) (hl : h.length < 100000) : Gq.Uh h' ∧ HpIn h' := by
 rcases n with rfl | ⟨o,rfl,q⟩
 ·exact ⟨g,hh⟩
 ·refine ⟨g.app q.kd q.nm q.od q.sz q.gc q.rf q.m8 hl,fun x hx => ?_,by rw [List.length_append,List.length_singleton];omega⟩;rcases List.mem_append.1 hx with h1 | h1
  ·exact hh.ob x h1
  ·rw [List.mem_singleton.1 h1];exact q.oc.oin
theorem nw_alk {h h' : List Ob} (n : Nw h h') {To Tc : ByteArray → Prop} : Alk h h' To Tc := by
 rcases n with rfl | ⟨o,rfl,_⟩
 ·exact ⟨id,fun _ => ⟨rfl,rfl,rfl,rfl⟩,fun _ _ => rfl,fun _ _ _ => ⟨rfl,rfl⟩,fun _ _ _ _ => ⟨rfl,rfl⟩,fun _ => ⟨rfl,rfl,rfl,rfl⟩⟩
 ·exact mF0
theorem nw_obj {h h' : List Ob} (n : Nw h h') {u : Vl} (hu : u.k = 6 → yD h u.r = true) : zJ h' u = zJ h u := by
 rcases n with rfl | ⟨o,rfl,_⟩
 ·rfl
 ·exact gK hu
theorem bi_gc {h : List Ob} {c : Int} {s : ByteArray} (hc : inH h c) (g : Gq.Uh h) (hs : s.size ≤ 100) : Gc h (biV ((zW h c).name ++ dotB ++ s)) := by
 have h2 := g.nm hc;have q1 : dotB.size ≤ 100 := by decide
 refine ⟨⟨⟨(by decide : (-9223372036854775808 : Int) ≤ 7),(by decide : (7 : Int) ≤ 9223372036854775807),(by decide : (-9223372036854775808 : Int) ≤ 0),(by decide : (0 : Int) ≤ 9223372036854775807),(fun _ h => by cases h),(fun _ h => by cases h),(by decide : 0 ≤ 2000000),(by decide : 0 ≤ 2000000),?_⟩,fun hk => absurd hk (by show ¬ (7 : Int) = 6;decide)⟩,?_⟩
 ·show ((zW h c).name ++ dotB ++ s).size ≤ 2000000;rw [ByteArray.size_append,ByteArray.size_append];omega
 ·have e : cV (biV ((zW h c).name ++ dotB ++ s)) = 60 + 10 * ((zW h c).name ++ dotB ++ s).size + 8 * 0 + 8 * 0 := rfl;rw [ByteArray.size_append,ByteArray.size_append] at e;omega
theorem gat_nw {h : List Ob} (g : Gq.Uh h) (hh : HpIn h) {v : Vl} {s : ByteArray} (hv : Gc h v) (rv : v.k = 6 → yD h v.r = true) (hs : s.size ≤ 100) (hcl : inH h (clA h v)) (hc : (zJ h v).kind = 10 → yD h (zJ h v).cls = true)
  (hol : (zJ h v).kind = 9 → (zJ h v).order.length ≤ 1000) (hsu : (zJ h v).kind = 15 → yD h (suC h (zJ h v)) = true) : Nw h (jP h v s).2 := by
 have hhl := g.hi;unfold jP;split
 ·rename_i hk;have hci := hc hk;have hL := ords g (yB hci);have ha := Gq.gc_fd g hh (L := (zW h (zJ h v).cls).order) (fun r hr => (hL r hr).1) s;have ra := xK0 g (yB hci) s;unfold wiS;repeat' split
  all_goals first | exact .inl rfl | exact bP0 g hh ha ra hv rv hci
 ·split
  ·rename_i hk;obtain ⟨h6,ho,e⟩ := qA (h := h) (v := v) (by omega);have hin := yB ho;have hL : ∀ r ∈ (zJ h v).order,inH h r ∧ (zW h r).kind = 9 := by rw [e];exact ords g hin
   unfold clsS;split
   ·exact .inl rfl
   ·split
    ·have hl : ∀ x ∈ (zJ h v).order.map rfV,Gc h x := fun x hx => by
      obtain ⟨r,hr,rfl⟩ := List.mem_map.1 hx;exact qK0 (hL r hr).1 (by omega)
     have q := gY0 (k := 1) (.inr rfl) hl (by rw [List.length_map];exact hol hk);refine .inr ⟨_,rfl,.inr rfl,rfl,rfl,by show ByteArray.empty.size ≤ 700;decide,hl,fun x hx _ => ?_,fun h8 => absurd h8 (by show ¬ (1 : Int) = 8;decide),q.1,q.2⟩;obtain ⟨r,hr,rfl⟩ := List.mem_map.1 hx;exact wC0 (hL r hr).1 (by show (zW h r).kind ≠ 0;rw [(hL r hr).2];decide)
    ·split
     ·exact bP0 g hh (Gq.gc_fd g hh (fun r hr => (hL r hr).1) s) (by rw [e];exact xK0 g hin s) (gc_0 h) (fun h9 => absurd h9 (show ¬ (0 : Int) = 6 by decide)) ho
     ·exact .inl rfl
  ·split
   ·split
    ·exact .inl rfl
    ·exact .inl rfl
   ·split
    ·rename_i hk;have hci := hsu hk;have hin := yB hci;have hL : ∀ r ∈ aftL (zW h (suC h (zJ h v))).order ((zJ h v).items.getD 0 vl0).r,inH h r ∧ (zW h r).kind = 9 := fun r hr => ords g hin r (List.mem_of_mem_drop hr);have ha := Gq.gc_fd g hh (L := aftL (zW h (suC h (zJ h v))).order ((zJ h v).items.getD 0 vl0).r) (fun r hr => (hL r hr).1) s;have ra : (fdV h s (suA h (zJ h v) s)).k = 6 → yD h (fdV h s (suA h (zJ h v) s)).r = true := by
      intro hk6
      cases hf : suA h (zJ h v) s with
      | none => rw [hf] at hk6;exact absurd hk6 (show ¬ (0 : Int) = 6 by decide)
      | some r =>
       rw [hf] at hk6;exact Gq.own_rv g (hL r (List.mem_of_find?_eq_some hf)).1 s hk6
     have hw := wY (Gq.gc_obj g hh v) 1;have rw1 := tH0 g (a := v) 1;unfold upS;repeat' split
     all_goals first | exact .inl rfl | exact bP0 g hh ha ra hw rw1 hci
    ·unfold biS;split
     ·exact .inl rfl
     ·split
      ·refine .inr ⟨_,rfl,bE0 (bi_gc hcl g hs) hv (fun h9 => absurd h9 (show ¬ (7 : Int) = 6 by decide)) rv ?_⟩;unfold uG;rw [decide_eq_true (show (biV ((zW h (clA h v)).name ++ dotB ++ s)).k = 7 from rfl)];rfl
      ·exact .inl rfl
def Pr (h : List Ob) (v : Vl) (s : ByteArray) : Prop := (zJ h v).kind = 10 → (chO h v s).isSome = true → (zJ h (chV h v s)).kind = 7 ∨ (chV h v s).k = 2
theorem Pr.no {h : List Ob} {v : Vl} {s : ByteArray} (P : Pr h v s) (hk : (zJ h v).kind = 10) (hi : (chO h v s).isSome = true) (t : ByteArray) : ¬ (zJ h (chV h v s)).kind = 12 ∧ (spS h (chV h v s) t).2.2 = false := by
 have hn : ¬ (zJ h (chV h v s)).kind = 12 ∧ ¬ (zJ h (chV h v s)).kind = 10 := by
  rcases P hk hi with h1 | h1
  ·omega
  ·rw [gU (by omega)];exact ⟨show ¬ (0 : Int) = 12 by decide,show ¬ (0 : Int) = 10 by decide⟩
 refine ⟨hn.1,?_⟩;unfold spS;rw [if_pos hn.2]
theorem Pr.alk {h h' : List Ob} {To Tc : ByteArray → Prop} (A : Alk h h' To Tc) (g : Gq.Uh h) {v : Vl} {s : ByteArray} (hv : v.k = 6 → yD h v.r = true) (P : Pr h v s) (hT : (zJ h v).kind = 10 → Tc s) : Pr h' v s := by
 intro hk hi;rw [(A.obj hv).1] at hk;have hc := Gq.inst_cls g hk;have hL := ords g hc;have ho : chO h' v s = chO h v s := by
  unfold chO;rw [(A.obj hv).2.2.1,(A.nam hc).2.1,A.fO hL (hT hk)]
 have hV : chV h' v s = chV h v s := by
  unfold chV;rw [ho];exact A.fV hL (hT hk)
 rw [ho] at hi;rw [hV,(A.obj (u := chV h v s) (xK0 g hc s)).1];exact P hk hi
theorem got {h : List Ob} (g : Gq.Uh h) {v w : Vl} {s : ByteArray} (P : Pr h v s) (hk : (zJ h v).kind = 10 ∨ (zJ h v).kind = 9 ∨ (zJ h v).kind = 11) (ho : jC (zJ h v) s = true) (hw : jF (zJ h v) s = w)
  (h9 : (zJ h v).kind = 9 → ¬ w.k = 6 ∧ ¬ s = wI ∧ ¬ s = ordB ∧ 49 ≤ v.r) : jP h v s = (vlS w,h) := by
 obtain ⟨h6,hob,e⟩ := qA (h := h) (v := v) (by omega);unfold jP;rcases hk with hk | hk | hk
 ·rw [if_pos hk];unfold wiS;rw [if_neg,if_neg,if_pos ho,hw]
  ·exact fun h1 => by
    have := (P.no hk h1.1 onR).2;have h2 := h1.2.1;rw [show (spS h (fdV h s (fdO h (zW h (zJ h v).cls).order s)) onR).2.2 = (spS h (chV h v s) onR).2.2 from rfl,this] at h2
    cases h2
  ·exact fun h1 => (P.no hk h1.1 onR).1 h1.2
 ·obtain ⟨hw6,hn1,hn2,h49⟩ := h9 hk;rw [if_neg (by omega),if_pos hk];unfold clsS;have hd := g.hd9 (yB hob) (by rw [← e];exact hk) h49;rw [← e] at hd;have hf : fdO h (zJ h v).order s = some v.r := by
   unfold fdO
   cases hq : (zJ h v).order with
   | nil => rw [hq] at hd;cases hd
   | cons x l =>
    rw [hq] at hd;have hx : x = v.r := by simpa using hd
    subst hx;rw [List.find?_cons_of_pos];rw [← e];exact ho
  rw [if_neg hn1,if_neg hn2,hf,if_pos (show (some v.r).isSome = true from rfl)];have hV : fdV h s (some v.r) = w := by
   show jF (zW h v.r) s = w;rw [← e];exact hw
  rw [hV];have hz := gU (h := h) hw6;unfold bdS;rw [if_neg (by simp),hz,if_neg (show ¬ ob0.kind = 13 by decide),if_neg (show ¬ ob0.kind = 14 by decide),if_neg];unfold spS;rw [hz,if_pos (show ¬ ob0.kind = 10 by decide)];exact Bool.false_ne_true
 ·rw [if_neg (by omega),if_neg (by omega),if_pos hk,if_pos ho,hw]
theorem del_eq {h : List Ob} {v : Vl} {s : ByteArray} (hw : wokS h v = true) (P : Pr h v s) (hf : fixS h v s = false) (hi : ¬ ixI (zJ h v).names s < 0) : delS h v s = (vlS vl0,h.set v.r.toNat (vC (cutO (zJ h v) s))) := by
 unfold delS chS;rw [if_neg (by rw [hw];decide),if_neg (fun h1 => (P.no h1.1 h1.2.1 onEr).1 h1.2.2.1),if_neg (fun h1 => (P.no h1.1 h1.2.1 onEr).1 h1.2.2),if_neg (fun h1 => by have := (P.no h1.1 h1.2.1 onEr).2;rw [this] at h1;cases h1.2.2)];unfold chF delF;rw [if_neg (by rw [hf];decide),if_neg hi]
theorem set_inv {h : List Ob} {v w : Vl} {s : ByteArray} (hk : (setS h v s w).1.k = 0) : wokS h v = true ∧ fixS h v s = false ∧ ¬ (ixI (zJ h v).names s < 0 ∧ 200 ≤ (zJ h v).names.length) ∧ setS h v s w = (vlS vl0,h.set v.r.toNat (vC (jB (zJ h v) s w))) := by
 have n1 : ∀ m : ByteArray,¬ (raS 36 m).k = 0 := fun _ => show ¬ (1 : Int) = 0 by decide
 have n2 : ∀ m : ByteArray,¬ (raS 42 m).k = 0 := fun _ => show ¬ (1 : Int) = 0 by decide
 have n3 : ∀ (f : Vl) (l : List Vl),¬ (caS f l).k = 0 := fun _ _ => show ¬ (2 : Int) = 0 by decide
 unfold setS chS at hk ⊢;split at hk
 ·exact absurd hk (n1 _)
 ·rename_i h1;rw [if_neg h1];split at hk
  ·exact absurd hk (n1 _)
  ·rename_i h2;rw [if_neg h2];split at hk
   ·exact absurd hk (n3 _ _)
   ·rename_i h3;rw [if_neg h3];split at hk
    ·exact absurd hk (n3 _ _)
    ·rename_i h4;rw [if_neg h4];unfold chF setF at hk ⊢;split at hk
     ·exact absurd hk (n1 _)
     ·rename_i h5;rw [if_neg h5];split at hk
      ·exact absurd hk (n2 _)
      ·rename_i h6;rw [if_neg h6];exact ⟨by simpa using h1,by simpa using h5,h6,rfl⟩
theorem put_mem (o : Ob) (s : ByteArray) (w : Vl) : (∀ x ∈ (jB o s w).items,x ∈ o.items ∨ x = w) ∧ (∀ x ∈ (jB o s w).names,x ∈ o.names ∨ x = s) := by
 unfold jB;split
 ·exact ⟨fun x hx => (List.mem_append.1 hx).imp id List.mem_singleton.1,fun x hx => (List.mem_append.1 hx).imp id List.mem_singleton.1⟩
 ·exact ⟨fun x hx => List.mem_or_eq_of_mem_set hx,fun x hx => .inl hx⟩
theorem put_len (o : Ob) (s : ByteArray) (w : Vl) (hl : o.names.length = o.items.length) (hr : ¬ (ixI o.names s < 0 ∧ 200 ≤ o.names.length)) (hn : o.names.length ≤ 200) : (jB o s w).names.length ≤ 200 ∧ (jB o s w).names.length = (jB o s w).items.length := by
 unfold jB;split
 ·show (o.names ++ [s]).length ≤ 200 ∧ (o.names ++ [s]).length = (o.items ++ [w]).length;rw [List.length_append,List.length_append,List.length_singleton,List.length_singleton];omega
 ·show o.names.length ≤ 200 ∧ o.names.length = (o.items.set _ w).length;rw [List.length_set];omega
theorem i_cls {h : List Ob} (g : Uh h) {v : Vl} (hk : (zJ h v).kind = 10) : (zW h (zJ h v).cls).kind = 9 := by
 obtain ⟨h6,ho,e⟩ := qA (h := h) (v := v) (by omega);have hin := yB ho;rw [e] at hk ⊢;by_cases h49 : v.r.toNat < 49
 ·rw [show zW h v.r = bgO v.r.toNat from g.lo_at h49] at hk;have h9 : (bgO v.r.toNat).kind = 9 := rfl;omega
 ·have u := g.hi_at (i := v.r.toNat) (by omega) hin.2;rw [← uJ hin] at u;have hl := u.links;rw [qY,if_neg (by omega),if_neg (by omega),if_neg (by omega),if_neg (by omega),if_neg (by omega),if_pos hk] at hl;simp only [Bool.and_eq_true,decide_eq_true_eq] at hl;exact hl.1.1
end Sr
namespace Sr
def Kd (h : List Ob) (v : Vl) : Prop := (zJ h v).kind = 10 ∨ (zJ h v).kind = 9 ∨ (zJ h v).kind = 11
theorem put_kind (o : Ob) (s : ByteArray) (w : Vl) : (vC (jB o s w)).kind = o.kind := by
 unfold vC jB;repeat' split
 all_goals rfl
theorem kI0 {h h' : List Ob} {To Tc : ByteArray → Prop} (A : Alk h h' To Tc) (g : Gq.Uh h) {v : Vl} {s : ByteArray} (hv : v.k = 6 → yD h v.r = true) : fixS h' v s = fixS h v s := by
 unfold fixS;have e := A.obj hv;rw [e.1];by_cases hk : (zJ h v).kind = 10
 ·rw [e.2.2.1,(A.nam (Gq.inst_cls g hk)).2.1]
 ·by_cases h9 : (zJ h v).kind = 9
  ·rw [if_pos h9,if_pos h9]
  ·rw [if_neg h9,if_neg h9,if_neg hk,if_neg hk]
theorem xP0 {h h' : List Ob} {To Tc : ByteArray → Prop} (A : Alk h h' To Tc) {v : Vl} (hv : v.k = 6 → yD h v.r = true) : wokS h' v = wokS h v := by
 unfold wokS;rw [(A.obj hv).1]
theorem bF {h h' : List Ob} {To Tc : ByteArray → Prop} (A : Alk h h' To Tc) {v : Vl} (hv : hasS h v = true) : hasS h' v = true := by
 have hr := uC hv;unfold hasS at hv ⊢;rw [Bool.and_eq_true] at hv ⊢;refine ⟨hv.1,?_⟩;by_cases h6 : v.k = 6
 ·rw [A.isO (hr h6)];simp
 ·rw [decide_eq_false h6];rfl
theorem back {h : List Ob} (g : Uh h) (gq : Gq.Uh h) (hh : HpIn h) {v : Vl} (hw : wokS h v = true) {o : Ob} (he : o = { zJ h v with state := o.state }) (hst : 0 ≤ o.state ∧ o.state ≤ 1099511627776000) : Alk h (h.set v.r.toNat o) (fun _ => True) (fun _ => True) := by
 have wr := Gq.wr_of gq hw;have e1 : o.names = (zJ h v).names := by rw [he]
 have e2 : o.items = (zJ h v).items := by rw [he]
 have q := chg gq hh hw (o := o) (by rw [e1,e2];exact he) (by rw [e2];exact Gq.gc_obj gq hh v) (by rw [e2];exact vM0 gq) (by rw [e1,wr.eo];exact (hh.at v.r).ns) ⟨by rw [e1];exact wr.nl,by rw [e2];exact wr.il,by rw [e1,e2];exact wr.ni,hst⟩;refine mE0 wr.ob ((dO0 gq hw).imp id fun h9 => h9.1) q.2.2 (fun t _ => ?_) (fun _ t _ => ?_)
 ·rw [← wr.eo];exact yT0 e1 e2 t
 ·rw [← wr.eo];exact yT0 e1 e2 t
theorem ol_in {h : List Ob} (g : Uh h) {n : Int} (hin : inH h n) : (zW h n).order.length ≤ 1000 := by
 by_cases h49 : n.toNat < 49
 ·rw [show zW h n = bgO n.toNat from g.lo_at h49];have h1 := (kZ0 h49).1;have h2 : cO (bgO n.toNat) = 120 + 10 * (bgO n.toNat).name.size + ((bgO n.toNat).names.map fun s => s.size + 1).sum + 23 * (bgO n.toNat).refs.length + 23 * (bgO n.toNat).order.length + cVs (bgO n.toNat).keys + cVs (bgO n.toNat).items := rfl;omega
 ·have u := g.hi_at (i := n.toNat) (by omega) hin.2;rw [← uJ hin] at u;have := order_le u.shape u.order;omega
theorem ol_uh {h : List Ob} (g : Uh h) (v : Vl) : (zJ h v).order.length ≤ 1000 := by
 by_cases hk : v.k = 6 ∧ yD h v.r = true
 ·rw [show zJ h v = zW h v.r from if_pos hk];exact ol_in g (yB hk.2)
 ·rw [show zJ h v = ob0 from if_neg hk];exact Nat.zero_le _
theorem law {h : List Ob} (g : Uh h) (hh : HpIn h) {v w : Vl} {s t : ByteArray} (hiv : VlIn v) (hiw : VlIn w) (hv : hasS h v = true) (hw : hasS h w = true) (hs : s.size ≤ 100) (ht : t.size ≤ 100) (hne : t ≠ s) (hk : Kd h v) (P : Pr h v s)
  (h9 : (zJ h v).kind = 9 → ¬ w.k = 6 ∧ onR ≠ s ∧ onW ≠ s ∧ onM ≠ s) (hk0 : (setS h v s w).1.k = 0) :
  ∃ H1,setS h v s w = (vlS vl0,H1) ∧ Gq.Uh H1 ∧ HpIn H1 ∧ hasS H1 v = true ∧ jP H1 v s = (vlS w,H1) ∧ (jP H1 v t).1.k = (jP h v t).1.k ∧ (jP H1 v t).1.s = (jP h v t).1.s ∧
  ∃ H3,(jP H1 v t).2 = H3 ∧ Gq.Uh H3 ∧ HpIn H3 ∧ hasS H3 v = true ∧ (jC (zJ h v) s = false →
   ∃ H4,delS H3 v s = (vlS vl0,H4) ∧ Gq.Uh H4 ∧ HpIn H4 ∧ hasS H4 v = true ∧ Eqk (jP H4 v s).1 (jP h v s).1) := by
 have gq := gq_of g hh;obtain ⟨hwk,hfx,hroom,hset⟩ := set_inv hk0;have wr0 := wr_of g hwk;have wr := Gq.wr_of gq hwk;have hgv := tJ0 (pX0 hiv hv);have hgw := tJ0 (pX0 hiw hw);have hrv := uC hv;have hnl := wr.nl;have hpl := put_len (zJ h v) s w wr.ni hroom hnl;have hpm := put_mem (zJ h v) s w;have hst : 0 ≤ (vC (jB (zJ h v) s w)).state ∧ (vC (jB (zJ h v) s w)).state ≤ 1099511627777 := by
  have := wr0.st;rcases kX0 (jB (zJ h v) s w) with e | e
  ·rw [e,gM0];omega
  ·rw [e,gM0];omega
 obtain ⟨O1,hO1⟩ : ∃ O1,O1 = vC (jB (zJ h v) s w) := ⟨_,rfl⟩;have eN : O1.names = (jB (zJ h v) s w).names := by rw [hO1];exact dI0 _
 have eI : O1.items = (jB (zJ h v) s w).items := by rw [hO1];exact dJ0 _
 have eK : O1.kind = (zJ h v).kind := by rw [hO1];exact put_kind _ _ _
 have eS : 0 ≤ O1.state ∧ O1.state ≤ 1099511627777 := by rw [hO1];exact hst
 have eO : O1 = { zJ h v with names := O1.names,items := O1.items,state := O1.state } := by
  rw [hO1];unfold vC jB;repeat' split
  all_goals rfl
 have c1 := chg gq hh hwk (o := O1) eO
  (by
   rw [eI];intro x hx;rcases hpm.1 x hx with h1 | h1
   ·exact Gq.gc_obj gq hh v x h1
   ·rw [h1];exact hgw)
  (by
   rw [eI];intro x hx;rcases hpm.1 x hx with h1 | h1
   ·exact vM0 gq x h1
   ·rw [h1];exact uC hw)
  (by
   rw [eN];intro x hx;rcases hpm.2 x hx with h1 | h1
   ·rw [wr.eo] at h1;exact (hh.at v.r).ns x h1
   ·rw [h1];omega)
  ⟨by rw [eN];exact hpl.1,by rw [eI,← hpl.2];have := hpl.1;omega,by rw [eN,eI];exact hpl.2,eS.1,by have := eS.2;omega⟩
 rw [← hO1] at hset;obtain ⟨H1,hH1⟩ : ∃ H1,H1 = h.set v.r.toNat O1 := ⟨_,rfl⟩;rw [← hH1] at c1 hset;obtain ⟨g1,hh1,S1⟩ := c1;have hob1 : zJ H1 v = O1 := by
  rw [hH1,cY wr.inr (by rw [← hH1];exact S1) hrv,if_pos ⟨wr.k6,rfl⟩]
 have A1 : Alk h H1 (fun u => u ≠ s) (fun u => (zJ h v).kind = 9 → u ≠ s) := by
  have S2 := S1;rw [hH1] at S2 ⊢;refine mE0 wr.ob ((dO0 gq hwk).imp id fun h9 => h9.1) S2 (fun u hu => ?_) (fun h9 u hu => ?_)
  ·rw [← wr.eo];have e1 := yT0 eN eI u;have e2 := pN0 (zJ h v) w hu wr.ni;exact ⟨e1.1.trans e2.1,e1.2.trans e2.2⟩
  ·rw [← wr.eo] at h9 ⊢;have e1 := yT0 eN eI u;have e2 := pN0 (zJ h v) w (hu h9) wr.ni;exact ⟨e1.1.trans e2.1,e1.2.trans e2.2⟩
 have ho1 : jC (zJ H1 v) s = true ∧ jF (zJ H1 v) s = w := by
  rw [hob1];have e1 := yT0 eN eI s;have e2 := put_eqV (zJ h v) s w wr.ni;exact ⟨e1.1.trans e2.1,e1.2.trans e2.2⟩
 have hk1 : Kd H1 v := by unfold Kd;rw [hob1,eK];exact hk
 have P1 : Pr H1 v s := P.alk A1 gq hrv fun hk h9 => by omega
 have hrv1 : v.k = 6 → yD H1 v.r = true := fun h6 => A1.isO (hrv h6);have hgv1 : Gc H1 v := S1.gc hgv;have hb9 : (zJ h v).kind = 9 → ¬ s = wI ∧ ¬ s = ordB ∧ 49 ≤ v.r := fun hk9 => by
  refine ⟨fun e => ?_,fun e => ?_,?_⟩
  ·unfold fixS at hfx;rw [if_pos hk9,decide_eq_true e] at hfx
   cases hfx
  ·unfold fixS at hfx;rw [if_pos hk9,decide_eq_true e,Bool.or_true] at hfx
   cases hfx
  ·have h1 := wr.hi;omega
 have hG1 := got g1 P1 hk1 ho1.1 ho1.2 (fun hk9 => by
  rw [hob1,eK] at hk9;have q := hb9 hk9;exact ⟨(h9 hk9).1,q⟩)
 have E2 : Eqk (jP H1 v t).1 (jP h v t).1 := A1.gat gq (fun hk9 => (h9 hk9).2.1) (fun hk9 => (h9 hk9).2.2.1) (fun hk9 => (h9 hk9).2.2.2) hne (fun _ => hne) hk;have hcl1 : (zJ H1 v).kind = 10 → yD H1 (zJ H1 v).cls = true := fun hk10 => by
  rw [(S1.obj v).1] at hk10;rw [(S1.obj v).2.2.1,S1.isO];exact wC0 (inst_cls g hk10) (by rw [i_cls g hk10];decide)
 have hol1 : (zJ H1 v).kind = 9 → (zJ H1 v).order.length ≤ 1000 := fun hk9 => by
  rw [(S1.obj v).1] at hk9;rw [(S1.obj v).2.2.2];exact ol_uh g v
 have hv1 := bF A1 hv;have hn3 := gat_nw g1 hh1 (s := t) hgv1 hrv1 ht (Gq.clA_in g1 (Gq.cf_of g1 hv1)) hcl1 hol1 (fun hk15 => by rw [hob1,eK] at hk15;unfold Kd at hk;omega);have hl1 : H1.length < 100000 := by rw [S1.len];have := g.hi;omega
 obtain ⟨H3,hH3⟩ : ∃ H3,H3 = (jP H1 v t).2 := ⟨_,rfl⟩;rw [← hH3] at hn3;have q3 := nw_ok hn3 g1 hh1 hl1;have A13 : Alk H1 H3 (fun _ => True) (fun _ => True) := nw_alk hn3;refine ⟨H1,hset,g1,hh1,bF A1 hv,hG1,E2.1,E2.2.1,H3,hH3.symm,q3.1,q3.2,bF A13 (bF A1 hv),fun hown => ?_⟩;have g3 := q3.1;have hh3 := q3.2;have hwk1 : wokS H1 v = true := (xP0 A1 hrv).trans hwk;have hwk3 : wokS H3 v = true := (xP0 A13 hrv1).trans hwk1;have hfx3 : fixS H3 v s = false := (kI0 A13 g1 hrv1).trans ((kI0 A1 gq hrv).trans hfx);have P3 : Pr H3 v s := P1.alk A13 g1 hrv1 fun _ => trivial;have hob3 : zJ H3 v = O1 := (nw_obj hn3 hrv1).trans hob1;have hi0 : ixI (zJ h v).names s < 0 := by
  unfold jC at hown;have := of_decide_eq_false hown;omega
 have hi3 : ¬ ixI (zJ H3 v).names s < 0 := by
  have h1 := ho1.1;rw [hob1] at h1;rw [hob3];unfold jC at h1;have := of_decide_eq_true h1;omega
 have hdel := del_eq hwk3 P3 hfx3 hi3;rw [hob3] at hdel;obtain ⟨O4,hO4⟩ : ∃ O4,O4 = vC (cutO O1 s) := ⟨_,rfl⟩;rw [← hO4] at hdel;have hcp := cut_put (zJ h v) s w wr.ni hi0;have e4n : O4.names = (zJ h v).names := by
  rw [hO4,dI0,← hcp.1];unfold cutO;show O1.names.eraseIdx (ixI O1.names s).toNat = _;rw [eN]
 have e4i : O4.items = (zJ h v).items := by
  rw [hO4,dJ0,← hcp.2];unfold cutO;show O1.items.eraseIdx (ixI O1.names s).toNat = _;rw [eN,eI]
 have e4s : 0 ≤ O4.state ∧ O4.state ≤ 1099511627778 := by
  have e : (cutO O1 s).state = O1.state := rfl;rcases kX0 (cutO O1 s) with e1 | e1
  ·rw [hO4,e1,e];omega
  ·rw [hO4,e1,e];omega
 have e4 : O4 = { O1 with names := O4.names,items := O4.items,state := O4.state } := by
  rw [hO4];unfold vC cutO;split <;> rfl
 have e4h : O4 = { zJ h v with state := O4.state } := by
  rw [e4,eO,e4n,e4i]
 have c4 := chg g3 hh3 hwk3 (o := O4) (by rw [hob3];exact e4)
  (by
   rw [e4i];intro x hx;have q := Gq.gc_obj gq hh v x hx;refine ⟨⟨q.1.vin,fun h6 => ?_⟩,q.2⟩;have h1 := q.1.r h6;have h2 : h.length ≤ H3.length := by
    rw [← S1.len];rcases hn3 with e | ⟨o,e,_⟩
    ·rw [e];exact Nat.le_refl _
    ·rw [e,List.length_append];omega
   omega)
  (by rw [e4i];intro x hx h6;exact A13.isO (A1.isO (vM0 gq x hx h6)))
  (by rw [e4n,wr.eo];exact (hh.at v.r).ns)
  ⟨by rw [e4n];exact wr.nl,by rw [e4i];exact wr.il,by rw [e4n,e4i];exact wr.ni,e4s.1,by have := e4s.2;omega⟩
 obtain ⟨H4,hH4⟩ : ∃ H4,H4 = H3.set v.r.toNat O4 := ⟨_,rfl⟩;rw [← hH4] at c4 hdel;have A4 : Alk h H4 (fun _ => True) (fun _ => True) := by
  have B := back g gq hh hwk e4h ⟨e4s.1,by have := e4s.2;omega⟩;rcases hn3 with e | ⟨o,e,_⟩
  ·rw [hH4,e,hH1,List.set_set];exact B
  ·have hl : v.r.toNat < (h.set v.r.toNat O1).length := by rw [List.length_set];exact wr.inr.2
   rw [hH4,e,hH1,List.set_append_left _ _ hl,List.set_set];exact B.trans mF0 fun hc => Gq.in_set.2 hc
 exact ⟨H4,hdel,c4.1,c4.2.1,bF A4 hv,A4.gat gq trivial trivial trivial trivial trivial hk⟩
end Sr
variable {md me : Bool}
def pfS (s p : ByteArray) : Bool := decide (p.size ≤ s.size) && decide (s.extract 0 p.size = p)
def on_ : ByteArray := ⟨#[111,110,95]⟩
theorem HasPrefixL_ok (s p : ByteArray) (hs : s.size ≤ 1000000) (hp : p.size ≤ 1000000) : Fn Tryz.prog 20 [.v (.string s),.v (.string p)] (.v (.bool (pfS s p))) := by
 refine yQ zP Tryz.func20 rfl rfl rfl rfl rfl rfl ?_;intro w0 s0 mx;refine zN 100 ?_;refine zN 200 ?_;refine zL ?_;exact FinV.ret rfl (SubP.bool (by simp [pfS]))
theorem HasPrefix_ok (s p : ByteArray) (hs : s.size ≤ 1000000) (hp : p.size ≤ 1000000) : Fn Tryz.prog 8 [.v (.string s),.v (.string p)] (.v (.bool (pfS s p))) := by
 refine yQ zP Tryz.func8 rfl rfl rfl rfl rfl rfl ?_;intro w0 s0 mx;refine zN 100 ?_;refine zB (zE zP [] 200 rfl ?_);refine zF ?_;refine zQ _ (HasPrefixL_ok _ _ (by first | assumption | omega | (simp_all;done)) (by first | assumption | omega | (simp_all;done))) rfl ?_;refine zF ?_;refine zC (zA (zL ?_));exact FinV.ret rfl (SubP.refl _)
set_option maxHeartbeats 4000000 in
theorem Law15_ok (h : List Ob) (v : Vl) (s t : ByteArray) (w : Vl) (hh : HpIn h) (hiv : VlIn v) (hiw : VlIn w) : Fn Tryz.prog 3 [hpD md h,.agg (vlD v),.v (.string s),.v (.string t),.agg (vlD w)] (.v (.bool true)) := by
 have hhl := hh.len;refine yQ zP Tryz.func3 rfl rfl rfl rfl rfl rfl ?_;intro w0 s0 mx;refine zN 100 ?_;refine zB ?_;refine zB (zE zP [] 200 rfl ?_);refine zF ?_;refine zQ _ ((Usable_ok h [v,w] hh (fun u hu => by
   simp only [List.mem_cons,List.not_mem_nil,or_false] at hu;rcases hu with rfl | rfl
   ·exact hiv
   ·exact hiw) (by show 2 ≤ 2000000;decide)).args ⟨SubP.refl _,SubP.slrSl rfl,trivial⟩) rfl ?_
 refine zF ?_;refine yU _ (fun hg8 => bX _) rfl ?_;refine zF ?_;refine yU _ (fun hg13 => bX _) rfl ?_;refine zF ?_;refine zC (zA (zS rfl (fun c1 => ?_) (fun c1 => ?_)))
 ·
  refine zN 300 ?_;refine zL (zK ?_);exact FinV.ret rfl (SubP.refl _)
 ·have hu : mM h [v,w] = true ∧ vA s = true ∧ vA t = true ∧ ¬ s = t := by
   have h9 := c1;simp at h9;exact ⟨h9.1.1.1,h9.1.1.2,h9.1.2,h9.2⟩
  have hq : (jN h).1 = 0 ∧ hasS h v = true ∧ hasS h w = true := by
   have hu1 := hu.1;simp only [mM,Bool.and_eq_true,decide_eq_true_eq,List.all_cons,List.all_nil] at hu1;exact ⟨hu1.1,hu1.2.1,hu1.2.2.1⟩
  have g : Uh h := uh_of hq.1;have hv := hq.2.1;have hw := hq.2.2;have hs : s.size ≤ 100 := by have := gV hu.2.1;omega
  have ht : t.size ≤ 100 := by have := gV hu.2.2.1;omega
  have hne : t ≠ s := fun e => hu.2.2.2 e.symm;have cB := atGetV_G h v t hh g hv hiv ht;have cD := atGetV_G h v s hh g hv hiv hs;have cS := Set_G h v s w hh g hv hs;obtain ⟨Hb,hHb⟩ : ∃ H,H = (jP h v t).2 := ⟨_,rfl⟩;obtain ⟨Rb,hRb⟩ : ∃ R,R = (jP h v t).1 := ⟨_,rfl⟩;rw [← hHb,← hRb] at cB;obtain ⟨Hd,hHd⟩ : ∃ H,H = (jP h v s).2 := ⟨_,rfl⟩;obtain ⟨Rd,hRd⟩ : ∃ R,R = (jP h v s).1 := ⟨_,rfl⟩;rw [← hHd,← hRd] at cD;obtain ⟨Hs,hHs⟩ : ∃ H,H = (setS h v s w).2 := ⟨_,rfl⟩;obtain ⟨Rs,hRs⟩ : ∃ R,R = (setS h v s w).1 := ⟨_,rfl⟩;rw [← hHs,← hRs] at cS;refine zO (zA ?_);refine zB (zE zP [] 400 rfl ?_);refine zF ?_;refine zQ _ (uT _ _) rfl ?_;refine zF ?_;refine zC (zA ?_);refine dC (ι := {_u : Unit // Sr.Kd h v ∧ Sr.Pr h v s ∧ ((zJ h v).kind = 9 → ¬ w.k = 6 ∧ onR ≠ s ∧ onW ≠ s ∧ onM ≠ s)}) [2,3,5,6,9,11] [0,1,2,203] 1600 (fun _ => []) (fun _ => []) ?_;refine ⟨?_,fun j => ?_⟩
  ·refine zN 500 ?_;refine zU (zN 700 ?_);refine zS rfl (fun c6 => ?_) (fun c6 => ?_)
   ·have c6k : (zJ h v).kind = 10 := by simpa using c6
    have hcin := inst_cls g c6k;refine zB (zE zP [] 800 rfl ?_);refine zF ?_;refine zQ _ (Inherited_ok h (zJ h v).cls s hh hcin (cok_of hh g hcin)) rfl ?_;refine zF ?_;refine zC (zA ?_);refine zB (zE zP [] 900 rfl ?_);refine zF ?_;refine yU _ (fun hg4 => uT _ _) rfl ?_;refine zF ?_;refine zC (zA (zS rfl (fun c8 => ?_) (fun c8 => ?_)))
    ·
     refine zN 1000 ?_;refine zL (zM ?_);refine xA ?_;exact FinV.ret rfl (SubP.refl _)
    ·
     refine zO (zR ?_);have hj0 : Sr.Kd h v ∧ Sr.Pr h v s ∧ ((zJ h v).kind = 9 → ¬ w.k = 6 ∧ onR ≠ s ∧ onW ≠ s ∧ onM ≠ s) := ⟨.inl c6k,fun _ hi => by
       by_cases h7 : (zJ h (chV h v s)).kind = 7
       ·exact .inl h7
       ·refine .inr ?_;have h8 := c8;simp at h8;exact h8 hi h7,fun h9 => by omega⟩
     exact jZ ⟨(),hj0⟩ ⟨yR,yM,rfl,rfl⟩
   ·have c6k : ¬ (zJ h v).kind = 10 := by simpa using c6
    refine zN 1100 ?_;refine zS rfl (fun c10 => ?_) (fun c10 => ?_)
    ·have c10k : (zJ h v).kind = 11 := by simpa using c10
     refine zO (zR ?_);have hj0 : Sr.Kd h v ∧ Sr.Pr h v s ∧ ((zJ h v).kind = 9 → ¬ w.k = 6 ∧ onR ≠ s ∧ onW ≠ s ∧ onM ≠ s) := ⟨.inr (.inr c10k),fun h9 => by omega,fun h9 => by omega⟩;exact jZ ⟨(),hj0⟩ ⟨yR,yM,rfl,rfl⟩
    ·have c10k : ¬ (zJ h v).kind = 11 := by simpa using c10
     refine zN 1200 ?_;refine zS rfl (fun c11 => ?_) (fun c11 => ?_)
     ·have c11k : (zJ h v).kind = 9 := by simpa using c11
      refine zB (zE zP [] 1300 rfl ?_);refine zF ?_;refine yU _ (fun hg5 => HasPrefix_ok s on_ (by omega) (by decide)) rfl ?_;refine zF ?_;refine zC (zA (zS rfl (fun c12 => ?_) (fun c12 => ?_)))
      ·
       refine zN 1400 ?_;refine zL (zM ?_);refine xA ?_;exact FinV.ret rfl (SubP.refl _)
      ·have c12k : ¬ w.k = 6 ∧ onR ≠ s ∧ onW ≠ s ∧ onM ≠ s := by
        have h8 := c12;simp at h8;refine ⟨h8.1,?_,?_,?_⟩
        all_goals
         intro e;rw [← e] at h8;exact absurd h8.2 (by decide)
       refine zO (zR ?_);have hj0 : Sr.Kd h v ∧ Sr.Pr h v s ∧ ((zJ h v).kind = 9 → ¬ w.k = 6 ∧ onR ≠ s ∧ onW ≠ s ∧ onM ≠ s) := ⟨.inr (.inl c11k),fun h9 => by omega,fun _ => c12k⟩;exact jZ ⟨(),hj0⟩ ⟨yR,yM,rfl,rfl⟩
     ·
      refine zN 1300 ?_;refine zL (zM ?_);refine xA ?_;exact FinV.ret rfl (SubP.refl _)
  have hj := j.2;refine zB (zE zP [1085] 1700 rfl ?_);refine zF ?_;refine yS _ _ (mJ0 h hh) rfl ?_;refine zF ?_;refine zC (zA ?_);refine yN [2,3,5,6,9,11,14] [0,1,2,203,1602] 1710 [] [(1601,.mrow 36 10 (.map h obD ob0)),(1602,.box 24 [.mo 1601 h.length])] ?_;refine ⟨⟨yR,⟨SubO.mp rfl,⟨rfl,SubL.same rfl⟩,yM⟩,rfl,rfl⟩,?_⟩;refine zB (zE zP [1088] 1800 rfl ?_);refine zF ?_;refine yS _ _ (cB) rfl ?_;refine zF ?_;refine zC (zA ?_);refine yN [2,3,5,6,9,11,14,15] [0,1,2,203,1602,1713] 1810 [] [(1601,.mrow 36 10 (.map Hb obD ob0)),(1602,.box 24 [.mo 1601 Hb.length]),(1713,.box 43 (stD Rb))] ?_;refine ⟨⟨yR,⟨SubO.mp rfl,⟨rfl,Sub.mo rfl,rfl,trivial⟩,⟨rfl,SubL.same rfl⟩,yM⟩,rfl,rfl⟩,?_⟩;refine zB (zE zP [1090] 1900 rfl ?_);refine zF ?_;refine yS _ _ (mJ0 h hh) rfl ?_;refine zF ?_;refine zC (zA ?_);refine yN [2,3,5,6,9,11,14,15] [0,1,2,203,1602,1713] 1910 [] [(1811,.mrow 36 10 (.map h obD ob0)),(1602,.box 24 [.mo 1811 h.length])] ?_;refine ⟨⟨yR,⟨SubO.mp rfl,⟨rfl,SubL.same rfl⟩,yM⟩,rfl,rfl⟩,?_⟩;refine zB (zE zP [1093] 2000 rfl ?_);refine zF ?_;refine yS _ _ (cD) rfl ?_;refine zF ?_;refine zC (zA ?_);refine yN [2,3,5,6,9,11,14,15,16] [0,1,2,203,1602,1713,1913] 2010 [] [(1811,.mrow 36 10 (.map Hd obD ob0)),(1602,.box 24 [.mo 1811 Hd.length]),(1913,.box 43 (stD Rd))] ?_;refine ⟨⟨yR,⟨SubO.mp rfl,⟨rfl,Sub.mo rfl,rfl,trivial⟩,⟨rfl,SubL.same rfl⟩,yM⟩,rfl,rfl⟩,?_⟩;refine zB (zE zP [1095] 2100 rfl ?_);refine zF ?_;refine yS _ _ (mJ0 h hh) rfl ?_;refine zF ?_;refine zC (zA (zB ?_));refine yN [2,3,6,9,11,14,15,16] [1,2,203,1602,1713,1913] 2110 [] [(2011,.mrow 36 10 (.map h obD ob0)),(1602,.box 24 [.mo 2011 h.length])] ?_;refine ⟨⟨yR,⟨SubO.mp rfl,⟨rfl,SubL.same rfl⟩,yM⟩,rfl,rfl⟩,?_⟩;refine zB (zE zP [1099] 2200 rfl ?_);refine zF ?_;refine yS _ _ (cS) rfl ?_;refine zF ?_;refine zC (zA ?_);refine yN [2,3,6,9,11,14,15,16,17] [1,2,203,1602,1713,1913,2114] 2210 [] [(2011,.mrow 36 10 (.map Hs obD ob0)),(1602,.box 24 [.mo 2011 Hs.length]),(2114,.box 43 (stD Rs))] ?_;refine ⟨⟨yR,⟨SubO.mp rfl,⟨rfl,Sub.mo rfl,rfl,trivial⟩,⟨rfl,SubL.same rfl⟩,yM⟩,rfl,rfl⟩,?_⟩;refine zN 2300 ?_;refine zS rfl (fun c20 => ?_) (fun c20 => ?_)
  ·
   refine zN 2400 ?_;refine zL (zK ?_);exact FinV.ret rfl (SubP.refl _)
  ·have hk0 : (setS h v s w).1.k = 0 := by
    rw [← hRs];simpa using c20
   obtain ⟨H1,hset,g1,hh1,hv1,hG1,hEk,hEs,H3,hH3,g3,hh3,hv3,hdel⟩ := Sr.law g hh hiv hiw hv hw hs ht hne hj.1 hj.2.1 hj.2.2 hk0;have hH1 : Hs = H1 := by rw [hHs,hset]
   subst hH1;have cG := Gq.atGetV_G Hs v s hh1 g1 hv1 hiv hs;rw [hG1] at cG;have cA := Gq.atGetV_G Hs v t hh1 g1 hv1 hiv ht;obtain ⟨Ra,hRa⟩ : ∃ R,R = (jP Hs v t).1 := ⟨_,rfl⟩;rw [hH3,← hRa] at cA;rw [← hRa,← hRb] at hEk hEs;refine zO (zA ?_);refine zB (zE zP [1105] 2400 rfl ?_);refine zF ?_;refine yS _ _ (cG) rfl ?_;refine zF ?_;refine zC (zA (zB ?_));refine yN [2,3,6,9,11,14,15,16,18] [1,2,203,1602,1713,1913,2303] 2410 [] [(2011,.mrow 36 10 (.map Hs obD ob0)),(1602,.box 24 [.mo 2011 Hs.length]),(2303,.box 43 (stD (vlS w)))] ?_;refine ⟨⟨yR,⟨SubO.mp rfl,⟨rfl,Sub.mo rfl,rfl,trivial⟩,⟨rfl,SubL.same rfl⟩,yM⟩,rfl,rfl⟩,?_⟩;refine zB (zE zP [] 2500 rfl ?_);refine zF ?_;refine yU _ (fun hg7 => wE w w) rfl ?_;refine zF ?_;refine zC (zA (zZ (fun c23 => ?_) (fun c23 => ?_)))
   ·
    simp [vlS] at c23
   ·
    refine zO (zA ?_);refine zB (zE zP [1118] 2600 rfl ?_);refine zF ?_;refine yS _ _ (cA) rfl ?_;refine zF ?_;refine zC (zA (zB ?_));refine yN [2,6,11,14,15,16,19] [1,203,1602,1713,1913,2503] 2610 [] [(2011,.mrow 36 10 (.map H3 obD ob0)),(1602,.box 24 [.mo 2011 H3.length]),(2503,.box 43 (stD Ra))] ?_;refine ⟨⟨yR,⟨SubO.mp rfl,⟨rfl,Sub.mo rfl,rfl,trivial⟩,⟨rfl,SubL.same rfl⟩,yM⟩,rfl,rfl⟩,?_⟩;refine zN 2700 ?_;refine zZ (fun c26 => ?_) (fun c26 => ?_)
    ·
     simp [hEk,hEs] at c26
    ·
     refine zO (zA (zB ?_));refine zB (zE zP [] 2900 rfl ?_);refine zF ?_;refine zQ _ (dL0 (zJ h v) s (obj_names g v) (dW hh v).nl) rfl ?_;refine zF ?_;refine zC (zA (zN 3000 ?_));refine zS rfl (fun c29 => ?_) (fun c29 => ?_)
     ·
      refine zN 3100 ?_;refine zL (zK ?_);exact FinV.ret rfl (SubP.refl _)
     ·have hown : jC (zJ h v) s = false := by simpa using c29
      obtain ⟨H4,hde,g4,hh4,hv4,hEq⟩ := hdel hown;have cX := Gq.Delete_G H3 v s hh3 g3 hv3 hs;rw [hde] at cX;have cL := Gq.atGetV_G H4 v s hh4 g4 hv4 hiv hs;obtain ⟨H5,hH5⟩ : ∃ H,H = (jP H4 v s).2 := ⟨_,rfl⟩;obtain ⟨Rl,hRl⟩ : ∃ R,R = (jP H4 v s).1 := ⟨_,rfl⟩;rw [← hH5,← hRl] at cL;rw [← hRl,← hRd] at hEq;refine zO (zA (zB ?_));refine zB (zE zP [1140] 3200 rfl ?_);refine zF ?_;refine yS _ _ (cX) rfl ?_;refine zF ?_;refine zC (zA ?_);refine yN [2,6,14,16,22] [1,1602,1913,3003] 3210 [] [(2011,.mrow 36 10 (.map H4 obD ob0)),(1602,.box 24 [.mo 2011 H4.length]),(3003,.box 43 (stD (vlS vl0)))] ?_;refine ⟨⟨yR,⟨SubO.mp rfl,⟨rfl,Sub.mo rfl,rfl,trivial⟩,⟨rfl,SubL.same rfl⟩,yM⟩,rfl,rfl⟩,?_⟩;refine zN 3300 ?_;refine zZ (fun c32 => ?_) (fun c32 => ?_)
      ·
       simp [vlS] at c32
      ·
       refine zO (zA ?_);refine zB (zE zP [1146] 3500 rfl ?_);refine zF ?_;refine yS _ _ (cL) rfl ?_;refine zF ?_;refine zC (zA ?_);refine yN [16,23] [1913,3303] 3510 [] [(2011,.mrow 36 10 (.map H5 obD ob0)),(1602,.box 24 [.mo 2011 H5.length]),(3303,.box 43 (stD Rl))] ?_;refine ⟨⟨yR,⟨SubO.mp rfl,⟨rfl,Sub.mo rfl,rfl,trivial⟩,⟨rfl,SubL.same rfl⟩,yM⟩,rfl,rfl⟩,?_⟩;refine zB (zE zP [] 3600 rfl ?_);refine zF ?_;refine yU _ (fun hg22 => wE Rl.v Rd.v) rfl ?_;refine zF ?_;refine zC (zA (zL ?_))
       exact FinV.ret rfl (SubP.bool (by
        rcases hEq with ⟨e1,e2,e3 | e3⟩
        ·simp [e1,e2,e3]
        ·simp [e1,e2,e3]))
open Go.ChangeShapes Go.WideShapes Go.ChangeAt Go.RowKit Go.Deep
theorem wP0 {H : Type} {d : DataW H} {l : List (DataW H)} (h : d ∈ l) : Rows.uptoBulk d ≤ Rows.uptoBulkAll l := by
 induction l with
 | nil => cases h
 | cons x r ih =>
  simp only [Rows.uptoBulkAll]
  cases List.mem_cons.1 h with
  | inl e => subst e;omega
  | inr e => have := ih e;omega
theorem bulk_one {H : Type} (d : DataW H) : 1 ≤ Rows.uptoBulk d := by
 cases d with
 | lit l => cases l <;> simp [Rows.uptoBulk]
 | nil => simp [Rows.uptoBulk]
 | ptr d => simp [Rows.uptoBulk]
 | slice elems spare => simp [Rows.uptoBulk]
 | agg parts => simp [Rows.uptoBulk]
 | iface t d => simp [Rows.uptoBulk]
 | map entries => simp [Rows.uptoBulk]
 | held h => simp [Rows.uptoBulk]
theorem bulk_length {H : Type} (l : List (DataW H)) : l.length ≤ Rows.uptoBulkAll l := by
 induction l with
 | nil => simp [Rows.uptoBulkAll]
 | cons x r ih => have := bulk_one x;simp only [Rows.uptoBulkAll,List.length_cons];omega
theorem qJ {H : Type} {l : List (DataW H × List MemPlace)} {i : Nat} {y : DataW H × List MemPlace} (h : l[i]? = some y) {n : Nat} (hn : Rows.uptoBulk (DataW.agg (l.map (·.1))) ≤ n) : Rows.uptoBulk y.1 ≤ n := by
 have h1 : y.1 ∈ l.map (·.1) := List.mem_map.2 ⟨y,List.mem_of_getElem? h,rfl⟩;have h2 := wP0 h1;simp only [Rows.uptoBulk] at hn;omega
def sW (W : World) : Sb := ⟨fun b _ => b < W.heap.size,fun b _ => b < W.heap.size,fun _ _ h => h⟩
def I64 (x : Int) : Prop := -9223372036854775808 ≤ x ∧ x ≤ 9223372036854775807
theorem i64_wf {x : Int} (h : (Lit.int .i64 x).wf = true) : I64 x := by
 simp [Lit.wf] at h;have h1 : IntKind.i64.min = -9223372036854775808 := by decide
 have h2 : IntKind.i64.max = 9223372036854775807 := by decide
 unfold I64;omega
theorem u32_wf {x : Int} (h : (Lit.int .u32 x).wf = true) : 0 ≤ x ∧ x < 4294967296 := by
 simp [Lit.wf] at h;have h1 : IntKind.u32.min = 0 := by decide
 have h2 : IntKind.u32.max = 4294967295 := by decide
 omega
def Opn {H : Type} (enc : TypeId × Value → H) (P : Program) (W : World) (t : TypeId) {α : Type} (f : α → List D) (Q : α → Nat → Prop) : Prop :=
 ∀ (fuel : Nat) (cs : List Value) (d : DataW H) (ps : List MemPlace),cs.length = P.cellsOf t → DataW.trod enc P W 0 (fun _ => true) true fuel t cs = some (d,ps) →
  ∃ x,AllV W (sW W) (D.pvs (f x)) cs ∧ (∀ c ∈ cs,c.oneCell' = true) ∧ ∀ n,Rows.uptoBulk d ≤ n → Q x n
section
variable {H : Type} {enc : TypeId × Value → H} {P : Program} {W : World}
theorem mZ {c : Value} (h : c.oneCell' = true) : ∀ x ∈ [c],x.oneCell' = true := fun x hx => by rw [List.mem_singleton] at hx;rw [hx];exact h
theorem Opn.int {t : TypeId} (ht : P.underlying t = some (.int .i64)) : Opn enc P W t iD (fun x _ => I64 x) := by
 intro fuel cs d ps _ h;obtain ⟨k,rfl,_,wf⟩ := DataW.trod_int ht h;exact ⟨k,⟨rfl,trivial⟩,mZ rfl,fun _ _ => i64_wf wf⟩
theorem Opn.u32 {t : TypeId} (ht : P.underlying t = some (.int .u32)) : Opn enc P W t uD (fun x _ => x < 4294967296) := by
 intro fuel cs d ps _ h;obtain ⟨k,rfl,_,wf⟩ := DataW.trod_int ht h;have h1 := u32_wf wf;refine ⟨k.toNat,⟨?_,trivial⟩,mZ rfl,fun _ _ => by omega⟩;show Value.int .u32 k = .int .u32 (k.toNat : Nat);rw [Int.toNat_of_nonneg h1.1]
theorem Opn.bool {t : TypeId} (ht : P.underlying t = some .bool) : Opn enc P W t (fun b : Bool => [.v (.bool b)]) (fun _ _ => True) := by
 intro fuel cs d ps _ h;obtain ⟨k,rfl,_⟩ := DataW.trod_bool ht h;exact ⟨k,⟨rfl,trivial⟩,mZ rfl,fun _ _ => trivial⟩
theorem Opn.str {t : TypeId} (ht : P.underlying t = some .string) : Opn enc P W t sD (fun s n => s.size ≤ n) := by
 intro fuel cs d ps _ h;obtain ⟨k,rfl,hx,_⟩ := DataW.trod_string ht h;refine ⟨k,⟨rfl,trivial⟩,mZ rfl,fun n hn => ?_⟩;simp only [Prod.mk.injEq] at hx;rw [hx.1] at hn;simp only [Rows.uptoBulk] at hn;have e : k.data.toList.length = k.size := by rw [Array.length_toList];rfl
 omega
theorem Opn.sl {α : Type} {f : α → List D} {Q : α → Nat → Prop} {t e : TypeId} {sz : Nat} (e0 : α) (ht : P.underlying t = some (.slice e)) (hc : P.cellsOf e = sz) (hz : 0 < sz) (he : Opn enc P W e f Q) :
  Opn enc P W t (fun l => [.sl false sz l f e0]) (fun l n => l.length ≤ n ∧ ∀ x ∈ l,Q x n) := by
 intro fuel cs d ps _ h;rcases open_slice ht h with ⟨rfl,hx⟩ | ⟨a,len,cap,m,n,D',Pl,rfl,_,hl,hm,hmm,hx,hel⟩
 ·exact ⟨[],⟨PV.sl_nil,trivial⟩,mZ rfl,fun _ _ => ⟨Nat.zero_le _,fun x hx => by cases hx⟩⟩
 ·simp only [if_true] at hmm;subst hmm;have hq : ∀ i,i < len → ∃ x : α,∃ cs',W.cells? 0 (a.add (i * sz)) sz = some cs' ∧ AllV W (sW W) (D.pvs (f x)) cs' ∧ (∀ c ∈ cs',c.oneCell' = true) ∧ ∀ n,Rows.uptoBulk (D' i) ≤ n → Q x n := fun i hi => by
   obtain ⟨cs',h1,h2⟩ := hel i (by omega);rw [hc] at h1;obtain ⟨_,hlen,_⟩ := World.cells?_some h1;obtain ⟨x,hx1,hx2,hx3⟩ := he n cs' (D' i) (Pl i) (by omega) h2;exact ⟨x,cs',h1,hx1,hx2,hx3⟩
  obtain ⟨g,hg⟩ : ∃ g : Nat → α,∀ i,i < len → ∃ cs',W.cells? 0 (a.add (i * sz)) sz = some cs' ∧ AllV W (sW W) (D.pvs (f (g i))) cs' ∧ (∀ c ∈ cs',c.oneCell' = true) ∧ ∀ n,Rows.uptoBulk (D' i) ≤ n → Q (g i) n :=
   ⟨fun i => if h : i < len then Classical.choose (hq i h) else e0,fun i hi => by simp only [dif_pos hi];exact Classical.choose_spec (hq i hi)⟩
  have hrl : (((List.range len).map g).map fun a => D.pvs (f a)).length = len := by simp
  refine ⟨(List.range len).map g,⟨⟨some a,m,?_,?_,?_,?_,?_⟩,trivial⟩,mZ rfl,fun n hn => ?_⟩
  ·show Value.slice (some a) len m = Value.slice (some a) (((List.range len).map g).map fun a => D.pvs (f a)).length m;rw [hrl]
  ·show (((List.range len).map g).map fun a => D.pvs (f a)).length ≤ m;rw [hrl];exact hl
  ·have : maxLen = 9223372036854775807 := by decide
   omega
  ·intro row hrow;have hrow : row ∈ ((List.range len).map g).map fun a => D.pvs (f a) := hrow;rw [List.map_map] at hrow;obtain ⟨i,hi,rfl⟩ := List.mem_map.1 hrow;obtain ⟨cs',h1,h2,-⟩ := hg i (List.mem_range.1 hi);have h3 := h2.length;obtain ⟨_,h4,_⟩ := World.cells?_some h1;show (D.pvs (f (g i))).length = sz;omega
  ·intro i row hrow;have hrow : (((List.range len).map g).map fun a => D.pvs (f a))[i]? = some row := hrow;rw [List.map_map,List.getElem?_map] at hrow;obtain ⟨j,hj,rfl⟩ := Option.map_eq_some_iff.1 hrow;have hi : i < len := by have := (List.getElem?_eq_some_iff.1 hj).1;simpa using this
   rw [List.getElem?_range hi] at hj
   cases hj;obtain ⟨cs',h1,h2,h3,-⟩ := hg i hi;obtain ⟨_,h4,h5⟩ := World.cells?_some h1;obtain ⟨b,off,spot⟩ := a
   cases spot with
   | some sp =>
    obtain ⟨cs0,k1,-⟩ := hg 0 (by omega);obtain ⟨_,k4,k5⟩ := World.cells?_some k1;have h6 := k5 0 hz;rw [List.getElem?_eq_getElem (by omega)] at h6;have := World.cell?_spot h6;simp [Addr.add] at this
   | none =>
    refine ⟨b,off,rfl,fun j d hd => ?_⟩;obtain ⟨v,hv,hp⟩ := h2.get hd;have hj : j < cs'.length := (List.getElem?_eq_some_iff.1 hv).1;have h6 := h5 j (by omega);rw [hv] at h6;have h7 : W.cell? ⟨b,off + i * sz + j,none⟩ = some v := by rw [add_plain,add_plain] at h6;exact h6
    exact ⟨v,h7,(World.block_lt_of_cell? _ _ h7 : b < W.heap.size),hp,h3 v (List.mem_of_getElem? hv)⟩
  ·simp only [Prod.mk.injEq] at hx;rw [hx.1] at hn;simp only [Rows.uptoBulk] at hn;have h1 := bulk_length ((List.range len).map D');simp only [List.length_map,List.length_range] at h1;refine ⟨by simp;omega,fun x hx => ?_⟩;obtain ⟨i,hi,rfl⟩ := List.mem_map.1 hx;obtain ⟨cs',-,-,-,h4⟩ := hg i (List.mem_range.1 hi);exact h4 n (by have := wP0 (d := D' i) (l := (List.range len).map D') (List.mem_map.2 ⟨i,hi,rfl⟩);omega)
end
theorem list5 {α : Type} {l : List α} (h : l.length = 5) : ∃ c0 c1 c2 c3 c4,l = [c0,c1,c2,c3,c4] := by
 match l,h with
 | [c0,c1,c2,c3,c4],_ => exact ⟨c0,c1,c2,c3,c4,rfl⟩
theorem list7 {α : Type} {l : List α} (h : l.length = 7) : ∃ c0 c1 c2 c3 c4 c5 c6,l = [c0,c1,c2,c3,c4,c5,c6] := by
 match l,h with
 | [c0,c1,c2,c3,c4,c5,c6],_ => exact ⟨c0,c1,c2,c3,c4,c5,c6,rfl⟩
theorem pS0 {α : Type} {l : List α} (h : l.length = 10) : ∃ c0 c1 c2 c3 c4 c5 c6 c7 c8 c9,l = [c0,c1,c2,c3,c4,c5,c6,c7,c8,c9] := by
 match l,h with
 | [c0,c1,c2,c3,c4,c5,c6,c7,c8,c9],_ => exact ⟨c0,c1,c2,c3,c4,c5,c6,c7,c8,c9,rfl⟩
theorem jO {W : World} {s : Sb} {d : D} {c : Value} (h : AllV W s (D.pvs [d]) [c]) : d.pv.p W s c := h.1
section
variable {H : Type} {enc : TypeId × Value → H} {W : World}
def intD (p : Bool × List Nat) : List D := [.v (.bool p.1),usD p.2]
set_option maxRecDepth 100000 in
theorem Opn.bigI : Opn enc Tryz.prog W 27 intD (fun p n => p.2.length ≤ n ∧ ∀ x ∈ p.2,x < 4294967296) := by
 intro fuel cs d ps hl h;have e4 : Tryz.prog.cellsOf 4 = 1 := by kernel_rfl
 have e22 : Tryz.prog.cellsOf 25 = 1 := by kernel_rfl
 have eI : Tryz.prog.cellsOf 27 = 2 := by kernel_rfl
 rw [eI] at hl
 match cs,hl with
 | [c0,c1],_ =>
  obtain ⟨xs,n1,_,hx,_,hlen,hg⟩ := DataW.trod_struct Tryz.underlying27 h
  match xs,hlen with
  | [y0,y1],_ =>
   have g0 : DataW.trod enc Tryz.prog W 0 (fun _ => true) true n1 4 (([c0,c1].drop 0).take (Tryz.prog.cellsOf 4)) = some y0 := hg 0 _ rfl;rw [e4] at g0
   replace g0 : DataW.trod enc Tryz.prog W 0 (fun _ => true) true n1 4 [c0] = some y0 := g0
   have g1 : DataW.trod enc Tryz.prog W 0 (fun _ => true) true n1 25 (([c0,c1].drop 1).take (Tryz.prog.cellsOf 25)) = some y1 := hg 1 _ rfl;rw [e22] at g1
   replace g1 : DataW.trod enc Tryz.prog W 0 (fun _ => true) true n1 25 [c1] = some y1 := g1
   obtain ⟨x0,a0,o0,q0⟩ := Opn.bool Tryz.underlying4 _ _ y0.1 y0.2 (by rw [e4];rfl) g0;obtain ⟨x1,a1,o1,q1⟩ := Opn.sl 0 Tryz.underlying25 (sz := 1) (by kernel_rfl) (by decide) (Opn.u32 Tryz.underlying83) _ _ y1.1 y1.2 (by rw [e22];rfl) g1;simp only [Prod.mk.injEq] at hx;refine ⟨(x0,x1),⟨jO a0,jO a1,trivial⟩,fun c hc => ?_,fun n hn => ?_⟩
   ·simp only [List.mem_cons,List.not_mem_nil,or_false] at hc;rcases hc with rfl | rfl
    ·exact o0 _ (by simp)
    ·exact o1 _ (by simp)
   ·rw [hx.1] at hn;exact q1 n (qJ (i := 1) (y := y1) rfl hn)
set_option maxRecDepth 100000 in
theorem Opn.val : Opn enc Tryz.prog W 29 vlD (fun v n => n ≤ 1048576 → VlIn v) := by
 intro fuel cs d ps hl h;have e3 : Tryz.prog.cellsOf 3 = 1 := by kernel_rfl
 have e9 : Tryz.prog.cellsOf 9 = 1 := by kernel_rfl
 have e24 : Tryz.prog.cellsOf 27 = 2 := by kernel_rfl
 have eV : Tryz.prog.cellsOf 29 = 7 := by kernel_rfl
 rw [eV] at hl;obtain ⟨c0,c1,c2,c3,c4,c5,c6,rfl⟩ := list7 hl;obtain ⟨xs,n1,_,hx,_,hlen,hg⟩ := DataW.trod_struct Tryz.underlying29 h;obtain ⟨y0,y1,y2,y3,y4,rfl⟩ := list5 hlen;have g0 : DataW.trod enc Tryz.prog W 0 (fun _ => true) true n1 3 (([c0,c1,c2,c3,c4,c5,c6].drop 0).take (Tryz.prog.cellsOf 3)) = some y0 := hg 0 _ rfl;rw [e3] at g0
 replace g0 : DataW.trod enc Tryz.prog W 0 (fun _ => true) true n1 3 [c0] = some y0 := g0
 have g1 : DataW.trod enc Tryz.prog W 0 (fun _ => true) true n1 27 (([c0,c1,c2,c3,c4,c5,c6].drop 1).take (Tryz.prog.cellsOf 27)) = some y1 := hg 1 _ rfl;rw [e24] at g1
 replace g1 : DataW.trod enc Tryz.prog W 0 (fun _ => true) true n1 27 [c1,c2] = some y1 := g1
 have g2 : DataW.trod enc Tryz.prog W 0 (fun _ => true) true n1 27 (([c0,c1,c2,c3,c4,c5,c6].drop 3).take (Tryz.prog.cellsOf 27)) = some y2 := hg 2 _ rfl;rw [e24] at g2
 replace g2 : DataW.trod enc Tryz.prog W 0 (fun _ => true) true n1 27 [c3,c4] = some y2 := g2
 have g3 : DataW.trod enc Tryz.prog W 0 (fun _ => true) true n1 9 (([c0,c1,c2,c3,c4,c5,c6].drop 5).take (Tryz.prog.cellsOf 9)) = some y3 := hg 3 _ rfl;rw [e9] at g3
 replace g3 : DataW.trod enc Tryz.prog W 0 (fun _ => true) true n1 9 [c5] = some y3 := g3
 have g4 : DataW.trod enc Tryz.prog W 0 (fun _ => true) true n1 3 (([c0,c1,c2,c3,c4,c5,c6].drop 6).take (Tryz.prog.cellsOf 3)) = some y4 := hg 4 _ rfl;rw [e3] at g4
 replace g4 : DataW.trod enc Tryz.prog W 0 (fun _ => true) true n1 3 [c6] = some y4 := g4
 obtain ⟨x0,a0,o0,q0⟩ := Opn.int Tryz.underlying3 _ _ y0.1 y0.2 (by rw [e3];rfl) g0;obtain ⟨x1,a1,o1,q1⟩ := Opn.bigI _ _ y1.1 y1.2 (by rw [e24];rfl) g1;obtain ⟨x2,a2,o2,q2⟩ := Opn.bigI _ _ y2.1 y2.2 (by rw [e24];rfl) g2;obtain ⟨x3,a3,o3,q3⟩ := Opn.str Tryz.underlying9 _ _ y3.1 y3.2 (by rw [e9];rfl) g3;obtain ⟨x4,a4,o4,q4⟩ := Opn.int Tryz.underlying3 _ _ y4.1 y4.2 (by rw [e3];rfl) g4;simp only [Prod.mk.injEq] at hx;refine ⟨⟨x0,x1.1,x1.2,x2.1,x2.2,x3,x4⟩,⟨jO a0,a1.1,a1.2.1,a2.1,a2.2.1,jO a3,jO a4,trivial⟩,fun c hc => ?_,fun n hn hn2 => ?_⟩
 ·simp only [List.mem_cons,List.not_mem_nil,or_false] at hc;rcases hc with rfl | rfl | rfl | rfl | rfl | rfl | rfl
  ·exact o0 _ (by simp)
  ·exact o1 _ (by simp)
  ·exact o1 _ (by simp)
  ·exact o2 _ (by simp)
  ·exact o2 _ (by simp)
  ·exact o3 _ (by simp)
  ·exact o4 _ (by simp)
 ·rw [hx.1] at hn;have b0 := q0 n (qJ (i := 0) (y := y0) rfl hn);have b1 := q1 n (qJ (i := 1) (y := y1) rfl hn);have b2 := q2 n (qJ (i := 2) (y := y2) rfl hn);have b3 := q3 n (qJ (i := 3) (y := y3) rfl hn);have b4 := q4 n (qJ (i := 4) (y := y4) rfl hn);exact ⟨b0.1,b0.2,b4.1,b4.2,b1.2,b2.2,by show x1.2.length ≤ _;omega,by show x2.2.length ≤ _;omega,by show x3.size ≤ _;omega⟩
set_option maxRecDepth 100000 in
theorem Opn.obj : Opn enc Tryz.prog W 36 obD (fun o n => n ≤ 1048576 → ObIn o) := by
 intro fuel cs d ps hl h;have e3 : Tryz.prog.cellsOf 3 = 1 := by kernel_rfl
 have e9 : Tryz.prog.cellsOf 9 = 1 := by kernel_rfl
 have eI : Tryz.prog.cellsOf 32 = 1 := by kernel_rfl
 have eS : Tryz.prog.cellsOf 33 = 1 := by kernel_rfl
 have eV : Tryz.prog.cellsOf 34 = 1 := by kernel_rfl
 have eO : Tryz.prog.cellsOf 36 = 10 := by kernel_rfl
 rw [eO] at hl;obtain ⟨c0,c1,c2,c3,c4,c5,c6,c7,c8,c9,rfl⟩ := pS0 hl;obtain ⟨xs,n1,_,hx,_,hlen,hg⟩ := DataW.trod_struct Tryz.underlying36 h;obtain ⟨y0,y1,y2,y3,y4,y5,y6,y7,y8,y9,rfl⟩ := pS0 hlen;have g0 : DataW.trod enc Tryz.prog W 0 (fun _ => true) true n1 3 (([c0,c1,c2,c3,c4,c5,c6,c7,c8,c9].drop 0).take (Tryz.prog.cellsOf 3)) = some y0 := hg 0 _ rfl;rw [e3] at g0
 replace g0 : DataW.trod enc Tryz.prog W 0 (fun _ => true) true n1 3 [c0] = some y0 := g0
 have g1 : DataW.trod enc Tryz.prog W 0 (fun _ => true) true n1 9 (([c0,c1,c2,c3,c4,c5,c6,c7,c8,c9].drop 1).take (Tryz.prog.cellsOf 9)) = some y1 := hg 1 _ rfl;rw [e9] at g1
 replace g1 : DataW.trod enc Tryz.prog W 0 (fun _ => true) true n1 9 [c1] = some y1 := g1
 have g2 : DataW.trod enc Tryz.prog W 0 (fun _ => true) true n1 3 (([c0,c1,c2,c3,c4,c5,c6,c7,c8,c9].drop 2).take (Tryz.prog.cellsOf 3)) = some y2 := hg 2 _ rfl;rw [e3] at g2
 replace g2 : DataW.trod enc Tryz.prog W 0 (fun _ => true) true n1 3 [c2] = some y2 := g2
 have g3 : DataW.trod enc Tryz.prog W 0 (fun _ => true) true n1 32 (([c0,c1,c2,c3,c4,c5,c6,c7,c8,c9].drop 3).take (Tryz.prog.cellsOf 32)) = some y3 := hg 3 _ rfl;rw [eI] at g3
 replace g3 : DataW.trod enc Tryz.prog W 0 (fun _ => true) true n1 32 [c3] = some y3 := g3
 have g4 : DataW.trod enc Tryz.prog W 0 (fun _ => true) true n1 32 (([c0,c1,c2,c3,c4,c5,c6,c7,c8,c9].drop 4).take (Tryz.prog.cellsOf 32)) = some y4 := hg 4 _ rfl;rw [eI] at g4
 replace g4 : DataW.trod enc Tryz.prog W 0 (fun _ => true) true n1 32 [c4] = some y4 := g4
 have g5 : DataW.trod enc Tryz.prog W 0 (fun _ => true) true n1 33 (([c0,c1,c2,c3,c4,c5,c6,c7,c8,c9].drop 5).take (Tryz.prog.cellsOf 33)) = some y5 := hg 5 _ rfl;rw [eS] at g5
 replace g5 : DataW.trod enc Tryz.prog W 0 (fun _ => true) true n1 33 [c5] = some y5 := g5
 have g6 : DataW.trod enc Tryz.prog W 0 (fun _ => true) true n1 34 (([c0,c1,c2,c3,c4,c5,c6,c7,c8,c9].drop 6).take (Tryz.prog.cellsOf 34)) = some y6 := hg 6 _ rfl;rw [eV] at g6
 replace g6 : DataW.trod enc Tryz.prog W 0 (fun _ => true) true n1 34 [c6] = some y6 := g6
 have g7 : DataW.trod enc Tryz.prog W 0 (fun _ => true) true n1 34 (([c0,c1,c2,c3,c4,c5,c6,c7,c8,c9].drop 7).take (Tryz.prog.cellsOf 34)) = some y7 := hg 7 _ rfl;rw [eV] at g7
 replace g7 : DataW.trod enc Tryz.prog W 0 (fun _ => true) true n1 34 [c7] = some y7 := g7
 have g8 : DataW.trod enc Tryz.prog W 0 (fun _ => true) true n1 3 (([c0,c1,c2,c3,c4,c5,c6,c7,c8,c9].drop 8).take (Tryz.prog.cellsOf 3)) = some y8 := hg 8 _ rfl;rw [e3] at g8
 replace g8 : DataW.trod enc Tryz.prog W 0 (fun _ => true) true n1 3 [c8] = some y8 := g8
 have g9 : DataW.trod enc Tryz.prog W 0 (fun _ => true) true n1 3 (([c0,c1,c2,c3,c4,c5,c6,c7,c8,c9].drop 9).take (Tryz.prog.cellsOf 3)) = some y9 := hg 9 _ rfl;rw [e3] at g9
 replace g9 : DataW.trod enc Tryz.prog W 0 (fun _ => true) true n1 3 [c9] = some y9 := g9
 obtain ⟨x0,a0,o0,q0⟩ := Opn.int Tryz.underlying3 _ _ y0.1 y0.2 (by rw [e3];rfl) g0;obtain ⟨x1,a1,o1,q1⟩ := Opn.str Tryz.underlying9 _ _ y1.1 y1.2 (by rw [e9];rfl) g1;obtain ⟨x2,a2,o2,q2⟩ := Opn.int Tryz.underlying3 _ _ y2.1 y2.2 (by rw [e3];rfl) g2;obtain ⟨x3,a3,o3,q3⟩ := Opn.sl 0 Tryz.underlying32 (sz := 1) (by kernel_rfl) (by decide) (Opn.int Tryz.underlying3) _ _ y3.1 y3.2 (by rw [eI];rfl) g3;obtain ⟨x4,a4,o4,q4⟩ := Opn.sl 0 Tryz.underlying32 (sz := 1) (by kernel_rfl) (by decide) (Opn.int Tryz.underlying3) _ _ y4.1 y4.2 (by rw [eI];rfl) g4;obtain ⟨x5,a5,o5,q5⟩ := Opn.sl ByteArray.empty Tryz.underlying33 (sz := 1) (by kernel_rfl) (by decide) (Opn.str Tryz.underlying9) _ _ y5.1 y5.2 (by rw [eS];rfl) g5;obtain ⟨x6,a6,o6,q6⟩ := Opn.sl vl0 Tryz.underlying34 (sz := 7) (by kernel_rfl) (by decide) Opn.val _ _ y6.1 y6.2 (by rw [eV];rfl) g6;obtain ⟨x7,a7,o7,q7⟩ := Opn.sl vl0 Tryz.underlying34 (sz := 7) (by kernel_rfl) (by decide) Opn.val _ _ y7.1 y7.2 (by rw [eV];rfl) g7;obtain ⟨x8,a8,o8,q8⟩ := Opn.int Tryz.underlying3 _ _ y8.1 y8.2 (by rw [e3];rfl) g8;obtain ⟨x9,a9,o9,q9⟩ := Opn.int Tryz.underlying3 _ _ y9.1 y9.2 (by rw [e3];rfl) g9;simp only [Prod.mk.injEq] at hx;refine ⟨⟨x0,x1,x2,x3,x4,x5,x6,x7,x8,x9⟩,⟨jO a0,jO a1,jO a2,jO a3,jO a4,jO a5,jO a6,jO a7,jO a8,jO a9,trivial⟩,fun c hc => ?_,fun n hn hn2 => ?_⟩
 ·simp only [List.mem_cons,List.not_mem_nil,or_false] at hc;rcases hc with rfl | rfl | rfl | rfl | rfl | rfl | rfl | rfl | rfl | rfl
  ·exact o0 _ (by simp)
  ·exact o1 _ (by simp)
  ·exact o2 _ (by simp)
  ·exact o3 _ (by simp)
  ·exact o4 _ (by simp)
  ·exact o5 _ (by simp)
  ·exact o6 _ (by simp)
  ·exact o7 _ (by simp)
  ·exact o8 _ (by simp)
  ·exact o9 _ (by simp)
 ·rw [hx.1] at hn;have b0 := q0 n (qJ (i := 0) (y := y0) rfl hn);have b1 := q1 n (qJ (i := 1) (y := y1) rfl hn);have b2 := q2 n (qJ (i := 2) (y := y2) rfl hn);have b3 := q3 n (qJ (i := 3) (y := y3) rfl hn);have b4 := q4 n (qJ (i := 4) (y := y4) rfl hn);have b5 := q5 n (qJ (i := 5) (y := y5) rfl hn);have b6 := q6 n (qJ (i := 6) (y := y6) rfl hn);have b7 := q7 n (qJ (i := 7) (y := y7) rfl hn);have b8 := q8 n (qJ (i := 8) (y := y8) rfl hn);have b9 := q9 n (qJ (i := 9) (y := y9) rfl hn)
  exact ⟨b0,b2,b8,b9,by show x1.size ≤ _;omega,by show x3.length ≤ _;omega,by show x4.length ≤ _;omega,by show x5.length ≤ _;omega,by show x6.length ≤ _;omega,by show x7.length ≤ _;omega,
   fun s hs => by have := b5.2 s hs;omega,fun v hv => b6.2 v hv hn2,fun v hv => b7.2 v hv hn2⟩
def hpL (h : List Ob) : List D := [.sl false 10 h obD ob0]
set_option maxRecDepth 100000 in
theorem Opn.heap : Opn enc Tryz.prog W 24 hpL (fun h n => n ≤ 1048576 → HpIn h) := by
 intro fuel cs d ps hl h;have eH : Tryz.prog.cellsOf 24 = 1 := by kernel_rfl
 have eO : Tryz.prog.cellsOf 22 = 1 := by kernel_rfl
 rw [eH] at hl
 match cs,hl with
 | [c0],_ =>
  obtain ⟨xs,n1,_,hx,_,hlen,hg⟩ := DataW.trod_struct Tryz.underlying24 h
  match xs,hlen with
  | [y0],_ =>
   have g0 : DataW.trod enc Tryz.prog W 0 (fun _ => true) true n1 22 (([c0].drop 0).take (Tryz.prog.cellsOf 22)) = some y0 := hg 0 _ rfl;rw [eO] at g0
   replace g0 : DataW.trod enc Tryz.prog W 0 (fun _ => true) true n1 22 [c0] = some y0 := g0
   obtain ⟨x0,a0,o0,q0⟩ := Opn.sl ob0 Tryz.underlying22 (sz := 10) (by kernel_rfl) (by decide) Opn.obj _ _ y0.1 y0.2 (by rw [eO];rfl) g0;simp only [Prod.mk.injEq] at hx;refine ⟨x0,a0,o0,fun n hn hn2 => ?_⟩;rw [hx.1] at hn;have b0 := q0 n (qJ (i := 0) (y := y0) rfl hn);exact ⟨fun o ho => b0.2 o ho hn2,by omega⟩
theorem Opn.agg {P : Program} {α : Type} {f : α → List D} {Q : α → Nat → Prop} {t : TypeId} {fs : Array Field} {base : Nat} (ho : Opn enc P W t f Q) (ht : P.underlying t = some (.struct fs)) {v : Value} {d : DataW H} {ps : List MemPlace}
  (hv : Value.okWide P W .any base t v) (h : DataW.Trod enc P W 0 (fun _ => true) true t v d ps) :
  ∃ x,(D.agg (f x)).pv.p W (sW W) v ∧ ∀ n,Rows.uptoBulk d ≤ n → Q x n := by
 obtain ⟨cs,rfl,hsz⟩ := okWide_struct ht hv;obtain ⟨l⟩ := cs;obtain ⟨fuel,hf⟩ := h;obtain ⟨x,h1,-,h3⟩ := ho fuel l d ps hsz hf;exact ⟨x,⟨l,rfl,h1⟩,h3⟩
end


open Go.ChangeShapes Go.WideShapes Go.ChangeAt Go.RowKit
theorem mF {H : Type} {enc : TypeId × Value → H} {P : Program} (hl : laidOutB P = true) {W W' : World} (hb : Below W.heap.size W W') :
  ∀ (ts : List TypeId) (vs : List Value) (ds : List (DataW H)) (ps : List MemPlace),(∀ t ∈ ts,P.readableRec t = true ∧ t < P.types.size) →
   DataW.TrodAll enc P W 0 (fun _ => true) true ts vs ds ps → DataW.TrodAll enc P W' 0 (fun b => decide (b < W.heap.size)) true ts vs ds ps
 | [],[],[],ps,_,h => h
 | t :: ts,v :: vs,d :: ds,ps,hr,h => by
  obtain ⟨p,q,hp,hq,e⟩ := h;have lt : ∀ x ∈ p,x.block < W.heap.size := by obtain ⟨m,hm⟩ := hp;exact DataW.trod_lt m _ _ _ hm
  have ht := hr t (by simp);exact ⟨p,q,Below.trod hl ht.1 ht.2 hp hb lt,mF hl hb ts vs ds q (fun x hx => hr x (by simp [hx])) hq,e⟩
 | [],[],_ :: _,_,_,h => by simp [DataW.TrodAll] at h
 | [],_ :: _,_,_,_,h => by simp [DataW.TrodAll] at h
 | _ :: _,[],_,_,_,h => by simp [DataW.TrodAll] at h
 | _ :: _,_ :: _,[],_,_,h => by simp [DataW.TrodAll] at h
end Go.Proofs.YtnajlcfdjjmfiaaGreatDoor
