/- Part 22 of the proof. -/
import Derived.Test.YtmbnclhokhggaaaGreatDoorM21
import Derived.Test.YtmbnclhokhggaaaGreatDoorM12
import Derived.Test.YtmbnclhokhggaaaGreatDoorM16
import Derived.Shelf.Spec.SlicesGrow
import Derived.Lib.ItoaLen
import Derived.Lib.QuoteLoop
import Derived.Lib.PrintData
import Derived.Test.YtmbnclhokhggaaaGreatDoorM17
import Derived.Test.YtmbnclhokhggaaaGreatDoorM13
import Derived.Test.YtmbnclhokhggaaaGreatDoorProg
import Derived.Ground.NamesProg
import Derived.Shelf.Strconv.Itoa3
import Derived.Shelf.Strconv.Quote
import Derived.Lib.AppendIntMem
namespace Go.Proofs.YtmbnclhokhggaaaGreatDoor
open Go.RowKit
variable {md me : Bool}
def ownB (o : Ob) (s : ByteArray) : Bool := decide (0 ≤ ixI o.names s)
def ownV (o : Ob) (s : ByteArray) : Vl := if ixI o.names s < 0 then vl0 else o.items.getD (ixI o.names s).toNat vl0
structure Fd {α : Type} (l : List α) (p : α → Bool) where
 k : Nat
 le : k ≤ l.length
 eq : (l.drop k).find? p = l.find? p
def Fd.next {α : Type} {l : List α} {p : α → Bool} (x : Fd l p) (e : α) (hk : x.k < l.length) (h0 : p (l.getD (x.k : Int).toNat e) = false) : Fd l p := ⟨x.k + 1,hk,by rw [← x.eq,drop_at hk e,List.find?_cons_of_neg (by rw [h0];decide)]⟩
theorem Fd.found {α : Type} {l : List α} {p : α → Bool} (x : Fd l p) (e : α) (hk : x.k < l.length) (h0 : p (l.getD (x.k : Int).toNat e) = true) : l.find? p = some (l.getD (x.k : Int).toNat e) := by rw [← x.eq,drop_at hk e,List.find?_cons_of_pos h0]
theorem Fd.none {α : Type} {l : List α} {p : α → Bool} (x : Fd l p) (hk : l.length ≤ x.k) : l.find? p = none := by rw [← x.eq,List.drop_of_length_le hk];rfl
theorem Own_ok (o : Ob) (s : ByteArray) (hn : o.names.length ≤ o.items.length) (hl : o.names.length ≤ 2000000) : Fn Tryz.prog 59 [.agg (obD o),.v (.string s)] (.tup [.agg (vlD (ownV o s)),.v (.bool (ownB o s))]) := by
 refine yK tabT Tryz.func59 rfl rfl rfl rfl rfl rfl ?_;intro w0 s0 mx;refine ev_R tabT [] 100 ?_;refine zB ?_;refine ev_R tabT [] 200 ?_;refine zL ?_;refine zX (ι := Nf o.names s) [1,2,4,9,10] [0,1] 250 (fun x => [(11,.v (.int .i64 x.k))]) (fun _ => []) (fun x => o.names.length - x.k) ⟨0,Nat.zero_le _,fun j hj => by omega⟩ ?_;refine ⟨⟨le_t,le_o,rfl,rfl⟩,fun x => ?_⟩;have hk := x.le;refine ev_R tabT [] 300 ?_;refine zB ?_;refine yF (fun c2 => ?_) (fun c2 => ?_)
 ·
  refine zK (zA ?_);refine zB ?_;refine zL ?_;refine ev_R tabT [] 400 ?_;refine ev_R tabT [] 500 ?_;refine zR rfl (fun c4 => ?_) (fun c4 => ?_)
  ·replace c4 : s = o.names.getD (x.k : Int).toNat ByteArray.empty := (of_decide_eq_true c4).symm
   refine ev_R tabT [] 600 ?_;refine zO (zN (zM (yH (zN (zM ?_)))));have e : ixI o.names s = x.k := x.found c2 c4;exact FinV.ret rfl (SubP.tup ⟨by rw [ownV,e,if_neg (by omega)];exact SubP.refl _,SubP.bool (by rw [ownB,e,decide_eq_true (by omega)]),trivial⟩)
  ·replace c4 : ¬ s = o.names.getD (x.k : Int).toNat ByteArray.empty := fun e => (of_decide_eq_false c4) e.symm
   refine zK (zJ (zA ?_));refine ev_Q tabT [] 700 ?_;exact zP (x.next c2 c4) ⟨le_t,le_o,rfl,rfl⟩ (by show o.names.length - (x.k + 1) < o.names.length - x.k;omega)
 ·
  refine yA (zU (zW (zS (zA ?_))));refine ev_R tabT [] 800 ?_;refine zO ?_;have e : ixI o.names s = -1 := x.none c2;exact FinV.ret rfl (SubP.tup ⟨by rw [ownV,e,if_pos (by omega)];exact (by repeat (first | exact trivial | exact SubP.refl _ | exact SubP.nilSl rfl | refine SubP.agg ?_ | refine ⟨?_,?_⟩)),SubP.bool (by rw [ownB,e];rfl),trivial⟩)
variable {md me : Bool}
open Go.RowKit Go.Shelf
variable {md me : Bool}
def st0 : St := ⟨0,vl0,0,ByteArray.empty,vl0,[]⟩
def stsD (l : List St) : D := .sl false 18 l stD st0
variable {md me : Bool}
def rD (b : Bool) (n : Nat) : D := .agg [.v (.bool b),natD n]
theorem IntOf3_ok (b : Bool) (l : List Nat) (hg : Lg l) (hl : l.length ≤ 100000000) : Fn Tryz.prog 131 [.agg [.v (.bool b),usD l]] (rD b (VL l)) := by
 refine yK tabT Tryz.func131 rfl rfl rfl rfl rfl rfl ?_;intro w0 s0 mx;refine ev_R tabT [] 100 ?_;refine zB (zZ tabT [] [[],[0],[],[2],[2,3],[0,1,2,3,4],[0,1,2,3,4,5]] 200 mixT (by kernel_rfl) rfl ?_);refine zF ?_;refine zV _ (Of3_ok _ (by first | assumption | omega | (simp_all;done)) (by first | assumption | omega | (simp_all;done))) rfl ?_;refine zF ?_;refine zC (zA (zO ?_));exact FinV.ret rfl (SubP.refl _)
def itB (n : Int) : ByteArray := ⟨(Lib.itoa n).toArray⟩
def quB (s : ByteArray) : ByteArray := strOfNums (Lib.quoteZ Lib.goPrintTabs s)
theorem itB_size {n : Int} (h0 : -9223372036854775808 ≤ n) (h1 : n ≤ 9223372036854775807) : (itB n).size ≤ 21 := by
 have := Lib.itoa_length_le n h0 h1;simpa [itB,ByteArray.size] using this
theorem quB_size (s : ByteArray) : (quB s).size ≤ 10 * s.size + 2 := by
 have := Lib.quoteZ_length_le Lib.goPrintTabs s;rw [quB,strOfNums_size];exact this
def hxL (x : Nat) : List Nat := if h : x = 0 then [] else x % 16 :: hxL (x / 16)
termination_by x
decreasing_by omega
theorem hxL_zero : hxL 0 = [] := by rw [hxL];rfl
theorem hxL_pos {x : Nat} (h : x ≠ 0) : hxL x = x % 16 :: hxL (x / 16) := by rw [hxL,dif_neg h]
theorem hxL_lt : ∀ {n x d : Nat},x < n → d ∈ hxL x → d < 16
 | 0,x,d,h,_ => by omega
 | n + 1,x,d,h,hd => by
  by_cases h0 : x = 0
  ·subst h0;rw [hxL_zero] at hd;cases hd
  ·rw [hxL_pos h0] at hd;rcases List.mem_cons.1 hd with rfl | hd
   ·exact Nat.mod_lt _ (by decide)
   ·exact hxL_lt (n := n) (by omega) hd
theorem hxL_len : ∀ {n x : Nat},x < 16 ^ n → (hxL x).length ≤ n
 | 0,x,h => by
  have : x = 0 := by simpa using h
  subst this;rw [hxL_zero];exact Nat.le_refl 0
 | n + 1,x,h => by
  by_cases h0 : x = 0
  ·subst h0;rw [hxL_zero];exact Nat.zero_le _
  ·rw [hxL_pos h0,List.length_cons];have := hxL_len (n := n) (x := x / 16) (by rw [Nat.pow_succ] at h;omega);omega
def alB : ByteArray := ⟨#[48,49,50,51,52,53,54,55,56,57,97,98,99,100,101,102,103,104,105,106,107,108,109,110,111,112,113,114,115,116,117,118,119,120,121,122]⟩
def hxS (b : Bool) (x : Nat) : ByteArray := if x = 0 then ⟨#[48]⟩ else ⟨((if b then [45] else []) ++ (hxL x).reverse.map fun d => UInt8.ofNat (bAt alB d)).toArray⟩
theorem hxS_size {b : Bool} {l : List Nat} (h : Lg l) : (hxS b (VL l)).size ≤ 8 * l.length + 2 := by
 have h1 := L_lt h;have h2 : (hxL (VL l)).length ≤ 8 * l.length := hxL_len (by rw [Nat.pow_mul];exact h1);unfold hxS;split
 ·show 1 ≤ _;omega
 ·have h3 : (if b = true then [(45 : UInt8)] else []).length ≤ 1 := by split <;> decide
  show (List.toArray _).size ≤ _;rw [List.size_toArray,List.length_append,List.length_map,List.length_reverse];omega
structure Skt where
 ord : List Int
 out : List UInt8
def sB (n : UInt8) : ByteArray := ⟨#[n]⟩
def Skt.w (k : Skt) (s : ByteArray) : Skt := ⟨k.ord,k.out ++ s.data.toList⟩
def Skt.n (k : Skt) (n : Int) : Skt := k.w (itB n ++ sB 32)
def Skt.see (b : Int) (k : Skt) (n : Int) : Skt :=
 if n < b then (k.w (sB 35)).n n
 else if ixI k.ord n < 0 then ((⟨k.ord ++ [n],k.out⟩ : Skt).w (sB 64)).n (k.ord.length : Nat)
 else (k.w (sB 64)).n (ixI k.ord n)
def vlT (v : Vl) : ByteArray := quB v.s ++ sB 32 ++ hxS v.nn (VL v.nl) ++ sB 32 ++ hxS v.dn (VL v.dl) ++ sB 44
def Skt.v (b : Int) (k : Skt) (v : Vl) : Skt := if v.k = 6 then k.see b v.r else ((k.n v.k).n v.r).w (vlT v)
def Skt.vs (b : Int) (k : Skt) (l : List Vl) : Skt := (l.foldl (Skt.v b) k).w (sB 124)
def Skt.o1 (_ : Int) (k : Skt) (o : Ob) : Skt := (((k.w (sB 10)).n o.kind).n o.code).w (quB o.name)
def Skt.o2 (k : Skt) (l : List ByteArray) : Skt := l.foldl (fun k s => k.w (s ++ sB 44)) k
def Skt.o3 (b : Int) (e : Bool) (k : Skt) (o : Ob) : Skt := if o.kind = 18 ∧ 0 < o.state then k.see b (o.state - 1) else if ¬ o.kind = 9 ∨ e = true then k.n o.state else k
def Skt.o4 (b : Int) (k : Skt) (o : Ob) : Skt := if o.kind = 10 ∨ o.kind = 7 then k.see b o.cls else k
def Skt.o5 (b : Int) (e : Bool) (k : Skt) (o : Ob) : Skt := ((if e = true then o.order else []).foldl (Skt.see b) (o.refs.foldl (Skt.see b) (k.w (sB 59)))).w (sB 124)
def Skt.ob (b : Int) (e : Bool) (k : Skt) (o : Ob) : Skt := ((((((k.o1 b o).o2 o.names).o3 b e o).o4 b o).o5 b e o).vs b o.keys).vs b o.items
def cV (v : Vl) : Nat := 60 + 10 * v.s.size + 8 * v.nl.length + 8 * v.dl.length
def cVs (l : List Vl) : Nat := (l.map cV).sum + 1
def cO (o : Ob) : Nat := 120 + 10 * o.name.size + (o.names.map fun s => s.size + 1).sum + 23 * o.refs.length + 23 * o.order.length + cVs o.keys + cVs o.items
theorem w_len (k : Skt) (s : ByteArray) : (k.w s).out.length = k.out.length + s.size ∧ (k.w s).ord = k.ord := ⟨by show (k.out ++ s.data.toList).length = _;rw [List.length_append];rfl,rfl⟩
theorem n_len {k : Skt} {n : Int} (h0 : -9223372036854775808 ≤ n) (h1 : n ≤ 9223372036854775807) : (k.n n).out.length ≤ k.out.length + 22 ∧ (k.n n).ord = k.ord := by
 have := itB_size h0 h1;refine ⟨?_,rfl⟩;rw [Skt.n,(w_len _ _).1,ByteArray.size_append];show _ + (_ + 1) ≤ _;omega
theorem ixI_lt' {α : Type} [DecidableEq α] : ∀ (l : List α) (n : α),ixI l n < l.length
 | [],n => by show (-1 : Int) < ((0 : Nat) : Int);omega
 | x :: l,n => by
  have := ixI_lt' l n;rw [ixI,List.length_cons];split
  ·omega
  ·split <;> omega
structure SkI (b : Int) (N : Nat) (k : Skt) : Prop where
 mem : ∀ n ∈ k.ord,b ≤ n ∧ n < (N : Int)
 nd : k.ord.Nodup
theorem nodup_lenI : ∀ {N : Nat} {l : List Int},l.Nodup → (∀ n ∈ l,0 ≤ n ∧ n < (N : Int)) → l.length ≤ N
 | 0,[],_,_ => Nat.le_refl 0
 | 0,x :: l,_,h => by have := h x List.mem_cons_self;omega
 | N + 1,l,hn,h => by
  have h1 : (l.filter fun n => decide (n ≠ (N : Int))).Nodup := hn.filter _;have h2 := nodup_lenI (N := N) h1 fun n hm => by
   obtain ⟨hm,hd⟩ := List.mem_filter.1 hm;have := h n hm;have := of_decide_eq_true hd;omega
  have h3 : (l.filter fun n => !decide (n ≠ (N : Int))).length ≤ 1 := by
   have h4 : (l.filter fun n => !decide (n ≠ (N : Int))).Nodup := hn.filter _;generalize hL : (l.filter fun n => !decide (n ≠ (N : Int))) = L at *;have h5 : ∀ n ∈ L,n = (N : Int) := fun n hm => by
    rw [← hL] at hm;have := (List.mem_filter.1 hm).2;simpa using this
   match L,h4,h5 with
   | [],_,_ => exact Nat.zero_le _
   | [_],_,_ => exact Nat.le_refl _
   | a :: c :: L,h4,h5 =>
    have e1 := h5 a List.mem_cons_self;have e2 := h5 c (List.mem_cons_of_mem _ List.mem_cons_self);rw [List.nodup_cons] at h4;exact absurd (by rw [e1,e2];exact List.mem_cons_self) h4.1
  have h6 : l.length = (l.filter fun n => decide (n ≠ (N : Int))).length + (l.filter fun n => !decide (n ≠ (N : Int))).length := by
   clear hn h h1 h2 h3;induction l with
   | nil => rfl
   | cons x l ih =>
    rw [List.filter_cons,List.filter_cons,List.length_cons,ih];by_cases hx : x = (N : Int)
    ·simp [hx];omega
    ·simp [hx];omega
  omega
theorem SkI.len {b : Int} {N : Nat} {k : Skt} (h : SkI b N k) (hb : 0 ≤ b) : k.ord.length ≤ N := nodup_lenI h.nd fun n hn => by have := h.mem n hn;omega
theorem ixI_neg {l : List Int} {n : Int} (h : ixI l n < 0) : n ∉ l := fun hm => by
 have h1 := ixI_mem l n;have h2 : hasB l n = true := by simpa [hasB] using hm
 rw [h2] at h1;have := of_decide_eq_true h1;omega
structure SkS (b : Int) (N : Nat) (k k' : Skt) (c : Nat) : Prop where
 inv : SkI b N k'
 len : k'.out.length ≤ k.out.length + c
 pre : ∃ r,k'.ord = k.ord ++ r
theorem SkS.refl {b : Int} {N : Nat} {k : Skt} (h : SkI b N k) : SkS b N k k 0 := ⟨h,by omega,[],by simp⟩
theorem SkS.trans {b : Int} {N : Nat} {k k' k'' : Skt} {c d : Nat} (h : SkS b N k k' c) (g : SkS b N k' k'' d) : SkS b N k k'' (c + d) := by
 obtain ⟨r,hr⟩ := h.pre;obtain ⟨q,hq⟩ := g.pre;exact ⟨g.inv,by have := h.len;have := g.len;omega,r ++ q,by rw [hq,hr,List.append_assoc]⟩
theorem SkS.le {b : Int} {N : Nat} {k k' : Skt} {c d : Nat} (h : SkS b N k k' c) (hc : c ≤ d) : SkS b N k k' d := ⟨h.inv,by have := h.len;omega,h.pre⟩
theorem w_ok {b : Int} {N : Nat} {k : Skt} (h : SkI b N k) (s : ByteArray) : SkS b N k (k.w s) s.size := ⟨⟨h.mem,h.nd⟩,by rw [(w_len _ _).1];omega,[],by simp [Skt.w]⟩
theorem n_ok {b : Int} {N : Nat} {k : Skt} (h : SkI b N k) {n : Int} (h0 : -9223372036854775808 ≤ n) (h1 : n ≤ 9223372036854775807) : SkS b N k (k.n n) 22 := ⟨⟨h.mem,h.nd⟩,(n_len h0 h1).1,[],by simp [Skt.n,Skt.w]⟩
theorem see_ok {b : Int} {N : Nat} {k : Skt} {n : Int} (h : SkI b N k) (hb : 0 ≤ b) (hN : N ≤ 1000000000) (h0 : -9223372036854775808 ≤ n) (h1 : n < (N : Int)) : SkS b N k (k.see b n) 23 := by
 have hl := h.len hb;unfold Skt.see;split
 ·exact ((w_ok h (sB 35)).trans (n_ok (w_ok h (sB 35)).inv h0 (by omega))).le (by decide)
 ·split
  ·rename_i hx hi;have hm := ixI_neg hi;have a : SkS b N k (⟨k.ord ++ [n],k.out⟩ : Skt) 0 := by
    refine ⟨⟨fun m hm => ?_,?_⟩,Nat.le_refl _,[n],rfl⟩
    ·rcases List.mem_append.1 hm with hm | hm
     ·exact h.mem m hm
     ·rw [List.mem_singleton.1 hm];omega
    ·show (k.ord ++ [n]).Nodup;rw [List.nodup_append];refine ⟨h.nd,by simp,fun a ha c hc => ?_⟩;rw [List.mem_singleton.1 hc];exact fun e => hm (e ▸ ha)
   have a2 := a.trans (w_ok a.inv (sB 64));exact (a2.trans (n_ok a2.inv (n := (k.ord.length : Nat)) (by omega) (by omega))).le (by decide)
  ·rename_i hx hi;have h2 : ixI k.ord n < k.ord.length := ixI_lt' _ _;exact ((w_ok h (sB 64)).trans (n_ok (w_ok h (sB 64)).inv (by omega) (by omega))).le (by decide)
theorem sees_ok {b : Int} {N : Nat} (hb : 0 ≤ b) (hN : N ≤ 1000000000) : ∀ {l : List Int} {k : Skt},SkI b N k → (∀ n ∈ l,0 ≤ n ∧ n < (N : Int)) → SkS b N k (l.foldl (Skt.see b) k) (23 * l.length)
 | [],k,h,_ => SkS.refl h
 | n :: l,k,h,hl => by
  have h1 := hl n List.mem_cons_self;have h2 := see_ok h hb hN (n := n) (by omega) h1.2;exact (h2.trans (sees_ok hb hN (l := l) h2.inv fun m hm => hl m (List.mem_cons_of_mem _ hm))).le (by rw [List.length_cons];omega)
structure VlC (N : Nat) (v : Vl) : Prop where
 vin : VlIn v
 r : v.k = 6 → v.r < (N : Int)
structure ObC (N : Nat) (o : Ob) : Prop where
 oin : ObIn o
 st : o.kind = 18 → o.state - 1 < (N : Int)
 cls : o.kind = 10 ∨ o.kind = 7 → o.cls < (N : Int)
 refs : ∀ n ∈ o.refs,0 ≤ n ∧ n < (N : Int)
 order : ∀ n ∈ o.order,0 ≤ n ∧ n < (N : Int)
 keys : ∀ v ∈ o.keys,VlC N v
 items : ∀ v ∈ o.items,VlC N v
theorem vlT_size {v : Vl} (h : VlIn v) : (vlT v).size ≤ 10 * v.s.size + 8 * v.nl.length + 8 * v.dl.length + 9 := by
 have h1 := quB_size v.s;have h2 := hxS_size (b := v.nn) h.nl;have h3 := hxS_size (b := v.dn) h.dl;have e : ∀ n,(sB n).size = 1 := fun _ => rfl;simp only [vlT,ByteArray.size_append,e];omega
theorem v_ok {b : Int} {N : Nat} {k : Skt} {v : Vl} (h : SkI b N k) (hb : 0 ≤ b) (hN : N ≤ 1000000000) (hv : VlC N v) : SkS b N k (k.v b v) (cV v) := by
 unfold Skt.v cV;split
 ·rename_i hk;exact (see_ok h hb hN hv.vin.r1 (hv.r hk)).le (by omega)
 ·have h1 := n_ok h hv.vin.k1 hv.vin.k2;have h2 := h1.trans (n_ok h1.inv hv.vin.r1 hv.vin.r2);have h4 := vlT_size hv.vin;exact (h2.trans (w_ok h2.inv (vlT v))).le (by omega)
theorem vsF_ok {b : Int} {N : Nat} (hb : 0 ≤ b) (hN : N ≤ 1000000000) : ∀ {l : List Vl} {k : Skt},SkI b N k → (∀ v ∈ l,VlC N v) → SkS b N k (l.foldl (Skt.v b) k) (l.map cV).sum
 | [],k,h,_ => SkS.refl h
 | v :: l,k,h,hl => by
  have h2 := v_ok h hb hN (hl v List.mem_cons_self);exact (h2.trans (vsF_ok hb hN (l := l) h2.inv fun m hm => hl m (List.mem_cons_of_mem _ hm))).le (by rw [List.map_cons,List.sum_cons];exact Nat.le_refl _)
theorem vs_ok {b : Int} {N : Nat} {l : List Vl} {k : Skt} (h : SkI b N k) (hb : 0 ≤ b) (hN : N ≤ 1000000000) (hl : ∀ v ∈ l,VlC N v) : SkS b N k (k.vs b l) (cVs l) := by
 have h1 := vsF_ok hb hN h hl;exact (h1.trans (w_ok h1.inv (sB 124))).le (Nat.le_refl _)
theorem o2_ok {b : Int} {N : Nat} : ∀ {l : List ByteArray} {k : Skt},SkI b N k → SkS b N k (k.o2 l) (l.map fun s => s.size + 1).sum
 | [],k,h => SkS.refl h
 | s :: l,k,h => by
  have h1 := w_ok h (s ++ sB 44);refine (h1.trans (o2_ok (l := l) h1.inv)).le ?_;rw [ByteArray.size_append,List.map_cons,List.sum_cons];exact Nat.le_refl _
theorem o1_ok {b : Int} {N : Nat} {k : Skt} {o : Ob} (h : SkI b N k) (ho : ObIn o) : SkS b N k (k.o1 b o) (47 + 10 * o.name.size) := by
 have h1 := w_ok h (sB 10);have h2 := h1.trans (n_ok h1.inv ho.kd.1 ho.kd.2);have h3 := h2.trans (n_ok h2.inv ho.co.1 ho.co.2);have h4 := quB_size o.name;exact (h3.trans (w_ok h3.inv (quB o.name))).le (by show 1 + 22 + 22 + _ ≤ _;omega)
theorem o3_ok {b : Int} {N : Nat} {k : Skt} {o : Ob} {e : Bool} (h : SkI b N k) (hb : 0 ≤ b) (hN : N ≤ 1000000000) (ho : ObC N o) : SkS b N k (k.o3 b e o) 23 := by
 unfold Skt.o3;split
 ·rename_i hk;exact see_ok h hb hN (by omega) (ho.st hk.1)
 ·split
  ·exact (n_ok h ho.oin.st.1 ho.oin.st.2).le (by decide)
  ·exact (SkS.refl h).le (by decide)
theorem o4_ok {b : Int} {N : Nat} {k : Skt} {o : Ob} (h : SkI b N k) (hb : 0 ≤ b) (hN : N ≤ 1000000000) (ho : ObC N o) : SkS b N k (k.o4 b o) 23 := by
 unfold Skt.o4;split
 ·rename_i hk;exact see_ok h hb hN ho.oin.cl.1 (ho.cls hk)
 ·exact (SkS.refl h).le (by decide)
theorem o5_ok {b : Int} {N : Nat} {k : Skt} {o : Ob} {e : Bool} (h : SkI b N k) (hb : 0 ≤ b) (hN : N ≤ 1000000000) (ho : ObC N o) : SkS b N k (k.o5 b e o) (2 + 23 * o.refs.length + 23 * o.order.length) := by
 have h1 := w_ok h (sB 59);have h2 := h1.trans (sees_ok hb hN (l := o.refs) h1.inv ho.refs);have h3 := h2.trans (sees_ok hb hN (l := if e = true then o.order else []) h2.inv fun n hn => by
  split at hn
  ·exact ho.order n hn
  ·cases hn)
 have e5 : (if e = true then o.order else []).length ≤ o.order.length := by split <;> simp
 exact (h3.trans (w_ok h3.inv (sB 124))).le (by show 1 + _ + _ + 1 ≤ _;omega)
theorem ob_ok {b : Int} {N : Nat} {k : Skt} {o : Ob} {e : Bool} (h : SkI b N k) (hb : 0 ≤ b) (hN : N ≤ 1000000000) (ho : ObC N o) : SkS b N k (k.ob b e o) (cO o) := by
 have h1 := o1_ok h ho.oin;have h2 := h1.trans (o2_ok (l := o.names) h1.inv);have h3 := h2.trans (o3_ok (e := e) h2.inv hb hN ho);have h4 := h3.trans (o4_ok h3.inv hb hN ho);have h5 := h4.trans (o5_ok (e := e) h4.inv hb hN ho);have h6 := h5.trans (vs_ok h5.inv hb hN ho.keys);exact (h6.trans (vs_ok h6.inv hb hN ho.items)).le (by unfold cO;omega)
theorem sum_nodup {f : Nat → Nat} : ∀ {N : Nat} {L : List Nat},L.Nodup → (∀ n ∈ L,n < N) → (L.map f).sum ≤ ((List.range N).map f).sum
 | 0,[],_,_ => Nat.le_refl _
 | 0,x :: l,_,h => absurd (h x List.mem_cons_self) (Nat.not_lt_zero _)
 | N + 1,L,hn,h => by
  have h2 := sum_nodup (f := f) (N := N) (hn.filter fun n => decide (n ≠ N)) fun n hm => by
   obtain ⟨hm,hd⟩ := List.mem_filter.1 hm;have := h n hm;have := of_decide_eq_true hd;omega
  have h3 : ((L.filter fun n => !decide (n ≠ N)).map f).sum ≤ f N := by
   have h4 : (L.filter fun n => !decide (n ≠ N)).Nodup := hn.filter _;have h5 : ∀ n ∈ (L.filter fun n => !decide (n ≠ N)),n = N := fun n hm => by simpa using (List.mem_filter.1 hm).2
   generalize (L.filter fun n => !decide (n ≠ N)) = M at *
   match M,h4,h5 with
   | [],_,_ => exact Nat.zero_le _
   | [a],_,h5 => rw [h5 a List.mem_cons_self];simp
   | a :: c :: M,h4,h5 =>
    have e1 := h5 a List.mem_cons_self;have e2 := h5 c (List.mem_cons_of_mem _ List.mem_cons_self);rw [List.nodup_cons] at h4;exact absurd (by rw [e1,e2];exact List.mem_cons_self) h4.1
  have h6 : (L.map f).sum = ((L.filter fun n => decide (n ≠ N)).map f).sum + ((L.filter fun n => !decide (n ≠ N)).map f).sum := by
   clear hn h h2 h3;induction L with
   | nil => rfl
   | cons x l ih =>
    rw [List.filter_cons,List.filter_cons,List.map_cons,List.sum_cons,ih];by_cases hx : x = N
    ·simp [hx];omega
    ·simp [hx];omega
  rw [List.range_succ,List.map_append,List.sum_append,List.map_singleton,List.sum_singleton,h6];omega
def Skt.base (b : Int) (e : Bool) (h : List Ob) (k : Skt) (m : Nat) : Skt := (List.range m).foldl (fun k i => k.ob b e (h.getD i ob0)) k
def Skt.run (b : Int) (e : Bool) (h : List Ob) : Nat → Nat → Skt → Skt
 | 0,_,k => k
 | n + 1,i,k => if i < k.ord.length then Skt.run b e h n (i + 1) (k.ob b e (h.getD (k.ord.getD i 0).toNat ob0)) else k
def HpC (h : List Ob) : Prop := ∀ o ∈ h,ObC h.length o
def cOs (h : List Ob) (L : List Nat) : Nat := (L.map fun i => cO (h.getD i ob0)).sum
def cH (h : List Ob) : Nat := cOs h (List.range h.length)
theorem HpC.at {h : List Ob} (hh : HpC h) {i : Nat} (hi : i < h.length) : ObC h.length (h.getD i ob0) := by
 rw [List.getD_eq_getElem?_getD,List.getElem?_eq_getElem hi];exact hh _ (List.getElem_mem _)
theorem base_succ (b : Int) (e : Bool) (h : List Ob) (k : Skt) (m : Nat) : Skt.base b e h k (m + 1) = (Skt.base b e h k m).ob b e (h.getD m ob0) := by
 rw [Skt.base,List.range_succ,List.foldl_append];rfl
theorem base_ok {b : Int} {e : Bool} {h : List Ob} {k : Skt} (hk : SkI b h.length k) (hb : 0 ≤ b) (hN : h.length ≤ 1000000000) (hh : HpC h) : ∀ {m : Nat},m ≤ h.length → SkS b h.length k (Skt.base b e h k m) (cOs h (List.range m))
 | 0,_ => SkS.refl hk
 | m + 1,hm => by
  have h1 := base_ok (e := e) hk hb hN hh (m := m) (by omega);rw [base_succ];refine (h1.trans (ob_ok h1.inv hb hN (hh.at (by omega)))).le ?_;rw [cOs,cOs,List.range_succ,List.map_append,List.sum_append,List.map_singleton,List.sum_singleton];exact Nat.le_refl _
theorem nodup_nat : ∀ {l : List Int},l.Nodup → (∀ n ∈ l,0 ≤ n) → (l.map Int.toNat).Nodup
 | [],_,_ => List.nodup_nil
 | x :: l,hn,h => by
  rw [List.nodup_cons] at hn;rw [List.map_cons,List.nodup_cons];refine ⟨fun hm => ?_,nodup_nat hn.2 fun n hm => h n (List.mem_cons_of_mem _ hm)⟩;obtain ⟨y,hy,e⟩ := List.mem_map.1 hm;have h1 := h x List.mem_cons_self;have h2 := h y (List.mem_cons_of_mem _ hy);exact hn.1 ((show y = x by omega) ▸ hy)
theorem cost_all {b : Int} {h : List Ob} {k : Skt} {m i : Nat} (hk : SkI b h.length k) (hm : (m : Int) ≤ b) (hm2 : m ≤ h.length) : cOs h (List.range m ++ (k.ord.take i).map Int.toNat) ≤ cH h := by
 refine sum_nodup ?_ fun n hn => ?_
 ·rw [List.nodup_append];refine ⟨List.nodup_range,nodup_nat (hk.nd.sublist (List.take_sublist _ _)) fun n hn => by have := hk.mem n (List.mem_of_mem_take hn);omega,fun a ha c hc => ?_⟩;have h1 := List.mem_range.1 ha;obtain ⟨y,hy,rfl⟩ := List.mem_map.1 hc;have := hk.mem y (List.mem_of_mem_take hy);omega
 ·rcases List.mem_append.1 hn with hn | hn
  ·have := List.mem_range.1 hn;omega
  ·obtain ⟨y,hy,rfl⟩ := List.mem_map.1 hn;have := hk.mem y (List.mem_of_mem_take hy);omega
structure Rn (b : Int) (e : Bool) (h : List Ob) (m C : Nat) (kf : Skt) where
 i : Nat
 k : Skt
 inv : SkI b h.length k
 le : i ≤ k.ord.length
 eq : Skt.run b e h (h.length - i) i k = kf
 len : k.out.length ≤ C + cOs h (List.range m ++ (k.ord.take i).map Int.toNat)
def Rn.start {b : Int} (e : Bool) {h : List Ob} {m C : Nat} (k : Skt) (hk : SkI b h.length k) (hl : k.out.length ≤ C + cOs h (List.range m)) : Rn b e h m C (Skt.run b e h h.length 0 k) := ⟨0,k,hk,Nat.zero_le _,rfl,by simpa using hl⟩
theorem Rn.at {b : Int} {e : Bool} {h : List Ob} {m C : Nat} {kf : Skt} (x : Rn b e h m C kf) (hi : x.i < x.k.ord.length) : b ≤ x.k.ord.getD x.i 0 ∧ x.k.ord.getD x.i 0 < (h.length : Int) := by
 rw [List.getD_eq_getElem?_getD,List.getElem?_eq_getElem hi];exact x.inv.mem _ (List.getElem_mem _)
def Rn.next {b : Int} {e : Bool} {h : List Ob} {m C : Nat} {kf : Skt} (x : Rn b e h m C kf) (hi : x.i < x.k.ord.length) (hb : 0 ≤ b) (hN : h.length ≤ 1000000000) (hh : HpC h) : Rn b e h m C kf :=
 have hs := ob_ok (e := e) x.inv hb hN (hh.at (show (x.k.ord.getD x.i 0).toNat < h.length by have := x.at hi;omega))
 ⟨x.i + 1,x.k.ob b e (h.getD (x.k.ord.getD x.i 0).toNat ob0),hs.inv,by obtain ⟨r,hr⟩ := hs.pre;rw [hr,List.length_append];omega,by
  have hl := x.inv.len hb;have e1 : Skt.run b e h (h.length - x.i) x.i x.k = Skt.run b e h (h.length - (x.i + 1)) (x.i + 1) (x.k.ob b e (h.getD (x.k.ord.getD x.i 0).toNat ob0)) := by
   rw [show h.length - x.i = (h.length - (x.i + 1)) + 1 by omega,Skt.run,if_pos hi]
  exact e1.symm.trans x.eq,by
  obtain ⟨r,hr⟩ := hs.pre;have h1 : ((x.k.ob b e (h.getD (x.k.ord.getD x.i 0).toNat ob0)).ord.take (x.i + 1)) = x.k.ord.take x.i ++ [x.k.ord.getD x.i 0] := by
   rw [hr,List.take_append_of_le_length (by omega),List.take_add_one,List.getElem?_eq_getElem hi,List.getD_eq_getElem?_getD,List.getElem?_eq_getElem hi];rfl
  rw [h1];have h2 := hs.len;have h3 := x.len;simp only [cOs,List.map_append,List.sum_append,List.map_cons,List.map_nil,List.sum_cons,List.sum_nil] at h3 ⊢;omega⟩
theorem Rn.fin {b : Int} {e : Bool} {h : List Ob} {m C : Nat} {kf : Skt} (x : Rn b e h m C kf) (hi : ¬ x.i < x.k.ord.length) : x.k = kf := by
 refine Eq.trans ?_ x.eq
 cases h.length - x.i with
 | zero => rfl
 | succ n => rw [Skt.run,if_neg hi]
theorem Rn.bound {b : Int} {e : Bool} {h : List Ob} {m C : Nat} {kf : Skt} (x : Rn b e h m C kf) (hm : (m : Int) ≤ b) (hm2 : m ≤ h.length) : x.k.out.length ≤ C + cH h := Nat.le_trans x.len (by have := cost_all (i := x.i) x.inv hm hm2;omega)
noncomputable def settledS (h : List Ob) (b : Nat) (l : List Vl) : ByteArray := ⟨(Skt.run b true h h.length 0 (Skt.base b true h (Skt.vs b ⟨[],[]⟩ l) (min b h.length))).out.toArray⟩
end Go.Proofs.YtmbnclhokhggaaaGreatDoor
/-
  DERIVED: THE SHELF's CONTRACTS AT THIS DUMP,IN PLAIN WORDS (tools/lay-plain.mjs out of 'YtmbnclhokhggaaaGreatDoorShelf3.lean',which tools/lay-shelf.mjs wrote): THE SAME DECLARATIONS UNDER THE SAME NAMES: 'import','namespace','open','def','theorem' AND NOTHING ELSE: no command of the shelf's: FOR A HAND-IN. Each laying: the table of numbers ('.._ren') and one theorem,a field a fact of the dump's own or the kernel's comparison;each contract: ONE APPLICATION.
-/
namespace Go.Proofs
open Go.Shelf
def Tryz.laysItoa_ren : Go.Shelf.Ren := ⟨fun | 171 => 132 | 243 => 143 | 246 => 150 | 283 => 153 | 284 => 154 | 285 => 155 | 286 => 156 | 129 => 162 | 317 => 161 | 318 => 163 | 319 => 164 | 320 => 165 | 337 => 169 | 338 => 170 | n => n,fun | 3 => 3 | 9 => 9 | 2 => 2 | 4 => 4 | 171 => 193 | 0 => 0 | 53 => 89 | 37 => 126 | 5 => 5 | 173 => 196 | 212 => 200 | 51 => 83 | 20 => 20 | 213 => 201 | 46 => 90 | 232 => 208 | 233 => 209 | n => n,fun | 17 => 5 | 18 => 11 | 19 => 12 | n => n⟩
theorem Tryz.laysItoa : Go.Proofs.LaysM.n171 Tryz.prog Tryz.laysItoa_ren := {
 mixed := by kernel_rfl
 f129 := Tryz.func162.trans (congrArg some (by kernel_rfl))
 f171 := Tryz.func132.trans (congrArg some (by kernel_rfl))
 f243 := Tryz.func143.trans (congrArg some (by kernel_rfl))
 f246 := Tryz.func150.trans (congrArg some (by kernel_rfl))
 f283 := Tryz.func153.trans (congrArg some (by kernel_rfl))
 f284 := Tryz.func154.trans (congrArg some (by kernel_rfl))
 f285 := Tryz.func155.trans (congrArg some (by kernel_rfl))
 f286 := Tryz.func156.trans (congrArg some (by kernel_rfl))
 f317 := Tryz.func161.trans (congrArg some (by kernel_rfl))
 f318 := Tryz.func163.trans (congrArg some (by kernel_rfl))
 f319 := Tryz.func164.trans (congrArg some (by kernel_rfl))
 f320 := Tryz.func165.trans (congrArg some (by kernel_rfl))
 f337 := Tryz.func169.trans (congrArg some (by kernel_rfl))
 f338 := Tryz.func170.trans (congrArg some (by kernel_rfl))
 t0 := Tryz.underlying0
 a0 := Tryz.isAgg0
 z0 := Tryz.sizeOf0
 v0 := Tryz.zeroValue0
 t2 := Tryz.underlying2
 a2 := Tryz.isAgg2
 z2 := Tryz.sizeOf2
 v2 := Tryz.zeroValue2
 t3 := Tryz.underlying3
 a3 := Tryz.isAgg3
 z3 := Tryz.sizeOf3
 v3 := Tryz.zeroValue3
 t4 := Tryz.underlying4
 a4 := Tryz.isAgg4
 z4 := Tryz.sizeOf4
 v4 := Tryz.zeroValue4
 t5 := Tryz.underlying5
 a5 := Tryz.isAgg5
 z5 := Tryz.sizeOf5
 v5 := Tryz.zeroValue5
 t9 := Tryz.underlying9
 a9 := Tryz.isAgg9
 z9 := Tryz.sizeOf9
 v9 := Tryz.zeroValue9
 t20 := Tryz.underlying20
 a20 := Tryz.isAgg20
 z20 := Tryz.sizeOf20
 v20 := Tryz.zeroValue20
 t37 := Tryz.underlying126
 a37 := Tryz.isAgg126
 z37 := Tryz.sizeOf126
 v37 := Tryz.zeroValue126
 t46 := Tryz.underlying90
 a46 := Tryz.isAgg90
 z46 := Tryz.sizeOf90
 v46 := Tryz.zeroValue90
 t51 := Tryz.underlying83
 a51 := Tryz.isAgg83
 z51 := Tryz.sizeOf83
 v51 := Tryz.zeroValue83
 t53 := Tryz.underlying89
 a53 := Tryz.isAgg89
 z53 := Tryz.sizeOf89
 v53 := Tryz.zeroValue89
 t171 := Tryz.underlying193
 a171 := Tryz.isAgg193
 z171 := Tryz.sizeOf193
 v171 := Tryz.zeroValue193
 t173 := Tryz.underlying196
 a173 := Tryz.isAgg196
 z173 := Tryz.sizeOf196
 v173 := Tryz.zeroValue196
 t212 := Tryz.underlying200
 a212 := Tryz.isAgg200
 z212 := Tryz.sizeOf200
 v212 := Tryz.zeroValue200
 t213 := Tryz.underlying201
 a213 := Tryz.isAgg201
 z213 := Tryz.sizeOf201
 t232 := Tryz.underlying208
 a232 := Tryz.isAgg208
 z232 := Tryz.sizeOf208
 v232 := Tryz.zeroValue208
 t233 := Tryz.underlying209
 a233 := Tryz.isAgg209
 z233 := Tryz.sizeOf209
 v233 := Tryz.zeroValue209
 g17 := by kernel_rfl
 g18 := by kernel_rfl
 g19 := by kernel_rfl
 i0 := by kernel_rfl
 i2 := by kernel_rfl
 i3 := by kernel_rfl
 i4 := by kernel_rfl
 i5 := by kernel_rfl
 i9 := by kernel_rfl
 i20 := by kernel_rfl
 i37 := by kernel_rfl
 i46 := by kernel_rfl
 i51 := by kernel_rfl
 i53 := by kernel_rfl
 i171 := by kernel_rfl
 i173 := by kernel_rfl
 i212 := by kernel_rfl
 i232 := by kernel_rfl
 i233 := by kernel_rfl
 m17 := by kernel_rfl
 m18 := by kernel_rfl
 m19 := by kernel_rfl }
def Tryz.laysQuote_ren : Go.Shelf.Ren := ⟨fun | 177 => 120 | 250 => 133 | 289 => 144 | 197 => 148 | 323 => 151 | 260 => 152 | 339 => 157 | 340 => 158 | 242 => 159 | 119 => 160 | 345 => 166 | 346 => 167 | 278 => 168 | n => n,fun | 9 => 9 | 5 => 5 | 4 => 4 | 3 => 3 | 37 => 126 | 21 => 21 | 105 => 189 | 46 => 90 | 119 => 132 | 0 => 0 | 139 => 150 | 138 => 149 | 49 => 173 | 234 => 203 | 131 => 204 | 51 => 83 | 236 => 30 | n => n,fun | 3 => 1 | 4 => 2 | 20 => 6 | 21 => 7 | 22 => 8 | 23 => 9 | 24 => 10 | n => n⟩
theorem Tryz.laysQuote : Go.Proofs.Lays.n177 Tryz.prog Tryz.laysQuote_ren := {
 mixed := by kernel_rfl
 f119 := Tryz.func160.trans (congrArg some (by kernel_rfl))
 f177 := Tryz.func120.trans (congrArg some (by kernel_rfl))
 f197 := Tryz.func148.trans (congrArg some (by kernel_rfl))
 f242 := Tryz.func159.trans (congrArg some (by kernel_rfl))
 f250 := Tryz.func133.trans (congrArg some (by kernel_rfl))
 f260 := Tryz.func152.trans (congrArg some (by kernel_rfl))
 f278 := Tryz.func168.trans (congrArg some (by kernel_rfl))
 f289 := Tryz.func144.trans (congrArg some (by kernel_rfl))
 f323 := Tryz.func151.trans (congrArg some (by kernel_rfl))
 f339 := Tryz.func157.trans (congrArg some (by kernel_rfl))
 f340 := Tryz.func158.trans (congrArg some (by kernel_rfl))
 f345 := Tryz.func166.trans (congrArg some (by kernel_rfl))
 f346 := Tryz.func167.trans (congrArg some (by kernel_rfl))
 t0 := Tryz.underlying0
 a0 := Tryz.isAgg0
 z0 := Tryz.sizeOf0
 v0 := Tryz.zeroValue0
 t3 := Tryz.underlying3
 a3 := Tryz.isAgg3
 z3 := Tryz.sizeOf3
 v3 := Tryz.zeroValue3
 t4 := Tryz.underlying4
 a4 := Tryz.isAgg4
 z4 := Tryz.sizeOf4
 v4 := Tryz.zeroValue4
 t5 := Tryz.underlying5
 a5 := Tryz.isAgg5
 z5 := Tryz.sizeOf5
 v5 := Tryz.zeroValue5
 t9 := Tryz.underlying9
 a9 := Tryz.isAgg9
 z9 := Tryz.sizeOf9
 v9 := Tryz.zeroValue9
 t21 := Tryz.underlying21
 a21 := Tryz.isAgg21
 z21 := Tryz.sizeOf21
 v21 := Tryz.zeroValue21
 t37 := Tryz.underlying126
 a37 := Tryz.isAgg126
 z37 := Tryz.sizeOf126
 v37 := Tryz.zeroValue126
 t46 := Tryz.underlying90
 a46 := Tryz.isAgg90
 z46 := Tryz.sizeOf90
 v46 := Tryz.zeroValue90
 t49 := Tryz.underlying173
 a49 := Tryz.isAgg173
 z49 := Tryz.sizeOf173
 v49 := Tryz.zeroValue173
 t51 := Tryz.underlying83
 a51 := Tryz.isAgg83
 z51 := Tryz.sizeOf83
 v51 := Tryz.zeroValue83
 t105 := Tryz.underlying189
 a105 := Tryz.isAgg189
 z105 := Tryz.sizeOf189
 v105 := Tryz.zeroValue189
 t119 := Tryz.underlying132
 a119 := Tryz.isAgg132
 z119 := Tryz.sizeOf132
 t131 := Tryz.underlying204
 a131 := Tryz.isAgg204
 z131 := Tryz.sizeOf204
 v131 := Tryz.zeroValue204
 t138 := Tryz.underlying149
 a138 := Tryz.isAgg149
 z138 := Tryz.sizeOf149
 v138 := Tryz.zeroValue149
 t139 := Tryz.underlying150
 a139 := Tryz.isAgg150
 z139 := Tryz.sizeOf150
 v139 := Tryz.zeroValue150
 t234 := Tryz.underlying203
 a234 := Tryz.isAgg203
 z234 := Tryz.sizeOf203
 v234 := Tryz.zeroValue203
 t236 := Tryz.underlying30
 a236 := Tryz.isAgg30
 z236 := Tryz.sizeOf30
 v236 := Tryz.zeroValue30
 g3 := by kernel_rfl
 g4 := by kernel_rfl
 g20 := by kernel_rfl
 g21 := by kernel_rfl
 g22 := by kernel_rfl
 g23 := by kernel_rfl
 g24 := by kernel_rfl }
end Go.Proofs
namespace Go.Proofs.YtmbnclhokhggaaaGreatDoor
open Go.RowKit Go.Shelf
theorem tab_pow {w : World} {s : Sb} (hg : Glb w s) : Lib.TabIs Tryz.prog w "internal/strconv.uint64pow10" .u64 Lib.pow10Tab := by
 obtain ⟨G,g1,g2,g3⟩ := hg;have hn : Tryz.prog.globalNamed "internal/strconv.uint64pow10" = some 5 := by kernel_rfl
 have h1 : ∀ i : Nat,i < 20 → w.cell? ⟨5,i,none⟩ = some (.int .u64 (Lib.pow10Tab.getD i 0)) := fun i hi => (g2 _ _ _ (g1.pow10 i hi)).1;have h2 : ∀ o : Nat,20 ≤ o → w.cell? ⟨5,o,none⟩ = none := fun o ho => (g3 _ _ (.pow10 o ho)).1;have hl : Lib.pow10Tab.length = 20 := Lib.pow10Tab_length;unfold Lib.TabIs World.var?;rw [hn];show (match w.heap[5]? with | some (.cells cs _ _) => some cs | _ => none) = _;have h0 := h1 0 (by decide)
 cases hb : w.heap[5]? with
 | none => simp [World.cell?,hb] at h0
 | some o =>
  cases o with
  | cells cs t f =>
   show some cs = some _;congr 1;apply Array.ext_getElem?;intro i;rcases Nat.lt_or_ge i 20 with hi | hi
   ·have h3 : cs[i]? = some (.int .u64 (Lib.pow10Tab.getD i 0)) := by
     have := h1 i hi;simpa [World.cell?,hb] using this
    rw [h3,List.getElem?_toArray,List.getElem?_map,List.getElem?_eq_getElem (by omega),List.getD_eq_getElem?_getD,List.getElem?_eq_getElem (by omega)];rfl
   ·have h3 : cs[i]? = none := by
     have := h2 i hi;simpa [World.cell?,hb] using this
    rw [h3,List.getElem?_toArray,List.getElem?_map,List.getElem?_eq_none (by omega)];rfl
  | _ => simp [World.cell?,hb] at h0
theorem Itoa_ok (n : Int) (h0 : -9223372036854775808 ≤ n) (h1 : n ≤ 9223372036854775807) : Fn Tryz.prog 132 [.v (.int .i64 n)] (.v (.string (itB n))) := by
 refine fn_below ⟨_,Tryz.func132,rfl,rfl⟩ fun w s vs hg hv => ?_;rw [allV_one hv];refine (Any.strconv_Itoa Tryz.laysItoa n h0 h1 w (tab_pow hg)).mono ?_;rintro e w' ⟨rfl,k,os,rfl⟩;exact ⟨rfl,Lib.below_grow _ w (Nat.le_refl _) k os⟩
theorem sli_at {w : World} {s : Sb} {G : Nat → Nat → Option Value} (g2 : ∀ b o v,G b o = some v → w.cell? ⟨b,o,none⟩ = some v ∧ s b o) {g : Nat} {k : IntKind} {t : List Nat} (h : SliG G g k t) : Lib.TabSlice g k t w := by
 obtain ⟨R,o,c,h1,h2⟩ := h;exact ⟨R,o,c,(g2 _ _ _ h1).1,fun j hj => (g2 _ _ _ (h2 j hj)).1⟩
theorem Quote_ok (s : ByteArray) (hs : s.size ≤ 1000000000) : Fn Tryz.prog 120 [.v (.string s)] (.v (.string (quB s))) := by
 refine fn_below ⟨_,Tryz.func120,rfl,rfl⟩ fun w s' vs hg hv => ?_;rw [allV_one hv];obtain ⟨G,g1,g2,_⟩ := hg
 have hT : Lib.PrintTabsAt 6 7 8 9 Lib.goPrintTabs w :=
  ⟨sli_at g2 g1.p16,sli_at g2 g1.n16,sli_at g2 g1.p32,sli_at g2 g1.n32,by decide +kernel,by decide +kernel,by decide +kernel⟩
 have hU : Lib.Utf8Tabs 1 2 w := ⟨fun c hc => (g2 _ _ _ (g1.first c hc)).1,fun i hi => ⟨(g2 _ _ _ (g1.accept i hi).1).1,(g2 _ _ _ (g1.accept i hi).2).1⟩⟩;exact Any.strconv_Quote Tryz.laysQuote (by kernel_rfl) Lib.goPrintTabs s w (by omega) hT hU
open Go.RowKit
section
variable {P : Program} {b : Ba} {ops : Array Oper}
end
def ArgS : List D → List D → Prop
 | [],[] => True
 | d :: l,d' :: l' => Sub d d' ∧ ArgS l l'
 | _,_ => False
theorem ArgS.all {w : World} {s : Sb} {g : Gh} : ∀ {l l' : List D} {vs : List Value},ArgS l l' → AllT w s g (D.tvl l) vs → AllT w s g (D.tvl l') vs
 | [],[],_,_,h => h
 | d :: l,d' :: l',[],_,h => by rw [D.tvl] at h;simp [AllT] at h
 | d :: l,d' :: l',v :: vs,h,hv => by
  rw [D.tvl,AllT.cons] at hv;rw [D.tvl,AllT.cons];exact ⟨h.1 _ _ _ _ hv.1,h.2.all hv.2⟩
 | [],_ :: _,_,h,_ => h.elim
 | _ :: _,[],_,h,_ => h.elim
theorem FnG.args {P : Program} {f : FuncId} {args args' : List D} {own own' : List DOwn} {out : D} (h : FnG P f args own out own') (hs : ArgS args' args) : FnG P f args' own out own' :=
 ⟨h.bod,fun w s g vs hg ha => h.run w s g vs hg (hs.all ha)⟩
theorem FnG.out {P : Program} {f : FuncId} {args : List D} {own own' : List DOwn} {out out' : D} (h : FnG P f args own out own') (hs : Sub out out') : FnG P f args own out' own' :=
 ⟨h.bod,fun w s g vs hg ha => (h.run w s g vs hg ha).mono fun r w' hq => by
  obtain ⟨s',g',v,h1,h2,h3⟩ := hq;exact ⟨s',g',v,h1,hs _ _ _ _ h2,h3⟩⟩
variable {md me : Bool}
def skO (md : Bool) (h : List Ob) (b : Int) (k : Skt) : List DOwn := [.box 128 [.sl md 10 h obD ob0,.v (.int .i64 b),.mo 1 k.ord.length,.mo 2 k.out.length],.mrow 3 1 (.map k.ord iD 0),.mrow 5 1 (.map k.out u8D 0)]
theorem ixI_ge {α : Type} [DecidableEq α] : ∀ (l : List α) (n : α),-1 ≤ ixI l n
 | [],_ => by show (-1 : Int) ≤ -1;omega
 | x :: l,n => by
  have := ixI_ge l n;rw [ixI];split
  ·omega
  ·split <;> omega
theorem IndexIm_ok (l : List Int) (n : Int) : Fn Tryz.prog 58 [.sl md 1 l iD 0,.v (.int .i64 n)] (.v (.int .i64 (ixI l n))) := by
 refine yK tabT Tryz.func58 rfl rfl rfl rfl rfl rfl ?_;intro w0 s0 mx;refine ev_len 0 rfl fun hl0 => ?_;refine ev_R tabT [] 100 ?_;refine zB ?_;refine ev_R tabT [] 200 ?_;refine zL ?_;refine zX (ι := Nf l n) [0,1,7] [] 250 (fun x => [(8,.v (.int .i64 x.k))]) (fun _ => []) (fun x => l.length - x.k) ⟨0,Nat.zero_le _,fun j hj => by omega⟩ ?_;refine ⟨⟨le_t,le_o,rfl,rfl⟩,fun x => ?_⟩;have hk := x.le;refine ev_R tabT [] 300 ?_;refine zB ?_;refine yF (fun c2 => ?_) (fun c2 => ?_)
 ·
  refine zK (zA ?_);refine zB ?_;refine zL ?_;refine ev_R tabT [] 400 ?_;refine ev_R tabT [] 500 ?_;refine yF (fun c4 => ?_) (fun c4 => ?_)
  ·
   refine ev_R tabT [] 600 ?_;refine zO (zN (zM (yH (zN (zM ?_)))));exact FinV.ret rfl (SubP.int (x.found c2 c4).symm)
  ·
   refine zK (zJ (zA ?_));refine ev_Q tabT [] 700 ?_;exact zP (x.next c2 c4) ⟨le_t,le_o,rfl,rfl⟩ (by show l.length - (x.k + 1) < l.length - x.k;omega)
 ·
  refine yA (zU (zW (zS (zA ?_))));refine ev_R tabT [] 800 ?_;refine zO ?_;exact FinV.ret rfl (SubP.int (x.none c2).symm)
theorem qP (h : List Ob) (b : Int) (k : Skt) (s : ByteArray) (hl : k.out.length + s.size ≤ 1073741824) : FnG Tryz.prog 118 [.bp 0 0,.v (.string s)] (skO md h b k) (.v (.tuple #[])) (skO md h b (k.w s)) := by
 refine qT tabT Tryz.func118 rfl rfl rfl rfl rfl rfl rfl ?_;intro w0 s0 mx;refine zE tabT [] 100 rfl ?_;repeat (first | refine zG ?_ | refine zH ?_ | refine zQ (by first | (simp only [MR.len];done) | (simp only [MR.len];omega) | first | exact trivial | omega | exact ini (by omega) (by omega) | (intro hh;simp at hh;exact ini (by omega) (by omega)) | (intro hh;simp at hh ⊢;omega) | (simp at *;omega) | (simp_all;done)) ?_)
 refine zC ?_;exact FinH.normal 3 rfl rfl (Sub.refl _) ⟨⟨rfl,Sub.refl _,rfl,Sub.refl _,rfl,Sub.refl _,rfl,Sub.mo (by rw [(w_len k s).1]),rfl,trivial⟩,SubO.mp rfl,SubO.mp (by show D.pvss (k.out.map u8D ++ s.data.toList.map u8D) = D.pvss ((k.out ++ s.data.toList).map u8D);rw [List.map_append]),trivial⟩
theorem sn221 {P : Program} {K : DS → Prop} {p : Prop} {r : Out} (hr : r.sat P K) (hp : p := by first | exact Nat.le_trans (show (itB n).size + 1 ≤ 22 by omega) (by decide) | first | exact trivial | omega | exact ini (by omega) (by omega) | (intro hh;simp at hh;exact ini (by omega) (by omega)) | (intro hh;simp at hh ⊢;omega) | (simp at *;omega) | (simp_all;done)) : (Out.need p r).sat P K := ⟨hp,hr⟩
theorem skNum_G (h : List Ob) (b : Int) (k : Skt) (n : Int) (h0 : -9223372036854775808 ≤ n) (h1 : n ≤ 9223372036854775807) (hl : k.out.length + 22 ≤ 1073741824) : FnG Tryz.prog 119 [.bp 0 0,.v (.int .i64 n)] (skO md h b k) (.v (.tuple #[])) (skO md h b (k.n n)) := by
 have hz := itB_size h0 h1;have hz2 : (itB n ++ sB 32).size ≤ 22 := by rw [ByteArray.size_append];show _ + 1 ≤ _;omega
 refine qT tabT Tryz.func119 rfl rfl rfl rfl rfl rfl rfl ?_;intro w0 s0 mx;refine zE tabT [1008] 100 rfl ?_;repeat (first | refine zG ?_ | refine zH ?_ | refine sn221 ?_)
 refine zV _ (Itoa_ok n h0 h1) rfl ?_;repeat (first | refine zG ?_ | refine zH ?_ | refine sn221 ?_)
 refine yD _ _ (qP h b k (itB n ++ sB 32) (by omega)) rfl ?_;repeat (first | refine zG ?_ | refine zH ?_ | refine sn221 ?_)
 refine zC ?_;exact FinH.normal 3 rfl rfl (Sub.refl _) ⟨⟨rfl,Sub.refl _,rfl,Sub.refl _,rfl,Sub.refl _,rfl,Sub.refl _,rfl,trivial⟩,SubO.mp rfl,SubO.mp rfl,trivial⟩
theorem skSee_G (h : List Ob) (b : Int) (k : Skt) (n : Int) (h0 : -9223372036854775808 ≤ n) (h1 : n ≤ 9223372036854775807) (hl : k.out.length + 23 ≤ 1073741824) (ho : k.ord.length ≤ 1000000000) : FnG Tryz.prog 121 [.bp 0 0,.v (.int .i64 n)] (skO md h b k) (.v (.tuple #[])) (skO md h b (k.see b n)) := by
 have hix := ixI_lt' k.ord n;have hix2 := ixI_ge k.ord n;refine qT tabT Tryz.func121 rfl rfl rfl rfl rfl rfl rfl ?_;intro w0 s0 mx;refine zB ?_;refine ev_R tabT [] 100 ?_;refine yF (fun c0 => ?_) (fun c0 => ?_)
 ·
  refine zB (zE tabT [1012] 200 rfl ?_);refine zF ?_;refine yD _ _ (qP h b k (sB 35) (by show k.out.length + 1 ≤ _;omega)) rfl ?_;refine zF ?_;refine zC (zA ?_);refine yJ [0,1] [] 210 [] [(0,.box 128 [.sl md 10 h obD ob0,.v (.int .i64 b),.mo 1 (k.w (sB 35)).ord.length,.mo 2 (k.w (sB 35)).out.length]),(1,.mrow 3 1 (.map (k.w (sB 35)).ord iD 0)),(2,.mrow 5 1 (.map (k.w (sB 35)).out u8D 0))] ?_;refine ⟨⟨le_t,⟨⟨rfl,Sub.refl _,rfl,Sub.refl _,rfl,Sub.mo (by simp [Skt.w,Skt.n]),rfl,Sub.mo (by simp [Skt.w,Skt.n]),rfl,trivial⟩,SubO.mp rfl,SubO.mp rfl,le_o⟩,rfl,rfl⟩,?_⟩;refine zB (zE tabT [1015] 300 rfl ?_);refine zF ?_;refine yD _ _ (skNum_G h b (k.w (sB 35)) n h0 h1 (by rw [(w_len _ _).1];show k.out.length + 1 + 22 ≤ _;omega)) rfl ?_;refine zF ?_;refine zC (zA (zO (zM ?_)));rw [show k.see b n = (k.w (sB 35)).n n from if_pos c0];exact FinH.ret 3 rfl rfl (Sub.refl _) ⟨⟨rfl,Sub.refl _,rfl,Sub.refl _,rfl,Sub.refl _,rfl,Sub.refl _,rfl,trivial⟩,SubO.mp rfl,SubO.mp rfl,trivial⟩
 ·
  refine zK (zA ?_);refine zB (zE tabT [] 400 rfl ?_);refine zF ?_;refine sat_fnL _ (IndexIm_ok k.ord n) rfl rfl ?_;refine zF ?_;refine zC (zA ?_);refine zB ?_;refine ev_R tabT [] 500 ?_;refine yF (fun c4 => ?_) (fun c4 => ?_)
  ·
   refine ev_R tabT [] 600 ?_;refine zE tabT [] 700 rfl ?_;repeat (first | refine zG ?_ | refine zH ?_ | refine zQ (by first | rfl | (simp only [MR.len,List.length_map,List.length_cons,List.length_nil];omega) | first | exact trivial | omega | exact ini (by omega) (by omega) | (intro hh;simp at hh;exact ini (by omega) (by omega)) | (intro hh;simp at hh ⊢;omega) | (simp at *;omega) | (simp_all;done)) ?_)
   refine zC (zA ?_);refine yJ [0,4] [] 710 [] [(0,.box 128 [.sl md 10 h obD ob0,.v (.int .i64 b),.mo 1 ((⟨k.ord ++ [n],k.out⟩ : Skt)).ord.length,.mo 2 ((⟨k.ord ++ [n],k.out⟩ : Skt)).out.length]),(1,.mrow 3 1 (.map ((⟨k.ord ++ [n],k.out⟩ : Skt)).ord iD 0)),(2,.mrow 5 1 (.map ((⟨k.ord ++ [n],k.out⟩ : Skt)).out u8D 0))] ?_;refine ⟨⟨le_t,⟨⟨rfl,Sub.refl _,rfl,Sub.refl _,rfl,Sub.mo (by simp),rfl,Sub.mo (by simp),rfl,trivial⟩,SubO.mp (by show D.pvss (k.ord.map iD ++ [iD n]) = D.pvss ((k.ord ++ [n]).map iD);rw [List.map_append];rfl),SubO.mp rfl,le_o⟩,rfl,rfl⟩,?_⟩;refine zB (zE tabT [1040] 800 rfl ?_);refine zF ?_;refine yD _ _ (qP h b (⟨k.ord ++ [n],k.out⟩ : Skt) (sB 64) (by show k.out.length + 1 ≤ _;omega)) rfl ?_;refine zF ?_;refine zC (zA ?_);refine yJ [0,4] [] 810 [] [(0,.box 128 [.sl md 10 h obD ob0,.v (.int .i64 b),.mo 1 ((⟨k.ord ++ [n],k.out⟩ : Skt).w (sB 64)).ord.length,.mo 2 ((⟨k.ord ++ [n],k.out⟩ : Skt).w (sB 64)).out.length]),(1,.mrow 3 1 (.map ((⟨k.ord ++ [n],k.out⟩ : Skt).w (sB 64)).ord iD 0)),(2,.mrow 5 1 (.map ((⟨k.ord ++ [n],k.out⟩ : Skt).w (sB 64)).out u8D 0))] ?_;refine ⟨⟨le_t,⟨⟨rfl,Sub.refl _,rfl,Sub.refl _,rfl,Sub.mo (by simp [Skt.w,Skt.n]),rfl,Sub.mo (by simp [Skt.w,Skt.n]),rfl,trivial⟩,SubO.mp rfl,SubO.mp rfl,le_o⟩,rfl,rfl⟩,?_⟩;refine zE tabT [1043] 900 rfl ?_;refine zF ?_;refine yD _ _ (skNum_G h b ((⟨k.ord ++ [n],k.out⟩ : Skt).w (sB 64)) (k.ord.length : Nat) (by omega) (by omega) (by rw [(w_len _ _).1];show k.out.length + 1 + 22 ≤ _;omega)) rfl ?_;refine zF ?_;refine zC ?_;rw [show k.see b n = ((⟨k.ord ++ [n],k.out⟩ : Skt).w (sB 64)).n (k.ord.length : Nat) from (if_neg (Int.not_lt.2 c0)).trans (if_pos c4)];exact FinH.normal 3 rfl rfl (Sub.refl _) ⟨⟨rfl,Sub.refl _,rfl,Sub.refl _,rfl,Sub.refl _,rfl,Sub.refl _,rfl,trivial⟩,SubO.mp rfl,SubO.mp rfl,trivial⟩
  ·
   refine zK (zA ?_);refine zB (zE tabT [1040] 800 rfl ?_);refine zF ?_;refine yD _ _ (qP h b k (sB 64) (by show k.out.length + 1 ≤ _;omega)) rfl ?_;refine zF ?_;refine zC (zA ?_);refine yJ [0,4] [] 810 [] [(0,.box 128 [.sl md 10 h obD ob0,.v (.int .i64 b),.mo 1 (k.w (sB 64)).ord.length,.mo 2 (k.w (sB 64)).out.length]),(1,.mrow 3 1 (.map (k.w (sB 64)).ord iD 0)),(2,.mrow 5 1 (.map (k.w (sB 64)).out u8D 0))] ?_;refine ⟨⟨le_t,⟨⟨rfl,Sub.refl _,rfl,Sub.refl _,rfl,Sub.mo (by simp [Skt.w,Skt.n]),rfl,Sub.mo (by simp [Skt.w,Skt.n]),rfl,trivial⟩,SubO.mp rfl,SubO.mp rfl,le_o⟩,rfl,rfl⟩,?_⟩;refine zE tabT [1043] 900 rfl ?_;refine zF ?_;refine yD _ _ (skNum_G h b (k.w (sB 64)) (ixI k.ord n) (by omega) (by omega) (by rw [(w_len _ _).1];show k.out.length + 1 + 22 ≤ _;omega)) rfl ?_;refine zF ?_;refine zC ?_;rw [show k.see b n = (k.w (sB 64)).n (ixI k.ord n) from (if_neg (Int.not_lt.2 c0)).trans (if_neg (Int.not_lt.2 c4))];exact FinH.normal 3 rfl rfl (Sub.refl _) ⟨⟨rfl,Sub.refl _,rfl,Sub.refl _,rfl,Sub.refl _,rfl,Sub.refl _,rfl,trivial⟩,SubO.mp rfl,SubO.mp rfl,trivial⟩
theorem V_at {l : List Nat} {j : Nat} (h : j < l.length) : V (l.drop j) = l.getD j 0 + 65536 * V (l.drop (j + 1)) := by
 rw [List.drop_eq_getElem_cons h,List.getD_eq_getElem?_getD,List.getElem?_eq_getElem h];rfl
structure Hv (a : Nat) where
 j : Nat
 o : List Nat
 r : Nat
 lo : o.length = (dig a).length
 le : j ≤ (dig a).length
 dg : Dg o
 eq : V (o.drop j) = V ((dig a).drop j) / 16
 re : r = V ((dig a).drop j) % 16
def Hv.t {a : Nat} (x : Hv a) : Nat := x.r * 65536 + (dig a).getD (x.j - 1) 0
theorem Hv.t_lt {a : Nat} (x : Hv a) : x.t < 16 * 65536 := by
 have h1 := dig_at a (x.j - 1);have h2 := x.re;unfold Hv.t;omega
def Hv.next {a : Nat} (x : Hv a) (h : 0 < x.j) : Hv a := ⟨x.j - 1,x.o.set (x.j - 1) (x.t / 16),x.t % 16,by rw [List.length_set];exact x.lo,by have := x.le;omega,by
  intro d hd;rcases List.mem_or_eq_of_mem_set hd with hd | rfl
  ·exact x.dg d hd
  ·have := x.t_lt;omega,by
  have hl := x.lo;have hle := x.le;have e1 := V_at (l := dig a) (j := x.j - 1) (by omega);have e2 := V_at (l := x.o.set (x.j - 1) (x.t / 16)) (j := x.j - 1) (by rw [List.length_set];omega);have e3 : (x.o.set (x.j - 1) (x.t / 16)).getD (x.j - 1) 0 = x.t / 16 := by
   rw [List.getD_eq_getElem?_getD,List.getElem?_set_self (by omega)];rfl
  have e4 : (x.o.set (x.j - 1) (x.t / 16)).drop (x.j - 1 + 1) = x.o.drop x.j := by
   rw [show x.j - 1 + 1 = x.j by omega,List.drop_set_of_lt (by omega)]
  rw [e2,e3,e4,e1,x.eq,show x.j - 1 + 1 = x.j by omega];have := x.re;unfold Hv.t;omega,by
  have hle := x.le;have e1 := V_at (l := dig a) (j := x.j - 1) (by omega);rw [e1,show x.j - 1 + 1 = x.j by omega];have := x.re;unfold Hv.t;omega⟩
variable {md me : Bool}
theorem zrowsH (n : Nat) : (MR.map (List.replicate n ()) (fun _ => litS [.int .i64 0]) ()).rows = (MR.map (List.replicate n 0) nD 0).rows := by
 show (List.replicate n ()).map _ = (List.replicate n 0).map nD;rw [List.map_replicate,List.map_replicate];rfl
def Hv.start (a : Nat) : Hv a := ⟨(dig a).length,List.replicate (dig a).length 0,0,by simp,Nat.le_refl _,fun d hd => by rw [(List.mem_replicate.1 hd).2];decide,by rw [List.drop_of_length_le (by simp),List.drop_of_length_le (Nat.le_refl _)];rfl,by rw [List.drop_of_length_le (Nat.le_refl _)];rfl⟩
theorem sn222 {P : Program} {K : DS → Prop} {p : Prop} {r : Out} (hr : r.sat P K) (hp : p := by first | exact ⟨hm,by rw [← hm];omega⟩ | exact ⟨hm,by omega⟩ | (constructor <;> omega) | (rw [hkt,hte];exact ini (by omega) (by omega)) | (rw [hkt,hte,htd];exact ini (by omega) (by omega)) | (rw [hkt,hte];refine ⟨by decide,?_⟩;rw [htd];exact ini (by omega) (by omega)) | first | exact trivial | omega | exact ini (by omega) (by omega) | (intro hh;simp at hh;exact ini (by omega) (by omega)) | (intro hh;simp at hh ⊢;omega) | (simp at *;omega) | (simp_all;done)) : (Out.need p r).sat P K := ⟨hp,hr⟩
theorem Halve3_ok (a : Nat) (ha : (dig a).length ≤ 10000000) : Fn Tryz.prog 126 [natD a,.v (.int .i64 16)] (.tup [natD (a / 16),.v (.int .i64 ((a % 16 : Nat) : Int))]) := by
 refine yK tabT Tryz.func126 rfl rfl rfl rfl rfl rfl ?_;intro w0 s0 mx;refine ev_R tabT [] 100 ?_;refine ev_R tabT [1011] 200 ?_;refine yJ [0,1] [] 210 [(6,.mo 102 (dig a).length)] [(102,.mrow 3 1 (.map (List.replicate (dig a).length 0) nD 0))] ?_;refine ⟨⟨⟨Sub.mo (by omega),le_t⟩,⟨SubO.mr (by rw [zrowsH];congr 3),le_o⟩,rfl,rfl⟩,?_⟩;refine ev_R tabT [] 300 ?_;refine zB ?_;refine ev_R tabT [] 400 ?_;refine zL ?_;refine zX (ι := Hv a) [0,1,6] [] 450 (fun x => [(8,.v (.int .i64 ((x.j : Int) - 1))),(7,.v (.int .i64 (x.r : Nat)))]) (fun x => [(102,.mrow 3 1 (.map x.o nD 0))]) (fun x => x.j) (Hv.start a) ?_;refine ⟨⟨le_t,le_o,rfl,rfl⟩,fun x => ?_⟩;have hlo := x.lo;have hle := x.le;have ht := x.t_lt;have hre := x.re;have hm : (dig a).length = (MR.map x.o nD 0).len := by rw [MR.len,x.lo]
 have hkt : ((x.j : Int) - 1).toNat = x.j - 1 := by omega
 have hte : (x.r : Int) * 65536 + (((dig a).getD (x.j - 1) 0 : Nat) : Int) = ((x.t : Nat) : Int) := by unfold Hv.t;omega
 have htd : Int.tdiv ((x.t : Nat) : Int) 16 = ((x.t / 16 : Nat) : Int) := rfl;refine zB ?_;refine ev_R tabT [] 500 ?_;refine yF (fun c4 => ?_) (fun c4 => ?_)
 ·
  refine zK (zA ?_);refine zB ?_;refine zL ?_;refine zB (zE tabT [] 700 rfl ?_);repeat (first | refine zG ?_ | refine zH ?_ | refine sn222 ?_)
  refine zC (zA ?_);refine zB (zE tabT [] 800 rfl ?_);repeat (first | refine zG ?_ | refine zH ?_ | refine sn222 ?_)
  refine zC (zA ?_);refine zE tabT [] 900 rfl ?_;repeat (first | refine zG ?_ | refine zH ?_ | refine sn222 ?_)
  refine zC (zJ (zA ?_));refine ev_Q tabT [] 1000 ?_;exact zP (x.next (by omega)) ⟨⟨Sub.int (by show (x.j : Int) - 1 - 1 = ((x.j - 1 : Nat) : Int) - 1;omega),Sub.int (by show _ = ((x.t % 16 : Nat) : Int);rw [hkt,hte];rfl),le_t⟩,⟨SubO.mr (by show (x.o.map nD).set ((x.j : Int) - 1).toNat [.v (.int .i64 (Int.tdiv ((x.r : Int) * 65536 + (((dig a).getD ((x.j : Int) - 1).toNat 0 : Nat) : Int)) 16))] = (x.o.set (x.j - 1) (x.t / 16)).map nD;rw [hkt,hte,htd,List.map_set];rfl),le_o⟩,rfl,rfl⟩ (by show x.j - 1 < x.j;omega)
 ·
  refine yA (zU (zW (zS (zA ?_))));refine ev_freeze 102 rfl (by repeat (first | exact trivial | exact hm | refine ⟨?_,?_⟩)) (by repeat (first | exact trivial | refine ⟨?_,?_⟩)) ?_;refine zB (zE tabT [] 1000 rfl ?_);refine zF ?_;refine zV _ ((trim_ok x.o x.dg (by rw [x.lo];omega)).args ⟨SubP.ownSl rfl,trivial⟩) rfl ?_;refine zF ?_;refine zC (zA (zO ?_));have hz : x.j = 0 := by omega
  have e := x.eq;have e2 := x.re;rw [hz,List.drop_zero,List.drop_zero,V_dig] at e;rw [hz,List.drop_zero,V_dig] at e2;exact FinV.ret rfl (SubP.tup ⟨SubP.of_eq (by rw [e]),SubP.of_eq (by rw [e2];rfl),trivial⟩)
variable {md me : Bool}
structure Fg (a : Nat) where
 y : Nat
 o : List Nat
 eq : o ++ hxL y = hxL a
 le : y ≤ a
def Fg.next {a : Nat} (x : Fg a) (h : x.y ≠ 0) : Fg a := ⟨x.y / 16,x.o ++ [x.y % 16],by rw [List.append_assoc,List.singleton_append,← hxL_pos h];exact x.eq,Nat.le_trans (Nat.div_le_self _ _) x.le⟩
theorem dig_ne {y : Nat} (h : 0 < (dig y).length) : y ≠ 0 := by
 rintro rfl;exact absurd h (by decide +kernel)
theorem dig_eq0 {y : Nat} (h : ¬ 0 < (dig y).length) : y = 0 := by
 have e : dig y = [] := List.eq_nil_of_length_eq_zero (by omega);have := V_dig y;rw [e] at this;exact this.symm
theorem Fg.len {a : Nat} (x : Fg a) : x.o.length ≤ (hxL a).length := by rw [← x.eq,List.length_append];omega
theorem hx_dig (a : Nat) : (hxL a).length ≤ 4 * (dig a).length := hxL_len (by
 have h := V_lt (dig_Dg a);rw [V_dig] at h;rw [show (16 : Nat) ^ (4 * (dig a).length) = 65536 ^ (dig a).length by rw [Nat.pow_mul]];exact h)
theorem rev_next {l : List Nat} {k : Nat} (h : 0 < k) (hk : k ≤ l.length) : (l.drop (k - 1)).reverse.map nD = (l.drop k).reverse.map nD ++ [nD (l.getD (k - 1) 0)] := by
 rw [List.drop_eq_getElem_cons (show k - 1 < l.length by omega),List.reverse_cons,List.map_append,show k - 1 + 1 = k by omega,List.getD_eq_getElem?_getD,List.getElem?_eq_getElem (show k - 1 < l.length by omega)];rfl
theorem sn223 {P : Program} {K : DS → Prop} {p : Prop} {r : Out} (hr : r.sat P K) (hp : p := by first | rfl | (simp only [List.length_map,List.length_reverse,List.length_drop,List.length_cons,List.length_nil];omega) | exact ⟨by omega,by rw [hkz];omega⟩ | first | exact trivial | omega | exact ini (by omega) (by omega) | (intro hh;simp at hh;exact ini (by omega) (by omega)) | (intro hh;simp at hh ⊢;omega) | (simp at *;omega) | (simp_all;done)) : (Out.need p r).sat P K := ⟨hp,hr⟩
theorem Figures3_ok (a : Nat) (ha : (dig a).length ≤ 10000000) : FnO Tryz.prog 142 [natD a,.v (.int .i64 16)] 3 1 ((hxL a).reverse.map nD) := by
 have hxd := hx_dig a;refine fnO_ev Tryz.func142 rfl rfl rfl rfl rfl rfl ?_;intro w0 s0 mx;refine ev_R tabT [] 100 ?_;refine ev_R tabT [] 200 ?_;refine yM 5 3 1 rfl ?_;refine zB ?_;refine zL ?_;refine zX (ι := Fg a) [1] [] 250 (fun x => [(0,natD x.y),(5,.own 200 1 (x.o.map nD))]) (fun x => [(200,.row 3 1 (x.o.map nD).length)]) (fun x => x.y) ⟨a,[],rfl,Nat.le_refl _⟩ ?_;refine ⟨⟨le_t,le_o,rfl,rfl⟩,fun x => ?_⟩;have hol := x.len;refine zB ?_;refine ev_R tabT [] 300 ?_;refine zR rfl (fun c2 => ?_) (fun c2 => ?_)
 ·have hne : x.y ≠ 0 := dig_ne (by simpa using c2);refine zK (zA (zL ?_));refine ev_R tabT [] 400 ?_;refine zB (zE tabT [] 500 rfl ?_);refine zF ?_;refine zV _ (Halve3_ok x.y (by have := dig_len_mono x.le;omega)) rfl ?_;refine zF ?_;refine zC (zA ?_);refine zE tabT [] 600 rfl ?_;repeat (first | refine zG ?_ | refine zH ?_ | refine sn223 ?_)
  refine zC (zJ ?_);exact zP (x.next hne) ⟨⟨Sub.refl _,Sub.own (by show _ = (x.o ++ [x.y % 16]).map nD;rw [List.map_append];rfl),le_t⟩,⟨⟨rfl,rfl,by show _ = ((x.o ++ [x.y % 16]).map nD).length;rw [List.map_append];rfl⟩,le_o⟩,rfl,rfl⟩ (by show x.y / 16 < x.y;omega)
 ·have h0 : x.y = 0 := dig_eq0 (by simpa using c2);have hoe : x.o = hxL a := by have := x.eq;rwa [h0,hxL_zero,List.append_nil] at this
  refine yA (zU (zW (zS (zA ?_))));refine ev_R tabT [] 700 ?_;refine yM 7 3 1 rfl ?_;refine zB ?_;refine zB (zE tabT [] 800 rfl ?_);repeat (first | refine zG ?_ | refine zH ?_ | refine zQ (by first | exact ini (by rw [List.length_map];omega) (by rw [List.length_map];omega) | first | exact trivial | omega | exact ini (by omega) (by omega) | (intro hh;simp at hh;exact ini (by omega) (by omega)) | (intro hh;simp at hh ⊢;omega) | (simp at *;omega) | (simp_all;done)) ?_)
  refine zC (zA (zL ?_));refine zX (ι := {k : Nat // k ≤ x.o.length}) [] [] 850 (fun z => [(8,.v (.int .i64 ((z.1 : Int) - 1))),(5,.sl false 1 x.o nD 0),(7,.own 700 1 ((x.o.drop z.1).reverse.map nD))]) (fun z => [(700,.row 3 1 ((x.o.drop z.1).reverse.map nD).length)]) (fun z => z.1) ⟨x.o.length,Nat.le_refl _⟩ ?_;refine ⟨⟨⟨Sub.int (by simp),Sub.ownSl rfl,Sub.own (by rw [List.drop_length];rfl),le_t⟩,⟨⟨rfl,rfl,by rw [List.drop_length];rfl⟩,le_o⟩,rfl,rfl⟩,fun z => ?_⟩;have hz : z.1 ≤ x.o.length := z.2;have hkz : ((z.1 : Int) - 1).toNat = z.1 - 1 := by omega
  refine zB ?_;refine ev_R tabT [] 900 ?_;refine yF (fun c8 => ?_) (fun c8 => ?_)
  ·
   refine zK (zA ?_);refine zB ?_;refine zL ?_;refine zE tabT [] 1100 rfl ?_;repeat (first | refine zG ?_ | refine zH ?_ | refine sn223 ?_)
   refine zC (zJ (zA ?_));refine ev_Q tabT [] 1200 ?_;exact zP ⟨z.1 - 1,by omega⟩ ⟨⟨Sub.int (by show (z.1 : Int) - 1 - 1 = ((z.1 - 1 : Nat) : Int) - 1;omega),Sub.refl _,Sub.own (by rw [rev_next (by omega) hz,hkz];rfl),le_t⟩,⟨⟨rfl,rfl,by rw [rev_next (by omega) hz];simp only [List.length_append];rfl⟩,le_o⟩,rfl,rfl⟩ (by show z.1 - 1 < z.1;omega)
  ·
   refine yA (zU (zW (zS (zA ?_))));refine ev_R tabT [] 1200 ?_;refine zO ?_;have hz0 : z.1 = 0 := by omega
   exact FinO.ret rfl rfl rfl (by rw [hz0,List.drop_zero,hoe])
variable {md me : Bool}
def txL (b : Bool) (a i : Nat) : List UInt8 := (if b = true then [45] else []) ++ ((hxL a).reverse.take i).map fun d => UInt8.ofNat (bAt alB d)
theorem hxL_ne {a : Nat} (h : ¬ hxL a = []) : ¬ a = 0 := by
 rintro rfl;exact h hxL_zero
theorem hxL_e {a : Nat} (h : hxL a = []) : a = 0 := by
 by_cases h0 : a = 0
 ·exact h0
 ·rw [hxL_pos h0] at h;cases h
theorem hxS_txL {b : Bool} {a : Nat} (h : ¬ a = 0) : hxS b a = ⟨(txL b a (hxL a).length).toArray⟩ := by
 unfold hxS txL;rw [if_neg h,List.take_of_length_le (by rw [List.length_reverse];exact Nat.le_refl _)]
theorem hx_at {a i : Nat} (h : i < (hxL a).length) : (hxL a).reverse.getD i 0 < 16 := by
 rw [List.getD_eq_getElem?_getD,List.getElem?_eq_getElem (by rw [List.length_reverse];exact h)];exact hxL_lt (n := a + 1) (x := a) (by omega) (List.mem_reverse.1 (List.getElem_mem _))
theorem u8_bAt (s : ByteArray) (d : Nat) : [D.v (.int .u8 ((bAt s d : Nat) : Int))] = u8D (UInt8.ofNat (bAt s d)) := by
 have h := bAt_lt s d;show _ = [D.v (.int .u8 (((UInt8.ofNat (bAt s d)).toNat : Nat) : Int))];have e : (UInt8.ofNat (bAt s d)).toNat = bAt s d := by simp;omega
 rw [e]
theorem txL_len (b : Bool) (a : Nat) {i : Nat} (h : i ≤ (hxL a).length) : (txL b a i).length ≤ i + 1 := by
 unfold txL;rw [List.length_append,List.length_map,List.length_take,List.length_reverse];have : (if b = true then [(45 : UInt8)] else []).length ≤ 1 := by split <;> decide
 omega
theorem txL_next {b : Bool} {a i : Nat} (h : i < (hxL a).length) : txL b a (i + 1) = txL b a i ++ [UInt8.ofNat (bAt alB ((hxL a).reverse.getD i 0))] := by
 unfold txL;rw [List.append_assoc,List.take_add_one,List.map_append,List.getElem?_eq_getElem (by rw [List.length_reverse];exact h),List.getD_eq_getElem?_getD,List.getElem?_eq_getElem (by rw [List.length_reverse];exact h)];rfl
theorem txL_rows {b : Bool} {a i : Nat} (h : i < (hxL a).length) : (txL b a i).map u8D ++ [[D.v (.int .u8 ((bAt alB ((hxL a).reverse.getD i 0) : Nat) : Int))]] = (txL b a (i + 1)).map u8D := by
 rw [txL_next h,List.map_append,u8_bAt];rfl
theorem alB_size : alB.size = 36 := rfl
theorem sn224 {P : Program} {K : DS → Prop} {p : Prop} {r : Out} (hr : r.sat P K) (hp : p := by first | (refine ⟨by omega,?_⟩;show _ < 36;omega) | (simp only [List.length_map,List.length_reverse];omega) | (simp only [MR.len,List.length_map];done) | (rw [MR.len];omega) | (show _ < alB.size;rw [alB_size];omega) | (rw [alB_size];omega) | first | exact trivial | omega | exact ini (by omega) (by omega) | (intro hh;simp at hh;exact ini (by omega) (by omega)) | (intro hh;simp at hh ⊢;omega) | (simp at *;omega) | (simp_all;done)) : (Out.need p r).sat P K := ⟨hp,hr⟩
theorem sn225 {P : Program} {K : DS → Prop} {p : Prop} {r : Out} (hr : r.sat P K) (hp : p := by first | rfl | exact (congrArg (List.map u8D) (rowsB_map _)).symm | first | exact trivial | omega | exact ini (by omega) (by omega) | (intro hh;simp at hh;exact ini (by omega) (by omega)) | (intro hh;simp at hh ⊢;omega) | (simp at *;omega) | (simp_all;done)) : (Out.need p r).sat P K := ⟨hp,hr⟩
theorem TextOf3_ok (b : Bool) (a : Nat) (ha : (dig a).length ≤ 10000000) : Fn Tryz.prog 130 [rD b a,.v (.int .i64 16)] (.v (.string (hxS b a))) := by
 have hxd := hx_dig a;refine yK tabT Tryz.func130 rfl rfl rfl rfl rfl rfl ?_;intro w0 s0 mx;refine ev_R tabT [] 100 ?_;refine zB (zE tabT [12] 200 rfl ?_);refine zF ?_;refine qN _ _ _ (Figures3_ok a ha) ?_;refine zF ?_;refine zC (zA ?_);refine zB ?_;refine ev_R tabT [] 300 ?_;refine zR rfl (fun c2 => ?_) (fun c2 => ?_)
 ·have he : a = 0 := hxL_e (by simpa using c2);refine ev_R tabT [] 400 ?_;refine zO (zM ?_);exact FinV.ret rfl (SubP.str (by rw [he];rfl))
 ·have he : ¬ a = 0 := hxL_ne (by simpa using c2);refine zK (zA ?_);refine ev_R tabT [] 500 ?_;refine zB ?_;refine ev_R tabT [] 600 ?_;refine yF (fun c5 => ?_) (fun c5 => ?_)
  ·
   refine ev_Q tabT [] 700 ?_;refine zA ?_;refine zB (zE tabT [1019] 800 rfl ?_);repeat (first | refine zG ?_ | refine zH ?_ | refine zQ (by first | decide | first | exact trivial | omega | exact ini (by omega) (by omega) | (intro hh;simp at hh;exact ini (by omega) (by omega)) | (intro hh;simp at hh ⊢;omega) | (simp at *;omega) | (simp_all;done)) ?_)
   refine zC (zA ?_);refine zB ?_;refine ev_R tabT [] 900 ?_;refine zL ?_;refine zX (ι := {i : Nat // i ≤ (hxL a).length}) [] [] 950 (fun x => [(8,.v (.int .i64 x.1)),(7,.mo 701 (txL b a x.1).length),(5,.sl false 1 (hxL a).reverse nD 0)]) (fun x => [(701,.mrow 5 1 (.map (txL b a x.1) u8D 0))]) (fun x => (hxL a).length - x.1) ⟨0,Nat.zero_le _⟩ ?_;refine ⟨⟨⟨Sub.int rfl,Sub.mo (by simp [txL,c5];try rfl),Sub.ownSl rfl,le_t⟩,⟨SubO.mp (by simp [txL,c5];try rfl),le_o⟩,rfl,rfl⟩,fun x => ?_⟩;have hk : x.1 ≤ (hxL a).length := x.2;have htl := txL_len b a hk;refine zB ?_;refine ev_R tabT [] 1000 ?_;refine zR rfl (fun c9 => ?_) (fun c9 => ?_)
   ·have hlt : x.1 < (hxL a).length := by simpa using c9
    have h16 : (hxL a).reverse.getD ((x.1 : Nat) : Int).toNat 0 < 16 := hx_at hlt;refine zK (zA ?_);refine zB ?_;refine zL ?_;refine zE tabT [] 1200 rfl ?_;repeat (first | refine zG ?_ | refine zH ?_ | refine sn224 ?_)
    refine zC (zJ (zA ?_));refine ev_Q tabT [] 1300 ?_;exact zP ⟨x.1 + 1,by omega⟩ ⟨⟨Sub.int (by push_cast;rfl),Sub.mo (by show (txL b a x.1).length + 1 = _;rw [txL_next hlt,List.length_append];rfl),Sub.refl _,le_t⟩,⟨SubO.mr (txL_rows hlt),le_o⟩,rfl,rfl⟩ (by show (hxL a).length - (x.1 + 1) < (hxL a).length - x.1;omega)
   ·have hlt : x.1 = (hxL a).length := by simp at c9;omega
    refine yA (zU (zW (zS (zA ?_))));refine ev_freeze 701 rfl (by repeat (first | exact trivial | exact rfl | refine ⟨?_,?_⟩)) (by repeat (first | exact trivial | refine ⟨?_,?_⟩)) ?_;refine zB (zE tabT [] 1300 rfl ?_);repeat (first | refine zG ?_ | refine zH ?_ | refine sn225 ?_)
    refine zC (zA (zO ?_));exact FinV.ret rfl (SubP.str (by rw [hxS_txL he,← congrArg (txL b a) hlt];exact congrArg (fun l : List UInt8 => (⟨l.toArray⟩ : ByteArray)) (rowsB_map _)))
  ·
   refine zK (zA ?_);refine zB (zE tabT [1019] 800 rfl ?_);repeat (first | refine zG ?_ | refine zH ?_ | refine zQ (by first | decide | first | exact trivial | omega | exact ini (by omega) (by omega) | (intro hh;simp at hh;exact ini (by omega) (by omega)) | (intro hh;simp at hh ⊢;omega) | (simp at *;omega) | (simp_all;done)) ?_)
   refine zC (zA ?_);refine zB ?_;refine ev_R tabT [] 900 ?_;refine zL ?_;refine zX (ι := {i : Nat // i ≤ (hxL a).length}) [] [] 950 (fun x => [(8,.v (.int .i64 x.1)),(7,.mo 601 (txL b a x.1).length),(5,.sl false 1 (hxL a).reverse nD 0)]) (fun x => [(601,.mrow 5 1 (.map (txL b a x.1) u8D 0))]) (fun x => (hxL a).length - x.1) ⟨0,Nat.zero_le _⟩ ?_;refine ⟨⟨⟨Sub.int rfl,Sub.mo (by simp [txL,c5];try rfl),Sub.ownSl rfl,le_t⟩,⟨SubO.mp (by simp [txL,c5];try rfl),le_o⟩,rfl,rfl⟩,fun x => ?_⟩;have hk : x.1 ≤ (hxL a).length := x.2;have htl := txL_len b a hk;refine zB ?_;refine ev_R tabT [] 1000 ?_;refine zR rfl (fun c9 => ?_) (fun c9 => ?_)
   ·have hlt : x.1 < (hxL a).length := by simpa using c9
    have h16 : (hxL a).reverse.getD ((x.1 : Nat) : Int).toNat 0 < 16 := hx_at hlt;refine zK (zA ?_);refine zB ?_;refine zL ?_;refine zE tabT [] 1200 rfl ?_;repeat (first | refine zG ?_ | refine zH ?_ | refine sn224 ?_)
    refine zC (zJ (zA ?_));refine ev_Q tabT [] 1300 ?_;exact zP ⟨x.1 + 1,by omega⟩ ⟨⟨Sub.int (by push_cast;rfl),Sub.mo (by show (txL b a x.1).length + 1 = _;rw [txL_next hlt,List.length_append];rfl),Sub.refl _,le_t⟩,⟨SubO.mr (txL_rows hlt),le_o⟩,rfl,rfl⟩ (by show (hxL a).length - (x.1 + 1) < (hxL a).length - x.1;omega)
   ·have hlt : x.1 = (hxL a).length := by simp at c9;omega
    refine yA (zU (zW (zS (zA ?_))));refine ev_freeze 601 rfl (by repeat (first | exact trivial | exact rfl | refine ⟨?_,?_⟩)) (by repeat (first | exact trivial | refine ⟨?_,?_⟩)) ?_;refine zB (zE tabT [] 1300 rfl ?_);repeat (first | refine zG ?_ | refine zH ?_ | refine sn225 ?_)
    refine zC (zA (zO ?_));exact FinV.ret rfl (SubP.str (by rw [hxS_txL he,← congrArg (txL b a) hlt];exact congrArg (fun l : List UInt8 => (⟨l.toArray⟩ : ByteArray)) (rowsB_map _)))
variable {md me : Bool}
theorem fold_st {α : Type} {b : Int} {N : Nat} {f : Skt → α → Skt} {c : α → Nat} {P : α → Prop} (d : α) (hf : ∀ k a,SkI b N k → P a → SkS b N k (f k a) (c a)) :
  ∀ {l : List α} {k : Skt} {i : Nat},SkI b N k → (∀ a ∈ l,P a) → i < l.length →
  SkI b N ((l.take i).foldl f k) ∧ ((l.take i).foldl f k).out.length + c (l.getD i d) ≤ k.out.length + (l.map c).sum ∧ P (l.getD i d) ∧ (l.take (i + 1)).foldl f k = f ((l.take i).foldl f k) (l.getD i d)
 | [],_,_,_,_,h => absurd h (Nat.not_lt_zero _)
 | a :: l,k,0,hk,hl,_ => by
  refine ⟨hk,?_,hl a List.mem_cons_self,rfl⟩;show k.out.length + c a ≤ k.out.length + ((a :: l).map c).sum;rw [List.map_cons,List.sum_cons];omega
 | a :: l,k,i + 1,hk,hl,h => by
  have hs := hf k a hk (hl a List.mem_cons_self);obtain ⟨h1,h2,h3,h4⟩ := fold_st d hf (l := l) (k := f k a) (i := i) hs.inv (fun x hx => hl x (List.mem_cons_of_mem _ hx)) (by rw [List.length_cons] at h;omega);have h5 := hs.len;refine ⟨h1,?_,h3,h4⟩;show ((l.take i).foldl f (f k a)).out.length + c (l.getD i d) ≤ k.out.length + ((a :: l).map c).sum;rw [List.map_cons,List.sum_cons];omega
theorem vl_st {b : Int} {N : Nat} (hb : 0 ≤ b) (hN : N ≤ 1000000000) {l : List Vl} {k : Skt} {i : Nat} (hk : SkI b N k) (hl : ∀ a ∈ l,VlC N a) (hi : i < l.length) :
  SkI b N ((l.take i).foldl (Skt.v b) k) ∧ ((l.take i).foldl (Skt.v b) k).out.length + cV (l.getD i vl0) ≤ k.out.length + (l.map cV).sum ∧ VlC N (l.getD i vl0) ∧ (l.take (i + 1)).foldl (Skt.v b) k = ((l.take i).foldl (Skt.v b) k).v b (l.getD i vl0) :=
 fold_st (b := b) (N := N) (f := Skt.v b) (c := cV) (P := VlC N) vl0 (fun _ _ h1 h2 => v_ok h1 hb hN h2) hk hl hi
theorem sB1 (n : UInt8) : (sB n).size = 1 := rfl
theorem lit1 (n : UInt8) : (⟨#[n]⟩ : ByteArray).size = 1 := rfl
theorem sn226 {P : Program} {K : DS → Prop} {p : Prop} {r : Out} (hr : r.sat P K) (hp : p := by first | (simp only [ByteArray.size_append,lit1];omega) | first | exact trivial | omega | exact ini (by omega) (by omega) | (intro hh;simp at hh;exact ini (by omega) (by omega)) | (intro hh;simp at hh ⊢;omega) | (simp at *;omega) | (simp_all;done)) : (Out.need p r).sat P K := ⟨hp,hr⟩
theorem skVal_G (h : List Ob) (b : Int) (k : Skt) (v : Vl) (hv : VlIn v) (hl : k.out.length + cV v ≤ 1073741824) (ho : k.ord.length ≤ 1000000000) : FnG Tryz.prog 117 [.bp 0 0,.agg (vlD v)] (skO md h b k) (.v (.tuple #[])) (skO md h b (k.v b v)) := by
 have hq := quB_size v.s;have hx1 := hxS_size (b := v.nn) hv.nl;have hx2 := hxS_size (b := v.dn) hv.dl;have hT := vlT_size hv;have hs1 := hv.s;have hs2 := hv.nn;have hs3 := hv.dn;have hd1 := VL_dig hv.nl;have hd2 := VL_dig hv.dl;have hc : cV v = 60 + 10 * v.s.size + 8 * v.nl.length + 8 * v.dl.length := rfl;have e1 := (n_len (k := k) hv.k1 hv.k2).1;have e2 := (n_len (k := k.n v.k) hv.r1 hv.r2).1;refine qT tabT Tryz.func117 rfl rfl rfl rfl rfl rfl rfl ?_;intro w0 s0 mx;refine ev_R tabT [] 100 ?_;refine zB ?_;refine ev_R tabT [] 200 ?_;refine yF (fun c1 => ?_) (fun c1 => ?_)
 ·
  refine zB (zE tabT [1010] 300 rfl ?_);refine zF ?_;refine yD _ _ (skSee_G h b k v.r hv.r1 hv.r2 (by omega) ho) rfl ?_;refine zF ?_;refine zC (zA (zO (zM ?_)));rw [show k.v b v = k.see b v.r from if_pos c1];exact FinH.ret 3 rfl rfl (Sub.refl _) ⟨⟨rfl,Sub.refl _,rfl,Sub.refl _,rfl,Sub.refl _,rfl,Sub.refl _,rfl,trivial⟩,SubO.mp rfl,SubO.mp rfl,trivial⟩
 ·
  refine zK (zA ?_);refine zB (zE tabT [1014] 400 rfl ?_);refine zF ?_;refine yD _ _ (skNum_G h b k v.k hv.k1 hv.k2 (by omega)) rfl ?_;refine zF ?_;refine zC (zA ?_);refine yJ [0,3] [3] 410 [] [(0,.box 128 [.sl md 10 h obD ob0,.v (.int .i64 b),.mo 1 (k.n v.k).ord.length,.mo 2 (k.n v.k).out.length]),(1,.mrow 3 1 (.map (k.n v.k).ord iD 0)),(2,.mrow 5 1 (.map (k.n v.k).out u8D 0))] ?_;refine ⟨⟨le_t,⟨⟨rfl,Sub.refl _,rfl,Sub.refl _,rfl,Sub.mo (by simp [Skt.w,Skt.n]),rfl,Sub.mo (by simp [Skt.w,Skt.n]),rfl,trivial⟩,SubO.mp rfl,SubO.mp rfl,le_o⟩,rfl,rfl⟩,?_⟩;refine zB (zE tabT [1018] 500 rfl ?_);refine zF ?_;refine yD _ _ (skNum_G h b (k.n v.k) v.r hv.r1 hv.r2 (by omega)) rfl ?_;refine zF ?_;refine zC (zA ?_);refine yJ [0,3] [3] 510 [] [(0,.box 128 [.sl md 10 h obD ob0,.v (.int .i64 b),.mo 1 ((k.n v.k).n v.r).ord.length,.mo 2 ((k.n v.k).n v.r).out.length]),(1,.mrow 3 1 (.map ((k.n v.k).n v.r).ord iD 0)),(2,.mrow 5 1 (.map ((k.n v.k).n v.r).out u8D 0))] ?_;refine ⟨⟨le_t,⟨⟨rfl,Sub.refl _,rfl,Sub.refl _,rfl,Sub.mo (by simp [Skt.w,Skt.n]),rfl,Sub.mo (by simp [Skt.w,Skt.n]),rfl,trivial⟩,SubO.mp rfl,SubO.mp rfl,le_o⟩,rfl,rfl⟩,?_⟩;refine zZ tabT [1036] [[],[],[1],[1,2],[1,2,3],[],[5],[1,2,3,5,6],[1,2,3,5,6,7],[1,2,3,4,5,6,7,8],[1,2,3,4,5,6,7,8,9],[],[11],[1,2,3,5,6,7,8,11,12],[1,2,3,5,6,7,8,11,12,13],[1,2,3,4,5,6,7,8,9,10,11,12,13,14],[1,2,3,4,5,6,7,8,9,10,11,12,13,14,15],[0,1,2,3,4,5,6,7,8,9,10,11,12,13,14,15,16]] 600 mixT (by kernel_rfl) rfl ?_;repeat (first | refine zG ?_ | refine zH ?_ | refine sn226 ?_)
  refine zV _ (Quote_ok v.s (by omega)) rfl ?_;repeat (first | refine zG ?_ | refine zH ?_ | refine sn226 ?_)
  refine zV _ (IntOf3_ok v.nn v.nl hv.nl (by omega)) rfl ?_;repeat (first | refine zG ?_ | refine zH ?_ | refine sn226 ?_)
  refine zV _ (TextOf3_ok v.nn (VL v.nl) (by omega)) rfl ?_;repeat (first | refine zG ?_ | refine zH ?_ | refine sn226 ?_)
  refine zV _ (IntOf3_ok v.dn v.dl hv.dl (by omega)) rfl ?_;repeat (first | refine zG ?_ | refine zH ?_ | refine sn226 ?_)
  refine zV _ (TextOf3_ok v.dn (VL v.dl) (by omega)) rfl ?_;repeat (first | refine zG ?_ | refine zH ?_ | refine sn226 ?_)
  refine yD _ _ (qP h b ((k.n v.k).n v.r) (vlT v) (by omega)) rfl ?_;repeat (first | refine zG ?_ | refine zH ?_ | refine sn226 ?_)
  refine zC ?_;rw [show k.v b v = ((k.n v.k).n v.r).w (vlT v) from if_neg c1];exact FinH.normal 3 rfl rfl (Sub.refl _) ⟨⟨rfl,Sub.refl _,rfl,Sub.refl _,rfl,Sub.refl _,rfl,Sub.refl _,rfl,trivial⟩,SubO.mp rfl,SubO.mp rfl,trivial⟩
theorem skVals_G (h : List Ob) (b : Int) (N : Nat) (k : Skt) (l : List Vl) (hb : 0 ≤ b) (hN0 : N ≤ 1000000000) (hk : SkI b N k) (hv : ∀ a ∈ l,VlC N a) (hl : k.out.length + cVs l ≤ 1073741824) (hll : l.length ≤ 2000000) : FnG Tryz.prog 95 [.bp 0 0,.sl false 7 l vlD vl0] (skO md h b k) (.v (.tuple #[])) (skO md h b (k.vs b l)) := by
 have hc : cVs l = (l.map cV).sum + 1 := rfl;refine qT tabT Tryz.func95 rfl rfl rfl rfl rfl rfl rfl ?_;intro w0 s0 mx;refine ev_len 1 rfl fun hl1 => ?_;refine zB ?_;refine ev_R tabT [] 100 ?_;refine zL ?_;refine zX (ι := {i : Nat // i ≤ l.length}) [0,6,7] [] 150 (fun x => [(8,.v (.int .i64 x.1))]) (fun x => [(0,.box 128 [.sl md 10 h obD ob0,.v (.int .i64 b),.mo 1 (((l.take x.1).foldl (Skt.v b) k)).ord.length,.mo 2 (((l.take x.1).foldl (Skt.v b) k)).out.length]),(1,.mrow 3 1 (.map (((l.take x.1).foldl (Skt.v b) k)).ord iD 0)),(2,.mrow 5 1 (.map (((l.take x.1).foldl (Skt.v b) k)).out u8D 0))]) (fun x => l.length - x.1) ⟨0,Nat.zero_le _⟩ ?_;refine ⟨⟨⟨Sub.int rfl,le_t⟩,⟨⟨rfl,Sub.refl _,rfl,Sub.refl _,rfl,Sub.mo (by simp [Skt.w,Skt.n]),rfl,Sub.mo (by simp [Skt.w,Skt.n]),rfl,trivial⟩,SubO.mp rfl,SubO.mp rfl,le_o⟩,rfl,rfl⟩,fun x => ?_⟩;have hk0 : x.1 ≤ l.length := x.2;refine ev_R tabT [] 200 ?_;refine zB ?_;refine zR rfl (fun c1 => ?_) (fun c1 => ?_)
 ·have hlt : x.1 < l.length := by simpa using c1
  obtain ⟨hI,hL,hP,hN⟩ := vl_st hb hN0 hk hv hlt;have hI2 := hI.len hb;refine zK (zA ?_);refine zB ?_;refine zL ?_;refine ev_R tabT [] 300 ?_;refine zE tabT [1014] 400 rfl ?_;refine zF ?_;refine yD _ _ (skVal_G h b ((l.take x.1).foldl (Skt.v b) k) (l.getD x.1 vl0) hP.vin (by omega) (by omega)) rfl ?_;refine zF ?_;refine zC (zJ (zA ?_));refine ev_Q tabT [] 500 ?_;exact zP ⟨x.1 + 1,by omega⟩ ⟨⟨Sub.int (by push_cast;rfl),le_t⟩,⟨⟨rfl,Sub.refl _,rfl,Sub.refl _,rfl,Sub.mo (congrArg (fun k : Skt => k.ord.length) hN).symm,rfl,Sub.mo (congrArg (fun k : Skt => k.out.length) hN).symm,rfl,trivial⟩,SubO.mp (congrArg (fun k : Skt => D.pvss (k.ord.map iD)) hN).symm,SubO.mp (congrArg (fun k : Skt => D.pvss (k.out.map u8D)) hN).symm,le_o⟩,rfl,rfl⟩ (by show l.length - (x.1 + 1) < l.length - x.1;omega)
 ·have hke : x.1 = l.length := by simp at c1;omega
  have htk : l.take x.1 = l := List.take_of_length_le (by omega);refine yA (zU (zW (zS (zA ?_))));refine yJ [0] [] 210 [] [(0,.box 128 [.sl md 10 h obD ob0,.v (.int .i64 b),.mo 1 (l.foldl (Skt.v b) k).ord.length,.mo 2 (l.foldl (Skt.v b) k).out.length]),(1,.mrow 3 1 (.map (l.foldl (Skt.v b) k).ord iD 0)),(2,.mrow 5 1 (.map (l.foldl (Skt.v b) k).out u8D 0))] ?_;refine ⟨⟨le_t,⟨⟨rfl,Sub.refl _,rfl,Sub.refl _,rfl,Sub.mo (by rw [htk]),rfl,Sub.mo (by rw [htk]),rfl,trivial⟩,SubO.mp (by rw [htk]),SubO.mp (by rw [htk]),le_o⟩,rfl,rfl⟩,?_⟩;refine zE tabT [1017] 600 rfl ?_;refine zF ?_;refine yD _ _ (qP h b (l.foldl (Skt.v b) k) (sB 124) (by have h1 := (vsF_ok hb hN0 hk hv).len;show _ + 1 ≤ _;omega)) rfl ?_;refine zF ?_;refine zC ?_;exact FinH.normal 3 rfl rfl (Sub.refl _) ⟨⟨rfl,Sub.refl _,rfl,Sub.refl _,rfl,Sub.refl _,rfl,Sub.refl _,rfl,trivial⟩,SubO.mp rfl,SubO.mp rfl,trivial⟩
end Go.Proofs.YtmbnclhokhggaaaGreatDoor
