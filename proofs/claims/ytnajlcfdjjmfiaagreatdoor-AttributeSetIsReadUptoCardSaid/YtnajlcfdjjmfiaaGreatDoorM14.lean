/- Part 14 of the proof. -/
import Derived.Test.YtnajlcfdjjmfiaaGreatDoorM13
import Derived.Deep.RegionHeld3
namespace Go.Proofs.YtnajlcfdjjmfiaaGreatDoor
section
variable {P : Program} {ops : Array Oper} {Q : Exit → Act → World → Prop} {md : Region.Mode} {S : Array Bool → World → Prop}
abbrev TRow := Nat × Option Tmp × List Nat
def wU (vs : Nat → Value) : List TRow → Act → Act
 | [],a => a
 | r :: l,a => wU vs l (a.put r.2.1 (vs r.1))
def vJ (L : Array Bool) (vs : Nat → Value) : List TRow → Act → Act
 | [],a => a
 | r :: l,a => vJ L vs l (if L.getD r.1 false = true then a.put r.2.1 (vs r.1) else a)
def DepR (R : Nat → Value → List Value → World → Prop) (vs : Nat → Value) (w : World) : List TRow → Prop
 | [] => True
 | r :: l => R r.1 (vs r.1) (r.2.2.map vs) w ∧ DepR R vs w l
def DoneR (L : Array Bool) : List TRow → Prop
 | [] => True
 | r :: l => L.getD r.1 false = true ∧ DoneR L l
theorem DoneR.of {L : Array Bool} : ∀ {l : List TRow},(∀ r ∈ l,L.getD r.1 false = true) → DoneR L l
 | [],_ => trivial
 | r :: _,h => ⟨h r (by simp),DoneR.of fun r' hr => h r' (by simp [hr])⟩
theorem DepR.of {R : Nat → Value → List Value → World → Prop} {vs : Nat → Value} {w : World} : ∀ {l : List TRow},(∀ r ∈ l,R r.1 (vs r.1) (r.2.2.map vs) w) → DepR R vs w l
 | [],_ => trivial
 | r :: _,h => ⟨h r (by simp),DepR.of fun r' hr => h r' (by simp [hr])⟩
theorem kM {L : Array Bool} {vs : Nat → Value} : ∀ (l : List TRow) (a : Act),(∀ r ∈ l,L.getD r.1 false = true) → vJ L vs l a = wU vs l a
 | [],_,_ => rfl
 | r :: l,a,h => by
  unfold vJ wU;rw [if_pos (h r (by simp)),kM l _ fun r' hr => h r' (by simp [hr])]
theorem dU (a : Act) {d : Option Tmp} {t : Nat} (v : Value) (h : d ≠ some t) : (a.put d v).tmps[t]? = a.tmps[t]? := by
 cases d with
 | none => rfl
 | some e =>
  have : e ≠ t := fun he => h (by rw [he]);simp [Act.put,Array.getElem?_setIfInBounds_ne this]
theorem wV (a : Act) (t : Nat) (v : Value) : (a.put (some t) v).tmps[t]? = a.tmps[t]?.map fun _ => v := by
 simp only [Act.put,Array.getElem?_setIfInBounds];by_cases h : t < a.tmps.size
 ·simp [h]
 ·simp [h]
theorem put_size (a : Act) (d : Option Tmp) (v : Value) : (a.put d v).tmps.size = a.tmps.size := by
 cases d <;> simp [Act.put]
theorem gH {L : Array Bool} {vs : Nat → Value} {t : Nat} : ∀ (l : List TRow) (a : Act),(∀ r ∈ l,r.2.1 ≠ some t) → (vJ L vs l a).tmps[t]? = a.tmps[t]?
 | [],_,_ => rfl
 | r :: l,a,h => by
  unfold vJ;rw [gH l _ fun r' hr => h r' (by simp [hr])];split
  ·exact dU a _ (h r (by simp))
  ·rfl
theorem dS {L : Array Bool} {vs : Nat → Value} {t i : Nat} (hL : L.getD i false = true) : ∀ (l : List TRow) (a : Act),(∃ x,(i,some t,x) ∈ l) → (∀ r ∈ l,r.2.1 = some t → r.1 = i) → (vJ L vs l a).tmps[t]? = a.tmps[t]?.map fun _ => vs i
 | [],_,h,_ => by obtain ⟨_,h⟩ := h;cases h
 | r :: l,a,h,hu => by
  unfold vJ;by_cases hm : ∃ x,(i,some t,x) ∈ l
  ·rw [dS hL l _ hm fun r' hr => hu r' (by simp [hr])];split
   ·by_cases he : r.2.1 = some t
    ·rw [he,wV];cases a.tmps[t]? <;> simp
    ·rw [dU a _ he]
   ·rfl
  ·obtain ⟨x,hx⟩ := h;have hr : r = (i,some t,x) := by
    rcases List.mem_cons.1 hx with h | h
    ·exact h.symm
    ·exact absurd ⟨x,h⟩ hm
   subst hr;rw [if_pos hL,gH l,wV];intro r hr he;have := hu r (by simp [hr]) he;exact hm ⟨r.2.2,by rw [← this,← he];exact hr⟩
theorem dR {L : Array Bool} {vs : Nat → Value} {d : Option Tmp} {v : Value} : ∀ (l : List TRow) (a : Act),(∀ r ∈ l,d ≠ none → r.2.1 ≠ d) → vJ L vs l (a.put d v) = (vJ L vs l a).put d v
 | [],_,_ => rfl
 | r :: l,a,h => by
  unfold vJ;split
  ·rw [← dR l _ fun r' hr => h r' (by simp [hr])];rw [Act.put_comm];intro e he hh;exact h r (by simp) (by rw [he];simp) (by rw [hh,he])
  ·exact dR l a fun r' hr => h r' (by simp [hr])
theorem tO {L L' : Array Bool} {vs vs' : Nat → Value} : ∀ (l : List TRow) (a : Act),(∀ r ∈ l,L.getD r.1 false = L'.getD r.1 false ∧ vs r.1 = vs' r.1) → vJ L vs l a = vJ L' vs' l a
 | [],_,_ => rfl
 | r :: l,a,h => by
  unfold vJ;rw [(h r (by simp)).1,(h r (by simp)).2];exact tO l _ fun r' hr => h r' (by simp [hr])
theorem yR0 {L : Array Bool} {vs : Nat → Value} {j : Nat} {d : Option Tmp} {v : Value} (hj : j < L.size) (h0 : L.getD j false = false) : ∀ (l : List TRow) (a : Act),(∃ x,(j,d,x) ∈ l) → (l.map (·.1)).Nodup → (∀ r ∈ l,r.1 ≠ j → d ≠ none → r.2.1 ≠ d) →
  vJ (L.setIfInBounds j true) (fun i => if i = j then v else vs i) l a = (vJ L vs l a).put d v
 | [],_,h,_,_ => by obtain ⟨_,h⟩ := h;cases h
 | r :: l,a,h,hn,hd => by
  unfold vJ;simp only [List.map_cons,List.nodup_cons] at hn;obtain ⟨x,hx⟩ := h;by_cases hr : r.1 = j
  ·have hm : ∀ x,(j,d,x) ∉ l := fun x hm => hn.1 (by rw [hr];exact List.mem_map.2 ⟨_,hm,rfl⟩);have hrr : r = (j,d,x) := by
    rcases List.mem_cons.1 hx with h | h
    ·exact h.symm
    ·exact absurd h (hm x)
   subst hrr;have h1 : (L.setIfInBounds j true).getD j false = true := by
    rw [Array.getD_eq_getD_getElem?,Array.getElem?_setIfInBounds];simp [hj]
   simp only [h1,if_true,h0,Bool.false_eq_true,if_false];have hne : ∀ r ∈ l,r.1 ≠ j := fun r hr he => hn.1 (by simp only;rw [← he];exact List.mem_map.2 ⟨_,hr,rfl⟩);rw [dR l _ fun r hr hx => hd r (by simp [hr]) (hne r hr) hx];congr 1;exact tO l _ fun r hr => ⟨getD_set_ne false (hne r hr).symm,by simp [hne r hr]⟩
  ·rw [getD_set_ne false (Ne.symm hr)];simp only [hr,if_false];have hm : (j,d,x) ∈ l := by
    rcases List.mem_cons.1 hx with h | h
    ·exact absurd (by rw [← h]) hr
    ·exact h
   exact yR0 hj h0 l _ ⟨x,hm⟩ hn.2 fun r hr => hd r (by simp [hr])
theorem agree {o : Oper} {a a' : Act} (hs : ∀ cs b,o.op ≠ .select cs b) (h : ∀ t ∈ o.looksAt ops,a.tmps[t]? = a'.tmps[t]?) :
  execOp a.eval o = execOp a'.eval o ∧ Region.wanted o (yielded ops a.tmps) = Region.wanted o (yielded ops a'.tmps) := by
 constructor
 ·refine execOp_congr o hs fun x hx => ?_
  cases x with
  | tmp t =>
   have := h t (List.mem_append_left _ (List.mem_filterMap.2 ⟨.tmp t,by simpa using hx,rfl⟩));simp only [Act.eval,Array.getD_eq_getD_getElem?,this]
  | _ => rfl
 ·unfold Region.wanted
  cases hg : o.guard with
  | none => rfl
  | some gw =>
   obtain ⟨g,want⟩ := gw;have hy : yielded ops a.tmps g = yielded ops a'.tmps g := by
    unfold yielded
    cases ht : (ops[g]?).bind (·.dst) with
    | none => rfl
    | some t =>
     have := h t (List.mem_append_right _ (by simp [hg,ht]));simp only [Option.bind_some,this]
   simp only [hy]
theorem cT {a a' : Act} {d : Option Tmp} {u v : Value} (hs : a.tmps.size = a'.tmps.size) (h : a'.put d u = a'.put d v) : a.put d u = a.put d v := by
 cases d with
 | none => rfl
 | some t =>
  by_cases ht : t < a'.tmps.size
  ·have h1 : (a'.put (some t) u).tmps[t]? = (a'.put (some t) v).tmps[t]? := by rw [h]
   rw [wV,wV,Array.getElem?_eq_getElem ht] at h1;simp at h1;rw [h1]
  ·simp [Act.put,Array.setIfInBounds,hs,ht]
theorem vO0 (a : Act) (d : Option Tmp) (v : Value) : (a.put d v).defers = a.defers := by cases d <;> rfl
theorem wp_agree {o : Oper} {a a' : Act} {w : World} {Φ : Value → World → Prop} (hs : a.tmps.size = a'.tmps.size) (he : execOp a.eval o = execOp a'.eval o)
  (h : Oper.wp P o a' w (fun b w' => ∃ v,b = a'.put o.dst v ∧ Φ v w') (NoPanic Q)) :
  Oper.wp P o a w (fun b w' => ∃ v,b = a.put o.dst v ∧ Φ v w') (NoPanic Q) := by
 unfold Oper.wp at *;rw [he];generalize (execOp a'.eval o).run P w = r at *
 cases r with
 | ok n w' =>
  cases n <;> simp only [Oper.upon] at h ⊢
  case value u =>
   obtain ⟨v,hv,hp⟩ := h;exact ⟨v,cT hs hv,hp⟩
  case skip =>
   obtain ⟨v,hv,hp⟩ := h;exact ⟨v,cT hs hv,hp⟩
  case defer d =>
   obtain ⟨v,hv,hp⟩ := h;have := congrArg Act.defers hv;rw [vO0,vO0] at this;have := congrArg List.length this;simp at this
  case enter f args =>
   refine Calls.mono h fun e w'' he => ?_
   cases e with
   | returned u =>
    obtain ⟨v,hv,hp⟩ := he;exact ⟨v,cT hs hv,hp⟩
   | panicked c => exact he
   | outgrown => exact he
  case row row args =>
   refine Rows.mono h fun u w'' he => ?_;obtain ⟨v,hv,hp⟩ := he;exact ⟨v,cT hs hv,hp⟩
 | halt x w' =>
  cases x <;> simp only [Oper.upon] at h ⊢
  case panic u => exact h
theorem mW {L : Array Bool} {vs : Nat → Value} : ∀ (l : List TRow) (a : Act),(vJ L vs l a).tmps.size = a.tmps.size
 | [],_ => rfl
 | r :: l,a => by
  unfold vJ;rw [mW l];split
  ·exact put_size _ _ _
  ·rfl
def tabB (md : Region.Mode) (ops : Array Oper) (L1 : Array Bool) (T : List (TRow × List TRow)) : Bool :=
 let rows := T.map (·.1)
 L1.size == ops.size && Region.noSelect ops && uU0 md ops L1 && decide ((rows.map (·.1)).Nodup) &&
 (List.range ops.size).all (fun i => L1.getD i false == !((rows.map (·.1)).contains i)) &&
 T.all (fun r => ((ops[r.1.1]?).map fun o =>
  o.dst == r.1.2.1 &&
  rows.all (fun s => s.1 == r.1.1 || r.1.2.1 == none || s.2.1 != r.1.2.1) &&
  r.2.all (fun s => rows.contains s && xL0 md ops r.1.1 s.1) &&
  rows.all (fun s => match s.2.1 with | some t => !((o.looksAt ops).contains t) || r.2.contains s | none => true) &&
  o.after.all (fun e => !(Region.binds md e) || decide (e.on < r.1.1)) &&
  r.1.2.2.all (fun i => xL0 md ops r.1.1 i)).getD false)
def tR0 (P : Program) (ops : Array Oper) (Q : Exit → Act → World → Prop) (md : Region.Mode) (R : Nat → Value → List Value → World → Prop) (I : Array Bool → (Nat → Value) → World → Prop) (a1 : Act) (j : Nat) (d : Option Tmp) (ids : List Nat) (ds : List TRow) (o : Oper) : Prop :=
 ∀ (L : Array Bool) (vs : Nat → Value) (w : World),L.size = ops.size → Closed md ops L → L.getD j false = false → DepR R vs w ds → DoneR L ds → I L vs w →
  (if Region.wanted o (yielded ops (wU vs ds a1).tmps) = true then
   ∀ K : Act → World → Prop,(∀ a' v w',a' = (wU vs ds a1).put d v → (∀ i u l,i ≠ j → L.getD i false = true → R i u l w → R i u l w') → R j v (ids.map vs) w' → I (L.setIfInBounds j true) (fun i => if i = j then v else vs i) w' → K a' w') → Oper.wp P o (wU vs ds a1) w K (NoPanic Q)
  else R j undef (ids.map vs) w ∧ I (L.setIfInBounds j true) (fun i => if i = j then undef else vs i) w)
def TabAll (P : Program) (ops : Array Oper) (Q : Exit → Act → World → Prop) (md : Region.Mode) (R : Nat → Value → List Value → World → Prop) (I : Array Bool → (Nat → Value) → World → Prop) (a1 : Act) : List (TRow × List TRow) → Prop
 | [] => True
 | r :: l => (∀ o,ops[r.1.1]? = some o → tR0 P ops Q md R I a1 r.1.1 r.1.2.1 r.1.2.2 r.2 o) ∧ TabAll P ops Q md R I a1 l
theorem TabAll.nil {R : Nat → Value → List Value → World → Prop} {I : Array Bool → (Nat → Value) → World → Prop} {a1 : Act} : TabAll P ops Q md R I a1 [] := trivial
theorem TabAll.cons {R : Nat → Value → List Value → World → Prop} {I : Array Bool → (Nat → Value) → World → Prop} {a1 : Act} {j : Nat} {d : Option Tmp} {ids : List Nat} {ds : List TRow} {l : List (TRow × List TRow)} {o : Oper} (ho : ops[j]? = some o) (hg : o.guard.isNone = true)
  (h : ∀ (L : Array Bool) (vs : Nat → Value) (w : World),L.size = ops.size → Closed md ops L → L.getD j false = false → DepR R vs w ds → DoneR L ds → I L vs w →
   ∀ K : Act → World → Prop,(∀ a' v w',a' = (wU vs ds a1).put d v → (∀ i u l,i ≠ j → L.getD i false = true → R i u l w → R i u l w') → R j v (ids.map vs) w' → I (L.setIfInBounds j true) (fun i => if i = j then v else vs i) w' → K a' w') → Oper.wp P o (wU vs ds a1) w K (NoPanic Q))
  (hs : TabAll P ops Q md R I a1 l) : TabAll P ops Q md R I a1 (((j,d,ids),ds) :: l) :=
 ⟨fun o' ho' => by
  rw [ho] at ho'
  cases ho';intro L vs w h1 h2 h3 h4 h4' h5;rw [if_pos (by unfold Region.wanted;cases hg' : o.guard with | none => rfl | some g => rw [hg'] at hg;cases hg)];exact h L vs w h1 h2 h3 h4 h4' h5,hs⟩
theorem TabAll.get {R : Nat → Value → List Value → World → Prop} {I : Array Bool → (Nat → Value) → World → Prop} {a1 : Act} : ∀ {T : List (TRow × List TRow)},TabAll P ops Q md R I a1 T → ∀ r ∈ T,∀ o,ops[r.1.1]? = some o → tR0 P ops Q md R I a1 r.1.1 r.1.2.1 r.1.2.2 r.2 o
 | [],_,_,hr => by cases hr
 | r :: l,h,s,hs => by
  rcases List.mem_cons.1 hs with rfl | hs
  ·exact h.1
  ·exact TabAll.get h.2 s hs
theorem uE0 (L : Array Bool) (i : Nat) : L.getD i false = true ∨ L.getD i false = false := by cases L.getD i false <;> simp
theorem all_done {L : Array Bool} (hsz : L.size = ops.size) (hr : Region.ready md ops L = []) (hb : ∀ j o,ops[j]? = some o → L.getD j false = false → ∀ e ∈ o.after,Region.binds md e = true → e.on < j) : ∀ j,j < ops.size → L.getD j false = true := by
 intro j;induction j using Nat.strongRecOn with
 | ind j ih =>
  intro hj;rcases uE0 L j with h | h
  ·exact h
  ·exfalso;have ho : ops[j]? = some ops[j] := Array.getElem?_eq_getElem hj;have : j ∈ Region.ready md ops L := by
    refine mem_ready.2 ⟨?_,_,ho,fun e he hbd => ?_⟩
    ·rw [Array.getD_eq_getD_getElem?] at h ⊢;rw [Array.getElem?_eq_getElem (by omega)] at h ⊢;simpa using h
    ·have := hb j _ ho h e he hbd;exact ih _ this (by omega)
   rw [hr] at this
   cases this
theorem yX0 : ∀ {l : List TRow} {x y : TRow},(l.map (·.1)).Nodup → x ∈ l → y ∈ l → x.1 = y.1 → x = y
 | [],_,_,_,h,_,_ => by cases h
 | r :: l,x,y,hn,hx,hy,he => by
  simp only [List.map_cons,List.nodup_cons] at hn;rcases List.mem_cons.1 hx with hx | hx <;> rcases List.mem_cons.1 hy with hy | hy
  ·rw [hx,hy]
  ·exact absurd (show r.1 ∈ l.map (·.1) from List.mem_map.2 ⟨y,hy,by rw [← he,hx]⟩) hn.1
  ·exact absurd (show r.1 ∈ l.map (·.1) from List.mem_map.2 ⟨x,hx,by rw [he,hy]⟩) hn.1
  ·exact yX0 hn.2 hx hy he
theorem jB0 {L : Array Bool} {j i : Nat} {o : Oper} (ho : ops[j]? = some o) (hdeps : ∀ e ∈ o.after,Region.binds md e = true → L.getD e.on false = true) (h1 : xL0 md ops j i = true) : L.getD i false = true := by
 unfold xL0 at h1;rw [ho] at h1;simp only [Option.map_some,Option.getD_some] at h1;obtain ⟨x,hx,hb⟩ := Array.any_eq_true.1 h1;rw [Bool.and_eq_true,beq_iff_eq] at hb;rw [← hb.2];exact hdeps _ (Array.getElem_mem hx) hb.1
theorem wpAnyL_table {R : Nat → Value → List Value → World → Prop} {I : Array Bool → (Nat → Value) → World → Prop} (T : List (TRow × List TRow)) {L1 : Array Bool} {a1 : Act} (hB : tabB md ops L1 T = true)
  (hS : ∀ L vs w,I L vs w → S L w)
  (hall : TabAll P ops Q md R I a1 T)
  (hend : ∀ vs w,DepR R vs w (T.map (·.1)) → (∀ L : Array Bool,L.size = ops.size → (∀ j,j < ops.size → L.getD j false = true) → I L vs w → NoPanic Q .normal (wU vs (T.map (·.1)) a1) w)) :
  ∀ (n : Nat) (L : Array Bool) (vs : Nat → Value) (w : World),L.size = ops.size → Closed md ops L → ((List.range ops.size).filter (fun i => !(L.getD i false))).length ≤ n → (∀ i,L1.getD i false = true → L.getD i false = true) →
   (∀ r ∈ T,L.getD r.1.1 false = true → R r.1.1 (vs r.1.1) (r.1.2.2.map vs) w) → I L vs w → vO P md ops (NoPanic Q) S n L (vJ L vs (T.map (·.1)) a1) w := by
 unfold tabB at hB;simp only [Bool.and_eq_true,beq_iff_eq,decide_eq_true_eq,List.all_eq_true,List.mem_range] at hB;obtain ⟨⟨⟨⟨⟨b1,b2⟩,b3⟩,b4⟩,b5⟩,b6⟩ := hB;have hrow : ∀ j,j < ops.size → L1.getD j false = false → ∃ r ∈ T,r.1.1 = j := by
  intro j hjl hL1;have h5 := b5 j hjl;rw [hL1] at h5;have h5' : ((T.map (·.1)).map (·.1)).contains j = true := by simpa using h5
  obtain ⟨s,hs,rfl⟩ := List.mem_map.1 (List.contains_iff_mem.1 h5');obtain ⟨r,hr,rfl⟩ := List.mem_map.1 hs;exact ⟨r,hr,rfl⟩
 have hedge : ∀ (L : Array Bool),(∀ i,L1.getD i false = true → L.getD i false = true) → ∀ j o,ops[j]? = some o → L.getD j false = false → ∀ e ∈ o.after,Region.binds md e = true → e.on < j := by
  intro L hL j o ho h0 e he hb;have hjl : j < ops.size := (Array.getElem?_eq_some_iff.1 ho).1;have hL1 : L1.getD j false = false := by
   rcases uE0 L1 j with h | h
   ·rw [hL j h] at h0;cases h0
   ·exact h
  obtain ⟨r,hr,rfl⟩ := hrow j hjl hL1;have h6 := b6 r hr;rw [ho] at h6;simp only [Option.map_some,Option.getD_some,Bool.and_eq_true] at h6;have h7 := h6.1.2;rw [Array.all_eq_true_iff_forall_mem] at h7;have := h7 e he;rw [hb] at this;simpa using this
 have hlt : ∀ r ∈ T,r.1.1 < ops.size := fun r hm => by
  have h6 := b6 r hm
  cases ho : ops[r.1.1]? with
  | none => rw [ho] at h6;simp at h6
  | some o => exact (Array.getElem?_eq_some_iff.1 ho).1
 have hfin : ∀ (L : Array Bool) (vs : Nat → Value) (w : World),L.size = ops.size → (∀ i,L1.getD i false = true → L.getD i false = true) → Region.ready md ops L = [] →
   (∀ r ∈ T,L.getD r.1.1 false = true → R r.1.1 (vs r.1.1) (r.1.2.2.map vs) w) → I L vs w → NoPanic Q .normal (vJ L vs (T.map (·.1)) a1) w := by
  intro L vs w hsz hL hr hR hI;have had := all_done hsz hr (hedge L hL);rw [kM _ _ fun r hm => by
   obtain ⟨s,hs,rfl⟩ := List.mem_map.1 hm;exact had _ (hlt s hs)]
  refine hend vs w (DepR.of fun r hm => ?_) L hsz had hI;obtain ⟨s,hs,rfl⟩ := List.mem_map.1 hm;exact hR s hs (had _ (hlt s hs))
 intro n;induction n with
 | zero =>
  intro L vs w hsz hcl hn hL hR hI;have hr : Region.ready md ops L = [] := by
   rw [List.eq_nil_iff_forall_not_mem];intro j hj;obtain ⟨h0,o,ho,_⟩ := mem_ready.1 hj;have hjl : j < ops.size := (Array.getElem?_eq_some_iff.1 ho).1;have : j ∈ (List.range ops.size).filter (fun i => !(L.getD i false)) := List.mem_filter.2 ⟨List.mem_range.2 hjl,by simp [tW h0]⟩;rw [List.length_eq_zero_iff.1 (Nat.le_zero.1 hn)] at this
   cases this
  exact ⟨hr,hfin L vs w hsz hL hr hR hI⟩
 | succ n ih =>
  intro L vs w hsz hcl hn hL hR hI;refine ⟨fun hr => hfin L vs w hsz hL hr hR hI,fun j hj => ?_⟩;obtain ⟨h0,o,ho,hdeps⟩ := mem_ready.1 hj;have hjl : j < ops.size := (Array.getElem?_eq_some_iff.1 ho).1;have h0' := tW h0;have hL1 : L1.getD j false = false := by
   rcases uE0 L1 j with h | h
   ·rw [hL j h] at h0';cases h0'
   ·exact h
  obtain ⟨r,hr,rfl⟩ := hrow j hjl hL1;obtain ⟨⟨j,d,ids⟩,ds⟩ := r;simp only at *;have h6 := b6 _ hr;simp only [ho,Option.map_some,Option.getD_some,Bool.and_eq_true,List.all_eq_true,beq_iff_eq] at h6;obtain ⟨⟨⟨⟨⟨c1,c2⟩,c3⟩,c4⟩,c5⟩,c6⟩ := h6;have hT := hall.get _ hr o ho L vs w hsz hcl h0';have hdone : ∀ s ∈ ds,s ∈ (T.map (·.1)) ∧ L.getD s.1 false = true := by
   intro s hs;have h := c3 s hs;exact ⟨List.contains_iff_mem.1 h.1,jB0 ho hdeps h.2⟩
  have hT := hT (DepR.of fun s hs => by
   obtain ⟨hm,hd⟩ := hdone s hs;obtain ⟨q,hq,rfl⟩ := List.mem_map.1 hm;exact hR q hq hd) (DoneR.of fun s hs => (hdone s hs).2) hI
  -- both frames look alike to the operation
  have hag : ∀ t ∈ o.looksAt ops,(vJ L vs (T.map (·.1)) a1).tmps[t]? = (wU vs ds a1).tmps[t]? := by
   intro t ht;rw [← kM (L := L) ds a1 fun s hs => (hdone s hs).2];by_cases hx : ∃ s ∈ (T.map (·.1)),s.2.1 = some t
   ·obtain ⟨s,hs,hst⟩ := hx;have hsd : s ∈ ds := by
     have h := c4 s hs;rw [hst] at h;simp only [Bool.or_eq_true,Bool.not_eq_true',List.contains_iff_mem] at h;rcases h with h | h
     ·rw [List.contains_iff_mem.2 ht] at h;cases h
     ·exact h
    have huniq : ∀ q ∈ (T.map (·.1)),q.2.1 = some t → q.1 = s.1 := by
     intro q hq hqt;obtain ⟨p,hp,rfl⟩ := List.mem_map.1 hs;have h6 := b6 p hp
     cases hop : ops[p.1.1]? with
     | none => rw [hop] at h6;simp at h6
     | some op =>
      simp only [hop,Option.map_some,Option.getD_some,Bool.and_eq_true,List.all_eq_true] at h6;have := h6.1.1.1.1.2 q hq;simp only [Bool.or_eq_true,beq_iff_eq,bne_iff_ne] at this;rcases this with (h | h) | h
      ·exact h
      ·rw [hst] at h;cases h
      ·exact absurd (by rw [hqt,hst]) h
    obtain ⟨si,sd,sx⟩ := s;simp only at hst;subst hst;rw [dS (hdone _ hsd).2 _ _ ⟨_,hs⟩ huniq,dS (hdone _ hsd).2 _ _ ⟨_,hsd⟩ fun q hq hqt => huniq q (hdone q hq).1 hqt]
   ·rw [gH _ _ fun s hs he => hx ⟨s,hs,he⟩,gH _ _ fun s hs he => hx ⟨s,(hdone s hs).1,he⟩]
  obtain ⟨he,hw⟩ := agree (fun cs b => Region.noSelect_spec b2 j o cs b ho) hag;have hids : ∀ v,ids.map (fun i => if i = j then v else vs i) = ids.map vs := by
   intro v;refine List.map_congr_left fun i hi => ?_;have := jB0 ho hdeps (c6 i hi);have hne : i ≠ j := by rintro rfl;rw [this] at h0';cases h0'
   simp [hne]
  have hnext : ∀ v w',(∀ i u l,i ≠ j → L.getD i false = true → R i u l w → R i u l w') → R j v (ids.map vs) w' → I (L.setIfInBounds j true) (fun i => if i = j then v else vs i) w' →
    S (L.setIfInBounds j true) w' ∧ vO P md ops (NoPanic Q) S n (L.setIfInBounds j true) ((vJ L vs (T.map (·.1)) a1).put o.dst v) w' := by
   intro v w' k1 k2 k3;refine ⟨hS _ _ _ k3,?_⟩;have hmem : (j,d,ids) ∈ (T.map (·.1)) := List.mem_map.2 ⟨_,hr,rfl⟩;rw [c1,← yR0 (vs := vs) (by omega) h0' _ _ ⟨_,hmem⟩ b4 (fun q hq hne hd => by
    have := c2 q hq;simp only [Bool.or_eq_true,beq_iff_eq,bne_iff_ne] at this;rcases this with (h | h) | h
    ·exact absurd h hne
    ·exact absurd h hd
    ·exact h)]
   refine ih _ _ w' (by simp [hsz]) (hcl.step hj) ?_ ?_ ?_ k3
   ·have hlt : ((List.range ops.size).filter (fun i => !((L.setIfInBounds j true).getD i false))).length < ((List.range ops.size).filter (fun i => !(L.getD i false))).length := by
     have hsub : ((List.range ops.size).filter (fun i => !((L.setIfInBounds j true).getD i false))) = ((List.range ops.size).filter (fun i => !(L.getD i false))).filter (fun i => i != j) := by
      rw [List.filter_filter];apply List.filter_congr;intro i hi;by_cases hij : i = j
      ·subst hij;have h1 : (L.setIfInBounds i true).getD i false = true := by
        rw [Array.getD_eq_getD_getElem?,Array.getElem?_setIfInBounds];simp [hsz,hjl]
       simp only [h1];simp
      ·rw [getD_set_ne false (Ne.symm hij)];simp [hij]
     rw [hsub];refine List.length_filter_lt_length_iff_exists.2 ⟨j,List.mem_filter.2 ⟨List.mem_range.2 hjl,by simp [h0']⟩,by simp⟩
    omega
   ·intro i hi;exact xQ _ _ _ _ (hL i hi)
   ·intro q hq hdq;by_cases hqj : q.1.1 = j
    ·have hqe : q.1 = (j,d,ids) := by
      have h1 : q.1 ∈ T.map (·.1) := List.mem_map.2 ⟨_,hq,rfl⟩;exact yX0 b4 h1 hmem (by rw [hqj])
     rw [hqe];simp only [if_true];rw [hids];exact k2
    ·have hqd : L.getD q.1.1 false = true := by rw [getD_set_ne false (Ne.symm hqj)] at hdq;exact hdq
     simp only [hqj,if_false];have h6 := b6 q hq
     cases hoq : ops[q.1.1]? with
     | none => rw [hoq] at h6;simp at h6
     | some oq =>
      simp only [hoq,Option.map_some,Option.getD_some,Bool.and_eq_true,List.all_eq_true] at h6;have hqi : q.1.2.2.map (fun i => if i = j then v else vs i) = q.1.2.2.map vs := by
       refine List.map_congr_left fun i hi => ?_;have := hcl.edge (h6.2 i hi) hqd;have hne : i ≠ j := by rintro rfl;rw [this] at h0';cases h0'
       simp [hne]
      rw [hqi];exact k1 _ _ _ hqj hqd (hR q hq hqd)
  unfold wpOp;simp only [ho];rw [hw];split
  ·rename_i hwt;rw [if_pos hwt] at hT;refine .inl (Oper.wp_mono (K := fun b w' => ∃ v,b = (vJ L vs (T.map (·.1)) a1).put o.dst v ∧ ((∀ i u l,i ≠ j → L.getD i false = true → R i u l w → R i u l w') ∧ R j v (ids.map vs) w' ∧ I (L.setIfInBounds j true) (fun i => if i = j then v else vs i) w')) ?_ ?_)
   ·rintro b w' ⟨v,rfl,k1,k2,k3⟩;exact hnext v w' k1 k2 k3
   ·refine wp_agree (by rw [mW,← kM (L := L) ds a1 fun s hs => (hdone s hs).2,mW]) he ?_;exact hT _ fun a' v w' ha k1 k2 k3 => ⟨v,by rw [ha,c1],k1,k2,k3⟩
  ·rename_i hwt;rw [if_neg hwt] at hT;exact hnext undef w (fun _ _ _ _ _ h => h) hT.1 hT.2
theorem yW0 {α : Type} [BEq α] [LawfulBEq α] : ∀ (l m : List α),l.Nodup → (∀ x ∈ l,x ∈ m) → l.length ≤ m.length
 | [],_,_,_ => Nat.zero_le _
 | x :: l,m,hn,h => by
  have hx := h x (by simp);have hn' := List.nodup_cons.1 hn;have := yW0 l (m.erase x) hn'.2 fun y hy => (List.mem_erase_of_ne (by rintro rfl;exact hn'.1 hy)).2 (h y (by simp [hy]));rw [List.length_erase_of_mem hx] at this;have : 0 < m.length := List.length_pos_of_mem hx;simp;omega
theorem wpAnyL_rows {R : Nat → Value → List Value → World → Prop} {I : Array Bool → (Nat → Value) → World → Prop} (T : List (TRow × List TRow)) {n : Nat} {L1 : Array Bool} {a1 : Act} {w1 : World} (hB : tabB md ops L1 T = true) (hn : T.length ≤ n)
  (hS : ∀ L vs w,I L vs w → S L w) (h1 : ∀ vs,I L1 vs w1)
  (hall : TabAll P ops Q md R I a1 T)
  (hend : ∀ vs w,DepR R vs w (T.map (·.1)) → (∀ L : Array Bool,L.size = ops.size → (∀ j,j < ops.size → L.getD j false = true) → I L vs w → NoPanic Q .normal (wU vs (T.map (·.1)) a1) w)) :
  vO P md ops (NoPanic Q) S n L1 a1 w1 := by
 have hB' := hB;unfold tabB at hB';simp only [Bool.and_eq_true,beq_iff_eq,decide_eq_true_eq,List.all_eq_true,List.mem_range] at hB';obtain ⟨⟨⟨⟨⟨b1,b2⟩,b3⟩,b4⟩,b5⟩,b6⟩ := hB';have hno : ∀ r ∈ T,L1.getD r.1.1 false = false := by
  intro r hr;have h6 := b6 r hr
  cases ho : ops[r.1.1]? with
  | none => rw [ho] at h6;simp at h6
  | some o =>
   have := b5 r.1.1 (Array.getElem?_eq_some_iff.1 ho).1;rw [this];simp only [Bool.not_eq_false'];exact List.contains_iff_mem.2 (List.mem_map.2 ⟨r.1,List.mem_map.2 ⟨r,hr,rfl⟩,rfl⟩)
 have h0 : vJ L1 (fun _ => undef) (T.map (·.1)) a1 = a1 := by
  have : ∀ (l : List TRow),(∀ r ∈ l,L1.getD r.1 false = false) → vJ L1 (fun _ => undef) l a1 = a1 := by
   intro l;induction l with
   | nil => intro _;rfl
   | cons r l ih =>
    intro h;unfold vJ;rw [if_neg (by rw [h r (by simp)];simp)];exact ih fun q hq => h q (by simp [hq])
  refine this _ fun r hr => ?_;obtain ⟨s,hs,rfl⟩ := List.mem_map.1 hr;exact hno s hs
 have h2 := wpAnyL_table (S := S) T hB hS hall hend n L1 (fun _ => undef) w1 b1 (Closed.of_B b3) ?_ (fun _ h => h) (fun r hr h => by rw [hno r hr] at h;cases h) (h1 _)
 ·rw [h0] at h2;exact h2
 ·have hsub : ((List.range ops.size).filter (fun i => !(L1.getD i false))).length ≤ ((T.map (·.1)).map (·.1)).length := by
   refine yW0 _ _ ?_ ?_
   ·exact List.Pairwise.filter _ List.nodup_range
   ·intro i hi;obtain ⟨hi1,hi2⟩ := List.mem_filter.1 hi;have := b5 i (List.mem_range.1 hi1);rw [this] at hi2;simpa using hi2
  rw [List.length_map,List.length_map] at hsub;omega
end
end Go.Proofs.YtnajlcfdjjmfiaaGreatDoor
