/- Part 8 of the proof. -/
import Derived.Test.YtepamjmgancjoaaGreatDoorM5
namespace Go.Proofs.YtepamjmgancjoaaGreatDoor
open Go.RowKit
section
variable {P : Program} {tm : List (Nat × TV)} {dst : Option Tmp} {ty : TypeId} {pos : String} {aft : Array Edge} {gd : Option (Nat × Bool)}
theorem u_idxA1 {x y : Operand} {t e : TypeId} {c q : Nat} {k : IntKind} {i : Int} {l : List TV} {d : TV} (hA : ArT P t c q e) (h1 : OneT P e) (hx : Opd tm x (.agg l)) (hy : Opd tm y (.pv (PV.lit (.int k i)))) (h0 : 0 ≤ i) (hc : i.toNat < c) (hd : l[i.toNat * q]? = some d) : UOp P ⟨dst,.index t x y,ty,pos,aft,gd⟩ tm [] d [] :=
 UOp.pure fun w s g a ht => by
  obtain ⟨vs,h2,h3⟩ := Opd.eval ht hx;have h4 : a.eval y = .int k i := Opd.lit ht hy;obtain ⟨hu,hs⟩ := hA.h;obtain ⟨v,h8,h9⟩ := h3.get hd;refine ⟨v,yF (s := Instr.index t (a.eval x) (a.eval y)) ?_,h9⟩;have hb : 0 ≤ i ∧ i < (c : Int) := ⟨h0,by omega⟩;simp [Instr.index,run_underlying hu,h2,h4,asIntOf,part,isAgg_one h1,yZ hs,h8,hb]
theorem u_idxAR {x y : Operand} {t e : TypeId} {c q : Nat} {k : IntKind} {i : Int} {l : List TV} {n : Nat} (hA : ArT P t c q e) (h1 : RowT P e n) (hx : Opd tm x (.agg l)) (hy : Opd tm y (.pv (PV.lit (.int k i)))) (h0 : 0 ≤ i) (hc : i.toNat < c) (hl : i.toNat * q + n ≤ l.length) : UOp P ⟨dst,.index t x y,ty,pos,aft,gd⟩ tm [] (.agg ((l.drop (i.toNat * q)).take n)) [] :=
 UOp.pure fun w s g a ht => by
  obtain ⟨vs,h2,h3⟩ := Opd.eval ht hx;have h4 : a.eval y = .int k i := Opd.lit ht hy;obtain ⟨hu,hs⟩ := hA.h;have hq : q = n := by
   have := h1.size;rw [hs] at this;exact Option.some.inj this
  subst hq;refine ⟨.agg ((vs.drop (i.toNat * q)).take q).toArray,yF (s := Instr.index t (a.eval x) (a.eval y)) ?_,_,rfl,(h3.drop _).take q⟩;have hb : 0 ≤ i ∧ i < (c : Int) := ⟨h0,by omega⟩;simp [Instr.index,run_underlying hu,h2,h4,asIntOf,part,isAgg_row h1,yZ hs,hb]
theorem ArT.at {t e : TypeId} {c q : Nat} (hA : ArT P t c q e) {k : IntKind} {i : Int} (h0 : 0 ≤ i) (hc : i.toNat < c) (w : World) (b o : Nat) : (Instr.indexAt t (.pointer (some ⟨b,o,none⟩)) (.int k i)).run P w = .ok (.pointer (some ⟨b,o + i.toNat * q,none⟩)) w := by
 obtain ⟨hu,hs⟩ := hA.h;have hb : 0 ≤ i ∧ i < (c : Int) := ⟨h0,by omega⟩;simp [Instr.indexAt,Instr.sureAddr,run_underlying hu,asIntOf,yZ hs,hb,Addr.add_mid]
theorem u_idxAddrB {x y : Operand} {t e : TypeId} {c q off kk : Nat} {k : IntKind} {i : Int} (hA : ArT P t c q e) (hx : Opd tm x (.bp kk off)) (hy : Opd tm y (.pv (PV.lit (.int k i)))) (h0 : 0 ≤ i) (hc : i.toNat < c) : UOp P ⟨dst,.indexAddr t x y,ty,pos,aft,gd⟩ tm [] (.bp kk (off + i.toNat * q)) [] :=
 UOp.pure fun w s g a ht => by
  obtain ⟨N,h1,h2⟩ := Opd.eval ht hx;have h4 : a.eval y = .int k i := Opd.lit ht hy;exact ⟨_,yF (s := Instr.indexAt t (a.eval x) (a.eval y)) (by rw [h2,h4];exact hA.at h0 hc w N off),N,h1,rfl⟩
theorem u_idxAddrP {x y : Operand} {t e : TypeId} {c q : Nat} {k : IntKind} {i : Int} {m : Bool} {row : List PV} (hA : ArT P t c q e) (hx : Opd tm x (.pv (PV.pt m row))) (hy : Opd tm y (.pv (PV.lit (.int k i)))) (h0 : 0 ≤ i) (hc : i.toNat < c) : UOp P ⟨dst,.indexAddr t x y,ty,pos,aft,gd⟩ tm [] (.pv (PV.pt m (row.drop (i.toNat * q)))) [] :=
 UOp.pure fun w s g a ht => by
  obtain ⟨b,o,h1,h2⟩ := Opd.eval ht hx;have h1' : a.eval x = .pointer (some ⟨b,o,none⟩) := h1;have h4 : a.eval y = .int k i := Opd.lit ht hy;exact ⟨_,yF (s := Instr.indexAt t (a.eval x) (a.eval y)) (by rw [h1',h4];exact hA.at h0 hc w b o),b,o + i.toNat * q,rfl,CellsX.drop h2 _⟩
theorem u_nilCheck {x : Operand} {d : TV} (hx : Opd tm x d) (hp : ∀ w s g v,d.P w s g v → ∃ a,v = .pointer (some a)) : UOp P ⟨dst,.nilCheck x,ty,pos,aft,gd⟩ tm [] d [] :=
 UOp.pure fun w s g a ht => by
  have h := hx.eval ht;obtain ⟨b,e⟩ := hp _ _ _ _ h;refine ⟨a.eval x,?_,h⟩;unfold execOp;simp [e]
end
def lkI {α : Type _} (k : Int) : List (Int × α) → Option α
 | [] => none
 | x :: l => if x.1 = k then some x.2 else lkI k l
def putI {α : Type _} (k : Int) (a : α) : List (Int × α) → List (Int × α)
 | [] => [(k,a)]
 | x :: l => if x.1 = k then (k,a) :: l else x :: putI k a l
theorem lkI_map {α β : Type _} {f : α → β} {k : Int} : ∀ {l : List (Int × α)},lkI k (l.map fun x => (x.1,f x.2)) = (lkI k l).map f
 | [] => rfl
 | x :: l => by
  rw [List.map_cons,lkI,lkI];by_cases h : x.1 = k
  ·simp [h]
  ·simp only [h,if_false];exact lkI_map
theorem putI_map {α β : Type _} {f : α → β} {k : Int} {a : α} : ∀ {l : List (Int × α)},putI k (f a) (l.map fun x => (x.1,f x.2)) = (putI k a l).map fun x => (x.1,f x.2)
 | [] => rfl
 | x :: l => by
  rw [List.map_cons,putI,putI];by_cases h : x.1 = k
  ·simp [h]
  ·simp only [h,if_false,List.map_cons];rw [putI_map]
def entI (l : List (Int × PV)) : List (Value × PV) := l.map fun x => (Value.int .i64 x.1,x.2)
theorem find_int {w : World} {s : Sb} {k : Int} : ∀ {arr : List MapEntry} {l : List (Int × PV)} (i : Nat),arr.map (·.key) = (entI l).map (·.1) → AllV w s ((entI l).map (·.2)) (arr.map (·.val)) →
  (∃ j e d,Instr.findNow (.int .i64) (.int .i64 k) arr i = some (some (i + j,e.val)) ∧ arr[j]? = some e ∧ e.key = .int .i64 k ∧ lkI k l = some d ∧ d.p w s e.val ∧ ∀ (v : Value) (d' : PV),d'.p w s v →
   (arr.modify j fun e => { e with key := .int .i64 k,val := v }).map (·.key) = (entI (putI k d' l)).map (·.1) ∧ AllV w s ((entI (putI k d' l)).map (·.2)) ((arr.modify j fun e => { e with key := .int .i64 k,val := v }).map (·.val))) ∨
  (Instr.findNow (.int .i64) (.int .i64 k) arr i = some none ∧ lkI k l = none ∧ ∀ (v : Value) (d' : PV) (b : Nat),d'.p w s v → (arr ++ [({ key := .int .i64 k,val := v,born := b } : MapEntry)]).map (·.key) = (entI (putI k d' l)).map (·.1) ∧ AllV w s ((entI (putI k d' l)).map (·.2)) ((arr ++ [({ key := .int .i64 k,val := v,born := b } : MapEntry)]).map (·.val)))
 | [],[],i,_,_ => .inr ⟨rfl,rfl,fun v d' b h => ⟨rfl,h,trivial⟩⟩
 | [],x :: l,i,h,_ => by simp [entI] at h
 | a :: arr,[],i,h,_ => by simp [entI] at h
 | a :: arr,x :: l,i,h,hv => by
  obtain ⟨h1,h2⟩ : a.key = .int .i64 x.1 ∧ arr.map (·.key) = (entI l).map (·.1) := by simpa [entI] using h
  obtain ⟨h3,h4⟩ : x.2.p w s a.val ∧ AllV w s ((entI l).map fun x : Value × PV => x.2) (arr.map fun e : MapEntry => e.val) := hv;have hs : Instr.sameNow (.int .i64) (.int .i64 k) a.key = some (k == x.1) := by rw [h1];rfl
  by_cases e : x.1 = k
  ·left;refine ⟨0,a,x.2,?_,rfl,by rw [h1,e],by rw [lkI,if_pos e],h3,fun v d' hd => ⟨?_,?_⟩⟩
   ·rw [Instr.findNow,hs,show (k == x.1) = true by simp [e]];rfl
   ·rw [putI,if_pos e];show Value.int .i64 k :: arr.map (·.key) = Value.int .i64 k :: (entI l).map (·.1);rw [h2]
   ·rw [putI,if_pos e];exact ⟨hd,h4⟩
  ·have hk : (k == x.1) = false := by simp;exact fun h => e h.symm
   rcases find_int (k := k) (i + 1) h2 h4 with ⟨j,e0,d,g1,g2,g3,g4,g5,g6⟩ | ⟨g1,g2,g3⟩
   ·left;refine ⟨j + 1,e0,d,?_,by simpa using g2,g3,by rw [lkI,if_neg e];exact g4,g5,fun v d' hd => ?_⟩
    ·rw [Instr.findNow,hs,hk];show Instr.findNow _ _ arr (i + 1) = _;rw [g1,show i + 1 + j = i + (j + 1) by omega]
    ·obtain ⟨f1,f2⟩ := g6 v d' hd;rw [putI,if_neg e];exact ⟨by show a.key :: _ = Value.int .i64 x.1 :: _;rw [h1];congr 1,h3,f2⟩
   ·right;refine ⟨?_,by rw [lkI,if_neg e];exact g2,fun v d' b hd => ?_⟩
    ·rw [Instr.findNow,hs,hk];exact g1
    ·obtain ⟨f1,f2⟩ := g3 v d' b hd;rw [putI,if_neg e];exact ⟨by show a.key :: _ = Value.int .i64 x.1 :: _;rw [h1];congr 1,h3,f2⟩
section
variable {P : Program} {tm : List (Nat × TV)} {dst : Option Tmp} {ty : TypeId} {pos : String} {aft : Array Edge} {gd : Option (Nat × Bool)}
theorem key_ok {w : World} {kt : TypeId} (hk : P.underlying kt = some (.int .i64)) (em : Bool) (v : Value) : (Instr.checkKey em 10000 kt v).run P w = .ok () w := by
 rw [show (10000 : Nat) = 9999 + 1 from rfl,Instr.checkKey];simp [run_underlying hk]
theorem find_run {w : World} {kt : TypeId} (hk : P.underlying kt = some (.int .i64)) {k : Int} {arr : List MapEntry} {r : Option (Nat × Value)} (h : Instr.findNow (.int .i64) (.int .i64 k) arr 0 = some r) : (Instr.findKey kt (.int .i64 k) arr).run P w = .ok r w := by
 unfold Instr.findKey;simp [run_underlying hk,h]
theorem Good.map {w : World} {s : Sb} {g : Gh} {k : Nat} {es : List (Value × PV)} {acc' : List (Nat × Own)} (h : Good w s g [(k,.map es)] acc') : ∃ N arr clock,g.bx k = some N ∧ w.heap[N]? = some (.map (List.toArray arr) clock) ∧ arr.map (·.key) = es.map (·.1) ∧ AllV w s.good (es.map (·.2)) (arr.map (·.val)) ∧ ∀ o,¬ s N o := h.ok k (.map es) (by rw [yA];simp)
theorem get_map {w : World} {N : Nat} {es : Array MapEntry} {clock : Nat} (h : w.heap[N]? = some (.map es clock)) : (getObj N).run P w = .ok (.map es clock) w := by
 simp [getObj,Sem.run,h]
theorem set_map {w : World} {N : Nat} {es : Array MapEntry} {clock : Nat} (o : Obj) (h : w.heap[N]? = some (.map es clock)) : (setObj N o).run P w = .ok () { w with heap := w.heap.set! N o } := by
 have hl : N < w.heap.size := (Array.getElem?_eq_some_iff.1 h).1;have h' : w.heap[N] = .map es clock := (Array.getElem?_eq_some_iff.1 h).2;simp [setObj,Sem.run,h',hl]
theorem u_makeMap {t : TypeId} (k : Nat) : UOp P ⟨dst,.makeMap t none,ty,pos,aft,gd⟩ tm [] (.mk k) [(k,.map [])] := by
 intro w s g a K Q ht hg hK;have hfr := hg.fr k (.map []) (by rw [yA];simp) rfl
 have hr : (execOp a.eval ⟨dst,.makeMap t none,ty,pos,aft,gd⟩).run P w = .ok (.value (.map (some w.heap.size))) (w.alloc (.map #[] 0)) :=
  yF (s := Instr.makeMap t none) (by simp [Instr.makeMap])
 unfold Oper.wp;rw [hr];refine hK _ s { g with bx := fun j => if j = k then some w.heap.size else g.bx j } _ (by rw [TV.P];exact ⟨w.heap.size,by simp,rfl⟩) ?_;refine Stp.newO hg.lt (by simp) (fun N hN => Below.heap_alloc w _ N hN) rfl rfl rfl ⟨fun j N h => ?_,fun _ _ _ h => h⟩ (fun j hj => ⟨by simp [hj],fun _ => rfl⟩) (fun _ => ⟨w.heap.size,[],0,by simp,heap_alloc_new w _,rfl,trivial,fun o ho => Nat.lt_irrefl _ (hg.lt _ o ho)⟩) fun N hN => ?_
 ·by_cases e : j = k
  ·subst e;rw [hfr.1] at h;cases h
  ·simp [e,h]
 ·have hN : (if k = k then some w.heap.size else g.bx k) = some N := hN;simp at hN;omega
theorem u_lookup {x y : Operand} {t : TypeId} {k : Nat} {n : Int} {z : Value} {l : List (Int × PV)} {e : PV} {ok : Bool} (hT : MapT P t z) (hz : ∀ w s,e.p w s z) (hx : Opd tm x (.mk k)) (hy : Opd tm y (.pv (PV.lit (.int .i64 n)))) :
  UOp P ⟨dst,.lookup t x y ok,ty,pos,aft,gd⟩ tm [(k,.map (entI l))] (.pv (match ok with | true => PV.tup [(lkI n l).getD e,PV.lit (.bool (lkI n l).isSome)] | false => (lkI n l).getD e)) [(k,.map (entI l))] :=
 UOp.read fun w s g a ht hg => by
  obtain ⟨kt,et,hu,hk,hzz⟩ := hT.h;have hx1 := Opd.eval ht hx;rw [TV.P] at hx1;obtain ⟨N,h1,h2⟩ := hx1;have h3 : a.eval y = .int .i64 n := Opd.lit ht hy;obtain ⟨M,arr,clock,h4,h5,h6,h7,_⟩ := hg.map;rw [h1] at h4;cases h4;have key : ∃ (v : Value) (b : Bool),(Instr.lookup t (a.eval x) (a.eval y) ok).run P w = .ok (if ok then .tuple #[v,.bool b] else v) w ∧ ((lkI n l).getD e).p w s v ∧ (lkI n l).isSome = b := by
   rcases find_int (k := n) 0 h6 h7 with ⟨j,e0,d,g1,g2,g3,g4,g5,_⟩ | ⟨g1,g2,_⟩
   ·refine ⟨e0.val,true,?_,?_,by rw [g4];rfl⟩
    ·rw [h2,h3];simp only [Instr.lookup,Sem.run_bind,run_underlying hu,Result.andThen_ok,get_map h5,Sem.run_pure,key_ok hk,List.toList_toArray,find_run hk g1]
    ·rw [g4];exact d.mono _ _ _ _ _ (Ex.ofGood w s) g5
   ·refine ⟨z,false,?_,?_,by rw [g2];rfl⟩
    ·rw [h2,h3];simp only [Instr.lookup,Sem.run_bind,run_underlying hu,Result.andThen_ok,get_map h5,Sem.run_pure,key_ok hk,List.toList_toArray,find_run hk g1,hzz]
    ·rw [g2];exact hz w s
  obtain ⟨v,b,k1,k2,k3⟩ := key;refine ⟨if ok then .tuple #[v,.bool b] else v,yF (s := Instr.lookup t (a.eval x) (a.eval y) ok) k1,?_⟩
  cases ok with
  | false => exact k2
  | true => exact ⟨[v,.bool b],rfl,k2,by show Value.bool b = .bool _;rw [k3],trivial⟩
theorem u_mapUpdate {x y q : Operand} {t : TypeId} {k : Nat} {n : Int} {z : Value} {l : List (Int × PV)} {d : TV} {e : PV} (hT : MapT P t z) (hx : Opd tm x (.mk k)) (hy : Opd tm y (.pv (PV.lit (.int .i64 n)))) (hq : Opd tm q d) (hd : d.toPV = some e) (he : e.str = true) :
  UOp P ⟨dst,.mapUpdate t x y q,ty,pos,aft,gd⟩ tm [(k,.map (entI l))] (.pv (PV.lit undef)) [(k,.map (entI (putI n e l)))] := by
 intro w s g a K Q ht hg hK;obtain ⟨kt,et,hu,hk,_⟩ := hT.h;have hx1 := Opd.eval ht hx;rw [TV.P] at hx1;obtain ⟨N,h1,h2⟩ := hx1;have h3 : a.eval y = .int .i64 n := Opd.lit ht hy;have hv : e.p w s.good (a.eval q) := e.strong he w s s.good _ (fun _ _ h => h) (TV.weak hd (Opd.eval ht hq));obtain ⟨M,arr,clock,h4,h5,h6,h7,h8⟩ := hg.map;rw [h1] at h4;cases h4;have hl : N < w.heap.size := (Array.getElem?_eq_some_iff.1 h5).1;have key : ∃ (arr' : List MapEntry) (clock' : Nat),(Instr.mapUpdate t (a.eval x) (a.eval y) (a.eval q)).run P w = .ok () { w with heap := w.heap.set! N (.map arr'.toArray clock') } ∧ arr'.map (·.key) = (entI (putI n e l)).map (·.1) ∧ AllV w s.good ((entI (putI n e l)).map (·.2)) (arr'.map (·.val)) := by
  rcases find_int (k := n) 0 h6 h7 with ⟨j,e0,d0,g1,g2,g3,g4,g5,g6⟩ | ⟨g1,g2,g6⟩
  ·obtain ⟨f1,f2⟩ := g6 (a.eval q) e hv;refine ⟨_,clock,?_,f1,f2⟩;have hst : (Instr.keyThatStays (((arr.toArray[0 + j]?).map (·.key)).getD (.int .i64 n)) (.int .i64 n)).run P w = .ok (.int .i64 n) w := by
    rw [Nat.zero_add,List.getElem?_toArray,g2];show (Instr.keyThatStays e0.key (.int .i64 n)).run P w = _;rw [g3,Instr.keyThatStays,if_pos (by simp [Instr.sameBits])];rfl
   have hm : arr.toArray.modify (0 + j) (fun e => { e with key := Value.int .i64 n,val := a.eval q }) = (arr.modify j fun e => { e with key := Value.int .i64 n,val := a.eval q }).toArray := by
    rw [Nat.zero_add];apply Array.toList_inj.1;simp
   rw [h2,h3];simp only [Instr.mapUpdate,Sem.run_bind,run_underlying hu,Result.andThen_ok,get_map h5,key_ok hk,List.toList_toArray,find_run hk g1,hst,hm,set_map _ h5]
  ·obtain ⟨f1,f2⟩ := g6 (a.eval q) e clock hv;refine ⟨_,clock + 1,?_,f1,f2⟩;rw [h2,h3];simp only [Instr.mapUpdate,Sem.run_bind,run_underlying hu,Result.andThen_ok,get_map h5,key_ok hk,List.toList_toArray,find_run hk g1,List.push_toArray,set_map _ h5]
 obtain ⟨arr',clock',k1,k2,k3⟩ := key;unfold Oper.wp;have he : (execOp a.eval ⟨dst,.mapUpdate t x y q,ty,pos,aft,gd⟩).run P w = .ok .skip _ := exec_unit (s := Instr.mapUpdate t (a.eval x) (a.eval y) (a.eval q)) k1;rw [he];have hne : ∀ M,M ≠ N → ({ w with heap := w.heap.set! N (.map arr'.toArray clock') } : World).heap[M]? = w.heap[M]? := fun M hM => by simp [Array.getElem?_setIfInBounds,Ne.symm hM]
 refine hK _ s g undef rfl (Stp.turn (G := N) hg h1 h8 hne (by simp) rfl rfl rfl (fun hex => ⟨N,arr',clock',h1,by simp [hl],k2,k3.mono hex.good,h8⟩) h1)
end
end Go.Proofs.YtepamjmgancjoaaGreatDoor
