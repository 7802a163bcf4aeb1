/- Part 22 of the proof. -/
import Derived.Test.YtonogeiopicibaaGreatDoorM21
import Derived.Test.YtonogeiopicibaaGreatDoorM10
import Derived.Sort.Row
import Derived.Sort.Grow
import Derived.Sort.EncStr
import Derived.Test.YtonogeiopicibaaGreatDoorProg
import Derived.Ground.NamesProg
import Derived.Shelf.Sort.AssemblysIn
import Derived.Shelf.Slices.CompactS
import Derived.Shelf.Sort.Plain
import Derived.Shelf.Slices.In.SortNone
import Derived.Lib.SlicesCompact
import Derived.Test.YtonogeiopicibaaGreatDoorM15

/- Walks by the evaluator: what objects and classes have under a name. -/
namespace Go.Proofs.YtonogeiopicibaaGreatDoor
open Go.RowKit
variable {md me : Bool}

theorem ixI_lt {α : Type} [DecidableEq α] : ∀ (l : List α) (n : α), ixI l n < l.length
  | [], n => by show (-1 : Int) < ((0 : Nat) : Int); omega
  | x :: l, n => by
    have := ixI_lt l n
    rw [ixI, List.length_cons]
    split
    · omega
    · split <;> omega
/-- What an object itself has under a name. -/
def ownB (o : Ob) (s : ByteArray) : Bool := decide (0 ≤ ixI o.names s)
def ownV (o : Ob) (s : ByteArray) : Vl := if ixI o.names s < 0 then vl0 else o.items.getD (ixI o.names s).toNat vl0
/-- The first one of a list that fits. -/
structure Fd {α : Type} (l : List α) (p : α → Bool) where
  k : Nat
  le : k ≤ l.length
  eq : (l.drop k).find? p = l.find? p
def Fd.next {α : Type} {l : List α} {p : α → Bool} (x : Fd l p) (e : α) (hk : x.k < l.length) (h0 : p (l.getD (x.k : Int).toNat e) = false) : Fd l p := ⟨x.k + 1, hk, by rw [← x.eq, drop_at hk e, List.find?_cons_of_neg (by rw [h0]; decide)]⟩
theorem Fd.found {α : Type} {l : List α} {p : α → Bool} (x : Fd l p) (e : α) (hk : x.k < l.length) (h0 : p (l.getD (x.k : Int).toNat e) = true) : l.find? p = some (l.getD (x.k : Int).toNat e) := by rw [← x.eq, drop_at hk e, List.find?_cons_of_pos h0]
theorem Fd.none {α : Type} {l : List α} {p : α → Bool} (x : Fd l p) (hk : l.length ≤ x.k) : l.find? p = none := by rw [← x.eq, List.drop_of_length_le hk]; rfl
/-- The first class that has a name. -/
def fdO (h : List Ob) (l : List Int) (s : ByteArray) : Option Int := l.find? fun c => ownB (obAt h c) s
def fdV (h : List Ob) (s : ByteArray) : Option Int → Vl
  | some c => ownV (obAt h c) s
  | none => vl0
def fdC : Option Int → Int
  | some c => c
  | none => 0
/-- All classes of a list are there, and have an item for each name. -/
def Cok (h : List Ob) (l : List Int) : Prop := l.length ≤ 2000000 ∧ ∀ c ∈ l, inH h c ∧ (obAt h c).names.length ≤ (obAt h c).items.length
theorem cok_at {h : List Ob} {l : List Int} (hc : Cok h l) {k : Nat} (hk : k < l.length) : inH h (l.getD (k : Int).toNat 0) ∧ (obAt h (l.getD (k : Int).toNat 0)).names.length ≤ (obAt h (l.getD (k : Int).toNat 0)).items.length := hc.2 _ (by rw [getD_l hk]; exact List.getElem_mem _)

theorem NameText_ok (s : ByteArray) : Fn Tryz.prog 5 [.v (.string s)] (.v (.bool (nameOkS s))) := by
  refine fn_ev tabT Tryz.func5 rfl rfl rfl rfl rfl rfl ?_
  intro w0 s0 mx
  refine ev_R tabT [] 100 ?_
  refine ev_seq (ev_region tabT [] 200 rfl ?_)
  repeat (first | refine sat_same ?_ | refine sat_impA ?_ | refine sat_needA ?_)
  refine sat_fn _ (NameOk_ok _) rfl ?_
  repeat (first | refine sat_same ?_ | refine sat_impA ?_ | refine sat_needA ?_)
  refine sat_done ?_
  refine exS_normal ?_
  refine ev_ret ?_
  exact FinV.ret rfl (SubP.refl _)

theorem attrObject_ok (h : List Ob) (v : Vl) (hv : v.k = 6 → isObj h v.r = true) : Fn Tryz.prog 21 [hpD md h, .agg (vlD v)] (.agg (obD (objS h v))) := by
  refine fn_ev tabT Tryz.func21 rfl rfl rfl rfl rfl rfl ?_
  intro w0 s0 mx
  refine ev_R tabT [] 100 ?_
  refine ev_seq ?_
  refine ev_R tabT [] 200 ?_
  refine ev_if (fun c1 => ?_) (fun c1 => ?_)
  · 
    refine ev_R tabT [] 300 ?_
    refine ev_ret ?_
    refine exS_ret ?_
    have e : objS h v = ob0 := objS_no c1
    rw [e]
    exact FinV.ret rfl (by repeat (first | exact trivial | exact SubP.refl _ | exact SubP.nilSl rfl | refine SubP.agg ?_ | refine ⟨?_, ?_⟩))
  · 
    refine ev_skip ?_
    refine exS_normal ?_
    refine ev_seq (ev_region tabT [] 400 rfl ?_)
    repeat (first | refine sat_same ?_ | refine sat_impA ?_ | refine sat_need (by exact isObj_in (hv c1)) ?_)
    refine sat_done ?_
    refine exS_normal ?_
    refine ev_ret ?_
    have e : objS h v = h.getD v.r.toNat ob0 := objS_at hv c1
    rw [e]
    exact FinV.ret rfl (by repeat (first | exact trivial | exact SubP.refl _ | exact SubP.nilSl rfl | refine SubP.agg ?_ | refine ⟨?_, ?_⟩))

theorem attrOwn_ok (o : Ob) (s : ByteArray) (hn : o.names.length ≤ o.items.length) : Fn Tryz.prog 60 [.agg (obD o), .v (.string s)] (.tup [.agg (vlD (ownV o s)), .v (.bool (ownB o s))]) := by
  have hlt := ixI_lt o.names s
  refine fn_ev tabT Tryz.func60 rfl rfl rfl rfl rfl rfl ?_
  intro w0 s0 mx
  refine ev_R tabT [] 100 ?_
  refine ev_seq (ev_region tabT [] 200 rfl ?_)
  repeat (first | refine sat_same ?_ | refine sat_impA ?_ | refine sat_needA ?_)
  refine sat_fn _ (IndexS_ok _ _) rfl ?_
  repeat (first | refine sat_same ?_ | refine sat_impA ?_ | refine sat_needA ?_)
  refine sat_done ?_
  refine exS_normal ?_
  refine ev_seq ?_
  refine ev_R tabT [] 300 ?_
  refine ev_if (fun c2 => ?_) (fun c2 => ?_)
  · 
    refine ev_R tabT [] 400 ?_
    refine ev_ret ?_
    refine exS_ret ?_
    exact FinV.ret rfl (SubP.tup ⟨by rw [ownV, if_pos c2]; exact (by repeat (first | exact trivial | exact SubP.refl _ | exact SubP.nilSl rfl | refine SubP.agg ?_ | refine ⟨?_, ?_⟩)), SubP.bool (by rw [ownB, decide_eq_false (by omega)]), trivial⟩)
  · 
    refine ev_skip ?_
    refine exS_normal ?_
    refine ev_R tabT [] 500 ?_
    refine ev_ret ?_
    exact FinV.ret rfl (SubP.tup ⟨by rw [ownV, if_neg (by omega)]; exact SubP.refl _, SubP.bool (by rw [ownB, decide_eq_true (by omega)]), trivial⟩)

theorem Own_ok (o : Ob) (s : ByteArray) (hn : o.names.length ≤ o.items.length) (hl : o.names.length ≤ 2000000) : Fn Tryz.prog 39 [.agg (obD o), .v (.string s)] (.tup [.agg (vlD (ownV o s)), .v (.bool (ownB o s))]) := by
  refine fn_ev tabT Tryz.func39 rfl rfl rfl rfl rfl rfl ?_
  intro w0 s0 mx
  refine ev_R tabT [] 100 ?_
  refine ev_seq ?_
  refine ev_R tabT [] 200 ?_
  refine ev_block ?_
  refine ev_loopK (ι := Nf o.names s) [1, 2, 4, 9, 10] [0, 1] 250 (fun x => [(11, .v (.int .i64 x.k))]) (fun _ => []) (fun x => o.names.length - x.k) ⟨0, Nat.zero_le _, fun j hj => by omega⟩ ?_
  refine ⟨⟨le_t, le_o, rfl, rfl⟩, fun x => ?_⟩
  have hk := x.le
  refine ev_R tabT [] 300 ?_
  refine ev_seq ?_
  refine ev_if (fun c2 => ?_) (fun c2 => ?_)
  · 
    refine ev_skip ?_
    refine exS_normal ?_
    refine ev_seq ?_
    refine ev_block ?_
    refine ev_R tabT [] 400 ?_
    refine ev_R tabT [] 500 ?_
    refine ev_cond rfl (fun c4 => ?_) (fun c4 => ?_)
    · replace c4 : s = o.names.getD (x.k : Int).toNat ByteArray.empty := (of_decide_eq_true c4).symm
      refine ev_R tabT [] 600 ?_
      refine ev_ret ?_
      refine exBl_ret ?_
      refine exS_ret ?_
      refine exL_ret ?_
      refine exBl_ret ?_
      refine exS_ret ?_
      have e : ixI o.names s = x.k := x.found c2 c4
      exact FinV.ret rfl (SubP.tup ⟨by rw [ownV, e, if_neg (by omega)]; exact SubP.refl _, SubP.bool (by rw [ownB, e, decide_eq_true (by omega)]), trivial⟩)
    · replace c4 : ¬ s = o.names.getD (x.k : Int).toNat ByteArray.empty := fun e => (of_decide_eq_false c4) e.symm
      refine ev_skip ?_
      refine exBl_normal ?_
      refine exS_normal ?_
      refine ev_Q tabT [] 700 ?_
      exact exL_normal (x.next c2 c4) ⟨le_t, le_o, rfl, rfl⟩ (by show o.names.length - (x.k + 1) < o.names.length - x.k; omega)
  · 
    refine ev_exit ?_
    refine exS_exit ?_
    refine exL_exit ?_
    refine exBl_same ?_
    refine exS_normal ?_
    refine ev_R tabT [] 800 ?_
    refine ev_ret ?_
    have e : ixI o.names s = -1 := x.none c2
    exact FinV.ret rfl (SubP.tup ⟨by rw [ownV, e, if_pos (by omega)]; exact (by repeat (first | exact trivial | exact SubP.refl _ | exact SubP.nilSl rfl | refine SubP.agg ?_ | refine ⟨?_, ?_⟩)), SubP.bool (by rw [ownB, e]; rfl), trivial⟩)

theorem attrFind0_ok (h : List Ob) (l : List Int) (s : ByteArray) (hh : HpIn h) (hc : Cok h l) : Fn Tryz.prog 38 [hpD md h, isD l, .v (.string s)] (.tup [.agg (vlD (fdV h s (fdO h l s))), .v (.int .i64 (fdC (fdO h l s))), .v (.bool (fdO h l s).isSome)]) := by
  have hl := hc.1
  refine fn_ev tabT Tryz.func38 rfl rfl rfl rfl rfl rfl ?_
  intro w0 s0 mx
  refine ev_R tabT [] 100 ?_
  refine ev_seq ?_
  refine ev_R tabT [] 200 ?_
  refine ev_block ?_
  refine ev_loopK (ι := Fd l (fun c => ownB (obAt h c) s)) [2, 3, 6, 13, 14] [0, 1] 250 (fun x => [(15, .v (.int .i64 x.k))]) (fun _ => []) (fun x => l.length - x.k) ⟨0, Nat.zero_le _, rfl⟩ ?_
  refine ⟨⟨le_t, le_o, rfl, rfl⟩, fun x => ?_⟩
  have hk := x.le
  refine ev_R tabT [] 300 ?_
  refine ev_seq ?_
  refine ev_if (fun c2 => ?_) (fun c2 => ?_)
  · 
    refine ev_skip ?_
    refine exS_normal ?_
    refine ev_seq ?_
    refine ev_block ?_
    refine ev_R tabT [] 400 ?_
    refine ev_seq (ev_region tabT [] 500 rfl ?_)
    repeat (first | refine sat_same ?_ | refine sat_impA ?_ | refine sat_need (by exact (cok_at hc c2).1) ?_)
    refine sat_fn _ (attrOwn_ok _ _ (cok_at hc c2).2) rfl ?_
    repeat (first | refine sat_same ?_ | refine sat_impA ?_ | refine sat_need (by exact (cok_at hc c2).1) ?_)
    refine sat_done ?_
    refine exS_normal ?_
    refine ev_R tabT [] 600 ?_
    refine ev_cond rfl (fun c5 => ?_) (fun c5 => ?_)
    · 
      refine ev_R tabT [] 700 ?_
      refine ev_ret ?_
      refine exBl_ret ?_
      refine exS_ret ?_
      refine exL_ret ?_
      refine exBl_ret ?_
      refine exS_ret ?_
      have e : fdO h l s = some (l.getD (x.k : Int).toNat 0) := x.found 0 c2 c5
      exact FinV.ret rfl (SubP.tup ⟨by rw [e]; exact SubP.refl _, by rw [e]; exact SubP.refl _, by rw [e]; exact SubP.refl _, trivial⟩)
    · 
      refine ev_skip ?_
      refine exBl_normal ?_
      refine exS_normal ?_
      refine ev_Q tabT [] 800 ?_
      exact exL_normal (x.next 0 c2 c5) ⟨le_t, le_o, rfl, rfl⟩ (by show l.length - (x.k + 1) < l.length - x.k; omega)
  · 
    refine ev_exit ?_
    refine exS_exit ?_
    refine exL_exit ?_
    refine exBl_same ?_
    refine exS_normal ?_
    refine ev_R tabT [] 900 ?_
    refine ev_ret ?_
    have e : fdO h l s = none := x.none (by omega)
    exact FinV.ret rfl (SubP.tup ⟨by rw [e]; exact (by repeat (first | exact trivial | exact SubP.refl _ | exact SubP.nilSl rfl | refine SubP.agg ?_ | refine ⟨?_, ?_⟩)), by rw [e]; exact SubP.refl _, by rw [e]; exact SubP.refl _, trivial⟩)

theorem Among_ok (h : List Ob) (l : List Int) (s : ByteArray) (hh : HpIn h) (hc : Cok h l) : Fn Tryz.prog 17 [hpD md h, isD l, .v (.string s)] (.tup [.agg (vlD (fdV h s (fdO h l s))), .v (.int .i64 (fdC (fdO h l s))), .v (.bool (fdO h l s).isSome)]) := by
  have hl := hc.1
  refine fn_ev tabT Tryz.func17 rfl rfl rfl rfl rfl rfl ?_
  intro w0 s0 mx
  refine ev_R tabT [] 100 ?_
  refine ev_seq ?_
  refine ev_R tabT [] 200 ?_
  refine ev_block ?_
  refine ev_loopK (ι := Fd l (fun c => ownB (obAt h c) s)) [2, 3, 6, 13, 14] [0, 1] 250 (fun x => [(15, .v (.int .i64 x.k))]) (fun _ => []) (fun x => l.length - x.k) ⟨0, Nat.zero_le _, rfl⟩ ?_
  refine ⟨⟨le_t, le_o, rfl, rfl⟩, fun x => ?_⟩
  have hk := x.le
  refine ev_R tabT [] 300 ?_
  refine ev_seq ?_
  refine ev_if (fun c2 => ?_) (fun c2 => ?_)
  · 
    refine ev_skip ?_
    refine exS_normal ?_
    refine ev_seq ?_
    refine ev_block ?_
    refine ev_R tabT [] 400 ?_
    refine ev_seq (ev_region tabT [] 500 rfl ?_)
    repeat (first | refine sat_same ?_ | refine sat_impA ?_ | refine sat_need (by exact (cok_at hc c2).1) ?_)
    refine sat_fn _ (Own_ok _ _ (cok_at hc c2).2 (hh.at (l.getD (x.k : Int).toNat 0)).nl) rfl ?_
    repeat (first | refine sat_same ?_ | refine sat_impA ?_ | refine sat_need (by exact (cok_at hc c2).1) ?_)
    refine sat_done ?_
    refine exS_normal ?_
    refine ev_R tabT [] 600 ?_
    refine ev_cond rfl (fun c5 => ?_) (fun c5 => ?_)
    · 
      refine ev_R tabT [] 700 ?_
      refine ev_ret ?_
      refine exBl_ret ?_
      refine exS_ret ?_
      refine exL_ret ?_
      refine exBl_ret ?_
      refine exS_ret ?_
      have e : fdO h l s = some (l.getD (x.k : Int).toNat 0) := x.found 0 c2 c5
      exact FinV.ret rfl (SubP.tup ⟨by rw [e]; exact SubP.refl _, by rw [e]; exact SubP.refl _, by rw [e]; exact SubP.refl _, trivial⟩)
    · 
      refine ev_skip ?_
      refine exBl_normal ?_
      refine exS_normal ?_
      refine ev_Q tabT [] 800 ?_
      exact exL_normal (x.next 0 c2 c5) ⟨le_t, le_o, rfl, rfl⟩ (by show l.length - (x.k + 1) < l.length - x.k; omega)
  · 
    refine ev_exit ?_
    refine exS_exit ?_
    refine exL_exit ?_
    refine exBl_same ?_
    refine exS_normal ?_
    refine ev_R tabT [] 900 ?_
    refine ev_ret ?_
    have e : fdO h l s = none := x.none (by omega)
    exact FinV.ret rfl (SubP.tup ⟨by rw [e]; exact (by repeat (first | exact trivial | exact SubP.refl _ | exact SubP.nilSl rfl | refine SubP.agg ?_ | refine ⟨?_, ?_⟩)), by rw [e]; exact SubP.refl _, by rw [e]; exact SubP.refl _, trivial⟩)

theorem attrFind_ok (h : List Ob) (c : Int) (s : ByteArray) (hh : HpIn h) (hn : inH h c) (hc : Cok h (obAt h c).order) : Fn Tryz.prog 16 [hpD md h, .v (.int .i64 c), .v (.string s)] (.tup [.agg (vlD (fdV h s (fdO h (obAt h c).order s))), .v (.int .i64 (fdC (fdO h (obAt h c).order s))), .v (.bool (fdO h (obAt h c).order s).isSome)]) := by
  refine fn_ev tabT Tryz.func16 rfl rfl rfl rfl rfl rfl ?_
  intro w0 s0 mx
  refine ev_R tabT [] 100 ?_
  refine ev_seq (ev_drawn tabT [] [[], [], [1], [], [1, 2, 3], [1, 2, 3, 4], [1, 2, 3, 4, 5], [], [0, 1, 2, 3, 4, 5, 6, 7], [0, 1, 2, 3, 4, 5, 6, 7, 8], [0, 1, 2, 3, 4, 5, 6, 7, 8], [0, 1, 2, 3, 4, 5, 6, 7, 8], [0, 1, 2, 3, 4, 5, 6, 7, 8, 9, 10, 11], [0, 1, 2, 3, 4, 5, 6, 7, 8, 9, 10, 11, 12], [0, 1, 2, 3, 4, 5, 6, 7, 8, 9, 10, 11, 12, 13]] 200 mixT (by kernel_rfl) rfl ?_)
  repeat (first | refine sat_same ?_ | refine sat_impA ?_ | refine sat_need (by exact hn) ?_)
  refine sat_fn _ (attrFind0_ok h (obAt h c).order s hh hc) rfl ?_
  repeat (first | refine sat_same ?_ | refine sat_impA ?_ | refine sat_need (by exact hn) ?_)
  refine sat_done ?_
  refine exS_normal ?_
  refine ev_ret ?_
  exact FinV.ret rfl (SubP.refl _)

theorem Inherited_ok (h : List Ob) (c : Int) (s : ByteArray) (hh : HpIn h) (hn : inH h c) (hc : Cok h (obAt h c).order) : Fn Tryz.prog 25 [hpD md h, .v (.int .i64 c), .v (.string s)] (.tup [.agg (vlD (fdV h s (fdO h (obAt h c).order s))), .v (.bool (fdO h (obAt h c).order s).isSome)]) := by
  refine fn_ev tabT Tryz.func25 rfl rfl rfl rfl rfl rfl ?_
  intro w0 s0 mx
  refine ev_R tabT [] 100 ?_
  refine ev_seq (ev_drawn tabT [] [[], [], [1], [], [1, 2, 3], [1, 2, 3, 4], [1, 2, 3, 4, 5], [], [0, 1, 2, 3, 4, 5, 6, 7], [0, 1, 2, 3, 4, 5, 6, 7, 8], [0, 1, 2, 3, 4, 5, 6, 7, 8, 9], [0, 1, 2, 3, 4, 5, 6, 7, 8, 9], [0, 1, 2, 3, 4, 5, 6, 7, 8, 9], [], [0, 1, 2, 3, 4, 5, 6, 7, 8, 9, 10, 13], [0, 1, 2, 3, 4, 5, 6, 7, 8, 9, 10, 11, 13, 14], [0, 1, 2, 3, 4, 5, 6, 7, 8, 9, 10, 11, 12, 13, 14, 15]] 200 mixT (by kernel_rfl) rfl ?_)
  repeat (first | refine sat_same ?_ | refine sat_impA ?_ | refine sat_need (by exact hn) ?_)
  refine sat_fn _ (Among_ok h (obAt h c).order s hh hc) rfl ?_
  repeat (first | refine sat_same ?_ | refine sat_impA ?_ | refine sat_need (by exact hn) ?_)
  refine sat_done ?_
  refine exS_normal ?_
  refine ev_R tabT [] 300 ?_
  refine ev_ret ?_
  exact FinV.ret rfl (SubP.refl _)

theorem attrFunction_ok (h : List Ob) (v : Vl) (hv : v.k = 6 → isObj h v.r = true) : Fn Tryz.prog 22 [hpD md h, .agg (vlD v)] (.v (.bool (callS h v))) := by
  refine fn_ev tabT Tryz.func22 rfl rfl rfl rfl rfl rfl ?_
  intro w0 s0 mx
  refine ev_R tabT [] 100 ?_
  refine ev_seq (ev_region tabT [] 200 rfl ?_)
  repeat (first | refine sat_same ?_ | refine sat_impA ?_ | refine sat_needA ?_)
  refine sat_fnG _ (fun hg6 => attrObject_ok _ _ (by first | assumption | omega | (simp_all; done))) rfl ?_
  repeat (first | refine sat_same ?_ | refine sat_impA ?_ | refine sat_needA ?_)
  refine sat_done ?_
  refine exS_normal ?_
  refine ev_ret ?_
  exact FinV.ret rfl (SubP.refl _)

end Go.Proofs.YtonogeiopicibaaGreatDoor

/- Walks by the evaluator: special methods. -/
namespace Go.Proofs.YtonogeiopicibaaGreatDoor
open Go.RowKit
variable {md me : Bool}

theorem used_a {k : Nat} (hk : k < 21) (ha : Lib.contains (usedS (k : Int)).data.toList [97] = true) : usedS (k : Int) ≠ ⟨#[]⟩ ∧ lastC (usedS (k : Int)) = 61 := by
  have := List.all_eq_true.1 (show (List.range 21).all (fun (k : Nat) => !(Lib.contains (usedS (k : Int)).data.toList [97]) || (!decide (usedS (k : Int) = ⟨#[]⟩) && decide (lastC (usedS (k : Int)) = 61))) = true by decide +kernel) k (List.mem_range.2 hk)
  rw [ha, Bool.not_true, Bool.false_or, Bool.and_eq_true, Bool.not_eq_true', decide_eq_false_iff_not, decide_eq_true_eq] at this
  exact this
/-- There is an item for each name. -/
theorem names_items {o : Ob} (hk : 0 ≤ o.kind ∧ o.kind < 21) (hs : shapeS o = 0) : o.names.length ≤ o.items.length := by
  have h1 := (sh_of hs).1
  unfold shapeS at hs
  split at hs
  · rename_i ha
    have h3 := List.all_eq_true.1 ha 3 (by decide)
    by_cases hz : (o.names.length : Int) = 0
    · omega
    · have e : Lib.contains (usedS o.kind).data.toList [97] = true := by
        have h4 : (!(!(decide ((o.names.length : Int) = 0)) && !(Lib.contains (usedS o.kind).data.toList [97]))) = true := h3
        rw [decide_eq_false hz] at h4
        simpa using h4
      have hkk : o.kind = ((o.kind.toNat : Nat) : Int) := by omega
      rw [hkk] at e
      have h5 := used_a (k := o.kind.toNat) (by omega) e
      rw [← hkk] at h5
      rw [cntS, if_neg h5.1, if_neg (by rw [h5.2]; decide), if_pos h5.2] at h1
      omega
  · cases hs
theorem nm_it {h : List Ob} (g : Uh h) {n : Int} (hn : inH h n) : (obAt h n).names.length ≤ (obAt h n).items.length := by
  by_cases h49 : n.toNat < 49
  · rw [show obAt h n = bgO n.toNat from g.lo_at h49]; exact Nat.zero_le _
  · have u := g.hi_at (i := n.toNat) (by omega) hn.2
    exact names_items u.kind u.shape
theorem bg_order {k : Nat} (hk : k < 49) {r : Int} (hr : r ∈ (bgO k).order) : 0 ≤ r ∧ r < 49 := by
  have := List.all_eq_true.1 (List.all_eq_true.1 (show (List.range 49).all (fun k => (bgO k).order.all fun r => decide (0 ≤ r) && decide (r < 49)) = true by decide +kernel) k (List.mem_range.2 hk)) r hr
  rw [Bool.and_eq_true, decide_eq_true_eq, decide_eq_true_eq] at this
  exact this
theorem cok_of {h : List Ob} (hh : HpIn h) (g : Uh h) {c : Int} (hn : inH h c) : Cok h (obAt h c).order := by
  refine ⟨(hh.at c).ol, fun r hr => ?_⟩
  have hin : inH h r := by
    by_cases h49 : c.toNat < 49
    · rw [show obAt h c = bgO c.toNat from g.lo_at h49] at hr
      have := bg_order h49 hr
      have := g.lo
      exact ⟨by omega, by omega⟩
    · exact isObj_in ((vs_of (g.hi_at (by omega) hn.2).vals).order r hr)
  exact ⟨hin, nm_it g hin⟩
theorem own_rv {h : List Ob} (g : Uh h) {n : Int} (hn : inH h n) (s : ByteArray) (hk : (ownV (obAt h n) s).k = 6) : isObj h (ownV (obAt h n) s).r = true := by
  have hlt := ixI_lt (obAt h n).names s
  have hni := nm_it g hn
  by_cases hi : ixI (obAt h n).names s < 0
  · rw [ownV, if_pos hi] at hk; exact absurd hk (by decide)
  · rw [ownV, if_neg hi] at hk ⊢
    have hj : (ixI (obAt h n).names s).toNat < (obAt h n).items.length := by omega
    rw [List.getD_eq_getElem?_getD, List.getElem?_eq_getElem hj] at hk ⊢
    exact g.items hn (List.getElem_mem _) hk
theorem fd_rv {h : List Ob} (hh : HpIn h) (g : Uh h) {c : Int} (hn : inH h c) (s : ByteArray) (hk : (fdV h s (fdO h (obAt h c).order s)).k = 6) : isObj h (fdV h s (fdO h (obAt h c).order s)).r = true := by
  cases hf : fdO h (obAt h c).order s with
  | none => rw [hf] at hk; exact absurd hk (show ¬ (0 : Int) = 6 by decide)
  | some r =>
    rw [hf] at hk
    exact own_rv g ((cok_of hh g hn).2 r (List.mem_of_find?_eq_some hf)).1 s hk
theorem one_item {h : List Ob} (g : Uh h) {n : Int} (hn : inH h n) (hk : (obAt h n).kind = 13 ∨ (obAt h n).kind = 14) : (obAt h n).items.length = 1 := by
  by_cases h49 : n.toNat < 49
  · rw [show obAt h n = bgO n.toNat from g.lo_at h49] at hk
    have h9 : (bgO n.toNat).kind = 9 := rfl
    omega
  · have u := g.hi_at (i := n.toNat) (by omega) hn.2
    have h1 := (sh_of u.shape).1
    rw [← obAt_nat hn] at h1
    have hc : cntS (obAt h n) = 1 := by
      rcases hk with hk | hk
      · rw [cnt_of 13 49 (by decide +kernel) hk]; decide +kernel
      · rw [cnt_of 14 49 (by decide +kernel) hk]; decide +kernel
    omega
/-- What is called for a special method. -/
def spS (h : List Ob) (v : Vl) (s : ByteArray) : Vl × List Vl × Bool :=
  if ¬ (objS h v).kind = 10 then (vl0, [], false)
  else if (fdO h (obAt h (objS h v).cls).order s).isSome = false then (vl0, [], false)
  else if callS h (fdV h s (fdO h (obAt h (objS h v).cls).order s)) = true then (fdV h s (fdO h (obAt h (objS h v).cls).order s), [v], true)
  else if (objS h (fdV h s (fdO h (obAt h (objS h v).cls).order s))).kind = 13 then ((objS h (fdV h s (fdO h (obAt h (objS h v).cls).order s))).items.getD 0 vl0, [], true)
  else if (objS h (fdV h s (fdO h (obAt h (objS h v).cls).order s))).kind = 14 then ((objS h (fdV h s (fdO h (obAt h (objS h v).cls).order s))).items.getD 0 vl0, [rfV (objS h v).cls], true)
  else (fdV h s (fdO h (obAt h (objS h v).cls).order s), [], true)
theorem obj_item {h : List Ob} (g : Uh h) {v : Vl} (hk : (objS h v).kind = 13 ∨ (objS h v).kind = 14) : 0 < (objS h v).items.length := by
  have h1 := objS_of (h := h) (v := v) (by omega)
  rw [h1.2.2] at hk ⊢
  rw [one_item g (isObj_in h1.2.1) hk]
  decide
theorem inst_cls {h : List Ob} (g : Uh h) {v : Vl} (hk : (objS h v).kind = 10) : inH h (objS h v).cls := by
  have h1 := objS_of (h := h) (v := v) (by omega)
  rw [h1.2.2] at hk ⊢
  exact g.cls (isObj_in h1.2.1) hk

set_option maxHeartbeats 1000000 in
theorem Special_ok (h : List Ob) (v : Vl) (s : ByteArray) (hh : HpIn h) (g : Uh h) (hv : v.k = 6 → isObj h v.r = true) : Fn Tryz.prog 6 [hpD md h, .agg (vlD v), .v (.string s)] (.tup [.agg (vlD (spS h v s).1), vsD (spS h v s).2.1, .v (.bool (spS h v s).2.2)]) := by
  refine fn_ev tabT Tryz.func6 rfl rfl rfl rfl rfl rfl ?_
  intro w0 s0 mx
  refine ev_R tabT [] 100 ?_
  refine ev_seq ?_
  refine ev_seq (ev_region tabT [] 200 rfl ?_)
  repeat (first | refine sat_same ?_ | refine sat_impA ?_ | refine sat_needA ?_)
  refine sat_fn _ (attrObject_ok _ _ (by first | assumption | omega | (simp_all; done))) rfl ?_
  repeat (first | refine sat_same ?_ | refine sat_impA ?_ | refine sat_needA ?_)
  refine sat_done ?_
  refine exS_normal ?_
  refine ev_cond rfl (fun c1 => ?_) (fun c1 => ?_)
  · replace c1 : ¬ (objS h v).kind = 10 := by simpa using c1
    refine ev_R tabT [] 300 ?_
    refine ev_ret ?_
    refine exS_ret ?_
    exact FinV.ret rfl (SubP.tup ⟨by rw [spS, if_pos c1]; exact (by repeat (first | exact trivial | exact SubP.refl _ | exact SubP.nilSl rfl | refine SubP.agg ?_ | refine ⟨?_, ?_⟩)), by rw [spS, if_pos c1]; exact SubP.nilSl rfl, by rw [spS, if_pos c1]; exact SubP.refl _, trivial⟩)
  · replace c1 : (objS h v).kind = 10 := by simpa using c1
    have hob := objS_of (h := h) (v := v) (by omega)
    have hin := inst_cls g c1
    have hrv := fun hk => fd_rv hh g hin s hk
    refine ev_skip ?_
    refine exS_normal ?_
    refine ev_seq (ev_region tabT [] 400 rfl ?_)
    repeat (first | refine sat_same ?_ | refine sat_impA ?_ | refine sat_need (by exact isObj_in hob.2.1) ?_)
    refine sat_done ?_
    refine exS_normal ?_
    refine ev_tell [2, 3, 4, 6] [0, 1, 2] 410 [(9, .v (.int .i64 (objS h v).cls))] [] ?_
    refine ⟨⟨⟨Sub.int (by rw [hob.2.2]), by repeat (first | exact trivial | exact Sub.refl _ | refine ⟨?_, ?_⟩)⟩, le_o, rfl, rfl⟩, ?_⟩
    refine ev_seq (ev_region tabT [] 500 rfl ?_)
    repeat (first | refine sat_same ?_ | refine sat_impA ?_ | refine sat_needA ?_)
    refine sat_fn _ (attrFind_ok h (objS h v).cls s hh hin (cok_of hh g hin)) rfl ?_
    repeat (first | refine sat_same ?_ | refine sat_impA ?_ | refine sat_needA ?_)
    refine sat_done ?_
    refine exS_normal ?_
    refine ev_seq ?_
    refine ev_R tabT [] 600 ?_
    refine ev_cond rfl (fun c5 => ?_) (fun c5 => ?_)
    · replace c5 : (fdO h (obAt h (objS h v).cls).order s).isSome = false := by simpa using c5
      refine ev_R tabT [] 700 ?_
      refine ev_ret ?_
      refine exS_ret ?_
      exact FinV.ret rfl (SubP.tup ⟨by rw [spS, if_neg (not_not_intro c1), if_pos c5]; exact (by repeat (first | exact trivial | exact SubP.refl _ | exact SubP.nilSl rfl | refine SubP.agg ?_ | refine ⟨?_, ?_⟩)), by rw [spS, if_neg (not_not_intro c1), if_pos c5]; exact SubP.nilSl rfl, by rw [spS, if_neg (not_not_intro c1), if_pos c5]; exact SubP.refl _, trivial⟩)
    · replace c5 : (fdO h (obAt h (objS h v).cls).order s).isSome = true := by simpa using c5
      refine ev_skip ?_
      refine exS_normal ?_
      refine ev_seq ?_
      refine ev_seq (ev_region tabT [] 800 rfl ?_)
      repeat (first | refine sat_same ?_ | refine sat_impA ?_ | refine sat_needA ?_)
      refine sat_fn _ (attrObject_ok h (fdV h s (fdO h (obAt h (objS h v).cls).order s)) hrv) rfl ?_
      repeat (first | refine sat_same ?_ | refine sat_impA ?_ | refine sat_needA ?_)
      refine sat_done ?_
      refine exS_normal ?_
      refine ev_block ?_
      refine ev_seq (ev_region tabT [] 900 rfl ?_)
      repeat (first | refine sat_same ?_ | refine sat_impA ?_ | refine sat_needA ?_)
      refine sat_fn _ (attrFunction_ok h (fdV h s (fdO h (obAt h (objS h v).cls).order s)) hrv) rfl ?_
      repeat (first | refine sat_same ?_ | refine sat_impA ?_ | refine sat_needA ?_)
      refine sat_done ?_
      refine exS_normal ?_
      refine ev_cond rfl (fun c8 => ?_) (fun c8 => ?_)
      · 
        refine ev_seq (ev_drawn tabT [] [[], [], [1], [0], [0, 1, 2, 3], [0, 1, 2, 3, 4]] 1000 mixT (by kernel_rfl) rfl ?_)
        repeat (first | refine sat_same ?_ | refine sat_impA ?_ | refine sat_needA ?_)
        refine sat_done ?_
        refine exS_normal ?_
        refine ev_ret ?_
        refine exBl_ret ?_
        refine exS_ret ?_
        exact FinV.ret rfl (SubP.tup ⟨by rw [spS, if_neg (not_not_intro c1), if_neg (by rw [c5]; decide), if_pos c8]; exact SubP.refl _, by rw [spS, if_neg (not_not_intro c1), if_neg (by rw [c5]; decide), if_pos c8]; exact SubP.slrSl rfl, by rw [spS, if_neg (not_not_intro c1), if_neg (by rw [c5]; decide), if_pos c8]; exact SubP.refl _, trivial⟩)
      · 
        refine ev_R tabT [] 1100 ?_
        refine ev_if (fun c10 => ?_) (fun c10 => ?_)
        · 
          refine ev_seq (ev_region tabT [] 1200 rfl ?_)
          repeat (first | refine sat_same ?_ | refine sat_impA ?_ | refine sat_need (by exact ⟨by omega, obj_item g (Or.inl c10)⟩) ?_)
          refine sat_done ?_
          refine exS_normal ?_
          refine ev_ret ?_
          refine exBl_ret ?_
          refine exS_ret ?_
          exact FinV.ret rfl (SubP.tup ⟨by rw [spS, if_neg (not_not_intro c1), if_neg (by rw [c5]; decide), if_neg (by rw [c8]; decide), if_pos c10]; exact SubP.refl _, by rw [spS, if_neg (not_not_intro c1), if_neg (by rw [c5]; decide), if_neg (by rw [c8]; decide), if_pos c10]; exact SubP.nilSl rfl, by rw [spS, if_neg (not_not_intro c1), if_neg (by rw [c5]; decide), if_neg (by rw [c8]; decide), if_pos c10]; exact SubP.refl _, trivial⟩)
        · 
          refine ev_R tabT [] 1300 ?_
          refine ev_if (fun c12 => ?_) (fun c12 => ?_)
          · 
            refine ev_seq (ev_drawn tabT [] [[], [0], [0, 1], [0, 1, 2], [], [4], [4, 5], [0, 1, 2, 3, 4, 5], [0, 1, 2, 3, 4, 5, 6, 7], [0, 1, 2, 3, 4, 5, 6, 7, 8]] 1400 mixT (by kernel_rfl) rfl ?_)
            repeat (first | refine sat_same ?_ | refine sat_impA ?_ | refine sat_need (by exact ⟨by omega, obj_item g (Or.inr c12)⟩) ?_)
            refine sat_fn _ (heapRef_ok _) rfl ?_
            repeat (first | refine sat_same ?_ | refine sat_impA ?_ | refine sat_need (by exact ⟨by omega, obj_item g (Or.inr c12)⟩) ?_)
            refine sat_done ?_
            refine exS_normal ?_
            refine ev_ret ?_
            refine exBl_ret ?_
            refine exS_ret ?_
            exact FinV.ret rfl (SubP.tup ⟨by rw [spS, if_neg (not_not_intro c1), if_neg (by rw [c5]; decide), if_neg (by rw [c8]; decide), if_neg (by omega), if_pos c12]; exact SubP.refl _, by rw [spS, if_neg (not_not_intro c1), if_neg (by rw [c5]; decide), if_neg (by rw [c8]; decide), if_neg (by omega), if_pos c12]; exact SubP.slrSl rfl, by rw [spS, if_neg (not_not_intro c1), if_neg (by rw [c5]; decide), if_neg (by rw [c8]; decide), if_neg (by omega), if_pos c12]; exact SubP.refl _, trivial⟩)
          · 
            refine ev_skip ?_
            refine exBl_normal ?_
            refine exS_normal ?_
            refine ev_R tabT [] 1500 ?_
            refine ev_ret ?_
            exact FinV.ret rfl (SubP.tup ⟨by rw [spS, if_neg (not_not_intro c1), if_neg (by rw [c5]; decide), if_neg (by rw [c8]; decide), if_neg (by omega), if_neg (by omega)]; exact SubP.refl _, by rw [spS, if_neg (not_not_intro c1), if_neg (by rw [c5]; decide), if_neg (by rw [c8]; decide), if_neg (by omega), if_neg (by omega)]; exact SubP.nilSl rfl, by rw [spS, if_neg (not_not_intro c1), if_neg (by rw [c5]; decide), if_neg (by rw [c8]; decide), if_neg (by omega), if_neg (by omega)]; exact SubP.refl _, trivial⟩)

set_option maxHeartbeats 1000000 in
theorem Method_ok (h : List Ob) (v : Vl) (s : ByteArray) (hh : HpIn h) (g : Uh h) (hv : v.k = 6 → isObj h v.r = true) : Fn Tryz.prog 7 [hpD md h, .agg (vlD v), .v (.string s)] (.tup [.agg (vlD (spS h v s).1), vsD (spS h v s).2.1, .v (.bool (spS h v s).2.2)]) := by
  refine fn_ev tabT Tryz.func7 rfl rfl rfl rfl rfl rfl ?_
  intro w0 s0 mx
  refine ev_R tabT [] 100 ?_
  refine ev_seq (ev_region tabT [] 200 rfl ?_)
  repeat (first | refine sat_same ?_ | refine sat_impA ?_ | refine sat_needA ?_)
  refine sat_fn _ (Obj_ok _ _) rfl ?_
  repeat (first | refine sat_same ?_ | refine sat_impA ?_ | refine sat_needA ?_)
  refine sat_done ?_
  refine exS_normal ?_
  refine ev_seq ?_
  refine ev_R tabT [] 300 ?_
  refine ev_cond rfl (fun c2 => ?_) (fun c2 => ?_)
  · replace c2 : ¬ (objS h v).kind = 10 := by simpa using c2
    refine ev_R tabT [] 400 ?_
    refine ev_ret ?_
    refine exS_ret ?_
    exact FinV.ret rfl (SubP.tup ⟨by rw [spS, if_pos c2]; exact (by repeat (first | exact trivial | exact SubP.refl _ | exact SubP.nilSl rfl | refine SubP.agg ?_ | refine ⟨?_, ?_⟩)), by rw [spS, if_pos c2]; exact SubP.nilSl rfl, by rw [spS, if_pos c2]; exact SubP.refl _, trivial⟩)
  · replace c2 : (objS h v).kind = 10 := by simpa using c2
    have hin := inst_cls g c2
    have hrv := fun hk => fd_rv hh g hin s hk
    refine ev_skip ?_
    refine exS_normal ?_
    refine ev_seq (ev_region tabT [] 500 rfl ?_)
    repeat (first | refine sat_same ?_ | refine sat_impA ?_ | refine sat_needA ?_)
    refine sat_fn _ (Inherited_ok h (objS h v).cls s hh hin (cok_of hh g hin)) rfl ?_
    repeat (first | refine sat_same ?_ | refine sat_impA ?_ | refine sat_needA ?_)
    refine sat_done ?_
    refine exS_normal ?_
    refine ev_seq ?_
    refine ev_R tabT [] 600 ?_
    refine ev_cond rfl (fun c5 => ?_) (fun c5 => ?_)
    · replace c5 : (fdO h (obAt h (objS h v).cls).order s).isSome = false := by simpa using c5
      refine ev_R tabT [] 700 ?_
      refine ev_ret ?_
      refine exS_ret ?_
      exact FinV.ret rfl (SubP.tup ⟨by rw [spS, if_neg (not_not_intro c2), if_pos c5]; exact (by repeat (first | exact trivial | exact SubP.refl _ | exact SubP.nilSl rfl | refine SubP.agg ?_ | refine ⟨?_, ?_⟩)), by rw [spS, if_neg (not_not_intro c2), if_pos c5]; exact SubP.nilSl rfl, by rw [spS, if_neg (not_not_intro c2), if_pos c5]; exact SubP.refl _, trivial⟩)
    · replace c5 : (fdO h (obAt h (objS h v).cls).order s).isSome = true := by simpa using c5
      refine ev_skip ?_
      refine exS_normal ?_
      refine ev_seq ?_
      refine ev_seq (ev_region tabT [] 800 rfl ?_)
      repeat (first | refine sat_same ?_ | refine sat_impA ?_ | refine sat_needA ?_)
      refine sat_fn _ (callable_ok h (fdV h s (fdO h (obAt h (objS h v).cls).order s))) rfl ?_
      repeat (first | refine sat_same ?_ | refine sat_impA ?_ | refine sat_needA ?_)
      refine sat_done ?_
      refine exS_normal ?_
      refine ev_cond rfl (fun c7 => ?_) (fun c7 => ?_)
      · 
        refine ev_seq (ev_drawn tabT [] [[], [], [1], [0], [0, 1, 2, 3], [0, 1, 2, 3, 4]] 900 mixT (by kernel_rfl) rfl ?_)
        repeat (first | refine sat_same ?_ | refine sat_impA ?_ | refine sat_needA ?_)
        refine sat_done ?_
        refine exS_normal ?_
        refine ev_ret ?_
        refine exS_ret ?_
        exact FinV.ret rfl (SubP.tup ⟨by rw [spS, if_neg (not_not_intro c2), if_neg (by rw [c5]; decide), if_pos c7]; exact SubP.refl _, by rw [spS, if_neg (not_not_intro c2), if_neg (by rw [c5]; decide), if_pos c7]; exact SubP.slrSl rfl, by rw [spS, if_neg (not_not_intro c2), if_neg (by rw [c5]; decide), if_pos c7]; exact SubP.refl _, trivial⟩)
      · 
        refine ev_skip ?_
        refine exS_normal ?_
        refine ev_seq ?_
        refine ev_seq (ev_region tabT [] 1000 rfl ?_)
        repeat (first | refine sat_same ?_ | refine sat_impA ?_ | refine sat_needA ?_)
        refine sat_fn _ (Obj_ok _ _) rfl ?_
        repeat (first | refine sat_same ?_ | refine sat_impA ?_ | refine sat_needA ?_)
        refine sat_done ?_
        refine exS_normal ?_
        refine ev_R tabT [] 1100 ?_
        refine ev_block ?_
        refine ev_R tabT [] 1200 ?_
        refine ev_if (fun c11 => ?_) (fun c11 => ?_)
        · 
          refine ev_seq (ev_drawn tabT [] [[], [0], [0, 1], [0, 1, 2], [], [4], [4, 5], [4, 5, 6], [0, 1, 2, 3, 4, 5, 6], [0, 1, 2, 3, 4, 5, 6, 7, 8], [0, 1, 2, 3, 4, 5, 6, 7, 8, 9]] 1300 mixT (by kernel_rfl) rfl ?_)
          repeat (first | refine sat_same ?_ | refine sat_impA ?_ | refine sat_need (by exact ⟨by omega, obj_item g (Or.inr c11)⟩) ?_)
          refine sat_fn _ (O_ok _) rfl ?_
          repeat (first | refine sat_same ?_ | refine sat_impA ?_ | refine sat_need (by exact ⟨by omega, obj_item g (Or.inr c11)⟩) ?_)
          refine sat_done ?_
          refine exS_normal ?_
          refine ev_ret ?_
          refine exBl_ret ?_
          refine exS_ret ?_
          exact FinV.ret rfl (SubP.tup ⟨by rw [spS, if_neg (not_not_intro c2), if_neg (by rw [c5]; decide), if_neg (by rw [c7]; decide), if_neg (by omega), if_pos c11]; exact SubP.refl _, by rw [spS, if_neg (not_not_intro c2), if_neg (by rw [c5]; decide), if_neg (by rw [c7]; decide), if_neg (by omega), if_pos c11]; exact SubP.slrSl rfl, by rw [spS, if_neg (not_not_intro c2), if_neg (by rw [c5]; decide), if_neg (by rw [c7]; decide), if_neg (by omega), if_pos c11]; exact SubP.refl _, trivial⟩)
        · 
          refine ev_R tabT [] 1400 ?_
          refine ev_if (fun c13 => ?_) (fun c13 => ?_)
          · 
            refine ev_seq (ev_region tabT [] 1500 rfl ?_)
            repeat (first | refine sat_same ?_ | refine sat_impA ?_ | refine sat_need (by exact ⟨by omega, obj_item g (Or.inl c13)⟩) ?_)
            refine sat_done ?_
            refine exS_normal ?_
            refine ev_ret ?_
            refine exBl_ret ?_
            refine exS_ret ?_
            exact FinV.ret rfl (SubP.tup ⟨by rw [spS, if_neg (not_not_intro c2), if_neg (by rw [c5]; decide), if_neg (by rw [c7]; decide), if_pos c13]; exact SubP.refl _, by rw [spS, if_neg (not_not_intro c2), if_neg (by rw [c5]; decide), if_neg (by rw [c7]; decide), if_pos c13]; exact SubP.nilSl rfl, by rw [spS, if_neg (not_not_intro c2), if_neg (by rw [c5]; decide), if_neg (by rw [c7]; decide), if_pos c13]; exact SubP.refl _, trivial⟩)
          · 
            refine ev_skip ?_
            refine exBl_normal ?_
            refine exS_normal ?_
            refine ev_R tabT [] 1600 ?_
            refine ev_ret ?_
            exact FinV.ret rfl (SubP.tup ⟨by rw [spS, if_neg (not_not_intro c2), if_neg (by rw [c5]; decide), if_neg (by rw [c7]; decide), if_neg (by omega), if_neg (by omega)]; exact SubP.refl _, by rw [spS, if_neg (not_not_intro c2), if_neg (by rw [c5]; decide), if_neg (by rw [c7]; decide), if_neg (by omega), if_neg (by omega)]; exact SubP.nilSl rfl, by rw [spS, if_neg (not_not_intro c2), if_neg (by rw [c5]; decide), if_neg (by rw [c7]; decide), if_neg (by omega), if_neg (by omega)]; exact SubP.refl _, trivial⟩)

end Go.Proofs.YtonogeiopicibaaGreatDoor

/- Walks by the evaluator: names of built-in methods. -/
namespace Go.Proofs.YtonogeiopicibaaGreatDoor
open Go.RowKit
variable {md me : Bool}

def mtL (c : Int) : List ByteArray := if c = 4 then [(⟨#[98, 105, 116, 115]⟩ : ByteArray)] else if c = 5 then [(⟨#[100, 101, 110]⟩ : ByteArray), (⟨#[110, 117, 109]⟩ : ByteArray)] else if c = 6 then fieldsS (⟨#[99, 111, 117, 110, 116, 32, 101, 110, 99, 111, 100, 101, 32, 101, 110, 100, 115, 95, 119, 105, 116, 104, 32, 102, 105, 110, 100, 32, 106, 111, 105, 110, 32, 108, 111, 119, 101, 114, 32, 114, 101, 112, 108, 97, 99, 101, 32, 115, 112, 108, 105, 116, 32, 115, 116, 97, 114, 116, 115, 95, 119, 105, 116, 104, 32, 115, 116, 114, 105, 112, 32, 117, 112, 112, 101, 114]⟩ : ByteArray) else if c = 7 then [(⟨#[100, 101, 99, 111, 100, 101]⟩ : ByteArray), (⟨#[102, 105, 110, 100]⟩ : ByteArray), (⟨#[104, 101, 120]⟩ : ByteArray)] else if c = 8 then [(⟨#[99, 111, 117, 110, 116]⟩ : ByteArray), (⟨#[105, 110, 100, 101, 120]⟩ : ByteArray)] else if c = 9 then fieldsS (⟨#[97, 112, 112, 101, 110, 100, 32, 99, 108, 101, 97, 114, 32, 99, 111, 112, 121, 32, 99, 111, 117, 110, 116, 32, 101, 120, 116, 101, 110, 100, 32, 105, 110, 100, 101, 120, 32, 105, 110, 115, 101, 114, 116, 32, 112, 111, 112, 32, 114, 101, 109, 111, 118, 101, 32, 114, 101, 118, 101, 114, 115, 101, 32, 115, 111, 114, 116]⟩ : ByteArray) else if c = 10 then fieldsS (⟨#[99, 108, 101, 97, 114, 32, 99, 111, 112, 121, 32, 103, 101, 116, 32, 105, 116, 101, 109, 115, 32, 107, 101, 121, 115, 32, 112, 111, 112, 32, 115, 101, 116, 95, 100, 101, 102, 97, 117, 108, 116, 32, 117, 112, 100, 97, 116, 101, 32, 118, 97, 108, 117, 101, 115]⟩ : ByteArray) else if c = 11 then fieldsS (⟨#[97, 100, 100, 32, 99, 108, 101, 97, 114, 32, 99, 111, 112, 121, 32, 100, 105, 115, 99, 97, 114, 100, 32, 114, 101, 109, 111, 118, 101]⟩ : ByteArray) else if c = 18 then [(⟨#[119, 105, 116, 104, 95, 100, 101, 108, 101, 116, 101, 114]⟩ : ByteArray), (⟨#[119, 105, 116, 104, 95, 115, 101, 116, 116, 101, 114]⟩ : ByteArray)] else if c = 23 then [(⟨#[99, 108, 111, 115, 101]⟩ : ByteArray), (⟨#[115, 101, 110, 100]⟩ : ByteArray), (⟨#[116, 104, 114, 111, 119]⟩ : ByteArray)] else if c = 25 then [(⟨#[99, 97, 110, 99, 101, 108]⟩ : ByteArray), (⟨#[100, 111, 110, 101]⟩ : ByteArray)] else []
theorem attrMethods_ok (c : Int) : Fn Tryz.prog 13 [.v (.int .i64 c)] (ssD (mtL c)) := by
  refine fn_ev tabT Tryz.func13 rfl rfl rfl rfl rfl rfl ?_
  intro w0 s0 mx
  refine ev_R tabT [] 100 ?_
  refine ev_seq ?_
  refine ev_R tabT [] 200 ?_
  refine ev_block ?_
  refine ev_R tabT [] 300 ?_
  refine ev_if (fun c2 => ?_) (fun c2 => ?_)
  · 
    refine ev_R tabT [] 400 ?_
    refine ev_ret ?_
    refine exBl_ret ?_
    refine exS_ret ?_
    exact FinV.ret rfl (SubP.slrSl (by rw [mtL, if_pos c2]; rfl))
  · 
    refine ev_R tabT [] 500 ?_
    refine ev_if (fun c4 => ?_) (fun c4 => ?_)
    · 
      refine ev_R tabT [] 600 ?_
      refine ev_ret ?_
      refine exBl_ret ?_
      refine exS_ret ?_
      exact FinV.ret rfl (SubP.slrSl (by rw [mtL, if_neg c2, if_pos c4]; rfl))
    · 
      refine ev_R tabT [] 700 ?_
      refine ev_if (fun c6 => ?_) (fun c6 => ?_)
      · 
        refine ev_seq (ev_region tabT [] 800 rfl ?_)
        repeat (first | refine sat_same ?_ | refine sat_impA ?_ | refine sat_needA ?_)
        refine sat_fn _ (Fields_ok _ rfl (by decide +kernel) (by decide +kernel) (by decide +kernel)) rfl ?_
        repeat (first | refine sat_same ?_ | refine sat_impA ?_ | refine sat_needA ?_)
        refine sat_done ?_
        refine exS_normal ?_
        refine ev_ret ?_
        refine exBl_ret ?_
        refine exS_ret ?_
        exact FinV.ret rfl (SubP.of_eq (by rw [mtL, if_neg c2, if_neg c4, if_pos c6]; try rfl))
      · 
        refine ev_R tabT [] 900 ?_
        refine ev_if (fun c8 => ?_) (fun c8 => ?_)
        · 
          refine ev_R tabT [] 1000 ?_
          refine ev_ret ?_
          refine exBl_ret ?_
          refine exS_ret ?_
          exact FinV.ret rfl (SubP.slrSl (by rw [mtL, if_neg c2, if_neg c4, if_neg c6, if_pos c8]; rfl))
        · 
          refine ev_R tabT [] 1100 ?_
          refine ev_if (fun c10 => ?_) (fun c10 => ?_)
          · 
            refine ev_R tabT [] 1200 ?_
            refine ev_ret ?_
            refine exBl_ret ?_
            refine exS_ret ?_
            exact FinV.ret rfl (SubP.slrSl (by rw [mtL, if_neg c2, if_neg c4, if_neg c6, if_neg c8, if_pos c10]; rfl))
          · 
            refine ev_R tabT [] 1300 ?_
            refine ev_if (fun c12 => ?_) (fun c12 => ?_)
            · 
              refine ev_seq (ev_region tabT [] 1400 rfl ?_)
              repeat (first | refine sat_same ?_ | refine sat_impA ?_ | refine sat_needA ?_)
              refine sat_fn _ (Fields_ok _ rfl (by decide +kernel) (by decide +kernel) (by decide +kernel)) rfl ?_
              repeat (first | refine sat_same ?_ | refine sat_impA ?_ | refine sat_needA ?_)
              refine sat_done ?_
              refine exS_normal ?_
              refine ev_ret ?_
              refine exBl_ret ?_
              refine exS_ret ?_
              exact FinV.ret rfl (SubP.of_eq (by rw [mtL, if_neg c2, if_neg c4, if_neg c6, if_neg c8, if_neg c10, if_pos c12]; try rfl))
            · 
              refine ev_R tabT [] 1500 ?_
              refine ev_if (fun c14 => ?_) (fun c14 => ?_)
              · 
                refine ev_seq (ev_region tabT [] 1600 rfl ?_)
                repeat (first | refine sat_same ?_ | refine sat_impA ?_ | refine sat_needA ?_)
                refine sat_fn _ (Fields_ok _ rfl (by decide +kernel) (by decide +kernel) (by decide +kernel)) rfl ?_
                repeat (first | refine sat_same ?_ | refine sat_impA ?_ | refine sat_needA ?_)
                refine sat_done ?_
                refine exS_normal ?_
                refine ev_ret ?_
                refine exBl_ret ?_
                refine exS_ret ?_
                exact FinV.ret rfl (SubP.of_eq (by rw [mtL, if_neg c2, if_neg c4, if_neg c6, if_neg c8, if_neg c10, if_neg c12, if_pos c14]; try rfl))
              · 
                refine ev_R tabT [] 1700 ?_
                refine ev_if (fun c16 => ?_) (fun c16 => ?_)
                · 
                  refine ev_seq (ev_region tabT [] 1800 rfl ?_)
                  repeat (first | refine sat_same ?_ | refine sat_impA ?_ | refine sat_needA ?_)
                  refine sat_fn _ (Fields_ok _ rfl (by decide +kernel) (by decide +kernel) (by decide +kernel)) rfl ?_
                  repeat (first | refine sat_same ?_ | refine sat_impA ?_ | refine sat_needA ?_)
                  refine sat_done ?_
                  refine exS_normal ?_
                  refine ev_ret ?_
                  refine exBl_ret ?_
                  refine exS_ret ?_
                  exact FinV.ret rfl (SubP.of_eq (by rw [mtL, if_neg c2, if_neg c4, if_neg c6, if_neg c8, if_neg c10, if_neg c12, if_neg c14, if_pos c16]; try rfl))
                · 
                  refine ev_R tabT [] 1900 ?_
                  refine ev_if (fun c18 => ?_) (fun c18 => ?_)
                  · 
                    refine ev_R tabT [] 2000 ?_
                    refine ev_ret ?_
                    refine exBl_ret ?_
                    refine exS_ret ?_
                    exact FinV.ret rfl (SubP.slrSl (by rw [mtL, if_neg c2, if_neg c4, if_neg c6, if_neg c8, if_neg c10, if_neg c12, if_neg c14, if_neg c16, if_pos c18]; rfl))
                  · 
                    refine ev_R tabT [] 2100 ?_
                    refine ev_if (fun c20 => ?_) (fun c20 => ?_)
                    · 
                      refine ev_R tabT [] 2200 ?_
                      refine ev_ret ?_
                      refine exBl_ret ?_
                      refine exS_ret ?_
                      exact FinV.ret rfl (SubP.slrSl (by rw [mtL, if_neg c2, if_neg c4, if_neg c6, if_neg c8, if_neg c10, if_neg c12, if_neg c14, if_neg c16, if_neg c18, if_pos c20]; rfl))
                    · 
                      refine ev_R tabT [] 2300 ?_
                      refine ev_if (fun c22 => ?_) (fun c22 => ?_)
                      · 
                        refine ev_R tabT [] 2400 ?_
                        refine ev_ret ?_
                        refine exBl_ret ?_
                        refine exS_ret ?_
                        exact FinV.ret rfl (SubP.slrSl (by rw [mtL, if_neg c2, if_neg c4, if_neg c6, if_neg c8, if_neg c10, if_neg c12, if_neg c14, if_neg c16, if_neg c18, if_neg c20, if_pos c22]; rfl))
                      · 
                        refine ev_skip ?_
                        refine exBl_normal ?_
                        refine exS_normal ?_
                        refine ev_R tabT [] 2500 ?_
                        refine ev_ret ?_
                        exact FinV.ret rfl (SubP.nilSl (by rw [mtL, if_neg c2, if_neg c4, if_neg c6, if_neg c8, if_neg c10, if_neg c12, if_neg c14, if_neg c16, if_neg c18, if_neg c20, if_neg c22]))

theorem MethodsOf_ok (c : Int) : Fn Tryz.prog 14 [.v (.int .i64 c)] (ssD (mtL c)) := by
  refine fn_ev tabT Tryz.func14 rfl rfl rfl rfl rfl rfl ?_
  intro w0 s0 mx
  refine ev_R tabT [] 100 ?_
  refine ev_seq ?_
  refine ev_R tabT [] 200 ?_
  refine ev_block ?_
  refine ev_R tabT [] 300 ?_
  refine ev_if (fun c2 => ?_) (fun c2 => ?_)
  · 
    refine ev_R tabT [] 400 ?_
    refine ev_ret ?_
    refine exBl_ret ?_
    refine exS_ret ?_
    exact FinV.ret rfl (SubP.slrSl (by rw [mtL, if_pos c2]; rfl))
  · 
    refine ev_R tabT [] 500 ?_
    refine ev_if (fun c4 => ?_) (fun c4 => ?_)
    · 
      refine ev_R tabT [] 600 ?_
      refine ev_ret ?_
      refine exBl_ret ?_
      refine exS_ret ?_
      exact FinV.ret rfl (SubP.slrSl (by rw [mtL, if_neg c2, if_pos c4]; rfl))
    · 
      refine ev_R tabT [] 700 ?_
      refine ev_if (fun c6 => ?_) (fun c6 => ?_)
      · 
        refine ev_seq (ev_region tabT [] 800 rfl ?_)
        repeat (first | refine sat_same ?_ | refine sat_impA ?_ | refine sat_needA ?_)
        refine sat_fn _ (Fields_ok _ rfl (by decide +kernel) (by decide +kernel) (by decide +kernel)) rfl ?_
        repeat (first | refine sat_same ?_ | refine sat_impA ?_ | refine sat_needA ?_)
        refine sat_done ?_
        refine exS_normal ?_
        refine ev_ret ?_
        refine exBl_ret ?_
        refine exS_ret ?_
        exact FinV.ret rfl (SubP.of_eq (by rw [mtL, if_neg c2, if_neg c4, if_pos c6]; try rfl))
      · 
        refine ev_R tabT [] 900 ?_
        refine ev_if (fun c8 => ?_) (fun c8 => ?_)
        · 
          refine ev_R tabT [] 1000 ?_
          refine ev_ret ?_
          refine exBl_ret ?_
          refine exS_ret ?_
          exact FinV.ret rfl (SubP.slrSl (by rw [mtL, if_neg c2, if_neg c4, if_neg c6, if_pos c8]; rfl))
        · 
          refine ev_R tabT [] 1100 ?_
          refine ev_if (fun c10 => ?_) (fun c10 => ?_)
          · 
            refine ev_R tabT [] 1200 ?_
            refine ev_ret ?_
            refine exBl_ret ?_
            refine exS_ret ?_
            exact FinV.ret rfl (SubP.slrSl (by rw [mtL, if_neg c2, if_neg c4, if_neg c6, if_neg c8, if_pos c10]; rfl))
          · 
            refine ev_R tabT [] 1300 ?_
            refine ev_if (fun c12 => ?_) (fun c12 => ?_)
            · 
              refine ev_seq (ev_region tabT [] 1400 rfl ?_)
              repeat (first | refine sat_same ?_ | refine sat_impA ?_ | refine sat_needA ?_)
              refine sat_fn _ (Fields_ok _ rfl (by decide +kernel) (by decide +kernel) (by decide +kernel)) rfl ?_
              repeat (first | refine sat_same ?_ | refine sat_impA ?_ | refine sat_needA ?_)
              refine sat_done ?_
              refine exS_normal ?_
              refine ev_ret ?_
              refine exBl_ret ?_
              refine exS_ret ?_
              exact FinV.ret rfl (SubP.of_eq (by rw [mtL, if_neg c2, if_neg c4, if_neg c6, if_neg c8, if_neg c10, if_pos c12]; try rfl))
            · 
              refine ev_R tabT [] 1500 ?_
              refine ev_if (fun c14 => ?_) (fun c14 => ?_)
              · 
                refine ev_seq (ev_region tabT [] 1600 rfl ?_)
                repeat (first | refine sat_same ?_ | refine sat_impA ?_ | refine sat_needA ?_)
                refine sat_fn _ (Fields_ok _ rfl (by decide +kernel) (by decide +kernel) (by decide +kernel)) rfl ?_
                repeat (first | refine sat_same ?_ | refine sat_impA ?_ | refine sat_needA ?_)
                refine sat_done ?_
                refine exS_normal ?_
                refine ev_ret ?_
                refine exBl_ret ?_
                refine exS_ret ?_
                exact FinV.ret rfl (SubP.of_eq (by rw [mtL, if_neg c2, if_neg c4, if_neg c6, if_neg c8, if_neg c10, if_neg c12, if_pos c14]; try rfl))
              · 
                refine ev_R tabT [] 1700 ?_
                refine ev_if (fun c16 => ?_) (fun c16 => ?_)
                · 
                  refine ev_seq (ev_region tabT [] 1800 rfl ?_)
                  repeat (first | refine sat_same ?_ | refine sat_impA ?_ | refine sat_needA ?_)
                  refine sat_fn _ (Fields_ok _ rfl (by decide +kernel) (by decide +kernel) (by decide +kernel)) rfl ?_
                  repeat (first | refine sat_same ?_ | refine sat_impA ?_ | refine sat_needA ?_)
                  refine sat_done ?_
                  refine exS_normal ?_
                  refine ev_ret ?_
                  refine exBl_ret ?_
                  refine exS_ret ?_
                  exact FinV.ret rfl (SubP.of_eq (by rw [mtL, if_neg c2, if_neg c4, if_neg c6, if_neg c8, if_neg c10, if_neg c12, if_neg c14, if_pos c16]; try rfl))
                · 
                  refine ev_R tabT [] 1900 ?_
                  refine ev_if (fun c18 => ?_) (fun c18 => ?_)
                  · 
                    refine ev_R tabT [] 2000 ?_
                    refine ev_ret ?_
                    refine exBl_ret ?_
                    refine exS_ret ?_
                    exact FinV.ret rfl (SubP.slrSl (by rw [mtL, if_neg c2, if_neg c4, if_neg c6, if_neg c8, if_neg c10, if_neg c12, if_neg c14, if_neg c16, if_pos c18]; rfl))
                  · 
                    refine ev_R tabT [] 2100 ?_
                    refine ev_if (fun c20 => ?_) (fun c20 => ?_)
                    · 
                      refine ev_R tabT [] 2200 ?_
                      refine ev_ret ?_
                      refine exBl_ret ?_
                      refine exS_ret ?_
                      exact FinV.ret rfl (SubP.slrSl (by rw [mtL, if_neg c2, if_neg c4, if_neg c6, if_neg c8, if_neg c10, if_neg c12, if_neg c14, if_neg c16, if_neg c18, if_pos c20]; rfl))
                    · 
                      refine ev_R tabT [] 2300 ?_
                      refine ev_if (fun c22 => ?_) (fun c22 => ?_)
                      · 
                        refine ev_R tabT [] 2400 ?_
                        refine ev_ret ?_
                        refine exBl_ret ?_
                        refine exS_ret ?_
                        exact FinV.ret rfl (SubP.slrSl (by rw [mtL, if_neg c2, if_neg c4, if_neg c6, if_neg c8, if_neg c10, if_neg c12, if_neg c14, if_neg c16, if_neg c18, if_neg c20, if_pos c22]; rfl))
                      · 
                        refine ev_skip ?_
                        refine exBl_normal ?_
                        refine exS_normal ?_
                        refine ev_R tabT [] 2500 ?_
                        refine ev_ret ?_
                        exact FinV.ret rfl (SubP.nilSl (by rw [mtL, if_neg c2, if_neg c4, if_neg c6, if_neg c8, if_neg c10, if_neg c12, if_neg c14, if_neg c16, if_neg c18, if_neg c20, if_neg c22]))

/-- The name of a value that is callable, one step. -/
def nmStep (h : List Ob) (p : ByteArray × Bool) (v : Vl) : ByteArray × Bool :=
  if v.k = 7 then (v.s, true) else if (objS h v).kind = 7 then ((objS h v).name, true) else if (objS h v).kind = 8 then p else (⟨#[]⟩, false)
def named1 (h : List Ob) (v : Vl) : ByteArray × Bool := nmStep h (⟨#[]⟩, false) v
def namedS (h : List Ob) (v : Vl) : ByteArray × Bool := nmStep h (named1 h ((objS h v).items.getD 0 vl0)) v
/-- A method's function is callable. -/
theorem meth_item {h : List Ob} (g : Uh h) {v : Vl} (hk : (objS h v).kind = 8) : 0 < (objS h v).items.length ∧ callS h ((objS h v).items.getD 0 vl0) = true := by
  have h1 := objS_of (h := h) (v := v) (by omega)
  have hin := isObj_in h1.2.1
  rw [h1.2.2] at hk ⊢
  by_cases h49 : v.r.toNat < 49
  · rw [show obAt h v.r = bgO v.r.toNat from g.lo_at h49] at hk
    have h9 : (bgO v.r.toNat).kind = 9 := rfl
    omega
  · have u := g.hi_at (i := v.r.toNat) (by omega) hin.2
    have hs := (sh_of u.shape).1
    have hl := u.links
    rw [← obAt_nat hin] at hs hl
    have hc : cntS (obAt h v.r) = 2 := by rw [cnt_of 8 50 (by decide +kernel) hk]; decide +kernel
    refine ⟨by omega, ?_⟩
    rw [linksS, if_neg (by omega), if_neg (by omega), if_pos hk] at hl
    exact hl
theorem named_call {h : List Ob} {v : Vl} (hc : callS h v = true) : ¬ (objS h v).kind = 8 := by
  rw [callS, Bool.or_eq_true, decide_eq_true_eq, decide_eq_true_eq] at hc
  rcases hc with h1 | h1
  · rw [objS_no (by omega)]; show ¬ (0 : Int) = 8; decide
  · omega

theorem named_step (h : List Ob) (v : Vl) (p : ByteArray × Bool) (hi : (objS h v).kind = 8 → 0 < (objS h v).items.length) (H : (objS h v).kind = 8 → Fn Tryz.prog 35 [hpD md h, .agg (vlD ((objS h v).items.getD 0 vl0))] (.tup [.v (.string p.1), .v (.bool p.2)])) : Fn Tryz.prog 35 [hpD md h, .agg (vlD v)] (.tup [.v (.string (nmStep h p v).1), .v (.bool (nmStep h p v).2)]) := by
  refine fn_ev tabT Tryz.func35 rfl rfl rfl rfl rfl rfl ?_
  intro w0 s0 mx
  refine ev_R tabT [] 100 ?_
  refine ev_seq ?_
  refine ev_R tabT [] 200 ?_
  refine ev_if (fun c1 => ?_) (fun c1 => ?_)
  · 
    refine ev_R tabT [] 300 ?_
    refine ev_ret ?_
    refine exS_ret ?_
    exact FinV.ret rfl (SubP.tup ⟨by rw [nmStep, if_pos c1]; exact SubP.refl _, by rw [nmStep, if_pos c1]; exact SubP.refl _, trivial⟩)
  · 
    refine ev_skip ?_
    refine exS_normal ?_
    refine ev_seq ?_
    refine ev_seq (ev_region tabT [] 400 rfl ?_)
    repeat (first | refine sat_same ?_ | refine sat_impA ?_ | refine sat_needA ?_)
    refine sat_fn _ (Obj_ok _ _) rfl ?_
    repeat (first | refine sat_same ?_ | refine sat_impA ?_ | refine sat_needA ?_)
    refine sat_done ?_
    refine exS_normal ?_
    refine ev_R tabT [] 500 ?_
    refine ev_block ?_
    refine ev_R tabT [] 600 ?_
    refine ev_if (fun c5 => ?_) (fun c5 => ?_)
    · 
      refine ev_R tabT [] 700 ?_
      refine ev_ret ?_
      refine exBl_ret ?_
      refine exS_ret ?_
      exact FinV.ret rfl (SubP.tup ⟨by rw [nmStep, if_neg c1, if_pos c5]; exact SubP.refl _, by rw [nmStep, if_neg c1, if_pos c5]; exact SubP.refl _, trivial⟩)
    · 
      refine ev_R tabT [] 800 ?_
      refine ev_if (fun c7 => ?_) (fun c7 => ?_)
      · 
        refine ev_seq (ev_drawn tabT [] [[], [], [1], [1, 2], [1, 2, 3], [0, 1, 2, 3, 4], [0, 1, 2, 3, 4, 5], [0, 1, 2, 3, 4, 5], [0, 1, 2, 3, 4, 5, 6, 7], [0, 1, 2, 3, 4, 5, 6, 7, 8]] 900 mixT (by kernel_rfl) rfl ?_)
        repeat (first | refine sat_same ?_ | refine sat_impA ?_ | refine sat_need (by exact ⟨by omega, hi c7⟩) ?_)
        refine sat_fn _ (H c7) rfl ?_
        repeat (first | refine sat_same ?_ | refine sat_impA ?_ | refine sat_need (by exact ⟨by omega, hi c7⟩) ?_)
        refine sat_done ?_
        refine exS_normal ?_
        refine ev_ret ?_
        refine exBl_ret ?_
        refine exS_ret ?_
        exact FinV.ret rfl (SubP.tup ⟨by rw [nmStep, if_neg c1, if_neg c5, if_pos c7]; exact SubP.refl _, by rw [nmStep, if_neg c1, if_neg c5, if_pos c7]; exact SubP.refl _, trivial⟩)
      · 
        refine ev_skip ?_
        refine exBl_normal ?_
        refine exS_normal ?_
        refine ev_R tabT [] 1000 ?_
        refine ev_ret ?_
        exact FinV.ret rfl (SubP.tup ⟨by rw [nmStep, if_neg c1, if_neg c5, if_neg c7]; exact SubP.refl _, by rw [nmStep, if_neg c1, if_neg c5, if_neg c7]; exact SubP.refl _, trivial⟩)

theorem named_ok (h : List Ob) (v : Vl) (g : Uh h) : Fn Tryz.prog 35 [hpD md h, .agg (vlD v)] (.tup [.v (.string (namedS h v).1), .v (.bool (namedS h v).2)]) :=
  named_step h v _ (fun hk => (meth_item g hk).1) fun hk => named_step h _ _ (fun h8 => absurd h8 (named_call (meth_item g hk).2)) fun h8 => absurd h8 (named_call (meth_item g hk).2)
theorem named_is (h : List Ob) (g : Uh h) (v : Vl) : (namedS h v).2 = ((decide (v.k = 7) || decide ((objS h v).kind = 7)) || decide ((objS h v).kind = 8)) := by
  unfold namedS nmStep
  by_cases c1 : v.k = 7
  · rw [if_pos c1, decide_eq_true c1]; rfl
  · rw [if_neg c1, decide_eq_false c1]
    by_cases c2 : (objS h v).kind = 7
    · rw [if_pos c2, decide_eq_true c2]; rfl
    · rw [if_neg c2, decide_eq_false c2]
      by_cases c3 : (objS h v).kind = 8
      · rw [if_pos c3, decide_eq_true c3]
        have hc := (meth_item g c3).2
        rw [callS, Bool.or_eq_true, decide_eq_true_eq, decide_eq_true_eq] at hc
        show (nmStep h _ _).2 = true
        rw [nmStep]
        rcases hc with hc | hc
        · rw [if_pos hc]
        · by_cases c4 : ((objS h v).items.getD 0 vl0).k = 7
          · rw [if_pos c4]
          · rw [if_neg c4, if_pos hc]
      · rw [if_neg c3, decide_eq_false c3]; rfl

end Go.Proofs.YtonogeiopicibaaGreatDoor

/- Walks by the evaluator: what exceptions have. -/
namespace Go.Proofs.YtonogeiopicibaaGreatDoor
open Go.RowKit
variable {md me : Bool}

def g4S (h : List Ob) (e : Vl) (s : ByteArray) : Vl := ownV (objS h e) s
theorem obj_names {h : List Ob} (g : Uh h) (v : Vl) : (objS h v).names.length ≤ (objS h v).items.length := by
  by_cases h0 : (objS h v).kind = 0
  · by_cases hk : v.k = 6 ∧ isObj h v.r = true
    · rw [show objS h v = obAt h v.r from if_pos hk]; exact nm_it g (isObj_in hk.2)
    · rw [show objS h v = ob0 from if_neg hk]; exact Nat.le_refl _
  · have h1 := objS_of h0
    rw [h1.2.2]; exact nm_it g (isObj_in h1.2.1)

end Go.Proofs.YtonogeiopicibaaGreatDoor

/- The evaluator: ways that come together. Nothing here speaks of the program. -/
namespace Go.Proofs.YtonogeiopicibaaGreatDoor
open Go.RowKit

section
variable {P : Program} {b : Ba}
/-- Where ways come together: one of these states. -/
def exJ {ι : Type} (I : ι → DS) (K : Exit → DS → Prop) (ex : Exit) (S : DS) : Prop := match ex with
  | .normal => ∃ i, LeD S (I i)
  | e => K e S
theorem exJ_normal {ι : Type} {I : ι → DS} {K : Exit → DS → Prop} {S : DS} (i : ι) (h : LeD S (I i)) : exJ I K .normal S := ⟨i, h⟩
theorem exJ_ret {ι : Type} {I : ι → DS} {K : Exit → DS → Prop} {S : DS} (h : K .ret S) : exJ I K .ret S := h
theorem exJ_exit {ι : Type} {I : ι → DS} {K : Exit → DS → Prop} {S : DS} {j : Nat} (h : K (.exit j) S) : exJ I K (.exit j) S := h
/-- Code whose ways come together ahead of y: ks and os stay, chg and ochg tell the rest. -/
theorem ev_joinK {ι : Type} (ks os : List Nat) (N : Nat) (chg : ι → List (Nat × D)) (ochg : ι → List (Nat × DOwn)) {x y : Code} {tm : List (Nat × D)} {ow : List (Nat × DOwn)} {nx : Nat} {K : Exit → DS → Prop}
    (h : keepK ks tm fun base => keepO os ow fun ob => Ev P b x ⟨tm, ow, nx⟩ (exJ (fun i => ⟨chg i ++ base, ochg i ++ ob, N⟩) K) ∧ ∀ i, Ev P b y ⟨chg i ++ base, ochg i ++ ob, N⟩ K) : Ev P b (.seq x y) ⟨tm, ow, nx⟩ K := by
  obtain ⟨base, h1⟩ := keepK_get h
  obtain ⟨ob, h2, h3⟩ := keepO_get h1
  refine ev_seq ?_
  intro w s g a Q hr hK
  refine h2 w s g a Q hr fun ex w' s' g' a' S' h4 h5 => hK ex w' s' g' a' S' h4 ?_
  cases ex with
  | normal =>
    obtain ⟨i, hi⟩ := h5
    exact ev_le _ hi (h3 i)
  | _ => exact h5
end
theorem Sub.mo {k n m : Nat} (h : n = m) : Sub (.mo k n) (.mo k m) := by subst h; exact Sub.refl _
theorem SubO.mr {ty : TypeId} {sz : Nat} {m m' : MR} (h : m.rows = m'.rows) : SubO (.mrow ty sz m) (.mrow ty sz m') := ⟨rfl, rfl, h⟩
theorem SubO.app {α : Type} {ty : TypeId} {sz : Nat} {l r : List α} {f : α → List D} {e : α} : SubO (.mrow ty sz (.app (.map l f e) (r.map f))) (.mrow ty sz (.map (l ++ r) f e)) := ⟨rfl, rfl, (List.map_append).symm⟩
end Go.Proofs.YtonogeiopicibaaGreatDoor

/- A row of its own whose first cells are replaced (as slices.Sort and slices.Compact of the kit's contracts leave it). Nothing here speaks of the program. -/
namespace Go.Proofs.YtonogeiopicibaaGreatDoor
open Go.RowKit Go.Sort

section
variable {α : Type} [Inhabited α]
theorem putCells_list (enc : α → Value) (d : Array α) (cs : List Value) (h : d.size ≤ cs.length) : putCells enc 0 d cs.toArray = (d.toList.map enc ++ cs.drop d.size).toArray := by
  apply Array.ext
  · simp [putCells]; omega
  · intro i h1 h2
    simp only [putCells, Array.getElem_mapIdx, List.getElem_toArray, Nat.zero_le, true_and, Nat.zero_add, Nat.sub_zero]
    by_cases hi : i < d.size
    · rw [if_pos hi, List.getElem_append_left (by simpa using hi)]
      simp [hi]
    · rw [if_neg hi, List.getElem_append_right (by simpa using Nat.le_of_not_lt hi)]
      simp only [List.length_map, Array.length_toList, List.getElem_drop]
      congr 1
      omega
/-- What lies in the row's block behind such a call. -/
theorem prow_at {enc : α → Value} {w : World} {G q : Nat} {d : Array α} {os : Array Obj} {cs : List Value} {ty : TypeId} {fz : Nat × Nat} (hG : w.heap[G]? = some (.cells cs.toArray ty fz)) (h : d.size ≤ cs.length) :
    (grow (putRow enc (Sort.ahead w q) G 0 d) os).heap[G]? = some (.cells (d.toList.map enc ++ cs.drop d.size).toArray ty fz) := by
  have hlt : G < w.heap.size := (Array.getElem?_eq_some_iff.1 hG).1
  show ((w.heap.modify G (onCells (putCells enc 0 d))) ++ os)[G]? = _
  rw [Array.getElem?_append_left (by simpa using hlt), Array.getElem?_modify, if_pos rfl, hG]
  show some (Obj.cells (putCells enc 0 d cs.toArray) ty fz) = _
  rw [putCells_list enc d cs h]
theorem prow_ne {enc : α → Value} {w : World} {G M q : Nat} {d : Array α} {os : Array Obj} (hne : M ≠ G) (hM : M < w.heap.size) : (grow (putRow enc (Sort.ahead w q) G 0 d) os).heap[M]? = w.heap[M]? := by
  show ((w.heap.modify G (onCells (putCells enc 0 d))) ++ os)[M]? = _
  rw [Array.getElem?_append_left (by simpa using hM), Array.getElem?_modify, if_neg (fun e => hne e.symm)]
theorem prow_size {enc : α → Value} {w : World} {G q : Nat} {d : Array α} {os : Array Obj} : w.heap.size ≤ (grow (putRow enc (Sort.ahead w q) G 0 d) os).heap.size := by
  show w.heap.size ≤ ((w.heap.modify G (onCells (putCells enc 0 d))) ++ os).size
  simp
end
def sbD (s : ByteArray) : List D := [.v (.string s)]
theorem sb_rows (la : List ByteArray) : (D.pvss (la.map sbD)).flatten = la.map fun s => PV.lit (.string s) := by
  induction la with
  | nil => rfl
  | cons a la ih => rw [List.map_cons, List.map_cons, ← ih]; rfl
theorem sb_len (la : List ByteArray) : (D.pvss (la.map sbD)).length = la.length := by
  induction la with
  | nil => rfl
  | cons a la ih => rw [List.map_cons, List.length_cons, ← ih]; rfl
theorem sb_all (w : World) (s : Sb) : ∀ (la : List ByteArray) (vs : List Value), AllV w s (la.map fun s => PV.lit (.string s)) vs ↔ vs = la.map Value.string
  | [], [] => by simp [AllV]
  | [], v :: vs => by simp [AllV]
  | a :: la, [] => by simp [AllV]
  | a :: la, v :: vs => by
    rw [List.map_cons, AllV, sb_all w s la vs, List.map_cons, List.cons.injEq]
    exact Iff.rfl
def bys (s : ByteArray) : List UInt8 := s.data.toList
theorem enc_bys (s : ByteArray) : encStr (bys s) = .string s := by unfold bys; rfl
theorem enc_all (la : List ByteArray) : (la.map bys).map encStr = la.map Value.string := by rw [List.map_map]; exact List.map_congr_left fun s _ => enc_bys s
theorem sb_one : ∀ (la : List ByteArray), ∀ row ∈ D.pvss (la.map sbD), row.length = 1
  | [], _, h => by cases h
  | a :: la, row, h => by
    rcases List.mem_cons.1 h with rfl | h
    · rfl
    · exact sb_one la row h
/-- A call that replaces the texts of a row. -/
theorem row_G {P : Program} {f : FuncId} {ty : TypeId} (hb : Bod P f) (la la' : List ByteArray) (hlen : la'.length = la.length)
    (hC : ∀ (w : World) (G cap : Nat), Holds encStr w G 0 (la.map bys).toArray → G < w.heap.size → la.length ≤ cap → Calls P f #[.slice (some ⟨G, 0, none⟩) la.length cap] w fun e w' => e = .returned (.tuple #[]) ∧ ∃ q os, w' = grow (putRow encStr (Sort.ahead w q) G 0 (la'.map bys).toArray) os)
    (hN : la = [] → ∀ w, Calls P f #[.slice none 0 0] w fun e w' => e = .returned (.tuple #[]) ∧ w' = w) :
    FnG P f [.mo 0 la.length] [.mrow ty 1 (.map la sbD ByteArray.empty)] (.tup []) [.mrow ty 1 (.map la' sbD ByteArray.empty)] := by
  refine ⟨hb, fun w s g vs hg hv => ?_⟩
  match vs, hv with
  | [v], ⟨hv, _⟩ =>
    have hok : Ok1 w s g 0 (.mrow ty 1 (D.pvss (la.map sbD))) := hg.ok 0 _ rfl
    have hokc := hok
    obtain ⟨hnone, u, hu, hcase⟩ := hok
    have hu0 := hu
    rw [sb_len] at hu hnone
    have hvu : u = v := by have h1 := hv.1; rw [hu] at h1; exact Option.some.inj h1
    subst hvu
    rcases hcase with ⟨rfl, he⟩ | ⟨G, cap, cs, rest, rfl, hG, hlc, hcm, hcl, hall, hone, hns⟩
    · have hla : la = [] := List.eq_nil_of_length_eq_zero (by rw [← sb_len, he]; rfl)
      subst hla
      obtain rfl : la' = [] := List.eq_nil_of_length_eq_zero hlen
      refine (hN rfl w).mono fun e w' hq => ?_
      obtain ⟨rfl, rfl⟩ := hq
      exact ⟨s, g, .tuple #[], rfl, ⟨[], rfl, trivial⟩, Stp.reown hg (fun N o hbk => by have h1 : blk g 0 (Own.mrow ty 1 (D.pvss (List.map sbD []))) = some N := hbk; rw [blk_mrow hu0] at h1; cases h1) (Nat.le_refl _) (fun _ _ _ => rfl) rfl rfl rfl (GLe.refl g) (fun _ _ => ⟨rfl, fun _ => rfl⟩) (fun _ => hokc) (fun N hbk => .inr hbk)⟩
    · have hlc' : la.length ≤ cap := by rw [sb_len] at hlc; exact hlc
      rw [sb_rows, sb_all] at hall
      subst hall
      have hGl : G < w.heap.size := (Array.getElem?_eq_some_iff.1 hG).1
      have hH : Holds encStr w G 0 (la.map bys).toArray := fun j hj => by
        have hj' : j < la.length := by simpa using hj
        refine ⟨?_, ?_⟩
        · unfold World.cell?
          simp only [hG, Option.isSome_none, Bool.false_eq_true, if_false, Nat.zero_add]
          rw [List.getElem?_toArray, List.getElem?_append_left (by simpa using hj'), List.getElem?_map, List.getElem?_eq_getElem hj']
          simp [hj', enc_bys]
        · unfold World.frozen?
          simp [hG]
      have hsl : la.length = (D.pvss (la.map sbD)).length := (sb_len la).symm
      have hd : (la'.map bys).toArray.size ≤ (la.map Value.string ++ rest).length := by simp [hlen]
      have hC' := hC w G cap hH hGl hlc'
      rw [hsl] at hC'
      refine hC'.mono fun e w' hq => ?_
      obtain ⟨rfl, q, os, rfl⟩ := hq
      have hput := prow_at (enc := encStr) (q := q) (os := os) hG hd
      have hcells : (la'.map bys).toArray.toList.map encStr ++ (la.map Value.string ++ rest).drop (la'.map bys).toArray.size = la'.map Value.string ++ rest := by
        rw [List.toList_toArray, enc_all]
        congr 1
        rw [List.size_toArray, List.length_map, hlen, List.drop_append_of_le_length (by simp), List.drop_of_length_le (by simp)]
        rfl
      rw [hcells] at hput
      have hbk0 : blk g 0 (Own.mrow ty 1 (D.pvss (la.map sbD))) = some G := by rw [blk_mrow hu0]; rfl
      have hu' : g.gn 0 (D.pvss (la'.map sbD)).length = some (.slice (some ⟨G, 0, none⟩) (D.pvss (la'.map sbD)).length cap) := by
        rw [sb_len la', hlen, hu, sb_len la]
      refine ⟨s, g, .tuple #[], rfl, ⟨[], rfl, trivial⟩, Stp.reown hg (fun N o hbk => ?_) prow_size (fun N hN hne => prow_ne (fun e => hne (by rw [e]; exact hbk0)) hN) rfl rfl rfl (GLe.refl g) (fun _ _ => ⟨rfl, fun _ => rfl⟩) (fun _ => ?_) (fun N hbk => .inr ?_)⟩
      · have h1 : blk g 0 (Own.mrow ty 1 (D.pvss (la.map sbD))) = some N := hbk
        rw [hbk0] at h1; cases h1; exact hns o
      · show Ok1 _ s g 0 (.mrow ty 1 (D.pvss (la'.map sbD)))
        refine ⟨fun m hm => hnone m (by rw [sb_len, hlen] at hm; exact hm), _, hu', .inr ⟨G, cap, la'.map Value.string, rest, rfl, hput, by rw [sb_len, hlen]; exact hlc', hcm, by rw [← hcl]; simp [hlen], by rw [sb_rows, sb_all], ⟨sb_one la', fun v hv => ?_⟩, hns⟩⟩
        obtain ⟨x, _, rfl⟩ := List.mem_map.1 hv
        rfl
      · have h1 : blk g 0 (Own.mrow ty 1 (D.pvss (la'.map sbD))) = some N := hbk
        rw [blk_mrow hu'] at h1
        exact hbk0.trans h1
end Go.Proofs.YtonogeiopicibaaGreatDoor

/-
  DERIVED: THE SHELF's CONTRACTS AT THIS DUMP, IN PLAIN WORDS (tools/lay-plain.mjs out of 'YtonogeiopicibaaGreatDoorShelf2.lean', which tools/lay-shelf.mjs wrote): THE SAME DECLARATIONS UNDER THE SAME NAMES: 'import', 'namespace', 'open', 'def', 'theorem' AND NOTHING ELSE: no command of the shelf's: FOR A HAND-IN. Each laying: the table of numbers ('.._ren') and one theorem, a field a fact of the dump's own or the kernel's comparison; each contract: ONE APPLICATION.
-/
namespace Go.Proofs
open Go.Shelf
def Tryz.laysSortS_ren : Go.Shelf.Ren := ⟨fun | 190 => 32 | 125 => 56 | 258 => 55 | 128 => 89 | 129 => 90 | 302 => 80 | 303 => 81 | 304 => 82 | 305 => 83 | 306 => 84 | 307 => 85 | 308 => 86 | 309 => 87 | 310 => 88 | 333 => 108 | 329 => 109 | 330 => 110 | 334 => 111 | 335 => 112 | 336 => 113 | 344 => 125 | n => n, fun | 31 => 38 | 9 => 9 | 3 => 3 | 46 => 76 | 0 => 0 | 51 => 72 | 53 => 111 | 4 => 4 | 183 => 103 | 182 => 102 | 131 => 107 | 5 => 5 | 218 => 135 | 222 => 139 | 228 => 158 | 229 => 159 | n => n, fun | n => n⟩
theorem Tryz.laysSortS : Go.Proofs.Lays.n190 Tryz.prog Tryz.laysSortS_ren := {
  mixed := by kernel_rfl
  f125 := Tryz.func56.trans (congrArg some (by kernel_rfl))
  f128 := Tryz.func89.trans (congrArg some (by kernel_rfl))
  f129 := Tryz.func90.trans (congrArg some (by kernel_rfl))
  f190 := Tryz.func32.trans (congrArg some (by kernel_rfl))
  f258 := Tryz.func55.trans (congrArg some (by kernel_rfl))
  f302 := Tryz.func80.trans (congrArg some (by kernel_rfl))
  f303 := Tryz.func81.trans (congrArg some (by kernel_rfl))
  f304 := Tryz.func82.trans (congrArg some (by kernel_rfl))
  f305 := Tryz.func83.trans (congrArg some (by kernel_rfl))
  f306 := Tryz.func84.trans (congrArg some (by kernel_rfl))
  f307 := Tryz.func85.trans (congrArg some (by kernel_rfl))
  f308 := Tryz.func86.trans (congrArg some (by kernel_rfl))
  f309 := Tryz.func87.trans (congrArg some (by kernel_rfl))
  f310 := Tryz.func88.trans (congrArg some (by kernel_rfl))
  f329 := Tryz.func109.trans (congrArg some (by kernel_rfl))
  f330 := Tryz.func110.trans (congrArg some (by kernel_rfl))
  f333 := Tryz.func108.trans (congrArg some (by kernel_rfl))
  f334 := Tryz.func111.trans (congrArg some (by kernel_rfl))
  f335 := Tryz.func112.trans (congrArg some (by kernel_rfl))
  f336 := Tryz.func113.trans (congrArg some (by kernel_rfl))
  f344 := Tryz.func125.trans (congrArg some (by kernel_rfl))
  t0 := Tryz.underlying0
  a0 := Tryz.isAgg0
  z0 := Tryz.sizeOf0
  v0 := Tryz.zeroValue0
  t3 := Tryz.underlying3
  a3 := Tryz.isAgg3
  z3 := Tryz.sizeOf3
  v3 := Tryz.zeroValue3
  t4 := Tryz.underlying4
  a4 := Tryz.isAgg4
  z4 := Tryz.sizeOf4
  v4 := Tryz.zeroValue4
  t5 := Tryz.underlying5
  a5 := Tryz.isAgg5
  z5 := Tryz.sizeOf5
  v5 := Tryz.zeroValue5
  t9 := Tryz.underlying9
  a9 := Tryz.isAgg9
  z9 := Tryz.sizeOf9
  v9 := Tryz.zeroValue9
  t31 := Tryz.underlying38
  a31 := Tryz.isAgg38
  z31 := Tryz.sizeOf38
  v31 := Tryz.zeroValue38
  t46 := Tryz.underlying76
  a46 := Tryz.isAgg76
  z46 := Tryz.sizeOf76
  v46 := Tryz.zeroValue76
  t51 := Tryz.underlying72
  a51 := Tryz.isAgg72
  z51 := Tryz.sizeOf72
  v51 := Tryz.zeroValue72
  t53 := Tryz.underlying111
  a53 := Tryz.isAgg111
  z53 := Tryz.sizeOf111
  v53 := Tryz.zeroValue111
  t131 := Tryz.underlying107
  a131 := Tryz.isAgg107
  z131 := Tryz.sizeOf107
  v131 := Tryz.zeroValue107
  t182 := Tryz.underlying102
  a182 := Tryz.isAgg102
  z182 := Tryz.sizeOf102
  v182 := Tryz.zeroValue102
  t183 := Tryz.underlying103
  a183 := Tryz.isAgg103
  z183 := Tryz.sizeOf103
  v183 := Tryz.zeroValue103
  t218 := Tryz.underlying135
  a218 := Tryz.isAgg135
  z218 := Tryz.sizeOf135
  v218 := Tryz.zeroValue135
  t222 := Tryz.underlying139
  a222 := Tryz.isAgg139
  z222 := Tryz.sizeOf139
  v222 := Tryz.zeroValue139
  t228 := Tryz.underlying158
  a228 := Tryz.isAgg158
  z228 := Tryz.sizeOf158
  v228 := Tryz.zeroValue158
  t229 := Tryz.underlying159
  a229 := Tryz.isAgg159
  z229 := Tryz.sizeOf159
  v229 := Tryz.zeroValue159 }
def Tryz.laysCompactS_ren : Go.Shelf.Ren := ⟨fun | 194 => 33 | n => n, fun | 31 => 38 | 9 => 9 | 3 => 3 | 4 => 4 | 0 => 0 | n => n, fun | n => n⟩
theorem Tryz.laysCompactS : Go.Proofs.Lays.n194 Tryz.prog Tryz.laysCompactS_ren := {
  mixed := by kernel_rfl
  f194 := Tryz.func33.trans (congrArg some (by kernel_rfl))
  t0 := Tryz.underlying0
  a0 := Tryz.isAgg0
  z0 := Tryz.sizeOf0
  v0 := Tryz.zeroValue0
  t3 := Tryz.underlying3
  a3 := Tryz.isAgg3
  z3 := Tryz.sizeOf3
  v3 := Tryz.zeroValue3
  t4 := Tryz.underlying4
  a4 := Tryz.isAgg4
  z4 := Tryz.sizeOf4
  v4 := Tryz.zeroValue4
  t9 := Tryz.underlying9
  a9 := Tryz.isAgg9
  z9 := Tryz.sizeOf9
  v9 := Tryz.zeroValue9
  t31 := Tryz.underlying38
  a31 := Tryz.isAgg38
  z31 := Tryz.sizeOf38
  v31 := Tryz.zeroValue38 }
end Go.Proofs

/- slices.Sort of texts as a call that turns a row. -/
namespace Go.Proofs.YtonogeiopicibaaGreatDoor
open Go.RowKit Go.Sort Go.Shelf

def txs (l : List UInt8) : ByteArray := ⟨l.toArray⟩
theorem txs_bys (l : List (List UInt8)) : (l.map txs).map bys = l := by
  rw [List.map_map]
  conv => rhs; rw [← List.map_id l]
  exact List.map_congr_left fun x _ => rfl
/-- The texts in order. -/
def sortS (la : List ByteArray) : List ByteArray := ((la.map bys).mergeSort fun x y => decide (x ≤ y)).map txs
theorem SortS_G (la : List ByteArray) (hl : la.length ≤ 1000000000) :
    FnG Tryz.prog 32 [.mo 0 la.length] [.mrow 9 1 (.map la sbD ByteArray.empty)] (.tup []) [.mrow 9 1 (.map (sortS la) sbD ByteArray.empty)] := by
  refine row_G ⟨_, Tryz.func32, rfl, rfl⟩ la (sortS la) (by simp [sortS]) (fun w G cap hH hG hc => ?_) fun _ w => Any.slices_Sort_string_none Tryz.laysSortS none 0 w
  have h := Any.slices_Sort_string Tryz.laysSortS G 0 cap (la.map bys) w hH hG (by rw [List.length_map]; omega)
  rw [List.length_map] at h
  refine h.mono fun e w' hq => ?_
  obtain ⟨rfl, n, os, rfl⟩ := hq
  exact ⟨rfl, n, os, by rw [sortS, txs_bys]⟩
end Go.Proofs.YtonogeiopicibaaGreatDoor

/- Lists that are sorted and then compacted: two of one set are one list. Plain. -/
namespace Go.Proofs.YtonogeiopicibaaGreatDoor
section
variable {α : Type} [Inhabited α] [DecidableEq α]
omit [DecidableEq α] in
theorem comp_at {zs : List α} {i : Nat} (hi : i < zs.length) : zs.toArray[i]! = zs[i] := by simp [hi]
theorem mem_comp {zs : List α} {x : α} : x ∈ Lib.compact zs ↔ x ∈ zs := by
  constructor
  · intro h
    unfold Lib.compact Lib.compactUpTo at h
    obtain ⟨i, hi, rfl⟩ := List.mem_map.1 h
    have hi' : i < zs.length := List.mem_range.1 (List.mem_filter.1 hi).1
    rw [comp_at hi']
    exact List.getElem_mem _
  · have key : ∀ i, (hi : i < zs.length) → zs[i] ∈ Lib.compact zs := by
      intro i
      induction i with
      | zero => intro hi; exact List.mem_map.2 ⟨0, List.mem_filter.2 ⟨List.mem_range.2 hi, by simp [Lib.keeps]⟩, comp_at hi⟩
      | succ i ih =>
        intro hi
        by_cases e : zs[i + 1] = zs[i]
        · rw [e]; exact ih (by omega)
        · refine List.mem_map.2 ⟨i + 1, List.mem_filter.2 ⟨List.mem_range.2 hi, ?_⟩, comp_at hi⟩
          refine Lib.keeps_pos ?_
          rw [comp_at hi, show i + 1 - 1 = i from rfl, comp_at (by omega)]
          exact e
    intro h
    obtain ⟨i, hi, rfl⟩ := List.mem_iff_getElem.1 h
    exact key i hi
theorem comp_sorted {le : α → α → Prop} (anti : ∀ a b, le a b → le b a → a = b) {zs : List α} (hs : zs.Pairwise le) : (Lib.compact zs).Pairwise fun a b => le a b ∧ a ≠ b := by
  unfold Lib.compact Lib.compactUpTo
  rw [List.pairwise_map]
  refine List.Pairwise.imp_of_mem ?_ (List.pairwise_lt_range.filter _)
  intro i j hi hj hij
  obtain ⟨hi1, _⟩ := List.mem_filter.1 hi
  obtain ⟨hj1, hj2⟩ := List.mem_filter.1 hj
  have li := List.mem_range.1 hi1
  have lj := List.mem_range.1 hj1
  rw [comp_at li, comp_at lj]
  have hp := List.pairwise_iff_getElem.1 hs
  refine ⟨hp i j li lj hij, fun e => ?_⟩
  simp only [Lib.keeps, decide_eq_true_eq] at hj2
  rcases hj2 with h0 | h0
  · omega
  · refine h0 ?_
    rw [comp_at lj, comp_at (show j - 1 < zs.length by omega)]
    rcases Nat.lt_or_ge i (j - 1) with h1 | h1
    · exact (anti _ _ (hp (j - 1) j (by omega) lj (by omega)) (by rw [← e]; exact hp i (j - 1) li (by omega) h1)).symm
    · have e1 : i = j - 1 := by omega
      subst e1
      exact e.symm
omit [Inhabited α] [DecidableEq α] in
/-- Sorted without equals, the same members: the same list. -/
theorem sorted_one {le : α → α → Prop} (anti : ∀ a b, le a b → le b a → a = b) {a b : List α} (ha : a.Pairwise fun x y => le x y ∧ x ≠ y) (hb : b.Pairwise fun x y => le x y ∧ x ≠ y) (h : ∀ x, x ∈ a ↔ x ∈ b) : a = b := by
  have na : a.Nodup := ha.imp fun h => h.2
  have nb : b.Nodup := hb.imp fun h => h.2
  have hp : a.Perm b := (List.perm_ext_iff_of_nodup na nb).2 h
  exact List.Perm.eq_of_pairwise (le := fun x y => le x y ∧ x ≠ y) (fun x y _ _ h1 h2 => anti _ _ h1.1 h2.1) ha hb hp
end
def leB (x y : List UInt8) : Bool := decide (x ≤ y)
theorem uniq_one {a b : List (List UInt8)} (h : ∀ x, x ∈ a ↔ x ∈ b) : Lib.compact (a.mergeSort fun x y => decide (x ≤ y)) = Lib.compact (b.mergeSort fun x y => decide (x ≤ y)) := by
  have tr : ∀ x y z : List UInt8, decide (x ≤ y) = true → decide (y ≤ z) = true → decide (x ≤ z) = true := fun x y z h1 h2 => decide_eq_true (List.le_trans (of_decide_eq_true h1) (of_decide_eq_true h2))
  have tt : ∀ x y : List UInt8, (decide (x ≤ y) || decide (y ≤ x)) = true := fun x y => by
    rw [Bool.or_eq_true, decide_eq_true_eq, decide_eq_true_eq]; exact List.le_total x y
  have anti : ∀ x y : List UInt8, decide (x ≤ y) = true → decide (y ≤ x) = true → x = y := fun x y h1 h2 => List.le_antisymm (of_decide_eq_true h1) (of_decide_eq_true h2)
  refine sorted_one (le := fun x y => decide (x ≤ y) = true) anti (comp_sorted anti (List.pairwise_mergeSort tr tt a)) (comp_sorted anti (List.pairwise_mergeSort tr tt b)) fun x => ?_
  rw [mem_comp, mem_comp, (List.mergeSort_perm a _).mem_iff, (List.mergeSort_perm b _).mem_iff]
  exact h x
end Go.Proofs.YtonogeiopicibaaGreatDoor

/- slices.Compact of texts as a call after which a row turns no more; slices.Clone of texts as a call that hands out a row that turns. -/
namespace Go.Proofs.YtonogeiopicibaaGreatDoor
open Go.RowKit Go.Sort Go.Shelf

/-- A step that stops a row from turning. -/
theorem Stp.frz {w w' : World} {s : Sb} {g g' : Gh} {k sz : Nat} {e : TypeId} {c : Own} {rows : List (List PV)} (S : Stp w s g [(k, c)] w' s g' [(k, .mrow e sz rows)]) :
    ∃ s', (∀ v, (TV.mo k rows.length).P w' s g' v → (TV.own k sz rows).P w' s' g' v) ∧ Stp w s g [(k, c)] w' s' g' [(k, .row e sz rows.length)] := by
  have hok : Ok1 w' s g' k (.mrow e sz rows) := S.ok k _ (by rw [fnd_cons, if_pos rfl])
  obtain ⟨p, hp, hrow, hmo⟩ := hok.freeze
  have hpb : ∀ B o, p B o → w.heap.size ≤ B ∨ ∃ k0 c0, fnd k0 [(k, c)] = some c0 ∧ blk g k0 c0 = some B := fun B o h => S.nb k (.mrow e sz rows) B (by rw [fnd_cons, if_pos rfl]) (hp B o h).1
  have hx : Ex w' s w' (s.add p) := ⟨fun _ _ h => .inl h, fun _ _ _ => rfl, fun _ _ h => .inl h⟩
  refine ⟨s.add p, hmo, S.ex.trans hx, fun B o h => h.elim (S.lt B o) fun h => hok.lt (hp B o h).1, S.gle, fun j h => S.same j ?_, S.os, S.tape, S.output, S.size, S.block, fun B o h => h.elim (S.st B o) fun h => .inr (hpb B o h), fun B o h => h.elim (S.sst B o) fun h => .inr (hpb B o h), fun j d h => ?_, fun j d N h hb => ?_, fun j j' d d' N h h' hne => ?_, fun j d h => ?_⟩
  · rw [fnd_cons] at h ⊢
    by_cases e : k = j
    · simp [e] at h
    · simp only [e, if_false] at h ⊢; rfl
  · obtain ⟨rfl, rfl⟩ := own_one h
    exact hrow
  · obtain ⟨rfl, rfl⟩ := own_one h
    exact S.nb j (.mrow e sz rows) N (by rw [fnd_cons, if_pos rfl]) hb
  · obtain ⟨rfl, rfl⟩ := own_one h
    obtain ⟨rfl, rfl⟩ := own_one h'
    exact absurd rfl hne
  · obtain ⟨rfl, rfl⟩ := own_one h
    exact ⟨.row e sz rows.length, by rw [fnd_cons, if_pos rfl]⟩
/-- The beginning of a slice. -/
theorem sl_cut {w : World} {s : Sb} {sz n cap : Nat} {a : Option Addr} {rows : List (List PV)} (h : (PV.sl false sz rows).p w s (.slice a rows.length cap)) (hn : n ≤ rows.length) : (PV.sl false sz (rows.take n)).p w s (.slice a n cap) := by
  obtain ⟨a', cap', e, h2, h3, h4, h5⟩ := h
  cases e
  refine ⟨a, cap, by rw [List.length_take, Nat.min_eq_left hn], by rw [List.length_take]; omega, h3, fun row hr => h4 row (List.mem_of_mem_take hr), fun i row hi => ?_⟩
  rw [List.getElem?_take] at hi
  by_cases hin : i < n
  · rw [if_pos hin] at hi; exact h5 i row hi
  · rw [if_neg hin] at hi; cases hi
theorem comp_G {P : Program} {f : FuncId} {ty : TypeId} (hb : Bod P f) (la la' lc : List ByteArray) (hlen : la'.length = la.length) (hpre : lc = la'.take lc.length) (hle : lc.length ≤ la.length)
    (hC : ∀ (w : World) (G cap : Nat), Holds encStr w G 0 (la.map bys).toArray → G < w.heap.size → la.length ≤ cap → Calls P f #[.slice (some ⟨G, 0, none⟩) la.length cap] w fun e w' => e = .returned (.slice (some ⟨G, 0, none⟩) lc.length cap) ∧ ∃ q os, w' = grow (putRow encStr (Sort.ahead w q) G 0 (la'.map bys).toArray) os)
    (hN : la = [] → ∀ w, Calls P f #[.slice none 0 0] w fun e w' => e = .returned (.slice none 0 0) ∧ w' = w) :
    FnG P f [.mo 0 la.length] [.mrow ty 1 (.map la sbD ByteArray.empty)] (.sl false 1 lc sbD ByteArray.empty) [.row ty 1 la.length] := by
  refine ⟨hb, fun w s g vs hg hv => ?_⟩
  have hout : (D.sl false 1 lc sbD ByteArray.empty).tv = .pv (PV.sl false 1 ((D.pvss (la'.map sbD)).take lc.length)) := by
    show TV.pv (PV.sl false 1 (lc.map fun a => D.pvs (sbD a))) = _
    congr 2
    rw [pvss_map, List.map_map, ← List.map_take, ← hpre]
    rfl
  have hown : ows (enumO 0 [.row ty 1 la.length]) = [(0, Own.row ty 1 (D.pvss (la'.map sbD)).length)] := by rw [sb_len, hlen]; rfl
  rw [hout, hown]
  match vs, hv with
  | [v], ⟨hv, _⟩ =>
    have hok : Ok1 w s g 0 (.mrow ty 1 (D.pvss (la.map sbD))) := hg.ok 0 _ rfl
    have hokc := hok
    obtain ⟨hnone, u, hu, hcase⟩ := hok
    have hu0 := hu
    rw [sb_len] at hu hnone
    have hvu : u = v := by have h1 := hv.1; rw [hu] at h1; exact Option.some.inj h1
    subst hvu
    rcases hcase with ⟨rfl, he⟩ | ⟨G, cap, cs, rest, rfl, hG, hlc, hcm, hcl, hall, hone, hns⟩
    · have hla : la = [] := List.eq_nil_of_length_eq_zero (by rw [← sb_len, he]; rfl)
      subst hla
      obtain rfl : la' = [] := List.eq_nil_of_length_eq_zero hlen
      obtain rfl : lc = [] := List.eq_nil_of_length_eq_zero (Nat.le_zero.1 hle)
      refine (hN rfl w).mono fun e w' hq => ?_
      obtain ⟨rfl, rfl⟩ := hq
      have hg1 : Good w' s g [(0, Own.mrow ty 1 (D.pvss (List.map sbD [])))] [(0, Own.mrow ty 1 (D.pvss (List.map sbD [])))] := ⟨hg.lt, hg.ok, hg.sep, fun k c h1 h2 => (by rw [h1] at h2; cases h2), hg.gl⟩
      have S1 : Stp w' s g [(0, Own.mrow ty 1 (D.pvss (List.map sbD [])))] w' s g [(0, Own.mrow ty 1 (D.pvss (List.map sbD [])))] := Stp.reown hg1 (fun N o hbk => by have h1 : blk g 0 (Own.mrow ty 1 (D.pvss (List.map sbD []))) = some N := hbk; rw [blk_mrow hu0] at h1; cases h1) (Nat.le_refl _) (fun _ _ _ => rfl) rfl rfl rfl (GLe.refl g) (fun _ _ => ⟨rfl, fun _ => rfl⟩) (fun _ => hokc) (fun N hbk => .inr hbk)
      obtain ⟨s', h1, h2⟩ := S1.frz
      refine ⟨s', g, .slice none 0 0, rfl, ?_, h2⟩
      rw [TV.P]
      exact ⟨none, 0, rfl, Nat.le_refl _, by omega, (fun _ h => by cases h), fun i row h => by simp [D.pvss] at h⟩
    · have hlc' : la.length ≤ cap := by rw [sb_len] at hlc; exact hlc
      rw [sb_rows, sb_all] at hall
      subst hall
      have hGl : G < w.heap.size := (Array.getElem?_eq_some_iff.1 hG).1
      have hH : Holds encStr w G 0 (la.map bys).toArray := fun j hj => by
        have hj' : j < la.length := by simpa using hj
        refine ⟨?_, ?_⟩
        · unfold World.cell?
          simp only [hG, Option.isSome_none, Bool.false_eq_true, if_false, Nat.zero_add]
          rw [List.getElem?_toArray, List.getElem?_append_left (by simpa using hj'), List.getElem?_map, List.getElem?_eq_getElem hj']
          simp [hj', enc_bys]
        · unfold World.frozen?
          simp [hG]
      have hsl : la.length = (D.pvss (la.map sbD)).length := (sb_len la).symm
      have hd : (la'.map bys).toArray.size ≤ (la.map Value.string ++ rest).length := by simp [hlen]
      have hC' := hC w G cap hH hGl hlc'
      rw [hsl] at hC'
      refine hC'.mono fun e w' hq => ?_
      obtain ⟨rfl, q, os, rfl⟩ := hq
      have hput := prow_at (enc := encStr) (q := q) (os := os) hG hd
      have hcells : (la'.map bys).toArray.toList.map encStr ++ (la.map Value.string ++ rest).drop (la'.map bys).toArray.size = la'.map Value.string ++ rest := by
        rw [List.toList_toArray, enc_all]
        congr 1
        rw [List.size_toArray, List.length_map, hlen, List.drop_append_of_le_length (by simp), List.drop_of_length_le (by simp)]
        rfl
      rw [hcells] at hput
      have hbk0 : blk g 0 (Own.mrow ty 1 (D.pvss (la.map sbD))) = some G := by rw [blk_mrow hu0]; rfl
      have hu' : g.gn 0 (D.pvss (la'.map sbD)).length = some (.slice (some ⟨G, 0, none⟩) (D.pvss (la'.map sbD)).length cap) := by
        rw [sb_len la', hlen, hu, sb_len la]
      have hg1 : Good w s g [(0, Own.mrow ty 1 (D.pvss (la.map sbD)))] [(0, Own.mrow ty 1 (D.pvss (la'.map sbD)))] := ⟨hg.lt, hg.ok, hg.sep, fun k c h1 h2 => (by
        obtain ⟨rfl, _⟩ := own_one h1
        rw [fnd_cons] at h2; simp at h2), hg.gl⟩
      have S1 : Stp w s g [(0, Own.mrow ty 1 (D.pvss (la.map sbD)))] (grow (putRow encStr (Sort.ahead w q) G 0 (la'.map bys).toArray) os) s g [(0, Own.mrow ty 1 (D.pvss (la'.map sbD)))] := by
        refine Stp.reown hg1 (fun N o hbk => ?_) prow_size (fun N hN hne => prow_ne (fun e => hne (by rw [e]; exact hbk0)) hN) rfl rfl rfl (GLe.refl g) (fun _ _ => ⟨rfl, fun _ => rfl⟩) (fun _ => ?_) (fun N hbk => .inr ?_)
        · rw [hbk0] at hbk; cases hbk; exact hns o
        · refine ⟨fun m hm => hnone m (by rw [sb_len, hlen] at hm; exact hm), _, hu', .inr ⟨G, cap, la'.map Value.string, rest, rfl, hput, by rw [sb_len, hlen]; exact hlc', hcm, by rw [← hcl]; simp [hlen], by rw [sb_rows, sb_all], ⟨sb_one la', fun v hv => ?_⟩, hns⟩⟩
          obtain ⟨x, _, rfl⟩ := List.mem_map.1 hv
          rfl
        · rw [blk_mrow hu'] at hbk
          exact hbk0.trans hbk
      obtain ⟨s', h1, h2⟩ := S1.frz
      have h3 := h1 (.slice (some ⟨G, 0, none⟩) (D.pvss (la'.map sbD)).length cap) (by
        rw [TV.P]
        exact ⟨hu', .inr ⟨G, cap, rfl, by rw [sb_len, hlen]; exact hlc', hcm⟩⟩)
      rw [TV.P] at h3
      refine ⟨s', g, _, rfl, ?_, h2⟩
      rw [TV.P]
      exact sl_cut h3.1 (by rw [sb_len, hlen]; exact hle)
/-- The texts without repetitions next to each other. -/
def compS (la : List ByteArray) : List ByteArray := (Lib.compact (la.map bys)).map txs
theorem comp_len {α : Type} [Inhabited α] [DecidableEq α] (zs : List α) : (Lib.compact zs).length ≤ zs.length := by
  unfold Lib.compact Lib.compactUpTo
  rw [List.length_map]
  exact Nat.le_trans (List.length_filter_le _ _) (by rw [List.length_range]; exact Nat.le_refl _)
/-- Sorted, each text once. -/
def uniS (la : List ByteArray) : List ByteArray := compS (sortS la)
theorem uniS_eq {a b : List ByteArray} (h : ∀ x, x ∈ a ↔ x ∈ b) : uniS a = uniS b := by
  rw [uniS, uniS, compS, compS, sortS, sortS, txs_bys, txs_bys, uniq_one (a := a.map bys) (b := b.map bys)]
  intro x
  rw [List.mem_map, List.mem_map]
  exact ⟨fun ⟨y, h1, h2⟩ => ⟨y, (h y).1 h1, h2⟩, fun ⟨y, h1, h2⟩ => ⟨y, (h y).2 h1, h2⟩⟩
theorem sortS_len (la : List ByteArray) : (sortS la).length = la.length := by rw [sortS, List.length_map, List.length_mergeSort, List.length_map]
theorem CompactS_G (la : List ByteArray) (hl : la.length ≤ 1000000000) :
    FnG Tryz.prog 33 [.mo 0 la.length] [.mrow 9 1 (.map la sbD ByteArray.empty)] (.sl false 1 (compS la) sbD ByteArray.empty) [.row 9 1 la.length] := by
  have hcl : (Lib.compact (la.map bys)).length ≤ la.length := by have := comp_len (la.map bys); rwa [List.length_map] at this
  have hb : ∀ l : List (List UInt8), (l.map txs).map bys = l := txs_bys
  refine comp_G ⟨_, Tryz.func33, rfl, rfl⟩ la ((Lib.compact (la.map bys) ++ List.replicate (la.length - (Lib.compact (la.map bys)).length) []).map txs) (compS la) (by simp; omega) ?_ (by rw [compS, List.length_map]; exact hcl) (fun w G cap hH hG hc => ?_) fun _ w => Any.slices_Compact_string_empty Tryz.laysCompactS none 0 w
  · rw [compS, List.length_map, ← List.map_take, List.take_left]
  have h := Any.slices_Compact_string Tryz.laysCompactS G 0 cap (la.map bys) w hH (by rw [List.length_map]; omega) (by rw [List.length_map]; exact hc)
  rw [List.length_map] at h
  refine h.mono fun e w' hq => ?_
  obtain ⟨rfl, q, rfl⟩ := hq
  refine ⟨by rw [compS, List.length_map], q, #[], ?_⟩
  rw [txs_bys]
  simp [grow]
  rfl
/-- A call that hands out a row of texts: the row may turn. -/
theorem fnO_G {P : Program} {f : FuncId} {m : Bool} {ty : TypeId} {l la : List ByteArray} (h : FnO P f [.sl m 1 l sbD ByteArray.empty] ty 1 (la.map sbD)) :
    FnG P f [.sl m 1 l sbD ByteArray.empty] [] (.mo 0 la.length) [.mrow ty 1 (.map la sbD ByteArray.empty)] := by
  refine ⟨h.bod, fun w s g vs hg hv => ?_⟩
  have hv' : AllV w s (D.pvs [.sl m 1 l sbD ByteArray.empty]) vs := AllT.pv.1 hv
  refine (h.run w s vs hg.lt hg.gl hv').mono ?_
  rintro r w' ⟨s', g', k', v, rfl, hv, ho, hN, hp⟩
  rw [TV.P] at hv
  obtain ⟨⟨a, cap, he, h2, h3, h4, h5⟩, hgn⟩ := hv
  obtain ⟨hno, v0, h6, h7⟩ := ho
  have hv0 : v0 = v := by have := h6.symm.trans hgn; cases this; rfl
  subst hv0
  have hfr := hg.fr 0 (.mrow ty 1 (D.pvss (la.map sbD))) rfl rfl
  rw [sb_len] at he h2 hN h7
  have hgs : (g.setRow 0 la.length v0).gn 0 la.length = some v0 := Gh.setRow_eq _ _ _ _
  have hgs' : (g.setRow 0 la.length v0).gn 0 (D.pvss (la.map sbD)).length = some v0 := by rw [sb_len]; exact hgs
  have hx : Ex w s w' s := ⟨fun _ _ h => h, hp.ex.cell, fun _ _ h => h⟩
  have hNb : ∀ N, Value.ownBlock v0 = some N → w.heap.size ≤ N := fun N hb => hN N (by rw [← sb_len la, blk_row h6]; exact hb)
  refine ⟨s, g.setRow 0 la.length v0, v0, rfl, ?_, hx, fun B o hs => Nat.lt_of_lt_of_le (hg.lt B o hs) hp.size, ⟨fun _ _ h => h, fun j q u h => ?_⟩, fun j h => ⟨rfl, fun q => ?_⟩, hp.os, hp.tape, hp.output, hp.size, fun N hN _ => hp.block N hN, fun _ _ h => .inl h, fun _ _ h => .inl h, fun j c h => ?_, fun j c N h hb => ?_, fun j j' c c' N h h' hne => ?_, fun _ _ h => by cases h⟩
  · show TV.P _ _ _ (.mo 0 la.length) _
    rw [TV.P]
    refine ⟨hgs, ?_⟩
    rcases h7 with h7 | ⟨G, c, cur, e1, _, h8, h9, _⟩
    · exact .inl h7
    · exact .inr ⟨G, c, e1, h8, h9⟩
  · by_cases e1 : j = 0 ∧ q = la.length
    · rw [e1.1, hfr.2] at h; cases h
    · rw [Gh.setRow_ne _ _ e1]; exact h
  · refine Gh.setRow_ne _ _ fun e1 => ?_
    rw [show ows (enumO 0 [DOwn.mrow ty 1 (.map la sbD ByteArray.empty)]) = [(0, Own.mrow ty 1 (D.pvss (la.map sbD)))] from rfl, fnd_cons] at h
    simp [e1.1] at h
  · obtain ⟨rfl, rfl⟩ := own_one (k := 0) (c0 := Own.mrow ty 1 (D.pvss (la.map sbD))) h
    refine ⟨fun q hq => ?_, v0, hgs', ?_⟩
    · rw [sb_len] at hq
      rw [Gh.setRow_ne _ _ (by omega)]; exact hfr.2 q
    · rcases h7 with ⟨e1, h8⟩ | ⟨G, c, cur, rfl, h8, h9, h10, h11, h12⟩
      · exact .inl ⟨e1, by rw [List.eq_nil_of_length_eq_zero h8]; rfl⟩
      · have hc1 : c = cur.size := by rw [h11, Nat.mul_one]
        have hcells : cur.toList.take la.length = la.map Value.string := by
          apply List.ext_getElem?
          intro i
          rw [List.getElem?_take, List.getElem?_map]
          by_cases hi : i < la.length
          · rw [if_pos hi, List.getElem?_eq_getElem hi]
            obtain ⟨b, off, e2, hcx⟩ := h5 i [PV.lit (.string la[i])] (by rw [pvss_map, List.getElem?_map, List.getElem?_map, List.getElem?_eq_getElem hi]; rfl)
            cases he
            cases e2
            obtain ⟨u, e3, _, e4, _⟩ := hcx 0 _ rfl
            have e4' : u = .string la[i] := e4
            rw [cell_of_row w' G _ _ ty (0, 0) h8] at e3
            rw [show 0 + i * 1 + 0 = i by omega] at e3
            rw [Array.getElem?_toList, e3, e4']; rfl
          · rw [if_neg hi, List.getElem?_eq_none (by omega)]; rfl
        refine .inr ⟨G, c, la.map Value.string, cur.toList.drop la.length, by rw [sb_len], ?_, by rw [sb_len]; exact h9, h10, ?_, by rw [sb_rows, sb_all], ⟨sb_one la, fun v hv => ?_⟩, fun o hso => ?_⟩
        · rw [← hcells, List.take_append_drop]; exact h8
        · rw [← hcells, List.take_append_drop, Array.length_toList]; exact h11
        · obtain ⟨x, _, rfl⟩ := List.mem_map.1 hv
          rfl
        · have := hNb G rfl
          have := hg.lt G o hso
          omega
  · obtain ⟨rfl, rfl⟩ := own_one (k := 0) (c0 := Own.mrow ty 1 (D.pvss (la.map sbD))) h
    rw [blk_mrow hgs'] at hb
    exact .inl (hNb N hb)
  · obtain ⟨rfl, rfl⟩ := own_one (k := 0) (c0 := Own.mrow ty 1 (D.pvss (la.map sbD))) h
    obtain ⟨rfl, rfl⟩ := own_one (k := 0) (c0 := Own.mrow ty 1 (D.pvss (la.map sbD))) h'
    exact absurd rfl hne
theorem CloneS_G (l : List ByteArray) (hl : l.length ≤ 2000000) : FnG Tryz.prog 30 [ssD l] [] (.mo 0 l.length) [.mrow 9 1 (.map l sbD ByteArray.empty)] := fnO_G (CloneS_ok l hl)
end Go.Proofs.YtonogeiopicibaaGreatDoor
