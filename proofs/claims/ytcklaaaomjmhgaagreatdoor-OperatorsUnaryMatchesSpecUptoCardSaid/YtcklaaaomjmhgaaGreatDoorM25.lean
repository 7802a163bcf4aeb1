/- Part 25 of the proof. -/
import Derived.Test.YtcklaaaomjmhgaaGreatDoorM21
import Derived.Test.YtcklaaaomjmhgaaGreatDoorProg
import Derived.Ground.NamesProg
import Derived.Shelf.Spec.SlicesGrow
import Derived.Shelf.Strconv.Itoa3
import Derived.Shelf.Strconv.Quote
import Derived.Test.YtcklaaaomjmhgaaGreatDoorM23
import Derived.Test.YtcklaaaomjmhgaaGreatDoorM12
import Derived.Test.YtcklaaaomjmhgaaGreatDoorM16
import Derived.Test.YtcklaaaomjmhgaaGreatDoorM24
import Derived.Test.YtcklaaaomjmhgaaGreatDoorM19


/- Walks by the evaluator: what objects and classes have under a name. -/
namespace Go.Proofs.YtcklaaaomjmhgaaGreatDoor
open Go.RowKit
variable {md me : Bool}
theorem ixI_lt {α : Type} [DecidableEq α] : ∀ (l : List α) (n : α), ixI l n < l.length
  | [], n => by show (-1 : Int) < ((0 : Nat) : Int); omega
  | x :: l, n => by
    have := ixI_lt l n
    rw [ixI, List.length_cons]
    split
    · omega
    · split <;> omega
def ownB (o : Ob) (s : ByteArray) : Bool := decide (0 ≤ ixI o.names s)
def ownV (o : Ob) (s : ByteArray) : Vl := if ixI o.names s < 0 then vl0 else o.items.getD (ixI o.names s).toNat vl0
structure Fd {α : Type} (l : List α) (p : α → Bool) where
  k : Nat
  le : k ≤ l.length
  eq : (l.drop k).find? p = l.find? p
def Fd.next {α : Type} {l : List α} {p : α → Bool} (x : Fd l p) (e : α) (hk : x.k < l.length) (h0 : p (l.getD (x.k : Int).toNat e) = false) : Fd l p := ⟨x.k + 1, hk, by rw [← x.eq, drop_at hk e, List.find?_cons_of_neg (by rw [h0]; decide)]⟩
theorem Fd.found {α : Type} {l : List α} {p : α → Bool} (x : Fd l p) (e : α) (hk : x.k < l.length) (h0 : p (l.getD (x.k : Int).toNat e) = true) : l.find? p = some (l.getD (x.k : Int).toNat e) := by rw [← x.eq, drop_at hk e, List.find?_cons_of_pos h0]
theorem Fd.none {α : Type} {l : List α} {p : α → Bool} (x : Fd l p) (hk : l.length ≤ x.k) : l.find? p = none := by rw [← x.eq, List.drop_of_length_le hk]; rfl
def fdO (h : List Ob) (l : List Int) (s : ByteArray) : Option Int := l.find? fun c => ownB (obAt h c) s
def fdV (h : List Ob) (s : ByteArray) : Option Int → Vl
  | some c => ownV (obAt h c) s
  | none => vl0
def fdC : Option Int → Int
  | some c => c
  | none => 0
def Cok (h : List Ob) (l : List Int) : Prop := l.length ≤ 2000000 ∧ ∀ c ∈ l, inH h c ∧ (obAt h c).names.length ≤ (obAt h c).items.length
theorem cok_at {h : List Ob} {l : List Int} (hc : Cok h l) {k : Nat} (hk : k < l.length) : inH h (l.getD (k : Int).toNat 0) ∧ (obAt h (l.getD (k : Int).toNat 0)).names.length ≤ (obAt h (l.getD (k : Int).toNat 0)).items.length := hc.2 _ (by rw [getD_l hk]; exact List.getElem_mem _)
theorem attrObject_ok (h : List Ob) (v : Vl) (hv : v.k = 6 → isObj h v.r = true) : Fn Tryz.prog 94 [hpD md h, .agg (vlD v)] (.agg (obD (objS h v))) := by
  refine fn_ev tabT Tryz.func94 rfl rfl rfl rfl rfl rfl ?_
  intro w0 s0 mx
  refine ev_R tabT [] 100 ?_
  refine ev_seq ?_
  refine ev_R tabT [] 200 ?_
  refine ev_if (fun c1 => ?_) (fun c1 => ?_)
  ·
    refine ev_R tabT [] 300 ?_
    refine ev_ret (exS_ret ?_)
    have e : objS h v = ob0 := objS_no c1
    rw [e]
    exact FinV.ret rfl (by repeat (first | exact trivial | exact SubP.refl _ | exact SubP.nilSl rfl | refine SubP.agg ?_ | refine ⟨?_, ?_⟩))
  ·
    refine ev_skip (exS_normal ?_)
    refine ev_seq (ev_region tabT [] 400 rfl ?_)
    repeat (first | refine sat_same ?_ | refine sat_impA ?_ | refine sat_need (by exact isObj_in (hv c1)) ?_)
    refine sat_done (exS_normal (ev_ret ?_))
    have e : objS h v = h.getD v.r.toNat ob0 := objS_at hv c1
    rw [e]
    exact FinV.ret rfl (by repeat (first | exact trivial | exact SubP.refl _ | exact SubP.nilSl rfl | refine SubP.agg ?_ | refine ⟨?_, ?_⟩))
theorem attrOwn_ok (o : Ob) (s : ByteArray) (hn : o.names.length ≤ o.items.length) : Fn Tryz.prog 148 [.agg (obD o), .v (.string s)] (.tup [.agg (vlD (ownV o s)), .v (.bool (ownB o s))]) := by
  have hlt := ixI_lt o.names s
  refine fn_ev tabT Tryz.func148 rfl rfl rfl rfl rfl rfl ?_
  intro w0 s0 mx
  refine ev_R tabT [] 100 ?_
  refine ev_seq (ev_region tabT [] 200 rfl ?_)
  refine sat_go ?_
  refine sat_fn _ (IndexS_ok _ _) rfl ?_
  refine sat_go ?_
  refine sat_done (exS_normal ?_)
  refine ev_seq ?_
  refine ev_R tabT [] 300 ?_
  refine ev_if (fun c2 => ?_) (fun c2 => ?_)
  ·
    refine ev_R tabT [] 400 ?_
    refine ev_ret (exS_ret ?_)
    exact FinV.ret rfl (SubP.tup ⟨by rw [ownV, if_pos c2]; exact (by repeat (first | exact trivial | exact SubP.refl _ | exact SubP.nilSl rfl | refine SubP.agg ?_ | refine ⟨?_, ?_⟩)), SubP.bool (by rw [ownB, decide_eq_false (by omega)]), trivial⟩)
  ·
    refine ev_skip (exS_normal ?_)
    refine ev_R tabT [] 500 ?_
    refine ev_ret ?_
    exact FinV.ret rfl (SubP.tup ⟨by rw [ownV, if_neg (by omega)]; exact SubP.refl _, SubP.bool (by rw [ownB, decide_eq_true (by omega)]), trivial⟩)
theorem Own_ok (o : Ob) (s : ByteArray) (hn : o.names.length ≤ o.items.length) (hl : o.names.length ≤ 2000000) : Fn Tryz.prog 158 [.agg (obD o), .v (.string s)] (.tup [.agg (vlD (ownV o s)), .v (.bool (ownB o s))]) := by
  refine fn_ev tabT Tryz.func158 rfl rfl rfl rfl rfl rfl ?_
  intro w0 s0 mx
  refine ev_R tabT [] 100 ?_
  refine ev_seq ?_
  refine ev_R tabT [] 200 ?_
  refine ev_block ?_
  refine ev_loopK (ι := Nf o.names s) [1, 2, 4, 9, 10] [0, 1] 250 (fun x => [(11, .v (.int .i64 x.k))]) (fun _ => []) (fun x => o.names.length - x.k) ⟨0, Nat.zero_le _, fun j hj => by omega⟩ ?_
  refine ⟨⟨le_t, le_o, rfl, rfl⟩, fun x => ?_⟩
  have hk := x.le
  refine ev_R tabT [] 300 ?_
  refine ev_seq ?_
  refine ev_if (fun c2 => ?_) (fun c2 => ?_)
  ·
    refine ev_skip (exS_normal ?_)
    refine ev_seq ?_
    refine ev_block ?_
    refine ev_R tabT [] 400 ?_
    refine ev_R tabT [] 500 ?_
    refine ev_cond rfl (fun c4 => ?_) (fun c4 => ?_)
    · replace c4 : s = o.names.getD (x.k : Int).toNat ByteArray.empty := (of_decide_eq_true c4).symm
      refine ev_R tabT [] 600 ?_
      refine ev_ret (exBl_ret (exS_ret (exL_ret (exBl_ret (exS_ret ?_)))))
      have e : ixI o.names s = x.k := x.found c2 c4
      exact FinV.ret rfl (SubP.tup ⟨by rw [ownV, e, if_neg (by omega)]; exact SubP.refl _, SubP.bool (by rw [ownB, e, decide_eq_true (by omega)]), trivial⟩)
    · replace c4 : ¬ s = o.names.getD (x.k : Int).toNat ByteArray.empty := fun e => (of_decide_eq_false c4) e.symm
      refine ev_skip (exBl_normal (exS_normal ?_))
      refine ev_Q tabT [] 700 ?_
      exact exL_normal (x.next c2 c4) ⟨le_t, le_o, rfl, rfl⟩ (by show o.names.length - (x.k + 1) < o.names.length - x.k; omega)
  ·
    refine ev_exit (exS_exit (exL_exit (exBl_same (exS_normal ?_))))
    refine ev_R tabT [] 800 ?_
    refine ev_ret ?_
    have e : ixI o.names s = -1 := x.none c2
    exact FinV.ret rfl (SubP.tup ⟨by rw [ownV, e, if_pos (by omega)]; exact (by repeat (first | exact trivial | exact SubP.refl _ | exact SubP.nilSl rfl | refine SubP.agg ?_ | refine ⟨?_, ?_⟩)), SubP.bool (by rw [ownB, e]; rfl), trivial⟩)
theorem attrFind0_ok (h : List Ob) (l : List Int) (s : ByteArray) (hh : HpIn h) (hc : Cok h l) : Fn Tryz.prog 132 [hpD md h, isD l, .v (.string s)] (.tup [.agg (vlD (fdV h s (fdO h l s))), .v (.int .i64 (fdC (fdO h l s))), .v (.bool (fdO h l s).isSome)]) := by
  have hl := hc.1
  refine fn_ev tabT Tryz.func132 rfl rfl rfl rfl rfl rfl ?_
  intro w0 s0 mx
  refine ev_R tabT [] 100 ?_
  refine ev_seq ?_
  refine ev_R tabT [] 200 ?_
  refine ev_block ?_
  refine ev_loopK (ι := Fd l (fun c => ownB (obAt h c) s)) [2, 3, 6, 13, 14] [0, 1] 250 (fun x => [(15, .v (.int .i64 x.k))]) (fun _ => []) (fun x => l.length - x.k) ⟨0, Nat.zero_le _, rfl⟩ ?_
  refine ⟨⟨le_t, le_o, rfl, rfl⟩, fun x => ?_⟩
  have hk := x.le
  refine ev_R tabT [] 300 ?_
  refine ev_seq ?_
  refine ev_if (fun c2 => ?_) (fun c2 => ?_)
  ·
    refine ev_skip (exS_normal ?_)
    refine ev_seq ?_
    refine ev_block ?_
    refine ev_R tabT [] 400 ?_
    refine ev_seq (ev_region tabT [] 500 rfl ?_)
    repeat (first | refine sat_same ?_ | refine sat_impA ?_ | refine sat_need (by exact (cok_at hc c2).1) ?_)
    refine sat_fn _ (attrOwn_ok _ _ (cok_at hc c2).2) rfl ?_
    repeat (first | refine sat_same ?_ | refine sat_impA ?_ | refine sat_need (by exact (cok_at hc c2).1) ?_)
    refine sat_done (exS_normal ?_)
    refine ev_R tabT [] 600 ?_
    refine ev_cond rfl (fun c5 => ?_) (fun c5 => ?_)
    ·
      refine ev_R tabT [] 700 ?_
      refine ev_ret (exBl_ret (exS_ret (exL_ret (exBl_ret (exS_ret ?_)))))
      have e : fdO h l s = some (l.getD (x.k : Int).toNat 0) := x.found 0 c2 c5
      exact FinV.ret rfl (SubP.tup ⟨by rw [e]; exact SubP.refl _, by rw [e]; exact SubP.refl _, by rw [e]; exact SubP.refl _, trivial⟩)
    ·
      refine ev_skip (exBl_normal (exS_normal ?_))
      refine ev_Q tabT [] 800 ?_
      exact exL_normal (x.next 0 c2 c5) ⟨le_t, le_o, rfl, rfl⟩ (by show l.length - (x.k + 1) < l.length - x.k; omega)
  ·
    refine ev_exit (exS_exit (exL_exit (exBl_same (exS_normal ?_))))
    refine ev_R tabT [] 900 ?_
    refine ev_ret ?_
    have e : fdO h l s = none := x.none (by omega)
    exact FinV.ret rfl (SubP.tup ⟨by rw [e]; exact (by repeat (first | exact trivial | exact SubP.refl _ | exact SubP.nilSl rfl | refine SubP.agg ?_ | refine ⟨?_, ?_⟩)), by rw [e]; exact SubP.refl _, by rw [e]; exact SubP.refl _, trivial⟩)
theorem Among_ok (h : List Ob) (l : List Int) (s : ByteArray) (hh : HpIn h) (hc : Cok h l) : Fn Tryz.prog 149 [hpD md h, isD l, .v (.string s)] (.tup [.agg (vlD (fdV h s (fdO h l s))), .v (.int .i64 (fdC (fdO h l s))), .v (.bool (fdO h l s).isSome)]) := by
  have hl := hc.1
  refine fn_ev tabT Tryz.func149 rfl rfl rfl rfl rfl rfl ?_
  intro w0 s0 mx
  refine ev_R tabT [] 100 ?_
  refine ev_seq ?_
  refine ev_R tabT [] 200 ?_
  refine ev_block ?_
  refine ev_loopK (ι := Fd l (fun c => ownB (obAt h c) s)) [2, 3, 6, 13, 14] [0, 1] 250 (fun x => [(15, .v (.int .i64 x.k))]) (fun _ => []) (fun x => l.length - x.k) ⟨0, Nat.zero_le _, rfl⟩ ?_
  refine ⟨⟨le_t, le_o, rfl, rfl⟩, fun x => ?_⟩
  have hk := x.le
  refine ev_R tabT [] 300 ?_
  refine ev_seq ?_
  refine ev_if (fun c2 => ?_) (fun c2 => ?_)
  ·
    refine ev_skip (exS_normal ?_)
    refine ev_seq ?_
    refine ev_block ?_
    refine ev_R tabT [] 400 ?_
    refine ev_seq (ev_region tabT [] 500 rfl ?_)
    repeat (first | refine sat_same ?_ | refine sat_impA ?_ | refine sat_need (by exact (cok_at hc c2).1) ?_)
    refine sat_fn _ (Own_ok _ _ (cok_at hc c2).2 (hh.at (l.getD (x.k : Int).toNat 0)).nl) rfl ?_
    repeat (first | refine sat_same ?_ | refine sat_impA ?_ | refine sat_need (by exact (cok_at hc c2).1) ?_)
    refine sat_done (exS_normal ?_)
    refine ev_R tabT [] 600 ?_
    refine ev_cond rfl (fun c5 => ?_) (fun c5 => ?_)
    ·
      refine ev_R tabT [] 700 ?_
      refine ev_ret (exBl_ret (exS_ret (exL_ret (exBl_ret (exS_ret ?_)))))
      have e : fdO h l s = some (l.getD (x.k : Int).toNat 0) := x.found 0 c2 c5
      exact FinV.ret rfl (SubP.tup ⟨by rw [e]; exact SubP.refl _, by rw [e]; exact SubP.refl _, by rw [e]; exact SubP.refl _, trivial⟩)
    ·
      refine ev_skip (exBl_normal (exS_normal ?_))
      refine ev_Q tabT [] 800 ?_
      exact exL_normal (x.next 0 c2 c5) ⟨le_t, le_o, rfl, rfl⟩ (by show l.length - (x.k + 1) < l.length - x.k; omega)
  ·
    refine ev_exit (exS_exit (exL_exit (exBl_same (exS_normal ?_))))
    refine ev_R tabT [] 900 ?_
    refine ev_ret ?_
    have e : fdO h l s = none := x.none (by omega)
    exact FinV.ret rfl (SubP.tup ⟨by rw [e]; exact (by repeat (first | exact trivial | exact SubP.refl _ | exact SubP.nilSl rfl | refine SubP.agg ?_ | refine ⟨?_, ?_⟩)), by rw [e]; exact SubP.refl _, by rw [e]; exact SubP.refl _, trivial⟩)
theorem attrFind_ok (h : List Ob) (c : Int) (s : ByteArray) (hh : HpIn h) (hn : inH h c) (hc : Cok h (obAt h c).order) : Fn Tryz.prog 95 [hpD md h, .v (.int .i64 c), .v (.string s)] (.tup [.agg (vlD (fdV h s (fdO h (obAt h c).order s))), .v (.int .i64 (fdC (fdO h (obAt h c).order s))), .v (.bool (fdO h (obAt h c).order s).isSome)]) := by
  refine fn_ev tabT Tryz.func95 rfl rfl rfl rfl rfl rfl ?_
  intro w0 s0 mx
  refine ev_R tabT [] 100 ?_
  refine ev_seq (ev_drawn tabT [] [[], [], [1], [], [1, 2, 3], [1, 2, 3, 4], [1, 2, 3, 4, 5], [], [0, 1, 2, 3, 4, 5, 6, 7], [0, 1, 2, 3, 4, 5, 6, 7, 8], [0, 1, 2, 3, 4, 5, 6, 7, 8], [0, 1, 2, 3, 4, 5, 6, 7, 8], [0, 1, 2, 3, 4, 5, 6, 7, 8, 9, 10, 11], [0, 1, 2, 3, 4, 5, 6, 7, 8, 9, 10, 11, 12], [0, 1, 2, 3, 4, 5, 6, 7, 8, 9, 10, 11, 12, 13]] 200 mixT (by kernel_rfl) rfl ?_)
  repeat (first | refine sat_same ?_ | refine sat_impA ?_ | refine sat_need (by exact hn) ?_)
  refine sat_fn _ (attrFind0_ok h (obAt h c).order s hh hc) rfl ?_
  repeat (first | refine sat_same ?_ | refine sat_impA ?_ | refine sat_need (by exact hn) ?_)
  refine sat_done (exS_normal (ev_ret ?_))
  exact FinV.ret rfl (SubP.refl _)
theorem Inherited_ok (h : List Ob) (c : Int) (s : ByteArray) (hh : HpIn h) (hn : inH h c) (hc : Cok h (obAt h c).order) : Fn Tryz.prog 138 [hpD md h, .v (.int .i64 c), .v (.string s)] (.tup [.agg (vlD (fdV h s (fdO h (obAt h c).order s))), .v (.bool (fdO h (obAt h c).order s).isSome)]) := by
  refine fn_ev tabT Tryz.func138 rfl rfl rfl rfl rfl rfl ?_
  intro w0 s0 mx
  refine ev_R tabT [] 100 ?_
  refine ev_seq (ev_drawn tabT [] [[], [], [1], [], [1, 2, 3], [1, 2, 3, 4], [1, 2, 3, 4, 5], [], [0, 1, 2, 3, 4, 5, 6, 7], [0, 1, 2, 3, 4, 5, 6, 7, 8], [0, 1, 2, 3, 4, 5, 6, 7, 8, 9], [0, 1, 2, 3, 4, 5, 6, 7, 8, 9], [0, 1, 2, 3, 4, 5, 6, 7, 8, 9], [], [0, 1, 2, 3, 4, 5, 6, 7, 8, 9, 10, 13], [0, 1, 2, 3, 4, 5, 6, 7, 8, 9, 10, 11, 13, 14], [0, 1, 2, 3, 4, 5, 6, 7, 8, 9, 10, 11, 12, 13, 14, 15]] 200 mixT (by kernel_rfl) rfl ?_)
  repeat (first | refine sat_same ?_ | refine sat_impA ?_ | refine sat_need (by exact hn) ?_)
  refine sat_fn _ (Among_ok h (obAt h c).order s hh hc) rfl ?_
  repeat (first | refine sat_same ?_ | refine sat_impA ?_ | refine sat_need (by exact hn) ?_)
  refine sat_done (exS_normal ?_)
  refine ev_R tabT [] 300 ?_
  refine ev_ret ?_
  exact FinV.ret rfl (SubP.refl _)
theorem attrFunction_ok (h : List Ob) (v : Vl) (hv : v.k = 6 → isObj h v.r = true) : Fn Tryz.prog 96 [hpD md h, .agg (vlD v)] (.v (.bool (callS h v))) := by
  refine fn_ev tabT Tryz.func96 rfl rfl rfl rfl rfl rfl ?_
  intro w0 s0 mx
  refine ev_R tabT [] 100 ?_
  refine ev_seq (ev_region tabT [] 200 rfl ?_)
  refine sat_go ?_
  refine sat_fnG _ (fun hg6 => attrObject_ok _ _ (by first | assumption | omega | (simp_all; done))) rfl ?_
  refine sat_go ?_
  refine sat_done (exS_normal (ev_ret ?_))
  exact FinV.ret rfl (SubP.refl _)
end Go.Proofs.YtcklaaaomjmhgaaGreatDoor


/- Walks by the evaluator: special methods. -/
namespace Go.Proofs.YtcklaaaomjmhgaaGreatDoor
open Go.RowKit
variable {md me : Bool}
theorem used_a {k : Nat} (hk : k < 21) (ha : Lib.contains (usedS (k : Int)).data.toList [97] = true) : usedS (k : Int) ≠ ⟨#[]⟩ ∧ lastC (usedS (k : Int)) = 61 := by
  have := List.all_eq_true.1 (show (List.range 21).all (fun (k : Nat) => !(Lib.contains (usedS (k : Int)).data.toList [97]) || (!decide (usedS (k : Int) = ⟨#[]⟩) && decide (lastC (usedS (k : Int)) = 61))) = true by decide +kernel) k (List.mem_range.2 hk)
  rw [ha, Bool.not_true, Bool.false_or, Bool.and_eq_true, Bool.not_eq_true', decide_eq_false_iff_not, decide_eq_true_eq] at this
  exact this
theorem names_items {o : Ob} (hk : 0 ≤ o.kind ∧ o.kind < 21) (hs : shapeS o = 0) : o.names.length ≤ o.items.length := by
  have h1 := (sh_of hs).1
  unfold shapeS at hs
  split at hs
  · rename_i ha
    have h3 := List.all_eq_true.1 ha 3 (by decide)
    by_cases hz : (o.names.length : Int) = 0
    · omega
    · have e : Lib.contains (usedS o.kind).data.toList [97] = true := by
        have h4 : (!(!(decide ((o.names.length : Int) = 0)) && !(Lib.contains (usedS o.kind).data.toList [97]))) = true := h3
        rw [decide_eq_false hz] at h4
        simpa using h4
      have hkk : o.kind = ((o.kind.toNat : Nat) : Int) := by omega
      rw [hkk] at e
      have h5 := used_a (k := o.kind.toNat) (by omega) e
      rw [← hkk] at h5
      rw [cntS, if_neg h5.1, if_neg (by rw [h5.2]; decide), if_pos h5.2] at h1
      omega
  · cases hs
theorem nm_it {h : List Ob} (g : Uh h) {n : Int} (hn : inH h n) : (obAt h n).names.length ≤ (obAt h n).items.length := by
  by_cases h49 : n.toNat < 49
  · rw [show obAt h n = bgO n.toNat from g.lo_at h49]; exact Nat.zero_le _
  · have u := g.hi_at (i := n.toNat) (by omega) hn.2
    exact names_items u.kind u.shape
theorem bg_order {k : Nat} (hk : k < 49) {r : Int} (hr : r ∈ (bgO k).order) : 0 ≤ r ∧ r < 49 := by
  have := List.all_eq_true.1 (List.all_eq_true.1 (show (List.range 49).all (fun k => (bgO k).order.all fun r => decide (0 ≤ r) && decide (r < 49)) = true by decide +kernel) k (List.mem_range.2 hk)) r hr
  rw [Bool.and_eq_true, decide_eq_true_eq, decide_eq_true_eq] at this
  exact this
theorem cok_of {h : List Ob} (hh : HpIn h) (g : Uh h) {c : Int} (hn : inH h c) : Cok h (obAt h c).order := by
  refine ⟨(hh.at c).ol, fun r hr => ?_⟩
  have hin : inH h r := by
    by_cases h49 : c.toNat < 49
    · rw [show obAt h c = bgO c.toNat from g.lo_at h49] at hr
      have := bg_order h49 hr
      have := g.lo
      exact ⟨by omega, by omega⟩
    · exact isObj_in ((vs_of (g.hi_at (by omega) hn.2).vals).order r hr)
  exact ⟨hin, nm_it g hin⟩
theorem own_rv {h : List Ob} (g : Uh h) {n : Int} (hn : inH h n) (s : ByteArray) (hk : (ownV (obAt h n) s).k = 6) : isObj h (ownV (obAt h n) s).r = true := by
  have hlt := ixI_lt (obAt h n).names s
  have hni := nm_it g hn
  by_cases hi : ixI (obAt h n).names s < 0
  · rw [ownV, if_pos hi] at hk; exact absurd hk (by decide)
  · rw [ownV, if_neg hi] at hk ⊢
    have hj : (ixI (obAt h n).names s).toNat < (obAt h n).items.length := by omega
    rw [List.getD_eq_getElem?_getD, List.getElem?_eq_getElem hj] at hk ⊢
    exact g.items hn (List.getElem_mem _) hk
theorem fd_rv {h : List Ob} (hh : HpIn h) (g : Uh h) {c : Int} (hn : inH h c) (s : ByteArray) (hk : (fdV h s (fdO h (obAt h c).order s)).k = 6) : isObj h (fdV h s (fdO h (obAt h c).order s)).r = true := by
  cases hf : fdO h (obAt h c).order s with
  | none => rw [hf] at hk; exact absurd hk (show ¬ (0 : Int) = 6 by decide)
  | some r =>
    rw [hf] at hk
    exact own_rv g ((cok_of hh g hn).2 r (List.mem_of_find?_eq_some hf)).1 s hk
theorem one_item {h : List Ob} (g : Uh h) {n : Int} (hn : inH h n) (hk : (obAt h n).kind = 13 ∨ (obAt h n).kind = 14) : (obAt h n).items.length = 1 := by
  by_cases h49 : n.toNat < 49
  · rw [show obAt h n = bgO n.toNat from g.lo_at h49] at hk
    have h9 : (bgO n.toNat).kind = 9 := rfl
    omega
  · have u := g.hi_at (i := n.toNat) (by omega) hn.2
    have h1 := (sh_of u.shape).1
    rw [← obAt_nat hn] at h1
    have hc : cntS (obAt h n) = 1 := by
      rcases hk with hk | hk
      · rw [cnt_of 13 49 (by decide +kernel) hk]; decide +kernel
      · rw [cnt_of 14 49 (by decide +kernel) hk]; decide +kernel
    omega
def spS (h : List Ob) (v : Vl) (s : ByteArray) : Vl × List Vl × Bool :=
  if ¬ (objS h v).kind = 10 then (vl0, [], false)
  else if (fdO h (obAt h (objS h v).cls).order s).isSome = false then (vl0, [], false)
  else if callS h (fdV h s (fdO h (obAt h (objS h v).cls).order s)) = true then (fdV h s (fdO h (obAt h (objS h v).cls).order s), [v], true)
  else if (objS h (fdV h s (fdO h (obAt h (objS h v).cls).order s))).kind = 13 then ((objS h (fdV h s (fdO h (obAt h (objS h v).cls).order s))).items.getD 0 vl0, [], true)
  else if (objS h (fdV h s (fdO h (obAt h (objS h v).cls).order s))).kind = 14 then ((objS h (fdV h s (fdO h (obAt h (objS h v).cls).order s))).items.getD 0 vl0, [rfV (objS h v).cls], true)
  else (fdV h s (fdO h (obAt h (objS h v).cls).order s), [], true)
theorem obj_item {h : List Ob} (g : Uh h) {v : Vl} (hk : (objS h v).kind = 13 ∨ (objS h v).kind = 14) : 0 < (objS h v).items.length := by
  have h1 := objS_of (h := h) (v := v) (by omega)
  rw [h1.2.2] at hk ⊢
  rw [one_item g (isObj_in h1.2.1) hk]
  decide
theorem inst_cls {h : List Ob} (g : Uh h) {v : Vl} (hk : (objS h v).kind = 10) : inH h (objS h v).cls := by
  have h1 := objS_of (h := h) (v := v) (by omega)
  rw [h1.2.2] at hk ⊢
  exact g.cls (isObj_in h1.2.1) hk
set_option maxHeartbeats 1000000 in
theorem Special_ok (h : List Ob) (v : Vl) (s : ByteArray) (hh : HpIn h) (g : Uh h) (hv : v.k = 6 → isObj h v.r = true) : Fn Tryz.prog 51 [hpD md h, .agg (vlD v), .v (.string s)] (.tup [.agg (vlD (spS h v s).1), vsD (spS h v s).2.1, .v (.bool (spS h v s).2.2)]) := by
  refine fn_ev tabT Tryz.func51 rfl rfl rfl rfl rfl rfl ?_
  intro w0 s0 mx
  refine ev_R tabT [] 100 ?_
  refine ev_seq ?_
  refine ev_seq (ev_region tabT [] 200 rfl ?_)
  refine sat_go ?_
  refine sat_fn _ (attrObject_ok _ _ (by first | assumption | omega | (simp_all; done))) rfl ?_
  refine sat_go ?_
  refine sat_done (exS_normal ?_)
  refine ev_cond rfl (fun c1 => ?_) (fun c1 => ?_)
  · replace c1 : ¬ (objS h v).kind = 10 := by simpa using c1
    refine ev_R tabT [] 300 ?_
    refine ev_ret (exS_ret ?_)
    exact FinV.ret rfl (SubP.tup ⟨by rw [spS, if_pos c1]; exact (by repeat (first | exact trivial | exact SubP.refl _ | exact SubP.nilSl rfl | refine SubP.agg ?_ | refine ⟨?_, ?_⟩)), by rw [spS, if_pos c1]; exact SubP.nilSl rfl, by rw [spS, if_pos c1]; exact SubP.refl _, trivial⟩)
  · replace c1 : (objS h v).kind = 10 := by simpa using c1
    have hob := objS_of (h := h) (v := v) (by omega)
    have hin := inst_cls g c1
    have hrv := fun hk => fd_rv hh g hin s hk
    refine ev_skip (exS_normal ?_)
    refine ev_seq (ev_region tabT [] 400 rfl ?_)
    repeat (first | refine sat_same ?_ | refine sat_impA ?_ | refine sat_need (by exact isObj_in hob.2.1) ?_)
    refine sat_done (exS_normal ?_)
    refine ev_tell [2, 3, 4, 6] [0, 1, 2] 410 [(9, .v (.int .i64 (objS h v).cls))] [] ?_
    refine ⟨⟨⟨Sub.int (by rw [hob.2.2]), by repeat (first | exact trivial | exact Sub.refl _ | refine ⟨?_, ?_⟩)⟩, le_o, rfl, rfl⟩, ?_⟩
    refine ev_seq (ev_region tabT [] 500 rfl ?_)
    refine sat_go ?_
    refine sat_fn _ (attrFind_ok h (objS h v).cls s hh hin (cok_of hh g hin)) rfl ?_
    refine sat_go ?_
    refine sat_done (exS_normal ?_)
    refine ev_seq ?_
    refine ev_R tabT [] 600 ?_
    refine ev_cond rfl (fun c5 => ?_) (fun c5 => ?_)
    · replace c5 : (fdO h (obAt h (objS h v).cls).order s).isSome = false := by simpa using c5
      refine ev_R tabT [] 700 ?_
      refine ev_ret (exS_ret ?_)
      exact FinV.ret rfl (SubP.tup ⟨by rw [spS, if_neg (not_not_intro c1), if_pos c5]; exact (by repeat (first | exact trivial | exact SubP.refl _ | exact SubP.nilSl rfl | refine SubP.agg ?_ | refine ⟨?_, ?_⟩)), by rw [spS, if_neg (not_not_intro c1), if_pos c5]; exact SubP.nilSl rfl, by rw [spS, if_neg (not_not_intro c1), if_pos c5]; exact SubP.refl _, trivial⟩)
    · replace c5 : (fdO h (obAt h (objS h v).cls).order s).isSome = true := by simpa using c5
      refine ev_skip (exS_normal ?_)
      refine ev_seq ?_
      refine ev_seq (ev_region tabT [] 800 rfl ?_)
      refine sat_go ?_
      refine sat_fn _ (attrObject_ok h (fdV h s (fdO h (obAt h (objS h v).cls).order s)) hrv) rfl ?_
      refine sat_go ?_
      refine sat_done (exS_normal (ev_block ?_))
      refine ev_seq (ev_region tabT [] 900 rfl ?_)
      refine sat_go ?_
      refine sat_fn _ (attrFunction_ok h (fdV h s (fdO h (obAt h (objS h v).cls).order s)) hrv) rfl ?_
      refine sat_go ?_
      refine sat_done (exS_normal ?_)
      refine ev_cond rfl (fun c8 => ?_) (fun c8 => ?_)
      ·
        refine ev_seq (ev_drawn tabT [] [[], [], [1], [0], [0, 1, 2, 3], [0, 1, 2, 3, 4]] 1000 mixT (by kernel_rfl) rfl ?_)
        refine sat_go ?_
        refine sat_done (exS_normal (ev_ret (exBl_ret (exS_ret ?_))))
        exact FinV.ret rfl (SubP.tup ⟨by rw [spS, if_neg (not_not_intro c1), if_neg (by rw [c5]; decide), if_pos c8]; exact SubP.refl _, by rw [spS, if_neg (not_not_intro c1), if_neg (by rw [c5]; decide), if_pos c8]; exact SubP.slrSl rfl, by rw [spS, if_neg (not_not_intro c1), if_neg (by rw [c5]; decide), if_pos c8]; exact SubP.refl _, trivial⟩)
      ·
        refine ev_R tabT [] 1100 ?_
        refine ev_if (fun c10 => ?_) (fun c10 => ?_)
        ·
          refine ev_seq (ev_region tabT [] 1200 rfl ?_)
          repeat (first | refine sat_same ?_ | refine sat_impA ?_ | refine sat_need (by exact ⟨by omega, obj_item g (Or.inl c10)⟩) ?_)
          refine sat_done (exS_normal (ev_ret (exBl_ret (exS_ret ?_))))
          exact FinV.ret rfl (SubP.tup ⟨by rw [spS, if_neg (not_not_intro c1), if_neg (by rw [c5]; decide), if_neg (by rw [c8]; decide), if_pos c10]; exact SubP.refl _, by rw [spS, if_neg (not_not_intro c1), if_neg (by rw [c5]; decide), if_neg (by rw [c8]; decide), if_pos c10]; exact SubP.nilSl rfl, by rw [spS, if_neg (not_not_intro c1), if_neg (by rw [c5]; decide), if_neg (by rw [c8]; decide), if_pos c10]; exact SubP.refl _, trivial⟩)
        ·
          refine ev_R tabT [] 1300 ?_
          refine ev_if (fun c12 => ?_) (fun c12 => ?_)
          ·
            refine ev_seq (ev_drawn tabT [] [[], [0], [0, 1], [0, 1, 2], [], [4], [4, 5], [0, 1, 2, 3, 4, 5], [0, 1, 2, 3, 4, 5, 6, 7], [0, 1, 2, 3, 4, 5, 6, 7, 8]] 1400 mixT (by kernel_rfl) rfl ?_)
            repeat (first | refine sat_same ?_ | refine sat_impA ?_ | refine sat_need (by exact ⟨by omega, obj_item g (Or.inr c12)⟩) ?_)
            refine sat_fn _ (heapRef_ok _) rfl ?_
            repeat (first | refine sat_same ?_ | refine sat_impA ?_ | refine sat_need (by exact ⟨by omega, obj_item g (Or.inr c12)⟩) ?_)
            refine sat_done (exS_normal (ev_ret (exBl_ret (exS_ret ?_))))
            exact FinV.ret rfl (SubP.tup ⟨by rw [spS, if_neg (not_not_intro c1), if_neg (by rw [c5]; decide), if_neg (by rw [c8]; decide), if_neg (by omega), if_pos c12]; exact SubP.refl _, by rw [spS, if_neg (not_not_intro c1), if_neg (by rw [c5]; decide), if_neg (by rw [c8]; decide), if_neg (by omega), if_pos c12]; exact SubP.slrSl rfl, by rw [spS, if_neg (not_not_intro c1), if_neg (by rw [c5]; decide), if_neg (by rw [c8]; decide), if_neg (by omega), if_pos c12]; exact SubP.refl _, trivial⟩)
          ·
            refine ev_skip (exBl_normal (exS_normal ?_))
            refine ev_R tabT [] 1500 ?_
            refine ev_ret ?_
            exact FinV.ret rfl (SubP.tup ⟨by rw [spS, if_neg (not_not_intro c1), if_neg (by rw [c5]; decide), if_neg (by rw [c8]; decide), if_neg (by omega), if_neg (by omega)]; exact SubP.refl _, by rw [spS, if_neg (not_not_intro c1), if_neg (by rw [c5]; decide), if_neg (by rw [c8]; decide), if_neg (by omega), if_neg (by omega)]; exact SubP.nilSl rfl, by rw [spS, if_neg (not_not_intro c1), if_neg (by rw [c5]; decide), if_neg (by rw [c8]; decide), if_neg (by omega), if_neg (by omega)]; exact SubP.refl _, trivial⟩)
set_option maxHeartbeats 1000000 in
theorem Method_ok (h : List Ob) (v : Vl) (s : ByteArray) (hh : HpIn h) (g : Uh h) (hv : v.k = 6 → isObj h v.r = true) : Fn Tryz.prog 106 [hpD md h, .agg (vlD v), .v (.string s)] (.tup [.agg (vlD (spS h v s).1), vsD (spS h v s).2.1, .v (.bool (spS h v s).2.2)]) := by
  refine fn_ev tabT Tryz.func106 rfl rfl rfl rfl rfl rfl ?_
  intro w0 s0 mx
  refine ev_R tabT [] 100 ?_
  refine ev_seq (ev_region tabT [] 200 rfl ?_)
  refine sat_go ?_
  refine sat_fn _ (Obj_ok _ _) rfl ?_
  refine sat_go ?_
  refine sat_done (exS_normal ?_)
  refine ev_seq ?_
  refine ev_R tabT [] 300 ?_
  refine ev_cond rfl (fun c2 => ?_) (fun c2 => ?_)
  · replace c2 : ¬ (objS h v).kind = 10 := by simpa using c2
    refine ev_R tabT [] 400 ?_
    refine ev_ret (exS_ret ?_)
    exact FinV.ret rfl (SubP.tup ⟨by rw [spS, if_pos c2]; exact (by repeat (first | exact trivial | exact SubP.refl _ | exact SubP.nilSl rfl | refine SubP.agg ?_ | refine ⟨?_, ?_⟩)), by rw [spS, if_pos c2]; exact SubP.nilSl rfl, by rw [spS, if_pos c2]; exact SubP.refl _, trivial⟩)
  · replace c2 : (objS h v).kind = 10 := by simpa using c2
    have hin := inst_cls g c2
    have hrv := fun hk => fd_rv hh g hin s hk
    refine ev_skip (exS_normal ?_)
    refine ev_seq (ev_region tabT [] 500 rfl ?_)
    refine sat_go ?_
    refine sat_fn _ (Inherited_ok h (objS h v).cls s hh hin (cok_of hh g hin)) rfl ?_
    refine sat_go ?_
    refine sat_done (exS_normal ?_)
    refine ev_seq ?_
    refine ev_R tabT [] 600 ?_
    refine ev_cond rfl (fun c5 => ?_) (fun c5 => ?_)
    · replace c5 : (fdO h (obAt h (objS h v).cls).order s).isSome = false := by simpa using c5
      refine ev_R tabT [] 700 ?_
      refine ev_ret (exS_ret ?_)
      exact FinV.ret rfl (SubP.tup ⟨by rw [spS, if_neg (not_not_intro c2), if_pos c5]; exact (by repeat (first | exact trivial | exact SubP.refl _ | exact SubP.nilSl rfl | refine SubP.agg ?_ | refine ⟨?_, ?_⟩)), by rw [spS, if_neg (not_not_intro c2), if_pos c5]; exact SubP.nilSl rfl, by rw [spS, if_neg (not_not_intro c2), if_pos c5]; exact SubP.refl _, trivial⟩)
    · replace c5 : (fdO h (obAt h (objS h v).cls).order s).isSome = true := by simpa using c5
      refine ev_skip (exS_normal ?_)
      refine ev_seq ?_
      refine ev_seq (ev_region tabT [] 800 rfl ?_)
      refine sat_go ?_
      refine sat_fn _ (callable_ok h (fdV h s (fdO h (obAt h (objS h v).cls).order s))) rfl ?_
      refine sat_go ?_
      refine sat_done (exS_normal ?_)
      refine ev_cond rfl (fun c7 => ?_) (fun c7 => ?_)
      ·
        refine ev_seq (ev_drawn tabT [] [[], [], [1], [0], [0, 1, 2, 3], [0, 1, 2, 3, 4]] 900 mixT (by kernel_rfl) rfl ?_)
        refine sat_go ?_
        refine sat_done (exS_normal (ev_ret (exS_ret ?_)))
        exact FinV.ret rfl (SubP.tup ⟨by rw [spS, if_neg (not_not_intro c2), if_neg (by rw [c5]; decide), if_pos c7]; exact SubP.refl _, by rw [spS, if_neg (not_not_intro c2), if_neg (by rw [c5]; decide), if_pos c7]; exact SubP.slrSl rfl, by rw [spS, if_neg (not_not_intro c2), if_neg (by rw [c5]; decide), if_pos c7]; exact SubP.refl _, trivial⟩)
      ·
        refine ev_skip (exS_normal ?_)
        refine ev_seq ?_
        refine ev_seq (ev_region tabT [] 1000 rfl ?_)
        refine sat_go ?_
        refine sat_fn _ (Obj_ok _ _) rfl ?_
        refine sat_go ?_
        refine sat_done (exS_normal ?_)
        refine ev_R tabT [] 1100 ?_
        refine ev_block ?_
        refine ev_R tabT [] 1200 ?_
        refine ev_if (fun c11 => ?_) (fun c11 => ?_)
        ·
          refine ev_seq (ev_drawn tabT [] [[], [0], [0, 1], [0, 1, 2], [], [4], [4, 5], [4, 5, 6], [0, 1, 2, 3, 4, 5, 6], [0, 1, 2, 3, 4, 5, 6, 7, 8], [0, 1, 2, 3, 4, 5, 6, 7, 8, 9]] 1300 mixT (by kernel_rfl) rfl ?_)
          repeat (first | refine sat_same ?_ | refine sat_impA ?_ | refine sat_need (by exact ⟨by omega, obj_item g (Or.inr c11)⟩) ?_)
          refine sat_fn _ (O_ok _) rfl ?_
          repeat (first | refine sat_same ?_ | refine sat_impA ?_ | refine sat_need (by exact ⟨by omega, obj_item g (Or.inr c11)⟩) ?_)
          refine sat_done (exS_normal (ev_ret (exBl_ret (exS_ret ?_))))
          exact FinV.ret rfl (SubP.tup ⟨by rw [spS, if_neg (not_not_intro c2), if_neg (by rw [c5]; decide), if_neg (by rw [c7]; decide), if_neg (by omega), if_pos c11]; exact SubP.refl _, by rw [spS, if_neg (not_not_intro c2), if_neg (by rw [c5]; decide), if_neg (by rw [c7]; decide), if_neg (by omega), if_pos c11]; exact SubP.slrSl rfl, by rw [spS, if_neg (not_not_intro c2), if_neg (by rw [c5]; decide), if_neg (by rw [c7]; decide), if_neg (by omega), if_pos c11]; exact SubP.refl _, trivial⟩)
        ·
          refine ev_R tabT [] 1400 ?_
          refine ev_if (fun c13 => ?_) (fun c13 => ?_)
          ·
            refine ev_seq (ev_region tabT [] 1500 rfl ?_)
            repeat (first | refine sat_same ?_ | refine sat_impA ?_ | refine sat_need (by exact ⟨by omega, obj_item g (Or.inl c13)⟩) ?_)
            refine sat_done (exS_normal (ev_ret (exBl_ret (exS_ret ?_))))
            exact FinV.ret rfl (SubP.tup ⟨by rw [spS, if_neg (not_not_intro c2), if_neg (by rw [c5]; decide), if_neg (by rw [c7]; decide), if_pos c13]; exact SubP.refl _, by rw [spS, if_neg (not_not_intro c2), if_neg (by rw [c5]; decide), if_neg (by rw [c7]; decide), if_pos c13]; exact SubP.nilSl rfl, by rw [spS, if_neg (not_not_intro c2), if_neg (by rw [c5]; decide), if_neg (by rw [c7]; decide), if_pos c13]; exact SubP.refl _, trivial⟩)
          ·
            refine ev_skip (exBl_normal (exS_normal ?_))
            refine ev_R tabT [] 1600 ?_
            refine ev_ret ?_
            exact FinV.ret rfl (SubP.tup ⟨by rw [spS, if_neg (not_not_intro c2), if_neg (by rw [c5]; decide), if_neg (by rw [c7]; decide), if_neg (by omega), if_neg (by omega)]; exact SubP.refl _, by rw [spS, if_neg (not_not_intro c2), if_neg (by rw [c5]; decide), if_neg (by rw [c7]; decide), if_neg (by omega), if_neg (by omega)]; exact SubP.nilSl rfl, by rw [spS, if_neg (not_not_intro c2), if_neg (by rw [c5]; decide), if_neg (by rw [c7]; decide), if_neg (by omega), if_neg (by omega)]; exact SubP.refl _, trivial⟩)
end Go.Proofs.YtcklaaaomjmhgaaGreatDoor


/-
  DERIVED: THE SHELF's CONTRACTS AT THIS DUMP, IN PLAIN WORDS (tools/lay-plain.mjs out of 'YtcklaaaomjmhgaaGreatDoorShelf3.lean', which tools/lay-shelf.mjs wrote): THE SAME DECLARATIONS UNDER THE SAME NAMES: 'import', 'namespace', 'open', 'def', 'theorem' AND NOTHING ELSE: no command of the shelf's: FOR A HAND-IN. Each laying: the table of numbers ('.._ren') and one theorem, a field a fact of the dump's own or the kernel's comparison; each contract: ONE APPLICATION.
-/
namespace Go.Proofs
open Go.Shelf
def Tryz.laysGrowV_ren : Go.Shelf.Ren := ⟨fun | 4 => 98 | n => n, fun | 22 => 34 | 25 => 29 | 3 => 3 | 4 => 4 | 9 => 9 | 20 => 20 | 0 => 0 | n => n, fun | n => n⟩
theorem Tryz.laysGrowV : Go.Proofs.Lays8.n4 Tryz.prog Tryz.laysGrowV_ren := {
  mixed := by kernel_rfl
  f4 := ⟨Tryz.f98.name, by decide, Tryz.func98.trans (congrArg some (by kernel_rfl))⟩
  t0 := Tryz.underlying0
  a0 := Tryz.isAgg0
  z0 := Tryz.sizeOf0
  v0 := Tryz.zeroValue0
  t3 := Tryz.underlying3
  a3 := Tryz.isAgg3
  z3 := Tryz.sizeOf3
  v3 := Tryz.zeroValue3
  t4 := Tryz.underlying4
  a4 := Tryz.isAgg4
  z4 := Tryz.sizeOf4
  v4 := Tryz.zeroValue4
  t9 := Tryz.underlying9
  a9 := Tryz.isAgg9
  z9 := Tryz.sizeOf9
  v9 := Tryz.zeroValue9
  t20 := Tryz.underlying20
  a20 := Tryz.isAgg20
  z20 := Tryz.sizeOf20
  v20 := Tryz.zeroValue20
  t22 := Tryz.underlying34
  a22 := Tryz.isAgg34
  z22 := Tryz.sizeOf34
  v22 := Tryz.zeroValue34 }
end Go.Proofs


/- slices.Grow of nil: an empty row of its own. -/
namespace Go.Proofs.YtcklaaaomjmhgaaGreatDoor
open Go.RowKit Go.Shelf
theorem grow_O {P : Program} {f : FuncId} {e : TypeId} {sz : Nat} (hb : Bod P f) (n : Nat)
    (h0 : n = 0 → ∀ w, Calls P f #[.slice none 0 0, .int .i64 n] w fun r w' => r = .returned (.slice none 0 0) ∧ w' = w)
    (h1 : 0 < n → ∀ w : World, Calls P f #[.slice none 0 0, .int .i64 n] w fun r w' => ∃ (cur : Array Value) (G : Nat), r = .returned (.slice (some ⟨w.heap.size, 0, none⟩) 0 G) ∧ w' = w.drew.alloc (.cells cur e) ∧ cur.size = G * sz ∧ G ≤ maxLen) :
    FnO P f [.v (.slice none 0 0), .v (.int .i64 n)] e sz [] := by
  refine ⟨hb, fun w s vs hlt _ hv => ?_⟩
  match vs, hv with
  | [a, b], ⟨ha, hb', _⟩ =>
    have ha : a = .slice none 0 0 := ha
    have hb' : b = .int .i64 n := hb'
    subst ha hb'
    rcases Nat.eq_zero_or_pos n with hn | hn
    · refine (h0 hn w).mono fun r w' hq => ?_
      obtain ⟨rfl, rfl⟩ := hq
      refine ⟨s, ⟨fun _ => none, fun k m => if k = 0 ∧ m = 0 then some (.slice none 0 0) else none⟩, 0, .slice none 0 0, rfl, ?_, ⟨fun m hm => ?_, _, rfl, .inl ⟨rfl, rfl⟩⟩, fun N hN => ?_, ⟨Ex.refl _ _, hlt, rfl, rfl, rfl, Nat.le_refl _, fun _ _ => rfl, fun _ _ h => .inl h, fun _ _ h => .inl h⟩⟩
      · rw [TV.P]
        exact ⟨⟨none, 0, rfl, Nat.le_refl _, by omega, (fun _ h => by cases h), fun i row h => by simp [D.pvss] at h⟩, rfl⟩
      · have hm : 0 < m := hm
        exact if_neg (by omega)
      · cases hN
    · refine (h1 hn w).mono fun r w' hq => ?_
      obtain ⟨cur, G, rfl, rfl, hc, hG⟩ := hq
      have hnew : (w.drew.alloc (.cells cur e)).heap[w.heap.size]? = some (.cells cur e (0, 0)) := heap_alloc_new w.drew _
      have hold : ∀ N, N < w.heap.size → (w.drew.alloc (.cells cur e)).heap[N]? = w.heap[N]? := fun N hN => heap_alloc_old w.drew _ hN
      have hsz : (w.drew.alloc (.cells cur e)).heap.size = w.heap.size + 1 := by
        show (w.drew.heap.push _).size = _
        rw [Array.size_push]; rfl
      refine ⟨s, ⟨fun _ => none, fun k m => if k = 0 ∧ m = 0 then some (.slice (some ⟨w.heap.size, 0, none⟩) 0 G) else none⟩, 0, .slice (some ⟨w.heap.size, 0, none⟩) 0 G, rfl, ?_, ⟨fun m hm => ?_, _, rfl, .inr ⟨w.heap.size, G, cur, rfl, hnew, Nat.zero_le _, hG, hc, fun o _ h => ?_⟩⟩, fun N hN => ?_, ⟨⟨fun _ _ h => h, fun b o hs => cell_block (hold b (hlt b o hs)), fun _ _ h => h⟩, fun B o h => ?_, rfl, rfl, rfl, by omega, hold, fun _ _ h => .inl h, fun _ _ h => .inl h⟩⟩
      · rw [TV.P]
        exact ⟨⟨_, G, rfl, Nat.zero_le _, by unfold maxLen at hG; omega, (fun _ h => by cases h), fun i row h => by simp [D.pvss] at h⟩, rfl⟩
      · have hm : 0 < m := hm
        exact if_neg (by omega)
      · have := hlt _ _ h; omega
      · have hN : some w.heap.size = some N := hN
        cases hN; exact Nat.le_refl _
      · have := hlt B o h; omega
theorem GrowV_ok (n : Nat) (hn : n ≤ 100000000) : FnO Tryz.prog 98 [.v (.slice none 0 0), .v (.int .i64 n)] 29 7 [] := by
  refine grow_O ⟨_, Tryz.func98, rfl, rfl⟩ n (fun h w => ?_) fun h w => ?_
  · subst h
    exact Any8.slices_Grow_room Tryz.laysGrowV none 0 0 0 w (by omega) (by omega) (by omega) (by omega)
  · obtain ⟨ie, z, hu, hi, hz, hsz, hzc, hs0, hb0, hb1⟩ := (ti_sl (tabOk_get (t := 34) tabT (show fnd 34 TT = some (.sl 29 7) by rfl))).2.2.h
    have hx := Any8.slices_Grow_grow Tryz.laysGrowV ie z hi hz (by omega) none 0 0 n [] w (Nat.le_refl _) (by omega) (by
      have := Nat.mul_le_mul (show 0 + n ≤ 100000000 by omega) hb1
      omega) (by omega) (by simp) (fun _ => rfl) (fun _ h => by cases h)
    refine hx.mono fun r w' hq => ?_
    obtain ⟨rfl, rfl⟩ := hq
    have hG : n ≤ grownCap w (0 + n) 0 (Tryz.laysGrowV_ren.t 25) := Nat.le_trans (by omega) (grownCap_ge w (0 + n) 0 _)
    refine ⟨_, _, rfl, rfl, ?_, grownCap_le_maxLen w _ _ _ (by unfold maxLen; omega)⟩
    simp only [Array.size_append, List.size_toArray, List.length_nil, size_zeroCells, hzc]
    omega
end Go.Proofs.YtcklaaaomjmhgaaGreatDoor


/- Walks by the evaluator: values joined; attempts of special methods. -/
namespace Go.Proofs.YtcklaaaomjmhgaaGreatDoor
open Go.RowKit
variable {md me : Bool}
def st0 : St := ⟨0, vl0, 0, ByteArray.empty, vl0, []⟩
def stsD (l : List St) : D := .sl false 18 l stD st0
def vssD (l : List (List Vl)) : D := .sl false 1 l (fun x => [vsD x]) []
def caS (f : Vl) (l : List Vl) : St := ⟨2, vl0, 0, ByteArray.empty, f, l⟩
def attS (h : List Ob) (v : Vl) (s : ByteArray) (l : List Vl) : List St := if (spS h v s).2.2 = true then [caS (spS h v s).1 ((spS h v s).2.1 ++ l)] else []
def ctL (L : List (List Vl)) (k : Nat) : List Vl := (L.take k).flatten
theorem ct_next {L : List (List Vl)} {k : Nat} (h : k < L.length) : ctL L (k + 1) = ctL L k ++ L.getD k [] := by
  unfold ctL
  rw [List.take_add_one, List.getElem?_eq_getElem h, List.flatten_append, List.getD_eq_getElem?_getD, List.getElem?_eq_getElem h]
  simp
theorem ct_le (L : List (List Vl)) (k : Nat) : (ctL L k).length ≤ (ctL L L.length).length := by
  unfold ctL
  rw [List.take_length]
  conv => rhs; rw [← List.take_append_drop k L, List.flatten_append, List.length_append]
  omega
theorem ct_two (a b : List Vl) : ctL [a, b] [a, b].length = a ++ b := by simp [ctL]
theorem SubP.slrRows {α : Type} {m : Bool} {sz : Nat} {rows : List (List D)} {l : List α} {f : α → List D} {e : α} (h : RowsP rows (l.map f)) : SubP (.slr m sz rows) (.sl m sz l f e) := fun w s v hv => by
  have h1 := rowsP_sl (m := m) (sz := sz) h (w := w) (s := s) (v := v) hv
  rw [pvss_map, List.map_map] at h1
  exact h1
theorem spS_2 (h : List Ob) (v : Vl) (s : ByteArray) : (spS h v s).2.1.length ≤ 1 := by
  unfold spS
  repeat' split
  all_goals first | exact Nat.le_refl _ | exact Nat.zero_le _
theorem ConcatV_ok (L : List (List Vl)) (hl : (ctL L L.length).length ≤ 100000000) (hL : L.length ≤ 1000) : FnO Tryz.prog 52 [vssD L] 29 7 ((ctL L L.length).map vlD) := by
  refine fnO_ev Tryz.func52 rfl rfl rfl rfl rfl rfl ?_
  intro w0 s0 mx
  refine ev_R tabT [] 100 ?_
  refine ev_R tabT [] 200 ?_
  refine ev_seq ?_
  refine ev_R tabT [] 300 ?_
  refine ev_block ?_
  refine ev_loopK (ι := {k : Nat // k ≤ L.length}) [0, 9, 10] [] 350 (fun x => [(3, .v (.int .i64 ((ctL L x.1).length : Nat))), (11, .v (.int .i64 x.1))]) (fun _ => []) (fun x => L.length - x.1) ⟨0, Nat.zero_le _⟩ ?_
  refine ⟨⟨le_t, le_o, rfl, rfl⟩, fun x => ?_⟩
  have hk : x.1 ≤ L.length := x.2
  have hf := ct_le L (x.1 + 1)
  have hn : ∀ h : x.1 < L.length, (ctL L (x.1 + 1)).length = (ctL L x.1).length + (L.getD ((x.1 : Nat) : Int).toNat []).length := fun h => by rw [ct_next h, List.length_append]; rfl
  have hf0 := ct_le L x.1
  refine ev_R tabT [] 400 ?_
  refine ev_seq ?_
  refine ev_if (fun c3 => ?_) (fun c3 => ?_)
  ·
    refine ev_skip (exS_normal ?_)
    refine ev_seq ?_
    refine ev_block ?_
    refine ev_R tabT [] 500 ?_
    refine ev_seq (ev_region tabT [] 600 rfl ?_)
    repeat (first | refine sat_same ?_ | refine sat_impA ?_ | refine sat_need (by first | (have h9 := hn c3; exact ini (by omega) (by omega)) | first | exact trivial | omega | exact ini (by omega) (by omega) | (intro hh; simp at hh; exact ini (by omega) (by omega)) | (intro hh; simp at hh ⊢; omega) | (simp at *; omega) | (simp_all; done)) ?_)
    refine sat_done (exS_normal ?_)
    refine ev_R tabT [] 700 ?_
    refine ev_if (fun c6 => ?_) (fun c6 => ?_)
    ·
      omega
    ·
      refine ev_skip (exBl_normal (exS_normal ?_))
      refine ev_Q tabT [] 900 ?_
      exact exL_normal (⟨x.1 + 1, by omega⟩) ⟨⟨Sub.int (by rw [ct_next c3, List.length_append]; push_cast; rfl), Sub.int (by push_cast; rfl), le_t⟩, le_o, rfl, rfl⟩ (by show L.length - (x.1 + 1) < L.length - x.1; omega)
  ·
    refine ev_exit (exS_exit (exL_exit (exBl_same (exS_normal ?_))))
    refine ev_seq (ev_region tabT [24] 1000 rfl ?_)
    refine sat_go ?_
    refine sat_fnO _ _ _ (GrowV_ok _ (by have := ct_le L x.1; omega)) ?_
    refine sat_go ?_
    refine sat_done (exS_normal ?_)
    refine ev_seq ?_
    refine ev_R tabT [] 1100 ?_
    refine ev_block ?_
    refine ev_loopK (ι := {k : Nat // k ≤ L.length}) [25, 26] [] 1150 (fun y => [(27, .v (.int .i64 y.1)), (6, .own 401 7 ((ctL L y.1).map vlD))]) (fun y => [(401, .row 29 7 ((ctL L y.1).map vlD).length)]) (fun y => L.length - y.1) ⟨0, Nat.zero_le _⟩ ?_
    refine ⟨⟨le_t, le_o, rfl, rfl⟩, fun y => ?_⟩
    have hky : y.1 ≤ L.length := y.2
    have hfy := ct_le L (y.1 + 1)
    have hfy0 := ct_le L y.1
    have hny : ∀ h : y.1 < L.length, (ctL L (y.1 + 1)).length = (ctL L y.1).length + (L.getD ((y.1 : Nat) : Int).toNat []).length := fun h => by rw [ct_next h, List.length_append]; rfl
    refine ev_R tabT [] 1200 ?_
    refine ev_seq ?_
    refine ev_if (fun c11 => ?_) (fun c11 => ?_)
    ·
      refine ev_skip (exS_normal ?_)
      refine ev_seq ?_
      refine ev_block ?_
      refine ev_R tabT [] 1300 ?_
      refine ev_region tabT [] 1400 rfl ?_
      repeat (first | refine sat_same ?_ | refine sat_impA ?_ | refine sat_need (by first | (have := hny c11; simp only [List.length_map]; omega) | first | exact trivial | omega | exact ini (by omega) (by omega) | (intro hh; simp at hh; exact ini (by omega) (by omega)) | (intro hh; simp at hh ⊢; omega) | (simp at *; omega) | (simp_all; done)) ?_)
      refine sat_done (exBl_normal (exS_normal ?_))
      refine ev_Q tabT [] 1500 ?_
      exact exL_normal (⟨y.1 + 1, by omega⟩) ⟨⟨Sub.int (by push_cast; rfl), Sub.own (by rw [ct_next c11, List.map_append]; rfl), le_t⟩, ⟨⟨rfl, rfl, by show _ = (List.map vlD (ctL L (y.1 + 1))).length; rw [ct_next c11]; simp⟩, le_o⟩, rfl, rfl⟩ (by show L.length - (y.1 + 1) < L.length - y.1; omega)
    ·
      refine ev_exit (exS_exit (exL_exit (exBl_same (exS_normal ?_))))
      refine ev_R tabT [] 1600 ?_
      refine ev_ret ?_
      have e : y.1 = L.length := by omega
      exact FinO.ret rfl rfl (by rw [e]) (by rw [e])
theorem opAttempt_ok (h : List Ob) (v : Vl) (s : ByteArray) (l : List Vl) (hh : HpIn h) (g : Uh h) (hv : v.k = 6 → isObj h v.r = true) (hl : l.length ≤ 1000000) : Fn Tryz.prog 17 [hpD md h, .agg (vlD v), .v (.string s), vsD l] (stsD (attS h v s l)) := by
  refine fn_ev tabT Tryz.func17 rfl rfl rfl rfl rfl rfl ?_
  intro w0 s0 mx
  refine ev_R tabT [] 100 ?_
  refine ev_seq (ev_region tabT [] 200 rfl ?_)
  refine sat_go ?_
  refine sat_fn _ (Special_ok _ _ _ (by first | assumption | omega | (simp_all; done)) (by first | assumption | omega | (simp_all; done)) (by first | assumption | omega | (simp_all; done))) rfl ?_
  refine sat_go ?_
  refine sat_done (exS_normal ?_)
  refine ev_seq ?_
  refine ev_R tabT [] 300 ?_
  refine ev_if (fun c2 => ?_) (fun c2 => ?_)
  ·
    refine ev_R tabT [] 400 ?_
    refine ev_ret (exS_ret ?_)
    exact FinV.ret rfl (SubP.nilSl (by rw [attS, if_neg (by simp [c2])]))
  ·
    refine ev_skip (exS_normal ?_)
    refine ev_seq (ev_drawn tabT [26] [[], [], [], [1, 2], [1, 2, 3], [0, 1, 2, 3, 4], [0, 1, 2, 3, 4, 5], [0, 1, 2, 3, 4, 5, 6]] 500 mixT (by kernel_rfl) rfl ?_)
    refine sat_go ?_
    refine sat_fnO _ _ _ ((ConcatV_ok [(spS h v s).2.1, l] (by have := spS_2 h v s; rw [ct_two, List.length_append]; omega) (by show 2 ≤ 1000; omega)).args ⟨SubP.slrSl rfl, trivial⟩) ?_
    refine sat_go ?_
    refine sat_done (exS_normal (ev_ret ?_))
    rw [attS, if_pos (by simpa using c2)]
    exact FinV.ret rfl (SubP.slrRows ⟨by repeat (first | exact trivial | exact SubP.refl _ | exact SubP.nilSl rfl | exact SubP.ownSl (by rw [ct_two]; rfl) | refine ⟨?_, ?_⟩), trivial⟩)
theorem CallOf_ok (f : Vl) (l : List Vl) : Fn Tryz.prog 107 [.agg (vlD f), vsD l] (.agg (stD (caS f l))) := by
  refine fn_ev tabT Tryz.func107 rfl rfl rfl rfl rfl rfl ?_
  intro w0 s0 mx
  refine ev_R tabT [] 100 ?_
  refine ev_R tabT [] 200 ?_
  refine ev_ret ?_
  exact FinV.ret rfl (SubP.agg (by repeat (first | exact trivial | exact SubP.refl _ | exact SubP.nilSl rfl | refine ⟨?_, ?_⟩)))
theorem Specially_ok (h : List Ob) (v : Vl) (s : ByteArray) (l : List Vl) (hh : HpIn h) (g : Uh h) (hv : v.k = 6 → isObj h v.r = true) (hl : l.length ≤ 1000000) : Fn Tryz.prog 58 [hpD md h, .agg (vlD v), .v (.string s), vsD l] (.tup [.agg (stD (caS (spS h v s).1 ((spS h v s).2.1 ++ l))), .v (.bool (spS h v s).2.2)]) := by
  refine fn_ev tabT Tryz.func58 rfl rfl rfl rfl rfl rfl ?_
  intro w0 s0 mx
  refine ev_R tabT [] 100 ?_
  refine ev_seq (ev_region tabT [] 200 rfl ?_)
  refine sat_go ?_
  refine sat_fn _ (Method_ok _ _ _ (by first | assumption | omega | (simp_all; done)) (by first | assumption | omega | (simp_all; done)) (by first | assumption | omega | (simp_all; done))) rfl ?_
  refine sat_go ?_
  refine sat_done (exS_normal ?_)
  refine ev_seq (ev_drawn tabT [25] [[], [], [], [1, 2], [1, 2, 3], [0, 1, 2, 3, 4], [], [0, 1, 2, 3, 4, 5], [0, 1, 2, 3, 4, 5, 6, 7]] 300 mixT (by kernel_rfl) rfl ?_)
  refine sat_go ?_
  refine sat_fnO _ _ _ ((ConcatV_ok [(spS h v s).2.1, l] (by have := spS_2 h v s; rw [ct_two, List.length_append]; omega) (by show 2 ≤ 1000; omega)).args ⟨SubP.slrSl rfl, trivial⟩) ?_
  refine sat_go ?_
  refine sat_fn _ ((CallOf_ok _ ((spS h v s).2.1 ++ l)).args ⟨SubP.refl _, SubP.ownSl (by simp [ctL]), trivial⟩) rfl ?_
  refine sat_go ?_
  refine sat_done (exS_normal (ev_ret ?_))
  exact FinV.ret rfl (SubP.refl _)
theorem attempts_ok (h : List Ob) (v : Vl) (s : ByteArray) (l : List Vl) (hh : HpIn h) (g : Uh h) (hv : v.k = 6 → isObj h v.r = true) (hl : l.length ≤ 1000000) : Fn Tryz.prog 21 [hpD md h, .agg (vlD v), .v (.string s), vsD l] (stsD (attS h v s l)) := by
  refine fn_ev tabT Tryz.func21 rfl rfl rfl rfl rfl rfl ?_
  intro w0 s0 mx
  refine ev_R tabT [] 100 ?_
  refine ev_seq ?_
  refine ev_seq (ev_region tabT [] 200 rfl ?_)
  refine sat_go ?_
  refine sat_fn _ (Specially_ok _ _ _ _ (by first | assumption | omega | (simp_all; done)) (by first | assumption | omega | (simp_all; done)) (by first | assumption | omega | (simp_all; done)) (by first | assumption | omega | (simp_all; done))) rfl ?_
  refine sat_go ?_
  refine sat_done (exS_normal ?_)
  refine ev_R tabT [] 300 ?_
  refine ev_if (fun c2 => ?_) (fun c2 => ?_)
  ·
    refine ev_R tabT [] 400 ?_
    refine ev_ret (exS_ret ?_)
    exact FinV.ret rfl (SubP.slrSl (by rw [attS, if_pos (by simpa using c2)]; rfl))
  ·
    refine ev_skip (exS_normal ?_)
    refine ev_R tabT [] 500 ?_
    refine ev_ret ?_
    exact FinV.ret rfl (SubP.nilSl (by rw [attS, if_neg (by simp [c2])]))
end Go.Proofs.YtcklaaaomjmhgaaGreatDoor


/- Walks by the evaluator: numbers of the document and of the program. -/
namespace Go.Proofs.YtcklaaaomjmhgaaGreatDoor
open Go.RowKit
variable {md me : Bool}
def rD (b : Bool) (n : Nat) : D := .agg [.v (.bool b), natD n]
def qD (b : Bool) (n d : Nat) : D := .agg [.v (.bool b), natD n, natD d]
def zeroB : ByteArray := ⟨#[100, 105, 118, 105, 115, 105, 111, 110, 32, 98, 121, 32, 122, 101, 114, 111]⟩
def flS (c : Int) : St := if c = 0 then st0 else if c = 22 then raS 41 zeroB else raS 42 tooB
def whS (b : Bool) (l : List Nat) (c : Int) : St := if c = 0 then vlS ⟨2, b, l, false, [], ByteArray.empty, 0⟩ else flS c
theorem decN {p q : Prop} [Decidable p] [Decidable q] (h : p ↔ q) : decide p = decide q := decide_eq_decide.2 h
theorem fits_eq (n d : Nat) : (decide (((dig n).length : Int) ≤ 256) && decide (((dig d).length : Int) ≤ 256)) = fitB n d := by rw [fit_dec, fit_dec]; rfl
theorem cmp_ge {a b : Nat} (h : 0 ≤ cmpN a b) : b ≤ a := by
  rcases Nat.lt_or_ge a b with h1 | h1
  · rw [cmp_lt h1] at h; omega
  · exact h1
theorem cmp_le {a b : Nat} (h : ¬ 0 ≤ cmpN a b) : a ≤ b := by
  rcases Nat.lt_or_ge b a with h1 | h1
  · rw [cmp_gt h1] at h; omega
  · exact h1
theorem cmp_nge {a b : Nat} (h : ¬ 0 ≤ cmpN a b) : ¬ b ≤ a := fun h1 => by
  rcases Nat.lt_or_ge b a with h2 | h2
  · rw [cmp_gt h2] at h; omega
  · rw [cmp_eq (by omega)] at h; omega
theorem cmp_one (d : Nat) : (cmpN d 1 = 0) ↔ d = 1 := by
  unfold cmpN
  constructor
  · intro h
    split at h
    · cases h
    · split at h
      · cases h
      · omega
  · rintro rfl; rfl
theorem IntOf3_ok (b : Bool) (l : List Nat) (hg : Lg l) (hl : l.length ≤ 100000000) : Fn Tryz.prog 62 [.agg [.v (.bool b), usD l]] (rD b (VL l)) := by
  refine fn_ev tabT Tryz.func62 rfl rfl rfl rfl rfl rfl ?_
  intro w0 s0 mx
  refine ev_R tabT [] 100 ?_
  refine ev_seq (ev_drawn tabT [] [[], [0], [], [2], [2, 3], [0, 1, 2, 3, 4], [0, 1, 2, 3, 4, 5]] 200 mixT (by kernel_rfl) rfl ?_)
  refine sat_go ?_
  refine sat_fn _ (Of3_ok _ (by first | assumption | omega | (simp_all; done)) (by first | assumption | omega | (simp_all; done))) rfl ?_
  refine sat_go ?_
  refine sat_done (exS_normal (ev_ret ?_))
  exact FinV.ret rfl (SubP.refl _)
theorem RatioOf_ok (b c : Bool) (l m : List Nat) (hg : Lg l) (hl : l.length ≤ 100000000) (hm : Lg m) (hn : m.length ≤ 100000000) : Fn Tryz.prog 60 [.agg [.v (.bool b), usD l, .v (.bool c), usD m]] (qD b (VL l) (VL m)) := by
  refine fn_ev tabT Tryz.func60 rfl rfl rfl rfl rfl rfl ?_
  intro w0 s0 mx
  refine ev_R tabT [] 100 ?_
  refine ev_seq (ev_drawn tabT [] [[], [0], [0, 1], [], [3], [3, 4], [0, 1, 2, 3, 4, 5], [0, 1, 2, 3, 4, 5, 6], [0, 1, 2, 3, 4, 5, 6, 7]] 200 mixT (by kernel_rfl) rfl ?_)
  refine sat_go ?_
  refine sat_fn _ (IntOf3_ok b l hg hl) rfl ?_
  refine sat_go ?_
  refine sat_fn _ (Of3_ok m hm hn) rfl ?_
  refine sat_go ?_
  refine sat_done (exS_normal (ev_ret ?_))
  exact FinV.ret rfl (SubP.refl _)
theorem Whole3_ok (b : Bool) (n : Nat) : Fn Tryz.prog 61 [rD b n] (qD b n 1) := by
  refine fn_ev tabT Tryz.func61 rfl rfl rfl rfl rfl rfl ?_
  intro w0 s0 mx
  refine ev_R tabT [] 100 ?_
  refine ev_seq (ev_drawn tabT [] [[], [], [0, 1], [0, 1, 2]] 200 mixT (by kernel_rfl) rfl ?_)
  refine sat_go ?_
  refine sat_fn _ (Small3_ok 1 (by omega) (by omega)) rfl ?_
  refine sat_go ?_
  refine sat_done (exS_normal (ev_ret ?_))
  exact FinV.ret rfl (SubP.refl _)
theorem IntFits_ok (b : Bool) (n : Nat) (k : Int) (h : 0 ≤ k ∧ k ≤ 1000) : Fn Tryz.prog 141 [rD b n, .v (.int .i64 k)] (.v (.bool (decide (((dig n).length : Int) ≤ 2 * k)))) := by
  refine fn_ev tabT Tryz.func141 rfl rfl rfl rfl rfl rfl ?_
  intro w0 s0 mx
  refine ev_R tabT [] 100 ?_
  refine ev_R tabT [] 200 ?_
  refine ev_ret ?_
  exact FinV.ret rfl (SubP.refl _)
theorem RatioFits_ok (b : Bool) (n d : Nat) : Fn Tryz.prog 112 [qD b n d] (.v (.bool (fitB n d))) := by
  refine fn_ev tabT Tryz.func112 rfl rfl rfl rfl rfl rfl ?_
  intro w0 s0 mx
  refine ev_R tabT [] 100 ?_
  refine ev_seq (ev_region tabT [] 200 rfl ?_)
  refine sat_go ?_
  refine sat_fn _ (IntFits_ok b n 128 (by omega)) rfl ?_
  refine sat_go ?_
  refine sat_done (exS_normal (ev_ret ?_))
  exact FinV.ret rfl (SubP.bool (fits_eq n d))
theorem Whole7b_ok (b : Bool) (n : Nat) (hl : (dig n).length ≤ 100000000) : Fn Tryz.prog 113 [rD b n] (.agg (vlD (ivV b n))) := by
  refine fn_ev tabT Tryz.func113 rfl rfl rfl rfl rfl rfl ?_
  intro w0 s0 mx
  refine ev_R tabT [] 100 ?_
  refine ev_seq (ev_drawn tabT [] [[], [0], [0, 1], [0, 1, 2], [0, 1, 2, 3], [0, 1, 2, 3, 4], [0, 1, 2, 3, 4, 5], [0, 1, 2, 3, 4, 5, 6], [], [8], [0, 1, 2, 8, 9], [0, 1, 2, 3, 4, 5, 6, 7, 8, 9, 10], [0, 1, 2, 3, 4, 5, 6, 7, 8, 9, 10, 11], [0, 1, 2, 3, 4, 5, 6, 7, 8, 9, 10, 11, 12]] 200 mixT (by kernel_rfl) rfl ?_)
  refine sat_go ?_
  refine sat_fn _ (Limbs3_ok _ (by first | assumption | omega | (simp_all; done))) rfl ?_
  refine sat_go ?_
  refine sat_done (exS_normal (ev_ret ?_))
  exact FinV.ret rfl (SubP.agg (by rw [ivV]; exact ⟨SubP.refl _, SubP.bool (by rw [dig_len]), SubP.refl _, SubP.refl _, SubP.nilSl rfl, SubP.refl _, SubP.refl _, trivial⟩))
theorem TooLarge_ok  : Fn Tryz.prog 64 [] (.agg (stD (raS 42 tooB))) := by
  refine fn_ev tabT Tryz.func64 rfl rfl rfl rfl rfl rfl ?_
  intro w0 s0 mx
  refine ev_R tabT [] 100 ?_
  refine ev_seq (ev_region tabT [] 200 rfl ?_)
  refine sat_go ?_
  refine sat_fn _ (Raise_ok _ _) rfl ?_
  refine sat_go ?_
  refine sat_done (exS_normal (ev_ret ?_))
  exact FinV.ret rfl (SubP.refl _)
theorem Value7_ok (b : Bool) (n d : Nat) (hn : (dig n).length ≤ 100000000) (hd : (dig d).length ≤ 100000000) : Fn Tryz.prog 63 [qD b n d] (.tup [.agg (vlD (if fitB n d = true then raV b n d else vl0)), .v (.bool (fitB n d))]) := by
  refine fn_ev tabT Tryz.func63 rfl rfl rfl rfl rfl rfl ?_
  intro w0 s0 mx
  refine ev_R tabT [] 100 ?_
  refine ev_seq ?_
  refine ev_seq (ev_region tabT [] 200 rfl ?_)
  refine sat_go ?_
  refine sat_fn _ (RatioFits_ok _ _ _) rfl ?_
  refine sat_go ?_
  refine sat_done (exS_normal ?_)
  refine ev_if (fun c1 => ?_) (fun c1 => ?_)
  ·
    refine ev_R tabT [] 300 ?_
    refine ev_ret (exS_ret ?_)
    have e1 : fitB n d = false := by simpa using c1
    exact FinV.ret rfl (SubP.tup ⟨SubP.agg (by rw [if_neg (by rw [e1]; decide)]; repeat (first | exact trivial | exact SubP.refl _ | exact SubP.nilSl rfl | refine ⟨?_, ?_⟩)), SubP.bool e1.symm, trivial⟩)
  ·
    refine ev_skip (exS_normal ?_)
    refine ev_seq (ev_region tabT [] 400 rfl ?_)
    refine sat_go ?_
    refine sat_fn _ (Whole7b_ok b n hn) rfl ?_
    refine sat_go ?_
    refine sat_done (exS_normal ?_)
    refine ev_seq ?_
    refine ev_seq (ev_drawn tabT [] [[], [0], [], [0, 1, 2], [0, 1, 2, 3]] 500 mixT (by kernel_rfl) rfl ?_)
    refine sat_go ?_
    refine sat_fn _ (Small3_ok 1 (by omega) (by omega)) rfl ?_
    refine sat_go ?_
    refine sat_fn _ (Compare3_ok d 1 hd (by decide +kernel)) rfl ?_
    refine sat_go ?_
    refine sat_done (exS_normal ?_)
    refine ev_if (fun c4 => ?_) (fun c4 => ?_)
    ·
      refine ev_region tabT [] 600 rfl ?_
      refine sat_go ?_
      refine sat_fn _ (Limbs3_ok _ (by first | assumption | omega | (simp_all; done))) rfl ?_
      refine sat_go ?_
      refine sat_done (exS_normal ?_)
      refine ev_R tabT [] 700 ?_
      refine ev_ret ?_
      have e1 : fitB n d = true := by simpa using c1
      have e2 : ¬ d = 1 := fun e => absurd ((cmp_one d).2 e) (by omega)
      exact FinV.ret rfl (SubP.tup ⟨SubP.agg (by rw [if_pos e1, raV, if_neg e2]; repeat (first | exact trivial | exact SubP.refl _ | exact SubP.nilSl rfl | refine ⟨?_, ?_⟩)), SubP.bool e1.symm, trivial⟩)
    ·
      refine ev_skip (exS_normal ?_)
      refine ev_R tabT [] 700 ?_
      refine ev_ret ?_
      have e1 : fitB n d = true := by simpa using c1
      have e2 : d = 1 := (cmp_one d).1 (by omega)
      exact FinV.ret rfl (SubP.tup ⟨SubP.agg (by rw [if_pos e1, raV, if_pos e2, ivV]; repeat (first | exact trivial | exact SubP.refl _ | exact SubP.nilSl rfl | refine ⟨?_, ?_⟩)), SubP.bool e1.symm, trivial⟩)
theorem number7_ok (b : Bool) (n d : Nat) (hn : (dig n).length ≤ 100000000) (hd : (dig d).length ≤ 100000000) : Fn Tryz.prog 26 [qD b n d] (.agg (stD (nuS b n d))) := by
  refine fn_ev tabT Tryz.func26 rfl rfl rfl rfl rfl rfl ?_
  intro w0 s0 mx
  refine ev_R tabT [] 100 ?_
  refine ev_seq (ev_region tabT [] 200 rfl ?_)
  refine sat_go ?_
  refine sat_fn _ (Value7_ok _ _ _ (by first | assumption | omega | (simp_all; done)) (by first | assumption | omega | (simp_all; done))) rfl ?_
  refine sat_go ?_
  refine sat_done (exS_normal ?_)
  refine ev_seq ?_
  refine ev_R tabT [] 300 ?_
  refine ev_if (fun c2 => ?_) (fun c2 => ?_)
  ·
    refine ev_seq (ev_region tabT [] 400 rfl ?_)
    refine sat_go ?_
    refine sat_fn _ (TooLarge_ok) rfl ?_
    refine sat_go ?_
    refine sat_done (exS_normal (ev_ret (exS_ret ?_)))
    have e1 : fitB n d = false := by simpa using c2
    exact FinV.ret rfl (SubP.of_eq (by rw [nuS, if_neg (by rw [e1]; decide)]; rfl))
  ·
    refine ev_skip (exS_normal ?_)
    refine ev_seq (ev_region tabT [] 500 rfl ?_)
    refine sat_go ?_
    refine sat_fn _ (Result_ok _) rfl ?_
    refine sat_go ?_
    refine sat_done (exS_normal (ev_ret ?_))
    have e1 : fitB n d = true := by simpa using c2
    exact FinV.ret rfl (SubP.of_eq (by rw [nuS, if_pos e1, if_pos e1]; rfl))
theorem integer7_ok (b : Bool) (n : Nat) (hn : (dig n).length ≤ 100000000) : Fn Tryz.prog 28 [rD b n] (.agg (stD (nuS b n 1))) := by
  refine fn_ev tabT Tryz.func28 rfl rfl rfl rfl rfl rfl ?_
  intro w0 s0 mx
  refine ev_R tabT [] 100 ?_
  refine ev_seq (ev_region tabT [] 200 rfl ?_)
  refine sat_go ?_
  refine sat_fn _ (Whole3_ok b n) rfl ?_
  refine sat_go ?_
  refine sat_fn _ (number7_ok b n 1 hn (by decide +kernel)) rfl ?_
  refine sat_go ?_
  refine sat_done (exS_normal (ev_ret ?_))
  exact FinV.ret rfl (SubP.refl _)
theorem IntMinus_ok (b : Bool) (n : Nat) : Fn Tryz.prog 27 [rD b n] (rD (!b && decide (0 < n)) n) := by
  refine fn_ev tabT Tryz.func27 rfl rfl rfl rfl rfl rfl ?_
  intro w0 s0 mx
  refine ev_R tabT [] 100 ?_
  refine ev_R tabT [] 200 ?_
  refine ev_ret ?_
  exact FinV.ret rfl (SubP.agg ⟨SubP.bool (by rw [dig_len]), SubP.refl _, trivial⟩)
theorem IntPlus_ok (b1 b2 : Bool) (n1 n2 : Nat) (h1 : (dig n1).length ≤ 100000000) (h2 : (dig n2).length ≤ 100000000) : Fn Tryz.prog 30 [rD b1 n1, rD b2 n2] (rD (plB b1 n1 b2 n2).1 (plB b1 n1 b2 n2).2) := by
  refine fn_ev tabT Tryz.func30 rfl rfl rfl rfl rfl rfl ?_
  intro w0 s0 mx
  refine ev_R tabT [] 100 ?_
  refine ev_seq ?_
  refine ev_block ?_
  refine ev_R tabT [] 200 ?_
  refine ev_if (fun c1 => ?_) (fun c1 => ?_)
  ·
    refine ev_seq (ev_drawn tabT [] [[], [0], [], [2], [], [4], [2, 3, 4, 5], [0, 1, 2, 3, 4, 5, 6], [0, 1, 2, 3, 4, 5, 6, 7]] 300 mixT (by kernel_rfl) rfl ?_)
    refine sat_go ?_
    refine sat_fn _ (Plus3_ok n1 n2 h1 h2) rfl ?_
    refine sat_go ?_
    refine sat_done (exS_normal (ev_ret (exBl_ret (exS_ret ?_))))
    exact FinV.ret rfl (SubP.of_eq (by rw [plB, if_pos (by simpa using c1)]; rfl))
  ·
    refine ev_seq (ev_region tabT [] 400 rfl ?_)
    refine sat_go ?_
    refine sat_fn _ (Compare3_ok _ _ (by first | assumption | omega | (simp_all; done)) (by first | assumption | omega | (simp_all; done))) rfl ?_
    refine sat_go ?_
    refine sat_done (exS_normal ?_)
    refine ev_if (fun c3 => ?_) (fun c3 => ?_)
    ·
      refine ev_seq (ev_drawn tabT [] [[], [0], [], [2], [], [4], [2, 3, 4, 5], [0, 1, 2, 3, 4, 5, 6], [0, 1, 2, 3, 4, 5, 6, 7]] 500 mixT (by kernel_rfl) rfl ?_)
      refine sat_go ?_
      refine sat_fn _ (Minus3_ok n1 n2 (cmp_ge (by omega)) h1) rfl ?_
      refine sat_go ?_
      refine sat_done (exS_normal (ev_ret (exBl_ret (exS_ret ?_))))
      exact FinV.ret rfl (SubP.of_eq (by rw [plB, if_neg (by simpa using c1), if_pos (cmp_ge (by omega))]; rfl))
    ·
      refine ev_skip (exBl_normal (exS_normal ?_))
      refine ev_seq (ev_drawn tabT [] [[], [0], [], [2], [], [4], [2, 3, 4, 5], [0, 1, 2, 3, 4, 5, 6], [0, 1, 2, 3, 4, 5, 6, 7]] 600 mixT (by kernel_rfl) rfl ?_)
      refine sat_go ?_
      refine sat_fn _ (Minus3_ok n2 n1 (cmp_le (by omega)) h2) rfl ?_
      refine sat_go ?_
      refine sat_done (exS_normal (ev_ret ?_))
      exact FinV.ret rfl (SubP.of_eq (by rw [plB, if_neg (by simpa using c1), if_neg (cmp_nge (by omega))]; rfl))
theorem I7_ok (v : Vl) (hg : Lg v.nl) (hl : v.nl.length ≤ 100000000) : Fn Tryz.prog 29 [.agg (vlD v)] (rD v.nn (VL v.nl)) := by
  refine fn_ev tabT Tryz.func29 rfl rfl rfl rfl rfl rfl ?_
  intro w0 s0 mx
  refine ev_R tabT [] 100 ?_
  refine ev_seq (ev_region tabT [] 200 rfl ?_)
  refine sat_go ?_
  refine sat_fn _ (IntOf3_ok _ _ (by first | assumption | omega | (simp_all; done)) (by first | assumption | omega | (simp_all; done))) rfl ?_
  refine sat_go ?_
  refine sat_done (exS_normal (ev_ret ?_))
  exact FinV.ret rfl (SubP.refl _)
theorem Number7_ok (v : Vl) (hg : Lg v.nl) (hl : v.nl.length ≤ 100000000) (hm : Lg v.dl) (hn : v.dl.length ≤ 100000000) : Fn Tryz.prog 25 [.agg (vlD v)] (qD v.nn (VL v.nl) (if v.k = 3 then VL v.dl else 1)) := by
  refine fn_ev tabT Tryz.func25 rfl rfl rfl rfl rfl rfl ?_
  intro w0 s0 mx
  refine ev_R tabT [] 100 ?_
  refine ev_seq ?_
  refine ev_R tabT [] 200 ?_
  refine ev_if (fun c1 => ?_) (fun c1 => ?_)
  ·
    refine ev_seq (ev_region tabT [] 300 rfl ?_)
    refine sat_go ?_
    refine sat_fn _ (RatioOf_ok v.nn v.dn v.nl v.dl hg hl hm hn) rfl ?_
    refine sat_go ?_
    refine sat_done (exS_normal (ev_ret (exS_ret ?_)))
    exact FinV.ret rfl (SubP.of_eq (by rw [if_pos (by simpa using c1)]; rfl))
  ·
    refine ev_skip (exS_normal ?_)
    refine ev_seq (ev_region tabT [] 400 rfl ?_)
    refine sat_go ?_
    refine sat_fn _ (IntOf3_ok v.nn v.nl hg hl) rfl ?_
    refine sat_go ?_
    refine sat_fn _ (Whole3_ok _ _) rfl ?_
    refine sat_go ?_
    refine sat_done (exS_normal (ev_ret ?_))
    exact FinV.ret rfl (SubP.of_eq (by rw [if_neg (by simpa using c1)]; rfl))
theorem IsNumber_ok (v : Vl) : Fn Tryz.prog 23 [.agg (vlD v)] (.v (.bool (decide (v.k = 2) || decide (v.k = 3)))) := by
  refine fn_ev tabT Tryz.func23 rfl rfl rfl rfl rfl rfl ?_
  intro w0 s0 mx
  refine ev_R tabT [] 100 ?_
  refine ev_R tabT [] 200 ?_
  refine ev_ret ?_
  exact FinV.ret rfl (SubP.refl _)
theorem opValue_ok (v : Vl) : Fn Tryz.prog 53 [.agg (vlD v)] (.agg (stD (vlS v))) := by
  refine fn_ev tabT Tryz.func53 rfl rfl rfl rfl rfl rfl ?_
  intro w0 s0 mx
  refine ev_R tabT [] 100 ?_
  refine ev_R tabT [] 200 ?_
  refine ev_ret ?_
  exact FinV.ret rfl (SubP.agg (by repeat (first | exact trivial | exact SubP.refl _ | exact SubP.nilSl rfl | refine ⟨?_, ?_⟩)))
theorem opRaise_ok (c : Int) (s : ByteArray) : Fn Tryz.prog 19 [.v (.int .i64 c), .v (.string s)] (.agg (stD (raS c s))) := by
  refine fn_ev tabT Tryz.func19 rfl rfl rfl rfl rfl rfl ?_
  intro w0 s0 mx
  refine ev_R tabT [] 100 ?_
  refine ev_R tabT [] 200 ?_
  refine ev_ret ?_
  exact FinV.ret rfl (SubP.agg (by repeat (first | exact trivial | exact SubP.refl _ | exact SubP.nilSl rfl | refine ⟨?_, ?_⟩)))
theorem opLimit_ok  : Fn Tryz.prog 135 [] (.agg (stD (raS 42 tooB))) := by
  refine fn_ev tabT Tryz.func135 rfl rfl rfl rfl rfl rfl ?_
  intro w0 s0 mx
  refine ev_R tabT [] 100 ?_
  refine ev_seq (ev_region tabT [] 200 rfl ?_)
  refine sat_go ?_
  refine sat_fn _ (opRaise_ok _ _) rfl ?_
  refine sat_go ?_
  refine sat_done (exS_normal (ev_ret ?_))
  exact FinV.ret rfl (SubP.refl _)
theorem opFailed_ok (c i : Int) : Fn Tryz.prog 101 [faD c i] (.tup [.agg (stD (flS c)), .v (.bool (decide (¬ c = 0)))]) := by
  refine fn_ev tabT Tryz.func101 rfl rfl rfl rfl rfl rfl ?_
  intro w0 s0 mx
  refine ev_R tabT [] 100 ?_
  refine ev_seq ?_
  refine ev_R tabT [] 200 ?_
  refine ev_block ?_
  refine ev_R tabT [] 300 ?_
  refine ev_if (fun c2 => ?_) (fun c2 => ?_)
  ·
    refine ev_R tabT [] 400 ?_
    refine ev_ret (exBl_ret (exS_ret ?_))
    exact FinV.ret rfl (SubP.tup ⟨SubP.agg (by rw [flS, if_pos c2]; repeat (first | exact trivial | exact SubP.refl _ | exact SubP.nilSl rfl | refine ⟨?_, ?_⟩)), SubP.bool (by simp [c2]), trivial⟩)
  ·
    refine ev_R tabT [] 500 ?_
    refine ev_if (fun c4 => ?_) (fun c4 => ?_)
    ·
      refine ev_seq (ev_region tabT [] 600 rfl ?_)
      refine sat_go ?_
      refine sat_fn _ (opRaise_ok _ _) rfl ?_
      refine sat_go ?_
      refine sat_done (exS_normal (ev_ret (exBl_ret (exS_ret ?_))))
      exact FinV.ret rfl (SubP.tup ⟨SubP.of_eq (by rw [flS, if_neg c2, if_pos c4]; rfl), SubP.bool (by simp [c2]), trivial⟩)
    ·
      refine ev_skip (exBl_normal (exS_normal ?_))
      refine ev_seq (ev_region tabT [] 700 rfl ?_)
      refine sat_go ?_
      refine sat_fn _ (opLimit_ok) rfl ?_
      refine sat_go ?_
      refine sat_done (exS_normal (ev_ret ?_))
      exact FinV.ret rfl (SubP.tup ⟨SubP.of_eq (by rw [flS, if_neg c2, if_neg c4]; rfl), SubP.bool (by simp [c2]), trivial⟩)
theorem opWhole_ok (b : Bool) (l : List Nat) (c i : Int) : Fn Tryz.prog 55 [.agg [.v (.bool b), usD l], faD c i] (.agg (stD (whS b l c))) := by
  refine fn_ev tabT Tryz.func55 rfl rfl rfl rfl rfl rfl ?_
  intro w0 s0 mx
  refine ev_R tabT [] 100 ?_
  refine ev_seq ?_
  refine ev_seq (ev_region tabT [] 200 rfl ?_)
  refine sat_go ?_
  refine sat_fn _ (opFailed_ok _ _) rfl ?_
  refine sat_go ?_
  refine sat_done (exS_normal ?_)
  refine ev_R tabT [] 300 ?_
  refine ev_if (fun c2 => ?_) (fun c2 => ?_)
  ·
    refine ev_R tabT [] 400 ?_
    refine ev_ret (exS_ret ?_)
    exact FinV.ret rfl (SubP.of_eq (by rw [whS, if_neg (by simpa using c2)]; rfl))
  ·
    refine ev_skip (exS_normal ?_)
    refine ev_seq (ev_region tabT [] 500 rfl ?_)
    refine sat_go ?_
    refine sat_fn _ ((opValue_ok ⟨2, b, l, false, [], ByteArray.empty, 0⟩).args ⟨SubP.agg (by repeat (first | exact trivial | exact SubP.refl _ | exact SubP.nilSl rfl | refine ⟨?_, ?_⟩)), trivial⟩) rfl ?_
    refine sat_go ?_
    refine sat_done (exS_normal (ev_ret ?_))
    exact FinV.ret rfl (SubP.of_eq (by rw [whS, if_pos (by simpa using c2)]; rfl))
end Go.Proofs.YtcklaaaomjmhgaaGreatDoor


/- Walks by the evaluator: unary operators. -/
namespace Go.Proofs.YtcklaaaomjmhgaaGreatDoor
open Go.RowKit
variable {md me : Bool}
def unS (op : Int) (v : Vl) : St × Bool := if op = 2 ∧ (v.k = 2 ∨ v.k = 3) then (vlS v, true) else if op = 1 ∧ (v.k = 2 ∨ v.k = 3) then (vlS (ngV v), true) else if op = 3 ∧ v.k = 2 then (ntS v.nn v.nl, true) else (st0, false)
def plnD (l : List St) (s : St) : D := .agg (stsD l :: stD s)
def onB : ByteArray := ⟨#[111, 110, 95]⟩
def unN (op : Int) : ByteArray := if op = 1 then ⟨#[110, 101, 103]⟩ else if op = 2 then ⟨#[112, 111, 115]⟩ else ⟨#[105, 110, 118, 101, 114, 116]⟩
def unG (op : Int) : ByteArray := if op = 1 then ⟨#[45]⟩ else if op = 2 then ⟨#[43]⟩ else ⟨#[126]⟩
def unT (h : List Ob) (op : Int) (v : Vl) : ByteArray := ((((⟨#[99, 97, 110, 110, 111, 116, 32, 97, 112, 112, 108, 121, 32, 39]⟩ ++ unG op) ++ ⟨#[39, 32, 116, 111, 32, 39]⟩) ++ (obAt h (clA h v)).name) ++ ⟨#[39]⟩)
def unL (h : List Ob) (op : Int) (v : Vl) : St := if (unS op v).2 = true then (unS op v).1 else raS 32 (unT h op v)
theorem num_ok {v : Vl} (hg : Lg v.nl) (hv : vokS v = true) (hk : v.k = 2 ∨ v.k = 3) : intOk v.nn v.nl = true ∧ v.nl.length ≤ 128 ∧ (v.nn = true → 0 < VL v.nl) := by
  have h : intOk v.nn v.nl = true := by
    rcases hk with hk | hk
    · exact (vok2 hk hv).1
    · exact (vok3 hk hv).1
  obtain ⟨h1, h2, h3⟩ := int_ok hg h
  refine ⟨h, h3, fun hn => ?_⟩
  rw [hn] at h2
  have := of_decide_eq_true h2.symm
  unfold ZI at this
  simp at this
  omega
theorem sg_b {b : Bool} {l : List Nat} (h : l.length ≤ 128) : sgB b l = (b && decide (0 < l.length)) := by
  rw [sgB, if_pos h, decN (q := 0 < l.length) (by omega)]
theorem sg_l {l : List Nat} (h : l.length ≤ 128) : sgL l = l := if_pos h
theorem nt_eq (b : Bool) (n : Nat) : whS (sgB b (lim n)) (sgL (lim n)) (sgC (lim n)) = nuS b n 1 := by
  by_cases h : (lim n).length ≤ 128
  · rw [whS, sgC, if_pos h, if_pos rfl, nuS, if_pos (by rw [fitB, decide_eq_true h]; decide +kernel), raV, if_pos rfl, ivV, sg_b h, sg_l h, decN (p := 0 < (lim n).length) (q := 0 < n) (by have := lim_len (n := n); have := decide_eq_decide.1 this; omega)]
  · rw [whS, sgC, if_neg h, if_neg (by decide), flS, if_neg (by decide), if_neg (by decide), nuS, if_neg (by rw [fitB, decide_eq_false h]; decide)]
theorem unaries_ok  : Fn Tryz.prog 16 [] (.agg [.v (.string (unG 1)), .v (.string (unN 1)), .v (.string (unG 2)), .v (.string (unN 2)), .v (.string (unG 3)), .v (.string (unN 3))]) := by
  refine fn_ev tabT Tryz.func16 rfl rfl rfl rfl rfl rfl ?_
  intro w0 s0 mx
  refine ev_R tabT [] 100 ?_
  refine ev_R tabT [] 200 ?_
  refine ev_ret ?_
  exact FinV.ret rfl (SubP.refl _)
theorem opUnary_ok (op : Int) (v : Vl) (hg : Lg v.nl) (hv : vokS v = true) : Fn Tryz.prog 18 [.v (.int .i64 op), .agg (vlD v)] (.tup [.agg (stD (unS op v).1), .v (.bool (unS op v).2)]) := by
  refine fn_ev tabT Tryz.func18 rfl rfl rfl rfl rfl rfl ?_
  intro w0 s0 mx
  refine ev_R tabT [] 100 ?_
  refine ev_seq ?_
  refine ev_block ?_
  refine ev_R tabT [] 200 ?_
  refine ev_if (fun c1 => ?_) (fun c1 => ?_)
  ·
    refine ev_seq (ev_region tabT [] 300 rfl ?_)
    refine sat_go ?_
    refine sat_fn _ (opValue_ok _) rfl ?_
    refine sat_go ?_
    refine sat_done (exS_normal (ev_ret (exBl_ret (exS_ret ?_))))
    rw [unS, if_pos c1]
    exact FinV.ret rfl (SubP.refl _)
  ·
    refine ev_R tabT [] 400 ?_
    refine ev_if (fun c3 => ?_) (fun c3 => ?_)
    ·
      have hn := num_ok hg hv c3.2
      refine ev_seq (ev_region tabT [] 500 rfl ?_)
      refine sat_go ?_
      refine sat_fn _ (intNeg_ok _ _ hn.1 (by omega)) rfl ?_
      refine sat_go ?_
      refine sat_done (exS_normal ?_)
      refine ev_R tabT [] 600 ?_
      refine ev_seq (ev_region tabT [] 700 rfl ?_)
      refine sat_go ?_
      refine sat_fn _ ((opValue_ok (ngV v)).args ⟨SubP.agg (by show SubPs _ (vlD (ngV v)); refine ⟨SubP.refl _, SubP.bool (sg_b hn.2.1), SubP.of_eq (by show usD (sgL v.nl) = _; rw [sg_l hn.2.1]; rfl), SubP.refl _, SubP.refl _, SubP.refl _, SubP.refl _, trivial⟩), trivial⟩) rfl ?_
      refine sat_go ?_
      refine sat_done (exS_normal (ev_ret (exBl_ret (exS_ret ?_))))
      rw [unS, if_neg (by simpa using c1), if_pos c3]
      exact FinV.ret rfl (SubP.refl _)
    ·
      refine ev_R tabT [] 800 ?_
      refine ev_if (fun c7 => ?_) (fun c7 => ?_)
      ·
        have hn := num_ok hg hv (.inl c7.2)
        refine ev_seq (ev_region tabT [] 900 rfl ?_)
        refine sat_go ?_
        refine sat_fn _ (intNot_ok _ _ hg (by omega) hn.1 hn.2.2) rfl ?_
        refine sat_go ?_
        refine sat_fn _ (opWhole_ok _ _ _ _) rfl ?_
        refine sat_go ?_
        refine sat_done (exS_normal (ev_ret (exBl_ret (exS_ret ?_))))
        rw [unS, if_neg (by simpa using c1), if_neg (by simpa using c3), if_pos c7]
        exact FinV.ret rfl (SubP.tup ⟨SubP.of_eq (by rw [ntS, ← nt_eq]; rfl), SubP.refl _, trivial⟩)
      ·
        refine ev_skip (exBl_normal (exS_normal ?_))
        refine ev_R tabT [] 1000 ?_
        refine ev_ret ?_
        rw [unS, if_neg (by simpa using c1), if_neg (by simpa using c3), if_neg (by simpa using c7)]
        exact FinV.ret rfl (SubP.tup ⟨SubP.agg (by repeat (first | exact trivial | exact SubP.refl _ | exact SubP.nilSl rfl | refine ⟨?_, ?_⟩)), SubP.refl _, trivial⟩)
end Go.Proofs.YtcklaaaomjmhgaaGreatDoor


/- Walks by the evaluator: a copy of a heap. -/
namespace Go.Proofs.YtcklaaaomjmhgaaGreatDoor
open Go.RowKit
variable {md me : Bool}
theorem tk_next {α : Type} {f : α → List D} {l : List α} {k : Nat} (e : α) (h : k < l.length) : (l.take (k + 1)).map f = (l.take k).map f ++ [f (l.getD ((k : Nat) : Int).toNat e)] := by
  rw [List.take_add_one, List.getElem?_eq_getElem h, List.map_append, Int.toNat_natCast, List.getD_eq_getElem?_getD, List.getElem?_eq_getElem h]
  rfl
theorem tk_len {α : Type} {l : List α} {k : Nat} (h : k < l.length) : (l.take (k + 1)).length = (l.take k).length + 1 := by
  rw [List.length_take, List.length_take]; omega
theorem mem_at {α : Type} {l : List α} {k : Nat} (e : α) (h : k < l.length) : l.getD ((k : Nat) : Int).toNat e ∈ l := by
  rw [Int.toNat_natCast, List.getD_eq_getElem?_getD, List.getElem?_eq_getElem h]; exact List.getElem_mem _
theorem ob_own (o : Ob) (a b c d e : Nat) : D.pvs [.v (.int .i64 o.kind), .v (.string o.name), .v (.int .i64 o.cls), .own a 1 (o.refs.map iD), .own b 1 (o.order.map iD), .own c 1 (o.names.map sD), .own d 7 (o.items.map vlD), .own e 7 (o.keys.map vlD), .v (.int .i64 o.code), .v (.int .i64 o.state)] = D.pvs (obD o) := by
  simp only [obD, D.pvs, D.pv, pvss_map, List.map_map]
  rfl
theorem pvss_snoc {a : List (List D)} {r : List D} : D.pvss (a ++ [r]) = D.pvss a ++ [D.pvs r] := by rw [pvss_map, pvss_map, List.map_append]; rfl
theorem copied_ok (l : List Vl) (hl : l.length ≤ 2000000) (hv : ∀ v ∈ l, VlIn v) : FnO Tryz.prog 14 [vsD l] 29 7 (l.map vlD) := by
  refine fnO_ev Tryz.func14 rfl rfl rfl rfl rfl rfl ?_
  intro w0 s0 mx
  refine ev_R tabT [] 100 ?_
  refine ev_R tabT [] 200 ?_
  refine ev_nilRow 3 29 7 rfl ?_
  refine ev_seq ?_
  refine ev_R tabT [] 300 ?_
  refine ev_block ?_
  refine ev_loopK (ι := {k : Nat // k ≤ l.length}) [6, 7] [] 350 (fun x => [(8, .v (.int .i64 x.1)), (3, .own 200 7 ((l.take x.1).map vlD))]) (fun x => [(200, .row 29 7 ((l.take x.1).map vlD).length)]) (fun x => l.length - x.1) ⟨0, Nat.zero_le _⟩ ?_
  refine ⟨⟨le_t, le_o, rfl, rfl⟩, fun x => ?_⟩
  have hk : x.1 ≤ l.length := x.2
  refine ev_R tabT [] 400 ?_
  refine ev_seq ?_
  refine ev_if (fun c3 => ?_) (fun c3 => ?_)
  ·
    refine ev_skip (exS_normal ?_)
    refine ev_seq ?_
    refine ev_block ?_
    have hvk : VlIn (l.getD ((x.1 : Nat) : Int).toNat vl0) := hv _ (mem_at vl0 c3)
    refine ev_R tabT [] 500 ?_
    refine ev_seq (ev_drawn tabT [15, 19] [[], [0], [0, 1], [0, 1, 2], [], [4], [4, 5], [0, 1, 2, 3, 4, 5, 6], [0, 1, 2, 3, 4, 5, 6], [0, 1, 2, 3, 4, 5, 6, 8], [0, 1, 2, 3, 4, 5, 6, 7, 8, 9], [0, 1, 2, 3, 4, 5, 6, 7, 8, 9, 10], [0, 1, 2, 3, 4, 5, 6, 7, 8, 9, 10, 11], [0, 1, 2, 3, 4, 5, 6, 7, 8, 9, 10, 11, 12]] 600 mixT (by kernel_rfl) rfl ?_)
    refine sat_go ?_
    refine sat_fnO _ _ _ (CloneU_ok _ hvk.nn) ?_
    refine sat_go ?_
    refine sat_fnO _ _ _ (CloneU_ok _ hvk.dn) ?_
    refine sat_go ?_
    refine sat_done (exS_normal ?_)
    refine ev_region tabT [] 700 rfl ?_
    repeat (first | refine sat_same ?_ | refine sat_impA ?_ | refine sat_need (by first | rfl | (simp only [List.length_map, List.length_take, List.length_cons, List.length_nil]; omega) | first | exact trivial | omega | exact ini (by omega) (by omega) | (intro hh; simp at hh; exact ini (by omega) (by omega)) | (intro hh; simp at hh ⊢; omega) | (simp at *; omega) | (simp_all; done)) ?_)
    refine sat_done (exBl_normal (exS_normal ?_))
    refine ev_Q tabT [] 800 ?_
    exact exL_normal (⟨x.1 + 1, by omega⟩) ⟨⟨Sub.int (by push_cast; rfl), Sub.ownRows (by rw [tk_next vl0 c3]; exact (RowsP.refl _).append ⟨⟨SubP.refl _, SubP.refl _, SubP.ownSl rfl, SubP.refl _, SubP.ownSl rfl, SubP.refl _, SubP.refl _, trivial⟩, trivial⟩), le_t⟩, ⟨⟨rfl, rfl, by simp only [List.length_append, List.length_map]; rw [tk_len c3]; rfl⟩, le_o⟩, rfl, rfl⟩ (by show l.length - (x.1 + 1) < l.length - x.1; omega)
  ·
    refine ev_exit (exS_exit (exL_exit (exBl_same (exS_normal ?_))))
    refine ev_R tabT [] 900 ?_
    refine ev_ret ?_
    have e : l.take x.1 = l := List.take_of_length_le (by omega)
    exact FinO.ret rfl rfl (by rw [e]) (by rw [e])
theorem Copy_G (h : List Ob) (hh : HpIn h) : FnG Tryz.prog 5 [hpD md h] [] (.agg [.mo 0 h.length]) [.mrow 51 10 (.map h obD ob0)] := by
  have hhl := hh.len
  refine fnH_ev tabT Tryz.func5 rfl rfl rfl rfl rfl rfl rfl ?_
  intro w0 s0 mx
  refine ev_R tabT [] 100 ?_
  refine ev_R tabT [] 200 ?_
  refine ev_nilCell 100 0 51 10 rfl rfl ?_
  refine ev_seq ?_
  refine ev_thaw 200 rfl ?_
  refine ev_R tabT [] 300 ?_
  refine ev_block ?_
  refine ev_loopK (ι := {k : Nat // k ≤ h.length}) [2, 3, 7, 8] [1] 350 (fun x => [(9, .v (.int .i64 x.1))]) (fun x => [(100, .box 24 [.mo 200 (h.take x.1).length]), (200, .mrow 51 10 (.map (h.take x.1) obD ob0))]) (fun x => h.length - x.1) ⟨0, Nat.zero_le _⟩ ?_
  refine ⟨⟨le_t, ⟨⟨rfl, Sub.mo rfl, rfl, trivial⟩, SubO.mr rfl, le_o⟩, rfl, rfl⟩, fun x => ?_⟩
  have hk : x.1 ≤ h.length := x.2
  refine ev_R tabT [] 400 ?_
  refine ev_seq ?_
  refine ev_if (fun c3 => ?_) (fun c3 => ?_)
  ·
    refine ev_skip (exS_normal ?_)
    refine ev_seq ?_
    refine ev_block ?_
    have hob : ObIn (h.getD ((x.1 : Nat) : Int).toNat ob0) := hh.ob _ (mem_at ob0 c3)
    refine ev_R tabT [] 500 ?_
    refine ev_seq (ev_drawn tabT [15, 18, 21] [[], [0], [0, 1], [], [3], [0, 1, 2, 3, 4], [], [6], [0, 1, 2, 3, 4, 5, 6, 7], [0, 1, 2, 3, 4, 6, 7], [0, 1, 2, 3, 4, 5, 6, 7, 8, 9], [0, 1, 2, 3, 4, 5, 6, 7, 8, 9, 10], [0, 1, 2, 3, 4, 5, 6, 7, 8, 9, 10, 11], [0, 1, 2, 3, 4, 5, 6, 7, 8, 9, 10, 11, 12], [0, 1, 2, 3, 4, 5, 6, 7, 8, 9, 10, 11, 12, 13]] 600 mixT (by kernel_rfl) rfl ?_)
    refine sat_go ?_
    refine sat_fnO _ _ _ (CloneI_ok _ hob.rl) ?_
    refine sat_go ?_
    refine sat_fnO _ _ _ (CloneI_ok _ hob.ol) ?_
    refine sat_go ?_
    refine sat_fnO _ _ _ (CloneS_ok _ hob.nl) ?_
    refine sat_go ?_
    refine sat_done (exS_normal ?_)
    refine ev_seq (ev_drawn tabT [27, 30] [[], [0], [0, 1], [], [3], [0, 1, 2, 3, 4], [0, 1, 2, 3, 4], [0, 1, 2, 3, 4, 5, 6], [0, 1, 2, 3, 4, 5, 6, 7], [0, 1, 2, 3, 4, 5, 6, 7, 8]] 700 mixT (by kernel_rfl) rfl ?_)
    refine sat_go ?_
    refine sat_fnO _ _ _ (copied_ok _ hob.il hob.iv) ?_
    refine sat_go ?_
    refine sat_fnO _ _ _ (copied_ok _ hob.kl hob.kv) ?_
    refine sat_go ?_
    refine sat_done (exS_normal ?_)
    refine ev_region tabT [] 800 rfl ?_
    repeat (first | refine sat_same ?_ | refine sat_impA ?_ | refine sat_need (by first | rfl | (simp only [MR.len, List.length_take, List.length_cons, List.length_nil]; have := hh.len; omega) | first | exact trivial | omega | exact ini (by omega) (by omega) | (intro hh; simp at hh; exact ini (by omega) (by omega)) | (intro hh; simp at hh ⊢; omega) | (simp at *; omega) | (simp_all; done)) ?_)
    refine sat_done (exBl_normal (exS_normal ?_))
    refine ev_Q tabT [] 900 ?_
    exact exL_normal (⟨x.1 + 1, by omega⟩) ⟨⟨Sub.int (by push_cast; rfl), le_t⟩, ⟨⟨rfl, Sub.mo (by rw [tk_len c3]; rfl), rfl, trivial⟩, SubO.mp (by show D.pvss (List.map obD _ ++ [_]) = D.pvss (List.map obD _); rw [tk_next ob0 c3, pvss_snoc, pvss_snoc, ob_own]), le_o⟩, rfl, rfl⟩ (by show h.length - (x.1 + 1) < h.length - x.1; omega)
  ·
    refine ev_exit (exS_exit (exL_exit (exBl_same (exS_normal ?_))))
    refine ev_R tabT [] 1000 ?_
    refine ev_ret ?_
    have e : h.take x.1 = h := List.take_of_length_le (by omega)
    exact FinH.ret 200 rfl rfl (by rw [e]; exact Sub.refl _) ⟨SubO.mr (by rw [e]), trivial⟩
end Go.Proofs.YtcklaaaomjmhgaaGreatDoor
