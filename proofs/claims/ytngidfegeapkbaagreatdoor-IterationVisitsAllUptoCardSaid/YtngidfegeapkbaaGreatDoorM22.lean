/- IterationVisitsAll: the given statement. Condition: what the law reads is of bulk at most 1048576 (the second form); the listed variables start as the program's text lays them. -/
import Derived.Test.YtngidfegeapkbaaGreatDoorM21
import Derived.Test.YtngidfegeapkbaaGreatDoorRows
import Derived.ProofKit
import Derived.OpenShut
import Derived.ShutString
import Derived.Deep.Slices
import Derived.Test.YtngidfegeapkbaaGreatDoorM13
import Derived.Deep.Matrix
import Derived.ChangeOld
import Derived.Below
import Derived.SizedLaws
import Derived.Test.YtngidfegeapkbaaGreatDoorCards
import Derived.Test.YtngidfegeapkbaaGreatDoorTie
import Derived.Lib.LaidU8T
import Derived.Deep.DeepHandedRow
import Derived.Deep.DeepWitnessRowRef
import Derived.Lib.LaidTab
import Derived.Shelf.Vars


/- Walks by the evaluator: what objects and classes have under a name. -/
namespace Go.Proofs.YtngidfegeapkbaaGreatDoor
open Go.RowKit
variable {md me : Bool}
theorem ixI_lt {α : Type} [DecidableEq α] : ∀ (l : List α) (n : α), ixI l n < l.length
  | [], n => by show (-1 : Int) < ((0 : Nat) : Int); omega
  | x :: l, n => by
    have := ixI_lt l n
    rw [ixI, List.length_cons]
    split
    · omega
    · split <;> omega
def ownB (o : Ob) (s : ByteArray) : Bool := decide (0 ≤ ixI o.names s)
def ownV (o : Ob) (s : ByteArray) : Vl := if ixI o.names s < 0 then vl0 else o.items.getD (ixI o.names s).toNat vl0
structure Fd {α : Type} (l : List α) (p : α → Bool) where
  k : Nat
  le : k ≤ l.length
  eq : (l.drop k).find? p = l.find? p
def Fd.next {α : Type} {l : List α} {p : α → Bool} (x : Fd l p) (e : α) (hk : x.k < l.length) (h0 : p (l.getD (x.k : Int).toNat e) = false) : Fd l p := ⟨x.k + 1, hk, by rw [← x.eq, drop_at hk e, List.find?_cons_of_neg (by rw [h0]; decide)]⟩
theorem Fd.found {α : Type} {l : List α} {p : α → Bool} (x : Fd l p) (e : α) (hk : x.k < l.length) (h0 : p (l.getD (x.k : Int).toNat e) = true) : l.find? p = some (l.getD (x.k : Int).toNat e) := by rw [← x.eq, drop_at hk e, List.find?_cons_of_pos h0]
theorem Fd.none {α : Type} {l : List α} {p : α → Bool} (x : Fd l p) (hk : l.length ≤ x.k) : l.find? p = none := by rw [← x.eq, List.drop_of_length_le hk]; rfl
def fdO (h : List Ob) (l : List Int) (s : ByteArray) : Option Int := l.find? fun c => ownB (obAt h c) s
def fdV (h : List Ob) (s : ByteArray) : Option Int → Vl
  | some c => ownV (obAt h c) s
  | none => vl0
def fdC : Option Int → Int
  | some c => c
  | none => 0
def Cok (h : List Ob) (l : List Int) : Prop := l.length ≤ 2000000 ∧ ∀ c ∈ l, inH h c ∧ (obAt h c).names.length ≤ (obAt h c).items.length
theorem cok_at {h : List Ob} {l : List Int} (hc : Cok h l) {k : Nat} (hk : k < l.length) : inH h (l.getD (k : Int).toNat 0) ∧ (obAt h (l.getD (k : Int).toNat 0)).names.length ≤ (obAt h (l.getD (k : Int).toNat 0)).items.length := hc.2 _ (by rw [getD_l hk]; exact List.getElem_mem _)
theorem attrObject_ok (h : List Ob) (v : Vl) (hv : v.k = 6 → isObj h v.r = true) : Fn Tryz.prog 76 [hpD md h, .agg (vlD v)] (.agg (obD (objS h v))) := by
  refine fn_ev tabT Tryz.func76 rfl rfl rfl rfl rfl rfl ?_
  intro w0 s0 mx
  refine ev_R tabT [] 100 ?_
  refine ev_seq ?_
  refine ev_R tabT [] 200 ?_
  refine ev_if (fun c1 => ?_) (fun c1 => ?_)
  ·
    refine ev_R tabT [] 300 ?_
    refine ev_ret (exS_ret ?_)
    have e : objS h v = ob0 := objS_no c1
    rw [e]
    exact FinV.ret rfl (by repeat (first | exact trivial | exact SubP.refl _ | exact SubP.nilSl rfl | refine SubP.agg ?_ | refine ⟨?_, ?_⟩))
  ·
    refine ev_skip (exS_normal ?_)
    refine ev_seq (ev_region tabT [] 400 rfl ?_)
    repeat (first | refine sat_same ?_ | refine sat_impA ?_ | refine sat_need (by exact isObj_in (hv c1)) ?_)
    refine sat_done (exS_normal (ev_ret ?_))
    have e : objS h v = h.getD v.r.toNat ob0 := objS_at hv c1
    rw [e]
    exact FinV.ret rfl (by repeat (first | exact trivial | exact SubP.refl _ | exact SubP.nilSl rfl | refine SubP.agg ?_ | refine ⟨?_, ?_⟩))
theorem attrOwn_ok (o : Ob) (s : ByteArray) (hn : o.names.length ≤ o.items.length) : Fn Tryz.prog 123 [.agg (obD o), .v (.string s)] (.tup [.agg (vlD (ownV o s)), .v (.bool (ownB o s))]) := by
  have hlt := ixI_lt o.names s
  refine fn_ev tabT Tryz.func123 rfl rfl rfl rfl rfl rfl ?_
  intro w0 s0 mx
  refine ev_R tabT [] 100 ?_
  refine ev_seq (ev_region tabT [] 200 rfl ?_)
  refine sat_go ?_
  refine sat_fn _ (IndexS_ok _ _) rfl ?_
  refine sat_go ?_
  refine sat_done (exS_normal ?_)
  refine ev_seq ?_
  refine ev_R tabT [] 300 ?_
  refine ev_if (fun c2 => ?_) (fun c2 => ?_)
  ·
    refine ev_R tabT [] 400 ?_
    refine ev_ret (exS_ret ?_)
    exact FinV.ret rfl (SubP.tup ⟨by rw [ownV, if_pos c2]; exact (by repeat (first | exact trivial | exact SubP.refl _ | exact SubP.nilSl rfl | refine SubP.agg ?_ | refine ⟨?_, ?_⟩)), SubP.bool (by rw [ownB, decide_eq_false (by omega)]), trivial⟩)
  ·
    refine ev_skip (exS_normal ?_)
    refine ev_R tabT [] 500 ?_
    refine ev_ret ?_
    exact FinV.ret rfl (SubP.tup ⟨by rw [ownV, if_neg (by omega)]; exact SubP.refl _, SubP.bool (by rw [ownB, decide_eq_true (by omega)]), trivial⟩)
theorem attrFind0_ok (h : List Ob) (l : List Int) (s : ByteArray) (hh : HpIn h) (hc : Cok h l) : Fn Tryz.prog 105 [hpD md h, isD l, .v (.string s)] (.tup [.agg (vlD (fdV h s (fdO h l s))), .v (.int .i64 (fdC (fdO h l s))), .v (.bool (fdO h l s).isSome)]) := by
  have hl := hc.1
  refine fn_ev tabT Tryz.func105 rfl rfl rfl rfl rfl rfl ?_
  intro w0 s0 mx
  refine ev_R tabT [] 100 ?_
  refine ev_seq ?_
  refine ev_R tabT [] 200 ?_
  refine ev_block ?_
  refine ev_loopK (ι := Fd l (fun c => ownB (obAt h c) s)) [2, 3, 6, 13, 14] [0, 1] 250 (fun x => [(15, .v (.int .i64 x.k))]) (fun _ => []) (fun x => l.length - x.k) ⟨0, Nat.zero_le _, rfl⟩ ?_
  refine ⟨⟨le_t, le_o, rfl, rfl⟩, fun x => ?_⟩
  have hk := x.le
  refine ev_R tabT [] 300 ?_
  refine ev_seq ?_
  refine ev_if (fun c2 => ?_) (fun c2 => ?_)
  ·
    refine ev_skip (exS_normal ?_)
    refine ev_seq ?_
    refine ev_block ?_
    refine ev_R tabT [] 400 ?_
    refine ev_seq (ev_region tabT [] 500 rfl ?_)
    repeat (first | refine sat_same ?_ | refine sat_impA ?_ | refine sat_need (by exact (cok_at hc c2).1) ?_)
    refine sat_fn _ (attrOwn_ok _ _ (cok_at hc c2).2) rfl ?_
    repeat (first | refine sat_same ?_ | refine sat_impA ?_ | refine sat_need (by exact (cok_at hc c2).1) ?_)
    refine sat_done (exS_normal ?_)
    refine ev_R tabT [] 600 ?_
    refine ev_cond rfl (fun c5 => ?_) (fun c5 => ?_)
    ·
      refine ev_R tabT [] 700 ?_
      refine ev_ret (exBl_ret (exS_ret (exL_ret (exBl_ret (exS_ret ?_)))))
      have e : fdO h l s = some (l.getD (x.k : Int).toNat 0) := x.found 0 c2 c5
      exact FinV.ret rfl (SubP.tup ⟨by rw [e]; exact SubP.refl _, by rw [e]; exact SubP.refl _, by rw [e]; exact SubP.refl _, trivial⟩)
    ·
      refine ev_skip (exBl_normal (exS_normal ?_))
      refine ev_Q tabT [] 800 ?_
      exact exL_normal (x.next 0 c2 c5) ⟨le_t, le_o, rfl, rfl⟩ (by show l.length - (x.k + 1) < l.length - x.k; omega)
  ·
    refine ev_exit (exS_exit (exL_exit (exBl_same (exS_normal ?_))))
    refine ev_R tabT [] 900 ?_
    refine ev_ret ?_
    have e : fdO h l s = none := x.none (by omega)
    exact FinV.ret rfl (SubP.tup ⟨by rw [e]; exact (by repeat (first | exact trivial | exact SubP.refl _ | exact SubP.nilSl rfl | refine SubP.agg ?_ | refine ⟨?_, ?_⟩)), by rw [e]; exact SubP.refl _, by rw [e]; exact SubP.refl _, trivial⟩)
theorem attrFind_ok (h : List Ob) (c : Int) (s : ByteArray) (hh : HpIn h) (hn : inH h c) (hc : Cok h (obAt h c).order) : Fn Tryz.prog 77 [hpD md h, .v (.int .i64 c), .v (.string s)] (.tup [.agg (vlD (fdV h s (fdO h (obAt h c).order s))), .v (.int .i64 (fdC (fdO h (obAt h c).order s))), .v (.bool (fdO h (obAt h c).order s).isSome)]) := by
  refine fn_ev tabT Tryz.func77 rfl rfl rfl rfl rfl rfl ?_
  intro w0 s0 mx
  refine ev_R tabT [] 100 ?_
  refine ev_seq (ev_drawn tabT [] [[], [], [1], [], [1, 2, 3], [1, 2, 3, 4], [1, 2, 3, 4, 5], [], [0, 1, 2, 3, 4, 5, 6, 7], [0, 1, 2, 3, 4, 5, 6, 7, 8], [0, 1, 2, 3, 4, 5, 6, 7, 8], [0, 1, 2, 3, 4, 5, 6, 7, 8], [0, 1, 2, 3, 4, 5, 6, 7, 8, 9, 10, 11], [0, 1, 2, 3, 4, 5, 6, 7, 8, 9, 10, 11, 12], [0, 1, 2, 3, 4, 5, 6, 7, 8, 9, 10, 11, 12, 13]] 200 mixT (by kernel_rfl) rfl ?_)
  repeat (first | refine sat_same ?_ | refine sat_impA ?_ | refine sat_need (by exact hn) ?_)
  refine sat_fn _ (attrFind0_ok h (obAt h c).order s hh hc) rfl ?_
  repeat (first | refine sat_same ?_ | refine sat_impA ?_ | refine sat_need (by exact hn) ?_)
  refine sat_done (exS_normal (ev_ret ?_))
  exact FinV.ret rfl (SubP.refl _)
theorem attrFunction_ok (h : List Ob) (v : Vl) (hv : v.k = 6 → isObj h v.r = true) : Fn Tryz.prog 78 [hpD md h, .agg (vlD v)] (.v (.bool (callS h v))) := by
  refine fn_ev tabT Tryz.func78 rfl rfl rfl rfl rfl rfl ?_
  intro w0 s0 mx
  refine ev_R tabT [] 100 ?_
  refine ev_seq (ev_region tabT [] 200 rfl ?_)
  refine sat_go ?_
  refine sat_fnG _ (fun hg6 => attrObject_ok _ _ (by first | assumption | omega | (simp_all; done))) rfl ?_
  refine sat_go ?_
  refine sat_done (exS_normal (ev_ret ?_))
  exact FinV.ret rfl (SubP.refl _)
end Go.Proofs.YtngidfegeapkbaaGreatDoor


/- Walks by the evaluator: special methods. -/
namespace Go.Proofs.YtngidfegeapkbaaGreatDoor
open Go.RowKit
variable {md me : Bool}
theorem used_a {k : Nat} (hk : k < 21) (ha : Lib.contains (usedS (k : Int)).data.toList [97] = true) : usedS (k : Int) ≠ ⟨#[]⟩ ∧ lastC (usedS (k : Int)) = 61 := by
  have := List.all_eq_true.1 (show (List.range 21).all (fun (k : Nat) => !(Lib.contains (usedS (k : Int)).data.toList [97]) || (!decide (usedS (k : Int) = ⟨#[]⟩) && decide (lastC (usedS (k : Int)) = 61))) = true by decide +kernel) k (List.mem_range.2 hk)
  rw [ha, Bool.not_true, Bool.false_or, Bool.and_eq_true, Bool.not_eq_true', decide_eq_false_iff_not, decide_eq_true_eq] at this
  exact this
theorem names_items {o : Ob} (hk : 0 ≤ o.kind ∧ o.kind < 21) (hs : shapeS o = 0) : o.names.length ≤ o.items.length := by
  have h1 := (sh_of hs).1
  unfold shapeS at hs
  split at hs
  · rename_i ha
    have h3 := List.all_eq_true.1 ha 3 (by decide)
    by_cases hz : (o.names.length : Int) = 0
    · omega
    · have e : Lib.contains (usedS o.kind).data.toList [97] = true := by
        have h4 : (!(!(decide ((o.names.length : Int) = 0)) && !(Lib.contains (usedS o.kind).data.toList [97]))) = true := h3
        rw [decide_eq_false hz] at h4
        simpa using h4
      have hkk : o.kind = ((o.kind.toNat : Nat) : Int) := by omega
      rw [hkk] at e
      have h5 := used_a (k := o.kind.toNat) (by omega) e
      rw [← hkk] at h5
      rw [cntS, if_neg h5.1, if_neg (by rw [h5.2]; decide), if_pos h5.2] at h1
      omega
  · cases hs
theorem nm_it {h : List Ob} (g : Uh h) {n : Int} (hn : inH h n) : (obAt h n).names.length ≤ (obAt h n).items.length := by
  by_cases h49 : n.toNat < 49
  · rw [show obAt h n = bgO n.toNat from g.lo_at h49]; exact Nat.zero_le _
  · have u := g.hi_at (i := n.toNat) (by omega) hn.2
    exact names_items u.kind u.shape
theorem bg_order {k : Nat} (hk : k < 49) {r : Int} (hr : r ∈ (bgO k).order) : 0 ≤ r ∧ r < 49 := by
  have := List.all_eq_true.1 (List.all_eq_true.1 (show (List.range 49).all (fun k => (bgO k).order.all fun r => decide (0 ≤ r) && decide (r < 49)) = true by decide +kernel) k (List.mem_range.2 hk)) r hr
  rw [Bool.and_eq_true, decide_eq_true_eq, decide_eq_true_eq] at this
  exact this
theorem cok_of {h : List Ob} (hh : HpIn h) (g : Uh h) {c : Int} (hn : inH h c) : Cok h (obAt h c).order := by
  refine ⟨(hh.at c).ol, fun r hr => ?_⟩
  have hin : inH h r := by
    by_cases h49 : c.toNat < 49
    · rw [show obAt h c = bgO c.toNat from g.lo_at h49] at hr
      have := bg_order h49 hr
      have := g.lo
      exact ⟨by omega, by omega⟩
    · exact isObj_in ((vs_of (g.hi_at (by omega) hn.2).vals).order r hr)
  exact ⟨hin, nm_it g hin⟩
theorem own_rv {h : List Ob} (g : Uh h) {n : Int} (hn : inH h n) (s : ByteArray) (hk : (ownV (obAt h n) s).k = 6) : isObj h (ownV (obAt h n) s).r = true := by
  have hlt := ixI_lt (obAt h n).names s
  have hni := nm_it g hn
  by_cases hi : ixI (obAt h n).names s < 0
  · rw [ownV, if_pos hi] at hk; exact absurd hk (by decide)
  · rw [ownV, if_neg hi] at hk ⊢
    have hj : (ixI (obAt h n).names s).toNat < (obAt h n).items.length := by omega
    rw [List.getD_eq_getElem?_getD, List.getElem?_eq_getElem hj] at hk ⊢
    exact g.items hn (List.getElem_mem _) hk
theorem fd_rv {h : List Ob} (hh : HpIn h) (g : Uh h) {c : Int} (hn : inH h c) (s : ByteArray) (hk : (fdV h s (fdO h (obAt h c).order s)).k = 6) : isObj h (fdV h s (fdO h (obAt h c).order s)).r = true := by
  cases hf : fdO h (obAt h c).order s with
  | none => rw [hf] at hk; exact absurd hk (show ¬ (0 : Int) = 6 by decide)
  | some r =>
    rw [hf] at hk
    exact own_rv g ((cok_of hh g hn).2 r (List.mem_of_find?_eq_some hf)).1 s hk
theorem one_item {h : List Ob} (g : Uh h) {n : Int} (hn : inH h n) (hk : (obAt h n).kind = 13 ∨ (obAt h n).kind = 14) : (obAt h n).items.length = 1 := by
  by_cases h49 : n.toNat < 49
  · rw [show obAt h n = bgO n.toNat from g.lo_at h49] at hk
    have h9 : (bgO n.toNat).kind = 9 := rfl
    omega
  · have u := g.hi_at (i := n.toNat) (by omega) hn.2
    have h1 := (sh_of u.shape).1
    rw [← obAt_nat hn] at h1
    have hc : cntS (obAt h n) = 1 := by
      rcases hk with hk | hk
      · rw [cnt_of 13 49 (by decide +kernel) hk]; decide +kernel
      · rw [cnt_of 14 49 (by decide +kernel) hk]; decide +kernel
    omega
def spS (h : List Ob) (v : Vl) (s : ByteArray) : Vl × List Vl × Bool :=
  if ¬ (objS h v).kind = 10 then (vl0, [], false)
  else if (fdO h (obAt h (objS h v).cls).order s).isSome = false then (vl0, [], false)
  else if callS h (fdV h s (fdO h (obAt h (objS h v).cls).order s)) = true then (fdV h s (fdO h (obAt h (objS h v).cls).order s), [v], true)
  else if (objS h (fdV h s (fdO h (obAt h (objS h v).cls).order s))).kind = 13 then ((objS h (fdV h s (fdO h (obAt h (objS h v).cls).order s))).items.getD 0 vl0, [], true)
  else if (objS h (fdV h s (fdO h (obAt h (objS h v).cls).order s))).kind = 14 then ((objS h (fdV h s (fdO h (obAt h (objS h v).cls).order s))).items.getD 0 vl0, [rfV (objS h v).cls], true)
  else (fdV h s (fdO h (obAt h (objS h v).cls).order s), [], true)
theorem obj_item {h : List Ob} (g : Uh h) {v : Vl} (hk : (objS h v).kind = 13 ∨ (objS h v).kind = 14) : 0 < (objS h v).items.length := by
  have h1 := objS_of (h := h) (v := v) (by omega)
  rw [h1.2.2] at hk ⊢
  rw [one_item g (isObj_in h1.2.1) hk]
  decide
theorem inst_cls {h : List Ob} (g : Uh h) {v : Vl} (hk : (objS h v).kind = 10) : inH h (objS h v).cls := by
  have h1 := objS_of (h := h) (v := v) (by omega)
  rw [h1.2.2] at hk ⊢
  exact g.cls (isObj_in h1.2.1) hk
set_option maxHeartbeats 1000000 in
theorem Special_ok (h : List Ob) (v : Vl) (s : ByteArray) (hh : HpIn h) (g : Uh h) (hv : v.k = 6 → isObj h v.r = true) : Fn Tryz.prog 43 [hpD md h, .agg (vlD v), .v (.string s)] (.tup [.agg (vlD (spS h v s).1), vsD (spS h v s).2.1, .v (.bool (spS h v s).2.2)]) := by
  refine fn_ev tabT Tryz.func43 rfl rfl rfl rfl rfl rfl ?_
  intro w0 s0 mx
  refine ev_R tabT [] 100 ?_
  refine ev_seq ?_
  refine ev_seq (ev_region tabT [] 200 rfl ?_)
  refine sat_go ?_
  refine sat_fn _ (attrObject_ok _ _ (by first | assumption | omega | (simp_all; done))) rfl ?_
  refine sat_go ?_
  refine sat_done (exS_normal ?_)
  refine ev_cond rfl (fun c1 => ?_) (fun c1 => ?_)
  · replace c1 : ¬ (objS h v).kind = 10 := by simpa using c1
    refine ev_R tabT [] 300 ?_
    refine ev_ret (exS_ret ?_)
    exact FinV.ret rfl (SubP.tup ⟨by rw [spS, if_pos c1]; exact (by repeat (first | exact trivial | exact SubP.refl _ | exact SubP.nilSl rfl | refine SubP.agg ?_ | refine ⟨?_, ?_⟩)), by rw [spS, if_pos c1]; exact SubP.nilSl rfl, by rw [spS, if_pos c1]; exact SubP.refl _, trivial⟩)
  · replace c1 : (objS h v).kind = 10 := by simpa using c1
    have hob := objS_of (h := h) (v := v) (by omega)
    have hin := inst_cls g c1
    have hrv := fun hk => fd_rv hh g hin s hk
    refine ev_skip (exS_normal ?_)
    refine ev_seq (ev_region tabT [] 400 rfl ?_)
    repeat (first | refine sat_same ?_ | refine sat_impA ?_ | refine sat_need (by exact isObj_in hob.2.1) ?_)
    refine sat_done (exS_normal ?_)
    refine ev_tell [2, 3, 4, 6] [0, 1, 2] 410 [(9, .v (.int .i64 (objS h v).cls))] [] ?_
    refine ⟨⟨⟨Sub.int (by rw [hob.2.2]), by repeat (first | exact trivial | exact Sub.refl _ | refine ⟨?_, ?_⟩)⟩, le_o, rfl, rfl⟩, ?_⟩
    refine ev_seq (ev_region tabT [] 500 rfl ?_)
    refine sat_go ?_
    refine sat_fn _ (attrFind_ok h (objS h v).cls s hh hin (cok_of hh g hin)) rfl ?_
    refine sat_go ?_
    refine sat_done (exS_normal ?_)
    refine ev_seq ?_
    refine ev_R tabT [] 600 ?_
    refine ev_cond rfl (fun c5 => ?_) (fun c5 => ?_)
    · replace c5 : (fdO h (obAt h (objS h v).cls).order s).isSome = false := by simpa using c5
      refine ev_R tabT [] 700 ?_
      refine ev_ret (exS_ret ?_)
      exact FinV.ret rfl (SubP.tup ⟨by rw [spS, if_neg (not_not_intro c1), if_pos c5]; exact (by repeat (first | exact trivial | exact SubP.refl _ | exact SubP.nilSl rfl | refine SubP.agg ?_ | refine ⟨?_, ?_⟩)), by rw [spS, if_neg (not_not_intro c1), if_pos c5]; exact SubP.nilSl rfl, by rw [spS, if_neg (not_not_intro c1), if_pos c5]; exact SubP.refl _, trivial⟩)
    · replace c5 : (fdO h (obAt h (objS h v).cls).order s).isSome = true := by simpa using c5
      refine ev_skip (exS_normal ?_)
      refine ev_seq ?_
      refine ev_seq (ev_region tabT [] 800 rfl ?_)
      refine sat_go ?_
      refine sat_fn _ (attrObject_ok h (fdV h s (fdO h (obAt h (objS h v).cls).order s)) hrv) rfl ?_
      refine sat_go ?_
      refine sat_done (exS_normal (ev_block ?_))
      refine ev_seq (ev_region tabT [] 900 rfl ?_)
      refine sat_go ?_
      refine sat_fn _ (attrFunction_ok h (fdV h s (fdO h (obAt h (objS h v).cls).order s)) hrv) rfl ?_
      refine sat_go ?_
      refine sat_done (exS_normal ?_)
      refine ev_cond rfl (fun c8 => ?_) (fun c8 => ?_)
      ·
        refine ev_seq (ev_drawn tabT [] [[], [], [1], [0], [0, 1, 2, 3], [0, 1, 2, 3, 4]] 1000 mixT (by kernel_rfl) rfl ?_)
        refine sat_go ?_
        refine sat_done (exS_normal (ev_ret (exBl_ret (exS_ret ?_))))
        exact FinV.ret rfl (SubP.tup ⟨by rw [spS, if_neg (not_not_intro c1), if_neg (by rw [c5]; decide), if_pos c8]; exact SubP.refl _, by rw [spS, if_neg (not_not_intro c1), if_neg (by rw [c5]; decide), if_pos c8]; exact SubP.slrSl rfl, by rw [spS, if_neg (not_not_intro c1), if_neg (by rw [c5]; decide), if_pos c8]; exact SubP.refl _, trivial⟩)
      ·
        refine ev_R tabT [] 1100 ?_
        refine ev_if (fun c10 => ?_) (fun c10 => ?_)
        ·
          refine ev_seq (ev_region tabT [] 1200 rfl ?_)
          repeat (first | refine sat_same ?_ | refine sat_impA ?_ | refine sat_need (by exact ⟨by omega, obj_item g (Or.inl c10)⟩) ?_)
          refine sat_done (exS_normal (ev_ret (exBl_ret (exS_ret ?_))))
          exact FinV.ret rfl (SubP.tup ⟨by rw [spS, if_neg (not_not_intro c1), if_neg (by rw [c5]; decide), if_neg (by rw [c8]; decide), if_pos c10]; exact SubP.refl _, by rw [spS, if_neg (not_not_intro c1), if_neg (by rw [c5]; decide), if_neg (by rw [c8]; decide), if_pos c10]; exact SubP.nilSl rfl, by rw [spS, if_neg (not_not_intro c1), if_neg (by rw [c5]; decide), if_neg (by rw [c8]; decide), if_pos c10]; exact SubP.refl _, trivial⟩)
        ·
          refine ev_R tabT [] 1300 ?_
          refine ev_if (fun c12 => ?_) (fun c12 => ?_)
          ·
            refine ev_seq (ev_drawn tabT [] [[], [0], [0, 1], [0, 1, 2], [], [4], [4, 5], [0, 1, 2, 3, 4, 5], [0, 1, 2, 3, 4, 5, 6, 7], [0, 1, 2, 3, 4, 5, 6, 7, 8]] 1400 mixT (by kernel_rfl) rfl ?_)
            repeat (first | refine sat_same ?_ | refine sat_impA ?_ | refine sat_need (by exact ⟨by omega, obj_item g (Or.inr c12)⟩) ?_)
            refine sat_fn _ (heapRef_ok _) rfl ?_
            repeat (first | refine sat_same ?_ | refine sat_impA ?_ | refine sat_need (by exact ⟨by omega, obj_item g (Or.inr c12)⟩) ?_)
            refine sat_done (exS_normal (ev_ret (exBl_ret (exS_ret ?_))))
            exact FinV.ret rfl (SubP.tup ⟨by rw [spS, if_neg (not_not_intro c1), if_neg (by rw [c5]; decide), if_neg (by rw [c8]; decide), if_neg (by omega), if_pos c12]; exact SubP.refl _, by rw [spS, if_neg (not_not_intro c1), if_neg (by rw [c5]; decide), if_neg (by rw [c8]; decide), if_neg (by omega), if_pos c12]; exact SubP.slrSl rfl, by rw [spS, if_neg (not_not_intro c1), if_neg (by rw [c5]; decide), if_neg (by rw [c8]; decide), if_neg (by omega), if_pos c12]; exact SubP.refl _, trivial⟩)
          ·
            refine ev_skip (exBl_normal (exS_normal ?_))
            refine ev_R tabT [] 1500 ?_
            refine ev_ret ?_
            exact FinV.ret rfl (SubP.tup ⟨by rw [spS, if_neg (not_not_intro c1), if_neg (by rw [c5]; decide), if_neg (by rw [c8]; decide), if_neg (by omega), if_neg (by omega)]; exact SubP.refl _, by rw [spS, if_neg (not_not_intro c1), if_neg (by rw [c5]; decide), if_neg (by rw [c8]; decide), if_neg (by omega), if_neg (by omega)]; exact SubP.nilSl rfl, by rw [spS, if_neg (not_not_intro c1), if_neg (by rw [c5]; decide), if_neg (by rw [c8]; decide), if_neg (by omega), if_neg (by omega)]; exact SubP.refl _, trivial⟩)
end Go.Proofs.YtngidfegeapkbaaGreatDoor


/- The evaluator: slices that are nil where they are empty, held against nil. Nothing here speaks of the program. -/
namespace Go.Proofs.YtngidfegeapkbaaGreatDoor
open Go.RowKit
section
variable {P : Program} {b : Ba} {ops : Array Oper}
end
end Go.Proofs.YtngidfegeapkbaaGreatDoor


/- The evaluator: a call that turns things, of weaker arguments. Nothing here speaks of the program. -/
namespace Go.Proofs.YtngidfegeapkbaaGreatDoor
open Go.RowKit
def ArgS : List D → List D → Prop
  | [], [] => True
  | d :: l, d' :: l' => Sub d d' ∧ ArgS l l'
  | _, _ => False
theorem ArgS.all {w : World} {s : Sb} {g : Gh} : ∀ {l l' : List D} {vs : List Value}, ArgS l l' → AllT w s g (D.tvl l) vs → AllT w s g (D.tvl l') vs
  | [], [], _, _, h => h
  | d :: l, d' :: l', [], _, h => by rw [D.tvl] at h; simp [AllT] at h
  | d :: l, d' :: l', v :: vs, h, hv => by
    rw [D.tvl, AllT.cons] at hv
    rw [D.tvl, AllT.cons]
    exact ⟨h.1 _ _ _ _ hv.1, h.2.all hv.2⟩
  | [], _ :: _, _, h, _ => h.elim
  | _ :: _, [], _, h, _ => h.elim
theorem FnG.args {P : Program} {f : FuncId} {args args' : List D} {own own' : List DOwn} {out : D} (h : FnG P f args own out own') (hs : ArgS args' args) : FnG P f args' own out own' :=
  ⟨h.bod, fun w s g vs hg ha => h.run w s g vs hg (hs.all ha)⟩
theorem FnG.out {P : Program} {f : FuncId} {args : List D} {own own' : List DOwn} {out out' : D} (h : FnG P f args own out own') (hs : Sub out out') : FnG P f args own out' own' :=
  ⟨h.bod, fun w s g vs hg ha => (h.run w s g vs hg ha).mono fun r w' hq => by
    obtain ⟨s', g', v, h1, h2, h3⟩ := hq
    exact ⟨s', g', v, h1, hs _ _ _ _ h2, h3⟩⟩
theorem SubP.slrRows {α : Type} {m : Bool} {sz : Nat} {rows : List (List D)} {l : List α} {f : α → List D} {e : α} (h : RowsP rows (l.map f)) : SubP (.slr m sz rows) (.sl m sz l f e) := fun w s v hv => by
  have h1 := rowsP_sl h hv
  rw [pvss_map, List.map_map] at h1
  exact h1
end Go.Proofs.YtngidfegeapkbaaGreatDoor


/- Walks by the evaluator: iterators: small functions, elements. -/
namespace Go.Proofs.YtngidfegeapkbaaGreatDoor
open Go.RowKit
variable {md me : Bool}
def caI (f : Vl) (l : List Vl) : St := ⟨2, vl0, 0, ByteArray.empty, f, l⟩
def dnS : St := ⟨3, vl0, 0, ByteArray.empty, vl0, []⟩
def atS (l : List Vl) (i : Int) : St := if i < (l.length : Nat) then vlS (l.getD i.toNat vl0) else dnS
def itO (v z : Vl) (i : Int) : Ob := ⟨16, ByteArray.empty, 0, [], [], [], [v, z], [], 0, i⟩
def chgT : ByteArray := ⟨#[99, 111, 110, 116, 97, 105, 110, 101, 114, 32, 99, 104, 97, 110, 103, 101, 100, 32, 100, 117, 114, 105, 110, 103, 32, 105, 116, 101, 114, 97, 116, 105, 111, 110]⟩
def elmS (h : List Ob) (v z : Vl) (i : Int) : St :=
  if v.k = 4 then (if i < ((ruL v.s).length : Nat) then vlS (txV (Utf8.encode ((ruL v.s).getD i.toNat 0))) else dnS)
  else if v.k = 5 then (if i < (v.s.size : Nat) then vlS (nuV ((bAt v.s i.toNat : Nat) : Int)) else dnS)
  else if (objS h v).kind = 3 ∨ (objS h v).kind = 4 then (if (nuV ((objS h v).keys.length : Nat)).nl = z.nl then atS (objS h v).keys i else raS 47 chgT)
  else atS (objS h v).items i
def elS (h : List Ob) (v : Vl) : List Vl :=
  if v.k = 4 then (itL v.s v.s.size 0).map fun c => txV (Utf8.encode c.2)
  else if v.k = 5 then (List.range v.s.size).map fun i => nuV ((bAt v.s i : Nat) : Int)
  else if (objS h v).kind = 3 ∨ (objS h v).kind = 4 then (objS h v).keys
  else (objS h v).items
structure Itx {α : Type} (L : List α) where
  k : Nat
  r : List α
  eq : L.drop k = r
theorem drop_eq {α : Type} {L : List α} {k : Nat} {a : α} {r : List α} (h : L.drop k = a :: r) : L.drop (k + 1) = r := by
  rw [← List.drop_drop, h]; rfl
theorem take_eq {α : Type} {L : List α} {k : Nat} {a : α} {r : List α} (h : L.drop k = a :: r) : L.take (k + 1) = L.take k ++ [a] := by
  have h1 : L[k]? = some a := by rw [← List.head?_drop, h]; rfl
  rw [List.take_add_one, h1]; rfl
theorem take_all {α : Type} {L : List α} {k : Nat} (h : L.drop k = []) : L.take k = L := by
  have h1 := List.take_append_drop k L
  rwa [h, List.append_nil] at h1
theorem take_len {α : Type} {L : List α} {k : Nat} {a : α} {r : List α} (h : L.drop k = a :: r) : (L.take (k + 1)).length = (L.take k).length + 1 := by
  rw [take_eq h, List.length_append]; rfl
theorem obj_in {h : List Ob} (hh : HpIn h) (v : Vl) : ObIn (objS h v) := by
  unfold objS
  split
  · exact hh.at v.r
  · exact ob0_in
theorem by64 (s : ByteArray) (i : Nat) : IntKind.i64.wrap ((bAt s i : Nat) : Int) = ((bAt s i : Nat) : Int) := InI.wrap ⟨by omega, by have := bAt_lt s i; omega⟩
theorem range_next {k n : Nat} (h : k < n) : (List.range n).take (k + 1) = (List.range n).take k ++ [k] := by
  rw [List.take_add_one, List.getElem?_range h]; rfl
theorem itValue_ok (v : Vl) : Fn Tryz.prog 18 [.agg (vlD v)] (.agg (stD (vlS v))) := by
  refine fn_ev tabT Tryz.func18 rfl rfl rfl rfl rfl rfl ?_
  intro w0 s0 mx
  refine ev_R tabT [] 100 ?_
  refine ev_R tabT [] 200 ?_
  refine ev_ret ?_
  exact FinV.ret rfl (SubP.agg (by repeat (first | exact trivial | exact SubP.refl _ | exact SubP.nilSl rfl | refine ⟨?_, ?_⟩)))
theorem itRaise_ok (c : Int) (s : ByteArray) : Fn Tryz.prog 21 [.v (.int .i64 c), .v (.string s)] (.agg (stD (raS c s))) := by
  refine fn_ev tabT Tryz.func21 rfl rfl rfl rfl rfl rfl ?_
  intro w0 s0 mx
  refine ev_R tabT [] 100 ?_
  refine ev_R tabT [] 200 ?_
  refine ev_ret ?_
  exact FinV.ret rfl (SubP.agg (by repeat (first | exact trivial | exact SubP.refl _ | exact SubP.nilSl rfl | refine ⟨?_, ?_⟩)))
theorem itDone_ok  : Fn Tryz.prog 28 [] (.agg (stD dnS)) := by
  refine fn_ev tabT Tryz.func28 rfl rfl rfl rfl rfl rfl ?_
  intro w0 s0 mx
  refine ev_R tabT [] 100 ?_
  refine ev_R tabT [] 200 ?_
  refine ev_ret ?_
  exact FinV.ret rfl (SubP.agg (by repeat (first | exact trivial | exact SubP.refl _ | exact SubP.nilSl rfl | refine ⟨?_, ?_⟩)))
theorem itObject_ok (h : List Ob) (v : Vl) (hv : v.k = 6 → isObj h v.r = true) : Fn Tryz.prog 17 [hpD md h, .agg (vlD v)] (.agg (obD (objS h v))) := by
  refine fn_ev tabT Tryz.func17 rfl rfl rfl rfl rfl rfl ?_
  intro w0 s0 mx
  refine ev_R tabT [] 100 ?_
  refine ev_seq ?_
  refine ev_R tabT [] 200 ?_
  refine ev_if (fun c1 => ?_) (fun c1 => ?_)
  ·
    refine ev_R tabT [] 300 ?_
    refine ev_ret (exS_ret ?_)
    have e : objS h v = ob0 := objS_no c1
    rw [e]
    exact FinV.ret rfl (by repeat (first | exact trivial | exact SubP.refl _ | exact SubP.nilSl rfl | refine SubP.agg ?_ | refine ⟨?_, ?_⟩))
  ·
    refine ev_skip (exS_normal ?_)
    refine ev_seq (ev_region tabT [] 400 rfl ?_)
    repeat (first | refine sat_same ?_ | refine sat_impA ?_ | refine sat_need (by exact isObj_in (hv c1)) ?_)
    refine sat_done (exS_normal (ev_ret ?_))
    have e : objS h v = h.getD v.r.toNat ob0 := objS_at hv c1
    rw [e]
    exact FinV.ret rfl (by repeat (first | exact trivial | exact SubP.refl _ | exact SubP.nilSl rfl | refine SubP.agg ?_ | refine ⟨?_, ?_⟩))
theorem itSpecial_ok (h : List Ob) (v : Vl) (s : ByteArray) (hh : HpIn h) (g : Uh h) (hv : v.k = 6 → isObj h v.r = true) : Fn Tryz.prog 20 [hpD md h, .agg (vlD v), .v (.string s)] (.tup [.agg (stD (caI (spS h v s).1 (spS h v s).2.1)), .v (.bool (spS h v s).2.2)]) := by
  refine fn_ev tabT Tryz.func20 rfl rfl rfl rfl rfl rfl ?_
  intro w0 s0 mx
  refine ev_R tabT [] 100 ?_
  refine ev_seq (ev_region tabT [] 200 rfl ?_)
  refine sat_go ?_
  refine sat_fn _ (Special_ok h v s hh g hv) rfl ?_
  refine sat_go ?_
  refine sat_done (exS_normal ?_)
  refine ev_R tabT [] 300 ?_
  refine ev_ret ?_
  exact FinV.ret rfl (SubP.tup ⟨SubP.agg (by repeat (first | exact trivial | exact SubP.refl _ | exact SubP.nilSl rfl | refine ⟨?_, ?_⟩)), SubP.refl _, trivial⟩)
theorem itAt_ok (l : List Vl) (i : Int) (hi : 0 ≤ i) : Fn Tryz.prog 51 [vsD l, .v (.int .i64 i)] (.agg (stD (atS l i))) := by
  refine fn_ev tabT Tryz.func51 rfl rfl rfl rfl rfl rfl ?_
  intro w0 s0 mx
  refine ev_R tabT [] 100 ?_
  refine ev_seq ?_
  refine ev_R tabT [] 200 ?_
  refine ev_if (fun c1 => ?_) (fun c1 => ?_)
  ·
    refine ev_seq (ev_region tabT [] 300 rfl ?_)
    refine sat_go ?_
    refine sat_fn _ (itValue_ok _) rfl ?_
    refine sat_go ?_
    refine sat_done (exS_normal (ev_ret (exS_ret ?_)))
    exact FinV.ret rfl (SubP.of_eq (by rw [atS, if_pos c1]; rfl))
  ·
    refine ev_skip (exS_normal ?_)
    refine ev_seq (ev_region tabT [] 400 rfl ?_)
    refine sat_go ?_
    refine sat_fn _ (itDone_ok) rfl ?_
    refine sat_go ?_
    refine sat_done (exS_normal (ev_ret ?_))
    exact FinV.ret rfl (SubP.of_eq (by rw [atS, if_neg (by omega)]; rfl))
theorem Elements_ok (h : List Ob) (v : Vl) (hh : HpIn h) (hi : VlIn v) : FnO Tryz.prog 8 [hpD md h, .agg (vlD v)] 29 7 ((elS h v).map vlD) := by
  have hsz := hi.s
  have hil := itL_length v.s v.s.size 0
  have hob := obj_in hh v
  refine fnO_ev Tryz.func8 rfl rfl rfl rfl rfl rfl ?_
  intro w0 s0 mx
  refine ev_R tabT [] 100 ?_
  refine ev_R tabT [] 200 ?_
  refine ev_nilRow 5 29 7 rfl ?_
  refine ev_seq ?_
  refine ev_seq (ev_region tabT [] 300 rfl ?_)
  refine sat_go ?_
  refine sat_fn _ (Obj_ok _ _) rfl ?_
  refine sat_go ?_
  refine sat_done (exS_normal (ev_block ?_))
  refine ev_R tabT [] 500 ?_
  refine ev_if (fun c4 => ?_) (fun c4 => ?_)
  ·
    refine ev_R tabT [] 600 ?_
    refine ev_block ?_
    refine ev_loopK (ι := Itx (itL v.s v.s.size 0)) [22] [] 650 (fun x => [(5, .own 200 7 (((itL v.s v.s.size 0).take x.k).map (fun c : Int × Int => vlD (txV (Utf8.encode c.2)))))]) (fun x => [(200, .row 29 7 (((itL v.s v.s.size 0).take x.k).map (fun c : Int × Int => vlD (txV (Utf8.encode c.2)))).length), (502, .itr x.r)]) (fun x => x.r.length) ⟨0, _, rfl⟩ ?_
    refine ⟨⟨le_t, le_o, rfl, rfl⟩, fun x => ?_⟩
    obtain ⟨k, r, hr⟩ := x
    rcases r with _ | ⟨⟨q, c⟩, r⟩
    · refine ev_R tabT [] 700 ?_
      refine ev_seq ?_
      refine ev_if (fun c6 => ?_) (fun c6 => ?_)
      ·
        first | exact absurd c6 (by simp) | (simp at c6; done) | cases c6
      ·
        refine ev_exit (exS_exit (exL_exit (exBl_same (exBl_normal (exS_normal ?_)))))
        refine ev_R tabT [] 1700 ?_
        refine ev_ret ?_
        refine FinO.ret rfl rfl rfl ?_
        unfold elS
        rw [if_pos c4, List.map_map]
        exact congrArg (List.map (fun c : Int × Int => vlD (txV (Utf8.encode c.2)))) (take_all hr)
    · refine ev_R tabT [] 700 ?_
      refine ev_seq ?_
      refine ev_if (fun c6 => ?_) (fun c6 => ?_)
      ·
        refine ev_skip (exS_normal (ev_block ?_))
        refine ev_R tabT [] 800 ?_
        refine ev_region tabT [] 900 rfl ?_
        repeat (first | refine sat_same ?_ | refine sat_impA ?_ | refine sat_need (by first | rfl | (simp only [List.length_map, List.length_take, List.length_range, List.length_cons, List.length_nil]; omega) | (exact ⟨by omega, by omega⟩) | first | exact trivial | omega | exact ini (by omega) (by omega) | (intro hh; simp at hh; exact ini (by omega) (by omega)) | (intro hh; simp at hh ⊢; omega) | (simp at *; omega) | (simp_all; done)) ?_)
        refine sat_fn _ (T_ok _) rfl ?_
        repeat (first | refine sat_same ?_ | refine sat_impA ?_ | refine sat_need (by first | rfl | (simp only [List.length_map, List.length_take, List.length_range, List.length_cons, List.length_nil]; omega) | (exact ⟨by omega, by omega⟩) | first | exact trivial | omega | exact ini (by omega) (by omega) | (intro hh; simp at hh; exact ini (by omega) (by omega)) | (intro hh; simp at hh ⊢; omega) | (simp at *; omega) | (simp_all; done)) ?_)
        refine sat_done (exBl_normal ?_)
        exact exL_normal (⟨k + 1, r, drop_eq hr⟩) ⟨⟨Sub.ownRows (by rw [take_eq hr, List.map_append]; exact RowsP.refl _), le_t⟩, ⟨⟨rfl, rfl, by simp only [List.length_map, List.length_append]; rw [take_len hr]; rfl⟩, rfl, le_o⟩, rfl, rfl⟩ (by show r.length < ((q, c) :: r).length; simp)
      ·
        first | exact absurd c6 (by simp) | (simp at c6; done) | cases c6
  ·
    refine ev_R tabT [] 1000 ?_
    refine ev_if (fun c9 => ?_) (fun c9 => ?_)
    ·
      refine ev_R tabT [] 1100 ?_
      refine ev_block ?_
      refine ev_loopK (ι := {k : Nat // k ≤ v.s.size}) [3] [1] 1150 (fun x => [(9, .v (.int .i64 x.1)), (5, .own 200 7 (((List.range v.s.size).take x.1).map (fun i : Nat => vlD (nuV ((bAt v.s i : Nat) : Int)))))]) (fun x => [(200, .row 29 7 (((List.range v.s.size).take x.1).map (fun i : Nat => vlD (nuV ((bAt v.s i : Nat) : Int)))).length)]) (fun x => v.s.size - x.1) ⟨0, Nat.zero_le _⟩ ?_
      refine ⟨⟨le_t, le_o, rfl, rfl⟩, fun x => ?_⟩
      have hk : x.1 ≤ v.s.size := x.2
      refine ev_seq ?_
      refine ev_R tabT [] 1200 ?_
      refine ev_if (fun c11 => ?_) (fun c11 => ?_)
      ·
        refine ev_skip (exS_normal ?_)
        refine ev_seq ?_
        refine ev_block ?_
        refine ev_region tabT [] 1400 rfl ?_
        repeat (first | refine sat_same ?_ | refine sat_impA ?_ | refine sat_need (by first | rfl | (simp only [List.length_map, List.length_take, List.length_range, List.length_cons, List.length_nil]; omega) | (exact ⟨by omega, by omega⟩) | first | exact trivial | omega | exact ini (by omega) (by omega) | (intro hh; simp at hh; exact ini (by omega) (by omega)) | (intro hh; simp at hh ⊢; omega) | (simp at *; omega) | (simp_all; done)) ?_)
        refine sat_fn _ (N_ok _ (by rw [by64]; omega) (by rw [by64]; have := bAt_lt v.s ((x.1 : Nat) : Int).toNat; omega)) rfl ?_
        repeat (first | refine sat_same ?_ | refine sat_impA ?_ | refine sat_need (by first | rfl | (simp only [List.length_map, List.length_take, List.length_range, List.length_cons, List.length_nil]; omega) | (exact ⟨by omega, by omega⟩) | first | exact trivial | omega | exact ini (by omega) (by omega) | (intro hh; simp at hh; exact ini (by omega) (by omega)) | (intro hh; simp at hh ⊢; omega) | (simp at *; omega) | (simp_all; done)) ?_)
        refine sat_done (exBl_normal (exS_normal ?_))
        refine ev_Q tabT [] 1500 ?_
        exact exL_normal (⟨x.1 + 1, by omega⟩) ⟨⟨Sub.int (by push_cast; rfl), Sub.ownRows (by rw [range_next c11, List.map_append]; exact (RowsP.refl _).append ⟨by rw [by64, Int.toNat_natCast]; exact SubPs.refl _, trivial⟩), le_t⟩, ⟨⟨rfl, rfl, by simp only [List.length_append, List.length_map]; rw [range_next c11, List.length_append]; rfl⟩, le_o⟩, rfl, rfl⟩ (by show v.s.size - (x.1 + 1) < v.s.size - x.1; omega)
      ·
        refine ev_exit (exS_exit (exL_exit (exBl_same (exBl_normal (exS_normal ?_)))))
        refine ev_R tabT [] 1700 ?_
        refine ev_ret ?_
        refine FinO.ret rfl rfl rfl ?_
        unfold elS
        rw [if_neg c4, if_pos c9, List.map_map]
        exact congrArg (List.map (fun i : Nat => vlD (nuV ((bAt v.s i : Nat) : Int)))) (List.take_of_length_le (by rw [List.length_range]; omega))
    ·
      refine ev_R tabT [] 1500 ?_
      refine ev_if (fun c14 => ?_) (fun c14 => ?_)
      ·
        refine ev_region tabT [63] 1600 rfl ?_
        refine sat_go ?_
        refine sat_fnO _ _ _ (CloneV_ok _ hob.kl) ?_
        refine sat_go ?_
        refine sat_done (exBl_normal (exS_normal ?_))
        refine ev_R tabT [] 1700 ?_
        refine ev_ret ?_
        refine FinO.ret rfl rfl rfl ?_
        unfold elS
        rw [if_neg c4, if_neg c9, if_pos c14]
      ·
        refine ev_region tabT [15] 1600 rfl ?_
        refine sat_go ?_
        refine sat_fnO _ _ _ (CloneV_ok _ hob.il) ?_
        refine sat_go ?_
        refine sat_done (exBl_normal (exS_normal ?_))
        refine ev_R tabT [] 1700 ?_
        refine ev_ret ?_
        refine FinO.ret rfl rfl rfl ?_
        unfold elS
        rw [if_neg c4, if_neg c9, if_neg (not_or.2 c14)]
end Go.Proofs.YtngidfegeapkbaaGreatDoor


/- Walks by the evaluator: iteration.element, Iter, Next. -/
namespace Go.Proofs.YtngidfegeapkbaaGreatDoor
open Go.RowKit
variable {md me : Bool}
def itZ (h : List Ob) (v : Vl) : Vl := if (objS h v).kind = 3 ∨ (objS h v).kind = 4 then nuV ((objS h v).keys.length : Nat) else vl0
def itB (h : List Ob) (v : Vl) : Bool := decide ((objS h v).kind = 3 ∨ (objS h v).kind = 4 ∨ (objS h v).kind = 1 ∨ (objS h v).kind = 2 ∨ (objS h v).kind = 5 ∨ v.k = 4 ∨ v.k = 5)
def itN (h : List Ob) (v : Vl) : ByteArray := (⟨#[39]⟩ : ByteArray) ++ (obAt h (clA h v)).name ++ ⟨#[39, 32, 105, 115, 32, 110, 111, 116, 32, 105, 116, 101, 114, 97, 98, 108, 101]⟩
def itR (h : List Ob) (v : Vl) : St := if itB h v = true then vlS (rfV (h.length : Nat)) else raS 32 (itN h v)
def itH (h : List Ob) (v : Vl) : List Ob := if itB h v = true then h ++ [itO v (itZ h v) 0] else h
theorem bsZ (a : Array UInt8) : (⟨a⟩ : ByteArray).size = a.size := rfl
theorem nuV_in {n : Nat} (h : n ≤ 2000000) : VlIn (nuV (n : Nat)) := ⟨(by decide : (-9223372036854775808 : Int) ≤ 2), (by decide : (2 : Int) ≤ 9223372036854775807), (by decide : (-9223372036854775808 : Int) ≤ 0), (by decide : (0 : Int) ≤ 9223372036854775807), lim_Dg _, (fun _ h => by cases h), Nat.le_trans (lim_length_le (k := 1) (by show (n : Int).natAbs < _; omega)) (by decide), (by decide : 0 ≤ 2000000), (by decide : ByteArray.empty.size ≤ 2000000)⟩
theorem itZ_in {h : List Ob} {v : Vl} (hk : (objS h v).keys.length ≤ 2000000) : VlIn (itZ h v) := by
  unfold itZ
  split
  · exact nuV_in hk
  · exact vl0_in
theorem itO_in {v z : Vl} {i : Int} (hv : VlIn v) (hz : VlIn z) (hi : -9223372036854775808 ≤ i ∧ i ≤ 9223372036854775807) : ObIn (itO v z i) :=
  ⟨(by decide : (-9223372036854775808 : Int) ≤ 16 ∧ (16 : Int) ≤ 9223372036854775807), (by decide : (-9223372036854775808 : Int) ≤ 0 ∧ (0 : Int) ≤ 9223372036854775807), (by decide : (-9223372036854775808 : Int) ≤ 0 ∧ (0 : Int) ≤ 9223372036854775807), hi, (by decide : ByteArray.empty.size ≤ 2000000), (by decide : 0 ≤ 2000000), (by decide : 0 ≤ 2000000), (by decide : 0 ≤ 2000000), (by decide : 2 ≤ 2000000), (by decide : 0 ≤ 2000000), (fun _ h => by cases h), (fun x hx => by rcases List.mem_cons.1 hx with rfl | hx; exact hv; rw [List.mem_singleton.1 hx]; exact hz), (fun _ h => by cases h)⟩
theorem itZ_row1 {h : List Ob} {v : Vl} (hk : (objS h v).kind = 3 ∨ (objS h v).kind = 4) : RowsP [vlD v, vlD (nuV ((objS h v).keys.length : Nat))] ([v, itZ h v].map vlD) := by
  rw [itZ, if_pos hk]
  exact RowsP.refl _
theorem itZ_row0 {h : List Ob} {v : Vl} (hk : ¬ ((objS h v).kind = 3 ∨ (objS h v).kind = 4)) : RowsP [vlD v, [.v (.int .i64 0), .v (.bool false), .v (.slice none 0 0), .v (.bool false), .v (.slice none 0 0), .v (.string ByteArray.empty), .v (.int .i64 0)]] ([v, itZ h v].map vlD) := by
  rw [itZ, if_neg hk]
  exact ⟨SubPs.refl _, ⟨SubP.refl _, SubP.refl _, SubP.nilSl rfl, SubP.refl _, SubP.nilSl rfl, SubP.refl _, SubP.refl _, trivial⟩, trivial⟩
theorem itElement_ok (h : List Ob) (v z : Vl) (i : Int) (hv : v.k = 6 → isObj h v.r = true) (hi : 0 ≤ i) (hin : VlIn v) (hob : ObIn (objS h v)) (hz : z.nl.length ≤ 2000000) (hnr : ¬ (objS h v).kind = 5) : Fn Tryz.prog 29 [hpD md h, .agg (obD (itO v z i))] (.agg (stD (elmS h v z i))) := by
  have hsz := hin.s
  have hil := ruL_length v.s
  have hkl := hob.kl
  refine fn_ev tabT Tryz.func29 rfl rfl rfl rfl rfl rfl ?_
  intro w0 s0 mx
  refine ev_R tabT [] 100 ?_
  refine ev_seq (ev_drawn tabT [] [[], [0], [0, 1], [0, 1, 2], [], [4], [], [0, 1, 2, 3, 6], [0, 1, 2, 3, 4, 5, 6, 7]] 200 mixT (by kernel_rfl) rfl ?_)
  repeat (first | refine sat_same ?_ | refine sat_impA ?_ | refine sat_need (by first | exact ⟨Int.le_refl _, Nat.zero_lt_two⟩ | first | exact trivial | omega | exact ini (by omega) (by omega) | (intro hh; simp at hh; exact ini (by omega) (by omega)) | (intro hh; simp at hh ⊢; omega) | (simp at *; omega) | (simp_all; done)) ?_)
  refine sat_done (exS_normal ?_)
  refine ev_tell [2, 3, 4, 5] [0, 1, 2, 106] 210 [(6, .v (.int .i64 i))] [(106, .box 29 (vlD v))] ?_
  refine ⟨⟨le_t, ⟨⟨rfl, SubL.same rfl⟩, le_o⟩, rfl, rfl⟩, ?_⟩
  refine ev_seq (ev_region tabT [] 300 rfl ?_)
  refine sat_go ?_
  refine sat_fn _ (itObject_ok h v hv) rfl ?_
  refine sat_go ?_
  refine sat_done (exS_normal ?_)
  refine ev_seq ?_
  refine ev_block ?_
  refine ev_R tabT [] 400 ?_
  refine ev_if (fun c3 => ?_) (fun c3 => ?_)
  ·
    refine ev_seq ?_
    refine ev_seq (ev_region tabT [] 500 rfl ?_)
    repeat (first | refine sat_same ?_ | refine sat_impA ?_ | refine sat_need (by omega) ?_)
    refine sat_done (exS_normal ?_)
    refine ev_R tabT [] 600 ?_
    refine ev_if (fun c5 => ?_) (fun c5 => ?_)
    ·
      refine ev_seq (ev_region tabT [] 700 rfl ?_)
      refine sat_go ?_
      refine sat_fn _ (heapText_ok _) rfl ?_
      refine sat_go ?_
      refine sat_fn _ (itValue_ok _) rfl ?_
      refine sat_go ?_
      refine sat_done (exS_normal (ev_ret (exS_ret (exBl_ret (exS_ret ?_)))))
      exact FinV.ret rfl (SubP.of_eq (by unfold elmS; rw [if_pos c3, if_pos c5]; rfl))
    ·
      refine ev_skip (exS_normal ?_)
      refine ev_seq (ev_region tabT [] 800 rfl ?_)
      refine sat_go ?_
      refine sat_fn _ (itDone_ok) rfl ?_
      refine sat_go ?_
      refine sat_done (exS_normal (ev_ret (exBl_ret (exS_ret ?_))))
      exact FinV.ret rfl (SubP.of_eq (by unfold elmS; rw [if_pos c3, if_neg (by omega)]; rfl))
  ·
    refine ev_R tabT [] 900 ?_
    refine ev_if (fun c8 => ?_) (fun c8 => ?_)
    ·
      refine ev_seq ?_
      refine ev_R tabT [] 1000 ?_
      refine ev_if (fun c9 => ?_) (fun c9 => ?_)
      ·
        refine ev_seq (ev_region tabT [] 1100 rfl ?_)
        refine sat_go ?_
        refine sat_fn _ (heapInt_ok _ (by rw [by64]; omega) (by rw [by64]; have := bAt_lt v.s i.toNat; omega)) rfl ?_
        refine sat_go ?_
        refine sat_fn _ (itValue_ok _) rfl ?_
        refine sat_go ?_
        refine sat_done (exS_normal (ev_ret (exS_ret (exBl_ret (exS_ret ?_)))))
        exact FinV.ret rfl (SubP.of_eq (by unfold elmS; rw [if_neg c3, if_pos c8, if_pos c9]; rw [by64]; rfl))
      ·
        refine ev_skip (exS_normal ?_)
        refine ev_seq (ev_region tabT [] 1200 rfl ?_)
        refine sat_go ?_
        refine sat_fn _ (itDone_ok) rfl ?_
        refine sat_go ?_
        refine sat_done (exS_normal (ev_ret (exBl_ret (exS_ret ?_))))
        exact FinV.ret rfl (SubP.of_eq (by unfold elmS; rw [if_neg c3, if_pos c8, if_neg (by omega)]; rfl))
    ·
      refine ev_R tabT [] 1300 ?_
      refine ev_if (fun c12 => ?_) (fun c12 => ?_)
      ·
        exact absurd c12 hnr
      ·
        refine ev_R tabT [] 1500 ?_
        refine ev_if (fun c14 => ?_) (fun c14 => ?_)
        ·
          refine ev_seq ?_
          refine ev_seq (ev_region tabT [] 1600 rfl ?_)
          refine sat_go ?_
          refine sat_fn _ (heapInt_ok _ (by omega) (by omega)) rfl ?_
          refine sat_go ?_
          refine sat_done (exS_normal ?_)
          refine ev_seq (ev_drawn tabT [] [[], [0], [0, 1], [], [3], [3, 4], [3, 4, 5], [3, 4, 5, 6], [3, 4, 5, 6, 7], [0, 1, 2, 3, 4, 5, 6, 7, 8], [0, 1, 2, 3, 4, 5, 6, 7, 8, 9]] 1700 mixT (by kernel_rfl) rfl ?_)
          repeat (first | refine sat_same ?_ | refine sat_impA ?_ | refine sat_need (by first | exact ⟨by decide, Nat.one_lt_two⟩ | first | exact trivial | omega | exact ini (by omega) (by omega) | (intro hh; simp at hh; exact ini (by omega) (by omega)) | (intro hh; simp at hh ⊢; omega) | (simp at *; omega) | (simp_all; done)) ?_)
          refine sat_fn _ (EqualU_ok _ _) rfl ?_
          repeat (first | refine sat_same ?_ | refine sat_impA ?_ | refine sat_need (by first | exact ⟨by decide, Nat.one_lt_two⟩ | first | exact trivial | omega | exact ini (by omega) (by omega) | (intro hh; simp at hh; exact ini (by omega) (by omega)) | (intro hh; simp at hh ⊢; omega) | (simp at *; omega) | (simp_all; done)) ?_)
          refine sat_done (exS_normal ?_)
          refine ev_if (fun c16 => ?_) (fun c16 => ?_)
          ·
            refine ev_seq (ev_region tabT [] 1800 rfl ?_)
            refine sat_go ?_
            refine sat_fn _ (itRaise_ok _ _) rfl ?_
            refine sat_go ?_
            refine sat_done (exS_normal (ev_ret (exS_ret (exBl_ret (exS_ret ?_)))))
            exact FinV.ret rfl (SubP.of_eq (by unfold elmS; rw [if_neg c3, if_neg c8, if_pos c14, if_neg (show ¬ (nuV ((objS h v).keys.length : Nat)).nl = z.nl from c16)]; rfl))
          ·
            refine ev_skip (exS_normal ?_)
            refine ev_seq (ev_region tabT [] 1900 rfl ?_)
            refine sat_go ?_
            refine sat_fn _ (itAt_ok _ _ hi) rfl ?_
            refine sat_go ?_
            refine sat_done (exS_normal (ev_ret (exBl_ret (exS_ret ?_))))
            exact FinV.ret rfl (SubP.of_eq (by unfold elmS; rw [if_neg c3, if_neg c8, if_pos c14, if_pos (show (nuV ((objS h v).keys.length : Nat)).nl = z.nl from c16)]; rfl))
        ·
          refine ev_skip (exBl_normal (exS_normal ?_))
          refine ev_seq (ev_region tabT [] 2000 rfl ?_)
          refine sat_go ?_
          refine sat_fn _ (itAt_ok _ _ hi) rfl ?_
          refine sat_go ?_
          refine sat_done (exS_normal (ev_ret ?_))
          exact FinV.ret rfl (SubP.of_eq (by unfold elmS; rw [if_neg c3, if_neg c8, if_neg (not_or.2 c14)]; rfl))
set_option maxHeartbeats 1000000 in
theorem itIter_G (h : List Ob) (v : Vl) (hh : HpIn h) (g : Uh h) (hi : VlIn v) (hs : hasS h v = true) (n1 : ¬ (objS h v).kind = 17) (n2 : ¬ (objS h v).kind = 16) (n3 : ¬ (objS h v).kind = 10) : FnG Tryz.prog 7 [.bp 0 0, .agg (vlD v)] (hpO h) (.agg (stD (itR h v))) (hpO (itH h v)) := by
  have hvo := has_obj hs
  have hcf := cf_of g hs
  have hhl := hh.len
  have hkl := (obj_in hh v).kl
  have hzi : VlIn (itZ h v) := itZ_in hkl
  have hnm := (hh.at (clA h v)).nm
  refine fnH_ev tabT Tryz.func7 rfl rfl rfl rfl rfl rfl rfl ?_
  intro w0 s0 mx
  refine ev_R tabT [] 100 ?_
  refine ev_R tabT [] 200 ?_
  refine ev_seq ?_
  refine ev_seq (ev_drawn tabT [] [[], [0], [0, 1], [], [0, 1, 2, 3], [], [0, 1, 2, 3, 4, 5]] 300 mixT (by kernel_rfl) rfl ?_)
  refine sat_go ?_
  refine sat_fnL _ (itObject_ok h v hvo) rfl rfl ?_
  refine sat_go ?_
  refine sat_done (exS_normal (ev_block ?_))
  refine ev_R tabT [] 800 ?_
  refine ev_if (fun c7 => ?_) (fun c7 => ?_)
  ·
    exact absurd c7 (by omega)
  ·
    refine ev_R tabT [] 1000 ?_
    refine ev_if (fun c9 => ?_) (fun c9 => ?_)
    ·
      refine ev_region tabT [] 1100 rfl ?_
      refine sat_go ?_
      refine sat_fn _ (heapInt_ok _ (by omega) (by omega)) rfl ?_
      refine sat_go ?_
      refine sat_done (exBl_normal (exS_normal ?_))
      refine ev_seq (ev_region tabT [1086] 1300 rfl ?_)
      refine sat_go ?_
      refine sat_fnH _ _ ((heapNew_G h (itO v (itZ h v) 0) (by omega) (itO_in hi hzi (by decide))).args ⟨Sub.refl _, Sub.ofP (SubP.agg ⟨SubP.refl _, SubP.refl _, SubP.refl _, SubP.nilSl rfl, SubP.nilSl rfl, SubP.nilSl rfl, SubP.slrRows (itZ_row1 (by omega)), SubP.nilSl rfl, SubP.refl _, SubP.refl _, trivial⟩) rfl rfl, trivial⟩) rfl ?_
      refine sat_go ?_
      refine sat_fn _ (heapRef_ok _) rfl ?_
      refine sat_go ?_
      refine sat_fn _ (itValue_ok _) rfl ?_
      refine sat_go ?_
      refine sat_done (exS_normal (ev_ret ?_))
      have hb : itB h v = true := decide_eq_true (by omega)
      rw [show itR h v = _ from if_pos hb, show itH h v = _ from if_pos hb]
      exact FinH.ret 2 rfl rfl (Sub.ofP (SubP.agg (SubPs.refl _)) rfl rfl) ⟨⟨rfl, Sub.mo rfl, rfl, trivial⟩, SubO.mp rfl, trivial⟩
    ·
      refine ev_R tabT [] 1200 ?_
      refine ev_if (fun c11 => ?_) (fun c11 => ?_)
      ·
        refine ev_skip (exBl_normal (exS_normal ?_))
        refine ev_seq (ev_region tabT [1086] 1300 rfl ?_)
        refine sat_go ?_
        refine sat_fnH _ _ ((heapNew_G h (itO v (itZ h v) 0) (by omega) (itO_in hi hzi (by decide))).args ⟨Sub.refl _, Sub.ofP (SubP.agg ⟨SubP.refl _, SubP.refl _, SubP.refl _, SubP.nilSl rfl, SubP.nilSl rfl, SubP.nilSl rfl, SubP.slrRows (itZ_row0 (by omega)), SubP.nilSl rfl, SubP.refl _, SubP.refl _, trivial⟩) rfl rfl, trivial⟩) rfl ?_
        refine sat_go ?_
        refine sat_fn _ (heapRef_ok _) rfl ?_
        refine sat_go ?_
        refine sat_fn _ (itValue_ok _) rfl ?_
        refine sat_go ?_
        refine sat_done (exS_normal (ev_ret ?_))
        have hb : itB h v = true := decide_eq_true (by omega)
        rw [show itR h v = _ from if_pos hb, show itH h v = _ from if_pos hb]
        exact FinH.ret 2 rfl rfl (Sub.ofP (SubP.agg (SubPs.refl _)) rfl rfl) ⟨⟨rfl, Sub.mo rfl, rfl, trivial⟩, SubO.mp rfl, trivial⟩
      ·
        refine ev_seq ?_
        refine ev_seq (ev_drawn tabT [] [[], [0], [0, 1], [], [0, 1, 2, 3], [0, 1, 2, 3, 4], [0, 1, 2, 3, 4, 5], [0, 1, 2, 3, 4, 5], [], [0, 1, 2, 3, 4, 5, 6, 8], [0, 1, 2, 3, 4, 5, 6, 7, 8, 9]] 1300 mixT (by kernel_rfl) rfl ?_)
        refine sat_go ?_
        refine sat_fnL _ (itSpecial_ok h v _ hh g hvo) rfl rfl ?_
        refine sat_go ?_
        refine sat_done (exS_normal ?_)
        refine ev_R tabT [] 1400 ?_
        refine ev_if (fun c4 => ?_) (fun c4 => ?_)
        ·
          exact absurd c4 (by rw [spS, if_pos n3]; decide)
        ·
          refine ev_skip (exS_normal ?_)
          refine ev_seq (ev_drawn tabT [] [[], [0], [0, 1], [], [0, 1, 2, 3], [0, 1, 2, 3, 4], [0, 1, 2, 3, 4, 5], [0, 1, 2, 3, 4, 5, 6], [0, 1, 2, 3, 4, 5, 6, 7]] 1500 mixT (by kernel_rfl) rfl ?_)
          repeat (first | refine sat_same ?_ | refine sat_impA ?_ | refine sat_need (by first | (simp only [ByteArray.size_append, bsZ, List.size_toArray, List.length_cons, List.length_nil]; omega) | first | exact trivial | omega | exact ini (by omega) (by omega) | (intro hh; simp at hh; exact ini (by omega) (by omega)) | (intro hh; simp at hh ⊢; omega) | (simp at *; omega) | (simp_all; done)) ?_)
          refine sat_fnL _ (heapName_ok h v g hcf) rfl rfl ?_
          repeat (first | refine sat_same ?_ | refine sat_impA ?_ | refine sat_need (by first | (simp only [ByteArray.size_append, bsZ, List.size_toArray, List.length_cons, List.length_nil]; omega) | first | exact trivial | omega | exact ini (by omega) (by omega) | (intro hh; simp at hh; exact ini (by omega) (by omega)) | (intro hh; simp at hh ⊢; omega) | (simp at *; omega) | (simp_all; done)) ?_)
          refine sat_fn _ (itRaise_ok 32 (itN h v)) rfl ?_
          repeat (first | refine sat_same ?_ | refine sat_impA ?_ | refine sat_need (by first | (simp only [ByteArray.size_append, bsZ, List.size_toArray, List.length_cons, List.length_nil]; omega) | first | exact trivial | omega | exact ini (by omega) (by omega) | (intro hh; simp at hh; exact ini (by omega) (by omega)) | (intro hh; simp at hh ⊢; omega) | (simp at *; omega) | (simp_all; done)) ?_)
          refine sat_done (exS_normal (ev_ret (exBl_ret (exS_ret ?_))))
          have hb : ¬ itB h v = true := fun hh => absurd (of_decide_eq_true hh) (by omega)
          rw [show itR h v = _ from if_neg hb, show itH h v = _ from if_neg hb]
          exact FinH.ret 2 rfl rfl (Sub.ofP (SubP.agg (SubPs.refl _)) rfl rfl) ⟨⟨rfl, Sub.mo rfl, rfl, trivial⟩, SubO.mp rfl, trivial⟩
def nxR (h : List Ob) (v z : Vl) (i : Int) : St := if i = 1099511627776 then dnS else elmS h v z i
def nxI (h : List Ob) (v z : Vl) (i : Int) : Int := if i = 1099511627776 then i else if (elmS h v z i).k = 0 then i + 1 else 1099511627776
theorem obj_it {h : List Ob} {r : Nat} {v z : Vl} {i : Int} (hr : h[r]? = some (itO v z i)) : objS h (rfV (r : Nat)) = itO v z i ∧ isObj h (rfV (r : Nat)).r = true ∧ h.getD r ob0 = itO v z i := by
  have h1 : h.getD ((r : Nat) : Int).toNat ob0 = itO v z i := by rw [Int.toNat_natCast, List.getD_eq_getElem?_getD, hr]; rfl
  have h2 : isObj h (rfV (r : Nat)).r = true := by
    have hl := (List.getElem?_eq_some_iff.1 hr).1
    show isObj h ((r : Nat) : Int) = true
    simp only [isObj, Bool.and_eq_true, decide_eq_true_eq]
    exact ⟨⟨by omega, by omega⟩, by rw [h1]; rfl⟩
  exact ⟨by unfold objS; rw [if_pos ⟨rfl, h2⟩]; exact h1, h2, by rw [← h1, Int.toNat_natCast]⟩
theorem set_same {α : Type} {l : List α} {r : Nat} {a : α} (h : l[r]? = some a) : l.set r a = l := by
  apply List.ext_getElem?
  intro j
  rw [List.getElem?_set]
  split
  · rename_i e
    subst e
    rw [h, if_pos (List.getElem?_eq_some_iff.1 h).1]
  · rfl
theorem upd_ob {h : List Ob} {r : Nat} {o : Ob} {row : List D} (hr : D.pvs row = D.pvs (obD o)) : D.pvss ((h.map obD).set ((r : Nat) : Int).toNat row) = D.pvss ((h.set r o).map obD) := by
  rw [Int.toNat_natCast, pvss_map, pvss_map, List.map_set, hr, List.map_map, List.map_map, List.map_set]
  rfl
set_option maxHeartbeats 1000000 in
theorem itNext_G (h : List Ob) (r : Nat) (v z : Vl) (i : Int) (hr : h[r]? = some (itO v z i)) (hv : v.k = 6 → isObj h v.r = true) (hi : 0 ≤ i) (hi2 : i ≤ 1099511627776) (hin : VlIn v) (hob : ObIn (objS h v)) (hz : z.nl.length ≤ 2000000) (hnr : ¬ (objS h v).kind = 5) : FnG Tryz.prog 9 [.bp 0 0, .agg (vlD (rfV (r : Nat)))] (hpO h) (.agg (stD (nxR h v z i))) (hpO (h.set r (itO v z (nxI h v z i)))) := by
  obtain ⟨ho1, ho2, hst⟩ := obj_it hr
  have hrl := (List.getElem?_eq_some_iff.1 hr).1
  have hst2 : h.getD (rfV (r : Nat)).r.toNat ob0 = itO v z i := by rw [← hst]; show h.getD ((r : Nat) : Int).toNat ob0 = _; rw [Int.toNat_natCast]
  refine fnH_ev tabT Tryz.func9 rfl rfl rfl rfl rfl rfl rfl ?_
  intro w0 s0 mx
  refine ev_R tabT [] 100 ?_
  refine ev_seq (ev_drawn tabT [] [[], [0], [0, 1], [], [0, 1, 2, 3], [], [0, 1, 2, 3, 4, 5]] 200 mixT (by kernel_rfl) rfl ?_)
  refine sat_go ?_
  refine sat_fnL _ ((itObject_ok h (rfV (r : Nat)) (fun _ => ho2)).out (SubP.of_eq (congrArg (fun o => D.agg (obD o)) ho1))) rfl rfl ?_
  refine sat_go ?_
  refine sat_done (exS_normal ?_)
  refine ev_seq ?_
  refine ev_R tabT [] 300 ?_
  refine ev_block ?_
  refine ev_R tabT [] 800 ?_
  refine ev_if (fun c7 => ?_) (fun c7 => ?_)
  ·
    exact absurd c7 (by show ¬ (16 : Int) = 17; decide)
  ·
    refine ev_R tabT [] 1000 ?_
    refine ev_if (fun c9 => ?_) (fun c9 => ?_)
    ·
      refine ev_skip (exBl_normal (exS_normal ?_))
      refine ev_seq ?_
      refine ev_R tabT [] 1100 ?_
      refine ev_if (fun c10 => ?_) (fun c10 => ?_)
      ·
        refine ev_seq (ev_region tabT [] 1200 rfl ?_)
        refine sat_go ?_
        refine sat_fn _ (itDone_ok) rfl ?_
        refine sat_go ?_
        refine sat_done (exS_normal (ev_ret (exS_ret ?_)))
        rw [show nxR h v z i = _ from if_pos c10, show nxI h v z i = _ from if_pos c10]
        exact FinH.ret 2 rfl rfl (Sub.ofP (SubP.agg (SubPs.refl _)) rfl rfl) ⟨⟨rfl, Sub.mo (by simp), rfl, trivial⟩, SubO.mp (by rw [show h.set r (itO v z i) = h from set_same hr]), trivial⟩
      ·
        refine ev_skip (exS_normal ?_)
        refine ev_seq (ev_drawn tabT [] [[], [0], [0, 1], [], [0, 1, 2, 3], [], [0, 1, 2, 3, 4, 5]] 1300 mixT (by kernel_rfl) rfl ?_)
        refine sat_go ?_
        refine sat_fnL _ (itElement_ok h v z i hv hi hin hob hz hnr) rfl rfl ?_
        refine sat_go ?_
        refine sat_done (exS_normal ?_)
        refine ev_seq ?_
        refine ev_R tabT [] 1400 ?_
        refine ev_if (fun c13 => ?_) (fun c13 => ?_)
        ·
          refine ev_drawn tabT [] [[], [0], [0, 1], [0, 1, 2], [], [4], [0, 1, 2, 3, 4, 5], [0, 1, 2, 3, 4, 5, 6], [0, 1, 2, 3, 4, 5, 6, 7], [0, 1, 2, 3, 4, 5, 6, 7, 8], [0, 1, 2, 3, 4, 5, 6, 7, 8, 9], [0, 1, 2, 3, 4, 5, 6, 7, 8, 9, 10], [0, 1, 2, 3, 4, 5, 6, 7, 8, 9, 10, 11]] 1500 mixT (by kernel_rfl) rfl ?_
          repeat (first | refine sat_same ?_ | refine sat_impA ?_ | refine sat_need (by first | (rw [hst2]; show InI (i + 1); exact ini (by omega) (by omega)) | exact ⟨by simp [MR.len], by show ((r : Nat) : Int).toNat < (MR.map h obD ob0).len; rw [Int.toNat_natCast]; simpa [MR.len] using hrl⟩ | exact ⟨by show (0 : Int) ≤ ((r : Nat) : Int); omega, by show ((r : Nat) : Int).toNat < h.length; omega⟩ | first | exact trivial | omega | exact ini (by omega) (by omega) | (intro hh; simp at hh; exact ini (by omega) (by omega)) | (intro hh; simp at hh ⊢; omega) | (simp at *; omega) | (simp_all; done)) ?_)
          refine sat_done (exS_normal ?_)
          refine ev_R tabT [] 1700 ?_
          refine ev_ret ?_
          rw [show nxR h v z i = _ from if_neg c10, show nxI h v z i = _ from (if_neg c10).trans (if_pos c13)]
          exact FinH.ret 2 rfl rfl (Sub.ofP (SubP.agg (SubPs.refl _)) rfl rfl) ⟨⟨rfl, Sub.mo (by simp), rfl, trivial⟩, SubO.mp (upd_ob (by rw [hst2]; rfl)), trivial⟩
        ·
          refine ev_drawn tabT [] [[], [0], [0, 1], [0, 1, 2], [], [4], [0, 1, 2, 3, 4, 5], [0, 1, 2, 3, 4, 5, 6], [0, 1, 2, 3, 4, 5, 6, 7]] 1600 mixT (by kernel_rfl) rfl ?_
          repeat (first | refine sat_same ?_ | refine sat_impA ?_ | refine sat_need (by first | (rw [hst2]; show InI (i + 1); exact ini (by omega) (by omega)) | exact ⟨by simp [MR.len], by show ((r : Nat) : Int).toNat < (MR.map h obD ob0).len; rw [Int.toNat_natCast]; simpa [MR.len] using hrl⟩ | exact ⟨by show (0 : Int) ≤ ((r : Nat) : Int); omega, by show ((r : Nat) : Int).toNat < h.length; omega⟩ | first | exact trivial | omega | exact ini (by omega) (by omega) | (intro hh; simp at hh; exact ini (by omega) (by omega)) | (intro hh; simp at hh ⊢; omega) | (simp at *; omega) | (simp_all; done)) ?_)
          refine sat_done (exS_normal ?_)
          refine ev_R tabT [] 1700 ?_
          refine ev_ret ?_
          rw [show nxR h v z i = _ from if_neg c10, show nxI h v z i = _ from (if_neg c10).trans (if_neg c13)]
          exact FinH.ret 2 rfl rfl (Sub.ofP (SubP.agg (SubPs.refl _)) rfl rfl) ⟨⟨rfl, Sub.mo (by simp), rfl, trivial⟩, SubO.mp (upd_ob (by rw [hst2]; rfl)), trivial⟩
    ·
      exact absurd rfl c9
end Go.Proofs.YtngidfegeapkbaaGreatDoor


/- Walks by the evaluator: the law of statement 29. -/
namespace Go.Proofs.YtngidfegeapkbaaGreatDoor
open Go.RowKit
variable {md me : Bool}
theorem isObj_app {h : List Ob} {o : Ob} {n : Int} (hn : isObj h n = true) : isObj (h ++ [o]) n = true ∧ (h ++ [o]).getD n.toNat ob0 = h.getD n.toNat ob0 := by
  have hi := isObj_in hn
  have hl : n.toNat < h.length := hi.2
  have h2 : (h ++ [o]).getD n.toNat ob0 = h.getD n.toNat ob0 := by
    rw [List.getD_eq_getElem?_getD, List.getD_eq_getElem?_getD, List.getElem?_append_left hl]
  refine ⟨?_, h2⟩
  simp only [isObj, Bool.and_eq_true, decide_eq_true_eq] at hn ⊢
  refine ⟨⟨hn.1.1, by rw [List.length_append]; have := hn.1.2; simp; omega⟩, by rw [h2]; exact hn.2⟩
theorem obj_app {h : List Ob} {o : Ob} {v : Vl} (hv : v.k = 6 → isObj h v.r = true) : objS (h ++ [o]) v = objS h v := by
  unfold objS
  by_cases hk : v.k = 6
  · obtain ⟨h1, h2⟩ := isObj_app (o := o) (hv hk)
    rw [if_pos ⟨hk, h1⟩, if_pos ⟨hk, hv hk⟩, h2]
  · rw [if_neg (fun hh => hk hh.1), if_neg (fun hh => hk hh.1)]
theorem elm_app {h : List Ob} {o : Ob} {v z : Vl} {i : Int} (hv : v.k = 6 → isObj h v.r = true) : elmS (h ++ [o]) v z i = elmS h v z i := by
  unfold elmS
  rw [obj_app hv]
theorem at_lt {l : List Vl} {i : Nat} (h : i < l.length) : atS l (i : Nat) = vlS (l.getD i vl0) := by
  rw [atS, if_pos (by omega), Int.toNat_natCast]
theorem at_ge {l : List Vl} {i : Nat} (h : l.length ≤ i) : atS l (i : Nat) = dnS := if_neg (by omega)
theorem map_getD {α β : Type} {f : α → β} {l : List α} {i : Nat} {d : β} (e : α) (h : i < l.length) : (l.map f).getD i d = f (l.getD i e) := by
  rw [List.getD_eq_getElem?_getD, List.getD_eq_getElem?_getD, List.getElem?_map, List.getElem?_eq_getElem h]; rfl
theorem elm_el {h : List Ob} {v : Vl} {i : Nat} : (i < (elS h v).length → elmS h v (itZ h v) (i : Nat) = vlS ((elS h v).getD i vl0)) ∧ ((elS h v).length ≤ i → elmS h v (itZ h v) (i : Nat) = dnS) := by
  by_cases h4 : v.k = 4
  · have e : elS h v = (itL v.s v.s.size 0).map fun c => txV (Utf8.encode c.2) := if_pos h4
    have er : (ruL v.s).length = (itL v.s v.s.size 0).length := List.length_map _
    rw [e, List.length_map]
    unfold elmS
    rw [if_pos h4]
    constructor
    · intro hl
      rw [if_pos (by omega), map_getD (0, 0) hl, Int.toNat_natCast, ruL, map_getD (0, 0) hl]
    · intro hl
      rw [if_neg (by omega)]
  by_cases h5 : v.k = 5
  · have e : elS h v = (List.range v.s.size).map fun i => nuV ((bAt v.s i : Nat) : Int) := (if_neg h4).trans (if_pos h5)
    rw [e, List.length_map, List.length_range]
    unfold elmS
    rw [if_neg h4, if_pos h5]
    constructor
    · intro hl
      rw [if_pos (by omega), map_getD 0 (by rw [List.length_range]; exact hl), Int.toNat_natCast, List.getD_eq_getElem?_getD, List.getElem?_range hl]; rfl
    · intro hl
      rw [if_neg (by omega)]
  by_cases hd : (objS h v).kind = 3 ∨ (objS h v).kind = 4
  · have e : elS h v = (objS h v).keys := (if_neg h4).trans ((if_neg h5).trans (if_pos hd))
    have ez : itZ h v = nuV ((objS h v).keys.length : Nat) := if_pos hd
    unfold elmS
    rw [e, ez, if_neg h4, if_neg h5, if_pos hd, if_pos rfl]
    exact ⟨at_lt, at_ge⟩
  · have e : elS h v = (objS h v).items := (if_neg h4).trans ((if_neg h5).trans (if_neg hd))
    unfold elmS
    rw [e, if_neg h4, if_neg h5, if_neg hd]
    exact ⟨at_lt, at_ge⟩
theorem el_len {h : List Ob} {v : Vl} (hi : VlIn v) (ho : ObIn (objS h v)) : (elS h v).length ≤ 2000000 := by
  have h1 := itL_length v.s v.s.size 0
  have h2 := hi.s
  unfold elS
  split
  · rw [List.length_map]; omega
  · split
    · rw [List.length_map, List.length_range]; exact h2
    · split
      · exact ho.kl
      · exact ho.il
structure Itc (h : List Ob) (v : Vl) : Prop where
  obj : v.k = 6 → isObj h v.r = true
  vin : VlIn v
  oin : ObIn (objS h v)
  nr : ¬ (objS h v).kind = 5
theorem last_it {h : List Ob} {o : Ob} : (h ++ [o])[h.length]? = some o := by simp
theorem set_last {h : List Ob} {o o' : Ob} : (h ++ [o]).set h.length o' = h ++ [o'] := by simp
theorem itNext_at {h : List Ob} {v : Vl} (c : Itc h v) {i j : Int} {s : St} (hi : 0 ≤ i) (hi2 : i ≤ 1099511627776) (hs : nxR h v (itZ h v) i = s) (hj : nxI h v (itZ h v) i = j) :
    FnG Tryz.prog 9 [.bp 0 0, .agg (vlD (rfV (h.length : Nat)))] (hpO (h ++ [itO v (itZ h v) i])) (.agg (stD s)) (hpO (h ++ [itO v (itZ h v) j])) := by
  have h0 := itNext_G (h ++ [itO v (itZ h v) i]) h.length v (itZ h v) i last_it (fun hk => (isObj_app (c.obj hk)).1) hi hi2 c.vin (by rw [obj_app c.obj]; exact c.oin) (itZ_in c.oin.kl).nn (by rw [obj_app c.obj]; exact c.nr)
  have e1 : nxR (h ++ [itO v (itZ h v) i]) v (itZ h v) i = s := by rw [← hs]; unfold nxR; rw [elm_app c.obj]
  have e2 : nxI (h ++ [itO v (itZ h v) i]) v (itZ h v) i = j := by rw [← hj]; unfold nxI; rw [elm_app c.obj]
  rw [e1, e2, set_last] at h0
  exact h0
theorem itNext_el {h : List Ob} {v : Vl} (c : Itc h v) {k : Nat} (hk : k < (elS h v).length) :
    FnG Tryz.prog 9 [.bp 0 0, .agg (vlD (rfV (h.length : Nat)))] (hpO (h ++ [itO v (itZ h v) (k : Nat)])) (.agg (stD (vlS ((elS h v).getD k vl0)))) (hpO (h ++ [itO v (itZ h v) ((k + 1 : Nat) : Int)])) := by
  have hl := el_len c.vin c.oin
  have e := elm_el.1 hk
  refine itNext_at c (by omega) (by omega) ?_ ?_
  · rw [nxR, if_neg (by omega)]; exact e
  · rw [nxI, if_neg (by omega), e]; exact (if_pos (show (vlS ((elS h v).getD k vl0)).k = 0 from rfl)).trans (by push_cast; rfl)
theorem chk_st (s : St) (h : List Ob) : chkG 2 (.agg (stD s)) (hpO h) = true := rfl
def enI (n k : Nat) : Int := if k = 0 then (n : Nat) else 1099511627776
theorem itNext_end {h : List Ob} {v : Vl} (c : Itc h v) {k : Nat} :
    FnG Tryz.prog 9 [.bp 0 0, .agg (vlD (rfV (h.length : Nat)))] (hpO (h ++ [itO v (itZ h v) (enI (elS h v).length k)])) (.agg (stD dnS)) (hpO (h ++ [itO v (itZ h v) (enI (elS h v).length (k + 1))])) := by
  have hl := el_len c.vin c.oin
  have e := elm_el.2 (Nat.le_refl (elS h v).length)
  by_cases hk : k = 0
  · have e1 : enI (elS h v).length k = ((elS h v).length : Nat) := if_pos hk
    rw [e1]
    refine itNext_at c (by omega) (by omega) ?_ ?_
    · rw [nxR, if_neg (by omega)]; exact e
    · rw [nxI, if_neg (by omega), e, if_neg (by decide)]; exact (if_neg (Nat.succ_ne_zero k)).symm
  · have e1 : enI (elS h v).length k = 1099511627776 := if_neg hk
    rw [e1]
    refine itNext_at c (by omega) (by omega) (if_pos rfl) ?_
    rw [nxI, if_pos rfl]; exact (if_neg (Nat.succ_ne_zero k)).symm
set_option maxHeartbeats 2000000 in
theorem Law_ok (h : List Ob) (v : Vl) (hh : HpIn h) (hi : VlIn v) : Fn Tryz.prog 3 [hpD md h, .agg (vlD v)] (.v (.bool true)) := by
  have hhl := hh.len
  have hob := obj_in hh v
  have hel := el_len hi hob
  refine fn_ev tabT Tryz.func3 rfl rfl rfl rfl rfl rfl ?_
  intro w0 s0 mx
  refine ev_R tabT [] 100 ?_
  refine ev_seq ?_
  refine ev_seq (ev_region tabT [] 200 rfl ?_)
  refine sat_go ?_
  refine sat_fn _ ((Usable_ok h [v] hh (fun u hu => by simp only [List.mem_singleton] at hu; rw [hu]; exact hi) (by show 1 ≤ 2000000; omega)).args ⟨SubP.refl _, SubP.slrSl rfl, trivial⟩) rfl ?_
  refine sat_go ?_
  refine sat_done (exS_normal ?_)
  refine ev_cond rfl (fun c1 => ?_) (fun c1 => ?_)
  ·
    refine ev_R tabT [] 300 ?_
    refine ev_ret (exS_ret ?_)
    exact FinV.ret rfl (SubP.refl _)
  · have hq : (problemS h).1 = 0 ∧ hasS h v = true := by
      have hu : usableS h [v] = true := by simpa using c1
      simp only [usableS, Bool.and_eq_true, decide_eq_true_eq, List.all_cons, List.all_nil, Bool.and_true] at hu
      exact hu
    have g : Uh h := uh_of hq.1
    have hs := hq.2
    refine ev_skip (exS_normal ?_)
    refine ev_seq (ev_region tabT [] 400 rfl ?_)
    refine sat_go ?_
    refine sat_fn _ (Obj_ok _ _) rfl ?_
    refine sat_go ?_
    refine sat_done (exS_normal ?_)
    refine ev_seq ?_
    refine ev_R tabT [] 500 ?_
    refine ev_cond rfl (fun c4 => ?_) (fun c4 => ?_)
    ·
      refine ev_R tabT [] 600 ?_
      refine ev_ret (exS_ret ?_)
      exact FinV.ret rfl (SubP.refl _)
    · have hn : ¬ (objS h v).kind = 17 ∧ ¬ (objS h v).kind = 16 ∧ ¬ (objS h v).kind = 10 ∧ ¬ (objS h v).kind = 5 := by simp at c4; omega
      have hic : Itc h v := ⟨has_obj hs, hi, hob, hn.2.2.2⟩
      refine ev_skip (exS_normal ?_)
      refine ev_seq (ev_region tabT [1039] 700 rfl ?_)
      refine sat_go ?_
      refine sat_fnH _ _ (Copy_G h hh) rfl ?_
      refine sat_go ?_
      refine sat_done (exS_normal ?_)
      refine ev_tell [2, 3, 6] [0, 1] 710 [] [(501, .mrow 35 10 (.map h obD ob0)), (502, .box 24 [.mo 501 h.length])] ?_
      refine ⟨⟨le_t, ⟨SubO.mp rfl, ⟨rfl, SubL.same rfl⟩, le_o⟩, rfl, rfl⟩, ?_⟩
      refine ev_seq (ev_region tabT [1041] 800 rfl ?_)
      refine sat_go ?_
      refine sat_fnH _ _ (itIter_G h v hh g hi hs hn.1 hn.2.1 hn.2.2.1) (chk_st _ _) ?_
      refine sat_go ?_
      refine sat_done (exS_normal ?_)
      refine ev_seq ?_
      refine ev_R tabT [] 900 ?_
      refine ev_cond rfl (fun c8 => ?_) (fun c8 => ?_)
      · have hb : ¬ itB h v = true := fun hb => by simp [itR, if_pos hb, vlS] at c8
        refine ev_R tabT [] 1000 ?_
        refine ev_ret (exS_ret ?_)
        exact FinV.ret rfl (SubP.bool (by simp [itR, hb, raS]))
      · have hb : itB h v = true := by
          rcases Bool.eq_false_or_eq_true (itB h v) with hb | hb
          · exact hb
          · simp [itR, hb, raS] at c8
        refine ev_skip (exS_normal ?_)
        refine ev_seq ?_
        rw [show itR h v = vlS (rfV (h.length : Nat)) from if_pos hb, show itH h v = h ++ [itO v (itZ h v) 0] from if_pos hb]
        refine ev_tell [2, 3, 6, 7] [0, 1] 910 [] [(501, .mrow 35 10 (.map (h ++ [itO v (itZ h v) 0]) obD ob0)), (502, .box 24 [.mo 501 (h ++ [itO v (itZ h v) 0]).length]), (712, .box 39 (stD (vlS (rfV (h.length : Nat)))))] ?_
        refine ⟨⟨le_t, ⟨SubO.mp rfl, ⟨rfl, Sub.mo (by simp), rfl, trivial⟩, ⟨rfl, SubL.same rfl⟩, le_o⟩, rfl, rfl⟩, ?_⟩
        refine ev_seq (ev_region tabT [50] 1100 rfl ?_)
        refine sat_go ?_
        refine sat_fnO _ _ _ (Elements_ok h v hh hi) ?_
        refine sat_go ?_
        refine sat_done (exS_normal (ev_block ?_))
        refine ev_loopK (ι := {k : Nat // k ≤ (elS h v).length}) [6, 7, 51] [712] 1150 (fun x => [(52, .v (.int .i64 x.1)), (50, .sl false 7 (elS h v) vlD vl0)]) (fun x => [(501, .mrow 35 10 (.map (h ++ [itO v (itZ h v) (x.1 : Nat)]) obD ob0)), (502, .box 24 [.mo 501 (h ++ [itO v (itZ h v) (x.1 : Nat)]).length])]) (fun x => (elS h v).length - x.1) ⟨0, Nat.zero_le _⟩ ?_
        refine ⟨⟨le_t, ⟨SubO.mp rfl, ⟨rfl, Sub.mo (by simp), rfl, trivial⟩, le_o⟩, rfl, rfl⟩, fun x => ?_⟩
        have hk : x.1 ≤ (elS h v).length := x.2
        refine ev_R tabT [] 1200 ?_
        refine ev_seq ?_
        refine ev_cond rfl (fun c11 => ?_) (fun c11 => ?_)
        · have hk2 : x.1 < (elS h v).length := by simpa using c11
          refine ev_skip (exS_normal ?_)
          refine ev_seq ?_
          refine ev_block ?_
          refine ev_seq (ev_region tabT [] 1300 rfl ?_)
          repeat (first | refine sat_same ?_ | refine sat_impA ?_ | refine sat_need (by first | exact ⟨by omega, by rw [Int.toNat_natCast]; exact hk2⟩ | first | exact trivial | omega | exact ini (by omega) (by omega) | (intro hh; simp at hh; exact ini (by omega) (by omega)) | (intro hh; simp at hh ⊢; omega) | (simp at *; omega) | (simp_all; done)) ?_)
          refine sat_done (exS_normal ?_)
          refine ev_seq (ev_region tabT [1058] 1400 rfl ?_)
          refine sat_go ?_
          refine sat_fnH _ _ (itNext_el hic hk2) (chk_st _ _) ?_
          refine sat_go ?_
          refine sat_done (exS_normal ?_)
          refine ev_seq (ev_region tabT [] 1500 rfl ?_)
          refine sat_go ?_
          refine sat_fnG _ (fun hg7 => SameValue_ok _ _) rfl ?_
          refine sat_go ?_
          refine sat_done (exS_normal ?_)
          refine ev_if (fun c14 => ?_) (fun c14 => ?_)
          ·
            exact absurd c14 (by simp [vlS])
          ·
            refine ev_skip (exBl_normal (exS_normal ?_))
            refine ev_Q tabT [] 1700 ?_
            exact exL_normal (⟨x.1 + 1, by omega⟩) ⟨⟨Sub.int (by push_cast; rfl), le_t⟩, ⟨SubO.mp rfl, ⟨rfl, Sub.mo (by simp), rfl, trivial⟩, le_o⟩, rfl, rfl⟩ (by show (elS h v).length - (x.1 + 1) < (elS h v).length - x.1; omega)
        · have hk2 : x.1 = (elS h v).length := by simp at c11; omega
          refine ev_exit (exS_exit (exL_exit (exBl_same (exS_normal ?_))))
          refine ev_seq ?_
          refine ev_R tabT [] 1800 ?_
          refine ev_block ?_
          refine ev_loopK (ι := {k : Nat // k ≤ 2}) [6, 7] [712] 1850 (fun x => [(70, .v (.int .i64 x.1))]) (fun x => [(501, .mrow 35 10 (.map (h ++ [itO v (itZ h v) (enI (elS h v).length x.1)]) obD ob0)), (502, .box 24 [.mo 501 (h ++ [itO v (itZ h v) (enI (elS h v).length x.1)]).length])]) (fun x => 2 - x.1) ⟨0, Nat.zero_le _⟩ ?_
          refine ⟨⟨le_t, ⟨SubO.mp (by rw [hk2]; rfl), ⟨rfl, Sub.mo (by simp), rfl, trivial⟩, le_o⟩, rfl, rfl⟩, fun x => ?_⟩
          have hk3 : x.1 ≤ 2 := x.2
          refine ev_R tabT [] 1900 ?_
          refine ev_seq ?_
          refine ev_if (fun c18 => ?_) (fun c18 => ?_)
          ·
            refine ev_skip (exS_normal ?_)
            refine ev_seq ?_
            refine ev_block ?_
            refine ev_seq (ev_region tabT [1074] 2000 rfl ?_)
            refine sat_go ?_
            refine sat_fnH _ _ (itNext_end hic) (chk_st _ _) ?_
            refine sat_go ?_
            refine sat_done (exS_normal ?_)
            refine ev_R tabT [] 2100 ?_
            refine ev_if (fun c20 => ?_) (fun c20 => ?_)
            ·
              exact absurd c20 (by simp [dnS])
            ·
              refine ev_skip (exBl_normal (exS_normal ?_))
              refine ev_Q tabT [] 2300 ?_
              exact exL_normal (⟨x.1 + 1, by omega⟩) ⟨⟨Sub.int (by push_cast; rfl), le_t⟩, ⟨SubO.mp rfl, ⟨rfl, Sub.mo (by simp), rfl, trivial⟩, le_o⟩, rfl, rfl⟩ (by show 2 - (x.1 + 1) < 2 - x.1; omega)
          ·
            refine ev_exit (exS_exit (exL_exit (exBl_same (exS_normal ?_))))
            refine ev_R tabT [] 2400 ?_
            refine ev_ret ?_
            exact FinV.ret rfl (SubP.refl _)
end Go.Proofs.YtngidfegeapkbaaGreatDoor


/- Arguments opened: what a reading of a value, an object, a heap gives as data. -/
namespace Go.Proofs.YtngidfegeapkbaaGreatDoor
open Go.ChangeShapes Go.WideShapes Go.ChangeAt Go.RowKit Go.Deep
theorem bulk_mem {H : Type} {d : DataW H} {l : List (DataW H)} (h : d ∈ l) : Rows.uptoBulk d ≤ Rows.uptoBulkAll l := by
  induction l with
  | nil => cases h
  | cons x r ih =>
    simp only [Rows.uptoBulkAll]
    cases List.mem_cons.1 h with
    | inl e => subst e; omega
    | inr e => have := ih e; omega
theorem bulk_one {H : Type} (d : DataW H) : 1 ≤ Rows.uptoBulk d := by
  cases d with
  | lit l => cases l <;> simp [Rows.uptoBulk]
  | nil => simp [Rows.uptoBulk]
  | ptr d => simp [Rows.uptoBulk]
  | slice elems spare => simp [Rows.uptoBulk]
  | agg parts => simp [Rows.uptoBulk]
  | iface t d => simp [Rows.uptoBulk]
  | map entries => simp [Rows.uptoBulk]
  | held h => simp [Rows.uptoBulk]
theorem bulk_length {H : Type} (l : List (DataW H)) : l.length ≤ Rows.uptoBulkAll l := by
  induction l with
  | nil => simp [Rows.uptoBulkAll]
  | cons x r ih => have := bulk_one x; simp only [Rows.uptoBulkAll, List.length_cons]; omega
theorem part_bulk {H : Type} {l : List (DataW H × List MemPlace)} {i : Nat} {y : DataW H × List MemPlace} (h : l[i]? = some y) {n : Nat} (hn : Rows.uptoBulk (DataW.agg (l.map (·.1))) ≤ n) : Rows.uptoBulk y.1 ≤ n := by
  have h1 : y.1 ∈ l.map (·.1) := List.mem_map.2 ⟨y, List.mem_of_getElem? h, rfl⟩
  have h2 := bulk_mem h1
  simp only [Rows.uptoBulk] at hn
  omega
def sW (W : World) : Sb := ⟨fun b _ => b < W.heap.size, fun b _ => b < W.heap.size, fun _ _ h => h⟩
def I64 (x : Int) : Prop := -9223372036854775808 ≤ x ∧ x ≤ 9223372036854775807
theorem i64_wf {x : Int} (h : (Lit.int .i64 x).wf = true) : I64 x := by
  simp [Lit.wf] at h
  have h1 : IntKind.i64.min = -9223372036854775808 := by decide
  have h2 : IntKind.i64.max = 9223372036854775807 := by decide
  unfold I64
  omega
theorem u32_wf {x : Int} (h : (Lit.int .u32 x).wf = true) : 0 ≤ x ∧ x < 4294967296 := by
  simp [Lit.wf] at h
  have h1 : IntKind.u32.min = 0 := by decide
  have h2 : IntKind.u32.max = 4294967295 := by decide
  omega
def Opn {H : Type} (enc : TypeId × Value → H) (P : Program) (W : World) (t : TypeId) {α : Type} (f : α → List D) (Q : α → Nat → Prop) : Prop :=
  ∀ (fuel : Nat) (cs : List Value) (d : DataW H) (ps : List MemPlace), cs.length = P.cellsOf t → DataW.trod enc P W 0 (fun _ => true) true fuel t cs = some (d, ps) →
    ∃ x, AllV W (sW W) (D.pvs (f x)) cs ∧ (∀ c ∈ cs, c.oneCell' = true) ∧ ∀ n, Rows.uptoBulk d ≤ n → Q x n
section
variable {H : Type} {enc : TypeId × Value → H} {P : Program} {W : World}
theorem one_mem {c : Value} (h : c.oneCell' = true) : ∀ x ∈ [c], x.oneCell' = true := fun x hx => by rw [List.mem_singleton] at hx; rw [hx]; exact h
theorem Opn.int {t : TypeId} (ht : P.underlying t = some (.int .i64)) : Opn enc P W t iD (fun x _ => I64 x) := by
  intro fuel cs d ps _ h
  obtain ⟨k, rfl, _, wf⟩ := DataW.trod_int ht h
  exact ⟨k, ⟨rfl, trivial⟩, one_mem rfl, fun _ _ => i64_wf wf⟩
theorem Opn.u32 {t : TypeId} (ht : P.underlying t = some (.int .u32)) : Opn enc P W t uD (fun x _ => x < 4294967296) := by
  intro fuel cs d ps _ h
  obtain ⟨k, rfl, _, wf⟩ := DataW.trod_int ht h
  have h1 := u32_wf wf
  refine ⟨k.toNat, ⟨?_, trivial⟩, one_mem rfl, fun _ _ => by omega⟩
  show Value.int .u32 k = .int .u32 (k.toNat : Nat)
  rw [Int.toNat_of_nonneg h1.1]
theorem Opn.bool {t : TypeId} (ht : P.underlying t = some .bool) : Opn enc P W t (fun b : Bool => [.v (.bool b)]) (fun _ _ => True) := by
  intro fuel cs d ps _ h
  obtain ⟨k, rfl, _⟩ := DataW.trod_bool ht h
  exact ⟨k, ⟨rfl, trivial⟩, one_mem rfl, fun _ _ => trivial⟩
theorem Opn.str {t : TypeId} (ht : P.underlying t = some .string) : Opn enc P W t sD (fun s n => s.size ≤ n) := by
  intro fuel cs d ps _ h
  obtain ⟨k, rfl, hx, _⟩ := DataW.trod_string ht h
  refine ⟨k, ⟨rfl, trivial⟩, one_mem rfl, fun n hn => ?_⟩
  simp only [Prod.mk.injEq] at hx
  rw [hx.1] at hn
  simp only [Rows.uptoBulk] at hn
  have e : k.data.toList.length = k.size := by rw [Array.length_toList]; rfl
  omega
theorem Opn.sl {α : Type} {f : α → List D} {Q : α → Nat → Prop} {t e : TypeId} {sz : Nat} (e0 : α) (ht : P.underlying t = some (.slice e)) (hc : P.cellsOf e = sz) (hz : 0 < sz) (he : Opn enc P W e f Q) :
    Opn enc P W t (fun l => [.sl false sz l f e0]) (fun l n => l.length ≤ n ∧ ∀ x ∈ l, Q x n) := by
  intro fuel cs d ps _ h
  rcases open_slice ht h with ⟨rfl, hx⟩ | ⟨a, len, cap, m, n, D', Pl, rfl, _, hl, hm, hmm, hx, hel⟩
  · exact ⟨[], ⟨PV.sl_nil, trivial⟩, one_mem rfl, fun _ _ => ⟨Nat.zero_le _, fun x hx => by cases hx⟩⟩
  · simp only [if_true] at hmm
    subst hmm
    have hq : ∀ i, i < len → ∃ x : α, ∃ cs', W.cells? 0 (a.add (i * sz)) sz = some cs' ∧ AllV W (sW W) (D.pvs (f x)) cs' ∧ (∀ c ∈ cs', c.oneCell' = true) ∧ ∀ n, Rows.uptoBulk (D' i) ≤ n → Q x n := fun i hi => by
      obtain ⟨cs', h1, h2⟩ := hel i (by omega)
      rw [hc] at h1
      obtain ⟨_, hlen, _⟩ := World.cells?_some h1
      obtain ⟨x, hx1, hx2, hx3⟩ := he n cs' (D' i) (Pl i) (by omega) h2
      exact ⟨x, cs', h1, hx1, hx2, hx3⟩
    obtain ⟨g, hg⟩ : ∃ g : Nat → α, ∀ i, i < len → ∃ cs', W.cells? 0 (a.add (i * sz)) sz = some cs' ∧ AllV W (sW W) (D.pvs (f (g i))) cs' ∧ (∀ c ∈ cs', c.oneCell' = true) ∧ ∀ n, Rows.uptoBulk (D' i) ≤ n → Q (g i) n :=
      ⟨fun i => if h : i < len then Classical.choose (hq i h) else e0, fun i hi => by simp only [dif_pos hi]; exact Classical.choose_spec (hq i hi)⟩
    have hrl : (((List.range len).map g).map fun a => D.pvs (f a)).length = len := by simp
    refine ⟨(List.range len).map g, ⟨⟨some a, m, ?_, ?_, ?_, ?_, ?_⟩, trivial⟩, one_mem rfl, fun n hn => ?_⟩
    · show Value.slice (some a) len m = Value.slice (some a) (((List.range len).map g).map fun a => D.pvs (f a)).length m
      rw [hrl]
    · show (((List.range len).map g).map fun a => D.pvs (f a)).length ≤ m
      rw [hrl]; exact hl
    · have : maxLen = 9223372036854775807 := by decide
      omega
    · intro row hrow
      have hrow : row ∈ ((List.range len).map g).map fun a => D.pvs (f a) := hrow
      rw [List.map_map] at hrow
      obtain ⟨i, hi, rfl⟩ := List.mem_map.1 hrow
      obtain ⟨cs', h1, h2, -⟩ := hg i (List.mem_range.1 hi)
      have h3 := h2.length
      obtain ⟨_, h4, _⟩ := World.cells?_some h1
      show (D.pvs (f (g i))).length = sz
      omega
    · intro i row hrow
      have hrow : (((List.range len).map g).map fun a => D.pvs (f a))[i]? = some row := hrow
      rw [List.map_map, List.getElem?_map] at hrow
      obtain ⟨j, hj, rfl⟩ := Option.map_eq_some_iff.1 hrow
      have hi : i < len := by have := (List.getElem?_eq_some_iff.1 hj).1; simpa using this
      rw [List.getElem?_range hi] at hj
      cases hj
      obtain ⟨cs', h1, h2, h3, -⟩ := hg i hi
      obtain ⟨_, h4, h5⟩ := World.cells?_some h1
      obtain ⟨b, off, spot⟩ := a
      cases spot with
      | some sp =>
        obtain ⟨cs0, k1, -⟩ := hg 0 (by omega)
        obtain ⟨_, k4, k5⟩ := World.cells?_some k1
        have h6 := k5 0 hz
        rw [List.getElem?_eq_getElem (by omega)] at h6
        have := World.cell?_spot h6
        simp [Addr.add] at this
      | none =>
        refine ⟨b, off, rfl, fun j d hd => ?_⟩
        obtain ⟨v, hv, hp⟩ := h2.get hd
        have hj : j < cs'.length := (List.getElem?_eq_some_iff.1 hv).1
        have h6 := h5 j (by omega)
        rw [hv] at h6
        have h7 : W.cell? ⟨b, off + i * sz + j, none⟩ = some v := by rw [add_plain, add_plain] at h6; exact h6
        exact ⟨v, h7, (World.block_lt_of_cell? _ _ h7 : b < W.heap.size), hp, h3 v (List.mem_of_getElem? hv)⟩
    · simp only [Prod.mk.injEq] at hx
      rw [hx.1] at hn
      simp only [Rows.uptoBulk] at hn
      have h1 := bulk_length ((List.range len).map D')
      simp only [List.length_map, List.length_range] at h1
      refine ⟨by simp; omega, fun x hx => ?_⟩
      obtain ⟨i, hi, rfl⟩ := List.mem_map.1 hx
      obtain ⟨cs', -, -, -, h4⟩ := hg i (List.mem_range.1 hi)
      exact h4 n (by have := bulk_mem (d := D' i) (l := (List.range len).map D') (List.mem_map.2 ⟨i, hi, rfl⟩); omega)
end
theorem list5 {α : Type} {l : List α} (h : l.length = 5) : ∃ c0 c1 c2 c3 c4, l = [c0, c1, c2, c3, c4] := by
  match l, h with
  | [c0, c1, c2, c3, c4], _ => exact ⟨c0, c1, c2, c3, c4, rfl⟩
theorem list7 {α : Type} {l : List α} (h : l.length = 7) : ∃ c0 c1 c2 c3 c4 c5 c6, l = [c0, c1, c2, c3, c4, c5, c6] := by
  match l, h with
  | [c0, c1, c2, c3, c4, c5, c6], _ => exact ⟨c0, c1, c2, c3, c4, c5, c6, rfl⟩
theorem list10 {α : Type} {l : List α} (h : l.length = 10) : ∃ c0 c1 c2 c3 c4 c5 c6 c7 c8 c9, l = [c0, c1, c2, c3, c4, c5, c6, c7, c8, c9] := by
  match l, h with
  | [c0, c1, c2, c3, c4, c5, c6, c7, c8, c9], _ => exact ⟨c0, c1, c2, c3, c4, c5, c6, c7, c8, c9, rfl⟩
theorem allV_of1 {W : World} {s : Sb} {d : D} {c : Value} (h : AllV W s (D.pvs [d]) [c]) : d.pv.p W s c := h.1
section
variable {H : Type} {enc : TypeId × Value → H} {W : World}
def intD (p : Bool × List Nat) : List D := [.v (.bool p.1), usD p.2]
set_option maxRecDepth 100000 in
theorem Opn.bigI : Opn enc Tryz.prog W 27 intD (fun p n => p.2.length ≤ n ∧ ∀ x ∈ p.2, x < 4294967296) := by
  intro fuel cs d ps hl h
  have e4 : Tryz.prog.cellsOf 4 = 1 := by kernel_rfl
  have e22 : Tryz.prog.cellsOf 25 = 1 := by kernel_rfl
  have eI : Tryz.prog.cellsOf 27 = 2 := by kernel_rfl
  rw [eI] at hl
  match cs, hl with
  | [c0, c1], _ =>
    obtain ⟨xs, n1, _, hx, _, hlen, hg⟩ := DataW.trod_struct Tryz.underlying27 h
    match xs, hlen with
    | [y0, y1], _ =>
      have g0 : DataW.trod enc Tryz.prog W 0 (fun _ => true) true n1 4 (([c0, c1].drop 0).take (Tryz.prog.cellsOf 4)) = some y0 := hg 0 _ rfl
      rw [e4] at g0
      replace g0 : DataW.trod enc Tryz.prog W 0 (fun _ => true) true n1 4 [c0] = some y0 := g0
      have g1 : DataW.trod enc Tryz.prog W 0 (fun _ => true) true n1 25 (([c0, c1].drop 1).take (Tryz.prog.cellsOf 25)) = some y1 := hg 1 _ rfl
      rw [e22] at g1
      replace g1 : DataW.trod enc Tryz.prog W 0 (fun _ => true) true n1 25 [c1] = some y1 := g1
      obtain ⟨x0, a0, o0, q0⟩ := Opn.bool Tryz.underlying4 _ _ y0.1 y0.2 (by rw [e4]; rfl) g0
      obtain ⟨x1, a1, o1, q1⟩ := Opn.sl 0 Tryz.underlying25 (sz := 1) (by kernel_rfl) (by decide) (Opn.u32 Tryz.underlying69) _ _ y1.1 y1.2 (by rw [e22]; rfl) g1
      simp only [Prod.mk.injEq] at hx
      refine ⟨(x0, x1), ⟨allV_of1 a0, allV_of1 a1, trivial⟩, fun c hc => ?_, fun n hn => ?_⟩
      · simp only [List.mem_cons, List.not_mem_nil, or_false] at hc
        rcases hc with rfl | rfl
        · exact o0 _ (by simp)
        · exact o1 _ (by simp)
      · rw [hx.1] at hn
        exact q1 n (part_bulk (i := 1) (y := y1) rfl hn)
set_option maxRecDepth 100000 in
theorem Opn.val : Opn enc Tryz.prog W 29 vlD (fun v n => n ≤ 1048576 → VlIn v) := by
  intro fuel cs d ps hl h
  have e3 : Tryz.prog.cellsOf 3 = 1 := by kernel_rfl
  have e9 : Tryz.prog.cellsOf 9 = 1 := by kernel_rfl
  have e24 : Tryz.prog.cellsOf 27 = 2 := by kernel_rfl
  have eV : Tryz.prog.cellsOf 29 = 7 := by kernel_rfl
  rw [eV] at hl
  obtain ⟨c0, c1, c2, c3, c4, c5, c6, rfl⟩ := list7 hl
  obtain ⟨xs, n1, _, hx, _, hlen, hg⟩ := DataW.trod_struct Tryz.underlying29 h
  obtain ⟨y0, y1, y2, y3, y4, rfl⟩ := list5 hlen
  have g0 : DataW.trod enc Tryz.prog W 0 (fun _ => true) true n1 3 (([c0, c1, c2, c3, c4, c5, c6].drop 0).take (Tryz.prog.cellsOf 3)) = some y0 := hg 0 _ rfl
  rw [e3] at g0
  replace g0 : DataW.trod enc Tryz.prog W 0 (fun _ => true) true n1 3 [c0] = some y0 := g0
  have g1 : DataW.trod enc Tryz.prog W 0 (fun _ => true) true n1 27 (([c0, c1, c2, c3, c4, c5, c6].drop 1).take (Tryz.prog.cellsOf 27)) = some y1 := hg 1 _ rfl
  rw [e24] at g1
  replace g1 : DataW.trod enc Tryz.prog W 0 (fun _ => true) true n1 27 [c1, c2] = some y1 := g1
  have g2 : DataW.trod enc Tryz.prog W 0 (fun _ => true) true n1 27 (([c0, c1, c2, c3, c4, c5, c6].drop 3).take (Tryz.prog.cellsOf 27)) = some y2 := hg 2 _ rfl
  rw [e24] at g2
  replace g2 : DataW.trod enc Tryz.prog W 0 (fun _ => true) true n1 27 [c3, c4] = some y2 := g2
  have g3 : DataW.trod enc Tryz.prog W 0 (fun _ => true) true n1 9 (([c0, c1, c2, c3, c4, c5, c6].drop 5).take (Tryz.prog.cellsOf 9)) = some y3 := hg 3 _ rfl
  rw [e9] at g3
  replace g3 : DataW.trod enc Tryz.prog W 0 (fun _ => true) true n1 9 [c5] = some y3 := g3
  have g4 : DataW.trod enc Tryz.prog W 0 (fun _ => true) true n1 3 (([c0, c1, c2, c3, c4, c5, c6].drop 6).take (Tryz.prog.cellsOf 3)) = some y4 := hg 4 _ rfl
  rw [e3] at g4
  replace g4 : DataW.trod enc Tryz.prog W 0 (fun _ => true) true n1 3 [c6] = some y4 := g4
  obtain ⟨x0, a0, o0, q0⟩ := Opn.int Tryz.underlying3 _ _ y0.1 y0.2 (by rw [e3]; rfl) g0
  obtain ⟨x1, a1, o1, q1⟩ := Opn.bigI _ _ y1.1 y1.2 (by rw [e24]; rfl) g1
  obtain ⟨x2, a2, o2, q2⟩ := Opn.bigI _ _ y2.1 y2.2 (by rw [e24]; rfl) g2
  obtain ⟨x3, a3, o3, q3⟩ := Opn.str Tryz.underlying9 _ _ y3.1 y3.2 (by rw [e9]; rfl) g3
  obtain ⟨x4, a4, o4, q4⟩ := Opn.int Tryz.underlying3 _ _ y4.1 y4.2 (by rw [e3]; rfl) g4
  simp only [Prod.mk.injEq] at hx
  refine ⟨⟨x0, x1.1, x1.2, x2.1, x2.2, x3, x4⟩, ⟨allV_of1 a0, a1.1, a1.2.1, a2.1, a2.2.1, allV_of1 a3, allV_of1 a4, trivial⟩, fun c hc => ?_, fun n hn hn2 => ?_⟩
  · simp only [List.mem_cons, List.not_mem_nil, or_false] at hc
    rcases hc with rfl | rfl | rfl | rfl | rfl | rfl | rfl
    · exact o0 _ (by simp)
    · exact o1 _ (by simp)
    · exact o1 _ (by simp)
    · exact o2 _ (by simp)
    · exact o2 _ (by simp)
    · exact o3 _ (by simp)
    · exact o4 _ (by simp)
  · rw [hx.1] at hn
    have b0 := q0 n (part_bulk (i := 0) (y := y0) rfl hn)
    have b1 := q1 n (part_bulk (i := 1) (y := y1) rfl hn)
    have b2 := q2 n (part_bulk (i := 2) (y := y2) rfl hn)
    have b3 := q3 n (part_bulk (i := 3) (y := y3) rfl hn)
    have b4 := q4 n (part_bulk (i := 4) (y := y4) rfl hn)
    exact ⟨b0.1, b0.2, b4.1, b4.2, b1.2, b2.2, by show x1.2.length ≤ _; omega, by show x2.2.length ≤ _; omega, by show x3.size ≤ _; omega⟩
set_option maxRecDepth 100000 in
theorem Opn.obj : Opn enc Tryz.prog W 35 obD (fun o n => n ≤ 1048576 → ObIn o) := by
  intro fuel cs d ps hl h
  have e3 : Tryz.prog.cellsOf 3 = 1 := by kernel_rfl
  have e9 : Tryz.prog.cellsOf 9 = 1 := by kernel_rfl
  have eI : Tryz.prog.cellsOf 31 = 1 := by kernel_rfl
  have eS : Tryz.prog.cellsOf 32 = 1 := by kernel_rfl
  have eV : Tryz.prog.cellsOf 33 = 1 := by kernel_rfl
  have eO : Tryz.prog.cellsOf 35 = 10 := by kernel_rfl
  rw [eO] at hl
  obtain ⟨c0, c1, c2, c3, c4, c5, c6, c7, c8, c9, rfl⟩ := list10 hl
  obtain ⟨xs, n1, _, hx, _, hlen, hg⟩ := DataW.trod_struct Tryz.underlying35 h
  obtain ⟨y0, y1, y2, y3, y4, y5, y6, y7, y8, y9, rfl⟩ := list10 hlen
  have g0 : DataW.trod enc Tryz.prog W 0 (fun _ => true) true n1 3 (([c0, c1, c2, c3, c4, c5, c6, c7, c8, c9].drop 0).take (Tryz.prog.cellsOf 3)) = some y0 := hg 0 _ rfl
  rw [e3] at g0
  replace g0 : DataW.trod enc Tryz.prog W 0 (fun _ => true) true n1 3 [c0] = some y0 := g0
  have g1 : DataW.trod enc Tryz.prog W 0 (fun _ => true) true n1 9 (([c0, c1, c2, c3, c4, c5, c6, c7, c8, c9].drop 1).take (Tryz.prog.cellsOf 9)) = some y1 := hg 1 _ rfl
  rw [e9] at g1
  replace g1 : DataW.trod enc Tryz.prog W 0 (fun _ => true) true n1 9 [c1] = some y1 := g1
  have g2 : DataW.trod enc Tryz.prog W 0 (fun _ => true) true n1 3 (([c0, c1, c2, c3, c4, c5, c6, c7, c8, c9].drop 2).take (Tryz.prog.cellsOf 3)) = some y2 := hg 2 _ rfl
  rw [e3] at g2
  replace g2 : DataW.trod enc Tryz.prog W 0 (fun _ => true) true n1 3 [c2] = some y2 := g2
  have g3 : DataW.trod enc Tryz.prog W 0 (fun _ => true) true n1 31 (([c0, c1, c2, c3, c4, c5, c6, c7, c8, c9].drop 3).take (Tryz.prog.cellsOf 31)) = some y3 := hg 3 _ rfl
  rw [eI] at g3
  replace g3 : DataW.trod enc Tryz.prog W 0 (fun _ => true) true n1 31 [c3] = some y3 := g3
  have g4 : DataW.trod enc Tryz.prog W 0 (fun _ => true) true n1 31 (([c0, c1, c2, c3, c4, c5, c6, c7, c8, c9].drop 4).take (Tryz.prog.cellsOf 31)) = some y4 := hg 4 _ rfl
  rw [eI] at g4
  replace g4 : DataW.trod enc Tryz.prog W 0 (fun _ => true) true n1 31 [c4] = some y4 := g4
  have g5 : DataW.trod enc Tryz.prog W 0 (fun _ => true) true n1 32 (([c0, c1, c2, c3, c4, c5, c6, c7, c8, c9].drop 5).take (Tryz.prog.cellsOf 32)) = some y5 := hg 5 _ rfl
  rw [eS] at g5
  replace g5 : DataW.trod enc Tryz.prog W 0 (fun _ => true) true n1 32 [c5] = some y5 := g5
  have g6 : DataW.trod enc Tryz.prog W 0 (fun _ => true) true n1 33 (([c0, c1, c2, c3, c4, c5, c6, c7, c8, c9].drop 6).take (Tryz.prog.cellsOf 33)) = some y6 := hg 6 _ rfl
  rw [eV] at g6
  replace g6 : DataW.trod enc Tryz.prog W 0 (fun _ => true) true n1 33 [c6] = some y6 := g6
  have g7 : DataW.trod enc Tryz.prog W 0 (fun _ => true) true n1 33 (([c0, c1, c2, c3, c4, c5, c6, c7, c8, c9].drop 7).take (Tryz.prog.cellsOf 33)) = some y7 := hg 7 _ rfl
  rw [eV] at g7
  replace g7 : DataW.trod enc Tryz.prog W 0 (fun _ => true) true n1 33 [c7] = some y7 := g7
  have g8 : DataW.trod enc Tryz.prog W 0 (fun _ => true) true n1 3 (([c0, c1, c2, c3, c4, c5, c6, c7, c8, c9].drop 8).take (Tryz.prog.cellsOf 3)) = some y8 := hg 8 _ rfl
  rw [e3] at g8
  replace g8 : DataW.trod enc Tryz.prog W 0 (fun _ => true) true n1 3 [c8] = some y8 := g8
  have g9 : DataW.trod enc Tryz.prog W 0 (fun _ => true) true n1 3 (([c0, c1, c2, c3, c4, c5, c6, c7, c8, c9].drop 9).take (Tryz.prog.cellsOf 3)) = some y9 := hg 9 _ rfl
  rw [e3] at g9
  replace g9 : DataW.trod enc Tryz.prog W 0 (fun _ => true) true n1 3 [c9] = some y9 := g9
  obtain ⟨x0, a0, o0, q0⟩ := Opn.int Tryz.underlying3 _ _ y0.1 y0.2 (by rw [e3]; rfl) g0
  obtain ⟨x1, a1, o1, q1⟩ := Opn.str Tryz.underlying9 _ _ y1.1 y1.2 (by rw [e9]; rfl) g1
  obtain ⟨x2, a2, o2, q2⟩ := Opn.int Tryz.underlying3 _ _ y2.1 y2.2 (by rw [e3]; rfl) g2
  obtain ⟨x3, a3, o3, q3⟩ := Opn.sl 0 Tryz.underlying31 (sz := 1) (by kernel_rfl) (by decide) (Opn.int Tryz.underlying3) _ _ y3.1 y3.2 (by rw [eI]; rfl) g3
  obtain ⟨x4, a4, o4, q4⟩ := Opn.sl 0 Tryz.underlying31 (sz := 1) (by kernel_rfl) (by decide) (Opn.int Tryz.underlying3) _ _ y4.1 y4.2 (by rw [eI]; rfl) g4
  obtain ⟨x5, a5, o5, q5⟩ := Opn.sl ByteArray.empty Tryz.underlying32 (sz := 1) (by kernel_rfl) (by decide) (Opn.str Tryz.underlying9) _ _ y5.1 y5.2 (by rw [eS]; rfl) g5
  obtain ⟨x6, a6, o6, q6⟩ := Opn.sl vl0 Tryz.underlying33 (sz := 7) (by kernel_rfl) (by decide) Opn.val _ _ y6.1 y6.2 (by rw [eV]; rfl) g6
  obtain ⟨x7, a7, o7, q7⟩ := Opn.sl vl0 Tryz.underlying33 (sz := 7) (by kernel_rfl) (by decide) Opn.val _ _ y7.1 y7.2 (by rw [eV]; rfl) g7
  obtain ⟨x8, a8, o8, q8⟩ := Opn.int Tryz.underlying3 _ _ y8.1 y8.2 (by rw [e3]; rfl) g8
  obtain ⟨x9, a9, o9, q9⟩ := Opn.int Tryz.underlying3 _ _ y9.1 y9.2 (by rw [e3]; rfl) g9
  simp only [Prod.mk.injEq] at hx
  refine ⟨⟨x0, x1, x2, x3, x4, x5, x6, x7, x8, x9⟩, ⟨allV_of1 a0, allV_of1 a1, allV_of1 a2, allV_of1 a3, allV_of1 a4, allV_of1 a5, allV_of1 a6, allV_of1 a7, allV_of1 a8, allV_of1 a9, trivial⟩, fun c hc => ?_, fun n hn hn2 => ?_⟩
  · simp only [List.mem_cons, List.not_mem_nil, or_false] at hc
    rcases hc with rfl | rfl | rfl | rfl | rfl | rfl | rfl | rfl | rfl | rfl
    · exact o0 _ (by simp)
    · exact o1 _ (by simp)
    · exact o2 _ (by simp)
    · exact o3 _ (by simp)
    · exact o4 _ (by simp)
    · exact o5 _ (by simp)
    · exact o6 _ (by simp)
    · exact o7 _ (by simp)
    · exact o8 _ (by simp)
    · exact o9 _ (by simp)
  · rw [hx.1] at hn
    have b0 := q0 n (part_bulk (i := 0) (y := y0) rfl hn)
    have b1 := q1 n (part_bulk (i := 1) (y := y1) rfl hn)
    have b2 := q2 n (part_bulk (i := 2) (y := y2) rfl hn)
    have b3 := q3 n (part_bulk (i := 3) (y := y3) rfl hn)
    have b4 := q4 n (part_bulk (i := 4) (y := y4) rfl hn)
    have b5 := q5 n (part_bulk (i := 5) (y := y5) rfl hn)
    have b6 := q6 n (part_bulk (i := 6) (y := y6) rfl hn)
    have b7 := q7 n (part_bulk (i := 7) (y := y7) rfl hn)
    have b8 := q8 n (part_bulk (i := 8) (y := y8) rfl hn)
    have b9 := q9 n (part_bulk (i := 9) (y := y9) rfl hn)
    exact ⟨b0, b2, b8, b9, by show x1.size ≤ _; omega, by show x3.length ≤ _; omega, by show x4.length ≤ _; omega, by show x5.length ≤ _; omega, by show x6.length ≤ _; omega, by show x7.length ≤ _; omega,
      fun s hs => by have := b5.2 s hs; omega, fun v hv => b6.2 v hv hn2, fun v hv => b7.2 v hv hn2⟩
def hpL (h : List Ob) : List D := [.sl false 10 h obD ob0]
set_option maxRecDepth 100000 in
theorem Opn.heap : Opn enc Tryz.prog W 24 hpL (fun h n => n ≤ 1048576 → HpIn h) := by
  intro fuel cs d ps hl h
  have eH : Tryz.prog.cellsOf 24 = 1 := by kernel_rfl
  have eO : Tryz.prog.cellsOf 22 = 1 := by kernel_rfl
  rw [eH] at hl
  match cs, hl with
  | [c0], _ =>
    obtain ⟨xs, n1, _, hx, _, hlen, hg⟩ := DataW.trod_struct Tryz.underlying24 h
    match xs, hlen with
    | [y0], _ =>
      have g0 : DataW.trod enc Tryz.prog W 0 (fun _ => true) true n1 22 (([c0].drop 0).take (Tryz.prog.cellsOf 22)) = some y0 := hg 0 _ rfl
      rw [eO] at g0
      replace g0 : DataW.trod enc Tryz.prog W 0 (fun _ => true) true n1 22 [c0] = some y0 := g0
      obtain ⟨x0, a0, o0, q0⟩ := Opn.sl ob0 Tryz.underlying22 (sz := 10) (by kernel_rfl) (by decide) Opn.obj _ _ y0.1 y0.2 (by rw [eO]; rfl) g0
      simp only [Prod.mk.injEq] at hx
      refine ⟨x0, a0, o0, fun n hn hn2 => ?_⟩
      rw [hx.1] at hn
      have b0 := q0 n (part_bulk (i := 0) (y := y0) rfl hn)
      exact ⟨fun o ho => b0.2 o ho hn2, by omega⟩
theorem Opn.agg {P : Program} {α : Type} {f : α → List D} {Q : α → Nat → Prop} {t : TypeId} {fs : Array Field} {base : Nat} (ho : Opn enc P W t f Q) (ht : P.underlying t = some (.struct fs)) {v : Value} {d : DataW H} {ps : List MemPlace}
    (hv : Value.okWide P W .any base t v) (h : DataW.Trod enc P W 0 (fun _ => true) true t v d ps) :
    ∃ x, (D.agg (f x)).pv.p W (sW W) v ∧ ∀ n, Rows.uptoBulk d ≤ n → Q x n := by
  obtain ⟨cs, rfl, hsz⟩ := okWide_struct ht hv
  obtain ⟨l⟩ := cs
  obtain ⟨fuel, hf⟩ := h
  obtain ⟨x, h1, -, h3⟩ := ho fuel l d ps hsz hf
  exact ⟨x, ⟨l, rfl, h1⟩, h3⟩
end
end Go.Proofs.YtngidfegeapkbaaGreatDoor


/- Arguments opened: a reading of a value gives a list. -/
namespace Go.Proofs.YtngidfegeapkbaaGreatDoor
open Go.ChangeShapes Go.WideShapes Go.ChangeAt Go.RowKit Go.Deep
end Go.Proofs.YtngidfegeapkbaaGreatDoor


/- From a walk that says 'the call returns true and writes nothing that was there' to a given row of the kind 'it returns true and leaves its arguments alone'. For any number of parameters. -/
namespace Go.Proofs.YtngidfegeapkbaaGreatDoor
open Go.ChangeShapes Go.WideShapes Go.ChangeAt Go.RowKit
theorem TrodAll_below {H : Type} {enc : TypeId × Value → H} {P : Program} (hl : laidOutB P = true) {W W' : World} (hb : Below W.heap.size W W') :
    ∀ (ts : List TypeId) (vs : List Value) (ds : List (DataW H)) (ps : List MemPlace), (∀ t ∈ ts, P.readableRec t = true ∧ t < P.types.size) →
      DataW.TrodAll enc P W 0 (fun _ => true) true ts vs ds ps → DataW.TrodAll enc P W' 0 (fun b => decide (b < W.heap.size)) true ts vs ds ps
  | [], [], [], ps, _, h => h
  | t :: ts, v :: vs, d :: ds, ps, hr, h => by
    obtain ⟨p, q, hp, hq, e⟩ := h
    have lt : ∀ x ∈ p, x.block < W.heap.size := by obtain ⟨m, hm⟩ := hp; exact DataW.trod_lt m _ _ _ hm
    have ht := hr t (by simp)
    exact ⟨p, q, Below.trod hl ht.1 ht.2 hp hb lt, TrodAll_below hl hb ts vs ds q (fun x hx => hr x (by simp [hx])) hq, e⟩
  | [], [], _ :: _, _, _, h => by simp [DataW.TrodAll] at h
  | [], _ :: _, _, _, _, h => by simp [DataW.TrodAll] at h
  | _ :: _, [], _, _, _, h => by simp [DataW.TrodAll] at h
  | _ :: _, _ :: _, [], _, _, h => by simp [DataW.TrodAll] at h
end Go.Proofs.YtngidfegeapkbaaGreatDoor


/- IterationVisitsAll: the given statement. Condition: what the law reads is of bulk at most 1048576 (the second form); the listed variables start as the program's text lays them. -/
namespace Go.Proofs.YtngidfegeapkbaaGreatDoor
open Go.ChangeShapes Go.WideShapes Go.ChangeAt Go.RowKit Go.Shelf
theorem Law_own : ownKnob Tryz.prog.godebug = none := by kernel_rfl
theorem accept_same : (Rows.laid_unicode_utf8_acceptRanges : DataW Unit) = Lib.acceptData := by kernel_rfl
theorem first_same : (Rows.laid_unicode_utf8_first : DataW Unit) = Lib.firstData := by kernel_rfl
theorem space_same : (Rows.laid_strings_asciiSpace : DataW Unit) = Lib.tabData .u8 Lib.asciiSpaceTab := by kernel_rfl
theorem Law_glob {W : World} (hL : laidMetH Tryz.prog Rows.iterationVisitsAllUptoRow.laid W) (hs : W.ShapedOpen Tryz.prog) : Glb W (sW W) := by
  have h3 : Lib.VarReads Tryz.prog W "unicode/utf8.first" Rows.laid_unicode_utf8_first := Lib.laidMet.reads hL (.tail _ (.tail _ (.tail _ (.head _))))
  have h4 : Lib.VarReads Tryz.prog W "unicode/utf8.acceptRanges" Rows.laid_unicode_utf8_acceptRanges := Lib.laidMet.reads hL (.head _)
  have h5 : Lib.VarReads Tryz.prog W "strings.asciiSpace" Rows.laid_strings_asciiSpace := Lib.laidMet.reads hL (.tail _ (.tail _ (.head _)))
  rw [first_same] at h3
  rw [accept_same] at h4
  rw [space_same] at h5
  have hT : Lib.Utf8Tabs 1 2 W := utf8Tabs_of_readsT (U8Types.of196 Tryz.laysValid) ⟨by kernel_rfl, by kernel_rfl, by kernel_rfl, by kernel_rfl, by kernel_rfl, by kernel_rfl, by kernel_rfl⟩ h3 h4
  have hS : Lib.TabIs Tryz.prog W "strings.asciiSpace" .u8 Lib.asciiSpaceTab := by
    obtain ⟨g, t, cs, fuel, p, hg, hty, hvar, hd⟩ := h5
    obtain rfl := Option.some.inj ((show Tryz.prog.globalNamed "strings.asciiSpace" = some 0 by kernel_rfl).symm.trans hg)
    obtain rfl := Option.some.inj ((show (Tryz.prog.globals[0]?).map (·.type) = some 119 by kernel_rfl).symm.trans hty)
    have := Lib.cells_of_tab Tryz.underlying119 Tryz.underlying5 (by kernel_rfl) (by kernel_rfl) hd
    unfold Lib.TabIs
    rw [hvar, ← this]
  have hM := Go.Proofs.cell_of_shapedOpen_int (g := 4) (t := 3) (zero := #[.int .i64 0]) hs (of_decide_eq_true (by kernel_rfl)) (by kernel_rfl) rfl (by kernel_rfl) (by kernel_rfl) Tryz.underlying3
  refine ⟨fun b o => W.cell? ⟨b, o, none⟩, ⟨hM, fun c hc => hT.1 c hc, fun i hi => hT.2 i hi, fun c hc => ?_⟩, fun b o v hv => ⟨hv, World.block_lt_of_cell? _ _ hv⟩⟩
  show W.cell? ⟨0, c, none⟩ = _
  rw [hS.cell (by kernel_rfl) c (by rw [Lib.asciiSpaceTab_length]; exact hc), Lib.asciiSpaceTab_at c hc]
noncomputable def Law_world (os : Os) : World :=
  let N := (World.settled Tryz.prog os).heap.size
  let w0 := World.holding Tryz.prog os ⟨#[.cells (Lib.whiteT.map fun (z : Nat) => Value.int .u16 (z : Int)).toArray 168, .cells #[.slice (some ⟨N, 0, none⟩) 7 7, .slice none 0 0, .int .i64 2] 165], #[], []⟩
  let put (h : Array Obj) (g : Nat) (cs : Array Value) : Array Obj := h.modify g fun
    | .cells _ t frozen => .cells cs t frozen
    | o => o
  let h1 := put w0.heap 0 (Lib.asciiSpaceTab.map fun z => Value.int .u8 z).toArray
  let h2 := put h1 1 (Lib.firstTab.map fun z => Value.int .u8 z).toArray
  let h3 := put h2 2 ((List.range 16).flatMap fun i => [Value.int .u8 (Lib.accLo i), Value.int .u8 (Lib.accHi i)]).toArray
  let h4 := put h3 3 #[.pointer (some ⟨N + 1, 0, none⟩)]
  { w0 with heap := h4 }
def Law_arg : Array Value := #[.agg #[.slice none 0 0], .agg #[.int .i64 0, .bool false, .slice none 0 0, .bool false, .slice none 0 0, .string ⟨#[]⟩, .int .i64 0]]
theorem Law_met (os : Os) : laidMet Tryz.prog Rows.iterationVisitsAllUptoRow.laid ((Law_world os).forCall (fun _ _ => 0) ⟨#[], Law_arg, []⟩).memory :=
  laidMet_of_run' 10 (by kernel_rfl) (by kernel_rfl)
theorem Law_row (os : Os) {H : Type} (enc : TypeId × Value → H) :
    (Rows.OpenSpec.upto Rows.iterationVisitsAllSpec).preRow enc Tryz.prog Tryz.f3 Rows.iterationVisitsAllUptoRow.domain false Rows.iterationVisitsAllUptoRow.laid ((Law_world os).forCall (fun _ _ => 0) ⟨#[], Law_arg, []⟩).memory Law_arg := by
  have hw : (DataW.whole enc Tryz.prog ((Law_world os).forCall (fun _ _ => 0) ⟨#[], Law_arg, []⟩).memory Tryz.f3.params.toList Rows.iterationVisitsAllSpec.vars false Law_arg.toList 8).map (fun x => (x.1, x.2.1)) =
      some ([.agg [.nil], .agg [.lit (.int .i64 0), .agg [.lit (.bool false), .nil], .agg [.lit (.bool false), .nil], .lit (.string []), .lit (.int .i64 0)]], []) := by kernel_rfl
  obtain ⟨⟨x1, x2, x3⟩, hx, hx1⟩ := Option.map_eq_some_iff.1 hw
  simp only [Prod.mk.injEq] at hx1
  obtain ⟨rfl, rfl⟩ := hx1
  exact OpenSpec.preRow_of_cond 8 hx (by kernel_rfl) (fun k hk => by cases hk; kernel_rfl) (by kernel_rfl) (Law_met os)
set_option maxRecDepth 100000 in
set_option maxHeartbeats 2000000 in
theorem Law_lifted (os : Os) (started : os.Started) (H : Type) (enc : TypeId × Value → H) (F : Stop.Interp) :
    ReturnsInHanded {} Tryz.checked os 3 .any ((Rows.OpenSpec.upto Rows.iterationVisitsAllSpec).preRow enc Tryz.prog Tryz.f3 Rows.iterationVisitsAllUptoRow.domain false Rows.iterationVisitsAllUptoRow.laid) (((Rows.OpenSpec.upto Rows.iterationVisitsAllSpec).at F).post enc Tryz.prog Tryz.f3 false true false false) := by
  refine returnsInHanded_of_row (C := Tryz.checked) (s := Rows.OpenSpec.upto Rows.iterationVisitsAllSpec) Law_own started (by kernel_rfl) Tryz.func3
    (witness_row_atRef (enc := enc) (C := Tryz.checked) false (Law_world os) Law_arg rfl (by kernel_rfl) (by kernel_rfl) (by kernel_rfl) (Law_row os enc)) ?_
  intro W base args ds gs before hval0 hW _ hk _ hL hS _
  have hval : ∀ (j : Nat) t v, Tryz.f3.params[j]? = some t → args[j]? = some v → Value.okWide Tryz.prog W .any base t v := hval0
  have hW' := hW
  obtain ⟨p, q, hA0, hV, rfl, hfz, hnd⟩ := hW
  have hA : DataW.TrodAll enc Tryz.prog W 0 (fun _ => true) true Tryz.f3.params.toList args.toList ds p := hA0
  obtain ⟨rfl, rfl⟩ := trodVars_none hV
  have hA1 := hA
  rw [Tryz.params3] at hA hval
  obtain ⟨v0, vs0, d0, ds0, p0, q0, hargs, rfl, rfl, h0, r0⟩ := trodAll_cons hA
  obtain ⟨v1, vs1, d1, ds1, p1, q1, rfl, rfl, rfl, h1, r1⟩ := trodAll_cons r0
  obtain ⟨rfl, rfl, rfl⟩ := trodAll_nil r1
  obtain rfl : args = #[v0, v1] := by cases args; simp_all
  have hb : Rows.uptoBulkAll [d0, d1] ≤ 1048576 := by
    have := hk _ rfl
    simpa [Rows.uptoSmall] using this
  simp only [Rows.uptoBulkAll] at hb
  obtain ⟨x0, a0, i0⟩ := Opn.agg Opn.heap Tryz.underlying24 (hval 0 24 v0 rfl rfl) h0
  obtain ⟨x1, a1, i1⟩ := Opn.agg Opn.val Tryz.underlying29 (hval 1 29 v1 rfl rfl) h1
  have hG := Law_glob hL hS
  refine ((Law_ok x0 x1 (i0 1048576 (by omega) (Nat.le_refl _)) (i1 1048576 (by omega) (Nat.le_refl _))).2 W (sW W) [v0, v1] (fun _ _ h => h) hG ⟨a0, a1, trivial⟩).mono fun e W' hQ => ?_
  obtain ⟨s', x, he, hp, hst⟩ := hQ
  have hp : x = .bool true := hp
  subst hp
  subst he
  have bel := hst.below
  have hl : laidOutB Tryz.prog = true := by kernel_rfl
  have hread : Tryz.f3.params.toList.all (fun t => Tryz.prog.readableRec t && decide (t < Tryz.prog.types.size)) = true := by kernel_rfl
  refine ⟨_, rfl, [d0, d1], [], _, [], (p0 ++ (p1 ++ ([]))), [], hW', ?_, ?_, ?_, bel.frame _, fun h => by cases h⟩
  · exact trodAll_mk1 (shut_bool Tryz.underlying4 _)
  · exact TrodAll_below hl bel _ _ _ _ (fun t ht => by have := List.all_eq_true.1 hread t ht; simpa using this) hA1
  · rfl
theorem Law_fi : (Rows.iterationVisitsAllUptoRow.inPlace == Tryz.pinned.checked.prog.inPlace 3) = true := by kernel_rfl
theorem Law_fu : (Rows.iterationVisitsAllUptoRow.unfollowed == Tryz.pinned.checked.prog.unfollowed 3) = true := by kernel_rfl
theorem Law_fr : (Rows.iterationVisitsAllUptoRow.recurses == Tryz.pinned.checked.prog.recurses 3) = true := by kernel_rfl
theorem Law_fn : (Rows.iterationVisitsAllUptoRow.named == Tryz.pinned.checked.prog.varsNamed 3) = true := by kernel_rfl
theorem Law_facts : joinedFacts Tryz.pinned.checked.prog 3 Tryz.f3 (Rows.OpenSpec.upto Rows.iterationVisitsAllSpec).bare Rows.iterationVisitsAllUptoRow = true := by
  unfold joinedFacts
  rw [Law_fi, Law_fu, Law_fr, Law_fn]
  kernel_rfl
theorem Law_inst : Tryz.f3.isInstance Tryz.pinned.checked.prog Rows.iterationVisitsAllUptoRow.origin Rows.iterationVisitsAllUptoRow.targs := of_decide_eq_true (by kernel_rfl)
theorem Law_wrap : Tryz.f3.isWrapper Tryz.pinned.checked.prog Rows.iterationVisitsAllUptoRow.wrapper Rows.iterationVisitsAllUptoRow.mainSum := by unfold Func.isWrapper; first | (rw [if_pos (by decide +kernel)]; kernel_rfl) | (rw [if_neg (by decide +kernel)]; exact ⟨rfl, rfl⟩)
theorem Law_named : Tryz.pinned.checked.prog.funcNamed Rows.iterationVisitsAllUptoRow.func = some 3 := by kernel_rfl
theorem Law_looks : false = Tryz.pinned.checked.prog.looks [] := by kernel_rfl
theorem Law_goes : false = Rows.iterationVisitsAllUptoRow.goesBy Tryz.pinned.checked.prog := by kernel_rfl
theorem Law_wf : Rows.iterationVisitsAllUptoRow.wfByText (Rows.OpenSpec.upto Rows.iterationVisitsAllSpec) = true := by kernel_rfl
theorem Law_main : Tryz.pinned.checked.prog.mainIs = some (Rows.iterationVisitsAllUptoCard.stood.harness.1, Rows.iterationVisitsAllUptoCard.stood.harness.2.toList) := by kernel_rfl
theorem Law_said : Rows.IterationVisitsAllUptoSaid :=
  OpenClaim.holds_of_cond 3 Tryz.f3 rfl rfl rfl rfl rfl rfl rfl ⟨rfl, rfl, rfl, rfl, rfl⟩ rfl rfl rfl rfl rfl Law_named Tryz.func3 Law_facts Law_inst Law_wrap
    (fun os started H enc _ F => by rw [OpenClaim.pre_eq_preRow]; exact Law_lifted os started H enc F)
theorem Law_plain (f : FuncId) (fn : Func) (hf : Tryz.pinned.checked.prog.funcNamed "brindlewood/brindlewoodlaw7.IterationVisitsAll" = some f) (hfn : Tryz.pinned.checked.prog.funcs[f]? = some fn) :
    false = Tryz.pinned.checked.prog.looks [] ∧ ∀ (j : Nat) t, fn.params[j]? = some t → Tryz.pinned.checked.prog.wantsStandIn t = false := by
  obtain rfl : f = 3 := Option.some.inj (Law_named.symm.trans hf) |>.symm
  obtain rfl : fn = Tryz.f3 := (Option.some.inj (Tryz.func3.symm.trans hfn)).symm
  refine ⟨Law_looks, fun j t ht => ?_⟩
  rw [Tryz.params3] at ht
  have hm := Array.mem_of_getElem? ht
  simp only [List.mem_toArray, List.mem_cons, List.not_mem_nil, or_false] at hm
  have wh : Tryz.prog.wantsStandIn 24 = false := by kernel_rfl
  have wv : Tryz.prog.wantsStandIn 29 = false := by kernel_rfl
  rcases hm with rfl | rfl
  · exact wh
  · exact wv
theorem Law_holds : Rows.IterationVisitsAllUptoCardSaid :=
  Claim7.holds_tied_plain_at .later [] _ _ _ _ Law_said (fun _ h => by cases h) Law_wf (fun _ h => by cases h) iterationVisitsAllUpto_row_tie rfl ⟨rfl, rfl⟩ Law_main rfl Law_plain Law_goes
end Go.Proofs.YtngidfegeapkbaaGreatDoor
