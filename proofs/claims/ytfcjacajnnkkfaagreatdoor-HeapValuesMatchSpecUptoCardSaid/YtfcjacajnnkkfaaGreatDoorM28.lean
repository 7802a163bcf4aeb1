/- Part 28 of the proof. -/
import Derived.Test.YtfcjacajnnkkfaaGreatDoorM27
import Derived.Test.YtfcjacajnnkkfaaGreatDoorM26
import Derived.Test.YtfcjacajnnkkfaaGreatDoorM12

/- Walks by the evaluator: Usable, and what a usable heap is. -/
namespace Go.Proofs.YtfcjacajnnkkfaaGreatDoor
open Go.RowKit
variable {md me : Bool}

noncomputable def usableS (h : List Ob) (vs : List Vl) : Bool := decide ((problemS h).1 = 0) && vs.all (hasS h)
theorem fstC_zero : ∀ {l : List Int}, fstC l = 0 → ∀ j, l.getD j 0 = 0
  | [], _, j => by simp
  | c :: l, h, j => by
    rw [fstC] at h
    split at h
    · rename_i h0
      match j with
      | 0 => simpa using h0
      | j + 1 => simpa using fstC_zero h j
    · rename_i h0; exact absurd h h0
/-- What the document knows of a heap without a problem. -/
structure Uh (h : List Ob) : Prop where
  lo : 49 ≤ h.length
  hi : h.length ≤ 5000
  code : ∀ i, i < h.length → codeS h i = 0
theorem uh_of {h : List Ob} (hp : (problemS h).1 = 0) : Uh h := by
  unfold problemS at hp
  split at hp
  · exact absurd hp (by decide)
  · rename_i h1
    split at hp
    · exact absurd hp (by decide)
    · rename_i h2
      split at hp
      · rename_i i hi
        rw [List.find?_range_eq_some] at hi
        exact absurd hp (by simpa using hi.1)
      · rename_i hn
        rw [List.find?_range_eq_none] at hn
        exact ⟨by omega, by omega, fun i hi => by simpa using hn i hi⟩
structure Uho (h : List Ob) (o : Ob) (i : Nat) : Prop where
  kind : 0 ≤ o.kind ∧ o.kind < 21
  shape : shapeS o = 0
  sizes : sizesS o = 0
  names : namesS o = 0
  vals : valuesS h o = 0
  links : linksS h o i = true
  keys : keyS h o = 0
  order : orderOkS h o i = true
theorem Uh.lo_at {h : List Ob} (g : Uh h) {i : Nat} (hi : i < 49) : obAt h i = bgO i := by
  have := g.code i (by have := g.lo; omega)
  unfold codeS at this
  rw [if_pos (by omega)] at this
  split at this
  · assumption
  · cases this
theorem Uh.hi_at {h : List Ob} (g : Uh h) {i : Nat} (h1 : 49 ≤ i) (h2 : i < h.length) : Uho h (obAt h i) i := by
  have := g.code i h2
  unfold codeS at this
  rw [if_neg (by omega)] at this
  split at this
  · cases this
  · rename_i hk
    split at this
    · rename_i hf
      split at this
      · rename_i hl
        split at this
        · rename_i hy
          split at this
          · rename_i ho
            have hz := fstC_zero hf
            exact ⟨by omega, hz 0, hz 1, hz 2, hz 3, hl, hy, ho⟩
          · cases this
        · rename_i hy; exact absurd this hy
      · cases this
    · rename_i hf; exact absurd this hf
theorem obAt_nat {h : List Ob} {n : Int} (hn : inH h n) : obAt h n = obAt h ((n.toNat : Nat) : Int) := by rfl
theorem Uh.cls {h : List Ob} (g : Uh h) {n : Int} (hn : inH h n) (hk : (obAt h n).kind = 10) : inH h (obAt h n).cls := by
  by_cases h49 : n.toNat < 49
  · have := g.lo_at h49
    rw [show obAt h n = bgO n.toNat from this] at hk
    exact absurd hk (by show ¬ (9 : Int) = 10; decide)
  · exact isObj_in (vs_of (g.hi_at (by omega) hn.2).vals).cls
theorem Uh.items {h : List Ob} (g : Uh h) {n : Int} (hn : inH h n) {v : Vl} (hv : v ∈ (obAt h n).items) (hk : v.k = 6) : isObj h v.r = true := by
  by_cases h49 : n.toNat < 49
  · rw [show obAt h n = bgO n.toNat from g.lo_at h49] at hv
    exact absurd hv (by show ¬ v ∈ ([] : List Vl); simp)
  · exact (vs_of (g.hi_at (by omega) hn.2).vals).vals v (List.mem_append.2 (.inr hv)) hk
theorem has_obj {h : List Ob} {v : Vl} (hh : hasS h v = true) (hk : v.k = 6) : isObj h v.r = true := by
  simp only [hasS, Bool.and_eq_true, Bool.or_eq_true, Bool.not_eq_true', decide_eq_false_iff_not] at hh
  exact hh.2.resolve_left fun hn => hn hk
theorem objS_of {h : List Ob} {v : Vl} (hk : (objS h v).kind ≠ 0) : v.k = 6 ∧ isObj h v.r = true ∧ objS h v = obAt h v.r := by
  unfold objS at hk ⊢
  split at hk
  · rename_i h1
    exact ⟨h1.1, h1.2, if_pos h1⟩
  · exact absurd rfl hk
theorem objS_at {h : List Ob} {v : Vl} (hv : v.k = 6 → isObj h v.r = true) (hk : v.k = 6) : objS h v = obAt h v.r := if_pos ⟨hk, hv hk⟩
theorem objS_no {h : List Ob} {v : Vl} (hk : ¬ v.k = 6) : objS h v = ob0 := if_neg fun hh => hk hh.1

theorem Usable_ok (h : List Ob) (vs : List Vl) (hh : HpIn h) (hin : ∀ v ∈ vs, VlIn v) (hl : vs.length ≤ 2000000) : Fn Tryz.prog 18 [hpD md h, vsD vs] (.v (.bool (usableS h vs))) := by
  refine fn_ev tabT Tryz.func18 rfl rfl rfl rfl rfl rfl ?_
  intro w0 s0 mx
  refine ev_seq (ev_region tabT [] 100 rfl ?_)
  repeat (first | refine sat_same ?_ | refine sat_impA ?_ | refine sat_needA ?_)
  refine sat_done ?_
  refine exS_normal ?_
  refine ev_seq ?_
  refine ev_seq (ev_region tabT [] 200 rfl ?_)
  repeat (first | refine sat_same ?_ | refine sat_impA ?_ | refine sat_needA ?_)
  refine sat_fn _ (Problem_ok _ (by first | assumption | omega | (simp_all; done))) rfl ?_
  repeat (first | refine sat_same ?_ | refine sat_impA ?_ | refine sat_needA ?_)
  refine sat_done ?_
  refine exS_normal ?_
  refine ev_cond rfl (fun c1 => ?_) (fun c1 => ?_)
  · replace c1 : ¬ (problemS h).1 = 0 := by simpa using c1
    refine ev_seq (ev_region tabT [] 300 rfl ?_)
    repeat (first | refine sat_same ?_ | refine sat_impA ?_ | refine sat_needA ?_)
    refine sat_done ?_
    refine exS_normal ?_
    refine ev_ret ?_
    refine exS_ret ?_
    exact FinV.ret rfl (SubP.bool (by rw [usableS, decide_eq_false c1]; rfl))
  · replace c1 : (problemS h).1 = 0 := by simpa using c1
    refine ev_skip ?_
    refine exS_normal ?_
    refine ev_seq ?_
    refine ev_seq (ev_region tabT [] 400 rfl ?_)
    repeat (first | refine sat_same ?_ | refine sat_impA ?_ | refine sat_needA ?_)
    refine sat_done ?_
    refine exS_normal ?_
    refine ev_block ?_
    refine ev_loopK (ι := Al vs (hasS h)) [2, 11, 12] [0] 450 (fun x => [(13, .v (.int .i64 x.k))]) (fun _ => []) (fun x => vs.length - x.k) ⟨0, Nat.zero_le _, fun j x hj => by omega⟩ ?_
    refine ⟨⟨(by first | exact trivial | (repeat (first | exact trivial | exact Sub.refl _ | refine ⟨?_, ?_⟩ | exact Sub.int (by first | rfl | omega | (push_cast; omega)) | exact Sub.nilSl | exact Sub.own rfl | exact Sub.slrSl rfl | exact Sub.ownSl (List.map_append).symm | exact Sub.ownSl rfl))), (by repeat (first | exact trivial | exact SubO.same rfl | refine ⟨?_, ?_⟩)), rfl, rfl⟩, fun x => ?_⟩
    have hk := x.le
    refine ev_seq (ev_region tabT [] 500 rfl ?_)
    repeat (first | refine sat_same ?_ | refine sat_impA ?_ | refine sat_needA ?_)
    refine sat_done ?_
    refine exS_normal ?_
    refine ev_seq ?_
    refine ev_cond rfl (fun c4 => ?_) (fun c4 => ?_)
    · try simp only [decide_eq_true_eq, decide_eq_false_iff_not, Bool.not_eq_true', Bool.not_eq_false', Bool.and_eq_true, Bool.or_eq_true, Bool.or_eq_false_iff, gt_iff_lt, Int.not_lt, Bool.not_true, Bool.not_false, Int.ofNat_lt, Int.ofNat_le] at c4
      refine ev_skip ?_
      refine exS_normal ?_
      refine ev_seq ?_
      refine ev_block ?_
      refine ev_seq (ev_region tabT [] 600 rfl ?_)
      repeat (first | refine sat_same ?_ | refine sat_impA ?_ | refine sat_needA ?_)
      refine sat_done ?_
      refine exS_normal ?_
      refine ev_seq (ev_region tabT [] 700 rfl ?_)
      repeat (first | refine sat_same ?_ | refine sat_impA ?_ | refine sat_needA ?_)
      refine sat_fn _ (Has_ok _ _ (hin _ (mem_getD c4 vl0))) rfl ?_
      repeat (first | refine sat_same ?_ | refine sat_impA ?_ | refine sat_needA ?_)
      refine sat_done ?_
      refine exS_normal ?_
      refine ev_cond rfl (fun c6 => ?_) (fun c6 => ?_)
      · simp only [Bool.not_eq_true'] at c6
        refine ev_seq (ev_region tabT [] 800 rfl ?_)
        repeat (first | refine sat_same ?_ | refine sat_impA ?_ | refine sat_needA ?_)
        refine sat_done ?_
        refine exS_normal ?_
        refine ev_ret ?_
        refine exBl_ret ?_
        refine exS_ret ?_
        refine exL_ret ?_
        refine exBl_ret ?_
        refine exS_ret ?_
        exact FinV.ret rfl (SubP.bool (by rw [usableS, Al.no (p := hasS h) (e := vl0) c4 c6, Bool.and_false]))
      · simp only [Bool.not_eq_false'] at c6
        refine ev_skip ?_
        refine exBl_normal ?_
        refine exS_normal ?_
        refine ev_region tabT [] 900 rfl ?_
        repeat (first | refine sat_same ?_ | refine sat_impA ?_ | refine sat_needA ?_)
        refine sat_done ?_
        exact exL_normal (x.next (e := vl0) c4 c6) ⟨(by first | exact trivial | (repeat (first | exact trivial | exact Sub.refl _ | refine ⟨?_, ?_⟩ | exact Sub.int (by first | rfl | omega | (push_cast; omega)) | exact Sub.nilSl | exact Sub.own rfl | exact Sub.slrSl rfl | exact Sub.ownSl (List.map_append).symm | exact Sub.ownSl rfl))), (by repeat (first | exact trivial | exact SubO.same rfl | refine ⟨?_, ?_⟩)), rfl, rfl⟩ (by show vs.length - (x.k + 1) < vs.length - x.k; omega)
    · try simp only [decide_eq_true_eq, decide_eq_false_iff_not, Bool.not_eq_true', Bool.not_eq_false', Bool.and_eq_true, Bool.or_eq_true, Bool.or_eq_false_iff, gt_iff_lt, Int.not_lt, Bool.not_true, Bool.not_false, Int.ofNat_lt, Int.ofNat_le] at c4
      refine ev_exit ?_
      refine exS_exit ?_
      refine exL_exit ?_
      refine exBl_same ?_
      refine exS_normal ?_
      refine ev_seq (ev_region tabT [] 1000 rfl ?_)
      repeat (first | refine sat_same ?_ | refine sat_impA ?_ | refine sat_needA ?_)
      refine sat_done ?_
      refine exS_normal ?_
      refine ev_ret ?_
      exact FinV.ret rfl (SubP.bool (by rw [usableS, decide_eq_true c1, x.yes c4]; rfl))

end Go.Proofs.YtfcjacajnnkkfaaGreatDoor

/- Walks by the evaluator: raising: Is, Matches, Caught, SameStep. -/
namespace Go.Proofs.YtfcjacajnnkkfaaGreatDoor
open Go.RowKit
variable {md me : Bool}

/-- A step: its kind, its value, its code, its text, two more. -/
structure St where
  k : Int
  v : Vl
  c : Int
  s : ByteArray
  w : Vl
  l : List Vl
def stD (s : St) : List D := .v (.int .i64 s.k) :: (vlD s.v ++ (.v (.int .i64 s.c) :: .v (.string s.s) :: (vlD s.w ++ [.sl false 7 s.l vlD vl0])))
def smSt (a b : St) : Bool := ((((decide (a.k = b.k) && decide (a.c = b.c)) && decide (a.s = b.s)) && decide (a.v = b.v)) && decide (a.w = b.w)) && decide (a.l = b.l)
theorem smSt_self (a : St) : smSt a a = true := by simp [smSt]
def boV (b : Bool) : Vl := ⟨1, false, [], false, [], ByteArray.empty, if b then 1 else 0⟩
def raS (c : Int) (m : ByteArray) : St := ⟨1, vl0, c, m, vl0, []⟩
def vlS (v : Vl) : St := ⟨0, v, 0, ByteArray.empty, vl0, []⟩
def excC (h : List Ob) (w : Vl) : Bool := decide ((objS h w).kind = 9) && hasB (obAt h w.r).order 28
def mg1 : ByteArray := ⟨#[99, 97, 116, 99, 104, 32, 110, 101, 101, 100, 115, 32, 97, 110, 32, 101, 120, 99, 101, 112, 116, 105, 111, 110, 32, 99, 108, 97, 115, 115]⟩
def mg2 : ByteArray := ⟨#[99, 97, 116, 99, 104, 32, 42, 32, 110, 101, 101, 100, 115, 32, 110, 111, 32, 103, 114, 111, 117, 112, 32, 99, 108, 97, 115, 115]⟩
/-- The step of a clause that catches. -/
def mtS (h : List Ob) (v : Vl) (b : Bool) : List Vl → St
  | [] => vlS (boV false)
  | w :: l => if excC h w = true then (if (b && hasB (obAt h w.r).order 48) = true then raS 32 mg2 else if isaS h v w.r = true then vlS (boV true) else mtS h v b l) else raS 32 mg1
def wlS (h : List Ob) (w : Vl) : List Vl := if (objS h w).kind = 1 then (objS h w).items else [w]
/-- So much of a list read; what is told of the rest is told of the whole. -/
structure Sf {α β : Type} (F : List α → β) (l : List α) where
  k : Nat
  le : k ≤ l.length
  eq : F (l.drop k) = F l
theorem drop_getD {α : Type} {l : List α} {k : Nat} (h : k < l.length) (e : α) : l.drop k = l.getD k e :: l.drop (k + 1) := by
  rw [List.drop_eq_getElem_cons h, List.getD_eq_getElem?_getD, List.getElem?_eq_getElem h]; rfl
def Sf.next {α β : Type} {F : List α → β} {l : List α} (x : Sf F l) (h1 : x.k < l.length) (h2 : F (l.drop x.k) = F (l.drop (x.k + 1))) : Sf F l := ⟨x.k + 1, h1, h2.symm.trans x.eq⟩
theorem Sf.end {α β : Type} {F : List α → β} {l : List α} (x : Sf F l) (h1 : ¬ x.k < l.length) : F l = F [] := by
  rw [← x.eq, List.drop_of_length_le (by omega)]
theorem excC_in {h : List Ob} {w : Vl} (he : excC h w = true) : inH h w.r := by
  simp only [excC, Bool.and_eq_true, decide_eq_true_eq] at he
  exact isObj_in (objS_of (by rw [he.1]; decide)).2.1
/-- What Matches and Caught ask of a value: its number is an object's, and its class is one. -/
structure Rf (h : List Ob) (v : Vl) : Prop where
  obj : v.k = 6 → isObj h v.r = true
  cls : v.k = 6 → (obAt h v.r).kind = 10 → inH h (obAt h v.r).cls
theorem Rf.isa {h : List Ob} {v : Vl} (hv : Rf h v) (hk : (objS h v).kind = 10) : inH h (objS h v).cls := by
  have h1 := objS_of (h := h) (v := v) (by rw [hk]; decide)
  rw [h1.2.2] at hk ⊢
  exact hv.cls h1.1 hk
theorem isa_eq {h : List Ob} {v : Vl} (hv : Rf h v) (c : Int) : ((decide (v.k = 6) && decide ((obAt h v.r).kind = 10)) && hasB (obAt h (obAt h v.r).cls).order c) = isaS h v c := by
  unfold isaS
  by_cases hk : v.k = 6
  · rw [objS_at hv.obj hk, decide_eq_true hk, Bool.true_and]
  · rw [objS_no hk, decide_eq_false hk]; rfl
theorem exc_eq {h : List Ob} {w : Vl} (hw : w.k = 6 → isObj h w.r = true) : ((decide (w.k = 6) && decide ((obAt h w.r).kind = 9)) && hasB (obAt h w.r).order 28) = excC h w := by
  unfold excC
  by_cases hk : w.k = 6
  · rw [objS_at hw hk, decide_eq_true hk, Bool.true_and]
  · rw [objS_no hk, decide_eq_false hk]; rfl
theorem wlS_eq {h : List Ob} {w : Vl} (hw : w.k = 6 → isObj h w.r = true) (hc : (decide (w.k = 6) && decide ((obAt h w.r).kind = 1)) = true) : wlS h w = (obAt h w.r).items := by
  simp only [Bool.and_eq_true, decide_eq_true_eq] at hc
  unfold wlS
  rw [objS_at hw hc.1, if_pos hc.2]
theorem wlS_ne {h : List Ob} {w : Vl} (hw : w.k = 6 → isObj h w.r = true) (hc : (decide (w.k = 6) && decide ((obAt h w.r).kind = 1)) = false) : wlS h w = [w] := by
  unfold wlS
  by_cases hk : w.k = 6
  · rw [decide_eq_true hk, Bool.true_and] at hc
    rw [objS_at hw hk, if_neg (of_decide_eq_false hc)]
  · rw [objS_no hk, if_neg (by show ¬ (0 : Int) = 1; decide)]

theorem Derives_ok (h : List Ob) (c b : Int) (hn : inH h c) : Fn Tryz.prog 24 [hpD md h, .v (.int .i64 c), .v (.int .i64 b)] (.v (.bool (hasB (obAt h c).order b))) := by
  refine fn_ev tabT Tryz.func24 rfl rfl rfl rfl rfl rfl ?_
  intro w0 s0 mx
  refine ev_seq (ev_region tabT [] 100 rfl ?_)
  repeat (first | refine sat_same ?_ | refine sat_impA ?_ | refine sat_needA ?_)
  refine sat_done ?_
  refine exS_normal ?_
  refine ev_seq (ev_region tabT [] 200 rfl ?_)
  repeat (first | refine sat_same ?_ | refine sat_impA ?_ | refine sat_need (by exact hn) ?_)
  refine sat_fn _ (ContainsI_ok _ _) rfl ?_
  repeat (first | refine sat_same ?_ | refine sat_impA ?_ | refine sat_need (by exact hn) ?_)
  refine sat_done ?_
  refine exS_normal ?_
  refine ev_ret ?_
  exact FinV.ret rfl (SubP.refl _)

theorem heapBool_ok (b : Bool) : Fn Tryz.prog 11 [.v (.bool b)] (.agg (vlD (boV b))) := by
  refine fn_ev tabT Tryz.func11 rfl rfl rfl rfl rfl rfl ?_
  intro w0 s0 mx
  refine ev_seq (ev_region tabT [] 100 rfl ?_)
  repeat (first | refine sat_same ?_ | refine sat_impA ?_ | refine sat_needA ?_)
  refine sat_done ?_
  refine exS_normal ?_
  refine ev_seq (ev_region tabT [] 200 rfl ?_)
  repeat (first | refine sat_same ?_ | refine sat_impA ?_ | refine sat_needA ?_)
  refine sat_done ?_
  refine exS_normal ?_
  refine ev_seq ?_
  refine ev_seq (ev_region tabT [] 300 rfl ?_)
  repeat (first | refine sat_same ?_ | refine sat_impA ?_ | refine sat_needA ?_)
  refine sat_done ?_
  refine exS_normal ?_
  refine ev_cond rfl (fun c2 => ?_) (fun c2 => ?_)
  · subst c2
    refine ev_region tabT [] 400 rfl ?_
    repeat (first | refine sat_same ?_ | refine sat_impA ?_ | refine sat_needA ?_)
    refine sat_done ?_
    refine exS_normal ?_
    refine ev_seq (ev_region tabT [] 500 rfl ?_)
    repeat (first | refine sat_same ?_ | refine sat_impA ?_ | refine sat_needA ?_)
    refine sat_done ?_
    refine exS_normal ?_
    refine ev_ret ?_
    exact FinV.ret rfl (SubP.agg (by repeat (first | exact trivial | exact SubP.refl _ | exact SubP.nilSl rfl | refine ⟨?_, ?_⟩)))
  · subst c2
    refine ev_skip ?_
    refine exS_normal ?_
    refine ev_seq (ev_region tabT [] 500 rfl ?_)
    repeat (first | refine sat_same ?_ | refine sat_impA ?_ | refine sat_needA ?_)
    refine sat_done ?_
    refine exS_normal ?_
    refine ev_ret ?_
    exact FinV.ret rfl (SubP.agg (by repeat (first | exact trivial | exact SubP.refl _ | exact SubP.nilSl rfl | refine ⟨?_, ?_⟩)))

theorem B_ok (b : Bool) : Fn Tryz.prog 12 [.v (.bool b)] (.agg (vlD (boV b))) := by
  refine fn_ev tabT Tryz.func12 rfl rfl rfl rfl rfl rfl ?_
  intro w0 s0 mx
  refine ev_seq (ev_region tabT [] 100 rfl ?_)
  repeat (first | refine sat_same ?_ | refine sat_impA ?_ | refine sat_needA ?_)
  refine sat_done ?_
  refine exS_normal ?_
  refine ev_seq ?_
  refine ev_seq (ev_region tabT [] 200 rfl ?_)
  repeat (first | refine sat_same ?_ | refine sat_impA ?_ | refine sat_needA ?_)
  refine sat_done ?_
  refine exS_normal ?_
  refine ev_cond rfl (fun c1 => ?_) (fun c1 => ?_)
  · subst c1
    refine ev_seq (ev_region tabT [] 300 rfl ?_)
    repeat (first | refine sat_same ?_ | refine sat_impA ?_ | refine sat_needA ?_)
    refine sat_done ?_
    refine exS_normal ?_
    refine ev_ret ?_
    refine exS_ret ?_
    exact FinV.ret rfl (SubP.agg (by repeat (first | exact trivial | exact SubP.refl _ | exact SubP.nilSl rfl | refine ⟨?_, ?_⟩)))
  · subst c1
    refine ev_skip ?_
    refine exS_normal ?_
    refine ev_seq (ev_region tabT [] 400 rfl ?_)
    repeat (first | refine sat_same ?_ | refine sat_impA ?_ | refine sat_needA ?_)
    refine sat_done ?_
    refine exS_normal ?_
    refine ev_ret ?_
    exact FinV.ret rfl (SubP.agg (by repeat (first | exact trivial | exact SubP.refl _ | exact SubP.nilSl rfl | refine ⟨?_, ?_⟩)))

end Go.Proofs.YtfcjacajnnkkfaaGreatDoor

/- Walks by the evaluator: Matches, Caught; the law. -/
namespace Go.Proofs.YtfcjacajnnkkfaaGreatDoor
open Go.RowKit
variable {md me : Bool}

theorem wl_obj {h : List Ob} {w : Vl} (g : Uh h) (hw : w.k = 6 → isObj h w.r = true) {u : Vl} (hu : u ∈ wlS h w) (hk : u.k = 6) : isObj h u.r = true := by
  unfold wlS at hu
  split at hu
  · rename_i h1
    have h2 := objS_of (h := h) (v := w) (by rw [h1]; decide)
    rw [h2.2.2] at hu
    exact g.items (isObj_in h2.2.1) hu hk
  · rw [List.mem_singleton] at hu; subst hu; exact hw hk
theorem wl_len {h : List Ob} {w : Vl} (hh : HpIn h) : (wlS h w).length ≤ 2000000 := by
  unfold wlS
  split
  · rename_i h1
    have h2 := objS_of (h := h) (v := w) (by rw [h1]; decide)
    rw [h2.2.2]
    exact (hh.at w.r).il
  · show 1 ≤ 2000000; omega
section
variable {h : List Ob} {v : Vl} {b : Bool} {l : List Vl} {k : Nat}
theorem mt_bad (hk : k < l.length) (h7 : ¬ excC h (l.getD k vl0) = true) : mtS h v b (l.drop k) = raS 32 mg1 := by rw [drop_getD hk vl0, mtS, if_neg h7]
theorem mt_grp (hk : k < l.length) (h7 : excC h (l.getD k vl0) = true) (h9 : (b && hasB (obAt h (l.getD k vl0).r).order 48) = true) : mtS h v b (l.drop k) = raS 32 mg2 := by rw [drop_getD hk vl0, mtS, if_pos h7, if_pos h9]
theorem mt_yes (hk : k < l.length) (h7 : excC h (l.getD k vl0) = true) (h9 : ¬ (b && hasB (obAt h (l.getD k vl0).r).order 48) = true) (h11 : isaS h v (l.getD k vl0).r = true) : mtS h v b (l.drop k) = vlS (boV true) := by rw [drop_getD hk vl0, mtS, if_pos h7, if_neg h9, if_pos h11]
theorem mt_nxt (hk : k < l.length) (h7 : excC h (l.getD k vl0) = true) (h9 : ¬ (b && hasB (obAt h (l.getD k vl0).r).order 48) = true) (h11 : ¬ isaS h v (l.getD k vl0).r = true) : mtS h v b (l.drop k) = mtS h v b (l.drop (k + 1)) := by rw [drop_getD hk vl0, mtS, if_pos h7, if_neg h9, if_neg h11]
end

end Go.Proofs.YtfcjacajnnkkfaaGreatDoor

/- Walks by the evaluator: heap.Start, SameHeap, Text, Ref, ClassOf. -/
namespace Go.Proofs.YtfcjacajnnkkfaaGreatDoor
open Go.RowKit
variable {md me : Bool}

theorem par_rest {k : Nat} (h : k < 49) (h1 : ¬ (k : Int) = 29) (h2 : ¬ (k : Int) = 30) (h3 : ¬ (k : Int) = 31) (h4 : ¬ (k : Int) = 35) (h5 : ¬ (k : Int) = 38) (h6 : ¬ (k : Int) = 39) (h7 : ¬ (k : Int) = 41) (h8 : ¬ (k : Int) = 43) : ixB k = if 31 < (k : Int) then 31 else 0 := by
  have := List.all_eq_true.1 (show (List.range 49).all (fun k => decide ((k : Int) = 29 ∨ (k : Int) = 30 ∨ (k : Int) = 31 ∨ (k : Int) = 35 ∨ (k : Int) = 38 ∨ (k : Int) = 39 ∨ (k : Int) = 41 ∨ (k : Int) = 43 ∨ ixB k = if 31 < (k : Int) then 31 else 0)) = true by decide +kernel) k (List.mem_range.2 h)
  have := of_decide_eq_true this
  simp only [h1, h2, h3, h4, h5, h6, h7, h8, false_or] at this
  exact this
theorem par_at {k n : Nat} (hk : (k : Int) = (n : Int)) : ixB k = ixB n := by rw [show k = n by omega]
theorem dv_pos {k : Nat} (h : k < 49) : dvB k = decide (0 < (k : Int)) := by
  have := List.all_eq_true.1 (show (List.range 49).all (fun k => decide (dvB k = decide (0 < (k : Int)))) = true by decide +kernel) k (List.mem_range.2 h)
  exact of_decide_eq_true this
theorem nmL_len : nmL.length = 49 := by decide +kernel
theorem bgRow2 {k : Nat} (h : k < 49) (hd : dvB k = true) {K : Nat} {rows : List (List D)} (hr : rows = [[.v (.int .i64 k)]] ++ (odB (ixB k).toNat).map iD) : SubPs [.v (.int .i64 9), .v (.string (nmB k)), .v (.int .i64 0), .slr false 1 [[.v (.int .i64 (ixB k))]], .own K 1 rows, .v (.slice none 0 0), .v (.slice none 0 0), .v (.slice none 0 0), .v (.int .i64 0), .v (.int .i64 0)] (obD (bgO k)) :=
  ⟨SubP.refl _, SubP.refl _, SubP.refl _, SubP.slrSl (by show _ = (if dvB k then [ixB k] else []).map iD; rw [if_pos hd]; rfl), SubP.ownSl (by show _ = (odB k).map iD; rw [(ixK h hd).2.2.2, hr]; rfl), SubP.nilSl rfl, SubP.nilSl rfl, SubP.nilSl rfl, SubP.refl _, SubP.refl _, trivial⟩

theorem parent_ok (k : Nat) (hk9 : k < 49) : Fn Tryz.prog 32 [.v (.int .i64 k)] (.v (.int .i64 (ixB k))) := by
  refine fn_ev tabT Tryz.func32 rfl rfl rfl rfl rfl rfl ?_
  intro w0 s0 mx
  refine ev_seq (ev_region tabT [] 100 rfl ?_)
  repeat (first | refine sat_same ?_ | refine sat_impA ?_ | refine sat_needA ?_)
  refine sat_done ?_
  refine exS_normal ?_
  refine ev_seq ?_
  refine ev_seq (ev_region tabT [] 200 rfl ?_)
  repeat (first | refine sat_same ?_ | refine sat_impA ?_ | refine sat_needA ?_)
  refine sat_done ?_
  refine exS_normal ?_
  refine ev_block ?_
  refine ev_seq ?_
  refine ev_seq (ev_region tabT [] 300 rfl ?_)
  repeat (first | refine sat_same ?_ | refine sat_impA ?_ | refine sat_needA ?_)
  refine sat_done ?_
  refine exS_normal ?_
  refine ev_cond rfl (fun c2 => ?_) (fun c2 => ?_)
  · first | replace c2 := of_decide_eq_true c2 | replace c2 := of_decide_eq_false c2
    refine ev_skip ?_
    refine exS_normal ?_
    refine ev_cond rfl (fun c2x => ?_) (fun c2x => ?_)
    · first | replace c2x := of_decide_eq_true c2x | replace c2x := of_decide_eq_false c2x
      refine ev_seq (ev_region tabT [] 600 rfl ?_)
      repeat (first | refine sat_same ?_ | refine sat_impA ?_ | refine sat_needA ?_)
      refine sat_done ?_
      refine exS_normal ?_
      refine ev_ret ?_
      refine exBl_ret ?_
      refine exS_ret ?_
      exact FinV.ret rfl (SubP.int (by show _ = ixB k; rw [show ixB k = 28 from (by first | exact (par_at (n := 29) (by omega)).trans (by decide +kernel) | exact (par_at (n := 30) (by omega)).trans (by decide +kernel) | exact (par_at (n := 31) (by omega)).trans (by decide +kernel))]))
    · first | replace c2x := of_decide_eq_true c2x | replace c2x := of_decide_eq_false c2x
      simp_all
  · first | replace c2 := of_decide_eq_true c2 | replace c2 := of_decide_eq_false c2
    refine ev_seq (ev_region tabT [] 400 rfl ?_)
    repeat (first | refine sat_same ?_ | refine sat_impA ?_ | refine sat_needA ?_)
    refine sat_done ?_
    refine exS_normal ?_
    refine ev_cond rfl (fun c3 => ?_) (fun c3 => ?_)
    · first | replace c3 := of_decide_eq_true c3 | replace c3 := of_decide_eq_false c3
      refine ev_skip ?_
      refine exS_normal ?_
      refine ev_cond rfl (fun c3x => ?_) (fun c3x => ?_)
      · first | replace c3x := of_decide_eq_true c3x | replace c3x := of_decide_eq_false c3x
        refine ev_seq (ev_region tabT [] 600 rfl ?_)
        repeat (first | refine sat_same ?_ | refine sat_impA ?_ | refine sat_needA ?_)
        refine sat_done ?_
        refine exS_normal ?_
        refine ev_ret ?_
        refine exBl_ret ?_
        refine exS_ret ?_
        exact FinV.ret rfl (SubP.int (by show _ = ixB k; rw [show ixB k = 28 from (by first | exact (par_at (n := 29) (by omega)).trans (by decide +kernel) | exact (par_at (n := 30) (by omega)).trans (by decide +kernel) | exact (par_at (n := 31) (by omega)).trans (by decide +kernel))]))
      · first | replace c3x := of_decide_eq_true c3x | replace c3x := of_decide_eq_false c3x
        simp_all
    · first | replace c3 := of_decide_eq_true c3 | replace c3 := of_decide_eq_false c3
      refine ev_region tabT [] 500 rfl ?_
      repeat (first | refine sat_same ?_ | refine sat_impA ?_ | refine sat_needA ?_)
      refine sat_done ?_
      refine exS_normal ?_
      refine ev_cond rfl (fun c4 => ?_) (fun c4 => ?_)
      · first | replace c4 := of_decide_eq_true c4 | replace c4 := of_decide_eq_false c4
        refine ev_seq (ev_region tabT [] 600 rfl ?_)
        repeat (first | refine sat_same ?_ | refine sat_impA ?_ | refine sat_needA ?_)
        refine sat_done ?_
        refine exS_normal ?_
        refine ev_ret ?_
        refine exBl_ret ?_
        refine exS_ret ?_
        exact FinV.ret rfl (SubP.int (by show _ = ixB k; rw [show ixB k = 28 from (by first | exact (par_at (n := 29) (by omega)).trans (by decide +kernel) | exact (par_at (n := 30) (by omega)).trans (by decide +kernel) | exact (par_at (n := 31) (by omega)).trans (by decide +kernel))]))
      · first | replace c4 := of_decide_eq_true c4 | replace c4 := of_decide_eq_false c4
        refine ev_seq (ev_region tabT [] 700 rfl ?_)
        repeat (first | refine sat_same ?_ | refine sat_impA ?_ | refine sat_needA ?_)
        refine sat_done ?_
        refine exS_normal ?_
        refine ev_cond rfl (fun c6 => ?_) (fun c6 => ?_)
        · first | replace c6 := of_decide_eq_true c6 | replace c6 := of_decide_eq_false c6
          refine ev_seq (ev_region tabT [] 800 rfl ?_)
          repeat (first | refine sat_same ?_ | refine sat_impA ?_ | refine sat_needA ?_)
          refine sat_done ?_
          refine exS_normal ?_
          refine ev_ret ?_
          refine exBl_ret ?_
          refine exS_ret ?_
          exact FinV.ret rfl (SubP.int (by show _ = ixB k; rw [show ixB k = 34 from (par_at (n := 35) (by omega)).trans (by decide +kernel)]))
        · first | replace c6 := of_decide_eq_true c6 | replace c6 := of_decide_eq_false c6
          refine ev_seq ?_
          refine ev_seq (ev_region tabT [] 900 rfl ?_)
          repeat (first | refine sat_same ?_ | refine sat_impA ?_ | refine sat_needA ?_)
          refine sat_done ?_
          refine exS_normal ?_
          refine ev_cond rfl (fun c8 => ?_) (fun c8 => ?_)
          · first | replace c8 := of_decide_eq_true c8 | replace c8 := of_decide_eq_false c8
            refine ev_skip ?_
            refine exS_normal ?_
            refine ev_cond rfl (fun c8x => ?_) (fun c8x => ?_)
            · first | replace c8x := of_decide_eq_true c8x | replace c8x := of_decide_eq_false c8x
              refine ev_seq (ev_region tabT [] 1100 rfl ?_)
              repeat (first | refine sat_same ?_ | refine sat_impA ?_ | refine sat_needA ?_)
              refine sat_done ?_
              refine exS_normal ?_
              refine ev_ret ?_
              refine exBl_ret ?_
              refine exS_ret ?_
              exact FinV.ret rfl (SubP.int (by show _ = ixB k; rw [show ixB k = 37 from (by first | exact (par_at (n := 38) (by omega)).trans (by decide +kernel) | exact (par_at (n := 39) (by omega)).trans (by decide +kernel))]))
            · first | replace c8x := of_decide_eq_true c8x | replace c8x := of_decide_eq_false c8x
              simp_all
          · first | replace c8 := of_decide_eq_true c8 | replace c8 := of_decide_eq_false c8
            refine ev_region tabT [] 1000 rfl ?_
            repeat (first | refine sat_same ?_ | refine sat_impA ?_ | refine sat_needA ?_)
            refine sat_done ?_
            refine exS_normal ?_
            refine ev_cond rfl (fun c9 => ?_) (fun c9 => ?_)
            · first | replace c9 := of_decide_eq_true c9 | replace c9 := of_decide_eq_false c9
              refine ev_seq (ev_region tabT [] 1100 rfl ?_)
              repeat (first | refine sat_same ?_ | refine sat_impA ?_ | refine sat_needA ?_)
              refine sat_done ?_
              refine exS_normal ?_
              refine ev_ret ?_
              refine exBl_ret ?_
              refine exS_ret ?_
              exact FinV.ret rfl (SubP.int (by show _ = ixB k; rw [show ixB k = 37 from (by first | exact (par_at (n := 38) (by omega)).trans (by decide +kernel) | exact (par_at (n := 39) (by omega)).trans (by decide +kernel))]))
            · first | replace c9 := of_decide_eq_true c9 | replace c9 := of_decide_eq_false c9
              refine ev_seq (ev_region tabT [] 1200 rfl ?_)
              repeat (first | refine sat_same ?_ | refine sat_impA ?_ | refine sat_needA ?_)
              refine sat_done ?_
              refine exS_normal ?_
              refine ev_cond rfl (fun c11 => ?_) (fun c11 => ?_)
              · first | replace c11 := of_decide_eq_true c11 | replace c11 := of_decide_eq_false c11
                refine ev_seq (ev_region tabT [] 1300 rfl ?_)
                repeat (first | refine sat_same ?_ | refine sat_impA ?_ | refine sat_needA ?_)
                refine sat_done ?_
                refine exS_normal ?_
                refine ev_ret ?_
                refine exBl_ret ?_
                refine exS_ret ?_
                exact FinV.ret rfl (SubP.int (by show _ = ixB k; rw [show ixB k = 40 from (par_at (n := 41) (by omega)).trans (by decide +kernel)]))
              · first | replace c11 := of_decide_eq_true c11 | replace c11 := of_decide_eq_false c11
                refine ev_seq (ev_region tabT [] 1400 rfl ?_)
                repeat (first | refine sat_same ?_ | refine sat_impA ?_ | refine sat_needA ?_)
                refine sat_done ?_
                refine exS_normal ?_
                refine ev_cond rfl (fun c13 => ?_) (fun c13 => ?_)
                · first | replace c13 := of_decide_eq_true c13 | replace c13 := of_decide_eq_false c13
                  refine ev_seq (ev_region tabT [] 1500 rfl ?_)
                  repeat (first | refine sat_same ?_ | refine sat_impA ?_ | refine sat_needA ?_)
                  refine sat_done ?_
                  refine exS_normal ?_
                  refine ev_ret ?_
                  refine exBl_ret ?_
                  refine exS_ret ?_
                  exact FinV.ret rfl (SubP.int (by show _ = ixB k; rw [show ixB k = 42 from (par_at (n := 43) (by omega)).trans (by decide +kernel)]))
                · first | replace c13 := of_decide_eq_true c13 | replace c13 := of_decide_eq_false c13
                  refine ev_skip ?_
                  refine exBl_normal ?_
                  refine exS_normal ?_
                  refine ev_seq ?_
                  refine ev_seq (ev_region tabT [] 1600 rfl ?_)
                  repeat (first | refine sat_same ?_ | refine sat_impA ?_ | refine sat_needA ?_)
                  refine sat_done ?_
                  refine exS_normal ?_
                  refine ev_cond rfl (fun c15 => ?_) (fun c15 => ?_)
                  · first | replace c15 := of_decide_eq_true c15 | replace c15 := of_decide_eq_false c15
                    refine ev_seq (ev_region tabT [] 1700 rfl ?_)
                    repeat (first | refine sat_same ?_ | refine sat_impA ?_ | refine sat_needA ?_)
                    refine sat_done ?_
                    refine exS_normal ?_
                    refine ev_ret ?_
                    refine exS_ret ?_
                    exact FinV.ret rfl (SubP.int (by show _ = ixB k; rw [par_rest hk9 (by omega) (by omega) (by omega) (by omega) (by omega) (by omega) (by omega) (by omega), if_pos (by omega)]))
                  · first | replace c15 := of_decide_eq_true c15 | replace c15 := of_decide_eq_false c15
                    refine ev_skip ?_
                    refine exS_normal ?_
                    refine ev_seq (ev_region tabT [] 1800 rfl ?_)
                    repeat (first | refine sat_same ?_ | refine sat_impA ?_ | refine sat_needA ?_)
                    refine sat_done ?_
                    refine exS_normal ?_
                    refine ev_ret ?_
                    exact FinV.ret rfl (SubP.int (by show _ = ixB k; rw [par_rest hk9 (by omega) (by omega) (by omega) (by omega) (by omega) (by omega) (by omega) (by omega), if_neg (by omega)]))

set_option maxHeartbeats 1000000 in
theorem Start_ok  : Fn Tryz.prog 16 [] (hpD false (bgS 49)) := by
  refine fn_ev tabT Tryz.func16 rfl rfl rfl rfl rfl rfl ?_
  intro w0 s0 mx
  refine ev_seq (ev_region tabT [] 100 rfl ?_)
  repeat (first | refine sat_same ?_ | refine sat_impA ?_ | refine sat_needA ?_)
  refine sat_done ?_
  refine exS_normal ?_
  refine ev_seq (ev_region tabT [] 200 rfl ?_)
  repeat (first | refine sat_same ?_ | refine sat_impA ?_ | refine sat_needA ?_)
  refine sat_done ?_
  refine exS_normal ?_
  refine ev_nilCell 100 0 45 10 rfl rfl ?_
  refine ev_seq ?_
  refine ev_seq (ev_region tabT [] 300 rfl ?_)
  repeat (first | refine sat_same ?_ | refine sat_impA ?_ | refine sat_needA ?_)
  refine sat_fn _ (Fields_ok _ (l := nmL) (by decide +kernel) (by decide +kernel) (by decide +kernel) (by decide +kernel)) rfl ?_
  repeat (first | refine sat_same ?_ | refine sat_impA ?_ | refine sat_needA ?_)
  refine sat_done ?_
  refine exS_normal ?_
  refine ev_block ?_
  refine ev_loopK (ι := Up 49 (fun _ => true)) [0, 1, 6, 7] [0] 350 (fun x => [(8, .v (.int .i64 x.k))]) (fun x => [(100, .box 24 [.own 200 10 ((bgS x.k).map obD)]), (200, .row 45 10 ((bgS x.k).map obD).length)]) (fun x => 49 - x.k) ⟨0, Nat.zero_le _, fun j hj => by omega⟩ ?_
  refine ⟨⟨(by first | exact trivial | (repeat (first | exact trivial | exact Sub.refl _ | refine ⟨?_, ?_⟩ | exact Sub.int (by first | rfl | omega | (push_cast; omega)) | exact Sub.nilSl | exact Sub.own rfl | exact Sub.slrSl rfl | exact Sub.ownSl (List.map_append).symm | exact Sub.ownSl rfl))), (by repeat (first | exact trivial | exact SubO.same rfl | refine ⟨?_, ?_⟩)), rfl, rfl⟩, fun x => ?_⟩
  have hk := x.le
  refine ev_seq (ev_region tabT [] 400 rfl ?_)
  repeat (first | refine sat_same ?_ | refine sat_impA ?_ | refine sat_needA ?_)
  refine sat_done ?_
  refine exS_normal ?_
  refine ev_seq ?_
  refine ev_cond rfl (fun c3 => ?_) (fun c3 => ?_)
  · replace c3 := of_decide_eq_true c3
    have hk9 : x.k < 49 := by have := nmL_len; omega
    refine ev_skip ?_
    refine exS_normal ?_
    refine ev_seq ?_
    refine ev_block ?_
    refine ev_seq (ev_region tabT [] 500 rfl ?_)
    repeat (first | refine sat_same ?_ | refine sat_impA ?_ | refine sat_needA ?_)
    refine sat_done ?_
    refine exS_normal ?_
    refine ev_seq (ev_region tabT [15] 600 rfl ?_)
    repeat (first | refine sat_same ?_ | refine sat_impA ?_ | refine sat_needA ?_)
    refine sat_done ?_
    refine exS_normal ?_
    refine ev_seq ?_
    refine ev_seq (ev_region tabT [] 700 rfl ?_)
    repeat (first | refine sat_same ?_ | refine sat_impA ?_ | refine sat_needA ?_)
    refine sat_done ?_
    refine exS_normal ?_
    refine ev_cond rfl (fun c6 => ?_) (fun c6 => ?_)
    · have hdv : dvB x.k = true := (dv_pos hk9).trans c6
      refine ev_seq (ev_region tabT [] 800 rfl ?_)
      repeat (first | refine sat_same ?_ | refine sat_impA ?_ | refine sat_needA ?_)
      refine sat_fn _ (parent_ok x.k hk9) rfl ?_
      repeat (first | refine sat_same ?_ | refine sat_impA ?_ | refine sat_needA ?_)
      refine sat_done ?_
      refine exS_normal ?_
      refine ev_seq (ev_region tabT [] 900 rfl ?_)
      repeat (first | refine sat_same ?_ | refine sat_impA ?_ | refine sat_needA ?_)
      refine sat_done ?_
      refine exS_normal ?_
      refine ev_drawn tabT [29] [[], [0], [], [2], [], [2, 3, 4], [2, 3, 4, 5], [2, 3, 4, 5, 6], [0, 1, 2, 3, 4, 5, 6, 7], [0, 1, 2, 3, 4, 5, 6, 7, 8], [0, 1, 2, 3, 4, 5, 6, 7, 8, 9]] 1000 mixT (by kernel_rfl) rfl ?_
      repeat (first | refine sat_same ?_ | refine sat_impA ?_ | refine sat_needA ?_)
      refine sat_pick (obD (bgO (ixB x.k).toNat)) ⟨?_, ?_, ?_⟩ ?_
      · exact (ixK hk9 hdv).2.1
      · show (ixB x.k).toNat < ((bgS x.k).map obD).length
        rw [List.length_map, bgS_len]; have := (ixK hk9 hdv).2; omega
      · show ((bgS x.k).map obD).getD (ixB x.k).toNat [] = _
        exact rowK (by have := (ixK hk9 hdv).2; omega)
      repeat (first | refine sat_same ?_ | refine sat_imp (by exact fun hh => hh) ?_ | refine sat_need (by first | rfl | (have hod := odL_len (ixB x.k).toNat; simp only [List.length_map, List.length_cons, List.length_nil, bgO]; omega)) ?_)
      refine sat_done ?_
      refine exS_normal ?_
      refine ev_region tabT [] 1100 rfl ?_
      repeat (first | refine sat_same ?_ | refine sat_impA ?_ | refine sat_need (by first | rfl | (have h2 := bgS_len x.k; simp only [List.length_map, List.length_cons, List.length_nil]; omega)) ?_)
      refine sat_done ?_
      refine exBl_normal ?_
      refine exS_normal ?_
      refine ev_region tabT [] 1200 rfl ?_
      repeat (first | refine sat_same ?_ | refine sat_impA ?_ | refine sat_needA ?_)
      refine sat_done ?_
      exact exL_normal (x.next hk9 rfl) ⟨⟨Sub.refl _, by repeat (first | exact trivial | exact Sub.refl _ | refine ⟨?_, ?_⟩)⟩, ⟨⟨rfl, Sub.ownRows (by show RowsP _ ((bgS (x.k + 1)).map obD); rw [bgS_succ]; exact (RowsP.refl _).append ⟨bgRow2 hk9 hdv rfl, trivial⟩), rfl, trivial⟩, ⟨rfl, rfl, by show _ = ((bgS (x.k + 1)).map obD).length; rw [bgS_succ, List.length_append, List.length_append]; rfl⟩, by repeat (first | exact trivial | exact SubO.same rfl | refine ⟨?_, ?_⟩)⟩, rfl, rfl⟩ (by show 49 - (x.k + 1) < 49 - x.k; omega)
    · have hdv : dvB x.k = false := (dv_pos hk9).trans c6
      refine ev_skip ?_
      refine exS_normal ?_
      refine ev_region tabT [] 1100 rfl ?_
      repeat (first | refine sat_same ?_ | refine sat_impA ?_ | refine sat_need (by first | rfl | (have h2 := bgS_len x.k; simp only [List.length_map, List.length_cons, List.length_nil]; omega)) ?_)
      refine sat_done ?_
      refine exBl_normal ?_
      refine exS_normal ?_
      refine ev_region tabT [] 1200 rfl ?_
      repeat (first | refine sat_same ?_ | refine sat_impA ?_ | refine sat_needA ?_)
      refine sat_done ?_
      exact exL_normal (x.next hk9 rfl) ⟨⟨Sub.refl _, by repeat (first | exact trivial | exact Sub.refl _ | refine ⟨?_, ?_⟩)⟩, ⟨⟨rfl, Sub.ownRows (by show RowsP _ ((bgS (x.k + 1)).map obD); rw [bgS_succ]; exact (RowsP.refl _).append ⟨bgRow0 hk9 hdv, trivial⟩), rfl, trivial⟩, ⟨rfl, rfl, by show _ = ((bgS (x.k + 1)).map obD).length; rw [bgS_succ, List.length_append, List.length_append]; rfl⟩, by repeat (first | exact trivial | exact SubO.same rfl | refine ⟨?_, ?_⟩)⟩, rfl, rfl⟩ (by show 49 - (x.k + 1) < 49 - x.k; omega)
  · replace c3 := of_decide_eq_false c3
    have hxk : x.k = 49 := by have := nmL_len; omega
    refine ev_exit ?_
    refine exS_exit ?_
    refine exL_exit ?_
    refine exBl_same ?_
    refine exS_normal ?_
    refine ev_seq (ev_region tabT [] 1300 rfl ?_)
    repeat (first | refine sat_same ?_ | refine sat_impA ?_ | refine sat_needA ?_)
    refine sat_done ?_
    refine exS_normal ?_
    refine ev_ret ?_
    exact FinV.ret rfl (SubP.agg ⟨SubP.ownSl (by rw [hxk]), trivial⟩)

def txV (s : ByteArray) : Vl := ⟨4, false, [], false, [], s, 0⟩
def rfV (r : Int) : Vl := ⟨6, false, [], false, [], ByteArray.empty, r⟩
noncomputable def shS (a b : List Ob) : Bool := decide (a.length = b.length) && (List.range a.length).all fun j => decide (a.getD j ob0 = b.getD j ob0)
theorem shS_self (a : List Ob) : shS a a = true := by simp [shS]

theorem heapText_ok (s : ByteArray) : Fn Tryz.prog 7 [.v (.string s)] (.agg (vlD (txV s))) := by
  refine fn_ev tabT Tryz.func7 rfl rfl rfl rfl rfl rfl ?_
  intro w0 s0 mx
  refine ev_seq (ev_region tabT [] 100 rfl ?_)
  repeat (first | refine sat_same ?_ | refine sat_impA ?_ | refine sat_needA ?_)
  refine sat_done ?_
  refine exS_normal ?_
  refine ev_seq (ev_region tabT [] 200 rfl ?_)
  repeat (first | refine sat_same ?_ | refine sat_impA ?_ | refine sat_needA ?_)
  refine sat_done ?_
  refine exS_normal ?_
  refine ev_ret ?_
  exact FinV.ret rfl (SubP.agg (by repeat (first | exact trivial | exact SubP.refl _ | exact SubP.nilSl rfl | refine ⟨?_, ?_⟩)))

theorem T_ok (s : ByteArray) : Fn Tryz.prog 8 [.v (.string s)] (.agg (vlD (txV s))) := by
  refine fn_ev tabT Tryz.func8 rfl rfl rfl rfl rfl rfl ?_
  intro w0 s0 mx
  refine ev_seq (ev_region tabT [] 100 rfl ?_)
  repeat (first | refine sat_same ?_ | refine sat_impA ?_ | refine sat_needA ?_)
  refine sat_done ?_
  refine exS_normal ?_
  refine ev_seq (ev_region tabT [] 200 rfl ?_)
  repeat (first | refine sat_same ?_ | refine sat_impA ?_ | refine sat_needA ?_)
  refine sat_done ?_
  refine exS_normal ?_
  refine ev_ret ?_
  exact FinV.ret rfl (SubP.agg (by repeat (first | exact trivial | exact SubP.refl _ | exact SubP.nilSl rfl | refine ⟨?_, ?_⟩)))

theorem heapRef_ok (r : Int) : Fn Tryz.prog 9 [.v (.int .i64 r)] (.agg (vlD (rfV r))) := by
  refine fn_ev tabT Tryz.func9 rfl rfl rfl rfl rfl rfl ?_
  intro w0 s0 mx
  refine ev_seq (ev_region tabT [] 100 rfl ?_)
  repeat (first | refine sat_same ?_ | refine sat_impA ?_ | refine sat_needA ?_)
  refine sat_done ?_
  refine exS_normal ?_
  refine ev_seq (ev_region tabT [] 200 rfl ?_)
  repeat (first | refine sat_same ?_ | refine sat_impA ?_ | refine sat_needA ?_)
  refine sat_done ?_
  refine exS_normal ?_
  refine ev_ret ?_
  exact FinV.ret rfl (SubP.agg (by repeat (first | exact trivial | exact SubP.refl _ | exact SubP.nilSl rfl | refine ⟨?_, ?_⟩)))

theorem O_ok (r : Int) : Fn Tryz.prog 10 [.v (.int .i64 r)] (.agg (vlD (rfV r))) := by
  refine fn_ev tabT Tryz.func10 rfl rfl rfl rfl rfl rfl ?_
  intro w0 s0 mx
  refine ev_seq (ev_region tabT [] 100 rfl ?_)
  repeat (first | refine sat_same ?_ | refine sat_impA ?_ | refine sat_needA ?_)
  refine sat_done ?_
  refine exS_normal ?_
  refine ev_seq (ev_region tabT [] 200 rfl ?_)
  repeat (first | refine sat_same ?_ | refine sat_impA ?_ | refine sat_needA ?_)
  refine sat_done ?_
  refine exS_normal ?_
  refine ev_ret ?_
  exact FinV.ret rfl (SubP.agg (by repeat (first | exact trivial | exact SubP.refl _ | exact SubP.nilSl rfl | refine ⟨?_, ?_⟩)))

theorem SameHeap_ok (a b : List Ob) (ha : a.length ≤ 2000000) (hb : b.length ≤ 2000000) : Fn Tryz.prog 15 [hpD md a, hpD me b] (.v (.bool (shS a b))) := by
  refine fn_ev tabT Tryz.func15 rfl rfl rfl rfl rfl rfl ?_
  intro w0 s0 mx
  refine ev_seq (ev_region tabT [] 100 rfl ?_)
  repeat (first | refine sat_same ?_ | refine sat_impA ?_ | refine sat_needA ?_)
  refine sat_done ?_
  refine exS_normal ?_
  refine ev_seq ?_
  refine ev_seq (ev_region tabT [] 200 rfl ?_)
  repeat (first | refine sat_same ?_ | refine sat_impA ?_ | refine sat_needA ?_)
  refine sat_done ?_
  refine exS_normal ?_
  refine ev_cond rfl (fun c1 => ?_) (fun c1 => ?_)
  · replace c1 : ¬ a.length = b.length := by have := c1; simp only [Bool.not_eq_true', decide_eq_false_iff_not] at this; omega
    refine ev_seq (ev_region tabT [] 300 rfl ?_)
    repeat (first | refine sat_same ?_ | refine sat_impA ?_ | refine sat_needA ?_)
    refine sat_done ?_
    refine exS_normal ?_
    refine ev_ret ?_
    refine exS_ret ?_
    exact FinV.ret rfl (SubP.bool (by rw [shS, decide_eq_false c1]; rfl))
  · replace c1 : a.length = b.length := by have := c1; simp only [Bool.not_eq_false', decide_eq_true_eq] at this; omega
    refine ev_skip ?_
    refine exS_normal ?_
    refine ev_seq ?_
    refine ev_seq (ev_region tabT [] 400 rfl ?_)
    repeat (first | refine sat_same ?_ | refine sat_impA ?_ | refine sat_needA ?_)
    refine sat_done ?_
    refine exS_normal ?_
    refine ev_block ?_
    refine ev_loopK (ι := Up a.length (fun j => decide (a.getD j ob0 = b.getD j ob0))) [2, 3, 15] [0, 1] 450 (fun x => [(16, .v (.int .i64 x.k))]) (fun _ => []) (fun x => a.length - x.k) ⟨0, Nat.zero_le _, fun j hj => by omega⟩ ?_
    refine ⟨⟨(by first | exact trivial | (repeat (first | exact trivial | exact Sub.refl _ | refine ⟨?_, ?_⟩ | exact Sub.int (by first | rfl | omega | (push_cast; omega)) | exact Sub.nilSl | exact Sub.own rfl | exact Sub.slrSl rfl | exact Sub.ownSl (List.map_append).symm | exact Sub.ownSl rfl))), (by repeat (first | exact trivial | exact SubO.same rfl | refine ⟨?_, ?_⟩)), rfl, rfl⟩, fun x => ?_⟩
    have hk := x.le
    refine ev_seq (ev_region tabT [] 500 rfl ?_)
    repeat (first | refine sat_same ?_ | refine sat_impA ?_ | refine sat_needA ?_)
    refine sat_done ?_
    refine exS_normal ?_
    refine ev_seq ?_
    refine ev_cond rfl (fun c4 => ?_) (fun c4 => ?_)
    · replace c4 := of_decide_eq_true c4
      replace c4 : x.k < a.length := by omega
      refine ev_skip ?_
      refine exS_normal ?_
      refine ev_seq ?_
      refine ev_block ?_
      refine ev_seq (ev_region tabT [] 600 rfl ?_)
      repeat (first | refine sat_same ?_ | refine sat_impA ?_ | refine sat_needA ?_)
      refine sat_done ?_
      refine exS_normal ?_
      refine ev_seq (ev_drawn tabT [] [[], [0], [], [0, 1, 2], [0, 1, 2, 3], [], [5], [], [5, 6, 7], [5, 6, 7, 8], [0, 1, 2, 3, 4, 5, 6, 7, 8, 9], [0, 1, 2, 3, 4, 5, 6, 7, 8, 9, 10]] 700 mixT (by kernel_rfl) rfl ?_)
      repeat (first | refine sat_same ?_ | refine sat_impA ?_ | refine sat_need (by exact ⟨by omega, by omega⟩) ?_)
      refine sat_fn _ (SameObject_ok _ _) rfl ?_
      repeat (first | refine sat_same ?_ | refine sat_impA ?_ | refine sat_need (by exact ⟨by omega, by omega⟩) ?_)
      refine sat_done ?_
      refine exS_normal ?_
      refine ev_cond rfl (fun c6 => ?_) (fun c6 => ?_)
      · replace c6 : decide (a.getD x.k ob0 = b.getD x.k ob0) = false := by have h1 := c6; rw [Bool.not_eq_true'] at h1; exact h1
        refine ev_seq (ev_region tabT [] 800 rfl ?_)
        repeat (first | refine sat_same ?_ | refine sat_impA ?_ | refine sat_needA ?_)
        refine sat_done ?_
        refine exS_normal ?_
        refine ev_ret ?_
        refine exBl_ret ?_
        refine exS_ret ?_
        refine exL_ret ?_
        refine exBl_ret ?_
        refine exS_ret ?_
        exact FinV.ret rfl (SubP.bool (by rw [shS, Up.no (p := fun j => decide (a.getD j ob0 = b.getD j ob0)) c4 c6, Bool.and_false]))
      · replace c6 : decide (a.getD x.k ob0 = b.getD x.k ob0) = true := by have h1 := c6; rw [Bool.not_eq_false'] at h1; exact h1
        refine ev_skip ?_
        refine exBl_normal ?_
        refine exS_normal ?_
        refine ev_region tabT [] 900 rfl ?_
        repeat (first | refine sat_same ?_ | refine sat_impA ?_ | refine sat_needA ?_)
        refine sat_done ?_
        exact exL_normal (x.next c4 c6) ⟨(by first | exact trivial | (repeat (first | exact trivial | exact Sub.refl _ | refine ⟨?_, ?_⟩ | exact Sub.int (by first | rfl | omega | (push_cast; omega)) | exact Sub.nilSl | exact Sub.own rfl | exact Sub.slrSl rfl | exact Sub.ownSl (List.map_append).symm | exact Sub.ownSl rfl))), (by repeat (first | exact trivial | exact SubO.same rfl | refine ⟨?_, ?_⟩)), rfl, rfl⟩ (by show a.length - (x.k + 1) < a.length - x.k; omega)
    · replace c4 := of_decide_eq_false c4
      replace c4 : ¬ x.k < a.length := by omega
      refine ev_exit ?_
      refine exS_exit ?_
      refine exL_exit ?_
      refine exBl_same ?_
      refine exS_normal ?_
      refine ev_seq (ev_region tabT [] 1000 rfl ?_)
      repeat (first | refine sat_same ?_ | refine sat_impA ?_ | refine sat_needA ?_)
      refine sat_done ?_
      refine exS_normal ?_
      refine ev_ret ?_
      exact FinV.ret rfl (SubP.bool (by rw [shS, decide_eq_true c1, x.yes c4]; rfl))

end Go.Proofs.YtfcjacajnnkkfaaGreatDoor

/- Walks by the evaluator: the class of a value. -/
namespace Go.Proofs.YtfcjacajnnkkfaaGreatDoor
open Go.RowKit
variable {md me : Bool}

def kcL : List Int := [2, 3, 4, 5, 6, 7, 0, 15, 27, 2]
def ocL : List Int := [0, 8, 9, 10, 11, 12, 13, 14, 16, 1, 0, 17, 18, 19, 20, 21, 22, 23, 24, 25, 26]
/-- The class of an object; of a value. -/
def ocS (o : Ob) : Int := if o.kind = 10 then o.cls else ocL.getD o.kind.toNat 0
def clA (h : List Ob) (v : Vl) : Int := if v.k = 6 then ocS (obAt h v.r) else kcL.getD v.k.toNat 0
theorem voks_k {v : Vl} (h : vokS v = true) : 0 ≤ v.k ∧ v.k < 9 := by
  unfold vokS at h
  repeat' split at h
  all_goals first | omega | cases h
/-- What ClassOf asks of a value. -/
structure Cf (h : List Ob) (v : Vl) : Prop where
  k : 0 ≤ v.k ∧ v.k < 9
  obj : v.k = 6 → isObj h v.r = true
  kind : v.k = 6 → 0 < (obAt h v.r).kind ∧ (obAt h v.r).kind < 21
  cls : v.k = 6 → (obAt h v.r).kind = 10 → inH h (obAt h v.r).cls
theorem Uh.kind {h : List Ob} (g : Uh h) {n : Int} (hn : isObj h n = true) : 0 < (obAt h n).kind ∧ (obAt h n).kind < 21 := by
  have hi := isObj_in hn
  by_cases h49 : n.toNat < 49
  · rw [show obAt h n = bgO n.toNat from g.lo_at h49]
    exact ⟨by show (0 : Int) < 9; decide, by show (9 : Int) < 21; decide⟩
  · have h1 := (g.hi_at (by omega) hi.2).kind
    have h2 : ¬ (obAt h n).kind = 0 := by
      intro h0
      simp only [isObj, Bool.and_eq_true] at hn
      have := hn.2
      rw [show (h.getD n.toNat ob0).kind = 0 from h0] at this
      exact absurd this (by decide)
    exact ⟨by have := h1.1; show 0 < (obAt h n).kind; have h3 : (obAt h ((n.toNat : Nat) : Int)).kind = (obAt h n).kind := rfl; omega, h1.2⟩
theorem cf_of {h : List Ob} {v : Vl} (g : Uh h) (hh : hasS h v = true) : Cf h v := by
  have hv : vokS v = true := by
    simp only [hasS, Bool.and_eq_true] at hh
    exact hh.1
  exact ⟨voks_k hv, has_obj hh, fun hk => g.kind (has_obj hh hk), fun hk => g.cls (isObj_in (has_obj hh hk))⟩
theorem oc_ge {k : Int} (h : 15 ≤ k) (h2 : k < 21) : ocL.getD k.toNat 0 = 21 + k - 15 := by
  obtain ⟨n, rfl⟩ : ∃ n : Nat, k = (n : Int) := ⟨k.toNat, by omega⟩
  have := List.all_eq_true.1 (show (List.range 21).all (fun n => decide (n < 15 ∨ ocL.getD n 0 = 21 + (n : Int) - 15)) = true by decide +kernel) n (List.mem_range.2 (by omega))
  have := (of_decide_eq_true this).resolve_left (by omega)
  exact this
theorem oc_lt {k : Int} (h : 1 ≤ k) (h2 : k < 8) : ocL.getD k.toNat 0 = 8 + k - 1 := by
  obtain ⟨n, rfl⟩ : ∃ n : Nat, k = (n : Int) := ⟨k.toNat, by omega⟩
  have := List.all_eq_true.1 (show (List.range 8).all (fun n => decide (n < 1 ∨ ocL.getD n 0 = 8 + (n : Int) - 1)) = true by decide +kernel) n (List.mem_range.2 (by omega))
  have := (of_decide_eq_true this).resolve_left (by omega)
  exact this
theorem ocS_in {h : List Ob} {o : Ob} (g : Uh h) (hk : 0 < o.kind ∧ o.kind < 21) (hc : o.kind = 10 → inH h o.cls) : inH h (ocS o) := by
  unfold ocS
  split
  · rename_i h1; exact hc h1
  · have h3 := List.all_eq_true.1 (show (List.range 21).all (fun n => decide (0 ≤ ocL.getD n 0 ∧ ocL.getD n 0 < 49)) = true by decide +kernel) o.kind.toNat (List.mem_range.2 (by omega))
    have h4 := of_decide_eq_true h3
    have := g.lo
    exact ⟨h4.1, by omega⟩
theorem clA_in {h : List Ob} {v : Vl} (g : Uh h) (c : Cf h v) : inH h (clA h v) := by
  unfold clA
  split
  · rename_i h1; exact ocS_in g (c.kind h1) (c.cls h1)
  · have h3 := List.all_eq_true.1 (show (List.range 9).all (fun n => decide (0 ≤ kcL.getD n 0 ∧ kcL.getD n 0 < 49)) = true by decide +kernel) v.k.toNat (List.mem_range.2 (by have := c.k; omega))
    have h4 := of_decide_eq_true h3
    have := g.lo
    exact ⟨h4.1, by omega⟩

theorem kindClasses_ok  : Fn Tryz.prog 37 [] (isD kcL) := by
  refine fn_ev tabT Tryz.func37 rfl rfl rfl rfl rfl rfl ?_
  intro w0 s0 mx
  refine ev_seq (ev_region tabT [] 100 rfl ?_)
  repeat (first | refine sat_same ?_ | refine sat_impA ?_ | refine sat_needA ?_)
  refine sat_done ?_
  refine exS_normal ?_
  refine ev_seq (ev_region tabT [] 200 rfl ?_)
  repeat (first | refine sat_same ?_ | refine sat_impA ?_ | refine sat_needA ?_)
  refine sat_done ?_
  refine exS_normal ?_
  refine ev_ret ?_
  exact FinV.ret rfl (SubP.slrSl rfl)

theorem objectClasses_ok  : Fn Tryz.prog 38 [] (isD ocL) := by
  refine fn_ev tabT Tryz.func38 rfl rfl rfl rfl rfl rfl ?_
  intro w0 s0 mx
  refine ev_seq (ev_region tabT [] 100 rfl ?_)
  repeat (first | refine sat_same ?_ | refine sat_impA ?_ | refine sat_needA ?_)
  refine sat_done ?_
  refine exS_normal ?_
  refine ev_seq (ev_region tabT [] 200 rfl ?_)
  repeat (first | refine sat_same ?_ | refine sat_impA ?_ | refine sat_needA ?_)
  refine sat_done ?_
  refine exS_normal ?_
  refine ev_ret ?_
  exact FinV.ret rfl (SubP.slrSl rfl)

theorem heapClassOf_ok (h : List Ob) (v : Vl) (c : Cf h v) : Fn Tryz.prog 19 [hpD md h, .agg (vlD v)] (.v (.int .i64 (clA h v))) := by
  refine fn_ev tabT Tryz.func19 rfl rfl rfl rfl rfl rfl ?_
  intro w0 s0 mx
  refine ev_seq (ev_region tabT [] 100 rfl ?_)
  repeat (first | refine sat_same ?_ | refine sat_impA ?_ | refine sat_needA ?_)
  refine sat_done ?_
  refine exS_normal ?_
  refine ev_seq ?_
  refine ev_seq (ev_region tabT [] 200 rfl ?_)
  repeat (first | refine sat_same ?_ | refine sat_impA ?_ | refine sat_needA ?_)
  refine sat_done ?_
  refine exS_normal ?_
  refine ev_cond rfl (fun c1 => ?_) (fun c1 => ?_)
  · replace c1 : ¬ v.k = 6 := by have h1 := c1; simp only [Bool.not_eq_true', decide_eq_false_iff_not] at h1; exact h1
    refine ev_seq (ev_drawn tabT [] [[], [], [1], [0, 1, 2], [0, 1, 2, 3], [0, 1, 2, 3, 4]] 300 mixT (by kernel_rfl) rfl ?_)
    repeat (first | refine sat_same ?_ | refine sat_impA ?_ | refine sat_need (by exact ⟨c.k.1, by show v.k.toNat < 10; have := c.k; omega⟩) ?_)
    refine sat_fn _ (kindClasses_ok) rfl ?_
    repeat (first | refine sat_same ?_ | refine sat_impA ?_ | refine sat_need (by exact ⟨c.k.1, by show v.k.toNat < 10; have := c.k; omega⟩) ?_)
    refine sat_done ?_
    refine exS_normal ?_
    refine ev_ret ?_
    refine exS_ret ?_
    exact FinV.ret rfl (SubP.int (by rw [clA, if_neg c1]))
  · replace c1 : v.k = 6 := by have h1 := c1; simp only [Bool.not_eq_false', decide_eq_true_eq] at h1; exact h1
    refine ev_skip ?_
    refine exS_normal ?_
    refine ev_seq (ev_region tabT [] 400 rfl ?_)
    repeat (first | refine sat_same ?_ | refine sat_impA ?_ | refine sat_need (by exact isObj_in (c.obj c1)) ?_)
    refine sat_done ?_
    refine exS_normal ?_
    refine ev_seq ?_
    refine ev_seq (ev_region tabT [] 500 rfl ?_)
    repeat (first | refine sat_same ?_ | refine sat_impA ?_ | refine sat_needA ?_)
    refine sat_done ?_
    refine exS_normal ?_
    refine ev_cond rfl (fun c4 => ?_) (fun c4 => ?_)
    · first | replace c4 := of_decide_eq_true c4 | replace c4 := of_decide_eq_false c4
      refine ev_seq (ev_region tabT [] 600 rfl ?_)
      repeat (first | refine sat_same ?_ | refine sat_impA ?_ | refine sat_needA ?_)
      refine sat_done ?_
      refine exS_normal ?_
      refine ev_ret ?_
      refine exS_ret ?_
      exact FinV.ret rfl (SubP.int (by rw [clA, if_pos c1, ocS, if_pos c4]))
    · first | replace c4 := of_decide_eq_true c4 | replace c4 := of_decide_eq_false c4
      refine ev_skip ?_
      refine exS_normal ?_
      refine ev_seq (ev_drawn tabT [] [[], [], [1], [0, 1, 2], [0, 1, 2, 3], [0, 1, 2, 3, 4]] 700 mixT (by kernel_rfl) rfl ?_)
      repeat (first | refine sat_same ?_ | refine sat_impA ?_ | refine sat_need (by exact ⟨Int.le_of_lt (c.kind c1).1, by show (obAt h v.r).kind.toNat < 21; have h1 : 0 < (obAt h v.r).kind ∧ (obAt h v.r).kind < 21 := c.kind c1; omega⟩) ?_)
      refine sat_fn _ (objectClasses_ok) rfl ?_
      repeat (first | refine sat_same ?_ | refine sat_impA ?_ | refine sat_need (by exact ⟨Int.le_of_lt (c.kind c1).1, by show (obAt h v.r).kind.toNat < 21; have h1 : 0 < (obAt h v.r).kind ∧ (obAt h v.r).kind < 21 := c.kind c1; omega⟩) ?_)
      refine sat_done ?_
      refine exS_normal ?_
      refine ev_ret ?_
      exact FinV.ret rfl (SubP.int (by rw [clA, if_pos c1, ocS, if_neg c4]))

theorem classOfObject_ok (o : Ob) (hk : 0 < o.kind ∧ o.kind < 21) : Fn Tryz.prog 39 [.agg (obD o)] (.v (.int .i64 (ocS o))) := by
  refine fn_ev tabT Tryz.func39 rfl rfl rfl rfl rfl rfl ?_
  intro w0 s0 mx
  refine ev_seq (ev_region tabT [] 100 rfl ?_)
  repeat (first | refine sat_same ?_ | refine sat_impA ?_ | refine sat_need (by first | exact ini (by omega) (by omega) | omega) ?_)
  refine sat_done ?_
  refine exS_normal ?_
  refine ev_seq ?_
  refine ev_seq (ev_region tabT [] 200 rfl ?_)
  repeat (first | refine sat_same ?_ | refine sat_impA ?_ | refine sat_need (by first | exact ini (by omega) (by omega) | omega) ?_)
  refine sat_done ?_
  refine exS_normal ?_
  refine ev_block ?_
  refine ev_seq (ev_region tabT [] 300 rfl ?_)
  repeat (first | refine sat_same ?_ | refine sat_impA ?_ | refine sat_need (by first | exact ini (by omega) (by omega) | omega) ?_)
  refine sat_done ?_
  refine exS_normal ?_
  refine ev_cond rfl (fun c2 => ?_) (fun c2 => ?_)
  · first | replace c2 := of_decide_eq_true c2 | replace c2 := of_decide_eq_false c2
    refine ev_seq (ev_region tabT [] 400 rfl ?_)
    repeat (first | refine sat_same ?_ | refine sat_impA ?_ | refine sat_need (by first | exact ini (by omega) (by omega) | omega) ?_)
    refine sat_done ?_
    refine exS_normal ?_
    refine ev_ret ?_
    refine exBl_ret ?_
    refine exS_ret ?_
    exact FinV.ret rfl (SubP.int (by rw [ocS, if_pos c2]))
  · first | replace c2 := of_decide_eq_true c2 | replace c2 := of_decide_eq_false c2
    refine ev_seq (ev_region tabT [] 500 rfl ?_)
    repeat (first | refine sat_same ?_ | refine sat_impA ?_ | refine sat_need (by first | exact ini (by omega) (by omega) | omega) ?_)
    refine sat_done ?_
    refine exS_normal ?_
    refine ev_cond rfl (fun c4 => ?_) (fun c4 => ?_)
    · first | replace c4 := of_decide_eq_true c4 | replace c4 := of_decide_eq_false c4
      refine ev_seq (ev_region tabT [] 600 rfl ?_)
      repeat (first | refine sat_same ?_ | refine sat_impA ?_ | refine sat_need (by first | exact ini (by omega) (by omega) | omega) ?_)
      refine sat_done ?_
      refine exS_normal ?_
      refine ev_ret ?_
      refine exBl_ret ?_
      refine exS_ret ?_
      exact FinV.ret rfl (SubP.int (by rw [ocS, if_neg c2, c4]; rfl))
    · first | replace c4 := of_decide_eq_true c4 | replace c4 := of_decide_eq_false c4
      refine ev_seq (ev_region tabT [] 700 rfl ?_)
      repeat (first | refine sat_same ?_ | refine sat_impA ?_ | refine sat_need (by first | exact ini (by omega) (by omega) | omega) ?_)
      refine sat_done ?_
      refine exS_normal ?_
      refine ev_cond rfl (fun c6 => ?_) (fun c6 => ?_)
      · first | replace c6 := of_decide_eq_true c6 | replace c6 := of_decide_eq_false c6
        refine ev_seq (ev_region tabT [] 800 rfl ?_)
        repeat (first | refine sat_same ?_ | refine sat_impA ?_ | refine sat_need (by first | exact ini (by omega) (by omega) | omega) ?_)
        refine sat_done ?_
        refine exS_normal ?_
        refine ev_ret ?_
        refine exBl_ret ?_
        refine exS_ret ?_
        exact FinV.ret rfl (SubP.int (by rw [ocS, if_neg c2, c6]; rfl))
      · first | replace c6 := of_decide_eq_true c6 | replace c6 := of_decide_eq_false c6
        refine ev_seq (ev_region tabT [] 900 rfl ?_)
        repeat (first | refine sat_same ?_ | refine sat_impA ?_ | refine sat_need (by first | exact ini (by omega) (by omega) | omega) ?_)
        refine sat_done ?_
        refine exS_normal ?_
        refine ev_cond rfl (fun c8 => ?_) (fun c8 => ?_)
        · first | replace c8 := of_decide_eq_true c8 | replace c8 := of_decide_eq_false c8
          refine ev_seq (ev_region tabT [] 1000 rfl ?_)
          repeat (first | refine sat_same ?_ | refine sat_impA ?_ | refine sat_need (by first | exact ini (by omega) (by omega) | omega) ?_)
          refine sat_done ?_
          refine exS_normal ?_
          refine ev_ret ?_
          refine exBl_ret ?_
          refine exS_ret ?_
          exact FinV.ret rfl (SubP.int (by rw [ocS, if_neg c2, c8]; rfl))
        · first | replace c8 := of_decide_eq_true c8 | replace c8 := of_decide_eq_false c8
          refine ev_seq (ev_region tabT [] 1100 rfl ?_)
          repeat (first | refine sat_same ?_ | refine sat_impA ?_ | refine sat_need (by first | exact ini (by omega) (by omega) | omega) ?_)
          refine sat_done ?_
          refine exS_normal ?_
          refine ev_cond rfl (fun c10 => ?_) (fun c10 => ?_)
          · first | replace c10 := of_decide_eq_true c10 | replace c10 := of_decide_eq_false c10
            refine ev_seq (ev_region tabT [] 1200 rfl ?_)
            repeat (first | refine sat_same ?_ | refine sat_impA ?_ | refine sat_need (by first | exact ini (by omega) (by omega) | omega) ?_)
            refine sat_done ?_
            refine exS_normal ?_
            refine ev_ret ?_
            refine exBl_ret ?_
            refine exS_ret ?_
            exact FinV.ret rfl (SubP.int (by rw [ocS, if_neg c2, c10]; rfl))
          · first | replace c10 := of_decide_eq_true c10 | replace c10 := of_decide_eq_false c10
            refine ev_seq (ev_region tabT [] 1300 rfl ?_)
            repeat (first | refine sat_same ?_ | refine sat_impA ?_ | refine sat_need (by first | exact ini (by omega) (by omega) | omega) ?_)
            refine sat_done ?_
            refine exS_normal ?_
            refine ev_cond rfl (fun c12 => ?_) (fun c12 => ?_)
            · first | replace c12 := of_decide_eq_true c12 | replace c12 := of_decide_eq_false c12
              refine ev_seq (ev_region tabT [] 1400 rfl ?_)
              repeat (first | refine sat_same ?_ | refine sat_impA ?_ | refine sat_need (by first | exact ini (by omega) (by omega) | omega) ?_)
              refine sat_done ?_
              refine exS_normal ?_
              refine ev_ret ?_
              refine exBl_ret ?_
              refine exS_ret ?_
              exact FinV.ret rfl (SubP.int (by rw [ocS, if_neg c2, c12]; rfl))
            · first | replace c12 := of_decide_eq_true c12 | replace c12 := of_decide_eq_false c12
              refine ev_seq (ev_region tabT [] 1500 rfl ?_)
              repeat (first | refine sat_same ?_ | refine sat_impA ?_ | refine sat_need (by first | exact ini (by omega) (by omega) | omega) ?_)
              refine sat_done ?_
              refine exS_normal ?_
              refine ev_cond rfl (fun c14 => ?_) (fun c14 => ?_)
              · first | replace c14 := of_decide_eq_true c14 | replace c14 := of_decide_eq_false c14
                refine ev_seq (ev_region tabT [] 1600 rfl ?_)
                repeat (first | refine sat_same ?_ | refine sat_impA ?_ | refine sat_need (by first | exact ini (by omega) (by omega) | omega) ?_)
                refine sat_done ?_
                refine exS_normal ?_
                refine ev_ret ?_
                refine exBl_ret ?_
                refine exS_ret ?_
                exact FinV.ret rfl (SubP.int (by rw [ocS, if_neg c2, c14]; rfl))
              · first | replace c14 := of_decide_eq_true c14 | replace c14 := of_decide_eq_false c14
                refine ev_skip ?_
                refine exBl_normal ?_
                refine exS_normal ?_
                refine ev_seq ?_
                refine ev_seq (ev_region tabT [] 1700 rfl ?_)
                repeat (first | refine sat_same ?_ | refine sat_impA ?_ | refine sat_need (by first | exact ini (by omega) (by omega) | omega) ?_)
                refine sat_done ?_
                refine exS_normal ?_
                refine ev_cond rfl (fun c16 => ?_) (fun c16 => ?_)
                · first | replace c16 := of_decide_eq_true c16 | replace c16 := of_decide_eq_false c16
                  refine ev_seq (ev_region tabT [] 1800 rfl ?_)
                  repeat (first | refine sat_same ?_ | refine sat_impA ?_ | refine sat_need (by first | exact ini (by omega) (by omega) | omega) ?_)
                  refine sat_done ?_
                  refine exS_normal ?_
                  refine ev_ret ?_
                  refine exS_ret ?_
                  exact FinV.ret rfl (SubP.int (by rw [ocS, if_neg c2, oc_ge (by omega) hk.2]))
                · first | replace c16 := of_decide_eq_true c16 | replace c16 := of_decide_eq_false c16
                  refine ev_skip ?_
                  refine exS_normal ?_
                  refine ev_seq (ev_region tabT [] 1900 rfl ?_)
                  repeat (first | refine sat_same ?_ | refine sat_impA ?_ | refine sat_need (by first | exact ini (by omega) (by omega) | omega) ?_)
                  refine sat_done ?_
                  refine exS_normal ?_
                  refine ev_ret ?_
                  exact FinV.ret rfl (SubP.int (by rw [ocS, if_neg c2, oc_lt (by omega) (by omega)]))

theorem ClassOf_ok (h : List Ob) (v : Vl) (c : Cf h v) : Fn Tryz.prog 20 [hpD md h, .agg (vlD v)] (.v (.int .i64 (clA h v))) := by
  refine fn_ev tabT Tryz.func20 rfl rfl rfl rfl rfl rfl ?_
  intro w0 s0 mx
  refine ev_seq (ev_region tabT [] 100 rfl ?_)
  repeat (first | refine sat_same ?_ | refine sat_impA ?_ | refine sat_needA ?_)
  refine sat_done ?_
  refine exS_normal ?_
  refine ev_seq ?_
  refine ev_seq (ev_region tabT [] 200 rfl ?_)
  repeat (first | refine sat_same ?_ | refine sat_impA ?_ | refine sat_needA ?_)
  refine sat_done ?_
  refine exS_normal ?_
  refine ev_block ?_
  refine ev_seq (ev_region tabT [] 300 rfl ?_)
  repeat (first | refine sat_same ?_ | refine sat_impA ?_ | refine sat_needA ?_)
  refine sat_done ?_
  refine exS_normal ?_
  refine ev_cond rfl (fun c2 => ?_) (fun c2 => ?_)
  · first | replace c2 := of_decide_eq_true c2 | replace c2 := of_decide_eq_false c2
    refine ev_seq (ev_region tabT [] 400 rfl ?_)
    repeat (first | refine sat_same ?_ | refine sat_impA ?_ | refine sat_needA ?_)
    refine sat_done ?_
    refine exS_normal ?_
    refine ev_ret ?_
    refine exBl_ret ?_
    refine exS_ret ?_
    exact FinV.ret rfl (SubP.int (by rw [clA, if_neg (by omega), c2]; rfl))
  · first | replace c2 := of_decide_eq_true c2 | replace c2 := of_decide_eq_false c2
    refine ev_seq (ev_region tabT [] 500 rfl ?_)
    repeat (first | refine sat_same ?_ | refine sat_impA ?_ | refine sat_needA ?_)
    refine sat_done ?_
    refine exS_normal ?_
    refine ev_cond rfl (fun c4 => ?_) (fun c4 => ?_)
    · first | replace c4 := of_decide_eq_true c4 | replace c4 := of_decide_eq_false c4
      refine ev_seq (ev_region tabT [] 600 rfl ?_)
      repeat (first | refine sat_same ?_ | refine sat_impA ?_ | refine sat_needA ?_)
      refine sat_done ?_
      refine exS_normal ?_
      refine ev_ret ?_
      refine exBl_ret ?_
      refine exS_ret ?_
      exact FinV.ret rfl (SubP.int (by rw [clA, if_neg (by omega), c4]; rfl))
    · first | replace c4 := of_decide_eq_true c4 | replace c4 := of_decide_eq_false c4
      refine ev_seq (ev_region tabT [] 700 rfl ?_)
      repeat (first | refine sat_same ?_ | refine sat_impA ?_ | refine sat_needA ?_)
      refine sat_done ?_
      refine exS_normal ?_
      refine ev_cond rfl (fun c6 => ?_) (fun c6 => ?_)
      · first | replace c6 := of_decide_eq_true c6 | replace c6 := of_decide_eq_false c6
        refine ev_seq (ev_region tabT [] 800 rfl ?_)
        repeat (first | refine sat_same ?_ | refine sat_impA ?_ | refine sat_needA ?_)
        refine sat_done ?_
        refine exS_normal ?_
        refine ev_ret ?_
        refine exBl_ret ?_
        refine exS_ret ?_
        exact FinV.ret rfl (SubP.int (by rw [clA, if_neg (by omega), c6]; rfl))
      · first | replace c6 := of_decide_eq_true c6 | replace c6 := of_decide_eq_false c6
        refine ev_seq (ev_region tabT [] 900 rfl ?_)
        repeat (first | refine sat_same ?_ | refine sat_impA ?_ | refine sat_needA ?_)
        refine sat_done ?_
        refine exS_normal ?_
        refine ev_cond rfl (fun c8 => ?_) (fun c8 => ?_)
        · first | replace c8 := of_decide_eq_true c8 | replace c8 := of_decide_eq_false c8
          refine ev_seq (ev_region tabT [] 1000 rfl ?_)
          repeat (first | refine sat_same ?_ | refine sat_impA ?_ | refine sat_needA ?_)
          refine sat_done ?_
          refine exS_normal ?_
          refine ev_ret ?_
          refine exBl_ret ?_
          refine exS_ret ?_
          exact FinV.ret rfl (SubP.int (by rw [clA, if_neg (by omega), c8]; rfl))
        · first | replace c8 := of_decide_eq_true c8 | replace c8 := of_decide_eq_false c8
          refine ev_seq (ev_region tabT [] 1100 rfl ?_)
          repeat (first | refine sat_same ?_ | refine sat_impA ?_ | refine sat_needA ?_)
          refine sat_done ?_
          refine exS_normal ?_
          refine ev_cond rfl (fun c10 => ?_) (fun c10 => ?_)
          · first | replace c10 := of_decide_eq_true c10 | replace c10 := of_decide_eq_false c10
            refine ev_seq (ev_region tabT [] 1200 rfl ?_)
            repeat (first | refine sat_same ?_ | refine sat_impA ?_ | refine sat_needA ?_)
            refine sat_done ?_
            refine exS_normal ?_
            refine ev_ret ?_
            refine exBl_ret ?_
            refine exS_ret ?_
            exact FinV.ret rfl (SubP.int (by rw [clA, if_neg (by omega), c10]; rfl))
          · first | replace c10 := of_decide_eq_true c10 | replace c10 := of_decide_eq_false c10
            refine ev_seq (ev_region tabT [] 1300 rfl ?_)
            repeat (first | refine sat_same ?_ | refine sat_impA ?_ | refine sat_needA ?_)
            refine sat_done ?_
            refine exS_normal ?_
            refine ev_cond rfl (fun c12 => ?_) (fun c12 => ?_)
            · first | replace c12 := of_decide_eq_true c12 | replace c12 := of_decide_eq_false c12
              refine ev_seq (ev_region tabT [] 1400 rfl ?_)
              repeat (first | refine sat_same ?_ | refine sat_impA ?_ | refine sat_needA ?_)
              refine sat_done ?_
              refine exS_normal ?_
              refine ev_ret ?_
              refine exBl_ret ?_
              refine exS_ret ?_
              exact FinV.ret rfl (SubP.int (by rw [clA, if_neg (by omega), c12]; rfl))
            · first | replace c12 := of_decide_eq_true c12 | replace c12 := of_decide_eq_false c12
              refine ev_seq (ev_region tabT [] 1500 rfl ?_)
              repeat (first | refine sat_same ?_ | refine sat_impA ?_ | refine sat_needA ?_)
              refine sat_done ?_
              refine exS_normal ?_
              refine ev_cond rfl (fun c14 => ?_) (fun c14 => ?_)
              · first | replace c14 := of_decide_eq_true c14 | replace c14 := of_decide_eq_false c14
                refine ev_seq (ev_region tabT [] 1600 rfl ?_)
                repeat (first | refine sat_same ?_ | refine sat_impA ?_ | refine sat_needA ?_)
                refine sat_done ?_
                refine exS_normal ?_
                refine ev_ret ?_
                refine exBl_ret ?_
                refine exS_ret ?_
                exact FinV.ret rfl (SubP.int (by rw [clA, if_neg (by omega), c14]; rfl))
              · first | replace c14 := of_decide_eq_true c14 | replace c14 := of_decide_eq_false c14
                refine ev_seq (ev_region tabT [] 1700 rfl ?_)
                repeat (first | refine sat_same ?_ | refine sat_impA ?_ | refine sat_needA ?_)
                refine sat_done ?_
                refine exS_normal ?_
                refine ev_cond rfl (fun c16 => ?_) (fun c16 => ?_)
                · first | replace c16 := of_decide_eq_true c16 | replace c16 := of_decide_eq_false c16
                  refine ev_seq (ev_region tabT [] 1800 rfl ?_)
                  repeat (first | refine sat_same ?_ | refine sat_impA ?_ | refine sat_need (by exact isObj_in (c.obj c16)) ?_)
                  refine sat_fn _ (classOfObject_ok _ (c.kind c16)) rfl ?_
                  repeat (first | refine sat_same ?_ | refine sat_impA ?_ | refine sat_need (by exact isObj_in (c.obj c16)) ?_)
                  refine sat_done ?_
                  refine exS_normal ?_
                  refine ev_ret ?_
                  refine exBl_ret ?_
                  refine exS_ret ?_
                  exact FinV.ret rfl (SubP.int (by rw [clA, if_pos c16]))
                · first | replace c16 := of_decide_eq_true c16 | replace c16 := of_decide_eq_false c16
                  refine ev_skip ?_
                  refine exBl_normal ?_
                  refine exS_normal ?_
                  refine ev_seq (ev_region tabT [] 1900 rfl ?_)
                  repeat (first | refine sat_same ?_ | refine sat_impA ?_ | refine sat_needA ?_)
                  refine sat_done ?_
                  refine exS_normal ?_
                  refine ev_ret ?_
                  exact FinV.ret rfl (SubP.int (by rw [clA, if_neg c16, show v.k = 0 by have := c.k; omega]; rfl))

theorem heapName_ok (h : List Ob) (v : Vl) (g : Uh h) (c : Cf h v) : Fn Tryz.prog 21 [hpD md h, .agg (vlD v)] (.v (.string (obAt h (clA h v)).name)) := by
  refine fn_ev tabT Tryz.func21 rfl rfl rfl rfl rfl rfl ?_
  intro w0 s0 mx
  refine ev_seq (ev_region tabT [] 100 rfl ?_)
  repeat (first | refine sat_same ?_ | refine sat_impA ?_ | refine sat_needA ?_)
  refine sat_done ?_
  refine exS_normal ?_
  refine ev_seq (ev_drawn tabT [] [[], [0], [], [], [2, 3], [0, 1, 2, 3, 4], [0, 1, 2, 3, 4, 5], [0, 1, 2, 3, 4, 5, 6], [0, 1, 2, 3, 4, 5, 6, 7]] 200 mixT (by kernel_rfl) rfl ?_)
  repeat (first | refine sat_same ?_ | refine sat_impA ?_ | refine sat_need (by exact clA_in g c) ?_)
  refine sat_fn _ (heapClassOf_ok h v c) rfl ?_
  repeat (first | refine sat_same ?_ | refine sat_impA ?_ | refine sat_need (by exact clA_in g c) ?_)
  refine sat_done ?_
  refine exS_normal ?_
  refine ev_ret ?_
  exact FinV.ret rfl (SubP.refl _)

theorem ClassName_ok (h : List Ob) (v : Vl) (g : Uh h) (c : Cf h v) : Fn Tryz.prog 22 [hpD md h, .agg (vlD v)] (.v (.string (obAt h (clA h v)).name)) := by
  refine fn_ev tabT Tryz.func22 rfl rfl rfl rfl rfl rfl ?_
  intro w0 s0 mx
  refine ev_seq (ev_region tabT [] 100 rfl ?_)
  repeat (first | refine sat_same ?_ | refine sat_impA ?_ | refine sat_needA ?_)
  refine sat_done ?_
  refine exS_normal ?_
  refine ev_seq (ev_drawn tabT [] [[], [0], [], [], [2, 3], [0, 1, 2, 3, 4], [0, 1, 2, 3, 4, 5], [0, 1, 2, 3, 4, 5, 6], [0, 1, 2, 3, 4, 5, 6, 7]] 200 mixT (by kernel_rfl) rfl ?_)
  repeat (first | refine sat_same ?_ | refine sat_impA ?_ | refine sat_need (by exact clA_in g c) ?_)
  refine sat_fn _ (ClassOf_ok h v c) rfl ?_
  repeat (first | refine sat_same ?_ | refine sat_impA ?_ | refine sat_need (by exact clA_in g c) ?_)
  refine sat_done ?_
  refine exS_normal ?_
  refine ev_ret ?_
  exact FinV.ret rfl (SubP.refl _)

end Go.Proofs.YtfcjacajnnkkfaaGreatDoor

/- Walks by the evaluator: heap.IsName. -/
namespace Go.Proofs.YtfcjacajnnkkfaaGreatDoor
open Go.RowKit
variable {md me : Bool}

/-- What isName tells of a byte. -/
def icP (b : UInt8) : Bool := !((((decide ((b.toNat : Int) < 97) || decide (122 < (b.toNat : Int))) && (decide ((b.toNat : Int) < 65) || decide (90 < (b.toNat : Int)))) && (decide ((b.toNat : Int) < 48) || decide (57 < (b.toNat : Int)))) && !decide ((b.toNat : Int) = 95))
def isnF (s : ByteArray) : Bool := (decide (s = ⟨#[]⟩) || decide (24 < (s.size : Int))) || (decide (48 ≤ (bAt s 0 : Int)) && decide ((bAt s 0 : Int) ≤ 57))
def isnS (s : ByteArray) : Bool := !isnF s && s.data.toList.all icP
theorem sz_pos {s : ByteArray} (h : ¬ s = ⟨#[]⟩) : 0 < s.size := by
  rcases Nat.eq_zero_or_pos s.size with h0 | h0
  · obtain ⟨d⟩ := s
    have : d = #[] := Array.eq_empty_of_size_eq_zero h0
    subst this; exact absurd rfl h
  · exact h0
theorem dl_len (s : ByteArray) : s.data.toList.length = s.size := by first | (simp; done) | (simp; rfl)

theorem isName_ok (s : ByteArray) (hs : s.size ≤ 2000000) : Fn Tryz.prog 29 [.v (.string s)] (.v (.bool (isnS s))) := by
  refine fn_ev tabT Tryz.func29 rfl rfl rfl rfl rfl rfl ?_
  intro w0 s0 mx
  refine ev_seq (ev_region tabT [] 100 rfl ?_)
  repeat (first | refine sat_same ?_ | refine sat_impA ?_ | refine sat_needA ?_)
  refine sat_done ?_
  refine exS_normal ?_
  refine ev_seq ?_
  refine ev_seq (ev_region tabT [] 200 rfl ?_)
  repeat (first | refine sat_same ?_ | refine sat_impA ?_ | refine sat_need (by first | (intro hh; simp only [Bool.not_eq_true', Bool.or_eq_false_iff, decide_eq_false_iff_not] at hh; have h0 := sz_pos hh.1; omega) | (intro hh; simp only [Bool.not_eq_true', Bool.and_eq_true, Bool.or_eq_false_iff, decide_eq_false_iff_not] at hh; have h0 := sz_pos hh.1.1; omega)) ?_)
  refine sat_done ?_
  refine exS_normal ?_
  refine ev_cond rfl (fun c1 => ?_) (fun c1 => ?_)
  · replace c1 : isnF s = true := c1
    refine ev_seq (ev_region tabT [] 300 rfl ?_)
    repeat (first | refine sat_same ?_ | refine sat_impA ?_ | refine sat_needA ?_)
    refine sat_done ?_
    refine exS_normal ?_
    refine ev_ret ?_
    refine exS_ret ?_
    exact FinV.ret rfl (SubP.bool (by rw [isnS, c1]; rfl))
  · replace c1 : isnF s = false := c1
    refine ev_skip ?_
    refine exS_normal ?_
    refine ev_seq ?_
    refine ev_seq (ev_region tabT [] 400 rfl ?_)
    repeat (first | refine sat_same ?_ | refine sat_impA ?_ | refine sat_need (by (show s.size ≤ 1073741824; omega)) ?_)
    refine sat_done ?_
    refine exS_normal ?_
    refine ev_block ?_
    refine ev_loopK (ι := Al s.data.toList icP) [23, 24] [] 450 (fun x => [(25, .v (.int .i64 x.k))]) (fun _ => []) (fun x => s.data.toList.length - x.k) ⟨0, Nat.zero_le _, fun j x hj => by omega⟩ ?_
    refine ⟨⟨(by first | exact trivial | (repeat (first | exact trivial | exact Sub.refl _ | refine ⟨?_, ?_⟩ | exact Sub.int (by first | rfl | omega | (push_cast; omega)) | exact Sub.nilSl | exact Sub.own rfl | exact Sub.slrSl rfl | exact Sub.ownSl (List.map_append).symm | exact Sub.ownSl rfl))), (by repeat (first | exact trivial | exact SubO.same rfl | refine ⟨?_, ?_⟩)), rfl, rfl⟩, fun x => ?_⟩
    have hk := x.le
    have hdl := dl_len s
    refine ev_seq (ev_region tabT [] 500 rfl ?_)
    repeat (first | refine sat_same ?_ | refine sat_impA ?_ | refine sat_needA ?_)
    refine sat_done ?_
    refine exS_normal ?_
    refine ev_seq ?_
    refine ev_cond rfl (fun c4 => ?_) (fun c4 => ?_)
    · try simp only [decide_eq_true_eq, decide_eq_false_iff_not, Bool.not_eq_true', Bool.not_eq_false', Bool.and_eq_true, Bool.or_eq_true, Bool.or_eq_false_iff, gt_iff_lt, Int.not_lt, Bool.not_true, Bool.not_false, Int.ofNat_lt, Int.ofNat_le] at c4
      refine ev_skip ?_
      refine exS_normal ?_
      refine ev_seq ?_
      refine ev_block ?_
      refine ev_seq (ev_region tabT [] 600 rfl ?_)
      repeat (first | refine sat_same ?_ | refine sat_impA ?_ | refine sat_needA ?_)
      refine sat_done ?_
      refine exS_normal ?_
      refine ev_seq (ev_region tabT [] 700 rfl ?_)
      repeat (first | refine sat_same ?_ | refine sat_impA ?_ | refine sat_needA ?_)
      refine sat_done ?_
      refine exS_normal ?_
      refine ev_cond rfl (fun c6 => ?_) (fun c6 => ?_)
      · replace c6 : icP (s.data.toList.getD (x.k : Int).toNat 0) = false := congrArg Bool.not c6
        refine ev_seq (ev_region tabT [] 800 rfl ?_)
        repeat (first | refine sat_same ?_ | refine sat_impA ?_ | refine sat_needA ?_)
        refine sat_done ?_
        refine exS_normal ?_
        refine ev_ret ?_
        refine exBl_ret ?_
        refine exS_ret ?_
        refine exL_ret ?_
        refine exBl_ret ?_
        refine exS_ret ?_
        exact FinV.ret rfl (SubP.bool (by rw [isnS, Al.no (p := icP) (e := (0 : UInt8)) c4 c6, Bool.and_false]))
      · replace c6 : icP (s.data.toList.getD (x.k : Int).toNat 0) = true := congrArg Bool.not c6
        refine ev_skip ?_
        refine exBl_normal ?_
        refine exS_normal ?_
        refine ev_region tabT [] 900 rfl ?_
        repeat (first | refine sat_same ?_ | refine sat_impA ?_ | refine sat_needA ?_)
        refine sat_done ?_
        exact exL_normal (x.next (e := (0 : UInt8)) c4 c6) ⟨(by first | exact trivial | (repeat (first | exact trivial | exact Sub.refl _ | refine ⟨?_, ?_⟩ | exact Sub.int (by first | rfl | omega | (push_cast; omega)) | exact Sub.nilSl | exact Sub.own rfl | exact Sub.slrSl rfl | exact Sub.ownSl (List.map_append).symm | exact Sub.ownSl rfl))), (by repeat (first | exact trivial | exact SubO.same rfl | refine ⟨?_, ?_⟩)), rfl, rfl⟩ (by show s.data.toList.length - (x.k + 1) < s.data.toList.length - x.k; omega)
    · try simp only [decide_eq_true_eq, decide_eq_false_iff_not, Bool.not_eq_true', Bool.not_eq_false', Bool.and_eq_true, Bool.or_eq_true, Bool.or_eq_false_iff, gt_iff_lt, Int.not_lt, Bool.not_true, Bool.not_false, Int.ofNat_lt, Int.ofNat_le] at c4
      refine ev_exit ?_
      refine exS_exit ?_
      refine exL_exit ?_
      refine exBl_same ?_
      refine exS_normal ?_
      refine ev_seq (ev_region tabT [] 1000 rfl ?_)
      repeat (first | refine sat_same ?_ | refine sat_impA ?_ | refine sat_needA ?_)
      refine sat_done ?_
      refine exS_normal ?_
      refine ev_ret ?_
      exact FinV.ret rfl (SubP.bool (by rw [isnS, c1, x.yes c4]; rfl))

end Go.Proofs.YtfcjacajnnkkfaaGreatDoor

/- Walks by the evaluator: heap.IsName is NameOk. -/
namespace Go.Proofs.YtfcjacajnnkkfaaGreatDoor
open Go.RowKit
variable {md me : Bool}

theorem bAt_list {s : ByteArray} {i : Nat} (h : i < s.data.toList.length) : bAt s i = s.data.toList[i].toNat := by
  have h1 : i < s.size := by rw [← dl_len]; exact h
  unfold bAt
  rw [getElem?_pos s i h1]
  rfl
theorem all_bytes (s : ByteArray) : s.data.toList.all icP = true ↔ ∀ i, i < s.size → icP (UInt8.ofNat (bAt s i)) = true := by
  rw [List.all_eq_true]
  constructor
  · intro h i hi
    have hi' : i < s.data.toList.length := by rw [dl_len]; exact hi
    rw [bAt_list hi', UInt8.ofNat_toNat]
    exact h _ (List.getElem_mem hi')
  · intro h b hb
    obtain ⟨i, hi, rfl⟩ := List.mem_iff_getElem.1 hb
    have := h i (by rw [← dl_len]; exact hi)
    rwa [bAt_list hi, UInt8.ofNat_toNat] at this
theorem bAt_lt (s : ByteArray) (i : Nat) : bAt s i < 256 := by
  unfold bAt
  split
  · exact UInt8.toNat_lt _
  · decide
theorem icP_iff {n : Nat} (h : n < 256) : icP (UInt8.ofNat n) = true ↔ ((97 ≤ n ∧ n ≤ 122) ∨ (65 ≤ n ∧ n ≤ 90) ∨ (48 ≤ n ∧ n ≤ 57) ∨ n = 95) := by
  have e : (UInt8.ofNat n).toNat = n := by rw [UInt8.toNat_ofNat']; exact Nat.mod_eq_of_lt h
  unfold icP
  rw [e]
  simp only [Bool.not_eq_true', Bool.and_eq_false_iff, Bool.or_eq_false_iff, decide_eq_false_iff_not, Bool.not_eq_false', decide_eq_true_eq]
  omega
theorem nmP_iff (s : ByteArray) (i : Nat) : nmP s i = true ↔ ((bAt s i = 95 ∨ (97 ≤ bAt s i ∧ bAt s i ≤ 122) ∨ (65 ≤ bAt s i ∧ bAt s i ≤ 90)) ∨ (i ≠ 0 ∧ 48 ≤ bAt s i ∧ bAt s i ≤ 57)) := by
  unfold nmP lttI
  simp only [Bool.not_eq_true', Bool.and_eq_false_iff, Bool.or_eq_false_iff, decide_eq_false_iff_not, Bool.not_eq_false', decide_eq_true_eq, Bool.or_eq_true, Bool.and_eq_true]
  omega
theorem isn_eq (s : ByteArray) : isnS s = nameOkS s := by
  have hz : s = ⟨#[]⟩ ↔ s.size < 1 := ⟨fun h => by rw [h]; decide, fun h => Classical.byContradiction fun hn => by have := sz_pos hn; omega⟩
  rw [Bool.eq_iff_iff]
  unfold isnS isnF nameOkS
  rw [Bool.and_eq_true, all_bytes]
  simp only [Bool.and_eq_true, Bool.not_eq_true', Bool.or_eq_false_iff, Bool.and_eq_false_iff, decide_eq_false_iff_not, List.all_eq_true, List.mem_range, hz]
  constructor
  · rintro ⟨⟨⟨h1, h2⟩, h3⟩, h4⟩
    refine ⟨⟨by omega, h2⟩, fun i hi => (nmP_iff s i).2 ?_⟩
    have h5 := (icP_iff (bAt_lt s i)).1 (h4 i hi)
    rcases Nat.eq_zero_or_pos i with rfl | h0
    · omega
    · omega
  · rintro ⟨⟨h1, h2⟩, h3⟩
    have h0 := (nmP_iff s 0).1 (h3 0 (by omega))
    refine ⟨⟨⟨by omega, h2⟩, by omega⟩, fun i hi => (icP_iff (bAt_lt s i)).2 ?_⟩
    have h5 := (nmP_iff s i).1 (h3 i hi)
    omega

theorem IsName_ok (s : ByteArray) (hs : s.size ≤ 2000000) : Fn Tryz.prog 13 [.v (.string s)] (.v (.bool (nameOkS s))) := by
  refine fn_ev tabT Tryz.func13 rfl rfl rfl rfl rfl rfl ?_
  intro w0 s0 mx
  refine ev_seq (ev_region tabT [] 100 rfl ?_)
  repeat (first | refine sat_same ?_ | refine sat_impA ?_ | refine sat_needA ?_)
  refine sat_done ?_
  refine exS_normal ?_
  refine ev_seq (ev_region tabT [] 200 rfl ?_)
  repeat (first | refine sat_same ?_ | refine sat_impA ?_ | refine sat_needA ?_)
  refine sat_fn _ (isName_ok _ (by first | assumption | omega | (simp_all; done))) rfl ?_
  repeat (first | refine sat_same ?_ | refine sat_impA ?_ | refine sat_needA ?_)
  refine sat_done ?_
  refine exS_normal ?_
  refine ev_ret ?_
  exact FinV.ret rfl (SubP.bool (isn_eq s))

end Go.Proofs.YtfcjacajnnkkfaaGreatDoor

/- Walks by the evaluator: heap.Int. -/
namespace Go.Proofs.YtfcjacajnnkkfaaGreatDoor
open Go.RowKit
variable {md me : Bool}

def nuV (n : Int) : Vl := ⟨2, decide (n < 0), lim n.natAbs, false, [], ByteArray.empty, 0⟩
structure Lm (m : Nat) where
  u : Nat
  l : List Nat
  eq : l ++ lim u = lim m
  le : u ≤ m
  pw : u * 4294967296 ^ l.length ≤ m
def Lm.next {m : Nat} (x : Lm m) (h : x.u ≠ 0) : Lm m := ⟨x.u / 4294967296, x.l ++ [x.u % 4294967296], by rw [← x.eq, lim_pos h, List.append_assoc]; rfl, by have := x.le; omega, by
  refine Nat.le_trans ?_ x.pw
  rw [List.length_append, List.length_singleton, Nat.pow_succ, Nat.mul_comm (4294967296 ^ _), ← Nat.mul_assoc]
  exact Nat.mul_le_mul_right _ (Nat.div_mul_le_self _ _)⟩
theorem Lm.short {m : Nat} (x : Lm m) (h : 0 < x.u) (hm : m < 18446744073709551616) : x.l.length ≤ 2 := by
  rcases Nat.lt_or_ge 2 x.l.length with h3 | h3
  · have h1 : 4294967296 ^ 3 ≤ 4294967296 ^ x.l.length := Nat.pow_le_pow_right (by omega) h3
    have h2 : 1 * 4294967296 ^ x.l.length ≤ x.u * 4294967296 ^ x.l.length := Nat.mul_le_mul_right _ h
    have h4 := x.pw
    omega
  · exact h3
theorem w_neg {n : Int} (h : n < 0) (h1 : -9223372036854775808 ≤ n) : IntKind.u64.wrap (0 - IntKind.u64.wrap n) = ((n.natAbs : Nat) : Int) := by
  simp only [IntKind.wrap, IntKind.signed, IntKind.bits, Bool.false_and, Bool.false_eq_true, if_false]
  omega
theorem w_pos {n : Int} (h : 0 ≤ n) (h1 : n ≤ 9223372036854775807) : IntKind.u64.wrap n = ((n.natAbs : Nat) : Int) := by
  simp only [IntKind.wrap, IntKind.signed, IntKind.bits, Bool.false_and, Bool.false_eq_true, if_false]
  omega
theorem sh32 (u : Nat) : ((u : Int)).fdiv (2 ^ min (Int.toNat 32) IntKind.u64.bits) = ((u / 4294967296 : Nat) : Int) := by
  show ((u : Int)).fdiv 4294967296 = _
  rw [Int.fdiv_eq_ediv_of_nonneg _ (by decide)]
  omega
theorem w32 (u : Nat) : IntKind.u32.wrap (u : Int) = ((u % 4294967296 : Nat) : Int) := by
  simp only [IntKind.wrap, IntKind.signed, IntKind.bits, Bool.false_and, Bool.false_eq_true, if_false]
  omega

set_option maxHeartbeats 1000000 in
theorem heapInt_ok (n : Int) (h1 : -9223372036854775808 ≤ n) (h2 : n ≤ 9223372036854775807) : Fn Tryz.prog 5 [.v (.int .i64 n)] (.agg (vlD (nuV n))) := by
  refine fn_ev tabT Tryz.func5 rfl rfl rfl rfl rfl rfl ?_
  intro w0 s0 mx
  refine ev_seq (ev_region tabT [] 100 rfl ?_)
  repeat (first | refine sat_same ?_ | refine sat_impA ?_ | refine sat_needA ?_)
  refine sat_done ?_
  refine exS_normal ?_
  refine ev_seq (ev_region tabT [] 200 rfl ?_)
  repeat (first | refine sat_same ?_ | refine sat_impA ?_ | refine sat_needA ?_)
  refine sat_done ?_
  refine exS_normal ?_
  refine ev_nilCell 101 2 51 1 rfl rfl ?_
  refine ev_seq (ev_region tabT [] 300 rfl ?_)
  repeat (first | refine sat_same ?_ | refine sat_impA ?_ | refine sat_needA ?_)
  refine sat_done ?_
  refine exS_normal ?_
  refine ev_seq ?_
  refine ev_seq (ev_region tabT [] 400 rfl ?_)
  repeat (first | refine sat_same ?_ | refine sat_impA ?_ | refine sat_needA ?_)
  refine sat_done ?_
  refine exS_normal ?_
  refine ev_cond rfl (fun c3 => ?_) (fun c3 => ?_)
  · replace c3 := of_decide_eq_true c3
    refine ev_seq (ev_region tabT [] 500 rfl ?_)
    repeat (first | refine sat_same ?_ | refine sat_impA ?_ | refine sat_needA ?_)
    refine sat_done ?_
    refine exS_normal ?_
    refine ev_region tabT [] 600 rfl ?_
    repeat (first | refine sat_same ?_ | refine sat_impA ?_ | refine sat_needA ?_)
    refine sat_done ?_
    refine exS_normal ?_
    refine ev_seq ?_
    refine ev_block ?_
    refine ev_loopK (ι := Lm n.natAbs) [2, 3] [0] 650 (fun x => [(4, .v (.int .u64 (x.u : Nat)))]) (fun x => [(101, .box 29 [.v (.int .i64 2), .v (.bool (decide (n < 0))), .own 200 1 (x.l.map uD), .v (.bool false), .v (.slice none 0 0), .v (.string ByteArray.empty), .v (.int .i64 0)]), (200, .row 51 1 (x.l.map uD).length)]) (fun x => x.u) ⟨n.natAbs, [], rfl, Nat.le_refl _, by simp⟩ ?_
    refine ⟨⟨⟨Sub.of_eq (by rw [w_neg c3 h1]), by repeat (first | exact trivial | exact Sub.refl _ | refine ⟨?_, ?_⟩)⟩, ⟨⟨rfl, Sub.refl _, rfl, Sub.of_eq (by rw [decide_eq_true c3]), rfl, Sub.refl _, rfl, Sub.refl _, rfl, Sub.refl _, rfl, Sub.refl _, rfl, Sub.refl _, rfl, trivial⟩, ⟨rfl, rfl, rfl⟩, by repeat (first | exact trivial | exact SubO.same rfl | refine ⟨?_, ?_⟩)⟩, rfl, rfl⟩, fun x => ?_⟩
    have hk := x.le
    have hm : n.natAbs < 18446744073709551616 := by omega
    refine ev_seq ?_
    refine ev_seq (ev_region tabT [] 700 rfl ?_)
    repeat (first | refine sat_same ?_ | refine sat_impA ?_ | refine sat_needA ?_)
    refine sat_done ?_
    refine exS_normal ?_
    refine ev_cond rfl (fun c6 => ?_) (fun c6 => ?_)
    · try simp only [decide_eq_true_eq, decide_eq_false_iff_not, Bool.not_eq_true', Bool.not_eq_false', Bool.and_eq_true, Bool.or_eq_true, Bool.or_eq_false_iff, gt_iff_lt, Int.not_lt, Bool.not_true, Bool.not_false, Int.ofNat_lt, Int.ofNat_le] at c6
      refine ev_skip ?_
      refine exS_normal ?_
      refine ev_seq ?_
      refine ev_block ?_
      refine ev_region tabT [] 900 rfl ?_
      repeat (first | refine sat_same ?_ | refine sat_impA ?_ | refine sat_need (by first | rfl | (have h3 := x.short (by omega) hm; simp only [List.length_map, List.length_cons, List.length_nil]; omega)) ?_)
      refine sat_done ?_
      refine exBl_normal ?_
      refine exS_normal ?_
      refine ev_region tabT [] 1000 rfl ?_
      repeat (first | refine sat_same ?_ | refine sat_impA ?_ | refine sat_needA ?_)
      refine sat_done ?_
      exact exL_normal (x.next (by omega)) ⟨⟨Sub.of_eq (by show _ = D.v (Value.int .u64 ((x.u / 4294967296 : Nat) : Int)); rw [sh32]), by repeat (first | exact trivial | exact Sub.refl _ | refine ⟨?_, ?_⟩)⟩, ⟨⟨rfl, Sub.refl _, rfl, Sub.refl _, rfl, Sub.own (by show _ = List.map uD (x.l ++ [x.u % 4294967296]); rw [List.map_append, w32]; rfl), rfl, Sub.refl _, rfl, Sub.refl _, rfl, Sub.refl _, rfl, Sub.refl _, rfl, trivial⟩, ⟨rfl, rfl, by show _ = (List.map uD (x.l ++ [x.u % 4294967296])).length; simp⟩, by repeat (first | exact trivial | exact SubO.same rfl | refine ⟨?_, ?_⟩)⟩, rfl, rfl⟩ (by show x.u / 4294967296 < x.u; omega)
    · try simp only [decide_eq_true_eq, decide_eq_false_iff_not, Bool.not_eq_true', Bool.not_eq_false', Bool.and_eq_true, Bool.or_eq_true, Bool.or_eq_false_iff, gt_iff_lt, Int.not_lt, Bool.not_true, Bool.not_false, Int.ofNat_lt, Int.ofNat_le] at c6
      refine ev_exit ?_
      refine exS_exit ?_
      refine exL_exit ?_
      refine exBl_same ?_
      refine exS_normal ?_
      refine ev_seq (ev_region tabT [] 1000 rfl ?_)
      repeat (first | refine sat_same ?_ | refine sat_impA ?_ | refine sat_needA ?_)
      refine sat_done ?_
      refine exS_normal ?_
      refine ev_ret ?_
      exact FinV.ret rfl (SubP.agg ⟨SubP.refl _, SubP.refl _, SubP.ownSl (by show _ = (lim n.natAbs).map uD; rw [← x.eq, show x.u = 0 by omega, lim_zero, List.append_nil]), SubP.refl _, SubP.nilSl rfl, SubP.refl _, SubP.refl _, trivial⟩)
  · replace c3 := Int.not_lt.1 (of_decide_eq_false c3)
    refine ev_skip ?_
    refine exS_normal ?_
    refine ev_seq ?_
    refine ev_block ?_
    refine ev_loopK (ι := Lm n.natAbs) [2, 3] [0] 450 (fun x => [(4, .v (.int .u64 (x.u : Nat)))]) (fun x => [(101, .box 29 [.v (.int .i64 2), .v (.bool (decide (n < 0))), .own 200 1 (x.l.map uD), .v (.bool false), .v (.slice none 0 0), .v (.string ByteArray.empty), .v (.int .i64 0)]), (200, .row 51 1 (x.l.map uD).length)]) (fun x => x.u) ⟨n.natAbs, [], rfl, Nat.le_refl _, by simp⟩ ?_
    refine ⟨⟨⟨Sub.of_eq (by rw [w_pos c3 h2]), by repeat (first | exact trivial | exact Sub.refl _ | refine ⟨?_, ?_⟩)⟩, ⟨⟨rfl, Sub.refl _, rfl, Sub.of_eq (by rw [decide_eq_false (Int.not_lt.2 c3)]), rfl, Sub.refl _, rfl, Sub.refl _, rfl, Sub.refl _, rfl, Sub.refl _, rfl, Sub.refl _, rfl, trivial⟩, ⟨rfl, rfl, rfl⟩, by repeat (first | exact trivial | exact SubO.same rfl | refine ⟨?_, ?_⟩)⟩, rfl, rfl⟩, fun x => ?_⟩
    have hk := x.le
    have hm : n.natAbs < 18446744073709551616 := by omega
    refine ev_seq ?_
    refine ev_seq (ev_region tabT [] 700 rfl ?_)
    repeat (first | refine sat_same ?_ | refine sat_impA ?_ | refine sat_needA ?_)
    refine sat_done ?_
    refine exS_normal ?_
    refine ev_cond rfl (fun c6 => ?_) (fun c6 => ?_)
    · try simp only [decide_eq_true_eq, decide_eq_false_iff_not, Bool.not_eq_true', Bool.not_eq_false', Bool.and_eq_true, Bool.or_eq_true, Bool.or_eq_false_iff, gt_iff_lt, Int.not_lt, Bool.not_true, Bool.not_false, Int.ofNat_lt, Int.ofNat_le] at c6
      refine ev_skip ?_
      refine exS_normal ?_
      refine ev_seq ?_
      refine ev_block ?_
      refine ev_region tabT [] 900 rfl ?_
      repeat (first | refine sat_same ?_ | refine sat_impA ?_ | refine sat_need (by first | rfl | (have h3 := x.short (by omega) hm; simp only [List.length_map, List.length_cons, List.length_nil]; omega)) ?_)
      refine sat_done ?_
      refine exBl_normal ?_
      refine exS_normal ?_
      refine ev_region tabT [] 1000 rfl ?_
      repeat (first | refine sat_same ?_ | refine sat_impA ?_ | refine sat_needA ?_)
      refine sat_done ?_
      exact exL_normal (x.next (by omega)) ⟨⟨Sub.of_eq (by show _ = D.v (Value.int .u64 ((x.u / 4294967296 : Nat) : Int)); rw [sh32]), by repeat (first | exact trivial | exact Sub.refl _ | refine ⟨?_, ?_⟩)⟩, ⟨⟨rfl, Sub.refl _, rfl, Sub.refl _, rfl, Sub.own (by show _ = List.map uD (x.l ++ [x.u % 4294967296]); rw [List.map_append, w32]; rfl), rfl, Sub.refl _, rfl, Sub.refl _, rfl, Sub.refl _, rfl, Sub.refl _, rfl, trivial⟩, ⟨rfl, rfl, by show _ = (List.map uD (x.l ++ [x.u % 4294967296])).length; simp⟩, by repeat (first | exact trivial | exact SubO.same rfl | refine ⟨?_, ?_⟩)⟩, rfl, rfl⟩ (by show x.u / 4294967296 < x.u; omega)
    · try simp only [decide_eq_true_eq, decide_eq_false_iff_not, Bool.not_eq_true', Bool.not_eq_false', Bool.and_eq_true, Bool.or_eq_true, Bool.or_eq_false_iff, gt_iff_lt, Int.not_lt, Bool.not_true, Bool.not_false, Int.ofNat_lt, Int.ofNat_le] at c6
      refine ev_exit ?_
      refine exS_exit ?_
      refine exL_exit ?_
      refine exBl_same ?_
      refine exS_normal ?_
      refine ev_seq (ev_region tabT [] 1000 rfl ?_)
      repeat (first | refine sat_same ?_ | refine sat_impA ?_ | refine sat_needA ?_)
      refine sat_done ?_
      refine exS_normal ?_
      refine ev_ret ?_
      exact FinV.ret rfl (SubP.agg ⟨SubP.refl _, SubP.refl _, SubP.ownSl (by show _ = (lim n.natAbs).map uD; rw [← x.eq, show x.u = 0 by omega, lim_zero, List.append_nil]), SubP.refl _, SubP.nilSl rfl, SubP.refl _, SubP.refl _, trivial⟩)

end Go.Proofs.YtfcjacajnnkkfaaGreatDoor
