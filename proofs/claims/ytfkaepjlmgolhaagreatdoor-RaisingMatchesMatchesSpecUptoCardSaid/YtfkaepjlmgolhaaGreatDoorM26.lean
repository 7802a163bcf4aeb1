/- Part 26 of the proof. -/
import Derived.Test.YtfkaepjlmgolhaaGreatDoorM25

/- Walks by the evaluator: Usable, and what a usable heap is. -/
namespace Go.Proofs.YtfkaepjlmgolhaaGreatDoor
open Go.RowKit

noncomputable def usableS (h : List Ob) (vs : List Vl) : Bool := decide ((problemS h).1 = 0) && vs.all (hasS h)
theorem fstC_zero : ∀ {l : List Int}, fstC l = 0 → ∀ j, l.getD j 0 = 0
  | [], _, j => by simp
  | c :: l, h, j => by
    rw [fstC] at h
    split at h
    · rename_i h0
      match j with
      | 0 => simpa using h0
      | j + 1 => simpa using fstC_zero h j
    · rename_i h0; exact absurd h h0
/-- What the document knows of a heap without a problem. -/
structure Uh (h : List Ob) : Prop where
  lo : 49 ≤ h.length
  hi : h.length ≤ 5000
  code : ∀ i, i < h.length → codeS h i = 0
theorem uh_of {h : List Ob} (hp : (problemS h).1 = 0) : Uh h := by
  unfold problemS at hp
  split at hp
  · exact absurd hp (by decide)
  · rename_i h1
    split at hp
    · exact absurd hp (by decide)
    · rename_i h2
      split at hp
      · rename_i i hi
        rw [List.find?_range_eq_some] at hi
        exact absurd hp (by simpa using hi.1)
      · rename_i hn
        rw [List.find?_range_eq_none] at hn
        exact ⟨by omega, by omega, fun i hi => by simpa using hn i hi⟩
structure Uho (h : List Ob) (o : Ob) (i : Nat) : Prop where
  kind : 0 ≤ o.kind ∧ o.kind < 21
  shape : shapeS o = 0
  sizes : sizesS o = 0
  names : namesS o = 0
  vals : valuesS h o = 0
  links : linksS h o i = true
  keys : keyS h o = 0
  order : orderOkS h o i = true
theorem Uh.lo_at {h : List Ob} (g : Uh h) {i : Nat} (hi : i < 49) : obAt h i = bgO i := by
  have := g.code i (by have := g.lo; omega)
  unfold codeS at this
  rw [if_pos (by omega)] at this
  split at this
  · assumption
  · cases this
theorem Uh.hi_at {h : List Ob} (g : Uh h) {i : Nat} (h1 : 49 ≤ i) (h2 : i < h.length) : Uho h (obAt h i) i := by
  have := g.code i h2
  unfold codeS at this
  rw [if_neg (by omega)] at this
  split at this
  · cases this
  · rename_i hk
    split at this
    · rename_i hf
      split at this
      · rename_i hl
        split at this
        · rename_i hy
          split at this
          · rename_i ho
            have hz := fstC_zero hf
            exact ⟨by omega, hz 0, hz 1, hz 2, hz 3, hl, hy, ho⟩
          · cases this
        · rename_i hy; exact absurd this hy
      · cases this
    · rename_i hf; exact absurd this hf
theorem obAt_nat {h : List Ob} {n : Int} (hn : inH h n) : obAt h n = obAt h ((n.toNat : Nat) : Int) := by rfl
theorem Uh.cls {h : List Ob} (g : Uh h) {n : Int} (hn : inH h n) (hk : (obAt h n).kind = 10) : inH h (obAt h n).cls := by
  by_cases h49 : n.toNat < 49
  · have := g.lo_at h49
    rw [show obAt h n = bgO n.toNat from this] at hk
    exact absurd hk (by show ¬ (9 : Int) = 10; decide)
  · exact isObj_in (vs_of (g.hi_at (by omega) hn.2).vals).cls
theorem Uh.items {h : List Ob} (g : Uh h) {n : Int} (hn : inH h n) {v : Vl} (hv : v ∈ (obAt h n).items) (hk : v.k = 6) : isObj h v.r = true := by
  by_cases h49 : n.toNat < 49
  · rw [show obAt h n = bgO n.toNat from g.lo_at h49] at hv
    exact absurd hv (by show ¬ v ∈ ([] : List Vl); simp)
  · exact (vs_of (g.hi_at (by omega) hn.2).vals).vals v (List.mem_append.2 (.inr hv)) hk
theorem has_obj {h : List Ob} {v : Vl} (hh : hasS h v = true) (hk : v.k = 6) : isObj h v.r = true := by
  simp only [hasS, Bool.and_eq_true, Bool.or_eq_true, Bool.not_eq_true', decide_eq_false_iff_not] at hh
  exact hh.2.resolve_left fun hn => hn hk
theorem objS_of {h : List Ob} {v : Vl} (hk : (objS h v).kind ≠ 0) : v.k = 6 ∧ isObj h v.r = true ∧ objS h v = obAt h v.r := by
  unfold objS at hk ⊢
  split at hk
  · rename_i h1
    exact ⟨h1.1, h1.2, if_pos h1⟩
  · exact absurd rfl hk
theorem objS_at {h : List Ob} {v : Vl} (hv : v.k = 6 → isObj h v.r = true) (hk : v.k = 6) : objS h v = obAt h v.r := if_pos ⟨hk, hv hk⟩
theorem objS_no {h : List Ob} {v : Vl} (hk : ¬ v.k = 6) : objS h v = ob0 := if_neg fun hh => hk hh.1

theorem Usable_ok (h : List Ob) (vs : List Vl) (hh : HpIn h) (hin : ∀ v ∈ vs, VlIn v) (hl : vs.length ≤ 2000000) : Fn Tryz.prog 6 [hpD h, vsD vs] (.v (.bool (usableS h vs))) := by
  refine fn_ev tabT Tryz.func6 rfl rfl rfl rfl rfl rfl ?_
  intro w0 s0 mx
  refine ev_seq (ev_region tabT [] 100 rfl ?_)
  repeat (first | refine sat_same ?_ | refine sat_imp (by first | exact fun hh => hh | (intro hh; simp at hh ⊢; first | omega | exact hh | simp_all) | (simp_all; done)) ?_ | refine sat_need (by first | exact trivial | omega | exact ini (by omega) (by omega) | (intro hh; simp at hh; exact ini (by omega) (by omega)) | (intro hh; simp at hh ⊢; omega) | (simp at *; omega) | (simp_all; done)) ?_)
  refine sat_done ?_
  refine exS_normal ?_
  refine ev_seq ?_
  refine ev_seq (ev_region tabT [] 200 rfl ?_)
  repeat (first | refine sat_same ?_ | refine sat_imp (by first | exact fun hh => hh | (intro hh; simp at hh ⊢; first | omega | exact hh | simp_all) | (simp_all; done)) ?_ | refine sat_need (by first | exact trivial | omega | exact ini (by omega) (by omega) | (intro hh; simp at hh; exact ini (by omega) (by omega)) | (intro hh; simp at hh ⊢; omega) | (simp at *; omega) | (simp_all; done)) ?_)
  refine sat_fn _ (Problem_ok _ (by first | assumption | omega | (simp_all; done))) rfl ?_
  repeat (first | refine sat_same ?_ | refine sat_imp (by first | exact fun hh => hh | (intro hh; simp at hh ⊢; first | omega | exact hh | simp_all) | (simp_all; done)) ?_ | refine sat_need (by first | exact trivial | omega | exact ini (by omega) (by omega) | (intro hh; simp at hh; exact ini (by omega) (by omega)) | (intro hh; simp at hh ⊢; omega) | (simp at *; omega) | (simp_all; done)) ?_)
  refine sat_done ?_
  refine exS_normal ?_
  refine ev_cond rfl (fun c1 => ?_) (fun c1 => ?_)
  · replace c1 : ¬ (problemS h).1 = 0 := by simpa using c1
    refine ev_seq (ev_region tabT [] 300 rfl ?_)
    repeat (first | refine sat_same ?_ | refine sat_imp (by first | exact fun hh => hh | (intro hh; simp at hh ⊢; first | omega | exact hh | simp_all) | (simp_all; done)) ?_ | refine sat_need (by first | exact trivial | omega | exact ini (by omega) (by omega) | (intro hh; simp at hh; exact ini (by omega) (by omega)) | (intro hh; simp at hh ⊢; omega) | (simp at *; omega) | (simp_all; done)) ?_)
    refine sat_done ?_
    refine exS_normal ?_
    refine ev_ret ?_
    refine exS_ret ?_
    exact FinV.ret rfl (SubP.bool (by rw [usableS, decide_eq_false c1]; rfl))
  · replace c1 : (problemS h).1 = 0 := by simpa using c1
    refine ev_skip ?_
    refine exS_normal ?_
    refine ev_seq ?_
    refine ev_seq (ev_region tabT [] 400 rfl ?_)
    repeat (first | refine sat_same ?_ | refine sat_imp (by first | exact fun hh => hh | (intro hh; simp at hh ⊢; first | omega | exact hh | simp_all) | (simp_all; done)) ?_ | refine sat_need (by first | exact trivial | omega | exact ini (by omega) (by omega) | (intro hh; simp at hh; exact ini (by omega) (by omega)) | (intro hh; simp at hh ⊢; omega) | (simp at *; omega) | (simp_all; done)) ?_)
    refine sat_done ?_
    refine exS_normal ?_
    refine ev_block ?_
    refine ev_loopK (ι := Al vs (hasS h)) [2, 11, 12] [0] 450 (fun x => [(13, .v (.int .i64 x.k))]) (fun _ => []) (fun x => vs.length - x.k) ⟨0, Nat.zero_le _, fun j x hj => by omega⟩ ?_
    refine ⟨⟨(by first | exact trivial | (repeat (first | exact trivial | exact Sub.refl _ | refine ⟨?_, ?_⟩ | exact Sub.int (by first | rfl | omega | (push_cast; omega)) | exact Sub.nilSl | exact Sub.own rfl | exact Sub.slrSl rfl | exact Sub.ownSl (List.map_append).symm | exact Sub.ownSl rfl))), (by repeat (first | exact trivial | exact SubO.same rfl | refine ⟨?_, ?_⟩)), rfl, rfl⟩, fun x => ?_⟩
    have hk := x.le
    refine ev_seq (ev_region tabT [] 500 rfl ?_)
    repeat (first | refine sat_same ?_ | refine sat_imp (by first | exact fun hh => hh | (intro hh; simp at hh ⊢; first | omega | exact hh | simp_all) | (simp_all; done)) ?_ | refine sat_need (by first | exact trivial | omega | exact ini (by omega) (by omega) | (intro hh; simp at hh; exact ini (by omega) (by omega)) | (intro hh; simp at hh ⊢; omega) | (simp at *; omega) | (simp_all; done)) ?_)
    refine sat_done ?_
    refine exS_normal ?_
    refine ev_seq ?_
    refine ev_cond rfl (fun c4 => ?_) (fun c4 => ?_)
    · try simp only [decide_eq_true_eq, decide_eq_false_iff_not, Bool.not_eq_true', Bool.not_eq_false', Bool.and_eq_true, Bool.or_eq_true, Bool.or_eq_false_iff, gt_iff_lt, Int.not_lt, Bool.not_true, Bool.not_false, Int.ofNat_lt, Int.ofNat_le] at c4
      refine ev_skip ?_
      refine exS_normal ?_
      refine ev_seq ?_
      refine ev_block ?_
      refine ev_seq (ev_region tabT [] 600 rfl ?_)
      repeat (first | refine sat_same ?_ | refine sat_imp (by first | exact fun hh => hh | (intro hh; simp at hh ⊢; first | omega | exact hh | simp_all) | (simp_all; done)) ?_ | refine sat_need (by first | exact trivial | omega | exact ini (by omega) (by omega) | (intro hh; simp at hh; exact ini (by omega) (by omega)) | (intro hh; simp at hh ⊢; omega) | (simp at *; omega) | (simp_all; done)) ?_)
      refine sat_done ?_
      refine exS_normal ?_
      refine ev_seq (ev_region tabT [] 700 rfl ?_)
      repeat (first | refine sat_same ?_ | refine sat_imp (by first | exact fun hh => hh | (intro hh; simp at hh ⊢; first | omega | exact hh | simp_all) | (simp_all; done)) ?_ | refine sat_need (by first | exact trivial | omega | exact ini (by omega) (by omega) | (intro hh; simp at hh; exact ini (by omega) (by omega)) | (intro hh; simp at hh ⊢; omega) | (simp at *; omega) | (simp_all; done)) ?_)
      refine sat_fn _ (Has_ok _ _ (hin _ (mem_getD c4 vl0))) rfl ?_
      repeat (first | refine sat_same ?_ | refine sat_imp (by first | exact fun hh => hh | (intro hh; simp at hh ⊢; first | omega | exact hh | simp_all) | (simp_all; done)) ?_ | refine sat_need (by first | exact trivial | omega | exact ini (by omega) (by omega) | (intro hh; simp at hh; exact ini (by omega) (by omega)) | (intro hh; simp at hh ⊢; omega) | (simp at *; omega) | (simp_all; done)) ?_)
      refine sat_done ?_
      refine exS_normal ?_
      refine ev_cond rfl (fun c6 => ?_) (fun c6 => ?_)
      · simp only [Bool.not_eq_true'] at c6
        refine ev_seq (ev_region tabT [] 800 rfl ?_)
        repeat (first | refine sat_same ?_ | refine sat_imp (by first | exact fun hh => hh | (intro hh; simp at hh ⊢; first | omega | exact hh | simp_all) | (simp_all; done)) ?_ | refine sat_need (by first | exact trivial | omega | exact ini (by omega) (by omega) | (intro hh; simp at hh; exact ini (by omega) (by omega)) | (intro hh; simp at hh ⊢; omega) | (simp at *; omega) | (simp_all; done)) ?_)
        refine sat_done ?_
        refine exS_normal ?_
        refine ev_ret ?_
        refine exBl_ret ?_
        refine exS_ret ?_
        refine exL_ret ?_
        refine exBl_ret ?_
        refine exS_ret ?_
        exact FinV.ret rfl (SubP.bool (by rw [usableS, Al.no (p := hasS h) (e := vl0) c4 c6, Bool.and_false]))
      · simp only [Bool.not_eq_false'] at c6
        refine ev_skip ?_
        refine exBl_normal ?_
        refine exS_normal ?_
        refine ev_region tabT [] 900 rfl ?_
        repeat (first | refine sat_same ?_ | refine sat_imp (by first | exact fun hh => hh | (intro hh; simp at hh ⊢; first | omega | exact hh | simp_all) | (simp_all; done)) ?_ | refine sat_need (by first | exact trivial | omega | exact ini (by omega) (by omega) | (intro hh; simp at hh; exact ini (by omega) (by omega)) | (intro hh; simp at hh ⊢; omega) | (simp at *; omega) | (simp_all; done)) ?_)
        refine sat_done ?_
        exact exL_normal (x.next (e := vl0) c4 c6) ⟨(by first | exact trivial | (repeat (first | exact trivial | exact Sub.refl _ | refine ⟨?_, ?_⟩ | exact Sub.int (by first | rfl | omega | (push_cast; omega)) | exact Sub.nilSl | exact Sub.own rfl | exact Sub.slrSl rfl | exact Sub.ownSl (List.map_append).symm | exact Sub.ownSl rfl))), (by repeat (first | exact trivial | exact SubO.same rfl | refine ⟨?_, ?_⟩)), rfl, rfl⟩ (by show vs.length - (x.k + 1) < vs.length - x.k; omega)
    · try simp only [decide_eq_true_eq, decide_eq_false_iff_not, Bool.not_eq_true', Bool.not_eq_false', Bool.and_eq_true, Bool.or_eq_true, Bool.or_eq_false_iff, gt_iff_lt, Int.not_lt, Bool.not_true, Bool.not_false, Int.ofNat_lt, Int.ofNat_le] at c4
      refine ev_exit ?_
      refine exS_exit ?_
      refine exL_exit ?_
      refine exBl_same ?_
      refine exS_normal ?_
      refine ev_seq (ev_region tabT [] 1000 rfl ?_)
      repeat (first | refine sat_same ?_ | refine sat_imp (by first | exact fun hh => hh | (intro hh; simp at hh ⊢; first | omega | exact hh | simp_all) | (simp_all; done)) ?_ | refine sat_need (by first | exact trivial | omega | exact ini (by omega) (by omega) | (intro hh; simp at hh; exact ini (by omega) (by omega)) | (intro hh; simp at hh ⊢; omega) | (simp at *; omega) | (simp_all; done)) ?_)
      refine sat_done ?_
      refine exS_normal ?_
      refine ev_ret ?_
      exact FinV.ret rfl (SubP.bool (by rw [usableS, decide_eq_true c1, x.yes c4]; rfl))

end Go.Proofs.YtfkaepjlmgolhaaGreatDoor

/- Walks by the evaluator: raising: Is, Matches, Caught, SameStep. -/
namespace Go.Proofs.YtfkaepjlmgolhaaGreatDoor
open Go.RowKit

/-- A step: its kind, its value, its code, its text, two more. -/
structure St where
  k : Int
  v : Vl
  c : Int
  s : ByteArray
  w : Vl
  l : List Vl
def stD (s : St) : List D := .v (.int .i64 s.k) :: (vlD s.v ++ (.v (.int .i64 s.c) :: .v (.string s.s) :: (vlD s.w ++ [.sl 7 s.l vlD vl0])))
def smSt (a b : St) : Bool := ((((decide (a.k = b.k) && decide (a.c = b.c)) && decide (a.s = b.s)) && decide (a.v = b.v)) && decide (a.w = b.w)) && decide (a.l = b.l)
theorem smSt_self (a : St) : smSt a a = true := by simp [smSt]
def boV (b : Bool) : Vl := ⟨1, false, [], false, [], ByteArray.empty, if b then 1 else 0⟩
def raS (c : Int) (m : ByteArray) : St := ⟨1, vl0, c, m, vl0, []⟩
def vlS (v : Vl) : St := ⟨0, v, 0, ByteArray.empty, vl0, []⟩
def excC (h : List Ob) (w : Vl) : Bool := decide ((objS h w).kind = 9) && hasB (obAt h w.r).order 28
def mg1 : ByteArray := ⟨#[99, 97, 116, 99, 104, 32, 110, 101, 101, 100, 115, 32, 97, 110, 32, 101, 120, 99, 101, 112, 116, 105, 111, 110, 32, 99, 108, 97, 115, 115]⟩
def mg2 : ByteArray := ⟨#[99, 97, 116, 99, 104, 32, 42, 32, 110, 101, 101, 100, 115, 32, 110, 111, 32, 103, 114, 111, 117, 112, 32, 99, 108, 97, 115, 115]⟩
/-- The step of a clause that catches. -/
def mtS (h : List Ob) (v : Vl) (b : Bool) : List Vl → St
  | [] => vlS (boV false)
  | w :: l => if excC h w = true then (if (b && hasB (obAt h w.r).order 48) = true then raS 32 mg2 else if isaS h v w.r = true then vlS (boV true) else mtS h v b l) else raS 32 mg1
def wlS (h : List Ob) (w : Vl) : List Vl := if (objS h w).kind = 1 then (objS h w).items else [w]
/-- So much of a list read; what is told of the rest is told of the whole. -/
structure Sf {α β : Type} (F : List α → β) (l : List α) where
  k : Nat
  le : k ≤ l.length
  eq : F (l.drop k) = F l
theorem drop_getD {α : Type} {l : List α} {k : Nat} (h : k < l.length) (e : α) : l.drop k = l.getD k e :: l.drop (k + 1) := by
  rw [List.drop_eq_getElem_cons h, List.getD_eq_getElem?_getD, List.getElem?_eq_getElem h]; rfl
def Sf.next {α β : Type} {F : List α → β} {l : List α} (x : Sf F l) (h1 : x.k < l.length) (h2 : F (l.drop x.k) = F (l.drop (x.k + 1))) : Sf F l := ⟨x.k + 1, h1, h2.symm.trans x.eq⟩
theorem Sf.end {α β : Type} {F : List α → β} {l : List α} (x : Sf F l) (h1 : ¬ x.k < l.length) : F l = F [] := by
  rw [← x.eq, List.drop_of_length_le (by omega)]
theorem excC_in {h : List Ob} {w : Vl} (he : excC h w = true) : inH h w.r := by
  simp only [excC, Bool.and_eq_true, decide_eq_true_eq] at he
  exact isObj_in (objS_of (by rw [he.1]; decide)).2.1
/-- What Matches and Caught ask of a value: its number is an object's, and its class is one. -/
structure Rf (h : List Ob) (v : Vl) : Prop where
  obj : v.k = 6 → isObj h v.r = true
  cls : v.k = 6 → (obAt h v.r).kind = 10 → inH h (obAt h v.r).cls
theorem Rf.isa {h : List Ob} {v : Vl} (hv : Rf h v) (hk : (objS h v).kind = 10) : inH h (objS h v).cls := by
  have h1 := objS_of (h := h) (v := v) (by rw [hk]; decide)
  rw [h1.2.2] at hk ⊢
  exact hv.cls h1.1 hk
theorem isa_eq {h : List Ob} {v : Vl} (hv : Rf h v) (c : Int) : ((decide (v.k = 6) && decide ((obAt h v.r).kind = 10)) && hasB (obAt h (obAt h v.r).cls).order c) = isaS h v c := by
  unfold isaS
  by_cases hk : v.k = 6
  · rw [objS_at hv.obj hk, decide_eq_true hk, Bool.true_and]
  · rw [objS_no hk, decide_eq_false hk]; rfl
theorem exc_eq {h : List Ob} {w : Vl} (hw : w.k = 6 → isObj h w.r = true) : ((decide (w.k = 6) && decide ((obAt h w.r).kind = 9)) && hasB (obAt h w.r).order 28) = excC h w := by
  unfold excC
  by_cases hk : w.k = 6
  · rw [objS_at hw hk, decide_eq_true hk, Bool.true_and]
  · rw [objS_no hk, decide_eq_false hk]; rfl
theorem wlS_eq {h : List Ob} {w : Vl} (hw : w.k = 6 → isObj h w.r = true) (hc : (decide (w.k = 6) && decide ((obAt h w.r).kind = 1)) = true) : wlS h w = (obAt h w.r).items := by
  simp only [Bool.and_eq_true, decide_eq_true_eq] at hc
  unfold wlS
  rw [objS_at hw hc.1, if_pos hc.2]
theorem wlS_ne {h : List Ob} {w : Vl} (hw : w.k = 6 → isObj h w.r = true) (hc : (decide (w.k = 6) && decide ((obAt h w.r).kind = 1)) = false) : wlS h w = [w] := by
  unfold wlS
  by_cases hk : w.k = 6
  · rw [decide_eq_true hk, Bool.true_and] at hc
    rw [objS_at hw hk, if_neg (of_decide_eq_false hc)]
  · rw [objS_no hk, if_neg (by show ¬ (0 : Int) = 1; decide)]

theorem Derives_ok (h : List Ob) (c b : Int) (hn : inH h c) : Fn Tryz.prog 32 [hpD h, .v (.int .i64 c), .v (.int .i64 b)] (.v (.bool (hasB (obAt h c).order b))) := by
  refine fn_ev tabT Tryz.func32 rfl rfl rfl rfl rfl rfl ?_
  intro w0 s0 mx
  refine ev_seq (ev_region tabT [] 100 rfl ?_)
  repeat (first | refine sat_same ?_ | refine sat_imp (by first | exact fun hh => hh | (intro hh; simp at hh ⊢; first | omega | exact hh | simp_all) | (simp_all; done)) ?_ | refine sat_need (by first | exact trivial | omega | exact ini (by omega) (by omega) | (intro hh; simp at hh; exact ini (by omega) (by omega)) | (intro hh; simp at hh ⊢; omega) | (simp at *; omega) | (simp_all; done)) ?_)
  refine sat_done ?_
  refine exS_normal ?_
  refine ev_seq (ev_region tabT [] 200 rfl ?_)
  repeat (first | refine sat_same ?_ | refine sat_imp (by first | exact fun hh => hh | (intro hh; simp at hh ⊢; first | omega | exact hh | simp_all) | (simp_all; done)) ?_ | refine sat_need (by exact hn) ?_)
  refine sat_fn _ (ContainsI_ok _ _) rfl ?_
  repeat (first | refine sat_same ?_ | refine sat_imp (by first | exact fun hh => hh | (intro hh; simp at hh ⊢; first | omega | exact hh | simp_all) | (simp_all; done)) ?_ | refine sat_need (by exact hn) ?_)
  refine sat_done ?_
  refine exS_normal ?_
  refine ev_ret ?_
  exact FinV.ret rfl (SubP.refl _)

theorem RaisingIs_ok (h : List Ob) (v : Vl) (c : Int) (hv : Rf h v) : Fn Tryz.prog 8 [hpD h, .agg (vlD v), .v (.int .i64 c)] (.v (.bool (isaS h v c))) := by
  refine fn_ev tabT Tryz.func8 rfl rfl rfl rfl rfl rfl ?_
  intro w0 s0 mx
  refine ev_seq (ev_region tabT [] 100 rfl ?_)
  repeat (first | refine sat_same ?_ | refine sat_imp (by first | exact fun hh => hh | (intro hh; simp at hh ⊢; first | omega | exact hh | simp_all) | (simp_all; done)) ?_ | refine sat_need (by first | exact trivial | omega | exact ini (by omega) (by omega) | (intro hh; simp at hh; exact ini (by omega) (by omega)) | (intro hh; simp at hh ⊢; omega) | (simp at *; omega) | (simp_all; done)) ?_)
  refine sat_done ?_
  refine exS_normal ?_
  refine ev_seq (ev_drawn tabT [] [[], [0], [0, 1], [0, 1, 2], [0, 1, 2, 3], [0, 1, 2, 3, 4], [0, 1, 2, 3], [0, 1, 2, 3, 6], [0, 1, 2, 3, 4, 5, 6, 7], [0, 1, 2, 3, 4, 5, 6, 7, 8], [0, 1, 2, 3, 4, 5, 6, 7, 8, 9], [0, 1, 2, 3, 4, 5, 6, 7, 8, 9, 10], [0, 1, 2, 3, 4, 5, 6, 7, 8, 9, 10, 11], [0, 1, 2, 3, 4, 5, 6, 7, 8, 9, 10, 11, 12], [0, 1, 2, 3, 4, 5, 6, 7, 8, 9, 10, 11, 12, 13], [0, 1, 2, 3, 4, 5, 6, 7, 8, 9, 10, 11, 12, 13], [0, 1, 2, 3, 4, 5, 6, 7, 8, 9, 10, 11, 12, 13, 15], [0, 1, 2, 3, 4, 5, 6, 7, 8, 9, 10, 11, 12, 13], [0, 1, 2, 3, 4, 5, 6, 7, 8, 9, 10, 11, 12, 13, 17], [0, 1, 2, 3, 4, 5, 6, 7, 8, 9, 10, 11, 12, 13, 15, 16, 17, 18], [0, 1, 2, 3, 4, 5, 6, 7, 8, 9, 10, 11, 12, 13, 15, 16, 17, 18, 19], [0, 1, 2, 3, 4, 5, 6, 7, 8, 9, 10, 11, 12, 13, 15, 16, 17, 18, 19, 20], [0, 1, 2, 3, 4, 5, 6, 7, 8, 9, 10, 11, 12, 13], [0, 1, 2, 3, 4, 5, 6, 7, 8, 9, 10, 11, 12, 13, 14, 15, 16, 17, 18, 19, 20, 21, 22], [0, 1, 2, 3, 4, 5, 6, 7, 8, 9, 10, 11, 12, 13, 14, 15, 16, 17, 18, 19, 20, 21, 22, 23], [0, 1, 2, 3, 4, 5, 6, 7, 8, 9, 10, 11, 12, 13, 14, 15, 16, 17, 18, 19, 20, 21, 22, 23, 24]] 200 mixT (by kernel_rfl) rfl ?_)
  repeat (first | refine sat_same ?_ | refine sat_imp (by first | exact fun hh => hh | (intro hh; simp at hh ⊢; first | omega | exact hh | simp_all) | (simp_all; done)) ?_ | refine sat_need (by first | (intro hh; simp only [Bool.and_eq_true, decide_eq_true_eq] at hh; first | exact isObj_in (hv.obj hh) | exact isObj_in (hv.obj hh.1)) | rfl) ?_)
  refine sat_fnG _ (fun hg23 => Derives_ok _ _ _ (by simp only [Bool.and_eq_true, decide_eq_true_eq] at hg23; exact hv.cls hg23.1 hg23.2)) rfl ?_
  repeat (first | refine sat_same ?_ | refine sat_imp (by first | exact fun hh => hh | (intro hh; simp at hh ⊢; first | omega | exact hh | simp_all) | (simp_all; done)) ?_ | refine sat_need (by first | (intro hh; simp only [Bool.and_eq_true, decide_eq_true_eq] at hh; first | exact isObj_in (hv.obj hh) | exact isObj_in (hv.obj hh.1)) | rfl) ?_)
  refine sat_done ?_
  refine exS_normal ?_
  refine ev_ret ?_
  exact FinV.ret rfl (SubP.bool (isa_eq hv c))

theorem exceptionClass_ok (h : List Ob) (w : Vl) (hw : w.k = 6 → isObj h w.r = true) : Fn Tryz.prog 42 [hpD h, .agg (vlD w)] (.v (.bool (excC h w))) := by
  refine fn_ev tabT Tryz.func42 rfl rfl rfl rfl rfl rfl ?_
  intro w0 s0 mx
  refine ev_seq (ev_region tabT [] 100 rfl ?_)
  repeat (first | refine sat_same ?_ | refine sat_imp (by first | exact fun hh => hh | (intro hh; simp at hh ⊢; first | omega | exact hh | simp_all) | (simp_all; done)) ?_ | refine sat_need (by first | exact trivial | omega | exact ini (by omega) (by omega) | (intro hh; simp at hh; exact ini (by omega) (by omega)) | (intro hh; simp at hh ⊢; omega) | (simp at *; omega) | (simp_all; done)) ?_)
  refine sat_done ?_
  refine exS_normal ?_
  refine ev_seq (ev_region tabT [] 200 rfl ?_)
  repeat (first | refine sat_same ?_ | refine sat_imp (by first | exact fun hh => hh | (intro hh; simp at hh ⊢; first | omega | exact hh | simp_all) | (simp_all; done)) ?_ | refine sat_need (by first | (intro hh; simp only [Bool.and_eq_true, decide_eq_true_eq] at hh; first | exact isObj_in (hw hh) | exact isObj_in (hw hh.1)) | rfl) ?_)
  refine sat_fnG _ (fun hg17 => Derives_ok _ _ _ (by simp only [Bool.and_eq_true, decide_eq_true_eq] at hg17; exact isObj_in (hw hg17.1))) rfl ?_
  repeat (first | refine sat_same ?_ | refine sat_imp (by first | exact fun hh => hh | (intro hh; simp at hh ⊢; first | omega | exact hh | simp_all) | (simp_all; done)) ?_ | refine sat_need (by first | (intro hh; simp only [Bool.and_eq_true, decide_eq_true_eq] at hh; first | exact isObj_in (hw hh) | exact isObj_in (hw hh.1)) | rfl) ?_)
  refine sat_done ?_
  refine exS_normal ?_
  refine ev_ret ?_
  exact FinV.ret rfl (SubP.bool (exc_eq hw))

theorem raise_ok (c : Int) (m : ByteArray) : Fn Tryz.prog 43 [.v (.int .i64 c), .v (.string m)] (.agg (stD (raS c m))) := by
  refine fn_ev tabT Tryz.func43 rfl rfl rfl rfl rfl rfl ?_
  intro w0 s0 mx
  refine ev_seq (ev_region tabT [] 100 rfl ?_)
  repeat (first | refine sat_same ?_ | refine sat_imp (by first | exact fun hh => hh | (intro hh; simp at hh ⊢; first | omega | exact hh | simp_all) | (simp_all; done)) ?_ | refine sat_need (by first | exact trivial | omega | exact ini (by omega) (by omega) | (intro hh; simp at hh; exact ini (by omega) (by omega)) | (intro hh; simp at hh ⊢; omega) | (simp at *; omega) | (simp_all; done)) ?_)
  refine sat_done ?_
  refine exS_normal ?_
  refine ev_seq (ev_region tabT [] 200 rfl ?_)
  repeat (first | refine sat_same ?_ | refine sat_imp (by first | exact fun hh => hh | (intro hh; simp at hh ⊢; first | omega | exact hh | simp_all) | (simp_all; done)) ?_ | refine sat_need (by first | exact trivial | omega | exact ini (by omega) (by omega) | (intro hh; simp at hh; exact ini (by omega) (by omega)) | (intro hh; simp at hh ⊢; omega) | (simp at *; omega) | (simp_all; done)) ?_)
  refine sat_done ?_
  refine exS_normal ?_
  refine ev_ret ?_
  exact FinV.ret rfl (SubP.agg (by repeat (first | exact trivial | exact SubP.refl _ | exact SubP.nilSl rfl | refine ⟨?_, ?_⟩)))

theorem Raise_ok (c : Int) (m : ByteArray) : Fn Tryz.prog 45 [.v (.int .i64 c), .v (.string m)] (.agg (stD (raS c m))) := by
  refine fn_ev tabT Tryz.func45 rfl rfl rfl rfl rfl rfl ?_
  intro w0 s0 mx
  refine ev_seq (ev_region tabT [] 100 rfl ?_)
  repeat (first | refine sat_same ?_ | refine sat_imp (by first | exact fun hh => hh | (intro hh; simp at hh ⊢; first | omega | exact hh | simp_all) | (simp_all; done)) ?_ | refine sat_need (by first | exact trivial | omega | exact ini (by omega) (by omega) | (intro hh; simp at hh; exact ini (by omega) (by omega)) | (intro hh; simp at hh ⊢; omega) | (simp at *; omega) | (simp_all; done)) ?_)
  refine sat_done ?_
  refine exS_normal ?_
  refine ev_seq (ev_region tabT [] 200 rfl ?_)
  repeat (first | refine sat_same ?_ | refine sat_imp (by first | exact fun hh => hh | (intro hh; simp at hh ⊢; first | omega | exact hh | simp_all) | (simp_all; done)) ?_ | refine sat_need (by first | exact trivial | omega | exact ini (by omega) (by omega) | (intro hh; simp at hh; exact ini (by omega) (by omega)) | (intro hh; simp at hh ⊢; omega) | (simp at *; omega) | (simp_all; done)) ?_)
  refine sat_done ?_
  refine exS_normal ?_
  refine ev_ret ?_
  exact FinV.ret rfl (SubP.agg (by repeat (first | exact trivial | exact SubP.refl _ | exact SubP.nilSl rfl | refine ⟨?_, ?_⟩)))

theorem value_ok (v : Vl) : Fn Tryz.prog 44 [.agg (vlD v)] (.agg (stD (vlS v))) := by
  refine fn_ev tabT Tryz.func44 rfl rfl rfl rfl rfl rfl ?_
  intro w0 s0 mx
  refine ev_seq (ev_region tabT [] 100 rfl ?_)
  repeat (first | refine sat_same ?_ | refine sat_imp (by first | exact fun hh => hh | (intro hh; simp at hh ⊢; first | omega | exact hh | simp_all) | (simp_all; done)) ?_ | refine sat_need (by first | exact trivial | omega | exact ini (by omega) (by omega) | (intro hh; simp at hh; exact ini (by omega) (by omega)) | (intro hh; simp at hh ⊢; omega) | (simp at *; omega) | (simp_all; done)) ?_)
  refine sat_done ?_
  refine exS_normal ?_
  refine ev_seq (ev_region tabT [] 200 rfl ?_)
  repeat (first | refine sat_same ?_ | refine sat_imp (by first | exact fun hh => hh | (intro hh; simp at hh ⊢; first | omega | exact hh | simp_all) | (simp_all; done)) ?_ | refine sat_need (by first | exact trivial | omega | exact ini (by omega) (by omega) | (intro hh; simp at hh; exact ini (by omega) (by omega)) | (intro hh; simp at hh ⊢; omega) | (simp at *; omega) | (simp_all; done)) ?_)
  refine sat_done ?_
  refine exS_normal ?_
  refine ev_ret ?_
  exact FinV.ret rfl (SubP.agg (by repeat (first | exact trivial | exact SubP.refl _ | exact SubP.nilSl rfl | refine ⟨?_, ?_⟩)))

theorem Result_ok (v : Vl) : Fn Tryz.prog 46 [.agg (vlD v)] (.agg (stD (vlS v))) := by
  refine fn_ev tabT Tryz.func46 rfl rfl rfl rfl rfl rfl ?_
  intro w0 s0 mx
  refine ev_seq (ev_region tabT [] 100 rfl ?_)
  repeat (first | refine sat_same ?_ | refine sat_imp (by first | exact fun hh => hh | (intro hh; simp at hh ⊢; first | omega | exact hh | simp_all) | (simp_all; done)) ?_ | refine sat_need (by first | exact trivial | omega | exact ini (by omega) (by omega) | (intro hh; simp at hh; exact ini (by omega) (by omega)) | (intro hh; simp at hh ⊢; omega) | (simp at *; omega) | (simp_all; done)) ?_)
  refine sat_done ?_
  refine exS_normal ?_
  refine ev_seq (ev_region tabT [] 200 rfl ?_)
  repeat (first | refine sat_same ?_ | refine sat_imp (by first | exact fun hh => hh | (intro hh; simp at hh ⊢; first | omega | exact hh | simp_all) | (simp_all; done)) ?_ | refine sat_need (by first | exact trivial | omega | exact ini (by omega) (by omega) | (intro hh; simp at hh; exact ini (by omega) (by omega)) | (intro hh; simp at hh ⊢; omega) | (simp at *; omega) | (simp_all; done)) ?_)
  refine sat_done ?_
  refine exS_normal ?_
  refine ev_ret ?_
  exact FinV.ret rfl (SubP.agg (by repeat (first | exact trivial | exact SubP.refl _ | exact SubP.nilSl rfl | refine ⟨?_, ?_⟩)))

theorem heapBool_ok (b : Bool) : Fn Tryz.prog 21 [.v (.bool b)] (.agg (vlD (boV b))) := by
  refine fn_ev tabT Tryz.func21 rfl rfl rfl rfl rfl rfl ?_
  intro w0 s0 mx
  refine ev_seq (ev_region tabT [] 100 rfl ?_)
  repeat (first | refine sat_same ?_ | refine sat_imp (by first | exact fun hh => hh | (intro hh; simp at hh ⊢; first | omega | exact hh | simp_all) | (simp_all; done)) ?_ | refine sat_need (by first | exact trivial | omega | exact ini (by omega) (by omega) | (intro hh; simp at hh; exact ini (by omega) (by omega)) | (intro hh; simp at hh ⊢; omega) | (simp at *; omega) | (simp_all; done)) ?_)
  refine sat_done ?_
  refine exS_normal ?_
  refine ev_seq (ev_region tabT [] 200 rfl ?_)
  repeat (first | refine sat_same ?_ | refine sat_imp (by first | exact fun hh => hh | (intro hh; simp at hh ⊢; first | omega | exact hh | simp_all) | (simp_all; done)) ?_ | refine sat_need (by first | exact trivial | omega | exact ini (by omega) (by omega) | (intro hh; simp at hh; exact ini (by omega) (by omega)) | (intro hh; simp at hh ⊢; omega) | (simp at *; omega) | (simp_all; done)) ?_)
  refine sat_done ?_
  refine exS_normal ?_
  refine ev_seq ?_
  refine ev_seq (ev_region tabT [] 300 rfl ?_)
  repeat (first | refine sat_same ?_ | refine sat_imp (by first | exact fun hh => hh | (intro hh; simp at hh ⊢; first | omega | exact hh | simp_all) | (simp_all; done)) ?_ | refine sat_need (by first | exact trivial | omega | exact ini (by omega) (by omega) | (intro hh; simp at hh; exact ini (by omega) (by omega)) | (intro hh; simp at hh ⊢; omega) | (simp at *; omega) | (simp_all; done)) ?_)
  refine sat_done ?_
  refine exS_normal ?_
  refine ev_cond rfl (fun c2 => ?_) (fun c2 => ?_)
  · subst c2
    refine ev_region tabT [] 400 rfl ?_
    repeat (first | refine sat_same ?_ | refine sat_imp (by first | exact fun hh => hh | (intro hh; simp at hh ⊢; first | omega | exact hh | simp_all) | (simp_all; done)) ?_ | refine sat_need (by first | exact trivial | omega | exact ini (by omega) (by omega) | (intro hh; simp at hh; exact ini (by omega) (by omega)) | (intro hh; simp at hh ⊢; omega) | (simp at *; omega) | (simp_all; done)) ?_)
    refine sat_done ?_
    refine exS_normal ?_
    refine ev_seq (ev_region tabT [] 500 rfl ?_)
    repeat (first | refine sat_same ?_ | refine sat_imp (by first | exact fun hh => hh | (intro hh; simp at hh ⊢; first | omega | exact hh | simp_all) | (simp_all; done)) ?_ | refine sat_need (by first | exact trivial | omega | exact ini (by omega) (by omega) | (intro hh; simp at hh; exact ini (by omega) (by omega)) | (intro hh; simp at hh ⊢; omega) | (simp at *; omega) | (simp_all; done)) ?_)
    refine sat_done ?_
    refine exS_normal ?_
    refine ev_ret ?_
    exact FinV.ret rfl (SubP.agg (by repeat (first | exact trivial | exact SubP.refl _ | exact SubP.nilSl rfl | refine ⟨?_, ?_⟩)))
  · subst c2
    refine ev_skip ?_
    refine exS_normal ?_
    refine ev_seq (ev_region tabT [] 500 rfl ?_)
    repeat (first | refine sat_same ?_ | refine sat_imp (by first | exact fun hh => hh | (intro hh; simp at hh ⊢; first | omega | exact hh | simp_all) | (simp_all; done)) ?_ | refine sat_need (by first | exact trivial | omega | exact ini (by omega) (by omega) | (intro hh; simp at hh; exact ini (by omega) (by omega)) | (intro hh; simp at hh ⊢; omega) | (simp at *; omega) | (simp_all; done)) ?_)
    refine sat_done ?_
    refine exS_normal ?_
    refine ev_ret ?_
    exact FinV.ret rfl (SubP.agg (by repeat (first | exact trivial | exact SubP.refl _ | exact SubP.nilSl rfl | refine ⟨?_, ?_⟩)))

theorem B_ok (b : Bool) : Fn Tryz.prog 22 [.v (.bool b)] (.agg (vlD (boV b))) := by
  refine fn_ev tabT Tryz.func22 rfl rfl rfl rfl rfl rfl ?_
  intro w0 s0 mx
  refine ev_seq (ev_region tabT [] 100 rfl ?_)
  repeat (first | refine sat_same ?_ | refine sat_imp (by first | exact fun hh => hh | (intro hh; simp at hh ⊢; first | omega | exact hh | simp_all) | (simp_all; done)) ?_ | refine sat_need (by first | exact trivial | omega | exact ini (by omega) (by omega) | (intro hh; simp at hh; exact ini (by omega) (by omega)) | (intro hh; simp at hh ⊢; omega) | (simp at *; omega) | (simp_all; done)) ?_)
  refine sat_done ?_
  refine exS_normal ?_
  refine ev_seq ?_
  refine ev_seq (ev_region tabT [] 200 rfl ?_)
  repeat (first | refine sat_same ?_ | refine sat_imp (by first | exact fun hh => hh | (intro hh; simp at hh ⊢; first | omega | exact hh | simp_all) | (simp_all; done)) ?_ | refine sat_need (by first | exact trivial | omega | exact ini (by omega) (by omega) | (intro hh; simp at hh; exact ini (by omega) (by omega)) | (intro hh; simp at hh ⊢; omega) | (simp at *; omega) | (simp_all; done)) ?_)
  refine sat_done ?_
  refine exS_normal ?_
  refine ev_cond rfl (fun c1 => ?_) (fun c1 => ?_)
  · subst c1
    refine ev_seq (ev_region tabT [] 300 rfl ?_)
    repeat (first | refine sat_same ?_ | refine sat_imp (by first | exact fun hh => hh | (intro hh; simp at hh ⊢; first | omega | exact hh | simp_all) | (simp_all; done)) ?_ | refine sat_need (by first | exact trivial | omega | exact ini (by omega) (by omega) | (intro hh; simp at hh; exact ini (by omega) (by omega)) | (intro hh; simp at hh ⊢; omega) | (simp at *; omega) | (simp_all; done)) ?_)
    refine sat_done ?_
    refine exS_normal ?_
    refine ev_ret ?_
    refine exS_ret ?_
    exact FinV.ret rfl (SubP.agg (by repeat (first | exact trivial | exact SubP.refl _ | exact SubP.nilSl rfl | refine ⟨?_, ?_⟩)))
  · subst c1
    refine ev_skip ?_
    refine exS_normal ?_
    refine ev_seq (ev_region tabT [] 400 rfl ?_)
    repeat (first | refine sat_same ?_ | refine sat_imp (by first | exact fun hh => hh | (intro hh; simp at hh ⊢; first | omega | exact hh | simp_all) | (simp_all; done)) ?_ | refine sat_need (by first | exact trivial | omega | exact ini (by omega) (by omega) | (intro hh; simp at hh; exact ini (by omega) (by omega)) | (intro hh; simp at hh ⊢; omega) | (simp at *; omega) | (simp_all; done)) ?_)
    refine sat_done ?_
    refine exS_normal ?_
    refine ev_ret ?_
    exact FinV.ret rfl (SubP.agg (by repeat (first | exact trivial | exact SubP.refl _ | exact SubP.nilSl rfl | refine ⟨?_, ?_⟩)))

theorem SameStep_ok (a b : St) : Fn Tryz.prog 11 [.agg (stD a), .agg (stD b)] (.v (.bool (smSt a b))) := by
  refine fn_ev tabT Tryz.func11 rfl rfl rfl rfl rfl rfl ?_
  intro w0 s0 mx
  refine ev_seq (ev_region tabT [] 100 rfl ?_)
  repeat (first | refine sat_same ?_ | refine sat_imp (by first | exact fun hh => hh | (intro hh; simp at hh ⊢; first | omega | exact hh | simp_all) | (simp_all; done)) ?_ | refine sat_need (by first | exact trivial | omega | exact ini (by omega) (by omega) | (intro hh; simp at hh; exact ini (by omega) (by omega)) | (intro hh; simp at hh ⊢; omega) | (simp at *; omega) | (simp_all; done)) ?_)
  refine sat_done ?_
  refine exS_normal ?_
  refine ev_seq (ev_region tabT [] 200 rfl ?_)
  repeat (first | refine sat_same ?_ | refine sat_imp (by first | exact fun hh => hh | (intro hh; simp at hh ⊢; first | omega | exact hh | simp_all) | (simp_all; done)) ?_ | refine sat_need (by first | exact trivial | omega | exact ini (by omega) (by omega) | (intro hh; simp at hh; exact ini (by omega) (by omega)) | (intro hh; simp at hh ⊢; omega) | (simp at *; omega) | (simp_all; done)) ?_)
  refine sat_fnG _ (fun hg24 => SameValue_ok a.v b.v) rfl ?_
  repeat (first | refine sat_same ?_ | refine sat_imp (by first | exact fun hh => hh | (intro hh; simp at hh ⊢; first | omega | exact hh | simp_all) | (simp_all; done)) ?_ | refine sat_need (by first | exact trivial | omega | exact ini (by omega) (by omega) | (intro hh; simp at hh; exact ini (by omega) (by omega)) | (intro hh; simp at hh ⊢; omega) | (simp at *; omega) | (simp_all; done)) ?_)
  refine sat_fnG _ (fun hg31 => SameValue_ok a.w b.w) rfl ?_
  repeat (first | refine sat_same ?_ | refine sat_imp (by first | exact fun hh => hh | (intro hh; simp at hh ⊢; first | omega | exact hh | simp_all) | (simp_all; done)) ?_ | refine sat_need (by first | exact trivial | omega | exact ini (by omega) (by omega) | (intro hh; simp at hh; exact ini (by omega) (by omega)) | (intro hh; simp at hh ⊢; omega) | (simp at *; omega) | (simp_all; done)) ?_)
  refine sat_fnG _ (fun hg38 => SameValues_ok a.l b.l) rfl ?_
  repeat (first | refine sat_same ?_ | refine sat_imp (by first | exact fun hh => hh | (intro hh; simp at hh ⊢; first | omega | exact hh | simp_all) | (simp_all; done)) ?_ | refine sat_need (by first | exact trivial | omega | exact ini (by omega) (by omega) | (intro hh; simp at hh; exact ini (by omega) (by omega)) | (intro hh; simp at hh ⊢; omega) | (simp at *; omega) | (simp_all; done)) ?_)
  refine sat_done ?_
  refine exS_normal ?_
  refine ev_ret ?_
  exact FinV.ret rfl (SubP.refl _)

end Go.Proofs.YtfkaepjlmgolhaaGreatDoor
