/- Part 29 of the proof. -/
import Derived.Test.YtjlnanhjhfkddaaDoorM28

/- Walks by the evaluator: Problem: what a heap must be. -/
namespace Go.Proofs.YtjlnanhjhfkddaaDoor
open Go.RowKit
variable {md me : Bool}

def sumN (f : Nat → Nat) : Nat → Nat
  | 0 => 0
  | k + 1 => sumN f k + f k
theorem sumN_le {f : Nat → Nat} {B : Nat} (h : ∀ i, f i ≤ B) : ∀ k, sumN f k ≤ k * B
  | 0 => by simp [sumN]
  | k + 1 => by rw [sumN, Nat.add_mul]; have := sumN_le h k; have := h k; omega
/-- The first that is not 0. -/
def fstC : List Int → Int
  | [] => 0
  | c :: l => if c = 0 then fstC l else c
theorem fstC_at : ∀ {l : List Int} {k : Nat}, (∀ j, j < k → l.getD j 0 = 0) → l.getD k 0 ≠ 0 → fstC l = l.getD k 0
  | [], k, _, h => absurd (by simp) h
  | c :: l, 0, _, h => by rw [fstC, if_neg (by simpa using h)]; rfl
  | c :: l, k + 1, h, hk => by
    have h0 : c = 0 := by simpa using h 0 (by omega)
    rw [fstC, if_pos h0, fstC_at (l := l) (k := k) (fun j hj => by simpa using h (j + 1) (by omega)) (by simpa using hk)]
    simp
theorem fstC_none : ∀ {l : List Int}, (∀ j, j < l.length → l.getD j 0 = 0) → fstC l = 0
  | [], _ => rfl
  | c :: l, h => by
    have h0 : c = 0 := by simpa using h 0 (by simp)
    rw [fstC, if_pos h0]
    exact fstC_none fun j hj => by simpa using h (j + 1) (by simp; omega)
def fourS (h : List Ob) (o : Ob) : List Int := [shapeS o, sizesS o, namesS o, valuesS h o]
/-- The code of the first fault of an object; 0 where there is none. -/
noncomputable def codeS (h : List Ob) (i : Nat) : Int :=
  if (i : Int) < 49 then (if obAt h i = bgO i then 0 else 19)
  else if (obAt h i).kind < 0 ∨ 21 ≤ (obAt h i).kind then 5
  else if fstC (fourS h (obAt h i)) = 0 then
    (if linksS h (obAt h i) i = true then (if keyS h (obAt h i) = 0 then (if orderOkS h (obAt h i) i = true then 0 else 19) else keyS h (obAt h i)) else 13)
  else fstC (fourS h (obAt h i))
def nodN (h : List Ob) (i : Nat) : Nat := if (i : Int) < 49 then (obAt h i).refs.length else (obAt h i).items.length + (obAt h i).keys.length + (obAt h i).refs.length
abbrev kvs (o : Ob) : List Vl := o.items ++ o.keys
def bytO (o : Ob) (k : Nat) : Nat := sumN (fun j => ((kvs o).getD j vl0).s.size) k
theorem bytO_succ (o : Ob) (k : Nat) : bytO o (k + 1) = bytO o k + ((kvs o).getD k vl0).s.size := rfl
def bytN (h : List Ob) (i : Nat) : Nat := if (i : Int) < 49 then 0 else bytO (obAt h i) (kvs (obAt h i)).length
/-- What Problem answers. -/
noncomputable def problemS (h : List Ob) : Int × Int :=
  if 5000 < (h.length : Int) then (2, -1) else if (h.length : Int) < 49 then (9, -1)
  else match (List.range h.length).find? (fun i => !decide (codeS h i = 0)) with
    | some i => (codeS h i, i)
    | none => if 20000 < sumN (nodN h) h.length ∨ 200000 < sumN (bytN h) h.length then (14, -1) else (0, 0)
def prD (p : Int × Int) : D := .agg [.v (.int .i64 p.1), .v (.int .i64 p.2)]
noncomputable abbrev okI (h : List Ob) (i : Nat) : Bool := decide (codeS h i = 0)
theorem pr_at {h : List Ob} (h1 : ¬ 5000 < (h.length : Int)) (h2 : ¬ (h.length : Int) < 49) (x : Up h.length (okI h)) (hk : x.k < h.length) {c : Int} (hc : codeS h x.k = c) (hne : c ≠ 0) : problemS h = (c, (x.k : Int)) := by
  subst hc
  have : (List.range h.length).find? (fun i => !decide (codeS h i = 0)) = some x.k := by
    rw [List.find?_range_eq_some]
    exact ⟨by simpa using hne, List.mem_range.2 hk, fun j hj => by have := x.all j hj; simpa using this⟩
  rw [problemS, if_neg h1, if_neg h2, this]
theorem pr_none {h : List Ob} (h1 : ¬ 5000 < (h.length : Int)) (h2 : ¬ (h.length : Int) < 49) (x : Up h.length (okI h)) (hk : ¬ x.k < h.length) : problemS h = if 20000 < sumN (nodN h) h.length ∨ 200000 < sumN (bytN h) h.length then (14, -1) else (0, 0) := by
  have : (List.range h.length).find? (fun i => !decide (codeS h i = 0)) = none := by
    rw [List.find?_range_eq_none]
    exact fun j hj => by have := x.all j (by omega); simpa using this
  rw [problemS, if_neg h1, if_neg h2, this]
theorem bg_at {k : Nat} (hk : (k : Int) < 49) : (bgS 49).getD k ob0 = bgO k := by
  have e : (bgS 49)[k]? = some (bgO k) := by rw [bgS, List.getElem?_map, List.getElem?_range (by omega)]; rfl
  rw [List.getD_eq_getElem?_getD, e]; rfl
theorem nodN_le {h : List Ob} (hh : HpIn h) (i : Nat) : nodN h i ≤ 6000000 := by
  have hO : ObIn (obAt h i) := hh.at i
  have h1 := hO.il; have h2 := hO.kl; have h3 := hO.rl
  unfold nodN
  split <;> omega
theorem bytO_le {o : Ob} (hO : ObIn o) (k : Nat) : bytO o k ≤ k * 2000000 :=
  sumN_le (fun j => by
    have : VlIn ((kvs o).getD j vl0) := vlAt_in (fun v hv => (List.mem_append.1 hv).elim (hO.iv v) (hO.kv v)) j
    exact this.s) k
theorem bytO_le' {o : Ob} (hO : ObIn o) {k : Nat} (hk : k ≤ (kvs o).length) : bytO o k ≤ 8000000000000 := by
  have h1 := bytO_le hO k
  have h2 : (kvs o).length = o.items.length + o.keys.length := List.length_append
  have h3 := hO.il; have h4 := hO.kl
  omega
theorem bytN_le {h : List Ob} (hh : HpIn h) (i : Nat) : bytN h i ≤ 8000000000000 := by
  unfold bytN
  split
  · omega
  · exact bytO_le' (hh.at i) (Nat.le_refl _)

set_option maxHeartbeats 2000000 in
theorem Problem_ok (h : List Ob) (hh : HpIn h) : Fn Tryd.prog 11 [hpD md h] (prD (problemS h)) := by
  have hlh := hh.len
  refine fn_ev tabT Tryd.func11 rfl rfl rfl rfl rfl rfl ?_
  intro w0 s0 mx
  refine ev_seq (ev_region tabT [] 100 rfl ?_)
  repeat (first | refine sat_same ?_ | refine sat_impA ?_ | refine sat_needA ?_)
  refine sat_done ?_
  refine exS_normal ?_
  refine ev_seq ?_
  refine ev_seq (ev_region tabT [] 200 rfl ?_)
  repeat (first | refine sat_same ?_ | refine sat_impA ?_ | refine sat_need (by first | omega | (simp only [List.length_map]; omega)) ?_)
  refine sat_done ?_
  refine exS_normal ?_
  refine ev_cond rfl (fun c1 => ?_) (fun c1 => ?_)
  · replace c1 := of_decide_eq_true c1
    refine ev_seq (ev_region tabT [] 300 rfl ?_)
    repeat (first | refine sat_same ?_ | refine sat_impA ?_ | refine sat_needA ?_)
    refine sat_fn _ (At_ok _ _) rfl ?_
    repeat (first | refine sat_same ?_ | refine sat_impA ?_ | refine sat_needA ?_)
    refine sat_done ?_
    refine exS_normal ?_
    refine ev_ret ?_
    refine exS_ret ?_
    exact FinV.ret rfl (SubP.of_eq (by rw [problemS, if_pos c1]; rfl))
  · replace c1 := of_decide_eq_false c1
    refine ev_skip ?_
    refine exS_normal ?_
    refine ev_seq ?_
    refine ev_seq (ev_region tabT [] 400 rfl ?_)
    repeat (first | refine sat_same ?_ | refine sat_impA ?_ | refine sat_needA ?_)
    refine sat_done ?_
    refine exS_normal ?_
    refine ev_cond rfl (fun c3 => ?_) (fun c3 => ?_)
    · replace c3 := of_decide_eq_true c3
      refine ev_seq (ev_region tabT [] 500 rfl ?_)
      repeat (first | refine sat_same ?_ | refine sat_impA ?_ | refine sat_needA ?_)
      refine sat_fn _ (At_ok _ _) rfl ?_
      repeat (first | refine sat_same ?_ | refine sat_impA ?_ | refine sat_needA ?_)
      refine sat_done ?_
      refine exS_normal ?_
      refine ev_ret ?_
      refine exS_ret ?_
      exact FinV.ret rfl (SubP.of_eq (by rw [problemS, if_neg c1, if_pos c3]; rfl))
    · replace c3 := of_decide_eq_false c3
      refine ev_skip ?_
      refine exS_normal ?_
      refine ev_seq (ev_region tabT [] 600 rfl ?_)
      repeat (first | refine sat_same ?_ | refine sat_impA ?_ | refine sat_needA ?_)
      refine sat_fn _ (Begin_ok) rfl ?_
      repeat (first | refine sat_same ?_ | refine sat_impA ?_ | refine sat_needA ?_)
      refine sat_done ?_
      refine exS_normal ?_
      refine ev_seq (ev_region tabT [] 700 rfl ?_)
      repeat (first | refine sat_same ?_ | refine sat_impA ?_ | refine sat_needA ?_)
      refine sat_done ?_
      refine exS_normal ?_
      refine ev_seq ?_
      refine ev_seq (ev_region tabT [] 800 rfl ?_)
      repeat (first | refine sat_same ?_ | refine sat_impA ?_ | refine sat_needA ?_)
      refine sat_done ?_
      refine exS_normal ?_
      refine ev_block ?_
      refine ev_loopK (ι := Up h.length (okI h)) [1, 2, 3, 25, 26] [0, 1, 401] 850 (fun x => [(27, .v (.int .i64 x.k)), (4, .v (.int .i64 (sumN (nodN h) x.k : Nat))), (5, .v (.int .i64 (sumN (bytN h) x.k : Nat)))]) (fun _ => []) (fun x => h.length - x.k) ⟨0, Nat.zero_le _, fun j hj => by omega⟩ ?_
      refine ⟨⟨(by first | exact trivial | (repeat (first | exact trivial | exact Sub.refl _ | refine ⟨?_, ?_⟩ | exact Sub.int (by first | rfl | omega | (push_cast; omega)) | exact Sub.nilSl | exact Sub.own rfl | exact Sub.slrSl rfl | exact Sub.ownSl (List.map_append).symm | exact Sub.ownSl rfl))), (by repeat (first | exact trivial | exact SubO.same rfl | refine ⟨?_, ?_⟩)), rfl, rfl⟩, fun x => ?_⟩
      have hk := x.le
      refine ev_seq (ev_region tabT [] 900 rfl ?_)
      repeat (first | refine sat_same ?_ | refine sat_impA ?_ | refine sat_needA ?_)
      refine sat_done ?_
      refine exS_normal ?_
      refine ev_seq ?_
      refine ev_cond rfl (fun c8 => ?_) (fun c8 => ?_)
      · replace c8 := of_decide_eq_true c8
        replace c8 : x.k < h.length := by omega
        have hn : inH h (x.k : Int) := ⟨by omega, by omega⟩
        have hO : ObIn (h.getD (x.k : Int).toNat ob0) := hh.at x.k
        have hil := hO.il
        have hkl := hO.kl
        have hrl := hO.rl
        have hb4 := sumN_le (nodN_le hh) x.k
        have hb5 := sumN_le (bytN_le hh) x.k
        have hvl : (kvs (h.getD (x.k : Int).toNat ob0)).length = (h.getD (x.k : Int).toNat ob0).items.length + (h.getD (x.k : Int).toNat ob0).keys.length := List.length_append
        refine ev_skip ?_
        refine exS_normal ?_
        refine ev_seq ?_
        refine ev_block ?_
        refine ev_seq (ev_region tabT [] 1000 rfl ?_)
        repeat (first | refine sat_same ?_ | refine sat_impA ?_ | refine sat_needA ?_)
        refine sat_done ?_
        refine exS_normal ?_
        refine ev_seq ?_
        refine ev_seq (ev_region tabT [] 1100 rfl ?_)
        repeat (first | refine sat_same ?_ | refine sat_impA ?_ | refine sat_needA ?_)
        refine sat_done ?_
        refine exS_normal ?_
        refine ev_cond rfl (fun c10 => ?_) (fun c10 => ?_)
        · replace c10 := of_decide_eq_true c10
          refine ev_seq ?_
          refine ev_seq (ev_drawn tabT [] [[], [], [1], [], [1, 2, 3], [1, 2, 3, 4], [0, 1, 2, 3, 4, 5], [0, 1, 2, 3, 4, 5, 6]] 1200 mixT (by kernel_rfl) rfl ?_)
          repeat (first | refine sat_same ?_ | refine sat_impA ?_ | refine sat_need (by first | exact ⟨by omega, by show _ < (bgS 49).length; rw [bgS_len]; omega⟩ | (simp only [bgS_len]; omega)) ?_)
          refine sat_fn _ (SameObject_ok _ _) rfl ?_
          repeat (first | refine sat_same ?_ | refine sat_impA ?_ | refine sat_need (by first | exact ⟨by omega, by show _ < (bgS 49).length; rw [bgS_len]; omega⟩ | (simp only [bgS_len]; omega)) ?_)
          refine sat_done ?_
          refine exS_normal ?_
          refine ev_cond rfl (fun c11 => ?_) (fun c11 => ?_)
          · replace c11 : (!decide ((h.getD (x.k : Int).toNat ob0) = (bgS 49).getD x.k ob0)) = true := c11
            rw [bg_at c10] at c11
            replace c11 : ¬ obAt h x.k = bgO x.k := by simpa using c11
            refine ev_seq (ev_region tabT [] 1300 rfl ?_)
            repeat (first | refine sat_same ?_ | refine sat_impA ?_ | refine sat_needA ?_)
            refine sat_fn _ (At_ok _ _) rfl ?_
            repeat (first | refine sat_same ?_ | refine sat_impA ?_ | refine sat_needA ?_)
            refine sat_done ?_
            refine exS_normal ?_
            refine ev_ret ?_
            refine exS_ret ?_
            refine exS_ret ?_
            refine exBl_ret ?_
            refine exS_ret ?_
            refine exL_ret ?_
            refine exBl_ret ?_
            refine exS_ret ?_
            exact FinV.ret rfl (SubP.of_eq (by rw [pr_at c1 c3 x c8 (by unfold codeS; rw [if_pos c10, if_neg c11]) (by decide)]; rfl))
          · replace c11 : (!decide ((h.getD (x.k : Int).toNat ob0) = (bgS 49).getD x.k ob0)) = false := c11
            rw [bg_at c10] at c11
            replace c11 : obAt h x.k = bgO x.k := by simpa using c11
            refine ev_skip ?_
            refine exS_normal ?_
            refine ev_seq (ev_region tabT [] 1400 rfl ?_)
            repeat (first | refine sat_same ?_ | refine sat_impA ?_ | refine sat_needA ?_)
            refine sat_done ?_
            refine exS_normal ?_
            refine ev_exit ?_
            refine exS_exit ?_
            refine exBl_same ?_
            refine exS_normal ?_
            refine ev_region tabT [] 3600 rfl ?_
            repeat (first | refine sat_same ?_ | refine sat_impA ?_ | refine sat_needA ?_)
            refine sat_done ?_
            exact exL_normal (x.next c8 (decide_eq_true (show codeS h x.k = 0 by unfold codeS; exact by rw [if_pos c10, if_pos c11]))) ⟨⟨Sub.int (by show _ = ((x.k + 1 : Nat) : Int); push_cast; rfl), Sub.int (by show _ = ((sumN (nodN h) (x.k + 1) : Nat) : Int); rw [sumN, nodN, if_pos c10]; push_cast; rfl), Sub.int (by show _ = ((sumN (bytN h) (x.k + 1) : Nat) : Int); rw [sumN, bytN, if_pos c10, Nat.add_zero]), by repeat (first | exact trivial | exact Sub.refl _ | refine ⟨?_, ?_⟩)⟩, (by repeat (first | exact trivial | exact SubO.same rfl | refine ⟨?_, ?_⟩)), rfl, rfl⟩ (by show h.length - (x.k + 1) < h.length - x.k; omega)
        · replace c10 := of_decide_eq_false c10
          refine ev_skip ?_
          refine exS_normal ?_
          refine ev_seq ?_
          refine ev_seq (ev_region tabT [] 1500 rfl ?_)
          repeat (first | refine sat_same ?_ | refine sat_impA ?_ | refine sat_needA ?_)
          refine sat_done ?_
          refine exS_normal ?_
          refine ev_cond rfl (fun c14 => ?_) (fun c14 => ?_)
          · try simp only [decide_eq_true_eq, Bool.or_eq_true] at c14
            refine ev_seq (ev_region tabT [] 1600 rfl ?_)
            repeat (first | refine sat_same ?_ | refine sat_impA ?_ | refine sat_needA ?_)
            refine sat_fn _ (At_ok _ _) rfl ?_
            repeat (first | refine sat_same ?_ | refine sat_impA ?_ | refine sat_needA ?_)
            refine sat_done ?_
            refine exS_normal ?_
            refine ev_ret ?_
            refine exS_ret ?_
            refine exBl_ret ?_
            refine exS_ret ?_
            refine exL_ret ?_
            refine exBl_ret ?_
            refine exS_ret ?_
            exact FinV.ret rfl (SubP.of_eq (by rw [pr_at c1 c3 x c8 (by unfold codeS; rw [if_neg c10, if_pos c14]) (by decide)]; rfl))
          · have c14n := c14
            try simp only [decide_eq_false_iff_not, Bool.or_eq_false_iff] at c14n
            replace c14 : ¬ ((h.getD (x.k : Int).toNat ob0).kind < 0 ∨ 21 ≤ (h.getD (x.k : Int).toNat ob0).kind) := by omega
            have hkd : 0 ≤ (h.getD (x.k : Int).toNat ob0).kind ∧ (h.getD (x.k : Int).toNat ob0).kind < 21 := by omega
            refine ev_skip ?_
            refine exS_normal ?_
            refine ev_seq ?_
            refine ev_seq (ev_drawn tabT [] [[], [], [0, 1], [], [], [0, 1, 2, 3, 4], [], [], [0, 1, 2, 3, 4, 5, 6, 7], [], [], [0, 1, 2, 3, 4, 5, 6, 7, 8, 9, 10], [0, 1, 2, 3, 4, 5, 6, 7, 8, 9, 10, 11], [0, 1, 2, 3, 4, 5, 6, 7, 8, 9, 10, 11, 12], []] 1700 mixT (by kernel_rfl) rfl ?_)
            repeat (first | refine sat_same ?_ | refine sat_impA ?_ | refine sat_needA ?_)
            refine sat_fn _ (shape_ok _ _ (by first | assumption | omega | (simp_all; done)) (by first | assumption | omega | (simp_all; done))) rfl ?_
            repeat (first | refine sat_same ?_ | refine sat_impA ?_ | refine sat_needA ?_)
            refine sat_fn _ (sizes_ok _ _ (by first | assumption | omega | (simp_all; done)) (by first | assumption | omega | (simp_all; done)) (by first | assumption | omega | (simp_all; done))) rfl ?_
            repeat (first | refine sat_same ?_ | refine sat_impA ?_ | refine sat_needA ?_)
            refine sat_fn _ (names_ok _ _ (by first | assumption | omega | (simp_all; done)) (by first | assumption | omega | (simp_all; done))) rfl ?_
            repeat (first | refine sat_same ?_ | refine sat_impA ?_ | refine sat_needA ?_)
            refine sat_fn _ (values_ok _ _ (by first | assumption | omega | (simp_all; done)) (by first | assumption | omega | (simp_all; done))) rfl ?_
            repeat (first | refine sat_same ?_ | refine sat_impA ?_ | refine sat_needA ?_)
            refine sat_done ?_
            refine exS_normal ?_
            refine ev_tell [1, 2, 3, 4, 5, 6, 7, 25, 26, 27] [0, 1, 401, 903] 1710 [(71, isD (fourS h (h.getD (x.k : Int).toNat ob0))), (72, .v (.int .i64 4)), (73, .v (.int .i64 0))] [] ?_
            refine ⟨⟨⟨Sub.slrSl rfl, Sub.refl _, Sub.refl _, by repeat (first | exact trivial | exact Sub.refl _ | refine ⟨?_, ?_⟩)⟩, (by repeat (first | exact trivial | exact SubO.same rfl | refine ⟨?_, ?_⟩)), rfl, rfl⟩, ?_⟩
            refine ev_block ?_
            refine ev_loopK (ι := Up 4 (fun j => decide ((fourS h (h.getD (x.k : Int).toNat ob0)).getD j 0 = 0))) [1, 2, 3, 4, 5, 6, 7, 25, 26, 27, 71, 72] [0, 1, 401, 903] 1750 (fun y => [(73, .v (.int .i64 y.k))]) (fun _ => []) (fun y => 4 - y.k) ⟨0, Nat.zero_le _, fun j hj => by omega⟩ ?_
            refine ⟨⟨(by first | exact trivial | (repeat (first | exact trivial | exact Sub.refl _ | refine ⟨?_, ?_⟩ | exact Sub.int (by first | rfl | omega | (push_cast; omega)) | exact Sub.nilSl | exact Sub.own rfl | exact Sub.slrSl rfl | exact Sub.ownSl (List.map_append).symm | exact Sub.ownSl rfl))), (by repeat (first | exact trivial | exact SubO.same rfl | refine ⟨?_, ?_⟩)), rfl, rfl⟩, fun y => ?_⟩
            have hky := y.le
            refine ev_seq (ev_region tabT [] 1800 rfl ?_)
            repeat (first | refine sat_same ?_ | refine sat_impA ?_ | refine sat_needA ?_)
            refine sat_done ?_
            refine exS_normal ?_
            refine ev_seq ?_
            refine ev_cond rfl (fun c17 => ?_) (fun c17 => ?_)
            · replace c17 := of_decide_eq_true c17
              replace c17 : y.k < 4 := by omega
              have hy : ∀ j, j < y.k → (fourS h (h.getD (x.k : Int).toNat ob0)).getD j 0 = 0 := fun j hj => of_decide_eq_true (y.all j hj)
              refine ev_skip ?_
              refine exS_normal ?_
              refine ev_seq ?_
              refine ev_block ?_
              refine ev_seq (ev_region tabT [] 1900 rfl ?_)
              repeat (first | refine sat_same ?_ | refine sat_impA ?_ | refine sat_need (by exact ⟨by omega, by show _ < 4; omega⟩) ?_)
              refine sat_done ?_
              refine exS_normal ?_
              refine ev_seq (ev_region tabT [] 2000 rfl ?_)
              repeat (first | refine sat_same ?_ | refine sat_impA ?_ | refine sat_needA ?_)
              refine sat_done ?_
              refine exS_normal ?_
              refine ev_cond rfl (fun c19 => ?_) (fun c19 => ?_)
              · replace c19 : ¬ (fourS h (h.getD (x.k : Int).toNat ob0)).getD y.k 0 = 0 := by simpa using c19
                refine ev_seq (ev_region tabT [] 2100 rfl ?_)
                repeat (first | refine sat_same ?_ | refine sat_impA ?_ | refine sat_needA ?_)
                refine sat_fn _ (At_ok _ _) rfl ?_
                repeat (first | refine sat_same ?_ | refine sat_impA ?_ | refine sat_needA ?_)
                refine sat_done ?_
                refine exS_normal ?_
                refine ev_ret ?_
                refine exBl_ret ?_
                refine exS_ret ?_
                refine exL_ret ?_
                refine exBl_ret ?_
                refine exS_ret ?_
                refine exBl_ret ?_
                refine exS_ret ?_
                refine exL_ret ?_
                refine exBl_ret ?_
                refine exS_ret ?_
                exact FinV.ret rfl (SubP.of_eq (by rw [pr_at c1 c3 x c8 (by unfold codeS; rw [if_neg c10, if_neg c14, if_neg (by rw [fstC_at hy c19]; exact c19), fstC_at hy c19]) (c19)]; rfl))
              · replace c19 : (fourS h (h.getD (x.k : Int).toNat ob0)).getD y.k 0 = 0 := by simpa using c19
                refine ev_skip ?_
                refine exBl_normal ?_
                refine exS_normal ?_
                refine ev_region tabT [] 2200 rfl ?_
                repeat (first | refine sat_same ?_ | refine sat_impA ?_ | refine sat_needA ?_)
                refine sat_done ?_
                exact exL_normal (y.next c17 (decide_eq_true c19)) ⟨⟨Sub.int (by show _ = ((y.k + 1 : Nat) : Int); push_cast; rfl), by repeat (first | exact trivial | exact Sub.refl _ | refine ⟨?_, ?_⟩)⟩, (by repeat (first | exact trivial | exact SubO.same rfl | refine ⟨?_, ?_⟩)), rfl, rfl⟩ (by show 4 - (y.k + 1) < 4 - y.k; omega)
            · replace c17 := of_decide_eq_false c17
              have hyk4 : y.k = 4 := by omega
              have hy : ∀ j, j < 4 → (fourS h (h.getD (x.k : Int).toNat ob0)).getD j 0 = 0 := fun j hj => of_decide_eq_true (y.all j (by omega))
              have h4 : fstC (fourS h (h.getD (x.k : Int).toNat ob0)) = 0 := fstC_none hy
              have hsh : shapeS (h.getD (x.k : Int).toNat ob0) = 0 := hy 0 (by omega)
              have hvs : valuesS h (h.getD (x.k : Int).toNat ob0) = 0 := hy 3 (by omega)
              have hV : Vs h (h.getD (x.k : Int).toNat ob0) := vs_of hvs
              refine ev_exit ?_
              refine exS_exit ?_
              refine exL_exit ?_
              refine exBl_same ?_
              refine exS_normal ?_
              refine ev_seq ?_
              refine ev_seq (ev_region tabT [] 2300 rfl ?_)
              repeat (first | refine sat_same ?_ | refine sat_impA ?_ | refine sat_needA ?_)
              refine sat_fn _ (links_ok _ _ (by first | assumption | omega | (simp_all; done)) (by first | assumption | omega | (simp_all; done)) (by first | assumption | omega | (simp_all; done)) (by first | assumption | omega | (simp_all; done))) rfl ?_
              repeat (first | refine sat_same ?_ | refine sat_impA ?_ | refine sat_needA ?_)
              refine sat_done ?_
              refine exS_normal ?_
              refine ev_cond rfl (fun c22 => ?_) (fun c22 => ?_)
              · replace c22 : ¬ linksS h (obAt h x.k) x.k = true := by simpa using c22
                refine ev_seq (ev_region tabT [] 2400 rfl ?_)
                repeat (first | refine sat_same ?_ | refine sat_impA ?_ | refine sat_needA ?_)
                refine sat_fn _ (At_ok _ _) rfl ?_
                repeat (first | refine sat_same ?_ | refine sat_impA ?_ | refine sat_needA ?_)
                refine sat_done ?_
                refine exS_normal ?_
                refine ev_ret ?_
                refine exS_ret ?_
                refine exBl_ret ?_
                refine exS_ret ?_
                refine exL_ret ?_
                refine exBl_ret ?_
                refine exS_ret ?_
                exact FinV.ret rfl (SubP.of_eq (by rw [pr_at c1 c3 x c8 (by unfold codeS; rw [if_neg c10, if_neg c14, if_pos h4, if_neg c22]) (by decide)]; rfl))
              · replace c22 : linksS h (obAt h x.k) x.k = true := by simpa using c22
                refine ev_skip ?_
                refine exS_normal ?_
                refine ev_seq ?_
                refine ev_seq (ev_region tabT [] 2500 rfl ?_)
                repeat (first | refine sat_same ?_ | refine sat_impA ?_ | refine sat_needA ?_)
                refine sat_fn _ (keyRule_ok _ _ (by first | assumption | omega | (simp_all; done)) (by first | assumption | omega | (simp_all; done))) rfl ?_
                repeat (first | refine sat_same ?_ | refine sat_impA ?_ | refine sat_needA ?_)
                refine sat_done ?_
                refine exS_normal ?_
                refine ev_seq (ev_region tabT [] 2600 rfl ?_)
                repeat (first | refine sat_same ?_ | refine sat_impA ?_ | refine sat_needA ?_)
                refine sat_done ?_
                refine exS_normal ?_
                refine ev_cond rfl (fun c25 => ?_) (fun c25 => ?_)
                · replace c25 : ¬ keyS h (obAt h x.k) = 0 := by simpa using c25
                  refine ev_seq (ev_region tabT [] 2700 rfl ?_)
                  repeat (first | refine sat_same ?_ | refine sat_impA ?_ | refine sat_needA ?_)
                  refine sat_fn _ (At_ok _ _) rfl ?_
                  repeat (first | refine sat_same ?_ | refine sat_impA ?_ | refine sat_needA ?_)
                  refine sat_done ?_
                  refine exS_normal ?_
                  refine ev_ret ?_
                  refine exS_ret ?_
                  refine exBl_ret ?_
                  refine exS_ret ?_
                  refine exL_ret ?_
                  refine exBl_ret ?_
                  refine exS_ret ?_
                  exact FinV.ret rfl (SubP.of_eq (by rw [pr_at c1 c3 x c8 (by unfold codeS; rw [if_neg c10, if_neg c14, if_pos h4, if_pos c22, if_neg c25]) (c25)]; rfl))
                · replace c25 : keyS h (obAt h x.k) = 0 := by simpa using c25
                  refine ev_skip ?_
                  refine exS_normal ?_
                  refine ev_seq ?_
                  refine ev_seq (ev_region tabT [] 2800 rfl ?_)
                  repeat (first | refine sat_same ?_ | refine sat_impA ?_ | refine sat_needA ?_)
                  refine sat_fn _ (orderOk_ok _ _ hn hh (fun _ r hr => isObj_in (hV.refs r hr))) rfl ?_
                  repeat (first | refine sat_same ?_ | refine sat_impA ?_ | refine sat_needA ?_)
                  refine sat_done ?_
                  refine exS_normal ?_
                  refine ev_cond rfl (fun c27 => ?_) (fun c27 => ?_)
                  · replace c27 : ¬ orderOkS h (obAt h x.k) x.k = true := by simpa using c27
                    refine ev_seq (ev_region tabT [] 2900 rfl ?_)
                    repeat (first | refine sat_same ?_ | refine sat_impA ?_ | refine sat_needA ?_)
                    refine sat_fn _ (At_ok _ _) rfl ?_
                    repeat (first | refine sat_same ?_ | refine sat_impA ?_ | refine sat_needA ?_)
                    refine sat_done ?_
                    refine exS_normal ?_
                    refine ev_ret ?_
                    refine exS_ret ?_
                    refine exBl_ret ?_
                    refine exS_ret ?_
                    refine exL_ret ?_
                    refine exBl_ret ?_
                    refine exS_ret ?_
                    exact FinV.ret rfl (SubP.of_eq (by rw [pr_at c1 c3 x c8 (by unfold codeS; rw [if_neg c10, if_neg c14, if_pos h4, if_pos c22, if_pos c25, if_neg c27]) (by decide)]; rfl))
                  · replace c27 : orderOkS h (obAt h x.k) x.k = true := by simpa using c27
                    refine ev_skip ?_
                    refine exS_normal ?_
                    refine ev_seq (ev_region tabT [] 3000 rfl ?_)
                    repeat (first | refine sat_same ?_ | refine sat_impA ?_ | refine sat_needA ?_)
                    refine sat_done ?_
                    refine exS_normal ?_
                    refine ev_seq (ev_drawn tabT [118] [[], [0], [0, 1], [], [3], [0, 1, 2, 3, 4], [0, 1, 2, 3, 4, 5], []] 3100 mixT (by kernel_rfl) rfl ?_)
                    repeat (first | refine sat_same ?_ | refine sat_impA ?_ | refine sat_need (by first | rfl | omega | (simp only [List.length_map]; omega)) ?_)
                    refine sat_fnO _ _ _ (CloneV_ok _ (by first | assumption | omega | (simp_all; done))) ?_
                    repeat (first | refine sat_same ?_ | refine sat_impA ?_ | refine sat_need (by first | rfl | omega | (simp only [List.length_map]; omega)) ?_)
                    refine sat_done ?_
                    refine exS_normal ?_
                    refine ev_tell [1, 2, 3, 4, 5, 25, 26, 27] [0, 1, 401] 3110 [(121, .sl false 7 (kvs (h.getD (x.k : Int).toNat ob0)) vlD vl0), (122, .v (.int .i64 (kvs (h.getD (x.k : Int).toNat ob0)).length)), (123, .v (.int .i64 0))] [] ?_
                    refine ⟨⟨⟨Sub.ownSl (by rw [← List.map_append]), Sub.int (by simp), Sub.refl _, by repeat (first | exact trivial | exact Sub.refl _ | refine ⟨?_, ?_⟩)⟩, (by repeat (first | exact trivial | exact SubO.same rfl | refine ⟨?_, ?_⟩)), rfl, rfl⟩, ?_⟩
                    refine ev_block ?_
                    refine ev_loopK (ι := Up (kvs (h.getD (x.k : Int).toNat ob0)).length (fun _ => true)) [1, 2, 3, 4, 25, 26, 27, 121, 122] [0, 1, 401] 3150 (fun z => [(123, .v (.int .i64 z.k)), (5, .v (.int .i64 ((sumN (bytN h) x.k + bytO (h.getD (x.k : Int).toNat ob0) z.k : Nat) : Int)))]) (fun _ => []) (fun z => (kvs (h.getD (x.k : Int).toNat ob0)).length - z.k) ⟨0, Nat.zero_le _, fun j hj => by omega⟩ ?_
                    refine ⟨⟨(by first | exact trivial | (repeat (first | exact trivial | exact Sub.refl _ | refine ⟨?_, ?_⟩ | exact Sub.int (by first | rfl | omega | (push_cast; omega)) | exact Sub.nilSl | exact Sub.own rfl | exact Sub.slrSl rfl | exact Sub.ownSl (List.map_append).symm | exact Sub.ownSl rfl))), (by repeat (first | exact trivial | exact SubO.same rfl | refine ⟨?_, ?_⟩)), rfl, rfl⟩, fun z => ?_⟩
                    have hkz := z.le
                    refine ev_seq (ev_region tabT [] 3200 rfl ?_)
                    repeat (first | refine sat_same ?_ | refine sat_impA ?_ | refine sat_needA ?_)
                    refine sat_done ?_
                    refine exS_normal ?_
                    refine ev_seq ?_
                    refine ev_cond rfl (fun c31 => ?_) (fun c31 => ?_)
                    · replace c31 := of_decide_eq_true c31
                      replace c31 : z.k < (kvs (h.getD (x.k : Int).toNat ob0)).length := by omega
                      have hb6 := bytO_le' hO z.le
                      have hvz : VlIn ((kvs (h.getD (x.k : Int).toNat ob0)).getD z.k vl0) := vlAt_in (fun v hv => (List.mem_append.1 hv).elim (hO.iv v) (hO.kv v)) z.k
                      have hvs6 : ((kvs (h.getD (x.k : Int).toNat ob0)).getD (z.k : Int).toNat vl0).s.size ≤ 2000000 := hvz.s
                      refine ev_skip ?_
                      refine exS_normal ?_
                      refine ev_seq ?_
                      refine ev_block ?_
                      refine ev_seq (ev_region tabT [] 3300 rfl ?_)
                      repeat (first | refine sat_same ?_ | refine sat_impA ?_ | refine sat_needA ?_)
                      refine sat_done ?_
                      refine exS_normal ?_
                      refine ev_region tabT [] 3400 rfl ?_
                      repeat (first | refine sat_same ?_ | refine sat_impA ?_ | refine sat_need (by first | exact ini (by omega) (by omega) | omega) ?_)
                      refine sat_done ?_
                      refine exBl_normal ?_
                      refine exS_normal ?_
                      refine ev_region tabT [] 3500 rfl ?_
                      repeat (first | refine sat_same ?_ | refine sat_impA ?_ | refine sat_needA ?_)
                      refine sat_done ?_
                      exact exL_normal (z.next c31 rfl) ⟨⟨Sub.int (by show _ = ((z.k + 1 : Nat) : Int); push_cast; rfl), Sub.int (by show _ = ((sumN (bytN h) x.k + bytO (h.getD (x.k : Int).toNat ob0) (z.k + 1) : Nat) : Int); rw [bytO_succ]; simp only [Int.toNat_natCast]; push_cast; omega), by repeat (first | exact trivial | exact Sub.refl _ | refine ⟨?_, ?_⟩)⟩, (by repeat (first | exact trivial | exact SubO.same rfl | refine ⟨?_, ?_⟩)), rfl, rfl⟩ (by show (kvs (h.getD (x.k : Int).toNat ob0)).length - (z.k + 1) < (kvs (h.getD (x.k : Int).toNat ob0)).length - z.k; omega)
                    · replace c31 := of_decide_eq_false c31
                      have hyk : z.k = (kvs (h.getD (x.k : Int).toNat ob0)).length := by have := z.le; omega
                      refine ev_exit ?_
                      refine exS_exit ?_
                      refine exL_exit ?_
                      refine exBl_same ?_
                      refine exBl_normal ?_
                      refine exS_normal ?_
                      refine ev_region tabT [] 3600 rfl ?_
                      repeat (first | refine sat_same ?_ | refine sat_impA ?_ | refine sat_needA ?_)
                      refine sat_done ?_
                      exact exL_normal (x.next c8 (decide_eq_true (show codeS h x.k = 0 by unfold codeS; exact by rw [if_neg c10, if_neg c14, if_pos h4, if_pos c22, if_pos c25, if_pos c27]))) ⟨⟨Sub.int (by show _ = ((x.k + 1 : Nat) : Int); push_cast; rfl), Sub.int (by show _ = ((sumN (nodN h) (x.k + 1) : Nat) : Int); rw [sumN, nodN, if_neg c10]; push_cast; rfl), Sub.int (by show _ = ((sumN (bytN h) (x.k + 1) : Nat) : Int); rw [sumN, bytN, if_neg c10]; rw [show bytO (obAt h x.k) (kvs (obAt h x.k)).length = bytO (h.getD (x.k : Int).toNat ob0) z.k from (congrArg (bytO (h.getD (x.k : Int).toNat ob0)) hyk).symm]; try (push_cast; rfl)), by repeat (first | exact trivial | exact Sub.refl _ | refine ⟨?_, ?_⟩)⟩, (by repeat (first | exact trivial | exact SubO.same rfl | refine ⟨?_, ?_⟩)), rfl, rfl⟩ (by show h.length - (x.k + 1) < h.length - x.k; omega)
      · replace c8 := of_decide_eq_false c8
        replace c8 : ¬ x.k < h.length := by omega
        have hxk : x.k = h.length := by omega
        refine ev_exit ?_
        refine exS_exit ?_
        refine exL_exit ?_
        refine exBl_same ?_
        refine exS_normal ?_
        refine ev_seq ?_
        refine ev_seq (ev_region tabT [] 3700 rfl ?_)
        repeat (first | refine sat_same ?_ | refine sat_impA ?_ | refine sat_needA ?_)
        refine sat_done ?_
        refine exS_normal ?_
        refine ev_cond rfl (fun c36 => ?_) (fun c36 => ?_)
        · try simp only [decide_eq_true_eq, Bool.or_eq_true] at c36
          refine ev_seq (ev_region tabT [] 3800 rfl ?_)
          repeat (first | refine sat_same ?_ | refine sat_impA ?_ | refine sat_needA ?_)
          refine sat_fn _ (At_ok _ _) rfl ?_
          repeat (first | refine sat_same ?_ | refine sat_impA ?_ | refine sat_needA ?_)
          refine sat_done ?_
          refine exS_normal ?_
          refine ev_ret ?_
          refine exS_ret ?_
          exact FinV.ret rfl (SubP.of_eq (by rw [pr_none c1 c3 x c8, if_pos (by rw [hxk] at c36; omega)]; rfl))
        · try simp only [decide_eq_false_iff_not, Bool.or_eq_false_iff] at c36
          refine ev_skip ?_
          refine exS_normal ?_
          refine ev_seq (ev_region tabT [] 3900 rfl ?_)
          repeat (first | refine sat_same ?_ | refine sat_impA ?_ | refine sat_needA ?_)
          refine sat_done ?_
          refine exS_normal ?_
          refine ev_ret ?_
          exact FinV.ret rfl (SubP.of_eq (by rw [pr_none c1 c3 x c8, if_neg (by rw [hxk] at c36; omega)]; rfl))

end Go.Proofs.YtjlnanhjhfkddaaDoor
