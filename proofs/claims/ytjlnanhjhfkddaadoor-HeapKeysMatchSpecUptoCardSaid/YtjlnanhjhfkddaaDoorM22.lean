/- Part 22 of the proof. -/
import Derived.Test.YtjlnanhjhfkddaaDoorM20
import Derived.Test.YtjlnanhjhfkddaaDoorM21

/- Walks by the evaluator: heap.Parts, heap.IsKey, heap.SameKey. -/
namespace Go.Proofs.YtjlnanhjhfkddaaDoor
open Go.RowKit
variable {md me : Bool}

/-- Parts of the items, one after another, from n on. -/
def prF (g : Nat → Vl → Nat) (m : Nat) : List Vl → Nat → Nat
  | [], n => n
  | w :: l, n => if g (m - n) w = 0 then 0 else prF g m l (n + g (m - n) w)
def stepP (h : List Ob) (g : Nat → Vl → Nat) (m : Nat) (v : Vl) : Nat :=
  if v.k = 9 ∨ m = 0 then 0 else if ¬ v.k = 6 then 1 else if isObj h v.r = false then 0
  else if (obAt h v.r).kind = 2 ∨ (obAt h v.r).kind = 3 ∨ (obAt h v.r).kind = 4 ∨ (obAt h v.r).kind = 5 then 0
  else if (obAt h v.r).kind = 1 then prF g m (obAt h v.r).items 1 else 1
theorem drop_gd {α : Type} {l : List α} {k : Nat} (hk : k < l.length) (e : α) : l.drop k = l.getD k e :: l.drop (k + 1) := by
  rw [List.drop_eq_getElem_cons hk, List.getD_eq_getElem?_getD, List.getElem?_eq_getElem hk]; rfl
theorem and5 : ∀ a b c d e : Bool, ((((a && b) && c) && d) && e) = ((((a && e) && d) && b) && c) := by decide
structure Pq (g : Nat → Vl → Nat) (m : Nat) (l : List Vl) where
  k : Nat
  n : Nat
  le : k ≤ l.length
  n1 : 1 ≤ n
  nm : n ≤ m
  eq : prF g m (l.drop k) n = prF g m l 1
def Pq.next {g : Nat → Vl → Nat} {m : Nat} {l : List Vl} (x : Pq g m l) (hg : ∀ k w, g k w ≤ k) (hk : x.k < l.length) (h0 : ¬ g (m - x.n) (l.getD x.k vl0) = 0) : Pq g m l :=
  ⟨x.k + 1, x.n + g (m - x.n) (l.getD x.k vl0), hk, by have := x.n1; omega, by have := hg (m - x.n) (l.getD x.k vl0); have := x.nm; omega, by
    rw [← x.eq, drop_gd hk vl0, prF, if_neg h0]⟩
theorem Pq.no {g : Nat → Vl → Nat} {m : Nat} {l : List Vl} (x : Pq g m l) (hk : x.k < l.length) (h0 : g (m - x.n) (l.getD x.k vl0) = 0) : prF g m l 1 = 0 := by
  rw [← x.eq, drop_gd hk vl0, prF, if_pos h0]
theorem Pq.fin {g : Nat → Vl → Nat} {m : Nat} {l : List Vl} (x : Pq g m l) (hk : l.length ≤ x.k) : prF g m l 1 = x.n := by
  rw [← x.eq, List.drop_of_length_le hk, prF]

theorem exists_ok (h : List Ob) (n : Int) : Fn Tryd.prog 32 [hpD md h, .v (.int .i64 n)] (.v (.bool (isObj h n))) := by
  refine fn_ev tabT Tryd.func32 rfl rfl rfl rfl rfl rfl ?_
  intro w0 s0 mx
  refine ev_seq (ev_region tabT [] 100 rfl ?_)
  repeat (first | refine sat_same ?_ | refine sat_impA ?_ | refine sat_needA ?_)
  refine sat_done ?_
  refine exS_normal ?_
  refine ev_seq (ev_region tabT [] 200 rfl ?_)
  repeat (first | refine sat_same ?_ | refine sat_impA ?_ | refine sat_needA ?_)
  refine sat_done ?_
  refine exS_normal ?_
  refine ev_ret ?_
  exact FinV.ret rfl (SubP.refl _)

theorem heapSameInt_ok (b1 b2 : Bool) (l1 l2 : List Nat) : Fn Tryd.prog 33 [.agg [.v (.bool b1), usD l1], .agg [.v (.bool b2), usD l2]] (.v (.bool (smI b1 l1 b2 l2))) := by
  refine fn_ev tabT Tryd.func33 rfl rfl rfl rfl rfl rfl ?_
  intro w0 s0 mx
  refine ev_seq (ev_region tabT [] 100 rfl ?_)
  repeat (first | refine sat_same ?_ | refine sat_impA ?_ | refine sat_needA ?_)
  refine sat_done ?_
  refine exS_normal ?_
  refine ev_seq (ev_region tabT [] 200 rfl ?_)
  repeat (first | refine sat_same ?_ | refine sat_impA ?_ | refine sat_needA ?_)
  refine sat_fnG _ (fun hg10 => EqualU_ok _ _) rfl ?_
  repeat (first | refine sat_same ?_ | refine sat_impA ?_ | refine sat_needA ?_)
  refine sat_done ?_
  refine exS_normal ?_
  refine ev_ret ?_
  exact FinV.ret rfl (SubP.refl _)

theorem heapSameValue_ok (a b : Vl) : Fn Tryd.prog 16 [.agg (vlD a), .agg (vlD b)] (.v (.bool (decide (a = b)))) := by
  refine fn_ev tabT Tryd.func16 rfl rfl rfl rfl rfl rfl ?_
  intro w0 s0 mx
  refine ev_seq (ev_region tabT [] 100 rfl ?_)
  repeat (first | refine sat_same ?_ | refine sat_impA ?_ | refine sat_needA ?_)
  refine sat_done ?_
  refine exS_normal ?_
  refine ev_seq (ev_region tabT [] 200 rfl ?_)
  repeat (first | refine sat_same ?_ | refine sat_impA ?_ | refine sat_needA ?_)
  refine sat_fnG _ (fun hg10 => heapSameInt_ok _ _ _ _) rfl ?_
  repeat (first | refine sat_same ?_ | refine sat_impA ?_ | refine sat_needA ?_)
  refine sat_fnG _ (fun hg17 => heapSameInt_ok _ _ _ _) rfl ?_
  repeat (first | refine sat_same ?_ | refine sat_impA ?_ | refine sat_needA ?_)
  refine sat_done ?_
  refine exS_normal ?_
  refine ev_ret ?_
  exact FinV.ret rfl (SubP.bool ((and5 _ _ _ _ _).trans (smV_eq a b)))

theorem parts_step (h : List Ob) (v : Vl) (m : Nat) (g : Nat → Vl → Nat) (hh : HpIn h) (hm : m ≤ 1000) (hg : ∀ k w, g k w ≤ k) (H : ∀ x, ∀ k, k < m → Fn Tryd.prog 15 [hpD md h, .agg (vlD x), .v (.int .i64 (k : Nat))] (.v (.int .i64 (g k x : Nat)))) : Fn Tryd.prog 15 [hpD md h, .agg (vlD v), .v (.int .i64 (m : Nat))] (.v (.int .i64 (stepP h g m v : Nat))) := by
  refine fn_ev tabT Tryd.func15 rfl rfl rfl rfl rfl rfl ?_
  intro w0 s0 mx
  refine ev_seq (ev_region tabT [] 100 rfl ?_)
  repeat (first | refine sat_same ?_ | refine sat_impA ?_ | refine sat_needA ?_)
  refine sat_done ?_
  refine exS_normal ?_
  refine ev_seq ?_
  refine ev_seq (ev_region tabT [] 200 rfl ?_)
  repeat (first | refine sat_same ?_ | refine sat_impA ?_ | refine sat_needA ?_)
  refine sat_done ?_
  refine exS_normal ?_
  refine ev_cond rfl (fun c1 => ?_) (fun c1 => ?_)
  · replace c1 : v.k = 9 ∨ (m : Int) = 0 := by simpa using c1
    refine ev_seq (ev_region tabT [] 300 rfl ?_)
    repeat (first | refine sat_same ?_ | refine sat_impA ?_ | refine sat_needA ?_)
    refine sat_done ?_
    refine exS_normal ?_
    refine ev_ret ?_
    refine exS_ret ?_
    exact FinV.ret rfl (SubP.of_eq (by rw [stepP, if_pos (show v.k = 9 ∨ m = 0 by omega)]; rfl))
  · replace c1 : ¬ (v.k = 9 ∨ (m : Int) = 0) := by simpa using c1
    refine ev_skip ?_
    refine exS_normal ?_
    refine ev_seq ?_
    refine ev_seq (ev_region tabT [] 400 rfl ?_)
    repeat (first | refine sat_same ?_ | refine sat_impA ?_ | refine sat_needA ?_)
    refine sat_done ?_
    refine exS_normal ?_
    refine ev_cond rfl (fun c3 => ?_) (fun c3 => ?_)
    · try simp only [decide_eq_true_eq, decide_eq_false_iff_not, Bool.not_eq_true', Bool.not_eq_false', Bool.and_eq_true, Bool.or_eq_true, Bool.or_eq_false_iff, gt_iff_lt, Int.not_lt, Bool.not_true, Bool.not_false, Int.ofNat_lt, Int.ofNat_le] at c3
      refine ev_seq (ev_region tabT [] 500 rfl ?_)
      repeat (first | refine sat_same ?_ | refine sat_impA ?_ | refine sat_needA ?_)
      refine sat_done ?_
      refine exS_normal ?_
      refine ev_ret ?_
      refine exS_ret ?_
      exact FinV.ret rfl (SubP.of_eq (by rw [stepP, if_neg (show ¬ (v.k = 9 ∨ m = 0) by omega), if_pos c3]; rfl))
    · try simp only [decide_eq_true_eq, decide_eq_false_iff_not, Bool.not_eq_true', Bool.not_eq_false', Bool.and_eq_true, Bool.or_eq_true, Bool.or_eq_false_iff, gt_iff_lt, Int.not_lt, Bool.not_true, Bool.not_false, Int.ofNat_lt, Int.ofNat_le] at c3
      refine ev_skip ?_
      refine exS_normal ?_
      refine ev_seq ?_
      refine ev_seq (ev_region tabT [] 600 rfl ?_)
      repeat (first | refine sat_same ?_ | refine sat_impA ?_ | refine sat_needA ?_)
      refine sat_fn _ (exists_ok _ _) rfl ?_
      repeat (first | refine sat_same ?_ | refine sat_impA ?_ | refine sat_needA ?_)
      refine sat_done ?_
      refine exS_normal ?_
      refine ev_cond rfl (fun c5 => ?_) (fun c5 => ?_)
      · try simp only [decide_eq_true_eq, decide_eq_false_iff_not, Bool.not_eq_true', Bool.not_eq_false', Bool.and_eq_true, Bool.or_eq_true, Bool.or_eq_false_iff, gt_iff_lt, Int.not_lt, Bool.not_true, Bool.not_false, Int.ofNat_lt, Int.ofNat_le] at c5
        refine ev_seq (ev_region tabT [] 700 rfl ?_)
        repeat (first | refine sat_same ?_ | refine sat_impA ?_ | refine sat_needA ?_)
        refine sat_done ?_
        refine exS_normal ?_
        refine ev_ret ?_
        refine exS_ret ?_
        exact FinV.ret rfl (SubP.of_eq (by rw [stepP, if_neg (show ¬ (v.k = 9 ∨ m = 0) by omega), if_neg (not_not_intro c3), if_pos c5]; rfl))
      · try simp only [decide_eq_true_eq, decide_eq_false_iff_not, Bool.not_eq_true', Bool.not_eq_false', Bool.and_eq_true, Bool.or_eq_true, Bool.or_eq_false_iff, gt_iff_lt, Int.not_lt, Bool.not_true, Bool.not_false, Int.ofNat_lt, Int.ofNat_le] at c5
        refine ev_skip ?_
        refine exS_normal ?_
        refine ev_seq (ev_region tabT [] 800 rfl ?_)
        repeat (first | refine sat_same ?_ | refine sat_impA ?_ | refine sat_needA ?_)
        refine sat_done ?_
        refine exS_normal ?_
        refine ev_seq ?_
        refine ev_seq (ev_region tabT [] 900 rfl ?_)
        repeat (first | refine sat_same ?_ | refine sat_impA ?_ | refine sat_need (by exact isObj_in c5) ?_)
        refine sat_done ?_
        refine exS_normal ?_
        refine ev_seq (ev_region tabT [] 1000 rfl ?_)
        repeat (first | refine sat_same ?_ | refine sat_impA ?_ | refine sat_needA ?_)
        refine sat_done ?_
        refine exS_normal ?_
        refine ev_block ?_
        refine ev_seq ?_
        refine ev_seq (ev_region tabT [] 1100 rfl ?_)
        repeat (first | refine sat_same ?_ | refine sat_impA ?_ | refine sat_needA ?_)
        refine sat_done ?_
        refine exS_normal ?_
        refine ev_cond rfl (fun c10 => ?_) (fun c10 => ?_)
        · try simp only [decide_eq_true_eq, decide_eq_false_iff_not, Bool.not_eq_true', Bool.not_eq_false', Bool.and_eq_true, Bool.or_eq_true, Bool.or_eq_false_iff, gt_iff_lt, Int.not_lt, Bool.not_true, Bool.not_false, Int.ofNat_lt, Int.ofNat_le] at c10
          refine ev_skip ?_
          refine exS_normal ?_
          refine ev_cond rfl (fun c10x => ?_) (fun c10x => ?_)
          · try simp only [decide_eq_true_eq, decide_eq_false_iff_not, Bool.not_eq_true', Bool.not_eq_false', Bool.and_eq_true, Bool.or_eq_true, Bool.or_eq_false_iff, gt_iff_lt, Int.not_lt, Bool.not_true, Bool.not_false, Int.ofNat_lt, Int.ofNat_le] at c10x
            refine ev_seq (ev_region tabT [] 1500 rfl ?_)
            repeat (first | refine sat_same ?_ | refine sat_impA ?_ | refine sat_needA ?_)
            refine sat_done ?_
            refine exS_normal ?_
            refine ev_ret ?_
            refine exBl_ret ?_
            refine exS_ret ?_
            exact FinV.ret rfl (SubP.of_eq (by rw [stepP, if_neg (show ¬ (v.k = 9 ∨ m = 0) by omega), if_neg (not_not_intro c3), if_neg (by rw [c5]; decide), if_pos (show (h.getD v.r.toNat ob0).kind = 2 ∨ (h.getD v.r.toNat ob0).kind = 3 ∨ (h.getD v.r.toNat ob0).kind = 4 ∨ (h.getD v.r.toNat ob0).kind = 5 by omega)]; rfl))
          · try simp only [decide_eq_true_eq, decide_eq_false_iff_not, Bool.not_eq_true', Bool.not_eq_false', Bool.and_eq_true, Bool.or_eq_true, Bool.or_eq_false_iff, gt_iff_lt, Int.not_lt, Bool.not_true, Bool.not_false, Int.ofNat_lt, Int.ofNat_le] at c10x
            simp_all
        · try simp only [decide_eq_true_eq, decide_eq_false_iff_not, Bool.not_eq_true', Bool.not_eq_false', Bool.and_eq_true, Bool.or_eq_true, Bool.or_eq_false_iff, gt_iff_lt, Int.not_lt, Bool.not_true, Bool.not_false, Int.ofNat_lt, Int.ofNat_le] at c10
          refine ev_seq (ev_region tabT [] 1200 rfl ?_)
          repeat (first | refine sat_same ?_ | refine sat_impA ?_ | refine sat_needA ?_)
          refine sat_done ?_
          refine exS_normal ?_
          refine ev_cond rfl (fun c11 => ?_) (fun c11 => ?_)
          · try simp only [decide_eq_true_eq, decide_eq_false_iff_not, Bool.not_eq_true', Bool.not_eq_false', Bool.and_eq_true, Bool.or_eq_true, Bool.or_eq_false_iff, gt_iff_lt, Int.not_lt, Bool.not_true, Bool.not_false, Int.ofNat_lt, Int.ofNat_le] at c11
            refine ev_skip ?_
            refine exS_normal ?_
            refine ev_cond rfl (fun c11x => ?_) (fun c11x => ?_)
            · try simp only [decide_eq_true_eq, decide_eq_false_iff_not, Bool.not_eq_true', Bool.not_eq_false', Bool.and_eq_true, Bool.or_eq_true, Bool.or_eq_false_iff, gt_iff_lt, Int.not_lt, Bool.not_true, Bool.not_false, Int.ofNat_lt, Int.ofNat_le] at c11x
              refine ev_seq (ev_region tabT [] 1500 rfl ?_)
              repeat (first | refine sat_same ?_ | refine sat_impA ?_ | refine sat_needA ?_)
              refine sat_done ?_
              refine exS_normal ?_
              refine ev_ret ?_
              refine exBl_ret ?_
              refine exS_ret ?_
              exact FinV.ret rfl (SubP.of_eq (by rw [stepP, if_neg (show ¬ (v.k = 9 ∨ m = 0) by omega), if_neg (not_not_intro c3), if_neg (by rw [c5]; decide), if_pos (show (h.getD v.r.toNat ob0).kind = 2 ∨ (h.getD v.r.toNat ob0).kind = 3 ∨ (h.getD v.r.toNat ob0).kind = 4 ∨ (h.getD v.r.toNat ob0).kind = 5 by omega)]; rfl))
            · try simp only [decide_eq_true_eq, decide_eq_false_iff_not, Bool.not_eq_true', Bool.not_eq_false', Bool.and_eq_true, Bool.or_eq_true, Bool.or_eq_false_iff, gt_iff_lt, Int.not_lt, Bool.not_true, Bool.not_false, Int.ofNat_lt, Int.ofNat_le] at c11x
              simp_all
          · try simp only [decide_eq_true_eq, decide_eq_false_iff_not, Bool.not_eq_true', Bool.not_eq_false', Bool.and_eq_true, Bool.or_eq_true, Bool.or_eq_false_iff, gt_iff_lt, Int.not_lt, Bool.not_true, Bool.not_false, Int.ofNat_lt, Int.ofNat_le] at c11
            refine ev_seq (ev_region tabT [] 1300 rfl ?_)
            repeat (first | refine sat_same ?_ | refine sat_impA ?_ | refine sat_needA ?_)
            refine sat_done ?_
            refine exS_normal ?_
            refine ev_cond rfl (fun c12 => ?_) (fun c12 => ?_)
            · try simp only [decide_eq_true_eq, decide_eq_false_iff_not, Bool.not_eq_true', Bool.not_eq_false', Bool.and_eq_true, Bool.or_eq_true, Bool.or_eq_false_iff, gt_iff_lt, Int.not_lt, Bool.not_true, Bool.not_false, Int.ofNat_lt, Int.ofNat_le] at c12
              refine ev_skip ?_
              refine exS_normal ?_
              refine ev_cond rfl (fun c12x => ?_) (fun c12x => ?_)
              · try simp only [decide_eq_true_eq, decide_eq_false_iff_not, Bool.not_eq_true', Bool.not_eq_false', Bool.and_eq_true, Bool.or_eq_true, Bool.or_eq_false_iff, gt_iff_lt, Int.not_lt, Bool.not_true, Bool.not_false, Int.ofNat_lt, Int.ofNat_le] at c12x
                refine ev_seq (ev_region tabT [] 1500 rfl ?_)
                repeat (first | refine sat_same ?_ | refine sat_impA ?_ | refine sat_needA ?_)
                refine sat_done ?_
                refine exS_normal ?_
                refine ev_ret ?_
                refine exBl_ret ?_
                refine exS_ret ?_
                exact FinV.ret rfl (SubP.of_eq (by rw [stepP, if_neg (show ¬ (v.k = 9 ∨ m = 0) by omega), if_neg (not_not_intro c3), if_neg (by rw [c5]; decide), if_pos (show (h.getD v.r.toNat ob0).kind = 2 ∨ (h.getD v.r.toNat ob0).kind = 3 ∨ (h.getD v.r.toNat ob0).kind = 4 ∨ (h.getD v.r.toNat ob0).kind = 5 by omega)]; rfl))
              · try simp only [decide_eq_true_eq, decide_eq_false_iff_not, Bool.not_eq_true', Bool.not_eq_false', Bool.and_eq_true, Bool.or_eq_true, Bool.or_eq_false_iff, gt_iff_lt, Int.not_lt, Bool.not_true, Bool.not_false, Int.ofNat_lt, Int.ofNat_le] at c12x
                simp_all
            · try simp only [decide_eq_true_eq, decide_eq_false_iff_not, Bool.not_eq_true', Bool.not_eq_false', Bool.and_eq_true, Bool.or_eq_true, Bool.or_eq_false_iff, gt_iff_lt, Int.not_lt, Bool.not_true, Bool.not_false, Int.ofNat_lt, Int.ofNat_le] at c12
              refine ev_region tabT [] 1400 rfl ?_
              repeat (first | refine sat_same ?_ | refine sat_impA ?_ | refine sat_needA ?_)
              refine sat_done ?_
              refine exS_normal ?_
              refine ev_cond rfl (fun c13 => ?_) (fun c13 => ?_)
              · try simp only [decide_eq_true_eq, decide_eq_false_iff_not, Bool.not_eq_true', Bool.not_eq_false', Bool.and_eq_true, Bool.or_eq_true, Bool.or_eq_false_iff, gt_iff_lt, Int.not_lt, Bool.not_true, Bool.not_false, Int.ofNat_lt, Int.ofNat_le] at c13
                refine ev_seq (ev_region tabT [] 1500 rfl ?_)
                repeat (first | refine sat_same ?_ | refine sat_impA ?_ | refine sat_needA ?_)
                refine sat_done ?_
                refine exS_normal ?_
                refine ev_ret ?_
                refine exBl_ret ?_
                refine exS_ret ?_
                exact FinV.ret rfl (SubP.of_eq (by rw [stepP, if_neg (show ¬ (v.k = 9 ∨ m = 0) by omega), if_neg (not_not_intro c3), if_neg (by rw [c5]; decide), if_pos (show (h.getD v.r.toNat ob0).kind = 2 ∨ (h.getD v.r.toNat ob0).kind = 3 ∨ (h.getD v.r.toNat ob0).kind = 4 ∨ (h.getD v.r.toNat ob0).kind = 5 by omega)]; rfl))
              · try simp only [decide_eq_true_eq, decide_eq_false_iff_not, Bool.not_eq_true', Bool.not_eq_false', Bool.and_eq_true, Bool.or_eq_true, Bool.or_eq_false_iff, gt_iff_lt, Int.not_lt, Bool.not_true, Bool.not_false, Int.ofNat_lt, Int.ofNat_le] at c13
                refine ev_seq (ev_region tabT [] 1600 rfl ?_)
                repeat (first | refine sat_same ?_ | refine sat_impA ?_ | refine sat_needA ?_)
                refine sat_done ?_
                refine exS_normal ?_
                refine ev_cond rfl (fun c15 => ?_) (fun c15 => ?_)
                · try simp only [decide_eq_true_eq, decide_eq_false_iff_not, Bool.not_eq_true', Bool.not_eq_false', Bool.and_eq_true, Bool.or_eq_true, Bool.or_eq_false_iff, gt_iff_lt, Int.not_lt, Bool.not_true, Bool.not_false, Int.ofNat_lt, Int.ofNat_le] at c15
                  refine ev_seq (ev_region tabT [] 1700 rfl ?_)
                  repeat (first | refine sat_same ?_ | refine sat_impA ?_ | refine sat_needA ?_)
                  refine sat_done ?_
                  refine exS_normal ?_
                  refine ev_block ?_
                  refine ev_loopK (ι := Pq g m (obAt h v.r).items) [2, 3, 43, 44] [0] 1750 (fun x => [(45, .v (.int .i64 x.k)), (7, .v (.int .i64 (x.n : Nat)))]) (fun _ => []) (fun x => (obAt h v.r).items.length - x.k) ⟨0, 1, Nat.zero_le _, by omega, by omega, rfl⟩ ?_
                  refine ⟨⟨(by first | exact trivial | (repeat (first | exact trivial | exact Sub.refl _ | refine ⟨?_, ?_⟩ | exact Sub.int (by first | rfl | omega | (push_cast; omega)) | exact Sub.nilSl | exact Sub.own rfl | exact Sub.slrSl rfl | exact Sub.ownSl (List.map_append).symm | exact Sub.ownSl rfl))), (by repeat (first | exact trivial | exact SubO.same rfl | refine ⟨?_, ?_⟩)), rfl, rfl⟩, fun x => ?_⟩
                  have hk := x.le
                  have hn1 := x.n1
                  have hnm := x.nm
                  have hil := (hh.at v.r).il
                  refine ev_seq (ev_region tabT [] 1800 rfl ?_)
                  repeat (first | refine sat_same ?_ | refine sat_impA ?_ | refine sat_needA ?_)
                  refine sat_done ?_
                  refine exS_normal ?_
                  refine ev_seq ?_
                  refine ev_cond rfl (fun c17 => ?_) (fun c17 => ?_)
                  · replace c17 : x.k < (obAt h v.r).items.length := Int.ofNat_lt.1 (of_decide_eq_true c17)
                    refine ev_skip ?_
                    refine exS_normal ?_
                    refine ev_seq ?_
                    refine ev_block ?_
                    refine ev_seq (ev_region tabT [] 1900 rfl ?_)
                    repeat (first | refine sat_same ?_ | refine sat_impA ?_ | refine sat_needA ?_)
                    refine sat_done ?_
                    refine exS_normal ?_
                    refine ev_seq (ev_region tabT [] 2000 rfl ?_)
                    repeat (first | refine sat_same ?_ | refine sat_impA ?_ | refine sat_needA ?_)
                    refine sat_fn _ (show Fn _ _ [hpD md h, .agg (vlD ((obAt h v.r).items.getD x.k vl0)), .v (.int .i64 ((m : Int) - (x.n : Nat)))] (.v (.int .i64 (g (m - x.n) ((obAt h v.r).items.getD x.k vl0) : Nat))) from by rw [show (m : Int) - ((x.n : Nat) : Int) = ((m - x.n : Nat) : Int) by omega]; exact H _ _ (by omega)) rfl ?_
                    repeat (first | refine sat_same ?_ | refine sat_impA ?_ | refine sat_needA ?_)
                    refine sat_done ?_
                    refine exS_normal ?_
                    refine ev_seq ?_
                    refine ev_seq (ev_region tabT [] 2100 rfl ?_)
                    repeat (first | refine sat_same ?_ | refine sat_impA ?_ | refine sat_needA ?_)
                    refine sat_done ?_
                    refine exS_normal ?_
                    refine ev_cond rfl (fun c20 => ?_) (fun c20 => ?_)
                    · replace c20 : g (m - x.n) ((obAt h v.r).items.getD x.k vl0) = 0 := by have := of_decide_eq_true c20; omega
                      refine ev_seq (ev_region tabT [] 2200 rfl ?_)
                      repeat (first | refine sat_same ?_ | refine sat_impA ?_ | refine sat_needA ?_)
                      refine sat_done ?_
                      refine exS_normal ?_
                      refine ev_ret ?_
                      refine exS_ret ?_
                      refine exBl_ret ?_
                      refine exS_ret ?_
                      refine exL_ret ?_
                      refine exBl_ret ?_
                      refine exBl_ret ?_
                      refine exS_ret ?_
                      exact FinV.ret rfl (SubP.of_eq (by rw [stepP, if_neg (show ¬ (v.k = 9 ∨ m = 0) by omega), if_neg (not_not_intro c3), if_neg (by rw [c5]; decide), if_neg (show ¬ ((h.getD v.r.toNat ob0).kind = 2 ∨ (h.getD v.r.toNat ob0).kind = 3 ∨ (h.getD v.r.toNat ob0).kind = 4 ∨ (h.getD v.r.toNat ob0).kind = 5) by omega), if_pos c15, x.no c17 c20]; rfl))
                    · replace c20 : ¬ g (m - x.n) ((obAt h v.r).items.getD x.k vl0) = 0 := by have := of_decide_eq_false c20; omega
                      refine ev_skip ?_
                      refine exS_normal ?_
                      refine ev_region tabT [] 2300 rfl ?_
                      repeat (first | refine sat_same ?_ | refine sat_impA ?_ | refine sat_need (by have := hg (m - x.n) ((obAt h v.r).items.getD x.k vl0); exact ini (by omega) (by omega)) ?_)
                      refine sat_done ?_
                      refine exBl_normal ?_
                      refine exS_normal ?_
                      refine ev_region tabT [] 2400 rfl ?_
                      repeat (first | refine sat_same ?_ | refine sat_impA ?_ | refine sat_need (by exact ini (by omega) (by omega)) ?_)
                      refine sat_done ?_
                      exact exL_normal (x.next hg c17 c20) ⟨(by first | exact trivial | (repeat (first | exact trivial | exact Sub.refl _ | refine ⟨?_, ?_⟩ | exact Sub.int (by first | rfl | omega | (push_cast; omega)) | exact Sub.nilSl | exact Sub.own rfl | exact Sub.slrSl rfl | exact Sub.ownSl (List.map_append).symm | exact Sub.ownSl rfl))), (by repeat (first | exact trivial | exact SubO.same rfl | refine ⟨?_, ?_⟩)), rfl, rfl⟩ (by show (obAt h v.r).items.length - (x.k + 1) < (obAt h v.r).items.length - x.k; omega)
                  · replace c17 : (obAt h v.r).items.length ≤ x.k := Int.ofNat_le.1 (Int.not_lt.1 (of_decide_eq_false c17))
                    refine ev_exit ?_
                    refine exS_exit ?_
                    refine exL_exit ?_
                    refine exBl_same ?_
                    refine exBl_normal ?_
                    refine exS_normal ?_
                    refine ev_seq (ev_region tabT [] 2500 rfl ?_)
                    repeat (first | refine sat_same ?_ | refine sat_impA ?_ | refine sat_needA ?_)
                    refine sat_done ?_
                    refine exS_normal ?_
                    refine ev_ret ?_
                    exact FinV.ret rfl (SubP.of_eq (by rw [stepP, if_neg (show ¬ (v.k = 9 ∨ m = 0) by omega), if_neg (not_not_intro c3), if_neg (by rw [c5]; decide), if_neg (show ¬ ((h.getD v.r.toNat ob0).kind = 2 ∨ (h.getD v.r.toNat ob0).kind = 3 ∨ (h.getD v.r.toNat ob0).kind = 4 ∨ (h.getD v.r.toNat ob0).kind = 5) by omega), if_pos c15, x.fin c17]))
                · try simp only [decide_eq_true_eq, decide_eq_false_iff_not, Bool.not_eq_true', Bool.not_eq_false', Bool.and_eq_true, Bool.or_eq_true, Bool.or_eq_false_iff, gt_iff_lt, Int.not_lt, Bool.not_true, Bool.not_false, Int.ofNat_lt, Int.ofNat_le] at c15
                  refine ev_skip ?_
                  refine exBl_normal ?_
                  refine exS_normal ?_
                  refine ev_seq (ev_region tabT [] 2500 rfl ?_)
                  repeat (first | refine sat_same ?_ | refine sat_impA ?_ | refine sat_needA ?_)
                  refine sat_done ?_
                  refine exS_normal ?_
                  refine ev_ret ?_
                  exact FinV.ret rfl (SubP.of_eq (by rw [stepP, if_neg (show ¬ (v.k = 9 ∨ m = 0) by omega), if_neg (not_not_intro c3), if_neg (by rw [c5]; decide), if_neg (show ¬ ((h.getD v.r.toNat ob0).kind = 2 ∨ (h.getD v.r.toNat ob0).kind = 3 ∨ (h.getD v.r.toNat ob0).kind = 4 ∨ (h.getD v.r.toNat ob0).kind = 5) by omega), if_neg c15]; rfl))

theorem prF_le {g : Nat → Vl → Nat} (hg : ∀ k w, g k w ≤ k) {m : Nat} : ∀ (l : List Vl) (n : Nat), n ≤ m → prF g m l n ≤ m
  | [], n, h => h
  | w :: l, n, h => by
    rw [prF]
    split
    · omega
    · exact prF_le hg l _ (by have := hg (m - n) w; omega)
theorem stepP_le {h : List Ob} {g : Nat → Vl → Nat} (hg : ∀ k w, g k w ≤ k) (k : Nat) (v : Vl) : stepP h g k v ≤ k := by
  rw [stepP]
  split
  · omega
  · repeat (first | split | exact prF_le hg _ _ (by omega) | omega)
/-- Parts of v, at most m, with f calls at most one in another. -/
def prS (h : List Ob) : Nat → Nat → Vl → Nat
  | 0 => fun _ _ => 0
  | f + 1 => stepP h (prS h f)
theorem prS_le (h : List Ob) : ∀ (f k : Nat) (v : Vl), prS h f k v ≤ k
  | 0, k, _ => Nat.zero_le k
  | f + 1, k, v => stepP_le (prS_le h f) k v
theorem stepP_zero (h : List Ob) (g : Nat → Vl → Nat) (v : Vl) : stepP h g 0 v = 0 := by rw [stepP, if_pos (Or.inr rfl)]
theorem parts_n {h : List Ob} (hh : HpIn h) : ∀ (f m : Nat) (v : Vl), m ≤ f → m ≤ 1000 → Fn Tryd.prog 15 [hpD md h, .agg (vlD v), .v (.int .i64 (m : Nat))] (.v (.int .i64 (prS h f m v : Nat)))
  | 0, m, v, hm, h1 => by
    obtain rfl : m = 0 := by omega
    have := parts_step (md := md) h v 0 (fun _ _ => 0) hh (by omega) (fun k _ => Nat.zero_le k) (fun x k hk => by omega)
    rw [stepP_zero] at this
    exact this
  | f + 1, m, v, hm, h1 => parts_step h v m (prS h f) hh h1 (prS_le h f) (fun x k hk => parts_n hh f k x (by omega) (by omega))

theorem Parts_ok (h : List Ob) (v : Vl) (hh : HpIn h) : Fn Tryd.prog 6 [hpD md h, .agg (vlD v)] (.v (.int .i64 (prS h 1000 1000 v : Nat))) := by
  refine fn_ev tabT Tryd.func6 rfl rfl rfl rfl rfl rfl ?_
  intro w0 s0 mx
  refine ev_seq (ev_region tabT [] 100 rfl ?_)
  repeat (first | refine sat_same ?_ | refine sat_impA ?_ | refine sat_needA ?_)
  refine sat_done ?_
  refine exS_normal ?_
  refine ev_seq (ev_region tabT [] 200 rfl ?_)
  repeat (first | refine sat_same ?_ | refine sat_impA ?_ | refine sat_needA ?_)
  refine sat_fn _ (parts_n hh 1000 1000 v (by omega) (by omega)) rfl ?_
  repeat (first | refine sat_same ?_ | refine sat_impA ?_ | refine sat_needA ?_)
  refine sat_done ?_
  refine exS_normal ?_
  refine ev_ret ?_
  exact FinV.ret rfl (SubP.refl _)

theorem IsKey_ok (h : List Ob) (v : Vl) (hh : HpIn h) : Fn Tryd.prog 7 [hpD md h, .agg (vlD v)] (.v (.bool (decide ((0 : Int) < (prS h 1000 1000 v : Nat))))) := by
  refine fn_ev tabT Tryd.func7 rfl rfl rfl rfl rfl rfl ?_
  intro w0 s0 mx
  refine ev_seq (ev_region tabT [] 100 rfl ?_)
  repeat (first | refine sat_same ?_ | refine sat_impA ?_ | refine sat_needA ?_)
  refine sat_done ?_
  refine exS_normal ?_
  refine ev_seq (ev_region tabT [] 200 rfl ?_)
  repeat (first | refine sat_same ?_ | refine sat_impA ?_ | refine sat_needA ?_)
  refine sat_fn _ (Parts_ok _ _ (by first | assumption | omega | (simp_all; done))) rfl ?_
  repeat (first | refine sat_same ?_ | refine sat_impA ?_ | refine sat_needA ?_)
  refine sat_done ?_
  refine exS_normal ?_
  refine ev_ret ?_
  exact FinV.ret rfl (SubP.refl _)

def eqF (F : Vl → Vl → Bool) (a b : List Vl) : Bool := decide ((a.length : Int) = b.length) && (List.range a.length).all (prP F a b)
def cpD (md : Bool) (h : List Ob) : D := .pt true [.sl md 10 h obD ob0]
def stepH (h : List Ob) (F : Vl → Vl → Bool) (v w : Vl) : Bool :=
  if ¬ v.k = 6 ∨ ¬ w.k = 6 then decide (v = w) else if v.r = w.r then true
  else decide ((obAt h v.r).kind = 1) && decide ((obAt h w.r).kind = 1) && eqF F (obAt h v.r).items (obAt h w.r).items

theorem EqualFunc_ok (h : List Ob) (a b : List Vl) (f : FuncId) (F : Vl → Vl → Bool) (ha : a.length ≤ 2000000) (H : ∀ x ∈ a, ∀ y ∈ b, Fn Tryd.prog f [.agg (vlD x), .agg (vlD y), cpD md h] (.v (.bool (F x y)))) : Fn Tryd.prog 17 [vsD a, vsD b, .clo f [cpD md h]] (.v (.bool (eqF F a b))) := by
  refine fn_ev tabT Tryd.func17 rfl rfl rfl rfl rfl rfl ?_
  intro w0 s0 mx
  refine ev_seq (ev_region tabT [] 100 rfl ?_)
  repeat (first | refine sat_same ?_ | refine sat_impA ?_ | refine sat_needA ?_)
  refine sat_done ?_
  refine exS_normal ?_
  refine ev_seq ?_
  refine ev_seq (ev_region tabT [] 200 rfl ?_)
  repeat (first | refine sat_same ?_ | refine sat_impA ?_ | refine sat_needA ?_)
  refine sat_done ?_
  refine exS_normal ?_
  refine ev_cond rfl (fun c1 => ?_) (fun c1 => ?_)
  · replace c1 : ¬ (a.length : Int) = b.length := by simpa using c1
    refine ev_seq (ev_region tabT [] 300 rfl ?_)
    repeat (first | refine sat_same ?_ | refine sat_impA ?_ | refine sat_needA ?_)
    refine sat_done ?_
    refine exS_normal ?_
    refine ev_ret ?_
    refine exS_ret ?_
    exact FinV.ret rfl (SubP.bool (by rw [eqF, decide_eq_false c1]; rfl))
  · replace c1 : (a.length : Int) = b.length := by simpa using c1
    refine ev_skip ?_
    refine exS_normal ?_
    refine ev_seq ?_
    refine ev_seq (ev_region tabT [] 400 rfl ?_)
    repeat (first | refine sat_same ?_ | refine sat_impA ?_ | refine sat_needA ?_)
    refine sat_done ?_
    refine exS_normal ?_
    refine ev_block ?_
    refine ev_loopK (ι := Up a.length (prP F a b)) [1, 2, 15, 16] [] 450 (fun x => [(17, .v (.int .i64 x.k))]) (fun _ => []) (fun x => a.length - x.k) ⟨0, Nat.zero_le _, fun j hj => by omega⟩ ?_
    refine ⟨⟨(by first | exact trivial | (repeat (first | exact trivial | exact Sub.refl _ | refine ⟨?_, ?_⟩ | exact Sub.int (by first | rfl | omega | (push_cast; omega)) | exact Sub.nilSl | exact Sub.own rfl | exact Sub.slrSl rfl | exact Sub.ownSl (List.map_append).symm | exact Sub.ownSl rfl))), (by repeat (first | exact trivial | exact SubO.same rfl | refine ⟨?_, ?_⟩)), rfl, rfl⟩, fun x => ?_⟩
    have hk := x.le
    refine ev_seq (ev_region tabT [] 500 rfl ?_)
    repeat (first | refine sat_same ?_ | refine sat_impA ?_ | refine sat_needA ?_)
    refine sat_done ?_
    refine exS_normal ?_
    refine ev_seq ?_
    refine ev_cond rfl (fun c4 => ?_) (fun c4 => ?_)
    · try simp only [decide_eq_true_eq, decide_eq_false_iff_not, Bool.not_eq_true', Bool.not_eq_false', Bool.and_eq_true, Bool.or_eq_true, Bool.or_eq_false_iff, gt_iff_lt, Int.not_lt, Bool.not_true, Bool.not_false, Int.ofNat_lt, Int.ofNat_le] at c4
      refine ev_skip ?_
      refine exS_normal ?_
      refine ev_seq ?_
      refine ev_block ?_
      refine ev_seq (ev_region tabT [] 600 rfl ?_)
      repeat (first | refine sat_same ?_ | refine sat_impA ?_ | refine sat_needA ?_)
      refine sat_done ?_
      refine exS_normal ?_
      refine ev_seq (ev_region tabT [] 700 rfl ?_)
      repeat (first | refine sat_same ?_ | refine sat_impA ?_ | refine sat_needA ?_)
      refine sat_done ?_
      refine exS_normal ?_
      refine ev_seq (ev_region tabT [] 800 rfl ?_)
      repeat (first | refine sat_same ?_ | refine sat_impA ?_ | refine sat_needA ?_)
      refine sat_fn _ (H _ (by rw [getD_l c4]; exact List.getElem_mem _) _ (by rw [getD_l (by omega)]; exact List.getElem_mem _)) rfl ?_
      repeat (first | refine sat_same ?_ | refine sat_impA ?_ | refine sat_needA ?_)
      refine sat_done ?_
      refine exS_normal ?_
      refine ev_cond rfl (fun c7 => ?_) (fun c7 => ?_)
      · try simp only [decide_eq_true_eq, decide_eq_false_iff_not, Bool.not_eq_true', Bool.not_eq_false', Bool.and_eq_true, Bool.or_eq_true, Bool.or_eq_false_iff, gt_iff_lt, Int.not_lt, Bool.not_true, Bool.not_false, Int.ofNat_lt, Int.ofNat_le] at c7
        refine ev_seq (ev_region tabT [] 900 rfl ?_)
        repeat (first | refine sat_same ?_ | refine sat_impA ?_ | refine sat_needA ?_)
        refine sat_done ?_
        refine exS_normal ?_
        refine ev_ret ?_
        refine exBl_ret ?_
        refine exS_ret ?_
        refine exL_ret ?_
        refine exBl_ret ?_
        refine exS_ret ?_
        exact FinV.ret rfl (SubP.bool (by rw [eqF, Up.no (p := prP F a b) c4 c7, Bool.and_false]))
      · try simp only [decide_eq_true_eq, decide_eq_false_iff_not, Bool.not_eq_true', Bool.not_eq_false', Bool.and_eq_true, Bool.or_eq_true, Bool.or_eq_false_iff, gt_iff_lt, Int.not_lt, Bool.not_true, Bool.not_false, Int.ofNat_lt, Int.ofNat_le] at c7
        refine ev_skip ?_
        refine exBl_normal ?_
        refine exS_normal ?_
        refine ev_region tabT [] 1000 rfl ?_
        repeat (first | refine sat_same ?_ | refine sat_impA ?_ | refine sat_needA ?_)
        refine sat_done ?_
        exact exL_normal (x.next c4 c7) ⟨(by first | exact trivial | (repeat (first | exact trivial | exact Sub.refl _ | refine ⟨?_, ?_⟩ | exact Sub.int (by first | rfl | omega | (push_cast; omega)) | exact Sub.nilSl | exact Sub.own rfl | exact Sub.slrSl rfl | exact Sub.ownSl (List.map_append).symm | exact Sub.ownSl rfl))), (by repeat (first | exact trivial | exact SubO.same rfl | refine ⟨?_, ?_⟩)), rfl, rfl⟩ (by show a.length - (x.k + 1) < a.length - x.k; omega)
    · try simp only [decide_eq_true_eq, decide_eq_false_iff_not, Bool.not_eq_true', Bool.not_eq_false', Bool.and_eq_true, Bool.or_eq_true, Bool.or_eq_false_iff, gt_iff_lt, Int.not_lt, Bool.not_true, Bool.not_false, Int.ofNat_lt, Int.ofNat_le] at c4
      refine ev_exit ?_
      refine exS_exit ?_
      refine exL_exit ?_
      refine exBl_same ?_
      refine exS_normal ?_
      refine ev_seq (ev_region tabT [] 1100 rfl ?_)
      repeat (first | refine sat_same ?_ | refine sat_impA ?_ | refine sat_needA ?_)
      refine sat_done ?_
      refine exS_normal ?_
      refine ev_ret ?_
      exact FinV.ret rfl (SubP.bool (by rw [eqF, decide_eq_true c1, x.yes (by omega)]; rfl))

theorem SameKeyC_ok (h : List Ob) (x y : Vl) (b : Bool) (H : Fn Tryd.prog 9 [hpD md h, .agg (vlD x), .agg (vlD y)] (.v (.bool b))) : Fn Tryd.prog 18 [.agg (vlD x), .agg (vlD y), cpD md h] (.v (.bool b)) := by
  refine fn_ev tabT Tryd.func18 rfl rfl rfl rfl rfl rfl ?_
  intro w0 s0 mx
  refine ev_seq (ev_region tabT [] 100 rfl ?_)
  repeat (first | refine sat_same ?_ | refine sat_impA ?_ | refine sat_needA ?_)
  refine sat_done ?_
  refine exS_normal ?_
  refine ev_seq (ev_region tabT [] 200 rfl ?_)
  repeat (first | refine sat_same ?_ | refine sat_impA ?_ | refine sat_needA ?_)
  refine sat_fn _ (H) rfl ?_
  repeat (first | refine sat_same ?_ | refine sat_impA ?_ | refine sat_needA ?_)
  refine sat_done ?_
  refine exS_normal ?_
  refine ev_ret ?_
  exact FinV.ret rfl (SubP.refl _)

theorem heapSameKey_step (h : List Ob) (v w : Vl) (F : Vl → Vl → Bool) (hh : HpIn h) (hv : v.k = 6 → inH h v.r) (hw : w.k = 6 → inH h w.r) (H : v.k = 6 → w.k = 6 → (obAt h v.r).kind = 1 → ∀ x ∈ (obAt h v.r).items, ∀ y ∈ (obAt h w.r).items, Fn Tryd.prog 9 [hpD md h, .agg (vlD x), .agg (vlD y)] (.v (.bool (F x y)))) : Fn Tryd.prog 9 [hpD md h, .agg (vlD v), .agg (vlD w)] (.v (.bool (stepH h F v w))) := by
  refine fn_ev tabT Tryd.func9 rfl rfl rfl rfl rfl rfl ?_
  intro w0 s0 mx
  refine ev_seq (ev_region tabT [] 100 rfl ?_)
  repeat (first | refine sat_same ?_ | refine sat_impA ?_ | refine sat_needA ?_)
  refine sat_done ?_
  refine exS_normal ?_
  refine ev_seq ?_
  refine ev_seq (ev_region tabT [] 200 rfl ?_)
  repeat (first | refine sat_same ?_ | refine sat_impA ?_ | refine sat_needA ?_)
  refine sat_done ?_
  refine exS_normal ?_
  refine ev_cond rfl (fun c1 => ?_) (fun c1 => ?_)
  · replace c1 : ¬ v.k = 6 ∨ ¬ w.k = 6 := by simpa [Classical.or_iff_not_imp_left] using c1
    refine ev_seq (ev_region tabT [] 300 rfl ?_)
    repeat (first | refine sat_same ?_ | refine sat_impA ?_ | refine sat_needA ?_)
    refine sat_fn _ (heapSameValue_ok _ _) rfl ?_
    repeat (first | refine sat_same ?_ | refine sat_impA ?_ | refine sat_needA ?_)
    refine sat_done ?_
    refine exS_normal ?_
    refine ev_ret ?_
    refine exS_ret ?_
    exact FinV.ret rfl (SubP.bool (by rw [stepH, if_pos c1]))
  · replace c1 : ¬ (¬ v.k = 6 ∨ ¬ w.k = 6) := by simpa using c1
    refine ev_skip ?_
    refine exS_normal ?_
    refine ev_seq ?_
    refine ev_seq (ev_region tabT [] 400 rfl ?_)
    repeat (first | refine sat_same ?_ | refine sat_impA ?_ | refine sat_needA ?_)
    refine sat_done ?_
    refine exS_normal ?_
    refine ev_cond rfl (fun c3 => ?_) (fun c3 => ?_)
    · try simp only [decide_eq_true_eq, decide_eq_false_iff_not, Bool.not_eq_true', Bool.not_eq_false', Bool.and_eq_true, Bool.or_eq_true, Bool.or_eq_false_iff, gt_iff_lt, Int.not_lt, Bool.not_true, Bool.not_false, Int.ofNat_lt, Int.ofNat_le] at c3
      refine ev_seq (ev_region tabT [] 500 rfl ?_)
      repeat (first | refine sat_same ?_ | refine sat_impA ?_ | refine sat_needA ?_)
      refine sat_done ?_
      refine exS_normal ?_
      refine ev_ret ?_
      refine exS_ret ?_
      exact FinV.ret rfl (SubP.bool (by rw [stepH, if_neg c1, if_pos c3]))
    · try simp only [decide_eq_true_eq, decide_eq_false_iff_not, Bool.not_eq_true', Bool.not_eq_false', Bool.and_eq_true, Bool.or_eq_true, Bool.or_eq_false_iff, gt_iff_lt, Int.not_lt, Bool.not_true, Bool.not_false, Int.ofNat_lt, Int.ofNat_le] at c3
      refine ev_skip ?_
      refine exS_normal ?_
      refine ev_seq (ev_drawn tabT [] [[], [0], [], [2], [0, 1, 2, 3], [0, 1, 2, 3, 4], [], [6], [], [8], [6, 7, 8, 9], [6, 7, 8, 9, 10], [], [], [0, 1, 2, 3, 4, 5, 12, 13], [0, 1, 2, 3, 4, 5, 6, 7, 8, 9, 10, 11, 12, 13, 14]] 600 mixT (by kernel_rfl) rfl ?_)
      repeat (first | refine sat_same ?_ | refine sat_impA ?_ | refine sat_need (by first | exact hv (by omega) | exact hw (by omega)) ?_)
      refine sat_done ?_
      refine exS_normal ?_
      refine ev_seq (ev_region tabT [] 700 rfl ?_)
      repeat (first | refine sat_same ?_ | refine sat_impA ?_ | refine sat_needA ?_)
      refine ⟨fun hs => ?_, fun hs => ?_⟩
      · repeat (first | refine sat_same ?_ | refine sat_impA ?_ | refine sat_needA ?_)
        refine sat_fnLG _ (fun hg => EqualFunc_ok h _ _ 18 F (hh.at v.r).il fun x hx y hy => SameKeyC_ok h x y _ (H (by omega) (by omega) (by have h1 : (decide ((obAt h v.r).kind = 1) && decide ((obAt h w.r).kind = 1)) = true := hs; simp only [Bool.and_eq_true, decide_eq_true_eq] at h1; exact h1.1) x hx y hy)) rfl rfl ?_
        repeat (first | refine sat_same ?_ | refine sat_impA ?_ | refine sat_needA ?_)
        refine sat_done ?_
        refine exS_normal ?_
        refine ev_ret ?_
        exact FinV.ret rfl (SubP.bool (by rw [stepH, if_neg c1, if_neg c3, show (decide ((obAt h v.r).kind = 1) && decide ((obAt h w.r).kind = 1)) = true from hs, Bool.true_and]))
      · repeat (first | refine sat_same ?_ | refine sat_impA ?_ | refine sat_needA ?_)
        refine sat_fnG (.v (.bool false)) (fun hg => by rw [hs] at hg; cases hg) rfl ?_
        repeat (first | refine sat_same ?_ | refine sat_impA ?_ | refine sat_needA ?_)
        refine sat_done ?_
        refine exS_normal ?_
        refine ev_ret ?_
        exact FinV.ret rfl (SubP.bool (by rw [stepH, if_neg c1, if_neg c3, show (decide ((obAt h v.r).kind = 1) && decide ((obAt h w.r).kind = 1)) = false from hs]; rfl))

end Go.Proofs.YtjlnanhjhfkddaaDoor
