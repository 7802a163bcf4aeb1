/- Part 23 of the proof. -/
import Derived.Test.YtjlnanhjhfkddaaDoorM20

/- Walks by the evaluator: linearizations. -/
namespace Go.Proofs.YtjlnanhjhfkddaaDoor
open Go.RowKit
variable {md me : Bool}

def lD (l : List Int) : List D := [isD l]
def hdI (l : List Int) : Int := l.getD 0 0
def inT (B : List (List Int)) (n : Int) : Bool := B.any fun x => hasB (x.drop 1) n
def lwI (a b : Int) : Int := if b < a then b else a
def lowS (l : List Int) : Int := l.foldl lwI 0
def twS (l : List Int) (k : Nat) : Bool := (List.range k).any fun j => hasB (l.take j) (l.getD j 0)
theorem twS_succ (l : List Int) (k : Nat) : twS l (k + 1) = (twS l k || hasB (l.take k) (l.getD k 0)) := by
  unfold twS
  rw [List.range_succ, List.any_append]
  simp
theorem low_succ {l : List Int} {k : Nat} (h : k < l.length) : lowS (l.take (k + 1)) = lwI (lowS (l.take k)) (l.getD (k : Int).toNat 0) := by
  unfold lowS
  rw [take_at h 0, List.foldl_append]; rfl
def ofF : List (List Int) → List (List Int) → Int × Int
  | _, [] => (0, 0)
  | seen, l :: r => if (l.length : Int) = 0 then (10, seen.length) else if (40 : Int) < l.length then (2, seen.length) else if lowS l < 0 then (4, seen.length) else if (twS l l.length || hasB (seen.map hdI) (hdI l)) = true then (8, seen.length) else ofF (seen ++ [l]) r
def ofS (B : List (List Int)) : Int × Int := if (8 : Int) < B.length then (2, -1) else ofF [] B
def fltD (f : Int × Int) : D := .agg [.v (.int .i64 f.1), .v (.int .i64 f.2)]
/-- What the fault's absence tells. -/
def goodB (B : List (List Int)) : Prop := B.length ≤ 8 ∧ ∀ l ∈ B, 0 < l.length ∧ l.length ≤ 40
theorem ofF_good : ∀ (r seen : List (List Int)), (ofF seen r).1 = 0 → ∀ l ∈ r, 0 < l.length ∧ l.length ≤ 40
  | [], _, _, _, h => by cases h
  | l :: r, seen, h0, x, hx => by
    rw [ofF] at h0
    split at h0
    · cases h0
    · split at h0
      · cases h0
      · split at h0
        · cases h0
        · split at h0
          · cases h0
          · rcases List.mem_cons.1 hx with rfl | hx
            · omega
            · exact ofF_good r _ h0 x hx
theorem ofS_good {B : List (List Int)} (h : (ofS B).1 = 0) : goodB B := by
  unfold ofS at h
  split at h
  · cases h
  · exact ⟨by omega, ofF_good B [] h⟩
/-- The head that no tail has. -/
def fdF (left : List (List Int)) (a : Int × Bool) (l : List Int) : Int × Bool := if (!a.2 && !inT left (hdI l)) = true then (hdI l, true) else a
def fdS (left : List (List Int)) (k : Nat) : Int × Bool := (left.take k).foldl (fdF left) (0, false)
theorem fdS_succ {left : List (List Int)} {k : Nat} (h : k < left.length) : fdS left (k + 1) = fdF left (fdS left k) (left.getD (k : Int).toNat []) := by
  unfold fdS
  rw [take_at h [], List.foldl_append]; rfl
def shI (n : Int) (l : List Int) : List Int := if hdI l = n then l.drop 1 else l
def rsS (n : Int) (left : List (List Int)) : List (List Int) := (left.map (shI n)).filter fun l => decide (0 < (l.length : Int))
theorem rsS_succ {n : Int} {left : List (List Int)} {k : Nat} (h : k < left.length) : rsS n (left.take (k + 1)) = rsS n (left.take k) ++ (if 0 < ((shI n (left.getD (k : Int).toNat [])).length : Int) then [shI n (left.getD (k : Int).toNat [])] else []) := by
  unfold rsS
  rw [take_at h [], List.map_append, List.filter_append]
  congr 1
  rw [List.map_cons, List.map_nil, List.filter_cons]
  split
  · rename_i hd; rw [if_pos (of_decide_eq_true hd)]; rfl
  · rename_i hd; rw [if_neg (fun e => hd (decide_eq_true e))]; rfl
def tot (left : List (List Int)) : Nat := (left.map List.length).sum
theorem tot_rs_le (n : Int) : ∀ left : List (List Int), tot (rsS n left) ≤ tot left
  | [] => Nat.le_refl _
  | l :: left => by
    have ih := tot_rs_le n left
    have hs : (shI n l).length ≤ l.length := by unfold shI; split <;> simp
    unfold rsS at ih ⊢
    rw [List.map_cons, List.filter_cons]
    unfold tot at ih ⊢
    split
    · simp only [List.map_cons, List.sum_cons]; omega
    · simp only [List.map_cons, List.sum_cons]; omega
theorem tot_rs_lt (n : Int) : ∀ left : List (List Int), (∃ l ∈ left, 0 < l.length ∧ hdI l = n) → tot (rsS n left) < tot left
  | [], h => by obtain ⟨_, h, _⟩ := h; cases h
  | l :: left, h => by
    have ih := tot_rs_le n left
    have hs : (shI n l).length ≤ l.length := by unfold shI; split <;> simp
    obtain ⟨x, hx, h1, h2⟩ := h
    rcases List.mem_cons.1 hx with rfl | hx
    · have hs2 : (shI n x).length < x.length := by unfold shI; rw [if_pos h2]; simp; omega
      unfold rsS at ih ⊢
      rw [List.map_cons, List.filter_cons]
      unfold tot at ih ⊢
      split
      · simp only [List.map_cons, List.sum_cons]; omega
      · simp only [List.map_cons, List.sum_cons]; omega
    · have ih2 := tot_rs_lt n left ⟨x, hx, h1, h2⟩
      unfold rsS at ih2 ⊢
      rw [List.map_cons, List.filter_cons]
      unfold tot at ih2 ⊢
      split
      · simp only [List.map_cons, List.sum_cons]; omega
      · simp only [List.map_cons, List.sum_cons]; omega
theorem fd_found (left : List (List Int)) : ∀ (m : List (List Int)) (a : Int × Bool), (a.2 = true → ∃ l ∈ left, hdI l = a.1) → (∀ l ∈ m, l ∈ left) → (m.foldl (fdF left) a).2 = true → ∃ l ∈ left, hdI l = (m.foldl (fdF left) a).1
  | [], a, h0, _, h => h0 h
  | l :: m, a, h0, hm, h => by
    refine fd_found left m _ ?_ (fun x hx => hm x (by simp [hx])) h
    unfold fdF
    split
    · intro _; exact ⟨l, hm l (by simp), rfl⟩
    · exact h0
def mgF : Nat → List Int → List (List Int) → List Int × List (List Int)
  | 0, taken, _ => (taken, [])
  | _ + 1, taken, [] => (taken, [])
  | f + 1, taken, l :: left => if (fdS (l :: left) (l :: left).length).2 = false then (taken, l :: left) else mgF f (taken ++ [(fdS (l :: left) (l :: left).length).1]) (rsS (fdS (l :: left) (l :: left).length).1 (l :: left))
def lft0 (B : List (List Int)) : List (List Int) := if (0 : Int) < (B.map hdI).length then B ++ [B.map hdI] else B
def mgS (B : List (List Int)) : List Int × List (List Int) := mgF 400 [] (lft0 B)
/-- How far the merging has come. -/
structure Mg (B : List (List Int)) where
  f : Nat
  taken : List Int
  left : List (List Int)
  eq : mgF f taken left = mgS B
  ne : ∀ l ∈ left, 0 < l.length
  ll : left.length ≤ 9
  lb : ∀ l ∈ left, l.length ≤ 40
  tf : tot left < f
  tk : taken.length + f ≤ 400
theorem tot_le {m : Nat} : ∀ {left : List (List Int)}, (∀ l ∈ left, l.length ≤ m) → tot left ≤ left.length * m
  | [], _ => by simp [tot]
  | l :: left, h => by
    have ih := tot_le (left := left) fun x hx => h x (by simp [hx])
    have := h l (by simp)
    unfold tot at ih ⊢
    simp only [List.map_cons, List.sum_cons, List.length_cons, Nat.add_mul]
    omega
def Mg.start {B : List (List Int)} (hB : goodB B) : Mg B := by
  have hl : ∀ l ∈ lft0 B, 0 < l.length ∧ l.length ≤ 40 := by
    intro l hl
    unfold lft0 at hl
    split at hl
    · rename_i h0
      rcases List.mem_append.1 hl with hl | hl
      · exact hB.2 l hl
      · rw [List.mem_singleton.1 hl]
        have := hB.1
        simp only [List.length_map] at h0 ⊢
        omega
    · exact hB.2 l hl
  have h9 : (lft0 B).length ≤ 9 := by
    have := hB.1
    unfold lft0
    split
    · simp; omega
    · omega
  exact ⟨400, [], lft0 B, rfl, fun l h => (hl l h).1, h9, fun l h => (hl l h).2, by
    have := tot_le (m := 40) fun l h => (hl l h).2
    have : (lft0 B).length * 40 ≤ 9 * 40 := Nat.mul_le_mul_right _ h9
    omega, by simp⟩
theorem Mg.unf {B : List (List Int)} (x : Mg B) (h0 : 0 < x.left.length) : mgS B = if (fdS x.left x.left.length).2 = false then (x.taken, x.left) else mgF (x.f - 1) (x.taken ++ [(fdS x.left x.left.length).1]) (rsS (fdS x.left x.left.length).1 x.left) := by
  have hf : x.f = (x.f - 1) + 1 := by have := x.tf; omega
  have he := x.eq
  rw [hf] at he
  rw [← he]
  generalize x.left = left at *
  cases left with
  | nil => simp at h0
  | cons l left => rfl
theorem rs_mem {n : Int} {left : List (List Int)} {l : List Int} (h : l ∈ rsS n left) : 0 < l.length ∧ ∃ y ∈ left, l.length ≤ y.length := by
  unfold rsS at h
  rw [List.mem_filter] at h
  obtain ⟨h1, h2⟩ := h
  obtain ⟨y, hy, rfl⟩ := List.mem_map.1 h1
  have := of_decide_eq_true h2
  exact ⟨by omega, y, hy, by unfold shI; split <;> simp⟩
def Mg.next {B : List (List Int)} (x : Mg B) (h0 : 0 < x.left.length) (h1 : (fdS x.left x.left.length).2 = true) : Mg B :=
  ⟨x.f - 1, x.taken ++ [(fdS x.left x.left.length).1], rsS (fdS x.left x.left.length).1 x.left, by rw [x.unf h0, if_neg (by rw [h1]; decide)], fun l hl => (rs_mem hl).1, by
    have := x.ll
    have : (rsS (fdS x.left x.left.length).1 x.left).length ≤ x.left.length := by unfold rsS; exact Nat.le_trans (List.length_filter_le _ _) (by simp)
    omega, fun l hl => by obtain ⟨_, y, hy, hle⟩ := rs_mem hl; exact Nat.le_trans hle (x.lb y hy), by
    have hx : ∃ l ∈ x.left, hdI l = (fdS x.left x.left.length).1 := fd_found x.left _ (0, false) (fun h => by cases h) (fun l hl => List.mem_of_mem_take hl) h1
    obtain ⟨l, hl, he⟩ := hx
    have := tot_rs_lt (fdS x.left x.left.length).1 x.left ⟨l, hl, x.ne l hl, he⟩
    have := x.tf
    omega, by
    have := x.tk; have := x.tf
    simp only [List.length_append, List.length_singleton]
    omega⟩
theorem Mg.none {B : List (List Int)} (x : Mg B) (h0 : 0 < x.left.length) (h1 : (fdS x.left x.left.length).2 = false) : mgS B = (x.taken, x.left) := by rw [x.unf h0, if_pos h1]
theorem Mg.done {B : List (List Int)} (x : Mg B) (h0 : ¬ 0 < x.left.length) : mgS B = (x.taken, []) := by
  have hl : x.left = [] := List.eq_nil_of_length_eq_zero (by omega)
  rw [← x.eq, hl]
  cases x.f <;> rfl
def orderS (B : List (List Int)) : List Int × Int × Int := if ¬ (ofS B).1 = 0 then ([], ofS B) else if (0 : Int) < (mgS B).2.length then ([], (19, -1)) else if (40 : Int) ≤ (mgS B).1.length then ([], (14, -1)) else ((mgS B).1, (0, 0))
theorem mem_getD {α : Type} {l : List α} {k : Nat} (h : k < l.length) (e : α) : l.getD (k : Int).toNat e ∈ l := by rw [getD_l h]; exact List.getElem_mem _
theorem cut1 (l : List Int) : (l.drop (Int.toNat 1)).take (((l.length : Int)).toNat - Int.toNat 1) = l.drop 1 := by
  rw [show Int.toNat 1 = 1 from rfl, Int.toNat_natCast]
  exact List.take_of_length_le (by rw [List.length_drop]; omega)
def ordsS (h : List Ob) (o : Ob) : List (List Int) := o.refs.map fun n => (obAt h n).order
/-- The seventh group. -/
def orderOkS (h : List Ob) (o : Ob) (i : Int) : Bool := if ¬ o.kind = 9 then true else decide ((orderS (ordsS h o)).2.1 = 0) && decide (o.order = [i] ++ (orderS (ordsS h o)).1)

theorem inTail_ok (B : List (List Int)) (n : Int) (hB : ∀ l ∈ B, 0 < l.length) : Fn Tryd.prog 80 [.sl false 1 B lD [], .v (.int .i64 n)] (.v (.bool (inT B n))) := by
  refine fn_ev tabT Tryd.func80 rfl rfl rfl rfl rfl rfl ?_
  intro w0 s0 mx
  refine ev_len 0 rfl fun hl0 => ?_
  refine ev_seq (ev_region tabT [] 100 rfl ?_)
  repeat (first | refine sat_same ?_ | refine sat_impA ?_ | refine sat_needA ?_)
  refine sat_done ?_
  refine exS_normal ?_
  refine ev_seq ?_
  refine ev_seq (ev_region tabT [] 200 rfl ?_)
  repeat (first | refine sat_same ?_ | refine sat_impA ?_ | refine sat_needA ?_)
  refine sat_done ?_
  refine exS_normal ?_
  refine ev_block ?_
  refine ev_loopK (ι := Al B (fun x => !hasB (x.drop 1) n)) [1, 7, 8] [] 250 (fun x => [(9, .v (.int .i64 x.k))]) (fun _ => []) (fun x => B.length - x.k) ⟨0, Nat.zero_le _, fun j x hj => by omega⟩ ?_
  refine ⟨⟨(by first | exact trivial | (repeat (first | exact trivial | exact Sub.refl _ | refine ⟨?_, ?_⟩ | exact Sub.int (by first | rfl | omega | (push_cast; omega)) | exact Sub.nilSl | exact Sub.own rfl | exact Sub.slrSl rfl | exact Sub.ownSl (List.map_append).symm | exact Sub.ownSl rfl))), (by repeat (first | exact trivial | exact SubO.same rfl | refine ⟨?_, ?_⟩)), rfl, rfl⟩, fun x => ?_⟩
  have hk := x.le
  refine ev_seq (ev_region tabT [] 300 rfl ?_)
  repeat (first | refine sat_same ?_ | refine sat_impA ?_ | refine sat_needA ?_)
  refine sat_done ?_
  refine exS_normal ?_
  refine ev_seq ?_
  refine ev_cond rfl (fun c2 => ?_) (fun c2 => ?_)
  · try simp only [decide_eq_true_eq, decide_eq_false_iff_not, Bool.not_eq_true', Bool.not_eq_false', Bool.and_eq_true, Bool.or_eq_true, Bool.or_eq_false_iff, gt_iff_lt, Int.not_lt, Bool.not_true, Bool.not_false, Int.ofNat_lt, Int.ofNat_le] at c2
    refine ev_skip ?_
    refine exS_normal ?_
    refine ev_seq ?_
    refine ev_block ?_
    refine ev_seq (ev_region tabT [] 400 rfl ?_)
    repeat (first | refine sat_same ?_ | refine sat_impA ?_ | refine sat_needA ?_)
    refine sat_done ?_
    refine exS_normal ?_
    refine ev_seq (ev_region tabT [] 500 rfl ?_)
    repeat (first | refine sat_same ?_ | refine sat_impA ?_ | refine sat_need (by first | (have h1 := hB _ (mem_getD c2 []); refine ⟨by decide, ?_, ?_⟩ <;> omega) | omega) ?_)
    refine sat_fn _ (HasInt_ok _ _) rfl ?_
    repeat (first | refine sat_same ?_ | refine sat_impA ?_ | refine sat_need (by first | (have h1 := hB _ (mem_getD c2 []); refine ⟨by decide, ?_, ?_⟩ <;> omega) | omega) ?_)
    refine sat_done ?_
    refine exS_normal ?_
    refine ev_cond rfl (fun c4 => ?_) (fun c4 => ?_)
    · rw [cut1] at c4
      refine ev_seq (ev_region tabT [] 600 rfl ?_)
      repeat (first | refine sat_same ?_ | refine sat_impA ?_ | refine sat_needA ?_)
      refine sat_done ?_
      refine exS_normal ?_
      refine ev_ret ?_
      refine exBl_ret ?_
      refine exS_ret ?_
      refine exL_ret ?_
      refine exBl_ret ?_
      refine exS_ret ?_
      exact FinV.ret rfl (SubP.bool (by
          rw [inT, eq_comm, List.any_eq_true]
          exact ⟨_, mem_getD c2 [], c4⟩))
    · rw [cut1] at c4
      refine ev_skip ?_
      refine exBl_normal ?_
      refine exS_normal ?_
      refine ev_region tabT [] 700 rfl ?_
      repeat (first | refine sat_same ?_ | refine sat_impA ?_ | refine sat_needA ?_)
      refine sat_done ?_
      exact exL_normal (x.next (e := []) c2 (by rw [c4]; rfl)) ⟨(by first | exact trivial | (repeat (first | exact trivial | exact Sub.refl _ | refine ⟨?_, ?_⟩ | exact Sub.int (by first | rfl | omega | (push_cast; omega)) | exact Sub.nilSl | exact Sub.own rfl | exact Sub.slrSl rfl | exact Sub.ownSl (List.map_append).symm | exact Sub.ownSl rfl))), (by repeat (first | exact trivial | exact SubO.same rfl | refine ⟨?_, ?_⟩)), rfl, rfl⟩ (by show B.length - (x.k + 1) < B.length - x.k; omega)
  · try simp only [decide_eq_true_eq, decide_eq_false_iff_not, Bool.not_eq_true', Bool.not_eq_false', Bool.and_eq_true, Bool.or_eq_true, Bool.or_eq_false_iff, gt_iff_lt, Int.not_lt, Bool.not_true, Bool.not_false, Int.ofNat_lt, Int.ofNat_le] at c2
    refine ev_exit ?_
    refine exS_exit ?_
    refine exL_exit ?_
    refine exBl_same ?_
    refine exS_normal ?_
    refine ev_seq (ev_region tabT [] 800 rfl ?_)
    repeat (first | refine sat_same ?_ | refine sat_impA ?_ | refine sat_needA ?_)
    refine sat_done ?_
    refine exS_normal ?_
    refine ev_ret ?_
    exact FinV.ret rfl (SubP.bool (by
        rw [inT, eq_comm, ← Bool.not_eq_true, List.any_eq_true]
        rintro ⟨y, hy, h1⟩
        have := List.all_eq_true.1 (x.yes c2) y hy
        rw [h1] at this; cases this))

theorem OrdersFault_ok (B : List (List Int)) : Fn Tryd.prog 69 [.sl false 1 B lD []] (fltD (ofS B)) := by
  refine fn_ev tabT Tryd.func69 rfl rfl rfl rfl rfl rfl ?_
  intro w0 s0 mx
  refine ev_len 0 rfl fun hl0 => ?_
  refine ev_seq (ev_region tabT [] 100 rfl ?_)
  repeat (first | refine sat_same ?_ | refine sat_impA ?_ | refine sat_needA ?_)
  refine sat_done ?_
  refine exS_normal ?_
  refine ev_seq ?_
  refine ev_seq (ev_region tabT [] 200 rfl ?_)
  repeat (first | refine sat_same ?_ | refine sat_impA ?_ | refine sat_needA ?_)
  refine sat_done ?_
  refine exS_normal ?_
  refine ev_cond rfl (fun c1 => ?_) (fun c1 => ?_)
  · 
    refine ev_seq (ev_region tabT [] 300 rfl ?_)
    repeat (first | refine sat_same ?_ | refine sat_impA ?_ | refine sat_needA ?_)
    refine sat_fn _ (At_ok _ _) rfl ?_
    repeat (first | refine sat_same ?_ | refine sat_impA ?_ | refine sat_needA ?_)
    refine sat_done ?_
    refine exS_normal ?_
    refine ev_ret ?_
    refine exS_ret ?_
    exact FinV.ret rfl (SubP.of_eq (by show fltD (2, -1) = fltD _; rw [ofS, if_pos (of_decide_eq_true c1)]))
  · have hb := of_decide_eq_false c1
    refine ev_skip ?_
    refine exS_normal ?_
    refine ev_seq (ev_region tabT [] 400 rfl ?_)
    repeat (first | refine sat_same ?_ | refine sat_impA ?_ | refine sat_needA ?_)
    refine sat_done ?_
    refine exS_normal ?_
    refine ev_nilRow 3 3 1 rfl ?_
    refine ev_seq ?_
    refine ev_seq (ev_region tabT [] 500 rfl ?_)
    repeat (first | refine sat_same ?_ | refine sat_impA ?_ | refine sat_needA ?_)
    refine sat_done ?_
    refine exS_normal ?_
    refine ev_block ?_
    have hb8 : B.length ≤ 8 := by omega
    refine ev_loopK (ι := Sc B ofF) [2, 14, 15] [0] 550 (fun x => [(16, .v (.int .i64 x.k)), (3, .own 400 1 (((B.take x.k).map hdI).map iD))]) (fun x => [(400, .row 3 1 (((B.take x.k).map hdI).map iD).length)]) (fun x => B.length - x.k) (Sc.start _ _) ?_
    refine ⟨⟨(by first | exact trivial | (repeat (first | exact trivial | exact Sub.refl _ | refine ⟨?_, ?_⟩ | exact Sub.int (by first | rfl | omega | (push_cast; omega)) | exact Sub.nilSl | exact Sub.own rfl | exact Sub.slrSl rfl | exact Sub.ownSl (List.map_append).symm | exact Sub.ownSl rfl | exact Sub.own (by simp [-List.getD_eq_getElem?_getD, Sc.start]) | exact Sub.ownSl (by simp [-List.getD_eq_getElem?_getD, Sc.start]) | exact Sub.int (by simp [-List.getD_eq_getElem?_getD, Sc.start])))), (by repeat (first | exact trivial | exact SubO.same rfl | exact ⟨rfl, rfl, by simp [-List.getD_eq_getElem?_getD, Sc.start]⟩ | refine ⟨?_, ?_⟩)), rfl, rfl⟩, fun x => ?_⟩
    have hk := x.le
    have hlk : ((B.take x.k).length : Int) = (x.k : Int) := by rw [List.length_take]; omega
    refine ev_seq (ev_region tabT [] 600 rfl ?_)
    repeat (first | refine sat_same ?_ | refine sat_impA ?_ | refine sat_needA ?_)
    refine sat_done ?_
    refine exS_normal ?_
    refine ev_seq ?_
    refine ev_cond rfl (fun c5 => ?_) (fun c5 => ?_)
    · try simp only [decide_eq_true_eq, decide_eq_false_iff_not, Bool.not_eq_true', Bool.not_eq_false', Bool.and_eq_true, Bool.or_eq_true, Bool.or_eq_false_iff, gt_iff_lt, Int.not_lt, Bool.not_true, Bool.not_false, Int.ofNat_lt, Int.ofNat_le] at c5
      refine ev_skip ?_
      refine exS_normal ?_
      refine ev_seq ?_
      refine ev_block ?_
      refine ev_seq (ev_region tabT [] 700 rfl ?_)
      repeat (first | refine sat_same ?_ | refine sat_impA ?_ | refine sat_needA ?_)
      refine sat_done ?_
      refine exS_normal ?_
      refine ev_seq (ev_region tabT [] 800 rfl ?_)
      repeat (first | refine sat_same ?_ | refine sat_impA ?_ | refine sat_needA ?_)
      refine sat_done ?_
      refine exS_normal ?_
      refine ev_len 5 rfl fun hl5 => ?_
      refine ev_seq ?_
      refine ev_seq (ev_region tabT [] 900 rfl ?_)
      repeat (first | refine sat_same ?_ | refine sat_impA ?_ | refine sat_needA ?_)
      refine sat_done ?_
      refine exS_normal ?_
      refine ev_block ?_
      refine ev_loopK (ι := Up (B.getD (x.k : Int).toNat []).length (fun _ => true)) [2, 3, 4, 5, 14, 15, 16, 21, 22] [0, 400] 950 (fun y => [(23, .v (.int .i64 y.k)), (6, .v (.bool (twS (B.getD (x.k : Int).toNat []) y.k))), (7, .v (.int .i64 (lowS ((B.getD (x.k : Int).toNat []).take y.k))))]) (fun _ => []) (fun y => (B.getD (x.k : Int).toNat []).length - y.k) ⟨0, Nat.zero_le _, fun j hj => by omega⟩ ?_
      refine ⟨⟨(by first | exact trivial | (repeat (first | exact trivial | exact Sub.refl _ | refine ⟨?_, ?_⟩ | exact Sub.int (by first | rfl | omega | (push_cast; omega)) | exact Sub.nilSl | exact Sub.own rfl | exact Sub.slrSl rfl | exact Sub.ownSl (List.map_append).symm | exact Sub.ownSl rfl))), (by repeat (first | exact trivial | exact SubO.same rfl | refine ⟨?_, ?_⟩)), rfl, rfl⟩, fun y => ?_⟩
      have hky := y.le
      refine ev_seq (ev_region tabT [] 1000 rfl ?_)
      repeat (first | refine sat_same ?_ | refine sat_impA ?_ | refine sat_needA ?_)
      refine sat_done ?_
      refine exS_normal ?_
      refine ev_seq ?_
      refine ev_cond rfl (fun c9 => ?_) (fun c9 => ?_)
      · try simp only [decide_eq_true_eq, decide_eq_false_iff_not, Bool.not_eq_true', Bool.not_eq_false', Bool.and_eq_true, Bool.or_eq_true, Bool.or_eq_false_iff, gt_iff_lt, Int.not_lt, Bool.not_true, Bool.not_false, Int.ofNat_lt, Int.ofNat_le] at c9
        refine ev_skip ?_
        refine exS_normal ?_
        refine ev_seq ?_
        refine ev_block ?_
        refine ev_seq (ev_region tabT [] 1100 rfl ?_)
        repeat (first | refine sat_same ?_ | refine sat_impA ?_ | refine sat_needA ?_)
        refine sat_done ?_
        refine exS_normal ?_
        refine ev_seq (ev_region tabT [] 1200 rfl ?_)
        repeat (first | refine sat_same ?_ | refine sat_impA ?_ | refine sat_need (by first | (intro hh; exact ⟨by decide, by omega, by omega⟩) | (intro hh; refine ⟨by decide, ?_, ?_⟩ <;> omega)) ?_)
        refine sat_fnG _ (fun hg6 => HasInt_ok _ _) rfl ?_
        repeat (first | refine sat_same ?_ | refine sat_impA ?_ | refine sat_need (by first | (intro hh; exact ⟨by decide, by omega, by omega⟩) | (intro hh; refine ⟨by decide, ?_, ?_⟩ <;> omega)) ?_)
        refine sat_done ?_
        refine exS_normal ?_
        refine ev_region tabT [] 1300 rfl ?_
        repeat (first | refine sat_same ?_ | refine sat_impA ?_ | refine sat_needA ?_)
        refine sat_done ?_
        refine exBl_normal ?_
        refine exS_normal ?_
        refine ev_region tabT [] 1400 rfl ?_
        repeat (first | refine sat_same ?_ | refine sat_impA ?_ | refine sat_needA ?_)
        refine sat_done ?_
        exact exL_normal (y.next c9 rfl) ⟨(by first | exact trivial | (repeat (first | exact trivial | exact Sub.refl _ | refine ⟨?_, ?_⟩ | exact Sub.int (by first | rfl | omega | (push_cast; omega)) | exact Sub.nilSl | exact Sub.own rfl | exact Sub.slrSl rfl | exact Sub.ownSl (List.map_append).symm | exact Sub.ownSl rfl | exact Sub.bool (twS_succ _ _).symm | exact Sub.int (low_succ c9).symm))), (by repeat (first | exact trivial | exact SubO.same rfl | refine ⟨?_, ?_⟩)), rfl, rfl⟩ (by show (B.getD (x.k : Int).toNat []).length - (y.k + 1) < (B.getD (x.k : Int).toNat []).length - y.k; omega)
      · try simp only [decide_eq_true_eq, decide_eq_false_iff_not, Bool.not_eq_true', Bool.not_eq_false', Bool.and_eq_true, Bool.or_eq_true, Bool.or_eq_false_iff, gt_iff_lt, Int.not_lt, Bool.not_true, Bool.not_false, Int.ofNat_lt, Int.ofNat_le] at c9
        refine ev_exit ?_
        refine exS_exit ?_
        refine exL_exit ?_
        refine exBl_same ?_
        refine exS_normal ?_
        refine ev_seq ?_
        refine ev_block ?_
        refine ev_seq (ev_region tabT [] 1500 rfl ?_)
        repeat (first | refine sat_same ?_ | refine sat_impA ?_ | refine sat_needA ?_)
        refine sat_done ?_
        refine exS_normal ?_
        refine ev_cond rfl (fun c14 => ?_) (fun c14 => ?_)
        · replace c14 := of_decide_eq_true c14
          refine ev_seq (ev_region tabT [] 1600 rfl ?_)
          repeat (first | refine sat_same ?_ | refine sat_impA ?_ | refine sat_needA ?_)
          refine sat_fn _ (At_ok _ _) rfl ?_
          repeat (first | refine sat_same ?_ | refine sat_impA ?_ | refine sat_needA ?_)
          refine sat_done ?_
          refine exS_normal ?_
          refine ev_ret ?_
          refine exBl_ret ?_
          refine exS_ret ?_
          refine exBl_ret ?_
          refine exS_ret ?_
          refine exL_ret ?_
          refine exBl_ret ?_
          refine exS_ret ?_
          have hty : (B.getD (x.k : Int).toNat []).take y.k = (B.getD (x.k : Int).toNat []) := List.take_of_length_le (by omega)
          have hyk : (B.getD (x.k : Int).toNat []).length = y.k := by omega
          exact FinV.ret rfl (SubP.of_eq (by show fltD (10, (x.k : Int)) = fltD _; rw [ofS, if_neg hb]; exact congrArg fltD (x.here (e := ([] : List Int)) c5 (by rw [ofF, if_pos c14]; exact congrArg (Prod.mk (10 : Int)) hlk))))
        · replace c14 := of_decide_eq_false c14
          refine ev_seq (ev_region tabT [] 1700 rfl ?_)
          repeat (first | refine sat_same ?_ | refine sat_impA ?_ | refine sat_needA ?_)
          refine sat_done ?_
          refine exS_normal ?_
          refine ev_cond rfl (fun c16 => ?_) (fun c16 => ?_)
          · replace c16 := of_decide_eq_true c16
            refine ev_seq (ev_region tabT [] 1800 rfl ?_)
            repeat (first | refine sat_same ?_ | refine sat_impA ?_ | refine sat_needA ?_)
            refine sat_fn _ (At_ok _ _) rfl ?_
            repeat (first | refine sat_same ?_ | refine sat_impA ?_ | refine sat_needA ?_)
            refine sat_done ?_
            refine exS_normal ?_
            refine ev_ret ?_
            refine exBl_ret ?_
            refine exS_ret ?_
            refine exBl_ret ?_
            refine exS_ret ?_
            refine exL_ret ?_
            refine exBl_ret ?_
            refine exS_ret ?_
            have hty : (B.getD (x.k : Int).toNat []).take y.k = (B.getD (x.k : Int).toNat []) := List.take_of_length_le (by omega)
            have hyk : (B.getD (x.k : Int).toNat []).length = y.k := by omega
            exact FinV.ret rfl (SubP.of_eq (by show fltD (2, (x.k : Int)) = fltD _; rw [ofS, if_neg hb]; exact congrArg fltD (x.here (e := ([] : List Int)) c5 (by rw [ofF, if_neg c14, if_pos c16]; exact congrArg (Prod.mk (2 : Int)) hlk))))
          · replace c16 := of_decide_eq_false c16
            refine ev_seq (ev_region tabT [] 1900 rfl ?_)
            repeat (first | refine sat_same ?_ | refine sat_impA ?_ | refine sat_needA ?_)
            refine sat_done ?_
            refine exS_normal ?_
            refine ev_cond rfl (fun c18 => ?_) (fun c18 => ?_)
            · replace c18 := of_decide_eq_true c18
              refine ev_seq (ev_region tabT [] 2000 rfl ?_)
              repeat (first | refine sat_same ?_ | refine sat_impA ?_ | refine sat_needA ?_)
              refine sat_fn _ (At_ok _ _) rfl ?_
              repeat (first | refine sat_same ?_ | refine sat_impA ?_ | refine sat_needA ?_)
              refine sat_done ?_
              refine exS_normal ?_
              refine ev_ret ?_
              refine exBl_ret ?_
              refine exS_ret ?_
              refine exBl_ret ?_
              refine exS_ret ?_
              refine exL_ret ?_
              refine exBl_ret ?_
              refine exS_ret ?_
              have hty : (B.getD (x.k : Int).toNat []).take y.k = (B.getD (x.k : Int).toNat []) := List.take_of_length_le (by omega)
              have hyk : (B.getD (x.k : Int).toNat []).length = y.k := by omega
              exact FinV.ret rfl (SubP.of_eq (by show fltD (4, (x.k : Int)) = fltD _; rw [ofS, if_neg hb]; exact congrArg fltD (x.here (e := ([] : List Int)) c5 (by rw [ofF, if_neg c14, if_neg c16, if_pos (show lowS (B.getD (x.k : Int).toNat []) < 0 from hty ▸ c18)]; exact congrArg (Prod.mk (4 : Int)) hlk))))
            · replace c18 := of_decide_eq_false c18
              refine ev_seq (ev_region tabT [] 2100 rfl ?_)
              repeat (first | refine sat_same ?_ | refine sat_impA ?_ | refine sat_need (by first | (intro hh; exact ⟨by decide, by omega⟩) | (intro hh; refine ⟨by decide, ?_⟩; omega) | omega) ?_)
              refine sat_fnG _ (fun hg6 => (HasInt_ok ((B.take x.k).map hdI) _).args ⟨SubP.ownSl (k := 400) rfl, SubP.refl _, trivial⟩) rfl ?_
              repeat (first | refine sat_same ?_ | refine sat_impA ?_ | refine sat_need (by first | (intro hh; exact ⟨by decide, by omega⟩) | (intro hh; refine ⟨by decide, ?_⟩; omega) | omega) ?_)
              refine sat_done ?_
              refine exS_normal ?_
              refine ev_cond rfl (fun c20 => ?_) (fun c20 => ?_)
              · 
                refine ev_seq (ev_region tabT [] 2200 rfl ?_)
                repeat (first | refine sat_same ?_ | refine sat_impA ?_ | refine sat_needA ?_)
                refine sat_fn _ (At_ok _ _) rfl ?_
                repeat (first | refine sat_same ?_ | refine sat_impA ?_ | refine sat_needA ?_)
                refine sat_done ?_
                refine exS_normal ?_
                refine ev_ret ?_
                refine exBl_ret ?_
                refine exS_ret ?_
                refine exBl_ret ?_
                refine exS_ret ?_
                refine exL_ret ?_
                refine exBl_ret ?_
                refine exS_ret ?_
                have hty : (B.getD (x.k : Int).toNat []).take y.k = (B.getD (x.k : Int).toNat []) := List.take_of_length_le (by omega)
                have hyk : (B.getD (x.k : Int).toNat []).length = y.k := by omega
                exact FinV.ret rfl (SubP.of_eq (by show fltD (8, (x.k : Int)) = fltD _; rw [ofS, if_neg hb]; exact congrArg fltD (x.here (e := ([] : List Int)) c5 (by rw [ofF, if_neg c14, if_neg c16, if_neg (show ¬ lowS (B.getD (x.k : Int).toNat []) < 0 from hty ▸ c18), if_pos (show (twS (B.getD (x.k : Int).toNat []) (B.getD (x.k : Int).toNat []).length || hasB ((B.take x.k).map hdI) (hdI (B.getD (x.k : Int).toNat []))) = true by rw [hyk]; exact c20)]; exact congrArg (Prod.mk (8 : Int)) hlk))))
              · 
                refine ev_skip ?_
                refine exBl_normal ?_
                refine exS_normal ?_
                refine ev_region tabT [] 2300 rfl ?_
                repeat (first | refine sat_same ?_ | refine sat_impA ?_ | refine sat_need (by first | rfl | (refine ⟨by decide, ?_⟩; omega) | (simp only [List.length_map, List.length_take, List.length_cons, List.length_nil]; omega)) ?_)
                refine sat_done ?_
                refine exBl_normal ?_
                refine exS_normal ?_
                refine ev_region tabT [] 2400 rfl ?_
                repeat (first | refine sat_same ?_ | refine sat_impA ?_ | refine sat_needA ?_)
                refine sat_done ?_
                exact exL_normal (x.next (e := ([] : List Int)) c5 (by
                  have hty : (B.getD (x.k : Int).toNat []).take y.k = (B.getD (x.k : Int).toNat []) := List.take_of_length_le (by omega)
                  have hyk : (B.getD (x.k : Int).toNat []).length = y.k := by omega
                  rw [ofF, if_neg c14, if_neg c16, if_neg (show ¬ lowS (B.getD (x.k : Int).toNat []) < 0 from hty ▸ c18), if_neg (by rw [(show (twS (B.getD (x.k : Int).toNat []) (B.getD (x.k : Int).toNat []).length || hasB ((B.take x.k).map hdI) (hdI (B.getD (x.k : Int).toNat []))) = false by rw [hyk]; exact c20)]; decide)])) ⟨⟨Sub.refl _, Sub.own (by show _ = (((B.take (x.k + 1)).map hdI).map iD); rw [take_at c5 [], List.map_append, List.map_append]; rfl), by repeat (first | exact trivial | exact Sub.refl _ | refine ⟨?_, ?_⟩)⟩, ⟨⟨rfl, rfl, by show _ = (((B.take (x.k + 1)).map hdI).map iD).length; rw [take_at c5 [], List.map_append, List.map_append]; rfl⟩, by repeat (first | exact trivial | exact SubO.same rfl | refine ⟨?_, ?_⟩)⟩, rfl, rfl⟩ (by show B.length - (x.k + 1) < B.length - x.k; omega)
    · try simp only [decide_eq_true_eq, decide_eq_false_iff_not, Bool.not_eq_true', Bool.not_eq_false', Bool.and_eq_true, Bool.or_eq_true, Bool.or_eq_false_iff, gt_iff_lt, Int.not_lt, Bool.not_true, Bool.not_false, Int.ofNat_lt, Int.ofNat_le] at c5
      refine ev_exit ?_
      refine exS_exit ?_
      refine exL_exit ?_
      refine exBl_same ?_
      refine exS_normal ?_
      refine ev_seq (ev_region tabT [] 2500 rfl ?_)
      repeat (first | refine sat_same ?_ | refine sat_impA ?_ | refine sat_needA ?_)
      refine sat_done ?_
      refine exS_normal ?_
      refine ev_ret ?_
      exact FinV.ret rfl (SubP.of_eq (by show fltD (0, 0) = fltD _; rw [ofS, if_neg hb]; exact congrArg fltD (x.done c5 rfl)))

end Go.Proofs.YtjlnanhjhfkddaaDoor
