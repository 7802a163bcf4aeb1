/- Part 29 of the proof. -/
import Derived.Test.YtfcjacajnnkkfaaGreatDoorM28
import Derived.Test.YtfcjacajnnkkfaaGreatDoorM12

/- Walks by the evaluator: N: numbers of the document. -/
namespace Go.Proofs.YtfcjacajnnkkfaaGreatDoor
open Go.RowKit
variable {md me : Bool}

def nD (n : Nat) : List D := [.v (.int .i64 n)]
def natD (n : Nat) : D := .sl false 1 (dig n) nD 0
structure Trm (l : List Nat) where
  r : List Nat
  dg : Dg r
  eq : V r = V l
  le : r.length ≤ l.length
theorem last_take {r : List Nat} (h : 0 < r.length) (h0 : r.getD (r.length - 1) 0 = 0) : V (r.take (r.length - 1)) = V r := by
  have h1 := V_take_succ' r (r.length - 1)
  rw [h0, show r.length - 1 + 1 = r.length by omega, List.take_of_length_le (Nat.le_refl _)] at h1
  omega
def Trm.next {l : List Nat} (x : Trm l) (h : 0 < x.r.length) (h0 : x.r.getD (x.r.length - 1) 0 = 0) : Trm l := ⟨x.r.take (x.r.length - 1), x.dg.take _, by rw [last_take h h0, x.eq], by have := x.le; simp; omega⟩
theorem Trm.fin {l : List Nat} (x : Trm l) (h : 0 < x.r.length → x.r.getD (x.r.length - 1) 0 ≠ 0) : x.r = dig (V l) := by
  rw [← x.eq]
  refine (dig_V x.dg fun hne => ?_).symm
  have hp : 0 < x.r.length := List.length_pos_iff.2 hne
  rw [List.getLast_eq_getElem, ← getD_lt (by omega)]
  exact h hp
structure Bn (l : List Bool) where
  j : Nat
  o : List Nat
  eq : V o = VB (l.take (16 * j))
  lo : o.length = j
  dg : Dg o
  le : 16 * j ≤ l.length + 15
def Bn.next {l : List Bool} (x : Bn l) (h : 16 * x.j < l.length) : Bn l := ⟨x.j + 1, x.o ++ [chunk l (16 * x.j) 0], binary_step x.eq x.lo h, by simp [x.lo], x.dg.snoc (chunk_lt _ _ _), by omega⟩

theorem t_cut {α : Type} (r : List α) : List.take (((r.length : Int) - 1).toNat - Int.toNat 0) (List.drop (Int.toNat 0) r) = r.take (r.length - 1) := by
  show List.take _ r = _
  congr 1; simp
theorem t_last (r : List Nat) : r.getD ((r.length : Int) - 1).toNat 0 = r.getD (r.length - 1) 0 := by congr 1; omega
theorem chunk_at {l : List Bool} {i k : Nat} (hk : k < 16) : chunk l i k = chunk l i (k + 1) * 2 + (if decide (i + k < l.length) && l.getD (i + k) false then 1 else 0) := by
  rw [chunk_step hk, Nat.mul_comm]
  by_cases h : i + k < l.length
  · rw [dif_pos h, decide_eq_true h, Bool.true_and, List.getD_eq_getElem?_getD, List.getElem?_eq_getElem h]; cases l[i + k] <;> rfl
  · rw [dif_neg h, decide_eq_false h]; rfl
/-- The bit that is read. -/
def bitAt (l : List Bool) (i k : Nat) : Bool := decide (i + k < l.length) && l.getD (i + k) false
theorem chunk_one {l : List Bool} {i k : Nat} (hk : k < 16) (h : bitAt l i k = true) : chunk l i k = chunk l i (k + 1) * 2 + 1 := by rw [chunk_at hk]; unfold bitAt at h; rw [h]; rfl
theorem chunk_nil {l : List Bool} {i k : Nat} (hk : k < 16) (h : bitAt l i k = false) : chunk l i k = chunk l i (k + 1) * 2 := by rw [chunk_at hk]; unfold bitAt at h; rw [h]; rfl
/-- Where the inner loop stands. -/
structure Bj where
  k : Nat
  le : k ≤ 16

theorem bit_T {l : List Bool} {I k : Nat} (hk : 1 ≤ k) (h : (I : Int) + ((k : Int) - 1) < l.length ∧ l.getD ((I : Int) + ((k : Int) - 1)).toNat false = true) : bitAt l I (k - 1) = true := by
  unfold bitAt
  rw [show ((I : Int) + ((k : Int) - 1)).toNat = I + (k - 1) by omega] at h
  rw [h.2, decide_eq_true (by omega)]; rfl
theorem bit_F {l : List Bool} {I k : Nat} (hk : 1 ≤ k) (h : (decide ((I : Int) + ((k : Int) - 1) < l.length) && l.getD ((I : Int) + ((k : Int) - 1)).toNat false) = false) : bitAt l I (k - 1) = false := by
  unfold bitAt
  rw [show ((I : Int) + ((k : Int) - 1)).toNat = I + (k - 1) by omega] at h
  rw [show decide (I + (k - 1) < l.length) = decide ((I : Int) + ((k : Int) - 1) < l.length) from decide_eq_decide.2 (by omega)]; exact h
theorem Bn.all {l : List Bool} (x : Bn l) (h : l.length ≤ 16 * x.j) : V x.o = VB l := by rw [x.eq, List.take_of_length_le h]
structure Nb (n : Int) where
  m : Int
  o : List Bool
  eq : VB o + m.natAbs * 2 ^ o.length = n.natAbs
  lo : -9223372036854775808 ≤ m
  hi : m ≤ 9223372036854775807
  ln : o.length ≤ 64
theorem nb_bit (m : Int) : (!decide (Int.tmod m 2 = 0)) = (m.natAbs % 2 == 1) := by
  have : (Int.tmod m 2).natAbs = m.natAbs % 2 := by
    rw [Int.natAbs_tmod]; rfl
  rw [Bool.eq_iff_iff, Bool.not_eq_true', decide_eq_false_iff_not, beq_iff_eq, ← this]
  have h : (Int.tmod m 2).natAbs < 2 := by rw [this]; omega
  omega
theorem nb_half (m : Int) : (Int.tdiv m 2).natAbs = m.natAbs / 2 := by rw [Int.natAbs_tdiv]; rfl
def Nb.next {n : Int} (x : Nb n) (h : x.o.length ≤ 63) : Nb n := ⟨Int.tdiv x.m 2, x.o ++ [!decide (Int.tmod x.m 2 = 0)], by
  rw [nb_bit, nb_half, List.length_append, List.length_singleton]
  exact ones_step x.eq rfl, by have := nb_half x.m; have := x.lo; have := x.hi; omega, by have := nb_half x.m; have := x.lo; have := x.hi; omega, by simp; omega⟩
theorem Nb.len {n : Int} (x : Nb n) (h : ¬ x.m = 0) (h1 : -9223372036854775808 ≤ n) (h2 : n ≤ 9223372036854775807) : x.o.length ≤ 63 := by
  rcases Nat.lt_or_ge 63 x.o.length with h3 | h3
  · have h4 : 2 ^ 64 ≤ 2 ^ x.o.length := Nat.pow_le_pow_right (by omega) h3
    have h5 : 1 * 2 ^ x.o.length ≤ x.m.natAbs * 2 ^ x.o.length := Nat.mul_le_mul_right _ (by omega)
    have h6 := x.eq
    omega
  · exact h3
theorem Nb.fin {n : Int} (x : Nb n) (h : x.m = 0) : VB x.o = n.natAbs := by rw [← x.eq, h]; simp
structure Lb (n : Nat) where
  j : Nat
  o : List Nat
  eq : VL o = V ((dig n).take (2 * j))
  lo : o.length = j
  lg : Lg o
  le : 2 * j < (dig n).length + 2
theorem dig_at (n i : Nat) : (dig n).getD i 0 < 65536 := by
  rcases Nat.lt_or_ge i (dig n).length with h | h
  · rw [getD_lt h]; exact (dig_Dg n).at h
  · rw [getD_ge h]; omega
def lbD (n j : Nat) : Nat := (dig n).getD (2 * j) 0 + (dig n).getD (2 * j + 1) 0 * 65536
theorem lb_T (n j : Nat) : IntKind.u32.wrap (IntKind.u32.wrap (((dig n).getD (2 * j) 0 : Nat) : Int) + IntKind.u32.wrap (IntKind.u32.wrap (((dig n).getD (2 * j + 1) 0 : Nat) : Int) * 65536)) = ((lbD n j : Nat) : Int) := by
  have h1 := dig_at n (2 * j)
  have h2 := dig_at n (2 * j + 1)
  unfold lbD
  simp only [IntKind.wrap, IntKind.signed, IntKind.bits, Bool.false_and, Bool.false_eq_true, if_false]
  omega
theorem lb_F (n j : Nat) (h : (dig n).length ≤ 2 * j + 1) : IntKind.u32.wrap (((dig n).getD (2 * j) 0 : Nat) : Int) = ((lbD n j : Nat) : Int) := by
  have h1 := dig_at n (2 * j)
  unfold lbD
  rw [getD_ge h]
  simp only [IntKind.wrap, IntKind.signed, IntKind.bits, Bool.false_and, Bool.false_eq_true, if_false]
  omega
def Lb.next {n : Nat} (x : Lb n) (h : 2 * x.j < (dig n).length) : Lb n := ⟨x.j + 1, x.o ++ [lbD n x.j], limbs_step x.eq x.lo, by simp [x.lo], x.lg.snoc (by have h1 := dig_at n (2 * x.j); have h2 := dig_at n (2 * x.j + 1); unfold lbD; omega), by omega⟩
theorem Lb.fin {n : Nat} (x : Lb n) (h : (dig n).length ≤ 2 * x.j) : x.o = lim n := limbs_end (by rw [x.lo]; exact x.eq) (by rw [x.lo]; exact h) (by rw [x.lo]; exact x.le) x.lg

theorem trim_ok (l : List Nat) (hd : Dg l) (hl : l.length ≤ 1000000000) : Fn Tryz.prog 61 [.sl false 1 l nD 0] (natD (V l)) := by
  refine fn_ev tabT Tryz.func61 rfl rfl rfl rfl rfl rfl ?_
  intro w0 s0 mx
  refine ev_seq (ev_region tabT [] 100 rfl ?_)
  repeat (first | refine sat_same ?_ | refine sat_impA ?_ | refine sat_needA ?_)
  refine sat_done ?_
  refine exS_normal ?_
  refine ev_seq ?_
  refine ev_block ?_
  refine ev_loopK (ι := Trm l) [] [] 150 (fun x => [(0, .sl false 1 x.r nD 0)]) (fun _ => []) (fun x => x.r.length) ⟨l, hd, rfl, Nat.le_refl _⟩ ?_
  refine ⟨⟨(by first | exact trivial | (repeat (first | exact trivial | exact Sub.refl _ | refine ⟨?_, ?_⟩ | exact Sub.int (by first | rfl | omega | (push_cast; omega)) | exact Sub.nilSl | exact Sub.own rfl | exact Sub.slrSl rfl | exact Sub.ownSl (List.map_append).symm | exact Sub.ownSl rfl))), (by repeat (first | exact trivial | exact SubO.same rfl | refine ⟨?_, ?_⟩)), rfl, rfl⟩, fun x => ?_⟩
  have hk := x.le
  refine ev_seq ?_
  refine ev_seq (ev_region tabT [] 200 rfl ?_)
  repeat (first | refine sat_same ?_ | refine sat_impA ?_ | refine sat_needA ?_)
  refine sat_done ?_
  refine exS_normal ?_
  refine ev_cond rfl (fun c1 => ?_) (fun c1 => ?_)
  · try simp only [decide_eq_true_eq, decide_eq_false_iff_not, Bool.not_eq_true', Bool.not_eq_false', Bool.and_eq_true, Bool.or_eq_true, Bool.or_eq_false_iff, gt_iff_lt, Int.not_lt, Bool.not_true, Bool.not_false, Int.ofNat_lt, Int.ofNat_le] at c1
    refine ev_skip ?_
    refine exS_normal ?_
    refine ev_block ?_
    refine ev_region tabT [] 300 rfl ?_
    repeat (first | refine sat_same ?_ | refine sat_impA ?_ | refine sat_needA ?_)
    refine sat_done ?_
    refine exBl_normal ?_
    exact exL_normal (x.next (by omega) (by have := c1.2; rw [t_last] at this; omega)) ⟨(by first | exact trivial | (repeat (first | exact trivial | exact Sub.refl _ | refine ⟨?_, ?_⟩ | exact Sub.int (by first | rfl | omega | (push_cast; omega)) | exact Sub.nilSl | exact Sub.own rfl | exact Sub.slrSl rfl | exact Sub.ownSl (List.map_append).symm | exact Sub.ownSl rfl | exact Sub.of_eq (by show D.sl false 1 _ nD 0 = _; rw [t_cut]; rfl)))), (by repeat (first | exact trivial | exact SubO.same rfl | refine ⟨?_, ?_⟩)), rfl, rfl⟩ (by show (x.r.take (x.r.length - 1)).length < x.r.length; rw [List.length_take]; omega)
  · try simp only [decide_eq_true_eq, decide_eq_false_iff_not, Bool.not_eq_true', Bool.not_eq_false', Bool.and_eq_true, Bool.or_eq_true, Bool.or_eq_false_iff, gt_iff_lt, Int.not_lt, Bool.not_true, Bool.not_false, Int.ofNat_lt, Int.ofNat_le] at c1
    refine ev_exit ?_
    refine exS_exit ?_
    refine exL_exit ?_
    refine exBl_same ?_
    refine exS_normal ?_
    refine ev_seq (ev_region tabT [] 400 rfl ?_)
    repeat (first | refine sat_same ?_ | refine sat_impA ?_ | refine sat_needA ?_)
    refine sat_done ?_
    refine exS_normal ?_
    refine ev_ret ?_
    exact FinV.ret rfl (SubP.of_eq (by show _ = D.sl false 1 _ nD 0; rw [← x.fin fun h e => by rw [t_last, e, decide_eq_true (by omega)] at c1; cases c1]))

theorem Binary_ok (l : List Bool) (hl : l.length ≤ 100000000) : Fn Tryz.prog 43 [.sl false 1 l bD false] (natD (VB l)) := by
  refine fn_ev tabT Tryz.func43 rfl rfl rfl rfl rfl rfl ?_
  intro w0 s0 mx
  refine ev_seq (ev_region tabT [] 100 rfl ?_)
  repeat (first | refine sat_same ?_ | refine sat_impA ?_ | refine sat_needA ?_)
  refine sat_done ?_
  refine exS_normal ?_
  refine ev_seq (ev_region tabT [] 200 rfl ?_)
  repeat (first | refine sat_same ?_ | refine sat_impA ?_ | refine sat_needA ?_)
  refine sat_done ?_
  refine exS_normal ?_
  refine ev_nilRow 3 3 1 rfl ?_
  refine ev_seq ?_
  refine ev_seq (ev_region tabT [] 300 rfl ?_)
  repeat (first | refine sat_same ?_ | refine sat_impA ?_ | refine sat_needA ?_)
  refine sat_done ?_
  refine exS_normal ?_
  refine ev_block ?_
  refine ev_loopK (ι := Bn l) [0] [] 350 (fun x => [(4, .v (.int .i64 (16 * x.j : Nat))), (3, .own 200 1 (x.o.map nD))]) (fun x => [(200, .row 3 1 (x.o.map nD).length)]) (fun x => l.length + 16 - 16 * x.j) ⟨0, [], rfl, rfl, Dg.nil, by omega⟩ ?_
  refine ⟨⟨(by first | exact trivial | (repeat (first | exact trivial | exact Sub.refl _ | refine ⟨?_, ?_⟩ | exact Sub.int (by first | rfl | omega | (push_cast; omega)) | exact Sub.nilSl | exact Sub.own rfl | exact Sub.slrSl rfl | exact Sub.ownSl (List.map_append).symm | exact Sub.ownSl rfl))), (by repeat (first | exact trivial | exact SubO.same rfl | refine ⟨?_, ?_⟩)), rfl, rfl⟩, fun x => ?_⟩
  have hk := x.le
  have hk2 := x.lo
  refine ev_seq ?_
  refine ev_seq (ev_region tabT [] 400 rfl ?_)
  repeat (first | refine sat_same ?_ | refine sat_impA ?_ | refine sat_needA ?_)
  refine sat_done ?_
  refine exS_normal ?_
  refine ev_cond rfl (fun c3 => ?_) (fun c3 => ?_)
  · try simp only [decide_eq_true_eq, decide_eq_false_iff_not, Bool.not_eq_true', Bool.not_eq_false', Bool.and_eq_true, Bool.or_eq_true, Bool.or_eq_false_iff, gt_iff_lt, Int.not_lt, Bool.not_true, Bool.not_false, Int.ofNat_lt, Int.ofNat_le] at c3
    refine ev_skip ?_
    refine exS_normal ?_
    refine ev_seq ?_
    refine ev_block ?_
    refine ev_seq (ev_region tabT [] 600 rfl ?_)
    repeat (first | refine sat_same ?_ | refine sat_impA ?_ | refine sat_needA ?_)
    refine sat_done ?_
    refine exS_normal ?_
    refine ev_seq ?_
    refine ev_seq (ev_region tabT [] 700 rfl ?_)
    repeat (first | refine sat_same ?_ | refine sat_impA ?_ | refine sat_needA ?_)
    refine sat_done ?_
    refine exS_normal ?_
    refine ev_block ?_
    refine ev_loopK (ι := Bj) [0, 3, 4] [200] 750 (fun y => [(6, .v (.int .i64 ((y.k : Int) - 1))), (5, .v (.int .i64 (chunk l (16 * x.j) y.k : Nat)))]) (fun _ => []) (fun y => y.k) ⟨16, Nat.le_refl _⟩ ?_
    refine ⟨⟨(by first | exact trivial | (repeat (first | exact trivial | exact Sub.refl _ | refine ⟨?_, ?_⟩ | exact Sub.int (by first | rfl | omega | (push_cast; omega)) | exact Sub.nilSl | exact Sub.own rfl | exact Sub.slrSl rfl | exact Sub.ownSl (List.map_append).symm | exact Sub.ownSl rfl | exact Sub.int (by rw [chunk_top]; rfl)))), (by repeat (first | exact trivial | exact SubO.same rfl | refine ⟨?_, ?_⟩)), rfl, rfl⟩, fun y => ?_⟩
    have hy := y.le
    have hy2 := chunk_lt l (16 * x.j) y.k
    refine ev_seq ?_
    refine ev_seq (ev_region tabT [] 800 rfl ?_)
    repeat (first | refine sat_same ?_ | refine sat_impA ?_ | refine sat_needA ?_)
    refine sat_done ?_
    refine exS_normal ?_
    refine ev_cond rfl (fun c7 => ?_) (fun c7 => ?_)
    · try simp only [decide_eq_true_eq, decide_eq_false_iff_not, Bool.not_eq_true', Bool.not_eq_false', Bool.and_eq_true, Bool.or_eq_true, Bool.or_eq_false_iff, gt_iff_lt, Int.not_lt, Bool.not_true, Bool.not_false, Int.ofNat_lt, Int.ofNat_le] at c7
      refine ev_skip ?_
      refine exS_normal ?_
      refine ev_seq ?_
      refine ev_block ?_
      refine ev_seq (ev_region tabT [] 1000 rfl ?_)
      repeat (first | refine sat_same ?_ | refine sat_impA ?_ | refine sat_needA ?_)
      refine sat_done ?_
      refine exS_normal ?_
      refine ev_seq (ev_region tabT [] 1100 rfl ?_)
      repeat (first | refine sat_same ?_ | refine sat_impA ?_ | refine sat_needA ?_)
      refine sat_done ?_
      refine exS_normal ?_
      refine ev_cond rfl (fun c10 => ?_) (fun c10 => ?_)
      · try simp only [decide_eq_true_eq, decide_eq_false_iff_not, Bool.not_eq_true', Bool.not_eq_false', Bool.and_eq_true, Bool.or_eq_true, Bool.or_eq_false_iff, gt_iff_lt, Int.not_lt, Bool.not_true, Bool.not_false, Int.ofNat_lt, Int.ofNat_le] at c10
        refine ev_region tabT [] 1200 rfl ?_
        repeat (first | refine sat_same ?_ | refine sat_impA ?_ | refine sat_needA ?_)
        refine sat_done ?_
        refine exBl_normal ?_
        refine exS_normal ?_
        refine ev_region tabT [] 1300 rfl ?_
        repeat (first | refine sat_same ?_ | refine sat_impA ?_ | refine sat_needA ?_)
        refine sat_done ?_
        exact exL_normal ⟨y.k - 1, by omega⟩ ⟨(by first | exact trivial | (repeat (first | exact trivial | exact Sub.refl _ | refine ⟨?_, ?_⟩ | exact Sub.int (by first | rfl | omega | (push_cast; omega)) | exact Sub.nilSl | exact Sub.own rfl | exact Sub.slrSl rfl | exact Sub.ownSl (List.map_append).symm | exact Sub.ownSl rfl | exact Sub.int (by show (y.k : Int) - 1 - 1 = ((y.k - 1 : Nat) : Int) - 1; omega) | exact Sub.int (by show _ = ((chunk l (16 * x.j) (y.k - 1) : Nat) : Int); rw [chunk_one (k := y.k - 1) (by omega) (bit_T (by omega) c10), show y.k - 1 + 1 = y.k by omega]; push_cast; rfl)))), (by repeat (first | exact trivial | exact SubO.same rfl | refine ⟨?_, ?_⟩)), rfl, rfl⟩ (by show y.k - 1 < y.k; omega)
      · try simp only [decide_eq_true_eq, decide_eq_false_iff_not, Bool.not_eq_true', Bool.not_eq_false', Bool.and_eq_true, Bool.or_eq_true, Bool.or_eq_false_iff, gt_iff_lt, Int.not_lt, Bool.not_true, Bool.not_false, Int.ofNat_lt, Int.ofNat_le] at c10
        refine ev_skip ?_
        refine exBl_normal ?_
        refine exS_normal ?_
        refine ev_region tabT [] 1200 rfl ?_
        repeat (first | refine sat_same ?_ | refine sat_impA ?_ | refine sat_needA ?_)
        refine sat_done ?_
        exact exL_normal ⟨y.k - 1, by omega⟩ ⟨(by first | exact trivial | (repeat (first | exact trivial | exact Sub.refl _ | refine ⟨?_, ?_⟩ | exact Sub.int (by first | rfl | omega | (push_cast; omega)) | exact Sub.nilSl | exact Sub.own rfl | exact Sub.slrSl rfl | exact Sub.ownSl (List.map_append).symm | exact Sub.ownSl rfl | exact Sub.int (by show (y.k : Int) - 1 - 1 = ((y.k - 1 : Nat) : Int) - 1; omega) | exact Sub.int (by show _ = ((chunk l (16 * x.j) (y.k - 1) : Nat) : Int); rw [chunk_nil (k := y.k - 1) (by omega) (bit_F (by omega) c10), show y.k - 1 + 1 = y.k by omega]; push_cast; rfl)))), (by repeat (first | exact trivial | exact SubO.same rfl | refine ⟨?_, ?_⟩)), rfl, rfl⟩ (by show y.k - 1 < y.k; omega)
    · try simp only [decide_eq_true_eq, decide_eq_false_iff_not, Bool.not_eq_true', Bool.not_eq_false', Bool.and_eq_true, Bool.or_eq_true, Bool.or_eq_false_iff, gt_iff_lt, Int.not_lt, Bool.not_true, Bool.not_false, Int.ofNat_lt, Int.ofNat_le] at c7
      refine ev_exit ?_
      refine exS_exit ?_
      refine exL_exit ?_
      refine exBl_same ?_
      refine exS_normal ?_
      refine ev_region tabT [] 1300 rfl ?_
      repeat (first | refine sat_same ?_ | refine sat_impA ?_ | refine sat_needA ?_)
      refine sat_done ?_
      refine exBl_normal ?_
      refine exS_normal ?_
      refine ev_region tabT [] 1400 rfl ?_
      repeat (first | refine sat_same ?_ | refine sat_impA ?_ | refine sat_needA ?_)
      refine sat_done ?_
      obtain ⟨ky, hky⟩ := y
      have hz : ky = 0 := by simp only at c7; omega
      subst hz
      exact exL_normal (x.next (by omega)) ⟨(by first | exact trivial | (repeat (first | exact trivial | exact Sub.refl _ | refine ⟨?_, ?_⟩ | exact Sub.int (by first | rfl | omega | (push_cast; omega)) | exact Sub.nilSl | exact Sub.own rfl | exact Sub.slrSl rfl | exact Sub.ownSl (List.map_append).symm | exact Sub.ownSl rfl | exact Sub.int (by show ((16 * x.j : Nat) : Int) + 16 = ((16 * (x.j + 1) : Nat) : Int); omega) | exact Sub.own (by show _ = List.map nD (x.o ++ [_]); rw [List.map_append]; rfl)))), (by repeat (first | exact trivial | exact SubO.same rfl | exact ⟨rfl, rfl, by show _ = (List.map nD (x.o ++ [_])).length; simp⟩ | refine ⟨?_, ?_⟩)), rfl, rfl⟩ (by show l.length + 16 - 16 * (x.j + 1) < l.length + 16 - 16 * x.j; omega)
  · try simp only [decide_eq_true_eq, decide_eq_false_iff_not, Bool.not_eq_true', Bool.not_eq_false', Bool.and_eq_true, Bool.or_eq_true, Bool.or_eq_false_iff, gt_iff_lt, Int.not_lt, Bool.not_true, Bool.not_false, Int.ofNat_lt, Int.ofNat_le] at c3
    refine ev_exit ?_
    refine exS_exit ?_
    refine exL_exit ?_
    refine exBl_same ?_
    refine exS_normal ?_
    refine ev_tell [] [] 410 [(3, .sl false 1 x.o nD 0)] [] ?_
    refine ⟨⟨⟨Sub.ownSl rfl, trivial⟩, (by repeat (first | exact trivial | exact SubO.same rfl | refine ⟨?_, ?_⟩)), rfl, rfl⟩, ?_⟩
    refine ev_seq (ev_region tabT [] 1400 rfl ?_)
    repeat (first | refine sat_same ?_ | refine sat_impA ?_ | refine sat_needA ?_)
    refine sat_fn _ (trim_ok _ x.dg (by rw [hk2]; omega)) rfl ?_
    repeat (first | refine sat_same ?_ | refine sat_impA ?_ | refine sat_needA ?_)
    refine sat_done ?_
    refine exS_normal ?_
    refine ev_ret ?_
    exact FinV.ret rfl (SubP.of_eq (by rw [x.all (by omega)]))

theorem Number3_ok (n : Int) (h1 : -9223372036854775808 ≤ n) (h2 : n ≤ 9223372036854775807) : Fn Tryz.prog 28 [.v (.int .i64 n)] (.agg [.v (.bool (decide (n < 0))), natD n.natAbs]) := by
  refine fn_ev tabT Tryz.func28 rfl rfl rfl rfl rfl rfl ?_
  intro w0 s0 mx
  refine ev_seq (ev_region tabT [] 100 rfl ?_)
  repeat (first | refine sat_same ?_ | refine sat_impA ?_ | refine sat_needA ?_)
  refine sat_done ?_
  refine exS_normal ?_
  refine ev_seq (ev_region tabT [] 200 rfl ?_)
  repeat (first | refine sat_same ?_ | refine sat_impA ?_ | refine sat_needA ?_)
  refine sat_done ?_
  refine exS_normal ?_
  refine ev_nilRow 3 4 1 rfl ?_
  refine ev_seq (ev_region tabT [] 300 rfl ?_)
  repeat (first | refine sat_same ?_ | refine sat_impA ?_ | refine sat_needA ?_)
  refine sat_done ?_
  refine exS_normal ?_
  refine ev_seq ?_
  refine ev_block ?_
  refine ev_loopK (ι := Nb n) [2, 4] [0] 350 (fun x => [(0, .v (.int .i64 x.m)), (3, .own 200 1 (x.o.map bD))]) (fun x => [(200, .row 4 1 (x.o.map bD).length)]) (fun x => x.m.natAbs) ⟨n, [], by simp [VB], h1, h2, by simp⟩ ?_
  refine ⟨⟨(by first | exact trivial | (repeat (first | exact trivial | exact Sub.refl _ | refine ⟨?_, ?_⟩ | exact Sub.int (by first | rfl | omega | (push_cast; omega)) | exact Sub.nilSl | exact Sub.own rfl | exact Sub.slrSl rfl | exact Sub.ownSl (List.map_append).symm | exact Sub.ownSl rfl))), (by repeat (first | exact trivial | exact SubO.same rfl | refine ⟨?_, ?_⟩)), rfl, rfl⟩, fun x => ?_⟩
  have hk := x.lo
  have hk2 := x.hi
  refine ev_seq ?_
  refine ev_seq (ev_region tabT [] 400 rfl ?_)
  repeat (first | refine sat_same ?_ | refine sat_impA ?_ | refine sat_needA ?_)
  refine sat_done ?_
  refine exS_normal ?_
  refine ev_cond rfl (fun c3 => ?_) (fun c3 => ?_)
  · try simp only [decide_eq_true_eq, decide_eq_false_iff_not, Bool.not_eq_true', Bool.not_eq_false', Bool.and_eq_true, Bool.or_eq_true, Bool.or_eq_false_iff, gt_iff_lt, Int.not_lt, Bool.not_true, Bool.not_false, Int.ofNat_lt, Int.ofNat_le] at c3
    refine ev_skip ?_
    refine exS_normal ?_
    refine ev_block ?_
    refine ev_seq (ev_region tabT [] 500 rfl ?_)
    repeat (first | refine sat_same ?_ | refine sat_impA ?_ | refine sat_need (by first | exact trivial | omega | exact ini (by omega) (by omega) | (intro hh; simp at hh; exact ini (by omega) (by omega)) | (intro hh; simp at hh ⊢; omega) | (simp at *; omega) | (simp_all; done) | (have h3 := x.len c3 h1 h2; simp only [List.length_map, List.length_cons, List.length_nil]; omega)) ?_)
    refine sat_done ?_
    refine exS_normal ?_
    refine ev_region tabT [] 600 rfl ?_
    repeat (first | refine sat_same ?_ | refine sat_impA ?_ | refine sat_need (by first | exact trivial | omega | exact ini (by omega) (by omega) | (intro hh; simp at hh; exact ini (by omega) (by omega)) | (intro hh; simp at hh ⊢; omega) | (simp at *; omega) | (simp_all; done) | (have h3 := nb_half x.m; exact ⟨by decide, ini (by omega) (by omega)⟩)) ?_)
    refine sat_done ?_
    refine exBl_normal ?_
    exact exL_normal (x.next (x.len c3 h1 h2)) ⟨(by first | exact trivial | (repeat (first | exact trivial | exact Sub.refl _ | refine ⟨?_, ?_⟩ | exact Sub.int (by first | rfl | omega | (push_cast; omega)) | exact Sub.nilSl | exact Sub.own rfl | exact Sub.slrSl rfl | exact Sub.ownSl (List.map_append).symm | exact Sub.ownSl rfl | exact Sub.own (by show _ = List.map bD (x.o ++ [_]); rw [List.map_append]; rfl)))), (by repeat (first | exact trivial | exact SubO.same rfl | exact ⟨rfl, rfl, by show _ = (List.map bD (x.o ++ [_])).length; simp⟩ | refine ⟨?_, ?_⟩)), rfl, rfl⟩ (by show (Int.tdiv x.m 2).natAbs < x.m.natAbs; have := nb_half x.m; omega)
  · try simp only [decide_eq_true_eq, decide_eq_false_iff_not, Bool.not_eq_true', Bool.not_eq_false', Bool.and_eq_true, Bool.or_eq_true, Bool.or_eq_false_iff, gt_iff_lt, Int.not_lt, Bool.not_true, Bool.not_false, Int.ofNat_lt, Int.ofNat_le] at c3
    refine ev_exit ?_
    refine exS_exit ?_
    refine exL_exit ?_
    refine exBl_same ?_
    refine exS_normal ?_
    refine ev_tell [2, 4] [0] 410 [(3, .sl false 1 x.o bD false)] [] ?_
    refine ⟨⟨⟨Sub.ownSl rfl, by repeat (first | exact trivial | exact Sub.refl _ | refine ⟨?_, ?_⟩)⟩, (by repeat (first | exact trivial | exact SubO.same rfl | refine ⟨?_, ?_⟩)), rfl, rfl⟩, ?_⟩
    refine ev_seq (ev_region tabT [] 700 rfl ?_)
    repeat (first | refine sat_same ?_ | refine sat_impA ?_ | refine sat_needA ?_)
    refine sat_fn _ (Binary_ok _ (by have := x.ln; omega)) rfl ?_
    repeat (first | refine sat_same ?_ | refine sat_impA ?_ | refine sat_needA ?_)
    refine sat_done ?_
    refine exS_normal ?_
    refine ev_ret ?_
    exact FinV.ret rfl (SubP.agg ⟨SubP.refl _, SubP.of_eq (by rw [x.fin (by omega)]), trivial⟩)

theorem Limbs3_ok (n : Nat) (hl : (dig n).length ≤ 100000000) : Fn Tryz.prog 42 [natD n] (.sl false 1 (lim n) uD 0) := by
  refine fn_ev tabT Tryz.func42 rfl rfl rfl rfl rfl rfl ?_
  intro w0 s0 mx
  refine ev_seq (ev_region tabT [] 100 rfl ?_)
  repeat (first | refine sat_same ?_ | refine sat_impA ?_ | refine sat_needA ?_)
  refine sat_done ?_
  refine exS_normal ?_
  refine ev_seq (ev_region tabT [] 200 rfl ?_)
  repeat (first | refine sat_same ?_ | refine sat_impA ?_ | refine sat_needA ?_)
  refine sat_done ?_
  refine exS_normal ?_
  refine ev_nilRow 3 51 1 rfl ?_
  refine ev_seq ?_
  refine ev_seq (ev_region tabT [] 300 rfl ?_)
  repeat (first | refine sat_same ?_ | refine sat_impA ?_ | refine sat_needA ?_)
  refine sat_done ?_
  refine exS_normal ?_
  refine ev_block ?_
  refine ev_loopK (ι := Lb n) [0] [] 350 (fun x => [(4, .v (.int .i64 (2 * x.j : Nat))), (3, .own 200 1 (x.o.map uD))]) (fun x => [(200, .row 51 1 (x.o.map uD).length)]) (fun x => (dig n).length + 2 - 2 * x.j) ⟨0, [], by simp [VL, V], rfl, Lg.nil, by omega⟩ ?_
  refine ⟨⟨(by first | exact trivial | (repeat (first | exact trivial | exact Sub.refl _ | refine ⟨?_, ?_⟩ | exact Sub.int (by first | rfl | omega | (push_cast; omega)) | exact Sub.nilSl | exact Sub.own rfl | exact Sub.slrSl rfl | exact Sub.ownSl (List.map_append).symm | exact Sub.ownSl rfl))), (by repeat (first | exact trivial | exact SubO.same rfl | refine ⟨?_, ?_⟩)), rfl, rfl⟩, fun x => ?_⟩
  have hk := x.le
  have hk2 := x.lo
  refine ev_seq ?_
  refine ev_seq (ev_region tabT [] 400 rfl ?_)
  repeat (first | refine sat_same ?_ | refine sat_impA ?_ | refine sat_needA ?_)
  refine sat_done ?_
  refine exS_normal ?_
  refine ev_cond rfl (fun c3 => ?_) (fun c3 => ?_)
  · try simp only [decide_eq_true_eq, decide_eq_false_iff_not, Bool.not_eq_true', Bool.not_eq_false', Bool.and_eq_true, Bool.or_eq_true, Bool.or_eq_false_iff, gt_iff_lt, Int.not_lt, Bool.not_true, Bool.not_false, Int.ofNat_lt, Int.ofNat_le] at c3
    refine ev_skip ?_
    refine exS_normal ?_
    refine ev_seq ?_
    refine ev_block ?_
    refine ev_seq (ev_region tabT [] 600 rfl ?_)
    repeat (first | refine sat_same ?_ | refine sat_impA ?_ | refine sat_needA ?_)
    refine sat_done ?_
    refine exS_normal ?_
    refine ev_seq ?_
    refine ev_seq (ev_region tabT [] 700 rfl ?_)
    repeat (first | refine sat_same ?_ | refine sat_impA ?_ | refine sat_needA ?_)
    refine sat_done ?_
    refine exS_normal ?_
    refine ev_cond rfl (fun c6 => ?_) (fun c6 => ?_)
    · try simp only [decide_eq_true_eq, decide_eq_false_iff_not, Bool.not_eq_true', Bool.not_eq_false', Bool.and_eq_true, Bool.or_eq_true, Bool.or_eq_false_iff, gt_iff_lt, Int.not_lt, Bool.not_true, Bool.not_false, Int.ofNat_lt, Int.ofNat_le] at c6
      refine ev_region tabT [] 800 rfl ?_
      repeat (first | refine sat_same ?_ | refine sat_impA ?_ | refine sat_needA ?_)
      refine sat_done ?_
      refine exS_normal ?_
      refine ev_region tabT [] 900 rfl ?_
      repeat (first | refine sat_same ?_ | refine sat_impA ?_ | refine sat_needA ?_)
      refine sat_done ?_
      refine exBl_normal ?_
      refine exS_normal ?_
      refine ev_region tabT [] 1000 rfl ?_
      repeat (first | refine sat_same ?_ | refine sat_impA ?_ | refine sat_needA ?_)
      refine sat_done ?_
      exact exL_normal (x.next (by omega)) ⟨(by first | exact trivial | (repeat (first | exact trivial | exact Sub.refl _ | refine ⟨?_, ?_⟩ | exact Sub.int (by first | rfl | omega | (push_cast; omega)) | exact Sub.nilSl | exact Sub.own rfl | exact Sub.slrSl rfl | exact Sub.ownSl (List.map_append).symm | exact Sub.ownSl rfl | exact Sub.int (by show ((2 * x.j : Nat) : Int) + 2 = ((2 * (x.j + 1) : Nat) : Int); omega) | exact Sub.own (by show _ = List.map uD (x.o ++ [_]); rw [List.map_append]; show _ = List.map uD x.o ++ [[D.v (Value.int .u32 ((lbD n x.j : Nat) : Int))]]; rw [← lb_T n x.j]; rfl)))), (by repeat (first | exact trivial | exact SubO.same rfl | exact ⟨rfl, rfl, by show _ = (List.map uD (x.o ++ [_])).length; simp⟩ | refine ⟨?_, ?_⟩)), rfl, rfl⟩ (by show (dig n).length + 2 - 2 * (x.j + 1) < (dig n).length + 2 - 2 * x.j; omega)
    · try simp only [decide_eq_true_eq, decide_eq_false_iff_not, Bool.not_eq_true', Bool.not_eq_false', Bool.and_eq_true, Bool.or_eq_true, Bool.or_eq_false_iff, gt_iff_lt, Int.not_lt, Bool.not_true, Bool.not_false, Int.ofNat_lt, Int.ofNat_le] at c6
      refine ev_skip ?_
      refine exS_normal ?_
      refine ev_region tabT [] 900 rfl ?_
      repeat (first | refine sat_same ?_ | refine sat_impA ?_ | refine sat_needA ?_)
      refine sat_done ?_
      refine exBl_normal ?_
      refine exS_normal ?_
      refine ev_region tabT [] 1000 rfl ?_
      repeat (first | refine sat_same ?_ | refine sat_impA ?_ | refine sat_needA ?_)
      refine sat_done ?_
      exact exL_normal (x.next (by omega)) ⟨(by first | exact trivial | (repeat (first | exact trivial | exact Sub.refl _ | refine ⟨?_, ?_⟩ | exact Sub.int (by first | rfl | omega | (push_cast; omega)) | exact Sub.nilSl | exact Sub.own rfl | exact Sub.slrSl rfl | exact Sub.ownSl (List.map_append).symm | exact Sub.ownSl rfl | exact Sub.int (by show ((2 * x.j : Nat) : Int) + 2 = ((2 * (x.j + 1) : Nat) : Int); omega) | exact Sub.own (by show _ = List.map uD (x.o ++ [_]); rw [List.map_append]; show _ = List.map uD x.o ++ [[D.v (Value.int .u32 ((lbD n x.j : Nat) : Int))]]; rw [← lb_F n x.j (by omega)]; rfl)))), (by repeat (first | exact trivial | exact SubO.same rfl | exact ⟨rfl, rfl, by show _ = (List.map uD (x.o ++ [_])).length; simp⟩ | refine ⟨?_, ?_⟩)), rfl, rfl⟩ (by show (dig n).length + 2 - 2 * (x.j + 1) < (dig n).length + 2 - 2 * x.j; omega)
  · try simp only [decide_eq_true_eq, decide_eq_false_iff_not, Bool.not_eq_true', Bool.not_eq_false', Bool.and_eq_true, Bool.or_eq_true, Bool.or_eq_false_iff, gt_iff_lt, Int.not_lt, Bool.not_true, Bool.not_false, Int.ofNat_lt, Int.ofNat_le] at c3
    refine ev_exit ?_
    refine exS_exit ?_
    refine exL_exit ?_
    refine exBl_same ?_
    refine exS_normal ?_
    refine ev_seq (ev_region tabT [] 1000 rfl ?_)
    repeat (first | refine sat_same ?_ | refine sat_impA ?_ | refine sat_needA ?_)
    refine sat_done ?_
    refine exS_normal ?_
    refine ev_ret ?_
    exact FinV.ret rfl (SubP.ownSl (by rw [x.fin (by omega)]))

theorem whole_neg (z : Int) : (decide (z < 0) && decide ((0 : Int) < ((dig z.natAbs).length : Nat))) = decide (z < 0) := by
  by_cases h : z < 0
  · rw [decide_eq_true h, Bool.true_and]
    refine decide_eq_true ?_
    have h2 : dig z.natAbs ≠ [] := fun e => by rw [dig_eq_nil] at e; omega
    have := List.length_pos_iff.2 h2
    omega
  · rw [decide_eq_false h]; rfl

theorem Whole7_ok (z : Int) (hl : (dig z.natAbs).length ≤ 100000000) : Fn Tryz.prog 27 [.agg [.v (.bool (decide (z < 0))), natD z.natAbs]] (.agg (vlD (nuV z))) := by
  refine fn_ev tabT Tryz.func27 rfl rfl rfl rfl rfl rfl ?_
  intro w0 s0 mx
  refine ev_seq (ev_region tabT [] 100 rfl ?_)
  repeat (first | refine sat_same ?_ | refine sat_impA ?_ | refine sat_needA ?_)
  refine sat_done ?_
  refine exS_normal ?_
  refine ev_seq (ev_drawn tabT [] [[], [0], [0, 1], [0, 1, 2], [0, 1, 2, 3], [0, 1, 2, 3, 4], [0, 1, 2, 3, 4, 5], [0, 1, 2, 3, 4, 5, 6], [], [8], [0, 1, 2, 8, 9], [0, 1, 2, 3, 4, 5, 6, 7, 8, 9, 10], [0, 1, 2, 3, 4, 5, 6, 7, 8, 9, 10, 11], [0, 1, 2, 3, 4, 5, 6, 7, 8, 9, 10, 11, 12]] 200 mixT (by kernel_rfl) rfl ?_)
  repeat (first | refine sat_same ?_ | refine sat_impA ?_ | refine sat_needA ?_)
  refine sat_fn _ (Limbs3_ok _ (by first | assumption | omega | (simp_all; done))) rfl ?_
  repeat (first | refine sat_same ?_ | refine sat_impA ?_ | refine sat_needA ?_)
  refine sat_done ?_
  refine exS_normal ?_
  refine ev_ret ?_
  exact FinV.ret rfl (SubP.agg ⟨SubP.refl _, SubP.of_eq (by rw [whole_neg]; rfl), SubP.refl _, SubP.refl _, SubP.nilSl rfl, SubP.refl _, SubP.refl _, trivial⟩)

theorem dig_small {n : Int} (h1 : -9223372036854775808 ≤ n) (h2 : n ≤ 9223372036854775807) : (dig n.natAbs).length ≤ 100000000 := Nat.le_trans (dig_length_le (k := 4) (by omega)) (by omega)

theorem N_ok (n : Int) (h1 : -9223372036854775808 ≤ n) (h2 : n ≤ 9223372036854775807) : Fn Tryz.prog 6 [.v (.int .i64 n)] (.agg (vlD (nuV n))) := by
  refine fn_ev tabT Tryz.func6 rfl rfl rfl rfl rfl rfl ?_
  intro w0 s0 mx
  refine ev_seq (ev_region tabT [] 100 rfl ?_)
  repeat (first | refine sat_same ?_ | refine sat_impA ?_ | refine sat_needA ?_)
  refine sat_done ?_
  refine exS_normal ?_
  refine ev_seq (ev_region tabT [] 200 rfl ?_)
  repeat (first | refine sat_same ?_ | refine sat_impA ?_ | refine sat_needA ?_)
  refine sat_fn _ (Number3_ok n h1 h2) rfl ?_
  repeat (first | refine sat_same ?_ | refine sat_impA ?_ | refine sat_needA ?_)
  refine sat_fn _ (Whole7_ok n (dig_small h1 h2)) rfl ?_
  repeat (first | refine sat_same ?_ | refine sat_impA ?_ | refine sat_needA ?_)
  refine sat_done ?_
  refine exS_normal ?_
  refine ev_ret ?_
  exact FinV.ret rfl (SubP.refl _)

end Go.Proofs.YtfcjacajnnkkfaaGreatDoor
