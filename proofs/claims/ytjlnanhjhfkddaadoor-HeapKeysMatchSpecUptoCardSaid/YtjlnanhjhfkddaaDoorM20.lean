/- Part 20 of the proof. -/
import Derived.Test.YtjlnanhjhfkddaaDoorM19

/- Walks by the evaluator: parts of values, keys and their sameness. -/
namespace Go.Proofs.YtjlnanhjhfkddaaDoor
open Go.RowKit
variable {md me : Bool}

/-- What is left, and the parts so far. -/
def ptS (h : List Ob) : Nat → List Vl → List Vl → List Vl × Bool
  | 0, _, out => (out, true)
  | _ + 1, [], out => (out, true)
  | f + 1, x :: left, out => if ((((decide (x.k = 9) || decide ((objS h x).kind = 2)) || decide ((objS h x).kind = 3)) || decide ((objS h x).kind = 4)) || decide ((objS h x).kind = 5)) = true then (out ++ [x], false)
    else if (objS h x).kind = 1 then ptS h f ((objS h x).items.take (min (objS h x).items.length 1001) ++ left) (out ++ [x])
    else ptS h f left (out ++ [x])
/-- Parts of v. -/
def partsS (h : List Ob) (v : Vl) : List Vl × Bool := ptS h 1001 [v] []
/-- How far the walk has come. -/
structure Pt (h : List Ob) (v : Vl) where
  out : List Vl
  left : List Vl
  le : out.length ≤ 1001
  ll : left.length ≤ 1 + out.length * 1001
  eq : ptS h (1001 - out.length) left out = partsS h v
def Pt.start (h : List Ob) (v : Vl) : Pt h v := ⟨[], [v], by decide, by simp, rfl⟩
theorem left_eq {left : List Vl} (h0 : 0 < left.length) : left = left.getD 0 vl0 :: left.drop 1 := by
  cases left with
  | nil => simp at h0
  | cons a l => simp
theorem Pt.step {h : List Ob} {v : Vl} (x : Pt h v) (h0 : 0 < x.left.length) (h1 : x.out.length ≤ 1000) : partsS h v = ptS h ((1000 - x.out.length) + 1) (x.left.getD 0 vl0 :: x.left.drop 1) x.out := by
  rw [← left_eq h0, show 1000 - x.out.length + 1 = 1001 - x.out.length by omega, x.eq]
def badS (h : List Ob) (y : Vl) : Bool := ((((decide (y.k = 9) || decide ((objS h y).kind = 2)) || decide ((objS h y).kind = 3)) || decide ((objS h y).kind = 4)) || decide ((objS h y).kind = 5))
theorem ptS_cons (h : List Ob) (f : Nat) (y : Vl) (left out : List Vl) : ptS h (f + 1) (y :: left) out = if badS h y = true then (out ++ [y], false) else if (objS h y).kind = 1 then ptS h f ((objS h y).items.take (min (objS h y).items.length 1001) ++ left) (out ++ [y]) else ptS h f left (out ++ [y]) := rfl
theorem Pt.bad {h : List Ob} {v : Vl} (x : Pt h v) (h0 : 0 < x.left.length) (h1 : x.out.length ≤ 1000) (h2 : badS h (x.left.getD 0 vl0) = true) : partsS h v = (x.out ++ [x.left.getD 0 vl0], false) := by
  rw [x.step h0 h1, ptS_cons, if_pos h2]
theorem Pt.fin {h : List Ob} {v : Vl} (x : Pt h v) (h0 : ¬ (0 < x.left.length ∧ x.out.length ≤ 1000)) : partsS h v = (x.out, true) := by
  rw [← x.eq]
  by_cases h1 : x.out.length ≤ 1000
  · have : x.left = [] := List.eq_nil_of_length_eq_zero (by omega)
    rw [this, show 1001 - x.out.length = (1000 - x.out.length) + 1 by omega]; rfl
  · have := x.le
    rw [show 1001 - x.out.length = 0 by omega]; rfl
def Pt.tup {h : List Ob} {v : Vl} (x : Pt h v) (h0 : 0 < x.left.length) (h1 : x.out.length ≤ 1000) (h2 : badS h (x.left.getD 0 vl0) = false) (h3 : (objS h (x.left.getD 0 vl0)).kind = 1) : Pt h v :=
  ⟨x.out ++ [x.left.getD 0 vl0], (objS h (x.left.getD 0 vl0)).items.take (min (objS h (x.left.getD 0 vl0)).items.length 1001) ++ x.left.drop 1, by simp; omega, by
    have := x.ll
    simp only [List.length_append, List.length_take, List.length_drop, List.length_cons, List.length_nil]
    omega, by
    rw [x.step h0 h1, ptS_cons, if_neg (by rw [h2]; decide), if_pos h3]
    simp only [List.length_append, List.length_cons, List.length_nil]
    rw [show 1001 - (x.out.length + (0 + 1)) = 1000 - x.out.length by omega]⟩
def Pt.oth {h : List Ob} {v : Vl} (x : Pt h v) (h0 : 0 < x.left.length) (h1 : x.out.length ≤ 1000) (h2 : badS h (x.left.getD 0 vl0) = false) (h3 : ¬ (objS h (x.left.getD 0 vl0)).kind = 1) : Pt h v :=
  ⟨x.out ++ [x.left.getD 0 vl0], x.left.drop 1, by simp; omega, by
    have := x.ll
    simp only [List.length_append, List.length_drop, List.length_cons, List.length_nil]
    omega, by
    rw [x.step h0 h1, ptS_cons, if_neg (by rw [h2]; decide), if_neg h3]
    simp only [List.length_append, List.length_cons, List.length_nil]
    rw [show 1001 - (x.out.length + (0 + 1)) = 1000 - x.out.length by omega]⟩
def keyedS (h : List Ob) (v : Vl) : Bool := (partsS h v).2 && decide (((partsS h v).1.length : Int) ≤ 1000)
/-- Tuples in it go no deeper than n. -/
def Dp (h : List Ob) : Nat → Vl → Prop
  | 0, v => (objS h v).kind ≠ 1
  | n + 1, v => (objS h v).kind = 1 → ∀ x ∈ (objS h v).items, Dp h n x
theorem Dp.succ {h : List Ob} : ∀ {n : Nat} {v : Vl}, Dp h n v → Dp h (n + 1) v
  | 0, _, hv => fun hk => absurd hk hv
  | _ + 1, _, hv => fun hk x hx => Dp.succ (hv hk x hx)
theorem Dp.mono {h : List Ob} {n m : Nat} {v : Vl} (hv : Dp h n v) (hnm : n ≤ m) : Dp h m v := by
  obtain ⟨d, rfl⟩ := Nat.exists_eq_add_of_le hnm
  clear hnm
  induction d with
  | zero => exact hv
  | succ d ih => exact ih.succ
theorem ptS_len (h : List Ob) : ∀ (f : Nat) (left out : List Vl), (ptS h f left out).2 = true → (ptS h f left out).1.length ≤ 1000 → 1000 < f + out.length → out.length + left.length ≤ (ptS h f left out).1.length ∧ ∀ x ∈ left, Dp h ((ptS h f left out).1.length - out.length) x
  | 0, left, out, _, h2, h3 => by have h2' : out.length ≤ 1000 := h2; omega
  | f + 1, [], out, _, _, _ => ⟨Nat.le_refl _, fun _ h => by cases h⟩
  | f + 1, y :: left, out, h1, h2, h3 => by
    rw [ptS_cons] at h1 h2 ⊢
    split at h1
    · cases h1
    · rename_i hb
      rw [if_neg hb] at h2 ⊢
      split at h1
      · rename_i hk
        rw [if_pos hk] at h2 ⊢
        obtain ⟨g1, g2⟩ := ptS_len h f _ _ h1 h2 (by simp; omega)
        simp only [List.length_append, List.length_cons, List.length_nil, List.length_take] at g1 g2 ⊢
        generalize (ptS h f (List.take (min (objS h y).items.length 1001) (objS h y).items ++ left) (out ++ [y])).fst.length = N at *
        have hall : (objS h y).items.take (min (objS h y).items.length 1001) = (objS h y).items := List.take_of_length_le (by omega)
        refine ⟨by omega, fun x hx => ?_⟩
        rcases List.mem_cons.1 hx with rfl | hx
        · rw [show N - out.length = (N - (out.length + (0 + 1))) + 1 by omega]
          intro _ z hz
          exact g2 z (List.mem_append.2 (.inl (by rw [hall]; exact hz)))
        · exact (g2 x (List.mem_append.2 (.inr hx))).mono (by omega)
      · rename_i hk
        rw [if_neg hk] at h2 ⊢
        obtain ⟨g1, g2⟩ := ptS_len h f _ _ h1 h2 (by simp; omega)
        simp only [List.length_append, List.length_cons, List.length_nil] at g1 g2 ⊢
        generalize (ptS h f left (out ++ [y])).fst.length = N at *
        refine ⟨by omega, fun x hx => ?_⟩
        rcases List.mem_cons.1 hx with rfl | hx
        · exact Dp.mono (n := 0) hk (by omega)
        · exact (g2 x hx).mono (by omega)
theorem keyed_dp {h : List Ob} {v : Vl} (hk : keyedS h v = true) : Dp h 1001 v := by
  simp only [keyedS, Bool.and_eq_true, decide_eq_true_eq] at hk
  have := (ptS_len h 1001 [v] [] hk.1 (by have := hk.2; simp only [partsS] at this; omega) (by decide)).2 v (by simp)
  refine this.mono ?_
  have h2 := hk.2
  simp only [partsS] at h2
  omega
/-- Two lists pairwise. -/
def prP (F : Vl → Vl → Bool) (a b : List Vl) (i : Nat) : Bool := F (a.getD ((i : Int)).toNat vl0) (b.getD ((i : Int)).toNat vl0)
def stepK (h : List Ob) (F : Vl → Vl → Bool) (v w : Vl) : Bool := if (objS h v).kind = 1 ∧ (objS h w).kind = 1 then (decide (((objS h v).items.length : Int) = (objS h w).items.length) && (List.range (objS h v).items.length).all (prP F (objS h v).items (objS h w).items)) else decide (v = w)
def smK (h : List Ob) : Nat → Vl → Vl → Bool
  | 0 => fun v w => decide (v = w)
  | n + 1 => stepK h (smK h n)
def plI (h : List Ob) : List Vl → Vl → Int
  | [], _ => -1
  | x :: l, k => if smK h 1001 x k = true then 0 else if plI h l k < 0 then -1 else plI h l k + 1
theorem plI_any (h : List Ob) (k : Vl) : ∀ l : List Vl, decide (0 ≤ plI h l k) = l.any fun x => smK h 1001 x k
  | [] => rfl
  | x :: l => by
    rw [plI, List.any_cons, ← plI_any h k l]
    split
    · rename_i hx; simp [hx]
    · rename_i hx
      rw [Bool.not_eq_true] at hx
      rw [hx, Bool.false_or]
      split
      · rename_i h0; rw [decide_eq_false (by omega), decide_eq_false (by omega)]
      · rename_i h0; rw [decide_eq_true (by omega), decide_eq_true (by omega)]
theorem plI_none {h : List Ob} {k : Vl} : ∀ {l : List Vl}, (∀ x ∈ l, smK h 1001 x k = false) → plI h l k = -1
  | [], _ => rfl
  | x :: l, hl => by rw [plI, if_neg (by rw [hl x (by simp)]; decide), plI_none (fun y hy => hl y (by simp [hy]))]; rfl
theorem plI_at {h : List Ob} {k : Vl} : ∀ {l : List Vl} {i : Nat}, (∀ j x, j < i → l[j]? = some x → (!smK h 1001 x k) = true) → ∀ {y : Vl}, l[i]? = some y → smK h 1001 y k = true → plI h l k = i
  | [], _, _, _, hy, _ => by simp at hy
  | x :: l, 0, _, y, hy, hs => by simp at hy; subst hy; rw [plI, if_pos hs]; rfl
  | x :: l, i + 1, hn, y, hy, hs => by
    have h0 := hn 0 x (by omega) rfl
    have := plI_at (l := l) (i := i) (fun j z hj hz => hn (j + 1) z (by omega) (by simpa using hz)) (by simpa using hy) hs
    rw [plI, if_neg (by intro e; rw [e] at h0; cases h0), this, if_neg (by omega)]
    simp
def krF (h : List Ob) : List Vl → List Vl → Int
  | _, [] => 0
  | seen, s :: r => if keyedS h s = false then 27 else if (seen.any fun x => smK h 1001 x s) = true then 8 else krF h (seen ++ [s]) r
/-- The sixth group. -/
def keyS (h : List Ob) (o : Ob) : Int := krF h [] o.keys
theorem cutS (l : List Vl) : (l.drop (Int.toNat 1)).take (((l.length : Int)).toNat - Int.toNat 1) = l.drop 1 := by
  rw [show Int.toNat 1 = 1 from rfl, Int.toNat_natCast]
  exact List.take_of_length_le (by rw [List.length_drop]; omega)
theorem headS (l : List Vl) : (l.drop (Int.toNat 0)).take ((if (1000 + 1 : Int) < (l.length : Int) then (1000 + 1 : Int) else (l.length : Int)).toNat - Int.toNat 0) = l.take (min l.length 1001) := by
  rw [show Int.toNat 0 = 0 from rfl, List.drop_zero]
  congr 1
  split <;> omega
theorem objS_in {h : List Ob} (hh : HpIn h) (v : Vl) : ObIn (objS h v) := by
  unfold objS
  split
  · exact hh.at v.r
  · exact ob0_in

theorem PartsOf_ok (h : List Ob) (v : Vl) (hh : HpIn h) : Fn Tryd.prog 5 [hpD md h, .agg (vlD v), .v (.int .i64 1000)] (.tup [vsD (partsS h v).1, .v (.bool (partsS h v).2)]) := by
  refine fn_ev tabT Tryd.func5 rfl rfl rfl rfl rfl rfl ?_
  intro w0 s0 mx
  refine ev_seq (ev_region tabT [] 100 rfl ?_)
  repeat (first | refine sat_same ?_ | refine sat_impA ?_ | refine sat_needA ?_)
  refine sat_done ?_
  refine exS_normal ?_
  refine ev_seq (ev_region tabT [] 200 rfl ?_)
  repeat (first | refine sat_same ?_ | refine sat_impA ?_ | refine sat_needA ?_)
  refine sat_done ?_
  refine exS_normal ?_
  refine ev_seq (ev_region tabT [] 300 rfl ?_)
  repeat (first | refine sat_same ?_ | refine sat_impA ?_ | refine sat_needA ?_)
  refine sat_done ?_
  refine exS_normal ?_
  refine ev_nilRow 8 29 7 rfl ?_
  refine ev_seq ?_
  refine ev_block ?_
  refine ev_loopK (ι := Pt h v) [2, 3] [0, 1] 350 (fun x => [(8, .own 300 7 (x.out.map vlD)), (9, .sl false 7 x.left vlD vl0)]) (fun x => [(300, .row 29 7 (x.out.map vlD).length)]) (fun x => 1001 - x.out.length) (Pt.start h v) ?_
  refine ⟨⟨(by first | exact trivial | (repeat (first | exact trivial | exact Sub.refl _ | refine ⟨?_, ?_⟩ | exact Sub.int (by first | rfl | omega | (push_cast; omega)) | exact Sub.nilSl | exact Sub.own rfl | exact Sub.slrSl rfl | exact Sub.ownSl (List.map_append).symm | exact Sub.ownSl rfl | exact Sub.own (by simp [-List.getD_eq_getElem?_getD, Pt.start, vlD]) | exact Sub.ownSl (by simp [-List.getD_eq_getElem?_getD, Pt.start, vlD]) | exact Sub.int (by simp [-List.getD_eq_getElem?_getD, Pt.start, vlD])))), (by repeat (first | exact trivial | exact SubO.same rfl | exact ⟨rfl, rfl, by simp [-List.getD_eq_getElem?_getD, Pt.start, vlD]⟩ | refine ⟨?_, ?_⟩)), rfl, rfl⟩, fun x => ?_⟩
  have hle := x.le
  refine ev_seq ?_
  refine ev_seq (ev_region tabT [] 400 rfl ?_)
  repeat (first | refine sat_same ?_ | refine sat_impA ?_ | refine sat_needA ?_)
  refine sat_done ?_
  refine exS_normal ?_
  refine ev_cond rfl (fun c3 => ?_) (fun c3 => ?_)
  · simp only [Bool.and_eq_true, decide_eq_true_eq] at c3
    replace c3 : 0 < x.left.length ∧ x.out.length ≤ 1000 := by have h1 := c3.1; have h2 := c3.2; simp only [List.length_map] at h1 h2; omega
    refine ev_skip ?_
    refine exS_normal ?_
    refine ev_block ?_
    refine ev_seq (ev_region tabT [] 500 rfl ?_)
    repeat (first | refine sat_same ?_ | refine sat_impA ?_ | refine sat_need (by exact ⟨by decide, c3.1⟩) ?_)
    refine sat_done ?_
    refine exS_normal ?_
    refine ev_seq (ev_region tabT [] 600 rfl ?_)
    repeat (first | refine sat_same ?_ | refine sat_impA ?_ | refine sat_need (by first | (refine ⟨by decide, ?_, ?_⟩ <;> omega) | omega) ?_)
    refine sat_done ?_
    refine exS_normal ?_
    refine ev_seq (ev_region tabT [] 700 rfl ?_)
    repeat (first | refine sat_same ?_ | refine sat_impA ?_ | refine sat_need (by first | rfl | (simp only [List.length_map, List.length_cons, List.length_nil]; omega)) ?_)
    refine sat_done ?_
    refine exS_normal ?_
    refine ev_seq (ev_region tabT [] 800 rfl ?_)
    repeat (first | refine sat_same ?_ | refine sat_impA ?_ | refine sat_needA ?_)
    refine sat_fn _ (Obj_ok _ _) rfl ?_
    repeat (first | refine sat_same ?_ | refine sat_impA ?_ | refine sat_needA ?_)
    refine sat_done ?_
    refine exS_normal ?_
    refine ev_block ?_
    refine ev_seq (ev_region tabT [] 900 rfl ?_)
    repeat (first | refine sat_same ?_ | refine sat_impA ?_ | refine sat_needA ?_)
    refine sat_done ?_
    refine exS_normal ?_
    refine ev_cond rfl (fun c8 => ?_) (fun c8 => ?_)
    · 
      refine ev_seq (ev_region tabT [] 1000 rfl ?_)
      repeat (first | refine sat_same ?_ | refine sat_impA ?_ | refine sat_needA ?_)
      refine sat_done ?_
      refine exS_normal ?_
      refine ev_ret ?_
      refine exBl_ret ?_
      refine exBl_ret ?_
      refine exL_ret ?_
      refine exBl_ret ?_
      refine exS_ret ?_
      exact FinV.ret rfl (SubP.tup ⟨SubP.ownSl (by rw [x.bad c3.1 c3.2 c8, List.map_append]; rfl), SubP.bool (by rw [x.bad c3.1 c3.2 c8]), trivial⟩)
    · 
      refine ev_seq (ev_region tabT [] 1100 rfl ?_)
      repeat (first | refine sat_same ?_ | refine sat_impA ?_ | refine sat_needA ?_)
      refine sat_done ?_
      refine exS_normal ?_
      refine ev_cond rfl (fun c10 => ?_) (fun c10 => ?_)
      · replace c10 := of_decide_eq_true c10
        refine ev_region tabT [73] 1200 rfl ?_
        repeat (first | refine sat_same ?_ | refine sat_impA ?_ | refine sat_need (by first | rfl | exact ini (by omega) (by omega) | (refine ⟨by decide, ?_, ?_⟩ <;> (split <;> omega)) | (have := x.ll; simp only [List.length_map, List.length_take, List.length_drop]; omega)) ?_)
        refine sat_fnO _ _ _ (CloneV_ok _ (by rw [List.length_take]; have := (objS_in hh (x.left.getD (Int.toNat 0) vl0)).il; omega)) ?_
        repeat (first | refine sat_same ?_ | refine sat_impA ?_ | refine sat_need (by first | rfl | exact ini (by omega) (by omega) | (refine ⟨by decide, ?_, ?_⟩ <;> (split <;> omega)) | (have := x.ll; simp only [List.length_map, List.length_take, List.length_drop]; omega)) ?_)
        refine sat_done ?_
        refine exBl_normal ?_
        refine exBl_normal ?_
        exact exL_normal (x.tup c3.1 c3.2 c8 c10) ⟨⟨Sub.own (by show _ = List.map vlD (x.out ++ [_]); rw [List.map_append]; rfl), Sub.ownSl (by show _ = List.map vlD (_ ++ _); rw [List.map_append, ← headS, ← cutS x.left]; rfl), Sub.refl _, Sub.refl _, trivial⟩, ⟨⟨rfl, rfl, by show _ = (List.map vlD (x.out ++ [_])).length; rw [List.map_append]; rfl⟩, SubO.same rfl, SubO.same rfl, trivial⟩, rfl, rfl⟩ (by show 1001 - (x.out ++ [_]).length < 1001 - x.out.length; rw [List.length_append, List.length_singleton]; have := c3.2; omega)
      · replace c10 := of_decide_eq_false c10
        refine ev_skip ?_
        refine exBl_normal ?_
        refine exBl_normal ?_
        exact exL_normal (x.oth c3.1 c3.2 c8 c10) ⟨⟨Sub.own (by show _ = List.map vlD (x.out ++ [_]); rw [List.map_append]; rfl), Sub.slSl (congrArg (List.map vlD) (cutS x.left)), Sub.refl _, Sub.refl _, trivial⟩, ⟨⟨rfl, rfl, by show _ = (List.map vlD (x.out ++ [_])).length; rw [List.map_append]; rfl⟩, SubO.same rfl, SubO.same rfl, trivial⟩, rfl, rfl⟩ (by show 1001 - (x.out ++ [_]).length < 1001 - x.out.length; rw [List.length_append, List.length_singleton]; have := c3.2; omega)
  · replace c3 : ¬ (0 < x.left.length ∧ x.out.length ≤ 1000) := by intro hh; rw [decide_eq_true (by omega), decide_eq_true (by simp only [List.length_map]; omega)] at c3; cases c3
    refine ev_exit ?_
    refine exS_exit ?_
    refine exL_exit ?_
    refine exBl_same ?_
    refine exS_normal ?_
    refine ev_seq (ev_region tabT [] 1300 rfl ?_)
    repeat (first | refine sat_same ?_ | refine sat_impA ?_ | refine sat_needA ?_)
    refine sat_done ?_
    refine exS_normal ?_
    refine ev_ret ?_
    exact FinV.ret rfl (SubP.tup ⟨SubP.ownSl (by rw [x.fin c3]), SubP.bool (by rw [x.fin c3]), trivial⟩)

theorem Keyed_ok (h : List Ob) (v : Vl) (hh : HpIn h) : Fn Tryd.prog 8 [hpD md h, .agg (vlD v)] (.v (.bool (keyedS h v))) := by
  refine fn_ev tabT Tryd.func8 rfl rfl rfl rfl rfl rfl ?_
  intro w0 s0 mx
  refine ev_seq (ev_region tabT [] 100 rfl ?_)
  repeat (first | refine sat_same ?_ | refine sat_impA ?_ | refine sat_needA ?_)
  refine sat_done ?_
  refine exS_normal ?_
  refine ev_seq (ev_region tabT [] 200 rfl ?_)
  repeat (first | refine sat_same ?_ | refine sat_impA ?_ | refine sat_needA ?_)
  refine sat_fn _ (PartsOf_ok _ _ (by first | assumption | omega | (simp_all; done))) rfl ?_
  repeat (first | refine sat_same ?_ | refine sat_impA ?_ | refine sat_needA ?_)
  refine sat_done ?_
  refine exS_normal ?_
  refine ev_seq (ev_region tabT [] 300 rfl ?_)
  repeat (first | refine sat_same ?_ | refine sat_impA ?_ | refine sat_needA ?_)
  refine sat_done ?_
  refine exS_normal ?_
  refine ev_ret ?_
  exact FinV.ret rfl (SubP.refl _)

theorem stepK_no {h : List Ob} {F : Vl → Vl → Bool} {v w : Vl} (hk : ¬ ((objS h v).kind = 1 ∧ (objS h w).kind = 1)) : stepK h F v w = decide (v = w) := by rw [stepK, if_neg hk]
theorem stepK_yes {h : List Ob} {F : Vl → Vl → Bool} {v w : Vl} (hk : (objS h v).kind = 1 ∧ (objS h w).kind = 1) : stepK h F v w = (decide (((objS h v).items.length : Int) = (objS h w).items.length) && (List.range (objS h v).items.length).all (prP F (objS h v).items (objS h w).items)) := by rw [stepK, if_pos hk]

theorem SameKey_step (h : List Ob) (v w : Vl) (F : Vl → Vl → Bool) (hh : HpIn h) (H : (objS h v).kind = 1 → ∀ x ∈ (objS h v).items, ∀ y, Fn Tryd.prog 10 [hpD md h, .agg (vlD x), .agg (vlD y)] (.v (.bool (F x y)))) : Fn Tryd.prog 10 [hpD md h, .agg (vlD v), .agg (vlD w)] (.v (.bool (stepK h F v w))) := by
  have hil := (objS_in hh v).il
  refine fn_ev tabT Tryd.func10 rfl rfl rfl rfl rfl rfl ?_
  intro w0 s0 mx
  refine ev_seq (ev_region tabT [] 100 rfl ?_)
  repeat (first | refine sat_same ?_ | refine sat_impA ?_ | refine sat_needA ?_)
  refine sat_done ?_
  refine exS_normal ?_
  refine ev_seq (ev_drawn tabT [] [[], [], [0, 1], [], [], [0, 1, 2, 3, 4], [], [], [0, 1, 2, 3, 4, 5, 6, 7], [0, 1, 2, 3, 4, 5, 6, 7, 8]] 200 mixT (by kernel_rfl) rfl ?_)
  repeat (first | refine sat_same ?_ | refine sat_impA ?_ | refine sat_needA ?_)
  refine sat_fn _ (Obj_ok _ _) rfl ?_
  repeat (first | refine sat_same ?_ | refine sat_impA ?_ | refine sat_needA ?_)
  refine sat_fn _ (Obj_ok _ _) rfl ?_
  repeat (first | refine sat_same ?_ | refine sat_impA ?_ | refine sat_needA ?_)
  refine sat_done ?_
  refine exS_normal ?_
  refine ev_seq ?_
  refine ev_seq (ev_region tabT [] 300 rfl ?_)
  repeat (first | refine sat_same ?_ | refine sat_impA ?_ | refine sat_needA ?_)
  refine sat_done ?_
  refine exS_normal ?_
  refine ev_cond rfl (fun c2 => ?_) (fun c2 => ?_)
  · replace c2 : ¬ ((objS h v).kind = 1 ∧ (objS h w).kind = 1) := by intro hh; rw [decide_eq_true hh.1, decide_eq_true hh.2] at c2; cases c2
    refine ev_seq (ev_region tabT [] 400 rfl ?_)
    repeat (first | refine sat_same ?_ | refine sat_impA ?_ | refine sat_needA ?_)
    refine sat_fn _ (SameValue_ok _ _) rfl ?_
    repeat (first | refine sat_same ?_ | refine sat_impA ?_ | refine sat_needA ?_)
    refine sat_done ?_
    refine exS_normal ?_
    refine ev_ret ?_
    refine exS_ret ?_
    exact FinV.ret rfl (SubP.bool (stepK_no c2).symm)
  · simp only [Bool.or_eq_false_iff, Bool.not_eq_false', decide_eq_true_eq] at c2
    refine ev_skip ?_
    refine exS_normal ?_
    refine ev_seq ?_
    refine ev_seq (ev_region tabT [] 500 rfl ?_)
    repeat (first | refine sat_same ?_ | refine sat_impA ?_ | refine sat_needA ?_)
    refine sat_done ?_
    refine exS_normal ?_
    refine ev_cond rfl (fun c4 => ?_) (fun c4 => ?_)
    · simp only [Bool.not_eq_true', decide_eq_false_iff_not] at c4
      refine ev_seq (ev_region tabT [] 600 rfl ?_)
      repeat (first | refine sat_same ?_ | refine sat_impA ?_ | refine sat_needA ?_)
      refine sat_done ?_
      refine exS_normal ?_
      refine ev_ret ?_
      refine exS_ret ?_
      exact FinV.ret rfl (SubP.bool (by rw [stepK_yes c2, decide_eq_false c4]; rfl))
    · simp only [Bool.not_eq_false', decide_eq_true_eq] at c4
      refine ev_skip ?_
      refine exS_normal ?_
      refine ev_seq ?_
      refine ev_seq (ev_region tabT [] 700 rfl ?_)
      repeat (first | refine sat_same ?_ | refine sat_impA ?_ | refine sat_needA ?_)
      refine sat_done ?_
      refine exS_normal ?_
      refine ev_block ?_
      refine ev_loopK (ι := Up (objS h v).items.length (prP F (objS h v).items (objS h w).items)) [3, 7, 8, 36] [0, 106, 107] 750 (fun x => [(37, .v (.int .i64 x.k))]) (fun _ => []) (fun x => (objS h v).items.length - x.k) ⟨0, Nat.zero_le _, fun j hj => by omega⟩ ?_
      refine ⟨⟨(by first | exact trivial | (repeat (first | exact trivial | exact Sub.refl _ | refine ⟨?_, ?_⟩ | exact Sub.int (by first | rfl | omega | (push_cast; omega)) | exact Sub.nilSl | exact Sub.own rfl | exact Sub.slrSl rfl | exact Sub.ownSl (List.map_append).symm | exact Sub.ownSl rfl))), (by repeat (first | exact trivial | exact SubO.same rfl | refine ⟨?_, ?_⟩)), rfl, rfl⟩, fun x => ?_⟩
      have hk := x.le
      refine ev_seq (ev_region tabT [] 800 rfl ?_)
      repeat (first | refine sat_same ?_ | refine sat_impA ?_ | refine sat_needA ?_)
      refine sat_done ?_
      refine exS_normal ?_
      refine ev_seq ?_
      refine ev_cond rfl (fun c7 => ?_) (fun c7 => ?_)
      · try simp only [decide_eq_true_eq, decide_eq_false_iff_not, Bool.not_eq_true', Bool.not_eq_false', Bool.and_eq_true, Bool.or_eq_true, Bool.or_eq_false_iff, gt_iff_lt, Int.not_lt, Bool.not_true, Bool.not_false, Int.ofNat_lt, Int.ofNat_le] at c7
        refine ev_skip ?_
        refine exS_normal ?_
        refine ev_seq ?_
        refine ev_block ?_
        refine ev_seq (ev_region tabT [] 900 rfl ?_)
        repeat (first | refine sat_same ?_ | refine sat_impA ?_ | refine sat_needA ?_)
        refine sat_done ?_
        refine exS_normal ?_
        refine ev_seq (ev_drawn tabT [] [[], [], [1], [], [1, 2, 3], [1, 2, 3, 4], [], [6], [], [6, 7, 8], [6, 7, 8, 9], [0, 1, 2, 3, 4, 5, 6, 7, 8, 9, 10], [0, 1, 2, 3, 4, 5, 6, 7, 8, 9, 10, 11]] 1000 mixT (by kernel_rfl) rfl ?_)
        repeat (first | refine sat_same ?_ | refine sat_impA ?_ | refine sat_need (by first | (refine ⟨by omega, ?_⟩; omega) | omega) ?_)
        refine sat_fn _ (H c2.1 _ (by rw [getD_l c7]; exact List.getElem_mem _) _) rfl ?_
        repeat (first | refine sat_same ?_ | refine sat_impA ?_ | refine sat_need (by first | (refine ⟨by omega, ?_⟩; omega) | omega) ?_)
        refine sat_done ?_
        refine exS_normal ?_
        refine ev_cond rfl (fun c9 => ?_) (fun c9 => ?_)
        · try simp only [decide_eq_true_eq, decide_eq_false_iff_not, Bool.not_eq_true', Bool.not_eq_false', Bool.and_eq_true, Bool.or_eq_true, Bool.or_eq_false_iff, gt_iff_lt, Int.not_lt, Bool.not_true, Bool.not_false, Int.ofNat_lt, Int.ofNat_le] at c9
          refine ev_seq (ev_region tabT [] 1100 rfl ?_)
          repeat (first | refine sat_same ?_ | refine sat_impA ?_ | refine sat_needA ?_)
          refine sat_done ?_
          refine exS_normal ?_
          refine ev_ret ?_
          refine exBl_ret ?_
          refine exS_ret ?_
          refine exL_ret ?_
          refine exBl_ret ?_
          refine exS_ret ?_
          exact FinV.ret rfl (SubP.bool (by rw [stepK_yes c2, Up.no (p := (prP F (objS h v).items (objS h w).items)) c7 c9, Bool.and_false]))
        · try simp only [decide_eq_true_eq, decide_eq_false_iff_not, Bool.not_eq_true', Bool.not_eq_false', Bool.and_eq_true, Bool.or_eq_true, Bool.or_eq_false_iff, gt_iff_lt, Int.not_lt, Bool.not_true, Bool.not_false, Int.ofNat_lt, Int.ofNat_le] at c9
          refine ev_skip ?_
          refine exBl_normal ?_
          refine exS_normal ?_
          refine ev_region tabT [] 1200 rfl ?_
          repeat (first | refine sat_same ?_ | refine sat_impA ?_ | refine sat_needA ?_)
          refine sat_done ?_
          exact exL_normal (x.next c7 c9) ⟨(by first | exact trivial | (repeat (first | exact trivial | exact Sub.refl _ | refine ⟨?_, ?_⟩ | exact Sub.int (by first | rfl | omega | (push_cast; omega)) | exact Sub.nilSl | exact Sub.own rfl | exact Sub.slrSl rfl | exact Sub.ownSl (List.map_append).symm | exact Sub.ownSl rfl))), (by repeat (first | exact trivial | exact SubO.same rfl | refine ⟨?_, ?_⟩)), rfl, rfl⟩ (by show (objS h v).items.length - (x.k + 1) < (objS h v).items.length - x.k; omega)
      · try simp only [decide_eq_true_eq, decide_eq_false_iff_not, Bool.not_eq_true', Bool.not_eq_false', Bool.and_eq_true, Bool.or_eq_true, Bool.or_eq_false_iff, gt_iff_lt, Int.not_lt, Bool.not_true, Bool.not_false, Int.ofNat_lt, Int.ofNat_le] at c7
        refine ev_exit ?_
        refine exS_exit ?_
        refine exL_exit ?_
        refine exBl_same ?_
        refine exS_normal ?_
        refine ev_seq (ev_region tabT [] 1300 rfl ?_)
        repeat (first | refine sat_same ?_ | refine sat_impA ?_ | refine sat_needA ?_)
        refine sat_done ?_
        refine exS_normal ?_
        refine ev_ret ?_
        exact FinV.ret rfl (SubP.bool (by rw [stepK_yes c2, x.yes c7, decide_eq_true c4]; rfl))

theorem SameKey_n {h : List Ob} (hh : HpIn h) : ∀ (n : Nat) (v w : Vl), Dp h n v → Fn Tryd.prog 10 [hpD md h, .agg (vlD v), .agg (vlD w)] (.v (.bool (smK h n v w)))
  | 0, v, w, hd => by
    have := SameKey_step (md := md) h v w (fun _ _ => false) hh fun hk => absurd hk hd
    rw [stepK_no (fun e => hd e.1)] at this
    exact this
  | n + 1, v, w, hd => SameKey_step h v w (smK h n) hh fun hk x hx y => SameKey_n hh n x y (hd hk x hx)

theorem Place_ok (h : List Ob) (l : List Vl) (k : Vl) (hh : HpIn h) (hl : ∀ x ∈ l, Dp h 1001 x) : Fn Tryd.prog 53 [hpD md h, vsD l, .agg (vlD k)] (.v (.int .i64 (plI h l k))) := by
  refine fn_ev tabT Tryd.func53 rfl rfl rfl rfl rfl rfl ?_
  intro w0 s0 mx
  refine ev_len 1 rfl fun hl1 => ?_
  refine ev_seq (ev_region tabT [] 100 rfl ?_)
  repeat (first | refine sat_same ?_ | refine sat_impA ?_ | refine sat_needA ?_)
  refine sat_done ?_
  refine exS_normal ?_
  refine ev_seq ?_
  refine ev_seq (ev_region tabT [] 200 rfl ?_)
  repeat (first | refine sat_same ?_ | refine sat_impA ?_ | refine sat_needA ?_)
  refine sat_done ?_
  refine exS_normal ?_
  refine ev_block ?_
  refine ev_loopK (ι := Al l (fun x => !smK h 1001 x k)) [1, 3, 5, 9] [0, 1] 250 (fun x => [(10, .v (.int .i64 x.k))]) (fun _ => []) (fun x => l.length - x.k) ⟨0, Nat.zero_le _, fun j x hj => by omega⟩ ?_
  refine ⟨⟨(by first | exact trivial | (repeat (first | exact trivial | exact Sub.refl _ | refine ⟨?_, ?_⟩ | exact Sub.int (by first | rfl | omega | (push_cast; omega)) | exact Sub.nilSl | exact Sub.own rfl | exact Sub.slrSl rfl | exact Sub.ownSl (List.map_append).symm | exact Sub.ownSl rfl))), (by repeat (first | exact trivial | exact SubO.same rfl | refine ⟨?_, ?_⟩)), rfl, rfl⟩, fun x => ?_⟩
  have hk := x.le
  refine ev_seq (ev_region tabT [] 300 rfl ?_)
  repeat (first | refine sat_same ?_ | refine sat_impA ?_ | refine sat_needA ?_)
  refine sat_done ?_
  refine exS_normal ?_
  refine ev_seq ?_
  refine ev_cond rfl (fun c2 => ?_) (fun c2 => ?_)
  · try simp only [decide_eq_true_eq, decide_eq_false_iff_not, Bool.not_eq_true', Bool.not_eq_false', Bool.and_eq_true, Bool.or_eq_true, Bool.or_eq_false_iff, gt_iff_lt, Int.not_lt, Bool.not_true, Bool.not_false, Int.ofNat_lt, Int.ofNat_le] at c2
    refine ev_skip ?_
    refine exS_normal ?_
    refine ev_seq ?_
    refine ev_block ?_
    refine ev_seq (ev_region tabT [] 400 rfl ?_)
    repeat (first | refine sat_same ?_ | refine sat_impA ?_ | refine sat_needA ?_)
    refine sat_done ?_
    refine exS_normal ?_
    refine ev_seq (ev_drawn tabT [] [[], [], [], [1, 2], [1, 2, 3], [], [0, 1, 2, 3, 4, 5]] 500 mixT (by kernel_rfl) rfl ?_)
    repeat (first | refine sat_same ?_ | refine sat_impA ?_ | refine sat_needA ?_)
    refine sat_fn _ (SameKey_n hh 1001 _ _ (hl _ (by rw [getD_l c2]; exact List.getElem_mem _))) rfl ?_
    repeat (first | refine sat_same ?_ | refine sat_impA ?_ | refine sat_needA ?_)
    refine sat_done ?_
    refine exS_normal ?_
    refine ev_cond rfl (fun c4 => ?_) (fun c4 => ?_)
    · try simp only [decide_eq_true_eq, decide_eq_false_iff_not, Bool.not_eq_true', Bool.not_eq_false', Bool.and_eq_true, Bool.or_eq_true, Bool.or_eq_false_iff, gt_iff_lt, Int.not_lt, Bool.not_true, Bool.not_false, Int.ofNat_lt, Int.ofNat_le] at c4
      refine ev_seq (ev_region tabT [] 600 rfl ?_)
      repeat (first | refine sat_same ?_ | refine sat_impA ?_ | refine sat_needA ?_)
      refine sat_done ?_
      refine exS_normal ?_
      refine ev_ret ?_
      refine exBl_ret ?_
      refine exS_ret ?_
      refine exL_ret ?_
      refine exBl_ret ?_
      refine exS_ret ?_
      exact FinV.ret rfl (SubP.int (plI_at x.all (getD_q c2 vl0) c4).symm)
    · try simp only [decide_eq_true_eq, decide_eq_false_iff_not, Bool.not_eq_true', Bool.not_eq_false', Bool.and_eq_true, Bool.or_eq_true, Bool.or_eq_false_iff, gt_iff_lt, Int.not_lt, Bool.not_true, Bool.not_false, Int.ofNat_lt, Int.ofNat_le] at c4
      refine ev_skip ?_
      refine exBl_normal ?_
      refine exS_normal ?_
      refine ev_region tabT [] 700 rfl ?_
      repeat (first | refine sat_same ?_ | refine sat_impA ?_ | refine sat_needA ?_)
      refine sat_done ?_
      exact exL_normal (x.next (e := vl0) c2 (by rw [c4]; rfl)) ⟨(by first | exact trivial | (repeat (first | exact trivial | exact Sub.refl _ | refine ⟨?_, ?_⟩ | exact Sub.int (by first | rfl | omega | (push_cast; omega)) | exact Sub.nilSl | exact Sub.own rfl | exact Sub.slrSl rfl | exact Sub.ownSl (List.map_append).symm | exact Sub.ownSl rfl))), (by repeat (first | exact trivial | exact SubO.same rfl | refine ⟨?_, ?_⟩)), rfl, rfl⟩ (by show l.length - (x.k + 1) < l.length - x.k; omega)
  · try simp only [decide_eq_true_eq, decide_eq_false_iff_not, Bool.not_eq_true', Bool.not_eq_false', Bool.and_eq_true, Bool.or_eq_true, Bool.or_eq_false_iff, gt_iff_lt, Int.not_lt, Bool.not_true, Bool.not_false, Int.ofNat_lt, Int.ofNat_le] at c2
    refine ev_exit ?_
    refine exS_exit ?_
    refine exL_exit ?_
    refine exBl_same ?_
    refine exS_normal ?_
    refine ev_seq (ev_region tabT [] 800 rfl ?_)
    repeat (first | refine sat_same ?_ | refine sat_impA ?_ | refine sat_needA ?_)
    refine sat_done ?_
    refine exS_normal ?_
    refine ev_ret ?_
    exact FinV.ret rfl (SubP.int (plI_none (fun y hy => by
        have := List.all_eq_true.1 (x.yes c2) y hy
        simpa using this)).symm)

/-- Along the keys: those that are behind are keys. -/
structure Sk (h : List Ob) (l : List Vl) where
  s : Sc l (krF h)
  kd : ∀ y ∈ l.take s.k, keyedS h y = true
def Sk.next {h : List Ob} {l : List Vl} (x : Sk h l) (h1 : x.s.k < l.length) (h2 : keyedS h (l.getD (x.s.k : Int).toNat vl0) = true) (h3 : ((l.take x.s.k).any fun y => smK h 1001 y (l.getD (x.s.k : Int).toNat vl0)) = false) : Sk h l :=
  ⟨x.s.next (e := vl0) h1 (by rw [krF, if_neg (by rw [h2]; decide), if_neg (by rw [h3]; decide)]), fun y hy => by
    have hy' : y ∈ l.take (x.s.k + 1) := hy
    rw [take_at h1 vl0] at hy'
    rcases List.mem_append.1 hy' with hy' | hy'
    · exact x.kd y hy'
    · rw [List.mem_singleton.1 hy']; exact h2⟩
theorem take0 {α : Type} (l : List α) (k : Nat) : (l.drop (Int.toNat 0)).take ((k : Int).toNat - Int.toNat 0) = l.take k := rfl

theorem keyRule_ok (h : List Ob) (n : Int) (hn : inH h n) (hh : HpIn h) : Fn Tryd.prog 28 [hpD md h, .v (.int .i64 n)] (.v (.int .i64 (keyS h (obAt h n)))) := by
  have hO : ObIn (h.getD n.toNat ob0) := hh.at n
  have hkl := hO.kl
  refine fn_ev tabT Tryd.func28 rfl rfl rfl rfl rfl rfl ?_
  intro w0 s0 mx
  refine ev_seq (ev_region tabT [] 100 rfl ?_)
  repeat (first | refine sat_same ?_ | refine sat_impA ?_ | refine sat_needA ?_)
  refine sat_done ?_
  refine exS_normal ?_
  refine ev_seq (ev_region tabT [] 200 rfl ?_)
  repeat (first | refine sat_same ?_ | refine sat_impA ?_ | refine sat_need (by exact hn) ?_)
  refine sat_done ?_
  refine exS_normal ?_
  refine ev_seq ?_
  refine ev_seq (ev_region tabT [] 300 rfl ?_)
  repeat (first | refine sat_same ?_ | refine sat_impA ?_ | refine sat_needA ?_)
  refine sat_done ?_
  refine exS_normal ?_
  refine ev_block ?_
  refine ev_loopK (ι := Sk h (h.getD n.toNat ob0).keys) [2, 5, 14, 15] [0] 350 (fun x => [(16, .v (.int .i64 x.s.k))]) (fun _ => []) (fun x => (h.getD n.toNat ob0).keys.length - x.s.k) ⟨Sc.start _ _, fun y hy => by cases hy⟩ ?_
  refine ⟨⟨(by first | exact trivial | (repeat (first | exact trivial | exact Sub.refl _ | refine ⟨?_, ?_⟩ | exact Sub.int (by first | rfl | omega | (push_cast; omega)) | exact Sub.nilSl | exact Sub.own rfl | exact Sub.slrSl rfl | exact Sub.ownSl (List.map_append).symm | exact Sub.ownSl rfl))), (by repeat (first | exact trivial | exact SubO.same rfl | refine ⟨?_, ?_⟩)), rfl, rfl⟩, fun x => ?_⟩
  have hk := x.s.le
  refine ev_seq (ev_region tabT [] 400 rfl ?_)
  repeat (first | refine sat_same ?_ | refine sat_impA ?_ | refine sat_needA ?_)
  refine sat_done ?_
  refine exS_normal ?_
  refine ev_seq ?_
  refine ev_cond rfl (fun c3 => ?_) (fun c3 => ?_)
  · try simp only [decide_eq_true_eq, decide_eq_false_iff_not, Bool.not_eq_true', Bool.not_eq_false', Bool.and_eq_true, Bool.or_eq_true, Bool.or_eq_false_iff, gt_iff_lt, Int.not_lt, Bool.not_true, Bool.not_false, Int.ofNat_lt, Int.ofNat_le] at c3
    refine ev_skip ?_
    refine exS_normal ?_
    refine ev_seq ?_
    refine ev_block ?_
    refine ev_seq (ev_region tabT [] 500 rfl ?_)
    repeat (first | refine sat_same ?_ | refine sat_impA ?_ | refine sat_needA ?_)
    refine sat_done ?_
    refine exS_normal ?_
    refine ev_seq ?_
    refine ev_seq (ev_region tabT [] 600 rfl ?_)
    repeat (first | refine sat_same ?_ | refine sat_impA ?_ | refine sat_needA ?_)
    refine sat_fn _ (Keyed_ok _ _ (by first | assumption | omega | (simp_all; done))) rfl ?_
    repeat (first | refine sat_same ?_ | refine sat_impA ?_ | refine sat_needA ?_)
    refine sat_done ?_
    refine exS_normal ?_
    refine ev_cond rfl (fun c5 => ?_) (fun c5 => ?_)
    · try simp only [decide_eq_true_eq, decide_eq_false_iff_not, Bool.not_eq_true', Bool.not_eq_false', Bool.and_eq_true, Bool.or_eq_true, Bool.or_eq_false_iff, gt_iff_lt, Int.not_lt, Bool.not_true, Bool.not_false, Int.ofNat_lt, Int.ofNat_le] at c5
      refine ev_seq (ev_region tabT [] 700 rfl ?_)
      repeat (first | refine sat_same ?_ | refine sat_impA ?_ | refine sat_needA ?_)
      refine sat_done ?_
      refine exS_normal ?_
      refine ev_ret ?_
      refine exS_ret ?_
      refine exBl_ret ?_
      refine exS_ret ?_
      refine exL_ret ?_
      refine exBl_ret ?_
      refine exS_ret ?_
      exact FinV.ret rfl (SubP.int (x.s.here (e := vl0) c3 (by rw [krF, if_pos c5])))
    · try simp only [decide_eq_true_eq, decide_eq_false_iff_not, Bool.not_eq_true', Bool.not_eq_false', Bool.and_eq_true, Bool.or_eq_true, Bool.or_eq_false_iff, gt_iff_lt, Int.not_lt, Bool.not_true, Bool.not_false, Int.ofNat_lt, Int.ofNat_le] at c5
      refine ev_skip ?_
      refine exS_normal ?_
      refine ev_seq (ev_drawn tabT [] [[], [], [], [1, 2], [], [0, 1, 2, 3, 4], [0, 1, 2, 3, 4, 5]] 800 mixT (by kernel_rfl) rfl ?_)
      repeat (first | refine sat_same ?_ | refine sat_impA ?_ | refine sat_needA ?_)
      refine sat_fn _ (Place_ok h ((h.getD n.toNat ob0).keys.take x.s.k) _ hh (fun y hy => keyed_dp (x.kd y hy))) rfl ?_
      repeat (first | refine sat_same ?_ | refine sat_impA ?_ | refine sat_needA ?_)
      refine sat_done ?_
      refine exS_normal ?_
      refine ev_cond rfl (fun c7 => ?_) (fun c7 => ?_)
      · rw [plI_any] at c7
        refine ev_seq (ev_region tabT [] 900 rfl ?_)
        repeat (first | refine sat_same ?_ | refine sat_impA ?_ | refine sat_needA ?_)
        refine sat_done ?_
        refine exS_normal ?_
        refine ev_ret ?_
        refine exBl_ret ?_
        refine exS_ret ?_
        refine exL_ret ?_
        refine exBl_ret ?_
        refine exS_ret ?_
        exact FinV.ret rfl (SubP.int (x.s.here (e := vl0) c3 (by rw [krF, if_neg (by rw [c5]; decide), if_pos c7])))
      · rw [plI_any] at c7
        refine ev_skip ?_
        refine exBl_normal ?_
        refine exS_normal ?_
        refine ev_region tabT [] 1000 rfl ?_
        repeat (first | refine sat_same ?_ | refine sat_impA ?_ | refine sat_needA ?_)
        refine sat_done ?_
        exact exL_normal (x.next c3 c5 c7) ⟨(by first | exact trivial | (repeat (first | exact trivial | exact Sub.refl _ | refine ⟨?_, ?_⟩ | exact Sub.int (by first | rfl | omega | (push_cast; omega)) | exact Sub.nilSl | exact Sub.own rfl | exact Sub.slrSl rfl | exact Sub.ownSl (List.map_append).symm | exact Sub.ownSl rfl))), (by repeat (first | exact trivial | exact SubO.same rfl | refine ⟨?_, ?_⟩)), rfl, rfl⟩ (by show (h.getD n.toNat ob0).keys.length - (x.s.k + 1) < (h.getD n.toNat ob0).keys.length - x.s.k; omega)
  · try simp only [decide_eq_true_eq, decide_eq_false_iff_not, Bool.not_eq_true', Bool.not_eq_false', Bool.and_eq_true, Bool.or_eq_true, Bool.or_eq_false_iff, gt_iff_lt, Int.not_lt, Bool.not_true, Bool.not_false, Int.ofNat_lt, Int.ofNat_le] at c3
    refine ev_exit ?_
    refine exS_exit ?_
    refine exL_exit ?_
    refine exBl_same ?_
    refine exS_normal ?_
    refine ev_seq (ev_region tabT [] 1100 rfl ?_)
    repeat (first | refine sat_same ?_ | refine sat_impA ?_ | refine sat_needA ?_)
    refine sat_done ?_
    refine exS_normal ?_
    refine ev_ret ?_
    exact FinV.ret rfl (SubP.int (x.s.done c3 rfl))

end Go.Proofs.YtjlnanhjhfkddaaDoor
