/- Part 15 of the proof. -/
import Derived.Test.YtpmadgmjkljbgaaDoorM14

/- Walks: inline.Compare, inline.Binary. -/
namespace Go.Proofs.YtpmadgmjkljbgaaDoor
open Go.RowKit

theorem smallZ_in {x : Vl} (hg : Lg x.nl) : -4294967295 ≤ smallZ x ∧ smallZ x ≤ 4294967295 := by
  unfold smallZ
  split
  · have : x.nl.headD 0 < 4294967296 := by
      match hl : x.nl with
      | [] => simp
      | d :: l => exact hg d (by rw [hl]; simp)
    generalize x.nl.headD 0 = y at *
    cases x.nn <;> unfold ZI <;> simp <;> omega
  · omega
/-- One of the comparisons. -/
def cmpB (op x y : Int) : Bool := if op = 1 then decide (x < y) else if op = 2 then decide (x ≤ y) else if op = 3 then decide (y < x) else if op = 4 then decide (y ≤ x) else if op = 5 then decide (x = y) else if op = 6 then decide (x ≠ y) else false
def cmpOk (P1 P2 : Bool) (op : Int) : Bool := P1 && P2 && (decide (1 ≤ op) && decide (op ≤ 6))
def cmpT (P1 P2 : Bool) (op X Y : Int) : Bool := cmpOk P1 P2 op && cmpB op X Y
theorem ret_cmp2 {a b c d : Bool} (h : a = b) (h2 : c = d) : Ending.returned (.tuple #[.bool a, .bool c]) = .returned (.tuple #[.bool b, .bool d]) := by rw [h, h2]
theorem ret_cmp {a b : Bool} (h : a = b) : Ending.returned (.tuple #[.bool a, .bool true]) = .returned (.tuple #[.bool b, .bool true]) := by rw [h]
set_option maxRecDepth 100000 in
set_option maxHeartbeats 2000000 in
theorem CompareI_any (op : Int) (v1 v2 : Value) (x1 x2 : Vl) (w : World) (h1 : VlAt w v1 x1) (h2 : VlAt w v2 x2) (g1 : Lg x1.nl) (g2 : Lg x2.nl) :
    Calls Tryd.prog 10 #[.int .i64 op, v1, v2] w fun e w' => e = .returned (.tuple #[  .bool (cmpT (smallV x1) (smallV x2) op (smallZ x1) (smallZ x2)), .bool (cmpOk (smallV x1) (smallV x2) op)]) ∧ Below w.heap.size w w' := by
  have HS1 := Lib.hid (fun W (h : Below w.heap.size w W) => smallI_any v1 x1 W (h1.below h) g1)
  have HS2 := Lib.hid (fun W (h : Below w.heap.size w W) => smallI_any v2 x2 W (h2.below h) g2)
  have HB1 := Lib.hid (smallZ_in g1)
  have HB2 := Lib.hid (smallZ_in g2)
  generalize smallZ x1 = X at *
  generalize smallZ x2 = Y at *
  generalize smallV x1 = P1 at *
  generalize smallV x2 = P2 at *
  obtain ⟨k1, nn1, nl1, dn1, dl1, s1, i1⟩ := x1
  obtain ⟨av1, bv1, rfl, hx1, hy1⟩ := h1
  replace hx1 : RowU w av1 nl1 := hx1
  replace hy1 : RowU w bv1 dl1 := hy1
  obtain ⟨a1, c1, rfl, -⟩ := hx1
  obtain ⟨p1, r1, rfl, -⟩ := hy1
  obtain ⟨k2, nn2, nl2, dn2, dl2, s2, i2⟩ := x2
  obtain ⟨av2, bv2, rfl, hx2, hy2⟩ := h2
  replace hx2 : RowU w av2 nl2 := hx2
  replace hy2 : RowU w bv2 dl2 := hy2
  obtain ⟨a2, c2, rfl, -⟩ := hx2
  obtain ⟨p2, r2, rfl, -⟩ := hy2
  clear g1 g2
  generalize nl1.length = m1 at *
  generalize nl2.length = m2 at *
  generalize dl1.length = q1 at *
  generalize dl2.length = q2 at *
  have hal := alloc2 w (.cells #[.int .i64 k1, .bool nn1, .slice a1 m1 c1, .bool dn1, .slice p1 q1 r1, .string s1, .int .i64 i1] 26) (.cells #[.int .i64 k2, .bool nn2, .slice a2 m2 c2, .bool dn2, .slice p2 q2 r2, .string s2, .int .i64 i2] 26)
  go_enter Tryd.func10, Tryd.ntmps10
  go_upto_region 1 with fail
  generalize ((w.alloc (.cells #[.int .i64 k1, .bool nn1, .slice a1 m1 c1, .bool dn1, .slice p1 q1 r1, .string s1, .int .i64 i1] 26)).alloc (.cells #[.int .i64 k2, .bool nn2, .slice a2 m2 c2, .bool dn2, .slice p2 q2 r2, .string s2, .int .i64 i2] 26)) = w1 at *
  obtain ⟨hb1, h1, h2⟩ := hal
  refine wp_region_lit ?_
  refine wpL_load stVal h1 (by rfl) (by rfl) ?_
  go_wp2_with fail
  refine (HS1.out w1 hb1).mono ?_
  rintro e w2 ⟨rfl, hb2⟩
  replace h1 := (hb2.block _ (box_lt h1)).trans h1
  replace h2 := (hb2.block _ (box_lt h2)).trans h2
  have hb12 := ext_trans hb1 hb2
  go_upto_region 2 with fail
  refine wp_region_lit ?_
  refine wpL_load stVal h2 (by rfl) (by rfl) ?_
  go_wp2_with fail
  refine (HS2.out w2 hb12).mono ?_
  rintro e w3 ⟨rfl, hb3⟩
  have hb13 := ext_trans hb12 hb3
  clear h1 h2 hb1 hb2 hb3 hb12 HS1 HS2
  cases P1
  · go_wp2
    exact bodyPost_ret (v := .tuple #[.bool false, .bool false]) (by simp [results, Tryd.results10, go_sem]) rfl ⟨ret_cmp2 (by unfold cmpT cmpOk; simp) (by unfold cmpOk; simp), hb13⟩
  cases P2
  · go_wp2
    exact bodyPost_ret (v := .tuple #[.bool false, .bool false]) (by simp [results, Tryd.results10, go_sem]) rfl ⟨ret_cmp2 (by unfold cmpT cmpOk; simp) (by unfold cmpOk; simp), hb13⟩
  by_cases ho1 : op = 1
  · subst ho1
    have HF := Lib.hid (show (decide (X < Y)) = cmpT true true 1 X Y ∧ true = cmpOk true true 1 by unfold cmpT cmpOk cmpB; simp; try (rw [Bool.eq_iff_iff]; simp))
    go_wp2
    exact bodyPost_ret (v := .tuple #[.bool (decide (X < Y)), .bool true]) (by simp [results, Tryd.results10, go_sem]) rfl ⟨ret_cmp2 HF.out.1 HF.out.2, hb13⟩
  have hn1 : (op == 1) = false := by simpa using ho1
  by_cases ho2 : op = 2
  · subst ho2
    have HF := Lib.hid (show (decide (X ≤ Y)) = cmpT true true 2 X Y ∧ true = cmpOk true true 2 by unfold cmpT cmpOk cmpB; simp; try (rw [Bool.eq_iff_iff]; simp))
    go_wp2
    exact bodyPost_ret (v := .tuple #[.bool (decide (X ≤ Y)), .bool true]) (by simp [results, Tryd.results10, go_sem]) rfl ⟨ret_cmp2 HF.out.1 HF.out.2, hb13⟩
  have hn2 : (op == 2) = false := by simpa using ho2
  by_cases ho3 : op = 3
  · subst ho3
    have HF := Lib.hid (show (decide (X > Y)) = cmpT true true 3 X Y ∧ true = cmpOk true true 3 by unfold cmpT cmpOk cmpB; simp; try (rw [Bool.eq_iff_iff]; simp))
    go_wp2
    exact bodyPost_ret (v := .tuple #[.bool (decide (X > Y)), .bool true]) (by simp [results, Tryd.results10, go_sem]) rfl ⟨ret_cmp2 HF.out.1 HF.out.2, hb13⟩
  have hn3 : (op == 3) = false := by simpa using ho3
  by_cases ho4 : op = 4
  · subst ho4
    have HF := Lib.hid (show (decide (X ≥ Y)) = cmpT true true 4 X Y ∧ true = cmpOk true true 4 by unfold cmpT cmpOk cmpB; simp; try (rw [Bool.eq_iff_iff]; simp))
    go_wp2
    exact bodyPost_ret (v := .tuple #[.bool (decide (X ≥ Y)), .bool true]) (by simp [results, Tryd.results10, go_sem]) rfl ⟨ret_cmp2 HF.out.1 HF.out.2, hb13⟩
  have hn4 : (op == 4) = false := by simpa using ho4
  by_cases ho5 : op = 5
  · subst ho5
    have HF := Lib.hid (show (X == Y) = cmpT true true 5 X Y ∧ true = cmpOk true true 5 by unfold cmpT cmpOk cmpB; simp; try (rw [Bool.eq_iff_iff]; simp))
    go_wp2
    exact bodyPost_ret (v := .tuple #[.bool (X == Y), .bool true]) (by simp [results, Tryd.results10, go_sem]) rfl ⟨ret_cmp2 HF.out.1 HF.out.2, hb13⟩
  have hn5 : (op == 5) = false := by simpa using ho5
  by_cases ho6 : op = 6
  · subst ho6
    have HF := Lib.hid (show (X != Y) = cmpT true true 6 X Y ∧ true = cmpOk true true 6 by unfold cmpT cmpOk cmpB; simp; try (rw [Bool.eq_iff_iff]; simp))
    go_wp2
    exact bodyPost_ret (v := .tuple #[.bool (X != Y), .bool true]) (by simp [results, Tryd.results10, go_sem]) rfl ⟨ret_cmp2 HF.out.1 HF.out.2, hb13⟩
  have hn6 : (op == 6) = false := by simpa using ho6
  have hck : cmpOk true true op = false := by unfold cmpOk; simp only [Bool.true_and, Bool.and_eq_false_iff, decide_eq_false_iff_not]; omega
  have HF := Lib.hid (show false = cmpT true true op X Y ∧ false = cmpOk true true op from ⟨by unfold cmpT; rw [hck]; rfl, hck.symm⟩)
  clear ho1 ho2 ho3 ho4 ho5 ho6 hck
  go_wp2
  exact bodyPost_ret (v := .tuple #[.bool false, .bool false]) (by simp [results, Tryd.results10, go_sem]) rfl ⟨ret_cmp2 HF.out.1 HF.out.2, hb13⟩

/-- What the small operations give, and where. -/
def binZ (op x y : Int) : Int := if op = 5 then x + y else if op = 6 then x - y else if op = 7 then x * y else if op = 9 then Int.fdiv x y else x - Int.fdiv x y * y
def binOk (P1 P2 : Bool) (op x y : Int) : Bool := P1 && P2 && (decide (op = 5) || decide (op = 6) || (decide (op = 7) && decide (-2147483648 < x ∧ x < 2147483648 ∧ -2147483648 < y ∧ y < 2147483648)) || (decide (op = 9 ∨ op = 10) && decide (y ≠ 0)))
def BinP (ok : Bool) (z : Int) (w : World) (e : Ending) (w' : World) : Prop := ∃ v', e = .returned (.tuple #[v', .bool ok]) ∧ (ok = true → VlAt w' v' (valZ z)) ∧ (ok = false → VlAt w' v' zeroVl) ∧ Below w.heap.size w w'
theorem binP_no {ok : Bool} {z : Int} {w w' : World} {v' : Value} (h : false = ok) (hv : VlAt w' v' zeroVl) (hb : Below w.heap.size w w') : BinP ok z w (.returned (.tuple #[v', .bool false])) w' := by
  subst h
  exact ⟨v', rfl, fun h => (by cases h), fun _ => hv, hb⟩
theorem binP_yes {ok : Bool} {z z' : Int} {w w' : World} {v' : Value} (h : true = ok) (hz : z' = z) (hv : VlAt w' v' (valZ z')) (hb : Below w.heap.size w w') : BinP ok z w (.returned (.tuple #[v', .bool true])) w' := by
  subst h; subst hz
  exact ⟨v', rfl, fun _ => hv, fun h => (by cases h), hb⟩
theorem wrap_in {z : Int} (h : -9223372036854775808 ≤ z ∧ z ≤ 9223372036854775807) : IntKind.i64.wrap z = z := IntWalk.i64_in _ (by omega)
theorem mul_in {x y : Int} (h : -2147483648 < x ∧ x < 2147483648 ∧ -2147483648 < y ∧ y < 2147483648) : -9223372036854775808 ≤ x * y ∧ x * y ≤ 9223372036854775807 := by
  have h1 : (x * y).natAbs ≤ 2147483647 * 2147483647 := by
    rw [Int.natAbs_mul]
    exact Nat.mul_le_mul (by omega) (by omega)
  omega
theorem div_in {x y : Int} (hx : -4294967295 ≤ x ∧ x ≤ 4294967295) : -4294967295 ≤ Int.tdiv x y ∧ Int.tdiv x y ≤ 4294967295 ∧ -4294967295 ≤ Int.tmod x y ∧ Int.tmod x y ≤ 4294967295 := by
  have h1 : (Int.tdiv x y).natAbs ≤ x.natAbs := by rw [Int.natAbs_tdiv]; exact Nat.div_le_self _ _
  have h2 : (Int.tmod x y).natAbs ≤ x.natAbs := by rw [Int.natAbs_tmod]; exact Nat.mod_le _ _
  omega
set_option maxRecDepth 100000 in
set_option maxHeartbeats 8000000 in
theorem BinaryI_any (op : Int) (v1 v2 : Value) (x1 x2 : Vl) (w : World) (h1 : VlAt w v1 x1) (h2 : VlAt w v2 x2) (g1 : Lg x1.nl) (g2 : Lg x2.nl) :
    Calls Tryd.prog 5 #[.int .i64 op, v1, v2] w fun e w' => BinP (binOk (smallV x1) (smallV x2) op (smallZ x1) (smallZ x2)) (binZ op (smallZ x1) (smallZ x2)) w e w' := by
  have HS1 := Lib.hid (fun W (h : Below w.heap.size w W) => smallI_any v1 x1 W (h1.below h) g1)
  have HS2 := Lib.hid (fun W (h : Below w.heap.size w W) => smallI_any v2 x2 W (h2.below h) g2)
  have HB1 := Lib.hid (smallZ_in g1)
  have HB2 := Lib.hid (smallZ_in g2)
  generalize smallZ x1 = X at *
  generalize smallZ x2 = Y at *
  generalize smallV x1 = P1 at *
  generalize smallV x2 = P2 at *
  obtain ⟨k1, nn1, nl1, dn1, dl1, s1, i1⟩ := x1
  obtain ⟨av1, bv1, rfl, hx1, hy1⟩ := h1
  replace hx1 : RowU w av1 nl1 := hx1
  replace hy1 : RowU w bv1 dl1 := hy1
  obtain ⟨a1, c1, rfl, -⟩ := hx1
  obtain ⟨p1, r1, rfl, -⟩ := hy1
  obtain ⟨k2, nn2, nl2, dn2, dl2, s2, i2⟩ := x2
  obtain ⟨av2, bv2, rfl, hx2, hy2⟩ := h2
  replace hx2 : RowU w av2 nl2 := hx2
  replace hy2 : RowU w bv2 dl2 := hy2
  obtain ⟨a2, c2, rfl, -⟩ := hx2
  obtain ⟨p2, r2, rfl, -⟩ := hy2
  clear g1 g2
  generalize nl1.length = m1 at *
  generalize nl2.length = m2 at *
  generalize dl1.length = q1 at *
  generalize dl2.length = q2 at *
  have hal := alloc3 w (.cells #[.int .i64 k1, .bool nn1, .slice a1 m1 c1, .bool dn1, .slice p1 q1 r1, .string s1, .int .i64 i1] 26) (.cells #[.int .i64 k2, .bool nn2, .slice a2 m2 c2, .bool dn2, .slice p2 q2 r2, .string s2, .int .i64 i2] 26) (.cells #[.int .i64 0, .bool false, .slice none 0 0, .bool false, .slice none 0 0, .string ⟨#[]⟩, .int .i64 0] 26)
  go_enter Tryd.func5, Tryd.ntmps5
  go_upto_region 1 with fail
  generalize (((w.alloc (.cells #[.int .i64 k1, .bool nn1, .slice a1 m1 c1, .bool dn1, .slice p1 q1 r1, .string s1, .int .i64 i1] 26)).alloc (.cells #[.int .i64 k2, .bool nn2, .slice a2 m2 c2, .bool dn2, .slice p2 q2 r2, .string s2, .int .i64 i2] 26)).alloc (.cells #[.int .i64 0, .bool false, .slice none 0 0, .bool false, .slice none 0 0, .string ⟨#[]⟩, .int .i64 0] 26)) = w1 at *
  obtain ⟨hb1, h1, h2, h3⟩ := hal
  refine wp_region_lit ?_
  refine wpL_load stVal h1 (by rfl) (by rfl) ?_
  go_wp2_with fail
  refine (HS1.out w1 hb1).mono ?_
  rintro e w2 ⟨rfl, hb2⟩
  replace h1 := (hb2.block _ (box_lt h1)).trans h1
  replace h2 := (hb2.block _ (box_lt h2)).trans h2
  have hb12 := ext_trans hb1 hb2
  go_upto_region 2 with fail
  refine wp_region_lit ?_
  refine wpL_load stVal h2 (by rfl) (by rfl) ?_
  go_wp2_with fail
  refine (HS2.out w2 hb12).mono ?_
  rintro e w3 ⟨rfl, hb3⟩
  have hb13 := ext_trans hb12 hb3
  replace h3 := (hb3.block _ (box_lt ((hb2.block _ (box_lt h3)).trans h3))).trans ((hb2.block _ (box_lt h3)).trans h3)
  have H3 := Lib.hid h3
  clear h1 h2 h3 hb1 hb2 hb3 hb12 HS1 HS2
  have hX := HB1.out
  have hY := HB2.out
  cases P1
  · have HOK := Lib.hid (show false = binOk false P2 op X Y by unfold binOk; simp)
    go_wp2_with (refine wpL_store (cells := #[.int .i64 0, .bool false, .slice none 0 0, .bool false, .slice none 0 0, .string ⟨#[]⟩, .int .i64 0]) stVal H3.out (by rfl) (by rfl) (by rfl) (by rfl) (by rfl) ?_)
    have hs := setRow_facts H3.out #[.int .i64 0, .bool false, .slice none 0 0, .bool false, .slice none 0 0, .string ⟨#[]⟩, .int .i64 0]
    exact bodyPost_ret (results_cell_tmp (t := 6) (u := 7) rfl stVal rfl hs.1 rfl) rfl (binP_no HOK.out ⟨_, _, rfl, RowOf.nil _ _, RowOf.nil _ _⟩ (hs.2.2 _ _ (by omega) hb13))
  cases P2
  · have HOK := Lib.hid (show false = binOk true false op X Y by unfold binOk; simp)
    go_wp2_with (refine wpL_store (cells := #[.int .i64 0, .bool false, .slice none 0 0, .bool false, .slice none 0 0, .string ⟨#[]⟩, .int .i64 0]) stVal H3.out (by rfl) (by rfl) (by rfl) (by rfl) (by rfl) ?_)
    have hs := setRow_facts H3.out #[.int .i64 0, .bool false, .slice none 0 0, .bool false, .slice none 0 0, .string ⟨#[]⟩, .int .i64 0]
    exact bodyPost_ret (results_cell_tmp (t := 6) (u := 7) rfl stVal rfl hs.1 rfl) rfl (binP_no HOK.out ⟨_, _, rfl, RowOf.nil _ _, RowOf.nil _ _⟩ (hs.2.2 _ _ (by omega) hb13))
  by_cases ho5 : op = 5
  · subst ho5
    have hwr := wrap_in (z := X + Y) (by omega)
    have HOK := Lib.hid (show true = binOk true true 5 X Y by unfold binOk; simp)
    have HZ := Lib.hid (show X + Y = binZ 5 X Y from rfl)
    have HH := Lib.hid (fun W => HeapInt_any (X + Y) W (by omega) (by omega))
    go_wp2_with fail
    refine (HH.out w3).mono ?_
    rintro e w4 ⟨v4, rfl, hV, hb4⟩
    replace H3 := Lib.hid ((hb4.block _ (box_lt H3.out)).trans H3.out)
    have HSV := Lib.hid hV
    obtain ⟨cs, rfl, hlen, hone⟩ := vlAt_cells hV
    clear hV HH
    go_wp2_with (refine wpL_store (cells := cs.toArray) stVal H3.out (by rfl) (by simpa using hlen) (by simpa using hone) (by rfl) (by rfl) ?_)
    have hs := setRow_facts H3.out cs.toArray
    exact bodyPost_ret (results_cell_tmp (t := 6) (u := 7) rfl stVal rfl hs.1 (by simpa using hlen)) rfl (binP_yes HOK.out HZ.out (VlAt.other HSV.out H3.out noU_zeroV hs.2.1) (hs.2.2 _ _ (by omega) (ext_trans hb13 hb4)))
  have hn5 : (op == 5) = false := by simpa using ho5
  by_cases ho6 : op = 6
  · subst ho6
    have hwr := wrap_in (z := X - Y) (by omega)
    have HOK := Lib.hid (show true = binOk true true 6 X Y by unfold binOk; simp)
    have HZ := Lib.hid (show X - Y = binZ 6 X Y from rfl)
    have HH := Lib.hid (fun W => HeapInt_any (X - Y) W (by omega) (by omega))
    go_wp2_with fail
    refine (HH.out w3).mono ?_
    rintro e w4 ⟨v4, rfl, hV, hb4⟩
    replace H3 := Lib.hid ((hb4.block _ (box_lt H3.out)).trans H3.out)
    have HSV := Lib.hid hV
    obtain ⟨cs, rfl, hlen, hone⟩ := vlAt_cells hV
    clear hV HH
    go_wp2_with (refine wpL_store (cells := cs.toArray) stVal H3.out (by rfl) (by simpa using hlen) (by simpa using hone) (by rfl) (by rfl) ?_)
    have hs := setRow_facts H3.out cs.toArray
    exact bodyPost_ret (results_cell_tmp (t := 6) (u := 7) rfl stVal rfl hs.1 (by simpa using hlen)) rfl (binP_yes HOK.out HZ.out (VlAt.other HSV.out H3.out noU_zeroV hs.2.1) (hs.2.2 _ _ (by omega) (ext_trans hb13 hb4)))
  have hn6 : (op == 6) = false := by simpa using ho6
  by_cases ho7 : op = 7
  · subst ho7
    by_cases hr : -2147483648 < X ∧ X < 2147483648 ∧ -2147483648 < Y ∧ Y < 2147483648
    · have hm := mul_in hr
      have hwr := wrap_in hm
      have HOK := Lib.hid (show true = binOk true true 7 X Y by unfold binOk; simp [hr])
      have HZ := Lib.hid (show X * Y = binZ 7 X Y from rfl)
      have HH := Lib.hid (fun W => HeapInt_any (X * Y) W hm.1 hm.2)
      obtain ⟨hr1, hr2, hr3, hr4⟩ := hr
      clear hm
      go_wp2_with fail
      refine (HH.out w3).mono ?_
      rintro e w4 ⟨v4, rfl, hV, hb4⟩
      replace H3 := Lib.hid ((hb4.block _ (box_lt H3.out)).trans H3.out)
      have HSV := Lib.hid hV
      obtain ⟨cs, rfl, hlen, hone⟩ := vlAt_cells hV
      clear hV HH
      go_wp2_with (refine wpL_store (cells := cs.toArray) stVal H3.out (by rfl) (by simpa using hlen) (by simpa using hone) (by rfl) (by rfl) ?_)
      have hs := setRow_facts H3.out cs.toArray
      exact bodyPost_ret (results_cell_tmp (t := 6) (u := 7) rfl stVal rfl hs.1 (by simpa using hlen)) rfl (binP_yes HOK.out HZ.out (VlAt.other HSV.out H3.out noU_zeroV hs.2.1) (hs.2.2 _ _ (by omega) (ext_trans hb13 hb4)))
    · have HOK := Lib.hid (show false = binOk true true 7 X Y by unfold binOk; simp only [hr]; simp)
      by_cases c1 : -2147483648 < X
      · by_cases c2 : X < 2147483648
        · by_cases c3 : -2147483648 < Y
          · have c4 : ¬ (Y < 2147483648) := fun h => hr ⟨c1, c2, c3, h⟩
            clear hr
            go_wp2_with (refine wpL_store (cells := #[.int .i64 0, .bool false, .slice none 0 0, .bool false, .slice none 0 0, .string ⟨#[]⟩, .int .i64 0]) stVal H3.out (by rfl) (by rfl) (by rfl) (by rfl) (by rfl) ?_)
            have hs := setRow_facts H3.out #[.int .i64 0, .bool false, .slice none 0 0, .bool false, .slice none 0 0, .string ⟨#[]⟩, .int .i64 0]
            exact bodyPost_ret (results_cell_tmp (t := 6) (u := 7) rfl stVal rfl hs.1 rfl) rfl (binP_no HOK.out ⟨_, _, rfl, RowOf.nil _ _, RowOf.nil _ _⟩ (hs.2.2 _ _ (by omega) hb13))
          · clear hr
            go_wp2_with (refine wpL_store (cells := #[.int .i64 0, .bool false, .slice none 0 0, .bool false, .slice none 0 0, .string ⟨#[]⟩, .int .i64 0]) stVal H3.out (by rfl) (by rfl) (by rfl) (by rfl) (by rfl) ?_)
            have hs := setRow_facts H3.out #[.int .i64 0, .bool false, .slice none 0 0, .bool false, .slice none 0 0, .string ⟨#[]⟩, .int .i64 0]
            exact bodyPost_ret (results_cell_tmp (t := 6) (u := 7) rfl stVal rfl hs.1 rfl) rfl (binP_no HOK.out ⟨_, _, rfl, RowOf.nil _ _, RowOf.nil _ _⟩ (hs.2.2 _ _ (by omega) hb13))
        · clear hr
          go_wp2_with (refine wpL_store (cells := #[.int .i64 0, .bool false, .slice none 0 0, .bool false, .slice none 0 0, .string ⟨#[]⟩, .int .i64 0]) stVal H3.out (by rfl) (by rfl) (by rfl) (by rfl) (by rfl) ?_)
          have hs := setRow_facts H3.out #[.int .i64 0, .bool false, .slice none 0 0, .bool false, .slice none 0 0, .string ⟨#[]⟩, .int .i64 0]
          exact bodyPost_ret (results_cell_tmp (t := 6) (u := 7) rfl stVal rfl hs.1 rfl) rfl (binP_no HOK.out ⟨_, _, rfl, RowOf.nil _ _, RowOf.nil _ _⟩ (hs.2.2 _ _ (by omega) hb13))
      · clear hr
        go_wp2_with (refine wpL_store (cells := #[.int .i64 0, .bool false, .slice none 0 0, .bool false, .slice none 0 0, .string ⟨#[]⟩, .int .i64 0]) stVal H3.out (by rfl) (by rfl) (by rfl) (by rfl) (by rfl) ?_)
        have hs := setRow_facts H3.out #[.int .i64 0, .bool false, .slice none 0 0, .bool false, .slice none 0 0, .string ⟨#[]⟩, .int .i64 0]
        exact bodyPost_ret (results_cell_tmp (t := 6) (u := 7) rfl stVal rfl hs.1 rfl) rfl (binP_no HOK.out ⟨_, _, rfl, RowOf.nil _ _, RowOf.nil _ _⟩ (hs.2.2 _ _ (by omega) hb13))
  have hn7 : (op == 7) = false := by simpa using ho7
  by_cases ho9 : op = 9
  · subst ho9
    by_cases hy : Y = 0
    · have HOK := Lib.hid (show false = binOk true true 9 X Y by unfold binOk; simp [hy])
      subst hy
      go_wp2_with (refine wpL_store (cells := #[.int .i64 0, .bool false, .slice none 0 0, .bool false, .slice none 0 0, .string ⟨#[]⟩, .int .i64 0]) stVal H3.out (by rfl) (by rfl) (by rfl) (by rfl) (by rfl) ?_)
      have hs := setRow_facts H3.out #[.int .i64 0, .bool false, .slice none 0 0, .bool false, .slice none 0 0, .string ⟨#[]⟩, .int .i64 0]
      exact bodyPost_ret (results_cell_tmp (t := 6) (u := 7) rfl stVal rfl hs.1 rfl) rfl (binP_no HOK.out ⟨_, _, rfl, RowOf.nil _ _, RowOf.nil _ _⟩ (hs.2.2 _ _ (by omega) hb13))
    · have hy1 : (Y == 0) = false := by simpa using hy
      have hy2 : (Y != 0) = true := by simpa using hy
      have HOK := Lib.hid (show true = binOk true true 9 X Y by unfold binOk; simp [hy])
      have hgf := go_floor (x := X) hy
      have hdi := div_in (y := Y) hX
      have hwq := wrap_in (z := Int.tdiv X Y) (by omega)
      have HY := Lib.hid hy
      go_upto_region 12 with fail
      go_quiet (fail)
      generalize hq : Int.tdiv X Y = q at *
      generalize hrr : Int.tmod X Y = r at *
      clear hq hrr hwq
      by_cases hadj : r ≠ 0 ∧ ((r < 0) ≠ (Y < 0))
      · rw [if_pos hadj, if_pos hadj] at hgf
        have hr0 : (r != 0) = true := by simpa using hadj.1
        have hw1 := wrap_in (z := q - 1) (by omega)
        have hw2 := wrap_in (z := r + Y) (by omega)
        have HZ := Lib.hid (show q - 1 = binZ 9 X Y by unfold binZ; simp; exact hgf.1)
        have HH := Lib.hid (fun W => HeapInt_any (q - 1) W (by omega) (by omega))
        by_cases hrn : r < 0
        · have hyn : ¬ (Y < 0) := fun h => hadj.2 (by simp [hrn, h])
          clear hadj hgf hdi
          go_wp2_with fail
          refine (HH.out _).mono ?_
          rintro e w4 ⟨v4, rfl, hV, hb4⟩
          have hb34 : Below w.heap.size w w4 := (below_drewN' hb13 _).trans (hb4.mono (by have := hb13.size; simpa using this))
          replace H3 := Lib.hid ((hb4.block _ (by have := box_lt H3.out; simpa using this)).trans (by simpa using H3.out))
          have HSV := Lib.hid hV
          obtain ⟨cs, rfl, hlen, hone⟩ := vlAt_cells hV
          clear hV HH
          go_wp2_with (refine wpL_store (cells := cs.toArray) stVal H3.out (by rfl) (by simpa using hlen) (by simpa using hone) (by rfl) (by rfl) ?_)
          have hs := setRow_facts H3.out cs.toArray
          exact bodyPost_ret (results_cell_tmp (t := 6) (u := 7) rfl stVal rfl hs.1 (by simpa using hlen)) rfl (binP_yes HOK.out HZ.out (VlAt.other HSV.out H3.out noU_zeroV hs.2.1) (hs.2.2 _ _ (by omega) hb34))
        · have hyn : Y < 0 := Decidable.byContradiction fun h => hadj.2 (by simp [hrn, h])
          clear hadj hgf hdi
          go_wp2_with fail
          refine (HH.out _).mono ?_
          rintro e w4 ⟨v4, rfl, hV, hb4⟩
          have hb34 : Below w.heap.size w w4 := (below_drewN' hb13 _).trans (hb4.mono (by have := hb13.size; simpa using this))
          replace H3 := Lib.hid ((hb4.block _ (by have := box_lt H3.out; simpa using this)).trans (by simpa using H3.out))
          have HSV := Lib.hid hV
          obtain ⟨cs, rfl, hlen, hone⟩ := vlAt_cells hV
          clear hV HH
          go_wp2_with (refine wpL_store (cells := cs.toArray) stVal H3.out (by rfl) (by simpa using hlen) (by simpa using hone) (by rfl) (by rfl) ?_)
          have hs := setRow_facts H3.out cs.toArray
          exact bodyPost_ret (results_cell_tmp (t := 6) (u := 7) rfl stVal rfl hs.1 (by simpa using hlen)) rfl (binP_yes HOK.out HZ.out (VlAt.other HSV.out H3.out noU_zeroV hs.2.1) (hs.2.2 _ _ (by omega) hb34))
      · rw [if_neg hadj, if_neg hadj] at hgf
        have HZ := Lib.hid (show q = binZ 9 X Y by unfold binZ; simp; exact hgf.1)
        have HH := Lib.hid (fun W => HeapInt_any (q) W (by omega) (by omega))
        by_cases hr0 : r = 0
        · subst hr0
          clear hadj hgf hdi
          go_wp2_with fail
          refine (HH.out _).mono ?_
          rintro e w4 ⟨v4, rfl, hV, hb4⟩
          have hb34 : Below w.heap.size w w4 := (below_drewN' hb13 _).trans (hb4.mono (by have := hb13.size; simpa using this))
          replace H3 := Lib.hid ((hb4.block _ (by have := box_lt H3.out; simpa using this)).trans (by simpa using H3.out))
          have HSV := Lib.hid hV
          obtain ⟨cs, rfl, hlen, hone⟩ := vlAt_cells hV
          clear hV HH
          go_wp2_with (refine wpL_store (cells := cs.toArray) stVal H3.out (by rfl) (by simpa using hlen) (by simpa using hone) (by rfl) (by rfl) ?_)
          have hs := setRow_facts H3.out cs.toArray
          exact bodyPost_ret (results_cell_tmp (t := 6) (u := 7) rfl stVal rfl hs.1 (by simpa using hlen)) rfl (binP_yes HOK.out HZ.out (VlAt.other HSV.out H3.out noU_zeroV hs.2.1) (hs.2.2 _ _ (by omega) hb34))
        · have hr0' : (r != 0) = true := by simpa using hr0
          by_cases hrn : r < 0
          · have hyn : Y < 0 := Decidable.byContradiction fun h => hadj ⟨hr0, by simp [hrn, h]⟩
            clear hadj hgf hdi hr0
            go_wp2_with fail
            refine (HH.out _).mono ?_
            rintro e w4 ⟨v4, rfl, hV, hb4⟩
            have hb34 : Below w.heap.size w w4 := (below_drewN' hb13 _).trans (hb4.mono (by have := hb13.size; simpa using this))
            replace H3 := Lib.hid ((hb4.block _ (by have := box_lt H3.out; simpa using this)).trans (by simpa using H3.out))
            have HSV := Lib.hid hV
            obtain ⟨cs, rfl, hlen, hone⟩ := vlAt_cells hV
            clear hV HH
            go_wp2_with (refine wpL_store (cells := cs.toArray) stVal H3.out (by rfl) (by simpa using hlen) (by simpa using hone) (by rfl) (by rfl) ?_)
            have hs := setRow_facts H3.out cs.toArray
            exact bodyPost_ret (results_cell_tmp (t := 6) (u := 7) rfl stVal rfl hs.1 (by simpa using hlen)) rfl (binP_yes HOK.out HZ.out (VlAt.other HSV.out H3.out noU_zeroV hs.2.1) (hs.2.2 _ _ (by omega) hb34))
          · have hyn : ¬ (Y < 0) := fun h => hadj ⟨hr0, by simp [hrn, h]⟩
            clear hadj hgf hdi hr0
            go_wp2_with fail
            refine (HH.out _).mono ?_
            rintro e w4 ⟨v4, rfl, hV, hb4⟩
            have hb34 : Below w.heap.size w w4 := (below_drewN' hb13 _).trans (hb4.mono (by have := hb13.size; simpa using this))
            replace H3 := Lib.hid ((hb4.block _ (by have := box_lt H3.out; simpa using this)).trans (by simpa using H3.out))
            have HSV := Lib.hid hV
            obtain ⟨cs, rfl, hlen, hone⟩ := vlAt_cells hV
            clear hV HH
            go_wp2_with (refine wpL_store (cells := cs.toArray) stVal H3.out (by rfl) (by simpa using hlen) (by simpa using hone) (by rfl) (by rfl) ?_)
            have hs := setRow_facts H3.out cs.toArray
            exact bodyPost_ret (results_cell_tmp (t := 6) (u := 7) rfl stVal rfl hs.1 (by simpa using hlen)) rfl (binP_yes HOK.out HZ.out (VlAt.other HSV.out H3.out noU_zeroV hs.2.1) (hs.2.2 _ _ (by omega) hb34))
  have hn9 : (op == 9) = false := by simpa using ho9
  by_cases ho10 : op = 10
  · subst ho10
    by_cases hy : Y = 0
    · have HOK := Lib.hid (show false = binOk true true 10 X Y by unfold binOk; simp [hy])
      subst hy
      go_wp2_with (refine wpL_store (cells := #[.int .i64 0, .bool false, .slice none 0 0, .bool false, .slice none 0 0, .string ⟨#[]⟩, .int .i64 0]) stVal H3.out (by rfl) (by rfl) (by rfl) (by rfl) (by rfl) ?_)
      have hs := setRow_facts H3.out #[.int .i64 0, .bool false, .slice none 0 0, .bool false, .slice none 0 0, .string ⟨#[]⟩, .int .i64 0]
      exact bodyPost_ret (results_cell_tmp (t := 6) (u := 7) rfl stVal rfl hs.1 rfl) rfl (binP_no HOK.out ⟨_, _, rfl, RowOf.nil _ _, RowOf.nil _ _⟩ (hs.2.2 _ _ (by omega) hb13))
    · have hy1 : (Y == 0) = false := by simpa using hy
      have hy2 : (Y != 0) = true := by simpa using hy
      have HOK := Lib.hid (show true = binOk true true 10 X Y by unfold binOk; simp [hy])
      have hgf := go_floor (x := X) hy
      have hdi := div_in (y := Y) hX
      have hwq := wrap_in (z := Int.tdiv X Y) (by omega)
      have HY := Lib.hid hy
      go_upto_region 12 with fail
      go_quiet (fail)
      generalize hq : Int.tdiv X Y = q at *
      generalize hrr : Int.tmod X Y = r at *
      clear hq hrr hwq
      by_cases hadj : r ≠ 0 ∧ ((r < 0) ≠ (Y < 0))
      · rw [if_pos hadj, if_pos hadj] at hgf
        have hr0 : (r != 0) = true := by simpa using hadj.1
        have hw1 := wrap_in (z := q - 1) (by omega)
        have hw2 := wrap_in (z := r + Y) (by omega)
        have HZ := Lib.hid (show r + Y = binZ 10 X Y by unfold binZ; simp; exact hgf.2)
        have HH := Lib.hid (fun W => HeapInt_any (r + Y) W (by omega) (by omega))
        by_cases hrn : r < 0
        · have hyn : ¬ (Y < 0) := fun h => hadj.2 (by simp [hrn, h])
          clear hadj hgf hdi
          go_wp2_with fail
          refine (HH.out _).mono ?_
          rintro e w4 ⟨v4, rfl, hV, hb4⟩
          have hb34 : Below w.heap.size w w4 := (below_drewN' hb13 _).trans (hb4.mono (by have := hb13.size; simpa using this))
          replace H3 := Lib.hid ((hb4.block _ (by have := box_lt H3.out; simpa using this)).trans (by simpa using H3.out))
          have HSV := Lib.hid hV
          obtain ⟨cs, rfl, hlen, hone⟩ := vlAt_cells hV
          clear hV HH
          go_wp2_with (refine wpL_store (cells := cs.toArray) stVal H3.out (by rfl) (by simpa using hlen) (by simpa using hone) (by rfl) (by rfl) ?_)
          have hs := setRow_facts H3.out cs.toArray
          exact bodyPost_ret (results_cell_tmp (t := 6) (u := 7) rfl stVal rfl hs.1 (by simpa using hlen)) rfl (binP_yes HOK.out HZ.out (VlAt.other HSV.out H3.out noU_zeroV hs.2.1) (hs.2.2 _ _ (by omega) hb34))
        · have hyn : Y < 0 := Decidable.byContradiction fun h => hadj.2 (by simp [hrn, h])
          clear hadj hgf hdi
          go_wp2_with fail
          refine (HH.out _).mono ?_
          rintro e w4 ⟨v4, rfl, hV, hb4⟩
          have hb34 : Below w.heap.size w w4 := (below_drewN' hb13 _).trans (hb4.mono (by have := hb13.size; simpa using this))
          replace H3 := Lib.hid ((hb4.block _ (by have := box_lt H3.out; simpa using this)).trans (by simpa using H3.out))
          have HSV := Lib.hid hV
          obtain ⟨cs, rfl, hlen, hone⟩ := vlAt_cells hV
          clear hV HH
          go_wp2_with (refine wpL_store (cells := cs.toArray) stVal H3.out (by rfl) (by simpa using hlen) (by simpa using hone) (by rfl) (by rfl) ?_)
          have hs := setRow_facts H3.out cs.toArray
          exact bodyPost_ret (results_cell_tmp (t := 6) (u := 7) rfl stVal rfl hs.1 (by simpa using hlen)) rfl (binP_yes HOK.out HZ.out (VlAt.other HSV.out H3.out noU_zeroV hs.2.1) (hs.2.2 _ _ (by omega) hb34))
      · rw [if_neg hadj, if_neg hadj] at hgf
        have HZ := Lib.hid (show r = binZ 10 X Y by unfold binZ; simp; exact hgf.2)
        have HH := Lib.hid (fun W => HeapInt_any (r) W (by omega) (by omega))
        by_cases hr0 : r = 0
        · subst hr0
          clear hadj hgf hdi
          go_wp2_with fail
          refine (HH.out _).mono ?_
          rintro e w4 ⟨v4, rfl, hV, hb4⟩
          have hb34 : Below w.heap.size w w4 := (below_drewN' hb13 _).trans (hb4.mono (by have := hb13.size; simpa using this))
          replace H3 := Lib.hid ((hb4.block _ (by have := box_lt H3.out; simpa using this)).trans (by simpa using H3.out))
          have HSV := Lib.hid hV
          obtain ⟨cs, rfl, hlen, hone⟩ := vlAt_cells hV
          clear hV HH
          go_wp2_with (refine wpL_store (cells := cs.toArray) stVal H3.out (by rfl) (by simpa using hlen) (by simpa using hone) (by rfl) (by rfl) ?_)
          have hs := setRow_facts H3.out cs.toArray
          exact bodyPost_ret (results_cell_tmp (t := 6) (u := 7) rfl stVal rfl hs.1 (by simpa using hlen)) rfl (binP_yes HOK.out HZ.out (VlAt.other HSV.out H3.out noU_zeroV hs.2.1) (hs.2.2 _ _ (by omega) hb34))
        · have hr0' : (r != 0) = true := by simpa using hr0
          by_cases hrn : r < 0
          · have hyn : Y < 0 := Decidable.byContradiction fun h => hadj ⟨hr0, by simp [hrn, h]⟩
            clear hadj hgf hdi hr0
            go_wp2_with fail
            refine (HH.out _).mono ?_
            rintro e w4 ⟨v4, rfl, hV, hb4⟩
            have hb34 : Below w.heap.size w w4 := (below_drewN' hb13 _).trans (hb4.mono (by have := hb13.size; simpa using this))
            replace H3 := Lib.hid ((hb4.block _ (by have := box_lt H3.out; simpa using this)).trans (by simpa using H3.out))
            have HSV := Lib.hid hV
            obtain ⟨cs, rfl, hlen, hone⟩ := vlAt_cells hV
            clear hV HH
            go_wp2_with (refine wpL_store (cells := cs.toArray) stVal H3.out (by rfl) (by simpa using hlen) (by simpa using hone) (by rfl) (by rfl) ?_)
            have hs := setRow_facts H3.out cs.toArray
            exact bodyPost_ret (results_cell_tmp (t := 6) (u := 7) rfl stVal rfl hs.1 (by simpa using hlen)) rfl (binP_yes HOK.out HZ.out (VlAt.other HSV.out H3.out noU_zeroV hs.2.1) (hs.2.2 _ _ (by omega) hb34))
          · have hyn : ¬ (Y < 0) := fun h => hadj ⟨hr0, by simp [hrn, h]⟩
            clear hadj hgf hdi hr0
            go_wp2_with fail
            refine (HH.out _).mono ?_
            rintro e w4 ⟨v4, rfl, hV, hb4⟩
            have hb34 : Below w.heap.size w w4 := (below_drewN' hb13 _).trans (hb4.mono (by have := hb13.size; simpa using this))
            replace H3 := Lib.hid ((hb4.block _ (by have := box_lt H3.out; simpa using this)).trans (by simpa using H3.out))
            have HSV := Lib.hid hV
            obtain ⟨cs, rfl, hlen, hone⟩ := vlAt_cells hV
            clear hV HH
            go_wp2_with (refine wpL_store (cells := cs.toArray) stVal H3.out (by rfl) (by simpa using hlen) (by simpa using hone) (by rfl) (by rfl) ?_)
            have hs := setRow_facts H3.out cs.toArray
            exact bodyPost_ret (results_cell_tmp (t := 6) (u := 7) rfl stVal rfl hs.1 (by simpa using hlen)) rfl (binP_yes HOK.out HZ.out (VlAt.other HSV.out H3.out noU_zeroV hs.2.1) (hs.2.2 _ _ (by omega) hb34))
  have hn10 : (op == 10) = false := by simpa using ho10
  have HOK := Lib.hid (show false = binOk true true op X Y by unfold binOk; simp [ho5, ho6, ho7, ho9, ho10])
  clear ho5 ho6 ho7 ho9 ho10
  go_wp2_with (refine wpL_store (cells := #[.int .i64 0, .bool false, .slice none 0 0, .bool false, .slice none 0 0, .string ⟨#[]⟩, .int .i64 0]) stVal H3.out (by rfl) (by rfl) (by rfl) (by rfl) (by rfl) ?_)
  have hs := setRow_facts H3.out #[.int .i64 0, .bool false, .slice none 0 0, .bool false, .slice none 0 0, .string ⟨#[]⟩, .int .i64 0]
  exact bodyPost_ret (results_cell_tmp (t := 6) (u := 7) rfl stVal rfl hs.1 rfl) rfl (binP_no HOK.out ⟨_, _, rfl, RowOf.nil _ _, RowOf.nil _ _⟩ (hs.2.2 _ _ (by omega) hb13))

end Go.Proofs.YtpmadgmjkljbgaaDoor
