/- Part 24 of the proof. -/
import Derived.Test.YtpmadgmjkljbgaaDoorM20
import Derived.Test.YtpmadgmjkljbgaaDoorM22
import Derived.Test.YtpmadgmjkljbgaaDoorM23
import Derived.Test.YtpmadgmjkljbgaaDoorM19
import Derived.Test.YtpmadgmjkljbgaaDoorM15
import Derived.Test.YtpmadgmjkljbgaaDoorM14

/- What Arithmetic gives where the small operations are defined: plain laws. -/
namespace Go.Proofs.YtpmadgmjkljbgaaDoor
open Go.RowKit

theorem lowZ_le (z : Int) (d : Nat) : (lowZ z d).natAbs ≤ z.natAbs := Int.natAbs_ediv_le_natAbs _ _
theorem lowD_le (z : Int) (d : Nat) : lowD z d ≤ d := Nat.div_le_self _ _
theorem low_dig {z : Int} {d k : Nat} (h : (dig z.natAbs).length ≤ k) : (dig (lowZ z d).natAbs).length ≤ k := dig_len_of_le (lowZ_le z d) h
theorem lowd_dig {z : Int} {d k : Nat} (h : (dig d).length ≤ k) : (dig (lowD z d)).length ≤ k := dig_len_of_le (lowD_le z d) h
theorem VL_last {l : List Nat} (h : 0 < l.length) (hl : l.getD (l.length - 1) 0 ≠ 0) : 0 < VL l := by
  have h1 : l.length - 1 < l.length := by omega
  have := L_take_succ h1
  rw [show l.length - 1 + 1 = l.length by omega, List.take_length] at this
  rw [this]
  have e : l.getD (l.length - 1) 0 = l[l.length - 1] := by rw [List.getD_eq_getElem?_getD, List.getElem?_eq_getElem h1]; rfl
  rw [e] at hl
  have := Nat.mul_pos (Nat.pow_pos (n := l.length - 1) (show 0 < 4294967296 by decide)) (Nat.pos_of_ne_zero hl)
  omega
theorem intOk_last {b : Bool} {l : List Nat} (h : intOk b l = true) (h0 : 0 < l.length) : 0 < VL l := by
  unfold intOk at h
  simp only [Bool.and_eq_true, Bool.or_eq_true, decide_eq_true_eq] at h
  rcases h.2 with h2 | h2
  · omega
  · exact VL_last h0 h2.2
theorem dig_one_le : (dig 1).length ≤ 1000 := by rw [dig_pos (by omega)]; simp [dig_zero]
theorem numZD_good {x : Vl} (hv : VGood x) (gl : Lg x.nl) (gd : Lg x.dl) (hn : (decide (x.k = 2) || decide (x.k = 3)) = true) :
    (dig (numZD x).1.natAbs).length ≤ 1000 ∧ 0 < (numZD x).2 ∧ (dig (numZD x).2).length ≤ 1000 := by
  rw [Bool.or_eq_true, decide_eq_true_eq, decide_eq_true_eq] at hn
  unfold numZD
  by_cases h3 : x.k = 3
  · obtain ⟨k1, k2, k3, -⟩ := hv.2 h3
    rw [if_pos h3, ZI_abs]
    exact ⟨Nat.le_trans (intOk_dig gl k1) (by omega), intOk_last k2 k3, Nat.le_trans (intOk_dig gd k2) (by omega)⟩
  · have k1 := hv.1 (by omega)
    rw [if_neg h3, ZI_abs]
    exact ⟨Nat.le_trans (intOk_dig gl k1) (by omega), by omega, dig_one_le⟩
theorem numI_good {x : Vl} (hv : VGood x) (gl : Lg x.nl) (h2 : x.k = 2) : (dig (ZI x.nn (VL x.nl)).natAbs).length ≤ 1000 := by
  rw [ZI_abs]; exact Nat.le_trans (intOk_dig gl (hv.1 h2)) (by omega)

theorem num_small {z : Int} (h : z.natAbs < 79228162514264337593543950336) : numVl z 1 = valZ z := by
  have h1 : (dig z.natAbs).length ≤ 6 := dig_length_le (Nat.lt_of_lt_of_le h (by decide))
  have h2 : (dig 1).length ≤ 6 := dig_length_le (by decide)
  have hf : ratFits z 1 = true := by
    unfold ratFits
    rw [Bool.and_eq_true, decide_eq_true_eq, decide_eq_true_eq]
    exact ⟨by omega, by omega⟩
  unfold numVl valQ
  rw [hf, if_pos rfl, if_pos rfl]
theorem small_num {x : Vl} (h : smallV x = true) : numZD x = (smallZ x, 1) := by
  rw [smallZ_eq h]
  unfold numZD
  unfold smallV at h
  rw [Bool.and_eq_true, decide_eq_true_eq, decide_eq_true_eq] at h
  rw [if_neg (by omega)]
/-- What Arithmetic is held to. -/
def ArP (op : Int) (x1 x2 : Vl) (w : World) (e : Ending) (w' : World) : Prop :=
  ∃ s x b, e = .returned (.tuple #[s, .bool b]) ∧ StepOf w' s x ∧ (binOk (smallV x1) (smallV x2) op (smallZ x1) (smallZ x2) = true → x = valZ (binZ op (smallZ x1) (smallZ x2))) ∧ Below w.heap.size w w'
theorem binOk_small {P1 P2 : Bool} {op X Y : Int} (h : binOk P1 P2 op X Y = true) : P1 = true ∧ P2 = true := by
  unfold binOk at h
  rw [Bool.and_eq_true, Bool.and_eq_true] at h
  exact h.1
theorem binOk_div {P1 P2 : Bool} {op X Y : Int} (h : binOk P1 P2 op X Y = true) (ho : op = 9 ∨ op = 10) : Y ≠ 0 := by
  unfold binOk at h
  rw [Bool.and_eq_true] at h
  intro hy
  rcases ho with rfl | rfl <;> simp [hy] at h
theorem binOk_no {P1 P2 : Bool} {op X Y : Int} (ho : op = 8 ∨ 11 ≤ op) : ¬ binOk P1 P2 op X Y = true := by
  intro h
  unfold binOk at h
  rw [Bool.and_eq_true] at h
  simp only [Bool.or_eq_true, Bool.and_eq_true, decide_eq_true_eq] at h
  omega
theorem law5 {x1 x2 : Vl} (g1 : Lg x1.nl) (g2 : Lg x2.nl) (h : binOk (smallV x1) (smallV x2) 5 (smallZ x1) (smallZ x2) = true) :
    numVl (lowZ ((numZD x1).1 * (numZD x2).2 + (numZD x2).1 * (numZD x1).2) ((numZD x1).2 * (numZD x2).2)) (lowD ((numZD x1).1 * (numZD x2).2 + (numZD x2).1 * (numZD x1).2) ((numZD x1).2 * (numZD x2).2)) = valZ (binZ 5 (smallZ x1) (smallZ x2)) := by
  obtain ⟨h1, h2⟩ := binOk_small h
  rw [small_num h1, small_num h2]
  have i1 := smallZ_in g1
  have i2 := smallZ_in g2
  generalize smallZ x1 = X at *
  generalize smallZ x2 = Y at *
  simp only [Int.natCast_one, Int.mul_one, Nat.mul_one, lowZ_one, lowD_one]
  rw [num_small (by omega)]
  rfl
theorem law6 {x1 x2 : Vl} (g1 : Lg x1.nl) (g2 : Lg x2.nl) (h : binOk (smallV x1) (smallV x2) 6 (smallZ x1) (smallZ x2) = true) :
    numVl (lowZ ((numZD x1).1 * (numZD x2).2 + (-(numZD x2).1) * (numZD x1).2) ((numZD x1).2 * (numZD x2).2)) (lowD ((numZD x1).1 * (numZD x2).2 + (-(numZD x2).1) * (numZD x1).2) ((numZD x1).2 * (numZD x2).2)) = valZ (binZ 6 (smallZ x1) (smallZ x2)) := by
  obtain ⟨h1, h2⟩ := binOk_small h
  rw [small_num h1, small_num h2]
  have i1 := smallZ_in g1
  have i2 := smallZ_in g2
  generalize smallZ x1 = X at *
  generalize smallZ x2 = Y at *
  simp only [Int.natCast_one, Int.mul_one, Nat.mul_one, lowZ_one, lowD_one]
  rw [num_small (by omega), ← Int.sub_eq_add_neg]
  rfl
theorem mul_abs {X Y : Int} {a b : Nat} (h1 : X.natAbs ≤ a) (h2 : Y.natAbs ≤ b) : (X * Y).natAbs ≤ a * b := by rw [Int.natAbs_mul]; exact Nat.mul_le_mul h1 h2
theorem law7 {x1 x2 : Vl} (g1 : Lg x1.nl) (g2 : Lg x2.nl) (h : binOk (smallV x1) (smallV x2) 7 (smallZ x1) (smallZ x2) = true) :
    numVl (lowZ ((numZD x1).1 * (numZD x2).1) ((numZD x1).2 * (numZD x2).2)) (lowD ((numZD x1).1 * (numZD x2).1) ((numZD x1).2 * (numZD x2).2)) = valZ (binZ 7 (smallZ x1) (smallZ x2)) := by
  obtain ⟨h1, h2⟩ := binOk_small h
  rw [small_num h1, small_num h2]
  have i1 := smallZ_in g1
  have i2 := smallZ_in g2
  generalize smallZ x1 = X at *
  generalize smallZ x2 = Y at *
  simp only [Nat.mul_one, lowZ_one, lowD_one]
  have := mul_abs (show X.natAbs ≤ 4294967295 by omega) (show Y.natAbs ≤ 4294967295 by omega)
  rw [num_small (by omega)]
  rfl
/-- The quotient's floor, as Arithmetic comes to it. -/
def flZ (a b : Int × Nat) : Int := Int.fdiv (lowZ (a.1 * turnZ b.1 b.2) (a.2 * b.1.natAbs)) (lowD (a.1 * turnZ b.1 b.2) (a.2 * b.1.natAbs))
theorem flZ_small {X Y : Int} (hy : Y ≠ 0) : flZ (X, 1) (Y, 1) = Int.fdiv X Y := by
  unfold flZ
  simp only [Nat.one_mul]
  have hp : 0 < Y.natAbs := by omega
  rw [Int.fdiv_eq_ediv_of_nonneg _ (by omega), low_floor hp, ← floor_turned hy]
  unfold turnZ
  rfl
theorem fdiv_abs {X Y : Int} (hy : Y ≠ 0) : (Int.fdiv X Y).natAbs ≤ X.natAbs := by
  rw [← floor_turned hy]
  refine Nat.le_trans (Int.natAbs_ediv_le_natAbs _ _) ?_
  rw [Int.natAbs_mul]
  split <;> simp
theorem law9 {x1 x2 : Vl} (g1 : Lg x1.nl) (h : binOk (smallV x1) (smallV x2) 9 (smallZ x1) (smallZ x2) = true) : numVl (flZ (numZD x1) (numZD x2)) 1 = valZ (binZ 9 (smallZ x1) (smallZ x2)) := by
  obtain ⟨h1, h2⟩ := binOk_small h
  have hy := binOk_div h (.inl rfl)
  rw [small_num h1, small_num h2, flZ_small hy]
  have i1 := smallZ_in g1
  have := fdiv_abs (X := smallZ x1) hy
  rw [num_small (by omega)]
  rfl
theorem law10 {x1 x2 : Vl} (g1 : Lg x1.nl) (g2 : Lg x2.nl) (h : binOk (smallV x1) (smallV x2) 10 (smallZ x1) (smallZ x2) = true) (Z : Int) (D : Nat) (hZ : Z = lowZ (flZ (numZD x1) (numZD x2) * (numZD x2).1) (1 * (numZD x2).2)) (hD : D = lowD (flZ (numZD x1) (numZD x2) * (numZD x2).1) (1 * (numZD x2).2)) :
    numVl (lowZ ((numZD x1).1 * D + (-Z) * (numZD x1).2) ((numZD x1).2 * D)) (lowD ((numZD x1).1 * D + (-Z) * (numZD x1).2) ((numZD x1).2 * D)) = valZ (binZ 10 (smallZ x1) (smallZ x2)) := by
  obtain ⟨h1, h2⟩ := binOk_small h
  have hy := binOk_div h (.inr rfl)
  rw [small_num h1, small_num h2] at hZ hD
  rw [small_num h1]
  rw [flZ_small hy] at hZ hD
  have i1 := smallZ_in g1
  have i2 := smallZ_in g2
  have hq := fdiv_abs (X := smallZ x1) hy
  generalize smallZ x1 = X at *
  generalize smallZ x2 = Y at *
  simp only [Nat.mul_one, lowZ_one, lowD_one] at hZ hD
  subst hZ hD
  simp only [Int.natCast_one, Int.mul_one, Nat.mul_one, lowZ_one, lowD_one]
  have := mul_abs (show (Int.fdiv X Y).natAbs ≤ 4294967295 by omega) (show Y.natAbs ≤ 4294967295 by omega)
  rw [num_small (by omega), ← Int.sub_eq_add_neg]
  rfl
end Go.Proofs.YtpmadgmjkljbgaaDoor

/- Arithmetic: what its walks share. Number, held to its denominator's length only where it has one. -/
namespace Go.Proofs.YtpmadgmjkljbgaaDoor
open Go.RowKit

def isN (x : Vl) : Bool := decide (x.k = 2) || decide (x.k = 3)
def ArQ (ok : Bool) (z : Vl) (w : World) (e : Ending) (w' : World) : Prop :=
  ∃ s x b, e = .returned (.tuple #[s, .bool b]) ∧ StepOf w' s x ∧ (ok = true → x = z) ∧ Below w.heap.size w w'
theorem isN_small {x : Vl} (h : smallV x = true) : isN x = true := by
  unfold smallV at h
  unfold isN
  rw [Bool.and_eq_true] at h
  rw [h.1]; rfl
theorem binOk_isN {x1 x2 : Vl} {op X Y : Int} (h : binOk (smallV x1) (smallV x2) op X Y = true) : isN x1 = true ∧ isN x2 = true := ⟨isN_small (binOk_small h).1, isN_small (binOk_small h).2⟩
theorem zero_step (W : World) : StepOf W (.agg #[.int .i64 0, .int .i64 0, .bool false, .slice none 0 0, .bool false, .slice none 0 0, .string ⟨#[]⟩, .int .i64 0, .int .i64 0, .string ⟨#[]⟩, .int .i64 0, .bool false, .slice none 0 0, .bool false, .slice none 0 0, .string ⟨#[]⟩, .int .i64 0, .slice none 0 0]) zeroVl := ⟨0, 0, ⟨#[]⟩, .slice none 0 0, .slice none 0 0, 0, false, none, 0, 0, false, none, 0, 0, ⟨#[]⟩, 0, none, 0, 0, rfl, RowOf.nil _ _, RowOf.nil _ _⟩
theorem raise_step (W : World) (txt : ByteArray) (c : Int) : StepOf W (.agg #[.int .i64 1, .int .i64 0, .bool false, .slice none 0 0, .bool false, .slice none 0 0, .string ⟨#[]⟩, .int .i64 0, .int .i64 c, .string txt, .int .i64 0, .bool false, .slice none 0 0, .bool false, .slice none 0 0, .string ⟨#[]⟩, .int .i64 0, .slice none 0 0]) zeroVl := tooLarge_step W txt c
theorem goodL {x : Vl} (hv : VGood x) (hn : isN x = true) : x.nl.length ≤ 100000 ∧ (x.k = 3 → x.dl.length ≤ 100000) := by
  unfold isN at hn
  rw [Bool.or_eq_true, decide_eq_true_eq, decide_eq_true_eq] at hn
  have hl : ∀ {b l}, intOk b l = true → l.length ≤ 100000 := by
    intro b l h
    unfold intOk at h
    rw [Bool.and_eq_true, decide_eq_true_eq] at h
    omega
  refine ⟨?_, fun h3 => hl (hv.2 h3).2.1⟩
  rcases hn with h | h
  · exact hl (hv.1 h)
  · exact hl (hv.2 h).1
theorem plus_dig {z1 z2 : Int} {d1 d2 k : Nat} (a1 : (dig z1.natAbs).length ≤ k) (a2 : (dig z2.natAbs).length ≤ k) (b1 : (dig d1).length ≤ k) (b2 : (dig d2).length ≤ k) : (dig (z1 * d2 + z2 * d1).natAbs).length ≤ 2 * k + 1 := by
  refine Nat.le_trans (dig_len_mono (Int.natAbs_add_le _ _)) (dig_add ?_ ?_)
  · rw [Int.natAbs_mul, dig_natCast]; exact Nat.le_trans (dig_mul a1 b2) (by omega)
  · rw [Int.natAbs_mul, dig_natCast]; exact Nat.le_trans (dig_mul a2 b1) (by omega)
theorem times_dig {z1 z2 : Int} {k j : Nat} (a1 : (dig z1.natAbs).length ≤ k) (a2 : (dig z2.natAbs).length ≤ j) : (dig (z1 * z2).natAbs).length ≤ k + j := by rw [Int.natAbs_mul]; exact dig_mul a1 a2
theorem neg_dig {z : Int} {k : Nat} (a : (dig z.natAbs).length ≤ k) : (dig (-z).natAbs).length ≤ k := by rw [Int.natAbs_neg]; exact a
theorem numZD_ne {x1 x2 : Vl} {op : Int} (ho : op = 9 ∨ op = 10) (h : binOk (smallV x1) (smallV x2) op (smallZ x1) (smallZ x2) = true) : (numZD x2).1 ≠ 0 := by
  rw [small_num (binOk_small h).2]; exact binOk_div h ho
set_option maxRecDepth 100000 in
set_option maxHeartbeats 2000000 in
theorem NumberW_any (v : Value) (x : Vl) (w : World) (hv : VlAt w v x) (hg : Lg x.nl) (hgd : Lg x.dl) (hn : x.nl.length ≤ 100000) (hnd : x.k = 3 → x.dl.length ≤ 100000) :
    Calls Tryd.prog 11 #[v] w fun e w' => ∃ v', e = .returned v' ∧ RatAt w' v' (numZD x).1 (numZD x).2 ∧ Below w.heap.size w w' := by
  obtain ⟨k, nn, nl, dn, dl, s, r⟩ := x
  obtain ⟨a, b, rfl, hx1, hx2⟩ := hv
  have HI := Lib.hid (fun W (h : Below w.heap.size w W) => IntOf_any nn a nl W (hx1.below h) hg hn)
  have HR := Lib.hid (fun (hk : k = 3) W (h : Below w.heap.size w W) => RatioOf_any nn dn a b nl dl W (hx1.below h) (hx2.below h) hg hgd hn (hnd hk))
  clear hg hn hgd hnd
  obtain ⟨a1, c1, rfl, -⟩ := hx1
  obtain ⟨a2, c2, rfl, -⟩ := hx2
  simp only at *
  generalize hm1 : nl.length = m1 at *
  generalize hm2 : dl.length = m2 at *
  clear hm1 hm2
  have hal := alloc2 w (.cells #[.int .i64 k, .bool nn, .slice a1 m1 c1, .bool dn, .slice a2 m2 c2, .string s, .int .i64 r] 26) (.cells #[.bool false, .slice none 0 0, .slice none 0 0] 43)
  go_enter Tryd.func11, Tryd.ntmps11
  go_upto_region 1 with fail
  generalize ((w.alloc (.cells #[.int .i64 k, .bool nn, .slice a1 m1 c1, .bool dn, .slice a2 m2 c2, .string s, .int .i64 r] 26)).alloc (.cells #[.bool false, .slice none 0 0, .slice none 0 0] 43)) = w1 at *
  obtain ⟨hb1, h1, h2⟩ := hal
  have d0 := box_cell h1 0
  have d1 := box_cell h1 1
  have d2 := box_cell h1 2
  have d3 := box_cell h1 3
  have d4 := box_cell h1 4
  simp only [List.getElem?_toArray, List.getElem?_cons_zero, List.getElem?_cons_succ] at d0 d1 d2 d3 d4
  by_cases hk : k = 3
  · subst hk
    go_wp2_with fail
    refine (HR.out trivial w1 hb1).mono ?_
    rintro e w2 ⟨v6, rfl, hS, hb2⟩
    replace h2 := (hb2.block _ (box_lt h2)).trans h2
    have hnz : numZD ⟨3, nn, nl, dn, dl, s, r⟩ = (ZI nn (VL nl), VL dl) := rfl
    replace hS : RatAt w2 v6 (numZD ⟨3, nn, nl, dn, dl, s, r⟩).1 (numZD ⟨3, nn, nl, dn, dl, s, r⟩).2 := by rw [hnz]; exact hS
    have HSV := Lib.hid hS
    obtain ⟨cs, rfl, hlen, hone⟩ := ratAt_cells hS
    clear hS
    go_wp2_with (refine wpL_store (cells := cs.toArray) stRat h2 (by rfl) (by simpa using hlen) (by simpa using hone) (by rfl) (by rfl) ?_)
    have hs := setRow_facts h2 cs.toArray
    exact bodyPost_ret (results_cell rfl stRat rfl hs.1 (by simpa using hlen)) rfl ⟨_, rfl, ratAt_other HSV.out h2 noInt_zeroR hs.2.1, hs.2.2 _ _ (Nat.le_succ _) (ext_trans hb1 hb2)⟩
  · have hk3 : (k == 3) = false := by simpa using hk
    have hnz : numZD ⟨k, nn, nl, dn, dl, s, r⟩ = (ZI nn (VL nl), 1) := by unfold numZD; rw [if_neg hk]
    have HNZ := Lib.hid hnz
    clear hk hnz
    go_wp2_with fail
    refine (HI.out w1 hb1).mono ?_
    rintro e w2 ⟨v5, rfl, hI, hb2⟩
    replace h2 := (hb2.block _ (box_lt h2)).trans h2
    have HW := Lib.hid (Whole_any v5 _ w2 hI)
    clear hI
    go_wp2_with fail
    refine HW.out.mono ?_
    rintro e w3 ⟨v6, rfl, hS, hb3⟩
    replace h2 := (hb3.block _ (box_lt h2)).trans h2
    replace hS : RatAt w3 v6 (numZD ⟨k, nn, nl, dn, dl, s, r⟩).1 (numZD ⟨k, nn, nl, dn, dl, s, r⟩).2 := by rw [HNZ.out]; exact hS
    have HSV := Lib.hid hS
    obtain ⟨cs, rfl, hlen, hone⟩ := ratAt_cells hS
    clear hS
    go_wp2_with (refine wpL_store (cells := cs.toArray) stRat h2 (by rfl) (by simpa using hlen) (by simpa using hone) (by rfl) (by rfl) ?_)
    have hs := setRow_facts h2 cs.toArray
    exact bodyPost_ret (results_cell rfl stRat rfl hs.1 (by simpa using hlen)) rfl ⟨_, rfl, ratAt_other HSV.out h2 noInt_zeroR hs.2.1, hs.2.2 _ _ (Nat.le_succ _) (ext_trans hb1 (ext_trans hb2 hb3))⟩

set_option maxRecDepth 100000 in
set_option maxHeartbeats 2000000 in
theorem Arith_no (op : Int) (v1 v2 : Value) (x1 x2 : Vl) (w : World) (hv1 : VlAt w v1 x1) (hv2 : VlAt w v2 x2) (hno : (isN x1 && isN x2) = false) :
    Calls Tryd.prog 9 #[.int .i64 op, v1, v2] w fun e w' => ArQ (binOk (smallV x1) (smallV x2) op (smallZ x1) (smallZ x2)) (valZ (binZ op (smallZ x1) (smallZ x2))) w e w' := by
  have HNO := Lib.hid (show ¬ binOk (smallV x1) (smallV x2) op (smallZ x1) (smallZ x2) = true from fun h => by rw [(binOk_isN h).1, (binOk_isN h).2] at hno; cases hno)
  generalize binOk (smallV x1) (smallV x2) op (smallZ x1) (smallZ x2) = ok at *
  generalize valZ (binZ op (smallZ x1) (smallZ x2)) = zz at *
  have HK1 := Lib.hid (fun W (h : Below w.heap.size w W) => IsNumber_any v1 x1 W (hv1.below h))
  have HK2 := Lib.hid (fun W (h : Below w.heap.size w W) => IsNumber_any v2 x2 W (hv2.below h))
  unfold isN at hno
  generalize (decide (x1.k = 2) || decide (x1.k = 3)) = K1 at *
  generalize (decide (x2.k = 2) || decide (x2.k = 3)) = K2 at *
  obtain ⟨k1, nn1, nl1, dn1, dl1, s1, i1⟩ := x1
  obtain ⟨av1, bv1, rfl, hx1, hy1⟩ := hv1
  replace hx1 : RowU w av1 nl1 := hx1
  replace hy1 : RowU w bv1 dl1 := hy1
  obtain ⟨a1, c1, rfl, -⟩ := hx1
  obtain ⟨p1, r1, rfl, -⟩ := hy1
  obtain ⟨k2, nn2, nl2, dn2, dl2, s2, i2⟩ := x2
  obtain ⟨av2, bv2, rfl, hx2, hy2⟩ := hv2
  replace hx2 : RowU w av2 nl2 := hx2
  replace hy2 : RowU w bv2 dl2 := hy2
  obtain ⟨a2, c2, rfl, -⟩ := hx2
  obtain ⟨p2, r2, rfl, -⟩ := hy2
  generalize nl1.length = m1 at *
  generalize nl2.length = m2 at *
  generalize dl1.length = q1 at *
  generalize dl2.length = q2 at *
  have hal := alloc3 w (.cells #[.int .i64 k1, .bool nn1, .slice a1 m1 c1, .bool dn1, .slice p1 q1 r1, .string s1, .int .i64 i1] 26) (.cells #[.int .i64 k2, .bool nn2, .slice a2 m2 c2, .bool dn2, .slice p2 q2 r2, .string s2, .int .i64 i2] 26) (.cells #[.int .i64 0, .int .i64 0, .bool false, .slice none 0 0, .bool false, .slice none 0 0, .string ⟨#[]⟩, .int .i64 0, .int .i64 0, .string ⟨#[]⟩, .int .i64 0, .bool false, .slice none 0 0, .bool false, .slice none 0 0, .string ⟨#[]⟩, .int .i64 0, .slice none 0 0] 33)
  go_enter Tryd.func9, Tryd.ntmps9
  go_upto_region 1 with fail
  generalize (((w.alloc (.cells #[.int .i64 k1, .bool nn1, .slice a1 m1 c1, .bool dn1, .slice p1 q1 r1, .string s1, .int .i64 i1] 26)).alloc (.cells #[.int .i64 k2, .bool nn2, .slice a2 m2 c2, .bool dn2, .slice p2 q2 r2, .string s2, .int .i64 i2] 26)).alloc (.cells #[.int .i64 0, .int .i64 0, .bool false, .slice none 0 0, .bool false, .slice none 0 0, .string ⟨#[]⟩, .int .i64 0, .int .i64 0, .string ⟨#[]⟩, .int .i64 0, .bool false, .slice none 0 0, .bool false, .slice none 0 0, .string ⟨#[]⟩, .int .i64 0, .slice none 0 0] 33)) = w1 at *
  obtain ⟨hb1, h1, h2, h3⟩ := hal
  refine wp_region_lit ?_
  refine wpL_load stVal h1 (by rfl) (by rfl) ?_
  go_wp2_with fail
  refine (HK1.out w1 hb1).mono ?_
  rintro e w2 ⟨rfl, hb2⟩
  replace h1 := (hb2.block _ (box_lt h1)).trans h1
  replace h2 := (hb2.block _ (box_lt h2)).trans h2
  replace h3 := (hb2.block _ (box_lt h3)).trans h3
  have hb12 := ext_trans hb1 hb2
  cases K1
  · clear hno
    go_wp2_with (refine wpL_store (cells := #[.int .i64 0, .int .i64 0, .bool false, .slice none 0 0, .bool false, .slice none 0 0, .string ⟨#[]⟩, .int .i64 0, .int .i64 0, .string ⟨#[]⟩, .int .i64 0, .bool false, .slice none 0 0, .bool false, .slice none 0 0, .string ⟨#[]⟩, .int .i64 0, .slice none 0 0]) stStep h3 (by rfl) (by rfl) (by rfl) (by rfl) (by rfl) ?_)
    have hs := setRow_facts h3 #[.int .i64 0, .int .i64 0, .bool false, .slice none 0 0, .bool false, .slice none 0 0, .string ⟨#[]⟩, .int .i64 0, .int .i64 0, .string ⟨#[]⟩, .int .i64 0, .bool false, .slice none 0 0, .bool false, .slice none 0 0, .string ⟨#[]⟩, .int .i64 0, .slice none 0 0]
    exact bodyPost_ret (results_cell_tmp (t := 6) (u := 7) rfl stStep rfl hs.1 rfl) rfl ⟨_, _, _, rfl, zero_step _, fun h => absurd h HNO.out, hs.2.2 _ _ (by omega) hb12⟩
  obtain rfl : K2 = false := by simpa using hno
  clear hno
  have e0 := box_cell h2 0
  have e1 := box_cell h2 1
  have e2 := box_cell h2 2
  have e3 := box_cell h2 3
  have e4 := box_cell h2 4
  have e5 := box_cell h2 5
  have e6 := box_cell h2 6
  simp only [List.getElem?_toArray, List.getElem?_cons_zero, List.getElem?_cons_succ] at e0 e1 e2 e3 e4 e5 e6
  go_wp2_with fail
  refine (HK2.out w2 hb12).mono ?_
  rintro e w3 ⟨rfl, hb3⟩
  replace h1 := (hb3.block _ (box_lt h1)).trans h1
  replace h2 := (hb3.block _ (box_lt h2)).trans h2
  replace h3 := (hb3.block _ (box_lt h3)).trans h3
  have hb13 := ext_trans hb12 hb3
  go_wp2_with (refine wpL_store (cells := #[.int .i64 0, .int .i64 0, .bool false, .slice none 0 0, .bool false, .slice none 0 0, .string ⟨#[]⟩, .int .i64 0, .int .i64 0, .string ⟨#[]⟩, .int .i64 0, .bool false, .slice none 0 0, .bool false, .slice none 0 0, .string ⟨#[]⟩, .int .i64 0, .slice none 0 0]) stStep h3 (by rfl) (by rfl) (by rfl) (by rfl) (by rfl) ?_)
  have hs := setRow_facts h3 #[.int .i64 0, .int .i64 0, .bool false, .slice none 0 0, .bool false, .slice none 0 0, .string ⟨#[]⟩, .int .i64 0, .int .i64 0, .string ⟨#[]⟩, .int .i64 0, .bool false, .slice none 0 0, .bool false, .slice none 0 0, .string ⟨#[]⟩, .int .i64 0, .slice none 0 0]
  exact bodyPost_ret (results_cell_tmp (t := 6) (u := 7) rfl stStep rfl hs.1 rfl) rfl ⟨_, _, _, rfl, zero_step _, fun h => absurd h HNO.out, hs.2.2 _ _ (by omega) hb13⟩

theorem numZD_fst (x : Vl) : (numZD x).1 = ZI x.nn (VL x.nl) := by unfold numZD; split <;> rfl
theorem fdiv_dig2 {x : Int} {p k : Nat} (hp : 0 < p) (nx : (dig x.natAbs).length ≤ k) : (dig (Int.fdiv x p).natAbs).length ≤ k + 1 := by
  have h1 : (Int.fdiv x p).natAbs ≤ x.natAbs := by
    rw [Int.fdiv_eq_ediv_of_nonneg _ (by omega)]
    exact Int.natAbs_ediv_le_natAbs x p
  exact Nat.le_trans (dig_len_mono h1) (by omega)
theorem bxs_row {l : List (Nat × Obj)} {w W : World} (h : Bxs l w W) {N : Nat} {cs : Array Value} {t : TypeId} (hN : w.heap.size ≤ N) (h3 : W.heap[N]? = some (.cells cs t (0, 0))) (r : Array Value) (hne : ∀ x ∈ l, x.1 ≠ N) : Bxs l w (W.setRow N r) :=
  ⟨(setRow_facts h3 r).2.2 _ _ hN h.1, fun x hx => ((setRow_facts h3 r).2.1 _ (box_lt (h.2 x hx)) (hne x hx)).trans (h.2 x hx)⟩
theorem ratAt_int {W : World} {b : Bool} {nv dv : Value} {z : Int} {d : Nat} (h : RatAt W (.agg #[.bool b, nv, dv]) z d) : IntAt W (.agg #[.bool b, nv]) z := by
  obtain ⟨b', nv', dv', k, he, hn, hm, hz⟩ := h
  simp only [Value.agg.injEq, Array.mk.injEq, List.cons.injEq, Value.bool.injEq, and_true] at he
  obtain ⟨rfl, rfl, rfl⟩ := he
  exact ⟨b, nv, k, rfl, hn, hz⟩
end Go.Proofs.YtpmadgmjkljbgaaDoor
