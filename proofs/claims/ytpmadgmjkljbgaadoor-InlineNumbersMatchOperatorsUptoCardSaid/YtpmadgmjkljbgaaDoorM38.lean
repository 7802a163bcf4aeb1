/- Part 38 of the proof. -/
import Derived.Test.YtpmadgmjkljbgaaDoorM37

/- The law's plain side: which operands the small operations cover. -/
namespace Go.Proofs.YtpmadgmjkljbgaaDoor
open Go.RowKit

theorem half_small {x : Vl} (hg : Lg x.nl) (h : smallV x = true) : halfV x = decide (-2147483648 < smallZ x ∧ smallZ x < 2147483648) := by
  have hz : smallZ x = ZI x.nn (x.nl.headD 0) := by unfold smallZ; rw [if_pos h]
  rw [hz]
  unfold halfV
  cases hl : x.nl with
  | nil => cases x.nn <;> simp [ZI]
  | cons d l =>
    rw [Bool.eq_iff_iff]
    cases x.nn <;> simp [ZI] <;> omega
theorem small_zero {x : Vl} (hv : VGood x) (h : smallV x = true) : smallZ x ≠ 0 ↔ 0 < x.nl.length := by
  have h2 : x.k = 2 := by
    unfold smallV at h
    rw [Bool.and_eq_true, decide_eq_true_eq] at h
    exact h.1
  rw [smallZ_eq h, Ne, ZI_zero]
  refine ⟨fun h0 => ?_, fun h0 => ?_⟩
  · rcases Nat.eq_zero_or_pos x.nl.length with hl | hl
    · rw [List.length_eq_zero_iff] at hl
      rw [hl, L_nil] at h0
      exact absurd rfl h0
    · exact hl
  · have := intOk_last (hv.1 h2) h0
    omega
/-- What the law calls covered. -/
def cov (P1 P2 H1 H2 : Bool) (op : Int) (m : Nat) : Bool := P1 && P2 && (decide (op = 5) || decide (op = 6) || (decide (op = 7) && H1 && H2) || ((decide (op = 9) || decide (op = 10)) && decide (0 < m)))
theorem cov_eq {x1 x2 : Vl} (op : Int) (g1 : Lg x1.nl) (g2 : Lg x2.nl) (v2 : VGood x2) : binOk (smallV x1) (smallV x2) op (smallZ x1) (smallZ x2) = cov (smallV x1) (smallV x2) (halfV x1) (halfV x2) op x2.nl.length := by
  unfold binOk cov
  cases h1 : smallV x1 with
  | false => rfl
  | true =>
    cases h2 : smallV x2 with
    | false => rfl
    | true =>
      rw [half_small g1 h1, half_small g2 h2]
      have hz := small_zero v2 h2
      generalize smallZ x1 = X
      generalize smallZ x2 = Y at hz ⊢
      generalize x2.nl.length = m at hz ⊢
      rw [Bool.eq_iff_iff]
      simp only [Bool.true_and, Bool.or_eq_true, Bool.and_eq_true, decide_eq_true_eq]
      rw [hz]
      constructor
      · rintro (((h | h) | ⟨h, ha, hb, hc, hd⟩) | ⟨h, hm⟩)
        · exact .inl (.inl (.inl h))
        · exact .inl (.inl (.inr h))
        · exact .inl (.inr ⟨⟨h, ha, hb⟩, hc, hd⟩)
        · exact .inr ⟨h, hm⟩
      · rintro (((h | h) | ⟨⟨h, ha, hb⟩, hc, hd⟩) | ⟨h, hm⟩)
        · exact .inl (.inl (.inl h))
        · exact .inl (.inl (.inr h))
        · exact .inl (.inr ⟨h, ha, hb, hc, hd⟩)
        · exact .inr ⟨h, hm⟩
theorem zero_val (W : World) : VlAt W (.agg #[.int .i64 0, .bool false, .slice none 0 0, .bool false, .slice none 0 0, .string ⟨#[]⟩, .int .i64 0]) zeroVl := ⟨_, _, rfl, RowOf.nil _ _, RowOf.nil _ _⟩
/-- The number of a covered comparison is the small number's own. -/
theorem cmp_small {x1 x2 : Vl} (h1 : smallV x1 = true) (h2 : smallV x2 = true) : (numZD x1).1 * ((numZD x2).2 : Int) = smallZ x1 ∧ (numZD x2).1 * ((numZD x1).2 : Int) = smallZ x2 := by
  rw [small_num h1, small_num h2]
  simp
theorem binZ_len {x1 x2 : Vl} (op : Int) (g1 : Lg x1.nl) (g2 : Lg x2.nl) (h : binOk (smallV x1) (smallV x2) op (smallZ x1) (smallZ x2) = true) : (valZ (binZ op (smallZ x1) (smallZ x2))).nl.length ≤ 3 := by
  have i1 := smallZ_in g1
  have i2 := smallZ_in g2
  have hd := binOk_div h
  generalize smallZ x1 = X at *
  generalize smallZ x2 = Y at *
  have hm := mul_abs (show X.natAbs ≤ 4294967295 by omega) (show Y.natAbs ≤ 4294967295 by omega)
  show (lim (binZ op X Y).natAbs).length ≤ 3
  refine lim_length_le ?_
  rw [show (4294967296 : Nat) ^ 3 = 79228162514264337593543950336 by decide]
  unfold binZ
  split
  · omega
  split
  · omega
  split
  · omega
  unfold binOk at h
  rw [Bool.and_eq_true] at h
  have ho : op = 9 ∨ op = 10 := by
    have h2 := h.2
    simp only [Bool.or_eq_true, Bool.and_eq_true, decide_eq_true_eq] at h2
    omega
  have hq := fdiv_abs (X := X) (hd ho)
  have hm2 := mul_abs (show (Int.fdiv X Y).natAbs ≤ 4294967295 by omega) (show Y.natAbs ≤ 4294967295 by omega)
  split <;> omega
theorem NumberS_any (v : Value) (x : Vl) (w : World) (hv : VlAt w v x) (g : VlIn x) (hg : VGood x) (hp : smallV x = true) :
    Calls Tryd.prog 11 #[v] w fun e w' => ∃ v', e = .returned v' ∧ RatAt w' v' (smallZ x) 1 ∧ Below w.heap.size w w' := by
  have := NumberW_any v x w hv g.nl g.dl (goodL hg (isN_small hp)).1 (goodL hg (isN_small hp)).2
  rw [small_num hp] at this
  exact this
theorem OrderS_any (a b : Value) (X Y : Int) (w : World) (h1 : RatAt w a X 1) (h2 : RatAt w b Y 1) (i1 : -4294967295 ≤ X ∧ X ≤ 4294967295) (i2 : -4294967295 ≤ Y ∧ Y ≤ 4294967295) :
    Calls Tryd.prog 12 #[a, b] w fun e w' => e = .returned (.int .i64 (cmpZ X Y)) ∧ Below w.heap.size w w' := by
  have hl : ∀ z : Int, -4294967295 ≤ z → z ≤ 4294967295 → (dig z.natAbs).length ≤ 50000 := fun z z1 z2 => Nat.le_trans (dig_length_le (k := 3) (by omega)) (by omega)
  have := RatOrder_any a b X Y 1 1 w h1 h2 (hl _ i1.1 i1.2) (hl _ i2.1 i2.2) (Nat.le_trans dig_one_le (by omega)) (Nat.le_trans dig_one_le (by omega))
  simpa using this
theorem cmp_law (X Y : Int) : cmpB 1 X Y = decide (cmpZ X Y < 0) ∧ cmpB 2 X Y = decide (cmpZ X Y ≤ 0) ∧ cmpB 3 X Y = decide (cmpZ X Y > 0) ∧ cmpB 4 X Y = decide (cmpZ X Y ≥ 0) ∧ cmpB 5 X Y = (cmpZ X Y == 0) ∧ cmpB 6 X Y = (cmpZ X Y != 0) := by
  unfold cmpB cmpZ
  rcases Int.lt_trichotomy X Y with h | h | h
  · have h1 : ¬ Y < X := by omega
    have h2 : X ≤ Y := by omega
    have h3 : ¬ Y ≤ X := by omega
    have h4 : ¬ X = Y := by omega
    simp [h, h1, h2, h3, h4]
  · subst h; simp
  · have h1 : ¬ X < Y := by omega
    have h2 : Y ≤ X := by omega
    have h3 : ¬ X ≤ Y := by omega
    have h4 : ¬ X = Y := by omega
    simp [h, h1, h2, h3, h4]
end Go.Proofs.YtpmadgmjkljbgaaDoor
