/- Part 21 of the proof. -/
import Derived.Test.YtpmadgmjkljbgaaDoorM17

/- Walk: bits, of shifts. -/
namespace Go.Proofs.YtpmadgmjkljbgaaDoor
open Go.RowKit

theorem pow_lt16 {k m : Nat} (h : k < 16 * m) : (2 : Nat) ^ k < 65536 ^ m := by
  have e : (2 : Nat) ^ 16 = 65536 := by decide
  rw [← e, ← Nat.pow_mul]
  exact Nat.pow_lt_pow_right (by decide) h
theorem two_fits {k : Nat} (h : k ≤ 4095) : powFits 2 k = true := by
  unfold powFits
  rw [decide_eq_true_eq]
  refine dig_length_le ?_
  rw [Int.natAbs_pow]
  exact pow_lt16 (by omega)
theorem two_pos (k : Nat) : (0 : Int) < 2 ^ k := Int.pow_pos (by decide)
theorem two_dig {k : Nat} (h : k ≤ 4095) : (dig ((2 : Int) ^ k).natAbs).length ≤ 256 := by
  have := two_fits h
  unfold powFits at this
  simpa using this
theorem noInt_box (b : Bool) (a : Option Addr) (n c : Nat) : NoInt [.bool b, .slice a n c] := by
  intro x hx k d
  simp only [List.mem_cons, List.not_mem_nil, or_false] at hx
  rcases hx with rfl | rfl <;> simp
theorem ibox_row {t : TypeId} {W : World} {N M : Nat} {cs : Array Value} {t' : TypeId} (h : IBox t W N) (hM : W.heap[M]? = some (.cells cs t' (0, 0))) (b : Bool) (a : Option Addr) (n : Nat) {c : Nat} : IBox t (W.setRow M #[.bool b, .slice a n c]) N := by
  obtain ⟨b0, a0, n0, c0, h⟩ := h
  by_cases e : N = M
  · subst e
    rw [h] at hM
    simp only [Option.some.injEq, Obj.cells.injEq] at hM
    obtain ⟨_, rfl, _⟩ := hM
    exact ⟨_, _, _, _, (setRow_facts h #[.bool b, .slice a n c]).1⟩
  · exact ⟨_, _, _, _, ((setRow_facts hM #[.bool b, .slice a n c]).2.1 _ (box_lt h) e).trans h⟩
theorem fdiv_dig {x p : Int} (hp : 0 < p) (nx : (dig x.natAbs).length ≤ 1000) : (dig (Int.fdiv x p).natAbs).length ≤ 1000000 := by
  have h1 : (Int.fdiv x p).natAbs ≤ x.natAbs + 1 := by
    rw [Int.fdiv_eq_ediv_of_nonneg _ (by omega)]
    have := Int.natAbs_ediv_le_natAbs x p
    omega
  have h2 := dig_len_mono h1
  have h3 := dig_add nx (show (dig 1).length ≤ 1000 by rw [dig_pos (by omega)]; simp [dig_zero])
  omega
end Go.Proofs.YtpmadgmjkljbgaaDoor
