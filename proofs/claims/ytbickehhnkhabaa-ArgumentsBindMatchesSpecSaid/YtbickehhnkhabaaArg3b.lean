/- Small lemmas on boxes of three cells. -/
import Derived.Test.YtbickehhnkhabaaArgSpec
namespace Go.Proofs.Ytbickehhnkhabaa
open Go.RowKit

theorem ParamsAt.len {w : World} {v : Value} {ps : List Par} (h : ParamsAt w v ps) : ∃ a c, v = .slice a ps.length c := by
  obtain ⟨a, c, rfl, _⟩ := h
  exact ⟨a, c, rfl⟩

theorem box3 {w : World} {N : Nat} {x y z : Value} {t : TypeId} (h : w.heap[N]? = some (.cells #[x, y, z] t (0, 0))) :
    w.cell? ⟨N, 0, none⟩ = some x ∧ w.cell? ⟨N, 1, none⟩ = some y ∧ w.cell? ⟨N, 2, none⟩ = some z ∧ (∀ o, w.frozen? ⟨N, o, none⟩ = false) ∧ N < w.heap.size := by
  refine ⟨by simp [World.cell?, h], by simp [World.cell?, h], by simp [World.cell?, h], fun o => by simp [World.frozen?, h], ?_⟩
  rcases Nat.lt_or_ge N w.heap.size with h' | h'
  · exact h'
  · rw [Array.getElem?_eq_none h'] at h; cases h

theorem nameOk_size {s : ByteArray} (h : nameOk s = true) : 1 ≤ s.size := by
  by_cases hN : NameIs s
  · exact hN.1
  · rw [nameOk_no hN] at h; cases h
end Go.Proofs.Ytbickehhnkhabaa
