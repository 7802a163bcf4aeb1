/- Rows of the type table that the walks want. -/
import Derived.Test.YtbickehhnkhabaaRows
import Derived.Test.YtbickehhnkhabaaBase
namespace Go.Proofs.Ytbickehhnkhabaa
open Go.RowKit
theorem infoInt : (Try.prog.info? 3).map (fun i => (i.zero, i.size, i.bytes)) = some (some (.int .i64 0), 1, 8) := by kernel_rfl
theorem infoInts : (Try.prog.info? 22).map (fun i => (i.zero, i.size, i.bytes)) = some (some (.slice none 0 0), 1, 24) := by kernel_rfl

theorem Ints.slice {w : World} {v : Value} {l : List Int} (h : Ints w v l) {lo hi' : Nat} (h1 : lo ≤ hi') (h2 : hi' ≤ l.length) :
    ∃ u, Ints w u ((l.take hi').drop lo) ∧ (∀ k, Value.ownBlock u = some k → Value.ownBlock v = some k) ∧ (∀ W, (Instr.slice 22 v (some (.int .i64 lo)) (some (.int .i64 hi')) none).run Try.prog W = .ok u W) ∧
      (hi' = l.length → ∀ W, (Instr.slice 22 v (some (.int .i64 lo)) none none).run Try.prog W = .ok u W) ∧
      (lo = 0 → ∀ W, (Instr.slice 22 v none (some (.int .i64 hi')) none).run Try.prog W = .ok u W) := by
  obtain ⟨i0, hi, _, hz1, _⟩ := info_parts infoInt
  exact RowOf.slice h Try.underlying22 hi hz1 h1 h2

/-- 'x[1:]' -/
theorem Ints.tail {w : World} {v : Value} {l : List Int} (h : Ints w v l) (hne : 0 < l.length) :
    ∃ u, Ints w u l.tail ∧ (∀ W, (Instr.slice 22 v (some (.int .i64 1)) none none).run Try.prog W = .ok u W) ∧ ∀ k, Value.ownBlock u = some k → Value.ownBlock v = some k := by
  obtain ⟨u, hu, hb, _, h1, _⟩ := Ints.slice h (lo := 1) (hi' := l.length) (by omega) (Nat.le_refl _)
  exact ⟨u, by simpa [List.tail_drop] using hu, h1 rfl, hb⟩
end Go.Proofs.Ytbickehhnkhabaa
