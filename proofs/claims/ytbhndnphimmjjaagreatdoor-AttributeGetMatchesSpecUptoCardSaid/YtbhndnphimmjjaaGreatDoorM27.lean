/- Part 27 of the proof. -/
import Derived.Test.YtbhndnphimmjjaaGreatDoorM20
namespace Go.Proofs.YtbhndnphimmjjaaGreatDoor
open Go.RowKit
variable {md me : Bool}
theorem wF {h : List Ob} (g : Uh h) (v : Vl) : (zR h v).names.length ≤ (zR h v).items.length := by
 by_cases h0 : (zR h v).kind = 0
 ·by_cases hk : v.k = 6 ∧ yW h v.r = true
  ·rw [show zR h v = yA h v.r from if_pos hk];exact bP0 g (yQ hk.2)
  ·rw [show zR h v = ob0 from if_neg hk];exact Nat.le_refl _
 ·have h1 := jH h0;rw [h1.2.2];exact bP0 g (yQ h1.2.1)
end Go.Proofs.YtbhndnphimmjjaaGreatDoor
