/- Part 1 of the proof. -/
import Derived.Shelf.Unicode.DecodeSlow
import Derived.Lib.Space
import Derived.WalkKit


/- What the library's variables hold: a map of cells. -/
namespace Go.Proofs.YtngidfegeapkbaaGreatDoor
open Go.RowKit
structure GSpec (G : Nat → Nat → Option Value) : Prop where
  maxLen : ∃ m : Int, G 4 0 = some (.int .i64 m)
  first : ∀ c, c < 256 → G 1 c = some (.int .u8 (Lib.firstT c))
  accept : ∀ i, i < 16 → G 2 (2 * i) = some (.int .u8 (Lib.accLo i)) ∧ G 2 (2 * i + 1) = some (.int .u8 (Lib.accHi i))
  space : ∀ c : Nat, c < 256 → G 0 c = some (.int .u8 (if Lib.isSp (UInt8.ofNat c) then 1 else 0))
end Go.Proofs.YtngidfegeapkbaaGreatDoor
