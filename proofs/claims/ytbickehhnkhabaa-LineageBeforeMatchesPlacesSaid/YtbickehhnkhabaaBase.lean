/- General facts about slices that read as lists, used by the walks of this claim. Nothing here speaks of the program. -/
import Derived.WalkKit
import Derived.WalkSpells
import Derived.WalkLawsBesides
import Derived.Lib.Hide
namespace Go.Proofs.Ytbickehhnkhabaa
open Go.RowKit

theorem ret_int {k : IntKind} {a b : Int} (h : a = b) : Ending.returned (.int k a) = .returned (.int k b) := by rw [h]
theorem ret_bool {a b : Bool} (h : a = b) : Ending.returned (.bool a) = .returned (.bool b) := by rw [h]

/-- A slice value that reads as a list of integers. -/
def Ints (w : World) (v : Value) (l : List Int) : Prop :=
  ∃ a cap, v = .slice a l.length cap ∧ l.length ≤ 9223372036854775807 ∧
    ∀ i (h : i < l.length), ∃ b off, a = some ⟨b, off, none⟩ ∧ w.cell? ⟨b, off + i, none⟩ = some (.int .i64 l[i])

/-- The place of the first x, counted from k; -1 if there is none. -/
def idxFrom (x : Int) : List Int → Nat → Int
  | [], _ => -1
  | y :: l, k => if x == y then k else idxFrom x l (k + 1)

theorem idxFrom_drop (l : List Int) (x : Int) (k : Nat) (h : k < l.length) : idxFrom x (l.drop k) k = if x == l[k] then (k : Int) else idxFrom x (l.drop (k+1)) (k+1) := by
  rw [List.drop_eq_getElem_cons h, idxFrom]

def before (l : List Int) (a b : Int) : Bool := decide (0 ≤ idxFrom a l 0) && decide (idxFrom a l 0 < idxFrom b l 0)
end Go.Proofs.Ytbickehhnkhabaa
