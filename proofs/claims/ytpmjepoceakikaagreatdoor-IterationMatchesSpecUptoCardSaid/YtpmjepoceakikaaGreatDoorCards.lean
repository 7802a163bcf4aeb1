/-
  DERIVED. GIVEN WITH THE SEED: THE CARDS: each row of YtpmjepoceakikaaGreatDoorRows.lean that lists a variable, with what it lists TIED to the program's text (the seventh form; the later family's looks); each row that meets fmt, with fmt's text TOLD by the authors' own Lean function (tested against real Go, not proved from fmt's source: count such statements apart). THE CARD IS WHAT COUNTS. Prove the row's statement (the work); the ties are given (YtpmjepoceakikaaGreatDoorTie.lean); close each card by the builder's one call (the guide's Derived/Test/ToyasCard.lean, 'card_holds'). Laid BY PROGRAM, IN A SANDBOX (cutbox-door.mjs). By AI agents, Wed Nov 11 2026. No macro, syntax, notation, axiom, sorry.
-/
import Derived.Test.YtpmjepoceakikaaGreatDoorRows
import GoSem.ClaimSeven
namespace Go.Proofs.YtpmjepoceakikaaGreatDoor
namespace Rows

/-- THE TIED CARD OF 'brindlewoodlaw7.IterationMatchesSpec'. -/
def iterationMatchesSpecCard : Claim7 := { stood := { row := iterationMatchesSpecRow, standIns := [], harness := (true, "7326f6ec79dfb328c188de63a76abcde3aedbbb3a2fad2f38ccf6a0004703ee5"), looks := false }, kinds := [], alts := [], laidByText := true, laidKinds := [.data, .data, .data, .data, .listed, .data, .pinned, .pinned, .pinned, .pinned, .pinned, .pinned], laidTests := true, laidLooks := .later }
def IterationMatchesSpecCardSaid : Prop := Claim7.holds Tryz.pinned (.plain (OpenSpec.ofChange iterationMatchesSpecSpec)) iterationMatchesSpecCard

/-- THE SECOND FORM's CARD OF 'brindlewoodlaw7.IterationMatchesSpec'. -/
def iterationMatchesSpecUptoCard : Claim7 := { stood := { row := iterationMatchesSpecUptoRow, standIns := [], harness := (true, "7326f6ec79dfb328c188de63a76abcde3aedbbb3a2fad2f38ccf6a0004703ee5"), looks := false }, kinds := [], alts := [], laidByText := true, laidKinds := [.data, .data, .data, .data, .listed, .data, .pinned, .pinned, .pinned, .pinned, .pinned, .pinned], laidTests := true, laidLooks := .later }
def IterationMatchesSpecUptoCardSaid : Prop := Claim7.holds Tryz.pinned (.plain (OpenSpec.upto iterationMatchesSpecSpec)) iterationMatchesSpecUptoCard
end Rows
end Go.Proofs.YtpmjepoceakikaaGreatDoor
