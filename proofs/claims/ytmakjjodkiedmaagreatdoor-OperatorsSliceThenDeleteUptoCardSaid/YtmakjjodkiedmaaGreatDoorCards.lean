/-
  DERIVED. GIVEN WITH THE SEED: THE CARDS: each row of YtmakjjodkiedmaaGreatDoorRows.lean that lists a variable, with what it lists TIED to the program's text (the seventh form; the later family's looks); each row that meets fmt, with fmt's text TOLD by the authors' own Lean function (tested against real Go, not proved from fmt's source: count such statements apart). THE CARD IS WHAT COUNTS. Prove the row's statement (the work); the ties are given (YtmakjjodkiedmaaGreatDoorTie.lean); close each card by the builder's one call (the guide's Derived/Test/ToyasCard.lean, 'card_holds'). Laid BY PROGRAM, IN A SANDBOX (cutbox-door.mjs). By AI agents, Wed Nov 11 2026. No macro, syntax, notation, axiom, sorry.
-/
import Derived.Test.YtmakjjodkiedmaaGreatDoorRows
import GoSem.ClaimSeven
namespace Go.Proofs.YtmakjjodkiedmaaGreatDoor
namespace Rows

/-- THE TIED CARD OF 'brindlewoodlaw7.OperatorsSliceThenDelete'. -/
def operatorsSliceThenDeleteCard : Claim7 := { stood := { row := operatorsSliceThenDeleteRow, standIns := [], harness := (true, "6c2a9d600347773c9dd9eef8fb9cce0f3e61f48785ad0eb94c4597d345511cc2"), looks := false }, kinds := [], alts := [], laidByText := true, laidKinds := [.data, .data, .data, .data, .listed, .data, .pinned], laidTests := true, laidLooks := .later }
def OperatorsSliceThenDeleteCardSaid : Prop := Claim7.holds Tryz.pinned (.plain (OpenSpec.ofChange operatorsSliceThenDeleteSpec)) operatorsSliceThenDeleteCard

/-- THE SECOND FORM's CARD OF 'brindlewoodlaw7.OperatorsSliceThenDelete'. -/
def operatorsSliceThenDeleteUptoCard : Claim7 := { stood := { row := operatorsSliceThenDeleteUptoRow, standIns := [], harness := (true, "6c2a9d600347773c9dd9eef8fb9cce0f3e61f48785ad0eb94c4597d345511cc2"), looks := false }, kinds := [], alts := [], laidByText := true, laidKinds := [.data, .data, .data, .data, .listed, .data, .pinned], laidTests := true, laidLooks := .later }
def OperatorsSliceThenDeleteUptoCardSaid : Prop := Claim7.holds Tryz.pinned (.plain (OpenSpec.upto operatorsSliceThenDeleteSpec)) operatorsSliceThenDeleteUptoCard
end Rows
end Go.Proofs.YtmakjjodkiedmaaGreatDoor
