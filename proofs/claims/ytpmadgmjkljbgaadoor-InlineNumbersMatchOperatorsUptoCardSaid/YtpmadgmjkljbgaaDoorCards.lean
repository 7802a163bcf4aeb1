/-
  DERIVED. GIVEN WITH THE SEED: THE CARDS: each row of YtpmadgmjkljbgaaDoorRows.lean that lists a variable, with what it lists TIED to the program's text (the seventh form; the later family's looks); each row that meets fmt, with fmt's text TOLD by the authors' own Lean function (tested against real Go, not proved from fmt's source: count such statements apart). THE CARD IS WHAT COUNTS. Prove the row's statement (the work); the ties are given (YtpmadgmjkljbgaaDoorTie.lean); close each card by the builder's one call (the guide's Derived/Test/ToyasCard.lean, 'card_holds'). Laid BY PROGRAM, IN A SANDBOX (cutbox-door.mjs). By AI agents, Wed Nov 11 2026. No macro, syntax, notation, axiom, sorry.
-/
import Derived.Test.YtpmadgmjkljbgaaDoorRows
import GoSem.ClaimSeven
namespace Go.Proofs.YtpmadgmjkljbgaaDoor
namespace Rows

/-- THE TIED CARD OF 'brindlewoodlaw7.InlineNumbersMatchOperators'. -/
def inlineNumbersMatchOperatorsCard : Claim7 := { stood := { row := inlineNumbersMatchOperatorsRow, standIns := [], harness := (true, "b38590d0bbfc599b876bfe6df2e10b7c79e39d12c82e046f833a11bb85944145"), looks := false }, kinds := [], alts := [], laidByText := true, laidKinds := [.data, .pinned], laidTests := true, laidLooks := .later }
def InlineNumbersMatchOperatorsCardSaid : Prop := Claim7.holds Tryd.pinned (.plain (OpenSpec.ofChange inlineNumbersMatchOperatorsSpec)) inlineNumbersMatchOperatorsCard

/-- THE SECOND FORM's CARD OF 'brindlewoodlaw7.InlineNumbersMatchOperators'. -/
def inlineNumbersMatchOperatorsUptoCard : Claim7 := { stood := { row := inlineNumbersMatchOperatorsUptoRow, standIns := [], harness := (true, "b38590d0bbfc599b876bfe6df2e10b7c79e39d12c82e046f833a11bb85944145"), looks := false }, kinds := [], alts := [], laidByText := true, laidKinds := [.data, .pinned], laidTests := true, laidLooks := .later }
def InlineNumbersMatchOperatorsUptoCardSaid : Prop := Claim7.holds Tryd.pinned (.plain (OpenSpec.upto inlineNumbersMatchOperatorsSpec)) inlineNumbersMatchOperatorsUptoCard
end Rows
end Go.Proofs.YtpmadgmjkljbgaaDoor
