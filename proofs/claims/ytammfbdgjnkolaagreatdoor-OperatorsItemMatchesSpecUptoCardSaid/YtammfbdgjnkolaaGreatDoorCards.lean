/-
  DERIVED. GIVEN WITH THE SEED: THE CARDS: each row of YtammfbdgjnkolaaGreatDoorRows.lean that lists a variable, with what it lists TIED to the program's text (the seventh form; the later family's looks); each row that meets fmt, with fmt's text TOLD by the authors' own Lean function (tested against real Go, not proved from fmt's source: count such statements apart). THE CARD IS WHAT COUNTS. Prove the row's statement (the work); the ties are given (YtammfbdgjnkolaaGreatDoorTie.lean); close each card by the builder's one call (the guide's Derived/Test/ToyasCard.lean, 'card_holds'). Laid BY PROGRAM, IN A SANDBOX (cutbox-door.mjs). By AI agents, Wed Nov 11 2026. No macro, syntax, notation, axiom, sorry.
-/
import Derived.Test.YtammfbdgjnkolaaGreatDoorRows
import GoSem.ClaimSeven
namespace Go.Proofs.YtammfbdgjnkolaaGreatDoor
namespace Rows

/-- THE TIED CARD OF 'brindlewoodlaw7.OperatorsItemMatchesSpec'. -/
def operatorsItemMatchesSpecCard : Claim7 := { stood := { row := operatorsItemMatchesSpecRow, standIns := [], harness := (true, "6cc8490712c86f5b5ddd49385db05ce8f13a1bb27ea02b1f6ac4a64b427c42d2"), looks := false }, kinds := [], alts := [], laidByText := true, laidKinds := [.data, .data, .data, .data, .listed, .data, .pinned, .pinned, .pinned, .pinned, .pinned, .pinned], laidTests := true, laidLooks := .later }
def OperatorsItemMatchesSpecCardSaid : Prop := Claim7.holds Tryz.pinned (.plain (OpenSpec.ofChange operatorsItemMatchesSpecSpec)) operatorsItemMatchesSpecCard

/-- THE SECOND FORM's CARD OF 'brindlewoodlaw7.OperatorsItemMatchesSpec'. -/
def operatorsItemMatchesSpecUptoCard : Claim7 := { stood := { row := operatorsItemMatchesSpecUptoRow, standIns := [], harness := (true, "6cc8490712c86f5b5ddd49385db05ce8f13a1bb27ea02b1f6ac4a64b427c42d2"), looks := false }, kinds := [], alts := [], laidByText := true, laidKinds := [.data, .data, .data, .data, .listed, .data, .pinned, .pinned, .pinned, .pinned, .pinned, .pinned], laidTests := true, laidLooks := .later }
def OperatorsItemMatchesSpecUptoCardSaid : Prop := Claim7.holds Tryz.pinned (.plain (OpenSpec.upto operatorsItemMatchesSpecSpec)) operatorsItemMatchesSpecUptoCard
end Rows
end Go.Proofs.YtammfbdgjnkolaaGreatDoor
