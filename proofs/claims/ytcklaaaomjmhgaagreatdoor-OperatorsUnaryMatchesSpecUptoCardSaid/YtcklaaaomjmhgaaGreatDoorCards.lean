/-
  DERIVED. GIVEN WITH THE SEED: THE CARDS: each row of YtcklaaaomjmhgaaGreatDoorRows.lean that lists a variable, with what it lists TIED to the program's text (the seventh form; the later family's looks); each row that meets fmt, with fmt's text TOLD by the authors' own Lean function (tested against real Go, not proved from fmt's source: count such statements apart). THE CARD IS WHAT COUNTS. Prove the row's statement (the work); the ties are given (YtcklaaaomjmhgaaGreatDoorTie.lean); close each card by the builder's one call (the guide's Derived/Test/ToyasCard.lean, 'card_holds'). Laid BY PROGRAM, IN A SANDBOX (cutbox-door.mjs). By AI agents, Wed Nov 11 2026. No macro, syntax, notation, axiom, sorry.
-/
import Derived.Test.YtcklaaaomjmhgaaGreatDoorRows
import GoSem.ClaimSeven
namespace Go.Proofs.YtcklaaaomjmhgaaGreatDoor
namespace Rows

/-- THE TIED CARD OF 'brindlewoodlaw7.OperatorsUnaryMatchesSpec'. -/
def operatorsUnaryMatchesSpecCard : Claim7 := { stood := { row := operatorsUnaryMatchesSpecRow, standIns := [], harness := (true, "b5b6b2acf8015ca48065002620b442c84b6740aef072770381e4fd9dfc823c99"), looks := false }, kinds := [], alts := [], laidByText := true, laidKinds := [.data, .listed, .data, .pinned], laidTests := true, laidLooks := .later }
def OperatorsUnaryMatchesSpecCardSaid : Prop := Claim7.holds Tryz.pinned (.plain (OpenSpec.ofChange operatorsUnaryMatchesSpecSpec)) operatorsUnaryMatchesSpecCard

/-- THE SECOND FORM's CARD OF 'brindlewoodlaw7.OperatorsUnaryMatchesSpec'. -/
def operatorsUnaryMatchesSpecUptoCard : Claim7 := { stood := { row := operatorsUnaryMatchesSpecUptoRow, standIns := [], harness := (true, "b5b6b2acf8015ca48065002620b442c84b6740aef072770381e4fd9dfc823c99"), looks := false }, kinds := [], alts := [], laidByText := true, laidKinds := [.data, .listed, .data, .pinned], laidTests := true, laidLooks := .later }
def OperatorsUnaryMatchesSpecUptoCardSaid : Prop := Claim7.holds Tryz.pinned (.plain (OpenSpec.upto operatorsUnaryMatchesSpecSpec)) operatorsUnaryMatchesSpecUptoCard
end Rows
end Go.Proofs.YtcklaaaomjmhgaaGreatDoor
