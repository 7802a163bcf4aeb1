/-
  DERIVED. GIVEN WITH THE SEED: THE CARDS: each row of YtnmgpaaioojafaaGreatDoorRows.lean that lists a variable, with what it lists TIED to the program's text (the seventh form; the later family's looks); each row that meets fmt, with fmt's text TOLD by the authors' own Lean function (tested against real Go, not proved from fmt's source: count such statements apart). THE CARD IS WHAT COUNTS. Prove the row's statement (the work); the ties are given (YtnmgpaaioojafaaGreatDoorTie.lean); close each card by the builder's one call (the guide's Derived/Test/ToyasCard.lean, 'card_holds'). Laid BY PROGRAM, IN A SANDBOX (cutbox-door.mjs). By AI agents, Wed Nov 11 2026. No macro, syntax, notation, axiom, sorry.
-/
import Derived.Test.YtnmgpaaioojafaaGreatDoorRows
import GoSem.ClaimSeven
namespace Go.Proofs.YtnmgpaaioojafaaGreatDoor
namespace Rows

/-- THE TIED CARD OF 'brindlewoodlaw7.OperatorsUpdateMatchesSpec'. -/
def operatorsUpdateMatchesSpecCard : Claim7 := { stood := { row := operatorsUpdateMatchesSpecRow, standIns := [], harness := (true, "f1360addb65ddd0f62882badced5382276f769d43989eb1a4e20689c7fa9722c"), looks := false }, kinds := [], alts := [], laidByText := true, laidKinds := [.data, .data, .data, .data, .listed, .data, .pinned, .pinned, .pinned, .pinned, .pinned, .pinned], laidTests := true, laidLooks := .later }
def OperatorsUpdateMatchesSpecCardSaid : Prop := Claim7.holds Tryz.pinned (.plain (OpenSpec.ofChange operatorsUpdateMatchesSpecSpec)) operatorsUpdateMatchesSpecCard

/-- THE SECOND FORM's CARD OF 'brindlewoodlaw7.OperatorsUpdateMatchesSpec'. -/
def operatorsUpdateMatchesSpecUptoCard : Claim7 := { stood := { row := operatorsUpdateMatchesSpecUptoRow, standIns := [], harness := (true, "f1360addb65ddd0f62882badced5382276f769d43989eb1a4e20689c7fa9722c"), looks := false }, kinds := [], alts := [], laidByText := true, laidKinds := [.data, .data, .data, .data, .listed, .data, .pinned, .pinned, .pinned, .pinned, .pinned, .pinned], laidTests := true, laidLooks := .later }
def OperatorsUpdateMatchesSpecUptoCardSaid : Prop := Claim7.holds Tryz.pinned (.plain (OpenSpec.upto operatorsUpdateMatchesSpecSpec)) operatorsUpdateMatchesSpecUptoCard
end Rows
end Go.Proofs.YtnmgpaaioojafaaGreatDoor
