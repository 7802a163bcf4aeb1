/-
  DERIVED. GIVEN WITH THE SEED: THE CARDS: each row of YtepamjmgancjoaaGreatDoorRows.lean that lists a variable, with what it lists TIED to the program's text (the seventh form; the later family's looks); each row that meets fmt, with fmt's text TOLD by the authors' own Lean function (tested against real Go, not proved from fmt's source: count such statements apart). THE CARD IS WHAT COUNTS. Prove the row's statement (the work); the ties are given (YtepamjmgancjoaaGreatDoorTie.lean); close each card by the builder's one call (the guide's Derived/Test/ToyasCard.lean, 'card_holds'). Laid BY PROGRAM, IN A SANDBOX (cutbox-door.mjs). By AI agents, Wed Nov 11 2026. No macro, syntax, notation, axiom, sorry.
-/
import Derived.Test.YtepamjmgancjoaaGreatDoorRows
import GoSem.ClaimSeven
namespace Go.Proofs.YtepamjmgancjoaaGreatDoor
namespace Rows

/-- THE TIED CARD OF 'brindlewoodlaw7.CompareTruthMatchesSpec'. -/
def compareTruthMatchesSpecCard : Claim7 := { stood := { row := compareTruthMatchesSpecRow, standIns := [], harness := (true, "2689a63a528c70a8ea7cd990e7574477ec9c9d2474dfc28884fe832898cc56e5"), looks := false }, kinds := [], alts := [], laidByText := true, laidKinds := [.data, .listed, .data, .pinned], laidTests := true, laidLooks := .later }
def CompareTruthMatchesSpecCardSaid : Prop := Claim7.holds Tryz.pinned (.plain (OpenSpec.ofChange compareTruthMatchesSpecSpec)) compareTruthMatchesSpecCard

/-- THE SECOND FORM's CARD OF 'brindlewoodlaw7.CompareTruthMatchesSpec'. -/
def compareTruthMatchesSpecUptoCard : Claim7 := { stood := { row := compareTruthMatchesSpecUptoRow, standIns := [], harness := (true, "2689a63a528c70a8ea7cd990e7574477ec9c9d2474dfc28884fe832898cc56e5"), looks := false }, kinds := [], alts := [], laidByText := true, laidKinds := [.data, .listed, .data, .pinned], laidTests := true, laidLooks := .later }
def CompareTruthMatchesSpecUptoCardSaid : Prop := Claim7.holds Tryz.pinned (.plain (OpenSpec.upto compareTruthMatchesSpecSpec)) compareTruthMatchesSpecUptoCard
end Rows
end Go.Proofs.YtepamjmgancjoaaGreatDoor
