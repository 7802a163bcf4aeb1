/-
  DERIVED. GIVEN WITH THE SEED: THE CARDS: each row of YtonogeiopicibaaGreatDoorRows.lean that lists a variable, with what it lists TIED to the program's text (the seventh form; the later family's looks); each row that meets fmt, with fmt's text TOLD by the authors' own Lean function (tested against real Go, not proved from fmt's source: count such statements apart). THE CARD IS WHAT COUNTS. Prove the row's statement (the work); the ties are given (YtonogeiopicibaaGreatDoorTie.lean); close each card by the builder's one call (the guide's Derived/Test/ToyasCard.lean, 'card_holds'). Laid BY PROGRAM, IN A SANDBOX (cutbox-door.mjs). By AI agents, Wed Nov 11 2026. No macro, syntax, notation, axiom, sorry.
-/
import Derived.Test.YtonogeiopicibaaGreatDoorRows
import GoSem.ClaimSeven
namespace Go.Proofs.YtonogeiopicibaaGreatDoor
namespace Rows

/-- THE TIED CARD OF 'brindlewoodlaw7.AttributeSpecialMatchesSpec'. -/
def attributeSpecialMatchesSpecCard : Claim7 := { stood := { row := attributeSpecialMatchesSpecRow, standIns := [], harness := (true, "a7e4b5746a7588660315e63c20ecccd7cc91b921071073b1299427507b43483c"), looks := false }, kinds := [], alts := [], laidByText := true, laidKinds := [.data, .listed, .data, .pinned], laidTests := true, laidLooks := .later }
def AttributeSpecialMatchesSpecCardSaid : Prop := Claim7.holds Tryz.pinned (.plain (OpenSpec.ofChange attributeSpecialMatchesSpecSpec)) attributeSpecialMatchesSpecCard

/-- THE SECOND FORM's CARD OF 'brindlewoodlaw7.AttributeSpecialMatchesSpec'. -/
def attributeSpecialMatchesSpecUptoCard : Claim7 := { stood := { row := attributeSpecialMatchesSpecUptoRow, standIns := [], harness := (true, "a7e4b5746a7588660315e63c20ecccd7cc91b921071073b1299427507b43483c"), looks := false }, kinds := [], alts := [], laidByText := true, laidKinds := [.data, .listed, .data, .pinned], laidTests := true, laidLooks := .later }
def AttributeSpecialMatchesSpecUptoCardSaid : Prop := Claim7.holds Tryz.pinned (.plain (OpenSpec.upto attributeSpecialMatchesSpecSpec)) attributeSpecialMatchesSpecUptoCard
end Rows
end Go.Proofs.YtonogeiopicibaaGreatDoor
