/-
  DERIVED. GIVEN WITH THE SEED: THE CARDS: each row of YtfcjacajnnkkfaaGreatDoorRows.lean that lists a variable, with what it lists TIED to the program's text (the seventh form; the later family's looks); each row that meets fmt, with fmt's text TOLD by the authors' own Lean function (tested against real Go, not proved from fmt's source: count such statements apart). THE CARD IS WHAT COUNTS. Prove the row's statement (the work); the ties are given (YtfcjacajnnkkfaaGreatDoorTie.lean); close each card by the builder's one call (the guide's Derived/Test/ToyasCard.lean, 'card_holds'). Laid BY PROGRAM, IN A SANDBOX (cutbox-door.mjs). By AI agents, Wed Nov 11 2026. No macro, syntax, notation, axiom, sorry.
-/
import Derived.Test.YtfcjacajnnkkfaaGreatDoorRows
import GoSem.ClaimSeven
namespace Go.Proofs.YtfcjacajnnkkfaaGreatDoor
namespace Rows

/-- THE TIED CARD OF 'brindlewoodlaw7.HeapValuesMatchSpec'. -/
def heapValuesMatchSpecCard : Claim7 := { stood := { row := heapValuesMatchSpecRow, standIns := [], harness := (true, "4c5a390f776f0af3afd6eea3674e804b497ab91bb55dcf36b0c1d92e096cfd2f"), looks := false }, kinds := [], alts := [], laidByText := true, laidKinds := [.data, .listed, .data, .pinned], laidTests := true, laidLooks := .later }
def HeapValuesMatchSpecCardSaid : Prop := Claim7.holds Tryz.pinned (.plain (OpenSpec.ofChange heapValuesMatchSpecSpec)) heapValuesMatchSpecCard

/-- THE SECOND FORM's CARD OF 'brindlewoodlaw7.HeapValuesMatchSpec'. -/
def heapValuesMatchSpecUptoCard : Claim7 := { stood := { row := heapValuesMatchSpecUptoRow, standIns := [], harness := (true, "4c5a390f776f0af3afd6eea3674e804b497ab91bb55dcf36b0c1d92e096cfd2f"), looks := false }, kinds := [], alts := [], laidByText := true, laidKinds := [.data, .listed, .data, .pinned], laidTests := true, laidLooks := .later }
def HeapValuesMatchSpecUptoCardSaid : Prop := Claim7.holds Tryz.pinned (.plain (OpenSpec.upto heapValuesMatchSpecSpec)) heapValuesMatchSpecUptoCard
end Rows
end Go.Proofs.YtfcjacajnnkkfaaGreatDoor
