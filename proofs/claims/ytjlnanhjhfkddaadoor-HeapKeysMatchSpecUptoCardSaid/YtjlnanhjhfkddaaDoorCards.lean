/-
  DERIVED. GIVEN WITH THE SEED: THE CARDS: each row of YtjlnanhjhfkddaaDoorRows.lean that lists a variable, with what it lists TIED to the program's text (the seventh form; the later family's looks); each row that meets fmt, with fmt's text TOLD by the authors' own Lean function (tested against real Go, not proved from fmt's source: count such statements apart). THE CARD IS WHAT COUNTS. Prove the row's statement (the work); the ties are given (YtjlnanhjhfkddaaDoorTie.lean); close each card by the builder's one call (the guide's Derived/Test/ToyasCard.lean, 'card_holds'). Laid BY PROGRAM, IN A SANDBOX (cutbox-door.mjs). By AI agents, Wed Nov 11 2026. No macro, syntax, notation, axiom, sorry.
-/
import Derived.Test.YtjlnanhjhfkddaaDoorRows
import GoSem.ClaimSeven
namespace Go.Proofs.YtjlnanhjhfkddaaDoor
namespace Rows

/-- THE TIED CARD OF 'brindlewoodlaw7.HeapKeysMatchSpec'. -/
def heapKeysMatchSpecCard : Claim7 := { stood := { row := heapKeysMatchSpecRow, standIns := [], harness := (true, "e6fc6bb754536a77f46204cdccf421cb9a088285ae9eef8ad39ba63aacab82b7"), looks := false }, kinds := [], alts := [], laidByText := true, laidKinds := [.data, .listed, .data, .pinned], laidTests := true, laidLooks := .later }
def HeapKeysMatchSpecCardSaid : Prop := Claim7.holds Tryd.pinned (.plain (OpenSpec.ofChange heapKeysMatchSpecSpec)) heapKeysMatchSpecCard

/-- THE SECOND FORM's CARD OF 'brindlewoodlaw7.HeapKeysMatchSpec'. -/
def heapKeysMatchSpecUptoCard : Claim7 := { stood := { row := heapKeysMatchSpecUptoRow, standIns := [], harness := (true, "e6fc6bb754536a77f46204cdccf421cb9a088285ae9eef8ad39ba63aacab82b7"), looks := false }, kinds := [], alts := [], laidByText := true, laidKinds := [.data, .listed, .data, .pinned], laidTests := true, laidLooks := .later }
def HeapKeysMatchSpecUptoCardSaid : Prop := Claim7.holds Tryd.pinned (.plain (OpenSpec.upto heapKeysMatchSpecSpec)) heapKeysMatchSpecUptoCard
end Rows
end Go.Proofs.YtjlnanhjhfkddaaDoor
