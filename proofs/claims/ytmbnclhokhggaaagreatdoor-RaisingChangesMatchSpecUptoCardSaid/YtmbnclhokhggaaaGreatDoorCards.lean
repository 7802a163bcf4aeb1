/-
  DERIVED. GIVEN WITH THE SEED: THE CARDS: each row of YtmbnclhokhggaaaGreatDoorRows.lean that lists a variable, with what it lists TIED to the program's text (the seventh form; the later family's looks); each row that meets fmt, with fmt's text TOLD by the authors' own Lean function (tested against real Go, not proved from fmt's source: count such statements apart). THE CARD IS WHAT COUNTS. Prove the row's statement (the work); the ties are given (YtmbnclhokhggaaaGreatDoorTie.lean); close each card by the builder's one call (the guide's Derived/Test/ToyasCard.lean, 'card_holds'). Laid BY PROGRAM, IN A SANDBOX (cutbox-door.mjs). By AI agents, Wed Nov 11 2026. No macro, syntax, notation, axiom, sorry.
-/
import Derived.Test.YtmbnclhokhggaaaGreatDoorRows
import GoSem.ClaimSeven
namespace Go.Proofs.YtmbnclhokhggaaaGreatDoor
namespace Rows

/-- THE TIED CARD OF 'brindlewoodlaw7.RaisingChangesMatchSpec'. -/
def raisingChangesMatchSpecCard : Claim7 := { stood := { row := raisingChangesMatchSpecRow, standIns := [], harness := (true, "df6a68475d2e0b016bf134fba215f7b2796cedee195ed915d311a12cd0a06be6"), looks := false }, kinds := [], alts := [], laidByText := true, laidKinds := [.data, .data, .data, .data, .listed, .data, .pinned, .pinned, .pinned, .pinned, .pinned, .pinned], laidTests := true, laidLooks := .later }
def RaisingChangesMatchSpecCardSaid : Prop := Claim7.holds Tryz.pinned (.plain (OpenSpec.ofChange raisingChangesMatchSpecSpec)) raisingChangesMatchSpecCard

/-- THE SECOND FORM's CARD OF 'brindlewoodlaw7.RaisingChangesMatchSpec'. -/
def raisingChangesMatchSpecUptoCard : Claim7 := { stood := { row := raisingChangesMatchSpecUptoRow, standIns := [], harness := (true, "df6a68475d2e0b016bf134fba215f7b2796cedee195ed915d311a12cd0a06be6"), looks := false }, kinds := [], alts := [], laidByText := true, laidKinds := [.data, .data, .data, .data, .listed, .data, .pinned, .pinned, .pinned, .pinned, .pinned, .pinned], laidTests := true, laidLooks := .later }
def RaisingChangesMatchSpecUptoCardSaid : Prop := Claim7.holds Tryz.pinned (.plain (OpenSpec.upto raisingChangesMatchSpecSpec)) raisingChangesMatchSpecUptoCard
end Rows
end Go.Proofs.YtmbnclhokhggaaaGreatDoor
