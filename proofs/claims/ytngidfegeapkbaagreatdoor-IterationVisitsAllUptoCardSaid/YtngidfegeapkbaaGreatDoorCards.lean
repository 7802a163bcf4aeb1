/-
  DERIVED. GIVEN WITH THE SEED: THE CARDS: each row of YtngidfegeapkbaaGreatDoorRows.lean that lists a variable, with what it lists TIED to the program's text (the seventh form; the later family's looks); each row that meets fmt, with fmt's text TOLD by the authors' own Lean function (tested against real Go, not proved from fmt's source: count such statements apart). THE CARD IS WHAT COUNTS. Prove the row's statement (the work); the ties are given (YtngidfegeapkbaaGreatDoorTie.lean); close each card by the builder's one call (the guide's Derived/Test/ToyasCard.lean, 'card_holds'). Laid BY PROGRAM, IN A SANDBOX (cutbox-door.mjs). By AI agents, Wed Nov 11 2026. No macro, syntax, notation, axiom, sorry.
-/
import Derived.Test.YtngidfegeapkbaaGreatDoorRows
import GoSem.ClaimSeven
namespace Go.Proofs.YtngidfegeapkbaaGreatDoor
namespace Rows

/-- THE TIED CARD OF 'brindlewoodlaw7.IterationVisitsAll'. -/
def iterationVisitsAllCard : Claim7 := { stood := { row := iterationVisitsAllRow, standIns := [], harness := (true, "9c11fb7e783074d8c3e15f1d2431fe2054199757025533f8666d4e5d58fad9a7"), looks := false }, kinds := [], alts := [], laidByText := true, laidKinds := [.data, .listed, .data, .pinned], laidTests := true, laidLooks := .later }
def IterationVisitsAllCardSaid : Prop := Claim7.holds Tryz.pinned (.plain (OpenSpec.ofChange iterationVisitsAllSpec)) iterationVisitsAllCard

/-- THE SECOND FORM's CARD OF 'brindlewoodlaw7.IterationVisitsAll'. -/
def iterationVisitsAllUptoCard : Claim7 := { stood := { row := iterationVisitsAllUptoRow, standIns := [], harness := (true, "9c11fb7e783074d8c3e15f1d2431fe2054199757025533f8666d4e5d58fad9a7"), looks := false }, kinds := [], alts := [], laidByText := true, laidKinds := [.data, .listed, .data, .pinned], laidTests := true, laidLooks := .later }
def IterationVisitsAllUptoCardSaid : Prop := Claim7.holds Tryz.pinned (.plain (OpenSpec.upto iterationVisitsAllSpec)) iterationVisitsAllUptoCard
end Rows
end Go.Proofs.YtngidfegeapkbaaGreatDoor
