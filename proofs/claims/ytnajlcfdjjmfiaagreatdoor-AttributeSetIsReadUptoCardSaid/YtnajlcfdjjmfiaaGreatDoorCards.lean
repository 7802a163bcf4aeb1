/-
  DERIVED. GIVEN WITH THE SEED: THE CARDS: each row of YtnajlcfdjjmfiaaGreatDoorRows.lean that lists a variable, with what it lists TIED to the program's text (the seventh form; the later family's looks); each row that meets fmt, with fmt's text TOLD by the authors' own Lean function (tested against real Go, not proved from fmt's source: count such statements apart). THE CARD IS WHAT COUNTS. Prove the row's statement (the work); the ties are given (YtnajlcfdjjmfiaaGreatDoorTie.lean); close each card by the builder's one call (the guide's Derived/Test/ToyasCard.lean, 'card_holds'). Laid BY PROGRAM, IN A SANDBOX (cutbox-door.mjs). By AI agents, Wed Nov 11 2026. No macro, syntax, notation, axiom, sorry.
-/
import Derived.Test.YtnajlcfdjjmfiaaGreatDoorRows
import GoSem.ClaimSeven
namespace Go.Proofs.YtnajlcfdjjmfiaaGreatDoor
namespace Rows

/-- THE TIED CARD OF 'brindlewoodlaw7.AttributeSetIsRead'. -/
def attributeSetIsReadCard : Claim7 := { stood := { row := attributeSetIsReadRow, standIns := [], harness := (true, "f469d9d946193d58590ec2868c4f796eb59e9723d35bb1193eefa75b4627aa9f"), looks := false }, kinds := [], alts := [], laidByText := true, laidKinds := [.data, .listed, .data, .pinned], laidTests := true, laidLooks := .later }
def AttributeSetIsReadCardSaid : Prop := Claim7.holds Tryz.pinned (.plain (OpenSpec.ofChange attributeSetIsReadSpec)) attributeSetIsReadCard

/-- THE SECOND FORM's CARD OF 'brindlewoodlaw7.AttributeSetIsRead'. -/
def attributeSetIsReadUptoCard : Claim7 := { stood := { row := attributeSetIsReadUptoRow, standIns := [], harness := (true, "f469d9d946193d58590ec2868c4f796eb59e9723d35bb1193eefa75b4627aa9f"), looks := false }, kinds := [], alts := [], laidByText := true, laidKinds := [.data, .listed, .data, .pinned], laidTests := true, laidLooks := .later }
def AttributeSetIsReadUptoCardSaid : Prop := Claim7.holds Tryz.pinned (.plain (OpenSpec.upto attributeSetIsReadSpec)) attributeSetIsReadUptoCard
end Rows
end Go.Proofs.YtnajlcfdjjmfiaaGreatDoor
