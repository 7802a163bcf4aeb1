/-
  DERIVED. GIVEN WITH THE SEED: THE CARDS: each row of YtbhndnphimmjjaaGreatDoorRows.lean that lists a variable, with what it lists TIED to the program's text (the seventh form; the later family's looks); each row that meets fmt, with fmt's text TOLD by the authors' own Lean function (tested against real Go, not proved from fmt's source: count such statements apart). THE CARD IS WHAT COUNTS. Prove the row's statement (the work); the ties are given (YtbhndnphimmjjaaGreatDoorTie.lean); close each card by the builder's one call (the guide's Derived/Test/ToyasCard.lean, 'card_holds'). Laid BY PROGRAM, IN A SANDBOX (cutbox-door.mjs). By AI agents, Wed Nov 11 2026. No macro, syntax, notation, axiom, sorry.
-/
import Derived.Test.YtbhndnphimmjjaaGreatDoorRows
import GoSem.ClaimSeven
namespace Go.Proofs.YtbhndnphimmjjaaGreatDoor
namespace Rows

/-- THE TIED CARD OF 'brindlewoodlaw7.AttributeSetIsRead'. -/
def attributeSetIsReadCard : Claim7 := { stood := { row := attributeSetIsReadRow, standIns := [], harness := (true, "6cac128345d91c9dede2644989e2bb3254f626ab5134e39c526d2ae67169c242"), looks := false }, kinds := [], alts := [], laidByText := true, laidKinds := [.data, .listed, .data, .pinned], laidTests := true, laidLooks := .later }
def AttributeSetIsReadCardSaid : Prop := Claim7.holds Tryz.pinned (.plain (OpenSpec.ofChange attributeSetIsReadSpec)) attributeSetIsReadCard

/-- THE TIED CARD OF 'brindlewoodlaw7.AttributeChangeMatchesSpec'. -/
def attributeChangeMatchesSpecCard : Claim7 := { stood := { row := attributeChangeMatchesSpecRow, standIns := [], harness := (true, "6cac128345d91c9dede2644989e2bb3254f626ab5134e39c526d2ae67169c242"), looks := false }, kinds := [], alts := [], laidByText := true, laidKinds := [.data, .data, .data, .data, .listed, .data, .pinned, .pinned, .pinned, .pinned, .pinned, .pinned], laidTests := true, laidLooks := .later }
def AttributeChangeMatchesSpecCardSaid : Prop := Claim7.holds Tryz.pinned (.plain (OpenSpec.ofChange attributeChangeMatchesSpecSpec)) attributeChangeMatchesSpecCard

/-- THE TIED CARD OF 'brindlewoodlaw7.AttributeGetMatchesSpec'. -/
def attributeGetMatchesSpecCard : Claim7 := { stood := { row := attributeGetMatchesSpecRow, standIns := [], harness := (true, "6cac128345d91c9dede2644989e2bb3254f626ab5134e39c526d2ae67169c242"), looks := false }, kinds := [], alts := [], laidByText := true, laidKinds := [.data, .data, .data, .data, .listed, .data, .pinned, .pinned, .pinned, .pinned, .pinned, .pinned], laidTests := true, laidLooks := .later }
def AttributeGetMatchesSpecCardSaid : Prop := Claim7.holds Tryz.pinned (.plain (OpenSpec.ofChange attributeGetMatchesSpecSpec)) attributeGetMatchesSpecCard

/-- THE SECOND FORM's CARD OF 'brindlewoodlaw7.AttributeSetIsRead'. -/
def attributeSetIsReadUptoCard : Claim7 := { stood := { row := attributeSetIsReadUptoRow, standIns := [], harness := (true, "6cac128345d91c9dede2644989e2bb3254f626ab5134e39c526d2ae67169c242"), looks := false }, kinds := [], alts := [], laidByText := true, laidKinds := [.data, .listed, .data, .pinned], laidTests := true, laidLooks := .later }
def AttributeSetIsReadUptoCardSaid : Prop := Claim7.holds Tryz.pinned (.plain (OpenSpec.upto attributeSetIsReadSpec)) attributeSetIsReadUptoCard

/-- THE SECOND FORM's CARD OF 'brindlewoodlaw7.AttributeChangeMatchesSpec'. -/
def attributeChangeMatchesSpecUptoCard : Claim7 := { stood := { row := attributeChangeMatchesSpecUptoRow, standIns := [], harness := (true, "6cac128345d91c9dede2644989e2bb3254f626ab5134e39c526d2ae67169c242"), looks := false }, kinds := [], alts := [], laidByText := true, laidKinds := [.data, .data, .data, .data, .listed, .data, .pinned, .pinned, .pinned, .pinned, .pinned, .pinned], laidTests := true, laidLooks := .later }
def AttributeChangeMatchesSpecUptoCardSaid : Prop := Claim7.holds Tryz.pinned (.plain (OpenSpec.upto attributeChangeMatchesSpecSpec)) attributeChangeMatchesSpecUptoCard

/-- THE SECOND FORM's CARD OF 'brindlewoodlaw7.AttributeGetMatchesSpec'. -/
def attributeGetMatchesSpecUptoCard : Claim7 := { stood := { row := attributeGetMatchesSpecUptoRow, standIns := [], harness := (true, "6cac128345d91c9dede2644989e2bb3254f626ab5134e39c526d2ae67169c242"), looks := false }, kinds := [], alts := [], laidByText := true, laidKinds := [.data, .data, .data, .data, .listed, .data, .pinned, .pinned, .pinned, .pinned, .pinned, .pinned], laidTests := true, laidLooks := .later }
def AttributeGetMatchesSpecUptoCardSaid : Prop := Claim7.holds Tryz.pinned (.plain (OpenSpec.upto attributeGetMatchesSpecSpec)) attributeGetMatchesSpecUptoCard
end Rows
end Go.Proofs.YtbhndnphimmjjaaGreatDoor
