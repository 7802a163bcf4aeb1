/-
  DERIVED. GIVEN WITH THE SEED: THE CARDS: each row of YtifgelimmddkpaaGreatDoorRows.lean that lists a variable, with what it lists TIED to the program's text (the seventh form; the later family's looks); each row that meets fmt, with fmt's text TOLD by the authors' own Lean function (tested against real Go, not proved from fmt's source: count such statements apart). THE CARD IS WHAT COUNTS. Prove the row's statement (the work); the ties are given (YtifgelimmddkpaaGreatDoorTie.lean); close each card by the builder's one call (the guide's Derived/Test/ToyasCard.lean, 'card_holds'). Laid BY PROGRAM, IN A SANDBOX (cutbox-door.mjs). By AI agents, Wed Nov 11 2026. No macro, syntax, notation, axiom, sorry.
-/
import Derived.Test.YtifgelimmddkpaaGreatDoorRows
import GoSem.ClaimSeven
namespace Go.Proofs.YtifgelimmddkpaaGreatDoor
namespace Rows

/-- THE TIED CARD OF 'brindlewoodlaw7.AttributeSetIsRead'. -/
def attributeSetIsReadCard : Claim7 := { stood := { row := attributeSetIsReadRow, standIns := [], harness := (true, "092487a67af928e5a9b163dcc5a41d5cab4728b1e14f86f2090bd3a959df2c69"), looks := false }, kinds := [], alts := [], laidByText := true, laidKinds := [.data, .listed, .data, .pinned], laidTests := true, laidLooks := .later }
def AttributeSetIsReadCardSaid : Prop := Claim7.holds Tryz.pinned (.plain (OpenSpec.ofChange attributeSetIsReadSpec)) attributeSetIsReadCard

/-- THE TIED CARD OF 'brindlewoodlaw7.InlineAttrMatchesSpec'. -/
def inlineAttrMatchesSpecCard : Claim7 := { stood := { row := inlineAttrMatchesSpecRow, standIns := [], harness := (true, "092487a67af928e5a9b163dcc5a41d5cab4728b1e14f86f2090bd3a959df2c69"), looks := false }, kinds := [], alts := [], laidByText := true, laidKinds := [.data, .data, .data, .data, .listed, .data, .pinned, .pinned, .pinned, .pinned, .pinned, .pinned], laidTests := true, laidLooks := .later }
def InlineAttrMatchesSpecCardSaid : Prop := Claim7.holds Tryz.pinned (.plain (OpenSpec.ofChange inlineAttrMatchesSpecSpec)) inlineAttrMatchesSpecCard

/-- THE SECOND FORM's CARD OF 'brindlewoodlaw7.AttributeSetIsRead'. -/
def attributeSetIsReadUptoCard : Claim7 := { stood := { row := attributeSetIsReadUptoRow, standIns := [], harness := (true, "092487a67af928e5a9b163dcc5a41d5cab4728b1e14f86f2090bd3a959df2c69"), looks := false }, kinds := [], alts := [], laidByText := true, laidKinds := [.data, .listed, .data, .pinned], laidTests := true, laidLooks := .later }
def AttributeSetIsReadUptoCardSaid : Prop := Claim7.holds Tryz.pinned (.plain (OpenSpec.upto attributeSetIsReadSpec)) attributeSetIsReadUptoCard

/-- THE SECOND FORM's CARD OF 'brindlewoodlaw7.InlineAttrMatchesSpec'. -/
def inlineAttrMatchesSpecUptoCard : Claim7 := { stood := { row := inlineAttrMatchesSpecUptoRow, standIns := [], harness := (true, "092487a67af928e5a9b163dcc5a41d5cab4728b1e14f86f2090bd3a959df2c69"), looks := false }, kinds := [], alts := [], laidByText := true, laidKinds := [.data, .data, .data, .data, .listed, .data, .pinned, .pinned, .pinned, .pinned, .pinned, .pinned], laidTests := true, laidLooks := .later }
def InlineAttrMatchesSpecUptoCardSaid : Prop := Claim7.holds Tryz.pinned (.plain (OpenSpec.upto inlineAttrMatchesSpecSpec)) inlineAttrMatchesSpecUptoCard
end Rows
end Go.Proofs.YtifgelimmddkpaaGreatDoor
