/-
  DERIVED. GIVEN WITH THE SEED: THE CARDS: each row of YteljekdggfhhmaaGreatDoorRows.lean that lists a variable, with what it lists TIED to the program's text (the seventh form; the later family's looks); each row that meets fmt, with fmt's text TOLD by the authors' own Lean function (tested against real Go, not proved from fmt's source: count such statements apart). THE CARD IS WHAT COUNTS. Prove the row's statement (the work); the ties are given (YteljekdggfhhmaaGreatDoorTie.lean); close each card by the builder's one call (the guide's Derived/Test/ToyasCard.lean, 'card_holds'). Laid BY PROGRAM, IN A SANDBOX (cutbox-door.mjs). By AI agents, Wed Nov 11 2026. No macro, syntax, notation, axiom, sorry.
-/
import Derived.Test.YteljekdggfhhmaaGreatDoorRows
import GoSem.ClaimSeven
namespace Go.Proofs.YteljekdggfhhmaaGreatDoor
namespace Rows

/-- THE TIED CARD OF 'brindlewoodlaw7.RaisingMakesMatchesSpec'. -/
def raisingMakesMatchesSpecCard : Claim7 := { stood := { row := raisingMakesMatchesSpecRow, standIns := [], harness := (true, "81388eb5f7182934afaaf121d148b91fab455fb0c712971729c8fe93bf14786e"), looks := false }, kinds := [], alts := [], laidByText := true, laidKinds := [.data, .data, .data, .data, .listed, .data, .pinned, .pinned, .pinned, .pinned, .pinned, .pinned], laidTests := true, laidLooks := .later }
def RaisingMakesMatchesSpecCardSaid : Prop := Claim7.holds Tryz.pinned (.plain (OpenSpec.ofChange raisingMakesMatchesSpecSpec)) raisingMakesMatchesSpecCard

/-- THE TIED CARD OF 'brindlewoodlaw7.RaisingChangesMatchSpec'. -/
def raisingChangesMatchSpecCard : Claim7 := { stood := { row := raisingChangesMatchSpecRow, standIns := [], harness := (true, "81388eb5f7182934afaaf121d148b91fab455fb0c712971729c8fe93bf14786e"), looks := false }, kinds := [], alts := [], laidByText := true, laidKinds := [.data, .data, .data, .data, .listed, .data, .pinned, .pinned, .pinned, .pinned, .pinned, .pinned], laidTests := true, laidLooks := .later }
def RaisingChangesMatchSpecCardSaid : Prop := Claim7.holds Tryz.pinned (.plain (OpenSpec.ofChange raisingChangesMatchSpecSpec)) raisingChangesMatchSpecCard

/-- THE TIED CARD OF 'brindlewoodlaw7.RaisingDivideMatchesSpec'. -/
def raisingDivideMatchesSpecCard : Claim7 := { stood := { row := raisingDivideMatchesSpecRow, standIns := [], harness := (true, "81388eb5f7182934afaaf121d148b91fab455fb0c712971729c8fe93bf14786e"), looks := false }, kinds := [], alts := [], laidByText := true, laidKinds := [.data, .data, .data, .data, .listed, .data, .pinned, .pinned, .pinned, .pinned, .pinned, .pinned], laidTests := true, laidLooks := .later }
def RaisingDivideMatchesSpecCardSaid : Prop := Claim7.holds Tryz.pinned (.plain (OpenSpec.ofChange raisingDivideMatchesSpecSpec)) raisingDivideMatchesSpecCard

/-- THE TIED CARD OF 'brindlewoodlaw7.OperatorsPutMatchesSpec'. -/
def operatorsPutMatchesSpecCard : Claim7 := { stood := { row := operatorsPutMatchesSpecRow, standIns := [], harness := (true, "81388eb5f7182934afaaf121d148b91fab455fb0c712971729c8fe93bf14786e"), looks := false }, kinds := [], alts := [], laidByText := true, laidKinds := [.data, .data, .data, .data, .listed, .data, .pinned, .pinned, .pinned, .pinned, .pinned, .pinned], laidTests := true, laidLooks := .later }
def OperatorsPutMatchesSpecCardSaid : Prop := Claim7.holds Tryz.pinned (.plain (OpenSpec.ofChange operatorsPutMatchesSpecSpec)) operatorsPutMatchesSpecCard

/-- THE SECOND FORM's CARD OF 'brindlewoodlaw7.RaisingMakesMatchesSpec'. -/
def raisingMakesMatchesSpecUptoCard : Claim7 := { stood := { row := raisingMakesMatchesSpecUptoRow, standIns := [], harness := (true, "81388eb5f7182934afaaf121d148b91fab455fb0c712971729c8fe93bf14786e"), looks := false }, kinds := [], alts := [], laidByText := true, laidKinds := [.data, .data, .data, .data, .listed, .data, .pinned, .pinned, .pinned, .pinned, .pinned, .pinned], laidTests := true, laidLooks := .later }
def RaisingMakesMatchesSpecUptoCardSaid : Prop := Claim7.holds Tryz.pinned (.plain (OpenSpec.upto raisingMakesMatchesSpecSpec)) raisingMakesMatchesSpecUptoCard

/-- THE SECOND FORM's CARD OF 'brindlewoodlaw7.RaisingChangesMatchSpec'. -/
def raisingChangesMatchSpecUptoCard : Claim7 := { stood := { row := raisingChangesMatchSpecUptoRow, standIns := [], harness := (true, "81388eb5f7182934afaaf121d148b91fab455fb0c712971729c8fe93bf14786e"), looks := false }, kinds := [], alts := [], laidByText := true, laidKinds := [.data, .data, .data, .data, .listed, .data, .pinned, .pinned, .pinned, .pinned, .pinned, .pinned], laidTests := true, laidLooks := .later }
def RaisingChangesMatchSpecUptoCardSaid : Prop := Claim7.holds Tryz.pinned (.plain (OpenSpec.upto raisingChangesMatchSpecSpec)) raisingChangesMatchSpecUptoCard

/-- THE SECOND FORM's CARD OF 'brindlewoodlaw7.RaisingDivideMatchesSpec'. -/
def raisingDivideMatchesSpecUptoCard : Claim7 := { stood := { row := raisingDivideMatchesSpecUptoRow, standIns := [], harness := (true, "81388eb5f7182934afaaf121d148b91fab455fb0c712971729c8fe93bf14786e"), looks := false }, kinds := [], alts := [], laidByText := true, laidKinds := [.data, .data, .data, .data, .listed, .data, .pinned, .pinned, .pinned, .pinned, .pinned, .pinned], laidTests := true, laidLooks := .later }
def RaisingDivideMatchesSpecUptoCardSaid : Prop := Claim7.holds Tryz.pinned (.plain (OpenSpec.upto raisingDivideMatchesSpecSpec)) raisingDivideMatchesSpecUptoCard

/-- THE SECOND FORM's CARD OF 'brindlewoodlaw7.OperatorsPutMatchesSpec'. -/
def operatorsPutMatchesSpecUptoCard : Claim7 := { stood := { row := operatorsPutMatchesSpecUptoRow, standIns := [], harness := (true, "81388eb5f7182934afaaf121d148b91fab455fb0c712971729c8fe93bf14786e"), looks := false }, kinds := [], alts := [], laidByText := true, laidKinds := [.data, .data, .data, .data, .listed, .data, .pinned, .pinned, .pinned, .pinned, .pinned, .pinned], laidTests := true, laidLooks := .later }
def OperatorsPutMatchesSpecUptoCardSaid : Prop := Claim7.holds Tryz.pinned (.plain (OpenSpec.upto operatorsPutMatchesSpecSpec)) operatorsPutMatchesSpecUptoCard
end Rows
end Go.Proofs.YteljekdggfhhmaaGreatDoor
