/-
  DERIVED. GIVEN WITH THE SEED: THE CARDS: each row of YtfkaepjlmgolhaaGreatDoorRows.lean that lists a variable, with what it lists TIED to the program's text (the seventh form; the later family's looks); each row that meets fmt, with fmt's text TOLD by the authors' own Lean function (tested against real Go, not proved from fmt's source: count such statements apart). THE CARD IS WHAT COUNTS. Prove the row's statement (the work); the ties are given (YtfkaepjlmgolhaaGreatDoorTie.lean); close each card by the builder's one call (the guide's Derived/Test/ToyasCard.lean, 'card_holds'). Laid BY PROGRAM, IN A SANDBOX (cutbox-door.mjs). By AI agents, Wed Nov 11 2026. No macro, syntax, notation, axiom, sorry.
-/
import Derived.Test.YtfkaepjlmgolhaaGreatDoorRows
import GoSem.ClaimSeven
namespace Go.Proofs.YtfkaepjlmgolhaaGreatDoor
namespace Rows

/-- THE TIED CARD OF 'brindlewoodlaw7.RaisingMatchesMatchesSpec'. -/
def raisingMatchesMatchesSpecCard : Claim7 := { stood := { row := raisingMatchesMatchesSpecRow, standIns := [], harness := (true, "efd46c7b0d84206876a6f5c4e787847c681197a24fbb2fb3e37d02d792783831"), looks := false }, kinds := [], alts := [], laidByText := true, laidKinds := [.data, .listed, .data, .pinned], laidTests := true, laidLooks := .later }
def RaisingMatchesMatchesSpecCardSaid : Prop := Claim7.holds Tryz.pinned (.plain (OpenSpec.ofChange raisingMatchesMatchesSpecSpec)) raisingMatchesMatchesSpecCard

/-- THE TIED CARD OF 'brindlewoodlaw7.HeapValuesMatchSpec'. -/
def heapValuesMatchSpecCard : Claim7 := { stood := { row := heapValuesMatchSpecRow, standIns := [], harness := (true, "efd46c7b0d84206876a6f5c4e787847c681197a24fbb2fb3e37d02d792783831"), looks := false }, kinds := [], alts := [], laidByText := true, laidKinds := [.data, .listed, .data, .pinned], laidTests := true, laidLooks := .later }
def HeapValuesMatchSpecCardSaid : Prop := Claim7.holds Tryz.pinned (.plain (OpenSpec.ofChange heapValuesMatchSpecSpec)) heapValuesMatchSpecCard

/-- THE TIED CARD OF 'brindlewoodlaw7.RaisingDividesAll'. -/
def raisingDividesAllCard : Claim7 := { stood := { row := raisingDividesAllRow, standIns := [], harness := (true, "efd46c7b0d84206876a6f5c4e787847c681197a24fbb2fb3e37d02d792783831"), looks := false }, kinds := [], alts := [], laidByText := true, laidKinds := [.data, .listed, .data, .pinned], laidTests := true, laidLooks := .later }
def RaisingDividesAllCardSaid : Prop := Claim7.holds Tryz.pinned (.plain (OpenSpec.ofChange raisingDividesAllSpec)) raisingDividesAllCard

/-- THE SECOND FORM's CARD OF 'brindlewoodlaw7.RaisingMatchesMatchesSpec'. -/
def raisingMatchesMatchesSpecUptoCard : Claim7 := { stood := { row := raisingMatchesMatchesSpecUptoRow, standIns := [], harness := (true, "efd46c7b0d84206876a6f5c4e787847c681197a24fbb2fb3e37d02d792783831"), looks := false }, kinds := [], alts := [], laidByText := true, laidKinds := [.data, .listed, .data, .pinned], laidTests := true, laidLooks := .later }
def RaisingMatchesMatchesSpecUptoCardSaid : Prop := Claim7.holds Tryz.pinned (.plain (OpenSpec.upto raisingMatchesMatchesSpecSpec)) raisingMatchesMatchesSpecUptoCard

/-- THE SECOND FORM's CARD OF 'brindlewoodlaw7.HeapValuesMatchSpec'. -/
def heapValuesMatchSpecUptoCard : Claim7 := { stood := { row := heapValuesMatchSpecUptoRow, standIns := [], harness := (true, "efd46c7b0d84206876a6f5c4e787847c681197a24fbb2fb3e37d02d792783831"), looks := false }, kinds := [], alts := [], laidByText := true, laidKinds := [.data, .listed, .data, .pinned], laidTests := true, laidLooks := .later }
def HeapValuesMatchSpecUptoCardSaid : Prop := Claim7.holds Tryz.pinned (.plain (OpenSpec.upto heapValuesMatchSpecSpec)) heapValuesMatchSpecUptoCard

/-- THE SECOND FORM's CARD OF 'brindlewoodlaw7.RaisingDividesAll'. -/
def raisingDividesAllUptoCard : Claim7 := { stood := { row := raisingDividesAllUptoRow, standIns := [], harness := (true, "efd46c7b0d84206876a6f5c4e787847c681197a24fbb2fb3e37d02d792783831"), looks := false }, kinds := [], alts := [], laidByText := true, laidKinds := [.data, .listed, .data, .pinned], laidTests := true, laidLooks := .later }
def RaisingDividesAllUptoCardSaid : Prop := Claim7.holds Tryz.pinned (.plain (OpenSpec.upto raisingDividesAllSpec)) raisingDividesAllUptoCard
end Rows
end Go.Proofs.YtfkaepjlmgolhaaGreatDoor
