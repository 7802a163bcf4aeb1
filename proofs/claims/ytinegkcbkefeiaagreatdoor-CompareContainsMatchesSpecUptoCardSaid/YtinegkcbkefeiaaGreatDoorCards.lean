/-
  DERIVED. GIVEN WITH THE SEED: THE CARDS: each row of YtinegkcbkefeiaaGreatDoorRows.lean that lists a variable, with what it lists TIED to the program's text (the seventh form; the later family's looks); each row that meets fmt, with fmt's text TOLD by the authors' own Lean function (tested against real Go, not proved from fmt's source: count such statements apart). THE CARD IS WHAT COUNTS. Prove the row's statement (the work); the ties are given (YtinegkcbkefeiaaGreatDoorTie.lean); close each card by the builder's one call (the guide's Derived/Test/ToyasCard.lean, 'card_holds'). Laid BY PROGRAM, IN A SANDBOX (cutbox-door.mjs). By AI agents, Wed Nov 11 2026. No macro, syntax, notation, axiom, sorry.
-/
import Derived.Test.YtinegkcbkefeiaaGreatDoorRows
import GoSem.ClaimSeven
namespace Go.Proofs.YtinegkcbkefeiaaGreatDoor
namespace Rows

/-- THE TIED CARD OF 'brindlewoodlaw7.CompareEqualIsAnEquivalence'. -/
def compareEqualIsAnEquivalenceCard : Claim7 := { stood := { row := compareEqualIsAnEquivalenceRow, standIns := [], harness := (true, "c4a94d14c174d83e4858c192e11aaf8f66a8e313d434e924768d18c79acdc56d"), looks := true }, kinds := [], alts := [], laidByText := true, laidKinds := [.data, .listed, .data, .pinned], laidTests := true, laidLooks := .later }
def CompareEqualIsAnEquivalenceCardSaid : Prop := Claim7.holds Tryz.pinned (.plain (OpenSpec.ofChange compareEqualIsAnEquivalenceSpec)) compareEqualIsAnEquivalenceCard

/-- THE TIED CARD OF 'brindlewoodlaw7.CompareOrderIsTotal'. -/
def compareOrderIsTotalCard : Claim7 := { stood := { row := compareOrderIsTotalRow, standIns := [], harness := (true, "c4a94d14c174d83e4858c192e11aaf8f66a8e313d434e924768d18c79acdc56d"), looks := true }, kinds := [], alts := [], laidByText := true, laidKinds := [.data, .listed, .data, .pinned], laidTests := true, laidLooks := .later }
def CompareOrderIsTotalCardSaid : Prop := Claim7.holds Tryz.pinned (.plain (OpenSpec.ofChange compareOrderIsTotalSpec)) compareOrderIsTotalCard

/-- THE TIED CARD OF 'brindlewoodlaw7.CompareEqualMatchesSpec'. -/
def compareEqualMatchesSpecCard : Claim7 := { stood := { row := compareEqualMatchesSpecRow, standIns := [], harness := (true, "c4a94d14c174d83e4858c192e11aaf8f66a8e313d434e924768d18c79acdc56d"), looks := true }, kinds := [], alts := [], laidByText := true, laidKinds := [.data, .listed, .data, .pinned], laidTests := true, laidLooks := .later }
def CompareEqualMatchesSpecCardSaid : Prop := Claim7.holds Tryz.pinned (.plain (OpenSpec.ofChange compareEqualMatchesSpecSpec)) compareEqualMatchesSpecCard

/-- THE TIED CARD OF 'brindlewoodlaw7.CompareContainsMatchesSpec'. -/
def compareContainsMatchesSpecCard : Claim7 := { stood := { row := compareContainsMatchesSpecRow, standIns := [], harness := (true, "c4a94d14c174d83e4858c192e11aaf8f66a8e313d434e924768d18c79acdc56d"), looks := true }, kinds := [], alts := [], laidByText := true, laidKinds := [.data, .listed, .data, .pinned], laidTests := true, laidLooks := .later }
def CompareContainsMatchesSpecCardSaid : Prop := Claim7.holds Tryz.pinned (.plain (OpenSpec.ofChange compareContainsMatchesSpecSpec)) compareContainsMatchesSpecCard

/-- THE TIED CARD OF 'brindlewoodlaw7.ComparePlanMatchesSpec'. -/
def comparePlanMatchesSpecCard : Claim7 := { stood := { row := comparePlanMatchesSpecRow, standIns := [], harness := (true, "c4a94d14c174d83e4858c192e11aaf8f66a8e313d434e924768d18c79acdc56d"), looks := true }, kinds := [], alts := [], laidByText := true, laidKinds := [.data, .listed, .data, .pinned], laidTests := true, laidLooks := .later }
def ComparePlanMatchesSpecCardSaid : Prop := Claim7.holds Tryz.pinned (.plain (OpenSpec.ofChange comparePlanMatchesSpecSpec)) comparePlanMatchesSpecCard

/-- THE SECOND FORM's CARD OF 'brindlewoodlaw7.CompareEqualIsAnEquivalence'. -/
def compareEqualIsAnEquivalenceUptoCard : Claim7 := { stood := { row := compareEqualIsAnEquivalenceUptoRow, standIns := [], harness := (true, "c4a94d14c174d83e4858c192e11aaf8f66a8e313d434e924768d18c79acdc56d"), looks := true }, kinds := [], alts := [], laidByText := true, laidKinds := [.data, .listed, .data, .pinned], laidTests := true, laidLooks := .later }
def CompareEqualIsAnEquivalenceUptoCardSaid : Prop := Claim7.holds Tryz.pinned (.plain (OpenSpec.upto compareEqualIsAnEquivalenceSpec)) compareEqualIsAnEquivalenceUptoCard

/-- THE SECOND FORM's CARD OF 'brindlewoodlaw7.CompareOrderIsTotal'. -/
def compareOrderIsTotalUptoCard : Claim7 := { stood := { row := compareOrderIsTotalUptoRow, standIns := [], harness := (true, "c4a94d14c174d83e4858c192e11aaf8f66a8e313d434e924768d18c79acdc56d"), looks := true }, kinds := [], alts := [], laidByText := true, laidKinds := [.data, .listed, .data, .pinned], laidTests := true, laidLooks := .later }
def CompareOrderIsTotalUptoCardSaid : Prop := Claim7.holds Tryz.pinned (.plain (OpenSpec.upto compareOrderIsTotalSpec)) compareOrderIsTotalUptoCard

/-- THE SECOND FORM's CARD OF 'brindlewoodlaw7.CompareEqualMatchesSpec'. -/
def compareEqualMatchesSpecUptoCard : Claim7 := { stood := { row := compareEqualMatchesSpecUptoRow, standIns := [], harness := (true, "c4a94d14c174d83e4858c192e11aaf8f66a8e313d434e924768d18c79acdc56d"), looks := true }, kinds := [], alts := [], laidByText := true, laidKinds := [.data, .listed, .data, .pinned], laidTests := true, laidLooks := .later }
def CompareEqualMatchesSpecUptoCardSaid : Prop := Claim7.holds Tryz.pinned (.plain (OpenSpec.upto compareEqualMatchesSpecSpec)) compareEqualMatchesSpecUptoCard

/-- THE SECOND FORM's CARD OF 'brindlewoodlaw7.CompareContainsMatchesSpec'. -/
def compareContainsMatchesSpecUptoCard : Claim7 := { stood := { row := compareContainsMatchesSpecUptoRow, standIns := [], harness := (true, "c4a94d14c174d83e4858c192e11aaf8f66a8e313d434e924768d18c79acdc56d"), looks := true }, kinds := [], alts := [], laidByText := true, laidKinds := [.data, .listed, .data, .pinned], laidTests := true, laidLooks := .later }
def CompareContainsMatchesSpecUptoCardSaid : Prop := Claim7.holds Tryz.pinned (.plain (OpenSpec.upto compareContainsMatchesSpecSpec)) compareContainsMatchesSpecUptoCard

/-- THE SECOND FORM's CARD OF 'brindlewoodlaw7.ComparePlanMatchesSpec'. -/
def comparePlanMatchesSpecUptoCard : Claim7 := { stood := { row := comparePlanMatchesSpecUptoRow, standIns := [], harness := (true, "c4a94d14c174d83e4858c192e11aaf8f66a8e313d434e924768d18c79acdc56d"), looks := true }, kinds := [], alts := [], laidByText := true, laidKinds := [.data, .listed, .data, .pinned], laidTests := true, laidLooks := .later }
def ComparePlanMatchesSpecUptoCardSaid : Prop := Claim7.holds Tryz.pinned (.plain (OpenSpec.upto comparePlanMatchesSpecSpec)) comparePlanMatchesSpecUptoCard
end Rows
end Go.Proofs.YtinegkcbkefeiaaGreatDoor
