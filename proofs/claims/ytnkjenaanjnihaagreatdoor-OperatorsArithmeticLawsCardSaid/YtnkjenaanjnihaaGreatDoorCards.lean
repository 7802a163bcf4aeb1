/-
  DERIVED. GIVEN WITH THE SEED: THE CARDS: each row of YtnkjenaanjnihaaGreatDoorRows.lean that lists a variable, with what it lists TIED to the program's text (the seventh form; the later family's looks); each row that meets fmt, with fmt's text TOLD by the authors' own Lean function (tested against real Go, not proved from fmt's source: count such statements apart). THE CARD IS WHAT COUNTS. Prove the row's statement (the work); the ties are given (YtnkjenaanjnihaaGreatDoorTie.lean); close each card by the builder's one call (the guide's Derived/Test/ToyasCard.lean, 'card_holds'). Laid BY PROGRAM, IN A SANDBOX (cutbox-door.mjs). By AI agents, Wed Nov 11 2026. No macro, syntax, notation, axiom, sorry.
-/
import Derived.Test.YtnkjenaanjnihaaGreatDoorRows
import GoSem.ClaimSeven
namespace Go.Proofs.YtnkjenaanjnihaaGreatDoor
namespace Rows

/-- THE TIED CARD OF 'brindlewoodlaw7.OperatorsDivisionHolds'. -/
def operatorsDivisionHoldsCard : Claim7 := { stood := { row := operatorsDivisionHoldsRow, standIns := [], harness := (true, "2c3cd4f733f81f2ff7a1d183d6096b8c17beccf3f4074ddabb7d4a758aafd5f9"), looks := false }, kinds := [], alts := [], laidByText := true, laidKinds := [.data, .listed, .data, .pinned], laidTests := true, laidLooks := .later }
def OperatorsDivisionHoldsCardSaid : Prop := Claim7.holds Tryz.pinned (.plain (OpenSpec.ofChange operatorsDivisionHoldsSpec)) operatorsDivisionHoldsCard

/-- THE TIED CARD OF 'brindlewoodlaw7.OperatorsArithmeticLaws'. -/
def operatorsArithmeticLawsCard : Claim7 := { stood := { row := operatorsArithmeticLawsRow, standIns := [], harness := (true, "2c3cd4f733f81f2ff7a1d183d6096b8c17beccf3f4074ddabb7d4a758aafd5f9"), looks := false }, kinds := [], alts := [], laidByText := true, laidKinds := [.data, .listed, .data, .pinned], laidTests := true, laidLooks := .later }
def OperatorsArithmeticLawsCardSaid : Prop := Claim7.holds Tryz.pinned (.plain (OpenSpec.ofChange operatorsArithmeticLawsSpec)) operatorsArithmeticLawsCard

/-- THE SECOND FORM's CARD OF 'brindlewoodlaw7.OperatorsDivisionHolds'. -/
def operatorsDivisionHoldsUptoCard : Claim7 := { stood := { row := operatorsDivisionHoldsUptoRow, standIns := [], harness := (true, "2c3cd4f733f81f2ff7a1d183d6096b8c17beccf3f4074ddabb7d4a758aafd5f9"), looks := false }, kinds := [], alts := [], laidByText := true, laidKinds := [.data, .listed, .data, .pinned], laidTests := true, laidLooks := .later }
def OperatorsDivisionHoldsUptoCardSaid : Prop := Claim7.holds Tryz.pinned (.plain (OpenSpec.upto operatorsDivisionHoldsSpec)) operatorsDivisionHoldsUptoCard

/-- THE SECOND FORM's CARD OF 'brindlewoodlaw7.OperatorsArithmeticLaws'. -/
def operatorsArithmeticLawsUptoCard : Claim7 := { stood := { row := operatorsArithmeticLawsUptoRow, standIns := [], harness := (true, "2c3cd4f733f81f2ff7a1d183d6096b8c17beccf3f4074ddabb7d4a758aafd5f9"), looks := false }, kinds := [], alts := [], laidByText := true, laidKinds := [.data, .listed, .data, .pinned], laidTests := true, laidLooks := .later }
def OperatorsArithmeticLawsUptoCardSaid : Prop := Claim7.holds Tryz.pinned (.plain (OpenSpec.upto operatorsArithmeticLawsSpec)) operatorsArithmeticLawsUptoCard
end Rows
end Go.Proofs.YtnkjenaanjnihaaGreatDoor
