/-
  NARROWER THAN 'FOR EVERY INPUT', by the rows' own cells (each row's printed sentence says how): ArgumentsCheckMatchesSpec: loops · ArgumentsBindMatchesSpec: loops · ArgumentsByName: loops.
  DERIVED. THE GIVEN ROWS OF THIS SEAT. 7 by the template 'for every input the law returns true; each argument reads behind the call as it read before'; 0 by the template 'total and deterministic' (their statements: YtbickehhnkhabaaTotals.lean).
  GIVEN WITH THE SEED: the statements are not yours to turn. If you find one false, say at which input.
  Laid BY PROGRAM, IN A SANDBOX (cutbox-rows.mjs): the forced cells as the released guide's own fill.sh prints them over the translation 6b2071b9ca7f56bd… (all of the seat's roots in one cut). By AI agents, Wed Nov 11 2026. No macro, syntax, notation, axiom, sorry.
-/
import Derived.Test.YtbickehhnkhabaaChecked
import GoSem.Claim
import GoSem.ClaimJoined
import GoSem.ClaimMapViews
import Derived.JoinedTies
import Derived.KernelRfl
namespace Go.Proofs.Ytbickehhnkhabaa
/- THE CELL 'sum', in the pinned program and in every row, IS THE sha256 OF THE DUMP (.gsa) THAT YtbickehhnkhabaaProg.lean LOADS. Nothing in Lean hashes anything: it is a label: what it is worth is what the hold of that sum in a sandbox is worth. -/
noncomputable def Try.pinned : Pinned := { name := "ytbickehhnkhabaa", sum := "6b2071b9ca7f56bd80c9f944f88bfb0a527e2d9110694c5a6f4f2ffcc346eb75", checked := Try.checked }
namespace Rows
def none {H : Type} : Left H := { results := [], args := [] }

/-- 'brindlewoodlaw7.LineageBeforeMatchesPlaces': WHATEVER THE INPUT: true; the input reads as it did. -/
def lineageBeforeMatchesPlacesSpec : ChangeSpec := { name := "lineageBeforeMatchesPlaces", fn := fun _ => fun
  | [d1, d2, d3] => { results := [.lit (.bool true)], args := [d1, d2, d3] }
  | _ => none }
def lineageBeforeMatchesPlacesRow : OpenClaim := { program := "ytbickehhnkhabaa", sum := "6b2071b9ca7f56bd80c9f944f88bfb0a527e2d9110694c5a6f4f2ffcc346eb75", func := "brindlewood/brindlewoodlaw7.LineageBeforeMatchesPlaces", spec := "lineageBeforeMatchesPlaces", apart := false }
def LineageBeforeMatchesPlacesSaid : Prop := lineageBeforeMatchesPlacesRow.holds Try.pinned (OpenSpec.ofChange lineageBeforeMatchesPlacesSpec)

/-- ITS FALSE NEIGHBOUR: 'it returns false'. Refute it at one input. -/
def lineageBeforeMatchesPlacesWrong : ChangeSpec := { name := "lineageBeforeMatchesPlaces", fn := fun _ => fun
  | [d1, d2, d3] => { results := [.lit (.bool false)], args := [d1, d2, d3] }
  | _ => none }
def LineageBeforeMatchesPlacesWrongFalsely : Prop := lineageBeforeMatchesPlacesRow.holds Try.pinned (OpenSpec.ofChange lineageBeforeMatchesPlacesWrong)

/-- 'brindlewoodlaw7.ArgumentsCheckMatchesSpec': WHATEVER THE INPUT: true; the input reads as it did. -/
def argumentsCheckMatchesSpecSpec : ChangeSpec := { name := "argumentsCheckMatchesSpec", fn := fun _ => fun
  | [d] => { results := [.lit (.bool true)], args := [d] }
  | _ => none }
def argumentsCheckMatchesSpecRow : OpenClaim := { program := "ytbickehhnkhabaa", sum := "6b2071b9ca7f56bd80c9f944f88bfb0a527e2d9110694c5a6f4f2ffcc346eb75", func := "brindlewood/brindlewoodlaw7.ArgumentsCheckMatchesSpec", spec := "argumentsCheckMatchesSpec", unfollowed := true, recurses := true, loops := true, apart := false }
def ArgumentsCheckMatchesSpecSaid : Prop := argumentsCheckMatchesSpecRow.holds Try.pinned (OpenSpec.ofChange argumentsCheckMatchesSpecSpec)

/-- ITS FALSE NEIGHBOUR: 'it returns false'. Refute it at one input. -/
def argumentsCheckMatchesSpecWrong : ChangeSpec := { name := "argumentsCheckMatchesSpec", fn := fun _ => fun
  | [d] => { results := [.lit (.bool false)], args := [d] }
  | _ => none }
def ArgumentsCheckMatchesSpecWrongFalsely : Prop := argumentsCheckMatchesSpecRow.holds Try.pinned (OpenSpec.ofChange argumentsCheckMatchesSpecWrong)

/-- 'brindlewoodlaw7.LineageOrderMatchesSpec': WHATEVER THE INPUT: true; the input reads as it did. -/
def lineageOrderMatchesSpecSpec : ChangeSpec := { name := "lineageOrderMatchesSpec", fn := fun _ => fun
  | [d] => { results := [.lit (.bool true)], args := [d] }
  | _ => none }
def lineageOrderMatchesSpecRow : OpenClaim := { program := "ytbickehhnkhabaa", sum := "6b2071b9ca7f56bd80c9f944f88bfb0a527e2d9110694c5a6f4f2ffcc346eb75", func := "brindlewood/brindlewoodlaw7.LineageOrderMatchesSpec", spec := "lineageOrderMatchesSpec", unfollowed := true, recurses := true, apart := false }
def LineageOrderMatchesSpecSaid : Prop := lineageOrderMatchesSpecRow.holds Try.pinned (OpenSpec.ofChange lineageOrderMatchesSpecSpec)

/-- ITS FALSE NEIGHBOUR: 'it returns false'. Refute it at one input. -/
def lineageOrderMatchesSpecWrong : ChangeSpec := { name := "lineageOrderMatchesSpec", fn := fun _ => fun
  | [d] => { results := [.lit (.bool false)], args := [d] }
  | _ => none }
def LineageOrderMatchesSpecWrongFalsely : Prop := lineageOrderMatchesSpecRow.holds Try.pinned (OpenSpec.ofChange lineageOrderMatchesSpecWrong)

/-- 'brindlewoodlaw7.LineageKeepsOrders': WHATEVER THE INPUT: true; the input reads as it did. -/
def lineageKeepsOrdersSpec : ChangeSpec := { name := "lineageKeepsOrders", fn := fun _ => fun
  | [d] => { results := [.lit (.bool true)], args := [d] }
  | _ => none }
def lineageKeepsOrdersRow : OpenClaim := { program := "ytbickehhnkhabaa", sum := "6b2071b9ca7f56bd80c9f944f88bfb0a527e2d9110694c5a6f4f2ffcc346eb75", func := "brindlewood/brindlewoodlaw7.LineageKeepsOrders", spec := "lineageKeepsOrders", unfollowed := true, recurses := true, apart := false }
def LineageKeepsOrdersSaid : Prop := lineageKeepsOrdersRow.holds Try.pinned (OpenSpec.ofChange lineageKeepsOrdersSpec)

/-- ITS FALSE NEIGHBOUR: 'it returns false'. Refute it at one input. -/
def lineageKeepsOrdersWrong : ChangeSpec := { name := "lineageKeepsOrders", fn := fun _ => fun
  | [d] => { results := [.lit (.bool false)], args := [d] }
  | _ => none }
def LineageKeepsOrdersWrongFalsely : Prop := lineageKeepsOrdersRow.holds Try.pinned (OpenSpec.ofChange lineageKeepsOrdersWrong)

/-- 'brindlewoodlaw7.ArgumentsBindMatchesSpec': WHATEVER THE INPUT: true; the input reads as it did. -/
def argumentsBindMatchesSpecSpec : ChangeSpec := { name := "argumentsBindMatchesSpec", fn := fun _ => fun
  | [d1, d2, d3, d4] => { results := [.lit (.bool true)], args := [d1, d2, d3, d4] }
  | _ => none }
def argumentsBindMatchesSpecRow : OpenClaim := { program := "ytbickehhnkhabaa", sum := "6b2071b9ca7f56bd80c9f944f88bfb0a527e2d9110694c5a6f4f2ffcc346eb75", func := "brindlewood/brindlewoodlaw7.ArgumentsBindMatchesSpec", spec := "argumentsBindMatchesSpec", unfollowed := true, recurses := true, loops := true, apart := false }
def ArgumentsBindMatchesSpecSaid : Prop := argumentsBindMatchesSpecRow.holds Try.pinned (OpenSpec.ofChange argumentsBindMatchesSpecSpec)

/-- ITS FALSE NEIGHBOUR: 'it returns false'. Refute it at one input. -/
def argumentsBindMatchesSpecWrong : ChangeSpec := { name := "argumentsBindMatchesSpec", fn := fun _ => fun
  | [d1, d2, d3, d4] => { results := [.lit (.bool false)], args := [d1, d2, d3, d4] }
  | _ => none }
def ArgumentsBindMatchesSpecWrongFalsely : Prop := argumentsBindMatchesSpecRow.holds Try.pinned (OpenSpec.ofChange argumentsBindMatchesSpecWrong)

/-- 'brindlewoodlaw7.ArgumentsByName': WHATEVER THE INPUT: true; the input reads as it did. -/
def argumentsByNameSpec : ChangeSpec := { name := "argumentsByName", fn := fun _ => fun
  | [d1, d2, d3, d4, d5] => { results := [.lit (.bool true)], args := [d1, d2, d3, d4, d5] }
  | _ => none }
def argumentsByNameRow : OpenClaim := { program := "ytbickehhnkhabaa", sum := "6b2071b9ca7f56bd80c9f944f88bfb0a527e2d9110694c5a6f4f2ffcc346eb75", func := "brindlewood/brindlewoodlaw7.ArgumentsByName", spec := "argumentsByName", unfollowed := true, recurses := true, loops := true, apart := false }
def ArgumentsByNameSaid : Prop := argumentsByNameRow.holds Try.pinned (OpenSpec.ofChange argumentsByNameSpec)

/-- ITS FALSE NEIGHBOUR: 'it returns false'. Refute it at one input. -/
def argumentsByNameWrong : ChangeSpec := { name := "argumentsByName", fn := fun _ => fun
  | [d1, d2, d3, d4, d5] => { results := [.lit (.bool false)], args := [d1, d2, d3, d4, d5] }
  | _ => none }
def ArgumentsByNameWrongFalsely : Prop := argumentsByNameRow.holds Try.pinned (OpenSpec.ofChange argumentsByNameWrong)

/-- 'brindlewoodlaw7.LineageBlameIsACircle': WHATEVER THE INPUT: true; the input reads as it did. -/
def lineageBlameIsACircleSpec : ChangeSpec := { name := "lineageBlameIsACircle", fn := fun _ => fun
  | [d] => { results := [.lit (.bool true)], args := [d] }
  | _ => none }
def lineageBlameIsACircleRow : OpenClaim := { program := "ytbickehhnkhabaa", sum := "6b2071b9ca7f56bd80c9f944f88bfb0a527e2d9110694c5a6f4f2ffcc346eb75", func := "brindlewood/brindlewoodlaw7.LineageBlameIsACircle", spec := "lineageBlameIsACircle", unfollowed := true, recurses := true, apart := false }
def LineageBlameIsACircleSaid : Prop := lineageBlameIsACircleRow.holds Try.pinned (OpenSpec.ofChange lineageBlameIsACircleSpec)

/-- ITS FALSE NEIGHBOUR: 'it returns false'. Refute it at one input. -/
def lineageBlameIsACircleWrong : ChangeSpec := { name := "lineageBlameIsACircle", fn := fun _ => fun
  | [d] => { results := [.lit (.bool false)], args := [d] }
  | _ => none }
def LineageBlameIsACircleWrongFalsely : Prop := lineageBlameIsACircleRow.holds Try.pinned (OpenSpec.ofChange lineageBlameIsACircleWrong)

/- THE SECOND FORM. 'bulk': how many values and letters a reading holds, each counted each time it is reached (what is shared counts as often as it is met; a slice's spare places count too). A statement '..UptoSaid' is the law's where the arguments, and the package variables that the reading takes, are together of bulk at most 1048576: NARROWER than '..Said'. Prove '..Said' where nothing that the law and all that it calls make is longer than what came in: it says more and counts as full. Else prove '..UptoSaid'. A law counts once. -/
mutual
def uptoBulk {H : Type} : DataW H → Nat
  | .lit (.string bytes) => bytes.length + 1
  | .lit _ => 1
  | .nil => 1
  | .ptr d => uptoBulk d + 1
  | .slice elems spare => uptoBulkAll elems + uptoBulkAll spare + 1
  | .agg parts => uptoBulkAll parts + 1
  | .iface _ d => uptoBulk d + 1
  | .map entries => uptoBulkEntries entries + 1
  | .held _ => 1
def uptoBulkAll {H : Type} : List (DataW H) → Nat
  | [] => 0
  | d :: r => uptoBulk d + uptoBulkAll r
def uptoBulkEntries {H : Type} : List (Lit × DataW H) → Nat
  | [] => 0
  | x :: r => uptoBulkEntry x + uptoBulkEntries r
def uptoBulkEntry {H : Type} : Lit × DataW H → Nat
  | (.string bytes, d) => bytes.length + uptoBulk d + 1
  | (_, d) => uptoBulk d + 1
 end
def uptoSmall : (H : Type) → List (DataW H) → Bool := fun _ ds => decide (uptoBulkAll ds ≤ 1048576)
def OpenSpec.upto (s : _root_.Go.ChangeSpec) : _root_.Go.OpenSpec := { _root_.Go.OpenSpec.ofChange s with cond := some uptoSmall }

/-- 'brindlewoodlaw7.LineageBeforeMatchesPlaces', WHERE WHAT IT READS IS OF BULK AT MOST 1048576: true; the input reads as it did. -/
def lineageBeforeMatchesPlacesUptoRow : OpenClaim := { program := "ytbickehhnkhabaa", sum := "6b2071b9ca7f56bd80c9f944f88bfb0a527e2d9110694c5a6f4f2ffcc346eb75", func := "brindlewood/brindlewoodlaw7.LineageBeforeMatchesPlaces", spec := "lineageBeforeMatchesPlaces", apart := false, narrowed := true }
def LineageBeforeMatchesPlacesUptoSaid : Prop := lineageBeforeMatchesPlacesUptoRow.holds Try.pinned (OpenSpec.upto lineageBeforeMatchesPlacesSpec)

/-- 'brindlewoodlaw7.ArgumentsCheckMatchesSpec', WHERE WHAT IT READS IS OF BULK AT MOST 1048576: true; the input reads as it did. -/
def argumentsCheckMatchesSpecUptoRow : OpenClaim := { program := "ytbickehhnkhabaa", sum := "6b2071b9ca7f56bd80c9f944f88bfb0a527e2d9110694c5a6f4f2ffcc346eb75", func := "brindlewood/brindlewoodlaw7.ArgumentsCheckMatchesSpec", spec := "argumentsCheckMatchesSpec", unfollowed := true, recurses := true, loops := true, apart := false, narrowed := true }
def ArgumentsCheckMatchesSpecUptoSaid : Prop := argumentsCheckMatchesSpecUptoRow.holds Try.pinned (OpenSpec.upto argumentsCheckMatchesSpecSpec)

/-- 'brindlewoodlaw7.LineageOrderMatchesSpec', WHERE WHAT IT READS IS OF BULK AT MOST 1048576: true; the input reads as it did. -/
def lineageOrderMatchesSpecUptoRow : OpenClaim := { program := "ytbickehhnkhabaa", sum := "6b2071b9ca7f56bd80c9f944f88bfb0a527e2d9110694c5a6f4f2ffcc346eb75", func := "brindlewood/brindlewoodlaw7.LineageOrderMatchesSpec", spec := "lineageOrderMatchesSpec", unfollowed := true, recurses := true, apart := false, narrowed := true }
def LineageOrderMatchesSpecUptoSaid : Prop := lineageOrderMatchesSpecUptoRow.holds Try.pinned (OpenSpec.upto lineageOrderMatchesSpecSpec)

/-- 'brindlewoodlaw7.LineageKeepsOrders', WHERE WHAT IT READS IS OF BULK AT MOST 1048576: true; the input reads as it did. -/
def lineageKeepsOrdersUptoRow : OpenClaim := { program := "ytbickehhnkhabaa", sum := "6b2071b9ca7f56bd80c9f944f88bfb0a527e2d9110694c5a6f4f2ffcc346eb75", func := "brindlewood/brindlewoodlaw7.LineageKeepsOrders", spec := "lineageKeepsOrders", unfollowed := true, recurses := true, apart := false, narrowed := true }
def LineageKeepsOrdersUptoSaid : Prop := lineageKeepsOrdersUptoRow.holds Try.pinned (OpenSpec.upto lineageKeepsOrdersSpec)

/-- 'brindlewoodlaw7.ArgumentsBindMatchesSpec', WHERE WHAT IT READS IS OF BULK AT MOST 1048576: true; the input reads as it did. -/
def argumentsBindMatchesSpecUptoRow : OpenClaim := { program := "ytbickehhnkhabaa", sum := "6b2071b9ca7f56bd80c9f944f88bfb0a527e2d9110694c5a6f4f2ffcc346eb75", func := "brindlewood/brindlewoodlaw7.ArgumentsBindMatchesSpec", spec := "argumentsBindMatchesSpec", unfollowed := true, recurses := true, loops := true, apart := false, narrowed := true }
def ArgumentsBindMatchesSpecUptoSaid : Prop := argumentsBindMatchesSpecUptoRow.holds Try.pinned (OpenSpec.upto argumentsBindMatchesSpecSpec)

/-- 'brindlewoodlaw7.ArgumentsByName', WHERE WHAT IT READS IS OF BULK AT MOST 1048576: true; the input reads as it did. -/
def argumentsByNameUptoRow : OpenClaim := { program := "ytbickehhnkhabaa", sum := "6b2071b9ca7f56bd80c9f944f88bfb0a527e2d9110694c5a6f4f2ffcc346eb75", func := "brindlewood/brindlewoodlaw7.ArgumentsByName", spec := "argumentsByName", unfollowed := true, recurses := true, loops := true, apart := false, narrowed := true }
def ArgumentsByNameUptoSaid : Prop := argumentsByNameUptoRow.holds Try.pinned (OpenSpec.upto argumentsByNameSpec)

/-- 'brindlewoodlaw7.LineageBlameIsACircle', WHERE WHAT IT READS IS OF BULK AT MOST 1048576: true; the input reads as it did. -/
def lineageBlameIsACircleUptoRow : OpenClaim := { program := "ytbickehhnkhabaa", sum := "6b2071b9ca7f56bd80c9f944f88bfb0a527e2d9110694c5a6f4f2ffcc346eb75", func := "brindlewood/brindlewoodlaw7.LineageBlameIsACircle", spec := "lineageBlameIsACircle", unfollowed := true, recurses := true, apart := false, narrowed := true }
def LineageBlameIsACircleUptoSaid : Prop := lineageBlameIsACircleUptoRow.holds Try.pinned (OpenSpec.upto lineageBlameIsACircleSpec)

end Rows
end Go.Proofs.Ytbickehhnkhabaa
