/-
  No cell of these rows narrows 'for every input' (looked for: loops, veiled, ifaces, maps, wideKeys, modest, calm, conditions, laid).
  DERIVED. THE GIVEN ROWS OF THIS SEAT. 9 by the template 'for every input the law returns true; each argument reads behind the call as it read before'; 0 by the template 'total and deterministic' (their statements: YtekkimfdcbgcoaaTotals.lean).
  GIVEN WITH THE SEED: the statements are not yours to turn. If you find one false, say at which input.
  Laid BY PROGRAM, IN A SANDBOX (cutbox-rows.mjs): the forced cells as the released guide's own fill.sh prints them over the translation 6d409ab6f8483562… (all of the seat's roots in one cut). By AI agents, Wed Nov 11 2026. No macro, syntax, notation, axiom, sorry.
-/
import Derived.Test.YtekkimfdcbgcoaaChecked
import GoSem.Claim
import GoSem.ClaimJoined
import GoSem.ClaimMapViews
import Derived.JoinedTies
import Derived.KernelRfl
namespace Go.Proofs.Ytekkimfdcbgcoaa
/- THE CELL 'sum', in the pinned program and in every row, IS THE sha256 OF THE DUMP (.gsa) THAT YtekkimfdcbgcoaaProg.lean LOADS. Nothing in Lean hashes anything: it is a label: what it is worth is what the hold of that sum in a sandbox is worth. -/
noncomputable def Try.pinned : Pinned := { name := "ytekkimfdcbgcoaa", sum := "6d409ab6f848356276432967fdce7de56b2e658ca78198ba33715e59c029d2d8", checked := Try.checked }
namespace Rows
def none {H : Type} : Left H := { results := [], args := [] }

/-- 'laws.FnTurnSignatureCall': WHATEVER THE INPUT: true; the input reads as it did. -/
def fnTurnSignatureCallSpec : ChangeSpec := { name := "fnTurnSignatureCall", fn := fun _ => fun
  | [d] => { results := [.lit (.bool true)], args := [d] }
  | _ => none }
def fnTurnSignatureCallRow : OpenClaim := { program := "ytekkimfdcbgcoaa", sum := "6d409ab6f848356276432967fdce7de56b2e658ca78198ba33715e59c029d2d8", func := "loop.example/callbinding/laws.FnTurnSignatureCall", spec := "fnTurnSignatureCall", unfollowed := true, recurses := true, apart := false }
def FnTurnSignatureCallSaid : Prop := fnTurnSignatureCallRow.holds Try.pinned (OpenSpec.ofChange fnTurnSignatureCallSpec)

/-- ITS FALSE NEIGHBOUR: 'it returns false'. Refute it at one input. -/
def fnTurnSignatureCallWrong : ChangeSpec := { name := "fnTurnSignatureCall", fn := fun _ => fun
  | [d] => { results := [.lit (.bool false)], args := [d] }
  | _ => none }
def FnTurnSignatureCallWrongFalsely : Prop := fnTurnSignatureCallRow.holds Try.pinned (OpenSpec.ofChange fnTurnSignatureCallWrong)

/-- 'laws.FnSortFlat': WHATEVER THE INPUT: true; the input reads as it did. -/
def fnSortFlatSpec : ChangeSpec := { name := "fnSortFlat", fn := fun _ => fun
  | [d] => { results := [.lit (.bool true)], args := [d] }
  | _ => none }
def fnSortFlatRow : OpenClaim := { program := "ytekkimfdcbgcoaa", sum := "6d409ab6f848356276432967fdce7de56b2e658ca78198ba33715e59c029d2d8", func := "loop.example/callbinding/laws.FnSortFlat", spec := "fnSortFlat", unfollowed := true, recurses := true, apart := false }
def FnSortFlatSaid : Prop := fnSortFlatRow.holds Try.pinned (OpenSpec.ofChange fnSortFlatSpec)

/-- ITS FALSE NEIGHBOUR: 'it returns false'. Refute it at one input. -/
def fnSortFlatWrong : ChangeSpec := { name := "fnSortFlat", fn := fun _ => fun
  | [d] => { results := [.lit (.bool false)], args := [d] }
  | _ => none }
def FnSortFlatWrongFalsely : Prop := fnSortFlatRow.holds Try.pinned (OpenSpec.ofChange fnSortFlatWrong)

/-- 'laws.FnSameFlat': WHATEVER THE INPUT: true; the input reads as it did. -/
def fnSameFlatSpec : ChangeSpec := { name := "fnSameFlat", fn := fun _ => fun
  | [d] => { results := [.lit (.bool true)], args := [d] }
  | _ => none }
def fnSameFlatRow : OpenClaim := { program := "ytekkimfdcbgcoaa", sum := "6d409ab6f848356276432967fdce7de56b2e658ca78198ba33715e59c029d2d8", func := "loop.example/callbinding/laws.FnSameFlat", spec := "fnSameFlat", unfollowed := true, recurses := true, apart := false }
def FnSameFlatSaid : Prop := fnSameFlatRow.holds Try.pinned (OpenSpec.ofChange fnSameFlatSpec)

/-- ITS FALSE NEIGHBOUR: 'it returns false'. Refute it at one input. -/
def fnSameFlatWrong : ChangeSpec := { name := "fnSameFlat", fn := fun _ => fun
  | [d] => { results := [.lit (.bool false)], args := [d] }
  | _ => none }
def FnSameFlatWrongFalsely : Prop := fnSameFlatRow.holds Try.pinned (OpenSpec.ofChange fnSameFlatWrong)

/-- 'laws.FnFlattenCall': WHATEVER THE INPUT: true; the input reads as it did. -/
def fnFlattenCallSpec : ChangeSpec := { name := "fnFlattenCall", fn := fun _ => fun
  | [d] => { results := [.lit (.bool true)], args := [d] }
  | _ => none }
def fnFlattenCallRow : OpenClaim := { program := "ytekkimfdcbgcoaa", sum := "6d409ab6f848356276432967fdce7de56b2e658ca78198ba33715e59c029d2d8", func := "loop.example/callbinding/laws.FnFlattenCall", spec := "fnFlattenCall", unfollowed := true, recurses := true, apart := false }
def FnFlattenCallSaid : Prop := fnFlattenCallRow.holds Try.pinned (OpenSpec.ofChange fnFlattenCallSpec)

/-- ITS FALSE NEIGHBOUR: 'it returns false'. Refute it at one input. -/
def fnFlattenCallWrong : ChangeSpec := { name := "fnFlattenCall", fn := fun _ => fun
  | [d] => { results := [.lit (.bool false)], args := [d] }
  | _ => none }
def FnFlattenCallWrongFalsely : Prop := fnFlattenCallRow.holds Try.pinned (OpenSpec.ofChange fnFlattenCallWrong)

/-- 'laws.FnShapeOf': WHATEVER THE INPUT: true; the input reads as it did. -/
def fnShapeOfSpec : ChangeSpec := { name := "fnShapeOf", fn := fun _ => fun
  | [d] => { results := [.lit (.bool true)], args := [d] }
  | _ => none }
def fnShapeOfRow : OpenClaim := { program := "ytekkimfdcbgcoaa", sum := "6d409ab6f848356276432967fdce7de56b2e658ca78198ba33715e59c029d2d8", func := "loop.example/callbinding/laws.FnShapeOf", spec := "fnShapeOf", unfollowed := true, recurses := true, apart := false }
def FnShapeOfSaid : Prop := fnShapeOfRow.holds Try.pinned (OpenSpec.ofChange fnShapeOfSpec)

/-- ITS FALSE NEIGHBOUR: 'it returns false'. Refute it at one input. -/
def fnShapeOfWrong : ChangeSpec := { name := "fnShapeOf", fn := fun _ => fun
  | [d] => { results := [.lit (.bool false)], args := [d] }
  | _ => none }
def FnShapeOfWrongFalsely : Prop := fnShapeOfRow.holds Try.pinned (OpenSpec.ofChange fnShapeOfWrong)

/-- 'laws.FnFlatOf': WHATEVER THE INPUT: true; the input reads as it did. -/
def fnFlatOfSpec : ChangeSpec := { name := "fnFlatOf", fn := fun _ => fun
  | [d] => { results := [.lit (.bool true)], args := [d] }
  | _ => none }
def fnFlatOfRow : OpenClaim := { program := "ytekkimfdcbgcoaa", sum := "6d409ab6f848356276432967fdce7de56b2e658ca78198ba33715e59c029d2d8", func := "loop.example/callbinding/laws.FnFlatOf", spec := "fnFlatOf", unfollowed := true, recurses := true, apart := false }
def FnFlatOfSaid : Prop := fnFlatOfRow.holds Try.pinned (OpenSpec.ofChange fnFlatOfSpec)

/-- ITS FALSE NEIGHBOUR: 'it returns false'. Refute it at one input. -/
def fnFlatOfWrong : ChangeSpec := { name := "fnFlatOf", fn := fun _ => fun
  | [d] => { results := [.lit (.bool false)], args := [d] }
  | _ => none }
def FnFlatOfWrongFalsely : Prop := fnFlatOfRow.holds Try.pinned (OpenSpec.ofChange fnFlatOfWrong)

/-- 'laws.FnValidShape': WHATEVER THE INPUT: true; the input reads as it did. -/
def fnValidShapeSpec : ChangeSpec := { name := "fnValidShape", fn := fun _ => fun
  | [d] => { results := [.lit (.bool true)], args := [d] }
  | _ => none }
def fnValidShapeRow : OpenClaim := { program := "ytekkimfdcbgcoaa", sum := "6d409ab6f848356276432967fdce7de56b2e658ca78198ba33715e59c029d2d8", func := "loop.example/callbinding/laws.FnValidShape", spec := "fnValidShape", unfollowed := true, recurses := true, apart := false }
def FnValidShapeSaid : Prop := fnValidShapeRow.holds Try.pinned (OpenSpec.ofChange fnValidShapeSpec)

/-- ITS FALSE NEIGHBOUR: 'it returns false'. Refute it at one input. -/
def fnValidShapeWrong : ChangeSpec := { name := "fnValidShape", fn := fun _ => fun
  | [d] => { results := [.lit (.bool false)], args := [d] }
  | _ => none }
def FnValidShapeWrongFalsely : Prop := fnValidShapeRow.holds Try.pinned (OpenSpec.ofChange fnValidShapeWrong)

/-- 'laws.FnMostPlaces': WHATEVER THE INPUT: true; the input reads as it did. -/
def fnMostPlacesSpec : ChangeSpec := { name := "fnMostPlaces", fn := fun _ => fun
  | [d] => { results := [.lit (.bool true)], args := [d] }
  | _ => none }
def fnMostPlacesRow : OpenClaim := { program := "ytekkimfdcbgcoaa", sum := "6d409ab6f848356276432967fdce7de56b2e658ca78198ba33715e59c029d2d8", func := "loop.example/callbinding/laws.FnMostPlaces", spec := "fnMostPlaces", unfollowed := true, recurses := true, apart := false }
def FnMostPlacesSaid : Prop := fnMostPlacesRow.holds Try.pinned (OpenSpec.ofChange fnMostPlacesSpec)

/-- ITS FALSE NEIGHBOUR: 'it returns false'. Refute it at one input. -/
def fnMostPlacesWrong : ChangeSpec := { name := "fnMostPlaces", fn := fun _ => fun
  | [d] => { results := [.lit (.bool false)], args := [d] }
  | _ => none }
def FnMostPlacesWrongFalsely : Prop := fnMostPlacesRow.holds Try.pinned (OpenSpec.ofChange fnMostPlacesWrong)

/-- 'laws.FnIsWrapper': WHATEVER THE INPUT: true; the input reads as it did. -/
def fnIsWrapperSpec : ChangeSpec := { name := "fnIsWrapper", fn := fun _ => fun
  | [d] => { results := [.lit (.bool true)], args := [d] }
  | _ => none }
def fnIsWrapperRow : OpenClaim := { program := "ytekkimfdcbgcoaa", sum := "6d409ab6f848356276432967fdce7de56b2e658ca78198ba33715e59c029d2d8", func := "loop.example/callbinding/laws.FnIsWrapper", spec := "fnIsWrapper", unfollowed := true, recurses := true, apart := false }
def FnIsWrapperSaid : Prop := fnIsWrapperRow.holds Try.pinned (OpenSpec.ofChange fnIsWrapperSpec)

/-- ITS FALSE NEIGHBOUR: 'it returns false'. Refute it at one input. -/
def fnIsWrapperWrong : ChangeSpec := { name := "fnIsWrapper", fn := fun _ => fun
  | [d] => { results := [.lit (.bool false)], args := [d] }
  | _ => none }
def FnIsWrapperWrongFalsely : Prop := fnIsWrapperRow.holds Try.pinned (OpenSpec.ofChange fnIsWrapperWrong)

/- THE SECOND FORM. 'bulk': how many values and letters a reading holds, each counted each time it is reached (what is shared counts as often as it is met; a slice's spare places count too). A statement '..UptoSaid' is the law's where the arguments, and the package variables that the reading takes, are together of bulk at most 1048576: NARROWER than '..Said'. Prove '..Said' where nothing that the law and all that it calls make is longer than what came in: it says more and counts as full. Else prove '..UptoSaid'. A law counts once. -/
mutual
def uptoBulk {H : Type} : DataW H → Nat
  | .lit (.string bytes) => bytes.length + 1
  | .lit _ => 1
  | .nil => 1
  | .ptr d => uptoBulk d + 1
  | .slice elems spare => uptoBulkAll elems + uptoBulkAll spare + 1
  | .agg parts => uptoBulkAll parts + 1
  | .iface _ d => uptoBulk d + 1
  | .map entries => uptoBulkEntries entries + 1
  | .held _ => 1
def uptoBulkAll {H : Type} : List (DataW H) → Nat
  | [] => 0
  | d :: r => uptoBulk d + uptoBulkAll r
def uptoBulkEntries {H : Type} : List (Lit × DataW H) → Nat
  | [] => 0
  | x :: r => uptoBulkEntry x + uptoBulkEntries r
def uptoBulkEntry {H : Type} : Lit × DataW H → Nat
  | (.string bytes, d) => bytes.length + uptoBulk d + 1
  | (_, d) => uptoBulk d + 1
 end
def uptoSmall : (H : Type) → List (DataW H) → Bool := fun _ ds => decide (uptoBulkAll ds ≤ 1048576)
def OpenSpec.upto (s : _root_.Go.ChangeSpec) : _root_.Go.OpenSpec := { _root_.Go.OpenSpec.ofChange s with cond := some uptoSmall }

/-- 'laws.FnTurnSignatureCall', WHERE WHAT IT READS IS OF BULK AT MOST 1048576: true; the input reads as it did. -/
def fnTurnSignatureCallUptoRow : OpenClaim := { program := "ytekkimfdcbgcoaa", sum := "6d409ab6f848356276432967fdce7de56b2e658ca78198ba33715e59c029d2d8", func := "loop.example/callbinding/laws.FnTurnSignatureCall", spec := "fnTurnSignatureCall", unfollowed := true, recurses := true, apart := false, narrowed := true }
def FnTurnSignatureCallUptoSaid : Prop := fnTurnSignatureCallUptoRow.holds Try.pinned (OpenSpec.upto fnTurnSignatureCallSpec)

/-- 'laws.FnSortFlat', WHERE WHAT IT READS IS OF BULK AT MOST 1048576: true; the input reads as it did. -/
def fnSortFlatUptoRow : OpenClaim := { program := "ytekkimfdcbgcoaa", sum := "6d409ab6f848356276432967fdce7de56b2e658ca78198ba33715e59c029d2d8", func := "loop.example/callbinding/laws.FnSortFlat", spec := "fnSortFlat", unfollowed := true, recurses := true, apart := false, narrowed := true }
def FnSortFlatUptoSaid : Prop := fnSortFlatUptoRow.holds Try.pinned (OpenSpec.upto fnSortFlatSpec)

/-- 'laws.FnSameFlat', WHERE WHAT IT READS IS OF BULK AT MOST 1048576: true; the input reads as it did. -/
def fnSameFlatUptoRow : OpenClaim := { program := "ytekkimfdcbgcoaa", sum := "6d409ab6f848356276432967fdce7de56b2e658ca78198ba33715e59c029d2d8", func := "loop.example/callbinding/laws.FnSameFlat", spec := "fnSameFlat", unfollowed := true, recurses := true, apart := false, narrowed := true }
def FnSameFlatUptoSaid : Prop := fnSameFlatUptoRow.holds Try.pinned (OpenSpec.upto fnSameFlatSpec)

/-- 'laws.FnFlattenCall', WHERE WHAT IT READS IS OF BULK AT MOST 1048576: true; the input reads as it did. -/
def fnFlattenCallUptoRow : OpenClaim := { program := "ytekkimfdcbgcoaa", sum := "6d409ab6f848356276432967fdce7de56b2e658ca78198ba33715e59c029d2d8", func := "loop.example/callbinding/laws.FnFlattenCall", spec := "fnFlattenCall", unfollowed := true, recurses := true, apart := false, narrowed := true }
def FnFlattenCallUptoSaid : Prop := fnFlattenCallUptoRow.holds Try.pinned (OpenSpec.upto fnFlattenCallSpec)

/-- 'laws.FnShapeOf', WHERE WHAT IT READS IS OF BULK AT MOST 1048576: true; the input reads as it did. -/
def fnShapeOfUptoRow : OpenClaim := { program := "ytekkimfdcbgcoaa", sum := "6d409ab6f848356276432967fdce7de56b2e658ca78198ba33715e59c029d2d8", func := "loop.example/callbinding/laws.FnShapeOf", spec := "fnShapeOf", unfollowed := true, recurses := true, apart := false, narrowed := true }
def FnShapeOfUptoSaid : Prop := fnShapeOfUptoRow.holds Try.pinned (OpenSpec.upto fnShapeOfSpec)

/-- 'laws.FnFlatOf', WHERE WHAT IT READS IS OF BULK AT MOST 1048576: true; the input reads as it did. -/
def fnFlatOfUptoRow : OpenClaim := { program := "ytekkimfdcbgcoaa", sum := "6d409ab6f848356276432967fdce7de56b2e658ca78198ba33715e59c029d2d8", func := "loop.example/callbinding/laws.FnFlatOf", spec := "fnFlatOf", unfollowed := true, recurses := true, apart := false, narrowed := true }
def FnFlatOfUptoSaid : Prop := fnFlatOfUptoRow.holds Try.pinned (OpenSpec.upto fnFlatOfSpec)

/-- 'laws.FnValidShape', WHERE WHAT IT READS IS OF BULK AT MOST 1048576: true; the input reads as it did. -/
def fnValidShapeUptoRow : OpenClaim := { program := "ytekkimfdcbgcoaa", sum := "6d409ab6f848356276432967fdce7de56b2e658ca78198ba33715e59c029d2d8", func := "loop.example/callbinding/laws.FnValidShape", spec := "fnValidShape", unfollowed := true, recurses := true, apart := false, narrowed := true }
def FnValidShapeUptoSaid : Prop := fnValidShapeUptoRow.holds Try.pinned (OpenSpec.upto fnValidShapeSpec)

/-- 'laws.FnMostPlaces', WHERE WHAT IT READS IS OF BULK AT MOST 1048576: true; the input reads as it did. -/
def fnMostPlacesUptoRow : OpenClaim := { program := "ytekkimfdcbgcoaa", sum := "6d409ab6f848356276432967fdce7de56b2e658ca78198ba33715e59c029d2d8", func := "loop.example/callbinding/laws.FnMostPlaces", spec := "fnMostPlaces", unfollowed := true, recurses := true, apart := false, narrowed := true }
def FnMostPlacesUptoSaid : Prop := fnMostPlacesUptoRow.holds Try.pinned (OpenSpec.upto fnMostPlacesSpec)

/-- 'laws.FnIsWrapper', WHERE WHAT IT READS IS OF BULK AT MOST 1048576: true; the input reads as it did. -/
def fnIsWrapperUptoRow : OpenClaim := { program := "ytekkimfdcbgcoaa", sum := "6d409ab6f848356276432967fdce7de56b2e658ca78198ba33715e59c029d2d8", func := "loop.example/callbinding/laws.FnIsWrapper", spec := "fnIsWrapper", unfollowed := true, recurses := true, apart := false, narrowed := true }
def FnIsWrapperUptoSaid : Prop := fnIsWrapperUptoRow.holds Try.pinned (OpenSpec.upto fnIsWrapperSpec)

end Rows
end Go.Proofs.Ytekkimfdcbgcoaa
