/-
  No cell of these rows narrows 'for every input' (looked for: loops, veiled, ifaces, maps, wideKeys, modest, calm, conditions, laid).
  DERIVED. THE GIVEN ROWS OF THIS SEAT. 12 by the template 'for every input the law returns true; each argument reads behind the call as it read before'; 0 by the template 'total and deterministic' (their statements: YtnphlonhogcedaaTotals.lean).
  GIVEN WITH THE SEED: the statements are not yours to turn. If you find one false, say at which input.
  Laid BY PROGRAM, IN A SANDBOX (cutbox-rows.mjs): the forced cells as the released guide's own fill.sh prints them over the translation 1af9de38cee6cc48… (all of the seat's roots in one cut). By AI agents, Wed Nov 11 2026. No macro, syntax, notation, axiom, sorry.
-/
import Derived.Test.YtnphlonhogcedaaChecked
import GoSem.Claim
import GoSem.ClaimJoined
import GoSem.ClaimMapViews
import Derived.JoinedTies
import Derived.KernelRfl
namespace Go.Proofs.Ytnphlonhogcedaa
/- THE CELL 'sum', in the pinned program and in every row, IS THE sha256 OF THE DUMP (.gsa) THAT YtnphlonhogcedaaProg.lean LOADS. Nothing in Lean hashes anything: it is a label: what it is worth is what the hold of that sum in a sandbox is worth. -/
noncomputable def Try.pinned : Pinned := { name := "ytnphlonhogcedaa", sum := "1af9de38cee6cc487b2c4379c42363aed3a5121872c191ffe49af6c1173bd307", checked := Try.checked }
namespace Rows
def none {H : Type} : Left H := { results := [], args := [] }

/-- 'laws.FnFlattenCall': WHATEVER THE INPUT: true; the input reads as it did. -/
def fnFlattenCallSpec : ChangeSpec := { name := "fnFlattenCall", fn := fun _ => fun
  | [d] => { results := [.lit (.bool true)], args := [d] }
  | _ => none }
def fnFlattenCallRow : OpenClaim := { program := "ytnphlonhogcedaa", sum := "1af9de38cee6cc487b2c4379c42363aed3a5121872c191ffe49af6c1173bd307", func := "loop.example/callbinding/laws.FnFlattenCall", spec := "fnFlattenCall", unfollowed := true, recurses := true, apart := false }
def FnFlattenCallSaid : Prop := fnFlattenCallRow.holds Try.pinned (OpenSpec.ofChange fnFlattenCallSpec)

/-- ITS FALSE NEIGHBOUR: 'it returns false'. Refute it at one input. -/
def fnFlattenCallWrong : ChangeSpec := { name := "fnFlattenCall", fn := fun _ => fun
  | [d] => { results := [.lit (.bool false)], args := [d] }
  | _ => none }
def FnFlattenCallWrongFalsely : Prop := fnFlattenCallRow.holds Try.pinned (OpenSpec.ofChange fnFlattenCallWrong)

/-- 'laws.FnShiftHoles': WHATEVER THE INPUT: true; the input reads as it did. -/
def fnShiftHolesSpec : ChangeSpec := { name := "fnShiftHoles", fn := fun _ => fun
  | [d] => { results := [.lit (.bool true)], args := [d] }
  | _ => none }
def fnShiftHolesRow : OpenClaim := { program := "ytnphlonhogcedaa", sum := "1af9de38cee6cc487b2c4379c42363aed3a5121872c191ffe49af6c1173bd307", func := "loop.example/callbinding/laws.FnShiftHoles", spec := "fnShiftHoles", unfollowed := true, recurses := true, apart := false }
def FnShiftHolesSaid : Prop := fnShiftHolesRow.holds Try.pinned (OpenSpec.ofChange fnShiftHolesSpec)

/-- ITS FALSE NEIGHBOUR: 'it returns false'. Refute it at one input. -/
def fnShiftHolesWrong : ChangeSpec := { name := "fnShiftHoles", fn := fun _ => fun
  | [d] => { results := [.lit (.bool false)], args := [d] }
  | _ => none }
def FnShiftHolesWrongFalsely : Prop := fnShiftHolesRow.holds Try.pinned (OpenSpec.ofChange fnShiftHolesWrong)

/-- 'laws.FnMethodSignaturePartial': WHATEVER THE INPUT: true; the input reads as it did. -/
def fnMethodSignaturePartialSpec : ChangeSpec := { name := "fnMethodSignaturePartial", fn := fun _ => fun
  | [d] => { results := [.lit (.bool true)], args := [d] }
  | _ => none }
def fnMethodSignaturePartialRow : OpenClaim := { program := "ytnphlonhogcedaa", sum := "1af9de38cee6cc487b2c4379c42363aed3a5121872c191ffe49af6c1173bd307", func := "loop.example/callbinding/laws.FnMethodSignaturePartial", spec := "fnMethodSignaturePartial", unfollowed := true, recurses := true, apart := false }
def FnMethodSignaturePartialSaid : Prop := fnMethodSignaturePartialRow.holds Try.pinned (OpenSpec.ofChange fnMethodSignaturePartialSpec)

/-- ITS FALSE NEIGHBOUR: 'it returns false'. Refute it at one input. -/
def fnMethodSignaturePartialWrong : ChangeSpec := { name := "fnMethodSignaturePartial", fn := fun _ => fun
  | [d] => { results := [.lit (.bool false)], args := [d] }
  | _ => none }
def FnMethodSignaturePartialWrongFalsely : Prop := fnMethodSignaturePartialRow.holds Try.pinned (OpenSpec.ofChange fnMethodSignaturePartialWrong)

/-- 'laws.FnExactCallOf': WHATEVER THE INPUT: true; the input reads as it did. -/
def fnExactCallOfSpec : ChangeSpec := { name := "fnExactCallOf", fn := fun _ => fun
  | [d] => { results := [.lit (.bool true)], args := [d] }
  | _ => none }
def fnExactCallOfRow : OpenClaim := { program := "ytnphlonhogcedaa", sum := "1af9de38cee6cc487b2c4379c42363aed3a5121872c191ffe49af6c1173bd307", func := "loop.example/callbinding/laws.FnExactCallOf", spec := "fnExactCallOf", unfollowed := true, recurses := true, apart := false }
def FnExactCallOfSaid : Prop := fnExactCallOfRow.holds Try.pinned (OpenSpec.ofChange fnExactCallOfSpec)

/-- ITS FALSE NEIGHBOUR: 'it returns false'. Refute it at one input. -/
def fnExactCallOfWrong : ChangeSpec := { name := "fnExactCallOf", fn := fun _ => fun
  | [d] => { results := [.lit (.bool false)], args := [d] }
  | _ => none }
def FnExactCallOfWrongFalsely : Prop := fnExactCallOfRow.holds Try.pinned (OpenSpec.ofChange fnExactCallOfWrong)

/-- 'laws.FnExactOverFlat': WHATEVER THE INPUT: true; the input reads as it did. -/
def fnExactOverFlatSpec : ChangeSpec := { name := "fnExactOverFlat", fn := fun _ => fun
  | [d1, d2] => { results := [.lit (.bool true)], args := [d1, d2] }
  | _ => none }
def fnExactOverFlatRow : OpenClaim := { program := "ytnphlonhogcedaa", sum := "1af9de38cee6cc487b2c4379c42363aed3a5121872c191ffe49af6c1173bd307", func := "loop.example/callbinding/laws.FnExactOverFlat", spec := "fnExactOverFlat", unfollowed := true, recurses := true, apart := false }
def FnExactOverFlatSaid : Prop := fnExactOverFlatRow.holds Try.pinned (OpenSpec.ofChange fnExactOverFlatSpec)

/-- ITS FALSE NEIGHBOUR: 'it returns false'. Refute it at one input. -/
def fnExactOverFlatWrong : ChangeSpec := { name := "fnExactOverFlat", fn := fun _ => fun
  | [d1, d2] => { results := [.lit (.bool false)], args := [d1, d2] }
  | _ => none }
def FnExactOverFlatWrongFalsely : Prop := fnExactOverFlatRow.holds Try.pinned (OpenSpec.ofChange fnExactOverFlatWrong)

/-- 'laws.FnExactStarCall': WHATEVER THE INPUT: true; the input reads as it did. -/
def fnExactStarCallSpec : ChangeSpec := { name := "fnExactStarCall", fn := fun _ => fun
  | [d] => { results := [.lit (.bool true)], args := [d] }
  | _ => none }
def fnExactStarCallRow : OpenClaim := { program := "ytnphlonhogcedaa", sum := "1af9de38cee6cc487b2c4379c42363aed3a5121872c191ffe49af6c1173bd307", func := "loop.example/callbinding/laws.FnExactStarCall", spec := "fnExactStarCall", unfollowed := true, recurses := true, apart := false }
def FnExactStarCallSaid : Prop := fnExactStarCallRow.holds Try.pinned (OpenSpec.ofChange fnExactStarCallSpec)

/-- ITS FALSE NEIGHBOUR: 'it returns false'. Refute it at one input. -/
def fnExactStarCallWrong : ChangeSpec := { name := "fnExactStarCall", fn := fun _ => fun
  | [d] => { results := [.lit (.bool false)], args := [d] }
  | _ => none }
def FnExactStarCallWrongFalsely : Prop := fnExactStarCallRow.holds Try.pinned (OpenSpec.ofChange fnExactStarCallWrong)

/-- 'laws.FnExactCanonFlat': WHATEVER THE INPUT: true; the input reads as it did. -/
def fnExactCanonFlatSpec : ChangeSpec := { name := "fnExactCanonFlat", fn := fun _ => fun
  | [d1, d2] => { results := [.lit (.bool true)], args := [d1, d2] }
  | _ => none }
def fnExactCanonFlatRow : OpenClaim := { program := "ytnphlonhogcedaa", sum := "1af9de38cee6cc487b2c4379c42363aed3a5121872c191ffe49af6c1173bd307", func := "loop.example/callbinding/laws.FnExactCanonFlat", spec := "fnExactCanonFlat", unfollowed := true, recurses := true, apart := false }
def FnExactCanonFlatSaid : Prop := fnExactCanonFlatRow.holds Try.pinned (OpenSpec.ofChange fnExactCanonFlatSpec)

/-- ITS FALSE NEIGHBOUR: 'it returns false'. Refute it at one input. -/
def fnExactCanonFlatWrong : ChangeSpec := { name := "fnExactCanonFlat", fn := fun _ => fun
  | [d1, d2] => { results := [.lit (.bool false)], args := [d1, d2] }
  | _ => none }
def FnExactCanonFlatWrongFalsely : Prop := fnExactCanonFlatRow.holds Try.pinned (OpenSpec.ofChange fnExactCanonFlatWrong)

/-- 'laws.FnFillHoles': WHATEVER THE INPUT: true; the input reads as it did. -/
def fnFillHolesSpec : ChangeSpec := { name := "fnFillHoles", fn := fun _ => fun
  | [d] => { results := [.lit (.bool true)], args := [d] }
  | _ => none }
def fnFillHolesRow : OpenClaim := { program := "ytnphlonhogcedaa", sum := "1af9de38cee6cc487b2c4379c42363aed3a5121872c191ffe49af6c1173bd307", func := "loop.example/callbinding/laws.FnFillHoles", spec := "fnFillHoles", unfollowed := true, recurses := true, apart := false }
def FnFillHolesSaid : Prop := fnFillHolesRow.holds Try.pinned (OpenSpec.ofChange fnFillHolesSpec)

/-- ITS FALSE NEIGHBOUR: 'it returns false'. Refute it at one input. -/
def fnFillHolesWrong : ChangeSpec := { name := "fnFillHoles", fn := fun _ => fun
  | [d] => { results := [.lit (.bool false)], args := [d] }
  | _ => none }
def FnFillHolesWrongFalsely : Prop := fnFillHolesRow.holds Try.pinned (OpenSpec.ofChange fnFillHolesWrong)

/-- 'laws.FnExactShiftHoles': WHATEVER THE INPUT: true; the input reads as it did. -/
def fnExactShiftHolesSpec : ChangeSpec := { name := "fnExactShiftHoles", fn := fun _ => fun
  | [d1, d2] => { results := [.lit (.bool true)], args := [d1, d2] }
  | _ => none }
def fnExactShiftHolesRow : OpenClaim := { program := "ytnphlonhogcedaa", sum := "1af9de38cee6cc487b2c4379c42363aed3a5121872c191ffe49af6c1173bd307", func := "loop.example/callbinding/laws.FnExactShiftHoles", spec := "fnExactShiftHoles", unfollowed := true, recurses := true, apart := false }
def FnExactShiftHolesSaid : Prop := fnExactShiftHolesRow.holds Try.pinned (OpenSpec.ofChange fnExactShiftHolesSpec)

/-- ITS FALSE NEIGHBOUR: 'it returns false'. Refute it at one input. -/
def fnExactShiftHolesWrong : ChangeSpec := { name := "fnExactShiftHoles", fn := fun _ => fun
  | [d1, d2] => { results := [.lit (.bool false)], args := [d1, d2] }
  | _ => none }
def FnExactShiftHolesWrongFalsely : Prop := fnExactShiftHolesRow.holds Try.pinned (OpenSpec.ofChange fnExactShiftHolesWrong)

/-- 'laws.FnFillHolesNone': WHATEVER THE INPUT: true; the input reads as it did. -/
def fnFillHolesNoneSpec : ChangeSpec := { name := "fnFillHolesNone", fn := fun _ => fun
  | [d] => { results := [.lit (.bool true)], args := [d] }
  | _ => none }
def fnFillHolesNoneRow : OpenClaim := { program := "ytnphlonhogcedaa", sum := "1af9de38cee6cc487b2c4379c42363aed3a5121872c191ffe49af6c1173bd307", func := "loop.example/callbinding/laws.FnFillHolesNone", spec := "fnFillHolesNone", unfollowed := true, recurses := true, apart := false }
def FnFillHolesNoneSaid : Prop := fnFillHolesNoneRow.holds Try.pinned (OpenSpec.ofChange fnFillHolesNoneSpec)

/-- ITS FALSE NEIGHBOUR: 'it returns false'. Refute it at one input. -/
def fnFillHolesNoneWrong : ChangeSpec := { name := "fnFillHolesNone", fn := fun _ => fun
  | [d] => { results := [.lit (.bool false)], args := [d] }
  | _ => none }
def FnFillHolesNoneWrongFalsely : Prop := fnFillHolesNoneRow.holds Try.pinned (OpenSpec.ofChange fnFillHolesNoneWrong)

/-- 'laws.FnExactTurnSignature': WHATEVER THE INPUT: true; the input reads as it did. -/
def fnExactTurnSignatureSpec : ChangeSpec := { name := "fnExactTurnSignature", fn := fun _ => fun
  | [d1, d2] => { results := [.lit (.bool true)], args := [d1, d2] }
  | _ => none }
def fnExactTurnSignatureRow : OpenClaim := { program := "ytnphlonhogcedaa", sum := "1af9de38cee6cc487b2c4379c42363aed3a5121872c191ffe49af6c1173bd307", func := "loop.example/callbinding/laws.FnExactTurnSignature", spec := "fnExactTurnSignature", unfollowed := true, recurses := true, apart := false }
def FnExactTurnSignatureSaid : Prop := fnExactTurnSignatureRow.holds Try.pinned (OpenSpec.ofChange fnExactTurnSignatureSpec)

/-- ITS FALSE NEIGHBOUR: 'it returns false'. Refute it at one input. -/
def fnExactTurnSignatureWrong : ChangeSpec := { name := "fnExactTurnSignature", fn := fun _ => fun
  | [d1, d2] => { results := [.lit (.bool false)], args := [d1, d2] }
  | _ => none }
def FnExactTurnSignatureWrongFalsely : Prop := fnExactTurnSignatureRow.holds Try.pinned (OpenSpec.ofChange fnExactTurnSignatureWrong)

/-- 'laws.FnTurnSignatureCall': WHATEVER THE INPUT: true; the input reads as it did. -/
def fnTurnSignatureCallSpec : ChangeSpec := { name := "fnTurnSignatureCall", fn := fun _ => fun
  | [d] => { results := [.lit (.bool true)], args := [d] }
  | _ => none }
def fnTurnSignatureCallRow : OpenClaim := { program := "ytnphlonhogcedaa", sum := "1af9de38cee6cc487b2c4379c42363aed3a5121872c191ffe49af6c1173bd307", func := "loop.example/callbinding/laws.FnTurnSignatureCall", spec := "fnTurnSignatureCall", unfollowed := true, recurses := true, apart := false }
def FnTurnSignatureCallSaid : Prop := fnTurnSignatureCallRow.holds Try.pinned (OpenSpec.ofChange fnTurnSignatureCallSpec)

/-- ITS FALSE NEIGHBOUR: 'it returns false'. Refute it at one input. -/
def fnTurnSignatureCallWrong : ChangeSpec := { name := "fnTurnSignatureCall", fn := fun _ => fun
  | [d] => { results := [.lit (.bool false)], args := [d] }
  | _ => none }
def FnTurnSignatureCallWrongFalsely : Prop := fnTurnSignatureCallRow.holds Try.pinned (OpenSpec.ofChange fnTurnSignatureCallWrong)

/- THE SECOND FORM. 'bulk': how many values and letters a reading holds, each counted each time it is reached (what is shared counts as often as it is met; a slice's spare places count too). A statement '..UptoSaid' is the law's where the arguments, and the package variables that the reading takes, are together of bulk at most 1048576: NARROWER than '..Said'. Prove '..Said' where nothing that the law and all that it calls make is longer than what came in: it says more and counts as full. Else prove '..UptoSaid'. A law counts once. -/
mutual
def uptoBulk {H : Type} : DataW H → Nat
  | .lit (.string bytes) => bytes.length + 1
  | .lit _ => 1
  | .nil => 1
  | .ptr d => uptoBulk d + 1
  | .slice elems spare => uptoBulkAll elems + uptoBulkAll spare + 1
  | .agg parts => uptoBulkAll parts + 1
  | .iface _ d => uptoBulk d + 1
  | .map entries => uptoBulkEntries entries + 1
  | .held _ => 1
def uptoBulkAll {H : Type} : List (DataW H) → Nat
  | [] => 0
  | d :: r => uptoBulk d + uptoBulkAll r
def uptoBulkEntries {H : Type} : List (Lit × DataW H) → Nat
  | [] => 0
  | x :: r => uptoBulkEntry x + uptoBulkEntries r
def uptoBulkEntry {H : Type} : Lit × DataW H → Nat
  | (.string bytes, d) => bytes.length + uptoBulk d + 1
  | (_, d) => uptoBulk d + 1
 end
def uptoSmall : (H : Type) → List (DataW H) → Bool := fun _ ds => decide (uptoBulkAll ds ≤ 1048576)
def OpenSpec.upto (s : _root_.Go.ChangeSpec) : _root_.Go.OpenSpec := { _root_.Go.OpenSpec.ofChange s with cond := some uptoSmall }

/-- 'laws.FnFlattenCall', WHERE WHAT IT READS IS OF BULK AT MOST 1048576: true; the input reads as it did. -/
def fnFlattenCallUptoRow : OpenClaim := { program := "ytnphlonhogcedaa", sum := "1af9de38cee6cc487b2c4379c42363aed3a5121872c191ffe49af6c1173bd307", func := "loop.example/callbinding/laws.FnFlattenCall", spec := "fnFlattenCall", unfollowed := true, recurses := true, apart := false, narrowed := true }
def FnFlattenCallUptoSaid : Prop := fnFlattenCallUptoRow.holds Try.pinned (OpenSpec.upto fnFlattenCallSpec)

/-- 'laws.FnShiftHoles', WHERE WHAT IT READS IS OF BULK AT MOST 1048576: true; the input reads as it did. -/
def fnShiftHolesUptoRow : OpenClaim := { program := "ytnphlonhogcedaa", sum := "1af9de38cee6cc487b2c4379c42363aed3a5121872c191ffe49af6c1173bd307", func := "loop.example/callbinding/laws.FnShiftHoles", spec := "fnShiftHoles", unfollowed := true, recurses := true, apart := false, narrowed := true }
def FnShiftHolesUptoSaid : Prop := fnShiftHolesUptoRow.holds Try.pinned (OpenSpec.upto fnShiftHolesSpec)

/-- 'laws.FnMethodSignaturePartial', WHERE WHAT IT READS IS OF BULK AT MOST 1048576: true; the input reads as it did. -/
def fnMethodSignaturePartialUptoRow : OpenClaim := { program := "ytnphlonhogcedaa", sum := "1af9de38cee6cc487b2c4379c42363aed3a5121872c191ffe49af6c1173bd307", func := "loop.example/callbinding/laws.FnMethodSignaturePartial", spec := "fnMethodSignaturePartial", unfollowed := true, recurses := true, apart := false, narrowed := true }
def FnMethodSignaturePartialUptoSaid : Prop := fnMethodSignaturePartialUptoRow.holds Try.pinned (OpenSpec.upto fnMethodSignaturePartialSpec)

/-- 'laws.FnExactCallOf', WHERE WHAT IT READS IS OF BULK AT MOST 1048576: true; the input reads as it did. -/
def fnExactCallOfUptoRow : OpenClaim := { program := "ytnphlonhogcedaa", sum := "1af9de38cee6cc487b2c4379c42363aed3a5121872c191ffe49af6c1173bd307", func := "loop.example/callbinding/laws.FnExactCallOf", spec := "fnExactCallOf", unfollowed := true, recurses := true, apart := false, narrowed := true }
def FnExactCallOfUptoSaid : Prop := fnExactCallOfUptoRow.holds Try.pinned (OpenSpec.upto fnExactCallOfSpec)

/-- 'laws.FnExactOverFlat', WHERE WHAT IT READS IS OF BULK AT MOST 1048576: true; the input reads as it did. -/
def fnExactOverFlatUptoRow : OpenClaim := { program := "ytnphlonhogcedaa", sum := "1af9de38cee6cc487b2c4379c42363aed3a5121872c191ffe49af6c1173bd307", func := "loop.example/callbinding/laws.FnExactOverFlat", spec := "fnExactOverFlat", unfollowed := true, recurses := true, apart := false, narrowed := true }
def FnExactOverFlatUptoSaid : Prop := fnExactOverFlatUptoRow.holds Try.pinned (OpenSpec.upto fnExactOverFlatSpec)

/-- 'laws.FnExactStarCall', WHERE WHAT IT READS IS OF BULK AT MOST 1048576: true; the input reads as it did. -/
def fnExactStarCallUptoRow : OpenClaim := { program := "ytnphlonhogcedaa", sum := "1af9de38cee6cc487b2c4379c42363aed3a5121872c191ffe49af6c1173bd307", func := "loop.example/callbinding/laws.FnExactStarCall", spec := "fnExactStarCall", unfollowed := true, recurses := true, apart := false, narrowed := true }
def FnExactStarCallUptoSaid : Prop := fnExactStarCallUptoRow.holds Try.pinned (OpenSpec.upto fnExactStarCallSpec)

/-- 'laws.FnExactCanonFlat', WHERE WHAT IT READS IS OF BULK AT MOST 1048576: true; the input reads as it did. -/
def fnExactCanonFlatUptoRow : OpenClaim := { program := "ytnphlonhogcedaa", sum := "1af9de38cee6cc487b2c4379c42363aed3a5121872c191ffe49af6c1173bd307", func := "loop.example/callbinding/laws.FnExactCanonFlat", spec := "fnExactCanonFlat", unfollowed := true, recurses := true, apart := false, narrowed := true }
def FnExactCanonFlatUptoSaid : Prop := fnExactCanonFlatUptoRow.holds Try.pinned (OpenSpec.upto fnExactCanonFlatSpec)

/-- 'laws.FnFillHoles', WHERE WHAT IT READS IS OF BULK AT MOST 1048576: true; the input reads as it did. -/
def fnFillHolesUptoRow : OpenClaim := { program := "ytnphlonhogcedaa", sum := "1af9de38cee6cc487b2c4379c42363aed3a5121872c191ffe49af6c1173bd307", func := "loop.example/callbinding/laws.FnFillHoles", spec := "fnFillHoles", unfollowed := true, recurses := true, apart := false, narrowed := true }
def FnFillHolesUptoSaid : Prop := fnFillHolesUptoRow.holds Try.pinned (OpenSpec.upto fnFillHolesSpec)

/-- 'laws.FnExactShiftHoles', WHERE WHAT IT READS IS OF BULK AT MOST 1048576: true; the input reads as it did. -/
def fnExactShiftHolesUptoRow : OpenClaim := { program := "ytnphlonhogcedaa", sum := "1af9de38cee6cc487b2c4379c42363aed3a5121872c191ffe49af6c1173bd307", func := "loop.example/callbinding/laws.FnExactShiftHoles", spec := "fnExactShiftHoles", unfollowed := true, recurses := true, apart := false, narrowed := true }
def FnExactShiftHolesUptoSaid : Prop := fnExactShiftHolesUptoRow.holds Try.pinned (OpenSpec.upto fnExactShiftHolesSpec)

/-- 'laws.FnFillHolesNone', WHERE WHAT IT READS IS OF BULK AT MOST 1048576: true; the input reads as it did. -/
def fnFillHolesNoneUptoRow : OpenClaim := { program := "ytnphlonhogcedaa", sum := "1af9de38cee6cc487b2c4379c42363aed3a5121872c191ffe49af6c1173bd307", func := "loop.example/callbinding/laws.FnFillHolesNone", spec := "fnFillHolesNone", unfollowed := true, recurses := true, apart := false, narrowed := true }
def FnFillHolesNoneUptoSaid : Prop := fnFillHolesNoneUptoRow.holds Try.pinned (OpenSpec.upto fnFillHolesNoneSpec)

/-- 'laws.FnExactTurnSignature', WHERE WHAT IT READS IS OF BULK AT MOST 1048576: true; the input reads as it did. -/
def fnExactTurnSignatureUptoRow : OpenClaim := { program := "ytnphlonhogcedaa", sum := "1af9de38cee6cc487b2c4379c42363aed3a5121872c191ffe49af6c1173bd307", func := "loop.example/callbinding/laws.FnExactTurnSignature", spec := "fnExactTurnSignature", unfollowed := true, recurses := true, apart := false, narrowed := true }
def FnExactTurnSignatureUptoSaid : Prop := fnExactTurnSignatureUptoRow.holds Try.pinned (OpenSpec.upto fnExactTurnSignatureSpec)

/-- 'laws.FnTurnSignatureCall', WHERE WHAT IT READS IS OF BULK AT MOST 1048576: true; the input reads as it did. -/
def fnTurnSignatureCallUptoRow : OpenClaim := { program := "ytnphlonhogcedaa", sum := "1af9de38cee6cc487b2c4379c42363aed3a5121872c191ffe49af6c1173bd307", func := "loop.example/callbinding/laws.FnTurnSignatureCall", spec := "fnTurnSignatureCall", unfollowed := true, recurses := true, apart := false, narrowed := true }
def FnTurnSignatureCallUptoSaid : Prop := fnTurnSignatureCallUptoRow.holds Try.pinned (OpenSpec.upto fnTurnSignatureCallSpec)

end Rows
end Go.Proofs.Ytnphlonhogcedaa
