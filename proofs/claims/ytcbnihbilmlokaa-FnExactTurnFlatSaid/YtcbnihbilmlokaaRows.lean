/-
  No cell of these rows narrows 'for every input' (looked for: loops, veiled, ifaces, maps, wideKeys, modest, calm, conditions, laid).
  DERIVED. THE GIVEN ROWS OF THIS SEAT. 10 by the template 'for every input the law returns true; each argument reads behind the call as it read before'; 0 by the template 'total and deterministic' (their statements: YtcbnihbilmlokaaTotals.lean).
  GIVEN WITH THE SEED: the statements are not yours to turn. If you find one false, say at which input.
  Laid BY PROGRAM, IN A SANDBOX (cutbox-rows.mjs): the forced cells as the released guide's own fill.sh prints them over the translation 1481543254e50015… (all of the seat's roots in one cut). By AI agents, Wed Nov 11 2026. No macro, syntax, notation, axiom, sorry.
-/
import Derived.Test.YtcbnihbilmlokaaChecked
import GoSem.Claim
import GoSem.ClaimJoined
import GoSem.ClaimMapViews
import Derived.JoinedTies
import Derived.KernelRfl
namespace Go.Proofs.Ytcbnihbilmlokaa
/- THE CELL 'sum', in the pinned program and in every row, IS THE sha256 OF THE DUMP (.gsa) THAT YtcbnihbilmlokaaProg.lean LOADS. Nothing in Lean hashes anything: it is a label: what it is worth is what the hold of that sum in a sandbox is worth. -/
noncomputable def Try.pinned : Pinned := { name := "ytcbnihbilmlokaa", sum := "1481543254e500158a78ee70ffe2823a130bd7d6c07eff2f949283704cdd7438", checked := Try.checked }
namespace Rows
def none {H : Type} : Left H := { results := [], args := [] }

/-- 'laws.FnExactTurnFlat': WHATEVER THE INPUT: true; the input reads as it did. -/
def fnExactTurnFlatSpec : ChangeSpec := { name := "fnExactTurnFlat", fn := fun _ => fun
  | [d1, d2] => { results := [.lit (.bool true)], args := [d1, d2] }
  | _ => none }
def fnExactTurnFlatRow : OpenClaim := { program := "ytcbnihbilmlokaa", sum := "1481543254e500158a78ee70ffe2823a130bd7d6c07eff2f949283704cdd7438", func := "loop.example/callbinding/laws.FnExactTurnFlat", spec := "fnExactTurnFlat", unfollowed := true, recurses := true, apart := false }
def FnExactTurnFlatSaid : Prop := fnExactTurnFlatRow.holds Try.pinned (OpenSpec.ofChange fnExactTurnFlatSpec)

/-- ITS FALSE NEIGHBOUR: 'it returns false'. Refute it at one input. -/
def fnExactTurnFlatWrong : ChangeSpec := { name := "fnExactTurnFlat", fn := fun _ => fun
  | [d1, d2] => { results := [.lit (.bool false)], args := [d1, d2] }
  | _ => none }
def FnExactTurnFlatWrongFalsely : Prop := fnExactTurnFlatRow.holds Try.pinned (OpenSpec.ofChange fnExactTurnFlatWrong)

/-- 'laws.FnExactBind': WHATEVER THE INPUT: true; the input reads as it did. -/
def fnExactBindSpec : ChangeSpec := { name := "fnExactBind", fn := fun _ => fun
  | [d1, d2] => { results := [.lit (.bool true)], args := [d1, d2] }
  | _ => none }
def fnExactBindRow : OpenClaim := { program := "ytcbnihbilmlokaa", sum := "1481543254e500158a78ee70ffe2823a130bd7d6c07eff2f949283704cdd7438", func := "loop.example/callbinding/laws.FnExactBind", spec := "fnExactBind", unfollowed := true, recurses := true, apart := false }
def FnExactBindSaid : Prop := fnExactBindRow.holds Try.pinned (OpenSpec.ofChange fnExactBindSpec)

/-- ITS FALSE NEIGHBOUR: 'it returns false'. Refute it at one input. -/
def fnExactBindWrong : ChangeSpec := { name := "fnExactBind", fn := fun _ => fun
  | [d1, d2] => { results := [.lit (.bool false)], args := [d1, d2] }
  | _ => none }
def FnExactBindWrongFalsely : Prop := fnExactBindRow.holds Try.pinned (OpenSpec.ofChange fnExactBindWrong)

/-- 'laws.FnMethodSignature': WHATEVER THE INPUT: true; the input reads as it did. -/
def fnMethodSignatureSpec : ChangeSpec := { name := "fnMethodSignature", fn := fun _ => fun
  | [d] => { results := [.lit (.bool true)], args := [d] }
  | _ => none }
def fnMethodSignatureRow : OpenClaim := { program := "ytcbnihbilmlokaa", sum := "1481543254e500158a78ee70ffe2823a130bd7d6c07eff2f949283704cdd7438", func := "loop.example/callbinding/laws.FnMethodSignature", spec := "fnMethodSignature", unfollowed := true, recurses := true, apart := false }
def FnMethodSignatureSaid : Prop := fnMethodSignatureRow.holds Try.pinned (OpenSpec.ofChange fnMethodSignatureSpec)

/-- ITS FALSE NEIGHBOUR: 'it returns false'. Refute it at one input. -/
def fnMethodSignatureWrong : ChangeSpec := { name := "fnMethodSignature", fn := fun _ => fun
  | [d] => { results := [.lit (.bool false)], args := [d] }
  | _ => none }
def FnMethodSignatureWrongFalsely : Prop := fnMethodSignatureRow.holds Try.pinned (OpenSpec.ofChange fnMethodSignatureWrong)

/-- 'laws.FnExactAcceptsShape': WHATEVER THE INPUT: true; the input reads as it did. -/
def fnExactAcceptsShapeSpec : ChangeSpec := { name := "fnExactAcceptsShape", fn := fun _ => fun
  | [d1, d2] => { results := [.lit (.bool true)], args := [d1, d2] }
  | _ => none }
def fnExactAcceptsShapeRow : OpenClaim := { program := "ytcbnihbilmlokaa", sum := "1481543254e500158a78ee70ffe2823a130bd7d6c07eff2f949283704cdd7438", func := "loop.example/callbinding/laws.FnExactAcceptsShape", spec := "fnExactAcceptsShape", unfollowed := true, recurses := true, apart := false }
def FnExactAcceptsShapeSaid : Prop := fnExactAcceptsShapeRow.holds Try.pinned (OpenSpec.ofChange fnExactAcceptsShapeSpec)

/-- ITS FALSE NEIGHBOUR: 'it returns false'. Refute it at one input. -/
def fnExactAcceptsShapeWrong : ChangeSpec := { name := "fnExactAcceptsShape", fn := fun _ => fun
  | [d1, d2] => { results := [.lit (.bool false)], args := [d1, d2] }
  | _ => none }
def FnExactAcceptsShapeWrongFalsely : Prop := fnExactAcceptsShapeRow.holds Try.pinned (OpenSpec.ofChange fnExactAcceptsShapeWrong)

/-- 'laws.FnExactFlattenCall': WHATEVER THE INPUT: true; the input reads as it did. -/
def fnExactFlattenCallSpec : ChangeSpec := { name := "fnExactFlattenCall", fn := fun _ => fun
  | [d] => { results := [.lit (.bool true)], args := [d] }
  | _ => none }
def fnExactFlattenCallRow : OpenClaim := { program := "ytcbnihbilmlokaa", sum := "1481543254e500158a78ee70ffe2823a130bd7d6c07eff2f949283704cdd7438", func := "loop.example/callbinding/laws.FnExactFlattenCall", spec := "fnExactFlattenCall", unfollowed := true, recurses := true, apart := false }
def FnExactFlattenCallSaid : Prop := fnExactFlattenCallRow.holds Try.pinned (OpenSpec.ofChange fnExactFlattenCallSpec)

/-- ITS FALSE NEIGHBOUR: 'it returns false'. Refute it at one input. -/
def fnExactFlattenCallWrong : ChangeSpec := { name := "fnExactFlattenCall", fn := fun _ => fun
  | [d] => { results := [.lit (.bool false)], args := [d] }
  | _ => none }
def FnExactFlattenCallWrongFalsely : Prop := fnExactFlattenCallRow.holds Try.pinned (OpenSpec.ofChange fnExactFlattenCallWrong)

/-- 'laws.FnExactFillHoles': WHATEVER THE INPUT: true; the input reads as it did. -/
def fnExactFillHolesSpec : ChangeSpec := { name := "fnExactFillHoles", fn := fun _ => fun
  | [d1, d2] => { results := [.lit (.bool true)], args := [d1, d2] }
  | _ => none }
def fnExactFillHolesRow : OpenClaim := { program := "ytcbnihbilmlokaa", sum := "1481543254e500158a78ee70ffe2823a130bd7d6c07eff2f949283704cdd7438", func := "loop.example/callbinding/laws.FnExactFillHoles", spec := "fnExactFillHoles", unfollowed := true, recurses := true, apart := false }
def FnExactFillHolesSaid : Prop := fnExactFillHolesRow.holds Try.pinned (OpenSpec.ofChange fnExactFillHolesSpec)

/-- ITS FALSE NEIGHBOUR: 'it returns false'. Refute it at one input. -/
def fnExactFillHolesWrong : ChangeSpec := { name := "fnExactFillHoles", fn := fun _ => fun
  | [d1, d2] => { results := [.lit (.bool false)], args := [d1, d2] }
  | _ => none }
def FnExactFillHolesWrongFalsely : Prop := fnExactFillHolesRow.holds Try.pinned (OpenSpec.ofChange fnExactFillHolesWrong)

/-- 'laws.FnWrappedSignature': WHATEVER THE INPUT: true; the input reads as it did. -/
def fnWrappedSignatureSpec : ChangeSpec := { name := "fnWrappedSignature", fn := fun _ => fun
  | [d] => { results := [.lit (.bool true)], args := [d] }
  | _ => none }
def fnWrappedSignatureRow : OpenClaim := { program := "ytcbnihbilmlokaa", sum := "1481543254e500158a78ee70ffe2823a130bd7d6c07eff2f949283704cdd7438", func := "loop.example/callbinding/laws.FnWrappedSignature", spec := "fnWrappedSignature", unfollowed := true, recurses := true, apart := false }
def FnWrappedSignatureSaid : Prop := fnWrappedSignatureRow.holds Try.pinned (OpenSpec.ofChange fnWrappedSignatureSpec)

/-- ITS FALSE NEIGHBOUR: 'it returns false'. Refute it at one input. -/
def fnWrappedSignatureWrong : ChangeSpec := { name := "fnWrappedSignature", fn := fun _ => fun
  | [d] => { results := [.lit (.bool false)], args := [d] }
  | _ => none }
def FnWrappedSignatureWrongFalsely : Prop := fnWrappedSignatureRow.holds Try.pinned (OpenSpec.ofChange fnWrappedSignatureWrong)

/-- 'laws.FnProblems': WHATEVER THE INPUT: true; the input reads as it did. -/
def fnProblemsSpec : ChangeSpec := { name := "fnProblems", fn := fun _ => fun
  | [d] => { results := [.lit (.bool true)], args := [d] }
  | _ => none }
def fnProblemsRow : OpenClaim := { program := "ytcbnihbilmlokaa", sum := "1481543254e500158a78ee70ffe2823a130bd7d6c07eff2f949283704cdd7438", func := "loop.example/callbinding/laws.FnProblems", spec := "fnProblems", unfollowed := true, recurses := true, apart := false }
def FnProblemsSaid : Prop := fnProblemsRow.holds Try.pinned (OpenSpec.ofChange fnProblemsSpec)

/-- ITS FALSE NEIGHBOUR: 'it returns false'. Refute it at one input. -/
def fnProblemsWrong : ChangeSpec := { name := "fnProblems", fn := fun _ => fun
  | [d] => { results := [.lit (.bool false)], args := [d] }
  | _ => none }
def FnProblemsWrongFalsely : Prop := fnProblemsRow.holds Try.pinned (OpenSpec.ofChange fnProblemsWrong)

/-- 'laws.FnExactAccepts': WHATEVER THE INPUT: true; the input reads as it did. -/
def fnExactAcceptsSpec : ChangeSpec := { name := "fnExactAccepts", fn := fun _ => fun
  | [d1, d2] => { results := [.lit (.bool true)], args := [d1, d2] }
  | _ => none }
def fnExactAcceptsRow : OpenClaim := { program := "ytcbnihbilmlokaa", sum := "1481543254e500158a78ee70ffe2823a130bd7d6c07eff2f949283704cdd7438", func := "loop.example/callbinding/laws.FnExactAccepts", spec := "fnExactAccepts", unfollowed := true, recurses := true, apart := false }
def FnExactAcceptsSaid : Prop := fnExactAcceptsRow.holds Try.pinned (OpenSpec.ofChange fnExactAcceptsSpec)

/-- ITS FALSE NEIGHBOUR: 'it returns false'. Refute it at one input. -/
def fnExactAcceptsWrong : ChangeSpec := { name := "fnExactAccepts", fn := fun _ => fun
  | [d1, d2] => { results := [.lit (.bool false)], args := [d1, d2] }
  | _ => none }
def FnExactAcceptsWrongFalsely : Prop := fnExactAcceptsRow.holds Try.pinned (OpenSpec.ofChange fnExactAcceptsWrong)

/-- 'laws.FnExactValidPartial': WHATEVER THE INPUT: true; the input reads as it did. -/
def fnExactValidPartialSpec : ChangeSpec := { name := "fnExactValidPartial", fn := fun _ => fun
  | [d] => { results := [.lit (.bool true)], args := [d] }
  | _ => none }
def fnExactValidPartialRow : OpenClaim := { program := "ytcbnihbilmlokaa", sum := "1481543254e500158a78ee70ffe2823a130bd7d6c07eff2f949283704cdd7438", func := "loop.example/callbinding/laws.FnExactValidPartial", spec := "fnExactValidPartial", unfollowed := true, recurses := true, apart := false }
def FnExactValidPartialSaid : Prop := fnExactValidPartialRow.holds Try.pinned (OpenSpec.ofChange fnExactValidPartialSpec)

/-- ITS FALSE NEIGHBOUR: 'it returns false'. Refute it at one input. -/
def fnExactValidPartialWrong : ChangeSpec := { name := "fnExactValidPartial", fn := fun _ => fun
  | [d] => { results := [.lit (.bool false)], args := [d] }
  | _ => none }
def FnExactValidPartialWrongFalsely : Prop := fnExactValidPartialRow.holds Try.pinned (OpenSpec.ofChange fnExactValidPartialWrong)

/- THE SECOND FORM. 'bulk': how many values and letters a reading holds, each counted each time it is reached (what is shared counts as often as it is met; a slice's spare places count too). A statement '..UptoSaid' is the law's where the arguments, and the package variables that the reading takes, are together of bulk at most 1048576: NARROWER than '..Said'. Prove '..Said' where nothing that the law and all that it calls make is longer than what came in: it says more and counts as full. Else prove '..UptoSaid'. A law counts once. -/
mutual
def uptoBulk {H : Type} : DataW H → Nat
  | .lit (.string bytes) => bytes.length + 1
  | .lit _ => 1
  | .nil => 1
  | .ptr d => uptoBulk d + 1
  | .slice elems spare => uptoBulkAll elems + uptoBulkAll spare + 1
  | .agg parts => uptoBulkAll parts + 1
  | .iface _ d => uptoBulk d + 1
  | .map entries => uptoBulkEntries entries + 1
  | .held _ => 1
def uptoBulkAll {H : Type} : List (DataW H) → Nat
  | [] => 0
  | d :: r => uptoBulk d + uptoBulkAll r
def uptoBulkEntries {H : Type} : List (Lit × DataW H) → Nat
  | [] => 0
  | x :: r => uptoBulkEntry x + uptoBulkEntries r
def uptoBulkEntry {H : Type} : Lit × DataW H → Nat
  | (.string bytes, d) => bytes.length + uptoBulk d + 1
  | (_, d) => uptoBulk d + 1
 end
def uptoSmall : (H : Type) → List (DataW H) → Bool := fun _ ds => decide (uptoBulkAll ds ≤ 1048576)
def OpenSpec.upto (s : _root_.Go.ChangeSpec) : _root_.Go.OpenSpec := { _root_.Go.OpenSpec.ofChange s with cond := some uptoSmall }

/-- 'laws.FnExactTurnFlat', WHERE WHAT IT READS IS OF BULK AT MOST 1048576: true; the input reads as it did. -/
def fnExactTurnFlatUptoRow : OpenClaim := { program := "ytcbnihbilmlokaa", sum := "1481543254e500158a78ee70ffe2823a130bd7d6c07eff2f949283704cdd7438", func := "loop.example/callbinding/laws.FnExactTurnFlat", spec := "fnExactTurnFlat", unfollowed := true, recurses := true, apart := false, narrowed := true }
def FnExactTurnFlatUptoSaid : Prop := fnExactTurnFlatUptoRow.holds Try.pinned (OpenSpec.upto fnExactTurnFlatSpec)

/-- 'laws.FnExactBind', WHERE WHAT IT READS IS OF BULK AT MOST 1048576: true; the input reads as it did. -/
def fnExactBindUptoRow : OpenClaim := { program := "ytcbnihbilmlokaa", sum := "1481543254e500158a78ee70ffe2823a130bd7d6c07eff2f949283704cdd7438", func := "loop.example/callbinding/laws.FnExactBind", spec := "fnExactBind", unfollowed := true, recurses := true, apart := false, narrowed := true }
def FnExactBindUptoSaid : Prop := fnExactBindUptoRow.holds Try.pinned (OpenSpec.upto fnExactBindSpec)

/-- 'laws.FnMethodSignature', WHERE WHAT IT READS IS OF BULK AT MOST 1048576: true; the input reads as it did. -/
def fnMethodSignatureUptoRow : OpenClaim := { program := "ytcbnihbilmlokaa", sum := "1481543254e500158a78ee70ffe2823a130bd7d6c07eff2f949283704cdd7438", func := "loop.example/callbinding/laws.FnMethodSignature", spec := "fnMethodSignature", unfollowed := true, recurses := true, apart := false, narrowed := true }
def FnMethodSignatureUptoSaid : Prop := fnMethodSignatureUptoRow.holds Try.pinned (OpenSpec.upto fnMethodSignatureSpec)

/-- 'laws.FnExactAcceptsShape', WHERE WHAT IT READS IS OF BULK AT MOST 1048576: true; the input reads as it did. -/
def fnExactAcceptsShapeUptoRow : OpenClaim := { program := "ytcbnihbilmlokaa", sum := "1481543254e500158a78ee70ffe2823a130bd7d6c07eff2f949283704cdd7438", func := "loop.example/callbinding/laws.FnExactAcceptsShape", spec := "fnExactAcceptsShape", unfollowed := true, recurses := true, apart := false, narrowed := true }
def FnExactAcceptsShapeUptoSaid : Prop := fnExactAcceptsShapeUptoRow.holds Try.pinned (OpenSpec.upto fnExactAcceptsShapeSpec)

/-- 'laws.FnExactFlattenCall', WHERE WHAT IT READS IS OF BULK AT MOST 1048576: true; the input reads as it did. -/
def fnExactFlattenCallUptoRow : OpenClaim := { program := "ytcbnihbilmlokaa", sum := "1481543254e500158a78ee70ffe2823a130bd7d6c07eff2f949283704cdd7438", func := "loop.example/callbinding/laws.FnExactFlattenCall", spec := "fnExactFlattenCall", unfollowed := true, recurses := true, apart := false, narrowed := true }
def FnExactFlattenCallUptoSaid : Prop := fnExactFlattenCallUptoRow.holds Try.pinned (OpenSpec.upto fnExactFlattenCallSpec)

/-- 'laws.FnExactFillHoles', WHERE WHAT IT READS IS OF BULK AT MOST 1048576: true; the input reads as it did. -/
def fnExactFillHolesUptoRow : OpenClaim := { program := "ytcbnihbilmlokaa", sum := "1481543254e500158a78ee70ffe2823a130bd7d6c07eff2f949283704cdd7438", func := "loop.example/callbinding/laws.FnExactFillHoles", spec := "fnExactFillHoles", unfollowed := true, recurses := true, apart := false, narrowed := true }
def FnExactFillHolesUptoSaid : Prop := fnExactFillHolesUptoRow.holds Try.pinned (OpenSpec.upto fnExactFillHolesSpec)

/-- 'laws.FnWrappedSignature', WHERE WHAT IT READS IS OF BULK AT MOST 1048576: true; the input reads as it did. -/
def fnWrappedSignatureUptoRow : OpenClaim := { program := "ytcbnihbilmlokaa", sum := "1481543254e500158a78ee70ffe2823a130bd7d6c07eff2f949283704cdd7438", func := "loop.example/callbinding/laws.FnWrappedSignature", spec := "fnWrappedSignature", unfollowed := true, recurses := true, apart := false, narrowed := true }
def FnWrappedSignatureUptoSaid : Prop := fnWrappedSignatureUptoRow.holds Try.pinned (OpenSpec.upto fnWrappedSignatureSpec)

/-- 'laws.FnProblems', WHERE WHAT IT READS IS OF BULK AT MOST 1048576: true; the input reads as it did. -/
def fnProblemsUptoRow : OpenClaim := { program := "ytcbnihbilmlokaa", sum := "1481543254e500158a78ee70ffe2823a130bd7d6c07eff2f949283704cdd7438", func := "loop.example/callbinding/laws.FnProblems", spec := "fnProblems", unfollowed := true, recurses := true, apart := false, narrowed := true }
def FnProblemsUptoSaid : Prop := fnProblemsUptoRow.holds Try.pinned (OpenSpec.upto fnProblemsSpec)

/-- 'laws.FnExactAccepts', WHERE WHAT IT READS IS OF BULK AT MOST 1048576: true; the input reads as it did. -/
def fnExactAcceptsUptoRow : OpenClaim := { program := "ytcbnihbilmlokaa", sum := "1481543254e500158a78ee70ffe2823a130bd7d6c07eff2f949283704cdd7438", func := "loop.example/callbinding/laws.FnExactAccepts", spec := "fnExactAccepts", unfollowed := true, recurses := true, apart := false, narrowed := true }
def FnExactAcceptsUptoSaid : Prop := fnExactAcceptsUptoRow.holds Try.pinned (OpenSpec.upto fnExactAcceptsSpec)

/-- 'laws.FnExactValidPartial', WHERE WHAT IT READS IS OF BULK AT MOST 1048576: true; the input reads as it did. -/
def fnExactValidPartialUptoRow : OpenClaim := { program := "ytcbnihbilmlokaa", sum := "1481543254e500158a78ee70ffe2823a130bd7d6c07eff2f949283704cdd7438", func := "loop.example/callbinding/laws.FnExactValidPartial", spec := "fnExactValidPartial", unfollowed := true, recurses := true, apart := false, narrowed := true }
def FnExactValidPartialUptoSaid : Prop := fnExactValidPartialUptoRow.holds Try.pinned (OpenSpec.upto fnExactValidPartialSpec)

end Rows
end Go.Proofs.Ytcbnihbilmlokaa
