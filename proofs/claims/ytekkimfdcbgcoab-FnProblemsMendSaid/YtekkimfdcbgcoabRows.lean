/-
  No cell of these rows narrows 'for every input' (looked for: loops, veiled, ifaces, maps, wideKeys, modest, calm, conditions, laid).
  DERIVED. THE GIVEN ROWS OF THIS SEAT. 9 by the template 'for every input the law returns true; each argument reads behind the call as it read before'; 0 by the template 'total and deterministic' (their statements: YtekkimfdcbgcoabTotals.lean).
  GIVEN WITH THE SEED: the statements are not yours to turn. If you find one false, say at which input.
  Laid BY PROGRAM, IN A SANDBOX (cutbox-rows.mjs): the forced cells as the released guide's own fill.sh prints them over the translation fad8d9a37e0ae442… (all of the seat's roots in one cut). By AI agents, Wed Nov 11 2026. No macro, syntax, notation, axiom, sorry.
-/
import Derived.Test.YtekkimfdcbgcoabChecked
import GoSem.Claim
import GoSem.ClaimJoined
import GoSem.ClaimMapViews
import Derived.JoinedTies
import Derived.KernelRfl
namespace Go.Proofs.Ytekkimfdcbgcoab
/- THE CELL 'sum', in the pinned program and in every row, IS THE sha256 OF THE DUMP (.gsa) THAT YtekkimfdcbgcoabProg.lean LOADS. Nothing in Lean hashes anything: it is a label: what it is worth is what the hold of that sum in a sandbox is worth. -/
noncomputable def Try.pinned : Pinned := { name := "ytekkimfdcbgcoab", sum := "fad8d9a37e0ae4420e70b813954a3a40c1c4b4764d4c79eb8262602e720c071b", checked := Try.checked }
namespace Rows
def none {H : Type} : Left H := { results := [], args := [] }

/-- 'laws.FnMethodSignature': WHATEVER THE INPUT: true; the input reads as it did. -/
def fnMethodSignatureSpec : ChangeSpec := { name := "fnMethodSignature", fn := fun _ => fun
  | [d] => { results := [.lit (.bool true)], args := [d] }
  | _ => none }
def fnMethodSignatureRow : OpenClaim := { program := "ytekkimfdcbgcoab", sum := "fad8d9a37e0ae4420e70b813954a3a40c1c4b4764d4c79eb8262602e720c071b", func := "loop.example/callbinding/laws.FnMethodSignature", spec := "fnMethodSignature", unfollowed := true, recurses := true, apart := false }
def FnMethodSignatureSaid : Prop := fnMethodSignatureRow.holds Try.pinned (OpenSpec.ofChange fnMethodSignatureSpec)

/-- ITS FALSE NEIGHBOUR: 'it returns false'. Refute it at one input. -/
def fnMethodSignatureWrong : ChangeSpec := { name := "fnMethodSignature", fn := fun _ => fun
  | [d] => { results := [.lit (.bool false)], args := [d] }
  | _ => none }
def FnMethodSignatureWrongFalsely : Prop := fnMethodSignatureRow.holds Try.pinned (OpenSpec.ofChange fnMethodSignatureWrong)

/-- 'laws.FnMethodSignaturePartial': WHATEVER THE INPUT: true; the input reads as it did. -/
def fnMethodSignaturePartialSpec : ChangeSpec := { name := "fnMethodSignaturePartial", fn := fun _ => fun
  | [d] => { results := [.lit (.bool true)], args := [d] }
  | _ => none }
def fnMethodSignaturePartialRow : OpenClaim := { program := "ytekkimfdcbgcoab", sum := "fad8d9a37e0ae4420e70b813954a3a40c1c4b4764d4c79eb8262602e720c071b", func := "loop.example/callbinding/laws.FnMethodSignaturePartial", spec := "fnMethodSignaturePartial", unfollowed := true, recurses := true, apart := false }
def FnMethodSignaturePartialSaid : Prop := fnMethodSignaturePartialRow.holds Try.pinned (OpenSpec.ofChange fnMethodSignaturePartialSpec)

/-- ITS FALSE NEIGHBOUR: 'it returns false'. Refute it at one input. -/
def fnMethodSignaturePartialWrong : ChangeSpec := { name := "fnMethodSignaturePartial", fn := fun _ => fun
  | [d] => { results := [.lit (.bool false)], args := [d] }
  | _ => none }
def FnMethodSignaturePartialWrongFalsely : Prop := fnMethodSignaturePartialRow.holds Try.pinned (OpenSpec.ofChange fnMethodSignaturePartialWrong)

/-- 'laws.FnProblems': WHATEVER THE INPUT: true; the input reads as it did. -/
def fnProblemsSpec : ChangeSpec := { name := "fnProblems", fn := fun _ => fun
  | [d] => { results := [.lit (.bool true)], args := [d] }
  | _ => none }
def fnProblemsRow : OpenClaim := { program := "ytekkimfdcbgcoab", sum := "fad8d9a37e0ae4420e70b813954a3a40c1c4b4764d4c79eb8262602e720c071b", func := "loop.example/callbinding/laws.FnProblems", spec := "fnProblems", unfollowed := true, recurses := true, apart := false }
def FnProblemsSaid : Prop := fnProblemsRow.holds Try.pinned (OpenSpec.ofChange fnProblemsSpec)

/-- ITS FALSE NEIGHBOUR: 'it returns false'. Refute it at one input. -/
def fnProblemsWrong : ChangeSpec := { name := "fnProblems", fn := fun _ => fun
  | [d] => { results := [.lit (.bool false)], args := [d] }
  | _ => none }
def FnProblemsWrongFalsely : Prop := fnProblemsRow.holds Try.pinned (OpenSpec.ofChange fnProblemsWrong)

/-- 'laws.FnBindPart': WHATEVER THE INPUT: true; the input reads as it did. -/
def fnBindPartSpec : ChangeSpec := { name := "fnBindPart", fn := fun _ => fun
  | [d] => { results := [.lit (.bool true)], args := [d] }
  | _ => none }
def fnBindPartRow : OpenClaim := { program := "ytekkimfdcbgcoab", sum := "fad8d9a37e0ae4420e70b813954a3a40c1c4b4764d4c79eb8262602e720c071b", func := "loop.example/callbinding/laws.FnBindPart", spec := "fnBindPart", unfollowed := true, recurses := true, apart := false }
def FnBindPartSaid : Prop := fnBindPartRow.holds Try.pinned (OpenSpec.ofChange fnBindPartSpec)

/-- ITS FALSE NEIGHBOUR: 'it returns false'. Refute it at one input. -/
def fnBindPartWrong : ChangeSpec := { name := "fnBindPart", fn := fun _ => fun
  | [d] => { results := [.lit (.bool false)], args := [d] }
  | _ => none }
def FnBindPartWrongFalsely : Prop := fnBindPartRow.holds Try.pinned (OpenSpec.ofChange fnBindPartWrong)

/-- 'laws.FnBindPartLess': WHATEVER THE INPUT: true; the input reads as it did. -/
def fnBindPartLessSpec : ChangeSpec := { name := "fnBindPartLess", fn := fun _ => fun
  | [d] => { results := [.lit (.bool true)], args := [d] }
  | _ => none }
def fnBindPartLessRow : OpenClaim := { program := "ytekkimfdcbgcoab", sum := "fad8d9a37e0ae4420e70b813954a3a40c1c4b4764d4c79eb8262602e720c071b", func := "loop.example/callbinding/laws.FnBindPartLess", spec := "fnBindPartLess", unfollowed := true, recurses := true, apart := false }
def FnBindPartLessSaid : Prop := fnBindPartLessRow.holds Try.pinned (OpenSpec.ofChange fnBindPartLessSpec)

/-- ITS FALSE NEIGHBOUR: 'it returns false'. Refute it at one input. -/
def fnBindPartLessWrong : ChangeSpec := { name := "fnBindPartLess", fn := fun _ => fun
  | [d] => { results := [.lit (.bool false)], args := [d] }
  | _ => none }
def FnBindPartLessWrongFalsely : Prop := fnBindPartLessRow.holds Try.pinned (OpenSpec.ofChange fnBindPartLessWrong)

/-- 'laws.FnProblemsMend': WHATEVER THE INPUT: true; the input reads as it did. -/
def fnProblemsMendSpec : ChangeSpec := { name := "fnProblemsMend", fn := fun _ => fun
  | [d] => { results := [.lit (.bool true)], args := [d] }
  | _ => none }
def fnProblemsMendRow : OpenClaim := { program := "ytekkimfdcbgcoab", sum := "fad8d9a37e0ae4420e70b813954a3a40c1c4b4764d4c79eb8262602e720c071b", func := "loop.example/callbinding/laws.FnProblemsMend", spec := "fnProblemsMend", unfollowed := true, recurses := true, apart := false }
def FnProblemsMendSaid : Prop := fnProblemsMendRow.holds Try.pinned (OpenSpec.ofChange fnProblemsMendSpec)

/-- ITS FALSE NEIGHBOUR: 'it returns false'. Refute it at one input. -/
def fnProblemsMendWrong : ChangeSpec := { name := "fnProblemsMend", fn := fun _ => fun
  | [d] => { results := [.lit (.bool false)], args := [d] }
  | _ => none }
def FnProblemsMendWrongFalsely : Prop := fnProblemsMendRow.holds Try.pinned (OpenSpec.ofChange fnProblemsMendWrong)

/-- 'laws.FnWrappedSignature': WHATEVER THE INPUT: true; the input reads as it did. -/
def fnWrappedSignatureSpec : ChangeSpec := { name := "fnWrappedSignature", fn := fun _ => fun
  | [d] => { results := [.lit (.bool true)], args := [d] }
  | _ => none }
def fnWrappedSignatureRow : OpenClaim := { program := "ytekkimfdcbgcoab", sum := "fad8d9a37e0ae4420e70b813954a3a40c1c4b4764d4c79eb8262602e720c071b", func := "loop.example/callbinding/laws.FnWrappedSignature", spec := "fnWrappedSignature", unfollowed := true, recurses := true, apart := false }
def FnWrappedSignatureSaid : Prop := fnWrappedSignatureRow.holds Try.pinned (OpenSpec.ofChange fnWrappedSignatureSpec)

/-- ITS FALSE NEIGHBOUR: 'it returns false'. Refute it at one input. -/
def fnWrappedSignatureWrong : ChangeSpec := { name := "fnWrappedSignature", fn := fun _ => fun
  | [d] => { results := [.lit (.bool false)], args := [d] }
  | _ => none }
def FnWrappedSignatureWrongFalsely : Prop := fnWrappedSignatureRow.holds Try.pinned (OpenSpec.ofChange fnWrappedSignatureWrong)

/-- 'laws.FnPassedFlat': WHATEVER THE INPUT: true; the input reads as it did. -/
def fnPassedFlatSpec : ChangeSpec := { name := "fnPassedFlat", fn := fun _ => fun
  | [d] => { results := [.lit (.bool true)], args := [d] }
  | _ => none }
def fnPassedFlatRow : OpenClaim := { program := "ytekkimfdcbgcoab", sum := "fad8d9a37e0ae4420e70b813954a3a40c1c4b4764d4c79eb8262602e720c071b", func := "loop.example/callbinding/laws.FnPassedFlat", spec := "fnPassedFlat", unfollowed := true, recurses := true, apart := false }
def FnPassedFlatSaid : Prop := fnPassedFlatRow.holds Try.pinned (OpenSpec.ofChange fnPassedFlatSpec)

/-- ITS FALSE NEIGHBOUR: 'it returns false'. Refute it at one input. -/
def fnPassedFlatWrong : ChangeSpec := { name := "fnPassedFlat", fn := fun _ => fun
  | [d] => { results := [.lit (.bool false)], args := [d] }
  | _ => none }
def FnPassedFlatWrongFalsely : Prop := fnPassedFlatRow.holds Try.pinned (OpenSpec.ofChange fnPassedFlatWrong)

/-- 'laws.FnAcceptsWrapped': WHATEVER THE INPUT: true; the input reads as it did. -/
def fnAcceptsWrappedSpec : ChangeSpec := { name := "fnAcceptsWrapped", fn := fun _ => fun
  | [d] => { results := [.lit (.bool true)], args := [d] }
  | _ => none }
def fnAcceptsWrappedRow : OpenClaim := { program := "ytekkimfdcbgcoab", sum := "fad8d9a37e0ae4420e70b813954a3a40c1c4b4764d4c79eb8262602e720c071b", func := "loop.example/callbinding/laws.FnAcceptsWrapped", spec := "fnAcceptsWrapped", unfollowed := true, recurses := true, apart := false }
def FnAcceptsWrappedSaid : Prop := fnAcceptsWrappedRow.holds Try.pinned (OpenSpec.ofChange fnAcceptsWrappedSpec)

/-- ITS FALSE NEIGHBOUR: 'it returns false'. Refute it at one input. -/
def fnAcceptsWrappedWrong : ChangeSpec := { name := "fnAcceptsWrapped", fn := fun _ => fun
  | [d] => { results := [.lit (.bool false)], args := [d] }
  | _ => none }
def FnAcceptsWrappedWrongFalsely : Prop := fnAcceptsWrappedRow.holds Try.pinned (OpenSpec.ofChange fnAcceptsWrappedWrong)

/- THE SECOND FORM. 'bulk': how many values and letters a reading holds, each counted each time it is reached (what is shared counts as often as it is met; a slice's spare places count too). A statement '..UptoSaid' is the law's where the arguments, and the package variables that the reading takes, are together of bulk at most 1048576: NARROWER than '..Said'. Prove '..Said' where nothing that the law and all that it calls make is longer than what came in: it says more and counts as full. Else prove '..UptoSaid'. A law counts once. -/
mutual
def uptoBulk {H : Type} : DataW H → Nat
  | .lit (.string bytes) => bytes.length + 1
  | .lit _ => 1
  | .nil => 1
  | .ptr d => uptoBulk d + 1
  | .slice elems spare => uptoBulkAll elems + uptoBulkAll spare + 1
  | .agg parts => uptoBulkAll parts + 1
  | .iface _ d => uptoBulk d + 1
  | .map entries => uptoBulkEntries entries + 1
  | .held _ => 1
def uptoBulkAll {H : Type} : List (DataW H) → Nat
  | [] => 0
  | d :: r => uptoBulk d + uptoBulkAll r
def uptoBulkEntries {H : Type} : List (Lit × DataW H) → Nat
  | [] => 0
  | x :: r => uptoBulkEntry x + uptoBulkEntries r
def uptoBulkEntry {H : Type} : Lit × DataW H → Nat
  | (.string bytes, d) => bytes.length + uptoBulk d + 1
  | (_, d) => uptoBulk d + 1
 end
def uptoSmall : (H : Type) → List (DataW H) → Bool := fun _ ds => decide (uptoBulkAll ds ≤ 1048576)
def OpenSpec.upto (s : _root_.Go.ChangeSpec) : _root_.Go.OpenSpec := { _root_.Go.OpenSpec.ofChange s with cond := some uptoSmall }

/-- 'laws.FnMethodSignature', WHERE WHAT IT READS IS OF BULK AT MOST 1048576: true; the input reads as it did. -/
def fnMethodSignatureUptoRow : OpenClaim := { program := "ytekkimfdcbgcoab", sum := "fad8d9a37e0ae4420e70b813954a3a40c1c4b4764d4c79eb8262602e720c071b", func := "loop.example/callbinding/laws.FnMethodSignature", spec := "fnMethodSignature", unfollowed := true, recurses := true, apart := false, narrowed := true }
def FnMethodSignatureUptoSaid : Prop := fnMethodSignatureUptoRow.holds Try.pinned (OpenSpec.upto fnMethodSignatureSpec)

/-- 'laws.FnMethodSignaturePartial', WHERE WHAT IT READS IS OF BULK AT MOST 1048576: true; the input reads as it did. -/
def fnMethodSignaturePartialUptoRow : OpenClaim := { program := "ytekkimfdcbgcoab", sum := "fad8d9a37e0ae4420e70b813954a3a40c1c4b4764d4c79eb8262602e720c071b", func := "loop.example/callbinding/laws.FnMethodSignaturePartial", spec := "fnMethodSignaturePartial", unfollowed := true, recurses := true, apart := false, narrowed := true }
def FnMethodSignaturePartialUptoSaid : Prop := fnMethodSignaturePartialUptoRow.holds Try.pinned (OpenSpec.upto fnMethodSignaturePartialSpec)

/-- 'laws.FnProblems', WHERE WHAT IT READS IS OF BULK AT MOST 1048576: true; the input reads as it did. -/
def fnProblemsUptoRow : OpenClaim := { program := "ytekkimfdcbgcoab", sum := "fad8d9a37e0ae4420e70b813954a3a40c1c4b4764d4c79eb8262602e720c071b", func := "loop.example/callbinding/laws.FnProblems", spec := "fnProblems", unfollowed := true, recurses := true, apart := false, narrowed := true }
def FnProblemsUptoSaid : Prop := fnProblemsUptoRow.holds Try.pinned (OpenSpec.upto fnProblemsSpec)

/-- 'laws.FnBindPart', WHERE WHAT IT READS IS OF BULK AT MOST 1048576: true; the input reads as it did. -/
def fnBindPartUptoRow : OpenClaim := { program := "ytekkimfdcbgcoab", sum := "fad8d9a37e0ae4420e70b813954a3a40c1c4b4764d4c79eb8262602e720c071b", func := "loop.example/callbinding/laws.FnBindPart", spec := "fnBindPart", unfollowed := true, recurses := true, apart := false, narrowed := true }
def FnBindPartUptoSaid : Prop := fnBindPartUptoRow.holds Try.pinned (OpenSpec.upto fnBindPartSpec)

/-- 'laws.FnBindPartLess', WHERE WHAT IT READS IS OF BULK AT MOST 1048576: true; the input reads as it did. -/
def fnBindPartLessUptoRow : OpenClaim := { program := "ytekkimfdcbgcoab", sum := "fad8d9a37e0ae4420e70b813954a3a40c1c4b4764d4c79eb8262602e720c071b", func := "loop.example/callbinding/laws.FnBindPartLess", spec := "fnBindPartLess", unfollowed := true, recurses := true, apart := false, narrowed := true }
def FnBindPartLessUptoSaid : Prop := fnBindPartLessUptoRow.holds Try.pinned (OpenSpec.upto fnBindPartLessSpec)

/-- 'laws.FnProblemsMend', WHERE WHAT IT READS IS OF BULK AT MOST 1048576: true; the input reads as it did. -/
def fnProblemsMendUptoRow : OpenClaim := { program := "ytekkimfdcbgcoab", sum := "fad8d9a37e0ae4420e70b813954a3a40c1c4b4764d4c79eb8262602e720c071b", func := "loop.example/callbinding/laws.FnProblemsMend", spec := "fnProblemsMend", unfollowed := true, recurses := true, apart := false, narrowed := true }
def FnProblemsMendUptoSaid : Prop := fnProblemsMendUptoRow.holds Try.pinned (OpenSpec.upto fnProblemsMendSpec)

/-- 'laws.FnWrappedSignature', WHERE WHAT IT READS IS OF BULK AT MOST 1048576: true; the input reads as it did. -/
def fnWrappedSignatureUptoRow : OpenClaim := { program := "ytekkimfdcbgcoab", sum := "fad8d9a37e0ae4420e70b813954a3a40c1c4b4764d4c79eb8262602e720c071b", func := "loop.example/callbinding/laws.FnWrappedSignature", spec := "fnWrappedSignature", unfollowed := true, recurses := true, apart := false, narrowed := true }
def FnWrappedSignatureUptoSaid : Prop := fnWrappedSignatureUptoRow.holds Try.pinned (OpenSpec.upto fnWrappedSignatureSpec)

/-- 'laws.FnPassedFlat', WHERE WHAT IT READS IS OF BULK AT MOST 1048576: true; the input reads as it did. -/
def fnPassedFlatUptoRow : OpenClaim := { program := "ytekkimfdcbgcoab", sum := "fad8d9a37e0ae4420e70b813954a3a40c1c4b4764d4c79eb8262602e720c071b", func := "loop.example/callbinding/laws.FnPassedFlat", spec := "fnPassedFlat", unfollowed := true, recurses := true, apart := false, narrowed := true }
def FnPassedFlatUptoSaid : Prop := fnPassedFlatUptoRow.holds Try.pinned (OpenSpec.upto fnPassedFlatSpec)

/-- 'laws.FnAcceptsWrapped', WHERE WHAT IT READS IS OF BULK AT MOST 1048576: true; the input reads as it did. -/
def fnAcceptsWrappedUptoRow : OpenClaim := { program := "ytekkimfdcbgcoab", sum := "fad8d9a37e0ae4420e70b813954a3a40c1c4b4764d4c79eb8262602e720c071b", func := "loop.example/callbinding/laws.FnAcceptsWrapped", spec := "fnAcceptsWrapped", unfollowed := true, recurses := true, apart := false, narrowed := true }
def FnAcceptsWrappedUptoSaid : Prop := fnAcceptsWrappedUptoRow.holds Try.pinned (OpenSpec.upto fnAcceptsWrappedSpec)

end Rows
end Go.Proofs.Ytekkimfdcbgcoab
