/-
  No cell of these rows narrows 'for every input' (looked for: loops, veiled, ifaces, maps, wideKeys, modest, calm, conditions, laid).
  DERIVED. THE GIVEN ROWS OF THIS SEAT. 5 by the template 'for every input the law returns true; each argument reads behind the call as it read before'; 0 by the template 'total and deterministic' (their statements: YtdalgphpacikkaaTotals.lean).
  GIVEN WITH THE SEED: the statements are not yours to turn. If you find one false, say at which input.
  Laid BY PROGRAM, IN A SANDBOX (cutbox-rows.mjs): the forced cells as the released guide's own fill.sh prints them over the translation 5740d2a29de91e98… (all of the seat's roots in one cut). By AI agents, Wed Nov 11 2026. No macro, syntax, notation, axiom, sorry.
-/
import Derived.Test.YtdalgphpacikkaaChecked
import GoSem.Claim
import GoSem.ClaimJoined
import GoSem.ClaimMapViews
import Derived.JoinedTies
import Derived.KernelRfl
namespace Go.Proofs.Ytdalgphpacikkaa
/- THE CELL 'sum', in the pinned program and in every row, IS THE sha256 OF THE DUMP (.gsa) THAT YtdalgphpacikkaaProg.lean LOADS. Nothing in Lean hashes anything: it is a label: what it is worth is what the hold of that sum in a sandbox is worth. -/
noncomputable def Try.pinned : Pinned := { name := "ytdalgphpacikkaa", sum := "5740d2a29de91e98990953f0f3144b04a148b67c4d8da34e964298f5b5ee7307", checked := Try.checked }
namespace Rows
def none {H : Type} : Left H := { results := [], args := [] }

/-- 'laws.FnExactBind': WHATEVER THE INPUT: true; the input reads as it did. -/
def fnExactBindSpec : ChangeSpec := { name := "fnExactBind", fn := fun _ => fun
  | [d1, d2] => { results := [.lit (.bool true)], args := [d1, d2] }
  | _ => none }
def fnExactBindRow : OpenClaim := { program := "ytdalgphpacikkaa", sum := "5740d2a29de91e98990953f0f3144b04a148b67c4d8da34e964298f5b5ee7307", func := "loop.example/callbinding/laws.FnExactBind", spec := "fnExactBind", unfollowed := true, recurses := true, apart := false }
def FnExactBindSaid : Prop := fnExactBindRow.holds Try.pinned (OpenSpec.ofChange fnExactBindSpec)

/-- ITS FALSE NEIGHBOUR: 'it returns false'. Refute it at one input. -/
def fnExactBindWrong : ChangeSpec := { name := "fnExactBind", fn := fun _ => fun
  | [d1, d2] => { results := [.lit (.bool false)], args := [d1, d2] }
  | _ => none }
def FnExactBindWrongFalsely : Prop := fnExactBindRow.holds Try.pinned (OpenSpec.ofChange fnExactBindWrong)

/-- 'laws.FnExactBindPart': WHATEVER THE INPUT: true; the input reads as it did. -/
def fnExactBindPartSpec : ChangeSpec := { name := "fnExactBindPart", fn := fun _ => fun
  | [d1, d2] => { results := [.lit (.bool true)], args := [d1, d2] }
  | _ => none }
def fnExactBindPartRow : OpenClaim := { program := "ytdalgphpacikkaa", sum := "5740d2a29de91e98990953f0f3144b04a148b67c4d8da34e964298f5b5ee7307", func := "loop.example/callbinding/laws.FnExactBindPart", spec := "fnExactBindPart", unfollowed := true, recurses := true, apart := false }
def FnExactBindPartSaid : Prop := fnExactBindPartRow.holds Try.pinned (OpenSpec.ofChange fnExactBindPartSpec)

/-- ITS FALSE NEIGHBOUR: 'it returns false'. Refute it at one input. -/
def fnExactBindPartWrong : ChangeSpec := { name := "fnExactBindPart", fn := fun _ => fun
  | [d1, d2] => { results := [.lit (.bool false)], args := [d1, d2] }
  | _ => none }
def FnExactBindPartWrongFalsely : Prop := fnExactBindPartRow.holds Try.pinned (OpenSpec.ofChange fnExactBindPartWrong)

/-- 'laws.FnExactAccepts': WHATEVER THE INPUT: true; the input reads as it did. -/
def fnExactAcceptsSpec : ChangeSpec := { name := "fnExactAccepts", fn := fun _ => fun
  | [d1, d2] => { results := [.lit (.bool true)], args := [d1, d2] }
  | _ => none }
def fnExactAcceptsRow : OpenClaim := { program := "ytdalgphpacikkaa", sum := "5740d2a29de91e98990953f0f3144b04a148b67c4d8da34e964298f5b5ee7307", func := "loop.example/callbinding/laws.FnExactAccepts", spec := "fnExactAccepts", unfollowed := true, recurses := true, apart := false }
def FnExactAcceptsSaid : Prop := fnExactAcceptsRow.holds Try.pinned (OpenSpec.ofChange fnExactAcceptsSpec)

/-- ITS FALSE NEIGHBOUR: 'it returns false'. Refute it at one input. -/
def fnExactAcceptsWrong : ChangeSpec := { name := "fnExactAccepts", fn := fun _ => fun
  | [d1, d2] => { results := [.lit (.bool false)], args := [d1, d2] }
  | _ => none }
def FnExactAcceptsWrongFalsely : Prop := fnExactAcceptsRow.holds Try.pinned (OpenSpec.ofChange fnExactAcceptsWrong)

/-- 'laws.FnExactProblems': WHATEVER THE INPUT: true; the input reads as it did. -/
def fnExactProblemsSpec : ChangeSpec := { name := "fnExactProblems", fn := fun _ => fun
  | [d1, d2] => { results := [.lit (.bool true)], args := [d1, d2] }
  | _ => none }
def fnExactProblemsRow : OpenClaim := { program := "ytdalgphpacikkaa", sum := "5740d2a29de91e98990953f0f3144b04a148b67c4d8da34e964298f5b5ee7307", func := "loop.example/callbinding/laws.FnExactProblems", spec := "fnExactProblems", unfollowed := true, recurses := true, apart := false }
def FnExactProblemsSaid : Prop := fnExactProblemsRow.holds Try.pinned (OpenSpec.ofChange fnExactProblemsSpec)

/-- ITS FALSE NEIGHBOUR: 'it returns false'. Refute it at one input. -/
def fnExactProblemsWrong : ChangeSpec := { name := "fnExactProblems", fn := fun _ => fun
  | [d1, d2] => { results := [.lit (.bool false)], args := [d1, d2] }
  | _ => none }
def FnExactProblemsWrongFalsely : Prop := fnExactProblemsRow.holds Try.pinned (OpenSpec.ofChange fnExactProblemsWrong)

/-- 'laws.FnExactValidPartial': WHATEVER THE INPUT: true; the input reads as it did. -/
def fnExactValidPartialSpec : ChangeSpec := { name := "fnExactValidPartial", fn := fun _ => fun
  | [d] => { results := [.lit (.bool true)], args := [d] }
  | _ => none }
def fnExactValidPartialRow : OpenClaim := { program := "ytdalgphpacikkaa", sum := "5740d2a29de91e98990953f0f3144b04a148b67c4d8da34e964298f5b5ee7307", func := "loop.example/callbinding/laws.FnExactValidPartial", spec := "fnExactValidPartial", unfollowed := true, recurses := true, apart := false }
def FnExactValidPartialSaid : Prop := fnExactValidPartialRow.holds Try.pinned (OpenSpec.ofChange fnExactValidPartialSpec)

/-- ITS FALSE NEIGHBOUR: 'it returns false'. Refute it at one input. -/
def fnExactValidPartialWrong : ChangeSpec := { name := "fnExactValidPartial", fn := fun _ => fun
  | [d] => { results := [.lit (.bool false)], args := [d] }
  | _ => none }
def FnExactValidPartialWrongFalsely : Prop := fnExactValidPartialRow.holds Try.pinned (OpenSpec.ofChange fnExactValidPartialWrong)

/- THE SECOND FORM. 'bulk': how many values and letters a reading holds, each counted each time it is reached (what is shared counts as often as it is met; a slice's spare places count too). A statement '..UptoSaid' is the law's where the arguments, and the package variables that the reading takes, are together of bulk at most 1048576: NARROWER than '..Said'. Prove '..Said' where nothing that the law and all that it calls make is longer than what came in: it says more and counts as full. Else prove '..UptoSaid'. A law counts once. -/
mutual
def uptoBulk {H : Type} : DataW H → Nat
  | .lit (.string bytes) => bytes.length + 1
  | .lit _ => 1
  | .nil => 1
  | .ptr d => uptoBulk d + 1
  | .slice elems spare => uptoBulkAll elems + uptoBulkAll spare + 1
  | .agg parts => uptoBulkAll parts + 1
  | .iface _ d => uptoBulk d + 1
  | .map entries => uptoBulkEntries entries + 1
  | .held _ => 1
def uptoBulkAll {H : Type} : List (DataW H) → Nat
  | [] => 0
  | d :: r => uptoBulk d + uptoBulkAll r
def uptoBulkEntries {H : Type} : List (Lit × DataW H) → Nat
  | [] => 0
  | x :: r => uptoBulkEntry x + uptoBulkEntries r
def uptoBulkEntry {H : Type} : Lit × DataW H → Nat
  | (.string bytes, d) => bytes.length + uptoBulk d + 1
  | (_, d) => uptoBulk d + 1
 end
def uptoSmall : (H : Type) → List (DataW H) → Bool := fun _ ds => decide (uptoBulkAll ds ≤ 1048576)
def OpenSpec.upto (s : _root_.Go.ChangeSpec) : _root_.Go.OpenSpec := { _root_.Go.OpenSpec.ofChange s with cond := some uptoSmall }

/-- 'laws.FnExactBind', WHERE WHAT IT READS IS OF BULK AT MOST 1048576: true; the input reads as it did. -/
def fnExactBindUptoRow : OpenClaim := { program := "ytdalgphpacikkaa", sum := "5740d2a29de91e98990953f0f3144b04a148b67c4d8da34e964298f5b5ee7307", func := "loop.example/callbinding/laws.FnExactBind", spec := "fnExactBind", unfollowed := true, recurses := true, apart := false, narrowed := true }
def FnExactBindUptoSaid : Prop := fnExactBindUptoRow.holds Try.pinned (OpenSpec.upto fnExactBindSpec)

/-- 'laws.FnExactBindPart', WHERE WHAT IT READS IS OF BULK AT MOST 1048576: true; the input reads as it did. -/
def fnExactBindPartUptoRow : OpenClaim := { program := "ytdalgphpacikkaa", sum := "5740d2a29de91e98990953f0f3144b04a148b67c4d8da34e964298f5b5ee7307", func := "loop.example/callbinding/laws.FnExactBindPart", spec := "fnExactBindPart", unfollowed := true, recurses := true, apart := false, narrowed := true }
def FnExactBindPartUptoSaid : Prop := fnExactBindPartUptoRow.holds Try.pinned (OpenSpec.upto fnExactBindPartSpec)

/-- 'laws.FnExactAccepts', WHERE WHAT IT READS IS OF BULK AT MOST 1048576: true; the input reads as it did. -/
def fnExactAcceptsUptoRow : OpenClaim := { program := "ytdalgphpacikkaa", sum := "5740d2a29de91e98990953f0f3144b04a148b67c4d8da34e964298f5b5ee7307", func := "loop.example/callbinding/laws.FnExactAccepts", spec := "fnExactAccepts", unfollowed := true, recurses := true, apart := false, narrowed := true }
def FnExactAcceptsUptoSaid : Prop := fnExactAcceptsUptoRow.holds Try.pinned (OpenSpec.upto fnExactAcceptsSpec)

/-- 'laws.FnExactProblems', WHERE WHAT IT READS IS OF BULK AT MOST 1048576: true; the input reads as it did. -/
def fnExactProblemsUptoRow : OpenClaim := { program := "ytdalgphpacikkaa", sum := "5740d2a29de91e98990953f0f3144b04a148b67c4d8da34e964298f5b5ee7307", func := "loop.example/callbinding/laws.FnExactProblems", spec := "fnExactProblems", unfollowed := true, recurses := true, apart := false, narrowed := true }
def FnExactProblemsUptoSaid : Prop := fnExactProblemsUptoRow.holds Try.pinned (OpenSpec.upto fnExactProblemsSpec)

/-- 'laws.FnExactValidPartial', WHERE WHAT IT READS IS OF BULK AT MOST 1048576: true; the input reads as it did. -/
def fnExactValidPartialUptoRow : OpenClaim := { program := "ytdalgphpacikkaa", sum := "5740d2a29de91e98990953f0f3144b04a148b67c4d8da34e964298f5b5ee7307", func := "loop.example/callbinding/laws.FnExactValidPartial", spec := "fnExactValidPartial", unfollowed := true, recurses := true, apart := false, narrowed := true }
def FnExactValidPartialUptoSaid : Prop := fnExactValidPartialUptoRow.holds Try.pinned (OpenSpec.upto fnExactValidPartialSpec)

end Rows
end Go.Proofs.Ytdalgphpacikkaa
