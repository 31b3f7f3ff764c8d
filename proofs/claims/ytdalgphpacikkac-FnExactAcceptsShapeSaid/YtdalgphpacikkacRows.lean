/-
  No cell of these rows narrows 'for every input' (looked for: loops, veiled, ifaces, maps, wideKeys, modest, calm, conditions, laid).
  DERIVED. THE GIVEN ROWS OF THIS SEAT. 5 by the template 'for every input the law returns true; each argument reads behind the call as it read before'; 0 by the template 'total and deterministic' (their statements: YtdalgphpacikkacTotals.lean).
  GIVEN WITH THE SEED: the statements are not yours to turn. If you find one false, say at which input.
  Laid BY PROGRAM, IN A SANDBOX (cutbox-rows.mjs): the forced cells as the released guide's own fill.sh prints them over the translation 6313d89eb0f9ef95… (all of the seat's roots in one cut). By AI agents, Wed Nov 11 2026. No macro, syntax, notation, axiom, sorry.
-/
import Derived.Test.YtdalgphpacikkacChecked
import GoSem.Claim
import GoSem.ClaimJoined
import GoSem.ClaimMapViews
import Derived.JoinedTies
import Derived.KernelRfl
namespace Go.Proofs.Ytdalgphpacikkac
/- THE CELL 'sum', in the pinned program and in every row, IS THE sha256 OF THE DUMP (.gsa) THAT YtdalgphpacikkacProg.lean LOADS. Nothing in Lean hashes anything: it is a label: what it is worth is what the hold of that sum in a sandbox is worth. -/
noncomputable def Try.pinned : Pinned := { name := "ytdalgphpacikkac", sum := "6313d89eb0f9ef955c7e0fd4690a5d1c65aa9ee18fb92268f287e7099ea04fb7", checked := Try.checked }
namespace Rows
def none {H : Type} : Left H := { results := [], args := [] }

/-- 'laws.FnExactFillHoles': WHATEVER THE INPUT: true; the input reads as it did. -/
def fnExactFillHolesSpec : ChangeSpec := { name := "fnExactFillHoles", fn := fun _ => fun
  | [d1, d2] => { results := [.lit (.bool true)], args := [d1, d2] }
  | _ => none }
def fnExactFillHolesRow : OpenClaim := { program := "ytdalgphpacikkac", sum := "6313d89eb0f9ef955c7e0fd4690a5d1c65aa9ee18fb92268f287e7099ea04fb7", func := "loop.example/callbinding/laws.FnExactFillHoles", spec := "fnExactFillHoles", unfollowed := true, recurses := true, apart := false }
def FnExactFillHolesSaid : Prop := fnExactFillHolesRow.holds Try.pinned (OpenSpec.ofChange fnExactFillHolesSpec)

/-- ITS FALSE NEIGHBOUR: 'it returns false'. Refute it at one input. -/
def fnExactFillHolesWrong : ChangeSpec := { name := "fnExactFillHoles", fn := fun _ => fun
  | [d1, d2] => { results := [.lit (.bool false)], args := [d1, d2] }
  | _ => none }
def FnExactFillHolesWrongFalsely : Prop := fnExactFillHolesRow.holds Try.pinned (OpenSpec.ofChange fnExactFillHolesWrong)

/-- 'laws.FnExactFlattenCall': WHATEVER THE INPUT: true; the input reads as it did. -/
def fnExactFlattenCallSpec : ChangeSpec := { name := "fnExactFlattenCall", fn := fun _ => fun
  | [d] => { results := [.lit (.bool true)], args := [d] }
  | _ => none }
def fnExactFlattenCallRow : OpenClaim := { program := "ytdalgphpacikkac", sum := "6313d89eb0f9ef955c7e0fd4690a5d1c65aa9ee18fb92268f287e7099ea04fb7", func := "loop.example/callbinding/laws.FnExactFlattenCall", spec := "fnExactFlattenCall", unfollowed := true, recurses := true, apart := false }
def FnExactFlattenCallSaid : Prop := fnExactFlattenCallRow.holds Try.pinned (OpenSpec.ofChange fnExactFlattenCallSpec)

/-- ITS FALSE NEIGHBOUR: 'it returns false'. Refute it at one input. -/
def fnExactFlattenCallWrong : ChangeSpec := { name := "fnExactFlattenCall", fn := fun _ => fun
  | [d] => { results := [.lit (.bool false)], args := [d] }
  | _ => none }
def FnExactFlattenCallWrongFalsely : Prop := fnExactFlattenCallRow.holds Try.pinned (OpenSpec.ofChange fnExactFlattenCallWrong)

/-- 'laws.FnExactAcceptsShape': WHATEVER THE INPUT: true; the input reads as it did. -/
def fnExactAcceptsShapeSpec : ChangeSpec := { name := "fnExactAcceptsShape", fn := fun _ => fun
  | [d1, d2] => { results := [.lit (.bool true)], args := [d1, d2] }
  | _ => none }
def fnExactAcceptsShapeRow : OpenClaim := { program := "ytdalgphpacikkac", sum := "6313d89eb0f9ef955c7e0fd4690a5d1c65aa9ee18fb92268f287e7099ea04fb7", func := "loop.example/callbinding/laws.FnExactAcceptsShape", spec := "fnExactAcceptsShape", unfollowed := true, recurses := true, apart := false }
def FnExactAcceptsShapeSaid : Prop := fnExactAcceptsShapeRow.holds Try.pinned (OpenSpec.ofChange fnExactAcceptsShapeSpec)

/-- ITS FALSE NEIGHBOUR: 'it returns false'. Refute it at one input. -/
def fnExactAcceptsShapeWrong : ChangeSpec := { name := "fnExactAcceptsShape", fn := fun _ => fun
  | [d1, d2] => { results := [.lit (.bool false)], args := [d1, d2] }
  | _ => none }
def FnExactAcceptsShapeWrongFalsely : Prop := fnExactAcceptsShapeRow.holds Try.pinned (OpenSpec.ofChange fnExactAcceptsShapeWrong)

/-- 'laws.FnExactSameFlat': WHATEVER THE INPUT: true; the input reads as it did. -/
def fnExactSameFlatSpec : ChangeSpec := { name := "fnExactSameFlat", fn := fun _ => fun
  | [d1, d2] => { results := [.lit (.bool true)], args := [d1, d2] }
  | _ => none }
def fnExactSameFlatRow : OpenClaim := { program := "ytdalgphpacikkac", sum := "6313d89eb0f9ef955c7e0fd4690a5d1c65aa9ee18fb92268f287e7099ea04fb7", func := "loop.example/callbinding/laws.FnExactSameFlat", spec := "fnExactSameFlat", unfollowed := true, recurses := true, apart := false }
def FnExactSameFlatSaid : Prop := fnExactSameFlatRow.holds Try.pinned (OpenSpec.ofChange fnExactSameFlatSpec)

/-- ITS FALSE NEIGHBOUR: 'it returns false'. Refute it at one input. -/
def fnExactSameFlatWrong : ChangeSpec := { name := "fnExactSameFlat", fn := fun _ => fun
  | [d1, d2] => { results := [.lit (.bool false)], args := [d1, d2] }
  | _ => none }
def FnExactSameFlatWrongFalsely : Prop := fnExactSameFlatRow.holds Try.pinned (OpenSpec.ofChange fnExactSameFlatWrong)

/-- 'laws.FnExactTakesCount': WHATEVER THE INPUT: true; the input reads as it did. -/
def fnExactTakesCountSpec : ChangeSpec := { name := "fnExactTakesCount", fn := fun _ => fun
  | [d1, d2] => { results := [.lit (.bool true)], args := [d1, d2] }
  | _ => none }
def fnExactTakesCountRow : OpenClaim := { program := "ytdalgphpacikkac", sum := "6313d89eb0f9ef955c7e0fd4690a5d1c65aa9ee18fb92268f287e7099ea04fb7", func := "loop.example/callbinding/laws.FnExactTakesCount", spec := "fnExactTakesCount", unfollowed := true, recurses := true, apart := false }
def FnExactTakesCountSaid : Prop := fnExactTakesCountRow.holds Try.pinned (OpenSpec.ofChange fnExactTakesCountSpec)

/-- ITS FALSE NEIGHBOUR: 'it returns false'. Refute it at one input. -/
def fnExactTakesCountWrong : ChangeSpec := { name := "fnExactTakesCount", fn := fun _ => fun
  | [d1, d2] => { results := [.lit (.bool false)], args := [d1, d2] }
  | _ => none }
def FnExactTakesCountWrongFalsely : Prop := fnExactTakesCountRow.holds Try.pinned (OpenSpec.ofChange fnExactTakesCountWrong)

/- THE SECOND FORM. 'bulk': how many values and letters a reading holds, each counted each time it is reached (what is shared counts as often as it is met; a slice's spare places count too). A statement '..UptoSaid' is the law's where the arguments, and the package variables that the reading takes, are together of bulk at most 1048576: NARROWER than '..Said'. Prove '..Said' where nothing that the law and all that it calls make is longer than what came in: it says more and counts as full. Else prove '..UptoSaid'. A law counts once. -/
mutual
def uptoBulk {H : Type} : DataW H → Nat
  | .lit (.string bytes) => bytes.length + 1
  | .lit _ => 1
  | .nil => 1
  | .ptr d => uptoBulk d + 1
  | .slice elems spare => uptoBulkAll elems + uptoBulkAll spare + 1
  | .agg parts => uptoBulkAll parts + 1
  | .iface _ d => uptoBulk d + 1
  | .map entries => uptoBulkEntries entries + 1
  | .held _ => 1
def uptoBulkAll {H : Type} : List (DataW H) → Nat
  | [] => 0
  | d :: r => uptoBulk d + uptoBulkAll r
def uptoBulkEntries {H : Type} : List (Lit × DataW H) → Nat
  | [] => 0
  | x :: r => uptoBulkEntry x + uptoBulkEntries r
def uptoBulkEntry {H : Type} : Lit × DataW H → Nat
  | (.string bytes, d) => bytes.length + uptoBulk d + 1
  | (_, d) => uptoBulk d + 1
 end
def uptoSmall : (H : Type) → List (DataW H) → Bool := fun _ ds => decide (uptoBulkAll ds ≤ 1048576)
def OpenSpec.upto (s : _root_.Go.ChangeSpec) : _root_.Go.OpenSpec := { _root_.Go.OpenSpec.ofChange s with cond := some uptoSmall }

/-- 'laws.FnExactFillHoles', WHERE WHAT IT READS IS OF BULK AT MOST 1048576: true; the input reads as it did. -/
def fnExactFillHolesUptoRow : OpenClaim := { program := "ytdalgphpacikkac", sum := "6313d89eb0f9ef955c7e0fd4690a5d1c65aa9ee18fb92268f287e7099ea04fb7", func := "loop.example/callbinding/laws.FnExactFillHoles", spec := "fnExactFillHoles", unfollowed := true, recurses := true, apart := false, narrowed := true }
def FnExactFillHolesUptoSaid : Prop := fnExactFillHolesUptoRow.holds Try.pinned (OpenSpec.upto fnExactFillHolesSpec)

/-- 'laws.FnExactFlattenCall', WHERE WHAT IT READS IS OF BULK AT MOST 1048576: true; the input reads as it did. -/
def fnExactFlattenCallUptoRow : OpenClaim := { program := "ytdalgphpacikkac", sum := "6313d89eb0f9ef955c7e0fd4690a5d1c65aa9ee18fb92268f287e7099ea04fb7", func := "loop.example/callbinding/laws.FnExactFlattenCall", spec := "fnExactFlattenCall", unfollowed := true, recurses := true, apart := false, narrowed := true }
def FnExactFlattenCallUptoSaid : Prop := fnExactFlattenCallUptoRow.holds Try.pinned (OpenSpec.upto fnExactFlattenCallSpec)

/-- 'laws.FnExactAcceptsShape', WHERE WHAT IT READS IS OF BULK AT MOST 1048576: true; the input reads as it did. -/
def fnExactAcceptsShapeUptoRow : OpenClaim := { program := "ytdalgphpacikkac", sum := "6313d89eb0f9ef955c7e0fd4690a5d1c65aa9ee18fb92268f287e7099ea04fb7", func := "loop.example/callbinding/laws.FnExactAcceptsShape", spec := "fnExactAcceptsShape", unfollowed := true, recurses := true, apart := false, narrowed := true }
def FnExactAcceptsShapeUptoSaid : Prop := fnExactAcceptsShapeUptoRow.holds Try.pinned (OpenSpec.upto fnExactAcceptsShapeSpec)

/-- 'laws.FnExactSameFlat', WHERE WHAT IT READS IS OF BULK AT MOST 1048576: true; the input reads as it did. -/
def fnExactSameFlatUptoRow : OpenClaim := { program := "ytdalgphpacikkac", sum := "6313d89eb0f9ef955c7e0fd4690a5d1c65aa9ee18fb92268f287e7099ea04fb7", func := "loop.example/callbinding/laws.FnExactSameFlat", spec := "fnExactSameFlat", unfollowed := true, recurses := true, apart := false, narrowed := true }
def FnExactSameFlatUptoSaid : Prop := fnExactSameFlatUptoRow.holds Try.pinned (OpenSpec.upto fnExactSameFlatSpec)

/-- 'laws.FnExactTakesCount', WHERE WHAT IT READS IS OF BULK AT MOST 1048576: true; the input reads as it did. -/
def fnExactTakesCountUptoRow : OpenClaim := { program := "ytdalgphpacikkac", sum := "6313d89eb0f9ef955c7e0fd4690a5d1c65aa9ee18fb92268f287e7099ea04fb7", func := "loop.example/callbinding/laws.FnExactTakesCount", spec := "fnExactTakesCount", unfollowed := true, recurses := true, apart := false, narrowed := true }
def FnExactTakesCountUptoSaid : Prop := fnExactTakesCountUptoRow.holds Try.pinned (OpenSpec.upto fnExactTakesCountSpec)

end Rows
end Go.Proofs.Ytdalgphpacikkac
