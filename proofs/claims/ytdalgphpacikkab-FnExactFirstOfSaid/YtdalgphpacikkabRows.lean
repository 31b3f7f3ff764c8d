/-
  No cell of these rows narrows 'for every input' (looked for: loops, veiled, ifaces, maps, wideKeys, modest, calm, conditions, laid).
  DERIVED. THE GIVEN ROWS OF THIS SEAT. 6 by the template 'for every input the law returns true; each argument reads behind the call as it read before'; 0 by the template 'total and deterministic' (their statements: YtdalgphpacikkabTotals.lean).
  GIVEN WITH THE SEED: the statements are not yours to turn. If you find one false, say at which input.
  Laid BY PROGRAM, IN A SANDBOX (cutbox-rows.mjs): the forced cells as the released guide's own fill.sh prints them over the translation 60040e2a6dd78b06… (all of the seat's roots in one cut). By AI agents, Wed Nov 11 2026. No macro, syntax, notation, axiom, sorry.
-/
import Derived.Test.YtdalgphpacikkabChecked
import GoSem.Claim
import GoSem.ClaimJoined
import GoSem.ClaimMapViews
import Derived.JoinedTies
import Derived.KernelRfl
namespace Go.Proofs.Ytdalgphpacikkab
/- THE CELL 'sum', in the pinned program and in every row, IS THE sha256 OF THE DUMP (.gsa) THAT YtdalgphpacikkabProg.lean LOADS. Nothing in Lean hashes anything: it is a label: what it is worth is what the hold of that sum in a sandbox is worth. -/
noncomputable def Try.pinned : Pinned := { name := "ytdalgphpacikkab", sum := "60040e2a6dd78b06dfee48f119a818eb137b0dd9faa6b3193157ab14deb01574", checked := Try.checked }
namespace Rows
def none {H : Type} : Left H := { results := [], args := [] }

/-- 'laws.FnExactFreeParams': WHATEVER THE INPUT: true; the input reads as it did. -/
def fnExactFreeParamsSpec : ChangeSpec := { name := "fnExactFreeParams", fn := fun _ => fun
  | [d] => { results := [.lit (.bool true)], args := [d] }
  | _ => none }
def fnExactFreeParamsRow : OpenClaim := { program := "ytdalgphpacikkab", sum := "60040e2a6dd78b06dfee48f119a818eb137b0dd9faa6b3193157ab14deb01574", func := "loop.example/callbinding/laws.FnExactFreeParams", spec := "fnExactFreeParams", unfollowed := true, recurses := true, apart := false }
def FnExactFreeParamsSaid : Prop := fnExactFreeParamsRow.holds Try.pinned (OpenSpec.ofChange fnExactFreeParamsSpec)

/-- ITS FALSE NEIGHBOUR: 'it returns false'. Refute it at one input. -/
def fnExactFreeParamsWrong : ChangeSpec := { name := "fnExactFreeParams", fn := fun _ => fun
  | [d] => { results := [.lit (.bool false)], args := [d] }
  | _ => none }
def FnExactFreeParamsWrongFalsely : Prop := fnExactFreeParamsRow.holds Try.pinned (OpenSpec.ofChange fnExactFreeParamsWrong)

/-- 'laws.FnExactLackOf': WHATEVER THE INPUT: true; the input reads as it did. -/
def fnExactLackOfSpec : ChangeSpec := { name := "fnExactLackOf", fn := fun _ => fun
  | [d] => { results := [.lit (.bool true)], args := [d] }
  | _ => none }
def fnExactLackOfRow : OpenClaim := { program := "ytdalgphpacikkab", sum := "60040e2a6dd78b06dfee48f119a818eb137b0dd9faa6b3193157ab14deb01574", func := "loop.example/callbinding/laws.FnExactLackOf", spec := "fnExactLackOf", unfollowed := true, recurses := true, apart := false }
def FnExactLackOfSaid : Prop := fnExactLackOfRow.holds Try.pinned (OpenSpec.ofChange fnExactLackOfSpec)

/-- ITS FALSE NEIGHBOUR: 'it returns false'. Refute it at one input. -/
def fnExactLackOfWrong : ChangeSpec := { name := "fnExactLackOf", fn := fun _ => fun
  | [d] => { results := [.lit (.bool false)], args := [d] }
  | _ => none }
def FnExactLackOfWrongFalsely : Prop := fnExactLackOfRow.holds Try.pinned (OpenSpec.ofChange fnExactLackOfWrong)

/-- 'laws.FnExactPassedFlat': WHATEVER THE INPUT: true; the input reads as it did. -/
def fnExactPassedFlatSpec : ChangeSpec := { name := "fnExactPassedFlat", fn := fun _ => fun
  | [d1, d2] => { results := [.lit (.bool true)], args := [d1, d2] }
  | _ => none }
def fnExactPassedFlatRow : OpenClaim := { program := "ytdalgphpacikkab", sum := "60040e2a6dd78b06dfee48f119a818eb137b0dd9faa6b3193157ab14deb01574", func := "loop.example/callbinding/laws.FnExactPassedFlat", spec := "fnExactPassedFlat", unfollowed := true, recurses := true, apart := false }
def FnExactPassedFlatSaid : Prop := fnExactPassedFlatRow.holds Try.pinned (OpenSpec.ofChange fnExactPassedFlatSpec)

/-- ITS FALSE NEIGHBOUR: 'it returns false'. Refute it at one input. -/
def fnExactPassedFlatWrong : ChangeSpec := { name := "fnExactPassedFlat", fn := fun _ => fun
  | [d1, d2] => { results := [.lit (.bool false)], args := [d1, d2] }
  | _ => none }
def FnExactPassedFlatWrongFalsely : Prop := fnExactPassedFlatRow.holds Try.pinned (OpenSpec.ofChange fnExactPassedFlatWrong)

/-- 'laws.FnExactAcceptsWrapped': WHATEVER THE INPUT: true; the input reads as it did. -/
def fnExactAcceptsWrappedSpec : ChangeSpec := { name := "fnExactAcceptsWrapped", fn := fun _ => fun
  | [d1, d2, d3] => { results := [.lit (.bool true)], args := [d1, d2, d3] }
  | _ => none }
def fnExactAcceptsWrappedRow : OpenClaim := { program := "ytdalgphpacikkab", sum := "60040e2a6dd78b06dfee48f119a818eb137b0dd9faa6b3193157ab14deb01574", func := "loop.example/callbinding/laws.FnExactAcceptsWrapped", spec := "fnExactAcceptsWrapped", unfollowed := true, recurses := true, apart := false }
def FnExactAcceptsWrappedSaid : Prop := fnExactAcceptsWrappedRow.holds Try.pinned (OpenSpec.ofChange fnExactAcceptsWrappedSpec)

/-- ITS FALSE NEIGHBOUR: 'it returns false'. Refute it at one input. -/
def fnExactAcceptsWrappedWrong : ChangeSpec := { name := "fnExactAcceptsWrapped", fn := fun _ => fun
  | [d1, d2, d3] => { results := [.lit (.bool false)], args := [d1, d2, d3] }
  | _ => none }
def FnExactAcceptsWrappedWrongFalsely : Prop := fnExactAcceptsWrappedRow.holds Try.pinned (OpenSpec.ofChange fnExactAcceptsWrappedWrong)

/-- 'laws.FnExactAllOf': WHATEVER THE INPUT: true; the input reads as it did. -/
def fnExactAllOfSpec : ChangeSpec := { name := "fnExactAllOf", fn := fun _ => fun
  | [d1, d2] => { results := [.lit (.bool true)], args := [d1, d2] }
  | _ => none }
def fnExactAllOfRow : OpenClaim := { program := "ytdalgphpacikkab", sum := "60040e2a6dd78b06dfee48f119a818eb137b0dd9faa6b3193157ab14deb01574", func := "loop.example/callbinding/laws.FnExactAllOf", spec := "fnExactAllOf", unfollowed := true, recurses := true, apart := false }
def FnExactAllOfSaid : Prop := fnExactAllOfRow.holds Try.pinned (OpenSpec.ofChange fnExactAllOfSpec)

/-- ITS FALSE NEIGHBOUR: 'it returns false'. Refute it at one input. -/
def fnExactAllOfWrong : ChangeSpec := { name := "fnExactAllOf", fn := fun _ => fun
  | [d1, d2] => { results := [.lit (.bool false)], args := [d1, d2] }
  | _ => none }
def FnExactAllOfWrongFalsely : Prop := fnExactAllOfRow.holds Try.pinned (OpenSpec.ofChange fnExactAllOfWrong)

/-- 'laws.FnExactFirstOf': WHATEVER THE INPUT: true; the input reads as it did. -/
def fnExactFirstOfSpec : ChangeSpec := { name := "fnExactFirstOf", fn := fun _ => fun
  | [d1, d2] => { results := [.lit (.bool true)], args := [d1, d2] }
  | _ => none }
def fnExactFirstOfRow : OpenClaim := { program := "ytdalgphpacikkab", sum := "60040e2a6dd78b06dfee48f119a818eb137b0dd9faa6b3193157ab14deb01574", func := "loop.example/callbinding/laws.FnExactFirstOf", spec := "fnExactFirstOf", unfollowed := true, recurses := true, apart := false }
def FnExactFirstOfSaid : Prop := fnExactFirstOfRow.holds Try.pinned (OpenSpec.ofChange fnExactFirstOfSpec)

/-- ITS FALSE NEIGHBOUR: 'it returns false'. Refute it at one input. -/
def fnExactFirstOfWrong : ChangeSpec := { name := "fnExactFirstOf", fn := fun _ => fun
  | [d1, d2] => { results := [.lit (.bool false)], args := [d1, d2] }
  | _ => none }
def FnExactFirstOfWrongFalsely : Prop := fnExactFirstOfRow.holds Try.pinned (OpenSpec.ofChange fnExactFirstOfWrong)

/- THE SECOND FORM. 'bulk': how many values and letters a reading holds, each counted each time it is reached (what is shared counts as often as it is met; a slice's spare places count too). A statement '..UptoSaid' is the law's where the arguments, and the package variables that the reading takes, are together of bulk at most 1048576: NARROWER than '..Said'. Prove '..Said' where nothing that the law and all that it calls make is longer than what came in: it says more and counts as full. Else prove '..UptoSaid'. A law counts once. -/
mutual
def uptoBulk {H : Type} : DataW H → Nat
  | .lit (.string bytes) => bytes.length + 1
  | .lit _ => 1
  | .nil => 1
  | .ptr d => uptoBulk d + 1
  | .slice elems spare => uptoBulkAll elems + uptoBulkAll spare + 1
  | .agg parts => uptoBulkAll parts + 1
  | .iface _ d => uptoBulk d + 1
  | .map entries => uptoBulkEntries entries + 1
  | .held _ => 1
def uptoBulkAll {H : Type} : List (DataW H) → Nat
  | [] => 0
  | d :: r => uptoBulk d + uptoBulkAll r
def uptoBulkEntries {H : Type} : List (Lit × DataW H) → Nat
  | [] => 0
  | x :: r => uptoBulkEntry x + uptoBulkEntries r
def uptoBulkEntry {H : Type} : Lit × DataW H → Nat
  | (.string bytes, d) => bytes.length + uptoBulk d + 1
  | (_, d) => uptoBulk d + 1
 end
def uptoSmall : (H : Type) → List (DataW H) → Bool := fun _ ds => decide (uptoBulkAll ds ≤ 1048576)
def OpenSpec.upto (s : _root_.Go.ChangeSpec) : _root_.Go.OpenSpec := { _root_.Go.OpenSpec.ofChange s with cond := some uptoSmall }

/-- 'laws.FnExactFreeParams', WHERE WHAT IT READS IS OF BULK AT MOST 1048576: true; the input reads as it did. -/
def fnExactFreeParamsUptoRow : OpenClaim := { program := "ytdalgphpacikkab", sum := "60040e2a6dd78b06dfee48f119a818eb137b0dd9faa6b3193157ab14deb01574", func := "loop.example/callbinding/laws.FnExactFreeParams", spec := "fnExactFreeParams", unfollowed := true, recurses := true, apart := false, narrowed := true }
def FnExactFreeParamsUptoSaid : Prop := fnExactFreeParamsUptoRow.holds Try.pinned (OpenSpec.upto fnExactFreeParamsSpec)

/-- 'laws.FnExactLackOf', WHERE WHAT IT READS IS OF BULK AT MOST 1048576: true; the input reads as it did. -/
def fnExactLackOfUptoRow : OpenClaim := { program := "ytdalgphpacikkab", sum := "60040e2a6dd78b06dfee48f119a818eb137b0dd9faa6b3193157ab14deb01574", func := "loop.example/callbinding/laws.FnExactLackOf", spec := "fnExactLackOf", unfollowed := true, recurses := true, apart := false, narrowed := true }
def FnExactLackOfUptoSaid : Prop := fnExactLackOfUptoRow.holds Try.pinned (OpenSpec.upto fnExactLackOfSpec)

/-- 'laws.FnExactPassedFlat', WHERE WHAT IT READS IS OF BULK AT MOST 1048576: true; the input reads as it did. -/
def fnExactPassedFlatUptoRow : OpenClaim := { program := "ytdalgphpacikkab", sum := "60040e2a6dd78b06dfee48f119a818eb137b0dd9faa6b3193157ab14deb01574", func := "loop.example/callbinding/laws.FnExactPassedFlat", spec := "fnExactPassedFlat", unfollowed := true, recurses := true, apart := false, narrowed := true }
def FnExactPassedFlatUptoSaid : Prop := fnExactPassedFlatUptoRow.holds Try.pinned (OpenSpec.upto fnExactPassedFlatSpec)

/-- 'laws.FnExactAcceptsWrapped', WHERE WHAT IT READS IS OF BULK AT MOST 1048576: true; the input reads as it did. -/
def fnExactAcceptsWrappedUptoRow : OpenClaim := { program := "ytdalgphpacikkab", sum := "60040e2a6dd78b06dfee48f119a818eb137b0dd9faa6b3193157ab14deb01574", func := "loop.example/callbinding/laws.FnExactAcceptsWrapped", spec := "fnExactAcceptsWrapped", unfollowed := true, recurses := true, apart := false, narrowed := true }
def FnExactAcceptsWrappedUptoSaid : Prop := fnExactAcceptsWrappedUptoRow.holds Try.pinned (OpenSpec.upto fnExactAcceptsWrappedSpec)

/-- 'laws.FnExactAllOf', WHERE WHAT IT READS IS OF BULK AT MOST 1048576: true; the input reads as it did. -/
def fnExactAllOfUptoRow : OpenClaim := { program := "ytdalgphpacikkab", sum := "60040e2a6dd78b06dfee48f119a818eb137b0dd9faa6b3193157ab14deb01574", func := "loop.example/callbinding/laws.FnExactAllOf", spec := "fnExactAllOf", unfollowed := true, recurses := true, apart := false, narrowed := true }
def FnExactAllOfUptoSaid : Prop := fnExactAllOfUptoRow.holds Try.pinned (OpenSpec.upto fnExactAllOfSpec)

/-- 'laws.FnExactFirstOf', WHERE WHAT IT READS IS OF BULK AT MOST 1048576: true; the input reads as it did. -/
def fnExactFirstOfUptoRow : OpenClaim := { program := "ytdalgphpacikkab", sum := "60040e2a6dd78b06dfee48f119a818eb137b0dd9faa6b3193157ab14deb01574", func := "loop.example/callbinding/laws.FnExactFirstOf", spec := "fnExactFirstOf", unfollowed := true, recurses := true, apart := false, narrowed := true }
def FnExactFirstOfUptoSaid : Prop := fnExactFirstOfUptoRow.holds Try.pinned (OpenSpec.upto fnExactFirstOfSpec)

end Rows
end Go.Proofs.Ytdalgphpacikkab
