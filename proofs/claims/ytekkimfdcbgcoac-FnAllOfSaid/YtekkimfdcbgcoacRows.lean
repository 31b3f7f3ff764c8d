/-
  No cell of these rows narrows 'for every input' (looked for: loops, veiled, ifaces, maps, wideKeys, modest, calm, conditions, laid).
  DERIVED. THE GIVEN ROWS OF THIS SEAT. 6 by the template 'for every input the law returns true; each argument reads behind the call as it read before'; 0 by the template 'total and deterministic' (their statements: YtekkimfdcbgcoacTotals.lean).
  GIVEN WITH THE SEED: the statements are not yours to turn. If you find one false, say at which input.
  Laid BY PROGRAM, IN A SANDBOX (cutbox-rows.mjs): the forced cells as the released guide's own fill.sh prints them over the translation 2f4d24144b177a57… (all of the seat's roots in one cut). By AI agents, Wed Nov 11 2026. No macro, syntax, notation, axiom, sorry.
-/
import Derived.Test.YtekkimfdcbgcoacChecked
import GoSem.Claim
import GoSem.ClaimJoined
import GoSem.ClaimMapViews
import Derived.JoinedTies
import Derived.KernelRfl
namespace Go.Proofs.Ytekkimfdcbgcoac
/- THE CELL 'sum', in the pinned program and in every row, IS THE sha256 OF THE DUMP (.gsa) THAT YtekkimfdcbgcoacProg.lean LOADS. Nothing in Lean hashes anything: it is a label: what it is worth is what the hold of that sum in a sandbox is worth. -/
noncomputable def Try.pinned : Pinned := { name := "ytekkimfdcbgcoac", sum := "2f4d24144b177a576572bfa52c69fc4ab30ce339f8d333e644eb84ac2d63622f", checked := Try.checked }
namespace Rows
def none {H : Type} : Left H := { results := [], args := [] }

/-- 'laws.FnFreeParams': WHATEVER THE INPUT: true; the input reads as it did. -/
def fnFreeParamsSpec : ChangeSpec := { name := "fnFreeParams", fn := fun _ => fun
  | [d] => { results := [.lit (.bool true)], args := [d] }
  | _ => none }
def fnFreeParamsRow : OpenClaim := { program := "ytekkimfdcbgcoac", sum := "2f4d24144b177a576572bfa52c69fc4ab30ce339f8d333e644eb84ac2d63622f", func := "loop.example/callbinding/laws.FnFreeParams", spec := "fnFreeParams", unfollowed := true, recurses := true, apart := false }
def FnFreeParamsSaid : Prop := fnFreeParamsRow.holds Try.pinned (OpenSpec.ofChange fnFreeParamsSpec)

/-- ITS FALSE NEIGHBOUR: 'it returns false'. Refute it at one input. -/
def fnFreeParamsWrong : ChangeSpec := { name := "fnFreeParams", fn := fun _ => fun
  | [d] => { results := [.lit (.bool false)], args := [d] }
  | _ => none }
def FnFreeParamsWrongFalsely : Prop := fnFreeParamsRow.holds Try.pinned (OpenSpec.ofChange fnFreeParamsWrong)

/-- 'laws.FnLackOf': WHATEVER THE INPUT: true; the input reads as it did. -/
def fnLackOfSpec : ChangeSpec := { name := "fnLackOf", fn := fun _ => fun
  | [d] => { results := [.lit (.bool true)], args := [d] }
  | _ => none }
def fnLackOfRow : OpenClaim := { program := "ytekkimfdcbgcoac", sum := "2f4d24144b177a576572bfa52c69fc4ab30ce339f8d333e644eb84ac2d63622f", func := "loop.example/callbinding/laws.FnLackOf", spec := "fnLackOf", unfollowed := true, recurses := true, apart := false }
def FnLackOfSaid : Prop := fnLackOfRow.holds Try.pinned (OpenSpec.ofChange fnLackOfSpec)

/-- ITS FALSE NEIGHBOUR: 'it returns false'. Refute it at one input. -/
def fnLackOfWrong : ChangeSpec := { name := "fnLackOf", fn := fun _ => fun
  | [d] => { results := [.lit (.bool false)], args := [d] }
  | _ => none }
def FnLackOfWrongFalsely : Prop := fnLackOfRow.holds Try.pinned (OpenSpec.ofChange fnLackOfWrong)

/-- 'laws.FnPartialSignatureFree': WHATEVER THE INPUT: true; the input reads as it did. -/
def fnPartialSignatureFreeSpec : ChangeSpec := { name := "fnPartialSignatureFree", fn := fun _ => fun
  | [d] => { results := [.lit (.bool true)], args := [d] }
  | _ => none }
def fnPartialSignatureFreeRow : OpenClaim := { program := "ytekkimfdcbgcoac", sum := "2f4d24144b177a576572bfa52c69fc4ab30ce339f8d333e644eb84ac2d63622f", func := "loop.example/callbinding/laws.FnPartialSignatureFree", spec := "fnPartialSignatureFree", unfollowed := true, recurses := true, apart := false }
def FnPartialSignatureFreeSaid : Prop := fnPartialSignatureFreeRow.holds Try.pinned (OpenSpec.ofChange fnPartialSignatureFreeSpec)

/-- ITS FALSE NEIGHBOUR: 'it returns false'. Refute it at one input. -/
def fnPartialSignatureFreeWrong : ChangeSpec := { name := "fnPartialSignatureFree", fn := fun _ => fun
  | [d] => { results := [.lit (.bool false)], args := [d] }
  | _ => none }
def FnPartialSignatureFreeWrongFalsely : Prop := fnPartialSignatureFreeRow.holds Try.pinned (OpenSpec.ofChange fnPartialSignatureFreeWrong)

/-- 'laws.FnPartialOf': WHATEVER THE INPUT: true; the input reads as it did. -/
def fnPartialOfSpec : ChangeSpec := { name := "fnPartialOf", fn := fun _ => fun
  | [d] => { results := [.lit (.bool true)], args := [d] }
  | _ => none }
def fnPartialOfRow : OpenClaim := { program := "ytekkimfdcbgcoac", sum := "2f4d24144b177a576572bfa52c69fc4ab30ce339f8d333e644eb84ac2d63622f", func := "loop.example/callbinding/laws.FnPartialOf", spec := "fnPartialOf", unfollowed := true, recurses := true, apart := false }
def FnPartialOfSaid : Prop := fnPartialOfRow.holds Try.pinned (OpenSpec.ofChange fnPartialOfSpec)

/-- ITS FALSE NEIGHBOUR: 'it returns false'. Refute it at one input. -/
def fnPartialOfWrong : ChangeSpec := { name := "fnPartialOf", fn := fun _ => fun
  | [d] => { results := [.lit (.bool false)], args := [d] }
  | _ => none }
def FnPartialOfWrongFalsely : Prop := fnPartialOfRow.holds Try.pinned (OpenSpec.ofChange fnPartialOfWrong)

/-- 'laws.FnFullFlat': WHATEVER THE INPUT: true; the input reads as it did. -/
def fnFullFlatSpec : ChangeSpec := { name := "fnFullFlat", fn := fun _ => fun
  | [d] => { results := [.lit (.bool true)], args := [d] }
  | _ => none }
def fnFullFlatRow : OpenClaim := { program := "ytekkimfdcbgcoac", sum := "2f4d24144b177a576572bfa52c69fc4ab30ce339f8d333e644eb84ac2d63622f", func := "loop.example/callbinding/laws.FnFullFlat", spec := "fnFullFlat", unfollowed := true, recurses := true, apart := false }
def FnFullFlatSaid : Prop := fnFullFlatRow.holds Try.pinned (OpenSpec.ofChange fnFullFlatSpec)

/-- ITS FALSE NEIGHBOUR: 'it returns false'. Refute it at one input. -/
def fnFullFlatWrong : ChangeSpec := { name := "fnFullFlat", fn := fun _ => fun
  | [d] => { results := [.lit (.bool false)], args := [d] }
  | _ => none }
def FnFullFlatWrongFalsely : Prop := fnFullFlatRow.holds Try.pinned (OpenSpec.ofChange fnFullFlatWrong)

/-- 'laws.FnAllOf': WHATEVER THE INPUT: true; the input reads as it did. -/
def fnAllOfSpec : ChangeSpec := { name := "fnAllOf", fn := fun _ => fun
  | [d] => { results := [.lit (.bool true)], args := [d] }
  | _ => none }
def fnAllOfRow : OpenClaim := { program := "ytekkimfdcbgcoac", sum := "2f4d24144b177a576572bfa52c69fc4ab30ce339f8d333e644eb84ac2d63622f", func := "loop.example/callbinding/laws.FnAllOf", spec := "fnAllOf", unfollowed := true, recurses := true, apart := false }
def FnAllOfSaid : Prop := fnAllOfRow.holds Try.pinned (OpenSpec.ofChange fnAllOfSpec)

/-- ITS FALSE NEIGHBOUR: 'it returns false'. Refute it at one input. -/
def fnAllOfWrong : ChangeSpec := { name := "fnAllOf", fn := fun _ => fun
  | [d] => { results := [.lit (.bool false)], args := [d] }
  | _ => none }
def FnAllOfWrongFalsely : Prop := fnAllOfRow.holds Try.pinned (OpenSpec.ofChange fnAllOfWrong)

/- THE SECOND FORM. 'bulk': how many values and letters a reading holds, each counted each time it is reached (what is shared counts as often as it is met; a slice's spare places count too). A statement '..UptoSaid' is the law's where the arguments, and the package variables that the reading takes, are together of bulk at most 1048576: NARROWER than '..Said'. Prove '..Said' where nothing that the law and all that it calls make is longer than what came in: it says more and counts as full. Else prove '..UptoSaid'. A law counts once. -/
mutual
def uptoBulk {H : Type} : DataW H → Nat
  | .lit (.string bytes) => bytes.length + 1
  | .lit _ => 1
  | .nil => 1
  | .ptr d => uptoBulk d + 1
  | .slice elems spare => uptoBulkAll elems + uptoBulkAll spare + 1
  | .agg parts => uptoBulkAll parts + 1
  | .iface _ d => uptoBulk d + 1
  | .map entries => uptoBulkEntries entries + 1
  | .held _ => 1
def uptoBulkAll {H : Type} : List (DataW H) → Nat
  | [] => 0
  | d :: r => uptoBulk d + uptoBulkAll r
def uptoBulkEntries {H : Type} : List (Lit × DataW H) → Nat
  | [] => 0
  | x :: r => uptoBulkEntry x + uptoBulkEntries r
def uptoBulkEntry {H : Type} : Lit × DataW H → Nat
  | (.string bytes, d) => bytes.length + uptoBulk d + 1
  | (_, d) => uptoBulk d + 1
 end
def uptoSmall : (H : Type) → List (DataW H) → Bool := fun _ ds => decide (uptoBulkAll ds ≤ 1048576)
def OpenSpec.upto (s : _root_.Go.ChangeSpec) : _root_.Go.OpenSpec := { _root_.Go.OpenSpec.ofChange s with cond := some uptoSmall }

/-- 'laws.FnFreeParams', WHERE WHAT IT READS IS OF BULK AT MOST 1048576: true; the input reads as it did. -/
def fnFreeParamsUptoRow : OpenClaim := { program := "ytekkimfdcbgcoac", sum := "2f4d24144b177a576572bfa52c69fc4ab30ce339f8d333e644eb84ac2d63622f", func := "loop.example/callbinding/laws.FnFreeParams", spec := "fnFreeParams", unfollowed := true, recurses := true, apart := false, narrowed := true }
def FnFreeParamsUptoSaid : Prop := fnFreeParamsUptoRow.holds Try.pinned (OpenSpec.upto fnFreeParamsSpec)

/-- 'laws.FnLackOf', WHERE WHAT IT READS IS OF BULK AT MOST 1048576: true; the input reads as it did. -/
def fnLackOfUptoRow : OpenClaim := { program := "ytekkimfdcbgcoac", sum := "2f4d24144b177a576572bfa52c69fc4ab30ce339f8d333e644eb84ac2d63622f", func := "loop.example/callbinding/laws.FnLackOf", spec := "fnLackOf", unfollowed := true, recurses := true, apart := false, narrowed := true }
def FnLackOfUptoSaid : Prop := fnLackOfUptoRow.holds Try.pinned (OpenSpec.upto fnLackOfSpec)

/-- 'laws.FnPartialSignatureFree', WHERE WHAT IT READS IS OF BULK AT MOST 1048576: true; the input reads as it did. -/
def fnPartialSignatureFreeUptoRow : OpenClaim := { program := "ytekkimfdcbgcoac", sum := "2f4d24144b177a576572bfa52c69fc4ab30ce339f8d333e644eb84ac2d63622f", func := "loop.example/callbinding/laws.FnPartialSignatureFree", spec := "fnPartialSignatureFree", unfollowed := true, recurses := true, apart := false, narrowed := true }
def FnPartialSignatureFreeUptoSaid : Prop := fnPartialSignatureFreeUptoRow.holds Try.pinned (OpenSpec.upto fnPartialSignatureFreeSpec)

/-- 'laws.FnPartialOf', WHERE WHAT IT READS IS OF BULK AT MOST 1048576: true; the input reads as it did. -/
def fnPartialOfUptoRow : OpenClaim := { program := "ytekkimfdcbgcoac", sum := "2f4d24144b177a576572bfa52c69fc4ab30ce339f8d333e644eb84ac2d63622f", func := "loop.example/callbinding/laws.FnPartialOf", spec := "fnPartialOf", unfollowed := true, recurses := true, apart := false, narrowed := true }
def FnPartialOfUptoSaid : Prop := fnPartialOfUptoRow.holds Try.pinned (OpenSpec.upto fnPartialOfSpec)

/-- 'laws.FnFullFlat', WHERE WHAT IT READS IS OF BULK AT MOST 1048576: true; the input reads as it did. -/
def fnFullFlatUptoRow : OpenClaim := { program := "ytekkimfdcbgcoac", sum := "2f4d24144b177a576572bfa52c69fc4ab30ce339f8d333e644eb84ac2d63622f", func := "loop.example/callbinding/laws.FnFullFlat", spec := "fnFullFlat", unfollowed := true, recurses := true, apart := false, narrowed := true }
def FnFullFlatUptoSaid : Prop := fnFullFlatUptoRow.holds Try.pinned (OpenSpec.upto fnFullFlatSpec)

/-- 'laws.FnAllOf', WHERE WHAT IT READS IS OF BULK AT MOST 1048576: true; the input reads as it did. -/
def fnAllOfUptoRow : OpenClaim := { program := "ytekkimfdcbgcoac", sum := "2f4d24144b177a576572bfa52c69fc4ab30ce339f8d333e644eb84ac2d63622f", func := "loop.example/callbinding/laws.FnAllOf", spec := "fnAllOf", unfollowed := true, recurses := true, apart := false, narrowed := true }
def FnAllOfUptoSaid : Prop := fnAllOfUptoRow.holds Try.pinned (OpenSpec.upto fnAllOfSpec)

end Rows
end Go.Proofs.Ytekkimfdcbgcoac
