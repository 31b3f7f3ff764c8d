/- The law FnProblemsMend: whatever the input, it answers true and the input reads as it did. -/
import Derived.Test.YtekkimfdcbgcoabRows
import Derived.Test.YtekkimfdcbgcoabLwProblemsMend
import Derived.OpenShut
import Derived.HandedShaped
namespace Go.Proofs.Ytekkimfdcbgcoab.fnProblemsMend
open Go Go.RowKit Go.ChangeShapes Go.WideShapes Go.ChangeAt
theorem own : ownKnob Try.checked.prog.godebug = none := by kernel_rfl
theorem laidOut : laidOutB Try.checked.prog = true := by kernel_rfl
theorem globals : Try.checked.prog.globals.size < (begin Try.checked.prog (fun _ _ => 0) default).world.heap.size := of_decide_eq_true (by kernel_rfl)
set_option maxHeartbeats 4000000 in
theorem closed : joinedFacts Try.pinned.checked.prog 8 Try.f8 Rows.fnProblemsMendSpec Rows.fnProblemsMendRow = true := by
  unfold joinedFacts
  repeat' (with_reducible refine Bool.and_eq_true_iff.2 ⟨?_, ?_⟩)
  all_goals as_aux_lemma => kernel_rfl
theorem inst : Try.f8.isInstance Try.pinned.checked.prog Rows.fnProblemsMendRow.origin Rows.fnProblemsMendRow.targs := of_decide_eq_true (by kernel_rfl)
theorem wrap : Try.f8.isWrapper Try.pinned.checked.prog Rows.fnProblemsMendRow.wrapper Rows.fnProblemsMendRow.mainSum := by unfold Func.isWrapper; first | (rw [if_pos (by decide +kernel)]; kernel_rfl) | (rw [if_neg (by decide +kernel)]; exact ⟨rfl, rfl⟩)
theorem named : Try.pinned.checked.prog.funcNamed Rows.fnProblemsMendRow.func = some 8 := by kernel_rfl
theorem params : Try.f8.params.toList = [22] := by rw [Try.params8]
theorem plain : ∀ t ∈ [22], Am.plainT Try.checked.prog 6 t = true := by
  intro t ht
  simp only [List.mem_cons, List.not_mem_nil, or_false] at ht
  subst ht; kernel_rfl
theorem readable : ∀ t ∈ [22], Try.checked.prog.readableRec t = true ∧ t < Try.checked.prog.types.size := by
  intro t ht
  simp only [List.mem_cons, List.not_mem_nil, or_false] at ht
  subst ht; exact ⟨by kernel_rfl, of_decide_eq_true (by kernel_rfl)⟩
set_option maxRecDepth 100000 in
theorem lifted (os : Os) (started : os.Started) (H : Type) (enc : TypeId × Value → H) :
    ReturnsInHanded {} Try.checked os 8 .any (Rows.fnProblemsMendSpec.pre6 enc Try.prog Try.f8 Rows.fnProblemsMendRow.domain false) (Rows.fnProblemsMendSpec.post enc Try.prog Try.f8 false true false false) := by
  refine returnsInHanded_of_change_shaped (C := Try.checked) own started (by kernel_rfl) Try.func8
    (ChangeSpec.witness6 (enc := enc) (C := Try.checked) false ⟨#[], #[.slice none 0 0], []⟩ 8 (by kernel_rfl) (by kernel_rfl) (by kernel_rfl) (by kernel_rfl)) ?_
  intro W base args ds gs before hval hW _ _ hsh _
  exact Am.law_contractB (m := 6) (tb := 4) Try.checked.mixed laidOut rfl (by kernel_rfl) Try.underlying4 (fun ds hd => by
    rw [params] at hd
    rcases ds with _ | ⟨d1, _ | ⟨d2, r⟩⟩ <;> first | rfl | (simp at hd)) (by rw [params]; exact plain) (by rw [params]; exact readable)
    (fun h avs hok => Am.law_of (Am.law8 h avs (by rw [params] at hok; exact hok))) (Am.heap_pos globals hsh) hval hW

/-- The row. -/
theorem said : Rows.FnProblemsMendSaid :=
  OpenClaim.holds_of_wide 8 Try.f8 rfl rfl rfl rfl rfl rfl rfl ⟨rfl, rfl, rfl, rfl, rfl⟩ rfl rfl rfl rfl rfl named Try.func8 closed inst wrap
    (fun os started H enc _ => lifted os started H enc)
end Go.Proofs.Ytekkimfdcbgcoab.fnProblemsMend
