/- The law FnExactPartialOf: whatever the input, it answers true and the input reads as it did. -/
import Derived.Test.YtdalgphpacikkaaGreatRows
import Derived.Test.YtdalgphpacikkaaGreatLwExactPartialOf
import Derived.OpenShut
import Derived.HandedShaped
namespace Go.Proofs.YtdalgphpacikkaaGreat.fnExactPartialOf
open Go Go.RowKit Go.ChangeShapes Go.WideShapes Go.ChangeAt
theorem own : ownKnob Tryz.checked.prog.godebug = none := by kernel_rfl
theorem laidOut : laidOutB Tryz.checked.prog = true := by kernel_rfl
theorem globals : Tryz.checked.prog.globals.size < (begin Tryz.checked.prog (fun _ _ => 0) default).world.heap.size := of_decide_eq_true (by kernel_rfl)
set_option maxHeartbeats 4000000 in
theorem closed : joinedFacts Tryz.pinned.checked.prog 3 Tryz.f3 Rows.fnExactPartialOfSpec Rows.fnExactPartialOfRow = true := by
  unfold joinedFacts
  repeat' (with_reducible refine Bool.and_eq_true_iff.2 ⟨?_, ?_⟩)
  all_goals as_aux_lemma => kernel_rfl
theorem inst : Tryz.f3.isInstance Tryz.pinned.checked.prog Rows.fnExactPartialOfRow.origin Rows.fnExactPartialOfRow.targs := of_decide_eq_true (by kernel_rfl)
theorem wrap : Tryz.f3.isWrapper Tryz.pinned.checked.prog Rows.fnExactPartialOfRow.wrapper Rows.fnExactPartialOfRow.mainSum := by unfold Func.isWrapper; first | (rw [if_pos (by decide +kernel)]; kernel_rfl) | (rw [if_neg (by decide +kernel)]; exact ⟨rfl, rfl⟩)
theorem named : Tryz.pinned.checked.prog.funcNamed Rows.fnExactPartialOfRow.func = some 3 := by kernel_rfl
theorem params : Tryz.f3.params.toList = [24, 28] := by rw [Tryz.params3]
theorem plain : ∀ t ∈ [24, 28], Am.plainT Tryz.checked.prog 6 t = true := by
  intro t ht
  simp only [List.mem_cons, List.not_mem_nil, or_false] at ht
  rcases ht with rfl | rfl <;> kernel_rfl
theorem readable : ∀ t ∈ [24, 28], Tryz.checked.prog.readableRec t = true ∧ t < Tryz.checked.prog.types.size := by
  intro t ht
  simp only [List.mem_cons, List.not_mem_nil, or_false] at ht
  rcases ht with rfl | rfl <;> exact ⟨by kernel_rfl, of_decide_eq_true (by kernel_rfl)⟩
set_option maxRecDepth 100000 in
theorem lifted (os : Os) (started : os.Started) (H : Type) (enc : TypeId × Value → H) :
    ReturnsInHanded {} Tryz.checked os 3 .any (Rows.fnExactPartialOfSpec.pre6 enc Tryz.prog Tryz.f3 Rows.fnExactPartialOfRow.domain false) (Rows.fnExactPartialOfSpec.post enc Tryz.prog Tryz.f3 false true false false) := by
  refine returnsInHanded_of_change_shaped (C := Tryz.checked) own started (by kernel_rfl) Tryz.func3
    (ChangeSpec.witness6 (enc := enc) (C := Tryz.checked) false ⟨#[], #[.agg #[.slice none 0 0], .agg #[.slice none 0 0, .slice none 0 0]], []⟩ 8 (by kernel_rfl) (by kernel_rfl) (by kernel_rfl) (by kernel_rfl)) ?_
  intro W base args ds gs before hval hW _ _ hsh _
  exact Am.law_contractB (m := 6) (tb := 4) Tryz.checked.mixed laidOut rfl (by kernel_rfl) Tryz.underlying4 (fun ds hd => by
    rw [params] at hd
    rcases ds with _ | ⟨d1, _ | ⟨d2, _ | ⟨d3, r⟩⟩⟩ <;> first | rfl | (simp at hd)) (by rw [params]; exact plain) (by rw [params]; exact readable)
    (fun h avs hok => Am.law_of (Am.law3 h avs (by rw [params] at hok; exact hok))) (Am.heap_pos globals hsh) hval hW

/-- The row. -/
theorem said : Rows.FnExactPartialOfSaid :=
  OpenClaim.holds_of_wide 3 Tryz.f3 rfl rfl rfl rfl rfl rfl rfl ⟨rfl, rfl, rfl, rfl, rfl⟩ rfl rfl rfl rfl rfl named Tryz.func3 closed inst wrap
    (fun os started H enc _ => lifted os started H enc)
end Go.Proofs.YtdalgphpacikkaaGreat.fnExactPartialOf
