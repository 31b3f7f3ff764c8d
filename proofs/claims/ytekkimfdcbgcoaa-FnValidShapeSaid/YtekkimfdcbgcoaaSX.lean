/- Shapes of sorted flat calls: plain facts. -/
import Derived.Test.YtekkimfdcbgcoaaSG
import Derived.Test.YtekkimfdcbgcoaaXS
namespace Go.Proofs.Ytekkimfdcbgcoaa.Am
open Go
set_option linter.unusedSimpArgs false
set_option linter.unusedVariables false
theorem okNames_of {l : List ByteArray} (h1 : ∀ x ∈ l, okName x = true) (h2 : ∀ i (hi : i + 1 < l.length), sLess (l[i]'(by omega)) l[i + 1] = true) : okNames l = true := by
  unfold okNames
  rw [List.all_eq_true]
  intro i hi
  have hi := List.mem_range.1 hi
  cases i with
  | zero => rw [stepN_zero hi]; exact h1 _ (List.getElem_mem hi)
  | succ j => rw [stepN_succ hi, h1 _ (List.getElem_mem hi), h2 j hi]; rfl
theorem shape_ok {f : Flat} (h : okFlat f = true) : okShape (shapeF f) = true := by
  have hp := okFlat_parts.1 h
  rw [shapeF_ok h]
  unfold okShape
  simp only [Bool.and_eq_true, decide_eq_true_iff, List.length_map, isort_len]
  refine ⟨okNames_of (fun x hx => ?_) (fun i hi => ?_), ⟨by omega, by omega⟩, by omega⟩
  · obtain ⟨y, hy, rfl⟩ := List.mem_map.1 hx
    have := hp.2.2.1 y (isort_perm.mem_iff.1 hy)
    unfold okPair at this
    rw [Bool.and_eq_true] at this
    exact this.1
  · simp only [List.getElem_map]
    exact sort_up (okFlat_apart h) (by simpa using hi)
theorem zero_names {l : List ByteArray} : (l.map zeroP).map Pair.name = l := by
  rw [List.map_map]
  have : (Pair.name ∘ zeroP) = id := rfl
  rw [this, List.map_id]
theorem sort_zero {x : Shape} (h : okShape x = true) : isort ltP (flatS x).nl = (flatS x).nl := by
  have hf := okShape_flat h
  refine sort_eq (okFlat_apart hf) (List.Perm.refl _) ?_
  rw [List.pairwise_iff_getElem]
  intro i j hi hj hij
  unfold okShape at h
  rw [Bool.and_eq_true] at h
  have e := okNames_up h.1 (i := i) (j := j) (by simpa [flatS] using hj) hij
  simp only [flatS, List.getElem_map]
  exact sLess_asymm e
theorem shape_zero {x : Shape} (h : okShape x = true) : shapeF (flatS x) = x := by
  rw [shapeF_ok (okShape_flat h), sort_zero h]
  unfold okShape at h
  simp only [Bool.and_eq_true, decide_eq_true_iff] at h
  obtain ⟨k, hk⟩ := Int.eq_ofNat_of_zero_le h.2.1.1
  unfold flatS
  simp only [List.length_replicate, zero_names]
  cases x
  simp only at hk
  subst hk
  simp
end Go.Proofs.Ytekkimfdcbgcoaa.Am
