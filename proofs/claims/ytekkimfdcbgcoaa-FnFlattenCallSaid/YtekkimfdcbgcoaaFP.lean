/- Flat calls are made flat again, and what comes by place alone: plain facts. -/
import Derived.Test.YtekkimfdcbgcoaaFD
import Derived.Test.YtekkimfdcbgcoaaSG
namespace Go.Proofs.Ytekkimfdcbgcoaa.Am
open Go
set_option linter.unusedSimpArgs false
set_option linter.unusedVariables false
theorem okCall_kinds {l : List Arg} (h : okCall l = true) : ∀ {i j : Nat} (hj : j < l.length) (hij : i < j), (l[i]'(by omega)).kind ≥ 2 → l[j].kind ≥ 2 := by
  intro i j hj hij hk
  have h0 := h
  unfold okCall at h0
  rw [Bool.and_eq_true, List.all_eq_true] at h0
  induction j with
  | zero => omega
  | succ j ih =>
    have hs := h0.1 (j + 1) (List.mem_range.2 hj)
    rw [stepC_succ hj, Bool.and_eq_true] at hs
    have h2 := hs.2
    have hjk : (l[j]'(by omega)).kind ≥ 2 := by
      by_cases e : i = j
      · subst e; exact hk
      · exact ih (by omega) (by omega) hk
    rw [decide_eq_true hjk, Bool.and_true, Bool.not_eq_true', decide_eq_false_iff_not] at h2
    omega
theorem okCall_take {l : List Arg} (h : okCall l = true) (n : Nat) : okCall (l.take n) = true := by
  have h0 := h
  unfold okCall at h0 ⊢
  rw [Bool.and_eq_true, List.all_eq_true, decide_eq_true_iff] at h0
  rw [Bool.and_eq_true, List.all_eq_true, decide_eq_true_iff]
  refine ⟨fun i hi => ?_, by simp; omega⟩
  have hi := List.mem_range.1 hi
  have hl : i < l.length := by simp at hi; omega
  have hs := h0.1 i (List.mem_range.2 hl)
  cases i with
  | zero =>
    rw [stepC_zero hl] at hs
    rw [stepC_zero hi, List.getElem_take]
    exact hs
  | succ j =>
    rw [stepC_succ hl] at hs
    rw [stepC_succ hi]
    simp only [List.getElem_take]
    exact hs
theorem flat_front {l : List Arg} (h : okCall l = true) {n : Nat} (hn : n ≤ l.length) (h1 : ∀ i (hi : i < l.length), i < n → l[i].kind < 2) (h2 : ∀ hl : n < l.length, l[n].kind ≥ 2) : flatC (l.take n) = ⟨(flatC l).pl, []⟩ := by
  have ok := (okCall_at h).2
  have e1 : ∀ a ∈ l.take n, a.kind < 2 := fun a ha => by
    rw [List.mem_take_iff_getElem] at ha
    obtain ⟨i, hi, rfl⟩ := ha
    exact h1 i (by omega) (by omega)
  have e2 : ∀ a ∈ l.drop n, a.kind = 2 ∨ a.kind = 3 := fun a ha => by
    obtain ⟨i, hi, rfl⟩ := List.getElem_of_mem ha
    have hi2 : n + i < l.length := by rw [List.length_drop] at hi; omega
    rw [List.getElem_drop]
    have hk : l[n + i].kind ≥ 2 := by
      by_cases e : i = 0
      · subst e; exact h2 hi2
      · exact okCall_kinds h hi2 (show n < n + i by omega) (h2 (by omega))
    have := okArg_kind (ok (n + i) hi2)
    omega
  have f1 : (l.take n).flatMap nlOf = [] := by
    rw [List.flatMap_eq_nil_iff]
    intro a ha
    have := e1 a ha
    unfold nlOf
    rw [if_neg (by omega), if_neg (by omega)]
  have f2 : (l.drop n).flatMap plOf = [] := by
    rw [List.flatMap_eq_nil_iff]
    intro a ha
    unfold plOf
    rw [if_pos (e2 a ha)]
  have f3 : l.flatMap plOf = (l.take n).flatMap plOf := by
    conv => lhs; rw [← List.take_append_drop n l]
    rw [List.flatMap_append, f2, List.append_nil]
  unfold flatC
  rw [f1, f3]
theorem front_ok {f : Flat} (h : okFlat f = true) : okFlat ⟨f.pl, []⟩ = true := by
  rw [okFlat_parts] at h ⊢
  exact ⟨rfl, h.2.1, fun x hx => by simp at hx, h.2.2.2.1, by simp⟩
theorem Flatten_some {l : List Arg} (h : (FlattenC l).isSome = true) : okCall l = true ∧ okFlat (flatC l) = true ∧ FlattenC l = some (flatC l) := by
  unfold FlattenC at h ⊢
  split at h
  · rename_i h1
    rw [if_pos h1]
    unfold Am.okF at h ⊢
    split at h
    · rename_i h2
      rw [if_pos h2]
      exact ⟨h1, h2, rfl⟩
    · simp at h
  · simp at h
theorem Flatten_is {l : List Arg} {f : Flat} (h : okCall l = true) (e : flatC l = f) (k : okFlat f = true) : FlattenC l = some f := by
  unfold FlattenC
  rw [if_pos h, e]
  unfold Am.okF
  rw [if_pos k]
theorem flat_again {f : Flat} (h : okFlat f = true) : FlattenC (callOf f) = some f := by
  have hp := okFlat_parts.1 h
  have e : callOf f = f.pl.map plainA ++ f.nl.map nameA := by unfold callOf; rw [if_pos h]
  rw [e]
  refine Flatten_is ?_ ?_ h
  · unfold okCall
    rw [Bool.and_eq_true, List.all_eq_true, decide_eq_true_iff]
    have hl : (f.pl.map plainA ++ f.nl.map nameA).length = f.pl.length + f.nl.length := by simp
    refine ⟨fun i hi => ?_, by rw [hl]; omega⟩
    have hi := List.mem_range.1 hi
    have okA : okArg (f.pl.map plainA ++ f.nl.map nameA)[i] = true := by
      by_cases c : i < f.pl.length
      · rw [List.getElem_append_left (by simpa using c), List.getElem_map]
        unfold okArg noNm len1 len0 plainA
        simp [hp.2.1 _ (List.getElem_mem c), noName]
      · rw [List.getElem_append_right (by simpa using c), List.getElem_map]
        have := hp.2.2.1 (f.nl[i - (f.pl.map plainA).length]'(by rw [hl] at hi; simp; omega)) (List.getElem_mem _)
        unfold okPair at this
        rw [Bool.and_eq_true] at this
        simp only [List.length_map] at this
        unfold okArg noNm len1 len0 nameA
        simp [this.1, this.2]
    cases i with
    | zero => rw [stepC_zero hi]; exact okA
    | succ j =>
      rw [stepC_succ hi, okA, Bool.true_and, Bool.not_eq_true']
      by_cases c : j + 1 < f.pl.length
      · have : (f.pl.map plainA ++ f.nl.map nameA)[j].kind = 0 := by
          rw [List.getElem_append_left (by simp; omega), List.getElem_map]
          rfl
        rw [decide_eq_false (p := (f.pl.map plainA ++ f.nl.map nameA)[j].kind ≥ 2) (by omega), Bool.and_false]
      · have : (f.pl.map plainA ++ f.nl.map nameA)[j + 1].kind = 2 := by
          rw [List.getElem_append_right (by simp; omega), List.getElem_map]
          rfl
        rw [decide_eq_false (p := (f.pl.map plainA ++ f.nl.map nameA)[j + 1].kind < 2) (by omega), Bool.false_and]
  · unfold flatC
    rw [List.flatMap_append, List.flatMap_append]
    have e1 : (f.pl.map plainA).flatMap plOf = f.pl := by
      rw [List.flatMap_map]
      have : (fun a => plOf (plainA a)) = fun a => [a] := by funext a; simp [plOf, plainA]
      rw [this]
      simp
    have e2 : (f.nl.map nameA).flatMap plOf = [] := by
      rw [List.flatMap_eq_nil_iff]
      intro a ha
      obtain ⟨p, _, rfl⟩ := List.mem_map.1 ha
      simp [plOf, nameA]
    have e3 : (f.pl.map plainA).flatMap nlOf = [] := by
      rw [List.flatMap_eq_nil_iff]
      intro a ha
      obtain ⟨p, _, rfl⟩ := List.mem_map.1 ha
      simp [nlOf, plainA]
    have e4 : (f.nl.map nameA).flatMap nlOf = f.nl := by
      rw [List.flatMap_map]
      have : (fun a => nlOf (nameA a)) = fun a => [a] := by funext a; simp [nlOf, nameA]
      rw [this]
      simp
    rw [e1, e2, e3, e4]
    simp
end Go.Proofs.Ytekkimfdcbgcoaa.Am
