/- Sorted flat calls and shapes: plain facts. -/
import Derived.Test.YtekkimfdcbgcoabSD
namespace Go.Proofs.Ytekkimfdcbgcoab.Am
open Go
set_option linter.unusedSimpArgs false
set_option linter.unusedVariables false
theorem apart_iff {α : Type} {f : α → ByteArray} {l : List α} : apart f l = true ↔ l.Pairwise fun a b => f a ≠ f b := by
  rw [List.pairwise_iff_getElem]
  unfold apart
  rw [List.all_eq_true]
  constructor
  · intro h i j hi hj hij
    have h1 := h j (List.mem_range.2 hj)
    unfold newAt at h1
    rw [List.getElem?_eq_getElem hj] at h1
    simp only [List.all_eq_true, Bool.not_eq_true', decide_eq_false_iff_not] at h1
    exact h1 l[i] (by rw [List.mem_take_iff_getElem]; exact ⟨i, by omega, rfl⟩)
  · intro h j hj
    have hj := List.mem_range.1 hj
    unfold newAt
    rw [List.getElem?_eq_getElem hj]
    simp only [List.all_eq_true, Bool.not_eq_true', decide_eq_false_iff_not]
    intro y hy
    rw [List.mem_take_iff_getElem] at hy
    obtain ⟨i, hi, rfl⟩ := hy
    exact h i j (by omega) hj (by omega)
theorem apart_perm {α : Type} {f : α → ByteArray} {l m : List α} (p : l.Perm m) (h : apart f l = true) : apart f m = true := by
  rw [apart_iff] at h ⊢
  exact (p.pairwise_iff (fun {a b} h => h.symm)).1 h
theorem okFlat_parts {f : Flat} : okFlat f = true ↔ apart Pair.name f.nl = true ∧ (∀ x ∈ f.pl, okNum x = true) ∧ (∀ x ∈ f.nl, okPair x = true) ∧ f.pl.length ≤ 8 ∧ f.nl.length ≤ 8 := by
  unfold okFlat
  simp only [Bool.and_eq_true, decide_eq_true_iff, List.all_eq_true]
  constructor
  · rintro ⟨h1, h2, h3, h4, h5⟩; exact ⟨h1, h2, h3, by omega, by omega⟩
  · rintro ⟨h1, h2, h3, h4, h5⟩; exact ⟨h1, h2, h3, by omega, by omega⟩
theorem okFlat_perm {pl : List Int} {l m : List Pair} (p : l.Perm m) (h : okFlat ⟨pl, l⟩ = true) : okFlat ⟨pl, m⟩ = true := by
  rw [okFlat_parts] at h ⊢
  exact ⟨apart_perm p h.1, h.2.1, fun x hx => h.2.2.1 x (p.mem_iff.2 hx), h.2.2.2.1, by have := p.length_eq; have := h.2.2.2.2; simp only at this ⊢; omega⟩
def sortF (f : Flat) : Flat := if okFlat f = true then ⟨f.pl, isort ltP f.nl⟩ else ⟨[], []⟩
def shapeF (f : Flat) : Shape := if okFlat f = true then ⟨f.pl.length, (isort ltP f.nl).map Pair.name⟩ else ⟨0, []⟩
theorem sortF_ok {f : Flat} (h : okFlat f = true) : sortF f = ⟨f.pl, isort ltP f.nl⟩ := by unfold sortF; rw [if_pos h]
theorem shapeF_ok {f : Flat} (h : okFlat f = true) : shapeF f = ⟨f.pl.length, (isort ltP f.nl).map Pair.name⟩ := by unfold shapeF; rw [if_pos h]
theorem sort_ok {f : Flat} (h : okFlat f = true) : okFlat (sortF f) = true := by
  rw [sortF_ok h]
  exact okFlat_perm isort_perm.symm h
theorem sort_eq {l m : List Pair} (h : apart Pair.name l = true) (p : l.Perm m) (s : m.Pairwise fun a b => ltP b a = false) : isort ltP l = m := by
  have pl := isort_perm (lt := ltP) (l := l)
  exact sorted_unique _ _ (pl.trans p) (sorted_pairs l) s fun x hx y hy e => names_inj h x (pl.mem_iff.1 hx) y (pl.mem_iff.1 hy) e
theorem sort_idem {l : List Pair} (h : apart Pair.name l = true) : isort ltP (isort ltP l) = isort ltP l :=
  sort_eq (apart_perm isort_perm.symm h) (List.Perm.refl _) (sorted_pairs l)
theorem sortF_idem {f : Flat} (h : okFlat f = true) : sortF (sortF f) = sortF f := by
  rw [sortF_ok (sort_ok h), sortF_ok h]
  simp only
  rw [sort_idem (okFlat_apart h)]
theorem sort_up {l : List Pair} (h : apart Pair.name l = true) {i : Nat} (hi : i + 1 < (isort ltP l).length) : sLess ((isort ltP l)[i]'(by omega)).name (isort ltP l)[i + 1].name = true := by
  have h1 := List.pairwise_iff_getElem.1 (sorted_pairs l) i (i + 1) (by omega) hi (by omega)
  have h2 := List.pairwise_iff_getElem.1 (apart_iff.1 (apart_perm (isort_perm (lt := ltP)).symm h)) i (i + 1) (by omega) hi (by omega)
  cases h3 : sLess ((isort ltP l)[i]'(by omega)).name (isort ltP l)[i + 1].name with
  | true => rfl
  | false => exact absurd (sLess_tri h3 h1) h2
theorem sameF_sort {f : Flat} (h : okFlat f = true) : sameF (sortF f) f = true := by
  unfold sameF
  rw [sort_ok h, h, sortF_ok h]
  simp only [sort_idem (okFlat_apart h), decide_true, Bool.and_self]
theorem sameF_comm {f g : Flat} : sameF g f = sameF f g := by
  unfold sameF
  rw [Bool.eq_iff_iff]
  simp only [Bool.and_eq_true, decide_eq_true_iff]
  constructor
  · rintro ⟨a, b, c, d⟩; exact ⟨b, a, c.symm, d.symm⟩
  · rintro ⟨a, b, c, d⟩; exact ⟨b, a, c.symm, d.symm⟩
theorem sameF_sorts {f g : Flat} (h : okFlat f = true) (k : okFlat g = true) : sameF f g = decide (sortF f = sortF g) := by
  unfold sameF
  rw [sortF_ok h, sortF_ok k, h, k, Bool.eq_iff_iff]
  simp
theorem shape_sort {f : Flat} (h : okFlat f = true) : shapeF (sortF f) = shapeF f := by
  rw [shapeF_ok (sort_ok h), shapeF_ok h, sortF_ok h]
  simp only
  rw [sort_idem (okFlat_apart h)]
theorem miniF.sort {f : Flat} : miniF (sortF f) := by
  unfold sortF
  split
  · rename_i h
    have := sort_ok h
    rw [sortF_ok h] at this
    exact .of this
  · exact .nil
/-- The reference puts each pair ahead of the first one that is not less. -/
def insAt (out : List Pair) (p : Pair) : Nat := (out.takeWhile fun q => sLess q.name p.name).length
def insP (out : List Pair) (p : Pair) : List Pair := out.take (insAt out p) ++ [p] ++ out.drop (insAt out p)
def insAll (l : List Pair) (i : Nat) : List Pair := (l.take i).foldl insP []
theorem insAll_zero {l : List Pair} : insAll l 0 = [] := rfl
theorem insAll_next {l : List Pair} {i : Nat} (hi : i < l.length) : insAll l (i + 1) = insP (insAll l i) l[i] := by
  unfold insAll
  rw [List.take_succ_eq_append_getElem hi, List.foldl_append]
  rfl
theorem insAt_le {out : List Pair} {p : Pair} : insAt out p ≤ out.length := (List.takeWhile_sublist _).length_le
theorem insP_len {out : List Pair} {p : Pair} : (insP out p).length = out.length + 1 := by
  have := insAt_le (out := out) (p := p)
  simp [insP]
  omega
theorem insAll_len {l : List Pair} : ∀ {i : Nat}, i ≤ l.length → (insAll l i).length = i
  | 0, _ => rfl
  | i + 1, h => by rw [insAll_next (by omega), insP_len, insAll_len (by omega)]
theorem insP_perm {out : List Pair} {p : Pair} : (insP out p).Perm (out ++ [p]) := by
  unfold insP
  have h : (out.take (insAt out p) ++ [p] ++ out.drop (insAt out p)).Perm (out.take (insAt out p) ++ (out.drop (insAt out p) ++ [p])) := by
    rw [List.append_assoc]
    exact List.Perm.append_left _ List.perm_append_comm
  rw [← List.append_assoc, List.take_append_drop] at h
  exact h
theorem insAll_perm {l : List Pair} : ∀ {i : Nat}, i ≤ l.length → (insAll l i).Perm (l.take i)
  | 0, _ => by simp [insAll]
  | i + 1, h => by
    rw [insAll_next (by omega), List.take_succ_eq_append_getElem (by omega)]
    exact insP_perm.trans ((insAll_perm (by omega)).append_right _)
theorem insAt_below {out : List Pair} {p : Pair} : ∀ x ∈ out.take (insAt out p), sLess x.name p.name = true := by
  unfold insAt
  induction out with
  | nil => intro x hx; simp at hx
  | cons a r ih =>
    intro x hx
    rw [List.takeWhile_cons] at hx
    split at hx
    · rename_i ha
      rw [List.length_cons, List.take_succ_cons] at hx
      rcases List.mem_cons.1 hx with e | hx
      · rw [e]; exact ha
      · exact ih x hx
    · simp at hx
theorem insAt_stop {out : List Pair} {p : Pair} (h : insAt out p < out.length) : sLess out[insAt out p].name p.name = false := by
  have : ∀ (out : List Pair) (h : (out.takeWhile fun q => sLess q.name p.name).length < out.length), sLess (out[(out.takeWhile fun q => sLess q.name p.name).length]'h).name p.name = false := by
    intro out
    induction out with
    | nil => intro h; simp at h
    | cons a r ih =>
      intro h
      cases ha : sLess a.name p.name with
      | true =>
        simp only [List.takeWhile_cons, ha, if_true, List.length_cons, List.getElem_cons_succ]
        simp only [List.takeWhile_cons, ha, if_true, List.length_cons] at h
        exact ih (by omega)
      | false =>
        simp only [List.takeWhile_cons, ha]
        simpa using ha
  exact this out h
theorem insP_sorted {out : List Pair} {p : Pair} (h : out.Pairwise fun a b => ltP b a = false) : (insP out p).Pairwise fun a b => ltP b a = false := by
  unfold insP
  have h0 := h
  rw [← List.take_append_drop (insAt out p) out, List.pairwise_append] at h0
  rw [List.append_assoc, List.pairwise_append]
  refine ⟨h0.1, ?_, ?_⟩
  · rw [List.cons_append, List.nil_append, List.pairwise_cons]
    refine ⟨fun x hx => ?_, h0.2.1⟩
    obtain ⟨i, hi, rfl⟩ := List.getElem_of_mem hx
    have hi2 : insAt out p + i < out.length := by rw [List.length_drop] at hi; omega
    rw [List.getElem_drop]
    have hs := insAt_stop (out := out) (p := p) (by omega)
    show sLess out[insAt out p + i].name p.name = false
    by_cases e : i = 0
    · subst e; exact hs
    · have h2 := List.pairwise_iff_getElem.1 h (insAt out p) (insAt out p + i) (by omega) hi2 (by omega)
      exact sLess_tr2 hs h2
  · intro a ha b hb
    rcases List.mem_append.1 hb with hb | hb
    · rw [List.mem_singleton.1 hb]
      exact sLess_asymm (insAt_below a ha)
    · exact h0.2.2 a ha b hb
theorem insAll_sorted {l : List Pair} : ∀ {i : Nat}, i ≤ l.length → (insAll l i).Pairwise fun a b => ltP b a = false
  | 0, _ => List.Pairwise.nil
  | i + 1, h => by rw [insAll_next (by omega)]; exact insP_sorted (insAll_sorted (by omega))
theorem insAll_eq {l : List Pair} (h : apart Pair.name l = true) : insAll l l.length = isort ltP l := by
  have p := insAll_perm (l := l) (Nat.le_refl _)
  rw [List.take_length] at p
  exact (sort_eq h p.symm (insAll_sorted (Nat.le_refl _))).symm
theorem insAt_next {out : List Pair} {p : Pair} {k : Nat} (hk : k ≤ insAt out p) (hl : k < out.length) : (sLess out[k].name p.name = true ∧ k + 1 ≤ insAt out p) ∨ (sLess out[k].name p.name = false ∧ k = insAt out p) := by
  by_cases e : k = insAt out p
  · right
    subst e
    exact ⟨insAt_stop hl, rfl⟩
  · left
    refine ⟨insAt_below (out := out) _ ?_, by omega⟩
    rw [List.mem_take_iff_getElem]
    exact ⟨k, by omega, rfl⟩
end Go.Proofs.Ytekkimfdcbgcoab.Am
