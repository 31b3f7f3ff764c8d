/- Calls that are made flat: plain facts. -/
import Derived.Test.YtoeceafibmafpaaDoorDat
namespace Go.Proofs.YtoeceafibmafpaaDoor.Am
open Go
set_option linter.unusedSimpArgs false
set_option linter.unusedVariables false
def len1 {α : Type} (l : List α) : Bool := decide ((l.length : Int) = 1)
def len0 {α : Type} (l : List α) : Bool := decide ((l.length : Int) = 0)
def le8 {α : Type} (l : List α) : Bool := decide ((l.length : Int) ≤ 8)
def noNm (a : Arg) : Bool := decide (a.name = strOfNums [])
def okArg (a : Arg) : Bool :=
  if a.kind = 0 then noNm a && (len1 a.list && (a.list.all okNum && len0 a.pairs))
  else if a.kind = 1 then noNm a && (le8 a.list && (a.list.all okNum && len0 a.pairs))
  else if a.kind = 2 then okName a.name && (len1 a.list && (a.list.all okNum && len0 a.pairs))
  else if a.kind = 3 then noNm a && (len0 a.list && (le8 a.pairs && a.pairs.all okPair))
  else false
def stepC (l : List Arg) (i : Nat) : Bool :=
  match l[i]? with
  | some a => okArg a && (match i with | 0 => true | j + 1 => match l[j]? with | some b => !(decide (a.kind < 2) && decide (b.kind ≥ 2)) | none => true)
  | none => true
def okCall (l : List Arg) : Bool := (List.range l.length).all (stepC l) && decide ((l.length : Int) ≤ 16)
theorem stepC_zero {l : List Arg} (hi : 0 < l.length) : stepC l 0 = okArg l[0] := by
  unfold stepC
  rw [List.getElem?_eq_getElem hi]
  simp
theorem stepC_succ {l : List Arg} {j : Nat} (hi : j + 1 < l.length) : stepC l (j + 1) = (okArg l[j + 1] && !(decide (l[j + 1].kind < 2) && decide ((l[j]'(by omega)).kind ≥ 2))) := by
  unfold stepC
  rw [List.getElem?_eq_getElem hi]
  simp only
  rw [List.getElem?_eq_getElem (show j < l.length by omega)]
theorem okCall_not {l : List Arg} {i : Nat} (hi : i < l.length) (h : stepC l i = false) : okCall l = false := by
  unfold okCall
  rw [List.all_eq_false.2 ⟨i, List.mem_range.2 hi, by simp [h]⟩]
  rfl
theorem okCall_of {l : List Arg} (h : Upto (stepC l) l.length) : okCall l = decide ((l.length : Int) ≤ 16) := by
  unfold okCall
  rw [h.all, Bool.true_and]
theorem stepC_ok {l : List Arg} {i : Nat} (hi : i < l.length) (h : stepC l i = true) : okArg l[i] = true := by
  cases i with
  | zero => rwa [stepC_zero hi] at h
  | succ j =>
    rw [stepC_succ hi, Bool.and_eq_true] at h
    exact h.1
theorem okArg_kind {a : Arg} (h : okArg a = true) : 0 ≤ a.kind ∧ a.kind ≤ 3 := by
  unfold okArg at h
  split at h
  · omega
  · split at h
    · omega
    · split at h
      · omega
      · split at h
        · omega
        · simp at h
/-- Whether the argument ahead of i comes by name. -/
def namedAt (l : List Arg) : Nat → Bool
  | 0 => false
  | j + 1 => match l[j]? with | some b => decide (b.kind = 2) || decide (b.kind = 3) | none => false
theorem namedAt_succ {l : List Arg} {j : Nat} (hj : j < l.length) : namedAt l (j + 1) = (decide (l[j].kind = 2) || decide (l[j].kind = 3)) := by
  simp only [namedAt]
  rw [List.getElem?_eq_getElem hj]
theorem byName_ge {k : Int} (h : 0 ≤ k ∧ k ≤ 3) : (decide (k = 2) || decide (k = 3)) = decide (k ≥ 2) := by
  rw [Bool.eq_iff_iff]
  simp
  omega
theorem stepC_named {l : List Arg} {i : Nat} (hi : i < l.length) (hu : Upto (stepC l) i) (ok : okArg l[i] = true) : stepC l i = !(namedAt l i && !(decide (l[i].kind = 2) || decide (l[i].kind = 3))) := by
  rw [byName_ge (okArg_kind ok)]
  cases i with
  | zero => rw [stepC_zero hi, ok]; rfl
  | succ j =>
    have hj : j < l.length := by omega
    rw [stepC_succ hi, ok, namedAt_succ hj, byName_ge (okArg_kind (stepC_ok hj (hu.out j (by omega)))), Bool.true_and]
    by_cases h1 : l[j + 1].kind < 2
    · by_cases h2 : l[j].kind ≥ 2
      · simp [h1, h2] <;> omega
      · simp [h1, h2]
    · by_cases h2 : l[j].kind ≥ 2
      · simp [h1, h2] <;> omega
      · simp [h1, h2]
theorem okCall_at {l : List Arg} (h : okCall l = true) : l.length ≤ 16 ∧ ∀ i (hi : i < l.length), okArg l[i] = true := by
  unfold okCall at h
  simp only [Bool.and_eq_true, decide_eq_true_iff, List.all_eq_true] at h
  exact ⟨by omega, fun i hi => stepC_ok hi (h.1 i (List.mem_range.2 hi))⟩
def plOf (a : Arg) : List Int := if a.kind = 2 ∨ a.kind = 3 then [] else a.list
def nlOf (a : Arg) : List Pair := if a.kind = 2 then [⟨a.name, a.list.headD 0⟩] else if a.kind = 3 then a.pairs else []
def flatC (l : List Arg) : Flat := ⟨l.flatMap plOf, l.flatMap nlOf⟩
def flatT (l : List Arg) (i : Nat) : Flat := flatC (l.take i)
theorem flatT_zero {l : List Arg} : flatT l 0 = ⟨[], []⟩ := by simp [flatT, flatC]
theorem flatT_all {l : List Arg} : flatT l l.length = flatC l := by simp [flatT]
theorem flatT_next {l : List Arg} {i : Nat} (hi : i < l.length) : flatT l (i + 1) = ⟨(flatT l i).pl ++ plOf l[i], (flatT l i).nl ++ nlOf l[i]⟩ := by
  unfold flatT flatC
  rw [List.take_succ_eq_append_getElem hi]
  simp only [List.flatMap_append, List.flatMap_cons, List.flatMap_nil, List.append_nil]
theorem okArg_sm {a : Arg} (h : okArg a = true) : a.list.length ≤ 8 ∧ a.pairs.length ≤ 8 ∧ (a.kind = 2 → a.list.length = 1 ∧ a.name.size ≤ 6) ∧ ∀ x ∈ a.pairs, x.name.size ≤ 6 := by
  have en : okName a.name = true → a.name.size ≤ 6 := fun h => by
    unfold okName at h
    simp only [Bool.and_eq_true, decide_eq_true_iff] at h
    omega
  have ep : a.pairs.all okPair = true → ∀ x ∈ a.pairs, x.name.size ≤ 6 := fun h x hx => by
    have := List.all_eq_true.1 h x hx
    unfold okPair okName at this
    simp only [Bool.and_eq_true, decide_eq_true_iff] at this
    omega
  have e0 : ∀ {l : List Pair}, (l.length : Int) = 0 → l.length ≤ 8 ∧ ∀ x ∈ l, x.name.size ≤ 6 := fun h => by
    have := List.length_eq_zero_iff.1 (Int.ofNat.inj h)
    subst this
    exact ⟨by simp, fun x hx => by simp at hx⟩
  unfold okArg noNm len1 len0 le8 at h
  split at h
  · simp only [Bool.and_eq_true, decide_eq_true_iff] at h
    exact ⟨by omega, (e0 h.2.2.2).1, fun h => absurd h (by omega), (e0 h.2.2.2).2⟩
  · split at h
    · simp only [Bool.and_eq_true, decide_eq_true_iff] at h
      exact ⟨by omega, (e0 h.2.2.2).1, fun h => absurd h (by omega), (e0 h.2.2.2).2⟩
    · split at h
      · simp only [Bool.and_eq_true, decide_eq_true_iff] at h
        exact ⟨by omega, (e0 h.2.2.2).1, fun _ => ⟨by omega, en h.1⟩, (e0 h.2.2.2).2⟩
      · split at h
        · simp only [Bool.and_eq_true, decide_eq_true_iff] at h
          exact ⟨by omega, by omega, fun h => absurd h (by omega), ep h.2.2.2⟩
        · simp at h
structure FOk (i : Nat) (f : Flat) : Prop where
  pl : f.pl.length ≤ 8 * i
  nl : f.nl.length ≤ 8 * i
  nm : ∀ x ∈ f.nl, x.name.size ≤ 6
theorem FOk.flatT {l : List Arg} (h : okCall l = true) : ∀ {i : Nat}, i ≤ l.length → FOk i (flatT l i)
  | 0, _ => by rw [flatT_zero]; exact ⟨by simp, by simp, fun x hx => by simp at hx⟩
  | i + 1, hi => by
    have ih := FOk.flatT h (i := i) (by omega)
    have ok := (okCall_at h).2 i (by omega)
    obtain ⟨h1, h2, h3, h4⟩ := okArg_sm ok
    have a1 := ih.pl
    have a2 := ih.nl
    rw [flatT_next (by omega)]
    refine ⟨?_, ?_, fun x hx => ?_⟩
    · unfold plOf
      simp only [List.length_append]
      split
      · simp; omega
      · omega
    · unfold nlOf
      simp only [List.length_append]
      split
      · simp; omega
      · split
        · omega
        · simp; omega
    · rcases List.mem_append.1 hx with hx | hx
      · exact ih.nm x hx
      · unfold nlOf at hx
        split at hx
        · obtain rfl := List.mem_singleton.1 hx
          exact (h3 (by assumption)).2
        · split at hx
          · exact h4 x hx
          · simp at hx
def FlattenC (l : List Arg) : Option Flat := if okCall l = true then okF (flatC l) else none
theorem miniF.flatten {l : List Arg} : miniF (orF (FlattenC l)) := by
  unfold FlattenC
  split
  · exact .okF
  · exact .nil
theorem headC {l : List Int} (h : l.length = 1) (hz : 0 < l.length) : l[0] = l.headD 0 := by
  match l, h with
  | [x], _ => rfl
end Go.Proofs.YtoeceafibmafpaaDoor.Am
