/- Holes that are filled by holes: plain facts. -/
import Derived.Test.YtnphlonhogcedaaHD
namespace Go.Proofs.Ytnphlonhogcedaa.Am
open Go
set_option linter.unusedSimpArgs false
set_option linter.unusedVariables false
section
variable {α : Type} (c : Place → α) (z : α)
def fillR : List Place → List α → List α
  | [], r => r
  | p :: l, r => if p.hole = true then (match r with | v :: r' => v :: fillR l r' | [] => c p :: fillR l []) else c p :: fillR l r
theorem fillR_plain {p : Place} {l : List Place} {r : List α} (h : p.hole = false) : fillR c (p :: l) r = c p :: fillR c l r := by cases r <;> simp [fillR, h]
theorem fillR_hole {p : Place} {l : List Place} {v : α} {r : List α} (h : p.hole = true) : fillR c (p :: l) (v :: r) = v :: fillR c l r := by simp [fillR, h]
theorem fillR_none {p : Place} {l : List Place} : fillR c (p :: l) [] = c p :: fillR c l [] := by simp [fillR]
def fillG (l : List Place) (r : List α) (j : Nat) : α :=
  match l[j]? with
  | some p => if p.hole = true then r[cnt (fun p => p.hole) l j]?.getD (c p) else c p
  | none => z
theorem cnt_head {p : Place} {l : List Place} {j : Nat} : cnt (fun p : Place => p.hole) (p :: l) (j + 1) = cnt (fun p : Place => p.hole) l j + (if p.hole = true then 1 else 0) := by
  unfold cnt
  rw [List.take_succ_cons, List.countP_cons]
theorem countH_cons {p : Place} {l : List Place} : countH (p :: l) = countH l + (if p.hole = true then 1 else 0) := by
  unfold countH
  rw [List.countP_cons]
theorem fillG_plain {p : Place} {l : List Place} {r : List α} {j : Nat} (h : p.hole = false) : fillG c z (p :: l) r (j + 1) = fillG c z l r j := by
  unfold fillG
  rw [List.getElem?_cons_succ, cnt_head]
  simp [h]
theorem fillG_hole {p : Place} {l : List Place} {v : α} {r : List α} {j : Nat} (h : p.hole = true) : fillG c z (p :: l) (v :: r) (j + 1) = fillG c z l r j := by
  unfold fillG
  rw [List.getElem?_cons_succ, cnt_head]
  simp [h]
theorem fillG_none {p : Place} {l : List Place} {j : Nat} : fillG c z (p :: l) [] (j + 1) = fillG c z l [] j := by
  unfold fillG
  rw [List.getElem?_cons_succ, cnt_head]
  simp
theorem fillR_eq : ∀ (l : List Place) (r : List α), (List.range l.length).map (fillG c z l r) ++ r.drop (countH l) = fillR c l r
  | [], r => by simp [fillR, countH]
  | p :: l, r => by
    rw [List.length_cons, List.range_succ_eq_map, List.map_cons, List.map_map, List.cons_append, countH_cons]
    cases h : p.hole with
    | false =>
      have e0 : fillG c z (p :: l) r 0 = c p := by simp [fillG, h]
      have e1 : (fillG c z (p :: l) r ∘ Nat.succ) = fillG c z l r := funext fun j => fillG_plain c z h
      rw [e0, e1]
      simp only [Bool.false_eq_true, if_false, Nat.add_zero]
      rw [fillR_eq l r, fillR_plain c h]
    | true =>
      cases r with
      | nil =>
        have e0 : fillG c z (p :: l) [] 0 = c p := by simp [fillG]
        have e1 : (fillG c z (p :: l) [] ∘ Nat.succ) = fillG c z l [] := funext fun j => fillG_none c z
        rw [e0, e1, List.drop_nil, fillR_none]
        have := fillR_eq l ([] : List α)
        rw [List.drop_nil] at this
        rw [this]
      | cons v r =>
        have e0 : fillG c z (p :: l) (v :: r) 0 = v := by simp [fillG, h, cnt]
        have e1 : (fillG c z (p :: l) (v :: r) ∘ Nat.succ) = fillG c z l r := funext fun j => fillG_hole c z h
        rw [e0, e1, if_pos rfl, List.drop_succ_cons, fillR_eq l r, fillR_hole c h]
end
theorem fillPl_R (l g : List Place) : fillPl l g = fillR id l g := fillR_eq id ⟨false, 0⟩ l g
theorem fillV_R (l : List Place) (r : List Int) : valsT l r l.length ++ r.drop (countH l) = fillR (fun p => p.value) l r := fillR_eq (fun p => p.value) 0 l r
theorem fillR_twice : ∀ (l g : List Place) (r : List Int), countH l ≤ g.length → countH g ≤ r.length →
    fillR (fun p => p.value) (fillR id l g) r = fillR (fun p => p.value) l (fillR (fun p => p.value) g r)
  | [], g, r, _, _ => rfl
  | p :: l, g, r, h1, h2 => by
    rw [countH_cons] at h1
    cases h : p.hole with
    | false =>
      simp only [h, Bool.false_eq_true, if_false] at h1
      rw [fillR_plain id h, fillR_plain _ h, ← fillR_twice l g r (by omega) h2]
      exact fillR_plain _ h
    | true =>
      simp only [h, if_true] at h1
      cases g with
      | nil => simp at h1
      | cons q g =>
        rw [countH_cons] at h2
        rw [fillR_hole id h]
        cases hq : q.hole with
        | false =>
          simp only [hq, Bool.false_eq_true, if_false] at h2
          rw [fillR_plain _ hq, fillR_plain _ hq, fillR_hole _ h, fillR_twice l g r (by simp at h1; omega) (by omega)]
        | true =>
          simp only [hq, if_true] at h2
          cases r with
          | nil => simp at h2
          | cons v r =>
            rw [fillR_hole _ hq, fillR_hole _ hq, fillR_hole _ h, fillR_twice l g r (by simp at h1; omega) (by simp at h2; omega)]
theorem countH_R : ∀ (l g : List Place), countH l ≤ g.length → countH (fillR id l g) = countH g
  | [], g, _ => rfl
  | p :: l, g, h1 => by
    rw [countH_cons] at h1
    cases h : p.hole with
    | false =>
      simp only [h, Bool.false_eq_true, if_false] at h1
      rw [fillR_plain id h]
      show countH (p :: fillR id l g) = _
      rw [countH_cons, countH_R l g (by omega), h]
      simp
    | true =>
      simp only [h, if_true] at h1
      cases g with
      | nil => simp at h1
      | cons q g => rw [fillR_hole id h, countH_cons, countH_cons, countH_R l g (by simp at h1; omega)]
theorem fill_shift {f g : Holes} {F : List Int} (h1 : countH f.pl ≤ g.pl.length) (h2 : countH g.pl ≤ F.length) : fillH (shiftH f g) ⟨F, []⟩ = fillH f (fillH g ⟨F, []⟩) := by
  unfold fillH shiftH
  simp only [putAll, List.foldl_nil, Flat.mk.injEq, and_true]
  have e := fillR_twice f.pl g.pl F h1 h2
  rw [← fillV_R, ← fillV_R (l := f.pl), ← fillV_R (l := g.pl), ← fillPl_R] at e
  exact e
theorem shift_count {f g : Holes} (h1 : countH f.pl ≤ g.pl.length) : countH (shiftH f g).pl = countH g.pl := by
  show countH (fillPl f.pl g.pl) = _
  rw [fillPl_R, countH_R _ _ h1]
end Go.Proofs.Ytnphlonhogcedaa.Am
