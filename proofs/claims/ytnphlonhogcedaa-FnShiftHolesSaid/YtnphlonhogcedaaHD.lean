/- Calls with holes: plain facts. -/
import Derived.Test.YtnphlonhogcedaaDat
namespace Go.Proofs.Ytnphlonhogcedaa.Am
open Go
set_option linter.unusedSimpArgs false
set_option linter.unusedVariables false
theorem okHoles_sm {f : Holes} (h : okHoles f = true) : f.pl.length ≤ 8 ∧ f.nl.length ≤ 8 ∧ ∀ x ∈ f.nl, x.name.size ≤ 6 := by
  unfold okHoles at h
  simp only [Bool.and_eq_true, decide_eq_true_iff] at h
  obtain ⟨_, h2, h3⟩ := okFlat_sm h.2.2
  exact ⟨by omega, h2, h3⟩
theorem miniH.of {f : Holes} (h : okHoles f = true) : miniH f := by
  obtain ⟨h1, h2, h3⟩ := okHoles_sm h
  exact ⟨by omega, by omega, fun x hx => by have := h3 x hx; omega⟩
theorem miniH.shift {f g : Holes} : miniH (orH (ShiftHoles f g)) := by
  unfold orH ShiftHoles
  split
  · split
    · exact .of ‹_›
    · exact .nil
  · exact .nil

/-! ### holes that are filled -/
def ofN (n : Int) : Place := ⟨false, n⟩
def holesOf (g : Flat) : Holes := ⟨g.pl.map ofN, g.nl⟩
def fillV (l : List Place) (pl : List Int) (j : Nat) : Int :=
  match l[j]? with
  | some p => if p.hole = true then pl[cnt (fun p => p.hole) l j]?.getD p.value else p.value
  | none => 0
def valsT (l : List Place) (pl : List Int) (i : Nat) : List Int := (List.range i).map (fillV l pl)
theorem valsT_zero {l : List Place} {pl : List Int} : valsT l pl 0 = [] := rfl
theorem valsT_next {l : List Place} {pl : List Int} {i : Nat} : valsT l pl (i + 1) = valsT l pl i ++ [fillV l pl i] := by simp [valsT, List.range_succ]
theorem valsT_len {l : List Place} {pl : List Int} {i : Nat} : (valsT l pl i).length = i := by simp [valsT]
theorem fillV_hole {l : List Place} {pl : List Int} {i : Nat} (hi : i < l.length) (b : l[i].hole = true) (hk : cnt (fun p => p.hole) l i < pl.length) : fillV l pl i = pl[cnt (fun p => p.hole) l i] := by
  unfold fillV
  rw [List.getElem?_eq_getElem hi]
  simp only
  rw [if_pos b, List.getElem?_eq_getElem hk]
  rfl
theorem fillV_plain {l : List Place} {pl : List Int} {i : Nat} (hi : i < l.length) (b : l[i].hole = false) : fillV l pl i = l[i].value := by
  unfold fillV
  rw [List.getElem?_eq_getElem hi]
  simp only
  rw [if_neg (by simp [b])]
def fillH (f : Holes) (g : Flat) : Flat := ⟨valsT f.pl g.pl f.pl.length ++ g.pl.drop (countH f.pl), putAll f.nl g.nl⟩
def FillHoles (f : Holes) (g : Flat) : Option Flat := if okHoles f = true ∧ okFlat g = true ∧ countH f.pl ≤ g.pl.length then okF (fillH f g) else none
theorem cnt_lt {l : List Place} {i : Nat} (hi : i < l.length) (b : l[i].hole = true) : cnt (fun p => p.hole) l i < countH l := by
  have e := cnt_next (p := fun p : Place => p.hole) hi
  rw [if_pos b] at e
  have : cnt (fun p : Place => p.hole) l (i + 1) ≤ countH l := by
    unfold cnt countH
    exact (List.take_sublist _ _).countP_le
  omega
theorem fillE_of {l : List Place} {pl : List Int} {i : Nat} (hi : i < l.length) (hc : countH l ≤ pl.length) : fillE l (pl.map ofN) i = ofN (fillV l pl i) := by
  cases b : l[i].hole with
  | true =>
    have h1 := cnt_lt hi b
    rw [fillE_hole hi b (by simp; omega), fillV_hole hi b (by omega)]
    simp
  | false =>
    rw [fillE_plain hi b, fillV_plain hi b]
    unfold ofN
    cases h : l[i]
    simp_all
theorem fillPl_of {l : List Place} {pl : List Int} (hc : countH l ≤ pl.length) : fillPl l (pl.map ofN) = (valsT l pl l.length ++ pl.drop (countH l)).map ofN := by
  unfold fillPl valsT
  rw [List.map_append, List.map_map, List.map_drop]
  congr 1
  refine List.map_congr_left fun i hi => ?_
  exact fillE_of (List.mem_range.1 hi) hc
theorem okPlace_of (n : Int) : okPlace (ofN n) = okNum n := by simp [okPlace, ofN]
theorem okHoles_of (g : Flat) : okHoles (holesOf g) = okFlat g := by
  unfold okHoles okFlat holesOf
  have e : (g.pl.map ofN).all okPlace = g.pl.all okNum := by
    rw [List.all_map]
    exact congrArg (fun p => g.pl.all p) (funext okPlace_of)
  simp only [e, List.length_map, List.all_nil, List.length_nil, Bool.true_and]
  have d : decide (((0 : Nat) : Int) ≤ 8) = true := rfl
  rw [d, Bool.true_and]
  cases g.pl.all okNum <;> cases apart Pair.name g.nl <;> cases g.nl.all okPair <;> cases decide ((g.pl.length : Int) ≤ 8) <;> simp
theorem shiftH_of {f : Holes} {g : Flat} (hc : countH f.pl ≤ g.pl.length) : shiftH f (holesOf g) = holesOf (fillH f g) := by
  unfold shiftH fillH
  simp only [holesOf]
  rw [fillPl_of hc]
/-- The program fills holes by shifting. -/
theorem Fill_of (f : Holes) (g : Flat) (h2 : okFlat g = true) : ShiftHoles f (holesOf g) = (FillHoles f g).map holesOf := by
  unfold ShiftHoles FillHoles
  rw [okHoles_of, h2]
  have e : (holesOf g).pl.length = g.pl.length := by simp [holesOf]
  rw [e]
  by_cases h1 : okHoles f = true
  · by_cases h3 : countH f.pl ≤ g.pl.length
    · have c1 : okHoles f = true ∧ true = true ∧ countH f.pl ≤ g.pl.length := ⟨h1, rfl, h3⟩
      rw [shiftH_of h3, okHoles_of, if_pos c1, if_pos c1]
      unfold okF
      split <;> rfl
    · rw [if_neg (fun x => h3 x.2.2), if_neg (fun x => h3 x.2.2)]
      rfl
  · rw [if_neg (fun x => h1 x.1), if_neg (fun x => h1 x.1)]
    rfl
theorem Fill_none {f : Holes} {g : Flat} (h2 : okFlat g = false) : FillHoles f g = none := by
  unfold FillHoles
  rw [if_neg (by simp [h2])]
theorem miniF.fill {f : Holes} {g : Flat} : miniF (orF (FillHoles f g)) := by
  unfold FillHoles
  split
  · exact .okF
  · exact .nil
end Go.Proofs.Ytnphlonhogcedaa.Am
