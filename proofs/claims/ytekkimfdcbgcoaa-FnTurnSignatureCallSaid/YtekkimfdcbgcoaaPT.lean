/- Turned signatures bind turned calls alike: plain facts. -/
import Derived.Test.YtekkimfdcbgcoaaBP
namespace Go.Proofs.Ytekkimfdcbgcoaa.Am
open Go
set_option linter.unusedSimpArgs false
set_option linter.unusedVariables false
theorem idx_map {α β : Type} {g : α → β} {q : β → Bool} {l : List α} : idx q (l.map g) = idx (fun x => q (g x)) l := by
  unfold idx
  rw [List.findIdx?_map]
  rfl
theorem okTurns_at {l : List Turn} (h : okTurns l = true) {i : Nat} (hi : i < l.length) : okName l[i].fr = true ∧ (∃ u ∈ l, u.fr = l[i].to) ∧ ∀ j (hj : j < i), (l[j]'(by omega)).fr ≠ l[i].fr ∧ (l[j]'(by omega)).to ≠ l[i].to := by
  unfold okTurns at h
  rw [Bool.and_eq_true, List.all_eq_true] at h
  have h1 := h.1 i (List.mem_range.2 hi)
  rw [okTurnAt_eq hi] at h1
  simp only [Bool.and_eq_true, Bool.not_eq_true', List.any_eq_true, List.any_eq_false, decide_eq_true_iff, Bool.or_eq_true] at h1
  refine ⟨h1.1, h1.2.1, fun j hj => ?_⟩
  have := h1.2.2 (l[j]'(by omega)) (by rw [List.mem_take_iff_getElem]; exact ⟨j, by omega, rfl⟩)
  exact ⟨fun e => this (.inl e), fun e => this (.inr e)⟩
theorem turned_inj {l : List Turn} (ok : okTurns l = true) {s t : ByteArray} (h : turned l s = turned l t) : s = t := by
  have no : ∀ (s t : ByteArray) (j : Nat) (hj : j < l.length), turnAt l s = -1 → s = l[j].to → False := fun s t j hj e h => by
    obtain ⟨u, hu, e2⟩ := (okTurns_at ok hj).2.1
    have := idx_neg.1 (show idx (fun t : Turn => decide (t.fr = s)) l < 0 by have : idx (fun t : Turn => decide (t.fr = s)) l = -1 := e; omega) u hu
    simp only [decide_eq_false_iff_not] at this
    exact this (e2.trans h.symm)
  rcases idx_cases (fun t : Turn => decide (t.fr = s)) l with e | ⟨i, hi, e, hs⟩ <;> rcases idx_cases (fun u : Turn => decide (u.fr = t)) l with e' | ⟨j, hj, e', ht⟩
  · rw [turned_none e, turned_none e'] at h; exact h
  · rw [turned_none e, turned_some hj e'] at h; exact (no s t j hj e h).elim
  · rw [turned_none e', turned_some hi e] at h; exact (no t s i hi e' h.symm).elim
  · rw [turned_some hi e, turned_some hj e'] at h
    have hs := of_decide_eq_true hs
    have ht := of_decide_eq_true ht
    have : i = j := by
      rcases Nat.lt_trichotomy i j with c | c | c
      · exact absurd h (((okTurns_at ok hj).2.2 i c).2)
      · exact c
      · exact absurd h.symm (((okTurns_at ok hi).2.2 j c).2)
    subst this
    exact hs.symm.trans ht
theorem turned_iff {l : List Turn} (ok : okTurns l = true) {s t : ByteArray} : turned l s = turned l t ↔ s = t := ⟨turned_inj ok, fun h => by rw [h]⟩
theorem turned_dec {l : List Turn} (ok : okTurns l = true) {s t : ByteArray} : decide (turned l s = turned l t) = decide (s = t) := by
  rw [Bool.eq_iff_iff, decide_eq_true_iff, decide_eq_true_iff]
  exact turned_iff ok
theorem turned_name {l : List Turn} (ok : okTurns l = true) {s : ByteArray} (h : okName s = true) : okName (turned l s) = true := by
  rcases idx_cases (fun t : Turn => decide (t.fr = s)) l with e | ⟨i, hi, e, hs⟩
  · rw [turned_none e]; exact h
  · rw [turned_some hi e]
    obtain ⟨u, hu, e2⟩ := (okTurns_at ok hi).2.1
    obtain ⟨k, hk, rfl⟩ := List.getElem_of_mem hu
    rw [← e2]
    exact (okTurns_at ok hk).1
section
variable {l : List Turn} {s : List Param}
theorem newAt_turn (ok : okTurns l = true) {i : Nat} : newAt Param.name (s.map (turnQ l)) i = newAt Param.name s i := by
  unfold newAt
  rw [List.getElem?_map]
  cases s[i]? with
  | none => rfl
  | some x =>
    simp only [Option.map_some, ← List.map_take, List.all_map]
    congr 1
    funext y
    exact congrArg (fun b => !b) (turned_dec ok (s := y.name) (t := x.name))
theorem okParam_turn (ok : okTurns l = true) {p : Param} (h : okParam p = true) : okParam (turnQ l p) = true := by
  unfold okParam at h ⊢
  rw [Bool.and_eq_true] at h ⊢
  exact ⟨turned_name ok h.1, h.2⟩
theorem okSig_turn (ok : okTurns l = true) (h : okSig s = true) : okSig (s.map (turnQ l)) = true := by
  have h2 := okSig_len h
  unfold okSig
  rw [Bool.and_eq_true, List.all_eq_true]
  refine ⟨fun i hi => ?_, by simp; omega⟩
  have hi2 : i < s.length := by simpa using hi
  have hi := List.mem_range.1 hi
  have ha := okSig_at h hi2
  cases i with
  | zero =>
    rw [stepAt_zero hi2, Bool.and_eq_true] at ha
    rw [stepAt_zero hi, newAt_turn ok, ha.2, List.getElem_map, okParam_turn ok ha.1]
    rfl
  | succ j =>
    rw [stepAt_succ hi2, Bool.and_eq_true, Bool.and_eq_true] at ha
    rw [stepAt_succ hi, newAt_turn ok, ha.2.1, List.getElem_map, List.getElem_map, okParam_turn ok ha.1]
    exact ha.2.2
theorem okFlat_turn (ok : okTurns l = true) {f : Flat} (h : okFlat f = true) : okFlat ⟨f.pl, f.nl.map (turnP l)⟩ = true := by
  rw [okFlat_parts] at h ⊢
  refine ⟨?_, h.2.1, fun x hx => ?_, h.2.2.2.1, by simpa using h.2.2.2.2⟩
  · rw [apart_iff, List.pairwise_map]
    refine (apart_iff.1 h.1).imp fun {a b} hab e => hab (turned_inj ok e)
  · obtain ⟨y, hy, rfl⟩ := List.mem_map.1 hx
    have := h.2.2.1 y hy
    unfold okPair at this ⊢
    rw [Bool.and_eq_true] at this ⊢
    exact ⟨turned_name ok this.1, this.2⟩
theorem kindAt_turn {k : Int} : kindAt (s.map (turnQ l)) k = kindAt s k := by
  unfold kindAt
  rw [idx_map]
  rfl
theorem takes_turn (ok : okTurns l = true) {n : ByteArray} : takes (s.map (turnQ l)) (turned l n) = takes s n := by
  have e : paramAt (s.map (turnQ l)) (turned l n) = paramAt s n := by
    unfold paramAt
    rw [idx_map]
    refine idx_congr fun x _ => ?_
    rw [Bool.eq_iff_iff, decide_eq_true_iff, decide_eq_true_iff]
    exact turned_iff ok
  unfold takes
  rw [e, kindAt_turn, List.getElem?_map]
  cases s[(paramAt s n).toNat]? with
  | none => rfl
  | some p => rfl
theorem places_turn : places (s.map (turnQ l)) = places s := by
  unfold places
  rw [List.countP_map]
  rfl
theorem hasRest_turn : hasRest (s.map (turnQ l)) = hasRest s := by
  unfold hasRest
  rw [kindAt_turn]
theorem manyB_turn {pl : List Int} : manyB (s.map (turnQ l)) pl = manyB s pl := by
  unfold manyB
  rw [places_turn, hasRest_turn]
theorem badOf_turn (ok : okTurns l = true) {n : Nat} {p : Pair} : (badOf (s.map (turnQ l)) n (turnP l p)).isSome = (badOf s n p).isSome := by
  unfold badOf
  rw [show (turnP l p).name = turned l p.name from rfl, takes_turn ok, List.getElem?_map]
  cases s[(takes s p.name).toNat]? with
  | none => rfl
  | some q =>
    simp only [Option.map_some]
    rw [show (turnQ l q).kind = q.kind from rfl, show byPlace (turnQ l q) = byPlace q from rfl]
    split
    · rfl
    · split
      · rfl
      · split
        · rfl
        · rfl
theorem badAll_turn (ok : okTurns l = true) {n : Nat} : ∀ {m : List Pair}, (badAll (s.map (turnQ l)) n (m.map (turnP l))).isEmpty = (badAll s n m).isEmpty
  | [] => rfl
  | p :: m => by
    have h := badOf_turn (s := s) (n := n) (p := p) ok
    have ih := badAll_turn ok (n := n) (m := m)
    unfold badAll at ih ⊢
    rw [List.map_cons, List.filterMap_cons, List.filterMap_cons]
    cases h1 : badOf (s.map (turnQ l)) n (turnP l p) with
    | none =>
      rw [h1] at h
      cases h2 : badOf s n p with
      | none => exact ih
      | some x => rw [h2] at h; simp at h
    | some x =>
      rw [h1] at h
      cases h2 : badOf s n p with
      | none => rw [h2] at h; simp at h
      | some x => rfl
theorem gotB_turn (ok : okTurns l = true) {f : Flat} {j : Nat} : gotB (s.map (turnQ l)) ⟨f.pl, f.nl.map (turnP l)⟩ j = gotB s f j := by
  unfold gotB
  rw [List.getElem?_map]
  cases s[j]? with
  | none => rfl
  | some q =>
    simp only [Option.map_some]
    rw [show byPlace (turnQ l q) = byPlace q from rfl, show byName (turnQ l q) = byName q from rfl, List.any_map]
    congr 3
    funext p
    rw [Bool.eq_iff_iff]
    simp only [Function.comp, decide_eq_true_iff]
    exact turned_iff ok
theorem lackL_turn (ok : okTurns l = true) {f : Flat} : (lackL (s.map (turnQ l)) ⟨f.pl, f.nl.map (turnP l)⟩).isEmpty = (lackL s f).isEmpty := by
  unfold lackL
  rw [List.isEmpty_map, List.isEmpty_map, List.length_map]
  have : (lackB (s.map (turnQ l)) ⟨f.pl, f.nl.map (turnP l)⟩) = lackB s f := by
    funext j
    unfold lackB
    rw [List.getElem?_map, gotB_turn ok]
    cases s[j]? with
    | none => rfl
    | some q => rfl
  rw [this]
theorem append_empty {α : Type} {a b : List α} : (a ++ b).isEmpty = (a.isEmpty && b.isEmpty) := by cases a <;> simp
theorem accepts_turn (ok : okTurns l = true) (ok1 : okSig s = true) {f : Flat} (ok2 : okFlat f = true) : acceptsF (s.map (turnQ l)) ⟨f.pl, f.nl.map (turnP l)⟩ = acceptsF s f := by
  have h1 := okSig_turn ok ok1
  have h2 := okFlat_turn ok ok2
  unfold acceptsF fits
  rw [h1, h2, ok1, ok2, wrong_is h1 h2, wrong_is ok1 ok2, append_empty, append_empty, append_empty, append_empty, manyB_turn, lackL_turn ok]
  simp only
  rw [badAll_turn ok]
theorem find_turn (ok : okTurns l = true) {j : Nat} {m : List Pair} : ((m.map (turnP l)).find? fun p => decide (takes (s.map (turnQ l)) p.name = (j : Int))) = (m.find? fun p => decide (takes s p.name = (j : Int))).map (turnP l) := by
  rw [List.find?_map]
  congr 2
  funext p
  simp only [Function.comp]
  rw [show (turnP l p).name = turned l p.name from rfl, takes_turn ok]
theorem slotPl_turn {pl : List Int} {j : Nat} : slotPl (s.map (turnQ l)) pl j = slotPl s pl j := by
  unfold slotPl
  rw [List.getElem?_map]
  cases s[j]? with
  | none => rfl
  | some q => rfl
theorem slotN_turn (ok : okTurns l = true) {pl : List Int} {m : List Pair} {j : Nat} (hj : j < s.length) : (slotN (s.map (turnQ l)) pl (m.map (turnP l)) j).list = (slotN s pl m j).list ∧ (slotN (s.map (turnQ l)) pl (m.map (turnP l)) j).given = (slotN s pl m j).given := by
  have hj2 : j < (s.map (turnQ l)).length := by simpa using hj
  have ek : (s.map (turnQ l))[j].kind = s[j].kind := by rw [List.getElem_map]; rfl
  by_cases k : s[j].kind = 4
  · rw [slotN_four hj2 (ek.trans k), slotN_four hj k]
    exact ⟨rfl, rfl⟩
  · have k2 : ¬ (s.map (turnQ l))[j].kind = 4 := by rw [ek]; exact k
    cases g : (slotPl s pl j).given with
    | true =>
      rw [slotN_given hj2 k2 (by rw [slotPl_turn]; exact g), slotN_given hj k g, slotPl_turn]
      exact ⟨rfl, rfl⟩
    | false =>
      rw [slotN_find hj2 k2 (by rw [slotPl_turn]; exact g), slotN_find hj k g, find_turn ok, slotPl_turn]
      cases m.find? fun p => decide (takes s p.name = (j : Int)) with
      | none => exact ⟨rfl, rfl⟩
      | some p => exact ⟨rfl, rfl⟩
theorem bound_turn (ok : okTurns l = true) (ok1 : okSig s = true) {f : Flat} (ok2 : okFlat f = true) {j : Nat} (hj : j < (boundS s f).length) (hk : j < (boundS (s.map (turnQ l)) ⟨f.pl, f.nl.map (turnP l)⟩).length) :
    (boundS (s.map (turnQ l)) ⟨f.pl, f.nl.map (turnP l)⟩)[j].list = (boundS s f)[j].list ∧ (boundS (s.map (turnQ l)) ⟨f.pl, f.nl.map (turnP l)⟩)[j].given = (boundS s f)[j].given := by
  have hj' : j < s.length := by rw [boundS_len] at hj; exact hj
  rw [boundS_is (okSig_turn ok ok1) (okFlat_turn ok ok2) (by simpa using hj') hk, boundS_is ok1 ok2 hj' hj]
  exact slotN_turn ok hj'
end
end Go.Proofs.Ytekkimfdcbgcoaa.Am
