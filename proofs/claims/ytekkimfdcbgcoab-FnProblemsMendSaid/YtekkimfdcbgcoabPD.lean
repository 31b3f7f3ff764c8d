/- What a wrapper passes on, and what is free: plain facts. -/
import Derived.Test.YtekkimfdcbgcoabBD
namespace Go.Proofs.Ytekkimfdcbgcoab.Am
open Go
set_option linter.unusedSimpArgs false
set_option linter.unusedVariables false
/-! ### names that differ -/
theorem newAt_iff {α : Type} {f : α → ByteArray} {l : List α} {i : Nat} (hi : i < l.length) : newAt f l i = true ↔ ∀ j (hj : j < i), f (l[j]'(by omega)) ≠ f l[i] := by
  unfold newAt
  rw [List.getElem?_eq_getElem hi]
  simp only [List.all_eq_true, Bool.not_eq_true', decide_eq_false_iff_not]
  constructor
  · intro h j hj
    refine h _ ?_
    rw [List.mem_take_iff_getElem]
    exact ⟨j, by omega, rfl⟩
  · intro h x hx
    rw [List.mem_take_iff_getElem] at hx
    obtain ⟨j, hj, rfl⟩ := hx
    exact h j (by omega)
theorem apart_iff {α : Type} {f : α → ByteArray} {l : List α} : apart f l = true ↔ l.Pairwise fun a b => f a ≠ f b := by
  unfold apart
  rw [List.all_eq_true, List.pairwise_iff_getElem]
  constructor
  · intro h i j hi hj hij
    exact (newAt_iff hj).1 (h j (List.mem_range.2 hj)) i hij
  · intro h i hi
    have hi := List.mem_range.1 hi
    exact (newAt_iff hi).2 fun j hj => h j i (by omega) hi hj
theorem apart_sub {α : Type} {f : α → ByteArray} {l m : List α} (h : l.Sublist m) (hm : apart f m = true) : apart f l = true := apart_iff.2 ((apart_iff.1 hm).sublist h)
theorem okFlat_sub {f g : Flat} (h1 : g.pl.Sublist f.pl) (h2 : g.nl.Sublist f.nl) (ok : okFlat f = true) : okFlat g = true := by
  unfold okFlat at ok ⊢
  simp only [Bool.and_eq_true, decide_eq_true_iff, List.all_eq_true] at ok ⊢
  have l1 := h1.length_le
  have l2 := h2.length_le
  exact ⟨apart_sub h2 ok.1, fun x hx => ok.2.1 x (h1.subset hx), fun x hx => ok.2.2.1 x (h2.subset hx), by omega, by omega⟩

/-! ### the slots of the rest and of the map -/
theorem takes_kind {l : List Param} {s : ByteArray} {j : Nat} (hj : j < l.length) (h : takes l s = j) : byName l[j] = true ∨ l[j].kind = 4 := by
  have k4 : kindAt l 4 = (j : Int) → l[j].kind = 4 := fun e => by
    obtain ⟨i, hi, e2, e3⟩ := kindAt_hit (l := l) (k := 4) (by omega)
    have : i = j := by omega
    subst this
    exact e3
  unfold takes at h
  split at h
  · rename_i p hp
    split at h
    · rename_i hc
      left
      rw [h] at hp
      simp only [Int.toNat_natCast] at hp
      rw [List.getElem?_eq_getElem hj] at hp
      obtain rfl := Option.some.inj hp
      exact hc.2
    · exact .inr (k4 h)
  · exact .inr (k4 h)
theorem nameStep_keep {l : List Param} {st : BSt} {p : Pair} {j : Nat} (hj : j < l.length) (hl : st.slots.length = l.length) (hn : byName l[j] = false) (h4 : ¬ l[j].kind = 4) : (nameStep l st p).slots[j]? = st.slots[j]? := by
  rcases takes_cases l p.name with e | ⟨k, hk, e⟩
  · rw [nameStep_no e]
  · have hs : k < st.slots.length := by omega
    have ne : k ≠ j := fun e2 => by
      subst e2
      rcases takes_kind hk e with h | h
      · rw [hn] at h; simp at h
      · exact h4 h
    by_cases kk : l[k].kind = 4
    · rw [nameStep_map e hk hs kk]
      simp only
      rw [List.getElem?_set_ne ne]
    · cases g : st.slots[k].given with
      | true => rw [nameStep_twice e hk hs kk g]
      | false =>
        rw [nameStep_give e hk hs kk g]
        simp only
        rw [List.getElem?_set_ne ne]
theorem nameF_len {l : List Param} {f : Flat} : ∀ {i : Nat}, i ≤ f.nl.length → (nameF l f i).slots.length = l.length
  | 0, _ => by rw [nameF_zero]; exact bindPl_len
  | i + 1, hi => by rw [nameF_next (by omega), nameStep_len]; exact nameF_len (by omega)
theorem rest_slot {l : List Param} {f : Flat} (o : Ord l) (hr : hasRest l = true) (hs : places l < (boundS l f).length) : (boundS l f)[places l] = ⟨false, f.pl.drop (places l), []⟩ := by
  obtain ⟨h0, h1, h2⟩ := o.rest_at hr
  have : ∀ i, i ≤ f.nl.length → (nameF l f i).slots[places l]? = some ⟨false, f.pl.drop (places l), []⟩ := by
    intro i
    induction i with
    | zero =>
      intro _
      rw [nameF_zero]
      simp only
      have hb : places l < (bindPl l f.pl).length := by rw [bindPl_len]; exact h0
      rw [List.getElem?_eq_getElem hb, bindPl_at, slotPl_rest h0 h1]
    | succ i ih =>
      intro hi
      rw [nameF_next (by omega), nameStep_keep h0 (nameF_len (by omega)) (by simp [byName, h1]) (by omega), ih (by omega)]
  have e := this _ (Nat.le_refl _)
  have e2 : (boundS l f)[places l]? = some ⟨false, f.pl.drop (places l), []⟩ := e
  rw [List.getElem?_eq_getElem hs] at e2
  exact Option.some.inj e2
theorem pairs_sub {l : List Param} {f : Flat} : ∀ s ∈ boundS l f, s.pairs.Sublist f.nl := by
  have : ∀ i, i ≤ f.nl.length → ∀ s ∈ (nameF l f i).slots, s.pairs.Sublist (f.nl.take i) := by
    intro i
    induction i with
    | zero =>
      intro _ s hs
      rw [nameF_zero] at hs
      have := (BOk.zero (l := l) (f := f)).pairs s hs
      rw [List.length_eq_zero_iff.1 (Nat.le_zero.1 this)]
      exact List.nil_sublist _
    | succ i ih =>
      intro hi s hs
      have ih := ih (by omega)
      have up : ∀ t : List Pair, t.Sublist (f.nl.take i) → t.Sublist (f.nl.take (i + 1)) := fun t ht => by
        rw [List.take_succ_eq_append_getElem (by omega)]
        exact ht.trans (List.sublist_append_left _ _)
      rw [nameF_next (by omega)] at hs
      have hl := nameF_len (l := l) (f := f) (i := i) (by omega)
      rcases takes_cases l f.nl[i].name with e | ⟨k, hk, e⟩
      · rw [nameStep_no e] at hs
        exact up _ (ih s hs)
      · have hk2 : k < (nameF l f i).slots.length := by omega
        by_cases kk : l[k].kind = 4
        · rw [nameStep_map e hk hk2 kk] at hs
          rcases List.mem_or_eq_of_mem_set hs with hs | rfl
          · exact up _ (ih s hs)
          · rw [List.take_succ_eq_append_getElem (by omega)]
            exact (ih _ (List.getElem_mem hk2)).append (List.Sublist.refl _)
        · cases g : (nameF l f i).slots[k].given with
          | true =>
            rw [nameStep_twice e hk hk2 kk g] at hs
            exact up _ (ih s hs)
          | false =>
            rw [nameStep_give e hk hk2 kk g] at hs
            rcases List.mem_or_eq_of_mem_set hs with hs | rfl
            · exact up _ (ih s hs)
            · exact List.nil_sublist _
  intro s hs
  have := this _ (Nat.le_refl _) s hs
  rwa [List.take_length] at this

/-! ### wrappers -/
def hasMap (l : List Param) : Bool := decide (0 ≤ kindAt l 4)
def isWrap (l : List Param) : Bool := okSig l && (hasRest l && hasMap l)
theorem Ord.map {l : List Param} (o : Ord l) {i : Nat} (hi : i < l.length) (e : l[i].kind = 4) : kindAt l 4 = i := by
  unfold kindAt
  rw [idx_hit hi ⟨fun x hx => ?_⟩ (by simpa using e)]
  rw [List.mem_take_iff_getElem] at hx
  obtain ⟨j, hj, rfl⟩ := hx
  have hji : j < i := by omega
  by_cases h2 : (l[j]'(by omega)).kind = 4
  · have h3 := o.same hi hji (h2.trans e.symm)
    simp [single, byPlace, byName, e] at h3
  · simpa using h2
theorem map_at {l : List Param} (h : hasMap l = true) : ∃ i, ∃ hi : i < l.length, kindAt l 4 = i ∧ l[i].kind = 4 := kindAt_hit (of_decide_eq_true h)
def mapIx (l : List Param) : Nat := (kindAt l 4).toNat
def getS (sl : List Slot) (i : Nat) : Slot := sl[i]?.getD zeroS
theorem getS_eq {sl : List Slot} {i : Nat} (hi : i < sl.length) : getS sl i = sl[i] := by unfold getS; rw [List.getElem?_eq_getElem hi]; rfl
/-- What the first i parameters pass on. -/
def passT (l : List Param) (sl : List Slot) (i : Nat) : Flat :=
  ⟨if hasRest l = true ∧ places l < i then (getS sl (places l)).list else [], if hasMap l = true ∧ mapIx l < i then (getS sl (mapIx l)).pairs else []⟩
theorem passT_zero {l : List Param} {sl : List Slot} : passT l sl 0 = ⟨[], []⟩ := by simp [passT]
theorem passT_rest {l : List Param} {sl : List Slot} {i : Nat} (o : Ord l) (hi : i < l.length) (hs : i < sl.length) (e : l[i].kind = 2) : passT l sl (i + 1) = ⟨sl[i].list, (passT l sl i).nl⟩ := by
  obtain ⟨e1, e2⟩ := o.rest hi e
  have hr : hasRest l = true := by unfold hasRest; rw [e2]; simp
  have hm : ¬ mapIx l = i ∨ hasMap l = false := by
    cases h : hasMap l with
    | false => exact .inr rfl
    | true =>
      left
      obtain ⟨j, hj, h1, h2⟩ := map_at h
      unfold mapIx
      rw [h1]
      simp only [Int.toNat_natCast]
      intro e3
      subst e3
      omega
  have e3 : (passT l sl i).nl = if hasMap l = true ∧ mapIx l < i then (getS sl (mapIx l)).pairs else [] := rfl
  rw [e3]
  unfold passT
  rw [if_pos ⟨hr, by omega⟩, ← e1, getS_eq hs]
  congr 1
  rcases hm with hm | hm
  · by_cases h : hasMap l = true ∧ mapIx l < i
    · rw [if_pos h, if_pos ⟨h.1, by omega⟩]
    · rw [if_neg h, if_neg (fun h2 => h ⟨h2.1, by omega⟩)]
  · rw [if_neg (by simp [hm]), if_neg (by simp [hm])]
theorem passT_map {l : List Param} {sl : List Slot} {i : Nat} (o : Ord l) (hi : i < l.length) (hs : i < sl.length) (e : l[i].kind = 4) : passT l sl (i + 1) = ⟨(passT l sl i).pl, sl[i].pairs⟩ := by
  have e2 := o.map hi e
  have hm : hasMap l = true := by unfold hasMap; rw [e2]; simp
  have hx : mapIx l = i := by unfold mapIx; rw [e2]; simp
  have hr : ¬ places l = i ∨ hasRest l = false := by
    cases h : hasRest l with
    | false => exact .inr rfl
    | true =>
      left
      obtain ⟨h1, h2, _⟩ := o.rest_at h
      intro e3
      subst e3
      omega
  have e3 : (passT l sl i).pl = if hasRest l = true ∧ places l < i then (getS sl (places l)).list else [] := rfl
  rw [e3]
  unfold passT
  rw [hx, if_pos (c := hasMap l = true ∧ i < i + 1) ⟨hm, by omega⟩, getS_eq hs]
  congr 1
  rcases hr with hr | hr
  · by_cases h : hasRest l = true ∧ places l < i
    · rw [if_pos h, if_pos ⟨h.1, by omega⟩]
    · rw [if_neg h, if_neg (fun h2 => h ⟨h2.1, by omega⟩)]
  · rw [if_neg (by simp [hr]), if_neg (by simp [hr])]
theorem passT_else {l : List Param} {sl : List Slot} {i : Nat} (o : Ord l) (hi : i < l.length) (e2 : ¬ l[i].kind = 2) (e4 : ¬ l[i].kind = 4) : passT l sl (i + 1) = passT l sl i := by
  have hr : hasRest l = true → ¬ places l = i := fun h e => by
    obtain ⟨h1, h2, _⟩ := o.rest_at h
    subst e
    exact e2 h2
  have hm : hasMap l = true → ¬ mapIx l = i := fun h e => by
    obtain ⟨j, hj, h1, h2⟩ := map_at h
    unfold mapIx at e
    rw [h1] at e
    simp only [Int.toNat_natCast] at e
    subst e
    exact e4 h2
  unfold passT
  congr 1
  · by_cases h : hasRest l = true ∧ places l < i
    · rw [if_pos h, if_pos ⟨h.1, by omega⟩]
    · rw [if_neg h, if_neg (fun h2 => h ⟨h2.1, by have := hr h2.1; omega⟩)]
  · by_cases h : hasMap l = true ∧ mapIx l < i
    · rw [if_pos h, if_pos ⟨h.1, by omega⟩]
    · rw [if_neg h, if_neg (fun h2 => h ⟨h2.1, by have := hm h2.1; omega⟩)]
def passOk (l : List Param) (f : Flat) : Bool := acceptsF l f && isWrap l
def passF (l : List Param) (f : Flat) : Flat := if passOk l f = true then passT l (boundS l f) l.length else ⟨[], []⟩
theorem passT_ok {l : List Param} {f : Flat} (ok1 : okSig l = true) (ok2 : okFlat f = true) {i : Nat} : okFlat (passT l (boundS l f) i) = true := by
  have o := Ord.of ok1
  refine okFlat_sub (f := f) ?_ ?_ ok2
  · unfold passT
    simp only
    split
    · rename_i h
      have hs : places l < (boundS l f).length := by rw [boundS_len]; exact (o.rest_at h.1).1
      rw [getS_eq hs, rest_slot o h.1 hs]
      exact List.drop_sublist _ _
    · exact List.nil_sublist _
  · unfold passT
    simp only
    split
    · rename_i h
      obtain ⟨j, hj, h1, h2⟩ := map_at h.1
      have hx : mapIx l = j := by unfold mapIx; rw [h1]; simp
      have hs : j < (boundS l f).length := by rw [boundS_len]; exact hj
      rw [hx, getS_eq hs]
      exact pairs_sub _ (List.getElem_mem hs)
    · exact List.nil_sublist _
theorem pass_fits {l : List Param} {f : Flat} (h : passOk l f = true) : okSig l = true ∧ okFlat f = true := by
  unfold passOk at h
  rw [Bool.and_eq_true] at h
  exact fits_ok (accepts_fits h.1)
theorem miniF.pass {l : List Param} {f : Flat} : miniF (passF l f) := by
  unfold passF
  split
  · rename_i h
    obtain ⟨ok1, ok2⟩ := pass_fits h
    exact .of (passT_ok ok1 ok2)
  · exact .nil
def wrapAcc (l m : List Param) (f : Flat) : Bool := passOk l f && acceptsF m (passF l f)

/-! ### what is free -/
def pickF {α : Type} (t : Nat → Bool) (nm : Nat → α) (i : Nat) : List α := ((List.range i).filter t).map nm
theorem pickF_zero {α : Type} {t : Nat → Bool} {nm : Nat → α} : pickF t nm 0 = [] := rfl
theorem pickF_next {α : Type} {t : Nat → Bool} {nm : Nat → α} {i : Nat} : pickF t nm (i + 1) = pickF t nm i ++ if t i = true then [nm i] else [] := by
  unfold pickF
  rw [List.range_succ, List.filter_append, List.map_append]
  congr 1
  cases b : t i <;> simp [List.filter, b]
theorem pickF_len {α : Type} {t : Nat → Bool} {nm : Nat → α} {i : Nat} : (pickF t nm i).length ≤ i := by
  unfold pickF
  rw [List.length_map]
  exact Nat.le_trans (List.length_filter_le _ _) (by simp)
theorem pickF_mem {α : Type} {t : Nat → Bool} {nm : Nat → α} {i : Nat} {x : α} (h : x ∈ pickF t nm i) : ∃ j, j < i ∧ t j = true ∧ x = nm j := by
  unfold pickF at h
  obtain ⟨j, hj, rfl⟩ := List.mem_map.1 h
  rw [List.mem_filter, List.mem_range] at hj
  exact ⟨j, hj.1, hj.2, rfl⟩
def nameAt (l : List Param) (j : Nat) : ByteArray := (l[j]?.getD ⟨strOfNums [], 0, false, 0⟩).name
theorem nameAt_eq {l : List Param} {j : Nat} (hj : j < l.length) : nameAt l j = l[j].name := by unfold nameAt; rw [List.getElem?_eq_getElem hj]; rfl
/-- Whether the parameter i has got nothing and q holds. -/
def isFree (q : Param → Bool) (l : List Param) (sl : List Slot) (i : Nat) : Bool :=
  match l[i]?, sl[i]? with
  | some p, some s => single p && (!s.given && q p)
  | _, _ => false
theorem isFree_eq {q : Param → Bool} {l : List Param} {sl : List Slot} {i : Nat} (hi : i < l.length) (hs : i < sl.length) : isFree q l sl i = (single l[i] && (!sl[i].given && q l[i])) := by
  unfold isFree
  rw [List.getElem?_eq_getElem hi, List.getElem?_eq_getElem hs]
def freeF (q : Param → Bool) (l : List Param) (f : Flat) : List ByteArray := if partOk l f = true then pickF (isFree q l (boundS l f)) (nameAt l) l.length else []
def freeAll (l : List Param) (f : Flat) : List ByteArray := freeF (fun _ => true) l f
def lackF (l : List Param) (f : Flat) : List ByteArray := freeF (fun p => !p.has) l f
theorem isFree_lacks {l : List Param} {sl : List Slot} {i : Nat} : isFree (fun p => !p.has) l sl i = lacks l sl i := by
  unfold isFree lacks
  cases l[i]? with
  | none => rfl
  | some p =>
    cases sl[i]? with
    | none => rfl
    | some s =>
      simp only
      cases single p <;> cases p.has <;> cases s.given <;> rfl
theorem part_fits {l : List Param} {f : Flat} (h : partOk l f = true) : okSig l = true ∧ okFlat f = true := by
  unfold partOk at h
  rw [Bool.and_eq_true] at h
  exact fits_ok h.1
theorem part_bad {l : List Param} {f : Flat} (h : partOk l f = true) : boundB l f = [] := by
  unfold partOk at h
  rw [Bool.and_eq_true, List.isEmpty_iff] at h
  exact h.2
theorem lack_names {l : List Param} {f : Flat} (h : partOk l f = true) : lackF l f = (wrong l f).map Problem.name := by
  unfold lackF freeF wrong
  rw [if_pos h, part_bad h, List.nil_append]
  unfold missing missF pickF
  rw [List.map_map, funext (fun i => isFree_lacks (l := l) (sl := boundS l f) (i := i))]
  rfl
theorem wrong_name {l : List Param} {f : Flat} (ok1 : okSig l = true) (ok2 : okFlat f = true) : ∀ x ∈ wrong l f, x.name.size ≤ 6 := by
  obtain ⟨_, _, hb3⟩ := okFlat_sm ok2
  have hb : ∀ i, i ≤ f.nl.length → ∀ x ∈ (nameF l f i).bad, x.name.size ≤ 6 := by
    intro i
    induction i with
    | zero =>
      intro _ x hx
      rw [nameF_zero] at hx
      simp only [manyB] at hx
      split at hx
      · obtain rfl := List.mem_singleton.1 hx; simp [strOfNums_size]
      · simp at hx
    | succ i ih =>
      intro hi x hx
      have nm := hb3 _ (List.getElem_mem (show i < f.nl.length by omega))
      rw [nameF_next (by omega)] at hx
      unfold nameStep at hx
      split at hx
      · rcases List.mem_append.1 hx with hx | hx
        · exact ih (by omega) x hx
        · obtain rfl := List.mem_singleton.1 hx; exact nm
      · split at hx
        · split at hx
          · exact ih (by omega) x hx
          · split at hx
            · rcases List.mem_append.1 hx with hx | hx
              · exact ih (by omega) x hx
              · obtain rfl := List.mem_singleton.1 hx; exact nm
            · exact ih (by omega) x hx
        · exact ih (by omega) x hx
  intro x hx
  rcases List.mem_append.1 hx with hx | hx
  · exact hb _ (Nat.le_refl _) x hx
  · unfold missing missF at hx
    obtain ⟨j, hj, rfl⟩ := List.mem_map.1 hx
    rw [List.mem_filter, List.mem_range] at hj
    simp only [List.getElem?_eq_getElem hj.1, Option.getD_some]
    exact okSig_name ok1 _ (List.getElem_mem hj.1)
end Go.Proofs.Ytekkimfdcbgcoab.Am
