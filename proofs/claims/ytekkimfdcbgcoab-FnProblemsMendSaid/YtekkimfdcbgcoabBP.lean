/- What a call gives, told parameter by parameter: plain facts. -/
import Derived.Test.YtekkimfdcbgcoabPD
import Derived.Test.YtekkimfdcbgcoabSG
namespace Go.Proofs.Ytekkimfdcbgcoab.Am
open Go
set_option linter.unusedSimpArgs false
set_option linter.unusedVariables false
theorem takes_inv {l : List Param} {s : ByteArray} {j : Nat} (hj : j < l.length) (h : takes l s = j) (h4 : ¬ l[j].kind = 4) : byName l[j] = true ∧ l[j].name = s := by
  have k4 : kindAt l 4 = j → False := fun e => by
    obtain ⟨i, hi, e2, e3⟩ := kindAt_hit (l := l) (k := 4) (by omega)
    have : i = j := by omega
    subst this
    exact h4 e3
  rcases idx_cases (fun p : Param => decide (p.name = s)) l with e | ⟨k, hk, e, hs⟩
  · have e : paramAt l s = -1 := e
    rw [takes_none e] at h
    exact (k4 h).elim
  · have e : paramAt l s = k := e
    rw [takes_some hk e] at h
    split at h
    · rename_i hb
      have : k = j := by omega
      subst this
      exact ⟨hb, of_decide_eq_true hs⟩
    · exact (k4 h).elim
theorem param_self {l : List Param} (o : Ord l) {j : Nat} (hj : j < l.length) : paramAt l l[j].name = j := by
  unfold paramAt
  refine idx_hit hj ⟨fun x hx => ?_⟩ (by simp)
  have := o.new j hj
  unfold newAt at this
  rw [List.getElem?_eq_getElem hj] at this
  simp only [List.all_eq_true] at this
  simpa using this x hx
theorem takes_self {l : List Param} (o : Ord l) {j : Nat} (hj : j < l.length) (hb : byName l[j] = true) : takes l l[j].name = j := by
  rw [takes_some hj (param_self o hj), if_pos hb]
theorem names_ne {l : List Param} (o : Ord l) {i j : Nat} (hi : i < l.length) (hj : j < l.length) (e : l[i].name = l[j].name) : i = j := by
  have h1 := param_self o hi
  rw [e, param_self o hj] at h1
  omega
/-- What a slot has got of these pairs. -/
def slotN (l : List Param) (pl : List Int) (m : List Pair) (j : Nat) : Slot :=
  match l[j]? with
  | some q =>
    if q.kind = 4 then ⟨false, [], m.filter fun p => decide (takes l p.name = j)⟩
    else if (slotPl l pl j).given = true then slotPl l pl j
    else match m.find? fun p => decide (takes l p.name = j) with | some p => givenS p.value | none => slotPl l pl j
  | none => zeroS
theorem slotN_four {l : List Param} {pl : List Int} {m : List Pair} {j : Nat} (hj : j < l.length) (h : l[j].kind = 4) : slotN l pl m j = ⟨false, [], m.filter fun p => decide (takes l p.name = j)⟩ := by
  unfold slotN
  rw [List.getElem?_eq_getElem hj]
  simp only
  rw [if_pos h]
theorem slotN_given {l : List Param} {pl : List Int} {m : List Pair} {j : Nat} (hj : j < l.length) (h : ¬ l[j].kind = 4) (g : (slotPl l pl j).given = true) : slotN l pl m j = slotPl l pl j := by
  unfold slotN
  rw [List.getElem?_eq_getElem hj]
  simp only
  rw [if_neg h, if_pos g]
theorem slotN_find {l : List Param} {pl : List Int} {m : List Pair} {j : Nat} (hj : j < l.length) (h : ¬ l[j].kind = 4) (g : (slotPl l pl j).given = false) :
    slotN l pl m j = match m.find? fun p => decide (takes l p.name = j) with | some p => givenS p.value | none => slotPl l pl j := by
  unfold slotN
  rw [List.getElem?_eq_getElem hj]
  simp only
  rw [if_neg h, if_neg (by simp [g])]
theorem slotPl_four {l : List Param} {pl : List Int} {j : Nat} (hj : j < l.length) (h : l[j].kind = 4) : slotPl l pl j = zeroS :=
  slotPl_else hj (by simp [byPlace, h]) (by omega)
theorem slotN_nil {l : List Param} {pl : List Int} {j : Nat} (hj : j < l.length) : slotN l pl [] j = slotPl l pl j := by
  by_cases h : l[j].kind = 4
  · rw [slotN_four hj h, slotPl_four hj h]; rfl
  · cases g : (slotPl l pl j).given with
    | true => exact slotN_given hj h g
    | false => rw [slotN_find hj h g]; rfl
theorem slotN_skip {l : List Param} {pl : List Int} {m : List Pair} {p : Pair} {j : Nat} (hj : j < l.length) (h : ¬ takes l p.name = j) : slotN l pl (m ++ [p]) j = slotN l pl m j := by
  have hd : decide (takes l p.name = (j : Int)) = false := decide_eq_false h
  by_cases k : l[j].kind = 4
  · rw [slotN_four hj k, slotN_four hj k, List.filter_append]
    simp [hd]
  · cases g : (slotPl l pl j).given with
    | true => rw [slotN_given hj k g, slotN_given hj k g]
    | false =>
      rw [slotN_find hj k g, slotN_find hj k g, List.find?_append]
      simp [hd]
theorem slotN_keep {l : List Param} {pl : List Int} {m : List Pair} {p : Pair} {j : Nat} (hj : j < l.length) (k : ¬ l[j].kind = 4) (g : (slotPl l pl j).given = true) : slotN l pl (m ++ [p]) j = slotN l pl m j := by
  rw [slotN_given hj k g, slotN_given hj k g]
theorem slotN_map {l : List Param} {pl : List Int} {m : List Pair} {p : Pair} {j : Nat} (hj : j < l.length) (k : l[j].kind = 4) (h : takes l p.name = j) : slotN l pl (m ++ [p]) j = { slotN l pl m j with pairs := (slotN l pl m j).pairs ++ [p] } := by
  rw [slotN_four hj k, slotN_four hj k, List.filter_append]
  simp [h]
theorem slotN_new {l : List Param} {pl : List Int} {m : List Pair} {p : Pair} {j : Nat} (hj : j < l.length) (k : ¬ l[j].kind = 4) (h : takes l p.name = j) (hm : ∀ x ∈ m, x.name ≠ p.name) : slotN l pl m j = slotPl l pl j := by
  cases g : (slotPl l pl j).given with
  | true => exact slotN_given hj k g
  | false =>
    rw [slotN_find hj k g]
    have : (m.find? fun p => decide (takes l p.name = j)) = none := by
      rw [List.find?_eq_none]
      intro x hx
      simp only [decide_eq_true_iff]
      intro e
      exact hm x hx ((takes_inv hj e k).2.symm.trans (takes_inv hj h k).2)
    rw [this]
theorem slotN_give {l : List Param} {pl : List Int} {m : List Pair} {p : Pair} {j : Nat} (hj : j < l.length) (k : ¬ l[j].kind = 4) (h : takes l p.name = j) (hm : ∀ x ∈ m, x.name ≠ p.name) (g : (slotPl l pl j).given = false) : slotN l pl (m ++ [p]) j = givenS p.value := by
  rw [slotN_find hj k g, List.find?_append]
  have : (m.find? fun p => decide (takes l p.name = j)) = none := by
    rw [List.find?_eq_none]
    intro x hx
    simp only [decide_eq_true_iff]
    intro e
    exact hm x hx ((takes_inv hj e k).2.symm.trans (takes_inv hj h k).2)
  rw [this]
  simp [h]
theorem slotPl_has {l : List Param} {pl : List Int} {j : Nat} (hj : j < l.length) : (slotPl l pl j).given = (byPlace l[j] && decide (j < pl.length)) := by
  cases hp : byPlace l[j] with
  | true =>
    by_cases h : j < pl.length
    · rw [slotPl_place hj hp h, decide_eq_true h]; rfl
    · rw [slotPl_none hj hp h, decide_eq_false h]; rfl
  | false =>
    by_cases h : l[j].kind = 2
    · rw [slotPl_rest hj h]; rfl
    · rw [slotPl_else hj hp h]; rfl
/-- What is wrong with a pair, if something is. -/
def badOf (l : List Param) (n : Nat) (p : Pair) : Option Problem :=
  match l[(takes l p.name).toNat]? with
  | some q => if takes l p.name < 0 then some ⟨1, p.name⟩ else if q.kind = 4 then none else if (byPlace q && decide ((takes l p.name).toNat < n)) = true then some ⟨2, p.name⟩ else none
  | none => some ⟨1, p.name⟩
theorem badOf_no {l : List Param} {n : Nat} {p : Pair} (h : takes l p.name = -1) : badOf l n p = some ⟨1, p.name⟩ := by
  unfold badOf
  rw [h]
  split
  · rw [if_pos (by omega)]
  · rfl
theorem badOf_at {l : List Param} {n : Nat} {p : Pair} {j : Nat} (hj : j < l.length) (h : takes l p.name = j) : badOf l n p = if l[j].kind = 4 then none else if (byPlace l[j] && decide (j < n)) = true then some ⟨2, p.name⟩ else none := by
  unfold badOf
  rw [h, Int.toNat_natCast, List.getElem?_eq_getElem hj]
  simp only
  rw [if_neg (by omega)]
theorem badOf_name {l : List Param} {n : Nat} {p : Pair} {x : Problem} (h : badOf l n p = some x) : x.name = p.name ∧ (x.kind = 1 ∨ x.kind = 2) := by
  rcases takes_cases l p.name with e | ⟨j, hj, e⟩
  · rw [badOf_no e] at h
    cases h
    exact ⟨rfl, .inl rfl⟩
  · rw [badOf_at hj e] at h
    split at h
    · simp at h
    · split at h
      · cases h; exact ⟨rfl, .inr rfl⟩
      · simp at h
def badAll (l : List Param) (n : Nat) (m : List Pair) : List Problem := m.filterMap (badOf l n)
theorem take_ne {nl : List Pair} (h : apart Pair.name nl = true) {i : Nat} (hi : i < nl.length) : ∀ x ∈ nl.take i, x.name ≠ nl[i].name := by
  intro x hx
  rw [List.mem_take_iff_getElem] at hx
  obtain ⟨k, hk, rfl⟩ := hx
  exact List.pairwise_iff_getElem.1 (apart_iff.1 h) k i (by omega) hi (by omega)
theorem nameF_is {l : List Param} {f : Flat} (o : Ord l) (ok2 : okFlat f = true) : ∀ {i : Nat}, i ≤ f.nl.length →
    (∀ j, j < l.length → (nameF l f i).slots[j]? = some (slotN l f.pl (f.nl.take i) j)) ∧ (nameF l f i).bad = manyB l f.pl ++ badAll l f.pl.length (f.nl.take i)
  | 0, _ => by
    rw [nameF_zero]
    refine ⟨fun j hj => ?_, by simp [badAll]⟩
    simp only
    rw [List.getElem?_eq_getElem (by rw [bindPl_len]; exact hj), bindPl_at, List.take_zero, slotN_nil hj]
  | i + 1, hi => by
    obtain ⟨ih1, ih2⟩ := nameF_is (i := i) o ok2 (by omega)
    have hl := nameF_len (l := l) (f := f) (i := i) (by omega)
    have hm := take_ne (okFlat_apart ok2) (i := i) (by omega)
    rw [nameF_next (by omega), List.take_succ_eq_append_getElem (by omega)]
    generalize hp : f.nl[i] = p at hm
    unfold badAll at ih2 ⊢
    rw [List.filterMap_append, ← List.append_assoc, ← ih2]
    rcases takes_cases l p.name with e | ⟨k, hk, e⟩
    · rw [nameStep_no e]
      refine ⟨fun j hj => ?_, by simp [badOf_no e]⟩
      simp only
      rw [ih1 j hj, slotN_skip hj (by omega)]
    · have hk2 : k < (nameF l f i).slots.length := by omega
      have sk := ih1 k hk
      rw [List.getElem?_eq_getElem hk2] at sk
      have sk := Option.some.inj sk
      have away : ∀ j (a : Slot), j < l.length → j ≠ k → ((nameF l f i).slots.set k a)[j]? = some (slotN l f.pl (f.nl.take i ++ [p]) j) := fun j a hj hjk => by
        rw [List.getElem?_set_ne (by omega), ih1 j hj, slotN_skip hj (by omega)]
      by_cases k4 : l[k].kind = 4
      · rw [nameStep_map e hk hk2 k4]
        refine ⟨fun j hj => ?_, by simp [badOf_at hk e, k4]⟩
        by_cases hjk : j = k
        · subst hjk
          simp only
          rw [List.getElem?_set_self hk2, slotN_map hk k4 e, sk]
        · exact away j _ hj hjk
      · have sn := slotN_new (pl := f.pl) hk k4 e hm
        rw [sn] at sk
        have sg := slotPl_has (pl := f.pl) hk
        cases g : (nameF l f i).slots[k].given with
        | true =>
          rw [nameStep_twice e hk hk2 k4 g]
          rw [sk, sg] at g
          refine ⟨fun j hj => ?_, by simp only [List.filterMap_cons, badOf_at hk e, if_neg k4, if_pos g, List.filterMap_nil]⟩
          simp only
          rw [ih1 j hj]
          by_cases hjk : j = k
          · subst hjk
            rw [slotN_keep hk k4 (by rw [sg]; exact g)]
          · rw [slotN_skip hj (by omega)]
        | false =>
          rw [nameStep_give e hk hk2 k4 g]
          rw [sk, sg] at g
          refine ⟨fun j hj => ?_, by simp only [List.filterMap_cons, badOf_at hk e, if_neg k4, List.filterMap_nil, List.append_nil]; rw [if_neg (by simp only [g]; decide)]; simp⟩
          by_cases hjk : j = k
          · subst hjk
            simp only
            rw [List.getElem?_set_self hk2, slotN_give hk k4 e hm (by rw [sg]; exact g)]
          · exact away j _ hj hjk
theorem boundB_is {l : List Param} {f : Flat} (ok1 : okSig l = true) (ok2 : okFlat f = true) : boundB l f = manyB l f.pl ++ badAll l f.pl.length f.nl := by
  have := (nameF_is (Ord.of ok1) ok2 (Nat.le_refl _)).2
  rw [List.take_length] at this
  exact this
theorem boundS_is {l : List Param} {f : Flat} (ok1 : okSig l = true) (ok2 : okFlat f = true) {j : Nat} (hj : j < l.length) (hs : j < (boundS l f).length) : (boundS l f)[j] = slotN l f.pl f.nl j := by
  have := (nameF_is (Ord.of ok1) ok2 (Nat.le_refl _)).1 j hj
  rw [List.take_length] at this
  have e : (boundS l f)[j]? = some (slotN l f.pl f.nl j) := this
  rw [List.getElem?_eq_getElem hs] at e
  exact Option.some.inj e
/-- Whether a parameter has got a value. -/
def gotB (l : List Param) (f : Flat) (j : Nat) : Bool :=
  match l[j]? with
  | some q => (byPlace q && decide (j < f.pl.length)) || (byName q && f.nl.any fun p => decide (p.name = q.name))
  | none => false
theorem gotB_at {l : List Param} {f : Flat} {j : Nat} (hj : j < l.length) : gotB l f j = ((byPlace l[j] && decide (j < f.pl.length)) || (byName l[j] && f.nl.any fun p => decide (p.name = l[j].name))) := by
  unfold gotB
  rw [List.getElem?_eq_getElem hj]
theorem slotN_got {l : List Param} {f : Flat} (o : Ord l) {j : Nat} (hj : j < l.length) : (slotN l f.pl f.nl j).given = gotB l f j := by
  rw [gotB_at hj]
  by_cases k : l[j].kind = 4
  · rw [slotN_four hj k]
    simp [byPlace, byName, k]
  · rw [← slotPl_has hj]
    cases g : (slotPl l f.pl j).given with
    | true => rw [slotN_given hj k g, g]; rfl
    | false =>
      rw [slotN_find hj k g, Bool.false_or]
      cases e : (f.nl.find? fun p => decide (takes l p.name = j)) with
      | some p =>
        have h1 := List.find?_some e
        have h2 := List.mem_of_find?_eq_some e
        obtain ⟨h3, h4⟩ := takes_inv hj (of_decide_eq_true h1) k
        simp only
        rw [h3, List.any_eq_true.2 ⟨p, h2, decide_eq_true h4.symm⟩]
        rfl
      | none =>
        simp only [g]
        cases b : byName l[j] with
        | false => rfl
        | true =>
          rw [Bool.true_and]
          refine (List.any_eq_false.2 fun p hp => ?_).symm
          have := List.find?_eq_none.1 e p hp
          simp only [decide_eq_true_iff] at this ⊢
          intro h
          rw [h, takes_self o hj b] at this
          exact this rfl
theorem got_is {l : List Param} {f : Flat} (ok1 : okSig l = true) (ok2 : okFlat f = true) {j : Nat} (hj : j < l.length) (hs : j < (boundS l f).length) : (boundS l f)[j].given = gotB l f j := by
  rw [boundS_is ok1 ok2 hj hs, slotN_got (Ord.of ok1) hj]
/-- Whether a parameter lacks its value. -/
def lackB (l : List Param) (f : Flat) (j : Nat) : Bool :=
  match l[j]? with
  | some q => single q && (!q.has && !gotB l f j)
  | none => false
theorem lackB_at {l : List Param} {f : Flat} {j : Nat} (hj : j < l.length) : lackB l f j = (single l[j] && (!l[j].has && !gotB l f j)) := by
  unfold lackB
  rw [List.getElem?_eq_getElem hj]
def lackL (l : List Param) (f : Flat) : List Problem := ((List.range l.length).filter (lackB l f)).map fun j => ⟨3, nameAt l j⟩
theorem lackB_is {l : List Param} {f : Flat} (ok1 : okSig l = true) (ok2 : okFlat f = true) {j : Nat} (hj : j < l.length) : lacks l (boundS l f) j = lackB l f j := by
  have hs : j < (boundS l f).length := by rw [boundS_len]; exact hj
  rw [lacks_eq hj hs, lackB_at hj, got_is ok1 ok2 hj hs]
theorem missing_is {l : List Param} {f : Flat} (ok1 : okSig l = true) (ok2 : okFlat f = true) : missing l (boundS l f) = lackL l f := by
  unfold missing missF lackL
  have : (List.range l.length).filter (lacks l (boundS l f)) = (List.range l.length).filter (lackB l f) :=
    List.filter_congr fun j hj => lackB_is ok1 ok2 (List.mem_range.1 hj)
  rw [this]
  rfl
theorem wrong_is {l : List Param} {f : Flat} (ok1 : okSig l = true) (ok2 : okFlat f = true) : wrong l f = manyB l f.pl ++ badAll l f.pl.length f.nl ++ lackL l f := by
  unfold wrong
  rw [boundB_is ok1 ok2, missing_is ok1 ok2]
theorem badAll_nil {l : List Param} {n : Nat} {m : List Pair} : badAll l n m = [] ↔ ∀ p ∈ m, badOf l n p = none := by
  unfold badAll
  exact List.filterMap_eq_nil_iff
/-- Nothing is wrong with a pair. -/
theorem badOf_none {l : List Param} {n : Nat} {p : Pair} : badOf l n p = none ↔ ∃ j, ∃ hj : j < l.length, takes l p.name = j ∧ (l[j].kind = 4 ∨ ¬ (byPlace l[j] = true ∧ j < n)) := by
  rcases takes_cases l p.name with e | ⟨j, hj, e⟩
  · rw [badOf_no e]
    constructor
    · intro h; simp at h
    · rintro ⟨j, hj, h, _⟩; omega
  · rw [badOf_at hj e]
    constructor
    · intro h
      refine ⟨j, hj, e, ?_⟩
      split at h
      · left; assumption
      · split at h
        · simp at h
        · rename_i h2
          right
          simpa using h2
    · rintro ⟨j2, hj2, e2, h⟩
      have : j2 = j := by omega
      subst this
      split
      · rfl
      · rename_i h4
        rcases h with h | h
        · exact absurd h h4
        · rw [if_neg (by simpa using h)]
theorem manyB_nil {l : List Param} {pl : List Int} : manyB l pl = [] ↔ ¬ (places l < pl.length ∧ hasRest l = false) := by
  unfold manyB
  split
  · rename_i h; simp only [List.cons_ne_nil, false_iff]; exact fun h2 => h2 h
  · rename_i h; simp only [true_iff]; exact h
/-- A part of a call gives a part. -/
theorem bad_less {l : List Param} {f g : Flat} (ok1 : okSig l = true) (ok2 : okFlat f = true) (ok3 : okFlat g = true) (h1 : g.pl.length ≤ f.pl.length) (h2 : ∀ p ∈ g.nl, p ∈ f.nl) (h : boundB l f = []) : boundB l g = [] := by
  rw [boundB_is ok1 ok2, List.append_eq_nil_iff, manyB_nil, badAll_nil] at h
  rw [boundB_is ok1 ok3, List.append_eq_nil_iff, manyB_nil, badAll_nil]
  refine ⟨fun h3 => h.1 ⟨by omega, h3.2⟩, fun p hp => ?_⟩
  obtain ⟨j, hj, e, h4⟩ := badOf_none.1 (h.2 p (h2 p hp))
  exact badOf_none.2 ⟨j, hj, e, h4.imp id fun h5 h6 => h5 ⟨h6.1, by omega⟩⟩
end Go.Proofs.Ytekkimfdcbgcoab.Am
