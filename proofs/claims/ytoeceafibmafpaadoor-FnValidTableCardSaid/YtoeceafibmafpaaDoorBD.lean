/- What a call gives to the parameters of a signature: plain facts. -/
import Derived.Test.YtoeceafibmafpaaDoorDat
namespace Go.Proofs.YtoeceafibmafpaaDoor.Am
open Go
set_option linter.unusedSimpArgs false
set_option linter.unusedVariables false

def zeroS : Slot := ⟨false, [], []⟩
def givenS (n : Int) : Slot := ⟨true, [n], []⟩
def places (l : List Param) : Nat := l.countP byPlace
def hasRest (l : List Param) : Bool := decide (0 ≤ kindAt l 2)

/-! ### the order of parameters -/
structure Ord (l : List Param) : Prop where
  kind : ∀ i (hi : i < l.length), 0 ≤ l[i].kind ∧ l[i].kind ≤ 4
  step : ∀ i (hi : i + 1 < l.length), (l[i]'(by omega)).kind ≤ l[i + 1].kind ∧ ((l[i]'(by omega)).kind = l[i + 1].kind → single l[i + 1] = true)
  new : ∀ i (hi : i < l.length), newAt Param.name l i = true
theorem okSig_len {l : List Param} (h : okSig l = true) : l.length ≤ 8 := by
  unfold okSig at h
  simp only [Bool.and_eq_true, decide_eq_true_iff] at h
  omega
theorem okSig_at {l : List Param} (h : okSig l = true) {i : Nat} (hi : i < l.length) : stepAt l i = true := by
  unfold okSig at h
  rw [Bool.and_eq_true, List.all_eq_true] at h
  exact h.1 i (List.mem_range.2 hi)
theorem okSig_param {l : List Param} (h : okSig l = true) {i : Nat} (hi : i < l.length) : okParam l[i] = true ∧ newAt Param.name l i = true := by
  have ha := okSig_at h hi
  cases i with
  | zero => rw [stepAt_zero hi] at ha; simpa using ha
  | succ k => rw [stepAt_succ hi] at ha; simp at ha; exact ⟨ha.1, ha.2.1⟩
theorem okSig_name {l : List Param} (h : okSig l = true) : ∀ x ∈ l, x.name.size ≤ 6 := by
  intro x hx
  obtain ⟨i, hi, rfl⟩ := List.getElem_of_mem hx
  have := (okSig_param h hi).1
  unfold okParam okName at this
  simp only [Bool.and_eq_true, decide_eq_true_iff] at this
  omega
theorem Ord.of {l : List Param} (h : okSig l = true) : Ord l := by
  refine ⟨fun i hi => ?_, fun i hi => ?_, fun i hi => (okSig_param h hi).2⟩
  · have := (okSig_param h hi).1
    unfold okParam at this
    simp only [Bool.and_eq_true, decide_eq_true_iff] at this
    exact this.2.1
  · have ha := okSig_at h hi
    rw [stepAt_succ hi] at ha
    simp only [Bool.and_eq_true] at ha
    have hf := ha.2.2
    unfold follows at hf
    simp only [Bool.and_eq_true, Bool.not_eq_true', decide_eq_false_iff_not, Int.not_lt, Bool.and_eq_false_iff, Bool.not_eq_false'] at hf
    refine ⟨hf.1, fun e => ?_⟩
    rcases hf.2.1 with h1 | h1
    · exact absurd e.symm h1
    · exact h1
theorem Ord.up {l : List Param} (o : Ord l) : ∀ {i j : Nat} (hj : j < l.length) (hij : i ≤ j), (l[i]'(by omega)).kind ≤ l[j].kind := by
  intro i j hj hij
  induction j with
  | zero => obtain rfl : i = 0 := by omega
            exact Int.le_refl _
  | succ j ih =>
    by_cases e : i = j + 1
    · subst e; exact Int.le_refl _
    · exact Int.le_trans (ih (by omega) (by omega)) (o.step j hj).1
theorem Ord.same {l : List Param} (o : Ord l) {i j : Nat} (hj : j < l.length) (hij : i < j) (e : (l[i]'(by omega)).kind = l[j].kind) : single l[j] = true := by
  obtain ⟨k, rfl⟩ : ∃ k, j = k + 1 := ⟨j - 1, by omega⟩
  refine (o.step k hj).2 ?_
  have h1 := o.up (i := i) (j := k) (by omega) (by omega)
  have h2 := (o.step k hj).1
  omega
theorem byPlace_iff {p : Param} : byPlace p = true ↔ p.kind = 0 ∨ p.kind = 1 := by simp [byPlace]
theorem byPlace_le {p : Param} (h : 0 ≤ p.kind) : byPlace p = decide (p.kind ≤ 1) := by
  unfold byPlace
  rw [Bool.eq_iff_iff]
  simp
  omega
theorem countP_front {α : Type} {p : α → Bool} : ∀ (l : List α) (h : ∀ i j (hj : j < l.length) (hij : i < j), p l[j] = true → p (l[i]'(by omega)) = true) (i : Nat) (hi : i < l.length), p l[i] = decide (i < l.countP p)
  | [], h, i, hi => by simp at hi
  | a :: r, h, i, hi => by
    cases ha : p a with
    | true =>
      have ih := countP_front (p := p) r fun i j hj hij hp => by
        have := h (i + 1) (j + 1) (by simpa using hj) (by omega) (by simpa using hp)
        simpa using this
      rw [List.countP_cons_of_pos ha]
      cases i with
      | zero => simpa using ha
      | succ k =>
        rw [List.getElem_cons_succ, ih k (by simpa using hi), Bool.eq_iff_iff]
        simp
    | false =>
      have h0 : ∀ x ∈ a :: r, ¬ p x = true := by
        intro x hx hp
        obtain ⟨j, hj, rfl⟩ := List.getElem_of_mem hx
        cases j with
        | zero => simp only [List.getElem_cons_zero] at hp; rw [ha] at hp; simp at hp
        | succ j =>
          have := h 0 (j + 1) hj (by omega) hp
          simp only [List.getElem_cons_zero] at this
          rw [ha] at this
          simp at this
      rw [List.countP_eq_zero.2 h0]
      have := h0 _ (List.getElem_mem hi)
      simpa using this
theorem Ord.place {l : List Param} (o : Ord l) {i : Nat} (hi : i < l.length) : byPlace l[i] = decide (i < places l) := by
  refine countP_front l (fun i j hj hij hp => ?_) i hi
  rw [byPlace_le (o.kind _ _).1] at hp ⊢
  have h1 := o.up hj (Nat.le_of_lt hij)
  simp only [decide_eq_true_iff] at hp ⊢
  omega
theorem places_le {l : List Param} : places l ≤ l.length := List.countP_le_length
theorem Ord.rest {l : List Param} (o : Ord l) {i : Nat} (hi : i < l.length) (e : l[i].kind = 2) : i = places l ∧ kindAt l 2 = i := by
  have a1 : byPlace l[i] = false := by rw [byPlace_le (o.kind _ _).1]; simp; omega
  rw [o.place hi] at a1
  simp only [decide_eq_false_iff_not, Nat.not_lt] at a1
  have lt2 : ∀ j (hj : j < i), (l[j]'(by omega)).kind < 2 := fun j hj => by
    have h1 := o.up hi (Nat.le_of_lt hj)
    by_cases h2 : (l[j]'(by omega)).kind = 2
    · have h3 := o.same hi hj (h2.trans e.symm)
      simp [single, byPlace, byName, e] at h3
    · omega
  refine ⟨?_, ?_⟩
  · by_cases h1 : places l < i
    · have h2 := lt2 _ h1
      have h3 := o.place (i := places l) (by omega)
      rw [byPlace_le (o.kind _ _).1] at h3
      simp at h3
      omega
    · omega
  · unfold kindAt
    rw [idx_hit hi ⟨fun x hx => ?_⟩ (by simpa using e)]
    rw [List.mem_take_iff_getElem] at hx
    obtain ⟨j, hj, rfl⟩ := hx
    have := lt2 j (by omega)
    simp
    omega
theorem kindAt_hit {l : List Param} {k : Int} (h : 0 ≤ kindAt l k) : ∃ i, ∃ hi : i < l.length, kindAt l k = i ∧ l[i].kind = k := by
  rcases idx_cases (fun p : Param => decide (p.kind = k)) l with e | ⟨j, hj, e, hs⟩
  · unfold kindAt at h; omega
  · exact ⟨j, hj, e, by simpa using hs⟩
theorem Ord.rest_at {l : List Param} (o : Ord l) (h : hasRest l = true) : ∃ hi : places l < l.length, l[places l].kind = 2 ∧ kindAt l 2 = places l := by
  unfold hasRest at h
  obtain ⟨i, hi, e, k⟩ := kindAt_hit (of_decide_eq_true h)
  obtain ⟨e1, e2⟩ := o.rest hi k
  subst e1
  exact ⟨hi, k, e2⟩
theorem Ord.no_rest {l : List Param} (o : Ord l) (h : hasRest l = false) {i : Nat} (hi : i < l.length) : ¬ l[i].kind = 2 := fun e => by
  have := (o.rest hi e).2
  unfold hasRest at h
  rw [this] at h
  simp at h

/-! ### values by place -/
def slotPl (l : List Param) (pl : List Int) (i : Nat) : Slot :=
  match l[i]? with
  | some p => if byPlace p = true then (match pl[i]? with | some n => givenS n | none => zeroS) else if p.kind = 2 then ⟨false, pl.drop i, []⟩ else zeroS
  | none => zeroS
theorem slotPl_place {l : List Param} {pl : List Int} {i : Nat} (hi : i < l.length) (hp : byPlace l[i] = true) (hj : i < pl.length) : slotPl l pl i = givenS pl[i] := by
  unfold slotPl
  rw [List.getElem?_eq_getElem hi]
  simp only
  rw [if_pos hp, List.getElem?_eq_getElem hj]
theorem slotPl_none {l : List Param} {pl : List Int} {i : Nat} (hi : i < l.length) (hp : byPlace l[i] = true) (hj : ¬ i < pl.length) : slotPl l pl i = zeroS := by
  unfold slotPl
  rw [List.getElem?_eq_getElem hi]
  simp only
  rw [if_pos hp, List.getElem?_eq_none (by omega)]
theorem slotPl_rest {l : List Param} {pl : List Int} {i : Nat} (hi : i < l.length) (hp : l[i].kind = 2) : slotPl l pl i = ⟨false, pl.drop i, []⟩ := by
  unfold slotPl
  rw [List.getElem?_eq_getElem hi]
  simp only
  rw [if_neg (by simp [byPlace, hp]), if_pos hp]
theorem slotPl_else {l : List Param} {pl : List Int} {i : Nat} (hi : i < l.length) (hp : byPlace l[i] = false) (hk : ¬ l[i].kind = 2) : slotPl l pl i = zeroS := by
  unfold slotPl
  rw [List.getElem?_eq_getElem hi]
  simp only
  rw [if_neg (by simp [hp]), if_neg hk]
def bindPl (l : List Param) (pl : List Int) : List Slot := (List.range l.length).map (slotPl l pl)
theorem bindPl_len {l : List Param} {pl : List Int} : (bindPl l pl).length = l.length := by simp [bindPl]
theorem bindPl_at {l : List Param} {pl : List Int} {i : Nat} (hi : i < (bindPl l pl).length) : (bindPl l pl)[i] = slotPl l pl i := by simp [bindPl]
theorem bindPl_nil {l : List Param} : bindPl l [] = List.replicate l.length zeroS := by
  refine List.ext_getElem (by simp [bindPl]) fun i h1 h2 => ?_
  rw [bindPl_at, List.getElem_replicate]
  have hi : i < l.length := by simpa [bindPl] using h1
  cases hp : byPlace l[i] with
  | true => exact slotPl_none hi hp (by simp)
  | false =>
    by_cases hk : l[i].kind = 2
    · rw [slotPl_rest hi hk]; simp [zeroS]
    · exact slotPl_else hi hp hk
/-- The first i parameters have got what they get. -/
def fillS (l : List Param) (pl : List Int) (i : Nat) : List Slot := (List.range l.length).map fun j => if j < i then slotPl l pl j else zeroS
theorem fillS_len {l : List Param} {pl : List Int} {i : Nat} : (fillS l pl i).length = l.length := by simp [fillS]
theorem fillS_zero {l : List Param} {pl : List Int} : fillS l pl 0 = List.replicate l.length zeroS := by
  refine List.ext_getElem (by simp [fillS]) fun i h1 h2 => ?_
  simp [fillS]
theorem fillS_all {l : List Param} {pl : List Int} : fillS l pl l.length = bindPl l pl := by
  refine List.ext_getElem (by simp [fillS, bindPl]) fun i h1 h2 => ?_
  simp [fillS, bindPl]
  intro h3
  simp [fillS] at h1
  omega
theorem fillS_at {l : List Param} {pl : List Int} {i : Nat} (hi : i < (fillS l pl i).length) : (fillS l pl i)[i] = zeroS := by simp [fillS]
theorem fillS_set {l : List Param} {pl : List Int} {i : Nat} : (fillS l pl i).set i (slotPl l pl i) = fillS l pl (i + 1) := by
  refine List.ext_getElem (by simp [fillS]) fun j h1 h2 => ?_
  rw [List.getElem_set]
  simp only [fillS, List.getElem_map, List.getElem_range]
  by_cases e : i = j
  · subst e; simp
  · rw [if_neg e]
    by_cases h3 : j < i
    · rw [if_pos h3, if_pos (by omega)]
    · rw [if_neg h3, if_neg (by omega)]
theorem fillS_skip {l : List Param} {pl : List Int} {i : Nat} (hi : i < l.length) (h : slotPl l pl i = zeroS) : fillS l pl (i + 1) = fillS l pl i := by
  rw [← fillS_set, h]
  have hj : i < (fillS l pl i).length := by rw [fillS_len]; exact hi
  rw [← fillS_at (l := l) (pl := pl) hj]
  exact List.set_getElem_self hj
/-- What is left behind the first i parameters. -/
def leftAt (l : List Param) (pl : List Int) (i : Nat) : List Int := if i ≤ places l then pl.drop i else if hasRest l = true then [] else pl.drop (places l)
theorem leftAt_zero {l : List Param} {pl : List Int} : leftAt l pl 0 = pl := by simp [leftAt]
theorem leftAt_le {l : List Param} {pl : List Int} {i : Nat} : (leftAt l pl i).length ≤ pl.length := by
  unfold leftAt
  split
  · simp
  · split <;> simp
theorem leftAt_place {l : List Param} {pl : List Int} {i : Nat} (o : Ord l) (hi : i < l.length) (hp : byPlace l[i] = true) : leftAt l pl i = pl.drop i ∧ leftAt l pl (i + 1) = pl.drop (i + 1) := by
  rw [o.place hi] at hp
  have := of_decide_eq_true hp
  unfold leftAt
  rw [if_pos (by omega), if_pos (by omega)]
  exact ⟨rfl, rfl⟩
theorem leftAt_rest {l : List Param} {pl : List Int} {i : Nat} (o : Ord l) (hi : i < l.length) (hk : l[i].kind = 2) : leftAt l pl i = pl.drop i ∧ leftAt l pl (i + 1) = [] := by
  obtain ⟨e, e2⟩ := o.rest hi hk
  unfold leftAt
  rw [if_pos (by omega), if_neg (by omega), if_pos (by unfold hasRest; rw [e2]; simp)]
  exact ⟨rfl, rfl⟩
theorem leftAt_else {l : List Param} {pl : List Int} {i : Nat} (o : Ord l) (hi : i < l.length) (hp : byPlace l[i] = false) (hk : ¬ l[i].kind = 2) : leftAt l pl (i + 1) = leftAt l pl i := by
  rw [o.place hi] at hp
  have hp := of_decide_eq_false hp
  unfold leftAt
  rw [if_neg (by omega)]
  by_cases e : i ≤ places l
  · obtain rfl : i = places l := by omega
    rw [if_pos e]
    cases hr : hasRest l with
    | true => exact absurd (o.rest_at hr).2.1 hk
    | false => simp
  · rw [if_neg e]
def manyB (l : List Param) (pl : List Int) : List Problem := if places l < pl.length ∧ hasRest l = false then [⟨0, strOfNums []⟩] else []
theorem leftAt_many {l : List Param} {pl : List Int} (o : Ord l) : 0 < (leftAt l pl l.length).length ↔ places l < pl.length ∧ hasRest l = false := by
  unfold leftAt
  have hp := places_le (l := l)
  cases hr : hasRest l with
  | true =>
    have := (o.rest_at hr).1
    rw [if_neg (by omega)]
    simp
  | false =>
    by_cases e : l.length ≤ places l
    · rw [if_pos e]
      have : l.length = places l := by omega
      simp
      omega
    · rw [if_neg e]
      simp
      omega
/-! the reference goes value by value -/
theorem bindPl_place {l : List Param} {pl : List Int} {i : Nat} (o : Ord l) (hi : i < places l) (hj : i < pl.length) : bindPl l (pl.take (i + 1)) = (bindPl l (pl.take i)).set i (givenS pl[i]) := by
  have hpl := places_le (l := l)
  refine List.ext_getElem (by simp [bindPl]) fun j h1 h2 => ?_
  have hjl : j < l.length := by simpa [bindPl] using h1
  rw [List.getElem_set, bindPl_at]
  by_cases e : i = j
  · subst e
    rw [if_pos rfl, slotPl_place hjl (by rw [o.place hjl]; simpa using hi) (by simp; omega)]
    simp
  · rw [if_neg e, bindPl_at]
    cases hp : byPlace l[j] with
    | true =>
      by_cases h3 : j < i
      · rw [slotPl_place hjl hp (by simp; omega), slotPl_place hjl hp (by simp; omega)]
        simp
      · rw [slotPl_none hjl hp (by simp; omega), slotPl_none hjl hp (by simp; omega)]
    | false =>
      rw [o.place hjl] at hp
      have hp2 := of_decide_eq_false hp
      rw [← o.place hjl] at hp
      by_cases hk : l[j].kind = 2
      · rw [slotPl_rest hjl hk, slotPl_rest hjl hk, List.drop_eq_nil_of_le (by simp; omega), List.drop_eq_nil_of_le (by simp; omega)]
      · rw [slotPl_else hjl hp hk, slotPl_else hjl hp hk]
theorem bindPl_rest {l : List Param} {pl : List Int} {i : Nat} (o : Ord l) (hi : ¬ i < places l) (hj : i < pl.length) (hr : hasRest l = true) (hb : places l < (bindPl l (pl.take i)).length) :
    bindPl l (pl.take (i + 1)) = (bindPl l (pl.take i)).set (places l) { (bindPl l (pl.take i))[places l] with list := (bindPl l (pl.take i))[places l].list ++ [pl[i]] } := by
  obtain ⟨h0, hk0, _⟩ := o.rest_at hr
  refine List.ext_getElem (by simp [bindPl]) fun j h1 h2 => ?_
  have hjl : j < l.length := by simpa [bindPl] using h1
  rw [List.getElem_set]
  by_cases e : places l = j
  · subst e
    rw [if_pos rfl]
    simp only [bindPl_at]
    rw [slotPl_rest hjl hk0, slotPl_rest hjl hk0]
    simp only [Slot.mk.injEq, true_and, and_true]
    rw [List.take_succ_eq_append_getElem hj, List.drop_append_of_le_length (by simp; omega)]
  · rw [if_neg e, bindPl_at, bindPl_at]
    cases hp : byPlace l[j] with
    | true =>
      have hp2 := hp
      rw [o.place hjl] at hp2
      have hp2 := of_decide_eq_true hp2
      by_cases h3 : j < i
      · rw [slotPl_place hjl hp (by simp; omega), slotPl_place hjl hp (by simp; omega)]
        simp
      · omega
    | false =>
      by_cases hk : l[j].kind = 2
      · exact absurd (o.rest hjl hk).1.symm e
      · rw [slotPl_else hjl hp hk, slotPl_else hjl hp hk]
theorem bindPl_over {l : List Param} {pl : List Int} {i : Nat} (o : Ord l) (hi : ¬ i < places l) (hj : i < pl.length) (hr : hasRest l = false) : bindPl l (pl.take (i + 1)) = bindPl l (pl.take i) := by
  refine List.ext_getElem (by simp [bindPl]) fun j h1 h2 => ?_
  have hjl : j < l.length := by simpa [bindPl] using h1
  rw [bindPl_at, bindPl_at]
  cases hp : byPlace l[j] with
  | true =>
    have hp2 := hp
    rw [o.place hjl] at hp2
    have hp2 := of_decide_eq_true hp2
    rw [slotPl_place hjl hp (by simp; omega), slotPl_place hjl hp (by simp; omega)]
    simp
  | false => rw [slotPl_else hjl hp (o.no_rest hr hjl), slotPl_else hjl hp (o.no_rest hr hjl)]

/-! ### values with names -/
structure BSt where
  slots : List Slot
  bad : List Problem
def nameStep (l : List Param) (st : BSt) (p : Pair) : BSt :=
  if takes l p.name < 0 then ⟨st.slots, st.bad ++ [⟨1, p.name⟩]⟩
  else match l[(takes l p.name).toNat]?, st.slots[(takes l p.name).toNat]? with
    | some q, some s =>
      if q.kind = 4 then ⟨st.slots.set (takes l p.name).toNat { s with pairs := s.pairs ++ [p] }, st.bad⟩
      else if s.given = true then ⟨st.slots, st.bad ++ [⟨2, p.name⟩]⟩
      else ⟨st.slots.set (takes l p.name).toNat (givenS p.value), st.bad⟩
    | _, _ => st
def nameF (l : List Param) (f : Flat) (i : Nat) : BSt := (f.nl.take i).foldl (nameStep l) ⟨bindPl l f.pl, manyB l f.pl⟩
theorem nameF_zero {l : List Param} {f : Flat} : nameF l f 0 = ⟨bindPl l f.pl, manyB l f.pl⟩ := by simp [nameF]
theorem nameF_next {l : List Param} {f : Flat} {i : Nat} (hi : i < f.nl.length) : nameF l f (i + 1) = nameStep l (nameF l f i) f.nl[i] := by
  unfold nameF
  rw [List.take_succ_eq_append_getElem hi, List.foldl_append]
  rfl
theorem takes_lt {l : List Param} {s : ByteArray} : takes l s < l.length := by
  unfold takes
  split
  · split
    · exact idx_lt
    · exact idx_lt
  · exact idx_lt
theorem nameStep_no {l : List Param} {st : BSt} {p : Pair} (h : takes l p.name = -1) : nameStep l st p = ⟨st.slots, st.bad ++ [⟨1, p.name⟩]⟩ := by
  unfold nameStep
  rw [if_pos (by omega)]
theorem nameStep_map {l : List Param} {st : BSt} {p : Pair} {j : Nat} (h : takes l p.name = j) (hj : j < l.length) (hs : j < st.slots.length) (k : l[j].kind = 4) : nameStep l st p = ⟨st.slots.set j { st.slots[j] with pairs := st.slots[j].pairs ++ [p] }, st.bad⟩ := by
  unfold nameStep
  rw [if_neg (by omega), h]
  simp only [Int.toNat_natCast]
  rw [List.getElem?_eq_getElem hj, List.getElem?_eq_getElem hs]
  simp only
  rw [if_pos k]
theorem nameStep_twice {l : List Param} {st : BSt} {p : Pair} {j : Nat} (h : takes l p.name = j) (hj : j < l.length) (hs : j < st.slots.length) (k : ¬ l[j].kind = 4) (g : st.slots[j].given = true) : nameStep l st p = ⟨st.slots, st.bad ++ [⟨2, p.name⟩]⟩ := by
  unfold nameStep
  rw [if_neg (by omega), h]
  simp only [Int.toNat_natCast]
  rw [List.getElem?_eq_getElem hj, List.getElem?_eq_getElem hs]
  simp only
  rw [if_neg k, if_pos g]
theorem nameStep_give {l : List Param} {st : BSt} {p : Pair} {j : Nat} (h : takes l p.name = j) (hj : j < l.length) (hs : j < st.slots.length) (k : ¬ l[j].kind = 4) (g : st.slots[j].given = false) : nameStep l st p = ⟨st.slots.set j (givenS p.value), st.bad⟩ := by
  unfold nameStep
  rw [if_neg (by omega), h]
  simp only [Int.toNat_natCast]
  rw [List.getElem?_eq_getElem hj, List.getElem?_eq_getElem hs]
  simp only
  rw [if_neg k, if_neg (by simp [g])]
theorem takes_cases (l : List Param) (s : ByteArray) : takes l s = -1 ∨ ∃ j, ∃ hj : j < l.length, takes l s = j := by
  have h1 := takes_lt (l := l) (s := s)
  have h2 : -1 ≤ takes l s := by
    unfold takes
    split
    · split
      · exact idx_ge
      · exact idx_ge
    · exact idx_ge
  by_cases h : takes l s = -1
  · exact .inl h
  · exact .inr ⟨(takes l s).toNat, by omega, by omega⟩
/-- What stays true of the slots. -/
structure BOk (l : List Param) (b : Nat) (n : Nat) (st : BSt) : Prop where
  len : st.slots.length = l.length
  list : ∀ s ∈ st.slots, s.list.length ≤ b + 1
  pairs : ∀ s ∈ st.slots, s.pairs.length ≤ n
  bad : st.bad.length ≤ n + 1
  one : ∀ s ∈ st.slots, s.given = true → s.list.length = 1
  nm : ∀ s ∈ st.slots, ∀ x ∈ s.pairs, x.name.size ≤ 6
theorem BOk.zero {l : List Param} {f : Flat} : BOk l f.pl.length 0 ⟨bindPl l f.pl, manyB l f.pl⟩ := by
  refine ⟨bindPl_len, fun s hs => ?_, fun s hs => ?_, ?_, fun s hs => ?_, fun s hs => ?_⟩
  · obtain ⟨i, hi, rfl⟩ := List.mem_map.1 hs
    unfold slotPl
    split
    · split
      · split <;> simp [givenS, zeroS]
      · split <;> simp [zeroS] <;> omega
    · simp [zeroS]
  · obtain ⟨i, hi, rfl⟩ := List.mem_map.1 hs
    unfold slotPl
    split
    · split
      · split <;> simp [givenS, zeroS]
      · split <;> simp [zeroS]
    · simp [zeroS]
  · simp only [manyB]
    split <;> simp
  · obtain ⟨i, hi, rfl⟩ := List.mem_map.1 hs
    unfold slotPl
    split
    · split
      · split <;> simp [givenS, zeroS]
      · split <;> simp [zeroS]
    · simp [zeroS]
  · obtain ⟨i, hi, rfl⟩ := List.mem_map.1 hs
    unfold slotPl
    split
    · split
      · split <;> simp [givenS, zeroS]
      · split <;> simp [zeroS]
    · simp [zeroS]
theorem BOk.next {l : List Param} {b n : Nat} {st : BSt} (h : BOk l b n st) (p : Pair) (hp : p.name.size ≤ 6) : BOk l b (n + 1) (nameStep l st p) := by
  have up : BOk l b (n + 1) st := ⟨h.len, h.list, fun s hs => Nat.le_succ_of_le (h.pairs s hs), Nat.le_succ_of_le h.bad, h.one, h.nm⟩
  rcases takes_cases l p.name with e | ⟨j, hj, e⟩
  · rw [nameStep_no e]
    exact ⟨h.len, h.list, up.pairs, by have := h.bad; simp; omega, h.one, h.nm⟩
  · have hs : j < st.slots.length := by rw [h.len]; exact hj
    by_cases k : l[j].kind = 4
    · rw [nameStep_map e hj hs k]
      refine ⟨by simp [h.len], fun s hx => ?_, fun s hx => ?_, up.bad, fun s hx => ?_, fun s hx => ?_⟩
      · rcases List.mem_or_eq_of_mem_set hx with hx | rfl
        · exact h.list s hx
        · have := h.list _ (List.getElem_mem hs)
          exact this
      · rcases List.mem_or_eq_of_mem_set hx with hx | rfl
        · exact up.pairs s hx
        · have := h.pairs _ (List.getElem_mem hs)
          simp
          exact this
      · rcases List.mem_or_eq_of_mem_set hx with hx | rfl
        · exact h.one s hx
        · have := h.one _ (List.getElem_mem hs)
          exact this
      · rcases List.mem_or_eq_of_mem_set hx with hx | rfl
        · exact h.nm s hx
        · intro x hx
          rcases List.mem_append.1 hx with hx | hx
          · exact h.nm _ (List.getElem_mem hs) x hx
          · obtain rfl := List.mem_singleton.1 hx
            exact hp
    · cases g : st.slots[j].given with
      | true =>
        rw [nameStep_twice e hj hs k g]
        exact ⟨h.len, h.list, up.pairs, by have := h.bad; simp; omega, h.one, h.nm⟩
      | false =>
        rw [nameStep_give e hj hs k g]
        refine ⟨by simp [h.len], fun s hx => ?_, fun s hx => ?_, up.bad, fun s hx => ?_, fun s hx => ?_⟩
        · rcases List.mem_or_eq_of_mem_set hx with hx | rfl
          · exact h.list s hx
          · simp [givenS]
        · rcases List.mem_or_eq_of_mem_set hx with hx | rfl
          · exact up.pairs s hx
          · simp [givenS]
        · rcases List.mem_or_eq_of_mem_set hx with hx | rfl
          · exact h.one s hx
          · simp [givenS]
        · rcases List.mem_or_eq_of_mem_set hx with hx | rfl
          · exact h.nm s hx
          · simp [givenS]
theorem BOk.nameF {l : List Param} {f : Flat} (hf : ∀ x ∈ f.nl, x.name.size ≤ 6) : ∀ {i : Nat}, i ≤ f.nl.length → BOk l f.pl.length i (nameF l f i)
  | 0, _ => by rw [nameF_zero]; exact .zero
  | i + 1, hi => by
    rw [nameF_next (by omega)]
    exact (BOk.nameF hf (by omega)).next _ (hf _ (List.getElem_mem _))

/-! ### what is missing -/
def lacks (l : List Param) (sl : List Slot) (i : Nat) : Bool :=
  match l[i]?, sl[i]? with
  | some p, some s => single p && (!p.has && !s.given)
  | _, _ => false
theorem lacks_eq {l : List Param} {sl : List Slot} {i : Nat} (hi : i < l.length) (hs : i < sl.length) : lacks l sl i = (single l[i] && (!l[i].has && !sl[i].given)) := by
  unfold lacks
  rw [List.getElem?_eq_getElem hi, List.getElem?_eq_getElem hs]
def missF (l : List Param) (sl : List Slot) (i : Nat) : List Problem := ((List.range i).filter (lacks l sl)).map fun j => ⟨3, (l[j]?.getD ⟨strOfNums [], 0, false, 0⟩).name⟩
theorem missF_zero {l : List Param} {sl : List Slot} : missF l sl 0 = [] := rfl
theorem missF_next {l : List Param} {sl : List Slot} {i : Nat} (hi : i < l.length) : missF l sl (i + 1) = missF l sl i ++ if lacks l sl i = true then [⟨3, l[i].name⟩] else [] := by
  unfold missF
  rw [List.range_succ, List.filter_append, List.map_append]
  congr 1
  cases b : lacks l sl i <;> simp [List.filter, b, List.getElem?_eq_getElem hi]
theorem missF_len {l : List Param} {sl : List Slot} {i : Nat} : (missF l sl i).length ≤ i := by
  unfold missF
  rw [List.length_map]
  exact Nat.le_trans (List.length_filter_le _ _) (by simp)
def boundS (l : List Param) (f : Flat) : List Slot := (nameF l f f.nl.length).slots
def boundB (l : List Param) (f : Flat) : List Problem := (nameF l f f.nl.length).bad
def missing (l : List Param) (sl : List Slot) : List Problem := missF l sl l.length
def wrong (l : List Param) (f : Flat) : List Problem := boundB l f ++ missing l (boundS l f)
def fits (l : List Param) (f : Flat) : Bool := okSig l && okFlat f
def acceptsF (l : List Param) (f : Flat) : Bool := fits l f && (wrong l f).isEmpty
def bindF (l : List Param) (f : Flat) : List Slot := if acceptsF l f = true then boundS l f else []
def problemsF (l : List Param) (f : Flat) : List Problem := if fits l f = true then wrong l f else []
def partOk (l : List Param) (f : Flat) : Bool := fits l f && (boundB l f).isEmpty
def bindPartF (l : List Param) (f : Flat) : List Slot := if partOk l f = true then boundS l f else []
theorem nameStep_len {l : List Param} {st : BSt} {p : Pair} : (nameStep l st p).slots.length = st.slots.length := by
  unfold nameStep
  split
  · rfl
  · split
    · split
      · simp
      · split
        · rfl
        · simp
    · rfl
theorem boundS_len {l : List Param} {f : Flat} : (boundS l f).length = l.length := by
  have : ∀ i, i ≤ f.nl.length → (nameF l f i).slots.length = l.length := by
    intro i
    induction i with
    | zero => intro _; rw [nameF_zero]; exact bindPl_len
    | succ i ih => intro hi; rw [nameF_next (by omega), nameStep_len, ih (by omega)]
  exact this _ (Nat.le_refl _)
theorem bound_ok {l : List Param} {f : Flat} (ok2 : okFlat f = true) : BOk l f.pl.length f.nl.length ⟨boundS l f, boundB l f⟩ := BOk.nameF (okFlat_sm ok2).2.2 (Nat.le_refl _)
theorem bound_not3 {l : List Param} {f : Flat} : ∀ x ∈ boundB l f, ¬ x.kind = 3 := by
  have : ∀ i, i ≤ f.nl.length → ∀ x ∈ (nameF l f i).bad, ¬ x.kind = 3 := by
    intro i
    induction i with
    | zero =>
      intro _ x hx
      rw [nameF_zero] at hx
      simp only [manyB] at hx
      split at hx
      · obtain rfl := List.mem_singleton.1 hx; simp
      · simp at hx
    | succ i ih =>
      intro hi x hx
      rw [nameF_next (by omega)] at hx
      unfold nameStep at hx
      split at hx
      · rcases List.mem_append.1 hx with hx | hx
        · exact ih (by omega) x hx
        · obtain rfl := List.mem_singleton.1 hx; simp
      · split at hx
        · split at hx
          · exact ih (by omega) x hx
          · split at hx
            · rcases List.mem_append.1 hx with hx | hx
              · exact ih (by omega) x hx
              · obtain rfl := List.mem_singleton.1 hx; simp
            · exact ih (by omega) x hx
        · exact ih (by omega) x hx
  exact this _ (Nat.le_refl _)
theorem miss_3 {l : List Param} {sl : List Slot} : ∀ x ∈ missing l sl, x.kind = 3 := by
  intro x hx
  obtain ⟨j, _, rfl⟩ := List.mem_map.1 hx
  rfl
/-- Nothing is wrong but what is missing. -/
theorem part_any {l : List Param} {f : Flat} : (wrong l f).any (fun p => !(decide (p.kind = 3))) = !(boundB l f).isEmpty := by
  unfold wrong
  rw [List.any_append]
  have h2 : (missing l (boundS l f)).any (fun p => !(decide (p.kind = 3))) = false := by
    rw [List.any_eq_false]
    intro x hx
    simp [miss_3 x hx]
  rw [h2, Bool.or_false]
  cases e : boundB l f with
  | nil => rfl
  | cons a r =>
    have := bound_not3 (l := l) (f := f) a (by rw [e]; exact List.mem_cons_self)
    simp [this]

/-! ### back to a call -/
structure USt where
  opn : Bool
  pl : List Int
  nl : List Pair
def unStep (p : Param) (s : Slot) (st : USt) : USt :=
  if p.kind = 2 then { st with pl := st.pl ++ s.list }
  else if p.kind = 4 then { st with nl := st.nl ++ s.pairs }
  else if s.given = false then { st with opn := st.opn && !(byPlace p) }
  else if (byPlace p && st.opn) = true then { st with pl := st.pl ++ [s.list.headD 0] }
  else { st with nl := st.nl ++ [⟨p.name, s.list.headD 0⟩] }
def unF (l : List Param) (sl : List Slot) : Nat → USt
  | 0 => ⟨true, [], []⟩
  | i + 1 => match l[i]?, sl[i]? with | some p, some s => unStep p s (unF l sl i) | _, _ => unF l sl i
theorem unF_next {l : List Param} {sl : List Slot} {i : Nat} (hi : i < l.length) (hs : i < sl.length) : unF l sl (i + 1) = unStep l[i] sl[i] (unF l sl i) := by
  rw [unF, List.getElem?_eq_getElem hi, List.getElem?_eq_getElem hs]
/-- Slots that are short. -/
structure SOk (sl : List Slot) : Prop where
  list : ∀ s ∈ sl, s.list.length ≤ 9
  pairs : ∀ s ∈ sl, s.pairs.length ≤ 8
  one : ∀ s ∈ sl, s.given = true → s.list.length = 1
  nm : ∀ s ∈ sl, ∀ x ∈ s.pairs, x.name.size ≤ 6
theorem SOk.bound {l : List Param} {f : Flat} (ok2 : okFlat f = true) : SOk (boundS l f) := by
  have h := bound_ok (l := l) ok2
  obtain ⟨h1, h2, h3⟩ := okFlat_sm ok2
  exact ⟨fun s hs => by have := h.list s hs; omega, fun s hs => by have := h.pairs s hs; omega, h.one, h.nm⟩
structure UOk (i : Nat) (st : USt) : Prop where
  pl : st.pl.length ≤ 9 * i
  nl : st.nl.length ≤ 9 * i
  nm : ∀ x ∈ st.nl, x.name.size ≤ 6
theorem UOk.next {p : Param} {s : Slot} {i : Nat} {st : USt} (h : UOk i st) (hp : p.name.size ≤ 6) (h1 : s.list.length ≤ 9) (h2 : s.pairs.length ≤ 8) (h3 : ∀ x ∈ s.pairs, x.name.size ≤ 6) : UOk (i + 1) (unStep p s st) := by
  have a1 := h.pl
  have a2 := h.nl
  unfold unStep
  split
  · exact ⟨by simp; omega, by simp; omega, h.nm⟩
  · split
    · exact ⟨by simp; omega, by simp; omega, fun x hx => by
        rcases List.mem_append.1 hx with hx | hx
        · exact h.nm x hx
        · exact h3 x hx⟩
    · split
      · exact ⟨by simp; omega, by simp; omega, h.nm⟩
      · split
        · exact ⟨by simp; omega, by simp; omega, h.nm⟩
        · exact ⟨by simp; omega, by simp; omega, fun x hx => by
            rcases List.mem_append.1 hx with hx | hx
            · exact h.nm x hx
            · obtain rfl := List.mem_singleton.1 hx
              exact hp⟩
theorem UOk.unF {l : List Param} {sl : List Slot} (hl : ∀ x ∈ l, x.name.size ≤ 6) (hs : SOk sl) (he : sl.length = l.length) : ∀ {i : Nat}, i ≤ l.length → UOk i (unF l sl i)
  | 0, _ => ⟨by simp [Am.unF], by simp [Am.unF], fun x hx => by simp [Am.unF] at hx⟩
  | i + 1, hi => by
    rw [unF_next (by omega) (by omega)]
    exact (UOk.unF hl hs he (by omega)).next (hl _ (List.getElem_mem _)) (hs.list _ (List.getElem_mem _)) (hs.pairs _ (List.getElem_mem _)) (hs.nm _ (List.getElem_mem _))
def unbF (l : List Param) (sl : List Slot) : Flat := ⟨(unF l sl l.length).pl, (unF l sl l.length).nl⟩
def canonF (l : List Param) (f : Flat) : Flat := if acceptsF l f = true then unbF l (boundS l f) else ⟨[], []⟩
theorem fits_ok {l : List Param} {f : Flat} (h : fits l f = true) : okSig l = true ∧ okFlat f = true := by
  unfold fits at h
  simpa using h
theorem accepts_fits {l : List Param} {f : Flat} (h : acceptsF l f = true) : fits l f = true := by
  unfold acceptsF at h
  rw [Bool.and_eq_true] at h
  exact h.1
theorem miniF.canon {l : List Param} {f : Flat} : miniF (canonF l f) := by
  unfold canonF
  split
  · rename_i h
    obtain ⟨ok1, ok2⟩ := fits_ok (accepts_fits h)
    have u := UOk.unF (okSig_name ok1) (SOk.bound (l := l) ok2) boundS_len (Nat.le_refl _)
    have hn := okSig_len ok1
    exact ⟨by have := u.pl; unfold unbF; simp only; omega, by have := u.nl; unfold unbF; simp only; omega, fun x hx => by have := u.nm x hx; omega⟩
  · exact .nil
theorem head_one {l : List Int} (h : l.length = 1) : l = [l.headD 0] := by
  match l, h with
  | [x], _ => rfl
theorem head_at {l : List Int} (h : l.length = 1) (hz : 0 < l.length) : l[0] = l.headD 0 := by
  match l, h with
  | [x], _ => rfl
theorem single_iff {p : Param} (h : 0 ≤ p.kind ∧ p.kind ≤ 4) (h2 : ¬ p.kind = 2) (h4 : ¬ p.kind = 4) : single p = true := by
  have : p.kind = 0 ∨ p.kind = 1 ∨ p.kind = 3 := by omega
  unfold single byPlace byName
  rcases this with e | e | e <;> simp [e]
end Go.Proofs.YtoeceafibmafpaaDoor.Am
