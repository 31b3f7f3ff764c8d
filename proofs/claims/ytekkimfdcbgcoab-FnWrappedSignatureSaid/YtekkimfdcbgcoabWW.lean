/- Plain facts: what the signature of a wrapper accepts. -/
import Derived.Test.YtekkimfdcbgcoabWQ
namespace Go.Proofs.Ytekkimfdcbgcoab.Am
open Go
/-- What is accepted, part by part. -/
structure AccP (P N : List Param) (r m : Prop) (n : Nat) (nl : List Pair) : Prop where
  many : n ≤ P.length ∨ r
  bad : ∀ p ∈ nl, (∃ j, ∃ hj : j < P.length, byName P[j] = true ∧ P[j].name = p.name ∧ ¬ j < n) ∨ (∃ q ∈ N, q.name = p.name) ∨ ((∀ q ∈ P, byName q = true → q.name ≠ p.name) ∧ (∀ q ∈ N, q.name ≠ p.name) ∧ m)
  place : ∀ j (hj : j < P.length), P[j].has = false → j < n ∨ (byName P[j] = true ∧ ∃ p ∈ nl, p.name = P[j].name)
  name : ∀ q ∈ N, q.has = false → ∃ p ∈ nl, p.name = q.name
theorem ofK_place {l : List Param} (o : Ord l) : ofK l 0 1 = l.take (places l) := by
  have e : l = l.take (places l) ++ l.drop (places l) := (List.take_append_drop _ _).symm
  unfold ofK
  conv => lhs; rw [e]
  rw [List.filter_append]
  have h1 : (l.take (places l)).filter (fun p => decide (p.kind = 0) || decide (p.kind = 1)) = l.take (places l) := List.filter_eq_self.2 fun a ha => by
    rw [List.mem_take_iff_getElem] at ha
    obtain ⟨i, hi, rfl⟩ := ha
    have := o.place (show i < l.length by omega)
    rw [decide_eq_true (show i < places l by omega)] at this
    exact this
  have h2 : (l.drop (places l)).filter (fun p => decide (p.kind = 0) || decide (p.kind = 1)) = [] := List.filter_eq_nil_iff.2 fun a ha => by
    obtain ⟨i, hi, rfl⟩ := List.getElem_of_mem ha
    rw [List.length_drop] at hi
    rw [List.getElem_drop]
    have := o.place (show places l + i < l.length by omega)
    rw [decide_eq_false (show ¬ places l + i < places l by omega)] at this
    have e : (decide (l[places l + i].kind = 0) || decide (l[places l + i].kind = 1)) = false := this
    rw [e]
    simp
  rw [h1, h2, List.append_nil]
theorem mem_three {l : List Param} {q : Param} : q ∈ ofK l 3 3 ↔ q ∈ l ∧ q.kind = 3 := by
  unfold ofK
  rw [List.mem_filter]
  simp
theorem place_len {l : List Param} (o : Ord l) : (ofK l 0 1).length = places l := by
  rw [ofK_place o, List.length_take]
  have := places_le (l := l)
  omega
theorem place_at {l : List Param} (o : Ord l) {j : Nat} (hj : j < (ofK l 0 1).length) : ∃ hl : j < l.length, (ofK l 0 1)[j] = l[j] ∧ byPlace l[j] = true := by
  have hp := place_len o
  have hle := places_le (l := l)
  have hl : j < l.length := by omega
  refine ⟨hl, ?_, ?_⟩
  · simp only [ofK_place o, List.getElem_take]
  · rw [o.place hl]; exact decide_eq_true (by omega)
theorem place_in {l : List Param} (o : Ord l) {j : Nat} (hj : j < l.length) (hb : byPlace l[j] = true) : ∃ hl : j < (ofK l 0 1).length, (ofK l 0 1)[j] = l[j] := by
  have hp := place_len o
  rw [o.place hj] at hb
  have := of_decide_eq_true hb
  have hl : j < (ofK l 0 1).length := by omega
  exact ⟨hl, (place_at o hl).2.1⟩
/-- No parameter takes the name. -/
def NoName (l : List Param) (s : ByteArray) : Prop := (∀ q ∈ ofK l 0 1, byName q = true → q.name ≠ s) ∧ ∀ q ∈ ofK l 3 3, q.name ≠ s
theorem NoName.at {l : List Param} (o : Ord l) {s : ByteArray} (h : NoName l s) {i : Nat} (hi : i < l.length) (e : l[i].name = s) : byName l[i] = false := by
  cases b : byName l[i] with
  | false => rfl
  | true =>
    exfalso
    have hk : l[i].kind = 1 ∨ l[i].kind = 3 := by simpa [byName] using b
    rcases hk with k | k
    · obtain ⟨hl, e2⟩ := place_in o hi (by simp [byPlace, k])
      exact h.1 _ (List.getElem_mem hl) (by rw [e2]; exact b) (by rw [e2]; exact e)
    · exact h.2 _ (mem_three.2 ⟨List.getElem_mem hi, k⟩) e
theorem noName_of {l : List Param} (_o : Ord l) {s : ByteArray} (h : ∀ i (hi : i < l.length), l[i].name = s → byName l[i] = false) : NoName l s := by
  refine ⟨fun q hq hb e => ?_, fun q hq e => ?_⟩
  · have hq : q ∈ l := (List.mem_filter.1 hq).1
    obtain ⟨i, hi, rfl⟩ := List.getElem_of_mem hq
    have := h i hi e
    rw [hb] at this
    simp at this
  · obtain ⟨hq, k⟩ := mem_three.1 hq
    obtain ⟨i, hi, rfl⟩ := List.getElem_of_mem hq
    have := h i hi e
    simp [byName, k] at this
theorem takes_no {l : List Param} (o : Ord l) (hm : hasMap l = true) {s : ByteArray} : takes l s = mapIx l ↔ NoName l s := by
  obtain ⟨m1, m2, m3⟩ := map_ix hm
  constructor
  · intro e
    refine noName_of o fun i hi hs => takes_four m1 e m2 hi ?_
    rw [← hs]
    exact param_self o hi
  · intro h
    rcases idx_cases (fun p : Param => decide (p.name = s)) l with e | ⟨j, hj, e, hs⟩
    · have e : paramAt l s = -1 := e
      rw [takes_none e, m3]
    · have e : paramAt l s = j := e
      rw [takes_some hj e, if_neg (by simp [h.at o hj (of_decide_eq_true hs)]), m3]
theorem bad_parts {l : List Param} (o : Ord l) {n : Nat} {p : Pair} : badOf l n p = none ↔ (∃ j, ∃ hj : j < (ofK l 0 1).length, byName (ofK l 0 1)[j] = true ∧ (ofK l 0 1)[j].name = p.name ∧ ¬ j < n) ∨ (∃ q ∈ ofK l 3 3, q.name = p.name) ∨ ((∀ q ∈ ofK l 0 1, byName q = true → q.name ≠ p.name) ∧ (∀ q ∈ ofK l 3 3, q.name ≠ p.name) ∧ hasMap l = true) := by
  rw [badOf_none]
  constructor
  · rintro ⟨j, hj, e, h⟩
    by_cases k4 : l[j].kind = 4
    · have e4 := o.map hj k4
      have hm : hasMap l = true := by unfold hasMap; rw [e4]; exact decide_eq_true (by omega)
      have ej : takes l p.name = mapIx l := by rw [e]; unfold mapIx; rw [e4]; simp
      have := (takes_no o hm).1 ej
      exact .inr (.inr ⟨this.1, this.2, hm⟩)
    · obtain ⟨hb, hs⟩ := takes_inv hj e k4
      have hk : l[j].kind = 1 ∨ l[j].kind = 3 := by simpa [byName] using hb
      rcases hk with k | k
      · have hp : byPlace l[j] = true := by simp [byPlace, k]
        obtain ⟨hl, e2⟩ := place_in o hj hp
        refine .inl ⟨j, hl, by rw [e2]; exact hb, by rw [e2]; exact hs, fun hn => ?_⟩
        rcases h with h | h
        · exact k4 h
        · exact h ⟨hp, hn⟩
      · exact .inr (.inl ⟨l[j], mem_three.2 ⟨List.getElem_mem hj, k⟩, hs⟩)
  · rintro (⟨j, hj, hb, hs, hn⟩ | ⟨q, hq, hs⟩ | ⟨h1, h2, hm⟩)
    · obtain ⟨hl, e2, _⟩ := place_at o hj
      rw [e2] at hb hs
      exact ⟨j, hl, by rw [← hs]; exact takes_self o hl hb, .inr fun h => hn h.2⟩
    · obtain ⟨hq, k⟩ := mem_three.1 hq
      obtain ⟨i, hi, rfl⟩ := List.getElem_of_mem hq
      exact ⟨i, hi, by rw [← hs]; exact takes_self o hi (by simp [byName, k]), .inr fun h => by simp [byPlace, k] at h⟩
    · obtain ⟨m1, m2, _⟩ := map_ix hm
      exact ⟨mapIx l, m1, (takes_no o hm).2 ⟨h1, h2⟩, .inl m2⟩
theorem lack_parts {l : List Param} (o : Ord l) {f : Flat} : lackL l f = [] ↔ (∀ j (hj : j < (ofK l 0 1).length), (ofK l 0 1)[j].has = false → j < f.pl.length ∨ (byName (ofK l 0 1)[j] = true ∧ ∃ p ∈ f.nl, p.name = (ofK l 0 1)[j].name)) ∧ ∀ q ∈ ofK l 3 3, q.has = false → ∃ p ∈ f.nl, p.name = q.name := by
  unfold lackL
  rw [List.map_eq_nil_iff, List.filter_eq_nil_iff]
  constructor
  · intro h
    have hj : ∀ j (hj : j < l.length), single l[j] = true → l[j].has = false → (byPlace l[j] = true ∧ j < f.pl.length) ∨ (byName l[j] = true ∧ ∃ p ∈ f.nl, p.name = l[j].name) := fun j hj hs hh => by
      have := h j (List.mem_range.2 hj)
      rw [lackB_at hj, hs, hh, gotB_at hj] at this
      by_cases c : byPlace l[j] = true ∧ j < f.pl.length
      · exact .inl c
      · refine .inr ?_
        have c2 : (byPlace l[j] && decide (j < f.pl.length)) = false := by
          rw [Bool.and_eq_false_imp]
          exact fun h => decide_eq_false fun h2 => c ⟨h, h2⟩
        rw [c2] at this
        simpa using this
    refine ⟨fun j hj2 hh => ?_, fun q hq hh => ?_⟩
    · obtain ⟨hl, e2, hp⟩ := place_at o hj2
      rw [e2] at hh ⊢
      rcases hj j hl (by simp [single, hp]) hh with c | c
      · exact .inl c.2
      · exact .inr c
    · obtain ⟨hq, k⟩ := mem_three.1 hq
      obtain ⟨i, hi, rfl⟩ := List.getElem_of_mem hq
      rcases hj i hi (by simp [single, byName, k]) hh with c | c
      · simp [byPlace, k] at c
      · exact c.2
  · rintro ⟨h1, h2⟩ j hj
    have hj := List.mem_range.1 hj
    rw [lackB_at hj, gotB_at hj]
    intro hc
    simp only [Bool.and_eq_true, Bool.not_eq_true', Bool.or_eq_false_iff, Bool.and_eq_false_imp, decide_eq_false_iff_not] at hc
    obtain ⟨hs, hh, c1, c2⟩ := hc
    have hk : byPlace l[j] = true ∨ l[j].kind = 3 := by
      rw [single_eq] at hs
      simpa using hs
    rcases hk with k | k
    · obtain ⟨hl, e2⟩ := place_in o hj k
      rcases h1 j hl (by rw [e2]; exact hh) with c | ⟨c, p, hp, e⟩
      · exact c1 k c
      · rw [e2] at c e
        have := List.any_eq_false.1 (c2 c) p hp
        simp [e] at this
    · obtain ⟨p, hp, e⟩ := h2 l[j] (mem_three.2 ⟨List.getElem_mem hj, k⟩) hh
      have := List.any_eq_false.1 (c2 (by simp [byName, k])) p hp
      simp [e] at this
theorem acc_iff {l : List Param} {f : Flat} (ok1 : okSig l = true) (ok2 : okFlat f = true) : acceptsF l f = true ↔ AccP (ofK l 0 1) (ofK l 3 3) (hasRest l = true) (hasMap l = true) f.pl.length f.nl := by
  have o := Ord.of ok1
  unfold acceptsF fits
  rw [ok1, ok2, Bool.and_self, Bool.true_and, List.isEmpty_iff, wrong_is ok1 ok2, List.append_eq_nil_iff, List.append_eq_nil_iff, badAll_nil, lack_parts o, manyB_nil]
  constructor
  · rintro ⟨⟨h1, h2⟩, h3, h4⟩
    refine ⟨?_, fun p hp => (bad_parts o).1 (h2 p hp), h3, h4⟩
    rw [place_len o]
    cases c : hasRest l with
    | true => exact .inr rfl
    | false => exact .inl (Nat.le_of_not_lt fun d => h1 ⟨d, c⟩)
  · intro h
    refine ⟨⟨?_, fun p hp => (bad_parts o).2 (h.bad p hp)⟩, h.place, h.name⟩
    rintro ⟨a, b⟩
    have := h.many
    rw [place_len o, b] at this
    rcases this with c | c
    · omega
    · simp at c
/-! ### of two signatures -/
section
variable {PA PB NA NB : List Param} {r m : Prop} {n : Nat} {nl gl : List Pair}
theorem AccP.left (h1 : ∀ x ∈ PA, ∀ y ∈ PB, x.name ≠ y.name) (h2 : ∀ x ∈ PA, ∀ y ∈ NB, x.name ≠ y.name) (h3 : ∀ x ∈ NA, ∀ y ∈ PB, x.name ≠ y.name) (h4 : ∀ x ∈ NA, ∀ y ∈ NB, x.name ≠ y.name) (h : AccP (PA ++ PB) (NA ++ NB) r m n nl) : AccP PA NA True True n nl := by
  refine ⟨.inr trivial, fun p hp => ?_, fun j hj hh => ?_, fun q hq hh => h.name q (List.mem_append_left _ hq) hh⟩
  · rcases h.bad p hp with ⟨j, hj, hb, hs, hn⟩ | ⟨q, hq, hs⟩ | ⟨c1, c2, _⟩
    · by_cases c : j < PA.length
      · rw [List.getElem_append_left c] at hb hs
        exact .inl ⟨j, c, hb, hs, hn⟩
      · rw [List.getElem_append_right (by omega)] at hb hs
        have hm : PB[j - PA.length]'(by simp at hj; omega) ∈ PB := List.getElem_mem _
        exact .inr (.inr ⟨fun q hq _ e => h1 q hq _ hm (e.trans hs.symm), fun q hq e => h3 q hq _ hm (e.trans hs.symm), trivial⟩)
    · rcases List.mem_append.1 hq with hq | hq
      · exact .inr (.inl ⟨q, hq, hs⟩)
      · exact .inr (.inr ⟨fun x hx _ e => h2 x hx q hq (e.trans hs.symm), fun x hx e => h4 x hx q hq (e.trans hs.symm), trivial⟩)
    · exact .inr (.inr ⟨fun q hq => c1 q (List.mem_append_left _ hq), fun q hq => c2 q (List.mem_append_left _ hq), trivial⟩)
  · have := h.place j (by simp; omega)
    rw [List.getElem_append_left hj] at this
    exact this hh
theorem AccP.right (h1 : ∀ x ∈ PA, ∀ y ∈ PB, x.name ≠ y.name) (h2 : ∀ x ∈ PA, ∀ y ∈ NB, x.name ≠ y.name) (h3 : ∀ x ∈ NA, ∀ y ∈ PB, x.name ≠ y.name) (h4 : ∀ x ∈ NA, ∀ y ∈ NB, x.name ≠ y.name)
    (hg : ∀ p, p ∈ gl ↔ p ∈ nl ∧ (∀ q ∈ PA, byName q = true → q.name ≠ p.name) ∧ ∀ q ∈ NA, q.name ≠ p.name) (h : AccP (PA ++ PB) (NA ++ NB) r m n nl) : AccP PB NB r m (n - PA.length) gl := by
  refine ⟨?_, fun p hp => ?_, fun j hj hh => ?_, fun q hq hh => ?_⟩
  · rcases h.many with c | c
    · rw [List.length_append] at c; exact .inl (by omega)
    · exact .inr c
  · obtain ⟨hp, n1, n2⟩ := (hg p).1 hp
    rcases h.bad p hp with ⟨j, hj, hb, hs, hn⟩ | ⟨q, hq, hs⟩ | ⟨c1, c2, c3⟩
    · by_cases c : j < PA.length
      · rw [List.getElem_append_left c] at hb hs
        exact absurd hs (n1 _ (List.getElem_mem c) hb)
      · rw [List.getElem_append_right (by omega)] at hb hs
        exact .inl ⟨j - PA.length, by simp at hj; omega, hb, hs, by omega⟩
    · rcases List.mem_append.1 hq with hq | hq
      · exact absurd hs (n2 q hq)
      · exact .inr (.inl ⟨q, hq, hs⟩)
    · exact .inr (.inr ⟨fun q hq => c1 q (List.mem_append_right _ hq), fun q hq => c2 q (List.mem_append_right _ hq), c3⟩)
  · have := h.place (PA.length + j) (by simp; omega)
    rw [List.getElem_append_right (by omega)] at this
    simp only [Nat.add_sub_cancel_left] at this
    rcases this hh with c | ⟨c, p, hp, e⟩
    · exact .inl (by omega)
    · exact .inr ⟨c, p, (hg p).2 ⟨hp, fun q hq _ e2 => h1 q hq _ (List.getElem_mem hj) (e2.trans e), fun q hq e2 => h3 q hq _ (List.getElem_mem hj) (e2.trans e)⟩, e⟩
  · obtain ⟨p, hp, e⟩ := h.name q (List.mem_append_right _ hq) hh
    exact ⟨p, (hg p).2 ⟨hp, fun x hx _ e2 => h2 x hx q hq (e2.trans e), fun x hx e2 => h4 x hx q hq (e2.trans e)⟩, e⟩
theorem AccP.both (hg : ∀ p, p ∈ gl ↔ p ∈ nl ∧ (∀ q ∈ PA, byName q = true → q.name ≠ p.name) ∧ ∀ q ∈ NA, q.name ≠ p.name) (ha : AccP PA NA True True n nl) (hb : AccP PB NB r m (n - PA.length) gl) : AccP (PA ++ PB) (NA ++ NB) r m n nl := by
  refine ⟨?_, fun p hp => ?_, fun j hj hh => ?_, fun q hq hh => ?_⟩
  · rcases hb.many with c | c
    · exact .inl (by rw [List.length_append]; omega)
    · exact .inr c
  · rcases ha.bad p hp with ⟨j, hj, h1, h2, h3⟩ | ⟨q, hq, hs⟩ | ⟨n1, n2, _⟩
    · exact .inl ⟨j, by simp; omega, by rw [List.getElem_append_left hj]; exact h1, by rw [List.getElem_append_left hj]; exact h2, h3⟩
    · exact .inr (.inl ⟨q, List.mem_append_left _ hq, hs⟩)
    · rcases hb.bad p ((hg p).2 ⟨hp, n1, n2⟩) with ⟨j, hj, h1, h2, h3⟩ | ⟨q, hq, hs⟩ | ⟨c1, c2, c3⟩
      · have e : (PA ++ PB)[PA.length + j]'(by simp; omega) = PB[j] := by rw [List.getElem_append_right (by omega)]; simp only [Nat.add_sub_cancel_left]
        exact .inl ⟨PA.length + j, by simp; omega, by rw [e]; exact h1, by rw [e]; exact h2, by omega⟩
      · exact .inr (.inl ⟨q, List.mem_append_right _ hq, hs⟩)
      · refine .inr (.inr ⟨fun q hq => ?_, fun q hq => ?_, c3⟩)
        · rcases List.mem_append.1 hq with hq | hq
          · exact n1 q hq
          · exact c1 q hq
        · rcases List.mem_append.1 hq with hq | hq
          · exact n2 q hq
          · exact c2 q hq
  · by_cases c : j < PA.length
    · rw [List.getElem_append_left c] at hh ⊢
      exact ha.place j c hh
    · rw [List.getElem_append_right (by omega)] at hh ⊢
      rcases hb.place (j - PA.length) (by simp at hj; omega) hh with c2 | ⟨c2, p, hp, e⟩
      · exact .inl (by omega)
      · exact .inr ⟨c2, p, ((hg p).1 hp).1, e⟩
  · rcases List.mem_append.1 hq with hq | hq
    · exact ha.name q hq hh
    · obtain ⟨p, hp, e⟩ := hb.name q hq hh
      exact ⟨p, ((hg p).1 hp).1, e⟩
end
theorem ofK_ofK {l : List Param} {a b c d : Int} (h : ∀ x : Param, (decide (x.kind = c) || decide (x.kind = d)) = true → (decide (x.kind = a) || decide (x.kind = b)) = true) : ofK (ofK l c d) a b = ofK l c d := List.filter_eq_self.2 fun x hx => h x (List.mem_filter.1 hx).2
theorem ofK_none {l : List Param} {a b c d : Int} (h : ∀ x : Param, (decide (x.kind = c) || decide (x.kind = d)) = true → (decide (x.kind = a) || decide (x.kind = b)) = false) : ofK (ofK l c d) a b = [] := List.filter_eq_nil_iff.2 fun x hx => by rw [h x (List.mem_filter.1 hx).2]; simp
theorem wrapAll_place {l m : List Param} : ofK (wrapAll l m) 0 1 = ofK l 0 1 ++ ofK m 0 1 := by
  have app : ∀ (a b : List Param), ofK (a ++ b) 0 1 = ofK a 0 1 ++ ofK b 0 1 := fun a b => List.filter_append ..
  unfold wrapAll
  rw [app, app, app, app, app, ofK_ofK (fun _ h => h), ofK_ofK (fun _ h => h), ofK_none (c := 2) (d := 2) (fun x h => ?_), ofK_none (l := l) (c := 3) (d := 3) (fun x h => ?_), ofK_none (l := m) (c := 3) (d := 3) (fun x h => ?_), ofK_none (c := 4) (d := 4) (fun x h => ?_)]
  · simp
  all_goals
    simp only [Bool.or_self, decide_eq_true_iff] at h
    simp [h]
theorem wrapAll_three {l m : List Param} : ofK (wrapAll l m) 3 3 = ofK l 3 3 ++ ofK m 3 3 := by
  have app : ∀ (a b : List Param), ofK (a ++ b) 3 3 = ofK a 3 3 ++ ofK b 3 3 := fun a b => List.filter_append ..
  have no01 : ∀ x : Param, (decide (x.kind = 0) || decide (x.kind = 1)) = true → (decide (x.kind = 3) || decide (x.kind = 3)) = false := fun x h => by
    simp only [Bool.or_eq_true, decide_eq_true_iff] at h
    rcases h with h | h <;> simp [h]
  have no : ∀ (k : Int) (hk : k ≠ 3) (x : Param), (decide (x.kind = k) || decide (x.kind = k)) = true → (decide (x.kind = 3) || decide (x.kind = 3)) = false := fun k hk x h => by
    simp only [Bool.or_self, decide_eq_true_iff] at h
    simp [h, hk]
  unfold wrapAll
  rw [app, app, app, app, app, ofK_none no01, ofK_none no01, ofK_none (no 2 (by decide)), ofK_ofK (l := l) (fun _ h => h), ofK_ofK (l := m) (fun _ h => h), ofK_none (no 4 (by decide))]
  simp
theorem kind_has {l : List Param} {k : Int} : decide (0 ≤ kindAt l k) = l.any fun p => decide (p.kind = k) := idx_any
theorem any_ofK {l : List Param} {a b k : Int} : (ofK l a b).any (fun p => decide (p.kind = k)) = ((decide (k = a) || decide (k = b)) && l.any fun p => decide (p.kind = k)) := by
  rw [Bool.eq_iff_iff, Bool.and_eq_true, List.any_eq_true, List.any_eq_true]
  constructor
  · rintro ⟨x, hx, e⟩
    obtain ⟨h1, h2⟩ := List.mem_filter.1 hx
    have e := of_decide_eq_true e
    rw [e] at h2
    exact ⟨h2, x, h1, decide_eq_true e⟩
  · rintro ⟨h, x, hx, e⟩
    have e' := of_decide_eq_true e
    exact ⟨x, List.mem_filter.2 ⟨hx, by rw [e']; exact h⟩, e⟩
theorem wrapAll_rest {l m : List Param} : hasRest (wrapAll l m) = hasRest m := by
  unfold hasRest
  rw [kind_has, kind_has]
  unfold wrapAll
  simp only [List.any_append, any_ofK]
  simp
theorem wrapAll_map {l m : List Param} : hasMap (wrapAll l m) = hasMap m := by
  unfold hasMap
  rw [kind_has, kind_has]
  unfold wrapAll
  simp only [List.any_append, any_ofK]
  simp
theorem wrap_names {l m : List Param} (ok : okSig (wrapAll l m) = true) :
    (∀ x ∈ ofK l 0 1, ∀ y ∈ ofK m 0 1, x.name ≠ y.name) ∧ (∀ x ∈ ofK l 0 1, ∀ y ∈ ofK m 3 3, x.name ≠ y.name) ∧ (∀ x ∈ ofK l 3 3, ∀ y ∈ ofK m 0 1, x.name ≠ y.name) ∧ ∀ x ∈ ofK l 3 3, ∀ y ∈ ofK m 3 3, x.name ≠ y.name := by
  have o := Ord.of ok
  have ha : apart Param.name (wrapAll l m) = true := by
    unfold apart
    rw [List.all_eq_true]
    exact fun i hi => o.new i (List.mem_range.1 hi)
  have hp := apart_iff.1 ha
  unfold wrapAll at hp
  simp only [List.pairwise_append, List.mem_append] at hp
  obtain ⟨⟨⟨⟨⟨_, _, c1⟩, _, _⟩, _, c3⟩, _, c4⟩, _, _⟩ := hp
  exact ⟨c1, fun x hx y hy => c4 x (.inl (.inl (.inl hx))) y hy, fun x hx y hy e => c3 y (.inl (.inr hy)) x hx e.symm, fun x hx y hy => c4 x (.inr hx) y hy⟩
theorem AccP.weak {P N : List Param} {r m r2 m2 : Prop} {n : Nat} {nl : List Pair} (h : AccP P N r m n nl) (h1 : r → r2) (h2 : m → m2) : AccP P N r2 m2 n nl :=
  ⟨h.many.imp id h1, fun p hp => (h.bad p hp).imp id fun x => x.imp id fun y => ⟨y.1, y.2.1, h2 y.2.2⟩, h.place, h.name⟩
theorem wrap_accepts {l m : List Param} {f : Flat} (hw : wrapOk l m = true) (hf : okFlat f = true) : acceptsF (wrapSig l m) f = wrapAcc l m f := by
  obtain ⟨e, okl, okm, okw⟩ := wrapSig_ok hw
  have hiw : isWrap l = true := by unfold wrapOk at hw; rw [Bool.and_eq_true] at hw; exact hw.1
  obtain ⟨_, hr, hm⟩ := wrap_parts hiw
  obtain ⟨d1, d2, d3, d4⟩ := wrap_names okw
  have ol := Ord.of okl
  have iffL := acc_iff okl hf
  have iffW := acc_iff okw hf
  rw [wrapAll_place, wrapAll_three, wrapAll_rest, wrapAll_map] at iffW
  rw [e]
  cases c : acceptsF l f with
  | false =>
    have hp : passOk l f = false := by unfold passOk; rw [c]; rfl
    unfold wrapAcc
    rw [hp, Bool.false_and]
    cases c2 : acceptsF (wrapAll l m) f with
    | false => rfl
    | true =>
      have := iffL.2 (((iffW.1 c2).left d1 d2 d3 d4).weak (fun _ => hr) (fun _ => hm))
      rw [c] at this
      exact this.symm
  | true =>
    have hp : passOk l f = true := by unfold passOk; rw [c, hiw]; rfl
    have okg : okFlat (passF l f) = true := by
      obtain ⟨q1, q2⟩ := pass_fits hp
      unfold passF
      rw [if_pos hp]
      exact passT_ok q1 q2
    have iffM := acc_iff okm okg
    unfold wrapAcc
    rw [hp, Bool.true_and]
    have ig := pass_is hp
    have hg : ∀ p, p ∈ (passF l f).nl ↔ p ∈ f.nl ∧ (∀ q ∈ ofK l 0 1, byName q = true → q.name ≠ p.name) ∧ ∀ q ∈ ofK l 3 3, q.name ≠ p.name := fun p => by
      rw [ig]
      simp only [List.mem_filter, decide_eq_true_iff]
      rw [takes_no ol hm]
      rfl
    have hn : (passF l f).pl.length = f.pl.length - (ofK l 0 1).length := by rw [ig, place_len ol]; simp
    rw [hn] at iffM
    rw [Bool.eq_iff_iff, iffW, iffM]
    constructor
    · exact fun h => h.right d1 d2 d3 d4 hg
    · exact fun h => .both hg ((iffL.1 c).weak (fun _ => trivial) (fun _ => trivial)) h
end Go.Proofs.Ytekkimfdcbgcoab.Am
