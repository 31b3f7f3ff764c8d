/- Problems in order, problems mended, what is free: plain facts. -/
import Derived.Test.YtekkimfdcbgcoabBP
namespace Go.Proofs.Ytekkimfdcbgcoab.Am
open Go
set_option linter.unusedSimpArgs false
set_option linter.unusedVariables false
/-! ### problems in order -/
def Later (a b : Problem) : Prop := b.kind ≠ 0 ∧ (a.kind = 3 → b.kind = 3) ∧ ¬ (a.name = b.name ∧ a.kind = b.kind)
theorem manyB_kind {l : List Param} {pl : List Int} : ∀ x ∈ manyB l pl, x.kind = 0 ∧ x.name = strOfNums [] := by
  intro x hx
  unfold manyB at hx
  split at hx
  · rw [List.mem_singleton.1 hx]; exact ⟨rfl, rfl⟩
  · simp at hx
theorem badAll_kind {l : List Param} {n : Nat} {m : List Pair} : ∀ x ∈ badAll l n m, (x.kind = 1 ∨ x.kind = 2) ∧ ∃ p ∈ m, x.name = p.name ∧ badOf l n p = some x := by
  intro x hx
  unfold badAll at hx
  obtain ⟨p, hp, e⟩ := List.mem_filterMap.1 hx
  exact ⟨(badOf_name e).2, p, hp, (badOf_name e).1, e⟩
theorem lackL_kind {l : List Param} {f : Flat} : ∀ x ∈ lackL l f, x.kind = 3 ∧ ∃ j, ∃ hj : j < l.length, x.name = l[j].name ∧ lackB l f j = true := by
  intro x hx
  unfold lackL at hx
  obtain ⟨j, hj, rfl⟩ := List.mem_map.1 hx
  rw [List.mem_filter, List.mem_range] at hj
  exact ⟨rfl, j, hj.1, nameAt_eq hj.1, hj.2⟩
theorem wrong_order {l : List Param} {f : Flat} (ok1 : okSig l = true) (ok2 : okFlat f = true) : (wrong l f).Pairwise Later := by
  have o := Ord.of ok1
  rw [wrong_is ok1 ok2, List.pairwise_append, List.pairwise_append]
  refine ⟨⟨?_, ?_, fun a ha b hb => ?_⟩, ?_, fun a ha b hb => ?_⟩
  · unfold manyB
    split
    · exact List.pairwise_singleton _ _
    · exact List.Pairwise.nil
  · unfold badAll
    rw [List.pairwise_filterMap]
    refine (apart_iff.1 (okFlat_apart ok2)).imp fun {p q} hpq x hx y hy => ?_
    obtain ⟨n1, k1⟩ := badOf_name hx
    obtain ⟨n2, k2⟩ := badOf_name hy
    exact ⟨by omega, fun h => by omega, fun h => hpq (by rw [← n1, ← n2]; exact h.1)⟩
  · have h1 := (manyB_kind a ha).1
    have h2 := (badAll_kind b hb).1
    exact ⟨by omega, fun h => by omega, fun h => by omega⟩
  · unfold lackL
    rw [List.pairwise_map]
    refine List.Pairwise.imp_of_mem (R := fun a b => a < b) (fun {i j} hi hj hij => ?_) (List.Pairwise.filter _ List.pairwise_lt_range)
    rw [List.mem_filter, List.mem_range] at hi hj
    refine ⟨show (3 : Int) ≠ 0 by decide, fun _ => rfl, fun h => ?_⟩
    have e := h.1
    simp only [nameAt_eq hi.1, nameAt_eq hj.1] at e
    have := names_ne o hi.1 hj.1 e
    omega
  · have h2 := (lackL_kind b hb).1
    have h1 : a.kind ≠ 3 := by
      rcases List.mem_append.1 ha with h | h
      · have := (manyB_kind a h).1; omega
      · have := (badAll_kind a h).1; omega
    exact ⟨by omega, fun h => absurd h h1, fun h => by omega⟩
/-- A problem has a text. -/
def hasTxt (x : Problem) : Bool := (decide (x.kind = 0) && decide (x.name = strOfNums [])) || (okName x.name && (decide (x.kind = 1) || decide (x.kind = 2) || decide (x.kind = 3)))
theorem wrong_text {l : List Param} {f : Flat} (ok1 : okSig l = true) (ok2 : okFlat f = true) : ∀ x ∈ wrong l f, hasTxt x = true := by
  have hp := okFlat_parts.1 ok2
  intro x hx
  unfold hasTxt
  rw [wrong_is ok1 ok2] at hx
  rcases List.mem_append.1 hx with hx | hx
  · rcases List.mem_append.1 hx with hx | hx
    · have := manyB_kind x hx
      rw [decide_eq_true this.1, decide_eq_true this.2]
      rfl
    · obtain ⟨k, p, hp2, e, _⟩ := badAll_kind x hx
      have h2 := hp.2.2.1 p hp2
      unfold okPair at h2
      rw [Bool.and_eq_true] at h2
      rw [e, h2.1]
      rcases k with k | k <;> simp [k]
  · obtain ⟨k, j, hj, e, _⟩ := lackL_kind x hx
    have h2 := (okSig_param ok1 hj).1
    unfold okParam at h2
    rw [Bool.and_eq_true] at h2
    rw [e, h2.1]
    simp [k]
/-! ### without a name that is wrong -/
theorem any_erase {m : List Pair} {k : Nat} (hk : k < m.length) {s : ByteArray} (h : m[k].name ≠ s) : ((m.eraseIdx k).any fun p => decide (p.name = s)) = m.any fun p => decide (p.name = s) := by
  rw [Bool.eq_iff_iff, List.any_eq_true, List.any_eq_true]
  constructor
  · rintro ⟨x, hx, e⟩
    exact ⟨x, List.mem_of_mem_eraseIdx hx, e⟩
  · rintro ⟨x, hx, e⟩
    obtain ⟨i, hi, rfl⟩ := List.getElem_of_mem hx
    refine ⟨m[i], ?_, e⟩
    rw [List.mem_eraseIdx_iff_getElem]
    refine ⟨i, hi, fun h2 => ?_, rfl⟩
    subst h2
    exact h (of_decide_eq_true e)
theorem badAll_erase {l : List Param} {n : Nat} {m : List Pair} {k : Nat} (hk : k < m.length) (h : badOf l n m[k] ≠ none) : (badAll l n (m.eraseIdx k)).length + 1 = (badAll l n m).length := by
  have e : m = m.take k ++ m[k] :: m.drop (k + 1) := by
    rw [← List.drop_eq_getElem_cons hk, List.take_append_drop]
  rw [List.eraseIdx_eq_take_drop_succ]
  unfold badAll
  conv => rhs; rw [e]
  rw [List.filterMap_append, List.filterMap_append, List.filterMap_cons]
  cases h2 : badOf l n m[k] with
  | none => exact absurd h2 h
  | some x => simp; omega
theorem mend_erase {l : List Param} {f : Flat} (ok1 : okSig l = true) (ok2 : okFlat f = true) {k : Nat} (hk : k < f.nl.length) (hb : badOf l f.pl.length f.nl[k] ≠ none) (ok3 : okFlat ⟨f.pl, f.nl.eraseIdx k⟩ = true) :
    (wrong l ⟨f.pl, f.nl.eraseIdx k⟩).length + 1 = (wrong l f).length := by
  have o := Ord.of ok1
  rw [wrong_is ok1 ok2, wrong_is ok1 ok3]
  simp only [List.length_append]
  have h1 := badAll_erase (l := l) hk hb
  have h2 : lackL l ⟨f.pl, f.nl.eraseIdx k⟩ = lackL l f := by
    unfold lackL
    congr 1
    refine List.filter_congr fun j hj => ?_
    have hj := List.mem_range.1 hj
    rw [lackB_at hj, lackB_at hj, gotB_at hj, gotB_at hj]
    simp only
    by_cases e : f.nl[k].name = l[j].name
    · cases hn : byName l[j] with
      | false => rfl
      | true =>
        have ht := takes_self o hj hn
        rw [← e] at ht
        rw [badOf_at hj ht] at hb
        have h4 : ¬ l[j].kind = 4 := fun h4 => by simp [byName, h4] at hn
        rw [if_neg h4] at hb
        split at hb
        · rename_i hg
          rw [hg]
          rfl
        · exact absurd rfl hb
    · rw [any_erase hk e]
  rw [h2]
  omega
/-! ### with a name that is missing -/
theorem filter_one {n : Nat} {p q : Nat → Bool} {j : Nat} (hj : j < n) (hp : p j = true) (hq : q j = false) (h : ∀ i, i ≠ j → q i = p i) : ((List.range n).filter q).length + 1 = ((List.range n).filter p).length := by
  induction n with
  | zero => omega
  | succ n ih =>
    rw [List.range_succ, List.filter_append, List.filter_append, List.length_append, List.length_append]
    by_cases e : j = n
    · subst e
      have : (List.range j).filter q = (List.range j).filter p := List.filter_congr fun i hi => h i (by have := List.mem_range.1 hi; omega)
      rw [this]
      simp [hp, hq]
    · have := ih (by omega)
      have h2 := h n (by omega)
      simp only [List.filter_cons, List.filter_nil, h2]
      omega
theorem mend_add {l : List Param} {f : Flat} (ok1 : okSig l = true) (ok2 : okFlat f = true) {j : Nat} (hj : j < l.length) (hl : lackB l f j = true) (hn : byName l[j] = true) {v : Int} (ok3 : okFlat ⟨f.pl, f.nl ++ [⟨l[j].name, v⟩]⟩ = true) :
    (wrong l ⟨f.pl, f.nl ++ [⟨l[j].name, v⟩]⟩).length + 1 = (wrong l f).length := by
  have o := Ord.of ok1
  rw [lackB_at hj, gotB_at hj, hn, Bool.true_and] at hl
  simp only [Bool.and_eq_true, Bool.not_eq_true', Bool.or_eq_false_iff] at hl
  have h4 : ¬ l[j].kind = 4 := fun h4 => by simp [byName, h4] at hn
  rw [wrong_is ok1 ok2, wrong_is ok1 ok3]
  simp only [List.length_append]
  have hb : badAll l f.pl.length (f.nl ++ [⟨l[j].name, v⟩]) = badAll l f.pl.length f.nl := by
    unfold badAll
    rw [List.filterMap_append]
    have : badOf l f.pl.length ⟨l[j].name, v⟩ = none := by
      rw [badOf_at hj (takes_self o hj hn), if_neg h4, if_neg (by rw [hl.2.2.1]; decide)]
    simp [this]
  rw [hb]
  have h2 : (lackL l ⟨f.pl, f.nl ++ [⟨l[j].name, v⟩]⟩).length + 1 = (lackL l f).length := by
    unfold lackL
    rw [List.length_map, List.length_map]
    refine filter_one hj ?_ ?_ fun i hij => ?_
    · rw [lackB_at hj, gotB_at hj, hl.1, hl.2.1, hl.2.2.1, hl.2.2.2]
      simp
    · rw [lackB_at hj, gotB_at hj, hn]
      simp
    · by_cases hi : i < l.length
      · rw [lackB_at hi, lackB_at hi, gotB_at hi, gotB_at hi]
        have : decide (l[j].name = l[i].name) = false := decide_eq_false fun e => hij (names_ne o hj hi e).symm
        simp [List.any_append, this]
      · unfold lackB
        rw [List.getElem?_eq_none (by omega)]
  omega
/-! ### the last problem -/
theorem last_of {α : Type} {a b : List α} (h : 0 < (a ++ b).length) : ((a ++ b)[(a ++ b).length - 1]'(by omega) ∈ b) ∨ (b = [] ∧ (a ++ b)[(a ++ b).length - 1]'(by omega) ∈ a) := by
  by_cases e : b = []
  · subst e
    right
    refine ⟨rfl, ?_⟩
    simp
  · left
    have hb : 0 < b.length := List.length_pos_iff.2 e
    rw [List.getElem_append_right (by simp; omega)]
    exact List.getElem_mem _
/-! ### what is free -/
def hasT (l : List ByteArray) (s : ByteArray) : Bool := l.any fun x => decide (x = s)
theorem free_has {q : Param → Bool} {l : List Param} {f : Flat} (hp : partOk l f = true) {j : Nat} (hj : j < l.length) : hasT (freeF q l f) l[j].name = isFree q l (boundS l f) j := by
  have o := Ord.of (part_fits hp).1
  unfold freeF hasT
  rw [if_pos hp, Bool.eq_iff_iff, List.any_eq_true]
  constructor
  · rintro ⟨x, hx, e⟩
    obtain ⟨i, hi, ht, rfl⟩ := pickF_mem hx
    have e := of_decide_eq_true e
    rw [nameAt_eq hi] at e
    have := names_ne o hi hj e
    subst this
    exact ht
  · intro h
    refine ⟨l[j].name, ?_, by simp⟩
    unfold pickF
    refine List.mem_map.2 ⟨j, ?_, nameAt_eq hj⟩
    rw [List.mem_filter, List.mem_range]
    exact ⟨hj, h⟩
theorem lack_free {l : List Param} {f : Flat} (hp : partOk l f = true) : ∀ x ∈ lackF l f, hasT (freeAll l f) x = true := by
  intro x hx
  unfold lackF freeF at hx
  rw [if_pos hp] at hx
  obtain ⟨i, hi, ht, rfl⟩ := pickF_mem hx
  have hs : i < (boundS l f).length := by rw [boundS_len]; exact hi
  rw [nameAt_eq hi]
  unfold freeAll
  rw [free_has hp hi, isFree_eq hi hs]
  rw [isFree_eq hi hs] at ht
  simp only [Bool.and_eq_true, Bool.not_eq_true'] at ht
  rw [ht.1, ht.2.1]
  rfl
theorem lack_count {l : List Param} {f : Flat} (hp : partOk l f = true) : (freeAll l f).countP (fun s => match l[(paramAt l s).toNat]? with | some p => !p.has | none => false) = (lackF l f).length := by
  have o := Ord.of (part_fits hp).1
  unfold freeAll lackF freeF
  rw [if_pos hp, if_pos hp]
  unfold pickF
  rw [List.countP_map, List.length_map, List.countP_eq_length_filter, List.filter_filter]
  congr 1
  refine List.filter_congr fun j hj => ?_
  have hj := List.mem_range.1 hj
  have hs : j < (boundS l f).length := by rw [boundS_len]; exact hj
  simp only [Function.comp]
  rw [nameAt_eq hj, param_self o hj, Int.toNat_natCast, List.getElem?_eq_getElem hj, isFree_eq hj hs, isFree_eq hj hs]
  show (!l[j].has && (single l[j] && (!(boundS l f)[j].given && true))) = (single l[j] && (!(boundS l f)[j].given && !l[j].has))
  cases single l[j] <;> cases (boundS l f)[j].given <;> cases l[j].has <;> rfl
theorem over_nil {f : Flat} (ok : okFlat f = true) : OverFlat f ⟨[], []⟩ = some f := by
  have e : overF f ⟨[], []⟩ = f := by
    unfold overF putAll
    simp
  unfold OverFlat
  rw [if_pos ⟨ok, rfl⟩, e]
  unfold Am.okF
  rw [if_pos ok]
theorem accepts_lack {l : List Param} {f : Flat} (hp : partOk l f = true) : acceptsF l f = decide (((lackF l f).length : Int) = 0) := by
  obtain ⟨ok1, ok2⟩ := part_fits hp
  rw [lack_names hp, List.length_map]
  unfold acceptsF fits
  rw [ok1, ok2]
  simp only [Bool.and_self, Bool.true_and]
  cases wrong l f with
  | nil => rfl
  | cons a r =>
    refine (decide_eq_false ?_).symm
    simp
    omega
end Go.Proofs.Ytekkimfdcbgcoab.Am
