/- Sorting: plain facts. -/
import Derived.Test.YtoeceafibmafpaaDoorDat
namespace Go.Proofs.YtoeceafibmafpaaDoor.Am
open Go
set_option linter.unusedSimpArgs false
set_option linter.unusedVariables false
section
variable {α : Type} (lt : α → α → Bool)
/-- The element j goes down as long as it is less. -/
def bub : List α → Nat → List α
  | l, 0 => l
  | l, j + 1 => match l[j + 1]?, l[j]? with
    | some x, some y => if lt x y = true then bub ((l.set (j + 1) y).set j x) j else l
    | _, _ => l
def sortT (l : List α) : Nat → List α
  | 0 => l
  | i + 1 => bub lt (sortT l i) i
def isort (l : List α) : List α := sortT lt l l.length
variable {lt}
theorem bub_zero {l : List α} : bub lt l 0 = l := by rw [bub]
theorem bub_less {l : List α} {j : Nat} (hj : j + 1 < l.length) (h : lt l[j + 1] (l[j]'(by omega)) = true) : bub lt l (j + 1) = bub lt ((l.set (j + 1) (l[j]'(by omega))).set j l[j + 1]) j := by
  rw [bub, List.getElem?_eq_getElem hj, List.getElem?_eq_getElem (show j < l.length by omega)]
  simp only
  rw [if_pos h]
theorem bub_stop {l : List α} {j : Nat} (hj : j + 1 < l.length) (h : lt l[j + 1] (l[j]'(by omega)) = false) : bub lt l (j + 1) = l := by
  rw [bub, List.getElem?_eq_getElem hj, List.getElem?_eq_getElem (show j < l.length by omega)]
  simp only
  rw [if_neg (by simp [h])]
theorem swap_eq {l : List α} {j : Nat} (hj : j + 1 < l.length) : (l.set (j + 1) (l[j]'(by omega))).set j l[j + 1] = l.take j ++ (l[j + 1] :: (l[j]'(by omega)) :: l.drop (j + 2)) := by
  refine List.ext_getElem (by simp; omega) fun i h1 h2 => ?_
  have hi : i < l.length := by simpa using h1
  rw [List.getElem_set, List.getElem_set]
  by_cases e1 : j = i
  · subst e1
    rw [if_pos rfl, List.getElem_append_right (by rw [List.length_take]; omega)]
    simp [show min j l.length = j by omega]
  · rw [if_neg e1]
    by_cases e2 : j + 1 = i
    · subst e2
      rw [if_pos rfl, List.getElem_append_right (by simp; omega)]
      simp [show min j l.length = j by omega]
    · rw [if_neg e2]
      by_cases e3 : i < j
      · rw [List.getElem_append_left (by simp; omega)]
        simp
      · rw [List.getElem_append_right (by simp; omega)]
        have e4 : i - (List.take j l).length = (i - j - 2) + 2 := by simp; omega
        simp only [e4, List.getElem_cons_succ, List.getElem_drop]
        congr 1
        omega
theorem split_at {l : List α} {j : Nat} (hj : j + 1 < l.length) : l = l.take j ++ ((l[j]'(by omega)) :: l[j + 1] :: l.drop (j + 2)) := by
  rw [← List.drop_eq_getElem_cons hj, ← List.drop_eq_getElem_cons (show j < l.length by omega), List.take_append_drop]
theorem swap_perm {l : List α} {j : Nat} (hj : j + 1 < l.length) : ((l.set (j + 1) (l[j]'(by omega))).set j l[j + 1]).Perm l := by
  rw [swap_eq hj]
  conv => rhs; rw [split_at hj]
  exact List.Perm.append_left _ (List.Perm.swap _ _ _)
theorem bub_perm : ∀ (j : Nat) (l : List α), (bub lt l j).Perm l
  | 0, l => by rw [bub_zero]
  | j + 1, l => by
    by_cases hj : j + 1 < l.length
    · cases h : lt l[j + 1] (l[j]'(by omega)) with
      | true => rw [bub_less hj h]; exact (bub_perm j _).trans (swap_perm hj)
      | false => rw [bub_stop hj h]
    · rw [bub, List.getElem?_eq_none (by omega)]
theorem bub_len {l : List α} {j : Nat} : (bub lt l j).length = l.length := (bub_perm j l).length_eq
theorem sortT_perm {l : List α} : ∀ i, (sortT lt l i).Perm l
  | 0 => by rw [sortT]
  | i + 1 => by rw [sortT]; exact (bub_perm i _).trans (sortT_perm i)
theorem sortT_len {l : List α} {i : Nat} : (sortT lt l i).length = l.length := (sortT_perm i).length_eq
theorem isort_perm {l : List α} : (isort lt l).Perm l := sortT_perm _
theorem isort_len {l : List α} : (isort lt l).length = l.length := (isort_perm (lt := lt)).length_eq
theorem sortT_one {l : List α} : sortT lt l 1 = l := by rw [sortT, sortT, bub_zero]
/-- Sorted, up to i: no one is less than one ahead of it. -/
def SortedTo (lt : α → α → Bool) (l : List α) (i : Nat) : Prop := ∀ a b (hb : b < l.length) (hab : a < b), b < i → lt l[b] (l[a]'(by omega)) = false
theorem bub_from {n : Nat} (tr : ∀ x y z, lt x y = true → lt y z = true → lt x z = true) (as_ : ∀ x y, lt x y = true → lt y x = false) (tr2 : ∀ x y z, lt y x = false → lt z y = false → lt z x = false) :
    ∀ (j : Nat) (l : List α), j < l.length → (∀ a b (hb : b < l.length) (hab : a < b), b ≤ n → b ≠ j → lt l[b] (l[a]'(by omega)) = false) → j ≤ n →
      ∀ a b (hb : b < (bub lt l j).length) (hab : a < b), b ≤ n → lt (bub lt l j)[b] ((bub lt l j)[a]'(by omega)) = false
  | 0, l, hj, hs, hn, a, b, hb, hab, hbn => by
    simp only [bub_zero] at hb ⊢
    exact hs a b hb hab hbn (by omega)
  | j + 1, l, hj, hs, hn, a, b, hb, hab, hbn => by
    cases h : lt l[j + 1] (l[j]'(by omega)) with
    | false =>
      simp only [bub_stop hj h] at hb ⊢
      by_cases e : b = j + 1
      · subst e
        by_cases e2 : a = j
        · subst e2; exact h
        · exact tr2 _ _ _ (hs a j (by omega) (by omega) (by omega) (by omega)) h
      · exact hs a b hb hab hbn e
    | true =>
      simp only [bub_less hj h] at hb ⊢
      have hlen : ((l.set (j + 1) (l[j]'(by omega))).set j l[j + 1]).length = l.length := by simp
      have g0 : ∀ i (hi : i < l.length), ((l.set (j + 1) (l[j]'(by omega))).set j l[j + 1])[i]'(by omega) = if i = j then l[j + 1] else if i = j + 1 then l[j]'(by omega) else l[i] := fun i hi => by
        rw [List.getElem_set, List.getElem_set]
        by_cases e1 : j = i
        · rw [if_pos e1, if_pos e1.symm]
        · have e1' : ¬ i = j := fun e => e1 e.symm
          rw [if_neg e1, if_neg e1']
          by_cases e2 : j + 1 = i
          · rw [if_pos e2, if_pos e2.symm]
          · have e2' : ¬ i = j + 1 := fun e => e2 e.symm
            rw [if_neg e2, if_neg e2']
      refine bub_from tr as_ tr2 j _ (by omega) (fun a b hb hab hbn hbj => ?_) (by omega) a b hb hab hbn
      have hb' : b < l.length := by omega
      rw [g0 b hb', g0 a (by omega), if_neg hbj]
      by_cases e1 : b = j + 1
      · subst e1
        rw [if_pos rfl]
        by_cases e2 : a = j
        · rw [if_pos e2]; exact as_ _ _ h
        · rw [if_neg e2, if_neg (by omega)]
          exact hs a j (by omega) (by omega) (by omega) (by omega)
      · rw [if_neg e1]
        by_cases e2 : a = j
        · rw [if_pos e2]
          by_cases e3 : b < j
          · omega
          · exact hs (j + 1) b hb' (by omega) hbn (by omega)
        · rw [if_neg e2]
          by_cases e3 : a = j + 1
          · rw [if_pos e3]
            exact hs j b hb' (by omega) hbn (by omega)
          · rw [if_neg e3]
            exact hs a b hb' hab hbn (by omega)
theorem sortT_sorted {l : List α} (tr : ∀ x y z, lt x y = true → lt y z = true → lt x z = true) (as_ : ∀ x y, lt x y = true → lt y x = false) (tr2 : ∀ x y z, lt y x = false → lt z y = false → lt z x = false) : ∀ i, i ≤ l.length → SortedTo lt (sortT lt l i) i
  | 0, _ => fun a b hb hab h => absurd h (by omega)
  | i + 1, hi => by
    have ih := sortT_sorted (l := l) tr as_ tr2 i (by omega)
    intro a b hb hab h
    simp only [sortT] at hb ⊢
    have h0 : ∀ a b (hb : b < (sortT lt l i).length) (hab : a < b), b ≤ i → b ≠ i → lt ((sortT lt l i)[b]'hb) ((sortT lt l i)[a]'(Nat.lt_trans hab hb)) = false := fun a b hb hab h1 h2 => ih a b hb hab (Nat.lt_of_le_of_ne h1 h2)
    exact bub_from (n := i) tr as_ tr2 i (sortT lt l i) (by rw [sortT_len]; omega) h0 (Nat.le_refl _) a b hb hab (by omega)
end
/-! ### the order of texts -/
theorem bytesLess_irrefl : ∀ (l : List UInt8), Op.bytesLess l l = false
  | [] => rfl
  | a :: r => by
    have := bytesLess_irrefl r
    simp [Op.bytesLess, this]
theorem bytesLess_trans : ∀ (x y z : List UInt8), Op.bytesLess x y = true → Op.bytesLess y z = true → Op.bytesLess x z = true
  | _, _, [], _, h => by simp [Op.bytesLess] at h
  | [], _, c :: z, _, _ => rfl
  | a :: x, [], c :: z, h, _ => by simp [Op.bytesLess] at h
  | a :: x, b :: y, c :: z, h1, h2 => by
    simp only [Op.bytesLess, Bool.or_eq_true, Bool.and_eq_true, decide_eq_true_iff, beq_iff_eq, UInt8.lt_iff_toNat_lt, ← UInt8.toNat_inj] at h1 h2 ⊢
    rcases h1 with h1 | ⟨h1, h3⟩ <;> rcases h2 with h2 | ⟨h2, h4⟩
    · left; omega
    · left; omega
    · left; omega
    · right; exact ⟨by omega, bytesLess_trans x y z h3 h4⟩
theorem bytesLess_tri : ∀ (x y : List UInt8), Op.bytesLess x y = false → Op.bytesLess y x = false → x = y
  | [], [], _, _ => rfl
  | [], b :: y, h, _ => by simp [Op.bytesLess] at h
  | a :: x, [], _, h => by simp [Op.bytesLess] at h
  | a :: x, b :: y, h1, h2 => by
    simp only [Op.bytesLess, Bool.or_eq_false_iff, Bool.and_eq_false_iff, decide_eq_false_iff_not, beq_eq_false_iff_ne, ne_eq, UInt8.lt_iff_toNat_lt, ← UInt8.toNat_inj] at h1 h2
    have e : a.toNat = b.toNat := by omega
    rcases h1.2 with h3 | h3
    · exact absurd e h3
    · rcases h2.2 with h4 | h4
      · exact absurd e.symm h4
      · rw [UInt8.toNat_inj.1 e, bytesLess_tri x y h3 h4]
theorem toList_inj {s t : ByteArray} (h : s.toList = t.toList) : s = t := by
  have := str_beq (s := s) (t := t)
  rw [h, beq_self_eq_true] at this
  exact of_decide_eq_true this.symm
theorem sLess_irrefl (s : ByteArray) : sLess s s = false := bytesLess_irrefl _
theorem sLess_trans {s t u : ByteArray} (h1 : sLess s t = true) (h2 : sLess t u = true) : sLess s u = true := bytesLess_trans _ _ _ h1 h2
theorem sLess_tri {s t : ByteArray} (h1 : sLess s t = false) (h2 : sLess t s = false) : s = t := toList_inj (bytesLess_tri _ _ h1 h2)
theorem sLess_asymm {s t : ByteArray} (h : sLess s t = true) : sLess t s = false := by
  cases h2 : sLess t s with
  | false => rfl
  | true =>
    have := sLess_trans h h2
    rw [sLess_irrefl] at this
    exact this.symm
theorem sLess_tr2 {s t u : ByteArray} (h1 : sLess t s = false) (h2 : sLess u t = false) : sLess u s = false := by
  cases h3 : sLess u s with
  | false => rfl
  | true =>
    cases h4 : sLess s t with
    | true =>
      have := sLess_trans h3 h4
      rw [h2] at this
      exact this.symm
    | false =>
      obtain rfl := sLess_tri h4 h1
      rw [h2] at h3
      exact h3.symm
def ltP (p q : Pair) : Bool := sLess p.name q.name
def ltS (s t : ByteArray) : Bool := sLess s t
theorem sorted_pairs (l : List Pair) : (isort ltP l).Pairwise fun a b => ltP b a = false := by
  rw [List.pairwise_iff_getElem]
  intro i j hi hj hij
  have := sortT_sorted (lt := ltP) (l := l) (fun x y z => sLess_trans) (fun x y => sLess_asymm) (fun x y z => sLess_tr2) l.length (Nat.le_refl _)
  exact this i j hj hij (by rw [isort_len] at hj; exact hj)
/-- Lists with the same elements and different names, both sorted, are the same. -/
theorem sorted_unique : ∀ (l m : List Pair), l.Perm m → (l.Pairwise fun a b => ltP b a = false) → (m.Pairwise fun a b => ltP b a = false) → (∀ x ∈ l, ∀ y ∈ l, x.name = y.name → x = y) → l = m
  | [], m, h, _, _, _ => h.nil_eq
  | a :: l, [], h, _, _, _ => by simpa using h.length_eq
  | a :: l, b :: m, h, h1, h2, hn => by
    have e : a = b := by
      have hb : b ∈ a :: l := h.mem_iff.2 List.mem_cons_self
      have ha : a ∈ b :: m := h.mem_iff.1 List.mem_cons_self
      rcases List.mem_cons.1 hb with e | hb'
      · exact e.symm
      · rcases List.mem_cons.1 ha with e | ha'
        · exact e
        · have l1 : ltP b a = false := (List.pairwise_cons.1 h1).1 b hb'
          have l2 : ltP a b = false := (List.pairwise_cons.1 h2).1 a ha'
          exact hn a List.mem_cons_self b hb (sLess_tri l2 l1)
    subst e
    rw [sorted_unique l m (List.Perm.cons_inv h) (List.pairwise_cons.1 h1).2 (List.pairwise_cons.1 h2).2 fun x hx y hy => hn x (List.mem_cons_of_mem _ hx) y (List.mem_cons_of_mem _ hy)]
/-! ### the same flat calls -/
/-- Whether a pair is in a list, found by its name. -/
def inB (m : List Pair) (p : Pair) : Bool := match m[(pairAt m p.name).toNat]? with | some q => decide (0 ≤ pairAt m p.name) && decide (q = p) | none => false
def sameNm (l m : List Pair) : Bool := decide ((l.length : Int) = (m.length : Int)) && l.all (inB m)
theorem names_inj {l : List Pair} (h : apart Pair.name l = true) : ∀ x ∈ l, ∀ y ∈ l, x.name = y.name → x = y := by
  intro x hx y hy e
  obtain ⟨i, hi, rfl⟩ := List.getElem_of_mem hx
  obtain ⟨j, hj, rfl⟩ := List.getElem_of_mem hy
  have up : ∀ i j (hi : i < l.length) (hj : j < l.length), i < j → l[i].name ≠ l[j].name := fun i j hi hj hij e => by
    unfold apart at h
    rw [List.all_eq_true] at h
    have h1 := h j (List.mem_range.2 hj)
    unfold newAt at h1
    rw [List.getElem?_eq_getElem hj] at h1
    simp only [List.all_eq_true, Bool.not_eq_true', decide_eq_false_iff_not] at h1
    exact h1 l[i] (by rw [List.mem_take_iff_getElem]; exact ⟨i, by omega, rfl⟩) e
  by_cases h1 : i < j
  · exact absurd e (up i j hi hj h1)
  · by_cases h2 : j < i
    · exact absurd e.symm (up j i hj hi h2)
    · have : i = j := by omega
      subst this
      rfl
theorem inB_mem {m : List Pair} {p : Pair} (h : inB m p = true) : p ∈ m := by
  unfold inB at h
  split at h
  · rename_i q hq
    simp only [Bool.and_eq_true, decide_eq_true_iff] at h
    rw [← h.2]
    exact List.mem_of_getElem? hq
  · simp at h
theorem mem_inB {m : List Pair} {p : Pair} (ha : apart Pair.name m = true) (h : p ∈ m) : inB m p = true := by
  have hn : ¬ pairAt m p.name < 0 := fun h2 => by
    have := idx_neg.1 h2 p h
    simp at this
  obtain ⟨h1, h2, h3⟩ := idx_pos hn
  have h2' : (pairAt m p.name).toNat < m.length := h2
  have h3' : m[(pairAt m p.name).toNat].name = p.name := of_decide_eq_true h3
  unfold inB
  rw [List.getElem?_eq_getElem h2']
  simp only [Bool.and_eq_true, decide_eq_true_iff]
  exact ⟨h1, names_inj ha _ (List.getElem_mem _) _ h h3'⟩
theorem nodup_of {l : List Pair} (h : apart Pair.name l = true) : l.Nodup := by
  rw [List.nodup_iff_pairwise_ne, List.pairwise_iff_getElem]
  intro i j hi hj hij e
  unfold apart at h
  rw [List.all_eq_true] at h
  have h1 := h j (List.mem_range.2 hj)
  unfold newAt at h1
  rw [List.getElem?_eq_getElem hj] at h1
  simp only [List.all_eq_true, Bool.not_eq_true', decide_eq_false_iff_not] at h1
  exact h1 l[i] (by rw [List.mem_take_iff_getElem]; exact ⟨i, by omega, rfl⟩) (by rw [e])
theorem sub_perm : ∀ (l m : List Pair), l.Nodup → (∀ x ∈ l, x ∈ m) → l.length = m.length → l.Perm m
  | [], m, _, _, h => by rw [List.length_eq_zero_iff.1 h.symm]
  | a :: l, m, hn, hs, h => by
    have ha : a ∈ m := hs a List.mem_cons_self
    have p := List.perm_cons_erase ha
    have hn2 := List.nodup_cons.1 hn
    refine ((sub_perm l (m.erase a) hn2.2 (fun x hx => ?_) ?_).cons a).trans p.symm
    · have hx2 := hs x (List.mem_cons_of_mem _ hx)
      have : x ≠ a := fun e => hn2.1 (e ▸ hx)
      exact (List.mem_erase_of_ne this).2 hx2
    · rw [List.length_erase_of_mem ha]
      simp at h
      omega
theorem sameNm_sort {l m : List Pair} (hl : apart Pair.name l = true) (hm : apart Pair.name m = true) : sameNm l m = decide (isort ltP l = isort ltP m) := by
  rw [Bool.eq_iff_iff, decide_eq_true_iff]
  unfold sameNm
  rw [Bool.and_eq_true, decide_eq_true_iff, List.all_eq_true]
  constructor
  · rintro ⟨h1, h2⟩
    have p := sub_perm l m (nodup_of hl) (fun x hx => inB_mem (h2 x hx)) (by omega)
    have pl := isort_perm (lt := ltP) (l := l)
    refine sorted_unique _ _ (pl.trans (p.trans (isort_perm (lt := ltP) (l := m)).symm)) (sorted_pairs l) (sorted_pairs m) fun x hx y hy e => ?_
    exact names_inj hl x (pl.mem_iff.1 hx) y (pl.mem_iff.1 hy) e
  · intro h
    have p : l.Perm m := (isort_perm (lt := ltP) (l := l)).symm.trans (h ▸ isort_perm (lt := ltP) (l := m))
    exact ⟨by rw [p.length_eq], fun x hx => mem_inB hm (p.mem_iff.1 hx)⟩
def sameF (f g : Flat) : Bool := okFlat f && (okFlat g && (decide (f.pl = g.pl) && decide (isort ltP f.nl = isort ltP g.nl)))
def sameS (f g : Flat) : Bool := decide (f.pl = g.pl) && sameNm f.nl g.nl
theorem okFlat_apart {f : Flat} (h : okFlat f = true) : apart Pair.name f.nl = true := by
  unfold okFlat at h
  rw [Bool.and_eq_true] at h
  exact h.1
theorem sameF_eq {f g : Flat} : sameF f g = (okFlat f && (okFlat g && sameS f g)) := by
  unfold sameF sameS
  cases h1 : okFlat f with
  | false => rfl
  | true =>
    cases h2 : okFlat g with
    | false => rfl
    | true => rw [sameNm_sort (okFlat_apart h1) (okFlat_apart h2)]
end Go.Proofs.YtoeceafibmafpaaDoor.Am
