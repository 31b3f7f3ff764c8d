/- Plain facts: the signature of a partial call. -/
import Derived.Test.YtekkimfdcbgcoabBP
import Derived.Test.YtekkimfdcbgcoabPM
namespace Go.Proofs.Ytekkimfdcbgcoab.Am
open Go
def bothP (m : List Pair) (x : Param) : Bool := decide (x.kind = 1) && decide (pairAt m x.name ≥ 0)
def bothAt (l : List Param) (m : List Pair) : Int := idx (bothP m) l
def bothIn (l : List Param) (m : List Pair) : Bool := decide (bothAt l m ≥ 0)
/-- Whether the names have begun ahead of the i-th parameter. -/
def tb (l : List Param) (m : List Pair) (i : Nat) : Bool := bothIn l m && decide (bothAt l m < (i : Int))
def turnB (l : List Param) (m : List Pair) (i : Nat) : Bool := bothIn l m && decide ((i : Int) ≥ bothAt l m)
def setD (m : List Pair) (x : Param) : Param := match m[(pairAt m x.name).toNat]? with | some p => if pairAt m x.name ≥ 0 ∧ byName x = true then ⟨x.name, x.kind, true, p.value⟩ else x | none => x
def turnK (t : Bool) (x : Param) : Param := if t = true ∧ x.kind = 1 then ⟨x.name, 3, x.has, x.dflt⟩ else x
theorem turnK_no {t : Bool} {x : Param} (h : t = false ∨ ¬ x.kind = 1) : turnK t x = x := by
  unfold turnK
  rw [if_neg]
  rintro ⟨a, b⟩
  rcases h with h | h
  · rw [h] at a; simp at a
  · exact h b
theorem turnK_yes {x : Param} (h : x.kind = 1) : turnK true x = ⟨x.name, 3, x.has, x.dflt⟩ := by unfold turnK; rw [if_pos ⟨rfl, h⟩]
theorem turnK_name {t : Bool} {x : Param} : (turnK t x).name = x.name := by unfold turnK; split <;> rfl
theorem turnK_by {t : Bool} {x : Param} : byName (turnK t x) = byName x := by
  unfold turnK
  split
  · rename_i h; simp [byName, h.2]
  · rfl
theorem turnK_has {t : Bool} {x : Param} : (turnK t x).has = x.has ∧ (turnK t x).dflt = x.dflt := by unfold turnK; split <;> exact ⟨rfl, rfl⟩
theorem setD_no {m : List Pair} {x : Param} (h : pairAt m x.name = -1) : setD m x = x := by
  unfold setD
  split
  · rw [if_neg]; rintro ⟨a, _⟩; omega
  · rfl
theorem setD_else {m : List Pair} {x : Param} (h : byName x = false) : setD m x = x := by
  unfold setD
  split
  · rw [if_neg]; rintro ⟨_, a⟩; rw [h] at a; simp at a
  · rfl
theorem setD_at {m : List Pair} {x : Param} {j : Nat} (hj : j < m.length) (h : pairAt m x.name = j) (b : byName x = true) : setD m x = ⟨x.name, x.kind, true, m[j].value⟩ := by
  unfold setD
  rw [h, Int.toNat_natCast, List.getElem?_eq_getElem hj]
  simp only
  rw [if_pos ⟨by omega, b⟩]
theorem setD_name {m : List Pair} {x : Param} : (setD m x).name = x.name ∧ (setD m x).kind = x.kind := by
  unfold setD
  split
  · split <;> exact ⟨rfl, rfl⟩
  · exact ⟨rfl, rfl⟩
theorem setD_turn {m : List Pair} {t : Bool} {x : Param} : setD m (turnK t x) = turnK t (setD m x) := by
  by_cases h : t = true ∧ x.kind = 1
  · have e : turnK t x = ⟨x.name, 3, x.has, x.dflt⟩ := by unfold turnK; rw [if_pos h]
    have e2 : turnK t (setD m x) = ⟨(setD m x).name, 3, (setD m x).has, (setD m x).dflt⟩ := by unfold turnK; rw [if_pos ⟨h.1, setD_name.2.trans h.2⟩]
    rw [e, e2]
    have b : byName x = true := by simp [byName, h.2]
    rcases idx_cases (fun p : Pair => decide (p.name = x.name)) m with c | ⟨j, hj, c, _⟩
    · have c : pairAt m x.name = -1 := c
      rw [setD_no c, setD_no (show pairAt m (⟨x.name, 3, x.has, x.dflt⟩ : Param).name = -1 from c)]
    · have c : pairAt m x.name = j := c
      rw [setD_at hj c b, setD_at hj (show pairAt m (⟨x.name, 3, x.has, x.dflt⟩ : Param).name = j from c) (by simp [byName])]
  · have e : turnK t x = x := by unfold turnK; rw [if_neg h]
    have e2 : turnK t (setD m x) = setD m x := by unfold turnK; rw [if_neg]; rw [setD_name.2]; exact h
    rw [e, e2]
def psGone (l : List Param) (f : Flat) (i : Nat) (x : Param) : Bool := (byPlace x && decide ((i : Int) < (f.pl.length : Int))) || (decide (x.kind = 2) && bothIn l f.nl)
def psNew (l : List Param) (f : Flat) (i : Nat) (x : Param) : Param := setD f.nl (turnK (turnB l f.nl i) x)
def psOne (l : List Param) (f : Flat) (i : Nat) : List Param := match l[i]? with | some x => if psGone l f i x = true then [] else [psNew l f i x] | none => []
def psT (l : List Param) (f : Flat) (i : Nat) : List Param := (List.range i).flatMap (psOne l f)
theorem psT_zero {l : List Param} {f : Flat} : psT l f 0 = [] := rfl
theorem psT_next {l : List Param} {f : Flat} {i : Nat} : psT l f (i + 1) = psT l f i ++ psOne l f i := by
  unfold psT
  rw [List.range_succ, List.flatMap_append]
  simp
theorem psOne_gone {l : List Param} {f : Flat} {i : Nat} (hi : i < l.length) (h : psGone l f i l[i] = true) : psOne l f i = [] := by
  unfold psOne
  rw [List.getElem?_eq_getElem hi]
  simp only
  rw [if_pos h]
theorem psOne_new {l : List Param} {f : Flat} {i : Nat} (hi : i < l.length) (h : psGone l f i l[i] = false) : psOne l f i = [psNew l f i l[i]] := by
  unfold psOne
  rw [List.getElem?_eq_getElem hi]
  simp only
  rw [if_neg (by simp [h])]
theorem psT_len {l : List Param} {f : Flat} : ∀ {i : Nat}, (psT l f i).length ≤ i
  | 0 => Nat.le_refl 0
  | i + 1 => by
    rw [psT_next, List.length_append]
    have := psT_len (l := l) (f := f) (i := i)
    have : (psOne l f i).length ≤ 1 := by
      unfold psOne
      split
      · split <;> simp
      · simp
    omega
theorem psNew_name {l : List Param} {f : Flat} {i : Nat} {x : Param} : (psNew l f i x).name = x.name := by unfold psNew; rw [setD_name.1, turnK_name]
theorem psT_mem {l : List Param} {f : Flat} {i : Nat} {y : Param} : y ∈ psT l f i ↔ ∃ j, j < i ∧ ∃ hj : j < l.length, psGone l f j l[j] = false ∧ y = psNew l f j l[j] := by
  unfold psT
  rw [List.mem_flatMap]
  constructor
  · rintro ⟨j, hj, hy⟩
    have hji := List.mem_range.1 hj
    by_cases hl : j < l.length
    · cases c : psGone l f j l[j] with
      | true => rw [psOne_gone hl c] at hy; simp at hy
      | false =>
        rw [psOne_new hl c, List.mem_singleton] at hy
        exact ⟨j, hji, hl, c, hy⟩
    · unfold psOne at hy
      rw [List.getElem?_eq_none (by omega)] at hy
      simp at hy
  · rintro ⟨j, hji, hl, c, hy⟩
    exact ⟨j, List.mem_range.2 hji, by rw [psOne_new hl c, List.mem_singleton]; exact hy⟩
theorem psT_sm {l : List Param} {f : Flat} (h : miniG l) : miniG (psT l f l.length) := ⟨Nat.le_trans psT_len h.len, fun x hx => by
  obtain ⟨j, _, hj, _, rfl⟩ := psT_mem.1 hx
  rw [psNew_name]
  exact h.nm _ (List.getElem_mem hj)⟩
theorem idx_first {α : Type} {p : α → Bool} {l : List α} {j : Nat} (h : idx p l = j) {i : Nat} (hi : i < l.length) (hij : i < j) : p l[i] = false := by
  unfold idx at h
  cases e : l.findIdx? p with
  | none => rw [e] at h; simp at h
  | some k =>
    rw [e] at h
    have h : (k : Int) = j := h
    have hk : k = j := by omega
    subst hk
    obtain ⟨_, _, h2⟩ := List.findIdx?_eq_some_iff_getElem.1 e
    simpa using h2 i hij
/-- One more. -/
theorem turn_step {l : List Param} {m : List Pair} {i : Nat} (hi : i < l.length) : turnB l m i = (tb l m i || bothP m l[i]) := by
  unfold turnB tb bothIn bothAt
  rcases idx_cases (bothP m) l with e | ⟨j, hj, e, hs⟩
  · have h0 := idx_neg.1 (show idx (bothP m) l < 0 by omega) _ (List.getElem_mem hi)
    rw [e, h0]
    rfl
  · rw [e]
    rcases Nat.lt_trichotomy j i with c | c | c
    · rw [decide_eq_true (show (j : Int) ≥ 0 by omega), decide_eq_true (show (i : Int) ≥ (j : Int) by omega), decide_eq_true (show (j : Int) < (i : Int) by omega)]
      rfl
    · subst c
      rw [decide_eq_true (show (j : Int) ≥ 0 by omega), decide_eq_true (show (j : Int) ≥ (j : Int) by omega), hs]
      simp
    · rw [idx_first e hi c, decide_eq_false (show ¬ (i : Int) ≥ (j : Int) by omega), decide_eq_false (show ¬ (j : Int) < (i : Int) by omega)]
      simp
theorem tb_next {l : List Param} {m : List Pair} {i : Nat} : tb l m (i + 1) = turnB l m i := by
  unfold tb turnB
  congr 1
  exact decide_eq_decide.2 (by omega)
theorem tb_zero {l : List Param} {m : List Pair} : tb l m 0 = false := by
  unfold tb bothIn
  cases h : decide (bothAt l m ≥ 0) with
  | false => rfl
  | true =>
    have := of_decide_eq_true h
    rw [decide_eq_false (by omega)]
    rfl
/-- What has got one of the places has got nothing with its name. -/
theorem part_late {l : List Param} {f : Flat} (hp : partOk l f = true) {i : Nat} (hi : i < l.length) (hb : byName l[i] = true) (ha : pairAt f.nl l[i].name ≥ 0) : ¬ (byPlace l[i] = true ∧ i < f.pl.length) := by
  obtain ⟨ok1, ok2⟩ := part_fits hp
  have o := Ord.of ok1
  have h0 := part_bad hp
  rw [boundB_is ok1 ok2, List.append_eq_nil_iff] at h0
  rcases idx_cases (fun p : Pair => decide (p.name = l[i].name)) f.nl with e | ⟨j, hj, e, hs⟩
  · have e : pairAt f.nl l[i].name = -1 := e
    omega
  · have hs := of_decide_eq_true hs
    obtain ⟨k, hk, e2, h2⟩ := badOf_none.1 (badAll_nil.1 h0.2 _ (List.getElem_mem hj))
    rw [hs, takes_self o hi hb] at e2
    have : i = k := by omega
    subst this
    rcases h2 with h2 | h2
    · simp [byName, h2] at hb
    · exact h2
theorem bothP_late {l : List Param} {f : Flat} (hp : partOk l f = true) {i : Nat} (hi : i < l.length) (hb : bothP f.nl l[i] = true) : ¬ i < f.pl.length := by
  unfold bothP at hb
  simp only [Bool.and_eq_true, decide_eq_true_iff] at hb
  have := part_late hp hi (by simp [byName, hb.1]) hb.2
  intro h
  exact this ⟨by simp [byPlace, hb.1], h⟩
theorem rest_tb {l : List Param} {m : List Pair} (o : Ord l) {i : Nat} (hi : i < l.length) (h : l[i].kind = 2) : tb l m i = bothIn l m := by
  unfold tb
  cases e : bothIn l m with
  | false => rfl
  | true =>
    have e1 := of_decide_eq_true e
    rcases idx_cases (bothP m) l with c | ⟨j, hj, c, hs⟩
    · have c : bothAt l m = -1 := c
      omega
    · have c : bothAt l m = j := c
      unfold bothP at hs
      simp only [Bool.and_eq_true, decide_eq_true_iff] at hs
      have : j < i := by
        rcases Nat.lt_or_ge j i with d | d
        · exact d
        · have := o.up hj d
          omega
      rw [c, decide_eq_true (by omega)]
      rfl
def psOk (l : List Param) (f : Flat) : Bool := partOk l f && okSig (psT l f l.length)
def psF (l : List Param) (f : Flat) : List Param := if psOk l f = true then psT l f l.length else []
theorem ps_parts {l : List Param} {f : Flat} (h : psOk l f = true) : partOk l f = true ∧ okSig (psT l f l.length) = true ∧ psF l f = psT l f l.length := by
  have e : psF l f = psT l f l.length := by unfold psF; rw [if_pos h]
  unfold psOk at h
  rw [Bool.and_eq_true] at h
  exact ⟨h.1, h.2, e⟩
theorem miniG.ps {l : List Param} {f : Flat} : miniG (psF l f) := by
  by_cases h : psOk l f = true
  · obtain ⟨_, ok, e⟩ := ps_parts h
    rw [e]
    exact ⟨Nat.le_trans (okSig_len ok) (by decide), fun x hx => Nat.le_trans (okSig_name ok x hx) (by decide)⟩
  · unfold psF
    rw [if_neg h]
    exact .nil
end Go.Proofs.Ytekkimfdcbgcoab.Am
