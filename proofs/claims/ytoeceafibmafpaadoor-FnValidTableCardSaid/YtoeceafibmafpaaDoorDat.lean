/- The data of the program, what is valid, and how cells hold it. -/
import Derived.Test.YtoeceafibmafpaaDoorMaD
import Derived.Test.YtoeceafibmafpaaDoorProg
namespace Go.Proofs.YtoeceafibmafpaaDoor.Am
open Go
set_option linter.unusedSimpArgs false

structure Param where
  name : ByteArray
  kind : Int
  has : Bool
  dflt : Int
  deriving DecidableEq
structure Pair where
  name : ByteArray
  value : Int
  deriving DecidableEq
structure Flat where
  pl : List Int
  nl : List Pair
  deriving DecidableEq
structure Arg where
  kind : Int
  name : ByteArray
  list : List Int
  pairs : List Pair
  deriving DecidableEq
structure Problem where
  kind : Int
  name : ByteArray
  deriving DecidableEq
structure Slot where
  given : Bool
  list : List Int
  pairs : List Pair
  deriving DecidableEq
structure Place where
  hole : Bool
  value : Int
  deriving DecidableEq
structure Holes where
  pl : List Place
  nl : List Pair
  deriving DecidableEq
structure Shape where
  count : Int
  names : List ByteArray
  deriving DecidableEq
structure Turn where
  fr : ByteArray
  to : ByteArray
  deriving DecidableEq

def encI (n : Int) : List CV := [.int .i64 n]
def encS (s : ByteArray) : List CV := [.str s]
def encP (p : Pair) : List CV := [.str p.name, .int .i64 p.value]
def encQ (p : Param) : List CV := [.str p.name, .int .i64 p.kind, .bool p.has, .int .i64 p.dflt]
def encB (p : Problem) : List CV := [.int .i64 p.kind, .str p.name]
def encL (p : Place) : List CV := [.bool p.hole, .int .i64 p.value]
def encT (p : Turn) : List CV := [.str p.fr, .str p.to]
theorem lenI (x : Int) : (encI x).length = 1 := Eq.trans (b := 1) rfl rfl
theorem lenS (x : ByteArray) : (encS x).length = 1 := Eq.trans (b := 1) rfl rfl
theorem lenP (x : Pair) : (encP x).length = 2 := Eq.trans (b := 2) rfl rfl
theorem lenQ (x : Param) : (encQ x).length = 4 := Eq.trans (b := 4) rfl rfl
theorem lenB (x : Problem) : (encB x).length = 2 := Eq.trans (b := 2) rfl rfl
theorem lenL (x : Place) : (encL x).length = 2 := Eq.trans (b := 2) rfl rfl
theorem lenT (x : Turn) : (encT x).length = 2 := Eq.trans (b := 2) rfl rfl
theorem encI_0 (x : Int) : (encI x)[0]? = some (.int .i64 x) := rfl
theorem encS_0 (x : ByteArray) : (encS x)[0]? = some (.str x) := rfl
theorem encP_0 (x : Pair) : (encP x)[0]? = some (.str x.name) := rfl
theorem encP_1 (x : Pair) : (encP x)[1]? = some (.int .i64 x.value) := rfl
theorem encQ_0 (x : Param) : (encQ x)[0]? = some (.str x.name) := rfl
theorem encQ_1 (x : Param) : (encQ x)[1]? = some (.int .i64 x.kind) := rfl
theorem encQ_2 (x : Param) : (encQ x)[2]? = some (.bool x.has) := rfl
theorem encQ_3 (x : Param) : (encQ x)[3]? = some (.int .i64 x.dflt) := rfl
theorem encB_0 (x : Problem) : (encB x)[0]? = some (.int .i64 x.kind) := rfl
theorem encB_1 (x : Problem) : (encB x)[1]? = some (.str x.name) := rfl
theorem encL_0 (x : Place) : (encL x)[0]? = some (.bool x.hole) := rfl
theorem encL_1 (x : Place) : (encL x)[1]? = some (.int .i64 x.value) := rfl
theorem encT_0 (x : Turn) : (encT x)[0]? = some (.str x.fr) := rfl
theorem encT_1 (x : Turn) : (encT x)[1]? = some (.str x.to) := rfl
abbrev SlI := Sl encI 1 3
abbrev SlS := Sl encS 1 9
abbrev SlP := Sl encP 2 151
abbrev SlQ := Sl encQ 4 83
abbrev NwI := Nw encI 1 3
abbrev NwS := Nw encS 1 9
abbrev NwP := Nw encP 2 151
abbrev NwQ := Nw encQ 4 83

/-! ### small: short enough for all sums -/
def big : Nat := 2 ^ 40
/-- A length that no machine passes. -/
theorem big_lt {n : Nat} (h : n ≤ big) : n < 2 ^ 62 := Nat.lt_of_le_of_lt h (by decide)

def smN {α : Type} (f : α → ByteArray) (l : List α) : Prop := l.length ≤ big ∧ ∀ x ∈ l, (f x).size ≤ big
theorem smN.len {α : Type} {f : α → ByteArray} {l : List α} (h : smN f l) : l.length < 2 ^ 62 := big_lt h.1
theorem smN.at {α : Type} {f : α → ByteArray} {l : List α} (h : smN f l) {i : Nat} (hi : i < l.length) : (f l[i]).size < 2 ^ 62 := big_lt (h.2 _ (List.getElem_mem hi))
theorem smN.take {α : Type} {f : α → ByteArray} {l : List α} (h : smN f l) (i : Nat) : smN f (l.take i) := ⟨by have := h.1; simp; omega, fun x hx => h.2 x (List.mem_of_mem_take hx)⟩
theorem smN.drop {α : Type} {f : α → ByteArray} {l : List α} (h : smN f l) (i : Nat) : smN f (l.drop i) := ⟨by have := h.1; simp; omega, fun x hx => h.2 x (List.mem_of_mem_drop hx)⟩
abbrev smP (l : List Pair) : Prop := smN Pair.name l
abbrev smQ (l : List Param) : Prop := smN Param.name l
structure smF (f : Flat) : Prop where
  pl : f.pl.length ≤ big
  nl : smP f.nl

/-! ### what is valid -/
def okNum (n : Int) : Bool := decide (-99 ≤ n) && decide (n ≤ 99)
def isLow (b : UInt8) : Bool := decide (97 ≤ b.toNat) && decide (b.toNat ≤ 122)
def okName (s : ByteArray) : Bool := s.data.toList.all isLow && (decide (1 ≤ (s.size : Int)) && decide ((s.size : Int) ≤ 6))
def okPair (p : Pair) : Bool := okName p.name && okNum p.value
/-- The index of the first one for which p holds, or -1. -/
def idx {α : Type} (p : α → Bool) (l : List α) : Int := match l.findIdx? p with | some i => i | none => -1
theorem idx_hit {α : Type} {l : List α} {p : α → Bool} {i : Nat} (hi : i < l.length) (h0 : Pre p false l i) (h : p l[i] = true) : idx p l = i := by
  unfold idx
  rw [find_hit hi h0.out h]
theorem idx_none {α : Type} {l : List α} {p : α → Bool} (h0 : Pre p false l l.length) : idx p l = -1 := by
  have h0 := h0.out
  rw [List.take_length] at h0
  unfold idx
  rw [List.findIdx?_eq_none_iff.2 h0]
theorem idx_neg {α : Type} {l : List α} {p : α → Bool} : idx p l < 0 ↔ ∀ x ∈ l, p x = false := by
  unfold idx
  cases h : l.findIdx? p with
  | none => simpa using List.findIdx?_eq_none_iff.1 h
  | some i =>
    obtain ⟨hi, h1, _⟩ := List.findIdx?_eq_some_iff_getElem.1 h
    simp only
    constructor
    · intro h2; omega
    · intro h2
      have := h2 _ (List.getElem_mem hi)
      rw [h1] at this
      simp at this
theorem idx_pos {α : Type} {l : List α} {p : α → Bool} (h : ¬ idx p l < 0) : 0 ≤ idx p l ∧ ∃ hi : (idx p l).toNat < l.length, p l[(idx p l).toNat] = true := by
  unfold idx at h ⊢
  cases h1 : l.findIdx? p with
  | none => rw [h1] at h; simp at h
  | some i =>
    obtain ⟨hi, h2, _⟩ := List.findIdx?_eq_some_iff_getElem.1 h1
    exact ⟨by simp, by simpa using hi, by simpa using h2⟩
theorem idx_lt {α : Type} {l : List α} {p : α → Bool} : idx p l < l.length := by
  unfold idx
  cases h1 : l.findIdx? p with
  | none => simp; omega
  | some i =>
    obtain ⟨hi, h2, _⟩ := List.findIdx?_eq_some_iff_getElem.1 h1
    simpa using hi
theorem idx_ge {α : Type} {l : List α} {p : α → Bool} : -1 ≤ idx p l := by
  unfold idx
  cases h1 : l.findIdx? p <;> simp <;> omega
theorem idx_congr {α : Type} {l : List α} {p q : α → Bool} (h : ∀ x ∈ l, p x = q x) : idx p l = idx q l := by
  unfold idx
  have : l.findIdx? p = l.findIdx? q := by
    induction l with
    | nil => rfl
    | cons x r ih =>
      simp only [List.findIdx?_cons, h x (.head _)]
      rw [ih fun y hy => h y (.tail _ hy)]
  rw [this]

def pairAt (l : List Pair) (s : ByteArray) : Int := idx (fun p => decide (p.name = s)) l
def paramAt (l : List Param) (s : ByteArray) : Int := idx (fun p => decide (p.name = s)) l
def kindAt (l : List Param) (k : Int) : Int := idx (fun p => decide (p.kind = k)) l
/-- The i-th one differs from all ahead of it. -/
def newAt {α : Type} (f : α → ByteArray) (l : List α) (i : Nat) : Bool := match l[i]? with | some x => (l.take i).all fun y => !(decide (f y = f x)) | none => true
def apart {α : Type} (f : α → ByteArray) (l : List α) : Bool := (List.range l.length).all (newAt f l)
def okFlat (f : Flat) : Bool := apart Pair.name f.nl && (f.pl.all okNum && (f.nl.all okPair && (decide ((f.pl.length : Int) ≤ 8) && decide ((f.nl.length : Int) ≤ 8))))
theorem newAt_eq {α : Type} {f : α → ByteArray} {l : List α} {i : Nat} (hi : i < l.length) : newAt f l i = decide (idx (fun y => decide (f y = f l[i])) (l.take i) < 0) := by
  unfold newAt
  rw [List.getElem?_eq_getElem hi]
  simp only
  rw [Bool.eq_iff_iff, List.all_eq_true, decide_eq_true_iff, idx_neg]
  simp
theorem newAt_ge {α : Type} {f : α → ByteArray} {l : List α} {i : Nat} (hi : i < l.length) : decide (idx (fun y => decide (f y = f l[i])) (l.take i) ≥ 0) = !(newAt f l i) := by
  rw [newAt_eq hi, Bool.eq_iff_iff]
  simp
theorem apart_not {α : Type} {f : α → ByteArray} {l : List α} {i : Nat} (hi : i < l.length) (h : newAt f l i = false) : apart f l = false :=
  List.all_eq_false.2 ⟨i, List.mem_range.2 hi, by simp [h]⟩
theorem apart_of {α : Type} {f : α → ByteArray} {l : List α} (h : Upto (newAt f l) l.length) : apart f l = true := h.all

/-! parameters -/
def byPlace (p : Param) : Bool := decide (p.kind = 0) || decide (p.kind = 1)
def byName (p : Param) : Bool := decide (p.kind = 1) || decide (p.kind = 3)
def single (p : Param) : Bool := byPlace p || byName p
def okParam (p : Param) : Bool := okName p.name && ((decide (0 ≤ p.kind) && decide (p.kind ≤ 4)) && (okNum p.dflt && ((p.has || decide (p.dflt = 0)) && (single p || !p.has))))
/-- What a parameter may come behind. -/
def follows (a p : Param) : Bool := !(decide (p.kind < a.kind)) && (!(decide (p.kind = a.kind) && !(single p)) && !(byPlace p && (a.has && !(p.has))))
def stepAt (l : List Param) (i : Nat) : Bool :=
  match l[i]? with
  | some p => okParam p && (newAt Param.name l i && (match i with | 0 => true | j + 1 => match l[j]? with | some a => follows a p | none => true))
  | none => true
def okSig (l : List Param) : Bool := (List.range l.length).all (stepAt l) && decide ((l.length : Int) ≤ 8)
theorem okSig_not {l : List Param} {i : Nat} (hi : i < l.length) (h : stepAt l i = false) : okSig l = false := by
  unfold okSig
  rw [List.all_eq_false.2 ⟨i, List.mem_range.2 hi, by simp [h]⟩]
  rfl
theorem okSig_of {l : List Param} (h : Upto (stepAt l) l.length) : okSig l = decide ((l.length : Int) ≤ 8) := by
  unfold okSig
  rw [h.all, Bool.true_and]
theorem stepAt_zero {l : List Param} (hi : 0 < l.length) : stepAt l 0 = (okParam l[0] && newAt Param.name l 0) := by
  unfold stepAt
  rw [List.getElem?_eq_getElem hi]
  simp
theorem stepAt_succ {l : List Param} {j : Nat} (hi : j + 1 < l.length) : stepAt l (j + 1) = (okParam l[j + 1] && (newAt Param.name l (j + 1) && follows (l[j]'(by omega)) l[j + 1])) := by
  unfold stepAt
  rw [List.getElem?_eq_getElem hi]
  simp only
  rw [List.getElem?_eq_getElem (show j < l.length by omega)]
theorem idx_cases {α : Type} (p : α → Bool) (l : List α) : idx p l = -1 ∨ ∃ j, ∃ hj : j < l.length, idx p l = j ∧ p l[j] = true := by
  by_cases h : idx p l < 0
  · left
    have := idx_ge (p := p) (l := l)
    omega
  · right
    obtain ⟨h1, h2, h3⟩ := idx_pos h
    exact ⟨_, h2, by omega, h3⟩
theorem idx_any {α : Type} {p : α → Bool} {l : List α} : decide (idx p l ≥ 0) = l.any p := by
  rw [Bool.eq_iff_iff, decide_eq_true_iff, List.any_eq_true]
  constructor
  · intro h
    obtain ⟨_, h2, h3⟩ := idx_pos (p := p) (l := l) (by omega)
    exact ⟨_, List.getElem_mem h2, h3⟩
  · rintro ⟨x, h1, h2⟩
    by_cases h : idx p l < 0
    · rw [idx_neg.1 h x h1] at h2
      simp at h2
    · omega
/-- How many have p, among the first i. -/
def cnt {α : Type} (p : α → Bool) (l : List α) (i : Nat) : Nat := (l.take i).countP p
theorem cnt_zero {α : Type} {p : α → Bool} {l : List α} : cnt p l 0 = 0 := by simp [cnt]
theorem cnt_next {α : Type} {p : α → Bool} {l : List α} {i : Nat} (hi : i < l.length) : cnt p l (i + 1) = cnt p l i + if p l[i] = true then 1 else 0 := by
  unfold cnt
  rw [List.take_succ_eq_append_getElem hi, List.countP_append, List.countP_singleton]
theorem cnt_le {α : Type} {p : α → Bool} {l : List α} {i : Nat} : cnt p l i ≤ i := by
  unfold cnt
  exact Nat.le_trans List.countP_le_length (List.length_take_le _ _)
theorem cnt_all {α : Type} {p : α → Bool} {l : List α} : cnt p l l.length = l.countP p := by simp [cnt]
theorem wrap_nat {n : Nat} (hn : n < 2 ^ 62) : IntKind.i64.wrap (n : Int) = n := by rw [i64_wrap (by omega) (by omega)]
theorem wrap_pred {j : Nat} (hn : j < 2 ^ 62) : IntKind.i64.wrap (((j + 1 : Nat) : Int) - 1) = (j : Int) := by rw [i64_wrap (by omega) (by omega)]; omega
def takes (l : List Param) (s : ByteArray) : Int :=
  match l[(paramAt l s).toNat]? with
  | some p => if 0 ≤ paramAt l s ∧ byName p = true then paramAt l s else kindAt l 4
  | none => kindAt l 4
theorem single_eq (p : Param) : single p = (byPlace p || decide (p.kind = 3)) := by
  unfold single byName
  unfold byPlace
  cases decide (p.kind = 0) <;> cases decide (p.kind = 1) <;> simp
/-- Whether the last one found by its place has a default. -/
def optAt (l : List Param) : Nat → Bool
  | 0 => false
  | i + 1 => match l[i]? with | some p => if byPlace p then p.has else optAt l i | none => optAt l i
theorem optAt_next {l : List Param} {i : Nat} (hi : i < l.length) : optAt l (i + 1) = if byPlace l[i] = true then l[i].has else optAt l i := by
  rw [optAt, List.getElem?_eq_getElem hi]
def stepI (l : List Param) (i : Nat) : Bool :=
  match l[i]? with
  | some p => okParam p && (!(byPlace p && (optAt l i && !(p.has))) && ((match i with | 0 => true | j + 1 => match l[j]? with | some a => !(decide (p.kind < a.kind)) && !(decide (p.kind = a.kind) && !(single p)) | none => true) && newAt Param.name l i))
  | none => true
theorem stepI_zero {l : List Param} (hi : 0 < l.length) : stepI l 0 = (okParam l[0] && newAt Param.name l 0) := by
  unfold stepI
  rw [List.getElem?_eq_getElem hi]
  simp [optAt]
theorem stepI_succ {l : List Param} {j : Nat} (hi : j + 1 < l.length) : stepI l (j + 1) = (okParam l[j + 1] && (!(byPlace l[j + 1] && (optAt l (j + 1) && !(l[j + 1].has))) && ((!(decide (l[j + 1].kind < (l[j]'(by omega)).kind)) && !(decide (l[j + 1].kind = (l[j]'(by omega)).kind) && !(single l[j + 1]))) && newAt Param.name l (j + 1)))) := by
  unfold stepI
  rw [List.getElem?_eq_getElem hi]
  simp only
  rw [List.getElem?_eq_getElem (show j < l.length by omega)]
theorem stepI_eq {l : List Param} {i : Nat} (hi : i < l.length) (hu : Upto (stepAt l) i) : stepI l i = stepAt l i := by
  cases i with
  | zero => rw [stepI_zero hi, stepAt_zero hi]
  | succ j =>
    rw [stepI_succ hi, stepAt_succ hi, optAt_next (by omega)]
    have ha := hu.out j (by omega)
    have hok : okParam (l[j]'(by omega)) = true := by
      cases j with
      | zero => rw [stepAt_zero (by omega)] at ha; simp at ha; exact ha.1
      | succ k => rw [stepAt_succ (by omega)] at ha; simp at ha; exact ha.1
    cases h1 : okParam l[j + 1] with
    | false => simp
    | true =>
      cases h2 : newAt Param.name l (j + 1) with
      | false => simp
      | true =>
        unfold follows
        by_cases h3 : l[j + 1].kind < (l[j]'(by omega)).kind
        · simp [h3]
        · by_cases h4 : byPlace l[j + 1] = true
          · have h5 : byPlace (l[j]'(by omega)) = true := by
              have k1 : 0 ≤ (l[j]'(by omega)).kind := by
                unfold okParam at hok
                simp at hok
                omega
              unfold byPlace at h4 ⊢
              simp at h4 ⊢
              omega
            simp [h3, h4, h5, Bool.and_comm]
          · simp [h3, h4]
theorem takes_none {l : List Param} {s : ByteArray} (h : paramAt l s = -1) : takes l s = kindAt l 4 := by
  unfold takes
  rw [h]
  split
  · rw [if_neg (by simp)]
  · rfl
theorem takes_some {l : List Param} {s : ByteArray} {j : Nat} (hj : j < l.length) (h : paramAt l s = j) : takes l s = if byName l[j] = true then (j : Int) else kindAt l 4 := by
  unfold takes
  rw [h, Int.toNat_natCast, List.getElem?_eq_getElem hj]
  simp

/-! ### calls over each other -/
def putP (l : List Pair) (p : Pair) : List Pair := match l.findIdx? (fun q => decide (q.name = p.name)) with | some j => l.set j p | none => l ++ [p]
theorem putP_none {l : List Pair} {p : Pair} (h : pairAt l p.name = -1) : putP l p = l ++ [p] := by
  unfold putP
  unfold pairAt idx at h
  cases hf : l.findIdx? (fun q => decide (q.name = p.name)) with
  | none => rfl
  | some i => rw [hf] at h; simp at h
theorem putP_some {l : List Pair} {p : Pair} {j : Nat} (h : pairAt l p.name = j) : putP l p = l.set j p := by
  unfold putP
  unfold pairAt idx at h
  cases hf : l.findIdx? (fun q => decide (q.name = p.name)) with
  | none => rw [hf] at h; simp only at h; omega
  | some i =>
    rw [hf] at h
    simp only at h
    have : i = j := by omega
    subst this
    rfl
theorem putP_len (l : List Pair) (p : Pair) : (putP l p).length ≤ l.length + 1 := by
  unfold putP
  split
  · simp
  · simp
theorem putP_mem {l : List Pair} {p x : Pair} (h : x ∈ putP l p) : x ∈ l ∨ x = p := by
  unfold putP at h
  split at h
  · exact List.mem_or_eq_of_mem_set h
  · simpa using h
def putAll (l m : List Pair) : List Pair := m.foldl putP l
theorem putAll_len (m : List Pair) : ∀ l : List Pair, (putAll l m).length ≤ l.length + m.length := by
  induction m with
  | nil => intro l; simp [putAll]
  | cons x r ih =>
    intro l
    have h1 := ih (putP l x)
    have h2 := putP_len l x
    simp only [putAll, List.foldl_cons, List.length_cons] at h1 ⊢
    omega
theorem putAll_mem {m : List Pair} {x : Pair} : ∀ {l : List Pair}, x ∈ putAll l m → x ∈ l ∨ x ∈ m := by
  induction m with
  | nil => intro l h; exact .inl h
  | cons y r ih =>
    intro l h
    rcases ih (l := putP l y) h with h | h
    · rcases putP_mem h with h | h
      · exact .inl h
      · exact .inr (by rw [h]; exact List.mem_cons_self)
    · exact .inr (List.mem_cons_of_mem _ h)
theorem putAll_next {l m : List Pair} {i : Nat} (hi : i < m.length) : putAll l (m.take (i + 1)) = putP (putAll l (m.take i)) m[i] := by
  unfold putAll
  rw [List.take_succ_eq_append_getElem hi, List.foldl_append]
  rfl
theorem putAll_sm {l m : List Pair} {i : Nat} (hl : l.length + m.length ≤ big) (h1 : ∀ x ∈ l, x.name.size ≤ big) (h2 : ∀ x ∈ m, x.name.size ≤ big) : smP (putAll l (m.take i)) := by
  refine ⟨?_, fun x hx => ?_⟩
  · have := putAll_len (m.take i) l
    have : (m.take i).length ≤ m.length := by simp; omega
    omega
  · rcases putAll_mem hx with h | h
    · exact h1 x h
    · exact h2 x (List.mem_of_mem_take h)
def overF (f g : Flat) : Flat := ⟨f.pl ++ g.pl, putAll f.nl g.nl⟩
/-- A flat call, or nothing. -/
def orF (o : Option Flat) : Flat := o.getD ⟨[], []⟩
def okF (f : Flat) : Option Flat := if okFlat f = true then some f else none
def OverFlat (f g : Flat) : Option Flat := if okFlat f = true ∧ okFlat g = true then okF (overF f g) else none
structure NwF (h0 h : H) (p n : CV) (f : Flat) : Prop where
  pl : NwI h0 h (.one p) f.pl
  nl : NwP h0 h (.one n) f.nl
  sep : Sep (.one p) (.one n)
theorem NwF.grow {h0 h h1 : H} {p n : CV} {f : Flat} (hf : NwF h0 h p n f) (g : Grow h h1) : NwF h0 h1 p n f := ⟨hf.pl.grow g, hf.nl.grow g, hf.sep⟩
theorem NwF.from {h0 h h1 : H} {p n : CV} {f : Flat} (hf : NwF h1 h p n f) (g : h0.n ≤ h1.n) : NwF h0 h p n f := ⟨hf.pl.from g, hf.nl.from g, hf.sep⟩
theorem NwF.nil {h0 h : H} : NwF h0 h (.sl none 0 (some 0)) (.sl none 0 (some 0)) ⟨[], []⟩ := ⟨.nil, .nil, Sep.nil⟩
theorem NwF.scalar {h0 h : H} {p n : CV} {f : Flat} (hf : NwF h0 h p n f) (hs : (AV.agg [p, n]).scalar = true) (h2 : H) : NwF h0 h2 p n f := by
  simp [AV.scalar] at hs
  exact ⟨hf.pl.scalar hs.1 h2, hf.nl.scalar hs.2 h2, hf.sep⟩
/-- A flat call that is read. -/
structure SlF (h : H) (p n : CV) (f : Flat) : Prop where
  pl : SlI h (.one p) f.pl
  nl : SlP h (.one n) f.nl
theorem SlF.grow {h h1 : H} {p n : CV} {f : Flat} (hf : SlF h p n f) (g : Grow h h1) : SlF h1 p n f := ⟨hf.pl.grow g, hf.nl.grow g⟩
theorem NwF.sl {h0 h : H} {p n : CV} {f : Flat} (hf : NwF h0 h p n f) : SlF h p n f := ⟨hf.pl.sl lenI, hf.nl.sl lenP⟩

theorem NwF.mid {h0 h h2 : H} {p n : CV} {f : Flat} {a b : Nat} (hf : NwF h0 h p n f) (m : Mid a b h h2) (hb : b ≤ h0.n) : NwF h0 h2 p n f := ⟨hf.pl.past m hb, hf.nl.past m hb, hf.sep⟩

structure NwG (h0 h : H) (p : CV) (l : List Param) : Prop where
  out : NwQ h0 h (.one p) l
structure SlG (h : H) (p : CV) (l : List Param) : Prop where
  out : SlQ h (.one p) l
theorem NwG.grow {h0 h h1 : H} {p : CV} {l : List Param} (a : NwG h0 h p l) (g : Grow h h1) : NwG h0 h1 p l := ⟨a.out.grow g⟩
theorem NwG.from {h0 h h1 : H} {p : CV} {l : List Param} (a : NwG h1 h p l) (g : h0.n ≤ h1.n) : NwG h0 h p l := ⟨a.out.from g⟩
theorem NwG.mid {h0 h h2 : H} {p : CV} {l : List Param} {a b : Nat} (x : NwG h0 h p l) (m : Mid a b h h2) (hb : b ≤ h0.n) : NwG h0 h2 p l := ⟨x.out.past m hb⟩
theorem NwG.sl {h0 h : H} {p : CV} {l : List Param} (a : NwG h0 h p l) : SlG h p l := ⟨a.out.sl lenQ⟩
theorem SlG.grow {h h1 : H} {p : CV} {l : List Param} (a : SlG h p l) (g : Grow h h1) : SlG h1 p l := ⟨a.out.grow g⟩
theorem NwG.nil {h0 h : H} : NwG h0 h (.sl none 0 (some 0)) [] := ⟨.nil⟩
theorem NwG.scalar {h0 h : H} {p : CV} {l : List Param} (a : NwG h0 h p l) (hs : p.scalar = true) (h2 : H) : NwG h0 h2 p l := ⟨a.out.scalar (by simpa [AV.scalar] using hs) h2⟩

/-! ### turns -/
/-- The first i are mapped. -/
def mapT {α : Type} (f : α → α) (l : List α) (i : Nat) : List α := (l.take i).map f ++ l.drop i
theorem mapT_zero {α : Type} {f : α → α} {l : List α} : mapT f l 0 = l := by simp [mapT]
theorem mapT_all {α : Type} {f : α → α} {l : List α} : mapT f l l.length = l.map f := by simp [mapT]
theorem mapT_len {α : Type} {f : α → α} {l : List α} {i : Nat} (hi : i ≤ l.length) : (mapT f l i).length = l.length := by simp [mapT]; omega
theorem mapT_at {α : Type} {f : α → α} {l : List α} {i : Nat} (hi : i < l.length) (hj : i < (mapT f l i).length) : (mapT f l i)[i] = l[i] := by
  have e : (mapT f l i)[i]? = l[i]? := by
    unfold mapT
    rw [List.getElem?_append_right (by simp; omega)]
    simp [Nat.min_eq_left (Nat.le_of_lt hi)]
  rw [List.getElem?_eq_getElem hi, List.getElem?_eq_getElem hj] at e
  exact Option.some.inj e
theorem mapT_set {α : Type} {f : α → α} {l : List α} {i : Nat} (hi : i < l.length) : (mapT f l i).set i (f l[i]) = mapT f l (i + 1) := by
  unfold mapT
  rw [List.set_append_right _ _ (by simp; omega), List.take_succ_eq_append_getElem hi, List.map_append]
  simp only [List.length_map, List.length_take, Nat.min_eq_left (Nat.le_of_lt hi), Nat.sub_self, List.map_cons, List.map_nil, List.append_assoc, List.cons_append, List.nil_append]
  rw [List.drop_eq_getElem_cons hi]
  rfl
def turnAt (l : List Turn) (s : ByteArray) : Int := idx (fun t => decide (t.fr = s)) l
def okTurnAt (l : List Turn) (i : Nat) : Bool :=
  match l[i]? with
  | some t => okName t.fr && (l.any (fun u => decide (u.fr = t.to)) && !((l.take i).any fun u => decide (u.fr = t.fr) || decide (u.to = t.to)))
  | none => true
def okTurns (l : List Turn) : Bool := (List.range l.length).all (okTurnAt l) && decide ((l.length : Int) ≤ 8)
theorem okTurnAt_eq {l : List Turn} {i : Nat} (hi : i < l.length) : okTurnAt l i = (okName l[i].fr && (l.any (fun u => decide (u.fr = l[i].to)) && !((l.take i).any fun u => decide (u.fr = l[i].fr) || decide (u.to = l[i].to)))) := by
  unfold okTurnAt
  rw [List.getElem?_eq_getElem hi]
theorem okTurns_not {l : List Turn} {i : Nat} (hi : i < l.length) (h : okTurnAt l i = false) : okTurns l = false := by
  unfold okTurns
  rw [List.all_eq_false.2 ⟨i, List.mem_range.2 hi, by simp [h]⟩]
  rfl
theorem okTurns_of {l : List Turn} (h : Upto (okTurnAt l) l.length) : okTurns l = decide ((l.length : Int) ≤ 8) := by
  unfold okTurns
  rw [h.all, Bool.true_and]
def turned (l : List Turn) (s : ByteArray) : ByteArray :=
  match l[(turnAt l s).toNat]? with
  | some t => if 0 ≤ turnAt l s then t.to else s
  | none => s
theorem turned_none {l : List Turn} {s : ByteArray} (h : turnAt l s = -1) : turned l s = s := by
  unfold turned
  rw [h]
  split
  · rw [if_neg (by simp)]
  · rfl
theorem turned_some {l : List Turn} {s : ByteArray} {j : Nat} (hj : j < l.length) (h : turnAt l s = j) : turned l s = l[j].to := by
  unfold turned
  rw [h, Int.toNat_natCast, List.getElem?_eq_getElem hj]
  simp
theorem turned_size {l : List Turn} {s : ByteArray} {n : Nat} (hl : ∀ x ∈ l, x.fr.size ≤ n ∧ x.to.size ≤ n) (hs : s.size ≤ n) : (turned l s).size ≤ n := by
  unfold turned
  split
  · rename_i t ht
    split
    · exact (hl t (List.mem_of_getElem? ht)).2
    · exact hs
  · exact hs
def turnQ (l : List Turn) (p : Param) : Param := { p with name := turned l p.name }
def turnP (l : List Turn) (p : Pair) : Pair := { p with name := turned l p.name }
def turnSig (l : List Turn) (s : List Param) : List Param := if okTurns l = true ∧ okSig s = true then s.map (turnQ l) else []
def turnFlat (l : List Turn) (f : Flat) : Flat := if okTurns l = true ∧ okFlat f = true then ⟨f.pl, f.nl.map (turnP l)⟩ else ⟨[], []⟩

/-! ### calls of flat calls -/
def noName : ByteArray := strOfNums []
def plainA (n : Int) : Arg := ⟨0, noName, [n], []⟩
def nameA (p : Pair) : Arg := ⟨2, p.name, [p.value], []⟩
def callOf (f : Flat) : List Arg := if okFlat f = true then f.pl.map plainA ++ f.nl.map nameA else []
def starPl (f : Flat) : List Arg := if 0 < f.pl.length then [⟨1, noName, f.pl, []⟩] else []
def starNl (f : Flat) : List Arg := if 0 < f.nl.length then [⟨3, noName, [], f.nl⟩] else []
def starCall (f : Flat) : List Arg := if okFlat f = true then starPl f ++ starNl f else []

/-! ### holes -/
def okPlace (p : Place) : Bool := !(p.hole && !(decide (p.value = 0))) && okNum p.value
def okHoles (f : Holes) : Bool := f.pl.all okPlace && (decide ((f.pl.length : Int) ≤ 8) && okFlat ⟨[], f.nl⟩)
def countH (l : List Place) : Nat := l.countP (fun p => p.hole)
/-- What comes into the place j. -/
def fillE (l g : List Place) (j : Nat) : Place :=
  match l[j]? with
  | some p => if p.hole = true then g[cnt (fun p => p.hole) l j]?.getD p else p
  | none => ⟨false, 0⟩
def fillT (l g : List Place) (i : Nat) : List Place := (List.range i).map (fillE l g) ++ l.drop i
def fillPl (l g : List Place) : List Place := (List.range l.length).map (fillE l g) ++ g.drop (countH l)
def shiftH (f g : Holes) : Holes := ⟨fillPl f.pl g.pl, putAll f.nl g.nl⟩
def ShiftHoles (f g : Holes) : Option Holes := if okHoles f = true ∧ okHoles g = true ∧ countH f.pl ≤ g.pl.length then (if okHoles (shiftH f g) = true then some (shiftH f g) else none) else none
theorem fillT_zero {l g : List Place} : fillT l g 0 = l := by simp [fillT]
theorem fillT_len {l g : List Place} {i : Nat} (hi : i ≤ l.length) : (fillT l g i).length = l.length := by simp [fillT]; omega
theorem fillT_all {l g : List Place} : fillT l g l.length = (List.range l.length).map (fillE l g) := by simp [fillT]
theorem fillT_at {l g : List Place} {i : Nat} (hi : i < l.length) (hj : i < (fillT l g i).length) : (fillT l g i)[i] = l[i] := by
  have e : (fillT l g i)[i]? = l[i]? := by
    unfold fillT
    rw [List.getElem?_append_right (by simp)]
    simp
  rw [List.getElem?_eq_getElem hi, List.getElem?_eq_getElem hj] at e
  exact Option.some.inj e
theorem fillT_set {l g : List Place} {i : Nat} (hi : i < l.length) : (fillT l g i).set i (fillE l g i) = fillT l g (i + 1) := by
  unfold fillT
  rw [List.set_append_right _ _ (by simp), List.range_succ, List.map_append]
  simp only [List.length_map, List.length_range, Nat.sub_self, List.map_cons, List.map_nil, List.append_assoc, List.cons_append, List.nil_append]
  rw [List.drop_eq_getElem_cons hi]
  rfl
theorem fillE_hole {l g : List Place} {i : Nat} (hi : i < l.length) (b : l[i].hole = true) (hk : cnt (fun p => p.hole) l i < g.length) : fillE l g i = g[cnt (fun p => p.hole) l i] := by
  unfold fillE
  rw [List.getElem?_eq_getElem hi]
  simp only
  rw [if_pos b, List.getElem?_eq_getElem hk]
  rfl
theorem fillE_plain {l g : List Place} {i : Nat} (hi : i < l.length) (b : l[i].hole = false) : fillE l g i = l[i] := by
  unfold fillE
  rw [List.getElem?_eq_getElem hi]
  simp only
  rw [if_neg (by simp [b])]
theorem fillT_plain {l g : List Place} {i : Nat} (hi : i < l.length) (b : l[i].hole = false) : fillT l g (i + 1) = fillT l g i := by
  rw [← fillT_set hi, fillE_plain hi b]
  have hj : i < (fillT l g i).length := by rw [fillT_len (by omega)]; exact hi
  rw [← fillT_at hi hj]
  exact List.set_getElem_self hj
def orH (o : Option Holes) : Holes := o.getD ⟨[], []⟩

/-! ### sizes -/
def szr (left : Int) (w : Nat) : Int := if left - (w : Int) < 0 then -1 else left - (w : Int)
theorem szr_lt {left : Int} {w : Nat} : szr left w < 0 ↔ left - (w : Int) < 0 := by unfold szr; split <;> omega
def wsum {α : Type} (f : α → Nat) (l : List α) (i : Nat) : Nat := ((l.take i).map f).sum
theorem wsum_zero {α : Type} {f : α → Nat} {l : List α} : wsum f l 0 = 0 := by simp [wsum]
theorem wsum_next {α : Type} {f : α → Nat} {l : List α} {i : Nat} (hi : i < l.length) : wsum f l (i + 1) = wsum f l i + f l[i] := by
  unfold wsum
  rw [List.take_succ_eq_append_getElem hi, List.map_append, List.sum_append, List.map_singleton, List.sum_singleton]
theorem wsum_le {α : Type} {f : α → Nat} {l : List α} {i j : Nat} (hij : i ≤ j) : wsum f l i ≤ wsum f l j := by
  induction hij with
  | refl => exact Nat.le_refl _
  | step hij ih =>
    rename_i j
    refine Nat.le_trans ih ?_
    by_cases hj : j < l.length
    · rw [wsum_next hj]
      omega
    · unfold wsum
      rw [List.take_of_length_le (by omega), List.take_of_length_le (by omega)]
      exact Nat.le_refl _
theorem wsum_mem {α : Type} {f : α → Nat} {l : List α} {x : α} (hx : x ∈ l) : f x ≤ wsum f l l.length := by
  obtain ⟨i, hi, rfl⟩ := List.getElem_of_mem hx
  have := wsum_le (f := f) (l := l) (show i + 1 ≤ l.length by omega)
  rw [wsum_next hi] at this
  omega
def wtL {α : Type} (f : α → Nat) (l : List α) : Nat := l.length + wsum f l l.length
def wtP (p : Pair) : Nat := p.name.size
def wtQ (p : Param) : Nat := p.name.size
def wtS (s : ByteArray) : Nat := s.size
def wtT (t : Turn) : Nat := t.fr.size + t.to.size
def wtF (f : Flat) : Nat := f.pl.length + wtL wtP f.nl
def wtH (f : Holes) : Nat := f.pl.length + wtL wtP f.nl
def cellsF (f : Flat) : Nat := f.pl.length + 2 * f.nl.length
def cellsH (f : Holes) : Nat := 2 * f.pl.length + 2 * f.nl.length
theorem szr_then {left : Int} {a b : Nat} (h : 0 ≤ szr left a) : szr (szr left a) b = szr left (a + b) := by
  unfold szr at h ⊢
  split at h
  · omega
  · rename_i h1
    rw [if_neg h1]
    split <;> split <;> omega
theorem szr_neg {left : Int} {a b : Nat} (h : szr left a < 0) : szr left (a + b) = -1 := by
  unfold szr at h ⊢
  split at h
  · rw [if_pos (by omega)]
  · omega
theorem szr_le {left : Int} {a : Nat} (h : 0 ≤ left) : szr left a ≤ left := by unfold szr; split <;> omega
theorem szr_m1 {left : Int} {a : Nat} (h : szr left a < 0) : szr left a = -1 := by
  have := szr_neg (b := 0) h
  rwa [Nat.add_zero] at this
theorem szr_ge {left : Int} {w : Nat} (h : ¬ szr left w < 0) : szr left w = left - (w : Int) ∧ (w : Int) ≤ left := by
  rw [szr_lt] at h
  exact ⟨by unfold szr; rw [if_neg h], by omega⟩
theorem wtP_sm {l : List Pair} {n : Nat} (h : wtL wtP l ≤ n) : l.length ≤ n ∧ ∀ x ∈ l, x.name.size ≤ n := by
  unfold wtL at h
  exact ⟨by omega, fun x hx => by have := wsum_mem (f := wtP) hx; unfold wtP at this h; omega⟩
theorem wtQ_sm {l : List Param} {n : Nat} (h : wtL wtQ l ≤ n) : l.length ≤ n ∧ ∀ x ∈ l, x.name.size ≤ n := by
  unfold wtL at h
  exact ⟨by omega, fun x hx => by have := wsum_mem (f := wtQ) hx; unfold wtQ at this h; omega⟩
structure miniF (f : Flat) : Prop where
  pl : f.pl.length ≤ 1048576
  nl : f.nl.length ≤ 1048576
  nm : ∀ x ∈ f.nl, x.name.size ≤ 1048576
theorem wtF_sm {f : Flat} (h : wtF f ≤ 1048576) : miniF f := by
  unfold wtF at h
  have h2 := wtP_sm (l := f.nl) (n := 1048576) (by omega)
  exact ⟨by omega, h2.1, h2.2⟩
theorem miniF.sm {f : Flat} (h : miniF f) : smF f := ⟨Nat.le_trans h.pl (by decide), Nat.le_trans h.nl (by decide), fun x hx => Nat.le_trans (h.nm x hx) (by decide)⟩
theorem okFlat_sm {f : Flat} (h : okFlat f = true) : f.pl.length ≤ 8 ∧ f.nl.length ≤ 8 ∧ ∀ x ∈ f.nl, x.name.size ≤ 6 := by
  unfold okFlat at h
  simp only [Bool.and_eq_true, decide_eq_true_iff, List.all_eq_true] at h
  refine ⟨by omega, by omega, fun x hx => ?_⟩
  have := h.2.2.1 x hx
  unfold okPair okName at this
  simp only [Bool.and_eq_true, decide_eq_true_iff] at this
  omega
theorem miniF.of {f : Flat} (h : okFlat f = true) : miniF f := by
  obtain ⟨h1, h2, h3⟩ := okFlat_sm h
  exact ⟨by omega, by omega, fun x hx => by have := h3 x hx; omega⟩
theorem miniF.nil : miniF ⟨[], []⟩ := ⟨by simp, by simp, fun x hx => by simp at hx⟩
theorem miniF.okF {f : Flat} : miniF (orF (okF f)) := by
  unfold orF Am.okF
  split
  · exact .of ‹_›
  · exact .nil
theorem miniF.over {f g : Flat} : miniF (orF (OverFlat f g)) := by
  unfold OverFlat
  split
  · exact .okF
  · exact .nil
def wtG (l : List Param) : Nat := wtL wtQ l
def wtU (l : List Turn) : Nat := wtL wtT l
structure miniG (l : List Param) : Prop where
  len : l.length ≤ 1048576
  nm : ∀ x ∈ l, x.name.size ≤ 1048576
structure miniU (l : List Turn) : Prop where
  len : l.length ≤ 1048576
  nm : ∀ x ∈ l, x.fr.size ≤ 1048576 ∧ x.to.size ≤ 1048576
structure miniH (f : Holes) : Prop where
  pl : f.pl.length ≤ 1048576
  nl : f.nl.length ≤ 1048576
  nm : ∀ x ∈ f.nl, x.name.size ≤ 1048576
theorem wtG_sm {l : List Param} (h : wtG l ≤ 1048576) : miniG l := ⟨(wtQ_sm h).1, (wtQ_sm h).2⟩
theorem wtU_sm {l : List Turn} (h : wtU l ≤ 1048576) : miniU l := by
  unfold wtU wtL at h
  exact ⟨by omega, fun x hx => by have := wsum_mem (f := wtT) hx; unfold wtT at this h; omega⟩
theorem wtH_sm {f : Holes} (h : wtH f ≤ 1048576) : miniH f := by
  unfold wtH at h
  have h2 := wtP_sm (l := f.nl) (n := 1048576) (by omega)
  exact ⟨by omega, h2.1, h2.2⟩
theorem miniG.sm {l : List Param} (h : miniG l) : smQ l := ⟨Nat.le_trans h.len (by decide), fun x hx => Nat.le_trans (h.nm x hx) (by decide)⟩
structure smH (f : Holes) : Prop where
  pl : f.pl.length ≤ big
  nl : smP f.nl
theorem miniH.sm {f : Holes} (h : miniH f) : smH f := ⟨Nat.le_trans h.pl (by decide), Nat.le_trans h.nl (by decide), fun x hx => Nat.le_trans (h.nm x hx) (by decide)⟩
theorem miniG.nil : miniG [] := ⟨by simp, fun x hx => by simp at hx⟩
theorem miniH.nil : miniH ⟨[], []⟩ := ⟨by simp, by simp, fun x hx => by simp at hx⟩
def cellsG (l : List Param) : Nat := 4 * l.length
def cellsU (l : List Turn) : Nat := 2 * l.length
theorem cellsG_le {l : List Param} (h : miniG l) : cellsG l ≤ 4194304 := by
  have := h.len
  unfold cellsG
  omega
theorem cellsU_le {l : List Turn} (h : miniU l) : cellsU l ≤ 4194304 := by
  have := h.len
  unfold cellsU
  omega
theorem cellsH_le {f : Holes} (h : miniH f) : cellsH f ≤ 4194304 := by
  have := h.pl
  have := h.nl
  unfold cellsH
  omega
theorem miniG.turn {l : List Turn} {s : List Param} (h : miniU l) (k : miniG s) : miniG (turnSig l s) := by
  unfold turnSig
  split
  · refine ⟨by simpa using k.len, fun x hx => ?_⟩
    obtain ⟨y, hy, rfl⟩ := List.mem_map.1 hx
    exact turned_size h.nm (k.nm y hy)
  · exact .nil
theorem miniF.turn {l : List Turn} {f : Flat} (h : miniU l) (k : miniF f) : miniF (turnFlat l f) := by
  unfold turnFlat
  split
  · refine ⟨k.pl, by simpa using k.nl, fun x hx => ?_⟩
    obtain ⟨y, hy, rfl⟩ := List.mem_map.1 hx
    exact turned_size h.nm (k.nm y hy)
  · exact .nil
theorem miniU.lt {l : List Turn} (h : miniU l) : l.length < 2 ^ 62 := Nat.lt_of_le_of_lt h.len (by decide)
theorem miniU.at {l : List Turn} (h : miniU l) {i : Nat} (hi : i < l.length) : l[i].fr.size < 2 ^ 62 := Nat.lt_of_le_of_lt (h.nm _ (List.getElem_mem hi)).1 (by decide)
theorem cellsF_le {f : Flat} (h : miniF f) : cellsF f ≤ 4194304 := by
  have := h.pl
  have := h.nl
  unfold cellsF
  omega
/-- What came in is no longer than a machine's memory. -/
def far : Nat := 9223372036854775807

/-! ### marks -/
def digit (k : Nat) : Int := IntKind.u8.wrap (IntKind.i64.wrap (48 + (k : Int).tmod 10))
def mDig (k : Nat) (out : ByteArray) : ByteArray := if _h : k = 0 then out else mDig (k / 10) (strOfNums [digit k] ++ out)
termination_by k
decreasing_by omega
def mtxt (k : Int) : ByteArray := if k ≤ 0 then strOfNums [109, 48] else strOfNums [109] ++ mDig k.toNat (strOfNums [])
def mBool (k : Int) : Bool := decide (k.tmod 3 = 0)
def mkI (k : Int) : Int := k
def mkS (k : Int) : ByteArray := mtxt k
def mkP (k : Int) : Pair := ⟨mtxt k, k + 1⟩
def mkQ (k : Int) : Param := ⟨mtxt k, k + 1, mBool (k + 2), k + 3⟩
def mkB (k : Int) : Problem := ⟨k, mtxt (k + 1)⟩
def mkL (k : Int) : Place := ⟨mBool k, k + 1⟩
def mkT (k : Int) : Turn := ⟨mtxt k, mtxt (k + 1)⟩

def mkF (k : Int) (f : Flat) : Flat := ⟨markL mkI 1 k f.pl.length, markL mkP 2 (k + ((1 * f.pl.length : Nat) : Int)) f.nl.length⟩
def mkG (k : Int) (l : List Param) : List Param := markL mkQ 4 k l.length
def mkU (k : Int) (l : List Turn) : List Turn := markL mkT 2 k l.length
def mkH (k : Int) (f : Holes) : Holes := ⟨markL mkL 2 k f.pl.length, markL mkP 2 (k + ((2 * f.pl.length : Nat) : Int)) f.nl.length⟩

/-! ### equal structs -/
theorem eqQ {n : Bool} {p q : Param} : eqstO n [2, 1, 0, 1] (.agg (encQ p)) (.agg (encQ q)) = some (ib (decide (p = q) != n)) := by
  obtain ⟨a1, a2, a3, a4⟩ := p
  obtain ⟨b1, b2, b3, b4⟩ := q
  simp only [eqstO, encQ, eqK, str_beq, if_true, Option.map_some, Param.mk.injEq]
  refine congrArg (fun b => some (ib (b != n))) ?_
  rw [Bool.eq_iff_iff]
  simp
theorem eqP {n : Bool} {p q : Pair} : eqstO n [2, 1] (.agg (encP p)) (.agg (encP q)) = some (ib (decide (p = q) != n)) := by
  obtain ⟨a1, a2⟩ := p
  obtain ⟨b1, b2⟩ := q
  simp only [eqstO, encP, eqK, str_beq, if_true, Option.map_some, Pair.mk.injEq]
  refine congrArg (fun b => some (ib (b != n))) ?_
  rw [Bool.eq_iff_iff]
  simp
theorem eqB {n : Bool} {p q : Problem} : eqstO n [1, 2] (.agg (encB p)) (.agg (encB q)) = some (ib (decide (p = q) != n)) := by
  obtain ⟨a1, a2⟩ := p
  obtain ⟨b1, b2⟩ := q
  simp only [eqstO, encB, eqK, str_beq, if_true, Option.map_some, Problem.mk.injEq]
  refine congrArg (fun b => some (ib (b != n))) ?_
  rw [Bool.eq_iff_iff]
  simp
theorem eqL {n : Bool} {p q : Place} : eqstO n [0, 1] (.agg (encL p)) (.agg (encL q)) = some (ib (decide (p = q) != n)) := by
  obtain ⟨a1, a2⟩ := p
  obtain ⟨b1, b2⟩ := q
  simp only [eqstO, encL, eqK, str_beq, if_true, Option.map_some, Place.mk.injEq]
  refine congrArg (fun b => some (ib (b != n))) ?_
  rw [Bool.eq_iff_iff]
  simp
theorem eqT {n : Bool} {p q : Turn} : eqstO n [2, 2] (.agg (encT p)) (.agg (encT q)) = some (ib (decide (p = q) != n)) := by
  obtain ⟨a1, a2⟩ := p
  obtain ⟨b1, b2⟩ := q
  simp only [eqstO, encT, eqK, str_beq, if_true, Option.map_some, Turn.mk.injEq]
  refine congrArg (fun b => some (ib (b != n))) ?_
  rw [Bool.eq_iff_iff]
  simp
/-! ### equal lists -/
def eqAt {α : Type} [DecidableEq α] (l m : List α) (i : Nat) : Bool := decide (l[i]? = m[i]?)
theorem eqAt_eq {α : Type} [DecidableEq α] {l m : List α} {i : Nat} (hi : i < l.length) (hm : i < m.length) : eqAt l m i = decide (l[i] = m[i]) := by
  unfold eqAt
  rw [List.getElem?_eq_getElem hi, List.getElem?_eq_getElem hm]
  simp
theorem eq_of_upto {α : Type} [DecidableEq α] {l m : List α} (hl : l.length = m.length) (hu : Upto (eqAt l m) l.length) : l = m := by
  refine List.ext_getElem? fun i => ?_
  by_cases hi : i < l.length
  · exact of_decide_eq_true (hu.out i hi)
  · rw [List.getElem?_eq_none (by omega), List.getElem?_eq_none (by omega)]
theorem ne_at {α : Type} [DecidableEq α] {l m : List α} {i : Nat} (h : eqAt l m i = false) : decide (l = m) = false := by
  refine decide_eq_false fun e => ?_
  subst e
  simp [eqAt] at h
theorem ne_len {α : Type} [DecidableEq α] {l m : List α} (h : decide ((l.length : Int) = (m.length : Int)) = false) : decide (l = m) = false := by
  refine decide_eq_false fun e => ?_
  subst e
  simp at h
theorem eq_len {α : Type} {l m : List α} (h : decide ((l.length : Int) = (m.length : Int)) = true) : l.length = m.length := by
  have := of_decide_eq_true h
  omega
end Go.Proofs.YtoeceafibmafpaaDoor.Am
