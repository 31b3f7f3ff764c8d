/- The abstract machine: what a step leaves as it was, in the machine's heap and in the model's; a block that is laid, cells that are written. -/
import Derived.Test.YtnphlonhogcedaaAmPureD
namespace Go.Proofs.Ytnphlonhogcedaa.Am
open Go

/-- From (β, h, w) to (β', h', w'): only blocks that may be written have turned, and only those that stand for something there. -/
structure Stp (β : Inj) (h : H) (w : World) (β' : Inj) (h' : H) (w' : World) : Prop where
  ext : Ext β β'
  shapes : Shapes w w'
  n : h.n ≤ h'.n
  unm : ∀ i, i < h.n → β i = none → β' i = none ∧ h'.f i = h.f i
  fix : ∀ i, i < h.n → (h.f i).st ≠ .rw → h'.f i = h.f i
  st : ∀ i, i < h.n → (h'.f i).st = .rw → (h.f i).st = .rw
  new : ∀ i b d, h.n ≤ i → (h'.f i).st = .rw → β' i = some (b, d) → w.heap.size ≤ b ∨ ∃ j d', j < h.n ∧ (h.f j).st = .rw ∧ β j = some (b, d')
  keep : ∀ b, b < w.heap.size → (∀ i d, i < h.n → (h.f i).st = .rw → β i ≠ some (b, d)) → w'.heap[b]? = w.heap[b]?
  size : w.heap.size ≤ w'.heap.size
  os : w'.os = w.os
  tape : w'.tape = w.tape
  output : w'.output = w.output
  fro : ∀ a, w'.frozen? a = w.frozen? a

theorem frozen_alloc (w : World) (cs : Array Value) (t : TypeId) (a : Addr) : (w.alloc (.cells cs t)).frozen? a = w.frozen? a := by
  have key : ∀ o o' : Option Obj, (o = o' ∨ (o = some (.cells cs t) ∧ o' = none)) → (match o with | some (.cells _ _ (lo, hi)) => lo ≤ a.off && a.off < hi | _ => false) = (match o' with | some (.cells _ _ (lo, hi)) => lo ≤ a.off && a.off < hi | _ => false) := by
    rintro o o' (rfl | ⟨rfl, rfl⟩)
    · rfl
    · simp
  refine key _ _ ?_
  by_cases h : a.block = w.heap.size
  · right
    rw [h]
    exact ⟨by show (w.heap.push _)[w.heap.size]? = _; simp, by simp⟩
  · left
    show (w.heap.push _)[a.block]? = _
    rw [Array.getElem?_push, if_neg h]
theorem frozen_setRow (w : World) (g : Nat) (cs : Array Value) (a : Addr) : (w.setRow g cs).frozen? a = w.frozen? a := by
  unfold World.frozen? World.setRow
  simp only [Array.getElem?_modify]
  by_cases h : g = a.block
  · rw [if_pos h]
    cases h1 : w.heap[a.block]? with
    | none => rfl
    | some o => cases o <;> rfl
  · rw [if_neg h]

theorem Stp.refl (β : Inj) (h : H) (w : World) (hd : ∀ i, h.n ≤ i → β i = none) : Stp β h w β h w :=
  ⟨Ext.refl β, Shapes.refl w, Nat.le_refl _, fun _ _ h => ⟨h, rfl⟩, fun _ _ _ => rfl, fun _ _ h => h, fun i b d hi _ hb => by rw [hd i hi] at hb; simp at hb, fun _ _ _ => rfl, Nat.le_refl _, rfl, rfl, rfl, fun _ => rfl⟩

theorem Stp.trans {β1 β2 β3 : Inj} {h1 h2 h3 : H} {w1 w2 w3 : World} (a : Stp β1 h1 w1 β2 h2 w2) (b : Stp β2 h2 w2 β3 h3 w3) : Stp β1 h1 w1 β3 h3 w3 := by
  have hn := a.n
  have key : ∀ i b d, i < h1.n → β2 i = some (b, d) → β1 i = some (b, d) := by
    intro i b d hi hb
    cases h0 : β1 i with
    | none => rw [(a.unm i hi h0).1] at hb; simp at hb
    | some p => rw [a.ext i p h0] at hb; exact hb
  refine ⟨a.ext.trans b.ext, a.shapes.trans b.shapes, Nat.le_trans a.n b.n, ?_, ?_, ?_, ?_, ?_, Nat.le_trans a.size b.size, b.os.trans a.os, b.tape.trans a.tape, b.output.trans a.output, fun x => (b.fro x).trans (a.fro x)⟩
  · intro i hi h0
    obtain ⟨e1, e2⟩ := a.unm i hi h0
    obtain ⟨e3, e4⟩ := b.unm i (by omega) e1
    exact ⟨e3, e4.trans e2⟩
  · intro i hi h0
    have e1 := a.fix i hi h0
    exact (b.fix i (by omega) (by rw [e1]; exact h0)).trans e1
  · intro i hi h0
    exact a.st i hi (b.st i (by omega) h0)
  · intro i bb d hi hs hb
    by_cases hi2 : h2.n ≤ i
    · rcases b.new i bb d hi2 hs hb with h0 | ⟨j, d', hj, hjs, hjb⟩
      · left
        have := a.size
        omega
      · by_cases hj1 : j < h1.n
        · exact .inr ⟨j, d', hj1, a.st j hj1 hjs, key j bb d' hj1 hjb⟩
        · exact a.new j bb d' (by omega) hjs hjb
    · have hi2 : i < h2.n := by omega
      have e1 := b.st i hi2 hs
      have e2 : β2 i = some (bb, d) := by
        cases h0 : β2 i with
        | none => rw [(b.unm i hi2 h0).1] at hb; simp at hb
        | some p => rw [b.ext i p h0] at hb; exact hb
      exact a.new i bb d hi e1 e2
  · intro bb hbb hno
    have e1 := a.keep bb hbb hno
    rw [← e1]
    refine b.keep bb (by have := a.size; omega) ?_
    intro i d hi hs hb
    by_cases hi1 : i < h1.n
    · exact hno i d hi1 (a.st i hi1 hs) (key i bb d hi1 hb)
    · rcases a.new i bb d (by omega) hs hb with h0 | ⟨j, d', hj, hjs, hjb⟩
      · omega
      · exact hno j d' hj hjs hjb

theorem shape_of_heap {w : World} {b : Nat} {cells : Array Value} {t : TypeId} {fr : Nat × Nat} (h : w.heap[b]? = some (.cells cells t fr)) : w.shape? b = some (t, cells.size) := by
  simp [World.shape?, h]
theorem lt_of_shape {w : World} {b : Nat} {s : TypeId × Nat} (h : w.shape? b = some s) : b < w.heap.size := by
  rcases Nat.lt_or_ge b w.heap.size with h' | h'
  · exact h'
  · simp [World.shape?, Array.getElem?_eq_none h'] at h
theorem heap_alloc_old {w : World} {o : Obj} {b : Nat} (h : b < w.heap.size) : (w.alloc o).heap[b]? = w.heap[b]? := by
  show (w.heap.push o)[b]? = w.heap[b]?
  rw [Array.getElem?_push_lt h, ← Array.getElem?_eq_getElem h]
theorem heap_alloc_new' (w : World) (o : Obj) : (w.alloc o).heap[w.heap.size]? = some o := by
  show (w.heap.push o)[w.heap.size]? = some o
  simp
theorem shapes_alloc (w : World) (o : Obj) : Shapes w (w.alloc o) := by
  intro b s h
  have hb := lt_of_shape h
  unfold World.shape? at h ⊢
  rw [heap_alloc_old hb]
  exact h

def Inj.put (β : Inj) (i : Nat) (p : Nat × Nat) : Inj := fun j => if j = i then some p else β j
theorem Inj.put_ext {β : Inj} {i : Nat} {p : Nat × Nat} (h : β i = none) : Ext β (β.put i p) := by
  intro j q hj
  unfold Inj.put
  by_cases hi : j = i
  · subst hi; rw [h] at hj; simp at hj
  · rw [if_neg hi]; exact hj

theorem exempt_put {β : Inj} {i b : Nat} {p q : Nat × Nat} (h : β i = none) (h0 : β 0 = some q) : exempt (β.put i p) b ↔ exempt β b := by
  have hi : (0 : Nat) ≠ i := fun e => by subst e; rw [h] at h0; simp at h0
  unfold exempt Inj.put
  simp only [if_neg hi]

section
variable {P : Program} {β : Inj} {w : World} {h : H}

/-- Blocks that are laid are not exempt. -/
theorem Rel.fresh (hR : Rel P β h w) {b : Nat} (hb : w.heap.size ≤ b) : ¬ exempt β b := by
  obtain ⟨L, d, h2, h3⟩ := hR.top
  rintro ⟨L', d', h4, h5⟩
  rw [h2] at h4
  simp at h4
  omega
theorem Rel.top_put (hR : Rel P β h w) {i : Nat} {p : Nat × Nat} (hi : β i = none) {w' : World} (hs : w.heap.size ≤ w'.heap.size) : ∃ L d, (β.put i p) 0 = some (L, d) ∧ L < w'.heap.size := by
  obtain ⟨L, d, h2, h3⟩ := hR.top
  exact ⟨L, d, Inj.put_ext hi _ _ h2, by omega⟩

theorem alloc_f_old {cs : List CV} {ty i : Nat} (hi : i ≠ h.n) : (h.alloc cs ty).f i = h.f i := by simp [H.alloc, hi]
theorem alloc_f_new {cs : List CV} {ty : Nat} : (h.alloc cs ty).f h.n = ⟨cs, ty, .rw⟩ := by simp [H.alloc]

/-- A block that stands for nothing yet. -/
theorem Rel.unmapped (hR : Rel P β h w) (cs : List CV) (ty : Nat) : Rel P β (h.alloc cs ty) w := by
  have h0 := hR.dom h.n (Nat.le_refl _)
  have hne : ∀ i p, β i = some p → i ≠ h.n := fun i p hp e => by subst e; rw [h0] at hp; simp at hp
  refine ⟨?_, ?_, ?_, ?_, fun i b d hs hb => hR.low i b d (by rwa [alloc_f_old (hne i _ hb)] at hs) hb, hR.top⟩
  · intro i b d hb
    rw [alloc_f_old (hne i _ hb)]
    exact hR.ty i b d hb
  · intro i b d hs hb
    rw [alloc_f_old (hne i _ hb)] at hs ⊢
    exact hR.live i b d hs hb
  · intro i j b d d' hij hi hj hbi hbj
    rw [alloc_f_old (hne i _ hbi)] at hi
    rw [alloc_f_old (hne j _ hbj)] at hj
    exact hR.inj i j b d d' hij hi hj hbi hbj
  · intro i hi
    exact hR.dom i (by simp [H.alloc] at hi; omega)
theorem Stp.unmapped (hR : Rel P β h w) (cs : List CV) (ty : Nat) : Stp β h w β (h.alloc cs ty) w :=
  ⟨Ext.refl β, Shapes.refl w, by simp [H.alloc], fun i hi h0 => ⟨h0, alloc_f_old (by omega)⟩, fun i hi _ => alloc_f_old (by omega), fun i hi hs => by rwa [alloc_f_old (by omega)] at hs,
    fun i b d hi _ hb => by rw [hR.dom i hi] at hb; simp at hb, fun _ _ _ => rfl, Nat.le_refl _, rfl, rfl, rfl, fun _ => rfl⟩

/-- The model lays the block that the machine has laid. -/
theorem Rel.mapped (hR : Rel P β h w) {i : Nat} {cs : List CV} {ty : Nat} (hi : i < h.n) (hf : h.f i = ⟨cs, ty, .rw⟩) (h0 : β i = none) {cells : Array Value} (hL : ∀ (o : Nat) (c : CV), cs[o]? = some c → ∃ v, cells[o]? = some v ∧ relC P β w c v) :
    Rel P (β.put i (w.heap.size, 0)) h (w.alloc (.cells cells ty)) := by
  have he := Inj.put_ext (p := (w.heap.size, 0)) h0
  have hs := shapes_alloc w (.cells cells ty)
  have hb : ∀ j b d, j ≠ i → β.put i (w.heap.size, 0) j = some (b, d) → β j = some (b, d) := fun j b d hj hb => by simpa [Inj.put, hj] using hb
  have hself : ∀ b d, β.put i (w.heap.size, 0) i = some (b, d) → b = w.heap.size ∧ d = 0 := fun b d hb => by simp [Inj.put] at hb; omega
  have hlt : ∀ j b d, β j = some (b, d) → b < w.heap.size := fun j b d hb => hR.lt hb
  obtain ⟨L, dL, hL0, hL1⟩ := hR.top
  refine ⟨?_, ?_, ?_, ?_, ?_, hR.top_put h0 (show w.heap.size ≤ (w.heap.push _).size by simp)⟩
  · intro j b d hjb
    by_cases hj : j = i
    · subst hj
      obtain ⟨rfl, rfl⟩ := hself b d hjb
      exact .inr ⟨cells.size, by rw [hf]; exact shape_of_heap (heap_alloc_new' w _)⟩
    · rcases hR.ty j b d (hb j b d hj hjb) with h1 | ⟨s, h1⟩
      · exact .inl (h1.ext he)
      · exact .inr ⟨s, hs _ _ h1⟩
  · intro j b d hst hjb
    by_cases hj : j = i
    · subst hj
      obtain ⟨rfl, rfl⟩ := hself b d hjb
      rw [hf]
      refine ⟨cells, ty, (0, 0), heap_alloc_new' w _, fun _ => ⟨rfl, rfl⟩, ?_⟩
      intro o c hc
      obtain ⟨v, h1, h2⟩ := hL o c hc
      exact ⟨v, by simpa using h1, h2.mono he hs⟩
    · have h1 := hb j b d hj hjb
      obtain ⟨cells', ty', fr, h2, h3, h4⟩ := hR.live j b d hst h1
      refine ⟨cells', ty', fr, (heap_alloc_old (hlt j b d h1)).trans h2, h3, ?_⟩
      intro o c hc
      obtain ⟨v, h5, h6⟩ := h4 o c hc
      exact ⟨v, h5, h6.mono he hs⟩
  · intro j k b d d' hjk hj hk hbj hbk
    by_cases hji : j = i
    · subst hji
      obtain ⟨rfl, rfl⟩ := hself b d hbj
      have := hlt k _ d' (hb k _ d' (Ne.symm hjk) hbk)
      omega
    · by_cases hki : k = i
      · subst hki
        obtain ⟨rfl, rfl⟩ := hself b d' hbk
        have := hlt j _ d (hb j _ d hji hbj)
        omega
      · exact hR.inj j k b d d' hjk hj hk (hb j b d hji hbj) (hb k b d' hki hbk)
  · intro j hj
    have : j ≠ i := by omega
    simp [Inj.put, this, hR.dom j hj]
  · intro j b d hst hjb hex
    rw [exempt_put h0 hL0] at hex
    by_cases hj : j = i
    · subst hj
      obtain ⟨rfl, rfl⟩ := hself b d hjb
      exact hR.fresh (Nat.le_refl _) hex
    · exact hR.low j b d hst (hb j b d hj hjb) hex

/-- A block laid by both. -/
theorem Rel.both (hR : Rel P β h w) {cs : List CV} {ty : Nat} {cells : Array Value} (hL : ∀ (o : Nat) (c : CV), cs[o]? = some c → ∃ v, cells[o]? = some v ∧ relC P β w c v) :
    Rel P (β.put h.n (w.heap.size, 0)) (h.alloc cs ty) (w.alloc (.cells cells ty)) :=
  (hR.unmapped cs ty).mapped (by simp [H.alloc]) alloc_f_new (hR.dom _ (Nat.le_refl _)) hL
theorem Stp.both (hR : Rel P β h w) (cs : List CV) (ty : Nat) (cells : Array Value) : Stp β h w (β.put h.n (w.heap.size, 0)) (h.alloc cs ty) (w.alloc (.cells cells ty)) := by
  have h0 := hR.dom h.n (Nat.le_refl _)
  refine ⟨Inj.put_ext h0, shapes_alloc w _, by simp [H.alloc], ?_, fun i hi _ => alloc_f_old (by omega), fun i hi hs => by rwa [alloc_f_old (by omega)] at hs, ?_, ?_, (show w.heap.size ≤ (w.heap.push _).size by simp), rfl, rfl, rfl, frozen_alloc w _ _⟩
  · intro i hi hb
    have : i ≠ h.n := by omega
    exact ⟨by simp [Inj.put, this, hb], alloc_f_old this⟩
  · intro i b d hi _ hb
    by_cases hh : i = h.n
    · subst hh
      simp [Inj.put] at hb
      omega
    · simp only [Inj.put, if_neg hh] at hb
      rw [hR.dom i hi] at hb
      simp at hb
  · intro b hb _
    exact heap_alloc_old hb
/-- Where a new block begins. -/
theorem addr_both (w : World) : addrR (β.put h.n (w.heap.size, 0)) (h.n, 0) ⟨w.heap.size, 0, none⟩ := ⟨w.heap.size, 0, by simp [Inj.put], by simp⟩

/-- The world has drawn. -/
theorem Rel.drew (hR : Rel P β h w) : Rel P β h w.drew := by
  have hs : Shapes w w.drew := fun _ _ h => h
  refine ⟨hR.ty, ?_, hR.inj, hR.dom, hR.low, hR.top⟩
  intro i b d hst hb
  obtain ⟨cells, ty, fr, h1, h2, h3⟩ := hR.live i b d hst hb
  exact ⟨cells, ty, fr, h1, h2, fun o c hc => by
    obtain ⟨v, h4, h5⟩ := h3 o c hc
    exact ⟨v, h4, h5.mono (Ext.refl _) hs⟩⟩
theorem Stp.drew (hR : Rel P β h w) : Stp β h w β h w.drew :=
  ⟨Ext.refl β, fun _ _ h => h, Nat.le_refl _, fun _ _ h0 => ⟨h0, rfl⟩, fun _ _ _ => rfl, fun _ _ hs => hs, fun i b d hi _ hb => by rw [hR.dom i hi] at hb; simp at hb, fun _ _ _ => rfl, Nat.le_refl _, rfl, rfl, rfl, fun _ => rfl⟩

/-! ### cells written -/
theorem shapes_setRow (w : World) {g : Nat} {old cs : Array Value} {t : TypeId} {fr : Nat × Nat} (hg : w.heap[g]? = some (.cells old t fr)) (hs : cs.size = old.size) : Shapes w (w.setRow g cs) := by
  intro b s h
  by_cases hb : b = g
  · subst hb
    rw [shape_of_heap (setRow_heap w b old cs t fr hg), hs, ← shape_of_heap hg]
    exact h
  · unfold World.shape? at h ⊢
    rw [setRow_other w g b cs hb]
    exact h
theorem setBlk_f {i j : Nat} {b : Blk} : (h.setBlk i b).f j = if j = i then b else h.f j := rfl

theorem Rel.stored (hR : Rel P β h w) {a : Nat × Nat} {b d : Nat} (ha : β a.1 = some (b, d)) {vs : List CV} {us : List Value} {h' : H} (hst : h.store a vs = some h') (hL : relL P β w vs us) :
    ∃ cur, w.heap[b]? = some (.cells cur (h.f a.1).ty (0, 0)) ∧ (us = [] ∨ d + a.2 + us.length ≤ cur.size) ∧
      Rel P β h' (w.setRow b (if us = [] then cur else (cur.toList.take (d + a.2) ++ us ++ cur.toList.drop (d + a.2 + us.length)).toArray)) ∧
      Stp β h w β h' (w.setRow b (if us = [] then cur else (cur.toList.take (d + a.2) ++ us ++ cur.toList.drop (d + a.2 + us.length)).toArray)) := by
  unfold H.store at hst
  split at hst
  · rename_i hc
    obtain ⟨hrw, hlen⟩ := hc
    simp only [Option.some.injEq] at hst
    subst hst
    obtain ⟨cur, ty, fr, h1, h2, h3⟩ := hR.live _ _ _ (by rw [hrw]; simp) ha
    obtain ⟨hty, hfr⟩ := h2 hrw
    subst hfr
    subst hty
    have hl := hL.length
    have hroom : us = [] ∨ d + a.2 + us.length ≤ cur.size := by
      cases us with
      | nil => exact .inl rfl
      | cons u us =>
        right
        have h4 : (h.f a.1).cs[a.2 + us.length]? = some ((h.f a.1).cs[a.2 + us.length]'(by simp at hl; omega)) := List.getElem?_eq_getElem _
        obtain ⟨v, h5, _⟩ := h3 _ _ h4
        have := (Array.getElem?_eq_some_iff.1 h5).1
        simp
        omega
    refine ⟨cur, h1, hroom, ?_⟩
    generalize hnew : (if us = [] then cur else (cur.toList.take (d + a.2) ++ us ++ cur.toList.drop (d + a.2 + us.length)).toArray) = new
    have hsz : new.size = cur.size := by
      rw [← hnew]
      split
      · rfl
      · rename_i hne
        rcases hroom with h0 | h0
        · exact absurd h0 hne
        · simp; omega
    have hs := shapes_setRow w (cs := new) h1 hsz
    have hcell : ∀ o c, (((h.f a.1).cs.take a.2 ++ (vs ++ (h.f a.1).cs.drop (a.2 + vs.length))))[o]? = some c → ∃ v, new[d + o]? = some v ∧ relC P β w c v := by
      intro o c hc
      rcases hroom with rfl | hroom
      · have : vs = [] := by simpa using hl
        subst this
        simp only [if_true] at hnew
        subst hnew
        simp only [List.nil_append, List.length_nil, Nat.add_zero, List.take_append_drop] at hc
        exact h3 o c hc
      · have hne : us = [] ∨ us ≠ [] := by cases us <;> simp
        rcases hne with rfl | hne
        · have : vs = [] := by simpa using hl
          subst this
          simp only [if_true] at hnew
          subst hnew
          simp only [List.nil_append, List.length_nil, Nat.add_zero, List.take_append_drop] at hc
          exact h3 o c hc
        rw [if_neg hne] at hnew
        subst hnew
        by_cases ho : o < a.2
        · rw [List.getElem?_append_left (by simp; omega), List.getElem?_take_of_lt ho] at hc
          obtain ⟨v, h5, h6⟩ := h3 o c hc
          refine ⟨v, ?_, h6⟩
          rw [List.getElem?_toArray, List.append_assoc, List.getElem?_append_left (by simp; omega), List.getElem?_take_of_lt (by omega)]
          simpa using h5
        · rw [List.getElem?_append_right (by simp; omega)] at hc
          have e1 : ((h.f a.1).cs.take a.2).length = a.2 := by simp; omega
          rw [e1] at hc
          have e2 : (cur.toList.take (d + a.2)).length = d + a.2 := by simp; omega
          by_cases ho2 : o - a.2 < vs.length
          · rw [List.getElem?_append_left ho2] at hc
            obtain ⟨v, h5, h6⟩ := hL.get hc
            refine ⟨v, ?_, h6⟩
            rw [List.getElem?_toArray, List.append_assoc, List.getElem?_append_right (by rw [e2]; omega), e2, List.getElem?_append_left (by omega)]
            rw [show d + o - (d + a.2) = o - a.2 by omega]
            exact h5
          · rw [List.getElem?_append_right (by omega), List.getElem?_drop] at hc
            rw [show a.2 + vs.length + (o - a.2 - vs.length) = o by omega] at hc
            obtain ⟨v, h5, h6⟩ := h3 o c hc
            refine ⟨v, ?_, h6⟩
            rw [List.getElem?_toArray, List.append_assoc, List.getElem?_append_right (by rw [e2]; omega), e2, List.getElem?_append_right (by omega), List.getElem?_drop]
            rw [show d + a.2 + us.length + (d + o - (d + a.2) - us.length) = d + o by omega]
            simpa using h5
    have hother : ∀ j bb dd, j ≠ a.1 → (h.f j).st ≠ .dead → β j = some (bb, dd) → bb ≠ b := fun j bb dd hj hjs hjb e => by
      subst e
      exact hR.inj a.1 j bb d dd (Ne.symm hj) hrw hjs ha hjb
    refine ⟨⟨?_, ?_, ?_, hR.dom, ?_, ?_⟩, ⟨Ext.refl β, hs, Nat.le_refl _, ?_, ?_, ?_, ?_, ?_, by simp, rfl, rfl, rfl, frozen_setRow w b new⟩⟩
    · intro j bb dd hjb
      rcases hR.ty j bb dd hjb with h5 | ⟨s, h5⟩
      · exact .inl h5
      refine .inr ⟨s, ?_⟩
      rw [setBlk_f]
      split
      · rename_i hj; subst hj; exact hs _ _ h5
      · exact hs _ _ h5
    · intro j bb dd hjs hjb
      rw [setBlk_f] at hjs ⊢
      by_cases hj : j = a.1
      · subst hj
        rw [if_pos rfl]
        rw [ha] at hjb
        simp only [Option.some.injEq, Prod.mk.injEq] at hjb
        obtain ⟨rfl, rfl⟩ := hjb
        refine ⟨new, (h.f a.1).ty, (0, 0), setRow_heap w b cur new _ _ h1, fun _ => ⟨rfl, rfl⟩, ?_⟩
        intro o c hc
        obtain ⟨v, h5, h6⟩ := hcell o c hc
        exact ⟨v, h5, h6.mono (Ext.refl _) hs⟩
      · rw [if_neg hj] at hjs ⊢
        obtain ⟨cells', ty', fr, h5, h6, h7⟩ := hR.live j bb dd hjs hjb
        refine ⟨cells', ty', fr, ?_, h6, ?_⟩
        · rw [setRow_other w b bb new (hother j bb dd hj hjs hjb)]
          exact h5
        · intro o c hc
          obtain ⟨v, h8, h9⟩ := h7 o c hc
          exact ⟨v, h8, h9.mono (Ext.refl _) hs⟩
    · intro i j bb dd dd' hij hi hj hbi hbj
      rw [setBlk_f] at hi hj
      refine hR.inj i j bb dd dd' hij ?_ ?_ hbi hbj
      · split at hi
        · rename_i e; subst e; exact hrw
        · exact hi
      · split at hj
        · rename_i e; subst e; rw [hrw]; simp
        · exact hj
    · intro i bb dd hi hbi
      rw [setBlk_f] at hi
      refine hR.low i bb dd ?_ hbi
      split at hi
      · rename_i e; subst e; exact hrw
      · exact hi
    · obtain ⟨L, dL, h5, h6⟩ := hR.top
      exact ⟨L, dL, h5, by simpa using h6⟩
    · intro i hi h0
      refine ⟨h0, ?_⟩
      rw [setBlk_f, if_neg (fun e => by subst e; rw [ha] at h0; simp at h0)]
    · intro i hi h0
      rw [setBlk_f, if_neg (fun e => by subst e; exact h0 hrw)]
    · intro i hi h0
      rw [setBlk_f] at h0
      split at h0
      · rename_i e; subst e; exact hrw
      · exact h0
    · intro i bb dd hi _ hb
      have hi' : h.n ≤ i := hi
      rw [hR.dom i hi'] at hb
      simp at hb
    · intro bb hbb hno
      refine setRow_other w b bb new ?_
      intro e
      subst e
      have hlt : a.1 < h.n := by
        rcases Nat.lt_or_ge a.1 h.n with h' | h'
        · exact h'
        · rw [hR.dom a.1 h'] at ha; simp at ha
      exact hno a.1 d hlt hrw ha
  · simp at hst
end
end Go.Proofs.Ytnphlonhogcedaa.Am
