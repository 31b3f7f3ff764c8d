/- The abstract machine: what a step leaves as it was, in the machine's heap and in the model's; a block that is laid, cells that are written. -/
import Derived.Test.YtoeceafibmafpaaDoorMaA
import Derived.LoopN
import Derived.Laws.Sem
/-! The abstract machine: what a step leaves as it was, in the machine's heap and in the model's; a block that is laid, cells that are written. -/
namespace Go.Proofs.YtoeceafibmafpaaDoor.Am
open Go

/-- From (β, h, w) to (β', h', w'): only blocks that may be written have turned, and only those that stand for something there. -/
structure Stp (β : Inj) (h : H) (w : World) (β' : Inj) (h' : H) (w' : World) : Prop where
  ext : Ext β β'
  shapes : Shapes w w'
  n : h.n ≤ h'.n
  unm : ∀ i, i < h.n → β i = none → β' i = none ∧ h'.f i = h.f i
  fix : ∀ i, i < h.n → (h.f i).st ≠ .rw → h'.f i = h.f i
  st : ∀ i, i < h.n → (h'.f i).st = .rw → (h.f i).st = .rw
  new : ∀ i b d, h.n ≤ i → (h'.f i).st = .rw → β' i = some (b, d) → w.heap.size ≤ b ∨ ∃ j d', j < h.n ∧ (h.f j).st = .rw ∧ β j = some (b, d')
  keep : ∀ b, b < w.heap.size → (∀ i d, i < h.n → (h.f i).st = .rw → β i ≠ some (b, d)) → w'.heap[b]? = w.heap[b]?
  size : w.heap.size ≤ w'.heap.size
  os : w'.os = w.os
  tape : w'.tape = w.tape
  output : w'.output = w.output
  fro : ∀ a, a.block < w.heap.size → w'.frozen? a = w.frozen? a

theorem frozen_alloc (w : World) (cs : Array Value) (t : TypeId) (a : Addr) : (w.alloc (.cells cs t)).frozen? a = w.frozen? a := by
  have key : ∀ o o' : Option Obj, (o = o' ∨ (o = some (.cells cs t) ∧ o' = none)) → (match o with | some (.cells _ _ (lo, hi)) => lo ≤ a.off && a.off < hi | _ => false) = (match o' with | some (.cells _ _ (lo, hi)) => lo ≤ a.off && a.off < hi | _ => false) := by
    rintro o o' (rfl | ⟨rfl, rfl⟩)
    · rfl
    · simp
  refine key _ _ ?_
  by_cases h : a.block = w.heap.size
  · right
    rw [h]
    exact ⟨by show (w.heap.push _)[w.heap.size]? = _; simp, by simp⟩
  · left
    show (w.heap.push _)[a.block]? = _
    rw [Array.getElem?_push, if_neg h]
theorem frozen_setRow (w : World) (g : Nat) (cs : Array Value) (a : Addr) : (w.setRow g cs).frozen? a = w.frozen? a := by
  unfold World.frozen? World.setRow
  simp only [Array.getElem?_modify]
  by_cases h : g = a.block
  · rw [if_pos h]
    cases h1 : w.heap[a.block]? with
    | none => rfl
    | some o => cases o <;> rfl
  · rw [if_neg h]

theorem Stp.refl (β : Inj) (h : H) (w : World) (hd : ∀ i, h.n ≤ i → β i = none) : Stp β h w β h w :=
  ⟨Ext.refl β, Shapes.refl w, Nat.le_refl _, fun _ _ h => ⟨h, rfl⟩, fun _ _ _ => rfl, fun _ _ h => h, fun i b d hi _ hb => by rw [hd i hi] at hb; simp at hb, fun _ _ _ => rfl, Nat.le_refl _, rfl, rfl, rfl, fun _ _ => rfl⟩

theorem Stp.trans {β1 β2 β3 : Inj} {h1 h2 h3 : H} {w1 w2 w3 : World} (a : Stp β1 h1 w1 β2 h2 w2) (b : Stp β2 h2 w2 β3 h3 w3) : Stp β1 h1 w1 β3 h3 w3 := by
  have hn := a.n
  have key : ∀ i b d, i < h1.n → β2 i = some (b, d) → β1 i = some (b, d) := by
    intro i b d hi hb
    cases h0 : β1 i with
    | none => rw [(a.unm i hi h0).1] at hb; simp at hb
    | some p => rw [a.ext i p h0] at hb; exact hb
  refine ⟨a.ext.trans b.ext, a.shapes.trans b.shapes, Nat.le_trans a.n b.n, ?_, ?_, ?_, ?_, ?_, Nat.le_trans a.size b.size, b.os.trans a.os, b.tape.trans a.tape, b.output.trans a.output, fun x hx => (b.fro x (Nat.lt_of_lt_of_le hx a.size)).trans (a.fro x hx)⟩
  · intro i hi h0
    obtain ⟨e1, e2⟩ := a.unm i hi h0
    obtain ⟨e3, e4⟩ := b.unm i (by omega) e1
    exact ⟨e3, e4.trans e2⟩
  · intro i hi h0
    have e1 := a.fix i hi h0
    exact (b.fix i (by omega) (by rw [e1]; exact h0)).trans e1
  · intro i hi h0
    exact a.st i hi (b.st i (by omega) h0)
  · intro i bb d hi hs hb
    by_cases hi2 : h2.n ≤ i
    · rcases b.new i bb d hi2 hs hb with h0 | ⟨j, d', hj, hjs, hjb⟩
      · left
        have := a.size
        omega
      · by_cases hj1 : j < h1.n
        · exact .inr ⟨j, d', hj1, a.st j hj1 hjs, key j bb d' hj1 hjb⟩
        · exact a.new j bb d' (by omega) hjs hjb
    · have hi2 : i < h2.n := by omega
      have e1 := b.st i hi2 hs
      have e2 : β2 i = some (bb, d) := by
        cases h0 : β2 i with
        | none => rw [(b.unm i hi2 h0).1] at hb; simp at hb
        | some p => rw [b.ext i p h0] at hb; exact hb
      exact a.new i bb d hi e1 e2
  · intro bb hbb hno
    have e1 := a.keep bb hbb hno
    rw [← e1]
    refine b.keep bb (by have := a.size; omega) ?_
    intro i d hi hs hb
    by_cases hi1 : i < h1.n
    · exact hno i d hi1 (a.st i hi1 hs) (key i bb d hi1 hb)
    · rcases a.new i bb d (by omega) hs hb with h0 | ⟨j, d', hj, hjs, hjb⟩
      · omega
      · exact hno j d' hj hjs hjb

theorem shape_of_heap {w : World} {b : Nat} {cells : Array Value} {t : TypeId} {fr : Nat × Nat} (h : w.heap[b]? = some (.cells cells t fr)) : w.shape? b = some (t, cells.size) := by
  simp [World.shape?, h]
theorem lt_of_shape {w : World} {b : Nat} {s : TypeId × Nat} (h : w.shape? b = some s) : b < w.heap.size := by
  rcases Nat.lt_or_ge b w.heap.size with h' | h'
  · exact h'
  · simp [World.shape?, Array.getElem?_eq_none h'] at h
theorem heap_alloc_old {w : World} {o : Obj} {b : Nat} (h : b < w.heap.size) : (w.alloc o).heap[b]? = w.heap[b]? := by
  show (w.heap.push o)[b]? = w.heap[b]?
  rw [Array.getElem?_push_lt h, ← Array.getElem?_eq_getElem h]
theorem heap_alloc_new' (w : World) (o : Obj) : (w.alloc o).heap[w.heap.size]? = some o := by
  show (w.heap.push o)[w.heap.size]? = some o
  simp
theorem shapes_alloc (w : World) (o : Obj) : Shapes w (w.alloc o) := by
  intro b s h
  have hb := lt_of_shape h
  unfold World.shape? at h ⊢
  rw [heap_alloc_old hb]
  exact h

def Inj.put (β : Inj) (i : Nat) (p : Nat × Nat) : Inj := fun j => if j = i then some p else β j
theorem Inj.put_ext {β : Inj} {i : Nat} {p : Nat × Nat} (h : β i = none) : Ext β (β.put i p) := by
  intro j q hj
  unfold Inj.put
  by_cases hi : j = i
  · subst hi; rw [h] at hj; simp at hj
  · rw [if_neg hi]; exact hj

theorem exempt_put {β : Inj} {i b : Nat} {p q : Nat × Nat} (h : β i = none) (h0 : β 0 = some q) : exempt (β.put i p) b ↔ exempt β b := by
  have hi : (0 : Nat) ≠ i := fun e => by subst e; rw [h] at h0; simp at h0
  unfold exempt Inj.put
  simp only [if_neg hi]

section
variable {P : Program} {β : Inj} {w : World} {h : H}

/-- Blocks that are laid are not exempt. -/
theorem Rel.fresh (hR : Rel P β h w) {b : Nat} (hb : w.heap.size ≤ b) : ¬ exempt β b := by
  obtain ⟨L, d, h2, h3⟩ := hR.top
  rintro ⟨L', d', h4, h5⟩
  rw [h2] at h4
  simp at h4
  omega
theorem Rel.top_put (hR : Rel P β h w) {i : Nat} {p : Nat × Nat} (hi : β i = none) {w' : World} (hs : w.heap.size ≤ w'.heap.size) : ∃ L d, (β.put i p) 0 = some (L, d) ∧ L < w'.heap.size := by
  obtain ⟨L, d, h2, h3⟩ := hR.top
  exact ⟨L, d, Inj.put_ext hi _ _ h2, by omega⟩

theorem alloc_f_old {cs : List CV} {ty i : Nat} (hi : i ≠ h.n) : (h.alloc cs ty).f i = h.f i := by simp [H.alloc, hi]
theorem alloc_f_new {cs : List CV} {ty : Nat} : (h.alloc cs ty).f h.n = ⟨cs, ty, .rw⟩ := by simp [H.alloc]

/-- A block that stands for nothing yet. -/
theorem Rel.unmapped (hR : Rel P β h w) (cs : List CV) (ty : Nat) : Rel P β (h.alloc cs ty) w := by
  have h0 := hR.dom h.n (Nat.le_refl _)
  have hne : ∀ i p, β i = some p → i ≠ h.n := fun i p hp e => by subst e; rw [h0] at hp; simp at hp
  refine ⟨?_, ?_, ?_, ?_, fun i b d hs hb => hR.low i b d (by rwa [alloc_f_old (hne i _ hb)] at hs) hb, hR.top, hR.tab⟩
  · intro i b d hb
    rw [alloc_f_old (hne i _ hb)]
    exact hR.ty i b d hb
  · intro i b d hs hb
    rw [alloc_f_old (hne i _ hb)] at hs ⊢
    exact hR.live i b d hs hb
  · intro i j b d d' hij hi hj hbi hbj
    rw [alloc_f_old (hne i _ hbi)] at hi
    rw [alloc_f_old (hne j _ hbj)] at hj
    exact hR.inj i j b d d' hij hi hj hbi hbj
  · intro i hi
    exact hR.dom i (by simp [H.alloc] at hi; omega)
theorem Stp.unmapped (hR : Rel P β h w) (cs : List CV) (ty : Nat) : Stp β h w β (h.alloc cs ty) w :=
  ⟨Ext.refl β, Shapes.refl w, by simp [H.alloc], fun i hi h0 => ⟨h0, alloc_f_old (by omega)⟩, fun i hi _ => alloc_f_old (by omega), fun i hi hs => by rwa [alloc_f_old (by omega)] at hs,
    fun i b d hi _ hb => by rw [hR.dom i hi] at hb; simp at hb, fun _ _ _ => rfl, Nat.le_refl _, rfl, rfl, rfl, fun _ _ => rfl⟩

/-- The model lays the block that the machine has laid. -/
theorem Rel.mapped (hR : Rel P β h w) {i : Nat} {cs : List CV} {ty : Nat} (hi : i < h.n) (hf : h.f i = ⟨cs, ty, .rw⟩) (h0 : β i = none) {cells : Array Value} (hL : ∀ (o : Nat) (c : CV), cs[o]? = some c → ∃ v, cells[o]? = some v ∧ relC P β w c v) :
    Rel P (β.put i (w.heap.size, 0)) h (w.alloc (.cells cells ty)) := by
  have he := Inj.put_ext (p := (w.heap.size, 0)) h0
  have hs := shapes_alloc w (.cells cells ty)
  have hb : ∀ j b d, j ≠ i → β.put i (w.heap.size, 0) j = some (b, d) → β j = some (b, d) := fun j b d hj hb => by simpa [Inj.put, hj] using hb
  have hself : ∀ b d, β.put i (w.heap.size, 0) i = some (b, d) → b = w.heap.size ∧ d = 0 := fun b d hb => by simp [Inj.put] at hb; omega
  have hlt : ∀ j b d, β j = some (b, d) → b < w.heap.size := fun j b d hb => hR.lt hb
  obtain ⟨L, dL, hL0, hL1⟩ := hR.top
  refine ⟨?_, ?_, ?_, ?_, ?_, hR.top_put h0 (show w.heap.size ≤ (w.heap.push _).size by simp), hR.tab.mono (fun b hb => hb.ext he) fun b hb => heap_alloc_old (hR.exempt_lt hb)⟩
  · intro j b d hjb
    by_cases hj : j = i
    · subst hj
      obtain ⟨rfl, rfl⟩ := hself b d hjb
      exact .inr ⟨cells.size, by rw [hf]; exact shape_of_heap (heap_alloc_new' w _)⟩
    · rcases hR.ty j b d (hb j b d hj hjb) with h1 | ⟨s, h1⟩
      · exact .inl (h1.ext he)
      · exact .inr ⟨s, hs _ _ h1⟩
  · intro j b d hst hjb
    by_cases hj : j = i
    · subst hj
      obtain ⟨rfl, rfl⟩ := hself b d hjb
      rw [hf]
      refine ⟨cells, ty, (0, 0), heap_alloc_new' w _, fun _ => ⟨rfl, rfl⟩, ?_⟩
      intro o c hc
      obtain ⟨v, h1, h2⟩ := hL o c hc
      exact ⟨v, by simpa using h1, h2.mono he hs⟩
    · have h1 := hb j b d hj hjb
      obtain ⟨cells', ty', fr, h2, h3, h4⟩ := hR.live j b d hst h1
      refine ⟨cells', ty', fr, (heap_alloc_old (hlt j b d h1)).trans h2, h3, ?_⟩
      intro o c hc
      obtain ⟨v, h5, h6⟩ := h4 o c hc
      exact ⟨v, h5, h6.mono he hs⟩
  · intro j k b d d' hjk hj hk hbj hbk
    by_cases hji : j = i
    · subst hji
      obtain ⟨rfl, rfl⟩ := hself b d hbj
      have := hlt k _ d' (hb k _ d' (Ne.symm hjk) hbk)
      omega
    · by_cases hki : k = i
      · subst hki
        obtain ⟨rfl, rfl⟩ := hself b d' hbk
        have := hlt j _ d (hb j _ d hji hbj)
        omega
      · exact hR.inj j k b d d' hjk hj hk (hb j b d hji hbj) (hb k b d' hki hbk)
  · intro j hj
    have : j ≠ i := by omega
    simp [Inj.put, this, hR.dom j hj]
  · intro j b d hst hjb hex
    rw [exempt_put h0 hL0] at hex
    by_cases hj : j = i
    · subst hj
      obtain ⟨rfl, rfl⟩ := hself b d hjb
      exact hR.fresh (Nat.le_refl _) hex
    · exact hR.low j b d hst (hb j b d hj hjb) hex

/-- A block laid by both. -/
theorem Rel.both (hR : Rel P β h w) {cs : List CV} {ty : Nat} {cells : Array Value} (hL : ∀ (o : Nat) (c : CV), cs[o]? = some c → ∃ v, cells[o]? = some v ∧ relC P β w c v) :
    Rel P (β.put h.n (w.heap.size, 0)) (h.alloc cs ty) (w.alloc (.cells cells ty)) :=
  (hR.unmapped cs ty).mapped (by simp [H.alloc]) alloc_f_new (hR.dom _ (Nat.le_refl _)) hL
theorem Stp.both (hR : Rel P β h w) (cs : List CV) (ty : Nat) (cells : Array Value) : Stp β h w (β.put h.n (w.heap.size, 0)) (h.alloc cs ty) (w.alloc (.cells cells ty)) := by
  have h0 := hR.dom h.n (Nat.le_refl _)
  refine ⟨Inj.put_ext h0, shapes_alloc w _, by simp [H.alloc], ?_, fun i hi _ => alloc_f_old (by omega), fun i hi hs => by rwa [alloc_f_old (by omega)] at hs, ?_, ?_, (show w.heap.size ≤ (w.heap.push _).size by simp), rfl, rfl, rfl, fun a _ => frozen_alloc w _ _ a⟩
  · intro i hi hb
    have : i ≠ h.n := by omega
    exact ⟨by simp [Inj.put, this, hb], alloc_f_old this⟩
  · intro i b d hi _ hb
    by_cases hh : i = h.n
    · subst hh
      simp [Inj.put] at hb
      omega
    · simp only [Inj.put, if_neg hh] at hb
      rw [hR.dom i hi] at hb
      simp at hb
  · intro b hb _
    exact heap_alloc_old hb
/-- Where a new block begins. -/
theorem addr_both (w : World) : addrR (β.put h.n (w.heap.size, 0)) (h.n, 0) ⟨w.heap.size, 0, none⟩ := ⟨w.heap.size, 0, by simp [Inj.put], by simp⟩

/-- The world has drawn. -/
theorem Rel.drew (hR : Rel P β h w) : Rel P β h w.drew := by
  have hs : Shapes w w.drew := fun _ _ h => h
  refine ⟨hR.ty, ?_, hR.inj, hR.dom, hR.low, hR.top, hR.tab.mono (fun _ hb => hb) fun _ _ => rfl⟩
  intro i b d hst hb
  obtain ⟨cells, ty, fr, h1, h2, h3⟩ := hR.live i b d hst hb
  exact ⟨cells, ty, fr, h1, h2, fun o c hc => by
    obtain ⟨v, h4, h5⟩ := h3 o c hc
    exact ⟨v, h4, h5.mono (Ext.refl _) hs⟩⟩
theorem Stp.drew (hR : Rel P β h w) : Stp β h w β h w.drew :=
  ⟨Ext.refl β, fun _ _ h => h, Nat.le_refl _, fun _ _ h0 => ⟨h0, rfl⟩, fun _ _ _ => rfl, fun _ _ hs => hs, fun i b d hi _ hb => by rw [hR.dom i hi] at hb; simp at hb, fun _ _ _ => rfl, Nat.le_refl _, rfl, rfl, rfl, fun _ _ => rfl⟩

/-- The world has grown, and what was there is as it was. -/
theorem shapes_grown {w w' : World} (hb : ∀ k, k < w.heap.size → w'.heap[k]? = w.heap[k]?) : Shapes w w' := by
  intro b s hs
  have : b < w.heap.size := by
    rcases Nat.lt_or_ge b w.heap.size with h | h
    · exact h
    · simp [World.shape?, Array.getElem?_eq_none h] at hs
  unfold World.shape? at hs ⊢
  rw [hb b this]
  exact hs
theorem Rel.grown (hR : Rel P β h w) {w' : World} (hz : w.heap.size ≤ w'.heap.size) (hb : ∀ k, k < w.heap.size → w'.heap[k]? = w.heap[k]?) : Rel P β h w' := by
  have hs := shapes_grown hb
  refine ⟨fun i b d hi => (hR.ty i b d hi).imp id fun ⟨s, e⟩ => ⟨s, hs _ _ e⟩, ?_, hR.inj, hR.dom, hR.low, ?_, hR.tab.mono (fun _ hb => hb) fun b h1 => hb b (hR.exempt_lt h1)⟩
  · intro i b d hst hbi
    obtain ⟨cells, ty, fr, h1, h2, h3⟩ := hR.live i b d hst hbi
    exact ⟨cells, ty, fr, by rw [hb b (hR.lt hbi)]; exact h1, h2, fun o c hc => by
      obtain ⟨v, h4, h5⟩ := h3 o c hc
      exact ⟨v, h4, h5.mono (Ext.refl _) hs⟩⟩
  · obtain ⟨L, d, h1, h2⟩ := hR.top
    exact ⟨L, d, h1, by omega⟩
theorem Stp.grown (hR : Rel P β h w) {w' : World} (hz : w.heap.size ≤ w'.heap.size) (hb : ∀ k, k < w.heap.size → w'.heap[k]? = w.heap[k]?) (h1 : w'.os = w.os) (h2 : w'.tape = w.tape) (h3 : w'.output = w.output) : Stp β h w β h w' :=
  ⟨Ext.refl β, shapes_grown hb, Nat.le_refl _, fun _ _ h0 => ⟨h0, rfl⟩, fun _ _ _ => rfl, fun _ _ hs => hs, fun i b d hi _ hb => by rw [hR.dom i hi] at hb; simp at hb, fun b hk _ => hb b hk, hz, h1, h2, h3, fun a ha => by
    unfold World.frozen?
    rw [hb _ ha]⟩

/-! ### cells written -/
theorem shapes_setRow (w : World) {g : Nat} {old cs : Array Value} {t : TypeId} {fr : Nat × Nat} (hg : w.heap[g]? = some (.cells old t fr)) (hs : cs.size = old.size) : Shapes w (w.setRow g cs) := by
  intro b s h
  by_cases hb : b = g
  · subst hb
    rw [shape_of_heap (setRow_heap w b old cs t fr hg), hs, ← shape_of_heap hg]
    exact h
  · unfold World.shape? at h ⊢
    rw [setRow_other w g b cs hb]
    exact h
theorem setBlk_f {i j : Nat} {b : Blk} : (h.setBlk i b).f j = if j = i then b else h.f j := rfl

theorem Rel.stored (hR : Rel P β h w) {a : Nat × Nat} {b d : Nat} (ha : β a.1 = some (b, d)) {vs : List CV} {us : List Value} {h' : H} (hst : h.store a vs = some h') (hL : relL P β w vs us) :
    ∃ cur, w.heap[b]? = some (.cells cur (h.f a.1).ty (0, 0)) ∧ (us = [] ∨ d + a.2 + us.length ≤ cur.size) ∧
      Rel P β h' (w.setRow b (if us = [] then cur else (cur.toList.take (d + a.2) ++ us ++ cur.toList.drop (d + a.2 + us.length)).toArray)) ∧
      Stp β h w β h' (w.setRow b (if us = [] then cur else (cur.toList.take (d + a.2) ++ us ++ cur.toList.drop (d + a.2 + us.length)).toArray)) := by
  unfold H.store at hst
  split at hst
  · rename_i hc
    obtain ⟨hrw, hlen⟩ := hc
    simp only [Option.some.injEq] at hst
    subst hst
    obtain ⟨cur, ty, fr, h1, h2, h3⟩ := hR.live _ _ _ (by rw [hrw]; simp) ha
    obtain ⟨hty, hfr⟩ := h2 hrw
    subst hfr
    subst hty
    have hl := hL.length
    have hroom : us = [] ∨ d + a.2 + us.length ≤ cur.size := by
      cases us with
      | nil => exact .inl rfl
      | cons u us =>
        right
        have h4 : (h.f a.1).cs[a.2 + us.length]? = some ((h.f a.1).cs[a.2 + us.length]'(by simp at hl; omega)) := List.getElem?_eq_getElem _
        obtain ⟨v, h5, _⟩ := h3 _ _ h4
        have := (Array.getElem?_eq_some_iff.1 h5).1
        simp
        omega
    refine ⟨cur, h1, hroom, ?_⟩
    generalize hnew : (if us = [] then cur else (cur.toList.take (d + a.2) ++ us ++ cur.toList.drop (d + a.2 + us.length)).toArray) = new
    have hsz : new.size = cur.size := by
      rw [← hnew]
      split
      · rfl
      · rename_i hne
        rcases hroom with h0 | h0
        · exact absurd h0 hne
        · simp; omega
    have hs := shapes_setRow w (cs := new) h1 hsz
    have hcell : ∀ o c, (((h.f a.1).cs.take a.2 ++ (vs ++ (h.f a.1).cs.drop (a.2 + vs.length))))[o]? = some c → ∃ v, new[d + o]? = some v ∧ relC P β w c v := by
      intro o c hc
      rcases hroom with rfl | hroom
      · have : vs = [] := by simpa using hl
        subst this
        simp only [if_true] at hnew
        subst hnew
        simp only [List.nil_append, List.length_nil, Nat.add_zero, List.take_append_drop] at hc
        exact h3 o c hc
      · have hne : us = [] ∨ us ≠ [] := by cases us <;> simp
        rcases hne with rfl | hne
        · have : vs = [] := by simpa using hl
          subst this
          simp only [if_true] at hnew
          subst hnew
          simp only [List.nil_append, List.length_nil, Nat.add_zero, List.take_append_drop] at hc
          exact h3 o c hc
        rw [if_neg hne] at hnew
        subst hnew
        by_cases ho : o < a.2
        · rw [List.getElem?_append_left (by simp; omega), List.getElem?_take_of_lt ho] at hc
          obtain ⟨v, h5, h6⟩ := h3 o c hc
          refine ⟨v, ?_, h6⟩
          rw [List.getElem?_toArray, List.append_assoc, List.getElem?_append_left (by simp; omega), List.getElem?_take_of_lt (by omega)]
          simpa using h5
        · rw [List.getElem?_append_right (by simp; omega)] at hc
          have e1 : ((h.f a.1).cs.take a.2).length = a.2 := by simp; omega
          rw [e1] at hc
          have e2 : (cur.toList.take (d + a.2)).length = d + a.2 := by simp; omega
          by_cases ho2 : o - a.2 < vs.length
          · rw [List.getElem?_append_left ho2] at hc
            obtain ⟨v, h5, h6⟩ := hL.get hc
            refine ⟨v, ?_, h6⟩
            rw [List.getElem?_toArray, List.append_assoc, List.getElem?_append_right (by rw [e2]; omega), e2, List.getElem?_append_left (by omega)]
            rw [show d + o - (d + a.2) = o - a.2 by omega]
            exact h5
          · rw [List.getElem?_append_right (by omega), List.getElem?_drop] at hc
            rw [show a.2 + vs.length + (o - a.2 - vs.length) = o by omega] at hc
            obtain ⟨v, h5, h6⟩ := h3 o c hc
            refine ⟨v, ?_, h6⟩
            rw [List.getElem?_toArray, List.append_assoc, List.getElem?_append_right (by rw [e2]; omega), e2, List.getElem?_append_right (by omega), List.getElem?_drop]
            rw [show d + a.2 + us.length + (d + o - (d + a.2) - us.length) = d + o by omega]
            simpa using h5
    have hother : ∀ j bb dd, j ≠ a.1 → (h.f j).st ≠ .dead → β j = some (bb, dd) → bb ≠ b := fun j bb dd hj hjs hjb e => by
      subst e
      exact hR.inj a.1 j bb d dd (Ne.symm hj) hrw hjs ha hjb
    refine ⟨⟨?_, ?_, ?_, hR.dom, ?_, ?_, ?_⟩, ⟨Ext.refl β, hs, Nat.le_refl _, ?_, ?_, ?_, ?_, ?_, by simp, rfl, rfl, rfl, fun a _ => frozen_setRow w b new a⟩⟩
    · intro j bb dd hjb
      rcases hR.ty j bb dd hjb with h5 | ⟨s, h5⟩
      · exact .inl h5
      refine .inr ⟨s, ?_⟩
      rw [setBlk_f]
      split
      · rename_i hj; subst hj; exact hs _ _ h5
      · exact hs _ _ h5
    · intro j bb dd hjs hjb
      rw [setBlk_f] at hjs ⊢
      by_cases hj : j = a.1
      · subst hj
        rw [if_pos rfl]
        rw [ha] at hjb
        simp only [Option.some.injEq, Prod.mk.injEq] at hjb
        obtain ⟨rfl, rfl⟩ := hjb
        refine ⟨new, (h.f a.1).ty, (0, 0), setRow_heap w b cur new _ _ h1, fun _ => ⟨rfl, rfl⟩, ?_⟩
        intro o c hc
        obtain ⟨v, h5, h6⟩ := hcell o c hc
        exact ⟨v, h5, h6.mono (Ext.refl _) hs⟩
      · rw [if_neg hj] at hjs ⊢
        obtain ⟨cells', ty', fr, h5, h6, h7⟩ := hR.live j bb dd hjs hjb
        refine ⟨cells', ty', fr, ?_, h6, ?_⟩
        · rw [setRow_other w b bb new (hother j bb dd hj hjs hjb)]
          exact h5
        · intro o c hc
          obtain ⟨v, h8, h9⟩ := h7 o c hc
          exact ⟨v, h8, h9.mono (Ext.refl _) hs⟩
    · intro i j bb dd dd' hij hi hj hbi hbj
      rw [setBlk_f] at hi hj
      refine hR.inj i j bb dd dd' hij ?_ ?_ hbi hbj
      · split at hi
        · rename_i e; subst e; exact hrw
        · exact hi
      · split at hj
        · rename_i e; subst e; rw [hrw]; simp
        · exact hj
    · intro i bb dd hi hbi
      rw [setBlk_f] at hi
      refine hR.low i bb dd ?_ hbi
      split at hi
      · rename_i e; subst e; exact hrw
      · exact hi
    · obtain ⟨L, dL, h5, h6⟩ := hR.top
      exact ⟨L, dL, h5, by simpa using h6⟩
    · exact hR.tab.mono (fun _ hb => hb) fun bb hb => setRow_other w b bb new (fun e => hR.low _ b d hrw ha (e ▸ hb))
    · intro i hi h0
      refine ⟨h0, ?_⟩
      rw [setBlk_f, if_neg (fun e => by subst e; rw [ha] at h0; simp at h0)]
    · intro i hi h0
      rw [setBlk_f, if_neg (fun e => by subst e; exact h0 hrw)]
    · intro i hi h0
      rw [setBlk_f] at h0
      split at h0
      · rename_i e; subst e; exact hrw
      · exact h0
    · intro i bb dd hi _ hb
      have hi' : h.n ≤ i := hi
      rw [hR.dom i hi'] at hb
      simp at hb
    · intro bb hbb hno
      refine setRow_other w b bb new ?_
      intro e
      subst e
      have hlt : a.1 < h.n := by
        rcases Nat.lt_or_ge a.1 h.n with h' | h'
        · exact h'
        · rw [hR.dom a.1 h'] at ha; simp at ha
      exact hno a.1 d hlt hrw ha
  · simp at hst
end
end Go.Proofs.YtoeceafibmafpaaDoor.Am
/-! The abstract machine: the operations that lay blocks, write cells, append or call, against the model's. -/
namespace Go.Proofs.YtoeceafibmafpaaDoor.Am
open Go

def relVs (P : Program) (β : Inj) (w : World) : List AV → List Value → Prop
  | [], [] => True
  | c :: r, v :: s => relV P β w c v ∧ relVs P β w r s
  | _, _ => False

/-- What an oracle says of a call, the model's call does. -/
def Sound (P : Program) (call : Oracle) : Prop := ∀ f args h r h', call f args h = some (r, h') →
  (∃ fn, P.funcs[f]? = some fn ∧ (fn.name == "runtime.NumGoroutine") = false ∧ fn.body.isNone = false) ∧
  ∀ β w vs, Rel P β h w → relVs P β w args vs →
    Calls P f vs.toArray w fun e w' => ∃ u β', e = .returned u ∧ relV P β' w' r u ∧ Rel P β' h' w' ∧ Stp β h w β' h' w'

/-- The model's operation, whatever comes behind it. -/
def OpOk (P : Program) (β : Inj) (h : H) (w : World) (a : Act) (op : Op) (v : AV) (h' : H) : Prop :=
  ∀ (o : Oper) (K : Act → World → Prop) (Q : Exit → Act → World → Prop), o.op = op →
    (∀ β' w' u, relV P β' w' v u → Rel P β' h' w' → Stp β h w β' h' w' → K (a.put o.dst u) w') → o.wp P a w K Q

section
variable {P : Program} {β : Inj} {w : World} {T : Tm} {a : Act} {h h' : H} {v : AV}

theorem opOk_value {op : Op} {β' : Inj} {w' : World} {u : Value} (hr : ∀ o : Oper, o.op = op → (execOp a.eval o).run P w = .ok (.value u) w') (h1 : relV P β' w' v u) (h2 : Rel P β' h' w') (h3 : Stp β h w β' h' w') :
    OpOk P β h w a op v h' := by
  intro o K Q ho hK
  unfold Oper.wp
  rw [hr o ho]
  exact hK β' w' u h1 h2 h3
theorem opOk_skip {op : Op} {β' : Inj} {w' : World} (hr : ∀ o : Oper, o.op = op → (execOp a.eval o).run P w = .ok .skip w') (hv : v = undefA) (h2 : Rel P β' h' w') (h3 : Stp β h w β' h' w') :
    OpOk P β h w a op v h' := by
  intro o K Q ho hK
  unfold Oper.wp
  rw [hr o ho]
  subst hv
  exact hK β' w' undef ⟨#[], rfl, trivial⟩ h2 h3

theorem opOk_pure {op : Op} {ao : AOp} (hR : Rel P β h w) (hA : relA P β w T a) (hc : compOp P op = some ao) (hv : pureA ao T h = some v) : OpOk P β h w a op v h := by
  obtain ⟨u, h1, h2⟩ := pure_sound hR hA.opnd hc hv
  exact opOk_value h1 h2 hR (Stp.refl β h w hR.dom)

/-- A block laid by the model, whatever its number in the machine. -/
def LaidOk (P : Program) (β : Inj) (w : World) (a : Act) (op : Op) (cs : List CV) (ty : Nat) (mk : Nat → AV) : Prop :=
  ∃ arr u, (∀ o : Oper, o.op = op → (execOp a.eval o).run P w = .ok (.value u) (w.alloc (.cells arr ty))) ∧ relL P β w cs arr.toList ∧
    ∀ (β' : Inj) (id : Nat), β' id = some (w.heap.size, 0) → relV P β' (w.alloc (.cells arr ty)) (mk id) u
theorem LaidOk.opOk {op : Op} {cs : List CV} {ty : Nat} {mk : Nat → AV} (hR : Rel P β h w) (hl : LaidOk P β w a op cs ty mk) : OpOk P β h w a op (mk h.n) (h.alloc cs ty) := by
  obtain ⟨arr, u, h1, h2, h3⟩ := hl
  refine opOk_value h1 (h3 (β.put h.n (w.heap.size, 0)) h.n (by simp [Inj.put])) (hR.both fun o c hc => ?_) (Stp.both hR cs ty arr)
  obtain ⟨v, h5, h6⟩ := h2.get hc
  exact ⟨v, by rw [← Array.getElem?_toList]; exact h5, h6⟩
theorem addr_at {β' : Inj} {id b : Nat} (hb : β' id = some (b, 0)) : addrR β' (id, 0) ⟨b, 0, none⟩ := ⟨b, 0, hb, by simp⟩

theorem run_newVarA (t : TypeId) (x : Value) : (newVar t x).run P w = .ok ⟨w.heap.size, 0, none⟩ (w.alloc (.cells x.cells t)) := by
  simp [newVar, newRow, newObj, Sem.run, World.alloc_eq]

theorem laid_alloc {e : TypeId} {z : List CV} (hz : zeroT P e = some z) : LaidOk P β w a (.alloc e) z e (fun i => .one (.ptr (some (i, 0)))) := by
  obtain ⟨i, zv, h1, h2, h3, h4⟩ := zeroT_spec hz
  exact ⟨zv.cells, .pointer (some ⟨w.heap.size, 0, none⟩), fun o ho => by simp [execOp, ho, Instr.alloc, run_zeroA h1 h2, run_newVarA], cvsOf_rel h3, fun β' id hb => ⟨_, rfl, addr_at hb⟩⟩

theorem laid_box {e : TypeId} {x : Operand} {ax : AX} {cs : List CV} (hA : relA P β w T a) (hx : opnd x = some ax) (hc : (ax.ev T).cells = some cs) :
    LaidOk P β w a (.box e x) cs e (fun i => .one (.ptr (some (i, 0)))) := by
  have hr := hA.opnd x ax hx
  exact ⟨(a.eval x).cells, .pointer (some ⟨w.heap.size, 0, none⟩), fun o ho => by simp [execOp, ho, Instr.box, run_newVarA], hr.cells hc, fun β' id hb => ⟨_, rfl, addr_at hb⟩⟩

theorem room_new {t : TypeId} {cells : Array Value} {c : Nat} (hc : c * P.cellsOf t ≤ cells.size) : ∀ β' : Inj, roomR P β' (w.alloc (.cells cells t)) ⟨w.heap.size, 0, none⟩ c := fun _ =>
  .inr ⟨t, cells.size, shape_of_heap (heap_alloc_new' w _), by simpa using hc⟩

theorem laid_buildSlice {t e : TypeId} {len k : Nat} {z cs : List CV} {parts : Array (Nat × Operand)} {aps : List (Nat × Nat × AX)} (hA : relA P β w T a) (ht : P.underlying t = some (.slice e))
    (hk : sizeT P e = some k) (hz : zeroT P e = some z) (h0 : 0 < k) (hs : len * k ≤ 16777216) (hzl : z.length = k) (hke : k = P.cellsOf e) (hp : partsR k parts.toList = some aps)
    (hf : fillA (repl z len) (aps.map fun p => (p.1, p.2.1, p.2.2.ev T)) = some cs) :
    LaidOk P β w a (.buildSlice t len parts) cs e (fun i => .one (.sl (some (i, 0)) len (some len))) := by
  obtain ⟨i, zv, h1, h2, h3, h4⟩ := zeroT_spec hz
  have hL : relL P β w z zv.cells.toList := cvsOf_rel h3
  have hzs : zv.cells.size = k := by have := hL.length; simp at this; omega
  have hki : i.size = k := by
    unfold sizeT at hk
    rw [h1] at hk
    simpa using hk
  obtain ⟨h6, h7⟩ := partsR_spec hp
  have hrep := repl_rel hL len
  obtain ⟨cells', h8, h9⟩ := fill_rel (P := P) (β := β) (w := w) (place := fun i => some (i * k, k)) (cells := (Array.range (len * zv.cells.size)).map (zv.cells[· % zv.cells.size]!)) hA.opnd h6 h7 hrep hf
  have hcs : cells'.size = len * k := by
    have e1 := h9.length
    have e2 : ∀ (ps : List (Nat × Nat × AV)) (x y : List CV), fillA x ps = some y → y.length = x.length := by
      intro ps
      induction ps with
      | nil => intro x y hxy; simp [fillA] at hxy; rw [hxy]
      | cons p ps ih =>
        intro x y hxy
        unfold fillA at hxy
        split at hxy
        · simp at hxy
        · split at hxy
          · rename_i hc
            rw [ih _ _ hxy]
            simp
            omega
          · simp at hxy
    have e3 := e2 _ _ _ hf
    rw [repl_length] at e3
    simp at e1
    rw [← e1, e3, hzl]
  by_cases hlen : len * k = 0
  · have hl0 : len = 0 := by
      rcases Nat.mul_eq_zero.1 hlen with h' | h'
      · exact h'
      · omega
    subst hl0
    have hc0 : cells' = #[] := Array.size_eq_zero_iff.1 (by rw [hcs]; simp)
    refine ⟨cells', .slice (some ⟨w.heap.size, 0, none⟩) 0 0, fun o ho => ?_, h9, fun β' id hb => ⟨_, 0, rfl, Nat.le_refl _, .inr rfl, .inl ⟨rfl, ⟨_, hb⟩⟩⟩⟩
    have h10 : Instr.fill (fun i => some (i * k, k)) #[] (parts.toList.map fun p => (p.1, a.eval p.2)) = some cells' := by
      have : (Array.range (0 * zv.cells.size)).map (zv.cells[· % zv.cells.size]!) = #[] := by simp
      rw [← this]
      exact h8
    have hr0 : (Array.range 0).map (fun _ => (default : Value)) = #[] := by apply Array.ext <;> simp
    simp [execOp, ho, Instr.buildSlice, run_underlyingA ht, run_sizeA hk]
    have h11 : Instr.fill (fun i => some (i * k, k)) ((Array.range 0).map (fun _ => (default : Value))) (parts.toList.map fun x => (x.1, a.eval x.2)) = some cells' := by
      rw [hr0]
      exact h10
    rw [h11]
    simp [newRow, newObj, Sem.run, World.alloc_eq]
  · refine ⟨cells', .slice (some ⟨w.heap.size, 0, none⟩) len len, fun o ho => ?_, h9, fun β' id hb => ⟨_, len, rfl, Nat.le_refl _, .inr rfl, .inr ⟨addr_at hb, room_new (by rw [hcs, hke]; exact Nat.le_refl _) β'⟩⟩⟩
    have h10 := run_buildSlice (P := P) w t e len (parts.map fun (i, x) => (i, a.eval x)) cells' i zv ht h1 h2 (by rw [hki]; omega) (by rw [hki]; exact hlen) (by
      rw [hki, ← hzs]
      rw [← h8]
      simp [hzs])
    simp [execOp, ho, h10]

theorem laid_mkslice {t e : TypeId} {k b : Nat} {z : List CV} {l c : Operand} {al ac : AX} {ln cn : Int} (hA : relA P β w T a) (ht : P.underlying t = some (.slice e))
    (hk : sizeT P e = some k) (hb : bytesT P e = some b) (hz : zeroT P e = some z) (hzl : z.length = k) (hke : k = P.cellsOf e) (hl : opnd l = some al) (hc : opnd c = some ac)
    (e1 : al.ev T = .one (.int .i64 ln)) (e2 : ac.ev T = .one (.int .i64 cn)) (h0 : 0 ≤ ln) (hlc : ln ≤ cn) (hby : cn * b ≤ 140737488355328) (h63 : cn ≤ 9223372036854775807) :
    LaidOk P β w a (.makeSlice t l c) (repl z cn.toNat) e (fun i => .one (.sl (some (i, 0)) ln.toNat (some cn.toNat))) := by
  obtain ⟨i, zv, h1, h2, h3, h4⟩ := zeroT_spec hz
  have hL : relL P β w z zv.cells.toList := cvsOf_rel h3
  have hzs : zv.cells.size = k := by have := hL.length; simp at this; omega
  have hki : i.size = k := by
    unfold sizeT at hk
    rw [h1] at hk
    simpa using hk
  have hbi : i.bytes = b := by
    unfold bytesT at hb
    rw [h1] at hb
    simpa using hb
  have r1 := hA.opnd l al hl
  have r2 := hA.opnd c ac hc
  rw [e1] at r1
  rw [e2] at r2
  have r1 : a.eval l = .int .i64 ln := r1
  have r2 : a.eval c = .int .i64 cn := r2
  have hrep := repl_rel hL cn.toNat
  have hrun := run_make (P := P) w t e i zv ht h1 h2 .i64 .i64 ln cn h0 hlc (by rw [hbi, Int.mul_comm]; omega) h63
  have hm : madeCells zv.cells (cn.toNat * i.size) = (Array.range (cn.toNat * zv.cells.size)).map (zv.cells[· % zv.cells.size]!) := by
    rw [hki, ← hzs]
    rfl
  rw [hm] at hrun
  refine ⟨(Array.range (cn.toNat * zv.cells.size)).map (zv.cells[· % zv.cells.size]!), .slice (some ⟨w.heap.size, 0, none⟩) ln.toNat cn.toNat, fun o ho => ?_, hrep,
    fun β' id hb => ⟨_, cn.toNat, rfl, by omega, .inr rfl, .inr ⟨addr_at hb, room_new (by simp [hzs, hke]) β'⟩⟩⟩
  simp [execOp, ho, r1, r2, hrun]

theorem opOk_store {t : TypeId} {k : Nat} {x y : Operand} {ax ay : AX} {p : Nat × Nat} {cs : List CV} (hR : Rel P β h w) (hA : relA P β w T a) (hk : sizeT P t = some k) (hx : opnd x = some ax) (hy : opnd y = some ay)
    (e1 : ax.ev T = .one (.ptr (some p))) (e2 : (ay.ev T).cells = some cs) (hl : cs.length = k) (hs : h.store p cs = some h') : OpOk P β h w a (.store t x y) undefA h' := by
  have r1 := hA.opnd x ax hx
  have r2 := (hA.opnd y ay hy).cells e2
  rw [e1] at r1
  obtain ⟨m, h1, b, d, h2, rfl⟩ := r1
  obtain ⟨cur, h3, h4, h5, h6⟩ := hR.stored h2 hs r2
  have hlen : (a.eval y).cells.size = k := by have := r2.length; simp at this; omega
  refine opOk_skip (fun o ho => ?_) rfl h5 h6
  have hst : (storeCells ⟨b, d + p.2, none⟩ (a.eval y).cells.toList 0).run P w = .ok () (w.setRow b (if (a.eval y).cells.toList = [] then cur else (cur.toList.take (d + p.2) ++ (a.eval y).cells.toList ++ cur.toList.drop (d + p.2 + (a.eval y).cells.toList.length)).toArray)) := by
    by_cases hne : (a.eval y).cells.toList = []
    · rw [hne, if_pos rfl, setRow_self w b cur _ _ h3]
      rfl
    · rw [if_neg hne]
      have := run_storeCells_at P b (d + p.2) _ (a.eval y).cells.toList 0 cur w h3 (by rcases h4 with h4 | h4; exact absurd h4 hne; simpa using h4) r2.oneCell
      simpa using this
  simp [execOp, ho, Instr.storeAt, h1, Instr.sureAddr, storeVar, run_sizeA hk, hlen, hst]
end
end Go.Proofs.YtoeceafibmafpaaDoor.Am
/-! The abstract machine: append and calls against the model's; then all operations together. -/
namespace Go.Proofs.YtoeceafibmafpaaDoor.Am
open Go

section
variable {P : Program} {β : Inj} {w : World} {T : Tm} {a : Act} {h h' : H} {v : AV}

/-! ### append: the model's runs -/
theorem run_append_zero {t ty e : TypeId} {k : Nat} (ht : P.underlying t = some (.slice e)) (hk : sizeT P e = some k) (b x : Option Addr) (n c xc : Nat) (hn : n ≤ c) :
    (Builtin.append_ #[t, t] ty #[.slice b n c, .slice x 0 xc]).run P w = .ok (.slice b n c) w := by
  cases b <;> cases x <;> simp [Builtin.append_, run_underlyingA ht, run_sizeA hk, Builtin.lenOf, hn, Builtin.firstCells, loadCells, loadCellsFrom, storeCells]

theorem run_append_in {t ty e : TypeId} {k : Nat} (ht : P.underlying t = some (.slice e)) (hk : sizeT P e = some k) (g o : Nat) (x : Addr) (n c m xc : Nat) (hn : n + m ≤ c) {news : List Value}
    (hl : news.length = m * k) (hx : ∀ (j : Nat) (v : Value), news[j]? = some v → w.cell? (x.add j) = some v) {te : TypeId} {cur : Array Value} (hg : w.heap[g]? = some (.cells cur te (0, 0)))
    (hroom : o + n * k + news.length ≤ cur.size) (h1 : ∀ v ∈ news, v.oneCell' = true) :
    (Builtin.append_ #[t, t] ty #[.slice (some ⟨g, o, none⟩) n c, .slice (some x) m xc]).run P w =
      .ok (.slice (some ⟨g, o, none⟩) (n + m) c) (w.setRow g (cur.toList.take (o + n * k) ++ news ++ cur.toList.drop (o + n * k + news.length)).toArray) := by
  have hload : (loadCells x (m * k)).run P w = .ok news.toArray w := by
    rw [← hl]
    exact run_loadCells_list w x news hx
  have hadd : (⟨g, o, none⟩ : Addr).add (n * k) = ⟨g, o + n * k, none⟩ := by unfold Addr.add; split <;> simp_all
  have hst := run_storeCells_at P g (o + n * k) te news 0 cur w hg (by simpa using hroom) h1
  simp only [Nat.add_zero] at hst
  simp [Builtin.append_, run_underlyingA ht, run_sizeA hk, Builtin.lenOf, hn, Builtin.firstCells, hload, hadd, hst]

/-! ### append: a block that is given up -/
theorem kill_f {i j : Nat} : (h.kill i).f j = if j = i then { h.f i with st := .dead } else h.f j := rfl
theorem Rel.killed (hR : Rel P β h w) (i : Nat) : Rel P β (h.kill i) w := by
  refine ⟨?_, ?_, ?_, hR.dom, ?_, hR.top, hR.tab⟩
  · intro j b d hb
    rw [kill_f]
    rcases hR.ty j b d hb with h1 | ⟨s, h1⟩
    · exact .inl h1
    right
    split
    · rename_i e; subst e; exact ⟨s, h1⟩
    · exact ⟨s, h1⟩
  · intro j b d hs hb
    rw [kill_f] at hs ⊢
    split at hs
    · simp at hs
    · rename_i hj
      rw [if_neg hj]
      exact hR.live j b d hs hb
  · intro j k b d d' hjk hj hk hbj hbk
    rw [kill_f] at hj hk
    split at hj
    · simp at hj
    · split at hk
      · simp at hk
      · exact hR.inj j k b d d' hjk hj hk hbj hbk
  · intro j b d hs hb
    rw [kill_f] at hs
    split at hs
    · simp at hs
    · exact hR.low j b d hs hb
theorem Stp.killed (hR : Rel P β h w) {i : Nat} {p : Nat × Nat} (hrw : (h.f i).st = .rw) (hm : β i = some p) : Stp β h w β (h.kill i) w := by
  refine ⟨Ext.refl β, Shapes.refl w, Nat.le_refl _, ?_, ?_, ?_, ?_, fun _ _ _ => rfl, Nat.le_refl _, rfl, rfl, rfl, fun _ _ => rfl⟩
  · intro j hj h0
    refine ⟨h0, ?_⟩
    rw [kill_f, if_neg (fun e => by subst e; rw [hm] at h0; simp at h0)]
  · intro j hj h0
    rw [kill_f, if_neg (fun e => by subst e; exact h0 hrw)]
  · intro j hj h0
    rw [kill_f] at h0
    split at h0
    · simp at h0
    · exact h0
  · intro j b d hj _ hb
    have hj' : h.n ≤ j := hj
    rw [hR.dom j hj'] at hb
    simp at hb

/-- A row that has grown in its own block: the elder block is given up, the new one stands for the same model block. -/
theorem Rel.regrown (hR : Rel P β h w) {i g d o0 : Nat} (hrw : (h.f i).st = .rw) (hm : β i = some (g, d)) {ty : Nat} (hty : (h.f i).ty = ty) {cur arr : Array Value} (hg : w.heap[g]? = some (.cells cur ty (0, 0))) (hs : arr.size = cur.size) {cs : List CV}
    (hL : ∀ (o : Nat) (c : CV), cs[o]? = some c → ∃ v, arr[o0 + o]? = some v ∧ relC P β w c v) :
    Rel P (β.put h.n (g, o0)) ((h.kill i).alloc cs ty) (w.setRow g arr) ∧ Stp β h w (β.put h.n (g, o0)) ((h.kill i).alloc cs ty) (w.setRow g arr) := by
  have h0 := hR.dom h.n (Nat.le_refl _)
  have he := Inj.put_ext (p := (g, o0)) h0
  have hsh := shapes_setRow w (cs := arr) hg hs
  have hin : i < h.n := by
    rcases Nat.lt_or_ge i h.n with h' | h'
    · exact h'
    · rw [hR.dom i h'] at hm; simp at hm
  have hb : ∀ j b dd, j ≠ h.n → β.put h.n (g, o0) j = some (b, dd) → β j = some (b, dd) := fun j b dd hj hb => by simpa [Inj.put, hj] using hb
  have hself : ∀ b dd, β.put h.n (g, o0) h.n = some (b, dd) → b = g ∧ dd = o0 := fun b dd hb => by simp [Inj.put] at hb; omega
  have hf : ∀ j, j ≠ h.n → j ≠ i → ((h.kill i).alloc cs ty).f j = h.f j := fun j hj hji => by
    rw [show ((h.kill i).alloc cs ty).f j = (h.kill i).f j from alloc_f_old (h := h.kill i) hj, kill_f, if_neg hji]
  have hfi : ((h.kill i).alloc cs ty).f i = { h.f i with st := .dead } := by
    rw [show ((h.kill i).alloc cs ty).f i = (h.kill i).f i from alloc_f_old (h := h.kill i) (show i ≠ h.n by omega), kill_f, if_pos rfl]
  have hfn : ((h.kill i).alloc cs ty).f h.n = ⟨cs, ty, .rw⟩ := alloc_f_new (h := h.kill i)
  have hfty : ∀ j, j ≠ h.n → (((h.kill i).alloc cs ty).f j).ty = (h.f j).ty := fun j hj => by
    by_cases hji : j = i
    · subst hji; rw [hfi]
    · rw [hf j hj hji]
  have hlive : ∀ j, j ≠ h.n → (((h.kill i).alloc cs ty).f j).st ≠ .dead → j ≠ i := fun j _ hjs e => by
    subst e
    rw [hfi] at hjs
    exact hjs rfl
  have hother : ∀ j b dd, j ≠ h.n → (((h.kill i).alloc cs ty).f j).st ≠ .dead → β j = some (b, dd) → b ≠ g := fun j b dd hj hjs hjb e => by
    subst e
    have hji := hlive j hj hjs
    rw [hf j hj hji] at hjs
    exact hR.inj i j b d dd (Ne.symm hji) hrw hjs hm hjb
  obtain ⟨L, dL, hL0, hL1⟩ := hR.top
  refine ⟨⟨?_, ?_, ?_, ?_, ?_, hR.top_put h0 (by simp), hR.tab.mono (fun b hb => hb.ext he) fun b hb => setRow_other w g b arr (fun e => hR.low i g d hrw hm (e ▸ hb))⟩, ⟨he, hsh, ?_, ?_, ?_, ?_, ?_, ?_, by simp, rfl, rfl, rfl, fun a _ => frozen_setRow w g arr a⟩⟩
  · intro j b dd hjb
    by_cases hj : j = h.n
    · subst hj
      obtain ⟨rfl, rfl⟩ := hself b dd hjb
      rw [hfn]
      exact .inr ⟨arr.size, shape_of_heap (setRow_heap w b cur arr ty _ hg)⟩
    · rcases hR.ty j b dd (hb j b dd hj hjb) with h1 | ⟨s, h1⟩
      · exact .inl (h1.ext he)
      · exact .inr ⟨s, by rw [hfty j hj]; exact hsh _ _ h1⟩
  · intro j b dd hjs hjb
    by_cases hj : j = h.n
    · subst hj
      obtain ⟨rfl, rfl⟩ := hself b dd hjb
      rw [hfn]
      refine ⟨arr, ty, (0, 0), setRow_heap w b cur arr ty _ hg, fun _ => ⟨rfl, rfl⟩, ?_⟩
      intro o c hc
      obtain ⟨v, h1, h2⟩ := hL o c hc
      exact ⟨v, h1, h2.mono he hsh⟩
    · have h1 := hb j b dd hj hjb
      have h2 := hother j b dd hj hjs h1
      have hji := hlive j hj hjs
      rw [hf j hj hji] at hjs ⊢
      obtain ⟨cells', ty', fr, h3, h4, h5⟩ := hR.live j b dd hjs h1
      refine ⟨cells', ty', fr, (setRow_other w g b arr h2).trans h3, h4, ?_⟩
      intro o c hc
      obtain ⟨v, h6, h7⟩ := h5 o c hc
      exact ⟨v, h6, h7.mono he hsh⟩
  · intro j k b dd dd' hjk hj hk hbj hbk
    have hjd : (((h.kill i).alloc cs ty).f j).st ≠ .dead := by rw [hj]; simp
    by_cases hjn : j = h.n
    · subst hjn
      obtain ⟨rfl, rfl⟩ := hself b dd hbj
      exact hother k b dd' (Ne.symm hjk) hk (hb k b dd' (Ne.symm hjk) hbk) rfl
    · by_cases hkn : k = h.n
      · subst hkn
        obtain ⟨rfl, rfl⟩ := hself b dd' hbk
        exact hother j b dd hjn hjd (hb j b dd hjn hbj) rfl
      · rw [hf j hjn (hlive j hjn hjd)] at hj
        rw [hf k hkn (hlive k hkn hk)] at hk
        exact hR.inj j k b dd dd' hjk hj hk (hb j b dd hjn hbj) (hb k b dd' hkn hbk)
  · intro j hj
    have hj' : h.n + 1 ≤ j := hj
    have : j ≠ h.n := by omega
    simp [Inj.put, this, hR.dom j (by omega)]
  · intro j b dd hjs hjb hex
    rw [exempt_put h0 hL0] at hex
    by_cases hj : j = h.n
    · subst hj
      obtain ⟨rfl, rfl⟩ := hself b dd hjb
      exact hR.low i b d hrw hm hex
    · have hji := hlive j hj (by rw [hjs]; simp)
      rw [hf j hj hji] at hjs
      exact hR.low j b dd hjs (hb j b dd hj hjb) hex
  · exact Nat.le_succ _
  · intro j hj hj0
    have hjn : j ≠ h.n := by omega
    have hji : j ≠ i := fun e => by subst e; rw [hm] at hj0; simp at hj0
    exact ⟨by simp [Inj.put, hjn, hj0], hf j hjn hji⟩
  · intro j hj hjs
    exact hf j (by omega) (fun e => by subst e; exact hjs hrw)
  · intro j hj hjs
    by_cases hji : j = i
    · subst hji; exact hrw
    · rwa [hf j (by omega) hji] at hjs
  · intro j b dd hj _ hjb
    by_cases hjn : j = h.n
    · subst hjn
      obtain ⟨rfl, rfl⟩ := hself b dd hjb
      exact .inr ⟨i, d, hin, hrw, hm⟩
    · have := hb j b dd hjn hjb
      rw [hR.dom j hj] at this
      simp at this
  · intro b _ hno
    exact setRow_other w g b arr (fun e => by subst e; exact hno i d hin hrw hm)

theorem nil_of_zero {cs : List CV} {x : AV} {k : Nat} (hs : srcA h k x = some cs) {b : Option (Nat × Nat)} {c : Option Nat} (hx : x = .one (.sl b 0 c)) : cs = [] := by
  subst hx
  simp [srcA] at hs
  exact hs

/-- The cells of a slice. -/
theorem src_rel (hR : Rel P β h w) {k n : Nat} {b : Nat × Nat} {c : Option Nat} {cs : List CV} {m : Addr} {c' : Nat} (hs : srcA h k (.one (.sl (some b) n c)) = some cs)
    (hr : (c' = 0 ∧ (∃ p, β b.1 = some p)) ∨ (addrR β b m ∧ roomR P β w m c')) (hn : n ≤ c') :
    ∃ vs : List Value, vs.length = n * k ∧ relL P β w cs vs ∧ ∀ (j : Nat) (v : Value), vs[j]? = some v → w.cell? (m.add j) = some v := by
  by_cases h0 : n = 0
  · subst h0
    have := nil_of_zero hs rfl
    subst this
    exact ⟨[], by simp, trivial, by simp⟩
  · rcases hr with ⟨hr, _⟩ | ⟨hr, _⟩
    · omega
    · have hl : h.load b (n * k) = some cs := by
        cases n with
        | zero => exact absurd rfl h0
        | succ n => simpa [srcA] using hs
      exact load_rel hR hr hl

theorem src_length {k n : Nat} {b : Option (Nat × Nat)} {c : Option Nat} {cs : List CV} (hs : srcA h k (.one (.sl b n c)) = some cs) : cs.length = n * k := by
  cases n with
  | zero => rw [nil_of_zero hs rfl]; simp
  | succ n =>
    cases b with
    | none => simp [srcA] at hs
    | some b =>
      simp only [srcA] at hs
      unfold H.load at hs
      split at hs
      · rename_i hc
        simp at hs
        subst hs
        simp
        omega
      · simp at hs

theorem grownCap_ge (w : World) (need old : Nat) (e : TypeId) : need ≤ grownCap w need old e := by
  unfold grownCap
  simp [Question.cut]

theorem zeroCells_size (z : Array Value) (n : Nat) : (Builtin.zeroCells z n).size = n * z.size := by
  simp [Builtin.zeroCells]

/-- The new row of an append that grows. -/
theorem grown_new {e : TypeId} {k : Nat} {cs : List CV} {vs : List Value} {z : Array Value} {need g : Nat} (hR : Rel P β h w) (hL : relL P β w cs vs) (hl : vs.length = need * k) (hz : z.size = k) (hke : k = P.cellsOf e) (hg : need ≤ g) :
    Rel P (β.put h.n (w.drew.heap.size, 0)) (h.alloc cs e) (w.drew.alloc (.cells (vs.toArray ++ Builtin.zeroCells z (g - need)) e)) ∧
    Stp β h w (β.put h.n (w.drew.heap.size, 0)) (h.alloc cs e) (w.drew.alloc (.cells (vs.toArray ++ Builtin.zeroCells z (g - need)) e)) ∧
    relC P (β.put h.n (w.drew.heap.size, 0)) (w.drew.alloc (.cells (vs.toArray ++ Builtin.zeroCells z (g - need)) e)) (.sl (some (h.n, 0)) need none) (.slice (some ⟨w.drew.heap.size, 0, none⟩) need g) := by
  have hRd := hR.drew
  have hs : Shapes w w.drew := fun _ _ h => h
  refine ⟨hRd.both ?_, (Stp.drew hR).trans (Stp.both hRd cs e _), _, g, rfl, hg, .inl rfl, .inr ⟨addr_both w.drew, room_new ?_ _⟩⟩
  · intro o c hc
    obtain ⟨u, h1, h2⟩ := hL.get hc
    refine ⟨u, ?_, h2.mono (Ext.refl _) hs⟩
    rw [Array.getElem?_append_left]
    · simpa using h1
    · have := (List.getElem?_eq_some_iff.1 h1).1
      simpa using this
  · rw [Array.size_append, zeroCells_size, hz, ← hke]
    simp only [List.size_toArray, hl]
    rw [← Nat.add_mul]
    exact Nat.mul_le_mul_right _ (by omega)

theorem run_append_zeros (w : World) (t ti ty e : TypeId) (i : TypeInfo) (z : Value) (ht : P.underlying t = some (.slice e)) (hti : P.underlying ti = some (.int .i64)) (hi : P.info? e = some i) (hz : i.zero = some z)
    (n : Nat) (h0 : 0 < n) (h63 : n ≤ 140737488355328) (h48 : n * i.bytes ≤ 140737488355328) (hs : z.cells.size = i.size) :
    (Builtin.append_ #[t, ti] ty #[.slice none 0 0, .int .i64 n]).run P w =
      .ok (.slice (some ⟨w.drew.heap.size, 0, none⟩) n (grownCap w n 0 e)) (w.drew.alloc (.cells (Builtin.zeroCells z.cells n ++ Builtin.zeroCells z.cells (grownCap w n 0 e - n)) e)) := by
  have hn : n ≠ 0 := by omega
  have hw : IntKind.i64.wrap (n : Int) = n := by simp [IntKind.wrap, IntKind.bits, IntKind.signed]; omega
  have h1 : ¬ ((n : Int) < 0) := by omega
  have h2 : ¬ (281474976710656 < (n : Int) * (i.bytes : Int)) := by rw [← Int.natCast_mul]; omega
  have h63' : ¬ (9223372036854775807 < (n : Int)) := by omega
  have h48' : ¬ (281474976710656 < Builtin.nextslicecap n 0 * i.bytes) := by rw [nextslicecap_zero h0]; omega
  by_cases hsz : i.size = 0
  · have e1 : ∀ m, Builtin.zeroCells z.cells m = #[] := fun m => Array.size_eq_zero_iff.1 (by rw [zeroCells_size, hs, hsz, Nat.mul_zero])
    simp [Builtin.append_, run_underlyingA ht, run_underlyingA hti, sizeOf, typeInfo, zeroValue, hi, hz, asInt, asIntOf, hw, h1, h2, hn, h63', h48', Question.forced, run_firstCells_none, newRow, grownCap, e1]
  · simp [Builtin.append_, run_underlyingA ht, run_underlyingA hti, sizeOf, typeInfo, zeroValue, hi, hz, asInt, asIntOf, hw, h1, h2, hn, h63', h48', Question.forced, run_firstCells_none, newRow, grownCap]
    intro h3
    rcases Nat.mul_eq_zero.1 h3 with h3 | h3 <;> omega

theorem zeroCells_rel {z : List CV} {zv : Array Value} (hz : relL P β w z zv.toList) (n : Nat) : relL P β w (repl z n) (Builtin.zeroCells zv n).toList := repl_rel hz n

theorem opOk_appz {c : Call} {t ti e : TypeId} {k b : Nat} {z : List CV} {s x : Operand} {as ax : AX} (hR : Rel P β h w) (hA : relA P β w T a) (hc : c.callee = .builtin .append) (ha : c.args.toList = [s, x])
    (h0 : c.argTypes[0]? = some t) (h1 : c.argTypes[1]? = some ti) (hs : opnd s = some as) (hx : opnd x = some ax) (ht : P.underlying t = some (.slice e)) (hi64 : isI64 P ti = true) (hk : sizeT P e = some k) (hb : bytesT P e = some b) (hz : zeroT P e = some z)
    (_ : 0 < k) (hzl : z.length = k) (_ : 0 < b) (hke : k = P.cellsOf e) {call : Oracle} (hv : opA call (.appz e k b z as ax) T h = some (v, h')) : OpOk P β h w a (.call c) v h' := by
  have hargs : c.args = #[s, x] := by rw [← Array.toArray_toList (xs := c.args), ha]
  obtain ⟨i, zv, i1, i2, i3, i4⟩ := zeroT_spec hz
  have hLz : relL P β w z zv.cells.toList := cvsOf_rel i3
  have hzs : zv.cells.size = k := by have := hLz.length; simp at this; omega
  have hki : i.size = k := by unfold sizeT at hk; rw [i1] at hk; simpa using hk
  have hbi : i.bytes = b := by unfold bytesT at hb; rw [i1] at hb; simpa using hb
  have hti : P.underlying ti = some (.int .i64) := by
    unfold isI64 at hi64
    split at hi64
    · rename_i kk hu
      rw [of_decide_eq_true hi64] at hu
      exact hu
    · simp at hi64
  have hty : ∀ ty args, (Builtin.append_ c.argTypes ty args).run P w = (Builtin.append_ #[t, ti] ty args).run P w := by
    intro ty args
    unfold Builtin.append_
    simp [h0, h1]
  have key : ∀ (u : Value) (w' : World), (∀ ty, (Builtin.append_ #[t, ti] ty #[a.eval s, a.eval x]).run P w = .ok u w') → ∀ o : Oper, o.op = .call c → (execOp a.eval o).run P w = .ok (.value u) w' := by
    intro u w' hr o ho
    have := hr o.type
    rw [← hty] at this
    simp [execOp, ho, resolve, hc, hargs, invoke, builtin, this]
  have rs := hA.opnd s as hs
  have rx := hA.opnd x ax hx
  simp only [opA] at hv
  split at hv
  · rename_i n0 c0 n e1 e2
    rw [e1] at rs
    rw [e2] at rx
    obtain ⟨rfl, hc0, rs⟩ := rs
    have rx : a.eval x = .int .i64 n := rx
    split at hv
    · rename_i hcond
      obtain ⟨hn0, hnb, hn47⟩ := hcond
      simp only [Option.some.injEq, Prod.mk.injEq] at hv
      obtain ⟨rfl, rfl⟩ := hv
      obtain ⟨m, rfl⟩ : ∃ m : Nat, n = m := ⟨n.toNat, by omega⟩
      simp only [Int.toNat_natCast]
      have hmb : m * b ≤ 140737488355328 := by rw [← Int.natCast_mul] at hnb; omega
      have hrel := zeroCells_rel hLz m
      obtain ⟨q1, q2, q3⟩ := grown_new (e := e) (z := zv.cells) (g := grownCap w m 0 e) hR hrel (by simp only [Array.length_toList]; rw [zeroCells_size, hzs]) hzs hke (grownCap_ge w m 0 e)
      refine opOk_value (key _ _ fun ty => ?_) q3 q1 q2
      rw [rs, rx, run_append_zeros w t ti ty e i zv ht hti i1 i2 m (by omega) (by omega) (by rw [hbi]; exact hmb) (by rw [hzs, hki])]
    · simp at hv
  · simp at hv

/-- The elements of a slice become zeros. -/
theorem opOk_clr {c : Call} {t e : TypeId} {z : List CV} {x : Operand} {ax : AX} {p : Nat × Nat} {n : Nat} {cc : Option Nat} (hR : Rel P β h w) (hA : relA P β w T a) (hc : c.callee = .builtin .clear) (ha : c.args.toList = [x])
    (h0 : c.argTypes[0]? = some t) (hx : opnd x = some ax) (ht : P.underlying t = some (.slice e)) (hz : zeroT P e = some z) (e1 : ax.ev T = .one (.sl (some p) n cc)) (hn : ¬ n = 0) (hs : h.store p (repl z n) = some h') : OpOk P β h w a (.call c) (.tup []) h' := by
  have hargs : c.args = #[x] := by rw [← Array.toArray_toList (xs := c.args), ha]
  obtain ⟨i, zv, i1, i2, i3, i4⟩ := zeroT_spec hz
  have hLz : relL P β w z zv.cells.toList := cvsOf_rel i3
  have rs := hA.opnd x ax hx
  rw [e1] at rs
  obtain ⟨m, c', hv, hle, _, hm⟩ := rs
  have hm : addrR β p m := by
    rcases hm with ⟨h1, _⟩ | ⟨h1, _⟩
    · omega
    · exact h1
  obtain ⟨b, d, h2, rfl⟩ := hm
  have hrel := zeroCells_rel hLz n
  obtain ⟨cur, h3, h4, h5, h6⟩ := hR.stored h2 hs hrel
  have hst : (storeCells ⟨b, d + p.2, none⟩ (Builtin.zeroCells zv.cells n).toList 0).run P w = .ok () (w.setRow b (if (Builtin.zeroCells zv.cells n).toList = [] then cur else (cur.toList.take (d + p.2) ++ (Builtin.zeroCells zv.cells n).toList ++ cur.toList.drop (d + p.2 + (Builtin.zeroCells zv.cells n).toList.length)).toArray)) := by
    by_cases hne : (Builtin.zeroCells zv.cells n).toList = []
    · rw [hne, if_pos rfl, setRow_self w b cur _ _ h3]
      rfl
    · rw [if_neg hne]
      have := run_storeCells_at P b (d + p.2) _ (Builtin.zeroCells zv.cells n).toList 0 cur w h3 (by rcases h4 with h4 | h4; exact absurd h4 hne; simpa using h4) hrel.oneCell
      simpa using this
  have key : ∀ ty, (Builtin.clear_ c.argTypes ty #[a.eval x]).run P w = .ok (.tuple #[]) (w.setRow b (if (Builtin.zeroCells zv.cells n).toList = [] then cur else (cur.toList.take (d + p.2) ++ (Builtin.zeroCells zv.cells n).toList ++ cur.toList.drop (d + p.2 + (Builtin.zeroCells zv.cells n).toList.length)).toArray)) := by
    intro ty
    unfold Builtin.clear_
    obtain ⟨n, rfl⟩ : ∃ m, n = m + 1 := ⟨n - 1, by omega⟩
    simp [h0, hv, run_underlyingA ht, zeroValue, typeInfo, i1, i2, hst]
  refine opOk_value (fun o ho => ?_) ⟨#[], rfl, trivial⟩ h5 h6
  have := key o.type
  simp [execOp, ho, resolve, hc, hargs, invoke, builtin, this]

theorem opOk_append {c : Call} {t e : TypeId} {k b : Nat} {z : List CV} {s x : Operand} {as ax : AX} (hR : Rel P β h w) (hA : relA P β w T a) (hc : c.callee = .builtin .append) (ha : c.args.toList = [s, x])
    (h0 : c.argTypes[0]? = some t) (h1 : c.argTypes[1]? = some t) (hs : opnd s = some as) (hx : opnd x = some ax) (ht : P.underlying t = some (.slice e)) (hk : sizeT P e = some k) (hb : bytesT P e = some b) (hz : zeroT P e = some z)
    (hk0 : 0 < k) (hzl : z.length = k) (hb0 : 0 < b) (hke : k = P.cellsOf e) (hv : appendA e k b (as.ev T) (ax.ev T) h = some (v, h')) : OpOk P β h w a (.call c) v h' := by
  have hargs : c.args = #[s, x] := by rw [← Array.toArray_toList (xs := c.args), ha]
  obtain ⟨i, zv, i1, i2, i3, i4⟩ := zeroT_spec hz
  have hLz : relL P β w z zv.cells.toList := cvsOf_rel i3
  have hzs : zv.cells.size = k := by have := hLz.length; simp at this; omega
  have hki : i.size = k := by unfold sizeT at hk; rw [i1] at hk; simpa using hk
  have hbi : i.bytes = b := by unfold bytesT at hb; rw [i1] at hb; simpa using hb
  have hty : ∀ ty args, (Builtin.append_ c.argTypes ty args).run P w = (Builtin.append_ #[t, t] ty args).run P w := by
    intro ty args
    unfold Builtin.append_
    simp [h0, h1]
  have key : ∀ (u : Value) (w' : World), (∀ ty, (Builtin.append_ #[t, t] ty #[a.eval s, a.eval x]).run P w = .ok u w') → ∀ o : Oper, o.op = .call c → (execOp a.eval o).run P w = .ok (.value u) w' := by
    intro u w' hr o ho
    have := hr o.type
    rw [← hty] at this
    simp [execOp, ho, resolve, hc, hargs, invoke, builtin, this]
  have rs := hA.opnd s as hs
  have rx := hA.opnd x ax hx
  generalize as.ev T = vs at rs hv
  generalize ax.ev T = vx at rx hv
  unfold appendA at hv
  split at hv
  · rename_i base n cp xb m xc
    split at hv
    · rename_i hm
      simp only [Option.some.injEq, Prod.mk.injEq] at hv
      obtain ⟨rfl, rfl⟩ := hv
      subst hm
      have r1 : ∃ bb cc, a.eval s = .slice bb n cc ∧ n ≤ cc := by
        cases base with
        | none => exact ⟨none, 0, by rw [rs.2.2, rs.1], by rw [rs.1]; exact Nat.le_refl _⟩
        | some p => obtain ⟨mm, c', e1, e2, _⟩ := rs; exact ⟨_, c', e1, e2⟩
      have r2 : ∃ bb cc, a.eval x = .slice bb 0 cc := by
        cases xb with
        | none => exact ⟨none, 0, rx.2.2⟩
        | some p => obtain ⟨mm, c', e1, _⟩ := rx; exact ⟨_, c', e1⟩
      obtain ⟨bb, cc, e1, e2⟩ := r1
      obtain ⟨xx, xcc, e3⟩ := r2
      refine opOk_value (u := a.eval s) (w' := w) (β' := β) (key _ _ fun ty => ?_) rs hR (Stp.refl β h w hR.dom)
      rw [e1, e3]
      exact run_append_zero ht hk bb xx n cc xcc e2
    · rename_i hm
      split at hv
      · simp at hv
      · rename_i hby
        split at hv
        · rename_i old new hso hsn
          -- what is appended
          cases xb with
          | none => rw [rx.1] at hm; exact absurd rfl hm
          | some xp =>
          obtain ⟨xm, xc', x1, x2, x3, x4⟩ := rx
          obtain ⟨news, n1, n2, n3⟩ := src_rel hR hsn x4 x2
          have hmb : n + m ≤ 140737488355328 := Nat.le_trans (Nat.le_mul_of_pos_right _ hb0) (by omega)
          split at hv
          · rename_i c0
            split at hv
            · rename_i hfit
              split at hv
              · rename_i p
                split at hv
                · rename_i hblk
                  obtain ⟨h2, hst, he⟩ := Option.map_eq_some_iff.1 hv
                  simp only [Prod.mk.injEq] at he
                  obtain ⟨rfl, rfl⟩ := he
                  obtain ⟨sm, c', s1, s2, s3, s4⟩ := rs
                  have hcc : c0 = c' := by rcases s3 with s3 | s3 <;> simp at s3; exact s3
                  subst hcc
                  rcases s4 with ⟨s4, _⟩ | ⟨⟨g, d, s4, rfl⟩, s5⟩
                  · omega
                  obtain ⟨cur, t1, t2, t3, t4⟩ := hR.stored (a := (p.1, p.2 + n * k)) s4 hst n2
                  have hne : news ≠ [] := by
                    intro h'
                    rw [h'] at n1
                    have := Nat.mul_pos (Nat.pos_of_ne_zero hm) hk0
                    simp at n1
                    omega
                  simp only [if_neg hne] at t3 t4
                  have hroom : d + p.2 + n * k + news.length ≤ cur.size := by
                    rcases t2 with t2 | t2
                    · exact absurd t2 hne
                    · simp only at t2; omega
                  have hrun := fun ty => run_append_in (P := P) (w := w) (ty := ty) ht hk g (d + p.2) xm n c0 m xc' hfit n1 n3 t1 hroom n2.oneCell
                  have ea : d + (p.2 + n * k) = d + p.2 + n * k := by omega
                  simp only [ea] at t3 t4
                  refine opOk_value (key _ _ fun ty => by rw [s1, x1]; exact hrun ty) ?_ t3 t4
                  refine ⟨_, c0, rfl, hfit, .inr rfl, .inr ⟨⟨g, d, s4, rfl⟩, s5.mono t4.ext t4.shapes⟩⟩
                · simp at hv
              · simp at hv
            · rename_i hfit
              simp only [Option.some.injEq, Prod.mk.injEq] at hv
              obtain ⟨rfl, rfl⟩ := hv
              cases base with
              | none =>
                obtain ⟨s1, s2, s3⟩ := rs
                subst s1
                have hold := nil_of_zero hso rfl
                subst hold
                simp only [List.nil_append, Nat.zero_add] at hby hmb ⊢
                obtain ⟨q1, q2, q3⟩ := grown_new (e := e) (z := zv.cells) (g := grownCap w m 0 e) hR n2 n1 hzs hke (grownCap_ge w m 0 e)
                refine opOk_value (key _ _ fun ty => ?_) q3 q1 q2
                rw [s3, x1]
                exact run_append_nil w t ty e i zv ht i1 i2 xm m xc' news (by rw [hki]; exact n1) n3 (by omega) (by omega) (by rw [hbi]; omega)
              | some p =>
                obtain ⟨sm, c', s1, s2, s3, s4⟩ := rs
                have hcc : c0 = c' := by rcases s3 with s3 | s3 <;> simp at s3; exact s3
                subst hcc
                obtain ⟨olds, o1, o2, o3⟩ := src_rel hR hso s4 s2
                have hl : (olds ++ news).length = (n + m) * k := by rw [List.length_append, o1, n1, Nat.add_mul]
                obtain ⟨q1, q2, q3⟩ := grown_new (e := e) (z := zv.cells) (g := grownCap w (n + m) c0 e) hR (o2.append n2) hl hzs hke (grownCap_ge w (n + m) c0 e)
                refine opOk_value (key _ _ fun ty => ?_) q3 q1 q2
                rw [s1, x1]
                have hrun := run_append_grow w t ty e i zv ht i1 i2 sm n c0 olds (by rw [hki]; exact o1) o3 xm m xc' news (by rw [hki]; exact n1) n3 (by omega) (by omega) (growslice_fits (by omega) (by rw [hbi]; omega))
                rw [hrun]
                simp
          · split at hv
            · rename_i p
              split at hv
              · rename_i hblk
                obtain ⟨hrw, hbt⟩ := hblk
                simp only [Option.some.injEq, Prod.mk.injEq] at hv
                obtain ⟨rfl, rfl⟩ := hv
                obtain ⟨sm, c', s1, s2, s3, s4⟩ := rs
                obtain ⟨olds, o1, o2, o3⟩ := src_rel hR hso s4 s2
                have hmap : ∃ q, β p.1 = some q := by
                  rcases s4 with ⟨_, s4⟩ | ⟨⟨g, d, s4, _⟩, _⟩
                  · exact s4
                  · exact ⟨_, s4⟩
                obtain ⟨q, hq⟩ := hmap
                have hRk := hR.killed p.1
                have hSk := Stp.killed hR hrw hq
                have hl : (olds ++ news).length = (n + m) * k := by rw [List.length_append, o1, n1, Nat.add_mul]
                by_cases hfit : n + m ≤ c'
                · rcases s4 with ⟨s4, _⟩ | ⟨⟨g, d, s4, rfl⟩, s5 | ⟨ts, sz, s5, s6⟩⟩
                  · omega
                  · exact absurd s5 (hR.low _ _ _ hrw s4)
                  obtain ⟨cur, ty, fr, l1, l2, l3⟩ := hR.live p.1 g d (by rw [hrw]; simp) s4
                  obtain ⟨hty1, hfr⟩ := l2 hrw
                  subst hfr
                  subst hty1
                  rw [shape_of_heap l1] at s5
                  simp only [Option.some.injEq, Prod.mk.injEq] at s5
                  obtain ⟨rfl, rfl⟩ := s5
                  rw [hbt, ← hke] at s6
                  have hroom : d + p.2 + n * k + news.length ≤ cur.size := by
                    have e1 : (n + m) * k ≤ c' * k := Nat.mul_le_mul_right _ hfit
                    rw [Nat.add_mul] at e1
                    simp only at s6
                    omega
                  have hne : news ≠ [] := by
                    intro h'
                    rw [h'] at n1
                    have := Nat.mul_pos (Nat.pos_of_ne_zero hm) hk0
                    simp at n1
                    omega
                  have hrun := fun ty => run_append_in (P := P) (w := w) (ty := ty) ht hk g (d + p.2) xm n c' m xc' hfit n1 n3 l1 hroom n2.oneCell
                  generalize harr : (cur.toList.take (d + p.2 + n * k) ++ news ++ cur.toList.drop (d + p.2 + n * k + news.length)).toArray = arr at hrun
                  have hlo := src_length hso
                  have hle : ((h.f p.1).cs.length : Nat) = (h.f p.1).cs.length := rfl
                  have hsz : arr.size = cur.size := by
                    rw [← harr]
                    simp
                    omega
                  have hcells : ∀ (o : Nat) (c : CV), (old ++ new)[o]? = some c → ∃ v, arr[d + p.2 + o]? = some v ∧ relC P β w c v := by
                    intro o c hc
                    have e2 : (cur.toList.take (d + p.2 + n * k)).length = d + p.2 + n * k := by simp; omega
                    by_cases ho : o < old.length
                    · rw [List.getElem?_append_left ho] at hc
                      obtain ⟨v, g1, g2⟩ := o2.get hc
                      refine ⟨v, ?_, g2⟩
                      have g3 := o3 o v g1
                      rw [← harr, List.getElem?_toArray, List.append_assoc, List.getElem?_append_left (by rw [e2]; omega), List.getElem?_take_of_lt (by omega)]
                      unfold Addr.add at g3
                      by_cases ho0 : o = 0
                      · subst ho0
                        simp [World.cell?, l1] at g3
                        simpa using g3
                      · simp [ho0, World.cell?, l1] at g3
                        simpa using g3
                    · rw [List.getElem?_append_right (by omega)] at hc
                      obtain ⟨v, g1, g2⟩ := n2.get hc
                      refine ⟨v, ?_, g2⟩
                      have g4 := (List.getElem?_eq_some_iff.1 g1).1
                      rw [← harr, List.getElem?_toArray, List.append_assoc, List.getElem?_append_right (by rw [e2]; omega), e2, List.getElem?_append_left (by omega)]
                      rw [show d + p.2 + o - (d + p.2 + n * k) = o - old.length by omega]
                      exact g1
                  obtain ⟨q1, q2⟩ := hR.regrown (o0 := d + p.2) hrw s4 hbt (by rw [hbt] at l1; exact l1) hsz hcells
                  refine opOk_value (key _ _ fun ty => by rw [s1, x1]; exact hrun ty) ?_ q1 q2
                  refine ⟨⟨g, d + p.2, none⟩, c', rfl, hfit, .inl rfl, .inr ⟨⟨g, d + p.2, by simp [Inj.put], by simp⟩, .inr ⟨e, arr.size, ?_, ?_⟩⟩⟩
                  · rw [hbt] at l1
                    exact shape_of_heap (setRow_heap w g cur arr e _ l1)
                  · simp only at s6
                    rw [hsz, ← hke]
                    exact s6
                · obtain ⟨q1, q2, q3⟩ := grown_new (e := e) (z := zv.cells) (g := grownCap w (n + m) c' e) hRk (o2.append n2) hl hzs hke (grownCap_ge w (n + m) c' e)
                  refine opOk_value (key _ _ fun ty => ?_) q3 q1 (hSk.trans q2)
                  rw [s1, x1]
                  have hrun := run_append_grow w t ty e i zv ht i1 i2 sm n c' olds (by rw [hki]; exact o1) o3 xm m xc' news (by rw [hki]; exact n1) n3 (by omega) (by omega) (growslice_fits (by omega) (by rw [hbi]; omega))
                  rw [hrun]
                  simp
              · simp at hv
            · simp at hv
        · simp at hv
  · simp at hv
end
end Go.Proofs.YtoeceafibmafpaaDoor.Am
/-! The abstract machine: calls against the model's, and every operation together. -/
namespace Go.Proofs.YtoeceafibmafpaaDoor.Am
open Go

section
variable {P : Program} {β : Inj} {w : World} {T : Tm} {a : Act} {h h' : H} {v : AV}

theorem run_callFuncA {f : Nat} {fn : Func} (args : Array Value) (h1 : P.funcs[f]? = some fn) (h2 : (fn.name == "runtime.NumGoroutine") = false) (h3 : fn.body.isNone = false) :
    (callFunc f args).run P w = .ok (.enter f args) w := by
  unfold callFunc
  have h4 : fn.name ≠ "runtime.NumGoroutine" := by simpa using h2
  have h5 : fn.body ≠ none := fun e => by rw [e] at h3; simp at h3
  simp [program, Sem.run, h1, h4, h5]

theorem opnds_rel : ∀ {xs : List Operand} {as : List AX}, relO P β w T a.eval → opnds xs = some as → relVs P β w (as.map (·.ev T)) (xs.map a.eval)
  | [], as, _, h => by
    simp [opnds] at h
    subst h
    trivial
  | x :: xs, as, hO, h => by
    unfold opnds at h
    split at h
    · rename_i b l h1 h2
      simp at h
      subst h
      exact ⟨hO x b h1, opnds_rel hO h2⟩
    · simp at h

theorem relVs.append : ∀ {l l' : List AV} {vs vs' : List Value}, relVs P β w l vs → relVs P β w l' vs' → relVs P β w (l ++ l') (vs ++ vs')
  | [], _, [], _, _, h => by simpa using h
  | _ :: _, _, _ :: _, _, ⟨h1, h2⟩, h => ⟨h1, relVs.append h2 h⟩
  | [], _, _ :: _, _, h, _ => h.elim
  | _ :: _, _, [], _, h, _ => h.elim
theorem capsR.vs : ∀ {l : List (Nat × Nat)} {vs : List Value}, capsR β l vs → relVs P β w (l.map fun a => .one (.ptr (some a))) vs
  | [], [], _ => trivial
  | _ :: _, _ :: _, ⟨h1, h2⟩ => ⟨h1, capsR.vs h2⟩
  | [], _ :: _, h => h.elim
  | _ :: _, [], h => h.elim

theorem opOk_enter {call : Oracle} (hcall : Sound P call) {op : Op} {f : Nat} {args : List AV} {vs : List Value} (hR : Rel P β h w) (hv : call f args h = some (v, h')) (hvs : relVs P β w args vs)
    (hr : ∀ o : Oper, o.op = op → (execOp a.eval o).run P w = (callFunc f vs.toArray).run P w) : OpOk P β h w a op v h' := by
  obtain ⟨⟨fn, h1, h2, h3⟩, h4⟩ := hcall f args h v h' hv
  intro o K Q ho hK
  unfold Oper.wp
  rw [hr o ho, run_callFuncA _ h1 h2 h3]
  refine (h4 β w vs hR hvs).mono ?_
  rintro e w' ⟨u, β', rfl, g1, g2, g3⟩
  exact hK β' w' u g1 g2 g3

theorem opOk_call {call : Oracle} (hcall : Sound P call) {c : Call} {f : Nat} {as : List AX} (hR : Rel P β h w) (hA : relA P β w T a) (hc : c.callee = .value (.func f)) (ha : opnds c.args.toList = some as)
    (hv : call f (as.map (·.ev T)) h = some (v, h')) : OpOk P β h w a (.call c) v h' := by
  refine opOk_enter hcall hR hv (opnds_rel hA.opnd ha) (fun o ho => ?_)
  have e : (c.args.toList.map a.eval).toArray = c.args.map a.eval := by rw [← Array.toList_map, Array.toArray_toList]
  rw [e]
  have e2 : a.eval (.func f) = .func (.func f) #[] #[] := rfl
  simp only [execOp, ho, resolve, hc, e2, Deferred.ofValue, Sem.run_bind]
  simp [invoke]

theorem opOk_callv {call : Oracle} (hcall : Sound P call) {c : Call} {x : Operand} {ax : AX} {f : Nat} {caps : List (Nat × Nat)} {as : List AX} (hR : Rel P β h w) (hA : relA P β w T a) (hc : c.callee = .value x) (hx : opnd x = some ax) (ha : opnds c.args.toList = some as)
    (hev : ax.ev T = .one (.fn f caps)) (hv : call f (as.map (·.ev T) ++ caps.map fun a => .one (.ptr (some a))) h = some (v, h')) : OpOk P β h w a (.call c) v h' := by
  have hr := hA.opnd x ax hx
  rw [hev] at hr
  obtain ⟨cv, h1, h2⟩ := hr
  refine opOk_enter hcall hR hv ((opnds_rel hA.opnd ha).append h2.vs) (fun o ho => ?_)
  have e : (c.args.toList.map a.eval ++ cv.toList).toArray = c.args.map a.eval ++ cv := by simp
  rw [e]
  simp only [execOp, ho, resolve, hc, h1, Deferred.ofValue, Sem.run_bind]
  simp [invoke]

def heavy : AOp → Bool
  | .alloc .. | .box .. | .buildSlice .. | .mkslice .. | .store .. | .append .. | .appz .. | .clr .. | .call .. | .callv .. => true
  | _ => false
theorem opA_pure {call : Oracle} {ao : AOp} (hv : opA call ao T h = some (v, h')) : (pureA ao T h = some v ∧ h' = h) ∨ heavy ao = true := by
  cases ao <;> simp only [opA] at hv <;> first
    | exact .inr rfl
    | (left
       obtain ⟨u, h1, h2⟩ := Option.map_eq_some_iff.1 hv
       simp only [Prod.mk.injEq] at h2
       exact ⟨by rw [h1, h2.1], h2.2.symm⟩)

theorem op_sound {call : Oracle} (hcall : Sound P call) {op : Op} {ao : AOp} (hR : Rel P β h w) (hA : relA P β w T a) (hc : compOp P op = some ao) (hv : opA call ao T h = some (v, h')) : OpOk P β h w a op v h' := by
  rcases opA_pure hv with ⟨h1, rfl⟩ | hkk
  · exact opOk_pure hR hA hc h1
  cases op with
  | alloc e =>
    simp only [compOp] at hc
    obtain ⟨z, hz, rfl⟩ := Option.map_eq_some_iff.1 hc
    simp only [opA, Option.some.injEq, Prod.mk.injEq] at hv
    obtain ⟨rfl, rfl⟩ := hv
    exact (laid_alloc hz).opOk hR
  | box e x =>
    simp only [compOp] at hc
    obtain ⟨ax, hx, rfl⟩ := Option.map_eq_some_iff.1 hc
    simp only [opA] at hv
    split at hv
    · rename_i cs hcs
      simp only [Option.some.injEq, Prod.mk.injEq] at hv
      obtain ⟨rfl, rfl⟩ := hv
      exact (laid_box hA hx hcs).opOk hR
    · simp at hv
  | buildSlice t len ps =>
    simp only [compOp] at hc
    split at hc
    · rename_i e ht
      split at hc
      · rename_i k z hk hz
        split at hc
        · rename_i hcond
          obtain ⟨aps, hp, rfl⟩ := Option.map_eq_some_iff.1 hc
          simp only [opA] at hv
          split at hv
          · rename_i cs hf
            simp only [Option.some.injEq, Prod.mk.injEq] at hv
            obtain ⟨rfl, rfl⟩ := hv
            exact (laid_buildSlice hA ht hk hz hcond.1 hcond.2.1 hcond.2.2.1 hcond.2.2.2 hp hf).opOk hR
          · simp at hv
        · simp at hc
      · simp at hc
    · simp at hc
  | makeSlice t l c =>
    simp only [compOp] at hc
    split at hc
    · rename_i e ht
      split at hc
      · rename_i k b z al ac hk hb hz hl hcc
        split at hc
        · rename_i hcond
          simp at hc
          subst hc
          simp only [opA] at hv
          split at hv
          · rename_i ln cn e1 e2
            split at hv
            · rename_i hb2
              simp only [Option.some.injEq, Prod.mk.injEq] at hv
              obtain ⟨rfl, rfl⟩ := hv
              exact (laid_mkslice hA ht hk hb hz hcond.2.1 hcond.2.2 hl hcc e1 e2 hb2.1 hb2.2.1 hb2.2.2.1 hb2.2.2.2).opOk hR
            · simp at hv
          · simp at hv
        · simp at hc
      · simp at hc
    · simp at hc
  | store t x y =>
    simp only [compOp] at hc
    split at hc
    · rename_i ax ay k hx hy hk
      simp at hc
      subst hc
      simp only [opA] at hv
      split at hv
      · rename_i p cs e1 e2
        split at hv
        · rename_i hl
          obtain ⟨h2, hs, he⟩ := Option.map_eq_some_iff.1 hv
          simp only [Prod.mk.injEq] at he
          obtain ⟨rfl, rfl⟩ := he
          exact opOk_store hR hA hk hx hy e1 e2 hl hs
        · simp at hv
      · simp at hv
    · simp at hc
  | call c =>
    simp only [compOp, compCall] at hc
    split at hc
    · rename_i f hf
      obtain ⟨as, ha, rfl⟩ := Option.map_eq_some_iff.1 hc
      exact opOk_call hcall hR hA hf ha hv
    · rename_i x _ hx
      split at hc
      · rename_i ax as h1 h2
        simp at hc
        subst hc
        simp only [opA] at hv
        split at hv
        · rename_i f caps hev
          exact opOk_callv hcall hR hA hx h1 h2 hev hv
        · simp at hv
      · simp at hc
    · simp at hc
    · rename_i b hb
      split at hc
      · rename_i s x ha
        split at hc
        · rename_i ts tx as ax e1 e2 hs hx
          split at hc
          · rename_i e ht
            split at hc
            · rename_i htt
              subst htt
              split at hc
              · rename_i k bb z hk hbb hz
                split at hc
                · rename_i hcond
                  simp at hc
                  subst hc
                  exact opOk_append hR hA hb ha e1 e2 hs hx ht hk hbb hz hcond.1 hcond.2.1 hcond.2.2.1 hcond.2.2.2 hv
                · simp at hc
              · simp at hc
            · obtain ⟨hi, k, bb, z, hk, hbb, hz, hcond, rfl⟩ := compAppz_spec hc
              exact opOk_appz hR hA hb ha e1 e2 hs hx ht hi hk hbb hz hcond.1 hcond.2.1 hcond.2.2.1 hcond.2.2.2 hv
          · simp at hc
        · simp at hc
      · split at hc
        · split at hc
          · simp at hc; subst hc; cases hkk
          · simp at hc; subst hc; cases hkk
          · simp at hc
        · simp at hc
      · split at hc
        · split at hc
          · simp at hc; subst hc; cases hkk
          · simp at hc
        · simp at hc
      · split at hc
        · simp at hc; subst hc; cases hkk
        · simp at hc
      · rename_i x ha
        split at hc
        · rename_i t ax e1 hx
          split at hc
          · rename_i e ht
            obtain ⟨z, hz, rfl⟩ := Option.map_eq_some_iff.1 hc
            simp only [opA] at hv
            split at hv
            · rename_i p n cc ev
              split at hv
              · simp at hv
              · rename_i hn
                obtain ⟨h2, hs, he⟩ := Option.map_eq_some_iff.1 hv
                simp only [Prod.mk.injEq] at he
                obtain ⟨rfl, rfl⟩ := he
                exact opOk_clr hR hA hb ha e1 hx ht hz ev hn hs
            · simp at hv
          · simp at hc
        · simp at hc
      · simp at hc
  | move x | assign x | nilCheck x | extract x i =>
    simp only [compOp] at hc
    obtain ⟨_, _, rfl⟩ := Option.map_eq_some_iff.1 hc
    cases hkk
  | pick c x y =>
    simp only [compOp] at hc
    split at hc
    · simp at hc; subst hc; cases hkk
    · simp at hc
  | build t ps =>
    simp only [compOp] at hc
    split at hc
    · split at hc
      · obtain ⟨_, _, rfl⟩ := Option.map_eq_some_iff.1 hc
        cases hkk
      · simp at hc
    · simp at hc
  | load t x =>
    simp only [compOp] at hc
    split at hc
    · simp at hc; subst hc; cases hkk
    · simp at hc; subst hc; cases hkk
    · simp at hc
  | binOp op t x y u =>
    simp only [compOp] at hc
    split at hc
    · unfold compBin at hc
      split at hc
      · cases op <;> simp at hc <;> subst hc <;> cases hkk
      · simp at hc; subst hc; cases hkk
      · simp at hc; subst hc; cases hkk
      · cases op <;> simp at hc <;> subst hc <;> cases hkk
      · split at hc
        · split at hc
          · cases op <;> simp at hc <;> subst hc <;> cases hkk
          · simp at hc
        · simp at hc
      · simp at hc
    · simp at hc
  | unOp op t x =>
    cases op <;> simp only [compOp, reduceCtorEq] at hc
    obtain ⟨_, _, rfl⟩ := Option.map_eq_some_iff.1 hc
    cases hkk
  | convert s d x =>
    simp only [compOp] at hc
    split at hc
    · simp at hc; subst hc; cases hkk
    · split at hc
      · simp at hc; subst hc; cases hkk
      · simp at hc
    · simp at hc
  | makeFunc fn first caps =>
    cases fn <;> simp only [compOp, reduceCtorEq] at hc
    split at hc
    · obtain ⟨_, _, rfl⟩ := Option.map_eq_some_iff.1 hc
      cases hkk
    · simp at hc
  | slice t x lo hi mx =>
    simp only [compOp] at hc
    split at hc
    · split at hc
      · split at hc
        · simp at hc; subst hc; cases hkk
        · simp at hc
      · simp at hc
    · simp at hc; subst hc; cases hkk
    · simp at hc
  | fieldAddr s x f =>
    simp only [compOp] at hc
    split at hc
    · split at hc
      · split at hc
        · split at hc
          · simp at hc
          · simp at hc; subst hc; cases hkk
        · simp at hc
      · simp at hc
    · simp at hc
  | field s x f =>
    simp only [compOp] at hc
    split at hc
    · split at hc
      · split at hc
        · simp at hc; subst hc; cases hkk
        · simp at hc; subst hc; cases hkk
        · simp at hc
      · simp at hc
    · simp at hc
  | indexAddr t x i =>
    simp only [compOp] at hc
    split at hc
    · obtain ⟨_, _, rfl⟩ := Option.map_eq_some_iff.1 hc
      cases hkk
    · simp at hc
  | index t x i =>
    simp only [compOp] at hc
    split at hc
    · simp at hc; subst hc; cases hkk
    · simp at hc
  | _ => simp [compOp] at hc
end
end Go.Proofs.YtoeceafibmafpaaDoor.Am
/-! The abstract machine: one step of a region and a region in the order of its text, against the model's. -/
namespace Go.Proofs.YtoeceafibmafpaaDoor.Am
open Go

/-- What lays one block: its cells, its type, and the value that names it. -/
def laidA (o : AOp) (T : Tm) : Option (List CV × Nat × (Nat → AV)) :=
  match o with
  | .alloc ty z => some (z, ty, fun i => .one (.ptr (some (i, 0))))
  | .box ty x => match (x.ev T).cells with | some cs => some (cs, ty, fun i => .one (.ptr (some (i, 0)))) | none => none
  | .buildSlice ty len z parts =>
    match fillA (repl z len) (parts.map fun p => (p.1, p.2.1, p.2.2.ev T)) with
    | some cs => some (cs, ty, fun i => .one (.sl (some (i, 0)) len (some len)))
    | none => none
  | .mkslice ty bytes z l c =>
    match l.ev T, c.ev T with
    | .one (.int .i64 l), .one (.int .i64 c) =>
      if 0 ≤ l ∧ l ≤ c ∧ c * bytes ≤ 140737488355328 ∧ c ≤ 9223372036854775807 then some (repl z c.toNat, ty, fun i => .one (.sl (some (i, 0)) l.toNat (some c.toNat))) else none
    | _, _ => none
  | _ => none

section
variable {P : Program} {β : Inj} {w : World} {T : Tm} {a : Act} {h h' : H} {v : AV}

/-- An operation that is kept beside nothing is without effect on the heap, or lays one block. -/
theorem opA_light {call : Oracle} {ao : AOp} (he : effA ao = false) (hv : opA call ao T h = some (v, h')) :
    (pureA ao T h = some v ∧ h' = h) ∨ ∃ cs ty mk, laidA ao T = some (cs, ty, mk) ∧ v = mk h.n ∧ h' = h.alloc cs ty := by
  cases ao <;> simp only [effA, reduceCtorEq] at he <;> simp only [opA] at hv <;> first
    | (left
       obtain ⟨u, h1, h2⟩ := Option.map_eq_some_iff.1 hv
       simp only [Prod.mk.injEq] at h2
       exact ⟨by rw [h1, h2.1], h2.2.symm⟩)
    | (right
       simp only [Option.some.injEq, Prod.mk.injEq] at hv
       exact ⟨_, _, _, rfl, hv.1.symm, hv.2.symm⟩)
    | skip
  · right
    split at hv
    · rename_i cs hcs
      simp only [Option.some.injEq, Prod.mk.injEq] at hv
      exact ⟨_, _, _, by simp only [laidA, hcs]; rfl, hv.1.symm, hv.2.symm⟩
    · simp at hv
  · right
    split at hv
    · rename_i cs hcs
      simp only [Option.some.injEq, Prod.mk.injEq] at hv
      exact ⟨_, _, _, by simp only [laidA, hcs]; rfl, hv.1.symm, hv.2.symm⟩
    · simp at hv
  · right
    split at hv
    · rename_i l c e1 e2
      split at hv
      · rename_i hcond
        simp only [Option.some.injEq, Prod.mk.injEq] at hv
        exact ⟨_, _, _, by simp only [laidA, e1, e2, if_pos hcond]; rfl, hv.1.symm, hv.2.symm⟩
      · simp at hv
    · simp at hv

theorem laid_sound {op : Op} {ao : AOp} {cs : List CV} {ty : Nat} {mk : Nat → AV} (hA : relA P β w T a) (hc : compOp P op = some ao) (hv : laidA ao T = some (cs, ty, mk)) : LaidOk P β w a op cs ty mk := by
  cases op with
  | alloc e =>
    simp only [compOp] at hc
    obtain ⟨z, hz, rfl⟩ := Option.map_eq_some_iff.1 hc
    simp only [laidA, Option.some.injEq, Prod.mk.injEq] at hv
    obtain ⟨rfl, rfl, rfl⟩ := hv
    exact laid_alloc hz
  | box e x =>
    simp only [compOp] at hc
    obtain ⟨ax, hx, rfl⟩ := Option.map_eq_some_iff.1 hc
    simp only [laidA] at hv
    split at hv
    · rename_i cs' hcs
      simp only [Option.some.injEq, Prod.mk.injEq] at hv
      obtain ⟨rfl, rfl, rfl⟩ := hv
      exact laid_box hA hx hcs
    · simp at hv
  | buildSlice t len ps =>
    simp only [compOp] at hc
    split at hc
    · rename_i e ht
      split at hc
      · rename_i k z hk hz
        split at hc
        · rename_i hcond
          obtain ⟨aps, hp, rfl⟩ := Option.map_eq_some_iff.1 hc
          simp only [laidA] at hv
          split at hv
          · rename_i cs' hf
            simp only [Option.some.injEq, Prod.mk.injEq] at hv
            obtain ⟨rfl, rfl, rfl⟩ := hv
            exact laid_buildSlice hA ht hk hz hcond.1 hcond.2.1 hcond.2.2.1 hcond.2.2.2 hp hf
          · simp at hv
        · simp at hc
      · simp at hc
    · simp at hc
  | makeSlice t l c =>
    simp only [compOp] at hc
    split at hc
    · rename_i e ht
      split at hc
      · rename_i k b z al ac hk hb hz hl hcc
        split at hc
        · rename_i hcond
          simp at hc
          subst hc
          simp only [laidA] at hv
          split at hv
          · rename_i ln cn e1 e2
            split at hv
            · rename_i hb2
              simp only [Option.some.injEq, Prod.mk.injEq] at hv
              obtain ⟨rfl, rfl, rfl⟩ := hv
              exact laid_mkslice hA ht hk hb hz hcond.2.1 hcond.2.2 hl hcc e1 e2 hb2.1 hb2.2.1 hb2.2.2.1 hb2.2.2.2
            · simp at hv
          · simp at hv
        · simp at hc
      · simp at hc
    · simp at hc
  | move x | assign x | nilCheck x | extract x i =>
    simp only [compOp] at hc
    obtain ⟨_, _, rfl⟩ := Option.map_eq_some_iff.1 hc
    simp [laidA] at hv
  | pick c x y =>
    simp only [compOp] at hc
    split at hc
    · simp at hc; subst hc; simp [laidA] at hv
    · simp at hc
  | build t ps =>
    simp only [compOp] at hc
    split at hc
    · split at hc
      · obtain ⟨_, _, rfl⟩ := Option.map_eq_some_iff.1 hc
        simp [laidA] at hv
      · simp at hc
    · simp at hc
  | load t x =>
    simp only [compOp] at hc
    split at hc
    · simp at hc; subst hc; simp [laidA] at hv
    · simp at hc; subst hc; simp [laidA] at hv
    · simp at hc
  | store t x y =>
    simp only [compOp] at hc
    split at hc
    · simp at hc; subst hc; simp [laidA] at hv
    · simp at hc
  | binOp op t x y u =>
    simp only [compOp] at hc
    split at hc
    · unfold compBin at hc
      split at hc
      · cases op <;> simp at hc <;> subst hc <;> simp [laidA] at hv
      · simp at hc; subst hc; simp [laidA] at hv
      · simp at hc; subst hc; simp [laidA] at hv
      · cases op <;> simp at hc <;> subst hc <;> simp [laidA] at hv
      · split at hc
        · split at hc
          · cases op <;> simp at hc <;> subst hc <;> simp [laidA] at hv
          · simp at hc
        · simp at hc
      · simp at hc
    · simp at hc
  | unOp op t x =>
    cases op <;> simp only [compOp, reduceCtorEq] at hc
    obtain ⟨_, _, rfl⟩ := Option.map_eq_some_iff.1 hc
    simp [laidA] at hv
  | convert s d x =>
    simp only [compOp] at hc
    split at hc
    · simp at hc; subst hc; simp [laidA] at hv
    · split at hc
      · simp at hc; subst hc; simp [laidA] at hv
      · simp at hc
    · simp at hc
  | makeFunc fn first caps =>
    cases fn <;> simp only [compOp, reduceCtorEq] at hc
    split at hc
    · obtain ⟨_, _, rfl⟩ := Option.map_eq_some_iff.1 hc
      simp [laidA] at hv
    · simp at hc
  | slice t x lo hi mx =>
    simp only [compOp] at hc
    split at hc
    · split at hc
      · split at hc
        · simp at hc; subst hc; simp [laidA] at hv
        · simp at hc
      · simp at hc
    · simp at hc; subst hc; simp [laidA] at hv
    · simp at hc
  | fieldAddr s x f =>
    simp only [compOp] at hc
    split at hc
    · split at hc
      · split at hc
        · split at hc
          · simp at hc
          · simp at hc; subst hc; simp [laidA] at hv
        · simp at hc
      · simp at hc
    · simp at hc
  | field s x f =>
    simp only [compOp] at hc
    split at hc
    · split at hc
      · split at hc
        · simp at hc; subst hc; simp [laidA] at hv
        · simp at hc; subst hc; simp [laidA] at hv
        · simp at hc
      · simp at hc
    · simp at hc
  | indexAddr t x i =>
    simp only [compOp] at hc
    split at hc
    · obtain ⟨_, _, rfl⟩ := Option.map_eq_some_iff.1 hc
      simp [laidA] at hv
    · simp at hc
  | index t x i =>
    simp only [compOp] at hc
    split at hc
    · simp at hc; subst hc; simp [laidA] at hv
    · simp at hc
  | call c =>
    simp only [compOp, compCall] at hc
    split at hc
    · obtain ⟨_, _, rfl⟩ := Option.map_eq_some_iff.1 hc
      simp [laidA] at hv
    · split at hc
      · simp at hc; subst hc; simp [laidA] at hv
      · simp at hc
    · simp at hc
    · split at hc
      · split at hc
        · split at hc
          · split at hc
            · split at hc
              · split at hc
                · simp at hc; subst hc; simp [laidA] at hv
                · simp at hc
              · simp at hc
            · obtain ⟨_, _, _, _, _, _, _, _, rfl⟩ := compAppz_spec hc
              simp [laidA] at hv
          · simp at hc
        · simp at hc
      · split at hc
        · split at hc
          · simp at hc; subst hc; simp [laidA] at hv
          · simp at hc; subst hc; simp [laidA] at hv
          · simp at hc
        · simp at hc
      · split at hc
        · split at hc
          · simp at hc; subst hc; simp [laidA] at hv
          · simp at hc
        · simp at hc
      · split at hc
        · simp at hc; subst hc; simp [laidA] at hv
        · simp at hc
      · split at hc
        · split at hc
          · obtain ⟨_, _, rfl⟩ := Option.map_eq_some_iff.1 hc
            simp [laidA] at hv
          · simp at hc
        · simp at hc
      · simp at hc
  | _ => simp [compOp] at hc

/-! ### a step -/
theorem relV_bool {x : AV} {b : Bool} (hr : relV P β w x (.bool b)) : x = .one (.bool b) := by
  cases x with
  | one c =>
    cases c with
    | sl p n k =>
      cases p with
      | none => obtain ⟨_, _, h3⟩ := hr; cases h3
      | some p => obtain ⟨_, _, h1, _⟩ := hr; cases h1
    | ptr p =>
      cases p with
      | none => cases (show Value.bool b = _ from hr)
      | some p => obtain ⟨_, h1, _⟩ := hr; cases h1
    | fn f caps => obtain ⟨_, h1, _⟩ := hr; cases h1
    | bool c => cases (show Value.bool b = .bool c from hr); rfl
    | int k n => cases (show Value.bool b = .int k n from hr)
    | str s => cases (show Value.bool b = .string s from hr)
    | nilf => cases (show Value.bool b = .nilFunc from hr)
  | agg cs => obtain ⟨_, h1, _⟩ := hr; cases h1
  | tup l => obtain ⟨_, h1, _⟩ := hr; cases h1

theorem wanted_eq {ops : Array Oper} {o : Oper} {g : Option (Nat × Bool)} (hg : guardOf ops o.guard = some g) (hA : relA P β w T a) : Region.wanted o (yielded ops a.tmps) = wantA g T := by
  unfold guardOf at hg
  unfold Region.wanted
  split at hg
  · rename_i hn
    simp at hg
    subst hg
    rw [hn]
    rfl
  · rename_i j b hn
    rw [hn]
    split at hg
    · rename_i t ht
      simp at hg
      subst hg
      simp only [wantA]
      have hr := hA t
      unfold yielded
      rw [ht]
      simp only [Option.bind_some]
      cases hT : T t with
      | one c =>
        rw [hT] at hr
        cases c with
        | bool c =>
          have hr : a.tmps.getD t undef = .bool c := hr
          have : a.tmps[t]? = some (.bool c) := by
            cases h1 : a.tmps[t]? with
            | none => simp [h1, undef] at hr
            | some u => simp [h1] at hr; rw [hr]
          rw [this]
          simp
        | _ =>
          simp only
          split
          · rename_i b' hb'
            have h2 : a.tmps.getD t undef = .bool b' := by simp [hb']
            rw [h2] at hr
            have := relV_bool hr
            simp at this
          · simp
      | _ =>
        rw [hT] at hr
        simp only
        split
        · rename_i b' hb'
          have h2 : a.tmps.getD t undef = .bool b' := by simp [hb']
          rw [h2] at hr
          have := relV_bool hr
          simp at this
        · simp
    · simp at hg

/-- What holds at a point of a function's run. -/
structure Ok (P : Program) (nt : Nat) (β : Inj) (h : H) (w : World) (T : Tm) (a : Act) : Prop where
  rel : Rel P β h w
  act : relA P β w T a
  size : nt ≤ a.tmps.size
  defers : a.defers = []

theorem relA_put {d : Option Nat} {u : Value} (hA : relA P β w T a) (hv : relV P β w v u) (hd : ∀ t, d = some t → t < a.tmps.size) : relA P β w (T.put d v) (a.put d u) := by
  cases d with
  | none => exact hA
  | some d =>
    intro t
    simp only [Tm.put, Act.put]
    by_cases ht : t = d
    · subst ht
      rw [if_pos rfl]
      have := hd t rfl
      simpa [this] using hv
    · rw [if_neg ht]
      have := hA t
      simpa [Array.getElem?_setIfInBounds_ne (Ne.symm ht)] using this
theorem put_size {d : Option Nat} {u : Value} : (a.put d u).tmps.size = a.tmps.size := by
  cases d <;> simp [Act.put]
theorem put_defers {d : Option Nat} {u : Value} : (a.put d u).defers = a.defers := by
  cases d <;> simp [Act.put]

theorem compStep_spec {nt : Nat} {ops : Array Oper} {o : Oper} {s : AStep} (hc : compStep P nt ops o = some s) :
    compOp P o.op = some s.op ∧ guardOf ops o.guard = some s.guard ∧ s.dst = o.dst ∧ s.again = [] ∧ ∀ t, o.dst = some t → t < nt := by
  unfold compStep at hc
  split at hc
  · rename_i op g h1 h2
    split at hc
    · rename_i h3
      simp at hc
      subst hc
      refine ⟨h1, h2, rfl, rfl, ?_⟩
      intro t ht
      rw [ht] at h3
      simpa [dstOk] using h3
    · simp at hc
  · simp at hc

theorem steps_sound {call : Oracle} (hcall : Sound P call) {nt : Nat} {ops : Array Oper} : ∀ {l : List Oper} {as : List AStep} {T : Tm} {h : H} {T' : Tm} {h' : H}, compSteps P nt ops l = some as → stepsA call as T h = some (T', h') →
    ∀ {β : Inj} {w : World} {a : Act}, Ok P nt β h w T a → ∀ {Q : Exit → Act → World → Prop},
      (∀ β' w' a', Ok P nt β' h' w' T' a' → Stp β h w β' h' w' → Q .normal a' w') → wpList P ops Q l a w
  | [], as, T, h, T', h', hc, hs, β, w, a, hO, Q, hQ => by
    simp [compSteps] at hc
    subst hc
    simp [stepsA] at hs
    obtain ⟨rfl, rfl⟩ := hs
    exact hQ β w a hO (Stp.refl β h w hO.rel.dom)
  | o :: l, as, T, h, T', h', hc, hs, β, w, a, hO, Q, hQ => by
    unfold compSteps at hc
    split at hc
    · rename_i s as' h1 h2
      simp at hc
      subst hc
      obtain ⟨c1, c2, c3, c4, c5⟩ := compStep_spec h1
      unfold stepsA at hs
      split at hs
      · rename_i T1 hh1 hst
        unfold stepA at hst
        unfold wpList
        rw [wanted_eq c2 hO.act]
        split at hst
        · rename_i hw
          rw [if_pos hw]
          split at hst
          · rename_i v hv1 hop
            rw [c4] at hst
            simp only [List.all_nil, if_true, Option.some.injEq, Prod.mk.injEq] at hst
            obtain ⟨rfl, rfl⟩ := hst
            left
            refine op_sound hcall hO.rel hO.act c1 hop o _ Q rfl ?_
            intro β' w' u g1 g2 g3
            have hd : ∀ t, o.dst = some t → t < a.tmps.size := fun t ht => Nat.lt_of_lt_of_le (c5 t ht) hO.size
            refine steps_sound hcall h2 hs (β := β') (w := w') ⟨g2, ?_, by rw [put_size]; exact hO.size, by rw [put_defers]; exact hO.defers⟩ ?_
            · rw [c3]
              exact relA_put (hO.act.mono g3.ext g3.shapes) g1 hd
            · intro β2 w2 a2 k1 k2
              exact hQ β2 w2 a2 k1 (g3.trans k2)
          · simp at hst
        · rename_i hw
          rw [if_neg hw]
          simp only [Option.some.injEq, Prod.mk.injEq] at hst
          obtain ⟨rfl, rfl⟩ := hst
          have hd : ∀ t, o.dst = some t → t < a.tmps.size := fun t ht => Nat.lt_of_lt_of_le (c5 t ht) hO.size
          refine steps_sound hcall h2 hs (β := β) (w := w) ⟨hO.rel, ?_, by rw [put_size]; exact hO.size, by rw [put_defers]; exact hO.defers⟩ hQ
          rw [c3]
          exact relA_put hO.act ⟨#[], rfl, trivial⟩ hd
      · simp at hs
    · simp at hc
end
end Go.Proofs.YtoeceafibmafpaaDoor.Am
/-! The abstract machine: an operation looks at its slots alone; what has no look at the heap gives the same over every heap; a block that is laid changes nothing for the others. -/
namespace Go.Proofs.YtoeceafibmafpaaDoor.Am
open Go

section
variable {S T : Tm} {h h' : H}

theorem ev_congr {x : AX} (hs : ∀ t ∈ x.slots, S t = T t) : x.ev S = x.ev T := by
  cases x with
  | t n => exact hs n (by simp [AX.slots])
  | c v => rfl
theorem evs_congr : ∀ {l : List AX}, (∀ t ∈ l.flatMap AX.slots, S t = T t) → l.map (·.ev S) = l.map (·.ev T)
  | [], _ => rfl
  | x :: l, hs => by
    simp only [List.map_cons]
    rw [ev_congr (x := x) (fun t ht => hs t (by simp [ht])), evs_congr (l := l) (fun t ht => hs t (by rw [List.flatMap_cons]; exact List.mem_append_right _ ht))]
theorem parts_congr : ∀ {l : List (Nat × Nat × AX)}, (∀ t ∈ (l.flatMap fun p => p.2.2.slots), S t = T t) → (l.map fun p => (p.1, p.2.1, p.2.2.ev S)) = (l.map fun p => (p.1, p.2.1, p.2.2.ev T))
  | [], _ => rfl
  | x :: l, hs => by
    simp only [List.map_cons]
    rw [ev_congr (x := x.2.2) (fun t ht => hs t (by simp [ht])), parts_congr (l := l) (fun t ht => hs t (by rw [List.flatMap_cons]; exact List.mem_append_right _ ht))]
theorem boundA_congr {x : AX} (hs : ∀ t ∈ x.slots, S t = T t) (y : Nat) : boundA S x y = boundA T x y := by
  unfold boundA
  rw [ev_congr hs]
theorem boundsA_congr {lo hi mx : Option AX} (h1 : ∀ t ∈ oslots lo, S t = T t) (h2 : ∀ t ∈ oslots hi, S t = T t) (h3 : ∀ t ∈ oslots mx, S t = T t) (n : Nat) (c : Option Nat) :
    boundsA S n c lo hi mx = boundsA T n c lo hi mx := by
  have e1 : maxA S n c mx = maxA T n c mx := by
    unfold maxA
    cases mx with
    | none => rfl
    | some x => simp only [boundA_congr (x := x) h3]
  have e2 : ∀ m, highA S n m hi mx = highA T n m hi mx := by
    intro m
    unfold highA
    cases hi with
    | none => rfl
    | some x => simp only [boundA_congr (x := x) h2]
  have e3 : ∀ k, lowA S k lo = lowA T k lo := by
    intro k
    unfold lowA
    cases lo with
    | none => rfl
    | some x => simp only [boundA_congr (x := x) h1]
  unfold boundsA
  rw [e1]
  cases maxA T n c mx with
  | none => rfl
  | some m =>
    simp only [e2]
    cases highA T n m hi mx with
    | none => rfl
    | some k => simp only [e3]

theorem pureA_congr {o : AOp} (hs : ∀ t ∈ o.slots, S t = T t) : pureA o S h = pureA o T h := by
  cases o with
  | mov x | load _ _ x | nilCheck x | not x | conv _ x | bytesStr x | faddr _ x | field _ _ _ x | extract x _ | len x | lenStr x | cap x =>
    simp only [pureA]
    rw [ev_congr (x := x) hs]
  | pick c a b =>
    simp only [pureA]
    rw [ev_congr (x := c) (fun t ht => hs t (by simp [AOp.slots, ht])), ev_congr (x := a) (fun t ht => hs t (by simp [AOp.slots, ht])), ev_congr (x := b) (fun t ht => hs t (by simp [AOp.slots, ht]))]
  | build z ps =>
    simp only [pureA]
    rw [parts_congr hs]
  | bin _ x y | eqb _ x y | eqst _ _ x y | eqnil _ x y | iaddr _ x y | idxStr x y | min x y =>
    simp only [pureA]
    rw [ev_congr (x := x) (fun t ht => hs t (by simp [AOp.slots, ht])), ev_congr (x := y) (fun t ht => hs t (by simp [AOp.slots, ht]))]
  | mkfn f l =>
    simp only [pureA]
    rw [evs_congr hs]
  | slice ty size x lo hi mx =>
    simp only [pureA]
    rw [ev_congr (x := x) (fun t ht => hs t (by simp [AOp.slots, ht]))]
    simp only [boundsA_congr (lo := lo) (hi := hi) (mx := mx) (fun t ht => hs t (by simp [AOp.slots, ht])) (fun t ht => hs t (by simp [AOp.slots, ht])) (fun t ht => hs t (by simp [AOp.slots, ht]))]
  | sliceStr x lo hi =>
    simp only [pureA]
    rw [ev_congr (x := x) (fun t ht => hs t (by simp [AOp.slots, ht]))]
    simp only [boundsA_congr (lo := lo) (hi := hi) (mx := none) (fun t ht => hs t (by simp [AOp.slots, ht])) (fun t ht => hs t (by simp [AOp.slots, ht])) (fun t ht => by simp [oslots] at ht)]
  | alloc _ _ | box _ _ | buildSlice _ _ _ _ | store _ _ _ | mkslice _ _ _ _ _ | call _ _ | callv _ _ | append _ _ _ _ _ | appz _ _ _ _ _ _ | clr _ _ => rfl

theorem laidA_congr {o : AOp} (hs : ∀ t ∈ o.slots, S t = T t) : laidA o S = laidA o T := by
  cases o with
  | box _ x =>
    simp only [laidA]
    rw [ev_congr (x := x) hs]
  | buildSlice _ _ _ ps =>
    simp only [laidA]
    rw [parts_congr hs]
  | mkslice _ _ _ x y =>
    simp only [laidA]
    rw [ev_congr (x := x) (fun t ht => hs t (by simp [AOp.slots, ht])), ev_congr (x := y) (fun t ht => hs t (by simp [AOp.slots, ht]))]
  | _ => rfl

theorem opA_congr {call : Oracle} {o : AOp} (hs : ∀ t ∈ o.slots, S t = T t) : opA call o S h = opA call o T h := by
  cases o with
  | alloc _ _ => rfl
  | box _ x =>
    simp only [opA]
    rw [ev_congr (x := x) hs]
  | buildSlice _ _ _ ps =>
    simp only [opA]
    rw [parts_congr hs]
  | mkslice _ _ _ x y | store _ x y | append _ _ _ x y | appz _ _ _ _ x y =>
    simp only [opA]
    rw [ev_congr (x := x) (fun t ht => hs t (by simp [AOp.slots, ht])), ev_congr (x := y) (fun t ht => hs t (by simp [AOp.slots, ht]))]
  | clr _ x =>
    simp only [opA]
    rw [ev_congr (x := x) hs]
  | call f l =>
    simp only [opA]
    rw [evs_congr hs]
  | callv x l =>
    simp only [opA]
    rw [ev_congr (x := x) (fun t ht => hs t (by simp only [AOp.slots]; exact List.mem_append_left _ ht)), evs_congr (fun t ht => hs t (by simp only [AOp.slots]; exact List.mem_append_right _ ht))]
  | mov _ | pick _ _ _ | build _ _ | load _ _ _ | nilCheck _ | bin _ _ _ | eqb _ _ _ | eqst _ _ _ _ | eqnil _ _ _ | not _ | conv _ _ | bytesStr _ | mkfn _ _ | slice _ _ _ _ _ _ | sliceStr _ _ _ | faddr _ _
  | iaddr _ _ _ | idxStr _ _ | field _ _ _ _ | extract _ _ | len _ | lenStr _ | cap _ | min _ _ =>
    simp only [opA]
    rw [pureA_congr hs]

theorem wantA_congr {g : Option (Nat × Bool)} (hs : ∀ t b, g = some (t, b) → S t = T t) : wantA g S = wantA g T := by
  cases g with
  | none => rfl
  | some p =>
    obtain ⟨t, b⟩ := p
    simp only [wantA]
    rw [hs t b rfl]

theorem pureA_any {o : AOp} (hl : isLoad o = false) : pureA o T h = pureA o T h' := by
  cases o <;> simp only [isLoad, reduceCtorEq] at hl <;> rfl

theorem load_alloc {a : Nat × Nat} {k ty : Nat} {cs c : List CV} (hl : h.load a k = some c) : (h.alloc cs ty).load a k = some c := by
  unfold H.load at hl ⊢
  split at hl
  · rename_i hc
    have : (h.alloc cs ty).f a.1 = h.f a.1 := alloc_f_old (by have := hc.1.1; omega)
    rw [this, if_pos ⟨⟨Nat.lt_succ_of_lt hc.1.1, hc.1.2⟩, hc.2⟩]
    exact hl
  · simp at hl

theorem pureA_alloc {o : AOp} {cs : List CV} {ty : Nat} {v : AV} (hv : pureA o T h = some v) : pureA o T (h.alloc cs ty) = some v := by
  cases hl : isLoad o with
  | false => rw [← pureA_any (h := h) hl]; exact hv
  | true =>
    cases o <;> simp only [isLoad, reduceCtorEq] at hl
    · simp only [pureA] at hv ⊢
      split at hv
      · rename_i a he
        split at hv
        · rename_i c hc
          rw [load_alloc hc]
          exact hv
        · simp at hv
      · simp at hv
    · simp only [pureA] at hv ⊢
      split at hv
      · rename_i a n c he
        split at hv
        · simp at hv
        · rename_i hn
          rw [if_neg hn]
          split at hv
          · rename_i c hc
            rw [load_alloc hc]
            exact hv
          · simp at hv
      · simp at hv
    · simp only [pureA] at hv ⊢
      split at hv
      · rename_i n c he
        exact hv
      · rename_i a n c he
        split at hv
        · rename_i l k m hb
          split at hv
          · rename_i hc
            have e : (h.alloc cs ty).f a.1 = h.f a.1 := alloc_f_old (by have := hc.1; omega)
            rw [e, if_pos ⟨Nat.lt_succ_of_lt hc.1, hc.2⟩]
            exact hv
          · simp at hv
        · simp at hv
      · simp at hv

theorem same_eq {x y : AV} (hs : x.same y = true) : x = y := by
  cases x <;> cases y <;> simp [AV.same] at hs
  · rw [hs]
  · rw [hs]
end
end Go.Proofs.YtoeceafibmafpaaDoor.Am
/-! The abstract machine: a region whose order is drawn: what the one order that the machine goes leaves, every order leaves in the model. -/
namespace Go.Proofs.YtoeceafibmafpaaDoor.Am
open Go

/-- Listed. -/
def on (A : Array Bool) (i : Nat) : Prop := A.getD i false = true

theorem compSteps_get {P : Program} {nt : Nat} {ops : Array Oper} : ∀ {ol : List Oper} {l : List AStep}, compSteps P nt ops ol = some l → l.length = ol.length ∧ ∀ (i : Nat) (o : Oper), ol[i]? = some o → ∃ s, l[i]? = some s ∧ compStep P nt ops o = some s
  | [], l, h => by
    simp [compSteps] at h
    subst h
    simp
  | o :: ol, l, h => by
    unfold compSteps at h
    split at h
    · rename_i s l' h1 h2
      simp at h
      subst h
      obtain ⟨h3, h4⟩ := compSteps_get h2
      refine ⟨by simp [h3], ?_⟩
      intro i o' hi
      cases i with
      | zero => simp at hi; subst hi; exact ⟨s, rfl, h1⟩
      | succ i => exact h4 i o' (by simpa using hi)
    · simp at h

/-- What is asked of a region once, by its text alone. -/
structure Plan (P : Program) (nt : Nat) (ops : Array Oper) (l : List AStep) (masks : Array Nat) : Prop where
  len : l.length = ops.size
  get : ∀ (i : Nat) (o : Oper), ops[i]? = some o → ∃ s, l[i]? = some s ∧ compStep P nt ops o = some s
  back : ∀ (i : Nat) (o : Oper), ops[i]? = some o → ∀ e ∈ o.after, Region.binds .any e = true → e.on < i
  mask : ∀ (i : Nat) (o : Oper), ops[i]? = some o → ∀ j, j < ops.size → (masks.getD i 0).testBit j = true → ∃ e ∈ o.after, Region.binds .any e = true ∧ (e.on = j ∨ (masks.getD e.on 0).testBit j = true)
  reads : ∀ (i : Nat) (s : AStep), l[i]? = some s → ∀ (j : Nat) (p : AStep) (d : Nat), l[j]? = some p → j ≠ i → p.dst = some d → d ∈ s.looks → (masks.getD i 0).testBit j = true ∨ (effI l masks j = true ∧ (masks.getD j 0).testBit i = true)

theorem effI_spec {l : List AStep} {masks : Array Nat} {i : Nat} {s : AStep} (hs : l[i]? = some s) (he : effI l masks i = false) :
    effA s.op = false ∧ ∀ d, s.dst = some d → ∀ (j : Nat) (p : AStep), l[j]? = some p → (j ≠ i → p.dst ≠ some d) ∧ (d ∈ p.looks → (masks.getD j 0).testBit i = true) := by
  unfold effI at he
  rw [hs] at he
  simp only [Bool.or_eq_false_iff] at he
  obtain ⟨h1, h2⟩ := he
  refine ⟨h1, ?_⟩
  intro d hd j p hp
  rw [hd] at h2
  simp only [List.any_eq_false, List.mem_range] at h2
  have h3 := h2 j (List.getElem?_eq_some_iff.1 hp).1
  rw [hp] at h3
  simp only [Bool.or_eq_true, Bool.and_eq_true, bne_iff_ne, ne_eq, beq_iff_eq, List.contains_iff_mem, Bool.not_eq_true', not_or, not_and] at h3
  refine ⟨fun hj e => h3.1 hj e, fun hm => ?_⟩
  have := h3.2 hm
  simpa using this

theorem plan_of {P : Program} {nt : Nat} {ops : Array Oper} {l : List AStep} {masks : Array Nat} (hl : compSteps P nt ops ops.toList = some l) (ho : orderOk ops l masks = true) : Plan P nt ops l masks := by
  obtain ⟨h1, h2⟩ := compSteps_get hl
  have hlen : l.length = ops.size := by simpa using h1
  have hget : ∀ (i : Nat) (o : Oper), ops[i]? = some o → ∃ s, l[i]? = some s ∧ compStep P nt ops o = some s := fun i o hi => h2 i o (by simpa using hi)
  have hall : ∀ (i : Nat) (o : Oper) (s : AStep), ops[i]? = some o → l[i]? = some s → _ := fun i o s hi hs => by
    have := List.all_eq_true.1 ho i (List.mem_range.2 (Array.getElem?_eq_some_iff.1 hi).1)
    rw [hi, hs] at this
    simp only [Bool.and_eq_true, List.all_eq_true, List.mem_range, Bool.or_eq_true, Bool.not_eq_true', decide_eq_true_eq, List.any_eq_true, beq_iff_eq] at this
    exact this
  refine ⟨hlen, hget, ?_, ?_, ?_⟩
  · intro i o hi e he hb
    obtain ⟨s, hs, _⟩ := hget i o hi
    have := (hall i o s hi hs).1.1 e (by simpa using he)
    rcases this with h | h
    · rw [hb] at h; simp at h
    · exact h
  · intro i o hi j hj hb
    obtain ⟨s, hs, _⟩ := hget i o hi
    have := (hall i o s hi hs).1.2 j hj
    rcases this with h | ⟨e, he, h⟩
    · rw [hb] at h; simp at h
    · exact ⟨e, by simpa using he, h⟩
  · intro i s hs j p d hp hji hd hm
    have hi : i < ops.size := by rw [← hlen]; exact (List.getElem?_eq_some_iff.1 hs).1
    have := (hall i ops[i] s (Array.getElem?_eq_getElem hi) hs).2 j (by rw [← hlen]; exact (List.getElem?_eq_some_iff.1 hp).1)
    rcases this with h | h
    · exact absurd h hji
    · rw [hp] at h
      simp only [hd] at h
      simp only [Bool.or_eq_true, Bool.not_eq_true', Bool.and_eq_true] at h
      rcases h with (h | h) | h
      · have : s.looks.contains d = true := by simpa using hm
        rw [this] at h
        simp at h
      · exact .inl h
      · exact .inr h

section
variable {P : Program} {nt : Nat} {ops : Array Oper} {l : List AStep} {masks : Array Nat}

def Closed (ops : Array Oper) (A : Array Bool) : Prop := ∀ (j : Nat) (o : Oper), ops[j]? = some o → on A j → ∀ e ∈ o.after, Region.binds .any e = true → on A e.on

theorem closed_mask (hp : Plan P nt ops l masks) {A : Array Bool} (hc : Closed ops A) (hsz : A.size = ops.size) : ∀ (n i : Nat), i < n → on A i → ∀ j, j < ops.size → (masks.getD i 0).testBit j = true → on A j := by
  intro n
  induction n with
  | zero => intro i hi; omega
  | succ n ih =>
    intro i hi ha j hj hb
    have hin : i < ops.size := by
      rcases Nat.lt_or_ge i A.size with h' | h'
      · omega
      · simp [on, Array.getElem?_eq_none h'] at ha
    obtain ⟨e, he, h1, h2⟩ := hp.mask i ops[i] (Array.getElem?_eq_getElem hin) j hj hb
    have h3 := hc i ops[i] (Array.getElem?_eq_getElem hin) ha e he h1
    rcases h2 with rfl | h2
    · exact h3
    · have := hp.back i ops[i] (Array.getElem?_eq_getElem hin) e he h1
      exact ih e.on (by omega) h3 j hj h2

theorem ready_mask (hp : Plan P nt ops l masks) {A : Array Bool} (hc : Closed ops A) (hsz : A.size = ops.size) {i : Nat} (hr : i ∈ Region.ready .any ops A) {j : Nat} (hj : j < ops.size) (hb : (masks.getD i 0).testBit j = true) : on A j := by
  obtain ⟨_, o, ho, hall⟩ := mem_ready.1 hr
  obtain ⟨e, he, h1, h2⟩ := hp.mask i o ho j hj hb
  have h3 : on A e.on := hall e he h1
  rcases h2 with rfl | h2
  · exact h3
  · exact closed_mask hp hc hsz _ e.on (Nat.lt_succ_self _) h3 j hj h2

theorem on_set {A : Array Bool} {i j : Nat} : on (A.setIfInBounds i true) j ↔ on A j ∨ (j = i ∧ i < A.size) := by
  unfold on
  by_cases hij : i = j
  · subst hij
    by_cases hlt : i < A.size
    · simp [hlt]
    · simp [hlt]
  · rw [getD_set_ne false hij]
    simp [Ne.symm hij]
theorem ready_lt {A : Array Bool} {i : Nat} (hr : i ∈ Region.ready .any ops A) : i < ops.size := by
  obtain ⟨_, o, ho, _⟩ := mem_ready.1 hr
  exact (Array.getElem?_eq_some_iff.1 ho).1
theorem ready_off {A : Array Bool} {i : Nat} (hr : i ∈ Region.ready .any ops A) : ¬ on A i := by
  obtain ⟨h, _⟩ := mem_ready.1 hr
  unfold on
  intro h1
  rcases Nat.lt_or_ge i A.size with h' | h'
  · simp [h'] at h h1
    rw [h] at h1
    cases h1
  · simp [Array.getElem?_eq_none h'] at h
theorem ready_of {A : Array Bool} {i : Nat} {o : Oper} (hsz : A.size = ops.size) (ho : ops[i]? = some o) (hoff : ¬ on A i) (hall : ∀ e ∈ o.after, Region.binds .any e = true → on A e.on) : i ∈ Region.ready .any ops A := by
  refine mem_ready.2 ⟨?_, o, ho, hall⟩
  have hlt : i < A.size := by rw [hsz]; exact (Array.getElem?_eq_some_iff.1 ho).1
  unfold on at hoff
  simp [hlt] at hoff ⊢
  exact hoff
theorem closed_set {A : Array Bool} (hc : Closed ops A) {i : Nat} (hr : i ∈ Region.ready .any ops A) : Closed ops (A.setIfInBounds i true) := by
  obtain ⟨_, oi, hoi, hall⟩ := mem_ready.1 hr
  intro j o ho ha e he hb
  rw [on_set] at ha ⊢
  left
  rcases ha with ha | ⟨rfl, _⟩
  · exact hc j o ho ha e he hb
  · rw [hoi] at ho
    cases ho
    exact hall e he hb

/-- What a step that the machine has gone and the model has not would give again. -/
def Stable (T : Tm) (h : H) (β : Inj) (n0 id : Nat) (s : AStep) : Prop :=
  (wantA s.guard T = false ∧ ∀ d, s.dst = some d → T d = undefA) ∨
  (wantA s.guard T = true ∧ ∃ v, pureA s.op T h = some v ∧ ∀ d, s.dst = some d → T d = v) ∨
  (wantA s.guard T = true ∧ ∃ cs ty mk, laidA s.op T = some (cs, ty, mk) ∧ (∀ d, s.dst = some d → T d = mk id) ∧ h.f id = ⟨cs, ty, .rw⟩ ∧ id < h.n ∧ n0 ≤ id ∧ β id = none)

structure Inv (P : Program) (nt : Nat) (ops : Array Oper) (l : List AStep) (masks : Array Nat) (β0 : Inj) (h0 : H) (w0 : World) (D done : Array Bool) (ids : Nat → Nat) (T : Tm) (h : H) (β : Inj) (w : World) (a : Act) : Prop where
  szD : D.size = ops.size
  szd : done.size = ops.size
  cD : Closed ops D
  cd : Closed ops done
  sub : ∀ i, on D i → on done i
  sync : ∀ i, i < ops.size → on done i → effI l masks i = true → on D i
  rel : Rel P β h w
  stp : Stp β0 h0 w0 β h w
  shadow : ∃ S, relA P β w S a ∧ ∀ t, (∀ i s, on done i → ¬ on D i → l[i]? = some s → s.dst ≠ some t) → S t = T t
  ahead : ∀ i s, on done i → ¬ on D i → l[i]? = some s → Stable T h β h0.n (ids i) s
  apart : ∀ i j s t, on done i → ¬ on D i → on done j → ¬ on D j → i ≠ j → l[i]? = some s → l[j]? = some t → (laidA s.op T).isSome = true → wantA s.guard T = true → (laidA t.op T).isSome = true → wantA t.guard T = true → ids i ≠ ids j
  size : nt ≤ a.tmps.size
  defers : a.defers = []

theorem looks_congr {S T : Tm} {s : AStep} (hs : ∀ t ∈ s.looks, S t = T t) : wantA s.guard S = wantA s.guard T ∧ ∀ t ∈ s.op.slots, S t = T t := by
  refine ⟨wantA_congr fun t b hg => hs t ?_, fun t ht => hs t ?_⟩
  · unfold AStep.looks
    rw [hg]
    simp
  · unfold AStep.looks
    exact List.mem_append_left _ ht

/-- A step that is looked at anew where its slots, and what it reads, are as they were. -/
theorem Stable.move {T T1 : Tm} {h h1 : H} {β β1 : Inj} {n0 id : Nat} {s : AStep} (hs : Stable T h β n0 id s) (hl : ∀ t ∈ s.looks, T1 t = T t) (hd : ∀ d, s.dst = some d → T1 d = T d)
    (hpure : ∀ v, wantA s.guard T = true → pureA s.op T h = some v → (∀ d, s.dst = some d → T d = v) → pureA s.op T1 h1 = some v) (hlaid : ∀ cs ty mk, wantA s.guard T = true → laidA s.op T = some (cs, ty, mk) → h.f id = ⟨cs, ty, .rw⟩ → id < h.n → n0 ≤ id → β id = none → h1.f id = ⟨cs, ty, .rw⟩ ∧ id < h1.n ∧ β1 id = none) :
    Stable T1 h1 β1 n0 id s := by
  obtain ⟨hw, hsl⟩ := looks_congr hl
  rcases hs with ⟨h2, h3⟩ | ⟨h2, v, h3, h4⟩ | ⟨h2, cs, ty, mk, h3, h4, h5, h6, h7, h8⟩
  · exact .inl ⟨by rw [hw]; exact h2, fun d hdd => by rw [hd d hdd]; exact h3 d hdd⟩
  · exact .inr (.inl ⟨by rw [hw]; exact h2, v, hpure v h2 h3 h4, fun d hdd => by rw [hd d hdd]; exact h4 d hdd⟩)
  · obtain ⟨g1, g2, g3⟩ := hlaid cs ty mk h2 h3 h5 h6 h7 h8
    exact .inr (.inr ⟨by rw [hw]; exact h2, cs, ty, mk, by rw [laidA_congr hsl]; exact h3, fun d hdd => by rw [hd d hdd]; exact h4 d hdd, g1, g2, h7, g3⟩)

section
variable {β0 : Inj} {h0 : H} {w0 : World} {D done : Array Bool} {ids : Nat → Nat} {T : Tm} {h : H} {β : Inj} {w : World} {a : Act} {call : Oracle}

/-- The machine goes one step ahead. -/
theorem Inv.go_ahead (hp : Plan P nt ops l masks) (hI : Inv P nt ops l masks β0 h0 w0 D done ids T h β w a) {i : Nat} {s : AStep} (hr : i ∈ Region.ready .any ops done) (he : effI l masks i = false) (hs : l[i]? = some s) (hag : s.again = [])
    {T1 : Tm} {h1 : H} (hst : stepA call s T h = some (T1, h1)) :
    ∃ ids1, Inv P nt ops l masks β0 h0 w0 D (done.setIfInBounds i true) ids1 T1 h1 β w a := by
  obtain ⟨he1, he2⟩ := effI_spec hs he
  have hilt := ready_lt hr
  have hioff := ready_off hr
  have hiD : ¬ on D i := fun h' => hioff (hI.sub i h')
  have hon1 : on (done.setIfInBounds i true) i := by rw [on_set]; exact .inr ⟨rfl, by rw [hI.szd]; exact hilt⟩
  -- slots of others
  have hdst : ∀ t, s.dst ≠ some t → T1 t = T t := by
    intro t ht
    unfold stepA at hst
    split at hst
    · split at hst
      · split at hst
        · simp only [Option.some.injEq, Prod.mk.injEq] at hst
          rw [← hst.1]
          cases hd : s.dst with
          | none => rfl
          | some d => simp only [Tm.put]; rw [if_neg (fun e => by subst e; exact ht hd)]
        · simp at hst
      · simp at hst
    · simp only [Option.some.injEq, Prod.mk.injEq] at hst
      rw [← hst.1]
      cases hd : s.dst with
      | none => rfl
      | some d => simp only [Tm.put]; rw [if_neg (fun e => by subst e; exact ht hd)]
  have hown : ∀ t ∈ s.looks, T1 t = T t := by
    intro t ht
    refine hdst t fun hd => ?_
    have := (he2 t hd i s hs).2 ht
    exact hioff (ready_mask hp hI.cd hI.szd hr hilt this)
  have hlooks : ∀ (j : Nat) (p : AStep), on done j → l[j]? = some p → ∀ t ∈ p.looks, T1 t = T t := by
    intro j p hj hpj t ht
    refine hdst t fun hd => ?_
    have h2 := (he2 t hd j p hpj).2 ht
    exact hioff (closed_mask hp hI.cd hI.szd _ j (Nat.lt_succ_self _) hj i hilt h2)
  have hdsts : ∀ (j : Nat) (p : AStep), j ≠ i → l[j]? = some p → ∀ d, p.dst = some d → T1 d = T d := by
    intro j p hj hpj d hd
    refine hdst d fun hd' => (he2 d hd' j p hpj).1 hj hd
  -- what it gives
  have hgive : (h1 = h ∨ ∃ cs ty, h1 = h.alloc cs ty) ∧ Stable T1 h1 β h0.n h.n s := by
    obtain ⟨hw1, hsl⟩ := looks_congr hown
    have hst0 := hst
    unfold stepA at hst
    split at hst
    · rename_i hw
      split at hst
      · rename_i v h1' hop
        rw [hag] at hst
        simp only [List.all_nil, if_true, Option.some.injEq, Prod.mk.injEq] at hst
        obtain ⟨e1, e2⟩ := hst
        subst e2
        have hTd : ∀ d, s.dst = some d → T1 d = v := fun d hd => by rw [← e1, hd]; simp [Tm.put]
        rcases opA_light he1 hop with ⟨g1, rfl⟩ | ⟨cs, ty, mk, g1, rfl, rfl⟩
        · exact ⟨.inl rfl, .inr (.inl ⟨by rw [hw1]; exact hw, v, by rw [pureA_congr hsl]; exact g1, hTd⟩)⟩
        · refine ⟨.inr ⟨cs, ty, rfl⟩, .inr (.inr ⟨by rw [hw1]; exact hw, cs, ty, mk, by rw [laidA_congr hsl]; exact g1, hTd, alloc_f_new, Nat.lt_succ_self _, hI.stp.n, hI.rel.dom _ (Nat.le_refl _)⟩)⟩
      · simp at hst
    · rename_i hw
      simp only [Option.some.injEq, Prod.mk.injEq] at hst
      obtain ⟨e1, e2⟩ := hst
      subst e2
      refine ⟨.inl rfl, .inl ⟨by rw [hw1]; simpa using hw, fun d hd => by rw [← e1, hd]; simp [Tm.put]⟩⟩
  obtain ⟨hheap, hself⟩ := hgive
  have hfold : ∀ id, id < h.n → h1.f id = h.f id ∧ id < h1.n := by
    intro id hid
    rcases hheap with rfl | ⟨cs, ty, rfl⟩
    · exact ⟨rfl, hid⟩
    · exact ⟨alloc_f_old (by omega), Nat.lt_succ_of_lt hid⟩
  have hrel : Rel P β h1 w := by
    rcases hheap with rfl | ⟨cs, ty, rfl⟩
    · exact hI.rel
    · exact hI.rel.unmapped cs ty
  have hstp : Stp β h w β h1 w := by
    rcases hheap with rfl | ⟨cs, ty, rfl⟩
    · exact Stp.refl β _ w hI.rel.dom
    · exact Stp.unmapped hI.rel cs ty
  have hahead : ∀ j p, on done j → ¬ on D j → l[j]? = some p → Stable T1 h1 β h0.n (ids j) p := by
    intro j p hj hjD hpj
    have hji : j ≠ i := fun e => by subst e; exact hioff hj
    refine (hI.ahead j p hj hjD hpj).move (hlooks j p hj hpj) (hdsts j p hji hpj) ?_ ?_
    · intro v _ hv _
      rw [pureA_congr (looks_congr (hlooks j p hj hpj)).2]
      rcases hheap with rfl | ⟨cs, ty, rfl⟩
      · exact hv
      · exact pureA_alloc hv
    · intro cs ty mk _ _ g1 g2 g3 g4
      obtain ⟨g5, g6⟩ := hfold _ g2
      exact ⟨by rw [g5]; exact g1, g6, g4⟩
  refine ⟨fun j => if j = i then h.n else ids j, hI.szD, by simp [hI.szd], hI.cD, closed_set hI.cd hr, fun j hj => on_set.2 (.inl (hI.sub j hj)), ?_, hrel, hI.stp.trans hstp, ?_, ?_, ?_, hI.size, hI.defers⟩
  · intro j hj hd hje
    rcases on_set.1 hd with hd | ⟨rfl, _⟩
    · exact hI.sync j hj hd hje
    · rw [he] at hje; simp at hje
  · obtain ⟨S, hS1, hS2⟩ := hI.shadow
    refine ⟨S, hS1, fun t ht => ?_⟩
    rw [hdst t (ht i s hon1 hiD hs)]
    exact hS2 t fun j p hj hjD hpj => ht j p (on_set.2 (.inl hj)) hjD hpj
  · intro j p hj0 hjD hpj
    rcases on_set.1 hj0 with hj | ⟨rfl, _⟩
    · have hji : j ≠ i := fun e => hioff (e ▸ hj)
      rw [if_neg hji]
      exact hahead j p hj hjD hpj
    · rw [if_pos rfl]
      rw [hs] at hpj
      cases hpj
      exact hself
  · intro j k p q hj0 hjD hk0 hkD hjk hpj hqk g1 g2 g3 g4
    have lower : ∀ j p, on done j → ¬ on D j → l[j]? = some p → (laidA p.op T1).isSome = true → wantA p.guard T1 = true → ids j < h.n := by
      intro j p hj hjD hpj g1 g2
      obtain ⟨k1, k2⟩ := looks_congr (hlooks j p hj hpj)
      rw [k1] at g2
      rw [laidA_congr k2] at g1
      rcases hI.ahead j p hj hjD hpj with ⟨h2, _⟩ | ⟨h2, v, h3, _⟩ | ⟨_, _, _, _, _, _, _, h6, _⟩
      · rw [g2] at h2; simp at h2
      · exfalso
        cases ho : p.op <;> rw [ho] at g1 h3 <;> simp [laidA] at g1 <;> simp [pureA] at h3
      · exact h6
    rcases on_set.1 hj0 with hj | ⟨rfl, _⟩
    · have hji : j ≠ i := fun e => hioff (e ▸ hj)
      rcases on_set.1 hk0 with hk | ⟨rfl, _⟩
      · have hki : k ≠ i := fun e => hioff (e ▸ hk)
        rw [if_neg hji, if_neg hki]
        obtain ⟨k1, k2⟩ := looks_congr (hlooks j p hj hpj)
        obtain ⟨k3, k4⟩ := looks_congr (hlooks k q hk hqk)
        exact hI.apart j k p q hj hjD hk hkD hjk hpj hqk (by rw [← laidA_congr k2]; exact g1) (by rw [← k1]; exact g2) (by rw [← laidA_congr k4]; exact g3) (by rw [← k3]; exact g4)
      · rw [if_neg hji, if_pos rfl]
        have := lower j p hj hjD hpj g1 g2
        omega
    · have hki : k ≠ j := Ne.symm hjk
      rw [if_pos rfl, if_neg hki]
      rcases on_set.1 hk0 with hk | ⟨rfl, _⟩
      · have := lower k q hk hkD hqk g3 g4
        omega
      · exact absurd rfl hki
end
end
end Go.Proofs.YtoeceafibmafpaaDoor.Am
/-! The abstract machine: a region whose order is drawn: the model catches up, an operation with effect is gone by both, and the whole region. -/
namespace Go.Proofs.YtoeceafibmafpaaDoor.Am
open Go

section
variable {P : Program} {nt : Nat} {ops : Array Oper} {l : List AStep} {masks : Array Nat}
variable {β0 : Inj} {h0 : H} {w0 : World} {D done : Array Bool} {ids : Nat → Nat} {T : Tm} {h : H} {β : Inj} {w : World} {a : Act} {call : Oracle}

/-- The slots that a step looks at, when it comes up in the model. -/
theorem Inv.looks (hp : Plan P nt ops l masks) (hI : Inv P nt ops l masks β0 h0 w0 D done ids T h β w a) {i : Nat} {s : AStep} (hr : i ∈ Region.ready .any ops D) (hs : l[i]? = some s) (hown : on done i → effI l masks i = false)
    {S : Tm} (hS : ∀ t, (∀ i s, on done i → ¬ on D i → l[i]? = some s → s.dst ≠ some t) → S t = T t) : ∀ t ∈ s.looks, S t = T t := by
  intro t ht
  refine hS t fun j p hj hjD hpj hd => ?_
  have hjn : j < ops.size := by rw [← hp.len]; exact (List.getElem?_eq_some_iff.1 hpj).1
  by_cases hji : j = i
  · subst hji
    rw [hs] at hpj
    cases hpj
    have := ((effI_spec hs (hown hj)).2 t hd j s hs).2 ht
    exact ready_off hr (ready_mask hp hI.cD hI.szD hr hjn this)
  · rcases hp.reads i s hs j p t hpj hji hd ht with h1 | ⟨h1, _⟩
    · exact hjD (ready_mask hp hI.cD hI.szD hr hjn h1)
    · exact hjD (hI.sync j hjn hj h1)

theorem Inv.caught (hI : Inv P nt ops l masks β0 h0 w0 D done ids T h β w a) {i : Nat} {s : AStep} (hr : i ∈ Region.ready .any ops D) (hdn : on done i) (hs : l[i]? = some s) (hdlt : ∀ t, s.dst = some t → t < nt)
    {β1 : Inj} {w1 : World} {v : AV} {u : Value} (hv : relV P β1 w1 v u) (hT : ∀ d, s.dst = some d → T d = v) (hR : Rel P β1 h w1) (hStp : Stp β0 h0 w0 β1 h w1) (hE : Ext β β1) (hSh : Shapes w w1)
    (hids : ∀ j p, on done j → ¬ on D j → j ≠ i → l[j]? = some p → (laidA p.op T).isSome = true → wantA p.guard T = true → β (ids j) = none → β1 (ids j) = none) :
    Inv P nt ops l masks β0 h0 w0 (D.setIfInBounds i true) done ids T h β1 w1 (a.put s.dst u) := by
  have hilt := ready_lt hr
  have hnot : ∀ j, ¬ on (D.setIfInBounds i true) j → ¬ on D j ∧ j ≠ i := by
    intro j hj
    rw [on_set] at hj
    refine ⟨fun h' => hj (.inl h'), fun e => hj (.inr ⟨e, by rw [hI.szD]; exact hilt⟩)⟩
  refine ⟨by simp [hI.szD], hI.szd, closed_set hI.cD hr, hI.cd, ?_, fun j hj hd he => on_set.2 (.inl (hI.sync j hj hd he)), hR, hStp, ?_, ?_, ?_, by rw [put_size]; exact hI.size, by rw [put_defers]; exact hI.defers⟩
  · intro j hj
    rcases on_set.1 hj with hj | ⟨rfl, _⟩
    · exact hI.sub j hj
    · exact hdn
  · obtain ⟨S, hS1, hS2⟩ := hI.shadow
    refine ⟨S.put s.dst v, relA_put (hS1.mono hE hSh) hv (fun t ht => Nat.lt_of_lt_of_le (hdlt t ht) hI.size), fun t ht => ?_⟩
    by_cases hd : s.dst = some t
    · rw [hd]
      simp only [Tm.put, if_true]
      exact (hT t hd).symm
    · have e : S.put s.dst v t = S t := by
        cases hd' : s.dst with
        | none => rfl
        | some d => simp only [Tm.put]; rw [if_neg (fun e => by subst e; exact hd hd')]
      rw [e]
      refine hS2 t fun j p hj hjD hpj => ?_
      by_cases hji : j = i
      · subst hji
        rw [hs] at hpj
        cases hpj
        exact hd
      · exact ht j p hj (fun h' => (on_set.1 h').elim hjD (fun h' => hji h'.1)) hpj
  · intro j p hj hjD hpj
    obtain ⟨hjD, hji⟩ := hnot j hjD
    rcases hI.ahead j p hj hjD hpj with h1 | h1 | ⟨g1, cs, ty, mk, g2, g3, g4, g5, g6, g7⟩
    · exact .inl h1
    · exact .inr (.inl h1)
    · exact .inr (.inr ⟨g1, cs, ty, mk, g2, g3, g4, g5, g6, hids j p hj hjD hji hpj (by rw [g2]; rfl) g1 g7⟩)
  · intro j k p q hj hjD hk hkD
    exact hI.apart j k p q hj (hnot j hjD).1 hk (hnot k hkD).1

theorem Stp.laid {id : Nat} {arr : Array Value} {ty : TypeId} (hs : Stp β0 h0 w0 β h w) (hid : h0.n ≤ id) (hb : β id = none) : Stp β0 h0 w0 (β.put id (w.heap.size, 0)) h (w.alloc (.cells arr ty)) := by
  refine ⟨hs.ext.trans (Inj.put_ext hb), hs.shapes.trans (shapes_alloc w _), hs.n, ?_, hs.fix, hs.st, ?_, ?_, ?_, hs.os, hs.tape, hs.output, fun a ha => (frozen_alloc w arr ty a).trans (hs.fro a ha)⟩
  · intro i hi h1
    have : i ≠ id := by omega
    exact ⟨by simp [Inj.put, this, (hs.unm i hi h1).1], (hs.unm i hi h1).2⟩
  · intro i b d hi hst hbi
    by_cases e : i = id
    · subst e
      simp [Inj.put] at hbi
      have := hs.size
      left
      omega
    · simp only [Inj.put, if_neg e] at hbi
      exact hs.new i b d hi hst hbi
  · intro b hb1 hno
    rw [heap_alloc_old (Nat.lt_of_lt_of_le hb1 hs.size)]
    exact hs.keep b hb1 hno
  · have := hs.size
    show w0.heap.size ≤ (w.heap.push _).size
    simp
    omega

/-- The model comes to a step that the machine has gone. -/
theorem Inv.catch_up (hp : Plan P nt ops l masks) (hI : Inv P nt ops l masks β0 h0 w0 D done ids T h β w a) {i : Nat} (hr : i ∈ Region.ready .any ops D) (hdn : on done i)
    {Q : Exit → Act → World → Prop} {K : Act → World → Prop} (hK : ∀ β1 w1 a1, Inv P nt ops l masks β0 h0 w0 (D.setIfInBounds i true) done ids T h β1 w1 a1 → K a1 w1) : wpOp P ops Q i K a w := by
  have hilt := ready_lt hr
  obtain ⟨s, hs, hc⟩ := hp.get i ops[i] (Array.getElem?_eq_getElem hilt)
  obtain ⟨c1, c2, c3, c4, c5⟩ := compStep_spec hc
  have hiD := ready_off hr
  have he : effI l masks i = false := by
    cases h1 : effI l masks i with
    | false => rfl
    | true => exact absurd (hI.sync i hilt hdn h1) hiD
  obtain ⟨S, hS1, hS2⟩ := hI.shadow
  have hlook := hI.looks hp hr hs (fun _ => he) hS2
  obtain ⟨hw, hsl⟩ := looks_congr hlook
  have hdlt : ∀ t, s.dst = some t → t < nt := fun t ht => c5 t (by rw [← c3]; exact ht)
  unfold wpOp
  rw [Array.getElem?_eq_getElem hilt]
  simp only
  rw [wanted_eq c2 hS1, hw]
  rcases hI.ahead i s hdn hiD hs with ⟨g1, g2⟩ | ⟨g1, v, g2, g3⟩ | ⟨g1, cs, ty, mk, g2, g3, g4, g5, g6, g7⟩
  · rw [if_neg (by rw [g1]; simp)]
    rw [← c3]
    exact hK β w _ (hI.caught hr hdn hs hdlt (show relV P β w undefA undef from ⟨#[], rfl, trivial⟩) g2 hI.rel hI.stp (Ext.refl β) (Shapes.refl w) (fun _ _ _ _ _ _ _ _ h => h))
  · rw [if_pos g1]
    left
    refine opOk_pure hI.rel hS1 c1 (by rw [pureA_congr hsl]; exact g2) _ _ _ rfl ?_
    intro β1 w1 u k1 k2 k3
    rw [← c3]
    refine hK β1 w1 _ (hI.caught hr hdn hs hdlt k1 g3 k2 (hI.stp.trans k3) k3.ext k3.shapes ?_)
    intro j p hj hjD hji hpj q1 q2 q3
    rcases hI.ahead j p hj hjD hpj with ⟨r1, _⟩ | ⟨_, v', r2, _⟩ | ⟨_, _, _, _, _, _, _, r5, _, _⟩
    · rw [q2] at r1; simp at r1
    · exfalso
      cases ho : p.op <;> rw [ho] at q1 r2 <;> simp [laidA] at q1 <;> simp [pureA] at r2
    · exact (k3.unm _ r5 q3).1
  · rw [if_pos g1]
    left
    obtain ⟨arr, u, k1, k2, k3⟩ := laid_sound hS1 c1 (by rw [laidA_congr hsl]; exact g2)
    unfold Oper.wp
    rw [k1 _ rfl]
    have hself : (β.put (ids i) (w.heap.size, 0)) (ids i) = some (w.heap.size, 0) := by simp [Inj.put]
    show K (a.put ops[i].dst u) _
    rw [← c3]
    refine hK _ _ _ (hI.caught hr hdn hs hdlt (k3 _ _ hself) g3 (hI.rel.mapped g5 g4 g7 ?_) (hI.stp.laid g6 g7) (Inj.put_ext g7) (shapes_alloc w _) ?_)
    · intro o c hc
      obtain ⟨v, h5, h6⟩ := k2.get hc
      exact ⟨v, by rw [← Array.getElem?_toList]; exact h5, h6⟩
    · intro j p hj hjD hji hpj q1 q2 q3
      have := hI.apart j i p s hj hjD hdn hiD hji hpj hs q1 q2 (by rw [g2]; rfl) g1
      simp [Inj.put, this, q3]

theorem Inv.affected (hp : Plan P nt ops l masks) (hI : Inv P nt ops l masks β0 h0 w0 D done ids T h β w a) {k : Nat} {s : AStep} (hr : k ∈ Region.ready .any ops D) (hrd : k ∈ Region.ready .any ops done) (hs : l[k]? = some s) (hdlt : ∀ t, s.dst = some t → t < nt)
    {β1 : Inj} {h1 : H} {w1 : World} {v : AV} {u : Value} (hv : relV P β1 w1 v u) (hR : Rel P β1 h1 w1) (hStp : Stp β h w β1 h1 w1)
    (hag : ∀ j p, on done j → ¬ on D j → l[j]? = some p → isLoad p.op = true → wantA p.guard T = true → ∀ v', pureA p.op T h = some v' → (∀ d, p.dst = some d → T d = v') → pureA p.op (T.put s.dst v) h1 = some v') :
    Inv P nt ops l masks β0 h0 w0 (D.setIfInBounds k true) (done.setIfInBounds k true) ids (T.put s.dst v) h1 β1 w1 (a.put s.dst u) := by
  have hklt := ready_lt hr
  have hkd := ready_off hrd
  have hnot : ∀ j, ¬ on (D.setIfInBounds k true) j → ¬ on D j ∧ j ≠ k := by
    intro j hj
    rw [on_set] at hj
    refine ⟨fun h' => hj (.inl h'), fun e => hj (.inr ⟨e, by rw [hI.szD]; exact hklt⟩)⟩
  have hput : ∀ t, s.dst ≠ some t → (T.put s.dst v) t = T t := by
    intro t ht
    cases hd : s.dst with
    | none => rfl
    | some d => simp only [Tm.put]; rw [if_neg (fun e => by subst e; exact ht hd)]
  have hlooks : ∀ (j : Nat) (p : AStep), on done j → ¬ on D j → l[j]? = some p → ∀ t ∈ p.looks, (T.put s.dst v) t = T t := by
    intro j p hj hjD hpj t ht
    refine hput t fun hd => ?_
    have hjn : j < ops.size := by rw [← hp.len]; exact (List.getElem?_eq_some_iff.1 hpj).1
    have hkj : k ≠ j := fun e => hkd (e ▸ hj)
    rcases hp.reads j p hpj k s t hs hkj hd ht with h2 | ⟨_, h2⟩
    · exact hkd (closed_mask hp hI.cd hI.szd _ j (Nat.lt_succ_self _) hj k hklt h2)
    · exact hjD (ready_mask hp hI.cD hI.szD hr hjn h2)
  have hdsts : ∀ (j : Nat) (p : AStep), on done j → ¬ on D j → l[j]? = some p → ∀ d, p.dst = some d → (T.put s.dst v) d = T d := by
    intro j p hj hjD hpj d hd
    have hjn : j < ops.size := by rw [← hp.len]; exact (List.getElem?_eq_some_iff.1 hpj).1
    have hje : effI l masks j = false := by
      cases h2 : effI l masks j with
      | false => rfl
      | true => exact absurd (hI.sync j hjn hj h2) hjD
    have hkj : k ≠ j := fun e => hkd (e ▸ hj)
    exact hput d (((effI_spec hpj hje).2 d hd k s hs).1 hkj)
  refine ⟨by simp [hI.szD], by simp [hI.szd], closed_set hI.cD hr, closed_set hI.cd hrd, ?_, ?_, hR, hI.stp.trans hStp, ?_, ?_, ?_, by rw [put_size]; exact hI.size, by rw [put_defers]; exact hI.defers⟩
  · intro j hj
    rcases on_set.1 hj with hj | ⟨rfl, _⟩
    · exact on_set.2 (.inl (hI.sub j hj))
    · exact on_set.2 (.inr ⟨rfl, by rw [hI.szd]; exact hklt⟩)
  · intro j hjn hj he
    rcases on_set.1 hj with hj | ⟨rfl, _⟩
    · exact on_set.2 (.inl (hI.sync j hjn hj he))
    · exact on_set.2 (.inr ⟨rfl, by rw [hI.szD]; exact hklt⟩)
  · obtain ⟨S, hS1, hS2⟩ := hI.shadow
    refine ⟨S.put s.dst v, relA_put (hS1.mono hStp.ext hStp.shapes) hv (fun t ht => Nat.lt_of_lt_of_le (hdlt t ht) hI.size), fun t ht => ?_⟩
    by_cases hd : s.dst = some t
    · rw [hd]
      simp [Tm.put]
    · have e : S.put s.dst v t = S t := by
        cases hd' : s.dst with
        | none => rfl
        | some d => simp only [Tm.put]; rw [if_neg (fun e => by subst e; exact hd hd')]
      rw [e, hput t hd]
      refine hS2 t fun j p hj hjD hpj => ?_
      have hkj : j ≠ k := fun e => hkd (e ▸ hj)
      exact ht j p (on_set.2 (.inl hj)) (fun h' => (on_set.1 h').elim hjD (fun h' => hkj h'.1)) hpj
  · intro j p hj hjD hpj
    obtain ⟨hjD, hjk⟩ := hnot j hjD
    have hj : on done j := (on_set.1 hj).resolve_right (fun h' => hjk h'.1)
    refine (hI.ahead j p hj hjD hpj).move (hlooks j p hj hjD hpj) (hdsts j p hj hjD hpj) ?_ ?_
    · intro v' hw hv' hd
      cases hl : isLoad p.op with
      | true => exact hag j p hj hjD hpj hl hw v' hv' hd
      | false =>
        rw [pureA_congr (looks_congr (hlooks j p hj hjD hpj)).2, pureA_any (h' := h) hl]
        exact hv'
    · intro cs ty mk _ _ g1 g2 g3 g4
      obtain ⟨g5, g6⟩ := hStp.unm _ g2 g4
      exact ⟨by rw [g6]; exact g1, Nat.lt_of_lt_of_le g2 hStp.n, g5⟩
  · intro j m p q hj hjD hm hmD hjm hpj hqm g1 g2 g3 g4
    obtain ⟨hjD, hjk⟩ := hnot j hjD
    obtain ⟨hmD, hmk⟩ := hnot m hmD
    have hj : on done j := (on_set.1 hj).resolve_right (fun h' => hjk h'.1)
    have hm : on done m := (on_set.1 hm).resolve_right (fun h' => hmk h'.1)
    obtain ⟨k1, k2⟩ := looks_congr (hlooks j p hj hjD hpj)
    obtain ⟨k3, k4⟩ := looks_congr (hlooks m q hm hmD hqm)
    exact hI.apart j m p q hj hjD hm hmD hjm hpj hqm (by rw [← laidA_congr k2]; exact g1) (by rw [← k1]; exact g2) (by rw [← laidA_congr k4]; exact g3) (by rw [← k3]; exact g4)

/-- A step with effect is gone by both. -/
theorem Inv.effect (hp : Plan P nt ops l masks) (hcall : Sound P call) (hI : Inv P nt ops l masks β0 h0 w0 D done ids T h β w a) {k : Nat} {s : AStep} (hr : k ∈ Region.ready .any ops D) (hrd : k ∈ Region.ready .any ops done) (hs : l[k]? = some s)
    {T1 : Tm} {h1 : H} (hst : stepA call { s with again := againOf l masks done k } T h = some (T1, h1)) {Q : Exit → Act → World → Prop} {K : Act → World → Prop}
    (hK : ∀ β1 w1 a1, Inv P nt ops l masks β0 h0 w0 (D.setIfInBounds k true) (done.setIfInBounds k true) ids T1 h1 β1 w1 a1 → K a1 w1) : wpOp P ops Q k K a w := by
  have hklt := ready_lt hr
  obtain ⟨s', hs', hc⟩ := hp.get k ops[k] (Array.getElem?_eq_getElem hklt)
  rw [hs] at hs'
  cases hs'
  obtain ⟨c1, c2, c3, c4, c5⟩ := compStep_spec hc
  obtain ⟨S, hS1, hS2⟩ := hI.shadow
  have hkd := ready_off hrd
  have hlook := hI.looks hp hr hs (fun h' => absurd h' hkd) hS2
  obtain ⟨hw, hsl⟩ := looks_congr hlook
  have hdlt : ∀ t, s.dst = some t → t < nt := fun t ht => c5 t (by rw [← c3]; exact ht)
  unfold wpOp
  rw [Array.getElem?_eq_getElem hklt]
  simp only
  rw [wanted_eq c2 hS1, hw]
  unfold stepA at hst
  simp only at hst
  split at hst
  · rename_i hwt
    rw [if_pos hwt]
    split at hst
    · rename_i v h1' hop
      split at hst
      · rename_i hall
        simp only [Option.some.injEq, Prod.mk.injEq] at hst
        obtain ⟨rfl, rfl⟩ := hst
        left
        refine op_sound hcall hI.rel hS1 c1 (by rw [opA_congr hsl]; exact hop) _ _ _ rfl ?_
        intro β1 w1 u k1 k2 k3
        rw [← c3]
        refine hK β1 w1 _ (hI.affected hp hr hrd hs hdlt k1 k2 k3 ?_)
        intro j p hj hjD hpj hl hwp v' hv' hd
        have hjn : j < ops.size := by rw [← hp.len]; exact (List.getElem?_eq_some_iff.1 hpj).1
        have hmask : (masks.getD k 0).testBit j = false := by
          cases h2 : (masks.getD k 0).testBit j with
          | false => rfl
          | true => exact absurd (ready_mask hp hI.cD hI.szD hr hjn h2) hjD
        have hmem : (p.op, p.dst, p.guard) ∈ againOf l masks done k := by
          unfold againOf
          refine List.mem_filterMap.2 ⟨(p, j), ?_, ?_⟩
          · rw [List.mem_iff_getElem?]
            exact ⟨j, by rw [List.getElem?_zipIdx, hpj]; simp⟩
          · have hj' : done.getD j false = true := hj
            rw [if_pos (by rw [hj', hl, hmask]; rfl)]
        have h2 := List.all_eq_true.1 hall _ hmem
        unfold againA at h2
        simp only at h2
        -- the guard of p is as it was
        have hkj : k ≠ j := fun e => hkd (e ▸ hj)
        have hput : ∀ t ∈ p.looks, (T.put s.dst v) t = T t := by
          intro t ht
          have hne : s.dst ≠ some t := by
            intro hd'
            rcases hp.reads j p hpj k s t hs hkj hd' ht with h3 | ⟨_, h3⟩
            · exact hkd (closed_mask hp hI.cd hI.szd _ j (Nat.lt_succ_self _) hj k hklt h3)
            · exact hjD (ready_mask hp hI.cD hI.szD hr hjn h3)
          cases hd' : s.dst with
          | none => rfl
          | some d => simp only [Tm.put]; rw [if_neg (fun e => by subst e; exact hne hd')]
        rw [(looks_congr hput).1, if_pos hwp] at h2
        split at h2
        · rename_i v2 d e1 e2
          have h3 := same_eq h2
          have hje : effI l masks j = false := by
            cases h4 : effI l masks j with
            | false => rfl
            | true => exact absurd (hI.sync j hjn hj h4) hjD
          have hne := ((effI_spec hpj hje).2 d e2 k s hs).1 hkj
          have e3 : (T.put s.dst v) d = T d := by
            cases hd' : s.dst with
            | none => rfl
            | some d' => simp only [Tm.put]; rw [if_neg (fun e => by subst e; exact hne hd')]
          rw [e3, hd d e2] at h3
          rw [e1, h3]
        · simp at h2
      · simp at hst
    · simp at hst
  · rename_i hwt
    rw [if_neg hwt]
    simp only [Option.some.injEq, Prod.mk.injEq] at hst
    obtain ⟨rfl, rfl⟩ := hst
    rw [← c3]
    refine hK β w _ (hI.affected hp hr hrd hs hdlt (show relV P β w undefA undef from ⟨#[], rfl, trivial⟩) hI.rel (Stp.refl β h w hI.rel.dom) ?_)
    intro j p hj hjD hpj hl hwp v' hv' hd
    have hjn : j < ops.size := by rw [← hp.len]; exact (List.getElem?_eq_some_iff.1 hpj).1
    have hkj : k ≠ j := fun e => hkd (e ▸ hj)
    rw [pureA_congr (T := T)]
    · exact hv'
    · intro t ht
      have hne : s.dst ≠ some t := by
        intro hd'
        have ht' : t ∈ p.looks := by unfold AStep.looks; exact List.mem_append_left _ ht
        rcases hp.reads j p hpj k s t hs hkj hd' ht' with h3 | ⟨_, h3⟩
        · exact hkd (closed_mask hp hI.cd hI.szd _ j (Nat.lt_succ_self _) hj k hklt h3)
        · exact hjD (ready_mask hp hI.cD hI.szD hr hjn h3)
      cases hd' : s.dst with
      | none => rfl
      | some d => simp only [Tm.put]; rw [if_neg (fun e => by subst e; exact hne hd')]
end
end Go.Proofs.YtoeceafibmafpaaDoor.Am
/-! The abstract machine: a region whose order is drawn, whole. -/
namespace Go.Proofs.YtoeceafibmafpaaDoor.Am
open Go

section
variable {P : Program} {nt : Nat} {ops : Array Oper} {l : List AStep} {masks : Array Nat} {eff : List Bool}
variable {β0 : Inj} {h0 : H} {w0 : World} {D done : Array Bool} {ids : Nat → Nat} {T : Tm} {h : H} {β : Inj} {w : World} {a : Act} {call : Oracle}

theorem all_on (hp : Plan P nt ops l masks) (hsz : D.size = ops.size) (hr : Region.ready .any ops D = []) : ∀ n i, i < n → i < ops.size → on D i := by
  intro n
  induction n with
  | zero => intro i hi; omega
  | succ n ih =>
    intro i hi hin
    refine Classical.byContradiction fun hoff => ?_
    have : i ∈ Region.ready .any ops D := by
      refine ready_of hsz (Array.getElem?_eq_getElem hin) hoff fun e he hb => ?_
      have := hp.back i ops[i] (Array.getElem?_eq_getElem hin) e he hb
      exact ih e.on (by omega) (by omega)
    rw [hr] at this
    cases this

theorem ready_nil_of (hall : ∀ i, i < ops.size → on done i) : Region.ready .any ops done = [] := by
  refine List.eq_nil_iff_forall_not_mem.2 fun i hi => ?_
  exact ready_off hi (hall i (ready_lt hi))

def unl (D : Array Bool) : Nat := D.toList.count false

theorem unl_set {i : Nat} (hi : i < D.size) (hoff : ¬ on D i) : unl (D.setIfInBounds i true) + 1 = unl D := by
  have h1 : D[i] = false := by
    unfold on at hoff
    simpa [hi] using hoff
  unfold unl
  have h2 : (D.setIfInBounds i true).toList = D.toList.set i true := by simp
  rw [h2]
  have hi' : i < D.toList.length := by simpa using hi
  have h3 : D.toList[i] = false := by simpa using h1
  have e : D.toList = D.toList.take i ++ D.toList[i] :: D.toList.drop (i + 1) := by rw [← List.drop_eq_getElem_cons hi', List.take_append_drop]
  have e2 : D.toList.set i true = D.toList.take i ++ true :: D.toList.drop (i + 1) := List.set_eq_take_append_cons_drop .. |>.trans (by rw [if_pos hi'])
  rw [e2]
  conv => rhs; rw [e]
  rw [h3]
  simp [List.count_append]
  omega

theorem unl_zero (hz : unl D = 0) {i : Nat} (hi : i < D.size) : on D i := by
  unfold unl at hz
  rw [List.count_eq_zero] at hz
  unfold on
  cases h1 : D[i] with
  | true => simp [hi, h1]
  | false =>
    exfalso
    apply hz
    rw [← h1]
    simp

theorem advance (hp : Plan P nt ops l masks) (hag : ∀ (i : Nat) (s : AStep), l[i]? = some s → s.again = []) (heff : ∀ i, i < ops.size → eff.getD i true = effI l masks i) {Tf : Tm} {hf : H} : ∀ (fuel : Nat) (done : Array Bool) (rest : List AStep) (ids : Nat → Nat) (T : Tm) (h : H),
    Inv P nt ops l masks β0 h0 w0 D done ids T h β w a → planGo ops l masks eff fuel done = some rest → stepsA call rest T h = some (Tf, hf) →
    ∃ fuel' done' rest' ids' T' h', Inv P nt ops l masks β0 h0 w0 D done' ids' T' h' β w a ∧ planGo ops l masks eff fuel' done' = some rest' ∧ stepsA call rest' T' h' = some (Tf, hf) ∧ ∀ i ∈ Region.ready .any ops done', effI l masks i = true := by
  intro fuel
  induction fuel with
  | zero =>
    intro done rest ids T h hI hpl hst
    refine ⟨0, done, rest, ids, T, h, hI, hpl, hst, ?_⟩
    unfold planGo at hpl
    split at hpl
    · rename_i h1
      rw [h1]
      simp
    · simp at hpl
  | succ fuel ih =>
    intro done rest ids T h hI hpl hst
    have hpl0 := hpl
    unfold planGo at hpl
    split at hpl
    · rename_i i hfind
      split at hpl
      · rename_i s r hs hrest
        simp only [Option.some.injEq] at hpl
        subst hpl
        have hmem := List.mem_of_find?_eq_some hfind
        have he := List.find?_some hfind
        have hilt := ready_lt hmem
        rw [heff i hilt] at he
        unfold stepsA at hst
        split at hst
        · rename_i T1 h1 hstep
          obtain ⟨ids1, hI1⟩ := hI.go_ahead hp hmem (by simpa using he) hs (hag i s hs) hstep
          exact ih _ r ids1 T1 h1 hI1 hrest hst
        · simp at hst
      · simp at hpl
    · rename_i hfind
      refine ⟨fuel + 1, done, rest, ids, T, h, hI, hpl0, hst, ?_⟩
      intro i hi
      have := List.find?_eq_none.1 hfind i hi
      rw [heff i (ready_lt hi)] at this
      simpa using this

theorem Inv.finish (hI : Inv P nt ops l masks β0 h0 w0 D done ids T h β w a) (hall : ∀ i, i < ops.size → on D i) {fuel : Nat} {rest : List AStep} (hpl : planGo ops l masks eff fuel done = some rest) {Tf : Tm} {hf : H} (hst : stepsA call rest T h = some (Tf, hf)) :
    Rel P β hf w ∧ relA P β w Tf a ∧ Stp β0 h0 w0 β hf w := by
  have hdall : ∀ i, i < ops.size → on done i := fun i hi => hI.sub i (hall i hi)
  have hr := ready_nil_of hdall
  have hrest : rest = [] := by
    cases fuel with
    | zero =>
      unfold planGo at hpl
      rw [if_pos hr] at hpl
      simp at hpl
      first | exact hpl | exact hpl.symm
    | succ fuel =>
      unfold planGo at hpl
      rw [hr] at hpl
      simp at hpl
      first | exact hpl | exact hpl.symm
  subst hrest
  simp only [stepsA, Option.some.injEq, Prod.mk.injEq] at hst
  obtain ⟨rfl, rfl⟩ := hst
  refine ⟨hI.rel, ?_, hI.stp⟩
  obtain ⟨S, hS1, hS2⟩ := hI.shadow
  have : S = T := by
    funext t
    refine hS2 t fun i s hi hiD hs => ?_
    have hilt : i < ops.size := by
      rcases Nat.lt_or_ge i done.size with h' | h'
      · rw [← hI.szd]; exact h'
      · simp [on, Array.getElem?_eq_none h'] at hi
    exact absurd (hall i hilt) hiD
  rw [← this]
  exact hS1

theorem draw_main (hp : Plan P nt ops l masks) (hcall : Sound P call) (hag : ∀ (i : Nat) (s : AStep), l[i]? = some s → s.again = []) (heff : ∀ i, i < ops.size → eff.getD i true = effI l masks i) {Tf : Tm} {hf : H} {Q : Exit → Act → World → Prop}
    (hQ : ∀ β w a, Rel P β hf w → relA P β w Tf a → Stp β0 h0 w0 β hf w → nt ≤ a.tmps.size → a.defers = [] → Q .normal a w) :
    ∀ (fuel : Nat) (D done : Array Bool) (ids : Nat → Nat) (T : Tm) (h : H) (β : Inj) (w : World) (a : Act) (pf : Nat) (rest : List AStep),
    Inv P nt ops l masks β0 h0 w0 D done ids T h β w a → planGo ops l masks eff pf done = some rest → stepsA call rest T h = some (Tf, hf) → (∀ i ∈ Region.ready .any ops done, effI l masks i = true) → unl D ≤ fuel → wpAny P .any ops Q fuel D a w := by
  intro fuel
  induction fuel with
  | zero =>
    intro D done ids T h β w a pf rest hI hpl hst _ hu
    have hall : ∀ i, i < ops.size → on D i := fun i hi => unl_zero (by omega) (by rw [hI.szD]; exact hi)
    obtain ⟨h1, h2, h3⟩ := hI.finish hall hpl hst
    exact ⟨ready_nil_of hall, hQ _ _ _ h1 h2 h3 hI.size hI.defers⟩
  | succ fuel ih =>
    intro D done ids T h β w a pf rest hI hpl hst hset hu
    refine ⟨fun hr => ?_, fun i hr => ?_⟩
    · obtain ⟨h1, h2, h3⟩ := hI.finish (fun i hi => all_on hp hI.szD hr _ i (Nat.lt_succ_self _) hi) hpl hst
      exact hQ _ _ _ h1 h2 h3 hI.size hI.defers
    · have hilt := ready_lt hr
      have hu1 : unl (D.setIfInBounds i true) ≤ fuel := by
        have := unl_set (D := D) (by rw [hI.szD]; exact hilt) (ready_off hr)
        omega
      by_cases hdn : on done i
      · exact hI.catch_up hp hr hdn fun β1 w1 a1 hI1 => ih _ _ _ _ _ _ _ _ pf rest hI1 hpl hst hset hu1
      · have hrd : i ∈ Region.ready .any ops done := by
          obtain ⟨_, o, ho, hall⟩ := mem_ready.1 hr
          exact ready_of hI.szd ho hdn fun e he hb => hI.sub _ (hall e he hb)
        cases pf with
        | zero =>
          unfold planGo at hpl
          split at hpl
          · rename_i h1
            rw [h1] at hrd
            cases hrd
          · simp at hpl
        | succ pf =>
          have hnone : (Region.ready .any ops done).find? (fun i => !eff.getD i true) = none := by
            refine List.find?_eq_none.2 fun j hj => ?_
            rw [heff j (ready_lt hj), hset j hj]
            simp
          unfold planGo at hpl
          rw [hnone] at hpl
          simp only at hpl
          split at hpl
          · rename_i h1
            rw [h1] at hrd
            cases hrd
          · rename_i k h1
            have hk : i = k := by
              rw [h1] at hrd
              simpa using hrd
            subst hk
            split at hpl
            · rename_i s r hs hrest
              simp only [Option.some.injEq] at hpl
              subst hpl
              unfold stepsA at hst
              split at hst
              · rename_i T1 h1 hstep
                refine hI.effect hp hcall hr hrd hs hstep fun β1 w1 a1 hI1 => ?_
                obtain ⟨pf', done', rest', ids', T', h', g1, g2, g3, g4⟩ := advance hp hag heff pf _ r ids T1 h1 hI1 hrest hst
                exact ih _ _ _ _ _ _ _ _ pf' rest' g1 g2 g3 g4 hu1
              · simp at hst
            · simp at hpl
          · simp at hpl

theorem compSteps_again {ol : List Oper} : ∀ {l : List AStep}, compSteps P nt ops ol = some l → ∀ (i : Nat) (s : AStep), l[i]? = some s → s.again = [] := by
  induction ol with
  | nil =>
    intro l hl i s hs
    simp [compSteps] at hl
    subst hl
    simp at hs
  | cons o ol ih =>
    intro l hl i s hs
    unfold compSteps at hl
    split at hl
    · rename_i s0 l0 h1 h2
      simp at hl
      subst hl
      cases i with
      | zero =>
        simp at hs
        subst hs
        unfold compStep at h1
        split at h1
        · split at h1
          · simp at h1
            rw [← h1]
          · simp at h1
        · simp at h1
      | succ i => exact ih h2 i s (by simpa using hs)
    · simp at hl

theorem draw_region (hm : P.follows .mixedOrders = true) (hcall : Sound P call) {id : Nat} {l' : List AStep} {Tf : Tm} {hf : H} {Q : Exit → Act → World → Prop} (hl : compSteps P nt ops ops.toList = some l) (hpl : plan ops l = some l')
    (hst : stepsA call l' T h = some (Tf, hf)) (hR : Rel P β h w) (hA : relA P β w T a) (hn : nt ≤ a.tmps.size) (hd : a.defers = [])
    (hQ : ∀ β1 w1 a1, Rel P β1 hf w1 → relA P β1 w1 Tf a1 → Stp β h w β1 hf w1 → nt ≤ a1.tmps.size → a1.defers = [] → Q .normal a1 w1) : (Code.region id ops true).wp P Q a w := by
  refine wp_region_any hm ?_
  unfold plan at hpl
  split at hpl
  · rename_i hok
    have hp := plan_of hl hok
    have hoff : ∀ i, ¬ on (Array.replicate ops.size false) i := by
      intro i
      unfold on
      by_cases h1 : i < ops.size <;> simp [h1]
    have hI : Inv P nt ops l (Region.before ops) β h w (Array.replicate ops.size false) (Array.replicate ops.size false) (fun _ => 0) T h β { w with drawn := w.drawn + 1 } a := by
      refine ⟨by simp, by simp, fun j o _ h1 => absurd h1 (hoff j), fun j o _ h1 => absurd h1 (hoff j), fun j h1 => h1, fun j _ h1 => absurd h1 (hoff j), hR.drew, Stp.drew hR, ⟨T, hA.mono (Ext.refl β) (fun _ _ h => h), fun _ _ => rfl⟩, fun j s h1 => absurd h1 (hoff j), fun j _ _ _ h1 => absurd h1 (hoff j), hn, hd⟩
    have heff : ∀ i, i < ops.size → ((List.range l.length).map (effI l (Region.before ops))).getD i true = effI l (Region.before ops) i := by
      intro i hi
      rw [← hp.len] at hi
      simp [List.getD, hi]
    obtain ⟨pf', done', rest', ids', T', h', g1, g2, g3, g4⟩ := advance hp (compSteps_again hl) heff _ _ _ _ _ _ hI hpl hst
    refine draw_main hp hcall (compSteps_again hl) heff hQ _ _ _ _ _ _ _ _ _ _ _ g1 g2 g3 g4 ?_
    unfold unl
    simp
  · simp at hpl
end
end Go.Proofs.YtoeceafibmafpaaDoor.Am
/-! The abstract machine: code against the model's. -/
namespace Go.Proofs.YtoeceafibmafpaaDoor.Am
open Go

def Ex.out : Ex → Exit
  | .normal => .normal
  | .exit id => .exit id
  | .ret => .ret

open Classical in
/-- As many rounds as it takes. -/
noncomputable def loopA : Rounds := fun body T h => if hx : ∃ x, ∃ n0, ∀ n, n0 ≤ n → loopN body n T h = some x then some hx.choose else none

theorem loopA_iff {body : Tm → H → Option (Ex × Tm × H)} {T : Tm} {h : H} {x : Ex × Tm × H} : loopA body T h = some x ↔ ∃ n0, ∀ n, n0 ≤ n → loopN body n T h = some x := by
  unfold loopA
  constructor
  · intro hx
    split at hx
    · rename_i he
      simp only [Option.some.injEq] at hx
      rw [← hx]
      exact he.choose_spec
    · simp at hx
  · intro hx
    have he : ∃ x, ∃ n0, ∀ n, n0 ≤ n → loopN body n T h = some x := ⟨x, hx⟩
    rw [dif_pos he]
    obtain ⟨n0, h0⟩ := hx
    obtain ⟨n1, h1⟩ := he.choose_spec
    have e0 := h0 (max n0 n1) (Nat.le_max_left ..)
    have e1 := h1 (max n0 n1) (Nat.le_max_right ..)
    rw [e1] at e0
    exact e0

theorem loopA_eq (body : Tm → H → Option (Ex × Tm × H)) (T : Tm) (h : H) : loopA body T h = match body T h with
    | some (.normal, T', h') => loopA body T' h'
    | r => r := by
  refine Option.ext fun x => ?_
  rw [loopA_iff]
  constructor
  · rintro ⟨n0, h0⟩
    have h1 := h0 (n0 + 1) (Nat.le_succ _)
    unfold loopN at h1
    split at h1
    · rename_i T' h' hb
      rw [hb]
      show loopA body T' h' = some x
      rw [loopA_iff]
      refine ⟨n0, fun n hn => ?_⟩
      have h2 := h0 (n + 1) (by omega)
      unfold loopN at h2
      rw [hb] at h2
      exact h2
    · rename_i hne
      rw [h1]
      rw [h1] at hne
      obtain ⟨ex, T', h'⟩ := x
      cases ex with
      | normal => exact absurd rfl (hne T' h')
      | exit id => rfl
      | ret => rfl
  · intro hx
    split at hx
    · rename_i T' h' hb
      rw [loopA_iff] at hx
      obtain ⟨n0, h0⟩ := hx
      refine ⟨n0 + 1, fun n hn => ?_⟩
      cases n with
      | zero => omega
      | succ n =>
        unfold loopN
        rw [hb]
        exact h0 n (by omega)
    · rename_i hb
      refine ⟨1, fun n hn => ?_⟩
      cases n with
      | zero => omega
      | succ n =>
        unfold loopN
        split
        · rename_i T' h' hb'
          exact absurd hb' (by rw [hx]; intro e; exact hb T' h' (by rw [hx, e]))
        · exact hx

section
variable {P : Program} {call : Oracle} {nt : Nat}

theorem code_sound (hm : P.follows .mixedOrders = true) (hcall : Sound P call) : ∀ (c : Code) {ac : ACode} {T : Tm} {h : H} {ex : Ex} {T' : Tm} {h' : H}, compCode P nt c = some ac → codeA loopA call ac T h = some (ex, T', h') →
    ∀ {β : Inj} {w : World} {a : Act}, Ok P nt β h w T a → ∀ {Q : Exit → Act → World → Prop}, (∀ β' w' a', Ok P nt β' h' w' T' a' → Stp β h w β' h' w' → Q ex.out a' w') → c.wp P Q a w
  | .skip, ac, T, h, ex, T', h', hc, hr, β, w, a, hO, Q, hQ => by
    simp [compCode] at hc
    subst hc
    simp only [codeA, Option.some.injEq, Prod.mk.injEq] at hr
    obtain ⟨rfl, rfl, rfl⟩ := hr
    exact wp_skip (hQ β w a hO (Stp.refl β h w hO.rel.dom))
  | .exit id, ac, T, h, ex, T', h', hc, hr, β, w, a, hO, Q, hQ => by
    simp [compCode] at hc
    subst hc
    simp only [codeA, Option.some.injEq, Prod.mk.injEq] at hr
    obtain ⟨rfl, rfl, rfl⟩ := hr
    exact wp_exit (hQ β w a hO (Stp.refl β h w hO.rel.dom))
  | .ret, ac, T, h, ex, T', h', hc, hr, β, w, a, hO, Q, hQ => by
    simp [compCode] at hc
    subst hc
    simp only [codeA, Option.some.injEq, Prod.mk.injEq] at hr
    obtain ⟨rfl, rfl, rfl⟩ := hr
    exact wp_ret (hQ β w a hO (Stp.refl β h w hO.rel.dom))
  | .region id ops draw, ac, T, h, ex, T', h', hc, hr, β, w, a, hO, Q, hQ => by
    unfold compCode at hc
    split at hc
    · rename_i l hl
      cases draw with
      | true =>
        simp only [if_true] at hc
        cases hp : plan ops l with
        | none => rw [hp] at hc; simp at hc; subst hc; simp [badC, codeA, AX.ev] at hr
        | some l' =>
          rw [hp] at hc
          simp at hc
          subst hc
          simp only [codeA] at hr
          cases hst : stepsA call l' T h with
          | none => rw [hst] at hr; simp at hr
          | some r =>
            obtain ⟨T1, h1⟩ := r
            rw [hst] at hr
            simp only [Option.map_some, Option.some.injEq, Prod.mk.injEq] at hr
            obtain ⟨rfl, rfl, rfl⟩ := hr
            exact draw_region hm hcall hl hp hst hO.rel hO.act hO.size hO.defers fun β1 w1 a1 g1 g2 g3 g4 g5 => hQ β1 w1 a1 ⟨g1, g2, g4, g5⟩ g3
      | false =>
        simp only [Bool.false_eq_true, if_false, Option.some.injEq] at hc
        subst hc
        simp only [codeA] at hr
        cases hst : stepsA call l T h with
        | none => rw [hst] at hr; simp at hr
        | some r =>
          obtain ⟨T1, h1⟩ := r
          rw [hst] at hr
          simp only [Option.map_some, Option.some.injEq, Prod.mk.injEq] at hr
          obtain ⟨rfl, rfl, rfl⟩ := hr
          exact wp_region_list (steps_sound hcall hl hst hO hQ)
    · simp at hc; subst hc; simp [badC, codeA, AX.ev] at hr
  | .seq x y, ac, T, h, ex, T', h', hc, hr, β, w, a, hO, Q, hQ => by
    unfold compCode at hc
    split at hc
    · rename_i ax ay hx hy
      simp at hc
      subst hc
      simp only [codeA] at hr
      refine wp_seq ?_
      split at hr
      · rename_i T1 h1 he
        refine code_sound hm hcall x hx he hO fun β1 w1 a1 g1 g2 => ?_
        exact code_sound hm hcall y hy hr g1 fun β2 w2 a2 k1 k2 => hQ β2 w2 a2 k1 (g2.trans k2)
      · rename_i hne
        refine code_sound hm hcall x hx hr hO fun β1 w1 a1 g1 g2 => ?_
        cases ex with
        | normal => exact absurd hr (hne T' h')
        | exit id => exact hQ β1 w1 a1 g1 g2
        | ret => exact hQ β1 w1 a1 g1 g2
    · simp at hc
  | .cond c x y, ac, T, h, ex, T', h', hc, hr, β, w, a, hO, Q, hQ => by
    unfold compCode at hc
    split at hc
    · rename_i ca ax ay h1 hx hy
      simp at hc
      subst hc
      have hv := hO.act.opnd c ca h1
      simp only [codeA] at hr
      split at hr
      · rename_i he
        rw [he] at hv
        exact wp_cond_true hv (code_sound hm hcall x hx hr hO hQ)
      · rename_i he
        rw [he] at hv
        exact wp_cond_false hv (code_sound hm hcall y hy hr hO hQ)
      · simp at hr
    · simp at hc
  | .block id x, ac, T, h, ex, T', h', hc, hr, β, w, a, hO, Q, hQ => by
    unfold compCode at hc
    cases hx : compCode P nt x with
    | none => rw [hx] at hc; simp at hc
    | some ax =>
      rw [hx] at hc
      simp at hc
      subst hc
      simp only [codeA] at hr
      refine wp_block ?_
      split at hr
      · rename_i id' T1 h1 he
        refine code_sound hm hcall x hx he hO fun β1 w1 a1 g1 g2 => ?_
        show (if id' = id then Q .normal a1 w1 else Q (.exit id') a1 w1)
        split at hr
        · rename_i hid
          simp only [Option.some.injEq, Prod.mk.injEq] at hr
          obtain ⟨rfl, rfl, rfl⟩ := hr
          rw [if_pos hid]
          exact hQ β1 w1 a1 g1 g2
        · rename_i hid
          simp only [Option.some.injEq, Prod.mk.injEq] at hr
          obtain ⟨rfl, rfl, rfl⟩ := hr
          rw [if_neg hid]
          exact hQ β1 w1 a1 g1 g2
      · rename_i hne
        refine code_sound hm hcall x hx hr hO fun β1 w1 a1 g1 g2 => ?_
        cases ex with
        | normal => exact hQ β1 w1 a1 g1 g2
        | exit id' => exact absurd hr (hne id' T' h')
        | ret => exact hQ β1 w1 a1 g1 g2
  | .loop x, ac, T, h, ex, T', h', hc, hr, β, w, a, hO, Q, hQ => by
    unfold compCode at hc
    cases hx : compCode P nt x with
    | none => rw [hx] at hc; simp at hc
    | some ax =>
      rw [hx] at hc
      simp at hc
      subst hc
      simp only [codeA] at hr
      rw [loopA_iff] at hr
      obtain ⟨n0, hr⟩ := hr
      have hr := hr n0 (Nat.le_refl _)
      have key : ∀ (n : Nat) {T : Tm} {h : H} {β : Inj} {w : World} {a : Act}, loopN (codeA loopA call ax) n T h = some (ex, T', h') → Ok P nt β h w T a →
          (∀ β' w' a', Ok P nt β' h' w' T' a' → Stp β h w β' h' w' → Q ex.out a' w') → Code.rounds P x Q n a w := by
        intro n
        induction n with
        | zero => intro T h β w a hr; simp [loopN] at hr
        | succ n ih =>
          intro T h β w a hr hO hQ
          rw [rounds_succ]
          unfold loopN at hr
          split at hr
          · rename_i T1 h1 he
            refine code_sound hm hcall x hx he hO fun β1 w1 a1 g1 g2 => ?_
            exact ih hr g1 fun β2 w2 a2 k1 k2 => hQ β2 w2 a2 k1 (g2.trans k2)
          · rename_i hne
            refine code_sound hm hcall x hx hr hO fun β1 w1 a1 g1 g2 => ?_
            cases ex with
            | normal => exact absurd hr (hne T' h')
            | exit id => exact hQ β1 w1 a1 g1 g2
            | ret => exact hQ β1 w1 a1 g1 g2
      exact wp_loop_rounds n0 (key n0 hr hO hQ)
  | .rangeFunc .., ac, T, h, ex, T', h', hc, hr, β, w, a, hO, Q, hQ => by simp [compCode] at hc; subst hc; simp [badC, codeA, AX.ev] at hr
  | .scope _, ac, T, h, ex, T', h', hc, hr, β, w, a, hO, Q, hQ => by simp [compCode] at hc; subst hc; simp [badC, codeA, AX.ev] at hr
  | .label _, ac, T, h, ex, T', h', hc, hr, β, w, a, hO, Q, hQ => by simp [compCode] at hc; subst hc; simp [badC, codeA, AX.ev] at hr
  | .goto _, ac, T, h, ex, T', h', hc, hr, β, w, a, hO, Q, hQ => by simp [compCode] at hc; subst hc; simp [badC, codeA, AX.ev] at hr
  | .refuse _, ac, T, h, ex, T', h', hc, hr, β, w, a, hO, Q, hQ => by simp [compCode] at hc; subst hc; simp [badC, codeA, AX.ev] at hr
end
end Go.Proofs.YtoeceafibmafpaaDoor.Am
/-! The abstract machine: calls against the model's, and the machine without bounds. -/
namespace Go.Proofs.YtoeceafibmafpaaDoor.Am
open Go

section
variable {P : Program} {β : Inj} {h : H} {w : World} {T : Tm} {a : Act}

/-- One result of the model's. -/
def resM (tmps : Array Value) : ResultVar → Sem Value
  | .tmp t => pure (tmps.getD t undef)
  | .cell a t => do loadVar t (← asAddr (tmps.getD a undef))

theorem results_eq (fn : Func) (tmps : Array Value) : results fn tmps = (do
    let vs ← fn.results.toList.mapM (resM tmps)
    pure (if h : vs.length = 1 then vs[0] else .tuple vs.toArray)) := by
  unfold results
  rw [Array.mapM_eq_mapM_toList]
  simp only [map_eq_pure_bind, bind_assoc, pure_bind]
  congr 1

theorem resA_rel {r : ResultVar} {ar : ARes} {v : AV} (hR : Rel P β h w) (hA : relA P β w T a) (hc : compRes P [r] = some [ar]) (hv : resA T h ar = some v) : ∃ u, (resM a.tmps r).run P w = .ok u w ∧ relV P β w v u := by
  cases r with
  | tmp t =>
    simp [compRes] at hc
    subst hc
    simp [resA] at hv
    subst hv
    exact ⟨_, by simp [resM], hA t⟩
  | cell t ty =>
    simp only [compRes] at hc
    have key : ∀ k agg, isAggT P ty = some agg → (if agg then sizeT P ty = some k else k = 1) → pureA (.load k agg (.t t)) T h = some v → ∃ u, (resM a.tmps (.cell t ty)).run P w = .ok u w ∧ relV P β w v u := by
      intro k agg hg hk hv
      simp only [pureA, AX.ev] at hv
      have hr := hA t
      split at hv
      · rename_i ad he
        rw [he] at hr
        obtain ⟨m, h1, h2⟩ := hr
        split at hv
        · rename_i cs hl
          obtain ⟨u, h3, h4⟩ := run_loadVarA hR h2 hg hk hl
          refine ⟨u, by simp [resM, h1, asAddr, h3], ?_⟩
          cases agg with
          | true => simp at hv; subst hv; exact h4
          | false =>
            simp only [Bool.false_eq_true, if_false] at hv h4
            split at hv
            · simp at hv; subst hv; exact h4
            · simp at hv
        · simp at hv
      · simp at hv
    split at hc
    · rename_i k l h1 h2 h3
      simp at h3
      subst h3
      simp at hc
      subst hc
      exact key k true h1 (by simpa using h2) hv
    · rename_i k l h1 h2 h3
      simp at h3
      subst h3
      simp at hc
      subst hc
      exact key 1 false h1 (by simp) hv
    · simp at hc

theorem compRes_cons {r : ResultVar} {rs : List ResultVar} {l : List ARes} (hc : compRes P (r :: rs) = some l) : ∃ ar l', l = ar :: l' ∧ compRes P [r] = some [ar] ∧ compRes P rs = some l' := by
  cases r with
  | tmp t =>
    simp only [compRes, Option.map_eq_some_iff] at hc
    obtain ⟨l', h1, rfl⟩ := hc
    exact ⟨_, _, rfl, by simp [compRes], h1⟩
  | cell t ty =>
    simp only [compRes] at hc
    split at hc
    · rename_i k l' h1 h2 h3
      simp at hc
      exact ⟨_, _, hc.symm, by simp [compRes, h1, h2], h3⟩
    · rename_i k l' h1 h2 h3
      simp at hc
      exact ⟨_, _, hc.symm, by simp [compRes, h1, h2], h3⟩
    · simp at hc

theorem compRes_len {rs : List ResultVar} : ∀ {l : List ARes}, compRes P rs = some l → l.length = rs.length := by
  induction rs with
  | nil => intro l hc; simp [compRes] at hc; subst hc; rfl
  | cons r rs ih =>
    intro l hc
    obtain ⟨ar, l', rfl, _, h2⟩ := compRes_cons hc
    simp [ih h2]

theorem resAs_rel (hR : Rel P β h w) (hA : relA P β w T a) : ∀ {rs : List ResultVar} {l : List ARes} {vs : List AV}, compRes P rs = some l → resAs T h l = some vs →
    ∃ us, (rs.mapM (resM a.tmps)).run P w = .ok us w ∧ relT P β w vs us ∧ us.length = rs.length
  | [], l, vs, hc, hv => by
    simp [compRes] at hc
    subst hc
    simp [resAs] at hv
    subst hv
    exact ⟨[], by simp, trivial, rfl⟩
  | r :: rs, l, vs, hc, hv => by
    obtain ⟨ar, l', rfl, h1, h2⟩ := compRes_cons hc
    unfold resAs at hv
    split at hv
    · simp at hv
    · rename_i v vs' hnt hv1 hv2
      simp at hv
      subst hv
      obtain ⟨u, g1, g2⟩ := resA_rel hR hA h1 hv1
      obtain ⟨us, g3, g4, g5⟩ := resAs_rel hR hA h2 hv2
      refine ⟨u :: us, by simp [List.mapM_cons, g1, g3], ⟨?_, g4⟩, by simp [g5]⟩
      cases v with
      | one c => exact g2
      | agg cs => exact g2
      | tup q => exact absurd rfl (hnt q)
    · simp at hv

theorem results_rel {fn : Func} {l : List ARes} {v : AV} (hR : Rel P β h w) (hA : relA P β w T a) (hc : compRes P fn.results.toList = some l) (hv : resultsA T h l = some v) :
    ∃ u, (results fn a.tmps).run P w = .ok u w ∧ relV P β w v u := by
  rw [results_eq]
  have hlen := compRes_len hc
  unfold resultsA at hv
  split at hv
  · rename_i r
    match hrs : fn.results.toList, hlen with
    | [r'], _ =>
      rw [hrs] at hc
      obtain ⟨u, g1, g2⟩ := resA_rel hR hA hc hv
      exact ⟨u, by simp [g1], g2⟩
  · rename_i hne
    obtain ⟨vs, hvs, rfl⟩ := Option.map_eq_some_iff.1 hv
    obtain ⟨us, g1, g2, g3⟩ := resAs_rel hR hA hc hvs
    refine ⟨.tuple us.toArray, ?_, us.toArray, rfl, g2⟩
    have : ¬ us.length = 1 := by
      rw [g3, ← hlen]
      intro h1
      obtain ⟨r, rfl⟩ := List.length_eq_one_iff.1 h1
      exact hne r rfl
    simp [g1, this]

theorem relVs.getD : ∀ {l : List AV} {vs : List Value}, relVs P β w l vs → ∀ t, relV P β w (l.getD t undefA) (vs.getD t undef)
  | [], [], _, t => ⟨#[], by simp [undef], trivial⟩
  | _ :: _, _ :: _, ⟨h1, _⟩, 0 => h1
  | _ :: _, _ :: _, ⟨_, h2⟩, t + 1 => by simpa using h2.getD t
  | [], _ :: _, h, _ => h.elim
  | _ :: _, [], h, _ => h.elim
end

theorem body_sound {P : Program} (hm : P.follows .mixedOrders = true) {call : Oracle} (hcall : Sound P call) {f : Nat} {F : AFunc} (hF : compFunc P f = some F) {args : List AV} {h : H} {r : AV} {h' : H} (hb : bodyA loopA call F args h = some (r, h')) :
    (∃ fn, P.funcs[f]? = some fn ∧ (fn.name == "runtime.NumGoroutine") = false ∧ fn.body.isNone = false) ∧
    ∀ β w vs, Rel P β h w → relVs P β w args vs → Calls P f vs.toArray w fun e w' => ∃ u β', e = .returned u ∧ relV P β' w' r u ∧ Rel P β' h' w' ∧ Stp β h w β' h' w' := by
  unfold compFunc at hF
  split at hF
  · rename_i fn hfn
    split at hF
    · simp at hF
    · rename_i hname
      split at hF
      · simp at hF
      split at hF
      · rename_i c hc
        split at hF
        · rename_i b rs hb1 hrs
          simp at hF
          subst hF
          refine ⟨⟨fn, hfn, by simpa using hname, by rw [hc]; rfl⟩, ?_⟩
          intro β w vs hR hvs
          refine calls_of_wp hfn hc ?_
          unfold bodyA at hb
          have hO : Ok P fn.ntmps β h w (startT args) { tmps := vs.toArray ++ Array.replicate (fn.ntmps - vs.toArray.size) undef, defers := [] } := by
            refine ⟨hR, fun t => ?_, ?_, rfl⟩
            · have h1 := hvs.getD t
              have e : (vs.toArray ++ Array.replicate (fn.ntmps - vs.toArray.size) undef).getD t undef = vs.getD t undef := by
                simp only [Array.getD_eq_getD_getElem?, Array.getElem?_append, List.size_toArray, Array.getElem?_replicate, List.getD_eq_getElem?_getD]
                by_cases ht : t < vs.length
                · simp [ht]
                · simp only [if_neg ht, List.getElem?_eq_none (Nat.le_of_not_lt ht)]
                  split <;> rfl
              rw [e]
              exact h1
            · simp
              omega
          split at hb
          · simp at hb
          · rename_i ex T' h1 hne he
            obtain ⟨v, hv, hv2⟩ := Option.map_eq_some_iff.1 hb
            simp only [Prod.mk.injEq] at hv2
            obtain ⟨rfl, rfl⟩ := hv2
            refine code_sound hm hcall c hb1 he hO fun β1 w1 a1 g1 g2 => ?_
            obtain ⟨u, k1, k2⟩ := results_rel g1.rel g1.act hrs hv
            have : a1.defers = [] ∧ ∃ v', (results fn a1.tmps).run P w1 = .ok v' w1 ∧ ∃ u β', Ending.returned v' = .returned u ∧ relV P β' w1 v u ∧ Rel P β' h1 w1 ∧ Stp β h w β' h1 w1 :=
              ⟨g1.defers, u, k1, u, β1, rfl, k2, g1.rel, g2⟩
            cases ex with
            | normal => exact this
            | ret => exact this
            | exit id => exact absurd rfl (hne id)
          · simp at hb
        · simp at hF
      · simp at hF
  · simp at hF

theorem callA_sound {P : Program} (hm : P.follows .mixedOrders = true) (hx : Sound P (extO P)) : ∀ k, Sound P (callA loopA P k) := by
  intro k
  induction k with
  | zero => intro f args h r h' hc; simp [callA] at hc
  | succ k ih =>
    intro f args h r h' hc
    simp only [callA] at hc
    split at hc
    · rename_i F hF
      exact body_sound hm ih hF hc
    · exact hx f args h r h' hc

/-! ### without bounds -/
open Classical in
noncomputable def am (P : Program) : Oracle := fun f args h => if hx : ∃ x, ∃ k0, ∀ k, k0 ≤ k → callA loopA P k f args h = some x then some hx.choose else none

theorem am_iff {P : Program} {f : Nat} {args : List AV} {h : H} {x : AV × H} : am P f args h = some x ↔ ∃ k0, ∀ k, k0 ≤ k → callA loopA P k f args h = some x := by
  unfold am
  constructor
  · intro hx
    split at hx
    · rename_i he
      simp only [Option.some.injEq] at hx
      rw [← hx]
      exact he.choose_spec
    · simp at hx
  · intro hx
    have he : ∃ x, ∃ k0, ∀ k, k0 ≤ k → callA loopA P k f args h = some x := ⟨x, hx⟩
    rw [dif_pos he]
    obtain ⟨n0, h0⟩ := hx
    obtain ⟨n1, h1⟩ := he.choose_spec
    have e0 := h0 (max n0 n1) (Nat.le_max_left ..)
    have e1 := h1 (max n0 n1) (Nat.le_max_right ..)
    rw [e1] at e0
    exact e0

theorem am_sound {P : Program} (hm : P.follows .mixedOrders = true) (hx : Sound P (extO P)) : Sound P (am P) := by
  intro f args h r h' hc
  obtain ⟨k0, hk⟩ := am_iff.1 hc
  exact callA_sound hm hx k0 f args h r h' (hk k0 (Nat.le_refl _))

/-- From some k on. -/
def Soon (p : Nat → Prop) : Prop := ∃ k0, ∀ k, k0 ≤ k → p k
theorem Soon.and {p q r : Nat → Prop} (hp : Soon p) (hq : Soon q) (hr : ∀ k, p k → q k → r k) : Soon r := by
  obtain ⟨a, ha⟩ := hp
  obtain ⟨b, hb⟩ := hq
  exact ⟨max a b, fun k hk => hr k (ha k (by omega)) (hb k (by omega))⟩
theorem Soon.imp {p r : Nat → Prop} (hp : Soon p) (hr : ∀ k, p k → r k) : Soon r := by
  obtain ⟨a, ha⟩ := hp
  exact ⟨a, fun k hk => hr k (ha k hk)⟩
theorem Soon.of {p : Nat → Prop} (hp : ∀ k, p k) : Soon p := ⟨0, fun k _ => hp k⟩

section
variable {P : Program}
theorem am_soon {f : Nat} {args : List AV} {h : H} {x : AV × H} (hx : am P f args h = some x) : Soon fun k => callA loopA P k f args h = some x := am_iff.1 hx

theorem op_soon {o : AOp} {T : Tm} {h : H} {x : AV × H} (hx : opA (am P) o T h = some x) : Soon fun k => opA (callA loopA P k) o T h = some x := by
  cases o with
  | call f args => exact am_soon hx
  | callv y args =>
    simp only [opA] at hx ⊢
    split at hx
    · rename_i f caps he
      first | exact am_soon hx | (rw [he]; exact am_soon hx)
    · simp at hx
  | _ => exact Soon.of fun k => hx

theorem step_soon {s : AStep} {T : Tm} {h : H} {x : Tm × H} (hx : stepA (am P) s T h = some x) : Soon fun k => stepA (callA loopA P k) s T h = some x := by
  unfold stepA at hx ⊢
  split at hx
  · rename_i hw
    split at hx
    · rename_i v h' hop
      refine (op_soon hop).imp fun k hk => ?_
      rw [if_pos hw, hk]
      exact hx
    · simp at hx
  · rename_i hw
    exact Soon.of fun k => by rw [if_neg hw]; exact hx

theorem steps_soon : ∀ {l : List AStep} {T : Tm} {h : H} {x : Tm × H}, stepsA (am P) l T h = some x → Soon fun k => stepsA (callA loopA P k) l T h = some x
  | [], T, h, x, hx => Soon.of fun k => hx
  | s :: l, T, h, x, hx => by
    unfold stepsA at hx
    split at hx
    · rename_i T' h' hs
      refine (step_soon hs).and (steps_soon hx) fun k h1 h2 => ?_
      unfold stepsA
      rw [h1]
      exact h2
    · simp at hx

theorem code_soon : ∀ {c : ACode} {T : Tm} {h : H} {x : Ex × Tm × H}, codeA loopA (am P) c T h = some x → Soon fun k => codeA loopA (callA loopA P k) c T h = some x
  | .skip, T, h, x, hx => Soon.of fun k => hx
  | .exit id, T, h, x, hx => Soon.of fun k => hx
  | .ret, T, h, x, hx => Soon.of fun k => hx
  | .reg l, T, h, x, hx => by
    simp only [codeA, Option.map_eq_some_iff] at hx
    obtain ⟨r, h1, h2⟩ := hx
    exact (steps_soon h1).imp fun k hk => by simp only [codeA, hk]; exact congrArg some h2
  | .seq a b, T, h, x, hx => by
    simp only [codeA] at hx
    split at hx
    · rename_i T' h' ha
      refine (code_soon ha).and (code_soon hx) fun k h1 h2 => ?_
      simp only [codeA, h1]
      exact h2
    · rename_i hne
      refine (code_soon hx).imp fun k h1 => ?_
      simp only [codeA, h1]
      obtain ⟨ex, T', h'⟩ := x
      cases ex with
      | normal => exact absurd hx (hne T' h')
      | exit id => rfl
      | ret => rfl
  | .cond c a b, T, h, x, hx => by
    simp only [codeA] at hx
    split at hx
    · rename_i he
      exact (code_soon hx).imp fun k h1 => by simp only [codeA, he]; exact h1
    · rename_i he
      exact (code_soon hx).imp fun k h1 => by simp only [codeA, he]; exact h1
    · simp at hx
  | .block id a, T, h, x, hx => by
    simp only [codeA] at hx
    split at hx
    · rename_i id' T' h' ha
      refine (code_soon ha).imp fun k h1 => ?_
      simp only [codeA, h1]
      exact hx
    · rename_i hne
      refine (code_soon hx).imp fun k h1 => ?_
      simp only [codeA, h1]
      obtain ⟨ex, T', h'⟩ := x
      cases ex with
      | exit id => exact absurd hx (hne id T' h')
      | normal => rfl
      | ret => rfl
  | .loop a, T, h, x, hx => by
    simp only [codeA] at hx ⊢
    obtain ⟨n0, hx⟩ := loopA_iff.1 hx
    have hx := hx n0 (Nat.le_refl _)
    have key : ∀ (n : Nat) {T : Tm} {h : H}, loopN (codeA loopA (am P) a) n T h = some x → Soon fun k => loopA (codeA loopA (callA loopA P k) a) T h = some x := by
      intro n
      induction n with
      | zero => intro T h hx; simp [loopN] at hx
      | succ n ih =>
        intro T h hx
        unfold loopN at hx
        split at hx
        · rename_i T' h' ha
          refine (code_soon ha).and (ih hx) fun k h1 h2 => ?_
          rw [loopA_eq, h1]
          exact h2
        · rename_i hne
          refine (code_soon hx).imp fun k h1 => ?_
          rw [loopA_eq, h1]
          obtain ⟨ex, T', h'⟩ := x
          cases ex with
          | normal => exact absurd hx (hne T' h')
          | exit id => rfl
          | ret => rfl
    exact key n0 hx

theorem body_soon {F : AFunc} {args : List AV} {h : H} {x : AV × H} (hx : bodyA loopA (am P) F args h = some x) : Soon fun k => bodyA loopA (callA loopA P k) F args h = some x := by
  unfold bodyA at hx ⊢
  split at hx
  · simp at hx
  · rename_i ex T' h' hne he
    refine (code_soon he).imp fun k hk => ?_
    rw [hk]
    cases ex with
    | exit id => exact absurd rfl (hne id)
    | normal => exact hx
    | ret => exact hx
  · simp at hx

theorem am_ext {f : Nat} (hF : compFunc P f = none) {args : List AV} {h : H} {x : AV × H} (hx : extO P f args h = some x) : am P f args h = some x := by
  rw [am_iff]
  refine ⟨1, fun k hk1 => ?_⟩
  cases k with
  | zero => omega
  | succ k =>
    simp only [callA, hF]
    exact hx
theorem ext_none {f : Nat} {args : List AV} {h : H} {x : AV × H} (hx : extO P f args h = some x) : compFunc P f = none := by
  unfold extO at hx
  split at hx
  · rename_i fn hfn
    unfold compFunc
    simp only [hfn]
    have : isExt fn.name = true := by
      unfold isExt
      split at hx
      · rename_i e
        rw [e, Bool.true_or]
      · split at hx
        · rename_i e
          rw [e, Bool.or_true]
        · simp at hx
    simp [this]
  · simp at hx
/-- A call is what the body is. -/
theorem am_body {f : Nat} {F : AFunc} (hF : compFunc P f = some F) {args : List AV} {h : H} {x : AV × H} (hx : bodyA loopA (am P) F args h = some x) : am P f args h = some x := by
  rw [am_iff]
  obtain ⟨k0, hk⟩ := body_soon hx
  refine ⟨k0 + 1, fun k hk1 => ?_⟩
  cases k with
  | zero => omega
  | succ k =>
    simp only [callA, hF]
    exact hk k (by omega)
end
end Go.Proofs.YtoeceafibmafpaaDoor.Am
