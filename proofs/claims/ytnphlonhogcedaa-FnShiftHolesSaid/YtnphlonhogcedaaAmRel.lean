/- The abstract machine: how its values and its heap stand for the model's (a partial injection of blocks), and what stays when the world moves on. -/
import Derived.Test.YtnphlonhogcedaaAmComp
import Derived.Laws.Cells
import Derived.Laws.CopyRow
import Derived.Laws.Append
namespace Go.Proofs.Ytnphlonhogcedaa.Am
open Go

/-- Which model block, from which cell on, a block of the machine is. -/
abbrev Inj := Nat → Option (Nat × Nat)

def addrR (β : Inj) (a : Nat × Nat) (m : Addr) : Prop := ∃ b d, β a.1 = some (b, d) ∧ m = ⟨b, d + a.2, none⟩

def capsR (β : Inj) : List (Nat × Nat) → List Value → Prop
  | [], [] => True
  | a :: r, v :: s => (∃ m, v = .pointer (some m) ∧ addrR β a m) ∧ capsR β r s
  | _, _ => False

/-- A block of the model's that was there at the start: its number is told by the machine's block 0. -/
def exempt (β : Inj) (b : Nat) : Prop := ∃ L d, β 0 = some (L, d) ∧ b ≤ L

/-- A slice's capacity ends within its block (asked of the blocks alone that have been laid since the start). -/
def roomR (P : Program) (β : Inj) (w : World) (m : Addr) (c : Nat) : Prop := exempt β m.block ∨ ∃ t s, w.shape? m.block = some (t, s) ∧ m.off + c * P.cellsOf t ≤ s

def relC (P : Program) (β : Inj) (w : World) : CV → Value → Prop
  | .bool b, v => v = .bool b
  | .int k n, v => v = .int k n
  | .str s, v => v = .string s
  | .sl none n c, v => n = 0 ∧ c = some 0 ∧ v = .slice none 0 0
  | .sl (some a) n c, v => ∃ m c', v = .slice (some m) n c' ∧ n ≤ c' ∧ (c = none ∨ c = some c') ∧ ((c' = 0 ∧ (∃ p, β a.1 = some p)) ∨ (addrR β a m ∧ roomR P β w m c'))
  | .ptr none, v => v = .pointer none
  | .ptr (some a), v => ∃ m, v = .pointer (some m) ∧ addrR β a m
  | .fn f caps, v => ∃ cv, v = .func (.func f) #[] cv ∧ capsR β caps cv.toList
  | .nilf, v => v = .nilFunc

def relL (P : Program) (β : Inj) (w : World) : List CV → List Value → Prop
  | [], [] => True
  | c :: r, v :: s => relC P β w c v ∧ relL P β w r s
  | _, _ => False

def relV0 (P : Program) (β : Inj) (w : World) : AV → Value → Prop
  | .one c, v => relC P β w c v
  | .agg cs, v => ∃ arr, v = .agg arr ∧ relL P β w cs arr.toList
  | .tup _, _ => False

def relT (P : Program) (β : Inj) (w : World) : List AV → List Value → Prop
  | [], [] => True
  | c :: r, v :: s => relV0 P β w c v ∧ relT P β w r s
  | _, _ => False

def relV (P : Program) (β : Inj) (w : World) : AV → Value → Prop
  | .one c, v => relC P β w c v
  | .agg cs, v => ∃ arr, v = .agg arr ∧ relL P β w cs arr.toList
  | .tup l, v => ∃ arr, v = .tuple arr ∧ relT P β w l arr.toList

structure Rel (P : Program) (β : Inj) (h : H) (w : World) : Prop where
  ty : ∀ i b d, β i = some (b, d) → exempt β b ∨ ∃ s, w.shape? b = some ((h.f i).ty, s)
  live : ∀ i b d, (h.f i).st ≠ .dead → β i = some (b, d) → ∃ cells t fr, w.heap[b]? = some (.cells cells t fr) ∧ ((h.f i).st = .rw → t = (h.f i).ty ∧ fr = (0, 0)) ∧
    ∀ o c, (h.f i).cs[o]? = some c → ∃ v, cells[d + o]? = some v ∧ relC P β w c v
  inj : ∀ i j b d d', i ≠ j → (h.f i).st = .rw → (h.f j).st ≠ .dead → β i = some (b, d) → β j = some (b, d') → False
  dom : ∀ i, h.n ≤ i → β i = none
  low : ∀ i b d, (h.f i).st = .rw → β i = some (b, d) → ¬ exempt β b
  top : ∃ L d, β 0 = some (L, d) ∧ L < w.heap.size

/-- What stays when the world moves on. -/
def Shapes (w w' : World) : Prop := ∀ b s, w.shape? b = some s → w'.shape? b = some s
def Ext (β β' : Inj) : Prop := ∀ i p, β i = some p → β' i = some p

theorem Shapes.refl (w : World) : Shapes w w := fun _ _ h => h
theorem Shapes.trans {a b c : World} (h : Shapes a b) (k : Shapes b c) : Shapes a c := fun x s e => k x s (h x s e)
theorem Ext.refl (β : Inj) : Ext β β := fun _ _ h => h
theorem Ext.trans {a b c : Inj} (h : Ext a b) (k : Ext b c) : Ext a c := fun i p e => k i p (h i p e)

theorem addrR.ext {β β' : Inj} {a : Nat × Nat} {m : Addr} (h : addrR β a m) (e : Ext β β') : addrR β' a m := by
  obtain ⟨b, d, h1, h2⟩ := h
  exact ⟨b, d, e _ _ h1, h2⟩
theorem capsR.ext {β β' : Inj} (e : Ext β β') : ∀ {l : List (Nat × Nat)} {s : List Value}, capsR β l s → capsR β' l s
  | [], [], _ => trivial
  | _ :: _, _ :: _, ⟨⟨m, h1, h2⟩, h3⟩ => ⟨⟨m, h1, h2.ext e⟩, capsR.ext e h3⟩
  | [], _ :: _, h => h.elim
  | _ :: _, [], h => h.elim
theorem exempt.ext {β β' : Inj} {b : Nat} (h : exempt β b) (e : Ext β β') : exempt β' b := by
  obtain ⟨L, d, h1, h2⟩ := h
  exact ⟨L, d, e _ _ h1, h2⟩
theorem roomR.mono {P : Program} {β β' : Inj} {w w' : World} {m : Addr} {c : Nat} (h : roomR P β w m c) (e : Ext β β') (s : Shapes w w') : roomR P β' w' m c := by
  rcases h with h | ⟨t, z, h1, h2⟩
  · exact .inl (h.ext e)
  · exact .inr ⟨t, z, s _ _ h1, h2⟩
theorem Rel.lt {P : Program} {β : Inj} {h : H} {w : World} (hR : Rel P β h w) {i b d : Nat} (hb : β i = some (b, d)) : b < w.heap.size := by
  rcases hR.ty i b d hb with h1 | ⟨s, h1⟩
  · obtain ⟨L, d, h2, h3⟩ := hR.top
    obtain ⟨L', d', h4, h5⟩ := h1
    rw [h2] at h4
    simp at h4
    omega
  · rcases Nat.lt_or_ge b w.heap.size with h' | h'
    · exact h'
    · simp [World.shape?, Array.getElem?_eq_none h'] at h1
section
variable {P : Program} {β β' : Inj} {w w' : World} (e : Ext β β') (s : Shapes w w')
include e s
theorem relC.mono {c : CV} {v : Value} (h : relC P β w c v) : relC P β' w' c v := by
  cases c with
  | sl a n k =>
    cases a with
    | none => exact h
    | some a =>
      obtain ⟨m, c', h1, h2, h3, h4⟩ := h
      exact ⟨m, c', h1, h2, h3, h4.imp (fun h => ⟨h.1, by obtain ⟨p, hp⟩ := h.2; exact ⟨p, e _ _ hp⟩⟩) (fun h => ⟨h.1.ext e, h.2.mono e s⟩)⟩
  | ptr a =>
    cases a with
    | none => exact h
    | some a =>
      obtain ⟨m, h1, h2⟩ := h
      exact ⟨m, h1, h2.ext e⟩
  | fn f caps =>
    obtain ⟨cv, h1, h2⟩ := h
    exact ⟨cv, h1, h2.ext e⟩
  | _ => exact h
theorem relL.mono : ∀ {l : List CV} {vs : List Value}, relL P β w l vs → relL P β' w' l vs
  | [], [], _ => trivial
  | _ :: _, _ :: _, ⟨h1, h2⟩ => ⟨relC.mono e s h1, relL.mono h2⟩
  | [], _ :: _, h => h.elim
  | _ :: _, [], h => h.elim
theorem relV0.mono {x : AV} {v : Value} (h : relV0 P β w x v) : relV0 P β' w' x v := by
  cases x with
  | one c => exact relC.mono e s h
  | agg cs => obtain ⟨arr, h1, h2⟩ := h; exact ⟨arr, h1, relL.mono e s h2⟩
  | tup l => exact h
theorem relT.mono : ∀ {l : List AV} {vs : List Value}, relT P β w l vs → relT P β' w' l vs
  | [], [], _ => trivial
  | _ :: _, _ :: _, ⟨h1, h2⟩ => ⟨relV0.mono e s h1, relT.mono h2⟩
  | [], _ :: _, h => h.elim
  | _ :: _, [], h => h.elim
theorem relV.mono {x : AV} {v : Value} (h : relV P β w x v) : relV P β' w' x v := by
  cases x with
  | one c => exact relC.mono e s h
  | agg cs => obtain ⟨arr, h1, h2⟩ := h; exact ⟨arr, h1, relL.mono e s h2⟩
  | tup l => obtain ⟨arr, h1, h2⟩ := h; exact ⟨arr, h1, relT.mono e s h2⟩
end
section
variable {P : Program} {β : Inj} {w : World}
theorem relL.length : ∀ {l : List CV} {vs : List Value}, relL P β w l vs → l.length = vs.length
  | [], [], _ => rfl
  | _ :: _, _ :: _, ⟨_, h2⟩ => by simp [relL.length h2]
  | [], _ :: _, h => h.elim
  | _ :: _, [], h => h.elim
theorem relL.get : ∀ {l : List CV} {vs : List Value}, relL P β w l vs → ∀ {i : Nat} {c : CV}, l[i]? = some c → ∃ v, vs[i]? = some v ∧ relC P β w c v
  | [], [], _, i, c, h => by simp at h
  | a :: r, v :: s, ⟨h1, h2⟩, 0, c, h => by
    simp at h
    subst h
    exact ⟨v, by simp, h1⟩
  | a :: r, v :: s, ⟨h1, h2⟩, i + 1, c, h => by
    simp at h
    obtain ⟨u, h3, h4⟩ := relL.get h2 h
    exact ⟨u, by simpa using h3, h4⟩
  | [], _ :: _, h, _, _, _ => h.elim
  | _ :: _, [], h, _, _, _ => h.elim
theorem relL.append : ∀ {l l' : List CV} {vs vs' : List Value}, relL P β w l vs → relL P β w l' vs' → relL P β w (l ++ l') (vs ++ vs')
  | [], _, [], _, _, h => by simpa using h
  | _ :: _, _, _ :: _, _, ⟨h1, h2⟩, h => ⟨h1, relL.append h2 h⟩
  | [], _, _ :: _, _, h, _ => h.elim
  | _ :: _, _, [], _, h, _ => h.elim
theorem relL.drop : ∀ {l : List CV} {vs : List Value}, relL P β w l vs → ∀ n, relL P β w (l.drop n) (vs.drop n)
  | _, _, h, 0 => by simpa using h
  | [], [], _, n + 1 => by simp [relL]
  | _ :: _, _ :: _, ⟨_, h2⟩, n + 1 => by simpa using relL.drop h2 n
  | [], _ :: _, h, _ => h.elim
  | _ :: _, [], h, _ => h.elim
theorem relL.take : ∀ {l : List CV} {vs : List Value}, relL P β w l vs → ∀ n, relL P β w (l.take n) (vs.take n)
  | _, _, h, 0 => by simp [relL]
  | [], [], _, n + 1 => by simp [relL]
  | _ :: _, _ :: _, ⟨h1, h2⟩, n + 1 => by simpa using ⟨h1, relL.take h2 n⟩
  | [], _ :: _, h, _ => h.elim
  | _ :: _, [], h, _ => h.elim
theorem relL.of_get : ∀ {l : List CV} {vs : List Value}, l.length = vs.length → (∀ (i : Nat) (c : CV) (v : Value), l[i]? = some c → vs[i]? = some v → relC P β w c v) → relL P β w l vs
  | [], [], _, _ => trivial
  | a :: r, v :: s, hl, h => ⟨h 0 a v (by simp) (by simp), relL.of_get (by simpa using hl) fun i c u hc hu => h (i + 1) c u (by simpa using hc) (by simpa using hu)⟩
  | [], _ :: _, hl, _ => by simp at hl
  | _ :: _, [], hl, _ => by simp at hl
theorem relT.get : ∀ {l : List AV} {vs : List Value}, relT P β w l vs → ∀ {i : Nat} {c : AV}, l[i]? = some c → ∃ v, vs[i]? = some v ∧ relV0 P β w c v
  | [], [], _, i, c, h => by simp at h
  | a :: r, v :: s, ⟨h1, h2⟩, 0, c, h => by
    simp at h
    subst h
    exact ⟨v, by simp, h1⟩
  | a :: r, v :: s, ⟨h1, h2⟩, i + 1, c, h => by
    simp at h
    obtain ⟨u, h3, h4⟩ := relT.get h2 h
    exact ⟨u, by simpa using h3, h4⟩
  | [], _ :: _, h, _, _, _ => h.elim
  | _ :: _, [], h, _, _, _ => h.elim
theorem relV0.relV {x : AV} {v : Value} (h : relV0 P β w x v) : relV P β w x v := by
  cases x with
  | one c => exact h
  | agg cs => exact h
  | tup l => exact h.elim

/-- A value of one cell. -/
theorem relC.oneCell {c : CV} {v : Value} (h : relC P β w c v) : v.oneCell' = true := by
  cases c with
  | sl a n k =>
    cases a with
    | none => rw [h.2.2]; rfl
    | some a => obtain ⟨m, c', h1, _⟩ := h; rw [h1]; rfl
  | ptr a =>
    cases a with
    | none => rw [show v = _ from h]; rfl
    | some a => obtain ⟨m, h1, _⟩ := h; rw [h1]; rfl
  | fn f caps => obtain ⟨cv, h1, _⟩ := h; rw [h1]; rfl
  | _ => rw [show v = _ from h]; rfl
theorem relC.cells {c : CV} {v : Value} (h : relC P β w c v) : v.cells = #[v] := by
  cases c with
  | sl a n k =>
    cases a with
    | none => rw [h.2.2]; rfl
    | some a => obtain ⟨m, c', h1, _⟩ := h; rw [h1]; rfl
  | ptr a =>
    cases a with
    | none => rw [show v = _ from h]; rfl
    | some a => obtain ⟨m, h1, _⟩ := h; rw [h1]; rfl
  | fn f caps => obtain ⟨cv, h1, _⟩ := h; rw [h1]; rfl
  | _ => rw [show v = _ from h]; rfl
theorem relL.oneCell : ∀ {l : List CV} {vs : List Value}, relL P β w l vs → ∀ v ∈ vs, v.oneCell' = true
  | [], [], _, _, h => by simp at h
  | _ :: _, _ :: _, ⟨h1, h2⟩, v, h => by
    rcases List.mem_cons.1 h with rfl | h
    · exact h1.oneCell
    · exact relL.oneCell h2 v h
  | [], _ :: _, h, _, _ => h.elim
  | _ :: _, [], h, _, _ => h.elim
theorem relV.cells {x : AV} {v : Value} {cs : List CV} (h : relV P β w x v) (hc : x.cells = some cs) : relL P β w cs v.cells.toList := by
  cases x with
  | one c =>
    simp only [AV.cells, Option.some.injEq] at hc
    subst hc
    rw [relC.cells h]
    exact ⟨h, trivial⟩
  | agg l =>
    simp only [AV.cells, Option.some.injEq] at hc
    subst hc
    obtain ⟨arr, h1, h2⟩ := h
    subst h1
    exact h2
  | tup l => simp [AV.cells] at hc
end

/-! ### constants -/
section
variable {P : Program} {β : Inj} {w : World}
theorem cvOf_rel {v : Value} {c : CV} (h : cvOf v = some c) : relC P β w c v := by
  unfold cvOf at h
  split at h <;> simp at h <;> subst h <;> simp [relC]
theorem cvsOf_rel : ∀ {vs : List Value} {l : List CV}, cvsOf vs = some l → relL P β w l vs
  | [], l, h => by simp [cvsOf] at h; subst h; trivial
  | v :: r, l, h => by
    unfold cvsOf at h
    split at h
    · rename_i c l' h1 h2
      simp at h
      subst h
      exact ⟨cvOf_rel h1, cvsOf_rel h2⟩
    · simp at h

/-- The slots of a run stand for the model's. -/
def relA (P : Program) (β : Inj) (w : World) (T : Tm) (a : Act) : Prop := ∀ t, relV P β w (T t) (a.tmps.getD t undef)
theorem relA.mono {β' : Inj} {w' : World} {T : Tm} {a : Act} (h : relA P β w T a) (e : Ext β β') (s : Shapes w w') : relA P β' w' T a := fun t => (h t).mono e s
/-- The same of the operands. -/
def relO (P : Program) (β : Inj) (w : World) (T : Tm) (ρ : Operand → Value) : Prop := ∀ x ax, opnd x = some ax → relV P β w (ax.ev T) (ρ x)
theorem relA.opnd {T : Tm} {a : Act} (h : relA P β w T a) : relO P β w T a.eval := by
  intro x ax hx
  cases x with
  | tmp t =>
    simp [Am.opnd] at hx
    subst hx
    exact h t
  | const v =>
    simp only [Am.opnd, Option.map_eq_some_iff] at hx
    obtain ⟨c, h1, rfl⟩ := hx
    exact cvOf_rel h1
  | func f =>
    simp [Am.opnd] at hx
    subst hx
    exact ⟨#[], rfl, trivial⟩
  | global g => simp [Am.opnd] at hx
end
end Go.Proofs.Ytnphlonhogcedaa.Am
