/- The abstract machine: what came in: from the model's reading of the arguments to a heap of the machine that holds them, read alone. -/
import Derived.Test.YtnphlonhogcedaaAmCall
import Derived.Carry
import Derived.ProofKit
namespace Go.Proofs.Ytnphlonhogcedaa.Am
open Go

/-! ### what the machine knows of its arguments -/
def okFields (P : Program) (ok : TypeId → List CV → Prop) : List Field → List CV → Prop
  | [], cs => cs = []
  | f :: r, cs => P.cellsOf f.type ≤ cs.length ∧ ok f.type (cs.take (P.cellsOf f.type)) ∧ okFields P ok r (cs.drop (P.cellsOf f.type))

def okItems (ok : List CV → Prop) (k : Nat) : Nat → List CV → Prop
  | 0, cs => cs = []
  | n + 1, cs => k ≤ cs.length ∧ ok (cs.take k) ∧ okItems ok k n (cs.drop k)

/-- Cells of a type, as deep as m. -/
def okA (P : Program) (h : H) : Nat → TypeId → List CV → Prop
  | 0, _, _ => False
  | m + 1, t, cs => match P.underlying t with
    | some .bool => ∃ b, cs = [.bool b]
    | some (.int k) => ∃ n, cs = [.int k n] ∧ (Lit.int k n).wf = true
    | some .string => ∃ s, cs = [.str s] ∧ s.size ≤ maxLen
    | some (.slice e) => cs = [.sl none 0 (some 0)] ∨ ∃ a n all, cs = [.sl (some a) n none] ∧ n ≤ maxLen ∧ (a.1 < h.n ∧ (h.f a.1).ty = e) ∧ srcA h (P.cellsOf e) (.one (.sl (some a) n none)) = some all ∧ okItems (okA P h m e) (P.cellsOf e) n all
    | some (.struct fs) => okFields P (okA P h m) fs.toList cs
    | _ => False

def layF (P : Program) : Nat → List Field → Nat → Bool
  | k, [], n => k == n
  | k, f :: r, n => f.offset == k && layF P (k + P.cellsOf f.type) r n

/-- Types of bools, whole numbers, strings, slices and structs alone, as deep as m. -/
def plainT (P : Program) : Nat → TypeId → Bool
  | 0, _ => false
  | m + 1, t => match P.underlying t with
    | some .bool => P.cellsOf t == 1
    | some (.int _) => P.cellsOf t == 1
    | some .string => P.cellsOf t == 1
    | some (.slice e) => P.cellsOf t == 1 && decide (0 < P.cellsOf e) && plainT P m e
    | some (.struct fs) => layF P 0 fs.toList (P.cellsOf t) && fs.toList.all fun f => plainT P m f.type
    | _ => false

/-- Nothing that was there has turned. -/
structure Grow (h h' : H) : Prop where
  n : h.n ≤ h'.n
  f : ∀ i, i < h.n → h'.f i = h.f i
theorem Grow.refl (h : H) : Grow h h := ⟨Nat.le_refl _, fun _ _ => rfl⟩
theorem Grow.trans {a b c : H} (x : Grow a b) (y : Grow b c) : Grow a c := ⟨Nat.le_trans x.n y.n, fun i hi => (y.f i (by have := x.n; omega)).trans (x.f i hi)⟩
theorem Grow.alloc (h : H) (cs : List CV) (ty : Nat) : Grow h (h.alloc cs ty) := ⟨Nat.le_succ _, fun i hi => alloc_f_old (by omega)⟩

theorem H.load_grow {h h' : H} (g : Grow h h') {a : Nat × Nat} {k : Nat} {cs : List CV} (hl : h.load a k = some cs) : h'.load a k = some cs := by
  unfold H.load at hl ⊢
  split at hl
  · rename_i hc
    obtain ⟨⟨h1, h2⟩, h3⟩ := hc
    rw [g.f _ h1, if_pos ⟨⟨by have := g.n; omega, h2⟩, h3⟩]
    exact hl
  · simp at hl
theorem srcA_grow {h h' : H} (g : Grow h h') {k : Nat} {v : AV} {cs : List CV} (hs : srcA h k v = some cs) : srcA h' k v = some cs := by
  cases v with
  | one c =>
    cases c with
    | sl b n c =>
      cases n with
      | zero => simpa [srcA] using hs
      | succ n =>
        cases b with
        | none => simp [srcA] at hs
        | some a =>
          simp only [srcA] at hs ⊢
          exact H.load_grow g hs
    | _ => simp [srcA] at hs
  | _ => simp [srcA] at hs

theorem okFields_mono {P : Program} {ok ok' : TypeId → List CV → Prop} : ∀ {fs : List Field} {cs : List CV}, (∀ f ∈ fs, ∀ cs, ok f.type cs → ok' f.type cs) → okFields P ok fs cs → okFields P ok' fs cs
  | [], _, _, h => h
  | f :: _, _, hm, ⟨h0, h1, h2⟩ => ⟨h0, hm f (.head _) _ h1, okFields_mono (fun g hg => hm g (.tail _ hg)) h2⟩
theorem okItems_mono {ok ok' : List CV → Prop} {k : Nat} (hm : ∀ cs, ok cs → ok' cs) : ∀ {n : Nat} {cs : List CV}, okItems ok k n cs → okItems ok' k n cs
  | 0, _, h => h
  | _ + 1, _, ⟨h0, h1, h2⟩ => ⟨h0, hm _ h1, okItems_mono hm h2⟩
theorem okA_grow {P : Program} {h h' : H} (g : Grow h h') : ∀ {m : Nat} {t : TypeId} {cs : List CV}, okA P h m t cs → okA P h' m t cs
  | 0, _, _, h => h
  | m + 1, t, cs, hk => by
    unfold okA at hk ⊢
    split at hk <;> rename_i heq <;> (try simp only [heq]) <;> (try exact hk)
    · rcases hk with hk | ⟨a, n, all, h1, h2, h5, h3, h4⟩
      · exact .inl hk
      · exact .inr ⟨a, n, all, h1, h2, ⟨Nat.lt_of_lt_of_le h5.1 g.n, by rw [g.f _ h5.1]; exact h5.2⟩, srcA_grow g h3, okItems_mono (fun _ h => okA_grow g h) h4⟩
    · exact okFields_mono (fun _ _ _ h => okA_grow g h) hk

/-! ### a block of what came in -/
def H.lay (h : H) (cs : List CV) (ty : Nat) (st : St) : H := { n := h.n + 1, f := fun i => if i = h.n then ⟨cs, ty, st⟩ else h.f i }
theorem lay_old {h : H} {cs : List CV} {ty : Nat} {st : St} {i : Nat} (hi : i ≠ h.n) : (h.lay cs ty st).f i = h.f i := by simp [H.lay, hi]
theorem lay_new {h : H} {cs : List CV} {ty : Nat} {st : St} : (h.lay cs ty st).f h.n = ⟨cs, ty, st⟩ := by simp [H.lay]
theorem Grow.lay (h : H) (cs : List CV) (ty : Nat) (st : St) : Grow h (h.lay cs ty st) := ⟨Nat.le_succ _, fun i hi => lay_old (by omega)⟩

def NoRw (h : H) : Prop := ∀ i, (h.f i).st ≠ .rw

section
variable {P : Program} {β : Inj} {w : World} {h : H}

theorem Rel.laid (hR : Rel P β h w) (hno : NoRw h) {b off : Nat} {cs : List CV} {ty : Nat} {st : St} (hst : st ≠ .rw) (hex : exempt β b)
    (hl : st ≠ .dead → ∃ cells t fr, w.heap[b]? = some (.cells cells t fr) ∧ ∀ (o : Nat) (c : CV), cs[o]? = some c → ∃ v, cells[off + o]? = some v ∧ relC P β w c v) :
    Rel P (β.put h.n (b, off)) (h.lay cs ty st) w ∧ NoRw (h.lay cs ty st) := by
  have h0 := hR.dom h.n (Nat.le_refl _)
  have he := Inj.put_ext (p := (b, off)) h0
  have hb : ∀ j x d, j ≠ h.n → β.put h.n (b, off) j = some (x, d) → β j = some (x, d) := fun j x d hj hb => by simpa [Inj.put, hj] using hb
  have hself : ∀ x d, β.put h.n (b, off) h.n = some (x, d) → x = b ∧ d = off := fun x d hx => by simp [Inj.put] at hx; omega
  have hno' : NoRw (h.lay cs ty st) := by
    intro i
    by_cases hi : i = h.n
    · subst hi; rw [lay_new]; exact hst
    · rw [lay_old hi]; exact hno i
  refine ⟨⟨?_, ?_, fun i j x d d' _ hi => absurd hi (hno' i), ?_, fun i x d hi => absurd hi (hno' i), hR.top_put h0 (Nat.le_refl _)⟩, hno'⟩
  · intro j x d hj
    by_cases hjn : j = h.n
    · subst hjn
      obtain ⟨rfl, rfl⟩ := hself x d hj
      exact .inl (hex.ext he)
    · rw [lay_old hjn]
      exact (hR.ty j x d (hb j x d hjn hj)).imp (fun h => h.ext he) id
  · intro j x d hs hj
    by_cases hjn : j = h.n
    · subst hjn
      obtain ⟨rfl, rfl⟩ := hself x d hj
      rw [lay_new] at hs ⊢
      obtain ⟨cells, t, fr, h1, h2⟩ := hl hs
      refine ⟨cells, t, fr, h1, fun h => absurd h hst, ?_⟩
      intro o c hc
      obtain ⟨v, h3, h4⟩ := h2 o c hc
      exact ⟨v, h3, h4.mono he (Shapes.refl w)⟩
    · rw [lay_old hjn] at hs ⊢
      obtain ⟨cells, t, fr, h1, h2, h3⟩ := hR.live j x d hs (hb j x d hjn hj)
      refine ⟨cells, t, fr, h1, h2, ?_⟩
      intro o c hc
      obtain ⟨v, h4, h5⟩ := h3 o c hc
      exact ⟨v, h4, h5.mono he (Shapes.refl w)⟩
  · intro j hj
    have hj' : h.n + 1 ≤ j := hj
    have : j ≠ h.n := by omega
    simp [Inj.put, this, hR.dom j (by omega)]

theorem mapM_opt {α γ : Type} {f : α → Option γ} {x : α} {l : List α} {r : List γ} (h : (x :: l).mapM f = some r) : ∃ y ys, r = y :: ys ∧ f x = some y ∧ l.mapM f = some ys := by
  rw [List.mapM_cons] at h
  cases hx : f x with
  | none => rw [hx] at h; simp at h
  | some y =>
    rw [hx] at h
    cases hl : l.mapM f with
    | none => rw [hl] at h; simp at h
    | some ys =>
      rw [hl] at h
      simp at h
      exact ⟨y, ys, h.symm, rfl, rfl⟩
theorem mapM_at {α γ : Type} {f : α → Option γ} : ∀ {l : List α} {r : List γ}, l.mapM f = some r → r.length = l.length ∧ ∀ (i : Nat) (x : α), l[i]? = some x → ∃ y, r[i]? = some y ∧ f x = some y
  | [], r, h => by
    simp at h
    subst h
    simp
  | a :: l, r, h => by
    obtain ⟨y, ys, rfl, h1, h2⟩ := mapM_opt h
    obtain ⟨h3, h4⟩ := mapM_at h2
    refine ⟨by simp [h3], fun i x hx => ?_⟩
    cases i with
    | zero => simp at hx; subst hx; exact ⟨y, rfl, h1⟩
    | succ i => exact h4 i x (by simpa using hx)

theorem cells_at {w : World} {a : Addr} {n : Nat} {vs : List Value} (h : w.cells? 0 a n = some vs) : vs.length = n ∧ ∀ (i : Nat) (v : Value), vs[i]? = some v → w.cell? (a.add i) = some v := by
  unfold World.cells? at h
  rw [if_pos (Nat.zero_le _)] at h
  obtain ⟨h1, h2⟩ := mapM_at h
  refine ⟨by simpa using h1, fun i v hv => ?_⟩
  have hi := (List.getElem?_eq_some_iff.1 hv).1
  obtain ⟨y, h3, h4⟩ := h2 i i (by rw [List.getElem?_range]; simpa [h1] using hi)
  rw [hv] at h3
  cases h3
  exact h4
theorem add_add (a : Addr) (x y : Nat) : (a.add x).add y = a.add (x + y) := by
  unfold Addr.add
  by_cases hx : x = 0
  · subst hx; simp
  · by_cases hy : y = 0
    · subst hy; simp
    · simp [hx, hy, Nat.add_assoc]

/-- One value of a type is laid. -/
def Lays (P : Program) (w : World) (m : Nat) (t : TypeId) (vals : List Value) : Prop :=
  ∀ (β : Inj) (h : H), Rel P β h w → NoRw h → (∀ b, b < w.heap.size → exempt β b) →
    ∃ β' h' cs, Rel P β' h' w ∧ NoRw h' ∧ Ext β β' ∧ Grow h h' ∧ relL P β' w cs vals ∧ okA P h' m t cs

theorem lays_items {m k : Nat} {e : TypeId} {a : Addr} (hk : k = P.cellsOf e) : ∀ (n j : Nat), (∀ i, j ≤ i → i < j + n → ∃ vals, w.cells? 0 (a.add (i * k)) k = some vals ∧ Lays P w m e vals) →
    ∀ (β : Inj) (h : H), Rel P β h w → NoRw h → (∀ b, b < w.heap.size → exempt β b) →
    ∃ β' h' cs vals, Rel P β' h' w ∧ NoRw h' ∧ Ext β β' ∧ Grow h h' ∧ relL P β' w cs vals ∧ vals.length = n * k ∧ (∀ (o : Nat) (v : Value), vals[o]? = some v → w.cell? (a.add (j * k + o)) = some v) ∧ okItems (okA P h' m e) k n cs := by
  intro n
  induction n with
  | zero =>
    intro j _ β h hR hno hex
    exact ⟨β, h, [], [], hR, hno, Ext.refl β, Grow.refl h, trivial, by simp, by simp, rfl⟩
  | succ n ih =>
    intro j hi β h hR hno hex
    obtain ⟨vals, h1, h2⟩ := hi j (Nat.le_refl _) (by omega)
    obtain ⟨h3, h4⟩ := cells_at h1
    obtain ⟨β1, hh1, cs1, r1, r2, r3, r4, r5, r6⟩ := h2 β h hR hno hex
    obtain ⟨β2, hh2, cs2, vals2, s1, s2, s3, s4, s5, s6, s7, s8⟩ := ih (j + 1) (fun i h5 h6 => hi i (by omega) (by omega)) β1 hh1 r1 r2 (fun b hb => (hex b hb).ext r3)
    have hlen : cs1.length = k := by rw [r5.length, h3]
    refine ⟨β2, hh2, cs1 ++ cs2, vals ++ vals2, s1, s2, r3.trans s3, r4.trans s4, (r5.mono s3 (Shapes.refl w)).append s5, by simp [h3, s6, Nat.add_mul]; omega, ?_, ?_⟩
    · intro o v hv
      by_cases ho : o < vals.length
      · rw [List.getElem?_append_left ho] at hv
        have := h4 o v hv
        rw [add_add] at this
        exact this
      · rw [List.getElem?_append_right (by omega)] at hv
        have := s7 _ v hv
        rw [show (j + 1) * k + (o - vals.length) = j * k + o by rw [Nat.add_mul]; omega] at this
        exact this
    · refine ⟨by simp [hlen], ?_, ?_⟩
      · rw [List.take_append_of_le_length (by omega), List.take_of_length_le (by omega)]
        exact okA_grow s4 r6
      · rw [List.drop_append_of_le_length (by omega), List.drop_eq_nil_of_le (by omega)]
        exact s8

theorem lays_fields {m : Nat} : ∀ (fs : List Field) (k n : Nat) (vals : List Value), layF P k fs n = true → vals.length = n → (∀ f ∈ fs, Lays P w m f.type ((vals.drop f.offset).take (P.cellsOf f.type))) →
    (∀ f ∈ fs, f.offset + P.cellsOf f.type ≤ n) →
    ∀ (β : Inj) (h : H), Rel P β h w → NoRw h → (∀ b, b < w.heap.size → exempt β b) →
    ∃ β' h' cs, Rel P β' h' w ∧ NoRw h' ∧ Ext β β' ∧ Grow h h' ∧ relL P β' w cs (vals.drop k) ∧ okFields P (okA P h' m) fs cs := by
  intro fs
  induction fs with
  | nil =>
    intro k n vals hl hn _ _ β h hR hno hex
    simp [layF] at hl
    refine ⟨β, h, [], hR, hno, Ext.refl β, Grow.refl h, ?_, rfl⟩
    rw [List.drop_eq_nil_of_le (by omega)]
    trivial
  | cons f r ih =>
    intro k n vals hl hn hL hb β h hR hno hex
    simp only [layF, Bool.and_eq_true, beq_iff_eq] at hl
    obtain ⟨h1, h2⟩ := hl
    obtain ⟨β1, hh1, cs1, r1, r2, r3, r4, r5, r6⟩ := hL f (.head _) β h hR hno hex
    obtain ⟨β2, hh2, cs2, s1, s2, s3, s4, s5, s6⟩ := ih (k + P.cellsOf f.type) n vals h2 hn (fun g hg => hL g (.tail _ hg)) (fun g hg => hb g (.tail _ hg)) β1 hh1 r1 r2 (fun b hb => (hex b hb).ext r3)
    have hbf := hb f (.head _)
    have hlen : cs1.length = P.cellsOf f.type := by
      rw [r5.length]
      simp
      omega
    refine ⟨β2, hh2, cs1 ++ cs2, s1, s2, r3.trans s3, r4.trans s4, ?_, ?_⟩
    · have e : vals.drop k = (vals.drop f.offset).take (P.cellsOf f.type) ++ vals.drop (k + P.cellsOf f.type) := by
        rw [h1, ← List.drop_drop, List.take_append_drop]
      rw [e]
      exact (r5.mono s3 (Shapes.refl w)).append s5
    · refine ⟨by simp [hlen], ?_, ?_⟩
      · rw [List.take_append_of_le_length (by omega), List.take_of_length_le (by omega)]
        exact okA_grow s4 r6
      · rw [List.drop_append_of_le_length (by omega), List.drop_eq_nil_of_le (by omega)]
        exact s6

theorem layF_le : ∀ (fs : List Field) (k n : Nat), layF P k fs n = true → k ≤ n ∧ ∀ f ∈ fs, f.offset + P.cellsOf f.type ≤ n
  | [], k, n, h => by simp [layF] at h; exact ⟨by omega, by simp⟩
  | f :: r, k, n, h => by
    simp only [layF, Bool.and_eq_true, beq_iff_eq] at h
    obtain ⟨h1, h2⟩ := layF_le r _ n h.2
    refine ⟨by omega, fun g hg => ?_⟩
    cases hg with
    | head => omega
    | tail _ hg => exact h2 g hg

section
variable {D : Type} {enc : TypeId × Value → D} {fuel : Nat} {t : TypeId} {vals : List Value} {d : DataW D} {ps : List MemPlace}
theorem trod_bool (hu : P.underlying t = some .bool) (h : DataW.trod enc P w 0 (fun _ => true) true (fuel + 1) t vals = some (d, ps)) : ∃ b, vals = [.bool b] := by
  unfold DataW.trod at h
  rw [hu] at h
  split at h <;> simp only [Option.some.injEq, reduceCtorEq] at *
  exact ⟨_, rfl⟩
theorem trod_int {k : IntKind} (hu : P.underlying t = some (.int k)) (h : DataW.trod enc P w 0 (fun _ => true) true (fuel + 1) t vals = some (d, ps)) : ∃ n, vals = [.int k n] ∧ (Lit.int k n).wf = true := by
  unfold DataW.trod at h
  rw [hu] at h
  split at h <;> simp only [Option.some.injEq, reduceCtorEq, TypeDesc.int.injEq] at *
  rename_i k1 k2 n he
  subst he
  split at h
  · rename_i hc
    obtain ⟨rfl, hc⟩ := hc
    exact ⟨n, rfl, hc⟩
  · simp at h
theorem trod_string (hu : P.underlying t = some .string) (h : DataW.trod enc P w 0 (fun _ => true) true (fuel + 1) t vals = some (d, ps)) : ∃ s, vals = [.string s] ∧ s.size ≤ maxLen := by
  unfold DataW.trod at h
  rw [hu] at h
  split at h <;> simp only [Option.some.injEq, reduceCtorEq] at *
  rename_i s _
  split at h
  · rename_i hc
    exact ⟨s, rfl, hc⟩
  · simp at h
theorem trod_struct {fs : Array Field} (hu : P.underlying t = some (.struct fs)) (h : DataW.trod enc P w 0 (fun _ => true) true (fuel + 1) t vals = some (d, ps)) :
    vals.length = P.cellsOf t ∧ ∃ xs, (fs.toList.mapM fun f => DataW.trod enc P w 0 (fun _ => true) true fuel f.type ((vals.drop f.offset).take (P.cellsOf f.type))) = some xs := by
  unfold DataW.trod at h
  rw [hu] at h
  split at h <;> simp only [Option.some.injEq, reduceCtorEq, TypeDesc.struct.injEq] at *
  · rename_i fs' he
    subst he
    split at h
    · rename_i hc
      refine ⟨hc, ?_⟩
      obtain ⟨xs, h1, _⟩ := Option.map_eq_some_iff.1 h
      exact ⟨xs, h1⟩
    · simp at h
  · exact (‹∀ (fs_1 : Array Field), fs = fs_1 → False› fs rfl).elim
theorem trod_slice {e : TypeId} (hu : P.underlying t = some (.slice e)) (h : DataW.trod enc P w 0 (fun _ => true) true (fuel + 1) t vals = some (d, ps)) :
    vals = [.slice none 0 0] ∨ ∃ a len cap, vals = [.slice (some a) len cap] ∧ len ≤ cap ∧ cap ≤ maxLen ∧
      ∀ i, i < cap → ∃ cells x, w.cells? 0 (a.add (i * P.cellsOf e)) (P.cellsOf e) = some cells ∧ DataW.trod enc P w 0 (fun _ => true) true fuel e cells = some x := by
  unfold DataW.trod at h
  rw [hu] at h
  split at h <;> simp only [Option.some.injEq, reduceCtorEq, TypeDesc.slice.injEq] at *
  · exact .inl trivial
  · rename_i e' a len cap he
    subst he
    right
    split at h
    · rename_i hc
      refine ⟨a, len, cap, rfl, hc.2.1, hc.2.2, ?_⟩
      obtain ⟨elems, h1, h2⟩ := Option.bind_eq_some_iff.1 h
      obtain ⟨rest, h3, _⟩ := Option.map_eq_some_iff.1 h2
      simp only [if_true] at h3
      obtain ⟨_, h4⟩ := mapM_at h1
      obtain ⟨_, h5⟩ := mapM_at h3
      intro i hi
      have key : ∀ j y, (w.cells? 0 (a.add (j * P.cellsOf e)) (P.cellsOf e)).bind (DataW.trod enc P w 0 (fun _ => true) true fuel e) = some y → ∃ cells x, w.cells? 0 (a.add (j * P.cellsOf e)) (P.cellsOf e) = some cells ∧ DataW.trod enc P w 0 (fun _ => true) true fuel e cells = some x := by
        intro j y hy
        obtain ⟨cells, h6, h7⟩ := Option.bind_eq_some_iff.1 hy
        exact ⟨cells, y, h6, h7⟩
      by_cases hil : i < len
      · obtain ⟨y, _, hy⟩ := h4 i i (by rw [List.getElem?_range hil])
        exact key i y hy
      · obtain ⟨y, _, hy⟩ := h5 (i - len) (i - len) (by rw [List.getElem?_range (by omega)])
        rw [show len + (i - len) = i by omega] at hy
        exact key i y hy
    · simp at h
end

/-- What the model reads, the machine holds. -/
theorem lays {D : Type} {enc : TypeId × Value → D} : ∀ (m : Nat) (t : TypeId), plainT P m t = true → ∀ (fuel : Nat) (vals : List Value) (x : DataW D × List MemPlace),
    DataW.trod enc P w 0 (fun _ => true) true fuel t vals = some x → Lays P w m t vals := by
  intro m
  induction m with
  | zero => intro t ht; simp [plainT] at ht
  | succ m ih =>
    intro t ht fuel vals x htr β h hR hno hex
    obtain ⟨d, ps⟩ := x
    cases fuel with
    | zero => simp [DataW.trod] at htr
    | succ fuel =>
      unfold plainT at ht
      unfold okA
      split at ht
      · rename_i hu
        obtain ⟨b, rfl⟩ := trod_bool hu htr
        exact ⟨β, h, [.bool b], hR, hno, Ext.refl β, Grow.refl h, ⟨rfl, trivial⟩, b, rfl⟩
      · rename_i k hu
        obtain ⟨n, rfl, hn⟩ := trod_int hu htr
        exact ⟨β, h, [.int k n], hR, hno, Ext.refl β, Grow.refl h, ⟨rfl, trivial⟩, n, rfl, hn⟩
      · rename_i hu
        obtain ⟨s, rfl, hs⟩ := trod_string hu htr
        exact ⟨β, h, [.str s], hR, hno, Ext.refl β, Grow.refl h, ⟨rfl, trivial⟩, s, rfl, hs⟩
      · rename_i e hu
        simp only [Bool.and_eq_true, decide_eq_true_eq] at ht
        obtain ⟨⟨_, hk⟩, hp⟩ := ht
        rcases trod_slice hu htr with rfl | ⟨a, len, cap, rfl, h1, h2, h3⟩
        · exact ⟨β, h, [.sl none 0 (some 0)], hR, hno, Ext.refl β, Grow.refl h, ⟨⟨rfl, rfl, rfl⟩, trivial⟩, .inl rfl⟩
        · by_cases hc : cap = 0
          · subst hc
            obtain rfl : len = 0 := by omega
            obtain ⟨L, dL, t1, t2⟩ := hR.top
            obtain ⟨r1, r2⟩ := hR.laid hno (b := L) (off := 0) (cs := []) (ty := e) (st := .dead) (by simp) (hex L t2) (fun h => absurd rfl h)
            have h0 := hR.dom h.n (Nat.le_refl _)
            refine ⟨_, _, [.sl (some (h.n, 0)) 0 none], r1, r2, Inj.put_ext h0, Grow.lay h _ _ _, ⟨⟨a, 0, rfl, Nat.le_refl _, .inl rfl, .inl ⟨rfl, ⟨(L, 0), by simp [Inj.put]⟩⟩⟩, trivial⟩, ?_⟩
            exact .inr ⟨_, 0, [], rfl, Nat.zero_le _, ⟨Nat.lt_succ_self _, by simp only [lay_new]⟩, rfl, rfl⟩
          · obtain ⟨β1, h1', cs, vals, r1, r2, r3, r4, r5, r6, r7, r8⟩ := lays_items (w := w) (m := m) (e := e) (a := a) rfl len 0 (fun i _ hi => by
              obtain ⟨cells, x, h4, h5⟩ := h3 i (by omega)
              exact ⟨cells, h4, ih e hp fuel cells x h5⟩) β h hR hno hex
            obtain ⟨cells0, _, h4, _⟩ := h3 0 (by omega)
            obtain ⟨h5, h6⟩ := cells_at h4
            have h7 : cells0[0]? = some (cells0[0]'(by omega)) := List.getElem?_eq_getElem _
            have h8 := h6 0 _ h7
            simp only [Nat.zero_mul, add_add] at h8
            have hcell : ∃ cells ty fr, w.heap[a.block]? = some (.cells cells ty fr) ∧ a.spot = none := by
              unfold World.cell? at h8
              simp only [Addr.add, if_true] at h8
              split at h8
              · rename_i c ty fr hh
                split at h8
                · simp at h8
                · rename_i hs
                  exact ⟨c, ty, fr, hh, by simpa using hs⟩
              · simp at h8
            obtain ⟨cells, ty, fr, g1, g2⟩ := hcell
            have hblk : a.block < w.heap.size := by
              rcases Nat.lt_or_ge a.block w.heap.size with h' | h'
              · exact h'
              · simp [Array.getElem?_eq_none h'] at g1
            have ha : a = ⟨a.block, a.off, none⟩ := by rw [← g2]
            obtain ⟨q1, q2⟩ := r1.laid r2 (b := a.block) (off := a.off) (cs := cs) (ty := e) (st := .ro) (by simp) ((hex _ hblk).ext r3) (fun _ => ⟨cells, ty, fr, g1, fun o c hoc => by
              obtain ⟨v, g3, g4⟩ := r5.get hoc
              refine ⟨v, ?_, g4⟩
              have g5 := r7 o v g3
              rw [Nat.zero_mul, Nat.zero_add] at g5
              unfold World.cell? at g5
              have hb : (a.add o).block = a.block := by unfold Addr.add; split <;> rfl
              have hs : (a.add o).spot = none := by unfold Addr.add; split; exact g2; rfl
              have ho : (a.add o).off = a.off + o := by unfold Addr.add; split; (rename_i h0; rw [h0]; rfl); rfl
              rw [hb, g1] at g5
              simpa [hs, ho] using g5⟩)
            have h0 := r1.dom h1'.n (Nat.le_refl _)
            have hex' : exempt (β1.put h1'.n (a.block, a.off)) a.block := ((hex _ hblk).ext r3).ext (Inj.put_ext h0)
            refine ⟨_, _, [.sl (some (h1'.n, 0)) len none], q1, q2, r3.trans (Inj.put_ext h0), r4.trans (Grow.lay h1' _ _ _), ⟨⟨a, cap, rfl, h1, .inl rfl, .inr ⟨⟨a.block, a.off, by simp [Inj.put], ?_⟩, .inl hex'⟩⟩, trivial⟩, ?_⟩
            · simpa using ha
            · refine .inr ⟨_, len, cs, rfl, by omega, ⟨Nat.lt_succ_self _, by simp only [lay_new]⟩, ?_, okItems_mono (fun _ hh => okA_grow (Grow.lay h1' _ _ _) hh) r8⟩
              have hlen : cs.length = len * P.cellsOf e := by rw [r5.length, r6]
              cases len with
              | zero =>
                have : cs = [] := by simpa using hlen
                subst this
                rfl
              | succ n =>
                simp only [srcA, H.load, lay_new]
                rw [if_pos ⟨⟨Nat.lt_succ_self _, by simp⟩, by omega⟩]
                rw [List.drop_zero, List.take_of_length_le (by omega)]
      · rename_i fs hu
        simp only [Bool.and_eq_true, List.all_eq_true] at ht
        obtain ⟨hl, hp⟩ := ht
        obtain ⟨h1, xs, h2⟩ := trod_struct hu htr
        obtain ⟨_, h3⟩ := mapM_at h2
        obtain ⟨β', h', cs, r1, r2, r3, r4, r5, r6⟩ := lays_fields (w := w) (m := m) fs.toList 0 _ vals hl h1 (fun f hf => by
          obtain ⟨i, hi⟩ := List.mem_iff_getElem?.1 hf
          obtain ⟨y, _, hy⟩ := h3 i f hi
          exact ih f.type (hp f hf) fuel _ y hy) (layF_le _ _ _ hl).2 β h hR hno hex
        exact ⟨β', h', cs, r1, r2, r3, r4, by simpa using r5, r6⟩
      · simp at ht
end
end Go.Proofs.Ytnphlonhogcedaa.Am
