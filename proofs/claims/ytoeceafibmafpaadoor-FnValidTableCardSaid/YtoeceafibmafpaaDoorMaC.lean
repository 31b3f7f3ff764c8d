/- The abstract machine: what came in: from the model's reading of the arguments to a heap of the machine that holds them, read alone. -/
import Derived.Test.YtoeceafibmafpaaDoorMaB
import Derived.Carry
import Derived.ProofKit
import Derived.HandedShaped
import Derived.OpenShut
/-! The abstract machine: what came in: from the model's reading of the arguments to a heap of the machine that holds them, read alone. -/
namespace Go.Proofs.YtoeceafibmafpaaDoor.Am
open Go

/-! ### what the machine knows of its arguments -/
def okFields (P : Program) (ok : TypeId → List CV → Prop) : List Field → List CV → Prop
  | [], cs => cs = []
  | f :: r, cs => P.cellsOf f.type ≤ cs.length ∧ ok f.type (cs.take (P.cellsOf f.type)) ∧ okFields P ok r (cs.drop (P.cellsOf f.type))

def okItems (ok : List CV → Prop) (k : Nat) : Nat → List CV → Prop
  | 0, cs => cs = []
  | n + 1, cs => k ≤ cs.length ∧ ok (cs.take k) ∧ okItems ok k n (cs.drop k)

/-- Cells of a type, as deep as m. -/
def okA (P : Program) (h : H) : Nat → TypeId → List CV → Prop
  | 0, _, _ => False
  | m + 1, t, cs => match P.underlying t with
    | some .bool => ∃ b, cs = [.bool b]
    | some (.int k) => ∃ n, cs = [.int k n] ∧ (Lit.int k n).wf = true
    | some .string => ∃ s, cs = [.str s] ∧ s.size ≤ maxLen
    | some (.slice e) => cs = [.sl none 0 (some 0)] ∨ ∃ a n all, cs = [.sl (some a) n none] ∧ n ≤ maxLen ∧ (a.1 < h.n ∧ (h.f a.1).ty = e) ∧ srcA h (P.cellsOf e) (.one (.sl (some a) n none)) = some all ∧ okItems (okA P h m e) (P.cellsOf e) n all
    | some (.struct fs) => okFields P (okA P h m) fs.toList cs
    | _ => False

def layF (P : Program) : Nat → List Field → Nat → Bool
  | k, [], n => k == n
  | k, f :: r, n => f.offset == k && layF P (k + P.cellsOf f.type) r n

/-- Types of bools, whole numbers, strings, slices and structs alone, as deep as m. -/
def plainT (P : Program) : Nat → TypeId → Bool
  | 0, _ => false
  | m + 1, t => match P.underlying t with
    | some .bool => P.cellsOf t == 1
    | some (.int _) => P.cellsOf t == 1
    | some .string => P.cellsOf t == 1
    | some (.slice e) => P.cellsOf t == 1 && decide (0 < P.cellsOf e) && plainT P m e
    | some (.struct fs) => layF P 0 fs.toList (P.cellsOf t) && fs.toList.all fun f => plainT P m f.type
    | _ => false

/-- Nothing that was there has turned. -/
structure Grow (h h' : H) : Prop where
  n : h.n ≤ h'.n
  f : ∀ i, i < h.n → h'.f i = h.f i
theorem Grow.refl (h : H) : Grow h h := ⟨Nat.le_refl _, fun _ _ => rfl⟩
theorem Grow.trans {a b c : H} (x : Grow a b) (y : Grow b c) : Grow a c := ⟨Nat.le_trans x.n y.n, fun i hi => (y.f i (by have := x.n; omega)).trans (x.f i hi)⟩
theorem Grow.alloc (h : H) (cs : List CV) (ty : Nat) : Grow h (h.alloc cs ty) := ⟨Nat.le_succ _, fun i hi => alloc_f_old (by omega)⟩

theorem H.load_grow {h h' : H} (g : Grow h h') {a : Nat × Nat} {k : Nat} {cs : List CV} (hl : h.load a k = some cs) : h'.load a k = some cs := by
  unfold H.load at hl ⊢
  split at hl
  · rename_i hc
    obtain ⟨⟨h1, h2⟩, h3⟩ := hc
    rw [g.f _ h1, if_pos ⟨⟨by have := g.n; omega, h2⟩, h3⟩]
    exact hl
  · simp at hl
theorem srcA_grow {h h' : H} (g : Grow h h') {k : Nat} {v : AV} {cs : List CV} (hs : srcA h k v = some cs) : srcA h' k v = some cs := by
  cases v with
  | one c =>
    cases c with
    | sl b n c =>
      cases n with
      | zero => simpa [srcA] using hs
      | succ n =>
        cases b with
        | none => simp [srcA] at hs
        | some a =>
          simp only [srcA] at hs ⊢
          exact H.load_grow g hs
    | _ => simp [srcA] at hs
  | _ => simp [srcA] at hs

theorem okFields_mono {P : Program} {ok ok' : TypeId → List CV → Prop} : ∀ {fs : List Field} {cs : List CV}, (∀ f ∈ fs, ∀ cs, ok f.type cs → ok' f.type cs) → okFields P ok fs cs → okFields P ok' fs cs
  | [], _, _, h => h
  | f :: _, _, hm, ⟨h0, h1, h2⟩ => ⟨h0, hm f (.head _) _ h1, okFields_mono (fun g hg => hm g (.tail _ hg)) h2⟩
theorem okItems_mono {ok ok' : List CV → Prop} {k : Nat} (hm : ∀ cs, ok cs → ok' cs) : ∀ {n : Nat} {cs : List CV}, okItems ok k n cs → okItems ok' k n cs
  | 0, _, h => h
  | _ + 1, _, ⟨h0, h1, h2⟩ => ⟨h0, hm _ h1, okItems_mono hm h2⟩
theorem okA_grow {P : Program} {h h' : H} (g : Grow h h') : ∀ {m : Nat} {t : TypeId} {cs : List CV}, okA P h m t cs → okA P h' m t cs
  | 0, _, _, h => h
  | m + 1, t, cs, hk => by
    unfold okA at hk ⊢
    split at hk <;> rename_i heq <;> (try simp only [heq]) <;> (try exact hk)
    · rcases hk with hk | ⟨a, n, all, h1, h2, h5, h3, h4⟩
      · exact .inl hk
      · exact .inr ⟨a, n, all, h1, h2, ⟨Nat.lt_of_lt_of_le h5.1 g.n, by rw [g.f _ h5.1]; exact h5.2⟩, srcA_grow g h3, okItems_mono (fun _ h => okA_grow g h) h4⟩
    · exact okFields_mono (fun _ _ _ h => okA_grow g h) hk

/-! ### a block of what came in -/
def H.lay (h : H) (cs : List CV) (ty : Nat) (st : St) : H := { n := h.n + 1, f := fun i => if i = h.n then ⟨cs, ty, st⟩ else h.f i }
theorem lay_old {h : H} {cs : List CV} {ty : Nat} {st : St} {i : Nat} (hi : i ≠ h.n) : (h.lay cs ty st).f i = h.f i := by simp [H.lay, hi]
theorem lay_new {h : H} {cs : List CV} {ty : Nat} {st : St} : (h.lay cs ty st).f h.n = ⟨cs, ty, st⟩ := by simp [H.lay]
theorem Grow.lay (h : H) (cs : List CV) (ty : Nat) (st : St) : Grow h (h.lay cs ty st) := ⟨Nat.le_succ _, fun i hi => lay_old (by omega)⟩

def NoRw (h : H) : Prop := ∀ i, (h.f i).st ≠ .rw

section
variable {P : Program} {β : Inj} {w : World} {h : H}

theorem Rel.laid (hR : Rel P β h w) (hno : NoRw h) {b off : Nat} {cs : List CV} {ty : Nat} {st : St} (hst : st ≠ .rw) (hex : exempt β b)
    (hl : st ≠ .dead → ∃ cells t fr, w.heap[b]? = some (.cells cells t fr) ∧ ∀ (o : Nat) (c : CV), cs[o]? = some c → ∃ v, cells[off + o]? = some v ∧ relC P β w c v) :
    Rel P (β.put h.n (b, off)) (h.lay cs ty st) w ∧ NoRw (h.lay cs ty st) := by
  have h0 := hR.dom h.n (Nat.le_refl _)
  have he := Inj.put_ext (p := (b, off)) h0
  have hb : ∀ j x d, j ≠ h.n → β.put h.n (b, off) j = some (x, d) → β j = some (x, d) := fun j x d hj hb => by simpa [Inj.put, hj] using hb
  have hself : ∀ x d, β.put h.n (b, off) h.n = some (x, d) → x = b ∧ d = off := fun x d hx => by simp [Inj.put] at hx; omega
  have hno' : NoRw (h.lay cs ty st) := by
    intro i
    by_cases hi : i = h.n
    · subst hi; rw [lay_new]; exact hst
    · rw [lay_old hi]; exact hno i
  refine ⟨⟨?_, ?_, fun i j x d d' _ hi => absurd hi (hno' i), ?_, fun i x d hi => absurd hi (hno' i), hR.top_put h0 (Nat.le_refl _), hR.tab.mono (fun b hb => hb.ext he) fun _ _ => rfl⟩, hno'⟩
  · intro j x d hj
    by_cases hjn : j = h.n
    · subst hjn
      obtain ⟨rfl, rfl⟩ := hself x d hj
      exact .inl (hex.ext he)
    · rw [lay_old hjn]
      exact (hR.ty j x d (hb j x d hjn hj)).imp (fun h => h.ext he) id
  · intro j x d hs hj
    by_cases hjn : j = h.n
    · subst hjn
      obtain ⟨rfl, rfl⟩ := hself x d hj
      rw [lay_new] at hs ⊢
      obtain ⟨cells, t, fr, h1, h2⟩ := hl hs
      refine ⟨cells, t, fr, h1, fun h => absurd h hst, ?_⟩
      intro o c hc
      obtain ⟨v, h3, h4⟩ := h2 o c hc
      exact ⟨v, h3, h4.mono he (Shapes.refl w)⟩
    · rw [lay_old hjn] at hs ⊢
      obtain ⟨cells, t, fr, h1, h2, h3⟩ := hR.live j x d hs (hb j x d hjn hj)
      refine ⟨cells, t, fr, h1, h2, ?_⟩
      intro o c hc
      obtain ⟨v, h4, h5⟩ := h3 o c hc
      exact ⟨v, h4, h5.mono he (Shapes.refl w)⟩
  · intro j hj
    have hj' : h.n + 1 ≤ j := hj
    have : j ≠ h.n := by omega
    simp [Inj.put, this, hR.dom j (by omega)]

theorem mapM_opt {α γ : Type} {f : α → Option γ} {x : α} {l : List α} {r : List γ} (h : (x :: l).mapM f = some r) : ∃ y ys, r = y :: ys ∧ f x = some y ∧ l.mapM f = some ys := by
  rw [List.mapM_cons] at h
  cases hx : f x with
  | none => rw [hx] at h; simp at h
  | some y =>
    rw [hx] at h
    cases hl : l.mapM f with
    | none => rw [hl] at h; simp at h
    | some ys =>
      rw [hl] at h
      simp at h
      exact ⟨y, ys, h.symm, rfl, rfl⟩
theorem mapM_at {α γ : Type} {f : α → Option γ} : ∀ {l : List α} {r : List γ}, l.mapM f = some r → r.length = l.length ∧ ∀ (i : Nat) (x : α), l[i]? = some x → ∃ y, r[i]? = some y ∧ f x = some y
  | [], r, h => by
    simp at h
    subst h
    simp
  | a :: l, r, h => by
    obtain ⟨y, ys, rfl, h1, h2⟩ := mapM_opt h
    obtain ⟨h3, h4⟩ := mapM_at h2
    refine ⟨by simp [h3], fun i x hx => ?_⟩
    cases i with
    | zero => simp at hx; subst hx; exact ⟨y, rfl, h1⟩
    | succ i => exact h4 i x (by simpa using hx)

theorem cells_at {w : World} {a : Addr} {n : Nat} {vs : List Value} (h : w.cells? 0 a n = some vs) : vs.length = n ∧ ∀ (i : Nat) (v : Value), vs[i]? = some v → w.cell? (a.add i) = some v := by
  unfold World.cells? at h
  rw [if_pos (Nat.zero_le _)] at h
  obtain ⟨h1, h2⟩ := mapM_at h
  refine ⟨by simpa using h1, fun i v hv => ?_⟩
  have hi := (List.getElem?_eq_some_iff.1 hv).1
  obtain ⟨y, h3, h4⟩ := h2 i i (by rw [List.getElem?_range]; simpa [h1] using hi)
  rw [hv] at h3
  cases h3
  exact h4
theorem add_add (a : Addr) (x y : Nat) : (a.add x).add y = a.add (x + y) := by
  unfold Addr.add
  by_cases hx : x = 0
  · subst hx; simp
  · by_cases hy : y = 0
    · subst hy; simp
    · simp [hx, hy, Nat.add_assoc]

/-- One value of a type is laid. -/
def Lays (P : Program) (w : World) (m : Nat) (t : TypeId) (vals : List Value) : Prop :=
  ∀ (β : Inj) (h : H), Rel P β h w → NoRw h → (∀ b, b < w.heap.size → exempt β b) →
    ∃ β' h' cs, Rel P β' h' w ∧ NoRw h' ∧ Ext β β' ∧ Grow h h' ∧ relL P β' w cs vals ∧ okA P h' m t cs

theorem lays_items {m k : Nat} {e : TypeId} {a : Addr} (hk : k = P.cellsOf e) : ∀ (n j : Nat), (∀ i, j ≤ i → i < j + n → ∃ vals, w.cells? 0 (a.add (i * k)) k = some vals ∧ Lays P w m e vals) →
    ∀ (β : Inj) (h : H), Rel P β h w → NoRw h → (∀ b, b < w.heap.size → exempt β b) →
    ∃ β' h' cs vals, Rel P β' h' w ∧ NoRw h' ∧ Ext β β' ∧ Grow h h' ∧ relL P β' w cs vals ∧ vals.length = n * k ∧ (∀ (o : Nat) (v : Value), vals[o]? = some v → w.cell? (a.add (j * k + o)) = some v) ∧ okItems (okA P h' m e) k n cs := by
  intro n
  induction n with
  | zero =>
    intro j _ β h hR hno hex
    exact ⟨β, h, [], [], hR, hno, Ext.refl β, Grow.refl h, trivial, by simp, by simp, rfl⟩
  | succ n ih =>
    intro j hi β h hR hno hex
    obtain ⟨vals, h1, h2⟩ := hi j (Nat.le_refl _) (by omega)
    obtain ⟨h3, h4⟩ := cells_at h1
    obtain ⟨β1, hh1, cs1, r1, r2, r3, r4, r5, r6⟩ := h2 β h hR hno hex
    obtain ⟨β2, hh2, cs2, vals2, s1, s2, s3, s4, s5, s6, s7, s8⟩ := ih (j + 1) (fun i h5 h6 => hi i (by omega) (by omega)) β1 hh1 r1 r2 (fun b hb => (hex b hb).ext r3)
    have hlen : cs1.length = k := by rw [r5.length, h3]
    refine ⟨β2, hh2, cs1 ++ cs2, vals ++ vals2, s1, s2, r3.trans s3, r4.trans s4, (r5.mono s3 (Shapes.refl w)).append s5, by simp [h3, s6, Nat.add_mul]; omega, ?_, ?_⟩
    · intro o v hv
      by_cases ho : o < vals.length
      · rw [List.getElem?_append_left ho] at hv
        have := h4 o v hv
        rw [add_add] at this
        exact this
      · rw [List.getElem?_append_right (by omega)] at hv
        have := s7 _ v hv
        rw [show (j + 1) * k + (o - vals.length) = j * k + o by rw [Nat.add_mul]; omega] at this
        exact this
    · refine ⟨by simp [hlen], ?_, ?_⟩
      · rw [List.take_append_of_le_length (by omega), List.take_of_length_le (by omega)]
        exact okA_grow s4 r6
      · rw [List.drop_append_of_le_length (by omega), List.drop_eq_nil_of_le (by omega)]
        exact s8

theorem lays_fields {m : Nat} : ∀ (fs : List Field) (k n : Nat) (vals : List Value), layF P k fs n = true → vals.length = n → (∀ f ∈ fs, Lays P w m f.type ((vals.drop f.offset).take (P.cellsOf f.type))) →
    (∀ f ∈ fs, f.offset + P.cellsOf f.type ≤ n) →
    ∀ (β : Inj) (h : H), Rel P β h w → NoRw h → (∀ b, b < w.heap.size → exempt β b) →
    ∃ β' h' cs, Rel P β' h' w ∧ NoRw h' ∧ Ext β β' ∧ Grow h h' ∧ relL P β' w cs (vals.drop k) ∧ okFields P (okA P h' m) fs cs := by
  intro fs
  induction fs with
  | nil =>
    intro k n vals hl hn _ _ β h hR hno hex
    simp [layF] at hl
    refine ⟨β, h, [], hR, hno, Ext.refl β, Grow.refl h, ?_, rfl⟩
    rw [List.drop_eq_nil_of_le (by omega)]
    trivial
  | cons f r ih =>
    intro k n vals hl hn hL hb β h hR hno hex
    simp only [layF, Bool.and_eq_true, beq_iff_eq] at hl
    obtain ⟨h1, h2⟩ := hl
    obtain ⟨β1, hh1, cs1, r1, r2, r3, r4, r5, r6⟩ := hL f (.head _) β h hR hno hex
    obtain ⟨β2, hh2, cs2, s1, s2, s3, s4, s5, s6⟩ := ih (k + P.cellsOf f.type) n vals h2 hn (fun g hg => hL g (.tail _ hg)) (fun g hg => hb g (.tail _ hg)) β1 hh1 r1 r2 (fun b hb => (hex b hb).ext r3)
    have hbf := hb f (.head _)
    have hlen : cs1.length = P.cellsOf f.type := by
      rw [r5.length]
      simp
      omega
    refine ⟨β2, hh2, cs1 ++ cs2, s1, s2, r3.trans s3, r4.trans s4, ?_, ?_⟩
    · have e : vals.drop k = (vals.drop f.offset).take (P.cellsOf f.type) ++ vals.drop (k + P.cellsOf f.type) := by
        rw [h1, ← List.drop_drop, List.take_append_drop]
      rw [e]
      exact (r5.mono s3 (Shapes.refl w)).append s5
    · refine ⟨by simp [hlen], ?_, ?_⟩
      · rw [List.take_append_of_le_length (by omega), List.take_of_length_le (by omega)]
        exact okA_grow s4 r6
      · rw [List.drop_append_of_le_length (by omega), List.drop_eq_nil_of_le (by omega)]
        exact s6

theorem layF_le : ∀ (fs : List Field) (k n : Nat), layF P k fs n = true → k ≤ n ∧ ∀ f ∈ fs, f.offset + P.cellsOf f.type ≤ n
  | [], k, n, h => by simp [layF] at h; exact ⟨by omega, by simp⟩
  | f :: r, k, n, h => by
    simp only [layF, Bool.and_eq_true, beq_iff_eq] at h
    obtain ⟨h1, h2⟩ := layF_le r _ n h.2
    refine ⟨by omega, fun g hg => ?_⟩
    cases hg with
    | head => omega
    | tail _ hg => exact h2 g hg

section
variable {D : Type} {enc : TypeId × Value → D} {fuel : Nat} {t : TypeId} {vals : List Value} {d : DataW D} {ps : List MemPlace}
theorem trod_bool (hu : P.underlying t = some .bool) (h : DataW.trod enc P w 0 (fun _ => true) true (fuel + 1) t vals = some (d, ps)) : ∃ b, vals = [.bool b] := by
  unfold DataW.trod at h
  rw [hu] at h
  split at h <;> simp only [Option.some.injEq, reduceCtorEq] at *
  exact ⟨_, rfl⟩
theorem trod_int {k : IntKind} (hu : P.underlying t = some (.int k)) (h : DataW.trod enc P w 0 (fun _ => true) true (fuel + 1) t vals = some (d, ps)) : ∃ n, vals = [.int k n] ∧ (Lit.int k n).wf = true := by
  unfold DataW.trod at h
  rw [hu] at h
  split at h <;> simp only [Option.some.injEq, reduceCtorEq, TypeDesc.int.injEq] at *
  rename_i k1 k2 n he
  subst he
  split at h
  · rename_i hc
    obtain ⟨rfl, hc⟩ := hc
    exact ⟨n, rfl, hc⟩
  · simp at h
theorem trod_string (hu : P.underlying t = some .string) (h : DataW.trod enc P w 0 (fun _ => true) true (fuel + 1) t vals = some (d, ps)) : ∃ s, vals = [.string s] ∧ s.size ≤ maxLen := by
  unfold DataW.trod at h
  rw [hu] at h
  split at h <;> simp only [Option.some.injEq, reduceCtorEq] at *
  rename_i s _
  split at h
  · rename_i hc
    exact ⟨s, rfl, hc⟩
  · simp at h
theorem trod_struct {fs : Array Field} (hu : P.underlying t = some (.struct fs)) (h : DataW.trod enc P w 0 (fun _ => true) true (fuel + 1) t vals = some (d, ps)) :
    vals.length = P.cellsOf t ∧ ∃ xs, (fs.toList.mapM fun f => DataW.trod enc P w 0 (fun _ => true) true fuel f.type ((vals.drop f.offset).take (P.cellsOf f.type))) = some xs := by
  unfold DataW.trod at h
  rw [hu] at h
  split at h <;> simp only [Option.some.injEq, reduceCtorEq, TypeDesc.struct.injEq] at *
  · rename_i fs' he
    subst he
    split at h
    · rename_i hc
      refine ⟨hc, ?_⟩
      obtain ⟨xs, h1, _⟩ := Option.map_eq_some_iff.1 h
      exact ⟨xs, h1⟩
    · simp at h
  · exact (‹∀ (fs_1 : Array Field), fs = fs_1 → False› fs rfl).elim
theorem trod_slice {e : TypeId} (hu : P.underlying t = some (.slice e)) (h : DataW.trod enc P w 0 (fun _ => true) true (fuel + 1) t vals = some (d, ps)) :
    vals = [.slice none 0 0] ∨ ∃ a len cap, vals = [.slice (some a) len cap] ∧ len ≤ cap ∧ cap ≤ maxLen ∧
      ∀ i, i < cap → ∃ cells x, w.cells? 0 (a.add (i * P.cellsOf e)) (P.cellsOf e) = some cells ∧ DataW.trod enc P w 0 (fun _ => true) true fuel e cells = some x := by
  unfold DataW.trod at h
  rw [hu] at h
  split at h <;> simp only [Option.some.injEq, reduceCtorEq, TypeDesc.slice.injEq] at *
  · exact .inl trivial
  · rename_i e' a len cap he
    subst he
    right
    split at h
    · rename_i hc
      refine ⟨a, len, cap, rfl, hc.2.1, hc.2.2, ?_⟩
      obtain ⟨elems, h1, h2⟩ := Option.bind_eq_some_iff.1 h
      obtain ⟨rest, h3, _⟩ := Option.map_eq_some_iff.1 h2
      simp only [if_true] at h3
      obtain ⟨_, h4⟩ := mapM_at h1
      obtain ⟨_, h5⟩ := mapM_at h3
      intro i hi
      have key : ∀ j y, (w.cells? 0 (a.add (j * P.cellsOf e)) (P.cellsOf e)).bind (DataW.trod enc P w 0 (fun _ => true) true fuel e) = some y → ∃ cells x, w.cells? 0 (a.add (j * P.cellsOf e)) (P.cellsOf e) = some cells ∧ DataW.trod enc P w 0 (fun _ => true) true fuel e cells = some x := by
        intro j y hy
        obtain ⟨cells, h6, h7⟩ := Option.bind_eq_some_iff.1 hy
        exact ⟨cells, y, h6, h7⟩
      by_cases hil : i < len
      · obtain ⟨y, _, hy⟩ := h4 i i (by rw [List.getElem?_range hil])
        exact key i y hy
      · obtain ⟨y, _, hy⟩ := h5 (i - len) (i - len) (by rw [List.getElem?_range (by omega)])
        rw [show len + (i - len) = i by omega] at hy
        exact key i y hy
    · simp at h
end

/-- What the model reads, the machine holds. -/
theorem lays {D : Type} {enc : TypeId × Value → D} : ∀ (m : Nat) (t : TypeId), plainT P m t = true → ∀ (fuel : Nat) (vals : List Value) (x : DataW D × List MemPlace),
    DataW.trod enc P w 0 (fun _ => true) true fuel t vals = some x → Lays P w m t vals := by
  intro m
  induction m with
  | zero => intro t ht; simp [plainT] at ht
  | succ m ih =>
    intro t ht fuel vals x htr β h hR hno hex
    obtain ⟨d, ps⟩ := x
    cases fuel with
    | zero => simp [DataW.trod] at htr
    | succ fuel =>
      unfold plainT at ht
      unfold okA
      split at ht
      · rename_i hu
        obtain ⟨b, rfl⟩ := trod_bool hu htr
        exact ⟨β, h, [.bool b], hR, hno, Ext.refl β, Grow.refl h, ⟨rfl, trivial⟩, b, rfl⟩
      · rename_i k hu
        obtain ⟨n, rfl, hn⟩ := trod_int hu htr
        exact ⟨β, h, [.int k n], hR, hno, Ext.refl β, Grow.refl h, ⟨rfl, trivial⟩, n, rfl, hn⟩
      · rename_i hu
        obtain ⟨s, rfl, hs⟩ := trod_string hu htr
        exact ⟨β, h, [.str s], hR, hno, Ext.refl β, Grow.refl h, ⟨rfl, trivial⟩, s, rfl, hs⟩
      · rename_i e hu
        simp only [Bool.and_eq_true, decide_eq_true_eq] at ht
        obtain ⟨⟨_, hk⟩, hp⟩ := ht
        rcases trod_slice hu htr with rfl | ⟨a, len, cap, rfl, h1, h2, h3⟩
        · exact ⟨β, h, [.sl none 0 (some 0)], hR, hno, Ext.refl β, Grow.refl h, ⟨⟨rfl, rfl, rfl⟩, trivial⟩, .inl rfl⟩
        · by_cases hc : cap = 0
          · subst hc
            obtain rfl : len = 0 := by omega
            obtain ⟨L, dL, t1, t2⟩ := hR.top
            obtain ⟨r1, r2⟩ := hR.laid hno (b := L) (off := 0) (cs := []) (ty := e) (st := .dead) (by simp) (hex L t2) (fun h => absurd rfl h)
            have h0 := hR.dom h.n (Nat.le_refl _)
            refine ⟨_, _, [.sl (some (h.n, 0)) 0 none], r1, r2, Inj.put_ext h0, Grow.lay h _ _ _, ⟨⟨a, 0, rfl, Nat.le_refl _, .inl rfl, .inl ⟨rfl, ⟨(L, 0), by simp [Inj.put]⟩⟩⟩, trivial⟩, ?_⟩
            exact .inr ⟨_, 0, [], rfl, Nat.zero_le _, ⟨Nat.lt_succ_self _, by simp only [lay_new]⟩, rfl, rfl⟩
          · obtain ⟨β1, h1', cs, vals, r1, r2, r3, r4, r5, r6, r7, r8⟩ := lays_items (w := w) (m := m) (e := e) (a := a) rfl len 0 (fun i _ hi => by
              obtain ⟨cells, x, h4, h5⟩ := h3 i (by omega)
              exact ⟨cells, h4, ih e hp fuel cells x h5⟩) β h hR hno hex
            obtain ⟨cells0, _, h4, _⟩ := h3 0 (by omega)
            obtain ⟨h5, h6⟩ := cells_at h4
            have h7 : cells0[0]? = some (cells0[0]'(by omega)) := List.getElem?_eq_getElem _
            have h8 := h6 0 _ h7
            simp only [Nat.zero_mul, add_add] at h8
            have hcell : ∃ cells ty fr, w.heap[a.block]? = some (.cells cells ty fr) ∧ a.spot = none := by
              unfold World.cell? at h8
              simp only [Addr.add, if_true] at h8
              split at h8
              · rename_i c ty fr hh
                split at h8
                · simp at h8
                · rename_i hs
                  exact ⟨c, ty, fr, hh, by simpa using hs⟩
              · simp at h8
            obtain ⟨cells, ty, fr, g1, g2⟩ := hcell
            have hblk : a.block < w.heap.size := by
              rcases Nat.lt_or_ge a.block w.heap.size with h' | h'
              · exact h'
              · simp [Array.getElem?_eq_none h'] at g1
            have ha : a = ⟨a.block, a.off, none⟩ := by rw [← g2]
            obtain ⟨q1, q2⟩ := r1.laid r2 (b := a.block) (off := a.off) (cs := cs) (ty := e) (st := .ro) (by simp) ((hex _ hblk).ext r3) (fun _ => ⟨cells, ty, fr, g1, fun o c hoc => by
              obtain ⟨v, g3, g4⟩ := r5.get hoc
              refine ⟨v, ?_, g4⟩
              have g5 := r7 o v g3
              rw [Nat.zero_mul, Nat.zero_add] at g5
              unfold World.cell? at g5
              have hb : (a.add o).block = a.block := by unfold Addr.add; split <;> rfl
              have hs : (a.add o).spot = none := by unfold Addr.add; split; exact g2; rfl
              have ho : (a.add o).off = a.off + o := by unfold Addr.add; split; (rename_i h0; rw [h0]; rfl); rfl
              rw [hb, g1] at g5
              simpa [hs, ho] using g5⟩)
            have h0 := r1.dom h1'.n (Nat.le_refl _)
            have hex' : exempt (β1.put h1'.n (a.block, a.off)) a.block := ((hex _ hblk).ext r3).ext (Inj.put_ext h0)
            refine ⟨_, _, [.sl (some (h1'.n, 0)) len none], q1, q2, r3.trans (Inj.put_ext h0), r4.trans (Grow.lay h1' _ _ _), ⟨⟨a, cap, rfl, h1, .inl rfl, .inr ⟨⟨a.block, a.off, by simp [Inj.put], ?_⟩, .inl hex'⟩⟩, trivial⟩, ?_⟩
            · simpa using ha
            · refine .inr ⟨_, len, cs, rfl, by omega, ⟨Nat.lt_succ_self _, by simp only [lay_new]⟩, ?_, okItems_mono (fun _ hh => okA_grow (Grow.lay h1' _ _ _) hh) r8⟩
              have hlen : cs.length = len * P.cellsOf e := by rw [r5.length, r6]
              cases len with
              | zero =>
                have : cs = [] := by simpa using hlen
                subst this
                rfl
              | succ n =>
                simp only [srcA, H.load, lay_new]
                rw [if_pos ⟨⟨Nat.lt_succ_self _, by simp⟩, by omega⟩]
                rw [List.drop_zero, List.take_of_length_le (by omega)]
      · rename_i fs hu
        simp only [Bool.and_eq_true, List.all_eq_true] at ht
        obtain ⟨hl, hp⟩ := ht
        obtain ⟨h1, xs, h2⟩ := trod_struct hu htr
        obtain ⟨_, h3⟩ := mapM_at h2
        obtain ⟨β', h', cs, r1, r2, r3, r4, r5, r6⟩ := lays_fields (w := w) (m := m) fs.toList 0 _ vals hl h1 (fun f hf => by
          obtain ⟨i, hi⟩ := List.mem_iff_getElem?.1 hf
          obtain ⟨y, _, hy⟩ := h3 i f hi
          exact ih f.type (hp f hf) fuel _ y hy) (layF_le _ _ _ hl).2 β h hR hno hex
        exact ⟨β', h', cs, r1, r2, r3, r4, by simpa using r5, r6⟩
      · simp at ht
end
end Go.Proofs.YtoeceafibmafpaaDoor.Am
/-! The abstract machine: from a run of the machine that gives true to the row's statement. -/
namespace Go.Proofs.YtoeceafibmafpaaDoor.Am
open Go Go.RowKit Go.ChangeShapes Go.WideShapes Go.ChangeAt

def okV (P : Program) (h : H) (m : Nat) (t : TypeId) : AV → Prop
  | .one c => isAggT P t = some false ∧ okA P h m t [c]
  | .agg cs => isAggT P t = some true ∧ okA P h m t cs
  | .tup _ => False
def okVs (P : Program) (h : H) (m : Nat) : List TypeId → List AV → Prop
  | [], [] => True
  | t :: ts, v :: vs => okV P h m t v ∧ okVs P h m ts vs
  | _, _ => False
theorem okV_grow {P : Program} {h h' : H} (g : Grow h h') {m : Nat} {t : TypeId} {v : AV} (hv : okV P h m t v) : okV P h' m t v := by
  cases v with
  | one c => exact ⟨hv.1, okA_grow g hv.2⟩
  | agg cs => exact ⟨hv.1, okA_grow g hv.2⟩
  | tup l => exact hv
theorem okVs_grow {P : Program} {h h' : H} (g : Grow h h') {m : Nat} : ∀ {ts : List TypeId} {vs : List AV}, okVs P h m ts vs → okVs P h' m ts vs
  | [], [], _ => trivial
  | _ :: _, _ :: _, ⟨h1, h2⟩ => ⟨okV_grow g h1, okVs_grow g h2⟩
  | [], _ :: _, h => h.elim
  | _ :: _, [], h => h.elim

section
variable {D : Type} {enc : TypeId × Value → D} {P : Program} {w : World}

/-- Of a value, its form. -/
theorem value_form {m base : Nat} {t : TypeId} {v : Value} (hp : plainT P m t = true) (hv : Value.okWide P w .any base t v) :
    (isAggT P t = some true ∧ ∃ cs, v = .agg cs) ∨ (isAggT P t = some false ∧ v.cells = #[v]) := by
  cases m with
  | zero => simp [plainT] at hp
  | succ m =>
    unfold plainT at hp
    unfold Value.okWide at hv
    unfold isAggT
    split at hp
    · rename_i hu
      rw [hu] at hv ⊢
      right
      refine ⟨rfl, ?_⟩
      simp only [Cell.okWide, Cell.ok, hu] at hv
      cases v <;> first | rfl | exact hv.elim
    · rename_i k hu
      rw [hu] at hv ⊢
      right
      refine ⟨rfl, ?_⟩
      simp only [Cell.okWide, Cell.ok, hu] at hv
      cases v <;> first | rfl | exact hv.elim
    · rename_i hu
      rw [hu] at hv ⊢
      right
      refine ⟨rfl, ?_⟩
      simp only [Cell.okWide, Cell.ok, hu] at hv
      cases v <;> first | rfl | exact hv.elim
    · rename_i e hu
      rw [hu] at hv ⊢
      right
      refine ⟨rfl, ?_⟩
      simp only [Cell.okWide, Cell.ok, hu] at hv
      cases v <;> first | rfl | exact hv.elim
    · rename_i fs hu
      rw [hu] at hv ⊢
      left
      obtain ⟨cs, h1, _⟩ := hv
      exact ⟨rfl, cs, h1⟩
    · simp at hp

theorem lays_value {m base : Nat} {t : TypeId} {v : Value} {d : DataW D} {ps : List MemPlace} (hp : plainT P m t = true) (hv : Value.okWide P w .any base t v) (ht : DataW.Trod enc P w 0 (fun _ => true) true t v d ps)
    (β : Inj) (h : H) (hR : Rel P β h w) (hno : NoRw h) (hex : ∀ b, b < w.heap.size → exempt β b) :
    ∃ β' h' av, Rel P β' h' w ∧ NoRw h' ∧ Ext β β' ∧ Grow h h' ∧ relV P β' w av v ∧ okV P h' m t av := by
  obtain ⟨fuel, ht⟩ := ht
  obtain ⟨β', h', cs, r1, r2, r3, r4, r5, r6⟩ := lays m t hp fuel _ _ ht β h hR hno hex
  rcases value_form hp hv with ⟨h1, arr, rfl⟩ | ⟨h1, h2⟩
  · exact ⟨β', h', .agg cs, r1, r2, r3, r4, ⟨arr, rfl, r5⟩, h1, r6⟩
  · rw [h2] at r5
    match cs, r5 with
    | [c], r5 => exact ⟨β', h', .one c, r1, r2, r3, r4, r5.1, h1, r6⟩

theorem lays_values {m base : Nat} : ∀ {ts : List TypeId} {vs : List Value} {ds : List (DataW D)} {ps : List MemPlace}, (∀ t ∈ ts, plainT P m t = true) → (∀ (j : Nat) t v, ts[j]? = some t → vs[j]? = some v → Value.okWide P w .any base t v) →
    DataW.TrodAll enc P w 0 (fun _ => true) true ts vs ds ps → ∀ (β : Inj) (h : H), Rel P β h w → NoRw h → (∀ b, b < w.heap.size → exempt β b) →
    ∃ β' h' avs, Rel P β' h' w ∧ NoRw h' ∧ Ext β β' ∧ Grow h h' ∧ relVs P β' w avs vs ∧ okVs P h' m ts avs
  | [], [], [], _, _, _, _, β, h, hR, hno, _ => ⟨β, h, [], hR, hno, Ext.refl β, Grow.refl h, trivial, trivial⟩
  | t :: ts, v :: vs, d :: ds, ps, hp, hv, ht, β, h, hR, hno, hex => by
    obtain ⟨p, q, h1, h2, _⟩ := ht
    obtain ⟨β1, h1', av, r1, r2, r3, r4, r5, r6⟩ := lays_value (hp t (.head _)) (hv 0 t v rfl rfl) h1 β h hR hno hex
    obtain ⟨β2, h2', avs, s1, s2, s3, s4, s5, s6⟩ := lays_values (fun t ht => hp t (.tail _ ht)) (fun j t v h3 h4 => hv (j + 1) t v h3 h4) h2 β1 h1' r1 r2 (fun b hb => (hex b hb).ext r3)
    exact ⟨β2, h2', av :: avs, s1, s2, r3.trans s3, r4.trans s4, ⟨r5.mono s3 (Shapes.refl w), s5⟩, okV_grow s4 r6, s6⟩
  | [], _ :: _, _, _, _, _, h, _, _, _, _, _ => h.elim
  | _ :: _, [], _, _, _, _, h, _, _, _, _, _ => h.elim
  | [], [], _ :: _, _, _, _, h, _, _, _, _, _ => h.elim
  | _ :: _, _ :: _, [], _, _, _, h, _, _, _, _, _ => h.elim

/-- A call of the model's, from a run of the machine that gives true of whatever came in. -/
theorem law_calls (hm : P.follows .mixedOrders = true) (hx : Sound P (extO P)) {f : Nat} {m base : Nat} {ts : List TypeId} {vs : List Value} {ds : List (DataW D)} {ps : List MemPlace} (htab : ∀ g, P.globalNamed "internal/strconv.uint64pow10" = some g → Lib.TabIs P w "internal/strconv.uint64pow10" .u64 Lib.pow10Tab) (hw : 0 < w.heap.size) (hp : ∀ t ∈ ts, plainT P m t = true)
    (hv : ∀ (j : Nat) t v, ts[j]? = some t → vs[j]? = some v → Value.okWide P w .any base t v) (ht : DataW.TrodAll enc P w 0 (fun _ => true) true ts vs ds ps)
    (hlaw : ∀ h avs, okVs P h m ts avs → ∃ h', am P f avs h = some (.one (.bool true), h')) :
    Calls P f vs.toArray w fun e W' => e = .returned (.bool true) ∧ Below w.heap.size w W' ∧ ∀ a, a.block < w.heap.size → W'.frozen? a = w.frozen? a := by
  have hR0 : Rel P (fun i => if i = 0 then some (w.heap.size - 1, 0) else none) ⟨1, fun _ => ⟨[], 0, .dead⟩⟩ w := by
    refine ⟨?_, fun i b d h => absurd rfl h, fun i j b d d' _ h => by simp at h, ?_, fun i b d h => by simp at h, ⟨w.heap.size - 1, 0, rfl, by omega⟩, fun g hg => ⟨htab g hg, w.heap.size - 1, 0, rfl, ?_⟩⟩
    · intro i b d hi
      left
      split at hi
      · simp at hi
        exact ⟨w.heap.size - 1, 0, rfl, by omega⟩
      · simp at hi
    · intro i hi
      have : i ≠ 0 := fun e => by subst e; simp at hi
      simp [this]
    · have h1 := htab g hg
      unfold Lib.TabIs World.var? at h1
      rw [hg] at h1
      simp only [Option.bind_some] at h1
      rcases Nat.lt_or_ge g w.heap.size with h2 | h2
      · omega
      · rw [Array.getElem?_eq_none h2] at h1; cases h1
  obtain ⟨β, h, avs, r1, r2, _, _, r5, r6⟩ := lays_values hp hv ht _ _ hR0 (fun i => by simp) (fun b hb => ⟨w.heap.size - 1, 0, rfl, by omega⟩)
  obtain ⟨h', hl⟩ := hlaw h avs r6
  refine ((am_sound hm hx f avs h _ h' hl).2 β w vs r1 r5).mono ?_
  rintro e W' ⟨u, β', rfl, hu, _, hs⟩
  have : u = .bool true := hu
  subst this
  exact ⟨rfl, ⟨hs.os, hs.tape, hs.output, hs.size, fun k hk => hs.keep k hk fun i d _ h1 => absurd h1 (r2 i)⟩, hs.fro⟩

theorem trod_below (hl : laidOutB P = true) {W W' : World} (hb : Below W.heap.size W W') {sp : Nat → Bool} : ∀ {ts : List TypeId} {vs : List Value} {ds : List (DataW D)} {ps : List MemPlace}, (∀ t ∈ ts, P.readableRec t = true ∧ t < P.types.size) →
    DataW.TrodAll enc P W 0 (fun _ => true) true ts vs ds ps → (∀ x ∈ ps, x.block < W.heap.size) → (∀ x ∈ ps, sp x.block = true) → DataW.TrodAll enc P W' 0 sp true ts vs ds ps
  | [], [], [], _, _, h, _, _ => h
  | t :: ts, v :: vs, d :: ds, ps, hr, ⟨p, q, h1, h2, h3⟩, hlt, hsp => by
    subst h3
    obtain ⟨g1, g2⟩ := hr t (.head _)
    exact ⟨p, q, WideElems.Trod_stays hl g1 g2 h1 (fun x hx => hb.same (hlt x (List.mem_append_left _ hx))) (fun x hx => hsp x (List.mem_append_left _ hx)),
      trod_below hl hb (fun t ht => hr t (.tail _ ht)) h2 (fun x hx => hlt x (List.mem_append_right _ hx)) (fun x hx => hsp x (List.mem_append_right _ hx)), rfl⟩
  | [], _ :: _, _, _, _, h, _, _ => h.elim
  | _ :: _, [], _, _, _, h, _, _ => h.elim
  | [], [], _ :: _, _, _, h, _, _ => h.elim
  | _ :: _, _ :: _, [], _, _, h, _, _ => h.elim

theorem trodAll_length {base : Nat} {spare : Nat → Bool} {held : Bool} : ∀ {ts : List TypeId} {vs : List Value} {ds : List (DataW D)} {ps : List MemPlace}, DataW.TrodAll enc P w base spare held ts vs ds ps → ds.length = ts.length
  | [], [], [], _, _ => rfl
  | _ :: _, _ :: _, _ :: _, _, ⟨_, _, _, h2, _⟩ => by simp [trodAll_length h2]
  | [], _ :: _, _, _, h => h.elim
  | _ :: _, [], _, _, h => h.elim
  | [], [], _ :: _, _, h => h.elim
  | _ :: _, _ :: _, [], _, h => h.elim

/-- The row's end, where nothing that was there has turned: what lies in new blocks may be frozen. -/
theorem post_old {f : Func} {s : ChangeSpec} {apart fresh handsOn again : Bool} {W W' : World} {args : Array Value} {v : Value} {ds : List (DataW D)} {before : List MemPlace}
    (hW : DataW.Whole enc P f.params.toList s.vars apart W args.toList ds [] before)
    (h1 : ∀ (b : Nat) (sp : Nat → Bool) (hd : Bool), DataW.TrodAll enc P W' b sp hd f.resultTypes.toList (v.resultList f.resultTypes.size) (s.fn D (ds ++ [])).results [])
    (h2 : ∀ sp : Nat → Bool, (∀ p ∈ before, sp p.block = true) → DataW.TrodAll enc P W' 0 sp true f.params.toList args.toList (s.fn D (ds ++ [])).args before)
    (h3 : ∀ sp : Nat → Bool, (∀ p ∈ before, sp p.block = true) → DataW.TrodVars enc P W' sp s.vars (s.fn D (ds ++ [])).vars [])
    (h4 : W.keptBut W' (· ∈ before)) (h5 : ∀ a, a.block < W.heap.size → W'.frozen? a = W.frozen? a)
    (h6 : ∀ (j : Nat) (t : TypeId) (r : Value), f.resultTypes[j]? = some t → (v.resultList f.resultTypes.size)[j]? = some r → Value.okWide P W' .any 0 t r) :
    s.post enc P f apart fresh handsOn again W args v W' := by
  have lt : ∀ p ∈ before, decide (p.block < W.heap.size) = true := fun p hp => decide_eq_true (by simpa using hW.lt p hp)
  have all : ∀ p ∈ before, (fun _ : Nat => true) p.block = true := fun _ _ => rfl
  have e : before = before ++ [] := (List.append_nil _).symm
  refine ⟨ds, [], before, [], before, [], hW, h1 _ _ _, h2 (fun b => decide (b < W.heap.size)) lt, h3 (fun b => decide (b < W.heap.size)) lt, World.keptBut_mono (fun p hp => ⟨hp, .inr (by simpa using hp)⟩) h4, fun _ => ?_⟩
  obtain ⟨_, _, _, _, _, hz, hn⟩ := hW
  have e2 : ([] ++ before) ++ [] = before := by simp
  refine ⟨h6, _, _, ([] ++ before) ++ [], ⟨[] ++ before, [], trodAll_append (h2 _ all) (h1 _ _ _), h3 _ all, rfl, fun b off hp => ?_, fun ha => ?_⟩, fun p hp _ => ?_⟩
  · rw [e2] at hp
    have := lt _ hp
    simp only [decide_eq_true_iff] at this
    rw [h5 _ this]
    exact hz b off hp
  · rw [e2]
    exact hn ha
  · rwa [e2] at hp

/-- The row's contract. -/
theorem law_contract {s : ChangeSpec} {f : Nat} {fn : Func} {m : Nat} {tb : TypeId} (hm : P.follows .mixedOrders = true) (hx : Sound P (extO P)) (hlo : laidOutB P = true) (hvars : s.vars = []) (hres : fn.resultTypes = #[tb]) (htb : P.underlying tb = some .bool)
    (hsp : ∀ ds : List (DataW D), ds.length = fn.params.toList.length → s.fn D ds = { results := [.lit (.bool true)], args := ds })
    (hp : ∀ t ∈ fn.params.toList, plainT P m t = true) (hrd : ∀ t ∈ fn.params.toList, P.readableRec t = true ∧ t < P.types.size)
    (hlaw : ∀ h avs, okVs P h m fn.params.toList avs → ∃ h', am P f avs h = some (.one (.bool true), h'))
    {apart fresh handsOn again : Bool} {W : World} {base : Nat} {args : Array Value} {ds gs : List (DataW D)} {before : List MemPlace} (htab : ∀ g, P.globalNamed "internal/strconv.uint64pow10" = some g → Lib.TabIs P W "internal/strconv.uint64pow10" .u64 Lib.pow10Tab) (hw : 0 < W.heap.size)
    (hval : ∀ (j : Nat) t v, fn.params[j]? = some t → args[j]? = some v → Value.okWide P W .any base t v)
    (hW : DataW.Whole enc P fn.params.toList s.vars apart W args.toList ds gs before) :
    Calls P f args W fun e W' => ∃ v, e = .returned v ∧ s.post enc P fn apart fresh handsOn again W args v W' := by
  have hW' := hW
  obtain ⟨p, q, hA, hV, hb, hfz, hnd⟩ := hW
  rw [hvars] at hV
  have hgs : gs = [] ∧ q = [] := by
    cases gs with
    | nil => exact ⟨rfl, hV⟩
    | cons g gs => exact hV.elim
  obtain ⟨rfl, rfl⟩ := hgs
  rw [List.append_nil] at hb
  subst hb
  have hlt : ∀ x ∈ before, x.block < W.heap.size := fun x hx => by simpa using hW'.lt x hx
  have hlen := trodAll_length hA
  have hc := law_calls hm hx (f := f) htab hw hp (fun j t v h1 h2 => hval j t v (by simpa using h1) (by simpa using h2)) hA hlaw
  refine hc.mono ?_
  rintro e W' ⟨rfl, hbl, hfr⟩
  refine ⟨_, rfl, post_old hW' ?_ ?_ ?_ (hbl.frame _) hfr ?_⟩
  · intro b sp hd
    rw [List.append_nil, hsp ds hlen, hres]
    exact trodAll_cons_mk (shut_bool htb _) trodAll_mk0
  · intro sp hs
    rw [List.append_nil, hsp ds hlen]
    exact trod_below hlo hbl hrd hA hlt hs
  · intro sp _
    rw [List.append_nil, hsp ds hlen, hvars]
    rfl
  · exact ok_one hres rfl (okWide_bool_mk htb _)
end
/-- There is a block: one that stands behind the packages' variables. -/
theorem heap_pos {P : Program} {W : World} (h1 : P.globals.size < (begin P (fun _ _ => 0) default).world.heap.size) (hsh : W.ShapedOpen P) : 0 < W.heap.size := by
  obtain ⟨o, _, h4, _⟩ := hsh.2 P.globals.size (Nat.le_refl _) h1
  exact Nat.lt_of_le_of_lt (Nat.zero_le _) (Array.getElem?_eq_some_iff.1 h4).1
end Go.Proofs.YtoeceafibmafpaaDoor.Am
/-! The second machine: as the abstract one, but what a function lays for itself alone lies in a store of its own, and a call that gives back nothing that points leaves the heap as it was. Definitions. -/
namespace Go.Proofs.YtoeceafibmafpaaDoor.Am
open Go

/-- What a slot of the second machine holds: a value, or the place of something of the function's own. -/
inductive BV where
  | v (a : AV)
  | lp (t off : Nat)

def BV.av : BV → AV
  | .v a => a
  | .lp _ _ => undefA
abbrev Tb := Nat → BV
abbrev Lb := Nat → Nat × List CV
def Tb.av (T : Tb) : Tm := fun t => (T t).av
def BV.kill (d : Nat) : BV → BV
  | .lp t o => if t = d then .v undefA else .lp t o
  | .v a => .v a
def Tb.kill (T : Tb) (d : Nat) : Tb := fun t => (T t).kill d
def BV.pro (d b : Nat) : BV → BV
  | .lp t o => if t = d then .v (.one (.ptr (some (b, o)))) else .lp t o
  | .v a => .v a
def Tb.pro (T : Tb) (d b : Nat) : Tb := fun t => (T t).pro d b
def Tb.put (T : Tb) (d : Option Nat) (x : BV) : Tb :=
  match d with
  | some d => fun t => if t = d then x else T t
  | none => T
def Lb.put (L : Lb) (d : Nat) (c : Nat × List CV) : Lb := fun t => if t = d then c else L t
def AX.bv (T : Tb) : AX → BV
  | .t n => T n
  | .c u => .v (.one u)

/-- What points outside of the function's own comes to lie on the heap. -/
def proA : List AX → Tb → Lb → H → Tb × H
  | [], T, _, h => (T, h)
  | x :: r, T, L, h =>
    match x.bv T with
    | .lp t _ => proA r (T.pro t h.n) L (h.alloc (L t).2 (L t).1)
    | .v _ => proA r T L h

def loadL (cs : List CV) (off k : Nat) (g : Bool) : Option AV :=
  if off + k ≤ cs.length then
    if g then some (.agg ((cs.drop off).take k)) else match (cs.drop off).take k with | [c] => some (.one c) | _ => none
  else none
def storeL (cs : List CV) (off k : Nat) (vs : List CV) : Option (List CV) :=
  if vs.length = k ∧ off + k ≤ cs.length then some (cs.take off ++ (vs ++ cs.drop (off + k))) else none

def pureB (o : AOp) (T : Tb) (L : Lb) (h : H) : Option BV :=
  match o with
  | .mov x => some (x.bv T)
  | .load k g x => match x.bv T with
    | .lp t off => (loadL (L t).2 off k g).map .v
    | .v _ => (pureA (.load k g x) T.av h).map .v
  | .nilCheck x => match x.bv T with
    | .lp t off => some (.lp t off)
    | .v _ => (pureA (.nilCheck x) T.av h).map .v
  | .faddr off x => match x.bv T with
    | .lp t o => some (.lp t (o + off))
    | .v _ => (pureA (.faddr off x) T.av h).map .v
  | o => (pureA o T.av h).map .v

def genB (call : Oracle) (o : AOp) (d : Option Nat) (T : Tb) (L : Lb) (h : H) : Option (Tb × Lb × H) :=
  (opA call o T.av h).map fun r => (T.put d (.v r.1), L, r.2)

def opB (call : Oracle) (o : AOp) (d : Option Nat) (T : Tb) (L : Lb) (h : H) : Option (Tb × Lb × H) :=
  match o with
  | .alloc ty z => match d with
    | some t => some ((T.kill t).put (some t) (.lp t 0), L.put t (ty, z), h)
    | none => none
  | .box ty x => match d, x.bv T with
    | some t, .v a => a.cells.map fun cs => ((T.kill t).put (some t) (.lp t 0), L.put t (ty, cs), h)
    | _, _ => none
  | .store k x v => match x.bv T with
    | .lp t off => match (v.bv T).av.cells with
      | some vs => (storeL (L t).2 off k vs).map fun cs => (T.put d (.v undefA), L.put t ((L t).1, cs), h)
      | none => none
    | .v _ => genB call (.store k x v) d T L h
  | .mov x => (pureB (.mov x) T L h).map fun v => (T.put d v, L, h)
  | .load k g x => (pureB (.load k g x) T L h).map fun v => (T.put d v, L, h)
  | .nilCheck x => (pureB (.nilCheck x) T L h).map fun v => (T.put d v, L, h)
  | .faddr off x => (pureB (.faddr off x) T L h).map fun v => (T.put d v, L, h)
  | .mkfn f l => genB call (.mkfn f l) d (proA l T L h).1 L (proA l T L h).2
  | .call f l => genB call (.call f l) d (proA l T L h).1 L (proA l T L h).2
  | .callv x l => genB call (.callv x l) d (proA l T L h).1 L (proA l T L h).2
  | o => genB call o d T L h

def BV.same : BV → BV → Bool
  | .v a, .v b => a.same b
  | _, _ => false

/-- Whether a step is gone; none where that is not told. -/
def wantB (g : Option (Nat × Bool)) (T : Tb) : Option Bool :=
  match g with
  | none => some true
  | some (t, b) => match T t with
    | .v (.one (.bool c)) => some (c == b)
    | .v (.tup []) => some false
    | _ => none

def againB (T : Tb) (L : Lb) (h : H) (r : AOp × Option Nat × Option (Nat × Bool)) : Bool :=
  match wantB r.2.2 T with
  | some true =>
    match pureB r.1 T L h, r.2.1 with
    | some v, some d => v.same (T d)
    | _, _ => false
  | some false => true
  | none => false

def stepB (call : Oracle) (s : AStep) (T : Tb) (L : Lb) (h : H) : Option (Tb × Lb × H) :=
  match wantB s.guard T with
  | some true =>
    match opB call s.op s.dst T L h with
    | some (T', L', h') => if s.again.all (againB T' L' h') then some (T', L', h') else none
    | none => none
  | some false => some (T.put s.dst (.v undefA), L, h)
  | none => none

def stepsB (call : Oracle) : List AStep → Tb → Lb → H → Option (Tb × Lb × H)
  | [], T, L, h => some (T, L, h)
  | s :: l, T, L, h =>
    match stepB call s T L h with
    | some (T', L', h') => stepsB call l T' L' h'
    | none => none

abbrev RunB := Tb → Lb → H → Option (Ex × Tb × Lb × H)
def loopNB (body : RunB) : Nat → RunB
  | 0, _, _, _ => none
  | n + 1, T, L, h =>
    match body T L h with
    | some (.normal, T', L', h') => loopNB body n T' L' h'
    | r => r

open Classical in
noncomputable def loopB : RunB → RunB := fun body T L h => if hx : ∃ x, ∃ n0, ∀ n, n0 ≤ n → loopNB body n T L h = some x then some hx.choose else none

noncomputable def codeB (call : Oracle) : ACode → RunB
  | .skip, T, L, h => some (.normal, T, L, h)
  | .reg l, T, L, h => (stepsB call l T L h).map fun r => (.normal, r.1, r.2.1, r.2.2)
  | .seq a b, T, L, h =>
    match codeB call a T L h with
    | some (.normal, T', L', h') => codeB call b T' L' h'
    | r => r
  | .cond c a b, T, L, h =>
    match c.ev T.av with
    | .one (.bool true) => codeB call a T L h
    | .one (.bool false) => codeB call b T L h
    | _ => none
  | .block id a, T, L, h =>
    match codeB call a T L h with
    | some (.exit id', T', L', h') => if id' = id then some (.normal, T', L', h') else some (.exit id', T', L', h')
    | r => r
  | .loop a, T, L, h => loopB (codeB call a) T L h
  | .exit id, T, L, h => some (.exit id, T, L, h)
  | .ret, T, L, h => some (.ret, T, L, h)

def tmpX : List ARes → List AX
  | [] => []
  | .tmp t :: r => .t t :: tmpX r
  | .cell .. :: r => tmpX r
def resB (T : Tb) (L : Lb) (h : H) : ARes → Option AV
  | .tmp t => some (T t).av
  | .cell t k g => (pureB (.load k g (.t t)) T L h).map BV.av
def resBs (T : Tb) (L : Lb) (h : H) : List ARes → Option (List AV)
  | [] => some []
  | r :: l => match resB T L h r, resBs T L h l with
    | some (.tup _), _ => none
    | some v, some vs => some (v :: vs)
    | _, _ => none
def resultsB (T : Tb) (L : Lb) (h : H) (l : List ARes) : Option AV :=
  match l with
  | [r] => resB T L h r
  | l => (resBs T L h l).map .tup

def CV.scalar : CV → Bool
  | .bool _ | .int _ _ | .str _ | .nilf | .ptr none => true
  | .sl none n c => n == 0 && c == some 0
  | _ => false
def AV.scalars : List AV → Bool
  | [] => true
  | .one c :: r => c.scalar && AV.scalars r
  | .agg cs :: r => cs.all CV.scalar && AV.scalars r
  | .tup _ :: _ => false
def AV.scalar : AV → Bool
  | .one c => c.scalar
  | .agg cs => cs.all CV.scalar
  | .tup l => AV.scalars l

open Classical in
/-- Where nothing comes back that points, what was laid is dropped. -/
noncomputable def gcA (h : H) (r : AV × H) : AV × H := if r.1.scalar = true ∧ Grow h r.2 then (r.1, h) else r

def startB (args : List AV) : Tb := fun t => .v (args.getD t undefA)

noncomputable def bodyB (call : Oracle) (F : AFunc) (args : List AV) (h : H) : Option (AV × H) :=
  match codeB call F.body (startB args) (fun _ => (0, [])) h with
  | some (.exit _, _, _, _) => none
  | some (_, T, L, h') => (resultsB (proA (tmpX F.results) T L h').1 L (proA (tmpX F.results) T L h').2 F.results).map fun v => gcA h (v, (proA (tmpX F.results) T L h').2)
  | none => none

/-! ### constants that point nowhere -/
def CV.cl : CV → Bool
  | .bool _ | .int _ _ | .str _ | .nilf | .ptr none | .sl none _ _ | .fn _ [] => true
  | _ => false
def AX.cl : AX → Bool
  | .t _ => true
  | .c u => u.cl
def oxcl : Option AX → Bool
  | some x => x.cl
  | none => true
def AOp.cl : AOp → Bool
  | .mov x | .box _ x | .load _ _ x | .nilCheck x | .not x | .conv _ x | .bytesStr x | .faddr _ x | .field _ _ _ x | .extract x _ | .len x | .lenStr x | .cap x => x.cl
  | .pick c a b => c.cl && (a.cl && b.cl)
  | .alloc _ z => z.all CV.cl
  | .build z ps => z.all CV.cl && ps.all fun p => p.2.2.cl
  | .buildSlice _ _ z ps => z.all CV.cl && ps.all fun p => p.2.2.cl
  | .mkslice _ _ z x y => z.all CV.cl && (x.cl && y.cl)
  | .store _ x y | .bin _ x y | .eqb _ x y | .eqst _ _ x y | .eqnil _ x y | .iaddr _ x y | .idxStr x y | .append _ _ _ x y | .min x y => x.cl && y.cl
  | .appz _ _ _ z x y => z.all CV.cl && (x.cl && y.cl)
  | .clr z x => z.all CV.cl && x.cl
  | .mkfn _ l | .call _ l => l.all AX.cl
  | .callv x l => x.cl && l.all AX.cl
  | .slice _ _ x lo hi mx => x.cl && (oxcl lo && (oxcl hi && oxcl mx))
  | .sliceStr x lo hi => x.cl && (oxcl lo && oxcl hi)
def AStep.cl (s : AStep) : Bool := s.op.cl && s.again.all fun r => r.1.cl
def ACode.cl : ACode → Bool
  | .skip | .exit _ | .ret => true
  | .reg l => l.all AStep.cl
  | .seq a b => a.cl && b.cl
  | .cond c a b => c.cl && (a.cl && b.cl)
  | .block _ a | .loop a => a.cl

def compB (P : Program) (f : Nat) : Option AFunc :=
  match compFunc P f with
  | some F => if F.body.cl then some F else none
  | none => none

/-- Calls nested at most k deep. -/
noncomputable def callB (P : Program) : Nat → Oracle
  | 0, _, _, _ => none
  | k + 1, f, args, h => match compB P f with
    | some F => bodyB (callB P k) F args h
    | none => extO P f args h

open Classical in
noncomputable def bm (P : Program) : Oracle := fun f args h => if hx : ∃ x, ∃ k0, ∀ k, k0 ≤ k → callB P k f args h = some x then some hx.choose else none
end Go.Proofs.YtoeceafibmafpaaDoor.Am
/-! The second machine: its values and its heap against those of the first one. -/
namespace Go.Proofs.YtoeceafibmafpaaDoor.Am
open Go

/-- Which block of the first machine a block of the second one is. -/
abbrev Re := Nat → Option Nat
def rA (β : Re) (a a' : Nat × Nat) : Prop := β a.1 = some a'.1 ∧ a'.2 = a.2
def rCaps (β : Re) : List (Nat × Nat) → List (Nat × Nat) → Prop
  | [], l => l = []
  | a :: r, l => ∃ a' r', l = a' :: r' ∧ rA β a a' ∧ rCaps β r r'
def rC (β : Re) : CV → CV → Prop
  | .sl (some a) n k, c' => ∃ a', c' = .sl (some a') n k ∧ rA β a a'
  | .ptr (some a), c' => ∃ a', c' = .ptr (some a') ∧ rA β a a'
  | .fn f l, c' => ∃ l', c' = .fn f l' ∧ rCaps β l l'
  | c, c' => c' = c
def rL (β : Re) : List CV → List CV → Prop
  | [], l => l = []
  | c :: r, l => ∃ c' r', l = c' :: r' ∧ rC β c c' ∧ rL β r r'
def rV0 (β : Re) : AV → AV → Prop
  | .one c, a => ∃ c', a = .one c' ∧ rC β c c'
  | .agg cs, a => ∃ cs', a = .agg cs' ∧ rL β cs cs'
  | .tup _, _ => False
def rT (β : Re) : List AV → List AV → Prop
  | [], l => l = []
  | c :: r, l => ∃ c' r', l = c' :: r' ∧ rV0 β c c' ∧ rT β r r'
def rV (β : Re) : AV → AV → Prop
  | .one c, a => ∃ c', a = .one c' ∧ rC β c c'
  | .agg cs, a => ∃ cs', a = .agg cs' ∧ rL β cs cs'
  | .tup [], a => ∀ b, a ≠ .one (.bool b)
  | .tup (c :: r), a => ∃ l', a = .tup l' ∧ rT β (c :: r) l'
def rVs (β : Re) : List AV → List AV → Prop
  | [], l => l = []
  | c :: r, l => ∃ c' r', l = c' :: r' ∧ rV β c c' ∧ rVs β r r'

def Ex2 (β β' : Re) : Prop := ∀ i p, β i = some p → β' i = some p
theorem Ex2.refl (β : Re) : Ex2 β β := fun _ _ h => h
theorem Ex2.trans {a b c : Re} (h : Ex2 a b) (k : Ex2 b c) : Ex2 a c := fun i p e => k i p (h i p e)

section
variable {β β' : Re} (e : Ex2 β β')
include e
theorem rA.mono {a a' : Nat × Nat} (h : rA β a a') : rA β' a a' := ⟨e _ _ h.1, h.2⟩
theorem rCaps.mono : ∀ {l l' : List (Nat × Nat)}, rCaps β l l' → rCaps β' l l'
  | [], _, h => h
  | _ :: _, _, ⟨a', r', h1, h2, h3⟩ => ⟨a', r', h1, h2.mono e, rCaps.mono h3⟩
theorem rC.mono {c c' : CV} (h : rC β c c') : rC β' c c' := by
  cases c with
  | sl a n k => cases a with
    | none => exact h
    | some a => obtain ⟨a', h1, h2⟩ := h; exact ⟨a', h1, h2.mono e⟩
  | ptr a => cases a with
    | none => exact h
    | some a => obtain ⟨a', h1, h2⟩ := h; exact ⟨a', h1, h2.mono e⟩
  | fn f l => obtain ⟨a', h1, h2⟩ := h; exact ⟨a', h1, h2.mono e⟩
  | _ => exact h
theorem rL.mono : ∀ {l l' : List CV}, rL β l l' → rL β' l l'
  | [], _, h => h
  | _ :: _, _, ⟨a', r', h1, h2, h3⟩ => ⟨a', r', h1, rC.mono e h2, rL.mono h3⟩
theorem rV0.mono {a a' : AV} (h : rV0 β a a') : rV0 β' a a' := by
  cases a with
  | one c => obtain ⟨c', h1, h2⟩ := h; exact ⟨c', h1, rC.mono e h2⟩
  | agg c => obtain ⟨c', h1, h2⟩ := h; exact ⟨c', h1, rL.mono e h2⟩
  | tup l => exact h
theorem rT.mono : ∀ {l l' : List AV}, rT β l l' → rT β' l l'
  | [], _, h => h
  | _ :: _, _, ⟨a', r', h1, h2, h3⟩ => ⟨a', r', h1, rV0.mono e h2, rT.mono h3⟩
theorem rV.mono {a a' : AV} (h : rV β a a') : rV β' a a' := by
  cases a with
  | one c => obtain ⟨c', h1, h2⟩ := h; exact ⟨c', h1, rC.mono e h2⟩
  | agg c => obtain ⟨c', h1, h2⟩ := h; exact ⟨c', h1, rL.mono e h2⟩
  | tup l => cases l with
    | nil => exact h
    | cons x l => obtain ⟨l', h1, h2⟩ := h; exact ⟨l', h1, rT.mono e h2⟩
theorem rVs.mono : ∀ {l l' : List AV}, rVs β l l' → rVs β' l l'
  | [], _, h => h
  | _ :: _, _, ⟨a', r', h1, h2, h3⟩ => ⟨a', r', h1, rV.mono e h2, rVs.mono h3⟩

/-- One image alone. -/
theorem rA.fn {a b c : Nat × Nat} (h : rA β a b) (k : rA β' a c) : b = c := by
  obtain ⟨h1, h2⟩ := h
  obtain ⟨k1, k2⟩ := k
  have h1 := e _ _ h1
  rw [h1] at k1
  exact Prod.ext (by simpa using k1) (by rw [h2, k2])
theorem rCaps.fn : ∀ {l x y : List (Nat × Nat)}, rCaps β l x → rCaps β' l y → x = y
  | [], _, _, h, k => by rw [show _ = _ from h, show _ = _ from k]
  | _ :: _, _, _, ⟨a', r', h1, h2, h3⟩, ⟨b', s', k1, k2, k3⟩ => by
    rw [h1, k1, h2.fn e k2, rCaps.fn h3 k3]
theorem rC.fn {c x y : CV} (h : rC β c x) (k : rC β' c y) : x = y := by
  cases c with
  | sl a n q => cases a with
    | none => rw [show x = _ from h, show y = _ from k]
    | some a => obtain ⟨a', h1, h2⟩ := h; obtain ⟨b', k1, k2⟩ := k; rw [h1, k1, h2.fn e k2]
  | ptr a => cases a with
    | none => rw [show x = _ from h, show y = _ from k]
    | some a => obtain ⟨a', h1, h2⟩ := h; obtain ⟨b', k1, k2⟩ := k; rw [h1, k1, h2.fn e k2]
  | fn f l => obtain ⟨a', h1, h2⟩ := h; obtain ⟨b', k1, k2⟩ := k; rw [h1, k1, h2.fn e k2]
  | _ => rw [show x = _ from h, show y = _ from k]
theorem rL.fn : ∀ {l x y : List CV}, rL β l x → rL β' l y → x = y
  | [], _, _, h, k => by rw [show _ = _ from h, show _ = _ from k]
  | _ :: _, _, _, ⟨a', r', h1, h2, h3⟩, ⟨b', s', k1, k2, k3⟩ => by
    rw [h1, k1, rC.fn e h2 k2, rL.fn h3 k3]
end

theorem rL.length {β : Re} : ∀ {l l' : List CV}, rL β l l' → l'.length = l.length
  | [], _, h => by rw [show _ = _ from h]
  | _ :: _, _, ⟨a', r', h1, _, h3⟩ => by rw [h1]; simp [rL.length h3]
theorem rL.append {β : Re} : ∀ {l l' m m' : List CV}, rL β l l' → rL β m m' → rL β (l ++ m) (l' ++ m')
  | [], _, _, _, h, k => by rw [show _ = _ from h]; exact k
  | _ :: _, _, _, _, ⟨a', r', h1, h2, h3⟩, k => by rw [h1]; exact ⟨a', r' ++ _, rfl, h2, rL.append h3 k⟩
theorem rL.drop {β : Re} : ∀ {l l' : List CV} (n : Nat), rL β l l' → rL β (l.drop n) (l'.drop n)
  | _, _, 0, h => h
  | [], _, n + 1, h => by rw [show _ = _ from h]; rfl
  | _ :: _, _, n + 1, ⟨a', r', h1, h2, h3⟩ => by rw [h1]; exact rL.drop n h3
theorem rL.take {β : Re} : ∀ {l l' : List CV} (n : Nat), rL β l l' → rL β (l.take n) (l'.take n)
  | _, _, 0, h => by simp [rL]
  | [], _, n + 1, h => by rw [show _ = _ from h]; rfl
  | _ :: _, _, n + 1, ⟨a', r', h1, h2, h3⟩ => by rw [h1]; exact ⟨a', _, rfl, h2, rL.take n h3⟩
theorem rL.get {β : Re} : ∀ {l l' : List CV} {i : Nat} {c : CV}, rL β l l' → l[i]? = some c → ∃ c', l'[i]? = some c' ∧ rC β c c'
  | [], _, i, c, h, hc => by simp at hc
  | _ :: _, _, 0, c, ⟨a', r', h1, h2, h3⟩, hc => by
    simp at hc
    subst hc
    exact ⟨a', by rw [h1]; rfl, h2⟩
  | _ :: _, _, i + 1, c, ⟨a', r', h1, h2, h3⟩, hc => by
    obtain ⟨c', k1, k2⟩ := rL.get h3 (by simpa using hc)
    exact ⟨c', by rw [h1]; simpa using k1, k2⟩
theorem cl_rC {β : Re} {c : CV} (h : c.cl = true) : rC β c c := by
  cases c with
  | sl a n k => cases a with
    | none => rfl
    | some a => simp [CV.cl] at h
  | ptr a => cases a with
    | none => rfl
    | some a => simp [CV.cl] at h
  | fn f l => cases l with
    | nil => exact ⟨[], rfl, rfl⟩
    | cons a l => simp [CV.cl] at h
  | _ => rfl
theorem cl_rL {β : Re} : ∀ {l : List CV}, l.all CV.cl = true → rL β l l
  | [], _ => rfl
  | c :: l, h => by
    simp only [List.all_cons, Bool.and_eq_true] at h
    exact ⟨c, l, rfl, cl_rC h.1, cl_rL h.2⟩
theorem rV.cells {β : Re} {a a' : AV} {cs : List CV} (h : rV β a a') (hc : a.cells = some cs) : ∃ cs', a'.cells = some cs' ∧ rL β cs cs' := by
  cases a with
  | one c =>
    obtain ⟨c', rfl, h2⟩ := h
    simp [AV.cells] at hc
    subst hc
    exact ⟨[c'], rfl, c', [], rfl, h2, rfl⟩
  | agg c =>
    obtain ⟨c', rfl, h2⟩ := h
    simp [AV.cells] at hc
    subst hc
    exact ⟨c', rfl, h2⟩
  | tup l => simp [AV.cells] at hc
theorem rV0.rV {β : Re} {a a' : AV} (h : rV0 β a a') : rV β a a' := by
  cases a with
  | one c => exact h
  | agg c => exact h
  | tup l => exact h.elim
theorem rV_undef {β : Re} : rV β undefA undefA := fun b => by simp [undefA]
theorem rV_ptrU {β : Re} {p : Option (Nat × Nat)} : rV β undefA (.one (.ptr p)) := fun b => by simp
theorem rV_int {β : Re} {k : IntKind} {n : Int} {a : AV} (h : rV β (.one (.int k n)) a) : a = .one (.int k n) := by
  obtain ⟨c', rfl, h2⟩ := h
  rw [show c' = _ from h2]
theorem rV_bool {β : Re} {b : Bool} {a : AV} (h : rV β (.one (.bool b)) a) : a = .one (.bool b) := by
  obtain ⟨c', rfl, h2⟩ := h
  rw [show c' = _ from h2]
theorem rV_str {β : Re} {s : ByteArray} {a : AV} (h : rV β (.one (.str s)) a) : a = .one (.str s) := by
  obtain ⟨c', rfl, h2⟩ := h
  rw [show c' = _ from h2]
theorem rV_ptr {β : Re} {p : Nat × Nat} {a : AV} (h : rV β (.one (.ptr (some p))) a) : ∃ p', a = .one (.ptr (some p')) ∧ rA β p p' := by
  obtain ⟨c', rfl, p', h2, h3⟩ := h
  exact ⟨p', by rw [h2], h3⟩
theorem rV_nil {β : Re} {n : Nat} {c : Option Nat} {a : AV} (h : rV β (.one (.sl none n c)) a) : a = .one (.sl none n c) := by
  obtain ⟨c', rfl, h2⟩ := h
  rw [show c' = _ from h2]
theorem rV_sl {β : Re} {p : Nat × Nat} {n : Nat} {c : Option Nat} {a : AV} (h : rV β (.one (.sl (some p) n c)) a) : ∃ p', a = .one (.sl (some p') n c) ∧ rA β p p' := by
  obtain ⟨c', rfl, p', h2, h3⟩ := h
  exact ⟨p', by rw [h2], h3⟩
theorem rV_fn {β : Re} {f : Nat} {l : List (Nat × Nat)} {a : AV} (h : rV β (.one (.fn f l)) a) : ∃ l', a = .one (.fn f l') ∧ rCaps β l l' := by
  obtain ⟨c', rfl, l', h2, h3⟩ := h
  exact ⟨l', by rw [h2], h3⟩

/-! ### heaps -/
structure RelH (β : Re) (h h' : H) : Prop where
  blk : ∀ b b', β b = some b' → b < h.n ∧ b' < h'.n ∧ (h'.f b').ty = (h.f b).ty ∧ (h'.f b').st = (h.f b).st ∧ ((h.f b).st ≠ .dead → rL β (h.f b).cs (h'.f b').cs)
  inj : ∀ a b x, β a = some x → β b = some x → a = b
/-- What a part of a run does to the first machine's heap. -/
structure Fr (β : Re) (h' : H) (β1 : Re) (h1' : H) : Prop where
  ext : Ex2 β β1
  n : h'.n ≤ h1'.n
  keep : ∀ b', b' < h'.n → (∀ b, β b ≠ some b') → h1'.f b' = h'.f b'
  new : ∀ b b', β1 b = some b' → (∃ a, β a = some b') ∨ h'.n ≤ b'
theorem Fr.refl (β : Re) (h' : H) : Fr β h' β h' := ⟨Ex2.refl β, Nat.le_refl _, fun _ _ _ => rfl, fun b _ hb => .inl ⟨b, hb⟩⟩
theorem Fr.trans {β β1 β2 : Re} {h h1 h2 : H} (a : Fr β h β1 h1) (b : Fr β1 h1 β2 h2) : Fr β h β2 h2 := by
  refine ⟨a.ext.trans b.ext, Nat.le_trans a.n b.n, fun b' hb hn => ?_, fun i b' hi => ?_⟩
  · rw [b.keep b' (Nat.lt_of_lt_of_le hb a.n) (fun i hi => ?_)]
    · exact a.keep b' hb hn
    · rcases a.new i b' hi with ⟨j, hj⟩ | hj
      · exact hn j hj
      · omega
  · rcases b.new i b' hi with ⟨j, hj⟩ | hj
    · exact a.new j b' hj
    · exact .inr (Nat.le_trans a.n hj)

def Re.put (β : Re) (i p : Nat) : Re := fun j => if j = i then some p else β j
theorem Re.put_ext {β : Re} {i p : Nat} (h : β i = none) : Ex2 β (β.put i p) := by
  intro j q hj
  have : j ≠ i := by rintro rfl; rw [h] at hj; simp at hj
  simp [Re.put, this, hj]
theorem RelH.none {β : Re} {h h' : H} (hR : RelH β h h') {i : Nat} (hi : h.n ≤ i) : β i = none := by
  cases hb : β i with
  | none => rfl
  | some x => have := (hR.blk i x hb).1; omega

theorem RelH.alloc {β : Re} {h h' : H} (hR : RelH β h h') {cs cs' : List CV} (ty : Nat) (hc : rL β cs cs') :
    RelH (β.put h.n h'.n) (h.alloc cs ty) (h'.alloc cs' ty) ∧ Fr β h' (β.put h.n h'.n) (h'.alloc cs' ty) := by
  have h0 := hR.none (Nat.le_refl h.n)
  have e := Re.put_ext (p := h'.n) h0
  refine ⟨⟨?_, ?_⟩, e, Nat.le_succ _, ?_, ?_⟩
  · intro b b' hb
    by_cases hbn : b = h.n
    · subst hbn
      simp [Re.put] at hb
      subst hb
      exact ⟨Nat.lt_succ_self _, Nat.lt_succ_self _, by rw [alloc_f_new, alloc_f_new], by rw [alloc_f_new, alloc_f_new], fun _ => by rw [alloc_f_new, alloc_f_new]; exact rL.mono e hc⟩
    · simp [Re.put, hbn] at hb
      obtain ⟨h1, h2, h3, h4, h5⟩ := hR.blk b b' hb
      rw [alloc_f_old (by omega), alloc_f_old (by omega)]
      exact ⟨Nat.lt_succ_of_lt h1, Nat.lt_succ_of_lt h2, h3, h4, fun h => rL.mono e (h5 h)⟩
  · intro a b x ha hb
    by_cases han : a = h.n <;> by_cases hbn : b = h.n
    · rw [han, hbn]
    · subst han
      simp [Re.put] at ha
      simp [Re.put, hbn] at hb
      have := (hR.blk b x hb).2.1
      omega
    · subst hbn
      simp [Re.put] at hb
      simp [Re.put, han] at ha
      have := (hR.blk a x ha).2.1
      omega
    · simp [Re.put, han] at ha
      simp [Re.put, hbn] at hb
      exact hR.inj a b x ha hb
  · intro b' hb _
    exact alloc_f_old (by omega)
  · intro b b' hb
    by_cases hbn : b = h.n
    · subst hbn
      simp [Re.put] at hb
      exact .inr (by omega)
    · simp [Re.put, hbn] at hb
      exact .inl ⟨b, hb⟩

theorem RelH.set {β : Re} {h h' : H} (hR : RelH β h h') {b b' : Nat} (hb : β b = some b') {cs cs' : List CV} {st : St} (hc : st ≠ .dead → rL β cs cs') :
    RelH β (h.setBlk b { h.f b with cs := cs, st := st }) (h'.setBlk b' { h'.f b' with cs := cs', st := st }) ∧ Fr β h' β (h'.setBlk b' { h'.f b' with cs := cs', st := st }) := by
  refine ⟨⟨?_, hR.inj⟩, Ex2.refl β, Nat.le_refl _, ?_, fun i x hx => .inl ⟨i, hx⟩⟩
  · intro a x ha
    obtain ⟨h1, h2, h3, h4, h5⟩ := hR.blk a x ha
    rw [setBlk_f, setBlk_f]
    by_cases hab : a = b
    · subst hab
      rw [hb] at ha
      simp at ha
      subst ha
      rw [if_pos rfl, if_pos rfl]
      exact ⟨h1, h2, h3, rfl, hc⟩
    · have hxb : x ≠ b' := fun e => hab (hR.inj a b b' (by rw [ha, e]) hb)
      rw [if_neg hab, if_neg hxb]
      exact ⟨h1, h2, h3, h4, h5⟩
  · intro x hx hn
    rw [setBlk_f, if_neg (fun e => hn b (by rw [hb, e]))]

theorem RelH.load {β : Re} {h h' : H} (hR : RelH β h h') {a a' : Nat × Nat} (ha : rA β a a') {k : Nat} {cs : List CV} (hl : h.load a k = some cs) : ∃ cs', h'.load a' k = some cs' ∧ rL β cs cs' := by
  obtain ⟨h1, h2, h3, h4, h5⟩ := hR.blk _ _ ha.1
  unfold H.load at hl ⊢
  split at hl
  · rename_i hc
    have h5 := h5 hc.1.2
    rw [if_pos ⟨⟨h2, by rw [h4]; exact hc.1.2⟩, by rw [ha.2, h5.length]; exact hc.2⟩]
    simp only [Option.some.injEq] at hl
    subst hl
    exact ⟨_, rfl, by rw [ha.2]; exact rL.take _ (rL.drop _ h5)⟩
  · simp at hl
theorem RelH.store {β : Re} {h h' h1 : H} (hR : RelH β h h') {a a' : Nat × Nat} (ha : rA β a a') {vs vs' : List CV} (hv : rL β vs vs') (hl : h.store a vs = some h1) :
    ∃ h1', h'.store a' vs' = some h1' ∧ RelH β h1 h1' ∧ Fr β h' β h1' := by
  obtain ⟨g1, g2, g3, g4, g5⟩ := hR.blk _ _ ha.1
  unfold H.store at hl ⊢
  split at hl
  · rename_i hc
    have g5 := g5 (by rw [hc.1]; simp)
    rw [if_pos ⟨by rw [g4]; exact hc.1, by rw [ha.2, g5.length, hv.length]; exact hc.2⟩]
    simp only [Option.some.injEq] at hl
    subst hl
    have hst : ∀ (hh : H) (i : Nat) (cs : List CV), (hh.f i).st = .rw → ({ hh.f i with cs := cs } : Blk) = { hh.f i with cs := cs, st := .rw } := by
      intro hh i cs hs
      rw [← hs]
    rw [hst _ _ _ hc.1, hst _ _ _ (by rw [g4]; exact hc.1)]
    refine ⟨_, rfl, RelH.set hR ha.1 fun _ => ?_⟩
    rw [ha.2, hv.length]
    exact rL.append (rL.take _ g5) (rL.append hv (rL.drop _ g5))
  · simp at hl
theorem RelH.kill {β : Re} {h h' : H} (hR : RelH β h h') {b b' : Nat} (hb : β b = some b') : RelH β (h.kill b) (h'.kill b') ∧ Fr β h' β (h'.kill b') := by
  have := RelH.set hR hb (cs := (h.f b).cs) (cs' := (h'.f b').cs) (st := .dead) (fun h => absurd rfl h)
  exact this

theorem RelH.src {β : Re} {h h' : H} (hR : RelH β h h') {v v' : AV} (hv : rV β v v') {k : Nat} {cs : List CV} (hl : srcA h k v = some cs) : ∃ cs', srcA h' k v' = some cs' ∧ rL β cs cs' := by
  cases v with
  | one c =>
    cases c with
    | sl b n c =>
      cases n with
      | zero =>
        simp [srcA] at hl
        subst hl
        cases b with
        | none => rw [rV_nil hv]; exact ⟨[], rfl, rfl⟩
        | some p => obtain ⟨p', rfl, _⟩ := rV_sl hv; exact ⟨[], rfl, rfl⟩
      | succ n =>
        cases b with
        | none => simp [srcA] at hl
        | some p =>
          obtain ⟨p', rfl, hp⟩ := rV_sl hv
          simp only [srcA] at hl ⊢
          exact hR.load hp hl
    | _ => simp [srcA] at hl
  | _ => simp [srcA] at hl
end Go.Proofs.YtoeceafibmafpaaDoor.Am
/-! The second machine: operations against those of the first one. -/
namespace Go.Proofs.YtoeceafibmafpaaDoor.Am
open Go

section
variable {β : Re} {h h' : H} {T T' : Tm}

theorem rX (hT : ∀ t, rV β (T t) (T' t)) {x : AX} (hc : x.cl = true) : rV β (x.ev T) (x.ev T') := by
  cases x with
  | t n => exact hT n
  | c u => exact ⟨u, rfl, cl_rC hc⟩
theorem rXs (hT : ∀ t, rV β (T t) (T' t)) : ∀ {l : List AX}, l.all AX.cl = true → rVs β (l.map (·.ev T)) (l.map (·.ev T'))
  | [], _ => rfl
  | x :: l, hc => by
    simp only [List.all_cons, Bool.and_eq_true] at hc
    exact ⟨_, _, rfl, rX hT hc.1, rXs hT hc.2⟩

theorem fill_sim (hT : ∀ t, rV β (T t) (T' t)) : ∀ {ps : List (Nat × Nat × AX)} {z z' cs : List CV}, (ps.all fun p => p.2.2.cl) = true → rL β z z' → fillA z (ps.map fun p => (p.1, p.2.1, p.2.2.ev T)) = some cs →
    ∃ cs', fillA z' (ps.map fun p => (p.1, p.2.1, p.2.2.ev T')) = some cs' ∧ rL β cs cs'
  | [], z, z', cs, _, hz, hf => by
    simp [fillA] at hf
    subst hf
    exact ⟨z', rfl, hz⟩
  | p :: ps, z, z', cs, hc, hz, hf => by
    simp only [List.all_cons, Bool.and_eq_true] at hc
    simp only [List.map_cons, fillA] at hf ⊢
    split at hf
    · simp at hf
    · rename_i vs hv
      split at hf
      · rename_i hl
        obtain ⟨vs', h1, h2⟩ := (rX hT hc.1).cells hv
        rw [h1]
        simp only
        rw [if_pos ⟨by rw [h2.length]; exact hl.1, by rw [hz.length]; exact hl.2⟩]
        exact fill_sim hT hc.2 ((rL.take _ hz).append (h2.append (rL.drop _ hz))) hf
      · simp at hf

theorem bound_sim (hT : ∀ t, rV β (T t) (T' t)) {x : AX} (hc : x.cl = true) {y n : Nat} (hb : boundA T x y = some n) : boundA T' x y = some n := by
  unfold boundA at hb ⊢
  have hr := rX hT hc
  split at hb
  · rename_i k i he
    rw [he] at hr
    rw [rV_int hr]
    exact hb
  · simp at hb
theorem bounds_sim (hT : ∀ t, rV β (T t) (T' t)) {lo hi mx : Option AX} (h1 : oxcl lo = true) (h2 : oxcl hi = true) (h3 : oxcl mx = true) {n : Nat} {c : Option Nat} {r : Nat × Nat × Option Nat} (hb : boundsA T n c lo hi mx = some r) : boundsA T' n c lo hi mx = some r := by
  unfold boundsA at hb ⊢
  split at hb
  · simp at hb
  · rename_i m hm
    have e1 : maxA T' n c mx = some m := by
      unfold maxA at hm ⊢
      cases mx with
      | none => exact hm
      | some x =>
        obtain ⟨q, h4, h5⟩ := Option.map_eq_some_iff.1 hm
        subst h5
        simp only [bound_sim hT h3 h4, Option.map_some]
    rw [e1]
    simp only
    split at hb
    · simp at hb
    · rename_i k hk
      have e2 : highA T' n m hi mx = some k := by
        unfold highA at hk ⊢
        cases hi with
        | none => exact hk
        | some x => exact bound_sim hT h2 hk
      rw [e2]
      simp only
      split at hb
      · simp at hb
      · rename_i l hl
        have e3 : lowA T' k lo = some l := by
          unfold lowA at hl ⊢
          cases lo with
          | none => exact hl
          | some x => exact bound_sim hT h1 hl
        rw [e3]
        exact hb

theorem ptrs_sim : ∀ {vs vs' : List AV} {l : List (Nat × Nat)}, rVs β vs vs' → ptrsA vs = some l → ∃ l', ptrsA vs' = some l' ∧ rCaps β l l'
  | [], _, l, h, hp => by
    simp [ptrsA] at hp
    subst hp
    rw [show _ = _ from h]
    exact ⟨[], rfl, rfl⟩
  | v :: vs, _, l, ⟨v', r', h1, h2, h3⟩, hp => by
    subst h1
    unfold ptrsA at hp
    split at hp
    · simp at *
    · rename_i a r he
      simp only [List.cons.injEq] at he
      obtain ⟨rfl, rfl⟩ := he
      obtain ⟨l1, h4, rfl⟩ := Option.map_eq_some_iff.1 hp
      obtain ⟨p', rfl, hpp⟩ := rV_ptr h2
      obtain ⟨l2, h5, h6⟩ := ptrs_sim h3 h4
      exact ⟨p' :: l2, by simp [ptrsA, h5], p', l2, rfl, hpp, h6⟩
    · simp at hp

theorem bin_sim {op : BinOp} {a b a' b' v : AV} (ha : rV β a a') (hb : rV β b b') (hv : binA op a b = some v) : binA op a' b' = some v ∧ rV β v v := by
  unfold binA at hv
  split at hv
  · rw [rV_int ha, rV_int hb]
    simp only [binA]
    refine ⟨hv, ?_⟩
    split at hv
    · cases op <;> simp only [Option.some.injEq, reduceCtorEq] at hv <;> first | (subst hv; exact ⟨_, rfl, rfl⟩) | (split at hv <;> simp at hv; subst hv; exact ⟨_, rfl, rfl⟩)
    · simp at hv
  · rw [rV_str ha, rV_str hb]
    simp only [binA]
    refine ⟨hv, ?_⟩
    cases op <;> simp only [Option.some.injEq, reduceCtorEq] at hv <;> first | (subst hv; exact ⟨_, rfl, rfl⟩) | (split at hv <;> simp at hv; subst hv; exact ⟨_, rfl, rfl⟩)
  · simp at hv

theorem eqK_sim : ∀ {ks : List Nat} {a b a' b' : List CV} {r : Bool}, rL β a a' → rL β b b' → eqK ks a b = some r → eqK ks a' b' = some r
  | ks, a, b, a', b', r, ha, hb, hv => by
    unfold eqK at hv
    split at hv
    · rw [show a' = _ from ha, show b' = _ from hb]
      exact hv
    all_goals first
      | (simp at hv; done)
      | (obtain ⟨c, s, rfl, h2, h3⟩ := ha
         obtain ⟨d, u, rfl, k2, k3⟩ := hb
         rw [show c = _ from h2, show d = _ from k2]
         simp only [eqK]
         first
           | (obtain ⟨q, h4, rfl⟩ := Option.map_eq_some_iff.1 hv
              rw [eqK_sim h3 k3 h4]
              rfl)
           | (split at hv
              · rename_i hk
                rw [if_pos hk]
                obtain ⟨q, h4, rfl⟩ := Option.map_eq_some_iff.1 hv
                rw [eqK_sim h3 k3 h4]
                rfl
              · simp at hv))

theorem strBytes_sim : ∀ {cs cs' : List CV} {l : List Int}, rL β cs cs' → strBytes cs = some l → strBytes cs' = some l
  | [], _, l, h, hs => by rw [show _ = _ from h]; exact hs
  | c :: r, _, l, ⟨c', r', h1, h2, h3⟩, hs => by
    subst h1
    unfold strBytes at hs
    split at hs
    · simp at *
    · rename_i n s he
      simp only [List.cons.injEq] at he
      obtain ⟨rfl, rfl⟩ := he
      rw [show c' = _ from h2]
      obtain ⟨q, h4, rfl⟩ := Option.map_eq_some_iff.1 hs
      simp only [strBytes, strBytes_sim h3 h4, Option.map_some]
    · simp at hs

theorem pure_sim (hR : RelH β h h') (hT : ∀ t, rV β (T t) (T' t)) {o : AOp} (hc : o.cl = true) {v : AV} (hv : pureA o T h = some v) : ∃ v', pureA o T' h' = some v' ∧ rV β v v' := by
  cases o with
  | mov x =>
    simp only [pureA, Option.some.injEq] at hv ⊢
    subst hv
    exact ⟨_, rfl, rX hT hc⟩
  | pick c a b =>
    simp only [AOp.cl, Bool.and_eq_true] at hc
    simp only [pureA] at hv ⊢
    have hr := rX hT hc.1
    split at hv
    · rename_i t he
      rw [he] at hr
      rw [rV_bool hr]
      simp only [Option.some.injEq] at hv ⊢
      subst hv
      cases t
      · exact ⟨_, rfl, rX hT hc.2.2⟩
      · exact ⟨_, rfl, rX hT hc.2.1⟩
    · simp at hv
  | build z ps =>
    simp only [AOp.cl, Bool.and_eq_true] at hc
    simp only [pureA] at hv ⊢
    obtain ⟨cs, h1, rfl⟩ := Option.map_eq_some_iff.1 hv
    obtain ⟨cs', h2, h3⟩ := fill_sim hT hc.2 (cl_rL hc.1) h1
    exact ⟨_, by rw [h2]; rfl, cs', rfl, h3⟩
  | load k g x =>
    simp only [pureA] at hv ⊢
    have hr := rX hT (x := x) hc
    split at hv
    · rename_i a he
      rw [he] at hr
      obtain ⟨a', hr, ha⟩ := rV_ptr hr
      rw [hr]
      split at hv
      · rename_i cs hl
        obtain ⟨cs', h1, h2⟩ := hR.load ha hl
        simp only [h1]
        cases g with
        | true =>
          simp at hv
          subst hv
          exact ⟨_, rfl, cs', rfl, h2⟩
        | false =>
          simp only [Bool.false_eq_true, if_false] at hv ⊢
          split at hv
          · simp at hv
            subst hv
            obtain ⟨c', r', rfl, h3, h4⟩ := h2
            rw [show r' = _ from h4]
            exact ⟨_, rfl, c', rfl, h3⟩
          · simp at hv
      · simp at hv
    · simp at hv
  | nilCheck x =>
    simp only [pureA] at hv ⊢
    have hr := rX hT (x := x) hc
    split at hv
    · rename_i a he
      rw [he] at hr
      obtain ⟨a', hr2, ha⟩ := rV_ptr hr
      rw [hr2]
      simp at hv
      subst hv
      exact ⟨_, rfl, hr2 ▸ hr⟩
    · rename_i f c he
      rw [he] at hr
      obtain ⟨a', hr2, ha⟩ := rV_fn hr
      rw [hr2]
      simp at hv
      subst hv
      exact ⟨_, rfl, hr2 ▸ hr⟩
    · simp at hv
  | bin op x y =>
    simp only [AOp.cl, Bool.and_eq_true] at hc
    simp only [pureA] at hv ⊢
    obtain ⟨h1, h2⟩ := bin_sim (rX hT hc.1) (rX hT hc.2) hv
    exact ⟨v, h1, h2⟩
  | eqb n x y =>
    simp only [AOp.cl, Bool.and_eq_true] at hc
    simp only [pureA] at hv ⊢
    have hx := rX hT hc.1
    have hy := rX hT hc.2
    split at hv
    · rename_i a b e1 e2
      rw [e1] at hx
      rw [e2] at hy
      rw [rV_bool hx, rV_bool hy]
      simp at hv
      subst hv
      exact ⟨_, rfl, _, rfl, rfl⟩
    · simp at hv
  | eqst n ks x y =>
    simp only [AOp.cl, Bool.and_eq_true] at hc
    simp only [pureA] at hv ⊢
    have hx := rX hT hc.1
    have hy := rX hT hc.2
    split at hv
    · rename_i a b e1 e2
      rw [e1] at hx
      rw [e2] at hy
      obtain ⟨a', hx, ha⟩ := hx
      obtain ⟨b', hy, hb⟩ := hy
      rw [hx, hy]
      obtain ⟨r, h1, rfl⟩ := Option.map_eq_some_iff.1 hv
      simp only [eqK_sim ha hb h1, Option.map_some]
      exact ⟨_, rfl, _, rfl, rfl⟩
    · simp at hv
  | eqnil n x y =>
    simp only [AOp.cl, Bool.and_eq_true] at hc
    simp only [pureA] at hv ⊢
    have hx := rX hT hc.1
    have hy := rX hT hc.2
    split at hv
    · rename_i a m q m2 q2 e1 e2
      rw [e1] at hx
      rw [e2] at hy
      rw [rV_nil hy]
      simp at hv
      subst hv
      cases a with
      | none => rw [rV_nil hx]; exact ⟨_, rfl, _, rfl, rfl⟩
      | some p =>
        obtain ⟨p', hx, _⟩ := rV_sl hx
        rw [hx]
        exact ⟨_, rfl, _, rfl, rfl⟩
    · simp at hv
  | not x =>
    simp only [pureA] at hv ⊢
    have hx := rX hT (x := x) hc
    split at hv
    · rename_i b e1
      rw [e1] at hx
      rw [rV_bool hx]
      simp at hv
      subst hv
      exact ⟨_, rfl, _, rfl, rfl⟩
    · simp at hv
  | conv k x =>
    simp only [pureA] at hv ⊢
    have hx := rX hT (x := x) hc
    split at hv
    · rename_i b n e1
      rw [e1] at hx
      rw [rV_int hx]
      simp at hv
      subst hv
      exact ⟨_, rfl, _, rfl, rfl⟩
    · simp at hv
  | bytesStr x =>
    simp only [pureA] at hv ⊢
    have hx := rX hT (x := x) hc
    split at hv
    · rename_i a n q e1
      rw [e1] at hx
      obtain ⟨a', hx, ha⟩ := rV_sl hx
      rw [hx]
      split at hv
      · simp at hv
      · rename_i hn
        simp only [if_neg hn]
        split at hv
        · rename_i cs hl
          obtain ⟨cs', h1, h2⟩ := hR.load ha hl
          obtain ⟨l, h3, rfl⟩ := Option.map_eq_some_iff.1 hv
          simp only [h1, strBytes_sim h2 h3, Option.map_some]
          exact ⟨_, rfl, _, rfl, rfl⟩
        · simp at hv
    · simp at hv
  | mkfn f l =>
    simp only [pureA] at hv ⊢
    obtain ⟨cs, h1, rfl⟩ := Option.map_eq_some_iff.1 hv
    obtain ⟨cs', h2, h3⟩ := ptrs_sim (rXs hT hc) h1
    exact ⟨_, by rw [h2]; rfl, _, rfl, cs', rfl, h3⟩
  | slice ty size x lo hi mx =>
    simp only [AOp.cl, Bool.and_eq_true] at hc
    simp only [pureA] at hv ⊢
    have hx := rX hT hc.1
    split at hv
    · rename_i n c e1
      rw [e1] at hx
      rw [rV_nil hx]
      split at hv
      · rename_i l h1 m hb
        simp only [bounds_sim hT hc.2.1 hc.2.2.1 hc.2.2.2 hb]
        simp at hv
        subst hv
        exact ⟨_, rfl, _, rfl, rfl⟩
      · simp at hv
    · rename_i a n c e1
      rw [e1] at hx
      obtain ⟨a', hx, ha⟩ := rV_sl hx
      rw [hx]
      split at hv
      · rename_i l h1 m hb
        simp only [bounds_sim hT hc.2.1 hc.2.2.1 hc.2.2.2 hb]
        split at hv
        · rename_i hh
          obtain ⟨g1, g2, g3, g4, g5⟩ := hR.blk _ _ ha.1
          rw [if_pos ⟨g2, by rw [g3]; exact hh.2⟩]
          simp at hv
          subst hv
          exact ⟨_, rfl, _, rfl, _, rfl, ha.1, by rw [ha.2]⟩
        · simp at hv
      · simp at hv
    · simp at hv
  | sliceStr x lo hi =>
    simp only [AOp.cl, Bool.and_eq_true] at hc
    simp only [pureA] at hv ⊢
    have hx := rX hT hc.1
    split at hv
    · rename_i s e1
      rw [e1] at hx
      rw [rV_str hx]
      split at hv
      · rename_i l h1 m hb
        simp only [bounds_sim hT hc.2.1 hc.2.2 (mx := none) rfl hb]
        simp at hv
        subst hv
        exact ⟨_, rfl, _, rfl, rfl⟩
      · simp at hv
    · simp at hv
  | faddr off x =>
    simp only [pureA] at hv ⊢
    have hx := rX hT (x := x) hc
    split at hv
    · rename_i a e1
      rw [e1] at hx
      obtain ⟨a', hx, ha⟩ := rV_ptr hx
      rw [hx]
      simp at hv
      subst hv
      exact ⟨_, rfl, _, rfl, _, rfl, ha.1, by rw [ha.2]⟩
    · simp at hv
  | iaddr size x i =>
    simp only [AOp.cl, Bool.and_eq_true] at hc
    simp only [pureA] at hv ⊢
    have hx := rX hT hc.1
    have hy := rX hT hc.2
    split at hv
    · rename_i a n c k j e1 e2
      rw [e1] at hx
      rw [e2] at hy
      obtain ⟨a', hx, ha⟩ := rV_sl hx
      rw [hx, rV_int hy]
      split at hv
      · rename_i hj
        simp at hv
        subst hv
        simp only [if_pos hj]
        exact ⟨_, rfl, _, rfl, _, rfl, ha.1, by rw [ha.2]⟩
      · simp at hv
    · simp at hv
  | idxStr x i =>
    simp only [AOp.cl, Bool.and_eq_true] at hc
    simp only [pureA] at hv ⊢
    have hx := rX hT hc.1
    have hy := rX hT hc.2
    split at hv
    · rename_i s k j e1 e2
      rw [e1] at hx
      rw [e2] at hy
      rw [rV_str hx, rV_int hy]
      split at hv
      · rename_i hj
        split at hv
        · rename_i b hb
          simp at hv
          subst hv
          simp only [if_pos hj, hb]
          exact ⟨_, rfl, _, rfl, rfl⟩
        · simp at hv
      · simp at hv
    · simp at hv
  | field off k g x =>
    simp only [pureA] at hv ⊢
    have hx := rX hT (x := x) hc
    split at hv
    · rename_i cs e1
      rw [e1] at hx
      obtain ⟨cs', hx, hl⟩ := hx
      rw [hx]
      split at hv
      · rename_i hk
        simp only [hl.length, if_pos hk]
        cases g with
        | true =>
          simp at hv
          subst hv
          exact ⟨_, rfl, _, rfl, rL.take _ (rL.drop _ hl)⟩
        | false =>
          simp only [Bool.false_eq_true, if_false] at hv ⊢
          split at hv
          · rename_i c hcc
            simp at hv
            subst hv
            obtain ⟨c', h1, h2⟩ := rL.get hl hcc
            simp only [h1]
            exact ⟨_, rfl, c', rfl, h2⟩
          · simp at hv
      · simp at hv
    · simp at hv
  | extract x i =>
    simp only [pureA] at hv ⊢
    have hx := rX hT (x := x) hc
    split at hv
    · rename_i l e1
      rw [e1] at hx
      cases l with
      | nil => simp at hv
      | cons a l =>
        obtain ⟨l', hx, hl⟩ := hx
        rw [hx]
        have key : ∀ {l l' : List AV} {i : Nat} {v : AV}, rT β l l' → l[i]? = some v → ∃ v', l'[i]? = some v' ∧ rV β v v' := by
          intro l
          induction l with
          | nil => intro l' i v _ hv; simp at hv
          | cons a l ih =>
            intro l' i v hl hv
            obtain ⟨c', r', rfl, h2, h3⟩ := hl
            cases i with
            | zero => simp at hv; subst hv; exact ⟨c', rfl, h2.rV⟩
            | succ i =>
              obtain ⟨v', h4, h5⟩ := ih h3 (by simpa using hv)
              exact ⟨v', by simpa using h4, h5⟩
        exact key hl hv
    · simp at hv
  | len x =>
    simp only [pureA] at hv ⊢
    have hx := rX hT (x := x) hc
    split at hv
    · rename_i a n q e1
      rw [e1] at hx
      simp at hv
      subst hv
      cases a with
      | none => rw [rV_nil hx]; exact ⟨_, rfl, _, rfl, rfl⟩
      | some p =>
        obtain ⟨p', hx, _⟩ := rV_sl hx
        rw [hx]
        exact ⟨_, rfl, _, rfl, rfl⟩
    · simp at hv
  | lenStr x =>
    simp only [pureA] at hv ⊢
    have hx := rX hT (x := x) hc
    split at hv
    · rename_i s e1
      rw [e1] at hx
      rw [rV_str hx]
      simp at hv
      subst hv
      exact ⟨_, rfl, _, rfl, rfl⟩
    · simp at hv
  | cap x =>
    simp only [pureA] at hv ⊢
    have hx := rX hT (x := x) hc
    split at hv
    · rename_i a n q e1
      rw [e1] at hx
      simp at hv
      subst hv
      cases a with
      | none => rw [rV_nil hx]; exact ⟨_, rfl, _, rfl, rfl⟩
      | some p =>
        obtain ⟨p', hx, _⟩ := rV_sl hx
        rw [hx]
        exact ⟨_, rfl, _, rfl, rfl⟩
    · simp at hv
  | min x y =>
    simp only [AOp.cl, Bool.and_eq_true] at hc
    simp only [pureA] at hv ⊢
    have hx := rX hT hc.1
    have hy := rX hT hc.2
    split at hv
    · rename_i k a k' b e1 e2
      rw [e1] at hx
      rw [e2] at hy
      rw [rV_int hx, rV_int hy]
      split at hv
      · rename_i hk
        simp at hv
        subst hv
        simp only [if_pos hk]
        exact ⟨_, rfl, _, rfl, rfl⟩
      · simp at hv
    · simp at hv
  | alloc _ _ | box _ _ | buildSlice _ _ _ _ | mkslice _ _ _ _ _ | store _ _ _ | call _ _ | callv _ _ | append _ _ _ _ _ | appz _ _ _ _ _ _ | clr _ _ => simp [pureA] at hv
end
end Go.Proofs.YtoeceafibmafpaaDoor.Am
/-! The second machine: operations with effect against those of the first one; a function's own store. -/
namespace Go.Proofs.YtoeceafibmafpaaDoor.Am
open Go

/-- A call of the second machine's is one of the first one's. -/
def Sim (call2 call : Oracle) : Prop := ∀ f args h r h1, call2 f args h = some (r, h1) → ∀ β h' args', RelH β h h' → rVs β args args' →
  ∃ β1 r' h1', call f args' h' = some (r', h1') ∧ RelH β1 h1 h1' ∧ rV β1 r r' ∧ Fr β h' β1 h1'

section
variable {β : Re} {h h' : H} {T T' : Tm}

theorem repl_sim {z z' : List CV} (hz : rL β z z') : ∀ n, rL β (repl z n) (repl z' n)
  | 0 => rfl
  | n + 1 => hz.append (repl_sim hz n)
theorem caps_map : ∀ {l l' : List (Nat × Nat)}, rCaps β l l' → rVs β (l.map fun a => .one (.ptr (some a))) (l'.map fun a => .one (.ptr (some a)))
  | [], _, h => by rw [show _ = _ from h]; rfl
  | a :: l, _, ⟨a', r', h1, h2, h3⟩ => by
    rw [h1]
    exact ⟨_, _, rfl, ⟨_, rfl, a', rfl, h2⟩, caps_map h3⟩
theorem rVs.append : ∀ {l l' m m' : List AV}, rVs β l l' → rVs β m m' → rVs β (l ++ m) (l' ++ m')
  | [], _, _, _, h, k => by rw [show _ = _ from h]; exact k
  | _ :: _, _, _, _, ⟨a', r', h1, h2, h3⟩, k => by rw [h1]; exact ⟨a', r' ++ _, rfl, h2, rVs.append h3 k⟩

theorem append_sim (hR : RelH β h h') {ty size bytes : Nat} {s x s' x' v : AV} {h1 : H} (hs : rV β s s') (hx : rV β x x') (hv : appendA ty size bytes s x h = some (v, h1)) :
    ∃ β1 v' h1', appendA ty size bytes s' x' h' = some (v', h1') ∧ RelH β1 h1 h1' ∧ rV β1 v v' ∧ Fr β h' β1 h1' := by
  unfold appendA at hv
  split at hv
  · rename_i base n c xb m xc
    have fs : ∃ base', s' = .one (.sl base' n c) ∧ (∀ a, base = some a → ∃ a', base' = some a' ∧ rA β a a') ∧ (base = none → base' = none) := by
      cases base with
      | none => exact ⟨none, rV_nil hs, fun a ha => by simp at ha, fun _ => rfl⟩
      | some a =>
        obtain ⟨a', h2, h3⟩ := rV_sl hs
        exact ⟨some a', h2, fun b hb => by simp at hb; subst hb; exact ⟨a', rfl, h3⟩, fun h => by simp at h⟩
    have fx : ∃ xb', x' = .one (.sl xb' m xc) := by
      cases xb with
      | none => exact ⟨none, rV_nil hx⟩
      | some a => obtain ⟨a', h2, h3⟩ := rV_sl hx; exact ⟨_, h2⟩
    obtain ⟨base', rfl, fb, fn⟩ := fs
    obtain ⟨xb', rfl⟩ := fx
    simp only [appendA]
    split at hv
    · rename_i hm
      simp only [if_pos hm]
      simp only [Option.some.injEq, Prod.mk.injEq] at hv
      obtain ⟨rfl, rfl⟩ := hv
      exact ⟨β, _, _, rfl, hR, hs, Fr.refl β h'⟩
    · rename_i hm
      simp only [if_neg hm]
      split at hv
      · simp at hv
      · rename_i hb
        simp only [if_neg hb]
        split at hv
        · rename_i old new ho hn
          obtain ⟨old', ho', hol⟩ := hR.src hs ho
          obtain ⟨new', hn', hnl⟩ := hR.src hx hn
          rw [ho', hn']
          simp only
          split at hv
          · rename_i c'
            split at hv
            · rename_i hle
              simp only [if_pos hle]
              split at hv
              · rename_i a
                obtain ⟨a', rfl, ha⟩ := fb a rfl
                simp only
                obtain ⟨g1, g2, g3, g4, g5⟩ := hR.blk _ _ ha.1
                split at hv
                · rename_i hty
                  rw [if_pos (by rw [g3]; exact hty)]
                  obtain ⟨h2, hst, he⟩ := Option.map_eq_some_iff.1 hv
                  simp only [Prod.mk.injEq] at he
                  obtain ⟨rfl, rfl⟩ := he
                  obtain ⟨h3, k1, k2, k3⟩ := hR.store (a := (a.1, a.2 + n * size)) (a' := (a'.1, a'.2 + n * size)) ⟨ha.1, by rw [ha.2]⟩ hnl hst
                  rw [k1]
                  exact ⟨β, _, _, rfl, k2, ⟨_, rfl, a', rfl, ha⟩, k3⟩
                · simp at hv
              · simp at hv
            · rename_i hle
              simp only [if_neg hle]
              simp only [Option.some.injEq, Prod.mk.injEq] at hv
              obtain ⟨rfl, rfl⟩ := hv
              obtain ⟨k1, k2⟩ := hR.alloc ty (hol.append hnl)
              exact ⟨_, _, _, rfl, k1, ⟨_, rfl, _, rfl, by simp [Re.put], rfl⟩, k2⟩
          · split at hv
            · rename_i a
              obtain ⟨a', rfl, ha⟩ := fb a rfl
              simp only
              obtain ⟨g1, g2, g3, g4, g5⟩ := hR.blk _ _ ha.1
              split at hv
              · rename_i hrw
                rw [if_pos ⟨by rw [g4]; exact hrw.1, by rw [g3]; exact hrw.2⟩]
                simp only [Option.some.injEq, Prod.mk.injEq] at hv
                obtain ⟨rfl, rfl⟩ := hv
                obtain ⟨k1, k2⟩ := hR.kill ha.1
                obtain ⟨k3, k4⟩ := k1.alloc ty (hol.append hnl)
                exact ⟨_, _, _, rfl, k3, ⟨_, rfl, _, rfl, by simp [Re.put, H.kill, H.setBlk], rfl⟩, k2.trans k4⟩
              · simp at hv
            · simp at hv
        · simp at hv
  · simp at hv

theorem op_sim {call2 call : Oracle} (hcall : Sim call2 call) (hR : RelH β h h') (hT : ∀ t, rV β (T t) (T' t)) {o : AOp} (hc : o.cl = true) {v : AV} {h1 : H} (hv : opA call2 o T h = some (v, h1)) :
    ∃ β1 v' h1', opA call o T' h' = some (v', h1') ∧ RelH β1 h1 h1' ∧ rV β1 v v' ∧ Fr β h' β1 h1' := by
  have laid : ∀ {cs cs' : List CV} {ty : Nat} {mk : Nat → CV}, rL β cs cs' → (∀ β' i i', β' i = some i' → rC β' (mk i) (mk i')) → v = .one (mk h.n) → h1 = h.alloc cs ty →
      ∃ β1 v' h1', some (AV.one (mk h'.n), h'.alloc cs' ty) = some (v', h1') ∧ RelH β1 h1 h1' ∧ rV β1 v v' ∧ Fr β h' β1 h1' := by
    intro cs cs' ty mk hl hmk h2 h3
    subst h2
    subst h3
    obtain ⟨k1, k2⟩ := hR.alloc ty hl
    exact ⟨_, _, _, rfl, k1, ⟨_, rfl, hmk _ _ _ (by simp [Re.put])⟩, k2⟩
  cases o with
  | alloc ty z =>
    simp only [opA, Option.some.injEq, Prod.mk.injEq] at hv
    exact laid (mk := fun i => .ptr (some (i, 0))) (cl_rL hc) (fun β' i i' h => ⟨_, rfl, h, rfl⟩) hv.1.symm hv.2.symm
  | box ty x =>
    simp only [opA] at hv ⊢
    split at hv
    · rename_i cs hcs
      obtain ⟨cs', h2, h3⟩ := (rX hT (x := x) hc).cells hcs
      rw [h2]
      simp only [Option.some.injEq, Prod.mk.injEq] at hv
      exact laid (mk := fun i => .ptr (some (i, 0))) h3 (fun β' i i' h => ⟨_, rfl, h, rfl⟩) hv.1.symm hv.2.symm
    · simp at hv
  | buildSlice ty len z ps =>
    simp only [AOp.cl, Bool.and_eq_true] at hc
    simp only [opA] at hv ⊢
    split at hv
    · rename_i cs hf
      obtain ⟨cs', h2, h3⟩ := fill_sim hT hc.2 (repl_sim (cl_rL hc.1) len) hf
      rw [h2]
      simp only [Option.some.injEq, Prod.mk.injEq] at hv
      exact laid (mk := fun i => .sl (some (i, 0)) len (some len)) h3 (fun β' i i' h => ⟨_, rfl, h, rfl⟩) hv.1.symm hv.2.symm
    · simp at hv
  | mkslice ty bytes z l c =>
    simp only [AOp.cl, Bool.and_eq_true] at hc
    simp only [opA] at hv ⊢
    have hx := rX hT hc.2.1
    have hy := rX hT hc.2.2
    split at hv
    · rename_i ln cn e1 e2
      rw [e1] at hx
      rw [e2] at hy
      rw [rV_int hx, rV_int hy]
      split at hv
      · rename_i hh
        simp only [if_pos hh]
        simp only [Option.some.injEq, Prod.mk.injEq] at hv
        exact laid (mk := fun i => .sl (some (i, 0)) ln.toNat (some cn.toNat)) (repl_sim (cl_rL hc.1) _) (fun β' i i' h => ⟨_, rfl, h, rfl⟩) hv.1.symm hv.2.symm
      · simp at hv
    · simp at hv
  | appz ty k bytes z s x =>
    simp only [AOp.cl, Bool.and_eq_true] at hc
    simp only [opA] at hv ⊢
    have hx := rX hT hc.2.1
    have hy := rX hT hc.2.2
    split at hv
    · rename_i m c n e1 e2
      rw [e1] at hx
      rw [e2] at hy
      rw [rV_nil hx, rV_int hy]
      split at hv
      · rename_i hh
        simp only [if_pos hh]
        simp only [Option.some.injEq, Prod.mk.injEq] at hv
        exact laid (mk := fun i => .sl (some (i, 0)) n.toNat none) (repl_sim (cl_rL hc.1) _) (fun β' i i' h => ⟨_, rfl, h, rfl⟩) hv.1.symm hv.2.symm
      · simp at hv
    · simp at hv
  | store k x y =>
    simp only [AOp.cl, Bool.and_eq_true] at hc
    simp only [opA] at hv ⊢
    have hx := rX hT hc.1
    have hy := rX hT hc.2
    split at hv
    · rename_i a cs e1 e2
      rw [e1] at hx
      obtain ⟨a', hx, ha⟩ := rV_ptr hx
      obtain ⟨cs', h2, h3⟩ := hy.cells e2
      rw [hx, h2]
      simp only
      split at hv
      · rename_i hl
        rw [if_pos (by rw [h3.length]; exact hl)]
        obtain ⟨h4, hst, he⟩ := Option.map_eq_some_iff.1 hv
        simp only [Prod.mk.injEq] at he
        obtain ⟨rfl, rfl⟩ := he
        obtain ⟨h5, k1, k2, k3⟩ := hR.store ha h3 hst
        rw [k1]
        exact ⟨β, _, _, rfl, k2, rV_undef, k3⟩
      · simp at hv
    · simp at hv
  | clr z x =>
    simp only [AOp.cl, Bool.and_eq_true] at hc
    simp only [opA] at hv ⊢
    have hx := rX hT hc.2
    split at hv
    · rename_i a n c e1
      rw [e1] at hx
      obtain ⟨a', hx, ha⟩ := rV_sl hx
      rw [hx]
      simp only
      split at hv
      · simp at hv
      · rename_i hn
        rw [if_neg hn]
        obtain ⟨h4, hst, he⟩ := Option.map_eq_some_iff.1 hv
        simp only [Prod.mk.injEq] at he
        obtain ⟨rfl, rfl⟩ := he
        obtain ⟨h5, k1, k2, k3⟩ := hR.store ha (repl_sim (cl_rL hc.1) n) hst
        rw [k1]
        exact ⟨β, _, _, rfl, k2, rV_undef, k3⟩
    · simp at hv
  | append ty size bytes s x =>
    simp only [AOp.cl, Bool.and_eq_true] at hc
    exact append_sim hR (rX hT hc.1) (rX hT hc.2) hv
  | call f l => exact hcall f _ h v h1 hv β h' _ hR (rXs hT hc)
  | callv x l =>
    simp only [AOp.cl, Bool.and_eq_true] at hc
    simp only [opA] at hv ⊢
    have hx := rX hT hc.1
    split at hv
    · rename_i f caps e1
      rw [e1] at hx
      obtain ⟨caps', hx, hl⟩ := rV_fn hx
      rw [hx]
      exact hcall f _ h v h1 hv β h' _ hR ((rXs hT hc.2).append (caps_map hl))
    · simp at hv
  | _ =>
    simp only [opA] at hv ⊢
    obtain ⟨u, h2, h3⟩ := Option.map_eq_some_iff.1 hv
    simp only [Prod.mk.injEq] at h3
    obtain ⟨rfl, rfl⟩ := h3
    obtain ⟨v', k1, k2⟩ := pure_sim hR hT hc h2
    rw [k1]
    exact ⟨β, v', h', rfl, hR, k2, Fr.refl β h'⟩
end

/-! ### a function's own store -/
/-- Which block of the first machine is behind a slot. -/
def rB (β ν : Re) : BV → AV → Prop
  | .v a, a' => rV β a a'
  | .lp t o, a' => ∃ b', ν t = some b' ∧ a' = .one (.ptr (some (b', o)))
structure RelS (β ν : Re) (T : Tb) (L : Lb) (h : H) (T' : Tm) (h' : H) : Prop where
  heap : RelH β h h'
  tmp : ∀ t, rB β ν (T t) (T' t)
  loc : ∀ t b', ν t = some b' → b' < h'.n ∧ (h'.f b').st = .rw ∧ (h'.f b').ty = (L t).1 ∧ rL β (L t).2 (h'.f b').cs ∧ ∀ b, β b ≠ some b'
  linj : ∀ s t x, ν s = some x → ν t = some x → s = t
/-- A block of the first machine's that the second one has. -/
def Own2 (β ν : Re) (b' : Nat) : Prop := (∃ b, β b = some b') ∨ ∃ t, ν t = some b'
structure FrS (β ν : Re) (h' : H) (β1 ν1 : Re) (h1' : H) : Prop where
  ext : Ex2 β β1
  n : h'.n ≤ h1'.n
  keep : ∀ b', b' < h'.n → ¬ Own2 β ν b' → h1'.f b' = h'.f b'
  new : ∀ b', Own2 β1 ν1 b' → Own2 β ν b' ∨ h'.n ≤ b'
theorem FrS.refl (β ν : Re) (h' : H) : FrS β ν h' β ν h' := ⟨Ex2.refl β, Nat.le_refl _, fun _ _ _ => rfl, fun _ h => .inl h⟩
theorem FrS.trans {β ν β1 ν1 β2 ν2 : Re} {h h1 h2 : H} (a : FrS β ν h β1 ν1 h1) (b : FrS β1 ν1 h1 β2 ν2 h2) : FrS β ν h β2 ν2 h2 := by
  refine ⟨a.ext.trans b.ext, Nat.le_trans a.n b.n, fun b' hb hn => ?_, fun b' hi => ?_⟩
  · rw [b.keep b' (Nat.lt_of_lt_of_le hb a.n) (fun hi => ?_)]
    · exact a.keep b' hb hn
    · rcases a.new b' hi with hj | hj
      · exact hn hj
      · omega
  · rcases b.new b' hi with hj | hj
    · exact a.new b' hj
    · exact .inr (Nat.le_trans a.n hj)

section
variable {β ν : Re} {T : Tb} {L : Lb} {h h' : H} {T' : Tm}

theorem RelS.av (hS : RelS β ν T L h T' h') : ∀ t, rV β (T.av t) (T' t) := by
  intro t
  have := hS.tmp t
  unfold Tb.av
  cases hT : T t with
  | v a => rw [hT] at this; exact this
  | lp s o => rw [hT] at this; obtain ⟨b', _, h2⟩ := this; rw [h2]; exact rV_ptrU
theorem RelS.bx (hS : RelS β ν T L h T' h') {x : AX} (hc : x.cl = true) : rB β ν (x.bv T) (x.ev T') := by
  cases x with
  | t n => exact hS.tmp n
  | c u => exact ⟨u, rfl, cl_rC hc⟩
theorem rB.av {x : BV} {a : AV} (hb : rB β ν x a) : rV β x.av a := by
  cases x with
  | v a => exact hb
  | lp t o => obtain ⟨b', _, h2⟩ := hb; rw [h2]; exact rV_ptrU
theorem RelS.put (hS : RelS β ν T L h T' h') {d : Option Nat} {x : BV} {a : AV} (hx : rB β ν x a) : RelS β ν (T.put d x) L h (T'.put d a) h' := by
  refine ⟨hS.heap, fun t => ?_, hS.loc, hS.linj⟩
  cases d with
  | none => exact hS.tmp t
  | some d =>
    simp only [Tb.put, Tm.put]
    by_cases ht : t = d
    · simp only [if_pos ht]; exact hx
    · simp only [if_neg ht]; exact hS.tmp t

/-- The heap moves on. -/
theorem RelS.move (hS : RelS β ν T L h T' h') {β1 : Re} {h1 h1' : H} (hR : RelH β1 h1 h1') (hF : Fr β h' β1 h1') : RelS β1 ν T L h1 T' h1' ∧ FrS β ν h' β1 ν h1' := by
  refine ⟨⟨hR, fun t => ?_, fun t b' ht => ?_, hS.linj⟩, hF.ext, hF.n, fun b' hb hn => hF.keep b' hb fun b hbb => hn (.inl ⟨b, hbb⟩), fun b' hb => ?_⟩
  · have := hS.tmp t
    cases hT : T t with
    | v a => rw [hT] at this; exact rV.mono hF.ext this
    | lp s o => rw [hT] at this; exact this
  · obtain ⟨h2, h3, h4, h5, h6⟩ := hS.loc t b' ht
    rw [hF.keep b' h2 h6]
    refine ⟨Nat.lt_of_lt_of_le h2 hF.n, h3, h4, rL.mono hF.ext h5, fun b hb => ?_⟩
    rcases hF.new b b' hb with ⟨a, ha⟩ | ha
    · exact h6 a ha
    · omega
  · rcases hb with ⟨b, hb⟩ | hb
    · rcases hF.new b b' hb with ha | ha
      · exact .inl (.inl ha)
      · exact .inr ha
    · exact .inl (.inr hb)

theorem RelS.gen {call2 call : Oracle} (hcall : Sim call2 call) (hS : RelS β ν T L h T' h') {o : AOp} (hc : o.cl = true) {d : Option Nat} {T1 : Tb} {L1 : Lb} {h1 : H} (hv : genB call2 o d T L h = some (T1, L1, h1)) :
    ∃ β1 ν1 v' h1', opA call o T' h' = some (v', h1') ∧ RelS β1 ν1 T1 L1 h1 (T'.put d v') h1' ∧ FrS β ν h' β1 ν1 h1' := by
  unfold genB at hv
  obtain ⟨r, h2, h3⟩ := Option.map_eq_some_iff.1 hv
  simp only [Prod.mk.injEq] at h3
  obtain ⟨rfl, rfl, rfl⟩ := h3
  obtain ⟨β1, v', h1', k1, k2, k3, k4⟩ := op_sim hcall hS.heap hS.av hc h2
  obtain ⟨k5, k6⟩ := hS.move k2 k4
  exact ⟨β1, ν, v', h1', k1, k5.put k3, k6⟩

/-- Something new of the function's own. -/
theorem RelS.own (hS : RelS β ν T L h T' h') {t ty : Nat} {cs cs' : List CV} (hc : rL β cs cs') :
    RelS β (ν.put t h'.n) ((T.kill t).put (some t) (.lp t 0)) (L.put t (ty, cs)) h (T'.put (some t) (.one (.ptr (some (h'.n, 0))))) (h'.alloc cs' ty) ∧ FrS β ν h' β (ν.put t h'.n) (h'.alloc cs' ty) := by
  have old : ∀ b', b' < h'.n → (h'.alloc cs' ty).f b' = h'.f b' := fun b' hb => alloc_f_old (by omega)
  have hlt : ∀ b b', β b = some b' → b' < h'.n := fun b b' hb => (hS.heap.blk b b' hb).2.1
  refine ⟨⟨⟨?_, hS.heap.inj⟩, ?_, ?_, ?_⟩, Ex2.refl β, Nat.le_succ _, fun b' hb _ => old b' hb, ?_⟩
  · intro b b' hb
    obtain ⟨g1, g2, g3, g4, g5⟩ := hS.heap.blk b b' hb
    rw [old b' g2]
    exact ⟨g1, Nat.lt_succ_of_lt g2, g3, g4, g5⟩
  · intro s
    simp only [Tb.put, Tm.put]
    by_cases hs : s = t
    · simp only [if_pos hs]
      exact ⟨h'.n, by simp [Re.put], rfl⟩
    · simp only [if_neg hs, Tb.kill]
      have := hS.tmp s
      cases hT : T s with
      | v a => rw [hT] at this; exact this
      | lp u o =>
        rw [hT] at this
        simp only [BV.kill]
        split
        · obtain ⟨b', h1, h2⟩ := this
          rw [h2]
          exact rV_ptrU (β := β)
        · rename_i hu
          obtain ⟨b', h1, h2⟩ := this
          exact ⟨b', by simp [Re.put, hu, h1], h2⟩
  · intro s b' hs
    by_cases hst : s = t
    · subst hst
      simp [Re.put] at hs
      subst hs
      rw [alloc_f_new, show (L.put s (ty, cs)) s = (ty, cs) by simp [Lb.put]]
      exact ⟨Nat.lt_succ_self _, rfl, rfl, hc, fun b hb => by have := hlt b _ hb; omega⟩
    · simp [Re.put, hst] at hs
      obtain ⟨h2, h3, h4, h5, h6⟩ := hS.loc s b' hs
      rw [old b' h2]
      simp only [Lb.put, if_neg hst]
      exact ⟨Nat.lt_succ_of_lt h2, h3, h4, h5, h6⟩
  · intro s u x hs hu
    by_cases hst : s = t <;> by_cases hut : u = t
    · rw [hst, hut]
    · subst hst
      simp [Re.put] at hs
      simp [Re.put, hut] at hu
      have := (hS.loc u x hu).1
      omega
    · subst hut
      simp [Re.put] at hu
      simp [Re.put, hst] at hs
      have := (hS.loc s x hs).1
      omega
    · simp [Re.put, hst] at hs
      simp [Re.put, hut] at hu
      exact hS.linj s u x hs hu
  · intro b' hb
    rcases hb with hb | ⟨s, hs⟩
    · exact .inl (.inl hb)
    · by_cases hst : s = t
      · subst hst
        simp [Re.put] at hs
        exact .inr (by omega)
      · simp [Re.put, hst] at hs
        exact .inl (.inr ⟨s, hs⟩)

/-- It comes to lie on the heap. -/
theorem RelS.pro (hS : RelS β ν T L h T' h') {t b' : Nat} (ht : ν t = some b') :
    RelS (β.put h.n b') (fun s => if s = t then none else ν s) (T.pro t h.n) L (h.alloc (L t).2 (L t).1) T' h' ∧ FrS β ν h' (β.put h.n b') (fun s => if s = t then none else ν s) h' := by
  have h0 := hS.heap.none (Nat.le_refl h.n)
  have e := Re.put_ext (p := b') h0
  obtain ⟨g1, g2, g3, g4, g5⟩ := hS.loc t b' ht
  refine ⟨⟨⟨?_, ?_⟩, ?_, ?_, ?_⟩, e, Nat.le_refl _, fun _ _ _ => rfl, ?_⟩
  · intro b x hb
    by_cases hbn : b = h.n
    · subst hbn
      simp [Re.put] at hb
      subst hb
      rw [alloc_f_new]
      exact ⟨Nat.lt_succ_self _, g1, g3, g2, fun _ => rL.mono e g4⟩
    · simp [Re.put, hbn] at hb
      obtain ⟨k1, k2, k3, k4, k5⟩ := hS.heap.blk b x hb
      rw [alloc_f_old (by omega)]
      exact ⟨Nat.lt_succ_of_lt k1, k2, k3, k4, fun h => rL.mono e (k5 h)⟩
  · intro a b x ha hb
    by_cases han : a = h.n <;> by_cases hbn : b = h.n
    · rw [han, hbn]
    · subst han
      simp [Re.put] at ha
      simp [Re.put, hbn] at hb
      subst ha
      exact absurd hb (g5 b)
    · subst hbn
      simp [Re.put] at hb
      simp [Re.put, han] at ha
      subst hb
      exact absurd ha (g5 a)
    · simp [Re.put, han] at ha
      simp [Re.put, hbn] at hb
      exact hS.heap.inj a b x ha hb
  · intro s
    have := hS.tmp s
    simp only [Tb.pro]
    cases hT : T s with
    | v a => rw [hT] at this; exact rV.mono e this
    | lp u o =>
      rw [hT] at this
      obtain ⟨x, h1, h2⟩ := this
      simp only [BV.pro]
      split
      · rename_i hu
        subst hu
        rw [ht] at h1
        simp at h1
        subst h1
        exact ⟨_, h2, _, rfl, by simp [Re.put], rfl⟩
      · rename_i hu
        exact ⟨x, by simp [hu, h1], h2⟩
  · intro s x hs
    by_cases hst : s = t
    · simp [hst] at hs
    · simp [hst] at hs
      obtain ⟨h2, h3, h4, h5, h6⟩ := hS.loc s x hs
      refine ⟨h2, h3, h4, rL.mono e h5, fun b hb => ?_⟩
      by_cases hbn : b = h.n
      · subst hbn
        simp [Re.put] at hb
        subst hb
        exact hst (hS.linj s t b' hs ht)
      · simp [Re.put, hbn] at hb
        exact h6 b hb
  · intro s u x hs hu
    by_cases hst : s = t
    · simp [hst] at hs
    · by_cases hut : u = t
      · simp [hut] at hu
      · simp [hst] at hs
        simp [hut] at hu
        exact hS.linj s u x hs hu
  · intro x hx
    rcases hx with ⟨b, hb⟩ | ⟨s, hs⟩
    · by_cases hbn : b = h.n
      · subst hbn
        simp [Re.put] at hb
        subst hb
        exact .inl (.inr ⟨t, ht⟩)
      · simp [Re.put, hbn] at hb
        exact .inl (.inl ⟨b, hb⟩)
    · by_cases hst : s = t
      · simp [hst] at hs
      · simp [hst] at hs
        exact .inl (.inr ⟨s, hs⟩)

theorem RelS.proA : ∀ (l : List AX) {β ν : Re} {T : Tb} {h : H}, l.all AX.cl = true → RelS β ν T L h T' h' → ∃ β1 ν1, RelS β1 ν1 (Am.proA l T L h).1 L (Am.proA l T L h).2 T' h' ∧ FrS β ν h' β1 ν1 h'
  | [], β, ν, T, h, _, hS => ⟨β, ν, hS, FrS.refl β ν h'⟩
  | x :: l, β, ν, T, h, hc, hS => by
    simp only [List.all_cons, Bool.and_eq_true] at hc
    unfold Am.proA
    have hx := hS.bx hc.1
    cases hb : x.bv T with
    | v a => exact RelS.proA l hc.2 hS
    | lp t o =>
      rw [hb] at hx
      obtain ⟨b', h1, _⟩ := hx
      obtain ⟨k1, k2⟩ := hS.pro h1
      obtain ⟨β1, ν1, k3, k4⟩ := RelS.proA l hc.2 k1
      exact ⟨β1, ν1, k3, k2.trans k4⟩

theorem RelS.storeL (hS : RelS β ν T L h T' h') {t b' off k : Nat} {vs vs' cs : List CV} (ht : ν t = some b') (hv : rL β vs vs') (hs : Am.storeL (L t).2 off k vs = some cs) :
    vs'.length = k ∧ ∃ h1', h'.store (b', off) vs' = some h1' ∧ RelS β ν T (L.put t ((L t).1, cs)) h T' h1' ∧ FrS β ν h' β ν h1' := by
  obtain ⟨g1, g2, g3, g4, g5⟩ := hS.loc t b' ht
  unfold Am.storeL at hs
  split at hs
  · rename_i hc
    simp only [Option.some.injEq] at hs
    subst hs
    refine ⟨by rw [hv.length]; exact hc.1, ?_⟩
    unfold H.store
    rw [if_pos ⟨g2, by show off + vs'.length ≤ (h'.f b').cs.length; rw [hv.length, g4.length, hc.1]; exact hc.2⟩]
    refine ⟨_, rfl, ⟨⟨fun b x hb => ?_, hS.heap.inj⟩, hS.tmp, fun s x hx => ?_, hS.linj⟩, Ex2.refl β, Nat.le_refl _, fun x hx hn => ?_, fun x hx => .inl hx⟩
    · have hne : x ≠ b' := fun e => g5 b (by rw [hb, e])
      rw [setBlk_f, if_neg hne]
      exact hS.heap.blk b x hb
    · by_cases hst : s = t
      · subst hst
        rw [ht] at hx
        simp at hx
        subst hx
        rw [setBlk_f, if_pos rfl]
        simp only [Lb.put, if_true]
        refine ⟨g1, g2, g3, ?_, g5⟩
        rw [hv.length, hc.1]
        exact rL.append (rL.take _ g4) (rL.append hv (rL.drop _ g4))
      · have hne : x ≠ b' := fun e => hst (hS.linj s t b' (by rw [hx, e]) ht)
        rw [setBlk_f, if_neg hne]
        simp only [Lb.put, if_neg hst]
        exact hS.loc s x hx
    · rw [setBlk_f, if_neg (fun e => hn (.inr ⟨t, by rw [ht, e]⟩))]
  · simp at hs
theorem RelS.loadL (hS : RelS β ν T L h T' h') {t b' off k : Nat} {g : Bool} {v : AV} (ht : ν t = some b') (hl : Am.loadL (L t).2 off k g = some v) :
    ∃ v', (match h'.load (b', off) k with | some cs => (if g then some (.agg cs) else match cs with | [c] => some (.one c) | _ => none) | none => none) = some v' ∧ rV β v v' := by
  obtain ⟨g1, g2, g3, g4, g5⟩ := hS.loc t b' ht
  unfold Am.loadL at hl
  split at hl
  · rename_i hk
    unfold H.load
    rw [if_pos ⟨⟨g1, by rw [g2]; simp⟩, by show off + k ≤ (h'.f b').cs.length; rw [g4.length]; exact hk⟩]
    have hr := rL.take k (rL.drop off g4)
    cases g with
    | true =>
      simp at hl
      subst hl
      exact ⟨_, rfl, _, rfl, hr⟩
    | false =>
      simp only [Bool.false_eq_true, if_false] at hl ⊢
      split at hl
      · rename_i c hcs
        simp at hl
        subst hl
        rw [hcs] at hr
        obtain ⟨c', r', h1, h2, h3⟩ := hr
        rw [show r' = _ from h3] at h1
        rw [h1]
        exact ⟨_, rfl, _, rfl, h2⟩
      · simp at hl
  · simp at hl
end
end Go.Proofs.YtoeceafibmafpaaDoor.Am
/-! The second machine: code and calls against those of the first one. -/
namespace Go.Proofs.YtoeceafibmafpaaDoor.Am
open Go

section
variable {β ν : Re} {T : Tb} {L : Lb} {h h' : H} {T' : Tm}

theorem pureB_sim (hS : RelS β ν T L h T' h') {o : AOp} (hc : o.cl = true) {v : BV} (hv : pureB o T L h = some v) : ∃ v', pureA o T' h' = some v' ∧ rB β ν v v' := by
  have gen : ∀ {v}, (pureA o T.av h).map BV.v = some v → ∃ v', pureA o T' h' = some v' ∧ rB β ν v v' := by
    intro v hv
    obtain ⟨u, h1, rfl⟩ := Option.map_eq_some_iff.1 hv
    exact pure_sim hS.heap hS.av hc h1
  cases o with
  | mov x =>
    simp only [pureB, Option.some.injEq] at hv
    subst hv
    exact ⟨_, rfl, hS.bx hc⟩
  | load k g x =>
    simp only [pureB] at hv
    have hx := hS.bx (x := x) hc
    split at hv
    · rename_i t off he
      rw [he] at hx
      obtain ⟨b', h1, h2⟩ := hx
      obtain ⟨u, h3, rfl⟩ := Option.map_eq_some_iff.1 hv
      obtain ⟨v', h4, h5⟩ := hS.loadL h1 h3
      exact ⟨v', by simp only [pureA, h2]; exact h4, h5⟩
    · exact gen hv
  | nilCheck x =>
    simp only [pureB] at hv
    have hx := hS.bx (x := x) hc
    split at hv
    · rename_i t off he
      rw [he] at hx
      obtain ⟨b', h1, h2⟩ := hx
      simp only [Option.some.injEq] at hv
      subst hv
      exact ⟨_, by simp only [pureA, h2], b', h1, rfl⟩
    · exact gen hv
  | faddr off x =>
    simp only [pureB] at hv
    have hx := hS.bx (x := x) hc
    split at hv
    · rename_i t o he
      rw [he] at hx
      obtain ⟨b', h1, h2⟩ := hx
      simp only [Option.some.injEq] at hv
      subst hv
      exact ⟨_, by simp only [pureA, h2], b', h1, rfl⟩
    · exact gen hv
  | _ => exact gen hv

theorem rV.fn {a x y : AV} (ha : a.same a = true) (h : rV β a x) (k : rV β a y) : x = y := by
  cases a with
  | one c =>
    obtain ⟨c', rfl, h2⟩ := h
    obtain ⟨d', rfl, k2⟩ := k
    rw [rC.fn (Ex2.refl β) h2 k2]
  | agg c =>
    obtain ⟨c', rfl, h2⟩ := h
    obtain ⟨d', rfl, k2⟩ := k
    rw [rL.fn (Ex2.refl β) h2 k2]
  | tup l => simp [AV.same] at ha
theorem same_eq2 {a b : AV} (h : a.same b = true) : a = b ∧ a.same a = true := by
  cases a <;> cases b <;> simp [AV.same] at h ⊢ <;> exact h
theorem same_sim {v u : BV} {a b : AV} (hs : v.same u = true) (ha : rB β ν v a) (hb : rB β ν u b) : a.same b = true := by
  cases v with
  | lp t o => simp [BV.same] at hs
  | v x =>
    cases u with
    | lp t o => simp [BV.same] at hs
    | v y =>
      simp only [BV.same] at hs
      obtain ⟨rfl, h2⟩ := same_eq2 hs
      obtain rfl := rV.fn h2 ha hb
      cases x with
      | one c => obtain ⟨c', rfl, _⟩ := ha; simp [AV.same]
      | agg c => obtain ⟨c', rfl, _⟩ := ha; simp [AV.same]
      | tup l => simp [AV.same] at h2
theorem want_sim (hS : RelS β ν T L h T' h') {g : Option (Nat × Bool)} {b : Bool} (hw : wantB g T = some b) : wantA g T' = b := by
  cases g with
  | none => simpa [wantB, wantA] using hw
  | some g =>
    obtain ⟨t, c⟩ := g
    simp only [wantB, wantA] at hw ⊢
    have ht := hS.tmp t
    split at hw
    · rename_i d he
      rw [he] at ht
      rw [rV_bool ht]
      simpa using hw
    · rename_i he
      rw [he] at ht
      simp only [Option.some.injEq] at hw
      subst hw
      split
      · rename_i c' he2
        exact absurd he2 (ht c')
      · rfl
    · simp at hw
theorem again_sim (hS : RelS β ν T L h T' h') {r : AOp × Option Nat × Option (Nat × Bool)} (hc : r.1.cl = true) (hw : againB T L h r = true) : againA T' h' r = true := by
  unfold againB at hw
  unfold againA
  split at hw
  · rename_i hg
    rw [want_sim hS hg, if_pos rfl]
    split at hw
    · rename_i v d h1 h2
      obtain ⟨v', h3, h4⟩ := pureB_sim hS hc h1
      rw [h3, h2]
      exact same_sim hw h4 (hS.tmp d)
    · simp at hw
  · rename_i hg
    rw [want_sim hS hg]
    simp
  · simp at hw

theorem op_simB {call2 call : Oracle} (hcall : Sim call2 call) (hS : RelS β ν T L h T' h') {o : AOp} (hc : o.cl = true) {d : Option Nat} {T1 : Tb} {L1 : Lb} {h1 : H} (hv : opB call2 o d T L h = some (T1, L1, h1)) :
    ∃ β1 ν1 v' h1', opA call o T' h' = some (v', h1') ∧ RelS β1 ν1 T1 L1 h1 (T'.put d v') h1' ∧ FrS β ν h' β1 ν1 h1' := by
  have pur : (∀ (c : Oracle) (T : Tm) (h : H), opA c o T h = (pureA o T h).map fun v => (v, h)) → (pureB o T L h).map (fun v => (T.put d v, L, h)) = some (T1, L1, h1) →
      ∃ β1 ν1 v' h1', opA call o T' h' = some (v', h1') ∧ RelS β1 ν1 T1 L1 h1 (T'.put d v') h1' ∧ FrS β ν h' β1 ν1 h1' := by
    intro ho hv
    obtain ⟨v, h2, h3⟩ := Option.map_eq_some_iff.1 hv
    simp only [Prod.mk.injEq] at h3
    obtain ⟨rfl, rfl, rfl⟩ := h3
    obtain ⟨v', h4, h5⟩ := pureB_sim hS hc h2
    exact ⟨β, ν, v', h', by rw [ho, h4]; rfl, hS.put h5, FrS.refl β ν h'⟩
  have args : ∀ {l : List AX}, l.all AX.cl = true → genB call2 o d (proA l T L h).1 L (proA l T L h).2 = some (T1, L1, h1) →
      ∃ β1 ν1 v' h1', opA call o T' h' = some (v', h1') ∧ RelS β1 ν1 T1 L1 h1 (T'.put d v') h1' ∧ FrS β ν h' β1 ν1 h1' := by
    intro l hl hv
    obtain ⟨β1, ν1, k1, k2⟩ := RelS.proA l hl hS
    obtain ⟨β2, ν2, v', h1', k3, k4, k5⟩ := k1.gen hcall hc hv
    exact ⟨β2, ν2, v', h1', k3, k4, k2.trans k5⟩
  cases o with
  | alloc ty z =>
    simp only [opB] at hv
    split at hv
    · rename_i t
      simp only [Option.some.injEq, Prod.mk.injEq] at hv
      obtain ⟨rfl, rfl, rfl⟩ := hv
      obtain ⟨k1, k2⟩ := hS.own (t := t) (ty := ty) (cl_rL (β := β) hc)
      exact ⟨_, _, _, _, rfl, k1, k2⟩
    · simp at hv
  | box ty x =>
    simp only [opB] at hv
    have hx := hS.bx (x := x) hc
    split at hv
    · rename_i t a he
      rw [he] at hx
      obtain ⟨cs, h2, h3⟩ := Option.map_eq_some_iff.1 hv
      simp only [Prod.mk.injEq] at h3
      obtain ⟨rfl, rfl, rfl⟩ := h3
      obtain ⟨cs', h4, h5⟩ := rV.cells hx h2
      obtain ⟨k1, k2⟩ := hS.own (t := t) (ty := ty) h5
      exact ⟨_, _, _, _, by simp only [opA, h4], k1, k2⟩
    · simp at hv
  | store k x y =>
    have hc2 := hc
    simp only [AOp.cl, Bool.and_eq_true] at hc2
    simp only [opB] at hv
    have hx := hS.bx hc2.1
    split at hv
    · rename_i t off he
      rw [he] at hx
      obtain ⟨b', h2, h3⟩ := hx
      split at hv
      · rename_i vs hvs
        obtain ⟨cs, h4, h5⟩ := Option.map_eq_some_iff.1 hv
        simp only [Prod.mk.injEq] at h5
        obtain ⟨rfl, rfl, rfl⟩ := h5
        obtain ⟨vs', h6, h7⟩ := (rB.av (hS.bx hc2.2)).cells hvs
        obtain ⟨k1, h8, k2, k3, k4⟩ := hS.storeL h2 h7 h4
        refine ⟨β, ν, undefA, h8, ?_, k3.put (rV_undef (β := β)), k4⟩
        simp only [opA, h3, h6]
        rw [if_pos k1, k2]
        rfl
      · simp at hv
    · exact hS.gen hcall hc hv
  | mov x => exact pur (fun _ _ _ => rfl) hv
  | load k g x => exact pur (fun _ _ _ => rfl) hv
  | nilCheck x => exact pur (fun _ _ _ => rfl) hv
  | faddr off x => exact pur (fun _ _ _ => rfl) hv
  | mkfn f l => exact args hc hv
  | call f l => exact args hc hv
  | callv x l =>
    have hc2 := hc
    simp only [AOp.cl, Bool.and_eq_true] at hc2
    exact args hc2.2 hv
  | _ => exact hS.gen hcall hc hv

theorem step_simB {call2 call : Oracle} (hcall : Sim call2 call) (hS : RelS β ν T L h T' h') {s : AStep} (hc : s.cl = true) {T1 : Tb} {L1 : Lb} {h1 : H} (hv : stepB call2 s T L h = some (T1, L1, h1)) :
    ∃ β1 ν1 T1' h1', stepA call s T' h' = some (T1', h1') ∧ RelS β1 ν1 T1 L1 h1 T1' h1' ∧ FrS β ν h' β1 ν1 h1' := by
  simp only [AStep.cl, Bool.and_eq_true, List.all_eq_true] at hc
  unfold stepB at hv
  unfold stepA
  split at hv
  · rename_i hg
    rw [want_sim hS hg, if_pos rfl]
    split at hv
    · rename_i T2 L2 h2 ho
      split at hv
      · rename_i hag
        simp only [Option.some.injEq, Prod.mk.injEq] at hv
        obtain ⟨rfl, rfl, rfl⟩ := hv
        obtain ⟨β1, ν1, v', h1', k1, k2, k3⟩ := op_simB hcall hS hc.1 ho
        rw [k1]
        simp only
        rw [if_pos]
        · exact ⟨β1, ν1, _, _, rfl, k2, k3⟩
        · rw [List.all_eq_true] at hag ⊢
          exact fun r hr => again_sim k2 (hc.2 r hr) (hag r hr)
      · simp at hv
    · simp at hv
  · rename_i hg
    rw [want_sim hS hg, if_neg (by simp)]
    simp only [Option.some.injEq, Prod.mk.injEq] at hv
    obtain ⟨rfl, rfl, rfl⟩ := hv
    exact ⟨β, ν, _, _, rfl, hS.put (rV_undef (β := β)), FrS.refl β ν h'⟩
  · simp at hv
theorem steps_simB {call2 call : Oracle} (hcall : Sim call2 call) : ∀ {l : List AStep} {β ν : Re} {T : Tb} {L : Lb} {h h' : H} {T' : Tm} {T1 : Tb} {L1 : Lb} {h1 : H}, RelS β ν T L h T' h' → l.all AStep.cl = true → stepsB call2 l T L h = some (T1, L1, h1) →
    ∃ β1 ν1 T1' h1', stepsA call l T' h' = some (T1', h1') ∧ RelS β1 ν1 T1 L1 h1 T1' h1' ∧ FrS β ν h' β1 ν1 h1'
  | [], β, ν, T, L, h, h', T', T1, L1, h1, hS, _, hv => by
    simp only [stepsB, Option.some.injEq, Prod.mk.injEq] at hv
    obtain ⟨rfl, rfl, rfl⟩ := hv
    exact ⟨β, ν, T', h', rfl, hS, FrS.refl β ν h'⟩
  | s :: l, β, ν, T, L, h, h', T', T1, L1, h1, hS, hc, hv => by
    simp only [List.all_cons, Bool.and_eq_true] at hc
    simp only [stepsB] at hv
    split at hv
    · rename_i T2 L2 h2 hs
      obtain ⟨β1, ν1, T2', h2', k1, k2, k3⟩ := step_simB hcall hS hc.1 hs
      obtain ⟨β2, ν2, T3', h3', k4, k5, k6⟩ := steps_simB hcall k2 hc.2 hv
      exact ⟨β2, ν2, T3', h3', by simp only [stepsA, k1]; exact k4, k5, k3.trans k6⟩
    · simp at hv
end

theorem loopB_iff {body : RunB} {T : Tb} {L : Lb} {h : H} {x : Ex × Tb × Lb × H} : loopB body T L h = some x ↔ ∃ n0, ∀ n, n0 ≤ n → loopNB body n T L h = some x := by
  unfold loopB
  constructor
  · intro hx
    split at hx
    · rename_i he
      simp only [Option.some.injEq] at hx
      rw [← hx]
      exact he.choose_spec
    · simp at hx
  · intro hx
    have he : ∃ x, ∃ n0, ∀ n, n0 ≤ n → loopNB body n T L h = some x := ⟨x, hx⟩
    rw [dif_pos he]
    obtain ⟨n0, h0⟩ := hx
    obtain ⟨n1, h1⟩ := he.choose_spec
    have e0 := h0 (max n0 n1) (Nat.le_max_left ..)
    have e1 := h1 (max n0 n1) (Nat.le_max_right ..)
    rw [e1] at e0
    exact e0

theorem loopB_eq (body : RunB) (T : Tb) (L : Lb) (h : H) : loopB body T L h = match body T L h with
    | some (.normal, T', L', h') => loopB body T' L' h'
    | r => r := by
  refine Option.ext fun x => ?_
  rw [loopB_iff]
  constructor
  · rintro ⟨n0, h0⟩
    have h1 := h0 (n0 + 1) (Nat.le_succ _)
    unfold loopNB at h1
    split at h1
    · rename_i T' L' h' hb
      try rw [hb]
      show loopB body T' L' h' = some x
      rw [loopB_iff]
      refine ⟨n0, fun n hn => ?_⟩
      have h2 := h0 (n + 1) (by omega)
      unfold loopNB at h2
      rw [hb] at h2
      exact h2
    · rename_i hne
      first
        | (rw [h1]; done)
        | (rw [h1]
           rw [h1] at hne
           obtain ⟨ex, T', L', h'⟩ := x
           cases ex with
           | normal => exact absurd rfl (hne T' L' h')
           | exit id => rfl
           | ret => rfl)
  · intro hx
    split at hx
    · rename_i T' L' h' hb
      rw [loopB_iff] at hx
      obtain ⟨n0, h0⟩ := hx
      refine ⟨n0 + 1, fun n hn => ?_⟩
      cases n with
      | zero => omega
      | succ n =>
        unfold loopNB
        rw [hb]
        exact h0 n (by omega)
    · rename_i hb
      refine ⟨1, fun n hn => ?_⟩
      cases n with
      | zero => omega
      | succ n =>
        unfold loopNB
        split
        · rename_i T' L' h' hb'
          exact absurd hb' (by rw [hx]; intro e; exact hb T' L' h' (by rw [hx, e]))
        · exact hx

theorem code_simB {call2 call : Oracle} (hcall : Sim call2 call) : ∀ (c : ACode) {β ν : Re} {T : Tb} {L : Lb} {h h' : H} {T' : Tm} {ex : Ex} {T1 : Tb} {L1 : Lb} {h1 : H}, c.cl = true → RelS β ν T L h T' h' → codeB call2 c T L h = some (ex, T1, L1, h1) →
    ∃ β1 ν1 T1' h1', codeA loopA call c T' h' = some (ex, T1', h1') ∧ RelS β1 ν1 T1 L1 h1 T1' h1' ∧ FrS β ν h' β1 ν1 h1'
  | .skip, β, ν, T, L, h, h', T', ex, T1, L1, h1, _, hS, hv | .ret, β, ν, T, L, h, h', T', ex, T1, L1, h1, _, hS, hv | .exit _, β, ν, T, L, h, h', T', ex, T1, L1, h1, _, hS, hv => by
    simp only [codeB, Option.some.injEq, Prod.mk.injEq] at hv
    obtain ⟨rfl, rfl, rfl, rfl⟩ := hv
    exact ⟨β, ν, T', h', rfl, hS, FrS.refl β ν h'⟩
  | .reg l, β, ν, T, L, h, h', T', ex, T1, L1, h1, hc, hS, hv => by
    simp only [codeB] at hv
    obtain ⟨⟨T2, L2, h2⟩, h3, h4⟩ := Option.map_eq_some_iff.1 hv
    simp only [Prod.mk.injEq] at h4
    obtain ⟨rfl, rfl, rfl, rfl⟩ := h4
    obtain ⟨β1, ν1, T1', h1', k1, k2, k3⟩ := steps_simB hcall hS hc h3
    exact ⟨β1, ν1, T1', h1', by simp only [codeA, k1]; rfl, k2, k3⟩
  | .seq a b, β, ν, T, L, h, h', T', ex, T1, L1, h1, hc, hS, hv => by
    simp only [ACode.cl, Bool.and_eq_true] at hc
    simp only [codeB] at hv
    split at hv
    · rename_i T2 L2 h2 ha
      obtain ⟨β1, ν1, T2', h2', k1, k2, k3⟩ := code_simB hcall a hc.1 hS ha
      obtain ⟨β2, ν2, T3', h3', k4, k5, k6⟩ := code_simB hcall b hc.2 k2 hv
      exact ⟨β2, ν2, T3', h3', by simp only [codeA, k1]; exact k4, k5, k3.trans k6⟩
    · rename_i hne
      obtain ⟨β1, ν1, T2', h2', k1, k2, k3⟩ := code_simB hcall a hc.1 hS hv
      refine ⟨β1, ν1, T2', h2', ?_, k2, k3⟩
      simp only [codeA, k1]
      cases ex with
      | normal => exact absurd hv (hne _ _ _)
      | exit id => rfl
      | ret => rfl
  | .cond c a b, β, ν, T, L, h, h', T', ex, T1, L1, h1, hc, hS, hv => by
    simp only [ACode.cl, Bool.and_eq_true] at hc
    simp only [codeB] at hv
    have hx := rX hS.av hc.1
    split at hv
    · rename_i he
      rw [he] at hx
      obtain ⟨β1, ν1, T2', h2', k1, k2, k3⟩ := code_simB hcall a hc.2.1 hS hv
      exact ⟨β1, ν1, T2', h2', by simp only [codeA, rV_bool hx]; exact k1, k2, k3⟩
    · rename_i he
      rw [he] at hx
      obtain ⟨β1, ν1, T2', h2', k1, k2, k3⟩ := code_simB hcall b hc.2.2 hS hv
      exact ⟨β1, ν1, T2', h2', by simp only [codeA, rV_bool hx]; exact k1, k2, k3⟩
    · simp at hv
  | .block id a, β, ν, T, L, h, h', T', ex, T1, L1, h1, hc, hS, hv => by
    simp only [codeB] at hv
    split at hv
    · rename_i id' T2 L2 h2 ha
      obtain ⟨β1, ν1, T2', h2', k1, k2, k3⟩ := code_simB hcall a hc hS ha
      refine ⟨β1, ν1, T2', h2', ?_, ?_, k3⟩
      · simp only [codeA, k1]
        split at hv
        · rename_i hid
          simp only [Option.some.injEq, Prod.mk.injEq] at hv
          rw [if_pos hid, ← hv.1]
        · rename_i hid
          simp only [Option.some.injEq, Prod.mk.injEq] at hv
          rw [if_neg hid, ← hv.1]
      · split at hv
        · simp only [Option.some.injEq, Prod.mk.injEq] at hv
          obtain ⟨_, rfl, rfl, rfl⟩ := hv
          exact k2
        · simp only [Option.some.injEq, Prod.mk.injEq] at hv
          obtain ⟨_, rfl, rfl, rfl⟩ := hv
          exact k2
    · rename_i hne
      obtain ⟨β1, ν1, T2', h2', k1, k2, k3⟩ := code_simB hcall a hc hS hv
      refine ⟨β1, ν1, T2', h2', ?_, k2, k3⟩
      simp only [codeA, k1]
      cases ex with
      | exit id => exact absurd hv (hne _ _ _ _)
      | normal => rfl
      | ret => rfl
  | .loop a, β, ν, T, L, h, h', T', ex, T1, L1, h1, hc, hS, hv => by
    simp only [codeB] at hv
    obtain ⟨n0, hv⟩ := loopB_iff.1 hv
    have hv := hv n0 (Nat.le_refl _)
    have key : ∀ (n : Nat) {β ν : Re} {T : Tb} {L : Lb} {h h' : H} {T' : Tm}, RelS β ν T L h T' h' → loopNB (codeB call2 a) n T L h = some (ex, T1, L1, h1) →
        ∃ β1 ν1 T1' h1', loopA (codeA loopA call a) T' h' = some (ex, T1', h1') ∧ RelS β1 ν1 T1 L1 h1 T1' h1' ∧ FrS β ν h' β1 ν1 h1' := by
      intro n
      induction n with
      | zero => intro β ν T L h h' T' _ hv; simp [loopNB] at hv
      | succ n ih =>
        intro β ν T L h h' T' hS hv
        unfold loopNB at hv
        split at hv
        · rename_i T2 L2 h2 ha
          obtain ⟨β1, ν1, T2', h2', k1, k2, k3⟩ := code_simB hcall a hc hS ha
          obtain ⟨β2, ν2, T3', h3', k4, k5, k6⟩ := ih k2 hv
          exact ⟨β2, ν2, T3', h3', by rw [loopA_eq, k1]; exact k4, k5, k3.trans k6⟩
        · rename_i hne
          obtain ⟨β1, ν1, T2', h2', k1, k2, k3⟩ := code_simB hcall a hc hS hv
          refine ⟨β1, ν1, T2', h2', ?_, k2, k3⟩
          rw [loopA_eq, k1]
          cases ex with
          | normal => exact absurd hv (hne _ _ _)
          | exit id => rfl
          | ret => rfl
    simp only [codeA]
    exact key n0 hS hv

section
variable {β ν : Re} {T : Tb} {L : Lb} {h h' : H} {T' : Tm}
theorem res_simB (hS : RelS β ν T L h T' h') {r : ARes} {v : AV} (hv : resB T L h r = some v) : ∃ v', resA T' h' r = some v' ∧ rV β v v' := by
  cases r with
  | tmp t =>
    simp only [resB, Option.some.injEq] at hv
    subst hv
    exact ⟨_, rfl, rB.av (hS.tmp t)⟩
  | cell t k g =>
    simp only [resB] at hv
    obtain ⟨u, h1, rfl⟩ := Option.map_eq_some_iff.1 hv
    obtain ⟨v', h2, h3⟩ := pureB_sim hS rfl h1
    exact ⟨v', h2, rB.av h3⟩
theorem ress_simB (hS : RelS β ν T L h T' h') : ∀ {rs : List ARes} {vs : List AV}, resBs T L h rs = some vs → ∃ vs', resAs T' h' rs = some vs' ∧ rT β vs vs'
  | [], vs, hv => by
    simp only [resBs, Option.some.injEq] at hv
    subst hv
    exact ⟨[], rfl, rfl⟩
  | r :: rs, vs, hv => by
    unfold resBs at hv
    split at hv
    · simp at hv
    · rename_i v vs' hnt h1 h2
      simp only [Option.some.injEq] at hv
      subst hv
      obtain ⟨v', k1, k2⟩ := res_simB hS h1
      obtain ⟨us, k3, k4⟩ := ress_simB hS h2
      cases v with
      | one c =>
        obtain ⟨c', rfl, h5⟩ := k2
        exact ⟨_, by simp only [resAs, k1, k3], _, us, rfl, ⟨c', rfl, h5⟩, k4⟩
      | agg c =>
        obtain ⟨c', rfl, h5⟩ := k2
        exact ⟨_, by simp only [resAs, k1, k3], _, us, rfl, ⟨c', rfl, h5⟩, k4⟩
      | tup l => exact absurd rfl (hnt l)
    · simp at hv
theorem results_simB (hS : RelS β ν T L h T' h') {rs : List ARes} {v : AV} (hv : resultsB T L h rs = some v) : ∃ v', resultsA T' h' rs = some v' ∧ rV β v v' := by
  unfold resultsB at hv
  unfold resultsA
  split at hv
  · exact res_simB hS hv
  · rename_i hne
    obtain ⟨vs, h1, rfl⟩ := Option.map_eq_some_iff.1 hv
    obtain ⟨vs', h2, h3⟩ := ress_simB hS h1
    split
    · rename_i r
      exact absurd rfl (hne r)
    · rw [h2]
      refine ⟨_, rfl, ?_⟩
      cases vs with
      | nil => rw [show vs' = _ from h3]; exact rV_undef
      | cons a l => exact ⟨vs', rfl, h3⟩

theorem scalar_rC {β1 : Re} {c c' : CV} (hs : c.scalar = true) (hr : rC β c c') : rC β1 c c' := by
  cases c with
  | sl a n k => cases a with
    | none => exact hr
    | some a => simp [CV.scalar] at hs
  | ptr a => cases a with
    | none => exact hr
    | some a => simp [CV.scalar] at hs
  | fn f l => simp [CV.scalar] at hs
  | _ => exact hr
theorem scalar_rL {β1 : Re} : ∀ {l l' : List CV}, l.all CV.scalar = true → rL β l l' → rL β1 l l'
  | [], _, _, h => h
  | c :: l, _, hs, ⟨c', r', h1, h2, h3⟩ => by
    simp only [List.all_cons, Bool.and_eq_true] at hs
    exact ⟨c', r', h1, scalar_rC hs.1 h2, scalar_rL hs.2 h3⟩
theorem scalars_rT {β1 : Re} : ∀ {l l' : List AV}, AV.scalars l = true → rT β l l' → rT β1 l l'
  | [], _, _, h => h
  | .one c :: l, _, hs, ⟨c', r', h1, ⟨d, h2, h4⟩, h3⟩ => by
    simp only [AV.scalars, Bool.and_eq_true] at hs
    exact ⟨c', r', h1, ⟨d, h2, scalar_rC hs.1 h4⟩, scalars_rT hs.2 h3⟩
  | .agg c :: l, _, hs, ⟨c', r', h1, ⟨d, h2, h4⟩, h3⟩ => by
    simp only [AV.scalars, Bool.and_eq_true] at hs
    exact ⟨c', r', h1, ⟨d, h2, scalar_rL hs.1 h4⟩, scalars_rT hs.2 h3⟩
  | .tup _ :: l, _, hs, _ => by simp [AV.scalars] at hs
theorem scalar_rV {β1 : Re} {v v' : AV} (hs : v.scalar = true) (hr : rV β v v') : rV β1 v v' := by
  cases v with
  | one c => obtain ⟨c', h1, h2⟩ := hr; exact ⟨c', h1, scalar_rC hs h2⟩
  | agg c => obtain ⟨c', h1, h2⟩ := hr; exact ⟨c', h1, scalar_rL hs h2⟩
  | tup l => cases l with
    | nil => exact hr
    | cons a l => obtain ⟨l', h1, h2⟩ := hr; exact ⟨l', h1, scalars_rT hs h2⟩

theorem gc_sim {β1 : Re} {r r' : AV} {h1 h1' : H} (hR : RelH β h h') (h2 : RelH β1 h1 h1') (hr : rV β1 r r') (hF : Fr β h' β1 h1') :
    ∃ β2, RelH β2 (gcA h (r, h1)).2 h1' ∧ rV β2 (gcA h (r, h1)).1 r' ∧ Fr β h' β2 h1' := by
  unfold gcA
  split
  · rename_i hc
    obtain ⟨hs, hg⟩ := hc
    refine ⟨β, ⟨fun b b' hb => ?_, hR.inj⟩, scalar_rV hs hr, Ex2.refl β, hF.n, hF.keep, fun b b' hb => .inl ⟨b, hb⟩⟩
    obtain ⟨g1, g2, g3, g4, g5⟩ := hR.blk b b' hb
    obtain ⟨k1, k2, k3, k4, k5⟩ := h2.blk b b' (hF.ext b b' hb)
    have e : h1.f b = h.f b := hg.f b g1
    rw [e] at k3 k4 k5
    refine ⟨g1, k2, k3, k4, fun hd => ?_⟩
    have e1 := g5 hd
    have e2 := k5 hd
    have : (h'.f b').cs = (h1'.f b').cs := rL.fn hF.ext e1 e2
    rw [← this]
    exact e1
  · exact ⟨β1, h2, hr, hF⟩

theorem rVs.getD2 : ∀ {l l' : List AV}, rVs β l l' → ∀ t, rV β (l.getD t undefA) (l'.getD t undefA)
  | [], _, h, t => by rw [show _ = _ from h]; exact rV_undef
  | a :: l, _, ⟨a', r', h1, h2, h3⟩, 0 => by rw [h1]; exact h2
  | a :: l, _, ⟨a', r', h1, h2, h3⟩, t + 1 => by rw [h1]; simpa using rVs.getD2 h3 t

theorem tmpX_cl : ∀ rs : List ARes, (tmpX rs).all AX.cl = true
  | [] => rfl
  | .tmp t :: r => by
    simp only [tmpX, List.all_cons, Bool.and_eq_true]
    exact ⟨rfl, tmpX_cl r⟩
  | .cell .. :: r => tmpX_cl r

theorem body_simB {call2 call : Oracle} (hcall : Sim call2 call) {F : AFunc} (hc : F.body.cl = true) {args : List AV} {h : H} {r : AV} {h1 : H} (hv : bodyB call2 F args h = some (r, h1)) {β : Re} {h' : H} {args' : List AV} (hR : RelH β h h') (ha : rVs β args args') :
    ∃ β1 r' h1', bodyA loopA call F args' h' = some (r', h1') ∧ RelH β1 h1 h1' ∧ rV β1 r r' ∧ Fr β h' β1 h1' := by
  have hS : RelS β (fun _ => none) (startB args) (fun _ => (0, [])) h (startT args') h' := ⟨hR, fun t => ha.getD2 t, fun t b' ht => by simp at ht, fun s t x hs => by simp at hs⟩
  unfold bodyB at hv
  unfold bodyA
  split at hv
  · simp at hv
  · rename_i ex T L h2 hne he
    obtain ⟨v, hv1, hv2⟩ := Option.map_eq_some_iff.1 hv
    obtain ⟨β1, ν1, T1', h1', k1, k2, k3⟩ := code_simB hcall F.body hc hS he
    obtain ⟨β2, ν2, k4, k5⟩ := RelS.proA (tmpX F.results) (tmpX_cl _) k2
    obtain ⟨v', k6, k7⟩ := results_simB k4 hv1
    have k8 := k3.trans k5
    have hF : Fr β h' β2 h1' := ⟨k8.ext, k8.n, fun b' hb hn => k8.keep b' hb (by rintro (⟨b, hb⟩ | ⟨t, ht⟩); exact hn b hb; simp at ht), fun b b' hb => by
      rcases k8.new b' (.inl ⟨b, hb⟩) with (hb | ⟨t, ht⟩) | hb
      · exact .inl hb
      · simp at ht
      · exact .inr hb⟩
    obtain ⟨β3, g1, g2, g3⟩ := gc_sim hR k4.heap k7 hF
    rw [hv2] at g1 g2
    refine ⟨β3, v', h1', ?_, g1, g2, g3⟩
    rw [k1]
    cases ex with
    | exit id => exact absurd rfl (hne id)
    | normal => simp [k6]
    | ret => simp [k6]
  · simp at hv
end

theorem strs_sim {β : Re} : ∀ {cs cs' : List CV} {l : List ByteArray}, rL β cs cs' → strsOf cs = some l → strsOf cs' = some l
  | [], _, _, hr, h => by
    rw [show _ = [] from hr]
    exact h
  | .str s :: r, _, l, hr, h => by
    obtain ⟨c', r', rfl, h1, h2⟩ := hr
    rw [show c' = .str s from h1]
    simp only [strsOf] at h ⊢
    obtain ⟨l', e, rfl⟩ := Option.map_eq_some_iff.1 h
    rw [strs_sim h2 e]
    rfl
  | .bool _ :: _, _, _, _, h | .int _ _ :: _, _, _, _, h | .sl _ _ _ :: _, _, _, _, h | .ptr _ :: _, _, _, _, h | .fn _ _ :: _, _, _, _, h | .nilf :: _, _, _, _, h => by simp [strsOf] at h
theorem ext_itoa {P : Program} {f : Nat} {fn : Func} {h : H} (hf : P.funcs[f]? = some fn) (e : (fn.name == "strconv.Itoa") = true) {n : Int} (hn : -100 < n ∧ n < 100) : extO P f [.one (.int .i64 n)] h = some (.one (.str (numB n)), h) := by
  simp only [extO, hf, e, if_true, if_pos hn]
theorem ext_join {P : Program} {f : Nat} {fn : Func} {h : H} (hf : P.funcs[f]? = some fn) (e1 : ¬ (fn.name == "strconv.Itoa") = true) (e : (fn.name == "strings.Join") = true) {v x : AV} {sep : ByteArray} (hx : extJoin v sep h = some x) : extO P f [v, .one (.str sep)] h = some (x, h) := by
  simp only [extO, hf, if_neg e1, e, if_true, hx, Option.map_some]
theorem ext_sim {P : Program} : Sim (extO P) (extO P) := by
  intro f args h r h1 hc β h' args' hR ha
  unfold extO at hc
  split at hc
  · rename_i fn hfn
    split at hc
    · rename_i e
      split at hc
      · rename_i n
        obtain ⟨a', l', rfl, h2, h3⟩ := ha
        rw [show l' = [] from h3, rV_int h2]
        split at hc
        · rename_i hn
          simp only [Option.some.injEq, Prod.mk.injEq] at hc
          obtain ⟨rfl, rfl⟩ := hc
          exact ⟨β, _, _, ext_itoa hfn e hn, hR, ⟨_, rfl, rfl⟩, Fr.refl β h'⟩
        · simp at hc
      · simp at hc
    · rename_i e
      split at hc
      · rename_i e2
        split at hc
        · rename_i v sep
          obtain ⟨a', l', rfl, h2, a2, l2, rfl, h3, h4⟩ := ha
          rw [show l2 = [] from h4, rV_str h3]
          obtain ⟨x, hx, he⟩ := Option.map_eq_some_iff.1 hc
          simp only [Prod.mk.injEq] at he
          obtain ⟨rfl, rfl⟩ := he
          unfold extJoin at hx
          split at hx
          · rename_i cs hcs
            obtain ⟨cs', k1, k2⟩ := hR.src h2 hcs
            split at hx
            · rename_i l hl
              split at hx
              · rename_i hsz
                simp only [Option.some.injEq] at hx
                subst hx
                have : extJoin a' sep h' = some (.one (.str (joinB sep l))) := by
                  unfold extJoin
                  rw [k1]
                  simp only
                  rw [strs_sim k2 hl]
                  simp only
                  rw [if_pos hsz]
                exact ⟨β, _, _, ext_join hfn e e2 this, hR, ⟨_, rfl, rfl⟩, Fr.refl β h'⟩
              · simp at hx
            · simp at hx
          · simp at hx
        · simp at hc
      · simp at hc
  · simp at hc
theorem callB_sim {P : Program} : ∀ k, Sim (callB P k) (am P) := by
  intro k
  induction k with
  | zero => intro f args h r h1 hc; simp [callB] at hc
  | succ k ih =>
    intro f args h r h1 hc β h' args' hR ha
    simp only [callB] at hc
    split at hc
    · rename_i F hF
      unfold compB at hF
      split at hF
      · rename_i F' hF'
        split at hF
        · rename_i hcl
          simp only [Option.some.injEq] at hF
          subst hF
          obtain ⟨β1, r', h1', k1, k2, k3, k4⟩ := body_simB ih hcl hc hR ha
          exact ⟨β1, r', h1', am_body hF' k1, k2, k3, k4⟩
        · simp at hF
      · simp at hF
    · obtain ⟨β1, r', h1', k1, k2⟩ := ext_sim f args h r h1 hc β h' args' hR ha
      exact ⟨β1, r', h1', am_ext (ext_none k1) k1, k2⟩

theorem bm_iff {P : Program} {f : Nat} {args : List AV} {h : H} {x : AV × H} : bm P f args h = some x ↔ ∃ k0, ∀ k, k0 ≤ k → callB P k f args h = some x := by
  unfold bm
  constructor
  · intro hx
    split at hx
    · rename_i he
      simp only [Option.some.injEq] at hx
      rw [← hx]
      exact he.choose_spec
    · simp at hx
  · intro hx
    have he : ∃ x, ∃ k0, ∀ k, k0 ≤ k → callB P k f args h = some x := ⟨x, hx⟩
    rw [dif_pos he]
    obtain ⟨n0, h0⟩ := hx
    obtain ⟨n1, h1⟩ := he.choose_spec
    have e0 := h0 (max n0 n1) (Nat.le_max_left ..)
    have e1 := h1 (max n0 n1) (Nat.le_max_right ..)
    rw [e1] at e0
    exact e0
theorem bm_sim {P : Program} : Sim (bm P) (am P) := by
  intro f args h r h1 hc
  obtain ⟨k0, hk⟩ := bm_iff.1 hc
  exact callB_sim k0 f args h r h1 (hk k0 (Nat.le_refl _))

section
variable {P : Program}
theorem bm_soon {f : Nat} {args : List AV} {h : H} {x : AV × H} (hx : bm P f args h = some x) : Soon fun k => callB P k f args h = some x := bm_iff.1 hx
theorem opA_soonB {o : AOp} {T : Tm} {h : H} {x : AV × H} (hx : opA (bm P) o T h = some x) : Soon fun k => opA (callB P k) o T h = some x := by
  cases o with
  | call f args => exact bm_soon hx
  | callv y args =>
    simp only [opA] at hx ⊢
    split at hx
    · rename_i f caps he
      exact bm_soon hx
    · simp at hx
  | _ => exact Soon.of fun k => hx
theorem genB_soon {o : AOp} {d : Option Nat} {T : Tb} {L : Lb} {h : H} {x : Tb × Lb × H} (hx : genB (bm P) o d T L h = some x) : Soon fun k => genB (callB P k) o d T L h = some x := by
  unfold genB at hx ⊢
  obtain ⟨r, h1, h2⟩ := Option.map_eq_some_iff.1 hx
  exact (opA_soonB h1).imp fun k hk => by rw [hk, ← h2]; rfl
theorem opB_soon {o : AOp} {d : Option Nat} {T : Tb} {L : Lb} {h : H} {x : Tb × Lb × H} (hx : opB (bm P) o d T L h = some x) : Soon fun k => opB (callB P k) o d T L h = some x := by
  cases o with
  | store k y v =>
    simp only [opB] at hx ⊢
    split at hx
    · rename_i t off he
      exact Soon.of fun k => hx
    · exact genB_soon hx
  | alloc _ _ | box _ _ | mov _ | load _ _ _ | nilCheck _ | faddr _ _ => exact Soon.of fun k => hx
  | _ => exact genB_soon hx
theorem stepB_soon {s : AStep} {T : Tb} {L : Lb} {h : H} {x : Tb × Lb × H} (hx : stepB (bm P) s T L h = some x) : Soon fun k => stepB (callB P k) s T L h = some x := by
  unfold stepB at hx ⊢
  split at hx
  · split at hx
    · rename_i T' L' h' hop
      refine (opB_soon hop).imp fun k hk => ?_
      rw [hk]
      exact hx
    · simp at hx
  · exact Soon.of fun k => hx
  · simp at hx
theorem stepsB_soon : ∀ {l : List AStep} {T : Tb} {L : Lb} {h : H} {x : Tb × Lb × H}, stepsB (bm P) l T L h = some x → Soon fun k => stepsB (callB P k) l T L h = some x
  | [], T, L, h, x, hx => Soon.of fun k => hx
  | s :: l, T, L, h, x, hx => by
    simp only [stepsB] at hx
    split at hx
    · rename_i T' L' h' hs
      refine (stepB_soon hs).and (stepsB_soon hx) fun k h1 h2 => ?_
      simp only [stepsB]
      rw [h1]
      exact h2
    · simp at hx
theorem codeB_soon : ∀ {c : ACode} {T : Tb} {L : Lb} {h : H} {x : Ex × Tb × Lb × H}, codeB (bm P) c T L h = some x → Soon fun k => codeB (callB P k) c T L h = some x
  | .skip, T, L, h, x, hx => Soon.of fun k => hx
  | .exit id, T, L, h, x, hx => Soon.of fun k => hx
  | .ret, T, L, h, x, hx => Soon.of fun k => hx
  | .reg l, T, L, h, x, hx => by
    simp only [codeB, Option.map_eq_some_iff] at hx
    obtain ⟨r, h1, h2⟩ := hx
    exact (stepsB_soon h1).imp fun k hk => by simp only [codeB, hk]; exact congrArg some h2
  | .seq a b, T, L, h, x, hx => by
    simp only [codeB] at hx
    split at hx
    · rename_i T' L' h' ha
      refine (codeB_soon ha).and (codeB_soon hx) fun k h1 h2 => ?_
      simp only [codeB, h1]
      exact h2
    · rename_i hne
      refine (codeB_soon hx).imp fun k h1 => ?_
      simp only [codeB, h1]
      obtain ⟨ex, T', L', h'⟩ := x
      cases ex with
      | normal => exact absurd hx (hne T' L' h')
      | exit id => rfl
      | ret => rfl
  | .cond c a b, T, L, h, x, hx => by
    simp only [codeB] at hx
    split at hx
    · rename_i he
      exact (codeB_soon hx).imp fun k h1 => by simp only [codeB, he]; exact h1
    · rename_i he
      exact (codeB_soon hx).imp fun k h1 => by simp only [codeB, he]; exact h1
    · simp at hx
  | .block id a, T, L, h, x, hx => by
    simp only [codeB] at hx
    split at hx
    · rename_i id' T' L' h' ha
      refine (codeB_soon ha).imp fun k h1 => ?_
      simp only [codeB, h1]
      exact hx
    · rename_i hne
      refine (codeB_soon hx).imp fun k h1 => ?_
      simp only [codeB, h1]
      obtain ⟨ex, T', L', h'⟩ := x
      cases ex with
      | exit id => exact absurd hx (hne id T' L' h')
      | normal => rfl
      | ret => rfl
  | .loop a, T, L, h, x, hx => by
    simp only [codeB] at hx ⊢
    obtain ⟨n0, hx⟩ := loopB_iff.1 hx
    have hx := hx n0 (Nat.le_refl _)
    have key : ∀ (n : Nat) {T : Tb} {L : Lb} {h : H}, loopNB (codeB (bm P) a) n T L h = some x → Soon fun k => loopB (codeB (callB P k) a) T L h = some x := by
      intro n
      induction n with
      | zero => intro T L h hx; simp [loopNB] at hx
      | succ n ih =>
        intro T L h hx
        unfold loopNB at hx
        split at hx
        · rename_i T' L' h' ha
          refine (codeB_soon ha).and (ih hx) fun k h1 h2 => ?_
          rw [loopB_eq, h1]
          exact h2
        · rename_i hne
          refine (codeB_soon hx).imp fun k h1 => ?_
          rw [loopB_eq, h1]
          obtain ⟨ex, T', L', h'⟩ := x
          cases ex with
          | normal => exact absurd hx (hne T' L' h')
          | exit id => rfl
          | ret => rfl
    exact key n0 hx
theorem bodyB_soon {F : AFunc} {args : List AV} {h : H} {x : AV × H} (hx : bodyB (bm P) F args h = some x) : Soon fun k => bodyB (callB P k) F args h = some x := by
  unfold bodyB at hx ⊢
  split at hx
  · simp at hx
  · rename_i ex T' L' h' hne he
    refine (codeB_soon he).imp fun k hk => ?_
    rw [hk]
    cases ex with
    | exit id => exact absurd rfl (hne id)
    | normal => exact hx
    | ret => exact hx
  · simp at hx
/-- What is not walked. -/
theorem bm_ext {f : Nat} {args : List AV} {h : H} {x : AV × H} (hx : extO P f args h = some x) : bm P f args h = some x := by
  rw [bm_iff]
  refine ⟨1, fun k hk1 => ?_⟩
  cases k with
  | zero => omega
  | succ k =>
    have : compB P f = none := by
      unfold compB
      rw [ext_none hx]
    simp only [callB, this]
    exact hx
/-- A call is what the body is. -/
theorem bm_body {f : Nat} {F : AFunc} (hF : compB P f = some F) {args : List AV} {h : H} {x : AV × H} (hx : bodyB (bm P) F args h = some x) : bm P f args h = some x := by
  rw [bm_iff]
  obtain ⟨k0, hk⟩ := bodyB_soon hx
  refine ⟨k0 + 1, fun k hk1 => ?_⟩
  cases k with
  | zero => omega
  | succ k =>
    simp only [callB, hF]
    exact hk k (by omega)
end
end Go.Proofs.YtoeceafibmafpaaDoor.Am
/-! The second machine: from a run of it that gives true to the row's statement. -/
namespace Go.Proofs.YtoeceafibmafpaaDoor.Am
open Go Go.RowKit Go.ChangeShapes Go.WideShapes Go.ChangeAt
set_option linter.unusedVariables false

/-- Each block as it is. -/
def same2 (β : Inj) : Re := fun b => if (β b).isSome then some b else none
section
variable {P : Program} {β : Inj} {h : H} {w : World}
theorem rA_same {a : Nat × Nat} (h : ∃ p, β a.1 = some p) : rA (same2 β) a a := by
  obtain ⟨p, hp⟩ := h
  exact ⟨by simp [same2, hp], rfl⟩
theorem rCaps_same : ∀ {l : List (Nat × Nat)} {vs : List Value}, capsR β l vs → rCaps (same2 β) l l
  | [], [], _ => rfl
  | a :: l, v :: vs, ⟨⟨m, h1, b, d, h2, h3⟩, h4⟩ => ⟨a, l, rfl, rA_same ⟨_, h2⟩, rCaps_same h4⟩
  | [], _ :: _, h => h.elim
  | _ :: _, [], h => h.elim
theorem rC_same {c : CV} {v : Value} (hr : relC P β w c v) : rC (same2 β) c c := by
  cases c with
  | sl a n k => cases a with
    | none => rfl
    | some a =>
      obtain ⟨m, c', h1, h2, h3, h4⟩ := hr
      refine ⟨a, rfl, rA_same ?_⟩
      rcases h4 with h4 | ⟨⟨b, d, h4, _⟩, _⟩
      · exact h4.2
      · exact ⟨_, h4⟩
  | ptr a => cases a with
    | none => rfl
    | some a =>
      obtain ⟨m, h1, b, d, h2, h3⟩ := hr
      exact ⟨a, rfl, rA_same ⟨_, h2⟩⟩
  | fn f l =>
    obtain ⟨cv, h1, h2⟩ := hr
    exact ⟨l, rfl, rCaps_same h2⟩
  | _ => rfl
theorem rL_same : ∀ {l : List CV}, (∀ c ∈ l, rC (same2 β) c c) → rL (same2 β) l l
  | [], _ => rfl
  | c :: l, h => ⟨c, l, rfl, h c (.head _), rL_same fun d hd => h d (.tail _ hd)⟩
theorem rL_same2 : ∀ {l : List CV} {vs : List Value}, relL P β w l vs → rL (same2 β) l l
  | [], [], _ => rfl
  | c :: l, v :: vs, ⟨h1, h2⟩ => ⟨c, l, rfl, rC_same h1, rL_same2 h2⟩
  | [], _ :: _, h => h.elim
  | _ :: _, [], h => h.elim
theorem rT_same : ∀ {l : List AV} {vs : List Value}, relT P β w l vs → rT (same2 β) l l
  | [], [], _ => rfl
  | .one c :: l, v :: vs, ⟨h1, h2⟩ => ⟨_, l, rfl, ⟨c, rfl, rC_same h1⟩, rT_same h2⟩
  | .agg c :: l, v :: vs, ⟨⟨arr, h0, h1⟩, h2⟩ => ⟨_, l, rfl, ⟨c, rfl, rL_same2 h1⟩, rT_same h2⟩
  | .tup _ :: _, _ :: _, ⟨h, _⟩ => h.elim
  | [], _ :: _, h => h.elim
  | _ :: _, [], h => h.elim
theorem rV_same {a : AV} {v : Value} (hr : relV P β w a v) : rV (same2 β) a a := by
  cases a with
  | one c => exact ⟨c, rfl, rC_same hr⟩
  | agg c => obtain ⟨arr, h1, h2⟩ := hr; exact ⟨c, rfl, rL_same2 h2⟩
  | tup l => cases l with
    | nil => exact rV_undef
    | cons x l => obtain ⟨arr, h1, h2⟩ := hr; exact ⟨_, rfl, rT_same h2⟩
theorem rVs_same : ∀ {l : List AV} {vs : List Value}, relVs P β w l vs → rVs (same2 β) l l
  | [], [], _ => rfl
  | a :: l, v :: vs, ⟨h1, h2⟩ => ⟨a, l, rfl, rV_same h1, rVs_same h2⟩
  | [], _ :: _, h => h.elim
  | _ :: _, [], h => h.elim
theorem RelH_same (hR : Rel P β h w) : RelH (same2 β) h h := by
  have hb : ∀ {b b'}, same2 β b = some b' → b' = b ∧ ∃ p, β b = some p := by
    intro b b' hb
    unfold same2 at hb
    split at hb
    · rename_i hs
      simp at hb
      exact ⟨hb.symm, Option.isSome_iff_exists.1 hs⟩
    · simp at hb
  refine ⟨fun b b' h1 => ?_, fun a b x h1 h2 => by rw [← (hb h1).1, ← (hb h2).1]⟩
  obtain ⟨rfl, ⟨q, d⟩, hp⟩ := hb h1
  have hlt : b' < h.n := by
    rcases Nat.lt_or_ge b' h.n with h2 | h2
    · exact h2
    · rw [hR.dom b' h2] at hp; simp at hp
  refine ⟨hlt, hlt, rfl, rfl, fun hd => rL_same fun c hc => ?_⟩
  obtain ⟨cells, t, fr, k1, k2, k3⟩ := hR.live b' q d hd hp
  obtain ⟨i, hi⟩ := List.mem_iff_getElem?.1 hc
  obtain ⟨v, k4, k5⟩ := k3 i c hi
  exact rC_same k5
end

section
variable {D : Type} {enc : TypeId × Value → D} {P : Program} {w : World}
theorem law_callsB (hm : P.follows .mixedOrders = true) (hx : Sound P (extO P)) {f : Nat} {m base : Nat} {ts : List TypeId} {vs : List Value} {ds : List (DataW D)} {ps : List MemPlace} (htab : ∀ g, P.globalNamed "internal/strconv.uint64pow10" = some g → Lib.TabIs P w "internal/strconv.uint64pow10" .u64 Lib.pow10Tab) (hw : 0 < w.heap.size) (hp : ∀ t ∈ ts, plainT P m t = true)
    (hv : ∀ (j : Nat) t v, ts[j]? = some t → vs[j]? = some v → Value.okWide P w .any base t v) (ht : DataW.TrodAll enc P w 0 (fun _ => true) true ts vs ds ps)
    (hlaw : ∀ h avs, okVs P h m ts avs → ∃ h', bm P f avs h = some (.one (.bool true), h')) :
    Calls P f vs.toArray w fun e W' => e = .returned (.bool true) ∧ Below w.heap.size w W' ∧ ∀ a, a.block < w.heap.size → W'.frozen? a = w.frozen? a := by
  have hR0 : Rel P (fun i => if i = 0 then some (w.heap.size - 1, 0) else none) ⟨1, fun _ => ⟨[], 0, .dead⟩⟩ w := by
    refine ⟨?_, fun i b d h => absurd rfl h, fun i j b d d' _ h => by simp at h, ?_, fun i b d h => by simp at h, ⟨w.heap.size - 1, 0, rfl, by omega⟩, fun g hg => ⟨htab g hg, w.heap.size - 1, 0, rfl, ?_⟩⟩
    · intro i b d hi
      left
      split at hi
      · simp at hi
        exact ⟨w.heap.size - 1, 0, rfl, by omega⟩
      · simp at hi
    · intro i hi
      have : i ≠ 0 := fun e => by subst e; simp at hi
      simp [this]
    · have h1 := htab g hg
      unfold Lib.TabIs World.var? at h1
      rw [hg] at h1
      simp only [Option.bind_some] at h1
      rcases Nat.lt_or_ge g w.heap.size with h2 | h2
      · omega
      · rw [Array.getElem?_eq_none h2] at h1; cases h1
  obtain ⟨β, h, avs, r1, r2, _, _, r5, r6⟩ := lays_values hp hv ht _ _ hR0 (fun i => by simp) (fun b hb => ⟨w.heap.size - 1, 0, rfl, by omega⟩)
  obtain ⟨h', hl⟩ := hlaw h avs r6
  obtain ⟨β1, r', h1', k1, _, k3, _⟩ := bm_sim f avs h _ h' hl (same2 β) h avs (RelH_same r1) (rVs_same r5)
  rw [rV_bool k3] at k1
  refine ((am_sound hm hx f avs h _ h1' k1).2 β w vs r1 r5).mono ?_
  rintro e W' ⟨u, β', rfl, hu, _, hs⟩
  have : u = .bool true := hu
  subst this
  exact ⟨rfl, ⟨hs.os, hs.tape, hs.output, hs.size, fun k hk => hs.keep k hk fun i d _ h1 => absurd h1 (r2 i)⟩, hs.fro⟩

/-- The row's contract. -/
theorem law_contractB {s : ChangeSpec} {f : Nat} {fn : Func} {m : Nat} {tb : TypeId} (hm : P.follows .mixedOrders = true) (hx : Sound P (extO P)) (hlo : laidOutB P = true) (hvars : s.vars = []) (hres : fn.resultTypes = #[tb]) (htb : P.underlying tb = some .bool)
    (hsp : ∀ ds : List (DataW D), ds.length = fn.params.toList.length → s.fn D ds = { results := [.lit (.bool true)], args := ds })
    (hp : ∀ t ∈ fn.params.toList, plainT P m t = true) (hrd : ∀ t ∈ fn.params.toList, P.readableRec t = true ∧ t < P.types.size)
    (hlaw : ∀ h avs, okVs P h m fn.params.toList avs → ∃ h', bm P f avs h = some (.one (.bool true), h'))
    {apart fresh handsOn again : Bool} {W : World} {base : Nat} {args : Array Value} {ds gs : List (DataW D)} {before : List MemPlace} (htab : ∀ g, P.globalNamed "internal/strconv.uint64pow10" = some g → Lib.TabIs P W "internal/strconv.uint64pow10" .u64 Lib.pow10Tab) (hw : 0 < W.heap.size)
    (hval : ∀ (j : Nat) t v, fn.params[j]? = some t → args[j]? = some v → Value.okWide P W .any base t v)
    (hW : DataW.Whole enc P fn.params.toList s.vars apart W args.toList ds gs before) :
    Calls P f args W fun e W' => ∃ v, e = .returned v ∧ s.post enc P fn apart fresh handsOn again W args v W' := by
  have hW' := hW
  obtain ⟨p, q, hA, hV, hb, hfz, hnd⟩ := hW
  rw [hvars] at hV
  have hgs : gs = [] ∧ q = [] := by
    cases gs with
    | nil => exact ⟨rfl, hV⟩
    | cons g gs => exact hV.elim
  obtain ⟨rfl, rfl⟩ := hgs
  rw [List.append_nil] at hb
  subst hb
  have hlt : ∀ x ∈ before, x.block < W.heap.size := fun x hx => by simpa using hW'.lt x hx
  have hlen := trodAll_length hA
  have hc := law_callsB hm hx (f := f) htab hw hp (fun j t v h1 h2 => hval j t v (by simpa using h1) (by simpa using h2)) hA hlaw
  refine hc.mono ?_
  rintro e W' ⟨rfl, hbl, hfr⟩
  refine ⟨_, rfl, post_old hW' ?_ ?_ ?_ (hbl.frame _) hfr ?_⟩
  · intro b sp hd
    rw [List.append_nil, hsp ds hlen, hres]
    exact trodAll_cons_mk (shut_bool htb _) trodAll_mk0
  · intro sp hs
    rw [List.append_nil, hsp ds hlen]
    exact trod_below hlo hbl hrd hA hlt hs
  · intro sp _
    rw [List.append_nil, hsp ds hlen, hvars]
    rfl
  · exact ok_one hres rfl (okWide_bool_mk htb _)
end
end Go.Proofs.YtoeceafibmafpaaDoor.Am
