/- The second machine: its values and its heap against those of the first one. -/
import Derived.Test.YtnphlonhogcedaaBmDefs
namespace Go.Proofs.Ytnphlonhogcedaa.Am
open Go

/-- Which block of the first machine a block of the second one is. -/
abbrev Re := Nat → Option Nat
def rA (β : Re) (a a' : Nat × Nat) : Prop := β a.1 = some a'.1 ∧ a'.2 = a.2
def rCaps (β : Re) : List (Nat × Nat) → List (Nat × Nat) → Prop
  | [], l => l = []
  | a :: r, l => ∃ a' r', l = a' :: r' ∧ rA β a a' ∧ rCaps β r r'
def rC (β : Re) : CV → CV → Prop
  | .sl (some a) n k, c' => ∃ a', c' = .sl (some a') n k ∧ rA β a a'
  | .ptr (some a), c' => ∃ a', c' = .ptr (some a') ∧ rA β a a'
  | .fn f l, c' => ∃ l', c' = .fn f l' ∧ rCaps β l l'
  | c, c' => c' = c
def rL (β : Re) : List CV → List CV → Prop
  | [], l => l = []
  | c :: r, l => ∃ c' r', l = c' :: r' ∧ rC β c c' ∧ rL β r r'
def rV0 (β : Re) : AV → AV → Prop
  | .one c, a => ∃ c', a = .one c' ∧ rC β c c'
  | .agg cs, a => ∃ cs', a = .agg cs' ∧ rL β cs cs'
  | .tup _, _ => False
def rT (β : Re) : List AV → List AV → Prop
  | [], l => l = []
  | c :: r, l => ∃ c' r', l = c' :: r' ∧ rV0 β c c' ∧ rT β r r'
def rV (β : Re) : AV → AV → Prop
  | .one c, a => ∃ c', a = .one c' ∧ rC β c c'
  | .agg cs, a => ∃ cs', a = .agg cs' ∧ rL β cs cs'
  | .tup [], a => ∀ b, a ≠ .one (.bool b)
  | .tup (c :: r), a => ∃ l', a = .tup l' ∧ rT β (c :: r) l'
def rVs (β : Re) : List AV → List AV → Prop
  | [], l => l = []
  | c :: r, l => ∃ c' r', l = c' :: r' ∧ rV β c c' ∧ rVs β r r'

def Ex2 (β β' : Re) : Prop := ∀ i p, β i = some p → β' i = some p
theorem Ex2.refl (β : Re) : Ex2 β β := fun _ _ h => h
theorem Ex2.trans {a b c : Re} (h : Ex2 a b) (k : Ex2 b c) : Ex2 a c := fun i p e => k i p (h i p e)

section
variable {β β' : Re} (e : Ex2 β β')
include e
theorem rA.mono {a a' : Nat × Nat} (h : rA β a a') : rA β' a a' := ⟨e _ _ h.1, h.2⟩
theorem rCaps.mono : ∀ {l l' : List (Nat × Nat)}, rCaps β l l' → rCaps β' l l'
  | [], _, h => h
  | _ :: _, _, ⟨a', r', h1, h2, h3⟩ => ⟨a', r', h1, h2.mono e, rCaps.mono h3⟩
theorem rC.mono {c c' : CV} (h : rC β c c') : rC β' c c' := by
  cases c with
  | sl a n k => cases a with
    | none => exact h
    | some a => obtain ⟨a', h1, h2⟩ := h; exact ⟨a', h1, h2.mono e⟩
  | ptr a => cases a with
    | none => exact h
    | some a => obtain ⟨a', h1, h2⟩ := h; exact ⟨a', h1, h2.mono e⟩
  | fn f l => obtain ⟨a', h1, h2⟩ := h; exact ⟨a', h1, h2.mono e⟩
  | _ => exact h
theorem rL.mono : ∀ {l l' : List CV}, rL β l l' → rL β' l l'
  | [], _, h => h
  | _ :: _, _, ⟨a', r', h1, h2, h3⟩ => ⟨a', r', h1, rC.mono e h2, rL.mono h3⟩
theorem rV0.mono {a a' : AV} (h : rV0 β a a') : rV0 β' a a' := by
  cases a with
  | one c => obtain ⟨c', h1, h2⟩ := h; exact ⟨c', h1, rC.mono e h2⟩
  | agg c => obtain ⟨c', h1, h2⟩ := h; exact ⟨c', h1, rL.mono e h2⟩
  | tup l => exact h
theorem rT.mono : ∀ {l l' : List AV}, rT β l l' → rT β' l l'
  | [], _, h => h
  | _ :: _, _, ⟨a', r', h1, h2, h3⟩ => ⟨a', r', h1, rV0.mono e h2, rT.mono h3⟩
theorem rV.mono {a a' : AV} (h : rV β a a') : rV β' a a' := by
  cases a with
  | one c => obtain ⟨c', h1, h2⟩ := h; exact ⟨c', h1, rC.mono e h2⟩
  | agg c => obtain ⟨c', h1, h2⟩ := h; exact ⟨c', h1, rL.mono e h2⟩
  | tup l => cases l with
    | nil => exact h
    | cons x l => obtain ⟨l', h1, h2⟩ := h; exact ⟨l', h1, rT.mono e h2⟩
theorem rVs.mono : ∀ {l l' : List AV}, rVs β l l' → rVs β' l l'
  | [], _, h => h
  | _ :: _, _, ⟨a', r', h1, h2, h3⟩ => ⟨a', r', h1, rV.mono e h2, rVs.mono h3⟩

/-- One image alone. -/
theorem rA.fn {a b c : Nat × Nat} (h : rA β a b) (k : rA β' a c) : b = c := by
  obtain ⟨h1, h2⟩ := h
  obtain ⟨k1, k2⟩ := k
  have h1 := e _ _ h1
  rw [h1] at k1
  exact Prod.ext (by simpa using k1) (by rw [h2, k2])
theorem rCaps.fn : ∀ {l x y : List (Nat × Nat)}, rCaps β l x → rCaps β' l y → x = y
  | [], _, _, h, k => by rw [show _ = _ from h, show _ = _ from k]
  | _ :: _, _, _, ⟨a', r', h1, h2, h3⟩, ⟨b', s', k1, k2, k3⟩ => by
    rw [h1, k1, h2.fn e k2, rCaps.fn h3 k3]
theorem rC.fn {c x y : CV} (h : rC β c x) (k : rC β' c y) : x = y := by
  cases c with
  | sl a n q => cases a with
    | none => rw [show x = _ from h, show y = _ from k]
    | some a => obtain ⟨a', h1, h2⟩ := h; obtain ⟨b', k1, k2⟩ := k; rw [h1, k1, h2.fn e k2]
  | ptr a => cases a with
    | none => rw [show x = _ from h, show y = _ from k]
    | some a => obtain ⟨a', h1, h2⟩ := h; obtain ⟨b', k1, k2⟩ := k; rw [h1, k1, h2.fn e k2]
  | fn f l => obtain ⟨a', h1, h2⟩ := h; obtain ⟨b', k1, k2⟩ := k; rw [h1, k1, h2.fn e k2]
  | _ => rw [show x = _ from h, show y = _ from k]
theorem rL.fn : ∀ {l x y : List CV}, rL β l x → rL β' l y → x = y
  | [], _, _, h, k => by rw [show _ = _ from h, show _ = _ from k]
  | _ :: _, _, _, ⟨a', r', h1, h2, h3⟩, ⟨b', s', k1, k2, k3⟩ => by
    rw [h1, k1, rC.fn e h2 k2, rL.fn h3 k3]
end

theorem rL.length {β : Re} : ∀ {l l' : List CV}, rL β l l' → l'.length = l.length
  | [], _, h => by rw [show _ = _ from h]
  | _ :: _, _, ⟨a', r', h1, _, h3⟩ => by rw [h1]; simp [rL.length h3]
theorem rL.append {β : Re} : ∀ {l l' m m' : List CV}, rL β l l' → rL β m m' → rL β (l ++ m) (l' ++ m')
  | [], _, _, _, h, k => by rw [show _ = _ from h]; exact k
  | _ :: _, _, _, _, ⟨a', r', h1, h2, h3⟩, k => by rw [h1]; exact ⟨a', r' ++ _, rfl, h2, rL.append h3 k⟩
theorem rL.drop {β : Re} : ∀ {l l' : List CV} (n : Nat), rL β l l' → rL β (l.drop n) (l'.drop n)
  | _, _, 0, h => h
  | [], _, n + 1, h => by rw [show _ = _ from h]; rfl
  | _ :: _, _, n + 1, ⟨a', r', h1, h2, h3⟩ => by rw [h1]; exact rL.drop n h3
theorem rL.take {β : Re} : ∀ {l l' : List CV} (n : Nat), rL β l l' → rL β (l.take n) (l'.take n)
  | _, _, 0, h => by simp [rL]
  | [], _, n + 1, h => by rw [show _ = _ from h]; rfl
  | _ :: _, _, n + 1, ⟨a', r', h1, h2, h3⟩ => by rw [h1]; exact ⟨a', _, rfl, h2, rL.take n h3⟩
theorem rL.get {β : Re} : ∀ {l l' : List CV} {i : Nat} {c : CV}, rL β l l' → l[i]? = some c → ∃ c', l'[i]? = some c' ∧ rC β c c'
  | [], _, i, c, h, hc => by simp at hc
  | _ :: _, _, 0, c, ⟨a', r', h1, h2, h3⟩, hc => by
    simp at hc
    subst hc
    exact ⟨a', by rw [h1]; rfl, h2⟩
  | _ :: _, _, i + 1, c, ⟨a', r', h1, h2, h3⟩, hc => by
    obtain ⟨c', k1, k2⟩ := rL.get h3 (by simpa using hc)
    exact ⟨c', by rw [h1]; simpa using k1, k2⟩
theorem cl_rC {β : Re} {c : CV} (h : c.cl = true) : rC β c c := by
  cases c with
  | sl a n k => cases a with
    | none => rfl
    | some a => simp [CV.cl] at h
  | ptr a => cases a with
    | none => rfl
    | some a => simp [CV.cl] at h
  | fn f l => cases l with
    | nil => exact ⟨[], rfl, rfl⟩
    | cons a l => simp [CV.cl] at h
  | _ => rfl
theorem cl_rL {β : Re} : ∀ {l : List CV}, l.all CV.cl = true → rL β l l
  | [], _ => rfl
  | c :: l, h => by
    simp only [List.all_cons, Bool.and_eq_true] at h
    exact ⟨c, l, rfl, cl_rC h.1, cl_rL h.2⟩
theorem rV.cells {β : Re} {a a' : AV} {cs : List CV} (h : rV β a a') (hc : a.cells = some cs) : ∃ cs', a'.cells = some cs' ∧ rL β cs cs' := by
  cases a with
  | one c =>
    obtain ⟨c', rfl, h2⟩ := h
    simp [AV.cells] at hc
    subst hc
    exact ⟨[c'], rfl, c', [], rfl, h2, rfl⟩
  | agg c =>
    obtain ⟨c', rfl, h2⟩ := h
    simp [AV.cells] at hc
    subst hc
    exact ⟨c', rfl, h2⟩
  | tup l => simp [AV.cells] at hc
theorem rV0.rV {β : Re} {a a' : AV} (h : rV0 β a a') : rV β a a' := by
  cases a with
  | one c => exact h
  | agg c => exact h
  | tup l => exact h.elim
theorem rV_undef {β : Re} : rV β undefA undefA := fun b => by simp [undefA]
theorem rV_ptrU {β : Re} {p : Option (Nat × Nat)} : rV β undefA (.one (.ptr p)) := fun b => by simp
theorem rV_int {β : Re} {k : IntKind} {n : Int} {a : AV} (h : rV β (.one (.int k n)) a) : a = .one (.int k n) := by
  obtain ⟨c', rfl, h2⟩ := h
  rw [show c' = _ from h2]
theorem rV_bool {β : Re} {b : Bool} {a : AV} (h : rV β (.one (.bool b)) a) : a = .one (.bool b) := by
  obtain ⟨c', rfl, h2⟩ := h
  rw [show c' = _ from h2]
theorem rV_str {β : Re} {s : ByteArray} {a : AV} (h : rV β (.one (.str s)) a) : a = .one (.str s) := by
  obtain ⟨c', rfl, h2⟩ := h
  rw [show c' = _ from h2]
theorem rV_ptr {β : Re} {p : Nat × Nat} {a : AV} (h : rV β (.one (.ptr (some p))) a) : ∃ p', a = .one (.ptr (some p')) ∧ rA β p p' := by
  obtain ⟨c', rfl, p', h2, h3⟩ := h
  exact ⟨p', by rw [h2], h3⟩
theorem rV_nil {β : Re} {n : Nat} {c : Option Nat} {a : AV} (h : rV β (.one (.sl none n c)) a) : a = .one (.sl none n c) := by
  obtain ⟨c', rfl, h2⟩ := h
  rw [show c' = _ from h2]
theorem rV_sl {β : Re} {p : Nat × Nat} {n : Nat} {c : Option Nat} {a : AV} (h : rV β (.one (.sl (some p) n c)) a) : ∃ p', a = .one (.sl (some p') n c) ∧ rA β p p' := by
  obtain ⟨c', rfl, p', h2, h3⟩ := h
  exact ⟨p', by rw [h2], h3⟩
theorem rV_fn {β : Re} {f : Nat} {l : List (Nat × Nat)} {a : AV} (h : rV β (.one (.fn f l)) a) : ∃ l', a = .one (.fn f l') ∧ rCaps β l l' := by
  obtain ⟨c', rfl, l', h2, h3⟩ := h
  exact ⟨l', by rw [h2], h3⟩

/-! ### heaps -/
structure RelH (β : Re) (h h' : H) : Prop where
  blk : ∀ b b', β b = some b' → b < h.n ∧ b' < h'.n ∧ (h'.f b').ty = (h.f b).ty ∧ (h'.f b').st = (h.f b).st ∧ ((h.f b).st ≠ .dead → rL β (h.f b).cs (h'.f b').cs)
  inj : ∀ a b x, β a = some x → β b = some x → a = b
/-- What a part of a run does to the first machine's heap. -/
structure Fr (β : Re) (h' : H) (β1 : Re) (h1' : H) : Prop where
  ext : Ex2 β β1
  n : h'.n ≤ h1'.n
  keep : ∀ b', b' < h'.n → (∀ b, β b ≠ some b') → h1'.f b' = h'.f b'
  new : ∀ b b', β1 b = some b' → (∃ a, β a = some b') ∨ h'.n ≤ b'
theorem Fr.refl (β : Re) (h' : H) : Fr β h' β h' := ⟨Ex2.refl β, Nat.le_refl _, fun _ _ _ => rfl, fun b _ hb => .inl ⟨b, hb⟩⟩
theorem Fr.trans {β β1 β2 : Re} {h h1 h2 : H} (a : Fr β h β1 h1) (b : Fr β1 h1 β2 h2) : Fr β h β2 h2 := by
  refine ⟨a.ext.trans b.ext, Nat.le_trans a.n b.n, fun b' hb hn => ?_, fun i b' hi => ?_⟩
  · rw [b.keep b' (Nat.lt_of_lt_of_le hb a.n) (fun i hi => ?_)]
    · exact a.keep b' hb hn
    · rcases a.new i b' hi with ⟨j, hj⟩ | hj
      · exact hn j hj
      · omega
  · rcases b.new i b' hi with ⟨j, hj⟩ | hj
    · exact a.new j b' hj
    · exact .inr (Nat.le_trans a.n hj)

def Re.put (β : Re) (i p : Nat) : Re := fun j => if j = i then some p else β j
theorem Re.put_ext {β : Re} {i p : Nat} (h : β i = none) : Ex2 β (β.put i p) := by
  intro j q hj
  have : j ≠ i := by rintro rfl; rw [h] at hj; simp at hj
  simp [Re.put, this, hj]
theorem RelH.none {β : Re} {h h' : H} (hR : RelH β h h') {i : Nat} (hi : h.n ≤ i) : β i = none := by
  cases hb : β i with
  | none => rfl
  | some x => have := (hR.blk i x hb).1; omega

theorem RelH.alloc {β : Re} {h h' : H} (hR : RelH β h h') {cs cs' : List CV} (ty : Nat) (hc : rL β cs cs') :
    RelH (β.put h.n h'.n) (h.alloc cs ty) (h'.alloc cs' ty) ∧ Fr β h' (β.put h.n h'.n) (h'.alloc cs' ty) := by
  have h0 := hR.none (Nat.le_refl h.n)
  have e := Re.put_ext (p := h'.n) h0
  refine ⟨⟨?_, ?_⟩, e, Nat.le_succ _, ?_, ?_⟩
  · intro b b' hb
    by_cases hbn : b = h.n
    · subst hbn
      simp [Re.put] at hb
      subst hb
      exact ⟨Nat.lt_succ_self _, Nat.lt_succ_self _, by rw [alloc_f_new, alloc_f_new], by rw [alloc_f_new, alloc_f_new], fun _ => by rw [alloc_f_new, alloc_f_new]; exact rL.mono e hc⟩
    · simp [Re.put, hbn] at hb
      obtain ⟨h1, h2, h3, h4, h5⟩ := hR.blk b b' hb
      rw [alloc_f_old (by omega), alloc_f_old (by omega)]
      exact ⟨Nat.lt_succ_of_lt h1, Nat.lt_succ_of_lt h2, h3, h4, fun h => rL.mono e (h5 h)⟩
  · intro a b x ha hb
    by_cases han : a = h.n <;> by_cases hbn : b = h.n
    · rw [han, hbn]
    · subst han
      simp [Re.put] at ha
      simp [Re.put, hbn] at hb
      have := (hR.blk b x hb).2.1
      omega
    · subst hbn
      simp [Re.put] at hb
      simp [Re.put, han] at ha
      have := (hR.blk a x ha).2.1
      omega
    · simp [Re.put, han] at ha
      simp [Re.put, hbn] at hb
      exact hR.inj a b x ha hb
  · intro b' hb _
    exact alloc_f_old (by omega)
  · intro b b' hb
    by_cases hbn : b = h.n
    · subst hbn
      simp [Re.put] at hb
      exact .inr (by omega)
    · simp [Re.put, hbn] at hb
      exact .inl ⟨b, hb⟩

theorem RelH.set {β : Re} {h h' : H} (hR : RelH β h h') {b b' : Nat} (hb : β b = some b') {cs cs' : List CV} {st : St} (hc : st ≠ .dead → rL β cs cs') :
    RelH β (h.setBlk b { h.f b with cs := cs, st := st }) (h'.setBlk b' { h'.f b' with cs := cs', st := st }) ∧ Fr β h' β (h'.setBlk b' { h'.f b' with cs := cs', st := st }) := by
  refine ⟨⟨?_, hR.inj⟩, Ex2.refl β, Nat.le_refl _, ?_, fun i x hx => .inl ⟨i, hx⟩⟩
  · intro a x ha
    obtain ⟨h1, h2, h3, h4, h5⟩ := hR.blk a x ha
    rw [setBlk_f, setBlk_f]
    by_cases hab : a = b
    · subst hab
      rw [hb] at ha
      simp at ha
      subst ha
      rw [if_pos rfl, if_pos rfl]
      exact ⟨h1, h2, h3, rfl, hc⟩
    · have hxb : x ≠ b' := fun e => hab (hR.inj a b b' (by rw [ha, e]) hb)
      rw [if_neg hab, if_neg hxb]
      exact ⟨h1, h2, h3, h4, h5⟩
  · intro x hx hn
    rw [setBlk_f, if_neg (fun e => hn b (by rw [hb, e]))]

theorem RelH.load {β : Re} {h h' : H} (hR : RelH β h h') {a a' : Nat × Nat} (ha : rA β a a') {k : Nat} {cs : List CV} (hl : h.load a k = some cs) : ∃ cs', h'.load a' k = some cs' ∧ rL β cs cs' := by
  obtain ⟨h1, h2, h3, h4, h5⟩ := hR.blk _ _ ha.1
  unfold H.load at hl ⊢
  split at hl
  · rename_i hc
    have h5 := h5 hc.1.2
    rw [if_pos ⟨⟨h2, by rw [h4]; exact hc.1.2⟩, by rw [ha.2, h5.length]; exact hc.2⟩]
    simp only [Option.some.injEq] at hl
    subst hl
    exact ⟨_, rfl, by rw [ha.2]; exact rL.take _ (rL.drop _ h5)⟩
  · simp at hl
theorem RelH.store {β : Re} {h h' h1 : H} (hR : RelH β h h') {a a' : Nat × Nat} (ha : rA β a a') {vs vs' : List CV} (hv : rL β vs vs') (hl : h.store a vs = some h1) :
    ∃ h1', h'.store a' vs' = some h1' ∧ RelH β h1 h1' ∧ Fr β h' β h1' := by
  obtain ⟨g1, g2, g3, g4, g5⟩ := hR.blk _ _ ha.1
  unfold H.store at hl ⊢
  split at hl
  · rename_i hc
    have g5 := g5 (by rw [hc.1]; simp)
    rw [if_pos ⟨by rw [g4]; exact hc.1, by rw [ha.2, g5.length, hv.length]; exact hc.2⟩]
    simp only [Option.some.injEq] at hl
    subst hl
    have hst : ∀ (hh : H) (i : Nat) (cs : List CV), (hh.f i).st = .rw → ({ hh.f i with cs := cs } : Blk) = { hh.f i with cs := cs, st := .rw } := by
      intro hh i cs hs
      rw [← hs]
    rw [hst _ _ _ hc.1, hst _ _ _ (by rw [g4]; exact hc.1)]
    refine ⟨_, rfl, RelH.set hR ha.1 fun _ => ?_⟩
    rw [ha.2, hv.length]
    exact rL.append (rL.take _ g5) (rL.append hv (rL.drop _ g5))
  · simp at hl
theorem RelH.kill {β : Re} {h h' : H} (hR : RelH β h h') {b b' : Nat} (hb : β b = some b') : RelH β (h.kill b) (h'.kill b') ∧ Fr β h' β (h'.kill b') := by
  have := RelH.set hR hb (cs := (h.f b).cs) (cs' := (h'.f b').cs) (st := .dead) (fun h => absurd rfl h)
  exact this

theorem RelH.src {β : Re} {h h' : H} (hR : RelH β h h') {v v' : AV} (hv : rV β v v') {k : Nat} {cs : List CV} (hl : srcA h k v = some cs) : ∃ cs', srcA h' k v' = some cs' ∧ rL β cs cs' := by
  cases v with
  | one c =>
    cases c with
    | sl b n c =>
      cases n with
      | zero =>
        simp [srcA] at hl
        subst hl
        cases b with
        | none => rw [rV_nil hv]; exact ⟨[], rfl, rfl⟩
        | some p => obtain ⟨p', rfl, _⟩ := rV_sl hv; exact ⟨[], rfl, rfl⟩
      | succ n =>
        cases b with
        | none => simp [srcA] at hl
        | some p =>
          obtain ⟨p', rfl, hp⟩ := rV_sl hv
          simp only [srcA] at hl ⊢
          exact hR.load hp hl
    | _ => simp [srcA] at hl
  | _ => simp [srcA] at hl
end Go.Proofs.Ytnphlonhogcedaa.Am
