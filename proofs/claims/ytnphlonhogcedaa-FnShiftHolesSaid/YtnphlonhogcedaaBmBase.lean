/- The second machine: slices that are read, blocks of a run's own, lists that grow. -/
import Derived.Test.YtnphlonhogcedaaBmRun
namespace Go.Proofs.Ytnphlonhogcedaa.Am
open Go

section
variable {P : Program} {T : Tb} {L : Lb} {h h0 h1 : H} {K : Post}

/-! ### slices that are read -/
/-- Where element i of a slice is. -/
def elem (k : Nat) : AV → Nat → Nat × Nat
  | .one (.sl (some a) _ _), i => (a.1, a.2 + i * k)
  | _, _ => (0, 0)
/-- The room of a slice, if it is known, holds its length. -/
def capOk (n : Nat) : Option Nat → Prop
  | none => True
  | some c => n ≤ c
/-- A slice of things that are k cells long. -/
structure Sl {α : Type} (enc : α → List CV) (k ty : Nat) (h : H) (v : AV) (l : List α) : Prop where
  form : ∃ b c, v = .one (.sl b l.length c) ∧ capOk l.length c
  src : srcA h k v = some (l.flatMap enc)
  enc : ∀ x, (enc x).length = k
  own : ∀ a n c, v = .one (.sl (some a) n c) → a.1 < h.n ∧ (h.f a.1).ty = ty
/-- The block of a slice. -/
def baseOf : AV → Option Nat
  | .one (.sl (some a) _ _) => some a.1
  | _ => none
/-- Nothing but the block of s has turned. -/
structure Stay (s : AV) (h h' : H) : Prop where
  n : h.n ≤ h'.n
  f : ∀ i, i < h.n → baseOf s ≠ some i → h'.f i = h.f i
theorem Grow.stay (g : Grow h h1) (s : AV) : Stay s h h1 := ⟨g.n, fun i hi _ => g.f i hi⟩
theorem Stay.trans {s : AV} {a b c : H} (x : Stay s a b) (y : Stay s b c) : Stay s a c := ⟨Nat.le_trans x.n y.n, fun i hi hn => (y.f i (by have := x.n; omega) hn).trans (x.f i hi hn)⟩

section
variable {α : Type} {enc : α → List CV} {k ty : Nat} {v s : AV} {l : List α}
theorem Sl.len (hs : Sl enc k ty h v l) : lenO v = some (ii l.length) := by
  obtain ⟨b, c, rfl, _⟩ := hs.form
  rfl
theorem Sl.of_stay (hs : Sl enc k ty h v l) (g : Stay s h h1) (hd : ∀ i, baseOf v = some i → baseOf s ≠ some i) : Sl enc k ty h1 v l := by
  refine ⟨hs.form, ?_, hs.enc, fun a n c he => ?_⟩
  · have h2 := hs.src
    obtain ⟨b, c, rfl, _⟩ := hs.form
    match hn : l.length, b with
    | 0, _ => rw [hn] at h2; simpa [srcA] using h2
    | n + 1, none => rw [hn] at h2; simp [srcA] at h2
    | n + 1, some a =>
      rw [hn] at h2
      simp only [srcA] at h2 ⊢
      have := (hs.own a _ c rfl).1
      unfold H.load at h2 ⊢
      rw [g.f a.1 this (hd a.1 rfl)]
      split at h2
      · rename_i hc
        rw [if_pos ⟨⟨Nat.lt_of_lt_of_le hc.1.1 g.n, hc.1.2⟩, hc.2⟩]
        exact h2
      · simp at h2
  · obtain ⟨h2, h3⟩ := hs.own a n c he
    refine ⟨Nat.lt_of_lt_of_le h2 g.n, ?_⟩
    rw [g.f a.1 h2 (hd a.1 (by rw [he]; rfl))]
    exact h3
theorem Sl.grow (hs : Sl enc k ty h v l) (g : Grow h h1) : Sl enc k ty h1 v l := hs.of_stay (g.stay (.tup [])) (fun _ _ h => by simp [baseOf] at h)
theorem flat_at (he : ∀ x, (enc x).length = k) : ∀ {l : List α} {i : Nat} (hi : i < l.length) (rest : List CV), ((l.flatMap enc ++ rest).drop (i * k)).take k = enc l[i]
  | x :: l, 0, _, rest => by
    simp only [Nat.zero_mul, List.drop_zero, List.flatMap_cons, List.getElem_cons_zero, List.append_assoc]
    rw [List.take_append_of_le_length (by rw [he]; exact Nat.le_refl _), List.take_of_length_le (by rw [he]; exact Nat.le_refl _)]
  | x :: l, i + 1, hi, rest => by
    simp only [List.flatMap_cons, List.getElem_cons_succ, List.append_assoc]
    rw [show (i + 1) * k = (enc x).length + i * k by rw [he, Nat.add_mul]; omega, ← List.drop_drop, List.drop_left]
    exact flat_at he (by simpa using hi) rest
theorem flat_len (he : ∀ x, (enc x).length = k) : ∀ (l : List α), (l.flatMap enc).length = l.length * k
  | [] => by simp
  | x :: l => by rw [List.flatMap_cons, List.length_append, he, flat_len he l, List.length_cons, Nat.add_mul]; omega
theorem Sl.base (hs : Sl enc k ty h v l) {i : Nat} (hi : i < l.length) : ∃ a c, v = .one (.sl (some a) l.length c) ∧ h.load a (l.length * k) = some (l.flatMap enc) := by
  obtain ⟨b, c, rfl, _⟩ := hs.form
  have h1 := hs.src
  match hn : l.length, b with
  | 0, _ => omega
  | n + 1, none => rw [hn] at h1; simp [srcA] at h1
  | n + 1, some a => rw [hn] at h1; exact ⟨a, c, rfl, by simpa [srcA] using h1⟩
theorem Sl.iaddr (hs : Sl enc k ty h v l) {i : Nat} (hi : i < l.length) {kd : IntKind} : iaddrO k v (.one (.int kd i)) = some (.one (.ptr (some (elem k v i)))) := by
  obtain ⟨a, c, rfl, _⟩ := hs.base hi
  simp only [iaddrO, elem]
  rw [if_pos ⟨by omega, by omega⟩]
  simp
theorem Sl.iaddr_int (hs : Sl enc k ty h v l) {j : Int} (h0 : 0 ≤ j) (hj : j < l.length) {kd : IntKind} : iaddrO k v (.one (.int kd j)) = some (.one (.ptr (some (elem k v j.toNat)))) := by
  have := hs.iaddr (i := j.toNat) (by omega) (kd := kd)
  rwa [Int.toNat_of_nonneg h0] at this
theorem H.load_part {a : Nat × Nat} {k off m : Nat} {cs : List CV} (hl : h.load a k = some cs) (ho : off + m ≤ k) : h.load (a.1, a.2 + off) m = some ((cs.drop off).take m) := by
  unfold H.load at hl ⊢
  split at hl
  · rename_i hc
    rw [if_pos ⟨hc.1, by have := hc.2; simp only; omega⟩]
    simp only [Option.some.injEq] at hl ⊢
    rw [← hl, List.drop_take, List.take_take, Nat.min_eq_left (by omega), List.drop_drop]
  · simp at hl
theorem Sl.load (hs : Sl enc k ty h v l) {i : Nat} (hi : i < l.length) : h.load (elem k v i) k = some (enc l[i]) := by
  obtain ⟨a, c, rfl, h1⟩ := hs.base hi
  have e1 : (i + 1) * k ≤ l.length * k := Nat.mul_le_mul_right _ (by omega)
  rw [Nat.add_mul] at e1
  have h2 := H.load_part h1 (show i * k + k ≤ l.length * k by omega)
  have h3 := flat_at hs.enc hi []
  rw [List.append_nil] at h3
  rw [h3] at h2
  exact h2
theorem flat_drop (he : ∀ x, (enc x).length = k) : ∀ (l : List α) (i : Nat), (l.flatMap enc).drop (i * k) = (l.drop i).flatMap enc
  | l, 0 => by simp
  | [], i + 1 => by simp
  | x :: l, i + 1 => by
    rw [List.flatMap_cons, show (i + 1) * k = (enc x).length + i * k by rw [he, Nat.add_mul]; omega, ← List.drop_drop, List.drop_left, flat_drop he l i]
    simp
theorem flat_take (he : ∀ x, (enc x).length = k) : ∀ (l : List α) (i : Nat), (l.flatMap enc).take (i * k) = (l.take i).flatMap enc
  | l, 0 => by simp
  | [], i + 1 => by simp
  | x :: l, i + 1 => by
    rw [List.flatMap_cons, show (i + 1) * k = (enc x).length + i * k by rw [he, Nat.add_mul]; omega, List.take_length_add_append, flat_take he l i]
    simp
/-- A cut. -/
theorem Sl.cut {T : Tm} (hs : Sl enc k ty h v l) {x : AX} {alo ahi amx : Option AX} {lo hi : Nat} (hx : x.ev T = v) (hlo : lo ≤ hi) (hhi : hi ≤ l.length)
    (hb : ∀ c, capOk l.length c → ∃ m, boundsA T l.length c alo ahi amx = some (lo, hi, m) ∧ capOk hi m) :
    ∃ v', pureA (.slice ty k x alo ahi amx) T h = some v' ∧ Sl enc k ty h v' ((l.drop lo).take (hi - lo)) ∧ (∀ i, baseOf v' = some i → baseOf v = some i) := by
  obtain ⟨b, c, rfl, hc⟩ := hs.form
  obtain ⟨m, h1, h2⟩ := hb c hc
  have hlen : ((l.drop lo).take (hi - lo)).length = hi - lo := by simp; omega
  have hcap : capOk (hi - lo) (m.map (· - lo)) := by
    cases m with
    | none => trivial
    | some m => exact Nat.sub_le_sub_right h2 lo
  cases b with
  | none =>
    have hsrc := hs.src
    have hl0 : l = [] := by
      cases hl : l with
      | nil => rfl
      | cons y r => subst hl; simp [srcA] at hsrc
    subst hl0
    simp only [List.length_nil] at h1 hhi
    obtain rfl : hi = 0 := by omega
    refine ⟨.one (.sl none (0 - lo) (m.map (· - lo))), ?_, ?_, fun i hi => by simp [baseOf] at hi⟩
    · simp only [pureA, hx, List.length_nil, h1]
    · obtain rfl : lo = 0 := by omega
      exact ⟨⟨none, _, rfl, by simpa using hcap⟩, by simp [srcA], hs.enc, fun a n c he => by simp at he⟩
  | some a =>
    have ho := hs.own a l.length c rfl
    refine ⟨.one (.sl (some (a.1, a.2 + lo * k)) (hi - lo) (m.map (· - lo))), ?_, ?_, fun i hi => hi⟩
    · simp only [pureA, hx, h1]
      rw [if_pos ho]
    · refine ⟨⟨_, _, by rw [hlen], by rw [hlen]; exact hcap⟩, ?_, hs.enc, fun a' n' c' he => by simp at he; obtain ⟨⟨rfl, _⟩, _⟩ := he; exact ho⟩
      by_cases h0 : hi - lo = 0
      · rw [h0]
        simp [srcA]
      · obtain ⟨a', c', he, hl⟩ := hs.base (i := lo) (by omega)
        simp at he
        obtain ⟨rfl, rfl⟩ := he
        have e1 : hi * k ≤ l.length * k := Nat.mul_le_mul_right _ hhi
        have e2 : lo * k + (hi - lo) * k = hi * k := by rw [← Nat.add_mul]; congr 1; omega
        have h3 := H.load_part hl (show lo * k + (hi - lo) * k ≤ l.length * k by omega)
        rw [flat_drop hs.enc, flat_take hs.enc] at h3
        obtain ⟨n, hn⟩ : ∃ n, hi - lo = n + 1 := ⟨hi - lo - 1, by omega⟩
        rw [hn] at h3 ⊢
        simpa [srcA] using h3
theorem boundA_at {T : Tm} {x : AX} {i y : Nat} {kd : IntKind} (hx : x.ev T = .one (.int kd i)) (hi : i ≤ y) : boundA T x y = some i := by
  simp only [boundA, hx]
  rw [if_pos ⟨by omega, by omega⟩]
  simp
/-- The first i elements. -/
theorem Sl.takeO (hs : Sl enc k ty h v l) {i : Nat} (hi : i ≤ l.length) {kd : IntKind} : ∃ v', cutO ty k h v none (some (.one (.int kd i))) none = some v' ∧ Sl enc k ty h v' (l.take i) := by
  obtain ⟨v', h1, h2, _⟩ := hs.cut (lo := 0) (hi := i) (alo := none) (ahi := some (.t 2)) (amx := none) (x := .t 0) (T := fun t => if t = 0 then v else if t = 1 then undefA else if t = 2 then .one (.int kd i) else undefA) rfl (Nat.zero_le _) hi (fun c hc => ⟨c, by
    have : i ≤ c.getD l.length := by cases c with | none => exact hi | some c => exact Nat.le_trans hi hc
    simp only [boundsA, maxA, highA, lowA]
    rw [boundA_at (i := i) (kd := kd) rfl this], by cases c with | none => trivial | some c => exact Nat.le_trans hi hc⟩)
  exact ⟨v', h1, by simpa using h2⟩
/-- All from i on. -/
theorem Sl.dropO (hs : Sl enc k ty h v l) {i : Nat} (hi : i ≤ l.length) {kd : IntKind} : ∃ v', cutO ty k h v (some (.one (.int kd i))) none none = some v' ∧ Sl enc k ty h v' (l.drop i) := by
  obtain ⟨v', h1, h2, _⟩ := hs.cut (lo := i) (hi := l.length) (alo := some (.t 1)) (ahi := none) (amx := none) (x := .t 0) (T := fun t => if t = 0 then v else if t = 1 then .one (.int kd i) else if t = 2 then undefA else undefA) rfl hi (Nat.le_refl _) (fun c hc => ⟨c, by
    simp only [boundsA, maxA, highA, lowA]
    rw [boundA_at (i := i) (kd := kd) rfl hi], by cases c with | none => trivial | some c => exact hc⟩)
  refine ⟨v', h1, ?_⟩
  rw [List.take_of_length_le (by simp)] at h2
  exact h2
/-- All, without room behind it. -/
theorem Sl.clipO (hs : Sl enc k ty h v l) {kd kd' : IntKind} : ∃ v', cutO ty k h v none (some (.one (.int kd l.length))) (some (.one (.int kd' l.length))) = some v' ∧ Sl enc k ty h v' l := by
  obtain ⟨v', h1, h2, _⟩ := hs.cut (lo := 0) (hi := l.length) (alo := none) (ahi := some (.t 2)) (amx := some (.t 3)) (x := .t 0) (T := fun t => if t = 0 then v else if t = 1 then undefA else if t = 2 then .one (.int kd l.length) else .one (.int kd' l.length)) rfl (Nat.zero_le _) (Nat.le_refl _) (fun c hc => ⟨some l.length, by
    have : l.length ≤ c.getD l.length := by cases c with | none => exact Nat.le_refl _ | some c => exact hc
    simp only [boundsA, maxA, highA, lowA]
    rw [boundA_at (i := l.length) (kd := kd') rfl this, Option.map_some]
    simp only [Option.getD_some]
    rw [boundA_at (i := l.length) (kd := kd) rfl (Nat.le_refl _)], Nat.le_refl _⟩)
  exact ⟨v', h1, by simpa using h2⟩
/-- A field of an element. -/
theorem Sl.field (hs : Sl enc k ty h v l) {i off : Nat} {c : CV} (hi : i < l.length) (hc : (enc l[i])[off]? = some c) : loadO 1 false h (.one (.ptr (some ((elem k v i).1, (elem k v i).2 + off)))) = some (.one c) := by
  refine loadO_one ?_
  have h1 := hs.load hi
  have h2 := (List.getElem?_eq_some_iff.1 hc).1
  rw [hs.enc] at h2
  rw [H.load_part h1 (show off + 1 ≤ k by omega)]
  obtain ⟨h3, h4⟩ := List.getElem?_eq_some_iff.1 hc
  rw [List.drop_eq_getElem_cons h3]
  simp [h4]
/-- Any field of an element. -/
theorem Sl.fieldO (hs : Sl enc k ty h v l) {i off : Nat} (hi : i < l.length) (ho : off + 1 ≤ k) : loadO 1 false h (.one (.ptr (some ((elem k v i).1, (elem k v i).2 + off)))) = (enc l[i])[off]?.map .one := by
  have h1 : off < (enc l[i]).length := by rw [hs.enc]; omega
  rw [hs.field hi (List.getElem?_eq_getElem h1), List.getElem?_eq_getElem h1]
  rfl
theorem Sl.oneO (hs : Sl enc 1 ty h v l) {i : Nat} (hi : i < l.length) : loadO 1 false h (.one (.ptr (some (elem 1 v i)))) = (enc l[i])[0]?.map .one := by
  have := hs.fieldO (off := 0) hi (Nat.le_refl _)
  simpa using this
theorem Sl.field0 (hs : Sl enc k ty h v l) {i : Nat} {c : CV} (hi : i < l.length) (hc : (enc l[i])[0]? = some c) : loadO 1 false h (.one (.ptr (some (elem k v i)))) = some (.one c) := by
  have := hs.field (off := 0) hi hc
  simpa using this
theorem Sl.one (hs : Sl enc 1 ty h v l) {i : Nat} {c : CV} (hi : i < l.length) (hc : enc l[i] = [c]) : loadO 1 false h (.one (.ptr (some (elem 1 v i)))) = some (.one c) := by
  refine loadO_one ?_
  rw [hs.load hi, hc]
theorem Sl.whole (hs : Sl enc k ty h v l) {i : Nat} (hi : i < l.length) : loadO k true h (.one (.ptr (some (elem k v i)))) = some (.agg (enc l[i])) := loadO_agg (hs.load hi)
theorem Sl.nil (he : ∀ x, (enc x).length = k) : Sl enc k ty h (.one (.sl none 0 (some 0))) ([] : List α) := ⟨⟨none, some 0, rfl, Nat.le_refl _⟩, rfl, he, fun a n c he => by simp at he⟩
theorem bytes_at {l : List Int} {ty : Nat} (hs : Sl (fun n : Int => [CV.int .u8 n]) 1 ty h v l) (hl : l ≠ []) : bytesO h v = some (.one (.str (strOfNums l))) := by
  obtain ⟨a, c, rfl, h1⟩ := hs.base (i := 0) (List.length_pos_iff.2 hl)
  simp only [bytesO]
  rw [if_neg (by simpa using hl)]
  rw [Nat.mul_one] at h1
  have : ∀ l : List Int, strBytes (l.flatMap fun n : Int => [CV.int .u8 n]) = some l := by
    intro l
    induction l with
    | nil => rfl
    | cons x r ih => simp only [List.flatMap_cons, List.cons_append, List.nil_append, strBytes, ih, Option.map_some]
  simp only [h1, this, Option.map_some]
theorem Sl.isNil (hs : Sl enc k ty h v l) : ∃ b : Bool, (∀ n, eqnilO n v (.one (.sl none 0 (some 0))) = some (ib (b != n))) ∧ (b = true → l = []) := by
  obtain ⟨b, c, rfl, hc⟩ := hs.form
  refine ⟨b.isNone, fun n => rfl, fun hb => ?_⟩
  cases b with
  | none =>
    have := hs.src
    cases hl : l with
    | nil => rfl
    | cons x r => subst hl; simp [srcA] at this
  | some a => simp at hb
end

/-! ### blocks of a run's own -/
structure Box (h : H) (p : Nat) (cs : List CV) (ty : Nat) : Prop where
  lt : p < h.n
  eq : h.f p = ⟨cs, ty, .rw⟩
theorem Box.grow {p : Nat} {cs : List CV} {ty : Nat} (b : Box h p cs ty) (g : Grow h h1) : Box h1 p cs ty := ⟨Nat.lt_of_lt_of_le b.lt g.n, (g.f p b.lt).trans b.eq⟩
theorem Box.stay {p : Nat} {cs : List CV} {ty : Nat} {s : AV} (b : Box h p cs ty) (g : Stay s h h1) (hn : baseOf s ≠ some p) : Box h1 p cs ty := ⟨Nat.lt_of_lt_of_le b.lt g.n, (g.f p b.lt hn).trans b.eq⟩
theorem Box.load {p : Nat} {cs : List CV} {ty off k : Nat} (b : Box h p cs ty) (hk : off + k ≤ cs.length) : h.load (p, off) k = some ((cs.drop off).take k) := by
  unfold H.load
  rw [b.eq, if_pos ⟨⟨b.lt, by simp⟩, hk⟩]
theorem Box.one {p : Nat} {cs : List CV} {ty off : Nat} {c : CV} (b : Box h p cs ty) (hc : cs[off]? = some c) : loadO 1 false h (.one (.ptr (some (p, off)))) = some (.one c) := by
  obtain ⟨h1, h2⟩ := List.getElem?_eq_some_iff.1 hc
  refine loadO_one ?_
  rw [b.load (by omega), List.drop_eq_getElem_cons h1]
  simp [h2]
theorem Box.all {p : Nat} {cs : List CV} {ty k : Nat} (b : Box h p cs ty) (hk : cs.length = k) : loadO k true h (.one (.ptr (some (p, 0)))) = some (.agg cs) := by
  refine loadO_agg ?_
  rw [b.load (by omega)]
  simp [← hk]
theorem Box.new {cs : List CV} {ty : Nat} : Box (h.alloc cs ty) h.n cs ty := ⟨Nat.lt_succ_self _, alloc_f_new⟩
theorem Box.store {p : Nat} {cs vs : List CV} {ty off : Nat} (b : Box h p cs ty) (hv : off + vs.length ≤ cs.length) :
    ∃ h1, h.store (p, off) vs = some h1 ∧ h1.n = h.n ∧ (∀ i, i ≠ p → h1.f i = h.f i) ∧ Box h1 p (cs.take off ++ (vs ++ cs.drop (off + vs.length))) ty := by
  unfold H.store
  rw [b.eq, if_pos ⟨rfl, hv⟩]
  exact ⟨_, rfl, rfl, fun i hi => by rw [setBlk_f, if_neg hi], b.lt, by rw [setBlk_f, if_pos rfl]⟩

/-! ### a list of the run's own, from h0 on -/
section
variable {α : Type} {enc : α → List CV} {k ty : Nat} {v s : AV} {l : List α}
inductive Nw {α : Type} (enc : α → List CV) (k ty : Nat) (h0 h : H) : AV → List α → Prop
  | nil : Nw enc k ty h0 h (.one (.sl none 0 (some 0))) []
  | emp {b o : Nat} : b < h.n → (h.f b).ty = ty → h0.n ≤ b → Nw enc k ty h0 h (.one (.sl (some (b, o)) 0 (some 0))) []
  | spare {b : Nat} {cs : List CV} : Box h b cs ty → h0.n ≤ b → Nw enc k ty h0 h (.one (.sl (some (b, 0)) 0 none)) []
  | full {b : Nat} {c : Option Nat} {l : List α} : (c = none ∨ c = some l.length) → Box h b (l.flatMap enc) ty → h0.n ≤ b → Nw enc k ty h0 h (.one (.sl (some (b, 0)) l.length c)) l

theorem Nw.sl (hs : Nw enc k ty h0 h v l) (he : ∀ x, (enc x).length = k) : Sl enc k ty h v l := by
  cases hs with
  | nil => exact Sl.nil he
  | emp h1 h2 h3 => exact ⟨⟨_, _, rfl, Nat.le_refl _⟩, rfl, he, fun a n c h4 => by simp at h4; obtain ⟨rfl, _⟩ := h4; exact ⟨h1, h2⟩⟩
  | spare h1 h2 => exact ⟨⟨_, _, rfl, trivial⟩, rfl, he, fun a n c h4 => by simp at h4; obtain ⟨rfl, _⟩ := h4; exact ⟨h1.lt, by rw [h1.eq]⟩⟩
  | full hc hb h3 =>
    rename_i b c
    refine ⟨⟨_, _, rfl, ?_⟩, ?_, he, fun a n c h4 => ?_⟩
    · rcases hc with rfl | rfl
      · trivial
      · exact Nat.le_refl _
    · cases hl : l.length with
      | zero =>
        have : l = [] := List.length_eq_zero_iff.1 hl
        subst this
        rfl
      | succ n =>
        simp only [srcA]
        rw [← hl, hb.load (by rw [flat_len he]; omega), List.drop_zero, List.take_of_length_le (by rw [flat_len he]; omega)]
    · simp at h4
      obtain ⟨⟨rfl, _⟩, _⟩ := h4
      exact ⟨hb.lt, by rw [hb.eq]⟩
theorem Nw.from (hs : Nw enc k ty h1 h v l) (hn : h0.n ≤ h1.n) : Nw enc k ty h0 h v l := by
  cases hs with
  | nil => exact .nil
  | emp h1 h2 h3 => exact .emp h1 h2 (Nat.le_trans hn h3)
  | spare h1 h2 => exact .spare h1 (Nat.le_trans hn h2)
  | full hc hb h3 => exact .full hc hb (Nat.le_trans hn h3)
theorem Nw.grow {h2 : H} (hs : Nw enc k ty h0 h v l) (g : Grow h h2) : Nw enc k ty h0 h2 v l := by
  cases hs with
  | nil => exact .nil
  | emp h1 h2 h3 => exact .emp (Nat.lt_of_lt_of_le h1 g.n) (by rw [g.f _ h1]; exact h2) h3
  | spare h1 h2 => exact .spare (h1.grow g) h2
  | full hc hb h3 => exact .full hc (hb.grow g) h3
theorem Nw.stay {h2 : H} (hs : Nw enc k ty h0 h v l) (g : Stay s h h2) (hd : ∀ i, baseOf v = some i → baseOf s ≠ some i) : Nw enc k ty h0 h2 v l := by
  cases hs with
  | nil => exact .nil
  | emp h1 h3 h4 => exact .emp (Nat.lt_of_lt_of_le h1 g.n) (by rw [g.f _ h1 (hd _ rfl)]; exact h3) h4
  | spare h1 h2 => exact .spare (h1.stay g (hd _ rfl)) h2
  | full hc hb h3 => exact .full hc (hb.stay g (hd _ rfl)) h3
theorem Nw.lt (hs : Nw enc k ty h0 h v l) {i : Nat} (hi : baseOf v = some i) : i < h.n ∧ h0.n ≤ i := by
  cases hs with
  | nil => simp [baseOf] at hi
  | emp h1 h2 h3 => simp [baseOf] at hi; subst hi; exact ⟨h1, h3⟩
  | spare h1 h2 => simp [baseOf] at hi; subst hi; exact ⟨h1.lt, h2⟩
  | full hc hb h3 => simp [baseOf] at hi; subst hi; exact ⟨hb.lt, h3⟩
theorem Nw.one (hs : Nw enc k ty h0 h v l) : ∃ c, v = .one c := by cases hs <;> exact ⟨_, rfl⟩
/-- Nothing that points: it is nothing. -/
theorem Nw.scalar (hs : Nw enc k ty h0 h v l) (hv : v.scalar = true) (h2 : H) : Nw enc k ty h0 h2 v l := by
  cases hs with
  | nil => exact .nil
  | emp => simp [AV.scalar, CV.scalar] at hv
  | spare => simp [AV.scalar, CV.scalar] at hv
  | full => simp [AV.scalar, CV.scalar] at hv
theorem Nw.clipO (hs : Nw enc k ty h0 h v l) {kd kd' : IntKind} : ∃ v', cutO ty k h v none (some (.one (.int kd l.length))) (some (.one (.int kd' l.length))) = some v' ∧ Nw enc k ty h0 h v' l := by
  cases hs with
  | nil => exact ⟨_, by simp [cutO, pureA, AX.ev, boundsA, maxA, highA, lowA, boundA], .nil⟩
  | emp h1 h2 h3 =>
    refine ⟨_, by simp [cutO, pureA, AX.ev, boundsA, maxA, highA, lowA, boundA]; exact ⟨⟨h1, h2⟩, rfl⟩, .emp h1 h2 h3⟩
  | spare h1 h2 =>
    refine ⟨_, by simp [cutO, pureA, AX.ev, boundsA, maxA, highA, lowA, boundA]; exact ⟨⟨h1.lt, by rw [h1.eq]⟩, rfl⟩, .emp h1.lt (by rw [h1.eq]) h2⟩
  | full hc hb h3 =>
    rename_i b c
    refine ⟨.one (.sl (some (b, 0)) l.length (some l.length)), ?_, .full (.inr rfl) hb h3⟩
    have : c.getD l.length = l.length := by rcases hc with rfl | rfl <;> rfl
    simp [cutO, pureA, AX.ev, boundsA, maxA, highA, lowA, boundA, this]
    exact ⟨hb.lt, by rw [hb.eq]⟩

theorem Nw.clipB (hs : Nw enc k ty h0 h v l) {kd kd' : IntKind} : ∃ v', cutO ty k h v none (some (.one (.int kd l.length))) (some (.one (.int kd' l.length))) = some v' ∧ Nw enc k ty h0 h v' l ∧ ∀ i, baseOf v' = some i → baseOf v = some i := by
  cases hs with
  | nil => exact ⟨_, by simp [cutO, pureA, AX.ev, boundsA, maxA, highA, lowA, boundA], .nil, fun i hi => by simp [baseOf] at hi⟩
  | emp h1 h2 h3 =>
    refine ⟨_, by simp [cutO, pureA, AX.ev, boundsA, maxA, highA, lowA, boundA]; exact ⟨⟨h1, h2⟩, rfl⟩, .emp h1 h2 h3, fun i hi => by simpa [baseOf] using hi⟩
  | spare h1 h2 =>
    refine ⟨_, by simp [cutO, pureA, AX.ev, boundsA, maxA, highA, lowA, boundA]; exact ⟨⟨h1.lt, by rw [h1.eq]⟩, rfl⟩, .emp h1.lt (by rw [h1.eq]) h2, fun i hi => by simpa [baseOf] using hi⟩
  | full hc hb h3 =>
    rename_i b c
    refine ⟨.one (.sl (some (b, 0)) l.length (some l.length)), ?_, .full (.inr rfl) hb h3, fun i hi => by simpa [baseOf] using hi⟩
    have : c.getD l.length = l.length := by rcases hc with rfl | rfl <;> rfl
    simp [cutO, pureA, AX.ev, boundsA, maxA, highA, lowA, boundA, this]
    exact ⟨hb.lt, by rw [hb.eq]⟩

theorem Nw.inv (hs : Nw enc k ty h0 h v l) : (v = .one (.sl none 0 (some 0)) ∧ l = []) ∨ (∃ b o, v = .one (.sl (some (b, o)) 0 (some 0)) ∧ l = [] ∧ b < h.n ∧ (h.f b).ty = ty ∧ h0.n ≤ b) ∨ (∃ b cs, v = .one (.sl (some (b, 0)) 0 none) ∧ l = [] ∧ Box h b cs ty ∧ h0.n ≤ b) ∨ ∃ b c, v = .one (.sl (some (b, 0)) l.length c) ∧ (c = none ∨ c = some l.length) ∧ Box h b (l.flatMap enc) ty ∧ h0.n ≤ b := by
  cases hs with
  | nil => exact .inl ⟨rfl, rfl⟩
  | emp h1 h2 h3 => exact .inr (.inl ⟨_, _, rfl, rfl, h1, h2, h3⟩)
  | spare h1 h2 => exact .inr (.inr (.inl ⟨_, _, rfl, rfl, h1, h2⟩))
  | full hc hb h3 => exact .inr (.inr (.inr ⟨_, _, rfl, hc, hb, h3⟩))
theorem wp_append {b : Nat} {x : AV} {m : List α} {d : Option Nat} (he : ∀ x, (enc x).length = k) (hs : Nw enc k ty h0 h s l) (hx : Sl enc k ty h x m) (g : Grow h0 h) (hb : (l.length + m.length) * b ≤ 140737488355328)
    (hk : ∀ h1 s', Grow h0 h1 → Nw enc k ty h0 h1 s' (l ++ m) → Stay s h h1 → (∀ i, baseOf s' = some i → baseOf s = some i ∨ h.n ≤ i) → K (T.put d (.v s')) L (rdy h1)) : apK ty k b s x d T L h K := by
  obtain ⟨xb, xc, rfl, _⟩ := hx.form
  have hsl := hs.sl he
  obtain ⟨sb, sc, rfl, hcap⟩ := hsl.form
  unfold apK
  simp only [appendA]
  by_cases hm : m.length = 0
  · rw [if_pos hm, callK_some]
    have : m = [] := List.length_eq_zero_iff.1 hm
    subst this
    exact hk h _ g (by simpa using hs) ((Grow.refl h).stay _) (fun i hi => .inl hi)
  · rw [if_neg hm, if_neg (by omega), hsl.src, hx.src]
    simp only
    have done : ∀ h2 : H, h2.n = h.n → Grow h0 h2 → (∀ i, i < h.n → baseOf (.one (.sl sb l.length sc)) ≠ some i → h2.f i = h.f i) →
        K (T.put d (.v (.one (.sl (some (h.n, 0)) (l.length + m.length) none)))) L (h2.alloc (l.flatMap enc ++ m.flatMap enc) ty) := by
      intro h2 e1 e2 e3
      refine hk _ _ (e2.trans (Grow.alloc h2 _ ty)) ?_ ⟨by show h.n ≤ h2.n + 1; omega, fun i hi hne => (alloc_f_old (by omega)).trans (e3 i hi hne)⟩ (fun i hi => .inr (by simp [baseOf] at hi; omega))
      have hbox : Box (h2.alloc ((l ++ m).flatMap enc) ty) h.n ((l ++ m).flatMap enc) ty := ⟨by show h.n < h2.n + 1; omega, by rw [← e1]; exact alloc_f_new⟩
      have := Nw.full (enc := enc) (k := k) (h0 := h0) (c := none) (l := l ++ m) (.inl rfl) hbox g.n
      rw [List.length_append, List.flatMap_append] at this
      exact this
    have hgrow : ∀ c', sc = some c' → ¬ l.length + m.length ≤ c' → callK (some (AV.one (.sl (some (h.n, 0)) (l.length + m.length) none), h.alloc (l.flatMap enc ++ m.flatMap enc) ty)) fun v h' => K (T.put d (.v v)) L h' := by
      intro c' _ _
      rw [callK_some]
      exact done h rfl g (fun _ _ _ => rfl)
    rcases hs.inv with ⟨h1, h2⟩ | ⟨b', o, h1, h2, _⟩ | ⟨b', cs, h1, h2, hbx, h3⟩ | ⟨b', c, h1, hc, hbx, h3⟩
    · subst h2
      simp at h1
      obtain ⟨rfl, rfl⟩ := h1
      simp only
      rw [if_neg (by rw [List.length_nil]; omega)]
      exact hgrow 0 rfl (by rw [List.length_nil]; omega)
    · subst h2
      simp at h1
      obtain ⟨rfl, rfl⟩ := h1
      simp only
      rw [if_neg (by rw [List.length_nil]; omega)]
      exact hgrow 0 rfl (by rw [List.length_nil]; omega)
    · subst h2
      simp at h1
      obtain ⟨rfl, rfl⟩ := h1
      simp only
      rw [if_pos ⟨by rw [hbx.eq], by rw [hbx.eq]⟩, callK_some]
      refine done (h.kill _) rfl ⟨g.n, fun i hi => ?_⟩ (fun i hi hne => ?_)
      · rw [kill_f, if_neg (by show i ≠ _; omega)]
        exact g.f i hi
      · rw [kill_f, if_neg (fun e => hne (by simp [baseOf, e]))]
    · simp at h1
      obtain ⟨rfl, rfl⟩ := h1
      rcases hc with rfl | rfl
      · simp only
        rw [if_pos ⟨by rw [hbx.eq], by rw [hbx.eq]⟩, callK_some]
        refine done (h.kill _) rfl ⟨g.n, fun i hi => ?_⟩ (fun i hi hne => ?_)
        · rw [kill_f, if_neg (by show i ≠ _; omega)]
          exact g.f i hi
        · rw [kill_f, if_neg (fun e => hne (by simp [baseOf, e]))]
      · simp only
        rw [if_neg (by omega)]
        exact hgrow _ rfl (by omega)

/-- Two slices of blocks apart. -/
def Sep (v w : AV) : Prop := ∀ i, baseOf v = some i → baseOf w ≠ some i
theorem Sep.symm {v w : AV} (h : Sep v w) : Sep w v := fun i hi hv => h i hv hi
/-- What came up later lies apart. -/
theorem Nw.apart {β : Type} {enc2 : β → List CV} {k2 ty2 : Nat} {h2 : H} {w : AV} {m : List β} (hs : Nw enc k ty h0 h v l) (hw : Nw enc2 k2 ty2 h h2 w m) : Sep v w := by
  intro i hi hj
  have h3 := (hs.lt hi).1
  have h4 := (hw.lt hj).2
  omega
theorem Sl.apart {β : Type} {enc2 : β → List CV} {k2 ty2 : Nat} {h2 : H} {w : AV} {m : List β} (hs : Sl enc k ty h v l) (hw : Nw enc2 k2 ty2 h h2 w m) : Sep v w := by
  intro i hi hj
  have h4 := (hw.lt hj).2
  obtain ⟨b, c, rfl, _⟩ := hs.form
  cases b with
  | none => simp [baseOf] at hi
  | some a =>
    simp [baseOf] at hi
    have := (hs.own a _ c rfl).1
    omega
theorem Sep.nil {v : AV} {n : Nat} {c : Option Nat} : Sep (.one (.sl none n c)) v := fun i hi => by simp [baseOf] at hi

/-- What was changed lies between a and b. -/
structure Mid (a b : Nat) (h h' : H) : Prop where
  n : h.n ≤ h'.n
  f : ∀ i, i < h.n → (i < a ∨ b ≤ i) → h'.f i = h.f i
theorem Grow.mid {a b : Nat} {h h1 : H} (g : Grow h h1) : Mid a b h h1 := ⟨g.n, fun i hi _ => g.f i hi⟩
theorem Mid.trans {a b : Nat} {h h1 h2 : H} (x : Mid a b h h1) (y : Mid a b h1 h2) : Mid a b h h2 := ⟨Nat.le_trans x.n y.n, fun i hi hn => (y.f i (by have := x.n; omega) hn).trans (x.f i hi hn)⟩
theorem Mid.widen {a b c : Nat} {h h1 : H} (m : Mid a b h h1) (hc : b ≤ c) : Mid a c h h1 := ⟨m.n, fun i hi hn => m.f i hi (by omega)⟩
theorem Mid.grow {a b : Nat} {h0 h h1 : H} (m : Mid a b h h1) (g : Grow h0 h) (ha : h0.n ≤ a) : Grow h0 h1 := ⟨Nat.le_trans g.n m.n, fun i hi => (m.f i (Nat.lt_of_lt_of_le hi g.n) (.inl (by omega))).trans (g.f i hi)⟩
theorem Nw.mid {α : Type} {enc : α → List CV} {k ty : Nat} {h0 hb h h1 : H} {v : AV} {l : List α} (hv : Nw enc k ty h0 hb v l) (s : Stay v h h1) : Mid h0.n hb.n h h1 :=
  ⟨s.n, fun i hi hn => s.f i hi fun e => by have := hv.lt e; omega⟩
theorem Nw.past {α : Type} {enc : α → List CV} {k ty a b : Nat} {h0 h h1 : H} {v : AV} {l : List α} (hv : Nw enc k ty h0 h v l) (m : Mid a b h h1) (hb : b ≤ h0.n) : Nw enc k ty h0 h1 v l := by
  cases hv with
  | nil => exact .nil
  | emp h1 h3 h4 => exact .emp (Nat.lt_of_lt_of_le h1 m.n) (by rw [m.f _ h1 (.inr (by omega))]; exact h3) h4
  | spare h1 h2 => exact .spare ⟨Nat.lt_of_lt_of_le h1.lt m.n, (m.f _ h1.lt (.inr (by omega))).trans h1.eq⟩ h2
  | full hc hb h3 => exact .full hc ⟨Nat.lt_of_lt_of_le hb.lt m.n, (m.f _ hb.lt (.inr (by omega))).trans hb.eq⟩ h3
/-- A list that is written out. -/
theorem wp_lit {n : Nat} {z : List CV} {ps : List (Nat × Nat × AV)} {d : Option Nat} (l : List α) (hf : fillA (repl z n) ps = some (l.flatMap enc)) (hl : l.length = n)
    (hk : ∀ h1 v, Grow h h1 → Nw enc k ty h h1 v l → (∀ i, baseOf v = some i → h.n ≤ i) → K (T.put d (.v v)) L (rdy h1)) : bsK ty n z ps d T L h K := by
  subst hl
  exact ⟨_, hf, hk _ _ (Grow.alloc h _ ty) (.full (.inr rfl) Box.new (Nat.le_refl _)) (fun i hi => by simp [baseOf] at hi; omega)⟩
/-- A list of zeros. -/
theorem repl_rep {x0 : α} : ∀ n, repl (enc x0) n = (List.replicate n x0).flatMap enc
  | 0 => rfl
  | n + 1 => by rw [repl, repl_rep n, List.replicate_succ, List.flatMap_cons]
theorem wp_make {n b : Nat} {z : List CV} {d : Option Nat} (x0 : α) (hz : z = enc x0) (hn : n * b ≤ 140737488355328) (hn2 : n ≤ 9223372036854775807)
    (hk : ∀ h1 v, Grow h h1 → Nw enc k ty h h1 v (List.replicate n x0) → (∀ i, baseOf v = some i → h.n ≤ i) → K (T.put d (.v v)) L (rdy h1)) : mkK ty b z (.one (.int .i64 n)) (.one (.int .i64 n)) d T L h K := by
  subst hz
  refine ⟨⟨by omega, Int.le_refl _, by rw [← Int.natCast_mul]; omega, by omega⟩, ?_⟩
  simp only [Int.toNat_natCast, repl_rep]
  have := Nw.full (enc := enc) (k := k) (ty := ty) (h0 := h) (h := h.alloc ((List.replicate n x0).flatMap enc) ty) (c := some n) (l := List.replicate n x0) (.inr (by simp)) Box.new (Nat.le_refl _)
  simp only [List.length_replicate] at this
  exact hk _ _ (Grow.alloc h _ ty) this (fun i hi => by simp [baseOf] at hi; omega)

/-- Zeros behind nothing. -/
theorem wp_appz {n b : Nat} {z : List CV} {d : Option Nat} (hn : 0 < n) (hb : n * b ≤ 140737488355328) (hn2 : n ≤ 140737488355328)
    (hk : ∀ h1, Grow h h1 → Box h1 h.n (repl z n) ty → K (T.put d (.v (.one (.sl (some (h.n, 0)) n none)))) L (rdy h1)) : azK ty b z (.one (.sl none 0 (some 0))) (.one (.int .i64 n)) d T L h K := by
  refine ⟨⟨by omega, by rw [← Int.natCast_mul]; omega, by omega⟩, ?_⟩
  simp only [Int.toNat_natCast]
  exact hk _ (Grow.alloc h _ ty) Box.new
theorem cut_zero {b n : Nat} {cs : List CV} (hb : Box h b cs ty) {kd : IntKind} : cutO ty k h (.one (.sl (some (b, 0)) n none)) none (some (.one (.int kd 0))) none = some (.one (.sl (some (b, 0)) 0 none)) := by
  simp [cutO, pureA, AX.ev, boundsA, maxA, highA, lowA, boundA]
  exact ⟨hb.lt, by rw [hb.eq]⟩

theorem flat_set (he : ∀ x, (enc x).length = k) {x : α} {off : Nat} {vs : List CV} : ∀ {l : List α} {i : Nat} (hi : i < l.length), (enc l[i]).take off ++ (vs ++ (enc l[i]).drop (off + vs.length)) = enc x → off + vs.length ≤ k →
    (l.flatMap enc).take (i * k + off) ++ (vs ++ (l.flatMap enc).drop (i * k + off + vs.length)) = (l.set i x).flatMap enc
  | y :: l, 0, hi, hx, ho => by
    simp only [List.getElem_cons_zero] at hx
    simp only [Nat.zero_mul, Nat.zero_add, List.flatMap_cons, List.set_cons_zero]
    rw [List.take_append_of_le_length (by rw [he]; omega), List.drop_append_of_le_length (by rw [he]; omega), ← hx]
    simp
  | y :: l, i + 1, hi, hx, ho => by
    simp only [List.getElem_cons_succ] at hx
    simp only [List.flatMap_cons, List.set_cons_succ]
    have ih := flat_set he (l := l) (i := i) (by simpa using hi) hx ho
    rw [show (i + 1) * k + off = (enc y).length + (i * k + off) by rw [he, Nat.add_mul]; omega, List.take_length_add_append, Nat.add_assoc, List.drop_length_add_append, ← ih, Nat.add_assoc]
    simp
/-- Cells of an element are written. -/
theorem wp_set {x : α} {i off m : Nat} {vs : List CV} {d : Option Nat} (he : ∀ x, (enc x).length = k) (hs : Nw enc k ty h0 h v l) (hi : i < l.length) (hm : vs.length = m) (hx : (enc l[i]).take off ++ (vs ++ (enc l[i]).drop (off + vs.length)) = enc x) (ho : off + vs.length ≤ k)
    (g : Grow h0 h) (hk : ∀ h1, Grow h0 h1 → Nw enc k ty h0 h1 v (l.set i x) → Stay v h h1 → K (T.put d (.v undefA)) L (rdy h1)) : stH m ((elem k v i).1, (elem k v i).2 + off) vs d T L h K := by
  cases hs with
  | nil => simp at hi
  | emp => simp at hi
  | spare => simp at hi
  | full hc hb h3 =>
    rename_i b c
    have e1 : (i + 1) * k ≤ l.length * k := Nat.mul_le_mul_right _ (by omega)
    rw [Nat.add_mul] at e1
    obtain ⟨h2, h4, h5, h6, h7⟩ := hb.store (off := i * k + off) (vs := vs) (by rw [flat_len he]; omega)
    rw [flat_set he hi hx ho] at h7
    refine ⟨h2, hm, by simpa [elem, Nat.zero_add] using h4, ?_⟩
    have hn : Nw enc k ty h0 h2 (.one (.sl (some (b, 0)) l.length c)) (l.set i x) := by
      have := Nw.full (enc := enc) (k := k) (h0 := h0) (c := c) (l := l.set i x) (by simpa using hc) h7 h3
      simpa using this
    exact hk h2 ⟨by rw [h5]; exact g.n, fun j hj => (h6 j (by omega)).trans (g.f j hj)⟩ hn ⟨by omega, fun j hj hne => h6 j (fun e => hne (by simp [baseOf, e]))⟩
theorem wp_setE {x : α} {i m : Nat} {vs : List CV} {d : Option Nat} (he : ∀ x, (enc x).length = k) (hs : Nw enc k ty h0 h v l) (hi : i < l.length) (hm : vs.length = m) (hx : vs = enc x)
    (g : Grow h0 h) (hk : ∀ h1, Grow h0 h1 → Nw enc k ty h0 h1 v (l.set i x) → Stay v h h1 → K (T.put d (.v undefA)) L (rdy h1)) : stH m (elem k v i) vs d T L h K := by
  subst hx
  have := wp_set (x := x) (off := 0) (vs := enc x) (m := m) (d := d) (K := K) (L := L) (T := T) he hs hi hm (by simp [he]) (by rw [he]; omega) g hk
  simpa using this
end
end

/-- Nothing has turned: what is in it was in it. -/
theorem Nw.back {α : Type} {enc : α → List CV} {k ty : Nat} {h0 h h1 : H} {v : AV} {l m : List α} (hm : Nw enc k ty h0 h1 v m) (hl : Nw enc k ty h0 h v l) (g : Grow h h1) : Nw enc k ty h0 h v m := by
  rcases hm.inv with ⟨h2, h3⟩ | ⟨b, o, h2, h3, a1, a2, a3⟩ | ⟨b, cs, h2, h3, h4, h5⟩ | ⟨b, c, h2, h3, h4, h5⟩
  · subst h2; subst h3; exact .nil
  · subst h2
    subst h3
    have hlt := (hl.lt (i := b) rfl).1
    exact .emp hlt (by rw [← g.f b hlt]; exact a2) a3
  · subst h2
    subst h3
    have hlt := (hl.lt (i := b) rfl).1
    exact .spare ⟨hlt, by rw [← g.f b hlt]; exact h4.eq⟩ h5
  · subst h2
    have hlt := (hl.lt (i := b) rfl).1
    exact .full h3 ⟨hlt, by rw [← g.f b hlt]; exact h4.eq⟩ h5
theorem Nw.length {α : Type} {enc : α → List CV} {k ty : Nat} {h0 h : H} {v : AV} {l : List α} (hl : Nw enc k ty h0 h v l) : lenO v = some (ii l.length) := by
  cases hl <;> rfl
theorem Nw.iaddr {α : Type} {enc : α → List CV} {k ty : Nat} {h0 h : H} {v : AV} {l : List α} (hl : Nw enc k ty h0 h v l) {i : Nat} (hi : i < l.length) {kd : IntKind} : iaddrO k v (.one (.int kd i)) = some (.one (.ptr (some (elem k v i)))) := by
  cases hl with
  | nil => simp at hi
  | emp => simp at hi
  | spare => simp at hi
  | full h1 h2 h3 =>
    simp only [iaddrO, elem]
    rw [if_pos ⟨by omega, by omega⟩]
    simp

/-- A list under way: the first i are there, the others are zeros. -/
def fillL {α : Type} (l : List α) (z : α) (i : Nat) : List α := l.take i ++ List.replicate (l.length - i) z
theorem fillL_zero {α : Type} {l : List α} {z : α} : fillL l z 0 = List.replicate l.length z := by simp [fillL]
theorem fillL_all {α : Type} {l : List α} {z : α} : fillL l z l.length = l := by simp [fillL]
theorem fillL_len {α : Type} {l : List α} {z : α} {i : Nat} (hi : i ≤ l.length) : (fillL l z i).length = l.length := by simp [fillL]; omega
theorem fillL_set {α : Type} {l : List α} {z : α} {i : Nat} (hi : i < l.length) : (fillL l z i).set i l[i] = fillL l z (i + 1) := by
  unfold fillL
  have hlen : (l.take i).length = i := by rw [List.length_take]; omega
  rw [List.set_append_right _ _ (by omega), List.take_succ_eq_append_getElem hi]
  obtain ⟨n, hn⟩ : ∃ n, l.length - i = n + 1 := ⟨l.length - i - 1, by omega⟩
  rw [hn, List.replicate_succ, show i - (l.take i).length = 0 by omega, List.set_cons_zero, show l.length - (i + 1) = n by omega, List.append_assoc]
  rfl
/-- Marks. -/
def markL {α : Type} (f : Int → α) (c : Nat) (k : Int) (n : Nat) : List α := (List.range n).map fun j => f (k + ((c * j : Nat) : Int))
theorem markL_len {α : Type} {f : Int → α} {c : Nat} {k : Int} {n : Nat} : (markL f c k n).length = n := by simp [markL]
theorem markL_at {α : Type} {f : Int → α} {c : Nat} {k : Int} {n i : Nat} (hi : i < (markL f c k n).length) : (markL f c k n)[i] = f (k + ((c * i : Nat) : Int)) := by simp [markL]
/-- The first i are marked. -/
def markT {α : Type} (f : Int → α) (c : Nat) (k : Int) (l : List α) (i : Nat) : List α := markL f c k i ++ l.drop i
theorem markT_zero {α : Type} {f : Int → α} {c : Nat} {k : Int} {l : List α} : markT f c k l 0 = l := by simp [markT, markL]
theorem markT_all {α : Type} {f : Int → α} {c : Nat} {k : Int} {l : List α} : markT f c k l l.length = markL f c k l.length := by simp [markT]
theorem markT_len {α : Type} {f : Int → α} {c : Nat} {k : Int} {l : List α} {i : Nat} (hi : i ≤ l.length) : (markT f c k l i).length = l.length := by simp [markT, markL_len]; omega
theorem markT_set {α : Type} {f : Int → α} {c : Nat} {k : Int} {l : List α} {i : Nat} (hi : i < l.length) : (markT f c k l i).set i (f (k + ((c * i : Nat) : Int))) = markT f c k l (i + 1) := by
  unfold markT
  rw [List.set_append_right _ _ (by simp [markL_len]), show i - (markL f c k i).length = 0 by simp [markL_len], List.drop_eq_getElem_cons hi, List.set_cons_zero]
  unfold markL
  rw [List.range_succ, List.map_append]
  simp

/-! ### loops -/
theorem wrap_next {i n : Nat} (hi : i < n) (hn : n < 2 ^ 62) : IntKind.i64.wrap ((i : Int) + 1) = ((i + 1 : Nat) : Int) := by
  rw [i64_wrap (by omega) (by omega)]
  omega
theorem lt_true {i n : Nat} (hi : i < n) : decide ((i : Int) < (n : Int)) = true := by simpa using hi
theorem lt_false {n : Nat} : decide ((n : Int) < (n : Int)) = false := by simp
theorem nat_ge (j : Nat) : decide ((j : Int) ≥ 0) = true := decide_eq_true (by omega)
theorem neg_ge : decide ((-1 : Int) ≥ 0) = false := rfl
theorem nat_lt (j : Nat) : decide ((j : Int) < 0) = false := decide_eq_false (by omega)
theorem neg_lt : decide ((-1 : Int) < 0) = true := rfl
theorem all_stop {α : Type} {l : List α} {p : α → Bool} {i : Nat} (hi : i < l.length) (h : p l[i] = false) : l.all p = false :=
  List.all_eq_false.2 ⟨l[i], List.getElem_mem hi, by simp [h]⟩
theorem take_next {α : Type} {l : List α} {p : α → Bool} {b : Bool} {i : Nat} (hi : i < l.length) (h0 : ∀ x ∈ l.take i, p x = b) (h : p l[i] = b) : ∀ x ∈ l.take (i + 1), p x = b := by
  intro x hx
  rw [List.take_succ_eq_append_getElem hi, List.mem_append] at hx
  rcases hx with hx | hx
  · exact h0 x hx
  · simp at hx
    subst hx
    exact h
theorem all_end {α : Type} {l : List α} {p : α → Bool} (h0 : ∀ x ∈ l.take l.length, p x = true) : l.all p = true := by
  rw [List.take_length] at h0
  exact List.all_eq_true.2 h0
theorem find_hit {α : Type} {l : List α} {p : α → Bool} {i : Nat} (hi : i < l.length) (h0 : ∀ x ∈ l.take i, p x = false) (h : p l[i] = true) : l.findIdx? p = some i := by
  rw [List.findIdx?_eq_some_iff_getElem]
  refine ⟨hi, h, fun j hj => ?_⟩
  have := h0 l[j] (by rw [List.mem_take_iff_getElem]; exact ⟨j, by omega, rfl⟩)
  simp [this]
/-- The first i have p. -/
structure Pre {α : Type} (p : α → Bool) (b : Bool) (l : List α) (i : Nat) : Prop where
  out : ∀ x ∈ l.take i, p x = b
theorem Pre.zero {α : Type} {p : α → Bool} {b : Bool} {l : List α} : Pre p b l 0 := ⟨fun x hx => by simp at hx⟩
theorem Pre.next {α : Type} {p : α → Bool} {b : Bool} {l : List α} {i : Nat} (hp : Pre p b l i) (hi : i < l.length) (h : p l[i] = b) : Pre p b l (i + 1) := ⟨take_next hi hp.out h⟩
theorem Pre.all {α : Type} {p : α → Bool} {l : List α} (hp : Pre p true l l.length) : l.all p = true := all_end hp.out
/-- All numbers up to i have p. -/
structure Upto (p : Nat → Bool) (i : Nat) : Prop where
  out : ∀ j, j < i → p j = true
theorem Upto.zero {p : Nat → Bool} : Upto p 0 := ⟨fun j hj => by omega⟩
theorem Upto.next {p : Nat → Bool} {i : Nat} (hp : Upto p i) (h : p i = true) : Upto p (i + 1) := ⟨fun j hj => by
  by_cases hji : j = i
  · rw [hji]; exact h
  · exact hp.out j (by omega)⟩
theorem Upto.all {p : Nat → Bool} {n : Nat} (hp : Upto p n) : (List.range n).all p = true := List.all_eq_true.2 fun i hi => hp.out i (List.mem_range.1 hi)
theorem idx_at {s : ByteArray} {i : Nat} (hi : i < s.size) {kd : IntKind} : idxStrO (.one (.str s)) (.one (.int kd i)) = some (.one (.int .u8 ((s.data[i]'hi).toNat : Int))) := by
  simp only [idxStrO]
  rw [if_pos (by omega)]
  simp [hi]
  rfl
end Go.Proofs.Ytnphlonhogcedaa.Am
