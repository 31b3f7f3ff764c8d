/- The abstract machine: a region whose order is drawn: what the one order that the machine goes leaves, every order leaves in the model. -/
import Derived.Test.YtnphlonhogcedaaAmCong
namespace Go.Proofs.Ytnphlonhogcedaa.Am
open Go

/-- Listed. -/
def on (A : Array Bool) (i : Nat) : Prop := A.getD i false = true

theorem compSteps_get {P : Program} {nt : Nat} {ops : Array Oper} : ∀ {ol : List Oper} {l : List AStep}, compSteps P nt ops ol = some l → l.length = ol.length ∧ ∀ (i : Nat) (o : Oper), ol[i]? = some o → ∃ s, l[i]? = some s ∧ compStep P nt ops o = some s
  | [], l, h => by
    simp [compSteps] at h
    subst h
    simp
  | o :: ol, l, h => by
    unfold compSteps at h
    split at h
    · rename_i s l' h1 h2
      simp at h
      subst h
      obtain ⟨h3, h4⟩ := compSteps_get h2
      refine ⟨by simp [h3], ?_⟩
      intro i o' hi
      cases i with
      | zero => simp at hi; subst hi; exact ⟨s, rfl, h1⟩
      | succ i => exact h4 i o' (by simpa using hi)
    · simp at h

/-- What is asked of a region once, by its text alone. -/
structure Plan (P : Program) (nt : Nat) (ops : Array Oper) (l : List AStep) (masks : Array Nat) : Prop where
  len : l.length = ops.size
  get : ∀ (i : Nat) (o : Oper), ops[i]? = some o → ∃ s, l[i]? = some s ∧ compStep P nt ops o = some s
  back : ∀ (i : Nat) (o : Oper), ops[i]? = some o → ∀ e ∈ o.after, Region.binds .any e = true → e.on < i
  mask : ∀ (i : Nat) (o : Oper), ops[i]? = some o → ∀ j, j < ops.size → (masks.getD i 0).testBit j = true → ∃ e ∈ o.after, Region.binds .any e = true ∧ (e.on = j ∨ (masks.getD e.on 0).testBit j = true)
  reads : ∀ (i : Nat) (s : AStep), l[i]? = some s → ∀ (j : Nat) (p : AStep) (d : Nat), l[j]? = some p → j ≠ i → p.dst = some d → d ∈ s.looks → (masks.getD i 0).testBit j = true ∨ (effI l masks j = true ∧ (masks.getD j 0).testBit i = true)

theorem effI_spec {l : List AStep} {masks : Array Nat} {i : Nat} {s : AStep} (hs : l[i]? = some s) (he : effI l masks i = false) :
    effA s.op = false ∧ ∀ d, s.dst = some d → ∀ (j : Nat) (p : AStep), l[j]? = some p → (j ≠ i → p.dst ≠ some d) ∧ (d ∈ p.looks → (masks.getD j 0).testBit i = true) := by
  unfold effI at he
  rw [hs] at he
  simp only [Bool.or_eq_false_iff] at he
  obtain ⟨h1, h2⟩ := he
  refine ⟨h1, ?_⟩
  intro d hd j p hp
  rw [hd] at h2
  simp only [List.any_eq_false, List.mem_range] at h2
  have h3 := h2 j (List.getElem?_eq_some_iff.1 hp).1
  rw [hp] at h3
  simp only [Bool.or_eq_true, Bool.and_eq_true, bne_iff_ne, ne_eq, beq_iff_eq, List.contains_iff_mem, Bool.not_eq_true', not_or, not_and] at h3
  refine ⟨fun hj e => h3.1 hj e, fun hm => ?_⟩
  have := h3.2 hm
  simpa using this

theorem plan_of {P : Program} {nt : Nat} {ops : Array Oper} {l : List AStep} {masks : Array Nat} (hl : compSteps P nt ops ops.toList = some l) (ho : orderOk ops l masks = true) : Plan P nt ops l masks := by
  obtain ⟨h1, h2⟩ := compSteps_get hl
  have hlen : l.length = ops.size := by simpa using h1
  have hget : ∀ (i : Nat) (o : Oper), ops[i]? = some o → ∃ s, l[i]? = some s ∧ compStep P nt ops o = some s := fun i o hi => h2 i o (by simpa using hi)
  have hall : ∀ (i : Nat) (o : Oper) (s : AStep), ops[i]? = some o → l[i]? = some s → _ := fun i o s hi hs => by
    have := List.all_eq_true.1 ho i (List.mem_range.2 (Array.getElem?_eq_some_iff.1 hi).1)
    rw [hi, hs] at this
    simp only [Bool.and_eq_true, List.all_eq_true, List.mem_range, Bool.or_eq_true, Bool.not_eq_true', decide_eq_true_eq, List.any_eq_true, beq_iff_eq] at this
    exact this
  refine ⟨hlen, hget, ?_, ?_, ?_⟩
  · intro i o hi e he hb
    obtain ⟨s, hs, _⟩ := hget i o hi
    have := (hall i o s hi hs).1.1 e (by simpa using he)
    rcases this with h | h
    · rw [hb] at h; simp at h
    · exact h
  · intro i o hi j hj hb
    obtain ⟨s, hs, _⟩ := hget i o hi
    have := (hall i o s hi hs).1.2 j hj
    rcases this with h | ⟨e, he, h⟩
    · rw [hb] at h; simp at h
    · exact ⟨e, by simpa using he, h⟩
  · intro i s hs j p d hp hji hd hm
    have hi : i < ops.size := by rw [← hlen]; exact (List.getElem?_eq_some_iff.1 hs).1
    have := (hall i ops[i] s (Array.getElem?_eq_getElem hi) hs).2 j (by rw [← hlen]; exact (List.getElem?_eq_some_iff.1 hp).1)
    rcases this with h | h
    · exact absurd h hji
    · rw [hp] at h
      simp only [hd] at h
      simp only [Bool.or_eq_true, Bool.not_eq_true', Bool.and_eq_true] at h
      rcases h with (h | h) | h
      · have : s.looks.contains d = true := by simpa using hm
        rw [this] at h
        simp at h
      · exact .inl h
      · exact .inr h

section
variable {P : Program} {nt : Nat} {ops : Array Oper} {l : List AStep} {masks : Array Nat}

def Closed (ops : Array Oper) (A : Array Bool) : Prop := ∀ (j : Nat) (o : Oper), ops[j]? = some o → on A j → ∀ e ∈ o.after, Region.binds .any e = true → on A e.on

theorem closed_mask (hp : Plan P nt ops l masks) {A : Array Bool} (hc : Closed ops A) (hsz : A.size = ops.size) : ∀ (n i : Nat), i < n → on A i → ∀ j, j < ops.size → (masks.getD i 0).testBit j = true → on A j := by
  intro n
  induction n with
  | zero => intro i hi; omega
  | succ n ih =>
    intro i hi ha j hj hb
    have hin : i < ops.size := by
      rcases Nat.lt_or_ge i A.size with h' | h'
      · omega
      · simp [on, Array.getElem?_eq_none h'] at ha
    obtain ⟨e, he, h1, h2⟩ := hp.mask i ops[i] (Array.getElem?_eq_getElem hin) j hj hb
    have h3 := hc i ops[i] (Array.getElem?_eq_getElem hin) ha e he h1
    rcases h2 with rfl | h2
    · exact h3
    · have := hp.back i ops[i] (Array.getElem?_eq_getElem hin) e he h1
      exact ih e.on (by omega) h3 j hj h2

theorem ready_mask (hp : Plan P nt ops l masks) {A : Array Bool} (hc : Closed ops A) (hsz : A.size = ops.size) {i : Nat} (hr : i ∈ Region.ready .any ops A) {j : Nat} (hj : j < ops.size) (hb : (masks.getD i 0).testBit j = true) : on A j := by
  obtain ⟨_, o, ho, hall⟩ := mem_ready.1 hr
  obtain ⟨e, he, h1, h2⟩ := hp.mask i o ho j hj hb
  have h3 : on A e.on := hall e he h1
  rcases h2 with rfl | h2
  · exact h3
  · exact closed_mask hp hc hsz _ e.on (Nat.lt_succ_self _) h3 j hj h2

theorem on_set {A : Array Bool} {i j : Nat} : on (A.setIfInBounds i true) j ↔ on A j ∨ (j = i ∧ i < A.size) := by
  unfold on
  by_cases hij : i = j
  · subst hij
    by_cases hlt : i < A.size
    · simp [hlt]
    · simp [hlt]
  · rw [getD_set_ne false hij]
    simp [Ne.symm hij]
theorem ready_lt {A : Array Bool} {i : Nat} (hr : i ∈ Region.ready .any ops A) : i < ops.size := by
  obtain ⟨_, o, ho, _⟩ := mem_ready.1 hr
  exact (Array.getElem?_eq_some_iff.1 ho).1
theorem ready_off {A : Array Bool} {i : Nat} (hr : i ∈ Region.ready .any ops A) : ¬ on A i := by
  obtain ⟨h, _⟩ := mem_ready.1 hr
  unfold on
  intro h1
  rcases Nat.lt_or_ge i A.size with h' | h'
  · simp [h'] at h h1
    rw [h] at h1
    cases h1
  · simp [Array.getElem?_eq_none h'] at h
theorem ready_of {A : Array Bool} {i : Nat} {o : Oper} (hsz : A.size = ops.size) (ho : ops[i]? = some o) (hoff : ¬ on A i) (hall : ∀ e ∈ o.after, Region.binds .any e = true → on A e.on) : i ∈ Region.ready .any ops A := by
  refine mem_ready.2 ⟨?_, o, ho, hall⟩
  have hlt : i < A.size := by rw [hsz]; exact (Array.getElem?_eq_some_iff.1 ho).1
  unfold on at hoff
  simp [hlt] at hoff ⊢
  exact hoff
theorem closed_set {A : Array Bool} (hc : Closed ops A) {i : Nat} (hr : i ∈ Region.ready .any ops A) : Closed ops (A.setIfInBounds i true) := by
  obtain ⟨_, oi, hoi, hall⟩ := mem_ready.1 hr
  intro j o ho ha e he hb
  rw [on_set] at ha ⊢
  left
  rcases ha with ha | ⟨rfl, _⟩
  · exact hc j o ho ha e he hb
  · rw [hoi] at ho
    cases ho
    exact hall e he hb

/-- What a step that the machine has gone and the model has not would give again. -/
def Stable (T : Tm) (h : H) (β : Inj) (n0 id : Nat) (s : AStep) : Prop :=
  (wantA s.guard T = false ∧ ∀ d, s.dst = some d → T d = undefA) ∨
  (wantA s.guard T = true ∧ ∃ v, pureA s.op T h = some v ∧ ∀ d, s.dst = some d → T d = v) ∨
  (wantA s.guard T = true ∧ ∃ cs ty mk, laidA s.op T = some (cs, ty, mk) ∧ (∀ d, s.dst = some d → T d = mk id) ∧ h.f id = ⟨cs, ty, .rw⟩ ∧ id < h.n ∧ n0 ≤ id ∧ β id = none)

structure Inv (P : Program) (nt : Nat) (ops : Array Oper) (l : List AStep) (masks : Array Nat) (β0 : Inj) (h0 : H) (w0 : World) (D done : Array Bool) (ids : Nat → Nat) (T : Tm) (h : H) (β : Inj) (w : World) (a : Act) : Prop where
  szD : D.size = ops.size
  szd : done.size = ops.size
  cD : Closed ops D
  cd : Closed ops done
  sub : ∀ i, on D i → on done i
  sync : ∀ i, i < ops.size → on done i → effI l masks i = true → on D i
  rel : Rel P β h w
  stp : Stp β0 h0 w0 β h w
  shadow : ∃ S, relA P β w S a ∧ ∀ t, (∀ i s, on done i → ¬ on D i → l[i]? = some s → s.dst ≠ some t) → S t = T t
  ahead : ∀ i s, on done i → ¬ on D i → l[i]? = some s → Stable T h β h0.n (ids i) s
  apart : ∀ i j s t, on done i → ¬ on D i → on done j → ¬ on D j → i ≠ j → l[i]? = some s → l[j]? = some t → (laidA s.op T).isSome = true → wantA s.guard T = true → (laidA t.op T).isSome = true → wantA t.guard T = true → ids i ≠ ids j
  size : nt ≤ a.tmps.size
  defers : a.defers = []

theorem looks_congr {S T : Tm} {s : AStep} (hs : ∀ t ∈ s.looks, S t = T t) : wantA s.guard S = wantA s.guard T ∧ ∀ t ∈ s.op.slots, S t = T t := by
  refine ⟨wantA_congr fun t b hg => hs t ?_, fun t ht => hs t ?_⟩
  · unfold AStep.looks
    rw [hg]
    simp
  · unfold AStep.looks
    exact List.mem_append_left _ ht

/-- A step that is looked at anew where its slots, and what it reads, are as they were. -/
theorem Stable.move {T T1 : Tm} {h h1 : H} {β β1 : Inj} {n0 id : Nat} {s : AStep} (hs : Stable T h β n0 id s) (hl : ∀ t ∈ s.looks, T1 t = T t) (hd : ∀ d, s.dst = some d → T1 d = T d)
    (hpure : ∀ v, wantA s.guard T = true → pureA s.op T h = some v → (∀ d, s.dst = some d → T d = v) → pureA s.op T1 h1 = some v) (hlaid : ∀ cs ty mk, wantA s.guard T = true → laidA s.op T = some (cs, ty, mk) → h.f id = ⟨cs, ty, .rw⟩ → id < h.n → n0 ≤ id → β id = none → h1.f id = ⟨cs, ty, .rw⟩ ∧ id < h1.n ∧ β1 id = none) :
    Stable T1 h1 β1 n0 id s := by
  obtain ⟨hw, hsl⟩ := looks_congr hl
  rcases hs with ⟨h2, h3⟩ | ⟨h2, v, h3, h4⟩ | ⟨h2, cs, ty, mk, h3, h4, h5, h6, h7, h8⟩
  · exact .inl ⟨by rw [hw]; exact h2, fun d hdd => by rw [hd d hdd]; exact h3 d hdd⟩
  · exact .inr (.inl ⟨by rw [hw]; exact h2, v, hpure v h2 h3 h4, fun d hdd => by rw [hd d hdd]; exact h4 d hdd⟩)
  · obtain ⟨g1, g2, g3⟩ := hlaid cs ty mk h2 h3 h5 h6 h7 h8
    exact .inr (.inr ⟨by rw [hw]; exact h2, cs, ty, mk, by rw [laidA_congr hsl]; exact h3, fun d hdd => by rw [hd d hdd]; exact h4 d hdd, g1, g2, h7, g3⟩)

section
variable {β0 : Inj} {h0 : H} {w0 : World} {D done : Array Bool} {ids : Nat → Nat} {T : Tm} {h : H} {β : Inj} {w : World} {a : Act} {call : Oracle}

/-- The machine goes one step ahead. -/
theorem Inv.go_ahead (hp : Plan P nt ops l masks) (hI : Inv P nt ops l masks β0 h0 w0 D done ids T h β w a) {i : Nat} {s : AStep} (hr : i ∈ Region.ready .any ops done) (he : effI l masks i = false) (hs : l[i]? = some s) (hag : s.again = [])
    {T1 : Tm} {h1 : H} (hst : stepA call s T h = some (T1, h1)) :
    ∃ ids1, Inv P nt ops l masks β0 h0 w0 D (done.setIfInBounds i true) ids1 T1 h1 β w a := by
  obtain ⟨he1, he2⟩ := effI_spec hs he
  have hilt := ready_lt hr
  have hioff := ready_off hr
  have hiD : ¬ on D i := fun h' => hioff (hI.sub i h')
  have hon1 : on (done.setIfInBounds i true) i := by rw [on_set]; exact .inr ⟨rfl, by rw [hI.szd]; exact hilt⟩
  -- slots of others
  have hdst : ∀ t, s.dst ≠ some t → T1 t = T t := by
    intro t ht
    unfold stepA at hst
    split at hst
    · split at hst
      · split at hst
        · simp only [Option.some.injEq, Prod.mk.injEq] at hst
          rw [← hst.1]
          cases hd : s.dst with
          | none => rfl
          | some d => simp only [Tm.put]; rw [if_neg (fun e => by subst e; exact ht hd)]
        · simp at hst
      · simp at hst
    · simp only [Option.some.injEq, Prod.mk.injEq] at hst
      rw [← hst.1]
      cases hd : s.dst with
      | none => rfl
      | some d => simp only [Tm.put]; rw [if_neg (fun e => by subst e; exact ht hd)]
  have hown : ∀ t ∈ s.looks, T1 t = T t := by
    intro t ht
    refine hdst t fun hd => ?_
    have := (he2 t hd i s hs).2 ht
    exact hioff (ready_mask hp hI.cd hI.szd hr hilt this)
  have hlooks : ∀ (j : Nat) (p : AStep), on done j → l[j]? = some p → ∀ t ∈ p.looks, T1 t = T t := by
    intro j p hj hpj t ht
    refine hdst t fun hd => ?_
    have h2 := (he2 t hd j p hpj).2 ht
    exact hioff (closed_mask hp hI.cd hI.szd _ j (Nat.lt_succ_self _) hj i hilt h2)
  have hdsts : ∀ (j : Nat) (p : AStep), j ≠ i → l[j]? = some p → ∀ d, p.dst = some d → T1 d = T d := by
    intro j p hj hpj d hd
    refine hdst d fun hd' => (he2 d hd' j p hpj).1 hj hd
  -- what it gives
  have hgive : (h1 = h ∨ ∃ cs ty, h1 = h.alloc cs ty) ∧ Stable T1 h1 β h0.n h.n s := by
    obtain ⟨hw1, hsl⟩ := looks_congr hown
    have hst0 := hst
    unfold stepA at hst
    split at hst
    · rename_i hw
      split at hst
      · rename_i v h1' hop
        rw [hag] at hst
        simp only [List.all_nil, if_true, Option.some.injEq, Prod.mk.injEq] at hst
        obtain ⟨e1, e2⟩ := hst
        subst e2
        have hTd : ∀ d, s.dst = some d → T1 d = v := fun d hd => by rw [← e1, hd]; simp [Tm.put]
        rcases opA_light he1 hop with ⟨g1, rfl⟩ | ⟨cs, ty, mk, g1, rfl, rfl⟩
        · exact ⟨.inl rfl, .inr (.inl ⟨by rw [hw1]; exact hw, v, by rw [pureA_congr hsl]; exact g1, hTd⟩)⟩
        · refine ⟨.inr ⟨cs, ty, rfl⟩, .inr (.inr ⟨by rw [hw1]; exact hw, cs, ty, mk, by rw [laidA_congr hsl]; exact g1, hTd, alloc_f_new, Nat.lt_succ_self _, hI.stp.n, hI.rel.dom _ (Nat.le_refl _)⟩)⟩
      · simp at hst
    · rename_i hw
      simp only [Option.some.injEq, Prod.mk.injEq] at hst
      obtain ⟨e1, e2⟩ := hst
      subst e2
      refine ⟨.inl rfl, .inl ⟨by rw [hw1]; simpa using hw, fun d hd => by rw [← e1, hd]; simp [Tm.put]⟩⟩
  obtain ⟨hheap, hself⟩ := hgive
  have hfold : ∀ id, id < h.n → h1.f id = h.f id ∧ id < h1.n := by
    intro id hid
    rcases hheap with rfl | ⟨cs, ty, rfl⟩
    · exact ⟨rfl, hid⟩
    · exact ⟨alloc_f_old (by omega), Nat.lt_succ_of_lt hid⟩
  have hrel : Rel P β h1 w := by
    rcases hheap with rfl | ⟨cs, ty, rfl⟩
    · exact hI.rel
    · exact hI.rel.unmapped cs ty
  have hstp : Stp β h w β h1 w := by
    rcases hheap with rfl | ⟨cs, ty, rfl⟩
    · exact Stp.refl β _ w hI.rel.dom
    · exact Stp.unmapped hI.rel cs ty
  have hahead : ∀ j p, on done j → ¬ on D j → l[j]? = some p → Stable T1 h1 β h0.n (ids j) p := by
    intro j p hj hjD hpj
    have hji : j ≠ i := fun e => by subst e; exact hioff hj
    refine (hI.ahead j p hj hjD hpj).move (hlooks j p hj hpj) (hdsts j p hji hpj) ?_ ?_
    · intro v _ hv _
      rw [pureA_congr (looks_congr (hlooks j p hj hpj)).2]
      rcases hheap with rfl | ⟨cs, ty, rfl⟩
      · exact hv
      · exact pureA_alloc hv
    · intro cs ty mk _ _ g1 g2 g3 g4
      obtain ⟨g5, g6⟩ := hfold _ g2
      exact ⟨by rw [g5]; exact g1, g6, g4⟩
  refine ⟨fun j => if j = i then h.n else ids j, hI.szD, by simp [hI.szd], hI.cD, closed_set hI.cd hr, fun j hj => on_set.2 (.inl (hI.sub j hj)), ?_, hrel, hI.stp.trans hstp, ?_, ?_, ?_, hI.size, hI.defers⟩
  · intro j hj hd hje
    rcases on_set.1 hd with hd | ⟨rfl, _⟩
    · exact hI.sync j hj hd hje
    · rw [he] at hje; simp at hje
  · obtain ⟨S, hS1, hS2⟩ := hI.shadow
    refine ⟨S, hS1, fun t ht => ?_⟩
    rw [hdst t (ht i s hon1 hiD hs)]
    exact hS2 t fun j p hj hjD hpj => ht j p (on_set.2 (.inl hj)) hjD hpj
  · intro j p hj0 hjD hpj
    rcases on_set.1 hj0 with hj | ⟨rfl, _⟩
    · have hji : j ≠ i := fun e => hioff (e ▸ hj)
      rw [if_neg hji]
      exact hahead j p hj hjD hpj
    · rw [if_pos rfl]
      rw [hs] at hpj
      cases hpj
      exact hself
  · intro j k p q hj0 hjD hk0 hkD hjk hpj hqk g1 g2 g3 g4
    have lower : ∀ j p, on done j → ¬ on D j → l[j]? = some p → (laidA p.op T1).isSome = true → wantA p.guard T1 = true → ids j < h.n := by
      intro j p hj hjD hpj g1 g2
      obtain ⟨k1, k2⟩ := looks_congr (hlooks j p hj hpj)
      rw [k1] at g2
      rw [laidA_congr k2] at g1
      rcases hI.ahead j p hj hjD hpj with ⟨h2, _⟩ | ⟨h2, v, h3, _⟩ | ⟨_, _, _, _, _, _, _, h6, _⟩
      · rw [g2] at h2; simp at h2
      · exfalso
        cases ho : p.op <;> rw [ho] at g1 h3 <;> simp [laidA] at g1 <;> simp [pureA] at h3
      · exact h6
    rcases on_set.1 hj0 with hj | ⟨rfl, _⟩
    · have hji : j ≠ i := fun e => hioff (e ▸ hj)
      rcases on_set.1 hk0 with hk | ⟨rfl, _⟩
      · have hki : k ≠ i := fun e => hioff (e ▸ hk)
        rw [if_neg hji, if_neg hki]
        obtain ⟨k1, k2⟩ := looks_congr (hlooks j p hj hpj)
        obtain ⟨k3, k4⟩ := looks_congr (hlooks k q hk hqk)
        exact hI.apart j k p q hj hjD hk hkD hjk hpj hqk (by rw [← laidA_congr k2]; exact g1) (by rw [← k1]; exact g2) (by rw [← laidA_congr k4]; exact g3) (by rw [← k3]; exact g4)
      · rw [if_neg hji, if_pos rfl]
        have := lower j p hj hjD hpj g1 g2
        omega
    · have hki : k ≠ j := Ne.symm hjk
      rw [if_pos rfl, if_neg hki]
      rcases on_set.1 hk0 with hk | ⟨rfl, _⟩
      · have := lower k q hk hkD hqk g3 g4
        omega
      · exact absurd rfl hki
end
end
end Go.Proofs.Ytnphlonhogcedaa.Am
