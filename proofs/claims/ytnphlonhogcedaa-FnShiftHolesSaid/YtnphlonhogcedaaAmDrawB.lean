/- The abstract machine: a region whose order is drawn: the model catches up, an operation with effect is gone by both, and the whole region. -/
import Derived.Test.YtnphlonhogcedaaAmDraw
namespace Go.Proofs.Ytnphlonhogcedaa.Am
open Go

section
variable {P : Program} {nt : Nat} {ops : Array Oper} {l : List AStep} {masks : Array Nat}
variable {β0 : Inj} {h0 : H} {w0 : World} {D done : Array Bool} {ids : Nat → Nat} {T : Tm} {h : H} {β : Inj} {w : World} {a : Act} {call : Oracle}

/-- The slots that a step looks at, when it comes up in the model. -/
theorem Inv.looks (hp : Plan P nt ops l masks) (hI : Inv P nt ops l masks β0 h0 w0 D done ids T h β w a) {i : Nat} {s : AStep} (hr : i ∈ Region.ready .any ops D) (hs : l[i]? = some s) (hown : on done i → effI l masks i = false)
    {S : Tm} (hS : ∀ t, (∀ i s, on done i → ¬ on D i → l[i]? = some s → s.dst ≠ some t) → S t = T t) : ∀ t ∈ s.looks, S t = T t := by
  intro t ht
  refine hS t fun j p hj hjD hpj hd => ?_
  have hjn : j < ops.size := by rw [← hp.len]; exact (List.getElem?_eq_some_iff.1 hpj).1
  by_cases hji : j = i
  · subst hji
    rw [hs] at hpj
    cases hpj
    have := ((effI_spec hs (hown hj)).2 t hd j s hs).2 ht
    exact ready_off hr (ready_mask hp hI.cD hI.szD hr hjn this)
  · rcases hp.reads i s hs j p t hpj hji hd ht with h1 | ⟨h1, _⟩
    · exact hjD (ready_mask hp hI.cD hI.szD hr hjn h1)
    · exact hjD (hI.sync j hjn hj h1)

theorem Inv.caught (hI : Inv P nt ops l masks β0 h0 w0 D done ids T h β w a) {i : Nat} {s : AStep} (hr : i ∈ Region.ready .any ops D) (hdn : on done i) (hs : l[i]? = some s) (hdlt : ∀ t, s.dst = some t → t < nt)
    {β1 : Inj} {w1 : World} {v : AV} {u : Value} (hv : relV P β1 w1 v u) (hT : ∀ d, s.dst = some d → T d = v) (hR : Rel P β1 h w1) (hStp : Stp β0 h0 w0 β1 h w1) (hE : Ext β β1) (hSh : Shapes w w1)
    (hids : ∀ j p, on done j → ¬ on D j → j ≠ i → l[j]? = some p → (laidA p.op T).isSome = true → wantA p.guard T = true → β (ids j) = none → β1 (ids j) = none) :
    Inv P nt ops l masks β0 h0 w0 (D.setIfInBounds i true) done ids T h β1 w1 (a.put s.dst u) := by
  have hilt := ready_lt hr
  have hnot : ∀ j, ¬ on (D.setIfInBounds i true) j → ¬ on D j ∧ j ≠ i := by
    intro j hj
    rw [on_set] at hj
    refine ⟨fun h' => hj (.inl h'), fun e => hj (.inr ⟨e, by rw [hI.szD]; exact hilt⟩)⟩
  refine ⟨by simp [hI.szD], hI.szd, closed_set hI.cD hr, hI.cd, ?_, fun j hj hd he => on_set.2 (.inl (hI.sync j hj hd he)), hR, hStp, ?_, ?_, ?_, by rw [put_size]; exact hI.size, by rw [put_defers]; exact hI.defers⟩
  · intro j hj
    rcases on_set.1 hj with hj | ⟨rfl, _⟩
    · exact hI.sub j hj
    · exact hdn
  · obtain ⟨S, hS1, hS2⟩ := hI.shadow
    refine ⟨S.put s.dst v, relA_put (hS1.mono hE hSh) hv (fun t ht => Nat.lt_of_lt_of_le (hdlt t ht) hI.size), fun t ht => ?_⟩
    by_cases hd : s.dst = some t
    · rw [hd]
      simp only [Tm.put, if_true]
      exact (hT t hd).symm
    · have e : S.put s.dst v t = S t := by
        cases hd' : s.dst with
        | none => rfl
        | some d => simp only [Tm.put]; rw [if_neg (fun e => by subst e; exact hd hd')]
      rw [e]
      refine hS2 t fun j p hj hjD hpj => ?_
      by_cases hji : j = i
      · subst hji
        rw [hs] at hpj
        cases hpj
        exact hd
      · exact ht j p hj (fun h' => (on_set.1 h').elim hjD (fun h' => hji h'.1)) hpj
  · intro j p hj hjD hpj
    obtain ⟨hjD, hji⟩ := hnot j hjD
    rcases hI.ahead j p hj hjD hpj with h1 | h1 | ⟨g1, cs, ty, mk, g2, g3, g4, g5, g6, g7⟩
    · exact .inl h1
    · exact .inr (.inl h1)
    · exact .inr (.inr ⟨g1, cs, ty, mk, g2, g3, g4, g5, g6, hids j p hj hjD hji hpj (by rw [g2]; rfl) g1 g7⟩)
  · intro j k p q hj hjD hk hkD
    exact hI.apart j k p q hj (hnot j hjD).1 hk (hnot k hkD).1

theorem Stp.laid {id : Nat} {arr : Array Value} {ty : TypeId} (hs : Stp β0 h0 w0 β h w) (hid : h0.n ≤ id) (hb : β id = none) : Stp β0 h0 w0 (β.put id (w.heap.size, 0)) h (w.alloc (.cells arr ty)) := by
  refine ⟨hs.ext.trans (Inj.put_ext hb), hs.shapes.trans (shapes_alloc w _), hs.n, ?_, hs.fix, hs.st, ?_, ?_, ?_, hs.os, hs.tape, hs.output, fun a => (frozen_alloc w arr ty a).trans (hs.fro a)⟩
  · intro i hi h1
    have : i ≠ id := by omega
    exact ⟨by simp [Inj.put, this, (hs.unm i hi h1).1], (hs.unm i hi h1).2⟩
  · intro i b d hi hst hbi
    by_cases e : i = id
    · subst e
      simp [Inj.put] at hbi
      have := hs.size
      left
      omega
    · simp only [Inj.put, if_neg e] at hbi
      exact hs.new i b d hi hst hbi
  · intro b hb1 hno
    rw [heap_alloc_old (Nat.lt_of_lt_of_le hb1 hs.size)]
    exact hs.keep b hb1 hno
  · have := hs.size
    show w0.heap.size ≤ (w.heap.push _).size
    simp
    omega

/-- The model comes to a step that the machine has gone. -/
theorem Inv.catch_up (hp : Plan P nt ops l masks) (hI : Inv P nt ops l masks β0 h0 w0 D done ids T h β w a) {i : Nat} (hr : i ∈ Region.ready .any ops D) (hdn : on done i)
    {Q : Exit → Act → World → Prop} {K : Act → World → Prop} (hK : ∀ β1 w1 a1, Inv P nt ops l masks β0 h0 w0 (D.setIfInBounds i true) done ids T h β1 w1 a1 → K a1 w1) : wpOp P ops Q i K a w := by
  have hilt := ready_lt hr
  obtain ⟨s, hs, hc⟩ := hp.get i ops[i] (Array.getElem?_eq_getElem hilt)
  obtain ⟨c1, c2, c3, c4, c5⟩ := compStep_spec hc
  have hiD := ready_off hr
  have he : effI l masks i = false := by
    cases h1 : effI l masks i with
    | false => rfl
    | true => exact absurd (hI.sync i hilt hdn h1) hiD
  obtain ⟨S, hS1, hS2⟩ := hI.shadow
  have hlook := hI.looks hp hr hs (fun _ => he) hS2
  obtain ⟨hw, hsl⟩ := looks_congr hlook
  have hdlt : ∀ t, s.dst = some t → t < nt := fun t ht => c5 t (by rw [← c3]; exact ht)
  unfold wpOp
  rw [Array.getElem?_eq_getElem hilt]
  simp only
  rw [wanted_eq c2 hS1, hw]
  rcases hI.ahead i s hdn hiD hs with ⟨g1, g2⟩ | ⟨g1, v, g2, g3⟩ | ⟨g1, cs, ty, mk, g2, g3, g4, g5, g6, g7⟩
  · rw [if_neg (by rw [g1]; simp)]
    rw [← c3]
    exact hK β w _ (hI.caught hr hdn hs hdlt (show relV P β w undefA undef from ⟨#[], rfl, trivial⟩) g2 hI.rel hI.stp (Ext.refl β) (Shapes.refl w) (fun _ _ _ _ _ _ _ _ h => h))
  · rw [if_pos g1]
    left
    refine opOk_pure hI.rel hS1 c1 (by rw [pureA_congr hsl]; exact g2) _ _ _ rfl ?_
    intro β1 w1 u k1 k2 k3
    rw [← c3]
    refine hK β1 w1 _ (hI.caught hr hdn hs hdlt k1 g3 k2 (hI.stp.trans k3) k3.ext k3.shapes ?_)
    intro j p hj hjD hji hpj q1 q2 q3
    rcases hI.ahead j p hj hjD hpj with ⟨r1, _⟩ | ⟨_, v', r2, _⟩ | ⟨_, _, _, _, _, _, _, r5, _, _⟩
    · rw [q2] at r1; simp at r1
    · exfalso
      cases ho : p.op <;> rw [ho] at q1 r2 <;> simp [laidA] at q1 <;> simp [pureA] at r2
    · exact (k3.unm _ r5 q3).1
  · rw [if_pos g1]
    left
    obtain ⟨arr, u, k1, k2, k3⟩ := laid_sound hS1 c1 (by rw [laidA_congr hsl]; exact g2)
    unfold Oper.wp
    rw [k1 _ rfl]
    have hself : (β.put (ids i) (w.heap.size, 0)) (ids i) = some (w.heap.size, 0) := by simp [Inj.put]
    show K (a.put ops[i].dst u) _
    rw [← c3]
    refine hK _ _ _ (hI.caught hr hdn hs hdlt (k3 _ _ hself) g3 (hI.rel.mapped g5 g4 g7 ?_) (hI.stp.laid g6 g7) (Inj.put_ext g7) (shapes_alloc w _) ?_)
    · intro o c hc
      obtain ⟨v, h5, h6⟩ := k2.get hc
      exact ⟨v, by rw [← Array.getElem?_toList]; exact h5, h6⟩
    · intro j p hj hjD hji hpj q1 q2 q3
      have := hI.apart j i p s hj hjD hdn hiD hji hpj hs q1 q2 (by rw [g2]; rfl) g1
      simp [Inj.put, this, q3]

theorem Inv.affected (hp : Plan P nt ops l masks) (hI : Inv P nt ops l masks β0 h0 w0 D done ids T h β w a) {k : Nat} {s : AStep} (hr : k ∈ Region.ready .any ops D) (hrd : k ∈ Region.ready .any ops done) (hs : l[k]? = some s) (hdlt : ∀ t, s.dst = some t → t < nt)
    {β1 : Inj} {h1 : H} {w1 : World} {v : AV} {u : Value} (hv : relV P β1 w1 v u) (hR : Rel P β1 h1 w1) (hStp : Stp β h w β1 h1 w1)
    (hag : ∀ j p, on done j → ¬ on D j → l[j]? = some p → isLoad p.op = true → wantA p.guard T = true → ∀ v', pureA p.op T h = some v' → (∀ d, p.dst = some d → T d = v') → pureA p.op (T.put s.dst v) h1 = some v') :
    Inv P nt ops l masks β0 h0 w0 (D.setIfInBounds k true) (done.setIfInBounds k true) ids (T.put s.dst v) h1 β1 w1 (a.put s.dst u) := by
  have hklt := ready_lt hr
  have hkd := ready_off hrd
  have hnot : ∀ j, ¬ on (D.setIfInBounds k true) j → ¬ on D j ∧ j ≠ k := by
    intro j hj
    rw [on_set] at hj
    refine ⟨fun h' => hj (.inl h'), fun e => hj (.inr ⟨e, by rw [hI.szD]; exact hklt⟩)⟩
  have hput : ∀ t, s.dst ≠ some t → (T.put s.dst v) t = T t := by
    intro t ht
    cases hd : s.dst with
    | none => rfl
    | some d => simp only [Tm.put]; rw [if_neg (fun e => by subst e; exact ht hd)]
  have hlooks : ∀ (j : Nat) (p : AStep), on done j → ¬ on D j → l[j]? = some p → ∀ t ∈ p.looks, (T.put s.dst v) t = T t := by
    intro j p hj hjD hpj t ht
    refine hput t fun hd => ?_
    have hjn : j < ops.size := by rw [← hp.len]; exact (List.getElem?_eq_some_iff.1 hpj).1
    have hkj : k ≠ j := fun e => hkd (e ▸ hj)
    rcases hp.reads j p hpj k s t hs hkj hd ht with h2 | ⟨_, h2⟩
    · exact hkd (closed_mask hp hI.cd hI.szd _ j (Nat.lt_succ_self _) hj k hklt h2)
    · exact hjD (ready_mask hp hI.cD hI.szD hr hjn h2)
  have hdsts : ∀ (j : Nat) (p : AStep), on done j → ¬ on D j → l[j]? = some p → ∀ d, p.dst = some d → (T.put s.dst v) d = T d := by
    intro j p hj hjD hpj d hd
    have hjn : j < ops.size := by rw [← hp.len]; exact (List.getElem?_eq_some_iff.1 hpj).1
    have hje : effI l masks j = false := by
      cases h2 : effI l masks j with
      | false => rfl
      | true => exact absurd (hI.sync j hjn hj h2) hjD
    have hkj : k ≠ j := fun e => hkd (e ▸ hj)
    exact hput d (((effI_spec hpj hje).2 d hd k s hs).1 hkj)
  refine ⟨by simp [hI.szD], by simp [hI.szd], closed_set hI.cD hr, closed_set hI.cd hrd, ?_, ?_, hR, hI.stp.trans hStp, ?_, ?_, ?_, by rw [put_size]; exact hI.size, by rw [put_defers]; exact hI.defers⟩
  · intro j hj
    rcases on_set.1 hj with hj | ⟨rfl, _⟩
    · exact on_set.2 (.inl (hI.sub j hj))
    · exact on_set.2 (.inr ⟨rfl, by rw [hI.szd]; exact hklt⟩)
  · intro j hjn hj he
    rcases on_set.1 hj with hj | ⟨rfl, _⟩
    · exact on_set.2 (.inl (hI.sync j hjn hj he))
    · exact on_set.2 (.inr ⟨rfl, by rw [hI.szD]; exact hklt⟩)
  · obtain ⟨S, hS1, hS2⟩ := hI.shadow
    refine ⟨S.put s.dst v, relA_put (hS1.mono hStp.ext hStp.shapes) hv (fun t ht => Nat.lt_of_lt_of_le (hdlt t ht) hI.size), fun t ht => ?_⟩
    by_cases hd : s.dst = some t
    · rw [hd]
      simp [Tm.put]
    · have e : S.put s.dst v t = S t := by
        cases hd' : s.dst with
        | none => rfl
        | some d => simp only [Tm.put]; rw [if_neg (fun e => by subst e; exact hd hd')]
      rw [e, hput t hd]
      refine hS2 t fun j p hj hjD hpj => ?_
      have hkj : j ≠ k := fun e => hkd (e ▸ hj)
      exact ht j p (on_set.2 (.inl hj)) (fun h' => (on_set.1 h').elim hjD (fun h' => hkj h'.1)) hpj
  · intro j p hj hjD hpj
    obtain ⟨hjD, hjk⟩ := hnot j hjD
    have hj : on done j := (on_set.1 hj).resolve_right (fun h' => hjk h'.1)
    refine (hI.ahead j p hj hjD hpj).move (hlooks j p hj hjD hpj) (hdsts j p hj hjD hpj) ?_ ?_
    · intro v' hw hv' hd
      cases hl : isLoad p.op with
      | true => exact hag j p hj hjD hpj hl hw v' hv' hd
      | false =>
        rw [pureA_congr (looks_congr (hlooks j p hj hjD hpj)).2, pureA_any (h' := h) hl]
        exact hv'
    · intro cs ty mk _ _ g1 g2 g3 g4
      obtain ⟨g5, g6⟩ := hStp.unm _ g2 g4
      exact ⟨by rw [g6]; exact g1, Nat.lt_of_lt_of_le g2 hStp.n, g5⟩
  · intro j m p q hj hjD hm hmD hjm hpj hqm g1 g2 g3 g4
    obtain ⟨hjD, hjk⟩ := hnot j hjD
    obtain ⟨hmD, hmk⟩ := hnot m hmD
    have hj : on done j := (on_set.1 hj).resolve_right (fun h' => hjk h'.1)
    have hm : on done m := (on_set.1 hm).resolve_right (fun h' => hmk h'.1)
    obtain ⟨k1, k2⟩ := looks_congr (hlooks j p hj hjD hpj)
    obtain ⟨k3, k4⟩ := looks_congr (hlooks m q hm hmD hqm)
    exact hI.apart j m p q hj hjD hm hmD hjm hpj hqm (by rw [← laidA_congr k2]; exact g1) (by rw [← k1]; exact g2) (by rw [← laidA_congr k4]; exact g3) (by rw [← k3]; exact g4)

/-- A step with effect is gone by both. -/
theorem Inv.effect (hp : Plan P nt ops l masks) (hcall : Sound P call) (hI : Inv P nt ops l masks β0 h0 w0 D done ids T h β w a) {k : Nat} {s : AStep} (hr : k ∈ Region.ready .any ops D) (hrd : k ∈ Region.ready .any ops done) (hs : l[k]? = some s)
    {T1 : Tm} {h1 : H} (hst : stepA call { s with again := againOf l masks done k } T h = some (T1, h1)) {Q : Exit → Act → World → Prop} {K : Act → World → Prop}
    (hK : ∀ β1 w1 a1, Inv P nt ops l masks β0 h0 w0 (D.setIfInBounds k true) (done.setIfInBounds k true) ids T1 h1 β1 w1 a1 → K a1 w1) : wpOp P ops Q k K a w := by
  have hklt := ready_lt hr
  obtain ⟨s', hs', hc⟩ := hp.get k ops[k] (Array.getElem?_eq_getElem hklt)
  rw [hs] at hs'
  cases hs'
  obtain ⟨c1, c2, c3, c4, c5⟩ := compStep_spec hc
  obtain ⟨S, hS1, hS2⟩ := hI.shadow
  have hkd := ready_off hrd
  have hlook := hI.looks hp hr hs (fun h' => absurd h' hkd) hS2
  obtain ⟨hw, hsl⟩ := looks_congr hlook
  have hdlt : ∀ t, s.dst = some t → t < nt := fun t ht => c5 t (by rw [← c3]; exact ht)
  unfold wpOp
  rw [Array.getElem?_eq_getElem hklt]
  simp only
  rw [wanted_eq c2 hS1, hw]
  unfold stepA at hst
  simp only at hst
  split at hst
  · rename_i hwt
    rw [if_pos hwt]
    split at hst
    · rename_i v h1' hop
      split at hst
      · rename_i hall
        simp only [Option.some.injEq, Prod.mk.injEq] at hst
        obtain ⟨rfl, rfl⟩ := hst
        left
        refine op_sound hcall hI.rel hS1 c1 (by rw [opA_congr hsl]; exact hop) _ _ _ rfl ?_
        intro β1 w1 u k1 k2 k3
        rw [← c3]
        refine hK β1 w1 _ (hI.affected hp hr hrd hs hdlt k1 k2 k3 ?_)
        intro j p hj hjD hpj hl hwp v' hv' hd
        have hjn : j < ops.size := by rw [← hp.len]; exact (List.getElem?_eq_some_iff.1 hpj).1
        have hmask : (masks.getD k 0).testBit j = false := by
          cases h2 : (masks.getD k 0).testBit j with
          | false => rfl
          | true => exact absurd (ready_mask hp hI.cD hI.szD hr hjn h2) hjD
        have hmem : (p.op, p.dst, p.guard) ∈ againOf l masks done k := by
          unfold againOf
          refine List.mem_filterMap.2 ⟨(p, j), ?_, ?_⟩
          · rw [List.mem_iff_getElem?]
            exact ⟨j, by rw [List.getElem?_zipIdx, hpj]; simp⟩
          · have hj' : done.getD j false = true := hj
            rw [if_pos (by rw [hj', hl, hmask]; rfl)]
        have h2 := List.all_eq_true.1 hall _ hmem
        unfold againA at h2
        simp only at h2
        -- the guard of p is as it was
        have hkj : k ≠ j := fun e => hkd (e ▸ hj)
        have hput : ∀ t ∈ p.looks, (T.put s.dst v) t = T t := by
          intro t ht
          have hne : s.dst ≠ some t := by
            intro hd'
            rcases hp.reads j p hpj k s t hs hkj hd' ht with h3 | ⟨_, h3⟩
            · exact hkd (closed_mask hp hI.cd hI.szd _ j (Nat.lt_succ_self _) hj k hklt h3)
            · exact hjD (ready_mask hp hI.cD hI.szD hr hjn h3)
          cases hd' : s.dst with
          | none => rfl
          | some d => simp only [Tm.put]; rw [if_neg (fun e => by subst e; exact hne hd')]
        rw [(looks_congr hput).1, if_pos hwp] at h2
        split at h2
        · rename_i v2 d e1 e2
          have h3 := same_eq h2
          have hje : effI l masks j = false := by
            cases h4 : effI l masks j with
            | false => rfl
            | true => exact absurd (hI.sync j hjn hj h4) hjD
          have hne := ((effI_spec hpj hje).2 d e2 k s hs).1 hkj
          have e3 : (T.put s.dst v) d = T d := by
            cases hd' : s.dst with
            | none => rfl
            | some d' => simp only [Tm.put]; rw [if_neg (fun e => by subst e; exact hne hd')]
          rw [e3, hd d e2] at h3
          rw [e1, h3]
        · simp at h2
      · simp at hst
    · simp at hst
  · rename_i hwt
    rw [if_neg hwt]
    simp only [Option.some.injEq, Prod.mk.injEq] at hst
    obtain ⟨rfl, rfl⟩ := hst
    rw [← c3]
    refine hK β w _ (hI.affected hp hr hrd hs hdlt (show relV P β w undefA undef from ⟨#[], rfl, trivial⟩) hI.rel (Stp.refl β h w hI.rel.dom) ?_)
    intro j p hj hjD hpj hl hwp v' hv' hd
    have hjn : j < ops.size := by rw [← hp.len]; exact (List.getElem?_eq_some_iff.1 hpj).1
    have hkj : k ≠ j := fun e => hkd (e ▸ hj)
    rw [pureA_congr (T := T)]
    · exact hv'
    · intro t ht
      have hne : s.dst ≠ some t := by
        intro hd'
        have ht' : t ∈ p.looks := by unfold AStep.looks; exact List.mem_append_left _ ht
        rcases hp.reads j p hpj k s t hs hkj hd' ht' with h3 | ⟨_, h3⟩
        · exact hkd (closed_mask hp hI.cd hI.szd _ j (Nat.lt_succ_self _) hj k hklt h3)
        · exact hjD (ready_mask hp hI.cD hI.szD hr hjn h3)
      cases hd' : s.dst with
      | none => rfl
      | some d => simp only [Tm.put]; rw [if_neg (fun e => by subst e; exact hne hd')]
end
end Go.Proofs.Ytnphlonhogcedaa.Am
