/- The second machine: operations with effect against those of the first one; a function's own store. -/
import Derived.Test.YtnphlonhogcedaaBmOps
namespace Go.Proofs.Ytnphlonhogcedaa.Am
open Go

/-- A call of the second machine's is one of the first one's. -/
def Sim (call2 call : Oracle) : Prop := ∀ f args h r h1, call2 f args h = some (r, h1) → ∀ β h' args', RelH β h h' → rVs β args args' →
  ∃ β1 r' h1', call f args' h' = some (r', h1') ∧ RelH β1 h1 h1' ∧ rV β1 r r' ∧ Fr β h' β1 h1'

section
variable {β : Re} {h h' : H} {T T' : Tm}

theorem repl_sim {z z' : List CV} (hz : rL β z z') : ∀ n, rL β (repl z n) (repl z' n)
  | 0 => rfl
  | n + 1 => hz.append (repl_sim hz n)
theorem caps_map : ∀ {l l' : List (Nat × Nat)}, rCaps β l l' → rVs β (l.map fun a => .one (.ptr (some a))) (l'.map fun a => .one (.ptr (some a)))
  | [], _, h => by rw [show _ = _ from h]; rfl
  | a :: l, _, ⟨a', r', h1, h2, h3⟩ => by
    rw [h1]
    exact ⟨_, _, rfl, ⟨_, rfl, a', rfl, h2⟩, caps_map h3⟩
theorem rVs.append : ∀ {l l' m m' : List AV}, rVs β l l' → rVs β m m' → rVs β (l ++ m) (l' ++ m')
  | [], _, _, _, h, k => by rw [show _ = _ from h]; exact k
  | _ :: _, _, _, _, ⟨a', r', h1, h2, h3⟩, k => by rw [h1]; exact ⟨a', r' ++ _, rfl, h2, rVs.append h3 k⟩

theorem append_sim (hR : RelH β h h') {ty size bytes : Nat} {s x s' x' v : AV} {h1 : H} (hs : rV β s s') (hx : rV β x x') (hv : appendA ty size bytes s x h = some (v, h1)) :
    ∃ β1 v' h1', appendA ty size bytes s' x' h' = some (v', h1') ∧ RelH β1 h1 h1' ∧ rV β1 v v' ∧ Fr β h' β1 h1' := by
  unfold appendA at hv
  split at hv
  · rename_i base n c xb m xc
    have fs : ∃ base', s' = .one (.sl base' n c) ∧ (∀ a, base = some a → ∃ a', base' = some a' ∧ rA β a a') ∧ (base = none → base' = none) := by
      cases base with
      | none => exact ⟨none, rV_nil hs, fun a ha => by simp at ha, fun _ => rfl⟩
      | some a =>
        obtain ⟨a', h2, h3⟩ := rV_sl hs
        exact ⟨some a', h2, fun b hb => by simp at hb; subst hb; exact ⟨a', rfl, h3⟩, fun h => by simp at h⟩
    have fx : ∃ xb', x' = .one (.sl xb' m xc) := by
      cases xb with
      | none => exact ⟨none, rV_nil hx⟩
      | some a => obtain ⟨a', h2, h3⟩ := rV_sl hx; exact ⟨_, h2⟩
    obtain ⟨base', rfl, fb, fn⟩ := fs
    obtain ⟨xb', rfl⟩ := fx
    simp only [appendA]
    split at hv
    · rename_i hm
      simp only [if_pos hm]
      simp only [Option.some.injEq, Prod.mk.injEq] at hv
      obtain ⟨rfl, rfl⟩ := hv
      exact ⟨β, _, _, rfl, hR, hs, Fr.refl β h'⟩
    · rename_i hm
      simp only [if_neg hm]
      split at hv
      · simp at hv
      · rename_i hb
        simp only [if_neg hb]
        split at hv
        · rename_i old new ho hn
          obtain ⟨old', ho', hol⟩ := hR.src hs ho
          obtain ⟨new', hn', hnl⟩ := hR.src hx hn
          rw [ho', hn']
          simp only
          split at hv
          · rename_i c'
            split at hv
            · rename_i hle
              simp only [if_pos hle]
              split at hv
              · rename_i a
                obtain ⟨a', rfl, ha⟩ := fb a rfl
                simp only
                obtain ⟨g1, g2, g3, g4, g5⟩ := hR.blk _ _ ha.1
                split at hv
                · rename_i hty
                  rw [if_pos (by rw [g3]; exact hty)]
                  obtain ⟨h2, hst, he⟩ := Option.map_eq_some_iff.1 hv
                  simp only [Prod.mk.injEq] at he
                  obtain ⟨rfl, rfl⟩ := he
                  obtain ⟨h3, k1, k2, k3⟩ := hR.store (a := (a.1, a.2 + n * size)) (a' := (a'.1, a'.2 + n * size)) ⟨ha.1, by rw [ha.2]⟩ hnl hst
                  rw [k1]
                  exact ⟨β, _, _, rfl, k2, ⟨_, rfl, a', rfl, ha⟩, k3⟩
                · simp at hv
              · simp at hv
            · rename_i hle
              simp only [if_neg hle]
              simp only [Option.some.injEq, Prod.mk.injEq] at hv
              obtain ⟨rfl, rfl⟩ := hv
              obtain ⟨k1, k2⟩ := hR.alloc ty (hol.append hnl)
              exact ⟨_, _, _, rfl, k1, ⟨_, rfl, _, rfl, by simp [Re.put], rfl⟩, k2⟩
          · split at hv
            · rename_i a
              obtain ⟨a', rfl, ha⟩ := fb a rfl
              simp only
              obtain ⟨g1, g2, g3, g4, g5⟩ := hR.blk _ _ ha.1
              split at hv
              · rename_i hrw
                rw [if_pos ⟨by rw [g4]; exact hrw.1, by rw [g3]; exact hrw.2⟩]
                simp only [Option.some.injEq, Prod.mk.injEq] at hv
                obtain ⟨rfl, rfl⟩ := hv
                obtain ⟨k1, k2⟩ := hR.kill ha.1
                obtain ⟨k3, k4⟩ := k1.alloc ty (hol.append hnl)
                exact ⟨_, _, _, rfl, k3, ⟨_, rfl, _, rfl, by simp [Re.put, H.kill, H.setBlk], rfl⟩, k2.trans k4⟩
              · simp at hv
            · simp at hv
        · simp at hv
  · simp at hv

theorem op_sim {call2 call : Oracle} (hcall : Sim call2 call) (hR : RelH β h h') (hT : ∀ t, rV β (T t) (T' t)) {o : AOp} (hc : o.cl = true) {v : AV} {h1 : H} (hv : opA call2 o T h = some (v, h1)) :
    ∃ β1 v' h1', opA call o T' h' = some (v', h1') ∧ RelH β1 h1 h1' ∧ rV β1 v v' ∧ Fr β h' β1 h1' := by
  have laid : ∀ {cs cs' : List CV} {ty : Nat} {mk : Nat → CV}, rL β cs cs' → (∀ β' i i', β' i = some i' → rC β' (mk i) (mk i')) → v = .one (mk h.n) → h1 = h.alloc cs ty →
      ∃ β1 v' h1', some (AV.one (mk h'.n), h'.alloc cs' ty) = some (v', h1') ∧ RelH β1 h1 h1' ∧ rV β1 v v' ∧ Fr β h' β1 h1' := by
    intro cs cs' ty mk hl hmk h2 h3
    subst h2
    subst h3
    obtain ⟨k1, k2⟩ := hR.alloc ty hl
    exact ⟨_, _, _, rfl, k1, ⟨_, rfl, hmk _ _ _ (by simp [Re.put])⟩, k2⟩
  cases o with
  | alloc ty z =>
    simp only [opA, Option.some.injEq, Prod.mk.injEq] at hv
    exact laid (mk := fun i => .ptr (some (i, 0))) (cl_rL hc) (fun β' i i' h => ⟨_, rfl, h, rfl⟩) hv.1.symm hv.2.symm
  | box ty x =>
    simp only [opA] at hv ⊢
    split at hv
    · rename_i cs hcs
      obtain ⟨cs', h2, h3⟩ := (rX hT (x := x) hc).cells hcs
      rw [h2]
      simp only [Option.some.injEq, Prod.mk.injEq] at hv
      exact laid (mk := fun i => .ptr (some (i, 0))) h3 (fun β' i i' h => ⟨_, rfl, h, rfl⟩) hv.1.symm hv.2.symm
    · simp at hv
  | buildSlice ty len z ps =>
    simp only [AOp.cl, Bool.and_eq_true] at hc
    simp only [opA] at hv ⊢
    split at hv
    · rename_i cs hf
      obtain ⟨cs', h2, h3⟩ := fill_sim hT hc.2 (repl_sim (cl_rL hc.1) len) hf
      rw [h2]
      simp only [Option.some.injEq, Prod.mk.injEq] at hv
      exact laid (mk := fun i => .sl (some (i, 0)) len (some len)) h3 (fun β' i i' h => ⟨_, rfl, h, rfl⟩) hv.1.symm hv.2.symm
    · simp at hv
  | mkslice ty bytes z l c =>
    simp only [AOp.cl, Bool.and_eq_true] at hc
    simp only [opA] at hv ⊢
    have hx := rX hT hc.2.1
    have hy := rX hT hc.2.2
    split at hv
    · rename_i ln cn e1 e2
      rw [e1] at hx
      rw [e2] at hy
      rw [rV_int hx, rV_int hy]
      split at hv
      · rename_i hh
        simp only [if_pos hh]
        simp only [Option.some.injEq, Prod.mk.injEq] at hv
        exact laid (mk := fun i => .sl (some (i, 0)) ln.toNat (some cn.toNat)) (repl_sim (cl_rL hc.1) _) (fun β' i i' h => ⟨_, rfl, h, rfl⟩) hv.1.symm hv.2.symm
      · simp at hv
    · simp at hv
  | appz ty k bytes z s x =>
    simp only [AOp.cl, Bool.and_eq_true] at hc
    simp only [opA] at hv ⊢
    have hx := rX hT hc.2.1
    have hy := rX hT hc.2.2
    split at hv
    · rename_i m c n e1 e2
      rw [e1] at hx
      rw [e2] at hy
      rw [rV_nil hx, rV_int hy]
      split at hv
      · rename_i hh
        simp only [if_pos hh]
        simp only [Option.some.injEq, Prod.mk.injEq] at hv
        exact laid (mk := fun i => .sl (some (i, 0)) n.toNat none) (repl_sim (cl_rL hc.1) _) (fun β' i i' h => ⟨_, rfl, h, rfl⟩) hv.1.symm hv.2.symm
      · simp at hv
    · simp at hv
  | store k x y =>
    simp only [AOp.cl, Bool.and_eq_true] at hc
    simp only [opA] at hv ⊢
    have hx := rX hT hc.1
    have hy := rX hT hc.2
    split at hv
    · rename_i a cs e1 e2
      rw [e1] at hx
      obtain ⟨a', hx, ha⟩ := rV_ptr hx
      obtain ⟨cs', h2, h3⟩ := hy.cells e2
      rw [hx, h2]
      simp only
      split at hv
      · rename_i hl
        rw [if_pos (by rw [h3.length]; exact hl)]
        obtain ⟨h4, hst, he⟩ := Option.map_eq_some_iff.1 hv
        simp only [Prod.mk.injEq] at he
        obtain ⟨rfl, rfl⟩ := he
        obtain ⟨h5, k1, k2, k3⟩ := hR.store ha h3 hst
        rw [k1]
        exact ⟨β, _, _, rfl, k2, rV_undef, k3⟩
      · simp at hv
    · simp at hv
  | append ty size bytes s x =>
    simp only [AOp.cl, Bool.and_eq_true] at hc
    exact append_sim hR (rX hT hc.1) (rX hT hc.2) hv
  | call f l => exact hcall f _ h v h1 hv β h' _ hR (rXs hT hc)
  | callv x l =>
    simp only [AOp.cl, Bool.and_eq_true] at hc
    simp only [opA] at hv ⊢
    have hx := rX hT hc.1
    split at hv
    · rename_i f caps e1
      rw [e1] at hx
      obtain ⟨caps', hx, hl⟩ := rV_fn hx
      rw [hx]
      exact hcall f _ h v h1 hv β h' _ hR ((rXs hT hc.2).append (caps_map hl))
    · simp at hv
  | _ =>
    simp only [opA] at hv ⊢
    obtain ⟨u, h2, h3⟩ := Option.map_eq_some_iff.1 hv
    simp only [Prod.mk.injEq] at h3
    obtain ⟨rfl, rfl⟩ := h3
    obtain ⟨v', k1, k2⟩ := pure_sim hR hT hc h2
    rw [k1]
    exact ⟨β, v', h', rfl, hR, k2, Fr.refl β h'⟩
end

/-! ### a function's own store -/
/-- Which block of the first machine is behind a slot. -/
def rB (β ν : Re) : BV → AV → Prop
  | .v a, a' => rV β a a'
  | .lp t o, a' => ∃ b', ν t = some b' ∧ a' = .one (.ptr (some (b', o)))
structure RelS (β ν : Re) (T : Tb) (L : Lb) (h : H) (T' : Tm) (h' : H) : Prop where
  heap : RelH β h h'
  tmp : ∀ t, rB β ν (T t) (T' t)
  loc : ∀ t b', ν t = some b' → b' < h'.n ∧ (h'.f b').st = .rw ∧ (h'.f b').ty = (L t).1 ∧ rL β (L t).2 (h'.f b').cs ∧ ∀ b, β b ≠ some b'
  linj : ∀ s t x, ν s = some x → ν t = some x → s = t
/-- A block of the first machine's that the second one has. -/
def Own2 (β ν : Re) (b' : Nat) : Prop := (∃ b, β b = some b') ∨ ∃ t, ν t = some b'
structure FrS (β ν : Re) (h' : H) (β1 ν1 : Re) (h1' : H) : Prop where
  ext : Ex2 β β1
  n : h'.n ≤ h1'.n
  keep : ∀ b', b' < h'.n → ¬ Own2 β ν b' → h1'.f b' = h'.f b'
  new : ∀ b', Own2 β1 ν1 b' → Own2 β ν b' ∨ h'.n ≤ b'
theorem FrS.refl (β ν : Re) (h' : H) : FrS β ν h' β ν h' := ⟨Ex2.refl β, Nat.le_refl _, fun _ _ _ => rfl, fun _ h => .inl h⟩
theorem FrS.trans {β ν β1 ν1 β2 ν2 : Re} {h h1 h2 : H} (a : FrS β ν h β1 ν1 h1) (b : FrS β1 ν1 h1 β2 ν2 h2) : FrS β ν h β2 ν2 h2 := by
  refine ⟨a.ext.trans b.ext, Nat.le_trans a.n b.n, fun b' hb hn => ?_, fun b' hi => ?_⟩
  · rw [b.keep b' (Nat.lt_of_lt_of_le hb a.n) (fun hi => ?_)]
    · exact a.keep b' hb hn
    · rcases a.new b' hi with hj | hj
      · exact hn hj
      · omega
  · rcases b.new b' hi with hj | hj
    · exact a.new b' hj
    · exact .inr (Nat.le_trans a.n hj)

section
variable {β ν : Re} {T : Tb} {L : Lb} {h h' : H} {T' : Tm}

theorem RelS.av (hS : RelS β ν T L h T' h') : ∀ t, rV β (T.av t) (T' t) := by
  intro t
  have := hS.tmp t
  unfold Tb.av
  cases hT : T t with
  | v a => rw [hT] at this; exact this
  | lp s o => rw [hT] at this; obtain ⟨b', _, h2⟩ := this; rw [h2]; exact rV_ptrU
theorem RelS.bx (hS : RelS β ν T L h T' h') {x : AX} (hc : x.cl = true) : rB β ν (x.bv T) (x.ev T') := by
  cases x with
  | t n => exact hS.tmp n
  | c u => exact ⟨u, rfl, cl_rC hc⟩
theorem rB.av {x : BV} {a : AV} (hb : rB β ν x a) : rV β x.av a := by
  cases x with
  | v a => exact hb
  | lp t o => obtain ⟨b', _, h2⟩ := hb; rw [h2]; exact rV_ptrU
theorem RelS.put (hS : RelS β ν T L h T' h') {d : Option Nat} {x : BV} {a : AV} (hx : rB β ν x a) : RelS β ν (T.put d x) L h (T'.put d a) h' := by
  refine ⟨hS.heap, fun t => ?_, hS.loc, hS.linj⟩
  cases d with
  | none => exact hS.tmp t
  | some d =>
    simp only [Tb.put, Tm.put]
    by_cases ht : t = d
    · simp only [if_pos ht]; exact hx
    · simp only [if_neg ht]; exact hS.tmp t

/-- The heap moves on. -/
theorem RelS.move (hS : RelS β ν T L h T' h') {β1 : Re} {h1 h1' : H} (hR : RelH β1 h1 h1') (hF : Fr β h' β1 h1') : RelS β1 ν T L h1 T' h1' ∧ FrS β ν h' β1 ν h1' := by
  refine ⟨⟨hR, fun t => ?_, fun t b' ht => ?_, hS.linj⟩, hF.ext, hF.n, fun b' hb hn => hF.keep b' hb fun b hbb => hn (.inl ⟨b, hbb⟩), fun b' hb => ?_⟩
  · have := hS.tmp t
    cases hT : T t with
    | v a => rw [hT] at this; exact rV.mono hF.ext this
    | lp s o => rw [hT] at this; exact this
  · obtain ⟨h2, h3, h4, h5, h6⟩ := hS.loc t b' ht
    rw [hF.keep b' h2 h6]
    refine ⟨Nat.lt_of_lt_of_le h2 hF.n, h3, h4, rL.mono hF.ext h5, fun b hb => ?_⟩
    rcases hF.new b b' hb with ⟨a, ha⟩ | ha
    · exact h6 a ha
    · omega
  · rcases hb with ⟨b, hb⟩ | hb
    · rcases hF.new b b' hb with ha | ha
      · exact .inl (.inl ha)
      · exact .inr ha
    · exact .inl (.inr hb)

theorem RelS.gen {call2 call : Oracle} (hcall : Sim call2 call) (hS : RelS β ν T L h T' h') {o : AOp} (hc : o.cl = true) {d : Option Nat} {T1 : Tb} {L1 : Lb} {h1 : H} (hv : genB call2 o d T L h = some (T1, L1, h1)) :
    ∃ β1 ν1 v' h1', opA call o T' h' = some (v', h1') ∧ RelS β1 ν1 T1 L1 h1 (T'.put d v') h1' ∧ FrS β ν h' β1 ν1 h1' := by
  unfold genB at hv
  obtain ⟨r, h2, h3⟩ := Option.map_eq_some_iff.1 hv
  simp only [Prod.mk.injEq] at h3
  obtain ⟨rfl, rfl, rfl⟩ := h3
  obtain ⟨β1, v', h1', k1, k2, k3, k4⟩ := op_sim hcall hS.heap hS.av hc h2
  obtain ⟨k5, k6⟩ := hS.move k2 k4
  exact ⟨β1, ν, v', h1', k1, k5.put k3, k6⟩

/-- Something new of the function's own. -/
theorem RelS.own (hS : RelS β ν T L h T' h') {t ty : Nat} {cs cs' : List CV} (hc : rL β cs cs') :
    RelS β (ν.put t h'.n) ((T.kill t).put (some t) (.lp t 0)) (L.put t (ty, cs)) h (T'.put (some t) (.one (.ptr (some (h'.n, 0))))) (h'.alloc cs' ty) ∧ FrS β ν h' β (ν.put t h'.n) (h'.alloc cs' ty) := by
  have old : ∀ b', b' < h'.n → (h'.alloc cs' ty).f b' = h'.f b' := fun b' hb => alloc_f_old (by omega)
  have hlt : ∀ b b', β b = some b' → b' < h'.n := fun b b' hb => (hS.heap.blk b b' hb).2.1
  refine ⟨⟨⟨?_, hS.heap.inj⟩, ?_, ?_, ?_⟩, Ex2.refl β, Nat.le_succ _, fun b' hb _ => old b' hb, ?_⟩
  · intro b b' hb
    obtain ⟨g1, g2, g3, g4, g5⟩ := hS.heap.blk b b' hb
    rw [old b' g2]
    exact ⟨g1, Nat.lt_succ_of_lt g2, g3, g4, g5⟩
  · intro s
    simp only [Tb.put, Tm.put]
    by_cases hs : s = t
    · simp only [if_pos hs]
      exact ⟨h'.n, by simp [Re.put], rfl⟩
    · simp only [if_neg hs, Tb.kill]
      have := hS.tmp s
      cases hT : T s with
      | v a => rw [hT] at this; exact this
      | lp u o =>
        rw [hT] at this
        simp only [BV.kill]
        split
        · obtain ⟨b', h1, h2⟩ := this
          rw [h2]
          exact rV_ptrU (β := β)
        · rename_i hu
          obtain ⟨b', h1, h2⟩ := this
          exact ⟨b', by simp [Re.put, hu, h1], h2⟩
  · intro s b' hs
    by_cases hst : s = t
    · subst hst
      simp [Re.put] at hs
      subst hs
      rw [alloc_f_new, show (L.put s (ty, cs)) s = (ty, cs) by simp [Lb.put]]
      exact ⟨Nat.lt_succ_self _, rfl, rfl, hc, fun b hb => by have := hlt b _ hb; omega⟩
    · simp [Re.put, hst] at hs
      obtain ⟨h2, h3, h4, h5, h6⟩ := hS.loc s b' hs
      rw [old b' h2]
      simp only [Lb.put, if_neg hst]
      exact ⟨Nat.lt_succ_of_lt h2, h3, h4, h5, h6⟩
  · intro s u x hs hu
    by_cases hst : s = t <;> by_cases hut : u = t
    · rw [hst, hut]
    · subst hst
      simp [Re.put] at hs
      simp [Re.put, hut] at hu
      have := (hS.loc u x hu).1
      omega
    · subst hut
      simp [Re.put] at hu
      simp [Re.put, hst] at hs
      have := (hS.loc s x hs).1
      omega
    · simp [Re.put, hst] at hs
      simp [Re.put, hut] at hu
      exact hS.linj s u x hs hu
  · intro b' hb
    rcases hb with hb | ⟨s, hs⟩
    · exact .inl (.inl hb)
    · by_cases hst : s = t
      · subst hst
        simp [Re.put] at hs
        exact .inr (by omega)
      · simp [Re.put, hst] at hs
        exact .inl (.inr ⟨s, hs⟩)

/-- It comes to lie on the heap. -/
theorem RelS.pro (hS : RelS β ν T L h T' h') {t b' : Nat} (ht : ν t = some b') :
    RelS (β.put h.n b') (fun s => if s = t then none else ν s) (T.pro t h.n) L (h.alloc (L t).2 (L t).1) T' h' ∧ FrS β ν h' (β.put h.n b') (fun s => if s = t then none else ν s) h' := by
  have h0 := hS.heap.none (Nat.le_refl h.n)
  have e := Re.put_ext (p := b') h0
  obtain ⟨g1, g2, g3, g4, g5⟩ := hS.loc t b' ht
  refine ⟨⟨⟨?_, ?_⟩, ?_, ?_, ?_⟩, e, Nat.le_refl _, fun _ _ _ => rfl, ?_⟩
  · intro b x hb
    by_cases hbn : b = h.n
    · subst hbn
      simp [Re.put] at hb
      subst hb
      rw [alloc_f_new]
      exact ⟨Nat.lt_succ_self _, g1, g3, g2, fun _ => rL.mono e g4⟩
    · simp [Re.put, hbn] at hb
      obtain ⟨k1, k2, k3, k4, k5⟩ := hS.heap.blk b x hb
      rw [alloc_f_old (by omega)]
      exact ⟨Nat.lt_succ_of_lt k1, k2, k3, k4, fun h => rL.mono e (k5 h)⟩
  · intro a b x ha hb
    by_cases han : a = h.n <;> by_cases hbn : b = h.n
    · rw [han, hbn]
    · subst han
      simp [Re.put] at ha
      simp [Re.put, hbn] at hb
      subst ha
      exact absurd hb (g5 b)
    · subst hbn
      simp [Re.put] at hb
      simp [Re.put, han] at ha
      subst hb
      exact absurd ha (g5 a)
    · simp [Re.put, han] at ha
      simp [Re.put, hbn] at hb
      exact hS.heap.inj a b x ha hb
  · intro s
    have := hS.tmp s
    simp only [Tb.pro]
    cases hT : T s with
    | v a => rw [hT] at this; exact rV.mono e this
    | lp u o =>
      rw [hT] at this
      obtain ⟨x, h1, h2⟩ := this
      simp only [BV.pro]
      split
      · rename_i hu
        subst hu
        rw [ht] at h1
        simp at h1
        subst h1
        exact ⟨_, h2, _, rfl, by simp [Re.put], rfl⟩
      · rename_i hu
        exact ⟨x, by simp [hu, h1], h2⟩
  · intro s x hs
    by_cases hst : s = t
    · simp [hst] at hs
    · simp [hst] at hs
      obtain ⟨h2, h3, h4, h5, h6⟩ := hS.loc s x hs
      refine ⟨h2, h3, h4, rL.mono e h5, fun b hb => ?_⟩
      by_cases hbn : b = h.n
      · subst hbn
        simp [Re.put] at hb
        subst hb
        exact hst (hS.linj s t b' hs ht)
      · simp [Re.put, hbn] at hb
        exact h6 b hb
  · intro s u x hs hu
    by_cases hst : s = t
    · simp [hst] at hs
    · by_cases hut : u = t
      · simp [hut] at hu
      · simp [hst] at hs
        simp [hut] at hu
        exact hS.linj s u x hs hu
  · intro x hx
    rcases hx with ⟨b, hb⟩ | ⟨s, hs⟩
    · by_cases hbn : b = h.n
      · subst hbn
        simp [Re.put] at hb
        subst hb
        exact .inl (.inr ⟨t, ht⟩)
      · simp [Re.put, hbn] at hb
        exact .inl (.inl ⟨b, hb⟩)
    · by_cases hst : s = t
      · simp [hst] at hs
      · simp [hst] at hs
        exact .inl (.inr ⟨s, hs⟩)

theorem RelS.proA : ∀ (l : List AX) {β ν : Re} {T : Tb} {h : H}, l.all AX.cl = true → RelS β ν T L h T' h' → ∃ β1 ν1, RelS β1 ν1 (Am.proA l T L h).1 L (Am.proA l T L h).2 T' h' ∧ FrS β ν h' β1 ν1 h'
  | [], β, ν, T, h, _, hS => ⟨β, ν, hS, FrS.refl β ν h'⟩
  | x :: l, β, ν, T, h, hc, hS => by
    simp only [List.all_cons, Bool.and_eq_true] at hc
    unfold Am.proA
    have hx := hS.bx hc.1
    cases hb : x.bv T with
    | v a => exact RelS.proA l hc.2 hS
    | lp t o =>
      rw [hb] at hx
      obtain ⟨b', h1, _⟩ := hx
      obtain ⟨k1, k2⟩ := hS.pro h1
      obtain ⟨β1, ν1, k3, k4⟩ := RelS.proA l hc.2 k1
      exact ⟨β1, ν1, k3, k2.trans k4⟩

theorem RelS.storeL (hS : RelS β ν T L h T' h') {t b' off k : Nat} {vs vs' cs : List CV} (ht : ν t = some b') (hv : rL β vs vs') (hs : Am.storeL (L t).2 off k vs = some cs) :
    vs'.length = k ∧ ∃ h1', h'.store (b', off) vs' = some h1' ∧ RelS β ν T (L.put t ((L t).1, cs)) h T' h1' ∧ FrS β ν h' β ν h1' := by
  obtain ⟨g1, g2, g3, g4, g5⟩ := hS.loc t b' ht
  unfold Am.storeL at hs
  split at hs
  · rename_i hc
    simp only [Option.some.injEq] at hs
    subst hs
    refine ⟨by rw [hv.length]; exact hc.1, ?_⟩
    unfold H.store
    rw [if_pos ⟨g2, by show off + vs'.length ≤ (h'.f b').cs.length; rw [hv.length, g4.length, hc.1]; exact hc.2⟩]
    refine ⟨_, rfl, ⟨⟨fun b x hb => ?_, hS.heap.inj⟩, hS.tmp, fun s x hx => ?_, hS.linj⟩, Ex2.refl β, Nat.le_refl _, fun x hx hn => ?_, fun x hx => .inl hx⟩
    · have hne : x ≠ b' := fun e => g5 b (by rw [hb, e])
      rw [setBlk_f, if_neg hne]
      exact hS.heap.blk b x hb
    · by_cases hst : s = t
      · subst hst
        rw [ht] at hx
        simp at hx
        subst hx
        rw [setBlk_f, if_pos rfl]
        simp only [Lb.put, if_true]
        refine ⟨g1, g2, g3, ?_, g5⟩
        rw [hv.length, hc.1]
        exact rL.append (rL.take _ g4) (rL.append hv (rL.drop _ g4))
      · have hne : x ≠ b' := fun e => hst (hS.linj s t b' (by rw [hx, e]) ht)
        rw [setBlk_f, if_neg hne]
        simp only [Lb.put, if_neg hst]
        exact hS.loc s x hx
    · rw [setBlk_f, if_neg (fun e => hn (.inr ⟨t, by rw [ht, e]⟩))]
  · simp at hs
theorem RelS.loadL (hS : RelS β ν T L h T' h') {t b' off k : Nat} {g : Bool} {v : AV} (ht : ν t = some b') (hl : Am.loadL (L t).2 off k g = some v) :
    ∃ v', (match h'.load (b', off) k with | some cs => (if g then some (.agg cs) else match cs with | [c] => some (.one c) | _ => none) | none => none) = some v' ∧ rV β v v' := by
  obtain ⟨g1, g2, g3, g4, g5⟩ := hS.loc t b' ht
  unfold Am.loadL at hl
  split at hl
  · rename_i hk
    unfold H.load
    rw [if_pos ⟨⟨g1, by rw [g2]; simp⟩, by show off + k ≤ (h'.f b').cs.length; rw [g4.length]; exact hk⟩]
    have hr := rL.take k (rL.drop off g4)
    cases g with
    | true =>
      simp at hl
      subst hl
      exact ⟨_, rfl, _, rfl, hr⟩
    | false =>
      simp only [Bool.false_eq_true, if_false] at hl ⊢
      split at hl
      · rename_i c hcs
        simp at hl
        subst hl
        rw [hcs] at hr
        obtain ⟨c', r', h1, h2, h3⟩ := hr
        rw [show r' = _ from h3] at h1
        rw [h1]
        exact ⟨_, rfl, _, rfl, h2⟩
      · simp at hl
  · simp at hl
end
end Go.Proofs.Ytnphlonhogcedaa.Am
