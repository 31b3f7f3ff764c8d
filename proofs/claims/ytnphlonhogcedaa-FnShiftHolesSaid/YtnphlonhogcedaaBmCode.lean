/- The second machine: code and calls against those of the first one. -/
import Derived.Test.YtnphlonhogcedaaBmEff
namespace Go.Proofs.Ytnphlonhogcedaa.Am
open Go

section
variable {β ν : Re} {T : Tb} {L : Lb} {h h' : H} {T' : Tm}

theorem pureB_sim (hS : RelS β ν T L h T' h') {o : AOp} (hc : o.cl = true) {v : BV} (hv : pureB o T L h = some v) : ∃ v', pureA o T' h' = some v' ∧ rB β ν v v' := by
  have gen : ∀ {v}, (pureA o T.av h).map BV.v = some v → ∃ v', pureA o T' h' = some v' ∧ rB β ν v v' := by
    intro v hv
    obtain ⟨u, h1, rfl⟩ := Option.map_eq_some_iff.1 hv
    exact pure_sim hS.heap hS.av hc h1
  cases o with
  | mov x =>
    simp only [pureB, Option.some.injEq] at hv
    subst hv
    exact ⟨_, rfl, hS.bx hc⟩
  | load k g x =>
    simp only [pureB] at hv
    have hx := hS.bx (x := x) hc
    split at hv
    · rename_i t off he
      rw [he] at hx
      obtain ⟨b', h1, h2⟩ := hx
      obtain ⟨u, h3, rfl⟩ := Option.map_eq_some_iff.1 hv
      obtain ⟨v', h4, h5⟩ := hS.loadL h1 h3
      exact ⟨v', by simp only [pureA, h2]; exact h4, h5⟩
    · exact gen hv
  | nilCheck x =>
    simp only [pureB] at hv
    have hx := hS.bx (x := x) hc
    split at hv
    · rename_i t off he
      rw [he] at hx
      obtain ⟨b', h1, h2⟩ := hx
      simp only [Option.some.injEq] at hv
      subst hv
      exact ⟨_, by simp only [pureA, h2], b', h1, rfl⟩
    · exact gen hv
  | faddr off x =>
    simp only [pureB] at hv
    have hx := hS.bx (x := x) hc
    split at hv
    · rename_i t o he
      rw [he] at hx
      obtain ⟨b', h1, h2⟩ := hx
      simp only [Option.some.injEq] at hv
      subst hv
      exact ⟨_, by simp only [pureA, h2], b', h1, rfl⟩
    · exact gen hv
  | _ => exact gen hv

theorem rV.fn {a x y : AV} (ha : a.same a = true) (h : rV β a x) (k : rV β a y) : x = y := by
  cases a with
  | one c =>
    obtain ⟨c', rfl, h2⟩ := h
    obtain ⟨d', rfl, k2⟩ := k
    rw [rC.fn (Ex2.refl β) h2 k2]
  | agg c =>
    obtain ⟨c', rfl, h2⟩ := h
    obtain ⟨d', rfl, k2⟩ := k
    rw [rL.fn (Ex2.refl β) h2 k2]
  | tup l => simp [AV.same] at ha
theorem same_eq2 {a b : AV} (h : a.same b = true) : a = b ∧ a.same a = true := by
  cases a <;> cases b <;> simp [AV.same] at h ⊢ <;> exact h
theorem same_sim {v u : BV} {a b : AV} (hs : v.same u = true) (ha : rB β ν v a) (hb : rB β ν u b) : a.same b = true := by
  cases v with
  | lp t o => simp [BV.same] at hs
  | v x =>
    cases u with
    | lp t o => simp [BV.same] at hs
    | v y =>
      simp only [BV.same] at hs
      obtain ⟨rfl, h2⟩ := same_eq2 hs
      obtain rfl := rV.fn h2 ha hb
      cases x with
      | one c => obtain ⟨c', rfl, _⟩ := ha; simp [AV.same]
      | agg c => obtain ⟨c', rfl, _⟩ := ha; simp [AV.same]
      | tup l => simp [AV.same] at h2
theorem want_sim (hS : RelS β ν T L h T' h') {g : Option (Nat × Bool)} {b : Bool} (hw : wantB g T = some b) : wantA g T' = b := by
  cases g with
  | none => simpa [wantB, wantA] using hw
  | some g =>
    obtain ⟨t, c⟩ := g
    simp only [wantB, wantA] at hw ⊢
    have ht := hS.tmp t
    split at hw
    · rename_i d he
      rw [he] at ht
      rw [rV_bool ht]
      simpa using hw
    · rename_i he
      rw [he] at ht
      simp only [Option.some.injEq] at hw
      subst hw
      split
      · rename_i c' he2
        exact absurd he2 (ht c')
      · rfl
    · simp at hw
theorem again_sim (hS : RelS β ν T L h T' h') {r : AOp × Option Nat × Option (Nat × Bool)} (hc : r.1.cl = true) (hw : againB T L h r = true) : againA T' h' r = true := by
  unfold againB at hw
  unfold againA
  split at hw
  · rename_i hg
    rw [want_sim hS hg, if_pos rfl]
    split at hw
    · rename_i v d h1 h2
      obtain ⟨v', h3, h4⟩ := pureB_sim hS hc h1
      rw [h3, h2]
      exact same_sim hw h4 (hS.tmp d)
    · simp at hw
  · rename_i hg
    rw [want_sim hS hg]
    simp
  · simp at hw

theorem op_simB {call2 call : Oracle} (hcall : Sim call2 call) (hS : RelS β ν T L h T' h') {o : AOp} (hc : o.cl = true) {d : Option Nat} {T1 : Tb} {L1 : Lb} {h1 : H} (hv : opB call2 o d T L h = some (T1, L1, h1)) :
    ∃ β1 ν1 v' h1', opA call o T' h' = some (v', h1') ∧ RelS β1 ν1 T1 L1 h1 (T'.put d v') h1' ∧ FrS β ν h' β1 ν1 h1' := by
  have pur : (∀ (c : Oracle) (T : Tm) (h : H), opA c o T h = (pureA o T h).map fun v => (v, h)) → (pureB o T L h).map (fun v => (T.put d v, L, h)) = some (T1, L1, h1) →
      ∃ β1 ν1 v' h1', opA call o T' h' = some (v', h1') ∧ RelS β1 ν1 T1 L1 h1 (T'.put d v') h1' ∧ FrS β ν h' β1 ν1 h1' := by
    intro ho hv
    obtain ⟨v, h2, h3⟩ := Option.map_eq_some_iff.1 hv
    simp only [Prod.mk.injEq] at h3
    obtain ⟨rfl, rfl, rfl⟩ := h3
    obtain ⟨v', h4, h5⟩ := pureB_sim hS hc h2
    exact ⟨β, ν, v', h', by rw [ho, h4]; rfl, hS.put h5, FrS.refl β ν h'⟩
  have args : ∀ {l : List AX}, l.all AX.cl = true → genB call2 o d (proA l T L h).1 L (proA l T L h).2 = some (T1, L1, h1) →
      ∃ β1 ν1 v' h1', opA call o T' h' = some (v', h1') ∧ RelS β1 ν1 T1 L1 h1 (T'.put d v') h1' ∧ FrS β ν h' β1 ν1 h1' := by
    intro l hl hv
    obtain ⟨β1, ν1, k1, k2⟩ := RelS.proA l hl hS
    obtain ⟨β2, ν2, v', h1', k3, k4, k5⟩ := k1.gen hcall hc hv
    exact ⟨β2, ν2, v', h1', k3, k4, k2.trans k5⟩
  cases o with
  | alloc ty z =>
    simp only [opB] at hv
    split at hv
    · rename_i t
      simp only [Option.some.injEq, Prod.mk.injEq] at hv
      obtain ⟨rfl, rfl, rfl⟩ := hv
      obtain ⟨k1, k2⟩ := hS.own (t := t) (ty := ty) (cl_rL (β := β) hc)
      exact ⟨_, _, _, _, rfl, k1, k2⟩
    · simp at hv
  | box ty x =>
    simp only [opB] at hv
    have hx := hS.bx (x := x) hc
    split at hv
    · rename_i t a he
      rw [he] at hx
      obtain ⟨cs, h2, h3⟩ := Option.map_eq_some_iff.1 hv
      simp only [Prod.mk.injEq] at h3
      obtain ⟨rfl, rfl, rfl⟩ := h3
      obtain ⟨cs', h4, h5⟩ := rV.cells hx h2
      obtain ⟨k1, k2⟩ := hS.own (t := t) (ty := ty) h5
      exact ⟨_, _, _, _, by simp only [opA, h4], k1, k2⟩
    · simp at hv
  | store k x y =>
    have hc2 := hc
    simp only [AOp.cl, Bool.and_eq_true] at hc2
    simp only [opB] at hv
    have hx := hS.bx hc2.1
    split at hv
    · rename_i t off he
      rw [he] at hx
      obtain ⟨b', h2, h3⟩ := hx
      split at hv
      · rename_i vs hvs
        obtain ⟨cs, h4, h5⟩ := Option.map_eq_some_iff.1 hv
        simp only [Prod.mk.injEq] at h5
        obtain ⟨rfl, rfl, rfl⟩ := h5
        obtain ⟨vs', h6, h7⟩ := (rB.av (hS.bx hc2.2)).cells hvs
        obtain ⟨k1, h8, k2, k3, k4⟩ := hS.storeL h2 h7 h4
        refine ⟨β, ν, undefA, h8, ?_, k3.put (rV_undef (β := β)), k4⟩
        simp only [opA, h3, h6]
        rw [if_pos k1, k2]
        rfl
      · simp at hv
    · exact hS.gen hcall hc hv
  | mov x => exact pur (fun _ _ _ => rfl) hv
  | load k g x => exact pur (fun _ _ _ => rfl) hv
  | nilCheck x => exact pur (fun _ _ _ => rfl) hv
  | faddr off x => exact pur (fun _ _ _ => rfl) hv
  | mkfn f l => exact args hc hv
  | call f l => exact args hc hv
  | callv x l =>
    have hc2 := hc
    simp only [AOp.cl, Bool.and_eq_true] at hc2
    exact args hc2.2 hv
  | _ => exact hS.gen hcall hc hv

theorem step_simB {call2 call : Oracle} (hcall : Sim call2 call) (hS : RelS β ν T L h T' h') {s : AStep} (hc : s.cl = true) {T1 : Tb} {L1 : Lb} {h1 : H} (hv : stepB call2 s T L h = some (T1, L1, h1)) :
    ∃ β1 ν1 T1' h1', stepA call s T' h' = some (T1', h1') ∧ RelS β1 ν1 T1 L1 h1 T1' h1' ∧ FrS β ν h' β1 ν1 h1' := by
  simp only [AStep.cl, Bool.and_eq_true, List.all_eq_true] at hc
  unfold stepB at hv
  unfold stepA
  split at hv
  · rename_i hg
    rw [want_sim hS hg, if_pos rfl]
    split at hv
    · rename_i T2 L2 h2 ho
      split at hv
      · rename_i hag
        simp only [Option.some.injEq, Prod.mk.injEq] at hv
        obtain ⟨rfl, rfl, rfl⟩ := hv
        obtain ⟨β1, ν1, v', h1', k1, k2, k3⟩ := op_simB hcall hS hc.1 ho
        rw [k1]
        simp only
        rw [if_pos]
        · exact ⟨β1, ν1, _, _, rfl, k2, k3⟩
        · rw [List.all_eq_true] at hag ⊢
          exact fun r hr => again_sim k2 (hc.2 r hr) (hag r hr)
      · simp at hv
    · simp at hv
  · rename_i hg
    rw [want_sim hS hg, if_neg (by simp)]
    simp only [Option.some.injEq, Prod.mk.injEq] at hv
    obtain ⟨rfl, rfl, rfl⟩ := hv
    exact ⟨β, ν, _, _, rfl, hS.put (rV_undef (β := β)), FrS.refl β ν h'⟩
  · simp at hv
theorem steps_simB {call2 call : Oracle} (hcall : Sim call2 call) : ∀ {l : List AStep} {β ν : Re} {T : Tb} {L : Lb} {h h' : H} {T' : Tm} {T1 : Tb} {L1 : Lb} {h1 : H}, RelS β ν T L h T' h' → l.all AStep.cl = true → stepsB call2 l T L h = some (T1, L1, h1) →
    ∃ β1 ν1 T1' h1', stepsA call l T' h' = some (T1', h1') ∧ RelS β1 ν1 T1 L1 h1 T1' h1' ∧ FrS β ν h' β1 ν1 h1'
  | [], β, ν, T, L, h, h', T', T1, L1, h1, hS, _, hv => by
    simp only [stepsB, Option.some.injEq, Prod.mk.injEq] at hv
    obtain ⟨rfl, rfl, rfl⟩ := hv
    exact ⟨β, ν, T', h', rfl, hS, FrS.refl β ν h'⟩
  | s :: l, β, ν, T, L, h, h', T', T1, L1, h1, hS, hc, hv => by
    simp only [List.all_cons, Bool.and_eq_true] at hc
    simp only [stepsB] at hv
    split at hv
    · rename_i T2 L2 h2 hs
      obtain ⟨β1, ν1, T2', h2', k1, k2, k3⟩ := step_simB hcall hS hc.1 hs
      obtain ⟨β2, ν2, T3', h3', k4, k5, k6⟩ := steps_simB hcall k2 hc.2 hv
      exact ⟨β2, ν2, T3', h3', by simp only [stepsA, k1]; exact k4, k5, k3.trans k6⟩
    · simp at hv
end

theorem loopB_iff {body : RunB} {T : Tb} {L : Lb} {h : H} {x : Ex × Tb × Lb × H} : loopB body T L h = some x ↔ ∃ n0, ∀ n, n0 ≤ n → loopNB body n T L h = some x := by
  unfold loopB
  constructor
  · intro hx
    split at hx
    · rename_i he
      simp only [Option.some.injEq] at hx
      rw [← hx]
      exact he.choose_spec
    · simp at hx
  · intro hx
    have he : ∃ x, ∃ n0, ∀ n, n0 ≤ n → loopNB body n T L h = some x := ⟨x, hx⟩
    rw [dif_pos he]
    obtain ⟨n0, h0⟩ := hx
    obtain ⟨n1, h1⟩ := he.choose_spec
    have e0 := h0 (max n0 n1) (Nat.le_max_left ..)
    have e1 := h1 (max n0 n1) (Nat.le_max_right ..)
    rw [e1] at e0
    exact e0

theorem loopB_eq (body : RunB) (T : Tb) (L : Lb) (h : H) : loopB body T L h = match body T L h with
    | some (.normal, T', L', h') => loopB body T' L' h'
    | r => r := by
  refine Option.ext fun x => ?_
  rw [loopB_iff]
  constructor
  · rintro ⟨n0, h0⟩
    have h1 := h0 (n0 + 1) (Nat.le_succ _)
    unfold loopNB at h1
    split at h1
    · rename_i T' L' h' hb
      rw [hb]
      show loopB body T' L' h' = some x
      rw [loopB_iff]
      refine ⟨n0, fun n hn => ?_⟩
      have h2 := h0 (n + 1) (by omega)
      unfold loopNB at h2
      rw [hb] at h2
      exact h2
    · rename_i hne
      rw [h1]
      rw [h1] at hne
      obtain ⟨ex, T', L', h'⟩ := x
      cases ex with
      | normal => exact absurd rfl (hne T' L' h')
      | exit id => rfl
      | ret => rfl
  · intro hx
    split at hx
    · rename_i T' L' h' hb
      rw [loopB_iff] at hx
      obtain ⟨n0, h0⟩ := hx
      refine ⟨n0 + 1, fun n hn => ?_⟩
      cases n with
      | zero => omega
      | succ n =>
        unfold loopNB
        rw [hb]
        exact h0 n (by omega)
    · rename_i hb
      refine ⟨1, fun n hn => ?_⟩
      cases n with
      | zero => omega
      | succ n =>
        unfold loopNB
        split
        · rename_i T' L' h' hb'
          exact absurd hb' (by rw [hx]; intro e; exact hb T' L' h' (by rw [hx, e]))
        · exact hx

theorem code_simB {call2 call : Oracle} (hcall : Sim call2 call) : ∀ (c : ACode) {β ν : Re} {T : Tb} {L : Lb} {h h' : H} {T' : Tm} {ex : Ex} {T1 : Tb} {L1 : Lb} {h1 : H}, c.cl = true → RelS β ν T L h T' h' → codeB call2 c T L h = some (ex, T1, L1, h1) →
    ∃ β1 ν1 T1' h1', codeA loopA call c T' h' = some (ex, T1', h1') ∧ RelS β1 ν1 T1 L1 h1 T1' h1' ∧ FrS β ν h' β1 ν1 h1'
  | .skip, β, ν, T, L, h, h', T', ex, T1, L1, h1, _, hS, hv | .ret, β, ν, T, L, h, h', T', ex, T1, L1, h1, _, hS, hv | .exit _, β, ν, T, L, h, h', T', ex, T1, L1, h1, _, hS, hv => by
    simp only [codeB, Option.some.injEq, Prod.mk.injEq] at hv
    obtain ⟨rfl, rfl, rfl, rfl⟩ := hv
    exact ⟨β, ν, T', h', rfl, hS, FrS.refl β ν h'⟩
  | .reg l, β, ν, T, L, h, h', T', ex, T1, L1, h1, hc, hS, hv => by
    simp only [codeB] at hv
    obtain ⟨⟨T2, L2, h2⟩, h3, h4⟩ := Option.map_eq_some_iff.1 hv
    simp only [Prod.mk.injEq] at h4
    obtain ⟨rfl, rfl, rfl, rfl⟩ := h4
    obtain ⟨β1, ν1, T1', h1', k1, k2, k3⟩ := steps_simB hcall hS hc h3
    exact ⟨β1, ν1, T1', h1', by simp only [codeA, k1]; rfl, k2, k3⟩
  | .seq a b, β, ν, T, L, h, h', T', ex, T1, L1, h1, hc, hS, hv => by
    simp only [ACode.cl, Bool.and_eq_true] at hc
    simp only [codeB] at hv
    split at hv
    · rename_i T2 L2 h2 ha
      obtain ⟨β1, ν1, T2', h2', k1, k2, k3⟩ := code_simB hcall a hc.1 hS ha
      obtain ⟨β2, ν2, T3', h3', k4, k5, k6⟩ := code_simB hcall b hc.2 k2 hv
      exact ⟨β2, ν2, T3', h3', by simp only [codeA, k1]; exact k4, k5, k3.trans k6⟩
    · rename_i hne
      obtain ⟨β1, ν1, T2', h2', k1, k2, k3⟩ := code_simB hcall a hc.1 hS hv
      refine ⟨β1, ν1, T2', h2', ?_, k2, k3⟩
      simp only [codeA, k1]
      cases ex with
      | normal => exact absurd hv (hne _ _ _)
      | exit id => rfl
      | ret => rfl
  | .cond c a b, β, ν, T, L, h, h', T', ex, T1, L1, h1, hc, hS, hv => by
    simp only [ACode.cl, Bool.and_eq_true] at hc
    simp only [codeB] at hv
    have hx := rX hS.av hc.1
    split at hv
    · rename_i he
      rw [he] at hx
      obtain ⟨β1, ν1, T2', h2', k1, k2, k3⟩ := code_simB hcall a hc.2.1 hS hv
      exact ⟨β1, ν1, T2', h2', by simp only [codeA, rV_bool hx]; exact k1, k2, k3⟩
    · rename_i he
      rw [he] at hx
      obtain ⟨β1, ν1, T2', h2', k1, k2, k3⟩ := code_simB hcall b hc.2.2 hS hv
      exact ⟨β1, ν1, T2', h2', by simp only [codeA, rV_bool hx]; exact k1, k2, k3⟩
    · simp at hv
  | .block id a, β, ν, T, L, h, h', T', ex, T1, L1, h1, hc, hS, hv => by
    simp only [codeB] at hv
    split at hv
    · rename_i id' T2 L2 h2 ha
      obtain ⟨β1, ν1, T2', h2', k1, k2, k3⟩ := code_simB hcall a hc hS ha
      refine ⟨β1, ν1, T2', h2', ?_, ?_, k3⟩
      · simp only [codeA, k1]
        split at hv
        · rename_i hid
          simp only [Option.some.injEq, Prod.mk.injEq] at hv
          rw [if_pos hid, ← hv.1]
        · rename_i hid
          simp only [Option.some.injEq, Prod.mk.injEq] at hv
          rw [if_neg hid, ← hv.1]
      · split at hv
        · simp only [Option.some.injEq, Prod.mk.injEq] at hv
          obtain ⟨_, rfl, rfl, rfl⟩ := hv
          exact k2
        · simp only [Option.some.injEq, Prod.mk.injEq] at hv
          obtain ⟨_, rfl, rfl, rfl⟩ := hv
          exact k2
    · rename_i hne
      obtain ⟨β1, ν1, T2', h2', k1, k2, k3⟩ := code_simB hcall a hc hS hv
      refine ⟨β1, ν1, T2', h2', ?_, k2, k3⟩
      simp only [codeA, k1]
      cases ex with
      | exit id => exact absurd hv (hne _ _ _ _)
      | normal => rfl
      | ret => rfl
  | .loop a, β, ν, T, L, h, h', T', ex, T1, L1, h1, hc, hS, hv => by
    simp only [codeB] at hv
    obtain ⟨n0, hv⟩ := loopB_iff.1 hv
    have hv := hv n0 (Nat.le_refl _)
    have key : ∀ (n : Nat) {β ν : Re} {T : Tb} {L : Lb} {h h' : H} {T' : Tm}, RelS β ν T L h T' h' → loopNB (codeB call2 a) n T L h = some (ex, T1, L1, h1) →
        ∃ β1 ν1 T1' h1', loopA (codeA loopA call a) T' h' = some (ex, T1', h1') ∧ RelS β1 ν1 T1 L1 h1 T1' h1' ∧ FrS β ν h' β1 ν1 h1' := by
      intro n
      induction n with
      | zero => intro β ν T L h h' T' _ hv; simp [loopNB] at hv
      | succ n ih =>
        intro β ν T L h h' T' hS hv
        unfold loopNB at hv
        split at hv
        · rename_i T2 L2 h2 ha
          obtain ⟨β1, ν1, T2', h2', k1, k2, k3⟩ := code_simB hcall a hc hS ha
          obtain ⟨β2, ν2, T3', h3', k4, k5, k6⟩ := ih k2 hv
          exact ⟨β2, ν2, T3', h3', by rw [loopA_eq, k1]; exact k4, k5, k3.trans k6⟩
        · rename_i hne
          obtain ⟨β1, ν1, T2', h2', k1, k2, k3⟩ := code_simB hcall a hc hS hv
          refine ⟨β1, ν1, T2', h2', ?_, k2, k3⟩
          rw [loopA_eq, k1]
          cases ex with
          | normal => exact absurd hv (hne _ _ _)
          | exit id => rfl
          | ret => rfl
    simp only [codeA]
    exact key n0 hS hv

section
variable {β ν : Re} {T : Tb} {L : Lb} {h h' : H} {T' : Tm}
theorem res_simB (hS : RelS β ν T L h T' h') {r : ARes} {v : AV} (hv : resB T L h r = some v) : ∃ v', resA T' h' r = some v' ∧ rV β v v' := by
  cases r with
  | tmp t =>
    simp only [resB, Option.some.injEq] at hv
    subst hv
    exact ⟨_, rfl, rB.av (hS.tmp t)⟩
  | cell t k g =>
    simp only [resB] at hv
    obtain ⟨u, h1, rfl⟩ := Option.map_eq_some_iff.1 hv
    obtain ⟨v', h2, h3⟩ := pureB_sim hS rfl h1
    exact ⟨v', h2, rB.av h3⟩
theorem ress_simB (hS : RelS β ν T L h T' h') : ∀ {rs : List ARes} {vs : List AV}, resBs T L h rs = some vs → ∃ vs', resAs T' h' rs = some vs' ∧ rT β vs vs'
  | [], vs, hv => by
    simp only [resBs, Option.some.injEq] at hv
    subst hv
    exact ⟨[], rfl, rfl⟩
  | r :: rs, vs, hv => by
    unfold resBs at hv
    split at hv
    · simp at hv
    · rename_i v vs' hnt h1 h2
      simp only [Option.some.injEq] at hv
      subst hv
      obtain ⟨v', k1, k2⟩ := res_simB hS h1
      obtain ⟨us, k3, k4⟩ := ress_simB hS h2
      cases v with
      | one c =>
        obtain ⟨c', rfl, h5⟩ := k2
        exact ⟨_, by simp only [resAs, k1, k3], _, us, rfl, ⟨c', rfl, h5⟩, k4⟩
      | agg c =>
        obtain ⟨c', rfl, h5⟩ := k2
        exact ⟨_, by simp only [resAs, k1, k3], _, us, rfl, ⟨c', rfl, h5⟩, k4⟩
      | tup l => exact absurd rfl (hnt l)
    · simp at hv
theorem results_simB (hS : RelS β ν T L h T' h') {rs : List ARes} {v : AV} (hv : resultsB T L h rs = some v) : ∃ v', resultsA T' h' rs = some v' ∧ rV β v v' := by
  unfold resultsB at hv
  unfold resultsA
  split at hv
  · exact res_simB hS hv
  · rename_i hne
    obtain ⟨vs, h1, rfl⟩ := Option.map_eq_some_iff.1 hv
    obtain ⟨vs', h2, h3⟩ := ress_simB hS h1
    split
    · rename_i r
      exact absurd rfl (hne r)
    · rw [h2]
      refine ⟨_, rfl, ?_⟩
      cases vs with
      | nil => rw [show vs' = _ from h3]; exact rV_undef
      | cons a l => exact ⟨vs', rfl, h3⟩

theorem scalar_rC {β1 : Re} {c c' : CV} (hs : c.scalar = true) (hr : rC β c c') : rC β1 c c' := by
  cases c with
  | sl a n k => cases a with
    | none => exact hr
    | some a => simp [CV.scalar] at hs
  | ptr a => cases a with
    | none => exact hr
    | some a => simp [CV.scalar] at hs
  | fn f l => simp [CV.scalar] at hs
  | _ => exact hr
theorem scalar_rL {β1 : Re} : ∀ {l l' : List CV}, l.all CV.scalar = true → rL β l l' → rL β1 l l'
  | [], _, _, h => h
  | c :: l, _, hs, ⟨c', r', h1, h2, h3⟩ => by
    simp only [List.all_cons, Bool.and_eq_true] at hs
    exact ⟨c', r', h1, scalar_rC hs.1 h2, scalar_rL hs.2 h3⟩
theorem scalars_rT {β1 : Re} : ∀ {l l' : List AV}, AV.scalars l = true → rT β l l' → rT β1 l l'
  | [], _, _, h => h
  | .one c :: l, _, hs, ⟨c', r', h1, ⟨d, h2, h4⟩, h3⟩ => by
    simp only [AV.scalars, Bool.and_eq_true] at hs
    exact ⟨c', r', h1, ⟨d, h2, scalar_rC hs.1 h4⟩, scalars_rT hs.2 h3⟩
  | .agg c :: l, _, hs, ⟨c', r', h1, ⟨d, h2, h4⟩, h3⟩ => by
    simp only [AV.scalars, Bool.and_eq_true] at hs
    exact ⟨c', r', h1, ⟨d, h2, scalar_rL hs.1 h4⟩, scalars_rT hs.2 h3⟩
  | .tup _ :: l, _, hs, _ => by simp [AV.scalars] at hs
theorem scalar_rV {β1 : Re} {v v' : AV} (hs : v.scalar = true) (hr : rV β v v') : rV β1 v v' := by
  cases v with
  | one c => obtain ⟨c', h1, h2⟩ := hr; exact ⟨c', h1, scalar_rC hs h2⟩
  | agg c => obtain ⟨c', h1, h2⟩ := hr; exact ⟨c', h1, scalar_rL hs h2⟩
  | tup l => cases l with
    | nil => exact hr
    | cons a l => obtain ⟨l', h1, h2⟩ := hr; exact ⟨l', h1, scalars_rT hs h2⟩

theorem gc_sim {β1 : Re} {r r' : AV} {h1 h1' : H} (hR : RelH β h h') (h2 : RelH β1 h1 h1') (hr : rV β1 r r') (hF : Fr β h' β1 h1') :
    ∃ β2, RelH β2 (gcA h (r, h1)).2 h1' ∧ rV β2 (gcA h (r, h1)).1 r' ∧ Fr β h' β2 h1' := by
  unfold gcA
  split
  · rename_i hc
    obtain ⟨hs, hg⟩ := hc
    refine ⟨β, ⟨fun b b' hb => ?_, hR.inj⟩, scalar_rV hs hr, Ex2.refl β, hF.n, hF.keep, fun b b' hb => .inl ⟨b, hb⟩⟩
    obtain ⟨g1, g2, g3, g4, g5⟩ := hR.blk b b' hb
    obtain ⟨k1, k2, k3, k4, k5⟩ := h2.blk b b' (hF.ext b b' hb)
    have e : h1.f b = h.f b := hg.f b g1
    rw [e] at k3 k4 k5
    refine ⟨g1, k2, k3, k4, fun hd => ?_⟩
    have e1 := g5 hd
    have e2 := k5 hd
    have : (h'.f b').cs = (h1'.f b').cs := rL.fn hF.ext e1 e2
    rw [← this]
    exact e1
  · exact ⟨β1, h2, hr, hF⟩

theorem rVs.getD2 : ∀ {l l' : List AV}, rVs β l l' → ∀ t, rV β (l.getD t undefA) (l'.getD t undefA)
  | [], _, h, t => by rw [show _ = _ from h]; exact rV_undef
  | a :: l, _, ⟨a', r', h1, h2, h3⟩, 0 => by rw [h1]; exact h2
  | a :: l, _, ⟨a', r', h1, h2, h3⟩, t + 1 => by rw [h1]; simpa using rVs.getD2 h3 t

theorem tmpX_cl : ∀ rs : List ARes, (tmpX rs).all AX.cl = true
  | [] => rfl
  | .tmp t :: r => by
    simp only [tmpX, List.all_cons, Bool.and_eq_true]
    exact ⟨rfl, tmpX_cl r⟩
  | .cell .. :: r => tmpX_cl r

theorem body_simB {call2 call : Oracle} (hcall : Sim call2 call) {F : AFunc} (hc : F.body.cl = true) {args : List AV} {h : H} {r : AV} {h1 : H} (hv : bodyB call2 F args h = some (r, h1)) {β : Re} {h' : H} {args' : List AV} (hR : RelH β h h') (ha : rVs β args args') :
    ∃ β1 r' h1', bodyA loopA call F args' h' = some (r', h1') ∧ RelH β1 h1 h1' ∧ rV β1 r r' ∧ Fr β h' β1 h1' := by
  have hS : RelS β (fun _ => none) (startB args) (fun _ => (0, [])) h (startT args') h' := ⟨hR, fun t => ha.getD2 t, fun t b' ht => by simp at ht, fun s t x hs => by simp at hs⟩
  unfold bodyB at hv
  unfold bodyA
  split at hv
  · simp at hv
  · rename_i ex T L h2 hne he
    obtain ⟨v, hv1, hv2⟩ := Option.map_eq_some_iff.1 hv
    obtain ⟨β1, ν1, T1', h1', k1, k2, k3⟩ := code_simB hcall F.body hc hS he
    obtain ⟨β2, ν2, k4, k5⟩ := RelS.proA (tmpX F.results) (tmpX_cl _) k2
    obtain ⟨v', k6, k7⟩ := results_simB k4 hv1
    have k8 := k3.trans k5
    have hF : Fr β h' β2 h1' := ⟨k8.ext, k8.n, fun b' hb hn => k8.keep b' hb (by rintro (⟨b, hb⟩ | ⟨t, ht⟩); exact hn b hb; simp at ht), fun b b' hb => by
      rcases k8.new b' (.inl ⟨b, hb⟩) with (hb | ⟨t, ht⟩) | hb
      · exact .inl hb
      · simp at ht
      · exact .inr hb⟩
    obtain ⟨β3, g1, g2, g3⟩ := gc_sim hR k4.heap k7 hF
    rw [hv2] at g1 g2
    refine ⟨β3, v', h1', ?_, g1, g2, g3⟩
    rw [k1]
    cases ex with
    | exit id => exact absurd rfl (hne id)
    | normal => simp [k6]
    | ret => simp [k6]
  · simp at hv
end

theorem callB_sim {P : Program} : ∀ k, Sim (callB P k) (am P) := by
  intro k
  induction k with
  | zero => intro f args h r h1 hc; simp [callB] at hc
  | succ k ih =>
    intro f args h r h1 hc β h' args' hR ha
    simp only [callB] at hc
    split at hc
    · rename_i F hF
      unfold compB at hF
      split at hF
      · rename_i F' hF'
        split at hF
        · rename_i hcl
          simp only [Option.some.injEq] at hF
          subst hF
          obtain ⟨β1, r', h1', k1, k2, k3, k4⟩ := body_simB ih hcl hc hR ha
          exact ⟨β1, r', h1', am_body hF' k1, k2, k3, k4⟩
        · simp at hF
      · simp at hF
    · simp at hc

theorem bm_iff {P : Program} {f : Nat} {args : List AV} {h : H} {x : AV × H} : bm P f args h = some x ↔ ∃ k0, ∀ k, k0 ≤ k → callB P k f args h = some x := by
  unfold bm
  constructor
  · intro hx
    split at hx
    · rename_i he
      simp only [Option.some.injEq] at hx
      rw [← hx]
      exact he.choose_spec
    · simp at hx
  · intro hx
    have he : ∃ x, ∃ k0, ∀ k, k0 ≤ k → callB P k f args h = some x := ⟨x, hx⟩
    rw [dif_pos he]
    obtain ⟨n0, h0⟩ := hx
    obtain ⟨n1, h1⟩ := he.choose_spec
    have e0 := h0 (max n0 n1) (Nat.le_max_left ..)
    have e1 := h1 (max n0 n1) (Nat.le_max_right ..)
    rw [e1] at e0
    exact e0
theorem bm_sim {P : Program} : Sim (bm P) (am P) := by
  intro f args h r h1 hc
  obtain ⟨k0, hk⟩ := bm_iff.1 hc
  exact callB_sim k0 f args h r h1 (hk k0 (Nat.le_refl _))

section
variable {P : Program}
theorem bm_soon {f : Nat} {args : List AV} {h : H} {x : AV × H} (hx : bm P f args h = some x) : Soon fun k => callB P k f args h = some x := bm_iff.1 hx
theorem opA_soonB {o : AOp} {T : Tm} {h : H} {x : AV × H} (hx : opA (bm P) o T h = some x) : Soon fun k => opA (callB P k) o T h = some x := by
  cases o with
  | call f args => exact bm_soon hx
  | callv y args =>
    simp only [opA] at hx ⊢
    split at hx
    · rename_i f caps he
      exact bm_soon hx
    · simp at hx
  | _ => exact Soon.of fun k => hx
theorem genB_soon {o : AOp} {d : Option Nat} {T : Tb} {L : Lb} {h : H} {x : Tb × Lb × H} (hx : genB (bm P) o d T L h = some x) : Soon fun k => genB (callB P k) o d T L h = some x := by
  unfold genB at hx ⊢
  obtain ⟨r, h1, h2⟩ := Option.map_eq_some_iff.1 hx
  exact (opA_soonB h1).imp fun k hk => by rw [hk, ← h2]; rfl
theorem opB_soon {o : AOp} {d : Option Nat} {T : Tb} {L : Lb} {h : H} {x : Tb × Lb × H} (hx : opB (bm P) o d T L h = some x) : Soon fun k => opB (callB P k) o d T L h = some x := by
  cases o with
  | store k y v =>
    simp only [opB] at hx ⊢
    split at hx
    · rename_i t off he
      exact Soon.of fun k => hx
    · exact genB_soon hx
  | alloc _ _ | box _ _ | mov _ | load _ _ _ | nilCheck _ | faddr _ _ => exact Soon.of fun k => hx
  | _ => exact genB_soon hx
theorem stepB_soon {s : AStep} {T : Tb} {L : Lb} {h : H} {x : Tb × Lb × H} (hx : stepB (bm P) s T L h = some x) : Soon fun k => stepB (callB P k) s T L h = some x := by
  unfold stepB at hx ⊢
  split at hx
  · split at hx
    · rename_i T' L' h' hop
      refine (opB_soon hop).imp fun k hk => ?_
      rw [hk]
      exact hx
    · simp at hx
  · exact Soon.of fun k => hx
  · simp at hx
theorem stepsB_soon : ∀ {l : List AStep} {T : Tb} {L : Lb} {h : H} {x : Tb × Lb × H}, stepsB (bm P) l T L h = some x → Soon fun k => stepsB (callB P k) l T L h = some x
  | [], T, L, h, x, hx => Soon.of fun k => hx
  | s :: l, T, L, h, x, hx => by
    simp only [stepsB] at hx
    split at hx
    · rename_i T' L' h' hs
      refine (stepB_soon hs).and (stepsB_soon hx) fun k h1 h2 => ?_
      simp only [stepsB]
      rw [h1]
      exact h2
    · simp at hx
theorem codeB_soon : ∀ {c : ACode} {T : Tb} {L : Lb} {h : H} {x : Ex × Tb × Lb × H}, codeB (bm P) c T L h = some x → Soon fun k => codeB (callB P k) c T L h = some x
  | .skip, T, L, h, x, hx => Soon.of fun k => hx
  | .exit id, T, L, h, x, hx => Soon.of fun k => hx
  | .ret, T, L, h, x, hx => Soon.of fun k => hx
  | .reg l, T, L, h, x, hx => by
    simp only [codeB, Option.map_eq_some_iff] at hx
    obtain ⟨r, h1, h2⟩ := hx
    exact (stepsB_soon h1).imp fun k hk => by simp only [codeB, hk]; exact congrArg some h2
  | .seq a b, T, L, h, x, hx => by
    simp only [codeB] at hx
    split at hx
    · rename_i T' L' h' ha
      refine (codeB_soon ha).and (codeB_soon hx) fun k h1 h2 => ?_
      simp only [codeB, h1]
      exact h2
    · rename_i hne
      refine (codeB_soon hx).imp fun k h1 => ?_
      simp only [codeB, h1]
      obtain ⟨ex, T', L', h'⟩ := x
      cases ex with
      | normal => exact absurd hx (hne T' L' h')
      | exit id => rfl
      | ret => rfl
  | .cond c a b, T, L, h, x, hx => by
    simp only [codeB] at hx
    split at hx
    · rename_i he
      exact (codeB_soon hx).imp fun k h1 => by simp only [codeB, he]; exact h1
    · rename_i he
      exact (codeB_soon hx).imp fun k h1 => by simp only [codeB, he]; exact h1
    · simp at hx
  | .block id a, T, L, h, x, hx => by
    simp only [codeB] at hx
    split at hx
    · rename_i id' T' L' h' ha
      refine (codeB_soon ha).imp fun k h1 => ?_
      simp only [codeB, h1]
      exact hx
    · rename_i hne
      refine (codeB_soon hx).imp fun k h1 => ?_
      simp only [codeB, h1]
      obtain ⟨ex, T', L', h'⟩ := x
      cases ex with
      | exit id => exact absurd hx (hne id T' L' h')
      | normal => rfl
      | ret => rfl
  | .loop a, T, L, h, x, hx => by
    simp only [codeB] at hx ⊢
    obtain ⟨n0, hx⟩ := loopB_iff.1 hx
    have hx := hx n0 (Nat.le_refl _)
    have key : ∀ (n : Nat) {T : Tb} {L : Lb} {h : H}, loopNB (codeB (bm P) a) n T L h = some x → Soon fun k => loopB (codeB (callB P k) a) T L h = some x := by
      intro n
      induction n with
      | zero => intro T L h hx; simp [loopNB] at hx
      | succ n ih =>
        intro T L h hx
        unfold loopNB at hx
        split at hx
        · rename_i T' L' h' ha
          refine (codeB_soon ha).and (ih hx) fun k h1 h2 => ?_
          rw [loopB_eq, h1]
          exact h2
        · rename_i hne
          refine (codeB_soon hx).imp fun k h1 => ?_
          rw [loopB_eq, h1]
          obtain ⟨ex, T', L', h'⟩ := x
          cases ex with
          | normal => exact absurd hx (hne T' L' h')
          | exit id => rfl
          | ret => rfl
    exact key n0 hx
theorem bodyB_soon {F : AFunc} {args : List AV} {h : H} {x : AV × H} (hx : bodyB (bm P) F args h = some x) : Soon fun k => bodyB (callB P k) F args h = some x := by
  unfold bodyB at hx ⊢
  split at hx
  · simp at hx
  · rename_i ex T' L' h' hne he
    refine (codeB_soon he).imp fun k hk => ?_
    rw [hk]
    cases ex with
    | exit id => exact absurd rfl (hne id)
    | normal => exact hx
    | ret => exact hx
  · simp at hx
/-- A call is what the body is. -/
theorem bm_body {f : Nat} {F : AFunc} (hF : compB P f = some F) {args : List AV} {h : H} {x : AV × H} (hx : bodyB (bm P) F args h = some x) : bm P f args h = some x := by
  rw [bm_iff]
  obtain ⟨k0, hk⟩ := bodyB_soon hx
  refine ⟨k0 + 1, fun k hk1 => ?_⟩
  cases k with
  | zero => omega
  | succ k =>
    simp only [callB, hF]
    exact hk k (by omega)
end
end Go.Proofs.Ytnphlonhogcedaa.Am
