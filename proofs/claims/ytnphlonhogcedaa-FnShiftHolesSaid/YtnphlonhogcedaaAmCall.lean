/- The abstract machine: calls against the model's, and the machine without bounds. -/
import Derived.Test.YtnphlonhogcedaaAmCode
import Derived.Laws.Sem
namespace Go.Proofs.Ytnphlonhogcedaa.Am
open Go

section
variable {P : Program} {β : Inj} {h : H} {w : World} {T : Tm} {a : Act}

/-- One result of the model's. -/
def resM (tmps : Array Value) : ResultVar → Sem Value
  | .tmp t => pure (tmps.getD t undef)
  | .cell a t => do loadVar t (← asAddr (tmps.getD a undef))

theorem results_eq (fn : Func) (tmps : Array Value) : results fn tmps = (do
    let vs ← fn.results.toList.mapM (resM tmps)
    pure (if h : vs.length = 1 then vs[0] else .tuple vs.toArray)) := by
  unfold results
  rw [Array.mapM_eq_mapM_toList]
  simp only [map_eq_pure_bind, bind_assoc, pure_bind]
  congr 1

theorem resA_rel {r : ResultVar} {ar : ARes} {v : AV} (hR : Rel P β h w) (hA : relA P β w T a) (hc : compRes P [r] = some [ar]) (hv : resA T h ar = some v) : ∃ u, (resM a.tmps r).run P w = .ok u w ∧ relV P β w v u := by
  cases r with
  | tmp t =>
    simp [compRes] at hc
    subst hc
    simp [resA] at hv
    subst hv
    exact ⟨_, by simp [resM], hA t⟩
  | cell t ty =>
    simp only [compRes] at hc
    have key : ∀ k agg, isAggT P ty = some agg → (if agg then sizeT P ty = some k else k = 1) → pureA (.load k agg (.t t)) T h = some v → ∃ u, (resM a.tmps (.cell t ty)).run P w = .ok u w ∧ relV P β w v u := by
      intro k agg hg hk hv
      simp only [pureA, AX.ev] at hv
      have hr := hA t
      split at hv
      · rename_i ad he
        rw [he] at hr
        obtain ⟨m, h1, h2⟩ := hr
        split at hv
        · rename_i cs hl
          obtain ⟨u, h3, h4⟩ := run_loadVarA hR h2 hg hk hl
          refine ⟨u, by simp [resM, h1, asAddr, h3], ?_⟩
          cases agg with
          | true => simp at hv; subst hv; exact h4
          | false =>
            simp only [Bool.false_eq_true, if_false] at hv h4
            split at hv
            · simp at hv; subst hv; exact h4
            · simp at hv
        · simp at hv
      · simp at hv
    split at hc
    · rename_i k l h1 h2 h3
      simp at h3
      subst h3
      simp at hc
      subst hc
      exact key k true h1 (by simpa using h2) hv
    · rename_i k l h1 h2 h3
      simp at h3
      subst h3
      simp at hc
      subst hc
      exact key 1 false h1 (by simp) hv
    · simp at hc

theorem compRes_cons {r : ResultVar} {rs : List ResultVar} {l : List ARes} (hc : compRes P (r :: rs) = some l) : ∃ ar l', l = ar :: l' ∧ compRes P [r] = some [ar] ∧ compRes P rs = some l' := by
  cases r with
  | tmp t =>
    simp only [compRes, Option.map_eq_some_iff] at hc
    obtain ⟨l', h1, rfl⟩ := hc
    exact ⟨_, _, rfl, by simp [compRes], h1⟩
  | cell t ty =>
    simp only [compRes] at hc
    split at hc
    · rename_i k l' h1 h2 h3
      simp at hc
      exact ⟨_, _, hc.symm, by simp [compRes, h1, h2], h3⟩
    · rename_i k l' h1 h2 h3
      simp at hc
      exact ⟨_, _, hc.symm, by simp [compRes, h1, h2], h3⟩
    · simp at hc

theorem compRes_len {rs : List ResultVar} : ∀ {l : List ARes}, compRes P rs = some l → l.length = rs.length := by
  induction rs with
  | nil => intro l hc; simp [compRes] at hc; subst hc; rfl
  | cons r rs ih =>
    intro l hc
    obtain ⟨ar, l', rfl, _, h2⟩ := compRes_cons hc
    simp [ih h2]

theorem resAs_rel (hR : Rel P β h w) (hA : relA P β w T a) : ∀ {rs : List ResultVar} {l : List ARes} {vs : List AV}, compRes P rs = some l → resAs T h l = some vs →
    ∃ us, (rs.mapM (resM a.tmps)).run P w = .ok us w ∧ relT P β w vs us ∧ us.length = rs.length
  | [], l, vs, hc, hv => by
    simp [compRes] at hc
    subst hc
    simp [resAs] at hv
    subst hv
    exact ⟨[], by simp, trivial, rfl⟩
  | r :: rs, l, vs, hc, hv => by
    obtain ⟨ar, l', rfl, h1, h2⟩ := compRes_cons hc
    unfold resAs at hv
    split at hv
    · simp at hv
    · rename_i v vs' hnt hv1 hv2
      simp at hv
      subst hv
      obtain ⟨u, g1, g2⟩ := resA_rel hR hA h1 hv1
      obtain ⟨us, g3, g4, g5⟩ := resAs_rel hR hA h2 hv2
      refine ⟨u :: us, by simp [List.mapM_cons, g1, g3], ⟨?_, g4⟩, by simp [g5]⟩
      cases v with
      | one c => exact g2
      | agg cs => exact g2
      | tup q => exact absurd rfl (hnt q)
    · simp at hv

theorem results_rel {fn : Func} {l : List ARes} {v : AV} (hR : Rel P β h w) (hA : relA P β w T a) (hc : compRes P fn.results.toList = some l) (hv : resultsA T h l = some v) :
    ∃ u, (results fn a.tmps).run P w = .ok u w ∧ relV P β w v u := by
  rw [results_eq]
  have hlen := compRes_len hc
  unfold resultsA at hv
  split at hv
  · rename_i r
    match hrs : fn.results.toList, hlen with
    | [r'], _ =>
      rw [hrs] at hc
      obtain ⟨u, g1, g2⟩ := resA_rel hR hA hc hv
      exact ⟨u, by simp [g1], g2⟩
  · rename_i hne
    obtain ⟨vs, hvs, rfl⟩ := Option.map_eq_some_iff.1 hv
    obtain ⟨us, g1, g2, g3⟩ := resAs_rel hR hA hc hvs
    refine ⟨.tuple us.toArray, ?_, us.toArray, rfl, g2⟩
    have : ¬ us.length = 1 := by
      rw [g3, ← hlen]
      intro h1
      obtain ⟨r, rfl⟩ := List.length_eq_one_iff.1 h1
      exact hne r rfl
    simp [g1, this]

theorem relVs.getD : ∀ {l : List AV} {vs : List Value}, relVs P β w l vs → ∀ t, relV P β w (l.getD t undefA) (vs.getD t undef)
  | [], [], _, t => ⟨#[], by simp [undef], trivial⟩
  | _ :: _, _ :: _, ⟨h1, _⟩, 0 => h1
  | _ :: _, _ :: _, ⟨_, h2⟩, t + 1 => by simpa using h2.getD t
  | [], _ :: _, h, _ => h.elim
  | _ :: _, [], h, _ => h.elim
end

theorem body_sound {P : Program} (hm : P.follows .mixedOrders = true) {call : Oracle} (hcall : Sound P call) {f : Nat} {F : AFunc} (hF : compFunc P f = some F) {args : List AV} {h : H} {r : AV} {h' : H} (hb : bodyA loopA call F args h = some (r, h')) :
    (∃ fn, P.funcs[f]? = some fn ∧ (fn.name == "runtime.NumGoroutine") = false ∧ fn.body.isNone = false) ∧
    ∀ β w vs, Rel P β h w → relVs P β w args vs → Calls P f vs.toArray w fun e w' => ∃ u β', e = .returned u ∧ relV P β' w' r u ∧ Rel P β' h' w' ∧ Stp β h w β' h' w' := by
  unfold compFunc at hF
  split at hF
  · rename_i fn hfn
    split at hF
    · simp at hF
    · rename_i hname
      split at hF
      · rename_i c hc
        split at hF
        · rename_i b rs hb1 hrs
          simp at hF
          subst hF
          refine ⟨⟨fn, hfn, by simpa using hname, by rw [hc]; rfl⟩, ?_⟩
          intro β w vs hR hvs
          refine calls_of_wp hfn hc ?_
          unfold bodyA at hb
          have hO : Ok P fn.ntmps β h w (startT args) { tmps := vs.toArray ++ Array.replicate (fn.ntmps - vs.toArray.size) undef, defers := [] } := by
            refine ⟨hR, fun t => ?_, ?_, rfl⟩
            · have h1 := hvs.getD t
              have e : (vs.toArray ++ Array.replicate (fn.ntmps - vs.toArray.size) undef).getD t undef = vs.getD t undef := by
                simp only [Array.getD_eq_getD_getElem?, Array.getElem?_append, List.size_toArray, Array.getElem?_replicate, List.getD_eq_getElem?_getD]
                by_cases ht : t < vs.length
                · simp [ht]
                · simp only [if_neg ht, List.getElem?_eq_none (Nat.le_of_not_lt ht)]
                  split <;> rfl
              rw [e]
              exact h1
            · simp
              omega
          split at hb
          · simp at hb
          · rename_i ex T' h1 hne he
            obtain ⟨v, hv, hv2⟩ := Option.map_eq_some_iff.1 hb
            simp only [Prod.mk.injEq] at hv2
            obtain ⟨rfl, rfl⟩ := hv2
            refine code_sound hm hcall c hb1 he hO fun β1 w1 a1 g1 g2 => ?_
            obtain ⟨u, k1, k2⟩ := results_rel g1.rel g1.act hrs hv
            have : a1.defers = [] ∧ ∃ v', (results fn a1.tmps).run P w1 = .ok v' w1 ∧ ∃ u β', Ending.returned v' = .returned u ∧ relV P β' w1 v u ∧ Rel P β' h1 w1 ∧ Stp β h w β' h1 w1 :=
              ⟨g1.defers, u, k1, u, β1, rfl, k2, g1.rel, g2⟩
            cases ex with
            | normal => exact this
            | ret => exact this
            | exit id => exact absurd rfl (hne id)
          · simp at hb
        · simp at hF
      · simp at hF
  · simp at hF

theorem callA_sound {P : Program} (hm : P.follows .mixedOrders = true) : ∀ k, Sound P (callA loopA P k) := by
  intro k
  induction k with
  | zero => intro f args h r h' hc; simp [callA] at hc
  | succ k ih =>
    intro f args h r h' hc
    simp only [callA] at hc
    split at hc
    · rename_i F hF
      exact body_sound hm ih hF hc
    · simp at hc

/-! ### without bounds -/
open Classical in
noncomputable def am (P : Program) : Oracle := fun f args h => if hx : ∃ x, ∃ k0, ∀ k, k0 ≤ k → callA loopA P k f args h = some x then some hx.choose else none

theorem am_iff {P : Program} {f : Nat} {args : List AV} {h : H} {x : AV × H} : am P f args h = some x ↔ ∃ k0, ∀ k, k0 ≤ k → callA loopA P k f args h = some x := by
  unfold am
  constructor
  · intro hx
    split at hx
    · rename_i he
      simp only [Option.some.injEq] at hx
      rw [← hx]
      exact he.choose_spec
    · simp at hx
  · intro hx
    have he : ∃ x, ∃ k0, ∀ k, k0 ≤ k → callA loopA P k f args h = some x := ⟨x, hx⟩
    rw [dif_pos he]
    obtain ⟨n0, h0⟩ := hx
    obtain ⟨n1, h1⟩ := he.choose_spec
    have e0 := h0 (max n0 n1) (Nat.le_max_left ..)
    have e1 := h1 (max n0 n1) (Nat.le_max_right ..)
    rw [e1] at e0
    exact e0

theorem am_sound {P : Program} (hm : P.follows .mixedOrders = true) : Sound P (am P) := by
  intro f args h r h' hc
  obtain ⟨k0, hk⟩ := am_iff.1 hc
  exact callA_sound hm k0 f args h r h' (hk k0 (Nat.le_refl _))

/-- From some k on. -/
def Soon (p : Nat → Prop) : Prop := ∃ k0, ∀ k, k0 ≤ k → p k
theorem Soon.and {p q r : Nat → Prop} (hp : Soon p) (hq : Soon q) (hr : ∀ k, p k → q k → r k) : Soon r := by
  obtain ⟨a, ha⟩ := hp
  obtain ⟨b, hb⟩ := hq
  exact ⟨max a b, fun k hk => hr k (ha k (by omega)) (hb k (by omega))⟩
theorem Soon.imp {p r : Nat → Prop} (hp : Soon p) (hr : ∀ k, p k → r k) : Soon r := by
  obtain ⟨a, ha⟩ := hp
  exact ⟨a, fun k hk => hr k (ha k hk)⟩
theorem Soon.of {p : Nat → Prop} (hp : ∀ k, p k) : Soon p := ⟨0, fun k _ => hp k⟩

section
variable {P : Program}
theorem am_soon {f : Nat} {args : List AV} {h : H} {x : AV × H} (hx : am P f args h = some x) : Soon fun k => callA loopA P k f args h = some x := am_iff.1 hx

theorem op_soon {o : AOp} {T : Tm} {h : H} {x : AV × H} (hx : opA (am P) o T h = some x) : Soon fun k => opA (callA loopA P k) o T h = some x := by
  cases o with
  | call f args => exact am_soon hx
  | callv y args =>
    simp only [opA] at hx ⊢
    split at hx
    · rename_i f caps he
      first | exact am_soon hx | (rw [he]; exact am_soon hx)
    · simp at hx
  | _ => exact Soon.of fun k => hx

theorem step_soon {s : AStep} {T : Tm} {h : H} {x : Tm × H} (hx : stepA (am P) s T h = some x) : Soon fun k => stepA (callA loopA P k) s T h = some x := by
  unfold stepA at hx ⊢
  split at hx
  · rename_i hw
    split at hx
    · rename_i v h' hop
      refine (op_soon hop).imp fun k hk => ?_
      rw [if_pos hw, hk]
      exact hx
    · simp at hx
  · rename_i hw
    exact Soon.of fun k => by rw [if_neg hw]; exact hx

theorem steps_soon : ∀ {l : List AStep} {T : Tm} {h : H} {x : Tm × H}, stepsA (am P) l T h = some x → Soon fun k => stepsA (callA loopA P k) l T h = some x
  | [], T, h, x, hx => Soon.of fun k => hx
  | s :: l, T, h, x, hx => by
    unfold stepsA at hx
    split at hx
    · rename_i T' h' hs
      refine (step_soon hs).and (steps_soon hx) fun k h1 h2 => ?_
      unfold stepsA
      rw [h1]
      exact h2
    · simp at hx

theorem code_soon : ∀ {c : ACode} {T : Tm} {h : H} {x : Ex × Tm × H}, codeA loopA (am P) c T h = some x → Soon fun k => codeA loopA (callA loopA P k) c T h = some x
  | .skip, T, h, x, hx => Soon.of fun k => hx
  | .exit id, T, h, x, hx => Soon.of fun k => hx
  | .ret, T, h, x, hx => Soon.of fun k => hx
  | .reg l, T, h, x, hx => by
    simp only [codeA, Option.map_eq_some_iff] at hx
    obtain ⟨r, h1, h2⟩ := hx
    exact (steps_soon h1).imp fun k hk => by simp only [codeA, hk]; exact congrArg some h2
  | .seq a b, T, h, x, hx => by
    simp only [codeA] at hx
    split at hx
    · rename_i T' h' ha
      refine (code_soon ha).and (code_soon hx) fun k h1 h2 => ?_
      simp only [codeA, h1]
      exact h2
    · rename_i hne
      refine (code_soon hx).imp fun k h1 => ?_
      simp only [codeA, h1]
      obtain ⟨ex, T', h'⟩ := x
      cases ex with
      | normal => exact absurd hx (hne T' h')
      | exit id => rfl
      | ret => rfl
  | .cond c a b, T, h, x, hx => by
    simp only [codeA] at hx
    split at hx
    · rename_i he
      exact (code_soon hx).imp fun k h1 => by simp only [codeA, he]; exact h1
    · rename_i he
      exact (code_soon hx).imp fun k h1 => by simp only [codeA, he]; exact h1
    · simp at hx
  | .block id a, T, h, x, hx => by
    simp only [codeA] at hx
    split at hx
    · rename_i id' T' h' ha
      refine (code_soon ha).imp fun k h1 => ?_
      simp only [codeA, h1]
      exact hx
    · rename_i hne
      refine (code_soon hx).imp fun k h1 => ?_
      simp only [codeA, h1]
      obtain ⟨ex, T', h'⟩ := x
      cases ex with
      | exit id => exact absurd hx (hne id T' h')
      | normal => rfl
      | ret => rfl
  | .loop a, T, h, x, hx => by
    simp only [codeA] at hx ⊢
    obtain ⟨n0, hx⟩ := loopA_iff.1 hx
    have hx := hx n0 (Nat.le_refl _)
    have key : ∀ (n : Nat) {T : Tm} {h : H}, loopN (codeA loopA (am P) a) n T h = some x → Soon fun k => loopA (codeA loopA (callA loopA P k) a) T h = some x := by
      intro n
      induction n with
      | zero => intro T h hx; simp [loopN] at hx
      | succ n ih =>
        intro T h hx
        unfold loopN at hx
        split at hx
        · rename_i T' h' ha
          refine (code_soon ha).and (ih hx) fun k h1 h2 => ?_
          rw [loopA_eq, h1]
          exact h2
        · rename_i hne
          refine (code_soon hx).imp fun k h1 => ?_
          rw [loopA_eq, h1]
          obtain ⟨ex, T', h'⟩ := x
          cases ex with
          | normal => exact absurd hx (hne T' h')
          | exit id => rfl
          | ret => rfl
    exact key n0 hx

theorem body_soon {F : AFunc} {args : List AV} {h : H} {x : AV × H} (hx : bodyA loopA (am P) F args h = some x) : Soon fun k => bodyA loopA (callA loopA P k) F args h = some x := by
  unfold bodyA at hx ⊢
  split at hx
  · simp at hx
  · rename_i ex T' h' hne he
    refine (code_soon he).imp fun k hk => ?_
    rw [hk]
    cases ex with
    | exit id => exact absurd rfl (hne id)
    | normal => exact hx
    | ret => exact hx
  · simp at hx

/-- A call is what the body is. -/
theorem am_body {f : Nat} {F : AFunc} (hF : compFunc P f = some F) {args : List AV} {h : H} {x : AV × H} (hx : bodyA loopA (am P) F args h = some x) : am P f args h = some x := by
  rw [am_iff]
  obtain ⟨k0, hk⟩ := body_soon hx
  refine ⟨k0 + 1, fun k hk1 => ?_⟩
  cases k with
  | zero => omega
  | succ k =>
    simp only [callA, hF]
    exact hk k (by omega)
end
end Go.Proofs.Ytnphlonhogcedaa.Am
