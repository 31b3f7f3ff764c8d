/- The abstract machine: code against the model's. -/
import Derived.Test.YtnphlonhogcedaaAmDrawC
import Derived.LoopN
namespace Go.Proofs.Ytnphlonhogcedaa.Am
open Go

def Ex.out : Ex → Exit
  | .normal => .normal
  | .exit id => .exit id
  | .ret => .ret

open Classical in
/-- As many rounds as it takes. -/
noncomputable def loopA : Rounds := fun body T h => if hx : ∃ x, ∃ n0, ∀ n, n0 ≤ n → loopN body n T h = some x then some hx.choose else none

theorem loopA_iff {body : Tm → H → Option (Ex × Tm × H)} {T : Tm} {h : H} {x : Ex × Tm × H} : loopA body T h = some x ↔ ∃ n0, ∀ n, n0 ≤ n → loopN body n T h = some x := by
  unfold loopA
  constructor
  · intro hx
    split at hx
    · rename_i he
      simp only [Option.some.injEq] at hx
      rw [← hx]
      exact he.choose_spec
    · simp at hx
  · intro hx
    have he : ∃ x, ∃ n0, ∀ n, n0 ≤ n → loopN body n T h = some x := ⟨x, hx⟩
    rw [dif_pos he]
    obtain ⟨n0, h0⟩ := hx
    obtain ⟨n1, h1⟩ := he.choose_spec
    have e0 := h0 (max n0 n1) (Nat.le_max_left ..)
    have e1 := h1 (max n0 n1) (Nat.le_max_right ..)
    rw [e1] at e0
    exact e0

theorem loopA_eq (body : Tm → H → Option (Ex × Tm × H)) (T : Tm) (h : H) : loopA body T h = match body T h with
    | some (.normal, T', h') => loopA body T' h'
    | r => r := by
  refine Option.ext fun x => ?_
  rw [loopA_iff]
  constructor
  · rintro ⟨n0, h0⟩
    have h1 := h0 (n0 + 1) (Nat.le_succ _)
    unfold loopN at h1
    split at h1
    · rename_i T' h' hb
      rw [hb]
      show loopA body T' h' = some x
      rw [loopA_iff]
      refine ⟨n0, fun n hn => ?_⟩
      have h2 := h0 (n + 1) (by omega)
      unfold loopN at h2
      rw [hb] at h2
      exact h2
    · rename_i hne
      rw [h1]
      rw [h1] at hne
      obtain ⟨ex, T', h'⟩ := x
      cases ex with
      | normal => exact absurd rfl (hne T' h')
      | exit id => rfl
      | ret => rfl
  · intro hx
    split at hx
    · rename_i T' h' hb
      rw [loopA_iff] at hx
      obtain ⟨n0, h0⟩ := hx
      refine ⟨n0 + 1, fun n hn => ?_⟩
      cases n with
      | zero => omega
      | succ n =>
        unfold loopN
        rw [hb]
        exact h0 n (by omega)
    · rename_i hb
      refine ⟨1, fun n hn => ?_⟩
      cases n with
      | zero => omega
      | succ n =>
        unfold loopN
        split
        · rename_i T' h' hb'
          exact absurd hb' (by rw [hx]; intro e; exact hb T' h' (by rw [hx, e]))
        · exact hx

section
variable {P : Program} {call : Oracle} {nt : Nat}

theorem code_sound (hm : P.follows .mixedOrders = true) (hcall : Sound P call) : ∀ (c : Code) {ac : ACode} {T : Tm} {h : H} {ex : Ex} {T' : Tm} {h' : H}, compCode P nt c = some ac → codeA loopA call ac T h = some (ex, T', h') →
    ∀ {β : Inj} {w : World} {a : Act}, Ok P nt β h w T a → ∀ {Q : Exit → Act → World → Prop}, (∀ β' w' a', Ok P nt β' h' w' T' a' → Stp β h w β' h' w' → Q ex.out a' w') → c.wp P Q a w
  | .skip, ac, T, h, ex, T', h', hc, hr, β, w, a, hO, Q, hQ => by
    simp [compCode] at hc
    subst hc
    simp only [codeA, Option.some.injEq, Prod.mk.injEq] at hr
    obtain ⟨rfl, rfl, rfl⟩ := hr
    exact wp_skip (hQ β w a hO (Stp.refl β h w hO.rel.dom))
  | .exit id, ac, T, h, ex, T', h', hc, hr, β, w, a, hO, Q, hQ => by
    simp [compCode] at hc
    subst hc
    simp only [codeA, Option.some.injEq, Prod.mk.injEq] at hr
    obtain ⟨rfl, rfl, rfl⟩ := hr
    exact wp_exit (hQ β w a hO (Stp.refl β h w hO.rel.dom))
  | .ret, ac, T, h, ex, T', h', hc, hr, β, w, a, hO, Q, hQ => by
    simp [compCode] at hc
    subst hc
    simp only [codeA, Option.some.injEq, Prod.mk.injEq] at hr
    obtain ⟨rfl, rfl, rfl⟩ := hr
    exact wp_ret (hQ β w a hO (Stp.refl β h w hO.rel.dom))
  | .region id ops draw, ac, T, h, ex, T', h', hc, hr, β, w, a, hO, Q, hQ => by
    unfold compCode at hc
    split at hc
    · rename_i l hl
      cases draw with
      | true =>
        simp only [if_true] at hc
        cases hp : plan ops l with
        | none => rw [hp] at hc; simp at hc; subst hc; simp [badC, codeA, AX.ev] at hr
        | some l' =>
          rw [hp] at hc
          simp at hc
          subst hc
          simp only [codeA] at hr
          cases hst : stepsA call l' T h with
          | none => rw [hst] at hr; simp at hr
          | some r =>
            obtain ⟨T1, h1⟩ := r
            rw [hst] at hr
            simp only [Option.map_some, Option.some.injEq, Prod.mk.injEq] at hr
            obtain ⟨rfl, rfl, rfl⟩ := hr
            exact draw_region hm hcall hl hp hst hO.rel hO.act hO.size hO.defers fun β1 w1 a1 g1 g2 g3 g4 g5 => hQ β1 w1 a1 ⟨g1, g2, g4, g5⟩ g3
      | false =>
        simp only [Bool.false_eq_true, if_false, Option.some.injEq] at hc
        subst hc
        simp only [codeA] at hr
        cases hst : stepsA call l T h with
        | none => rw [hst] at hr; simp at hr
        | some r =>
          obtain ⟨T1, h1⟩ := r
          rw [hst] at hr
          simp only [Option.map_some, Option.some.injEq, Prod.mk.injEq] at hr
          obtain ⟨rfl, rfl, rfl⟩ := hr
          exact wp_region_list (steps_sound hcall hl hst hO hQ)
    · simp at hc; subst hc; simp [badC, codeA, AX.ev] at hr
  | .seq x y, ac, T, h, ex, T', h', hc, hr, β, w, a, hO, Q, hQ => by
    unfold compCode at hc
    split at hc
    · rename_i ax ay hx hy
      simp at hc
      subst hc
      simp only [codeA] at hr
      refine wp_seq ?_
      split at hr
      · rename_i T1 h1 he
        refine code_sound hm hcall x hx he hO fun β1 w1 a1 g1 g2 => ?_
        exact code_sound hm hcall y hy hr g1 fun β2 w2 a2 k1 k2 => hQ β2 w2 a2 k1 (g2.trans k2)
      · rename_i hne
        refine code_sound hm hcall x hx hr hO fun β1 w1 a1 g1 g2 => ?_
        cases ex with
        | normal => exact absurd hr (hne T' h')
        | exit id => exact hQ β1 w1 a1 g1 g2
        | ret => exact hQ β1 w1 a1 g1 g2
    · simp at hc
  | .cond c x y, ac, T, h, ex, T', h', hc, hr, β, w, a, hO, Q, hQ => by
    unfold compCode at hc
    split at hc
    · rename_i ca ax ay h1 hx hy
      simp at hc
      subst hc
      have hv := hO.act.opnd c ca h1
      simp only [codeA] at hr
      split at hr
      · rename_i he
        rw [he] at hv
        exact wp_cond_true hv (code_sound hm hcall x hx hr hO hQ)
      · rename_i he
        rw [he] at hv
        exact wp_cond_false hv (code_sound hm hcall y hy hr hO hQ)
      · simp at hr
    · simp at hc
  | .block id x, ac, T, h, ex, T', h', hc, hr, β, w, a, hO, Q, hQ => by
    unfold compCode at hc
    cases hx : compCode P nt x with
    | none => rw [hx] at hc; simp at hc
    | some ax =>
      rw [hx] at hc
      simp at hc
      subst hc
      simp only [codeA] at hr
      refine wp_block ?_
      split at hr
      · rename_i id' T1 h1 he
        refine code_sound hm hcall x hx he hO fun β1 w1 a1 g1 g2 => ?_
        show (if id' = id then Q .normal a1 w1 else Q (.exit id') a1 w1)
        split at hr
        · rename_i hid
          simp only [Option.some.injEq, Prod.mk.injEq] at hr
          obtain ⟨rfl, rfl, rfl⟩ := hr
          rw [if_pos hid]
          exact hQ β1 w1 a1 g1 g2
        · rename_i hid
          simp only [Option.some.injEq, Prod.mk.injEq] at hr
          obtain ⟨rfl, rfl, rfl⟩ := hr
          rw [if_neg hid]
          exact hQ β1 w1 a1 g1 g2
      · rename_i hne
        refine code_sound hm hcall x hx hr hO fun β1 w1 a1 g1 g2 => ?_
        cases ex with
        | normal => exact hQ β1 w1 a1 g1 g2
        | exit id' => exact absurd hr (hne id' T' h')
        | ret => exact hQ β1 w1 a1 g1 g2
  | .loop x, ac, T, h, ex, T', h', hc, hr, β, w, a, hO, Q, hQ => by
    unfold compCode at hc
    cases hx : compCode P nt x with
    | none => rw [hx] at hc; simp at hc
    | some ax =>
      rw [hx] at hc
      simp at hc
      subst hc
      simp only [codeA] at hr
      rw [loopA_iff] at hr
      obtain ⟨n0, hr⟩ := hr
      have hr := hr n0 (Nat.le_refl _)
      have key : ∀ (n : Nat) {T : Tm} {h : H} {β : Inj} {w : World} {a : Act}, loopN (codeA loopA call ax) n T h = some (ex, T', h') → Ok P nt β h w T a →
          (∀ β' w' a', Ok P nt β' h' w' T' a' → Stp β h w β' h' w' → Q ex.out a' w') → Code.rounds P x Q n a w := by
        intro n
        induction n with
        | zero => intro T h β w a hr; simp [loopN] at hr
        | succ n ih =>
          intro T h β w a hr hO hQ
          rw [rounds_succ]
          unfold loopN at hr
          split at hr
          · rename_i T1 h1 he
            refine code_sound hm hcall x hx he hO fun β1 w1 a1 g1 g2 => ?_
            exact ih hr g1 fun β2 w2 a2 k1 k2 => hQ β2 w2 a2 k1 (g2.trans k2)
          · rename_i hne
            refine code_sound hm hcall x hx hr hO fun β1 w1 a1 g1 g2 => ?_
            cases ex with
            | normal => exact absurd hr (hne T' h')
            | exit id => exact hQ β1 w1 a1 g1 g2
            | ret => exact hQ β1 w1 a1 g1 g2
      exact wp_loop_rounds n0 (key n0 hr hO hQ)
  | .rangeFunc .., ac, T, h, ex, T', h', hc, hr, β, w, a, hO, Q, hQ => by simp [compCode] at hc; subst hc; simp [badC, codeA, AX.ev] at hr
  | .scope _, ac, T, h, ex, T', h', hc, hr, β, w, a, hO, Q, hQ => by simp [compCode] at hc; subst hc; simp [badC, codeA, AX.ev] at hr
  | .label _, ac, T, h, ex, T', h', hc, hr, β, w, a, hO, Q, hQ => by simp [compCode] at hc; subst hc; simp [badC, codeA, AX.ev] at hr
  | .goto _, ac, T, h, ex, T', h', hc, hr, β, w, a, hO, Q, hQ => by simp [compCode] at hc; subst hc; simp [badC, codeA, AX.ev] at hr
  | .refuse _, ac, T, h, ex, T', h', hc, hr, β, w, a, hO, Q, hQ => by simp [compCode] at hc; subst hc; simp [badC, codeA, AX.ev] at hr
end
end Go.Proofs.Ytnphlonhogcedaa.Am
