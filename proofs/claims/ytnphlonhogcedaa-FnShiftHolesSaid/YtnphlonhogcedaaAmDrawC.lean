/- The abstract machine: a region whose order is drawn, whole. -/
import Derived.Test.YtnphlonhogcedaaAmDrawB
namespace Go.Proofs.Ytnphlonhogcedaa.Am
open Go

section
variable {P : Program} {nt : Nat} {ops : Array Oper} {l : List AStep} {masks : Array Nat} {eff : List Bool}
variable {β0 : Inj} {h0 : H} {w0 : World} {D done : Array Bool} {ids : Nat → Nat} {T : Tm} {h : H} {β : Inj} {w : World} {a : Act} {call : Oracle}

theorem all_on (hp : Plan P nt ops l masks) (hsz : D.size = ops.size) (hr : Region.ready .any ops D = []) : ∀ n i, i < n → i < ops.size → on D i := by
  intro n
  induction n with
  | zero => intro i hi; omega
  | succ n ih =>
    intro i hi hin
    refine Classical.byContradiction fun hoff => ?_
    have : i ∈ Region.ready .any ops D := by
      refine ready_of hsz (Array.getElem?_eq_getElem hin) hoff fun e he hb => ?_
      have := hp.back i ops[i] (Array.getElem?_eq_getElem hin) e he hb
      exact ih e.on (by omega) (by omega)
    rw [hr] at this
    cases this

theorem ready_nil_of (hall : ∀ i, i < ops.size → on done i) : Region.ready .any ops done = [] := by
  refine List.eq_nil_iff_forall_not_mem.2 fun i hi => ?_
  exact ready_off hi (hall i (ready_lt hi))

def unl (D : Array Bool) : Nat := D.toList.count false

theorem unl_set {i : Nat} (hi : i < D.size) (hoff : ¬ on D i) : unl (D.setIfInBounds i true) + 1 = unl D := by
  have h1 : D[i] = false := by
    unfold on at hoff
    simpa [hi] using hoff
  unfold unl
  have h2 : (D.setIfInBounds i true).toList = D.toList.set i true := by simp
  rw [h2]
  have hi' : i < D.toList.length := by simpa using hi
  have h3 : D.toList[i] = false := by simpa using h1
  have e : D.toList = D.toList.take i ++ D.toList[i] :: D.toList.drop (i + 1) := by rw [← List.drop_eq_getElem_cons hi', List.take_append_drop]
  have e2 : D.toList.set i true = D.toList.take i ++ true :: D.toList.drop (i + 1) := List.set_eq_take_append_cons_drop .. |>.trans (by rw [if_pos hi'])
  rw [e2]
  conv => rhs; rw [e]
  rw [h3]
  simp [List.count_append]
  omega

theorem unl_zero (hz : unl D = 0) {i : Nat} (hi : i < D.size) : on D i := by
  unfold unl at hz
  rw [List.count_eq_zero] at hz
  unfold on
  cases h1 : D[i] with
  | true => simp [hi, h1]
  | false =>
    exfalso
    apply hz
    rw [← h1]
    simp

theorem advance (hp : Plan P nt ops l masks) (hag : ∀ (i : Nat) (s : AStep), l[i]? = some s → s.again = []) (heff : ∀ i, i < ops.size → eff.getD i true = effI l masks i) {Tf : Tm} {hf : H} : ∀ (fuel : Nat) (done : Array Bool) (rest : List AStep) (ids : Nat → Nat) (T : Tm) (h : H),
    Inv P nt ops l masks β0 h0 w0 D done ids T h β w a → planGo ops l masks eff fuel done = some rest → stepsA call rest T h = some (Tf, hf) →
    ∃ fuel' done' rest' ids' T' h', Inv P nt ops l masks β0 h0 w0 D done' ids' T' h' β w a ∧ planGo ops l masks eff fuel' done' = some rest' ∧ stepsA call rest' T' h' = some (Tf, hf) ∧ ∀ i ∈ Region.ready .any ops done', effI l masks i = true := by
  intro fuel
  induction fuel with
  | zero =>
    intro done rest ids T h hI hpl hst
    refine ⟨0, done, rest, ids, T, h, hI, hpl, hst, ?_⟩
    unfold planGo at hpl
    split at hpl
    · rename_i h1
      rw [h1]
      simp
    · simp at hpl
  | succ fuel ih =>
    intro done rest ids T h hI hpl hst
    have hpl0 := hpl
    unfold planGo at hpl
    split at hpl
    · rename_i i hfind
      split at hpl
      · rename_i s r hs hrest
        simp only [Option.some.injEq] at hpl
        subst hpl
        have hmem := List.mem_of_find?_eq_some hfind
        have he := List.find?_some hfind
        have hilt := ready_lt hmem
        rw [heff i hilt] at he
        unfold stepsA at hst
        split at hst
        · rename_i T1 h1 hstep
          obtain ⟨ids1, hI1⟩ := hI.go_ahead hp hmem (by simpa using he) hs (hag i s hs) hstep
          exact ih _ r ids1 T1 h1 hI1 hrest hst
        · simp at hst
      · simp at hpl
    · rename_i hfind
      refine ⟨fuel + 1, done, rest, ids, T, h, hI, hpl0, hst, ?_⟩
      intro i hi
      have := List.find?_eq_none.1 hfind i hi
      rw [heff i (ready_lt hi)] at this
      simpa using this

theorem Inv.finish (hI : Inv P nt ops l masks β0 h0 w0 D done ids T h β w a) (hall : ∀ i, i < ops.size → on D i) {fuel : Nat} {rest : List AStep} (hpl : planGo ops l masks eff fuel done = some rest) {Tf : Tm} {hf : H} (hst : stepsA call rest T h = some (Tf, hf)) :
    Rel P β hf w ∧ relA P β w Tf a ∧ Stp β0 h0 w0 β hf w := by
  have hdall : ∀ i, i < ops.size → on done i := fun i hi => hI.sub i (hall i hi)
  have hr := ready_nil_of hdall
  have hrest : rest = [] := by
    cases fuel with
    | zero =>
      unfold planGo at hpl
      rw [if_pos hr] at hpl
      simp at hpl
      first | exact hpl | exact hpl.symm
    | succ fuel =>
      unfold planGo at hpl
      rw [hr] at hpl
      simp at hpl
      first | exact hpl | exact hpl.symm
  subst hrest
  simp only [stepsA, Option.some.injEq, Prod.mk.injEq] at hst
  obtain ⟨rfl, rfl⟩ := hst
  refine ⟨hI.rel, ?_, hI.stp⟩
  obtain ⟨S, hS1, hS2⟩ := hI.shadow
  have : S = T := by
    funext t
    refine hS2 t fun i s hi hiD hs => ?_
    have hilt : i < ops.size := by
      rcases Nat.lt_or_ge i done.size with h' | h'
      · rw [← hI.szd]; exact h'
      · simp [on, Array.getElem?_eq_none h'] at hi
    exact absurd (hall i hilt) hiD
  rw [← this]
  exact hS1

theorem draw_main (hp : Plan P nt ops l masks) (hcall : Sound P call) (hag : ∀ (i : Nat) (s : AStep), l[i]? = some s → s.again = []) (heff : ∀ i, i < ops.size → eff.getD i true = effI l masks i) {Tf : Tm} {hf : H} {Q : Exit → Act → World → Prop}
    (hQ : ∀ β w a, Rel P β hf w → relA P β w Tf a → Stp β0 h0 w0 β hf w → nt ≤ a.tmps.size → a.defers = [] → Q .normal a w) :
    ∀ (fuel : Nat) (D done : Array Bool) (ids : Nat → Nat) (T : Tm) (h : H) (β : Inj) (w : World) (a : Act) (pf : Nat) (rest : List AStep),
    Inv P nt ops l masks β0 h0 w0 D done ids T h β w a → planGo ops l masks eff pf done = some rest → stepsA call rest T h = some (Tf, hf) → (∀ i ∈ Region.ready .any ops done, effI l masks i = true) → unl D ≤ fuel → wpAny P .any ops Q fuel D a w := by
  intro fuel
  induction fuel with
  | zero =>
    intro D done ids T h β w a pf rest hI hpl hst _ hu
    have hall : ∀ i, i < ops.size → on D i := fun i hi => unl_zero (by omega) (by rw [hI.szD]; exact hi)
    obtain ⟨h1, h2, h3⟩ := hI.finish hall hpl hst
    exact ⟨ready_nil_of hall, hQ _ _ _ h1 h2 h3 hI.size hI.defers⟩
  | succ fuel ih =>
    intro D done ids T h β w a pf rest hI hpl hst hset hu
    refine ⟨fun hr => ?_, fun i hr => ?_⟩
    · obtain ⟨h1, h2, h3⟩ := hI.finish (fun i hi => all_on hp hI.szD hr _ i (Nat.lt_succ_self _) hi) hpl hst
      exact hQ _ _ _ h1 h2 h3 hI.size hI.defers
    · have hilt := ready_lt hr
      have hu1 : unl (D.setIfInBounds i true) ≤ fuel := by
        have := unl_set (D := D) (by rw [hI.szD]; exact hilt) (ready_off hr)
        omega
      by_cases hdn : on done i
      · exact hI.catch_up hp hr hdn fun β1 w1 a1 hI1 => ih _ _ _ _ _ _ _ _ pf rest hI1 hpl hst hset hu1
      · have hrd : i ∈ Region.ready .any ops done := by
          obtain ⟨_, o, ho, hall⟩ := mem_ready.1 hr
          exact ready_of hI.szd ho hdn fun e he hb => hI.sub _ (hall e he hb)
        cases pf with
        | zero =>
          unfold planGo at hpl
          split at hpl
          · rename_i h1
            rw [h1] at hrd
            cases hrd
          · simp at hpl
        | succ pf =>
          have hnone : (Region.ready .any ops done).find? (fun i => !eff.getD i true) = none := by
            refine List.find?_eq_none.2 fun j hj => ?_
            rw [heff j (ready_lt hj), hset j hj]
            simp
          unfold planGo at hpl
          rw [hnone] at hpl
          simp only at hpl
          split at hpl
          · rename_i h1
            rw [h1] at hrd
            cases hrd
          · rename_i k h1
            have hk : i = k := by
              rw [h1] at hrd
              simpa using hrd
            subst hk
            split at hpl
            · rename_i s r hs hrest
              simp only [Option.some.injEq] at hpl
              subst hpl
              unfold stepsA at hst
              split at hst
              · rename_i T1 h1 hstep
                refine hI.effect hp hcall hr hrd hs hstep fun β1 w1 a1 hI1 => ?_
                obtain ⟨pf', done', rest', ids', T', h', g1, g2, g3, g4⟩ := advance hp hag heff pf _ r ids T1 h1 hI1 hrest hst
                exact ih _ _ _ _ _ _ _ _ pf' rest' g1 g2 g3 g4 hu1
              · simp at hst
            · simp at hpl
          · simp at hpl

theorem compSteps_again {ol : List Oper} : ∀ {l : List AStep}, compSteps P nt ops ol = some l → ∀ (i : Nat) (s : AStep), l[i]? = some s → s.again = [] := by
  induction ol with
  | nil =>
    intro l hl i s hs
    simp [compSteps] at hl
    subst hl
    simp at hs
  | cons o ol ih =>
    intro l hl i s hs
    unfold compSteps at hl
    split at hl
    · rename_i s0 l0 h1 h2
      simp at hl
      subst hl
      cases i with
      | zero =>
        simp at hs
        subst hs
        unfold compStep at h1
        split at h1
        · split at h1
          · simp at h1
            rw [← h1]
          · simp at h1
        · simp at h1
      | succ i => exact ih h2 i s (by simpa using hs)
    · simp at hl

theorem draw_region (hm : P.follows .mixedOrders = true) (hcall : Sound P call) {id : Nat} {l' : List AStep} {Tf : Tm} {hf : H} {Q : Exit → Act → World → Prop} (hl : compSteps P nt ops ops.toList = some l) (hpl : plan ops l = some l')
    (hst : stepsA call l' T h = some (Tf, hf)) (hR : Rel P β h w) (hA : relA P β w T a) (hn : nt ≤ a.tmps.size) (hd : a.defers = [])
    (hQ : ∀ β1 w1 a1, Rel P β1 hf w1 → relA P β1 w1 Tf a1 → Stp β h w β1 hf w1 → nt ≤ a1.tmps.size → a1.defers = [] → Q .normal a1 w1) : (Code.region id ops true).wp P Q a w := by
  refine wp_region_any hm ?_
  unfold plan at hpl
  split at hpl
  · rename_i hok
    have hp := plan_of hl hok
    have hoff : ∀ i, ¬ on (Array.replicate ops.size false) i := by
      intro i
      unfold on
      by_cases h1 : i < ops.size <;> simp [h1]
    have hI : Inv P nt ops l (Region.before ops) β h w (Array.replicate ops.size false) (Array.replicate ops.size false) (fun _ => 0) T h β { w with drawn := w.drawn + 1 } a := by
      refine ⟨by simp, by simp, fun j o _ h1 => absurd h1 (hoff j), fun j o _ h1 => absurd h1 (hoff j), fun j h1 => h1, fun j _ h1 => absurd h1 (hoff j), hR.drew, Stp.drew hR, ⟨T, hA.mono (Ext.refl β) (fun _ _ h => h), fun _ _ => rfl⟩, fun j s h1 => absurd h1 (hoff j), fun j _ _ _ h1 => absurd h1 (hoff j), hn, hd⟩
    have heff : ∀ i, i < ops.size → ((List.range l.length).map (effI l (Region.before ops))).getD i true = effI l (Region.before ops) i := by
      intro i hi
      rw [← hp.len] at hi
      simp [List.getD, hi]
    obtain ⟨pf', done', rest', ids', T', h', g1, g2, g3, g4⟩ := advance hp (compSteps_again hl) heff _ _ _ _ _ _ hI hpl hst
    refine draw_main hp hcall (compSteps_again hl) heff hQ _ _ _ _ _ _ _ _ _ _ _ g1 g2 g3 g4 ?_
    unfold unl
    simp
  · simp at hpl
end
end Go.Proofs.Ytnphlonhogcedaa.Am
