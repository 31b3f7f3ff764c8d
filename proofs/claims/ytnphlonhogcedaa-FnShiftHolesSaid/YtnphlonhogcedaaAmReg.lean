/- The abstract machine: one step of a region and a region in the order of its text, against the model's. -/
import Derived.Test.YtnphlonhogcedaaAmOps
namespace Go.Proofs.Ytnphlonhogcedaa.Am
open Go

/-- What lays one block: its cells, its type, and the value that names it. -/
def laidA (o : AOp) (T : Tm) : Option (List CV × Nat × (Nat → AV)) :=
  match o with
  | .alloc ty z => some (z, ty, fun i => .one (.ptr (some (i, 0))))
  | .box ty x => match (x.ev T).cells with | some cs => some (cs, ty, fun i => .one (.ptr (some (i, 0)))) | none => none
  | .buildSlice ty len z parts =>
    match fillA (repl z len) (parts.map fun p => (p.1, p.2.1, p.2.2.ev T)) with
    | some cs => some (cs, ty, fun i => .one (.sl (some (i, 0)) len (some len)))
    | none => none
  | .mkslice ty bytes z l c =>
    match l.ev T, c.ev T with
    | .one (.int .i64 l), .one (.int .i64 c) =>
      if 0 ≤ l ∧ l ≤ c ∧ c * bytes ≤ 140737488355328 ∧ c ≤ 9223372036854775807 then some (repl z c.toNat, ty, fun i => .one (.sl (some (i, 0)) l.toNat (some c.toNat))) else none
    | _, _ => none
  | _ => none

section
variable {P : Program} {β : Inj} {w : World} {T : Tm} {a : Act} {h h' : H} {v : AV}

/-- An operation that is kept beside nothing is without effect on the heap, or lays one block. -/
theorem opA_light {call : Oracle} {ao : AOp} (he : effA ao = false) (hv : opA call ao T h = some (v, h')) :
    (pureA ao T h = some v ∧ h' = h) ∨ ∃ cs ty mk, laidA ao T = some (cs, ty, mk) ∧ v = mk h.n ∧ h' = h.alloc cs ty := by
  cases ao <;> simp only [effA, reduceCtorEq] at he <;> simp only [opA] at hv <;> first
    | (left
       obtain ⟨u, h1, h2⟩ := Option.map_eq_some_iff.1 hv
       simp only [Prod.mk.injEq] at h2
       exact ⟨by rw [h1, h2.1], h2.2.symm⟩)
    | (right
       simp only [Option.some.injEq, Prod.mk.injEq] at hv
       exact ⟨_, _, _, rfl, hv.1.symm, hv.2.symm⟩)
    | skip
  · right
    split at hv
    · rename_i cs hcs
      simp only [Option.some.injEq, Prod.mk.injEq] at hv
      exact ⟨_, _, _, by simp only [laidA, hcs]; rfl, hv.1.symm, hv.2.symm⟩
    · simp at hv
  · right
    split at hv
    · rename_i cs hcs
      simp only [Option.some.injEq, Prod.mk.injEq] at hv
      exact ⟨_, _, _, by simp only [laidA, hcs]; rfl, hv.1.symm, hv.2.symm⟩
    · simp at hv
  · right
    split at hv
    · rename_i l c e1 e2
      split at hv
      · rename_i hcond
        simp only [Option.some.injEq, Prod.mk.injEq] at hv
        exact ⟨_, _, _, by simp only [laidA, e1, e2, if_pos hcond]; rfl, hv.1.symm, hv.2.symm⟩
      · simp at hv
    · simp at hv

theorem laid_sound {op : Op} {ao : AOp} {cs : List CV} {ty : Nat} {mk : Nat → AV} (hA : relA P β w T a) (hc : compOp P op = some ao) (hv : laidA ao T = some (cs, ty, mk)) : LaidOk P β w a op cs ty mk := by
  cases op with
  | alloc e =>
    simp only [compOp] at hc
    obtain ⟨z, hz, rfl⟩ := Option.map_eq_some_iff.1 hc
    simp only [laidA, Option.some.injEq, Prod.mk.injEq] at hv
    obtain ⟨rfl, rfl, rfl⟩ := hv
    exact laid_alloc hz
  | box e x =>
    simp only [compOp] at hc
    obtain ⟨ax, hx, rfl⟩ := Option.map_eq_some_iff.1 hc
    simp only [laidA] at hv
    split at hv
    · rename_i cs' hcs
      simp only [Option.some.injEq, Prod.mk.injEq] at hv
      obtain ⟨rfl, rfl, rfl⟩ := hv
      exact laid_box hA hx hcs
    · simp at hv
  | buildSlice t len ps =>
    simp only [compOp] at hc
    split at hc
    · rename_i e ht
      split at hc
      · rename_i k z hk hz
        split at hc
        · rename_i hcond
          obtain ⟨aps, hp, rfl⟩ := Option.map_eq_some_iff.1 hc
          simp only [laidA] at hv
          split at hv
          · rename_i cs' hf
            simp only [Option.some.injEq, Prod.mk.injEq] at hv
            obtain ⟨rfl, rfl, rfl⟩ := hv
            exact laid_buildSlice hA ht hk hz hcond.1 hcond.2.1 hcond.2.2.1 hcond.2.2.2 hp hf
          · simp at hv
        · simp at hc
      · simp at hc
    · simp at hc
  | makeSlice t l c =>
    simp only [compOp] at hc
    split at hc
    · rename_i e ht
      split at hc
      · rename_i k b z al ac hk hb hz hl hcc
        split at hc
        · rename_i hcond
          simp at hc
          subst hc
          simp only [laidA] at hv
          split at hv
          · rename_i ln cn e1 e2
            split at hv
            · rename_i hb2
              simp only [Option.some.injEq, Prod.mk.injEq] at hv
              obtain ⟨rfl, rfl, rfl⟩ := hv
              exact laid_mkslice hA ht hk hb hz hcond.2.1 hcond.2.2 hl hcc e1 e2 hb2.1 hb2.2.1 hb2.2.2.1 hb2.2.2.2
            · simp at hv
          · simp at hv
        · simp at hc
      · simp at hc
    · simp at hc
  | move x | assign x | nilCheck x | extract x i =>
    simp only [compOp] at hc
    obtain ⟨_, _, rfl⟩ := Option.map_eq_some_iff.1 hc
    simp [laidA] at hv
  | pick c x y =>
    simp only [compOp] at hc
    split at hc
    · simp at hc; subst hc; simp [laidA] at hv
    · simp at hc
  | build t ps =>
    simp only [compOp] at hc
    split at hc
    · split at hc
      · obtain ⟨_, _, rfl⟩ := Option.map_eq_some_iff.1 hc
        simp [laidA] at hv
      · simp at hc
    · simp at hc
  | load t x =>
    simp only [compOp] at hc
    split at hc
    · simp at hc; subst hc; simp [laidA] at hv
    · simp at hc; subst hc; simp [laidA] at hv
    · simp at hc
  | store t x y =>
    simp only [compOp] at hc
    split at hc
    · simp at hc; subst hc; simp [laidA] at hv
    · simp at hc
  | binOp op t x y u =>
    simp only [compOp] at hc
    split at hc
    · unfold compBin at hc
      split at hc
      · cases op <;> simp at hc <;> subst hc <;> simp [laidA] at hv
      · simp at hc; subst hc; simp [laidA] at hv
      · simp at hc; subst hc; simp [laidA] at hv
      · cases op <;> simp at hc <;> subst hc <;> simp [laidA] at hv
      · split at hc
        · split at hc
          · cases op <;> simp at hc <;> subst hc <;> simp [laidA] at hv
          · simp at hc
        · simp at hc
      · simp at hc
    · simp at hc
  | unOp op t x =>
    cases op <;> simp only [compOp, reduceCtorEq] at hc
    obtain ⟨_, _, rfl⟩ := Option.map_eq_some_iff.1 hc
    simp [laidA] at hv
  | convert s d x =>
    simp only [compOp] at hc
    split at hc
    · simp at hc; subst hc; simp [laidA] at hv
    · split at hc
      · simp at hc; subst hc; simp [laidA] at hv
      · simp at hc
    · simp at hc
  | makeFunc fn first caps =>
    cases fn <;> simp only [compOp, reduceCtorEq] at hc
    split at hc
    · obtain ⟨_, _, rfl⟩ := Option.map_eq_some_iff.1 hc
      simp [laidA] at hv
    · simp at hc
  | slice t x lo hi mx =>
    simp only [compOp] at hc
    split at hc
    · split at hc
      · split at hc
        · simp at hc; subst hc; simp [laidA] at hv
        · simp at hc
      · simp at hc
    · simp at hc; subst hc; simp [laidA] at hv
    · simp at hc
  | fieldAddr s x f =>
    simp only [compOp] at hc
    split at hc
    · split at hc
      · split at hc
        · split at hc
          · simp at hc
          · simp at hc; subst hc; simp [laidA] at hv
        · simp at hc
      · simp at hc
    · simp at hc
  | field s x f =>
    simp only [compOp] at hc
    split at hc
    · split at hc
      · split at hc
        · simp at hc; subst hc; simp [laidA] at hv
        · simp at hc; subst hc; simp [laidA] at hv
        · simp at hc
      · simp at hc
    · simp at hc
  | indexAddr t x i =>
    simp only [compOp] at hc
    split at hc
    · obtain ⟨_, _, rfl⟩ := Option.map_eq_some_iff.1 hc
      simp [laidA] at hv
    · simp at hc
  | index t x i =>
    simp only [compOp] at hc
    split at hc
    · simp at hc; subst hc; simp [laidA] at hv
    · simp at hc
  | call c =>
    simp only [compOp, compCall] at hc
    split at hc
    · obtain ⟨_, _, rfl⟩ := Option.map_eq_some_iff.1 hc
      simp [laidA] at hv
    · split at hc
      · simp at hc; subst hc; simp [laidA] at hv
      · simp at hc
    · simp at hc
    · split at hc
      · split at hc
        · split at hc
          · split at hc
            · split at hc
              · split at hc
                · simp at hc; subst hc; simp [laidA] at hv
                · simp at hc
              · simp at hc
            · obtain ⟨_, _, _, _, _, _, _, _, rfl⟩ := compAppz_spec hc
              simp [laidA] at hv
          · simp at hc
        · simp at hc
      · split at hc
        · split at hc
          · simp at hc; subst hc; simp [laidA] at hv
          · simp at hc; subst hc; simp [laidA] at hv
          · simp at hc
        · simp at hc
      · split at hc
        · split at hc
          · simp at hc; subst hc; simp [laidA] at hv
          · simp at hc
        · simp at hc
      · split at hc
        · simp at hc; subst hc; simp [laidA] at hv
        · simp at hc
      · simp at hc
  | _ => simp [compOp] at hc

/-! ### a step -/
theorem relV_bool {x : AV} {b : Bool} (hr : relV P β w x (.bool b)) : x = .one (.bool b) := by
  cases x with
  | one c =>
    cases c with
    | sl p n k =>
      cases p with
      | none => obtain ⟨_, _, h3⟩ := hr; cases h3
      | some p => obtain ⟨_, _, h1, _⟩ := hr; cases h1
    | ptr p =>
      cases p with
      | none => cases (show Value.bool b = _ from hr)
      | some p => obtain ⟨_, h1, _⟩ := hr; cases h1
    | fn f caps => obtain ⟨_, h1, _⟩ := hr; cases h1
    | bool c => cases (show Value.bool b = .bool c from hr); rfl
    | int k n => cases (show Value.bool b = .int k n from hr)
    | str s => cases (show Value.bool b = .string s from hr)
    | nilf => cases (show Value.bool b = .nilFunc from hr)
  | agg cs => obtain ⟨_, h1, _⟩ := hr; cases h1
  | tup l => obtain ⟨_, h1, _⟩ := hr; cases h1

theorem wanted_eq {ops : Array Oper} {o : Oper} {g : Option (Nat × Bool)} (hg : guardOf ops o.guard = some g) (hA : relA P β w T a) : Region.wanted o (yielded ops a.tmps) = wantA g T := by
  unfold guardOf at hg
  unfold Region.wanted
  split at hg
  · rename_i hn
    simp at hg
    subst hg
    rw [hn]
    rfl
  · rename_i j b hn
    rw [hn]
    split at hg
    · rename_i t ht
      simp at hg
      subst hg
      simp only [wantA]
      have hr := hA t
      unfold yielded
      rw [ht]
      simp only [Option.bind_some]
      cases hT : T t with
      | one c =>
        rw [hT] at hr
        cases c with
        | bool c =>
          have hr : a.tmps.getD t undef = .bool c := hr
          have : a.tmps[t]? = some (.bool c) := by
            cases h1 : a.tmps[t]? with
            | none => simp [h1, undef] at hr
            | some u => simp [h1] at hr; rw [hr]
          rw [this]
          simp
        | _ =>
          simp only
          split
          · rename_i b' hb'
            have h2 : a.tmps.getD t undef = .bool b' := by simp [hb']
            rw [h2] at hr
            have := relV_bool hr
            simp at this
          · simp
      | _ =>
        rw [hT] at hr
        simp only
        split
        · rename_i b' hb'
          have h2 : a.tmps.getD t undef = .bool b' := by simp [hb']
          rw [h2] at hr
          have := relV_bool hr
          simp at this
        · simp
    · simp at hg

/-- What holds at a point of a function's run. -/
structure Ok (P : Program) (nt : Nat) (β : Inj) (h : H) (w : World) (T : Tm) (a : Act) : Prop where
  rel : Rel P β h w
  act : relA P β w T a
  size : nt ≤ a.tmps.size
  defers : a.defers = []

theorem relA_put {d : Option Nat} {u : Value} (hA : relA P β w T a) (hv : relV P β w v u) (hd : ∀ t, d = some t → t < a.tmps.size) : relA P β w (T.put d v) (a.put d u) := by
  cases d with
  | none => exact hA
  | some d =>
    intro t
    simp only [Tm.put, Act.put]
    by_cases ht : t = d
    · subst ht
      rw [if_pos rfl]
      have := hd t rfl
      simpa [this] using hv
    · rw [if_neg ht]
      have := hA t
      simpa [Array.getElem?_setIfInBounds_ne (Ne.symm ht)] using this
theorem put_size {d : Option Nat} {u : Value} : (a.put d u).tmps.size = a.tmps.size := by
  cases d <;> simp [Act.put]
theorem put_defers {d : Option Nat} {u : Value} : (a.put d u).defers = a.defers := by
  cases d <;> simp [Act.put]

theorem compStep_spec {nt : Nat} {ops : Array Oper} {o : Oper} {s : AStep} (hc : compStep P nt ops o = some s) :
    compOp P o.op = some s.op ∧ guardOf ops o.guard = some s.guard ∧ s.dst = o.dst ∧ s.again = [] ∧ ∀ t, o.dst = some t → t < nt := by
  unfold compStep at hc
  split at hc
  · rename_i op g h1 h2
    split at hc
    · rename_i h3
      simp at hc
      subst hc
      refine ⟨h1, h2, rfl, rfl, ?_⟩
      intro t ht
      rw [ht] at h3
      simpa [dstOk] using h3
    · simp at hc
  · simp at hc

theorem steps_sound {call : Oracle} (hcall : Sound P call) {nt : Nat} {ops : Array Oper} : ∀ {l : List Oper} {as : List AStep} {T : Tm} {h : H} {T' : Tm} {h' : H}, compSteps P nt ops l = some as → stepsA call as T h = some (T', h') →
    ∀ {β : Inj} {w : World} {a : Act}, Ok P nt β h w T a → ∀ {Q : Exit → Act → World → Prop},
      (∀ β' w' a', Ok P nt β' h' w' T' a' → Stp β h w β' h' w' → Q .normal a' w') → wpList P ops Q l a w
  | [], as, T, h, T', h', hc, hs, β, w, a, hO, Q, hQ => by
    simp [compSteps] at hc
    subst hc
    simp [stepsA] at hs
    obtain ⟨rfl, rfl⟩ := hs
    exact hQ β w a hO (Stp.refl β h w hO.rel.dom)
  | o :: l, as, T, h, T', h', hc, hs, β, w, a, hO, Q, hQ => by
    unfold compSteps at hc
    split at hc
    · rename_i s as' h1 h2
      simp at hc
      subst hc
      obtain ⟨c1, c2, c3, c4, c5⟩ := compStep_spec h1
      unfold stepsA at hs
      split at hs
      · rename_i T1 hh1 hst
        unfold stepA at hst
        unfold wpList
        rw [wanted_eq c2 hO.act]
        split at hst
        · rename_i hw
          rw [if_pos hw]
          split at hst
          · rename_i v hv1 hop
            rw [c4] at hst
            simp only [List.all_nil, if_true, Option.some.injEq, Prod.mk.injEq] at hst
            obtain ⟨rfl, rfl⟩ := hst
            left
            refine op_sound hcall hO.rel hO.act c1 hop o _ Q rfl ?_
            intro β' w' u g1 g2 g3
            have hd : ∀ t, o.dst = some t → t < a.tmps.size := fun t ht => Nat.lt_of_lt_of_le (c5 t ht) hO.size
            refine steps_sound hcall h2 hs (β := β') (w := w') ⟨g2, ?_, by rw [put_size]; exact hO.size, by rw [put_defers]; exact hO.defers⟩ ?_
            · rw [c3]
              exact relA_put (hO.act.mono g3.ext g3.shapes) g1 hd
            · intro β2 w2 a2 k1 k2
              exact hQ β2 w2 a2 k1 (g3.trans k2)
          · simp at hst
        · rename_i hw
          rw [if_neg hw]
          simp only [Option.some.injEq, Prod.mk.injEq] at hst
          obtain ⟨rfl, rfl⟩ := hst
          have hd : ∀ t, o.dst = some t → t < a.tmps.size := fun t ht => Nat.lt_of_lt_of_le (c5 t ht) hO.size
          refine steps_sound hcall h2 hs (β := β) (w := w) ⟨hO.rel, ?_, by rw [put_size]; exact hO.size, by rw [put_defers]; exact hO.defers⟩ hQ
          rw [c3]
          exact relA_put hO.act ⟨#[], rfl, trivial⟩ hd
      · simp at hs
    · simp at hc
end
end Go.Proofs.Ytnphlonhogcedaa.Am
