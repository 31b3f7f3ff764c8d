/- The abstract machine: calls against the model's, and every operation together. -/
import Derived.Test.YtnphlonhogcedaaAmApp
namespace Go.Proofs.Ytnphlonhogcedaa.Am
open Go

section
variable {P : Program} {β : Inj} {w : World} {T : Tm} {a : Act} {h h' : H} {v : AV}

theorem run_callFuncA {f : Nat} {fn : Func} (args : Array Value) (h1 : P.funcs[f]? = some fn) (h2 : (fn.name == "runtime.NumGoroutine") = false) (h3 : fn.body.isNone = false) :
    (callFunc f args).run P w = .ok (.enter f args) w := by
  unfold callFunc
  have h4 : fn.name ≠ "runtime.NumGoroutine" := by simpa using h2
  have h5 : fn.body ≠ none := fun e => by rw [e] at h3; simp at h3
  simp [program, Sem.run, h1, h4, h5]

theorem opnds_rel : ∀ {xs : List Operand} {as : List AX}, relO P β w T a.eval → opnds xs = some as → relVs P β w (as.map (·.ev T)) (xs.map a.eval)
  | [], as, _, h => by
    simp [opnds] at h
    subst h
    trivial
  | x :: xs, as, hO, h => by
    unfold opnds at h
    split at h
    · rename_i b l h1 h2
      simp at h
      subst h
      exact ⟨hO x b h1, opnds_rel hO h2⟩
    · simp at h

theorem relVs.append : ∀ {l l' : List AV} {vs vs' : List Value}, relVs P β w l vs → relVs P β w l' vs' → relVs P β w (l ++ l') (vs ++ vs')
  | [], _, [], _, _, h => by simpa using h
  | _ :: _, _, _ :: _, _, ⟨h1, h2⟩, h => ⟨h1, relVs.append h2 h⟩
  | [], _, _ :: _, _, h, _ => h.elim
  | _ :: _, _, [], _, h, _ => h.elim
theorem capsR.vs : ∀ {l : List (Nat × Nat)} {vs : List Value}, capsR β l vs → relVs P β w (l.map fun a => .one (.ptr (some a))) vs
  | [], [], _ => trivial
  | _ :: _, _ :: _, ⟨h1, h2⟩ => ⟨h1, capsR.vs h2⟩
  | [], _ :: _, h => h.elim
  | _ :: _, [], h => h.elim

theorem opOk_enter {call : Oracle} (hcall : Sound P call) {op : Op} {f : Nat} {args : List AV} {vs : List Value} (hR : Rel P β h w) (hv : call f args h = some (v, h')) (hvs : relVs P β w args vs)
    (hr : ∀ o : Oper, o.op = op → (execOp a.eval o).run P w = (callFunc f vs.toArray).run P w) : OpOk P β h w a op v h' := by
  obtain ⟨⟨fn, h1, h2, h3⟩, h4⟩ := hcall f args h v h' hv
  intro o K Q ho hK
  unfold Oper.wp
  rw [hr o ho, run_callFuncA _ h1 h2 h3]
  refine (h4 β w vs hR hvs).mono ?_
  rintro e w' ⟨u, β', rfl, g1, g2, g3⟩
  exact hK β' w' u g1 g2 g3

theorem opOk_call {call : Oracle} (hcall : Sound P call) {c : Call} {f : Nat} {as : List AX} (hR : Rel P β h w) (hA : relA P β w T a) (hc : c.callee = .value (.func f)) (ha : opnds c.args.toList = some as)
    (hv : call f (as.map (·.ev T)) h = some (v, h')) : OpOk P β h w a (.call c) v h' := by
  refine opOk_enter hcall hR hv (opnds_rel hA.opnd ha) (fun o ho => ?_)
  have e : (c.args.toList.map a.eval).toArray = c.args.map a.eval := by rw [← Array.toList_map, Array.toArray_toList]
  rw [e]
  have e2 : a.eval (.func f) = .func (.func f) #[] #[] := rfl
  simp only [execOp, ho, resolve, hc, e2, Deferred.ofValue, Sem.run_bind]
  simp [invoke]

theorem opOk_callv {call : Oracle} (hcall : Sound P call) {c : Call} {x : Operand} {ax : AX} {f : Nat} {caps : List (Nat × Nat)} {as : List AX} (hR : Rel P β h w) (hA : relA P β w T a) (hc : c.callee = .value x) (hx : opnd x = some ax) (ha : opnds c.args.toList = some as)
    (hev : ax.ev T = .one (.fn f caps)) (hv : call f (as.map (·.ev T) ++ caps.map fun a => .one (.ptr (some a))) h = some (v, h')) : OpOk P β h w a (.call c) v h' := by
  have hr := hA.opnd x ax hx
  rw [hev] at hr
  obtain ⟨cv, h1, h2⟩ := hr
  refine opOk_enter hcall hR hv ((opnds_rel hA.opnd ha).append h2.vs) (fun o ho => ?_)
  have e : (c.args.toList.map a.eval ++ cv.toList).toArray = c.args.map a.eval ++ cv := by simp
  rw [e]
  simp only [execOp, ho, resolve, hc, h1, Deferred.ofValue, Sem.run_bind]
  simp [invoke]

def heavy : AOp → Bool
  | .alloc .. | .box .. | .buildSlice .. | .mkslice .. | .store .. | .append .. | .appz .. | .call .. | .callv .. => true
  | _ => false
theorem opA_pure {call : Oracle} {ao : AOp} (hv : opA call ao T h = some (v, h')) : (pureA ao T h = some v ∧ h' = h) ∨ heavy ao = true := by
  cases ao <;> simp only [opA] at hv <;> first
    | exact .inr rfl
    | (left
       obtain ⟨u, h1, h2⟩ := Option.map_eq_some_iff.1 hv
       simp only [Prod.mk.injEq] at h2
       exact ⟨by rw [h1, h2.1], h2.2.symm⟩)

theorem op_sound {call : Oracle} (hcall : Sound P call) {op : Op} {ao : AOp} (hR : Rel P β h w) (hA : relA P β w T a) (hc : compOp P op = some ao) (hv : opA call ao T h = some (v, h')) : OpOk P β h w a op v h' := by
  rcases opA_pure hv with ⟨h1, rfl⟩ | hkk
  · exact opOk_pure hR hA hc h1
  cases op with
  | alloc e =>
    simp only [compOp] at hc
    obtain ⟨z, hz, rfl⟩ := Option.map_eq_some_iff.1 hc
    simp only [opA, Option.some.injEq, Prod.mk.injEq] at hv
    obtain ⟨rfl, rfl⟩ := hv
    exact (laid_alloc hz).opOk hR
  | box e x =>
    simp only [compOp] at hc
    obtain ⟨ax, hx, rfl⟩ := Option.map_eq_some_iff.1 hc
    simp only [opA] at hv
    split at hv
    · rename_i cs hcs
      simp only [Option.some.injEq, Prod.mk.injEq] at hv
      obtain ⟨rfl, rfl⟩ := hv
      exact (laid_box hA hx hcs).opOk hR
    · simp at hv
  | buildSlice t len ps =>
    simp only [compOp] at hc
    split at hc
    · rename_i e ht
      split at hc
      · rename_i k z hk hz
        split at hc
        · rename_i hcond
          obtain ⟨aps, hp, rfl⟩ := Option.map_eq_some_iff.1 hc
          simp only [opA] at hv
          split at hv
          · rename_i cs hf
            simp only [Option.some.injEq, Prod.mk.injEq] at hv
            obtain ⟨rfl, rfl⟩ := hv
            exact (laid_buildSlice hA ht hk hz hcond.1 hcond.2.1 hcond.2.2.1 hcond.2.2.2 hp hf).opOk hR
          · simp at hv
        · simp at hc
      · simp at hc
    · simp at hc
  | makeSlice t l c =>
    simp only [compOp] at hc
    split at hc
    · rename_i e ht
      split at hc
      · rename_i k b z al ac hk hb hz hl hcc
        split at hc
        · rename_i hcond
          simp at hc
          subst hc
          simp only [opA] at hv
          split at hv
          · rename_i ln cn e1 e2
            split at hv
            · rename_i hb2
              simp only [Option.some.injEq, Prod.mk.injEq] at hv
              obtain ⟨rfl, rfl⟩ := hv
              exact (laid_mkslice hA ht hk hb hz hcond.2.1 hcond.2.2 hl hcc e1 e2 hb2.1 hb2.2.1 hb2.2.2.1 hb2.2.2.2).opOk hR
            · simp at hv
          · simp at hv
        · simp at hc
      · simp at hc
    · simp at hc
  | store t x y =>
    simp only [compOp] at hc
    split at hc
    · rename_i ax ay k hx hy hk
      simp at hc
      subst hc
      simp only [opA] at hv
      split at hv
      · rename_i p cs e1 e2
        split at hv
        · rename_i hl
          obtain ⟨h2, hs, he⟩ := Option.map_eq_some_iff.1 hv
          simp only [Prod.mk.injEq] at he
          obtain ⟨rfl, rfl⟩ := he
          exact opOk_store hR hA hk hx hy e1 e2 hl hs
        · simp at hv
      · simp at hv
    · simp at hc
  | call c =>
    simp only [compOp, compCall] at hc
    split at hc
    · rename_i f hf
      obtain ⟨as, ha, rfl⟩ := Option.map_eq_some_iff.1 hc
      exact opOk_call hcall hR hA hf ha hv
    · rename_i x _ hx
      split at hc
      · rename_i ax as h1 h2
        simp at hc
        subst hc
        simp only [opA] at hv
        split at hv
        · rename_i f caps hev
          exact opOk_callv hcall hR hA hx h1 h2 hev hv
        · simp at hv
      · simp at hc
    · simp at hc
    · rename_i b hb
      split at hc
      · rename_i s x ha
        split at hc
        · rename_i ts tx as ax e1 e2 hs hx
          split at hc
          · rename_i e ht
            split at hc
            · rename_i htt
              subst htt
              split at hc
              · rename_i k bb z hk hbb hz
                split at hc
                · rename_i hcond
                  simp at hc
                  subst hc
                  exact opOk_append hR hA hb ha e1 e2 hs hx ht hk hbb hz hcond.1 hcond.2.1 hcond.2.2.1 hcond.2.2.2 hv
                · simp at hc
              · simp at hc
            · obtain ⟨hi, k, bb, z, hk, hbb, hz, hcond, rfl⟩ := compAppz_spec hc
              exact opOk_appz hR hA hb ha e1 e2 hs hx ht hi hk hbb hz hcond.1 hcond.2.1 hcond.2.2.1 hcond.2.2.2 hv
          · simp at hc
        · simp at hc
      · split at hc
        · split at hc
          · simp at hc; subst hc; cases hkk
          · simp at hc; subst hc; cases hkk
          · simp at hc
        · simp at hc
      · split at hc
        · split at hc
          · simp at hc; subst hc; cases hkk
          · simp at hc
        · simp at hc
      · split at hc
        · simp at hc; subst hc; cases hkk
        · simp at hc
      · simp at hc
  | move x | assign x | nilCheck x | extract x i =>
    simp only [compOp] at hc
    obtain ⟨_, _, rfl⟩ := Option.map_eq_some_iff.1 hc
    cases hkk
  | pick c x y =>
    simp only [compOp] at hc
    split at hc
    · simp at hc; subst hc; cases hkk
    · simp at hc
  | build t ps =>
    simp only [compOp] at hc
    split at hc
    · split at hc
      · obtain ⟨_, _, rfl⟩ := Option.map_eq_some_iff.1 hc
        cases hkk
      · simp at hc
    · simp at hc
  | load t x =>
    simp only [compOp] at hc
    split at hc
    · simp at hc; subst hc; cases hkk
    · simp at hc; subst hc; cases hkk
    · simp at hc
  | binOp op t x y u =>
    simp only [compOp] at hc
    split at hc
    · unfold compBin at hc
      split at hc
      · cases op <;> simp at hc <;> subst hc <;> cases hkk
      · simp at hc; subst hc; cases hkk
      · simp at hc; subst hc; cases hkk
      · cases op <;> simp at hc <;> subst hc <;> cases hkk
      · split at hc
        · split at hc
          · cases op <;> simp at hc <;> subst hc <;> cases hkk
          · simp at hc
        · simp at hc
      · simp at hc
    · simp at hc
  | unOp op t x =>
    cases op <;> simp only [compOp, reduceCtorEq] at hc
    obtain ⟨_, _, rfl⟩ := Option.map_eq_some_iff.1 hc
    cases hkk
  | convert s d x =>
    simp only [compOp] at hc
    split at hc
    · simp at hc; subst hc; cases hkk
    · split at hc
      · simp at hc; subst hc; cases hkk
      · simp at hc
    · simp at hc
  | makeFunc fn first caps =>
    cases fn <;> simp only [compOp, reduceCtorEq] at hc
    split at hc
    · obtain ⟨_, _, rfl⟩ := Option.map_eq_some_iff.1 hc
      cases hkk
    · simp at hc
  | slice t x lo hi mx =>
    simp only [compOp] at hc
    split at hc
    · split at hc
      · split at hc
        · simp at hc; subst hc; cases hkk
        · simp at hc
      · simp at hc
    · simp at hc; subst hc; cases hkk
    · simp at hc
  | fieldAddr s x f =>
    simp only [compOp] at hc
    split at hc
    · split at hc
      · split at hc
        · split at hc
          · simp at hc
          · simp at hc; subst hc; cases hkk
        · simp at hc
      · simp at hc
    · simp at hc
  | field s x f =>
    simp only [compOp] at hc
    split at hc
    · split at hc
      · split at hc
        · simp at hc; subst hc; cases hkk
        · simp at hc; subst hc; cases hkk
        · simp at hc
      · simp at hc
    · simp at hc
  | indexAddr t x i =>
    simp only [compOp] at hc
    split at hc
    · obtain ⟨_, _, rfl⟩ := Option.map_eq_some_iff.1 hc
      cases hkk
    · simp at hc
  | index t x i =>
    simp only [compOp] at hc
    split at hc
    · simp at hc; subst hc; cases hkk
    · simp at hc
  | _ => simp [compOp] at hc
end
end Go.Proofs.Ytnphlonhogcedaa.Am
