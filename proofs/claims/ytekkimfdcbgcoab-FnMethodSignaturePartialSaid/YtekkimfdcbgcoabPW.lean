/- Plain facts: methods and partial calls. -/
import Derived.Test.YtekkimfdcbgcoabPS
import Derived.Test.YtekkimfdcbgcoabPN
namespace Go.Proofs.Ytekkimfdcbgcoab.Am
open Go
def methOk (l : List Param) : Bool := okSig l && (match l with | q :: _ => byPlace q | [] => false)
def methF (l : List Param) : List Param := if methOk l = true then l.drop 1 else []
theorem meth_parts {l : List Param} (h : methOk l = true) : ∃ q t, l = q :: t ∧ okSig (q :: t) = true ∧ byPlace q = true ∧ methF l = t := by
  have e : methF l = l.drop 1 := by unfold methF; rw [if_pos h]
  unfold methOk at h
  rw [Bool.and_eq_true] at h
  cases l with
  | nil => simp at h
  | cons q t => exact ⟨q, t, rfl, h.1, h.2, e⟩
theorem meth_places {l : List Param} (ok : okSig l = true) : methOk l = !(decide ((l.countP byPlace : Int) = 0)) := by
  unfold methOk
  rw [ok, Bool.true_and]
  cases l with
  | nil => rfl
  | cons q t =>
    have o := Ord.of ok
    have h := o.place (show 0 < (q :: t).length by simp)
    simp only [List.getElem_cons_zero] at h
    show byPlace q = _
    rw [h]
    show decide (0 < (q :: t).countP byPlace) = _
    by_cases c : (q :: t).countP byPlace = 0
    · rw [c]; rfl
    · rw [decide_eq_true (by omega), decide_eq_false (by omega)]; rfl
theorem miniG.meth {l : List Param} (h : miniG l) : miniG (methF l) := by
  unfold methF
  split
  · exact ⟨Nat.le_trans (by simp) h.len, fun x hx => h.nm x (List.mem_of_mem_drop hx)⟩
  · exact .nil
theorem both_nil {l : List Param} : bothIn l [] = false := by
  unfold bothIn bothAt
  have : idx (bothP []) l < 0 := idx_neg.2 fun x _ => by
    unfold bothP
    have : pairAt [] x.name = -1 := rfl
    rw [this, decide_eq_false (show ¬ ((-1 : Int) ≥ 0) by omega), Bool.and_false]
  exact decide_eq_false (by omega)
theorem setD_nil {x : Param} : setD [] x = x := setD_no rfl
theorem ps_one {l : List Param} {v : Int} (h0 : 0 < l.length) (hb : byPlace l[0] = true) : ∀ i, i ≤ l.length → psT l ⟨[v], []⟩ i = (l.take i).drop 1
  | 0, _ => rfl
  | i + 1, hi => by
    rw [psT_next, ps_one h0 hb i (by omega)]
    cases i with
    | zero =>
      have g : psGone l ⟨[v], []⟩ 0 l[0] = true := by unfold psGone; rw [hb]; rfl
      rw [psOne_gone h0 g]
      simp [List.take_one]
      cases l with
      | nil => rfl
      | cons a t => rfl
    | succ i =>
      have g : psGone l ⟨[v], []⟩ (i + 1) l[i + 1] = false := by
        unfold psGone
        rw [both_nil, Bool.and_false, Bool.or_false, decide_eq_false (by simp; omega), Bool.and_false]
      have e : psNew l ⟨[v], []⟩ (i + 1) l[i + 1] = l[i + 1] := by
        unfold psNew
        rw [setD_nil, turnK_no (.inl (by unfold turnB; rw [both_nil]; rfl))]
      rw [psOne_new (show i + 1 < l.length by omega) g, e, List.take_succ_eq_append_getElem (show i + 1 < l.length by omega), List.drop_append_of_le_length (by simp; omega)]
theorem method_part {q : Param} {t : List Param} (ok : okSig (q :: t) = true) (hq : byPlace q = true) {v : Int} (hv : okNum v = true) : partOk (q :: t) ⟨[v], []⟩ = true ∧ psOk (q :: t) ⟨[v], []⟩ = true ∧ psF (q :: t) ⟨[v], []⟩ = t := by
  have h1 := one_part (l := t) ok hq hv
  have e : psT (q :: t) ⟨[v], []⟩ (q :: t).length = t := by
    rw [ps_one (l := q :: t) (Nat.succ_pos _) hq _ (Nat.le_refl _), List.take_length]
    rfl
  have h2 : psOk (q :: t) ⟨[v], []⟩ = true := by unfold psOk; rw [h1, e, okSig_tail ok]; rfl
  exact ⟨h1, h2, by rw [(ps_parts h2).2.2, e]⟩
end Go.Proofs.Ytekkimfdcbgcoab.Am
