/- Plain facts: what a partial call needs. -/
import Derived.Test.YtekkimfdcbgcoacPS
namespace Go.Proofs.Ytekkimfdcbgcoac.Am
open Go
def needP (x : Param) : Bool := single x && !x.has
theorem turnK_single {t : Bool} {x : Param} : single (turnK t x) = single x := by
  unfold turnK
  split
  · rename_i h; simp [single, byPlace, byName, h.2]
  · rfl
theorem setD_single {m : List Pair} {x : Param} : single (setD m x) = single x := by
  have e := (setD_name (m := m) (x := x)).2
  unfold single byPlace byName
  rw [e]
theorem psNew_single {l : List Param} {f : Flat} {i : Nat} {x : Param} : single (psNew l f i x) = single x := by unfold psNew; rw [setD_single, turnK_single]
theorem setD_has {m : List Pair} {x : Param} : (setD m x).has = (x.has || (byName x && m.any fun p => decide (p.name = x.name))) := by
  rw [← idx_any]
  show (setD m x).has = (x.has || (byName x && decide (pairAt m x.name ≥ 0)))
  cases b : byName x with
  | false => rw [setD_else b]; simp
  | true =>
    rcases idx_cases (fun p : Pair => decide (p.name = x.name)) m with c | ⟨j, hj, c, _⟩
    · have c : pairAt m x.name = -1 := c
      rw [setD_no c, c]
      simp
    · have c : pairAt m x.name = j := c
      rw [setD_at hj c b, c, decide_eq_true (show (j : Int) ≥ 0 by omega)]
      simp
theorem psNew_has {l : List Param} {f : Flat} {i : Nat} {x : Param} : (psNew l f i x).has = (x.has || (byName x && f.nl.any fun p => decide (p.name = x.name))) := by
  unfold psNew
  rw [setD_has, turnK_has.1, turnK_by, turnK_name]
/-- What has got nothing is not gone. -/
theorem free_stays {l : List Param} {f : Flat} (hp : partOk l f = true) {i : Nat} (hi : i < l.length) (hs : i < (boundS l f).length) (h1 : single l[i] = true) (h2 : (boundS l f)[i].given = false) : psGone l f i l[i] = false := by
  obtain ⟨ok1, ok2⟩ := part_fits hp
  rw [got_is ok1 ok2 hi hs, gotB_at hi, Bool.or_eq_false_iff] at h2
  unfold psGone
  have e : decide ((i : Int) < (f.pl.length : Int)) = decide (i < f.pl.length) := decide_eq_decide.2 (by omega)
  rw [e, h2.1, Bool.false_or]
  cases k : decide (l[i].kind = 2) with
  | false => rfl
  | true =>
    have k := of_decide_eq_true k
    simp [single, byPlace, byName, k] at h1
theorem need_one {l : List Param} {f : Flat} (hp : partOk l f = true) {i : Nat} (hi : i < l.length) : ((psOne l f i).filter needP).map Param.name = if isFree (fun p => !p.has) l (boundS l f) i = true then [nameAt l i] else [] := by
  obtain ⟨ok1, ok2⟩ := part_fits hp
  have hs : i < (boundS l f).length := by rw [boundS_len]; exact hi
  rw [isFree_eq hi hs, nameAt_eq hi]
  cases g : psGone l f i l[i] with
  | true =>
    rw [psOne_gone hi g]
    have : (single l[i] && (!(boundS l f)[i].given && !l[i].has)) = false := by
      cases h1 : single l[i] with
      | false => rfl
      | true =>
        cases h2 : (boundS l f)[i].given with
        | true => rfl
        | false =>
          rw [free_stays hp hi hs h1 h2] at g
          simp at g
    rw [this]
    rfl
  | false =>
    rw [psOne_new hi g]
    have hg : (boundS l f)[i].given = (byName l[i] && f.nl.any fun p => decide (p.name = l[i].name)) := by
      rw [got_is ok1 ok2 hi hs, gotB_at hi]
      unfold psGone at g
      rw [Bool.or_eq_false_iff] at g
      have e : decide ((i : Int) < (f.pl.length : Int)) = decide (i < f.pl.length) := decide_eq_decide.2 (by omega)
      rw [e] at g
      rw [g.1, Bool.false_or]
    have e : needP (psNew l f i l[i]) = (single l[i] && (!(boundS l f)[i].given && !l[i].has)) := by
      unfold needP
      rw [psNew_single, psNew_has, hg]
      cases single l[i] <;> cases l[i].has <;> simp
    rw [List.filter_cons, e]
    split <;> simp [psNew_name]
theorem need_all {l : List Param} {f : Flat} (hp : partOk l f = true) : ((psT l f l.length).filter needP).map Param.name = lackF l f := by
  have go : ∀ i, i ≤ l.length → ((psT l f i).filter needP).map Param.name = pickF (isFree (fun p => !p.has) l (boundS l f)) (nameAt l) i := fun i => by
    induction i with
    | zero => intro _; rfl
    | succ i ih =>
      intro hi
      rw [psT_next, List.filter_append, List.map_append, ih (by omega), pickF_next, need_one hp (by omega)]
  unfold lackF freeF
  rw [if_pos hp]
  exact go _ (Nat.le_refl _)
theorem free_in {l : List Param} {f : Flat} (hp : partOk l f = true) : ∀ s ∈ freeAll l f, paramAt (psT l f l.length) s ≥ 0 := by
  intro s hx
  unfold freeAll freeF at hx
  rw [if_pos hp] at hx
  obtain ⟨i, hi, ht, rfl⟩ := pickF_mem hx
  have hs : i < (boundS l f).length := by rw [boundS_len]; exact hi
  rw [isFree_eq hi hs] at ht
  simp only [Bool.and_eq_true, Bool.not_eq_true', and_true] at ht
  have g := free_stays hp hi hs ht.1 ht.2
  rw [nameAt_eq hi]
  have hm : psNew l f i l[i] ∈ psT l f l.length := psT_mem.2 ⟨i, hi, hi, g, rfl⟩
  have : decide (idx (fun p : Param => decide (p.name = l[i].name)) (psT l f l.length) ≥ 0) = true := by
    rw [idx_any]
    exact List.any_eq_true.2 ⟨_, hm, decide_eq_true psNew_name⟩
  exact of_decide_eq_true this
end Go.Proofs.Ytekkimfdcbgcoac.Am
