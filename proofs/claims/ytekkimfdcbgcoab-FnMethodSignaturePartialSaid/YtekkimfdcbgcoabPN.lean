/- A signature without its receiver: plain facts. -/
import Derived.Test.YtekkimfdcbgcoabBP
namespace Go.Proofs.Ytekkimfdcbgcoab.Am
open Go
set_option linter.unusedSimpArgs false
set_option linter.unusedVariables false
theorem idx_cons {α : Type} {p : α → Bool} {a : α} {l : List α} : idx p (a :: l) = if p a = true then 0 else if idx p l < 0 then -1 else idx p l + 1 := by
  unfold idx
  rw [List.findIdx?_cons]
  cases h : p a with
  | true => simp
  | false =>
    simp only [Bool.false_eq_true, if_false]
    cases l.findIdx? p with
    | none => simp
    | some i =>
      simp
      omega
theorem okSig_tail {q : Param} {l : List Param} (h : okSig (q :: l) = true) : okSig l = true := by
  have hl := okSig_len h
  unfold okSig
  rw [Bool.and_eq_true, List.all_eq_true]
  refine ⟨fun i hi => ?_, by simp at hl; exact decide_eq_true (by omega)⟩
  have hi := List.mem_range.1 hi
  have ha := okSig_at h (i := i + 1) (by simpa using hi)
  rw [stepAt_succ (by simpa using hi)] at ha
  simp only [Bool.and_eq_true, List.getElem_cons_succ] at ha
  have hn : newAt Param.name l i = true := by
    have h2 := ha.2.1
    unfold newAt at h2 ⊢
    rw [List.getElem?_cons_succ, List.take_succ_cons] at h2
    rw [List.getElem?_eq_getElem hi] at h2 ⊢
    simp only [List.all_cons, Bool.and_eq_true] at h2
    exact h2.2
  cases i with
  | zero => rw [stepAt_zero hi, ha.1, hn]; rfl
  | succ j =>
    rw [stepAt_succ hi, ha.1, hn]
    exact ha.2.2
section
variable {q : Param} {l : List Param}
theorem kindAt_tail {k : Int} (h : ¬ q.kind = k) : kindAt (q :: l) k = if kindAt l k < 0 then -1 else kindAt l k + 1 := by
  unfold kindAt
  rw [idx_cons, if_neg (by simpa using h)]
theorem takes_tail {s : ByteArray} (hq : ¬ q.kind = 4) (h : ¬ q.name = s) : takes (q :: l) s = if takes l s < 0 then -1 else takes l s + 1 := by
  have e : paramAt (q :: l) s = if paramAt l s < 0 then -1 else paramAt l s + 1 := by
    unfold paramAt
    rw [idx_cons, if_neg (by simpa using h)]
  rcases idx_cases (fun p : Param => decide (p.name = s)) l with e1 | ⟨j, hj, e1, _⟩
  · have e1 : paramAt l s = -1 := e1
    rw [e1, if_pos (by decide)] at e
    rw [takes_none e, takes_none e1, kindAt_tail hq]
  · have e1 : paramAt l s = j := e1
    rw [e1, if_neg (by omega)] at e
    have hj2 : j + 1 < (q :: l).length := by simpa using hj
    rw [takes_some hj2 (by rw [e]; omega), takes_some hj e1, List.getElem_cons_succ]
    split
    · rw [if_neg (by omega)]; omega
    · exact kindAt_tail hq
theorem places_tail (hq : byPlace q = true) : places (q :: l) = places l + 1 := by
  unfold places
  rw [List.countP_cons_of_pos hq]
theorem hasRest_tail (hq : byPlace q = true) : hasRest (q :: l) = hasRest l := by
  have : ¬ q.kind = 2 := by have := byPlace_iff.1 hq; omega
  unfold hasRest
  rw [kindAt_tail this]
  split
  · rename_i h; rw [decide_eq_false (by decide), decide_eq_false (by omega)]
  · rename_i h; rw [decide_eq_true (by omega), decide_eq_true (by omega)]
theorem badOf_tail {n : Nat} {p : Pair} (hq : byPlace q = true) (h : ¬ q.name = p.name) : badOf (q :: l) (n + 1) p = badOf l n p := by
  have h4 : ¬ q.kind = 4 := by have := byPlace_iff.1 hq; omega
  have e := takes_tail (l := l) h4 h
  rcases takes_cases l p.name with e1 | ⟨j, hj, e1⟩
  · rw [e1, if_pos (by decide)] at e
    rw [badOf_no e, badOf_no e1]
  · rw [e1, if_neg (by omega)] at e
    have hj2 : j + 1 < (q :: l).length := by simpa using hj
    rw [badOf_at hj2 (by rw [e]; omega), badOf_at hj e1, List.getElem_cons_succ]
    simp
theorem wrong_tail {f : Flat} {v : Int} (ok1 : okSig (q :: l) = true) (hq : byPlace q = true) (ok2 : okFlat f = true) (ok3 : okFlat ⟨v :: f.pl, f.nl⟩ = true) (hn : ∀ p ∈ f.nl, ¬ p.name = q.name) :
    wrong (q :: l) ⟨v :: f.pl, f.nl⟩ = wrong l f := by
  have ok4 := okSig_tail ok1
  rw [wrong_is ok1 ok3, wrong_is ok4 ok2]
  have e1 : manyB (q :: l) (v :: f.pl) = manyB l f.pl := by
    unfold manyB
    rw [places_tail hq, hasRest_tail hq]
    simp
  have e2 : ∀ m : List Pair, (∀ p ∈ m, ¬ p.name = q.name) → badAll (q :: l) (f.pl.length + 1) m = badAll l f.pl.length m := by
    intro m
    induction m with
    | nil => intro _; rfl
    | cons p r ih =>
      intro h
      have ih := ih fun x hx => h x (List.mem_cons_of_mem _ hx)
      unfold badAll at ih ⊢
      rw [List.filterMap_cons, List.filterMap_cons, badOf_tail hq (fun e => h p List.mem_cons_self e.symm), ih]
  have e3 : lackL (q :: l) ⟨v :: f.pl, f.nl⟩ = lackL l f := by
    unfold lackL
    have h0 : lackB (q :: l) ⟨v :: f.pl, f.nl⟩ 0 = false := by
      rw [lackB_at (by simp), gotB_at (by simp)]
      simp [hq]
    have hs : ∀ j, lackB (q :: l) ⟨v :: f.pl, f.nl⟩ (j + 1) = lackB l f j := fun j => by
      unfold lackB gotB
      rw [List.getElem?_cons_succ]
      simp
    rw [List.length_cons, List.range_succ_eq_map, List.filter_cons]
    simp only [h0, Bool.false_eq_true, if_false]
    rw [List.filter_map, List.map_map]
    have : ((lackB (q :: l) ⟨v :: f.pl, f.nl⟩) ∘ Nat.succ) = lackB l f := funext fun j => hs j
    rw [this]
    rfl
  rw [e1, e3]
  congr 2
  exact e2 f.nl hn
theorem method_accepts {f : Flat} {v : Int} (ok1 : okSig (q :: l) = true) (hq : byPlace q = true) (ok2 : okFlat f = true) (ok3 : okFlat ⟨v :: f.pl, f.nl⟩ = true) (hn : ∀ p ∈ f.nl, ¬ p.name = q.name) : acceptsF l f = acceptsF (q :: l) ⟨v :: f.pl, f.nl⟩ := by
  unfold acceptsF fits
  rw [okSig_tail ok1, ok1, ok2, ok3, wrong_tail ok1 hq ok2 ok3 hn]
theorem one_part (ok1 : okSig (q :: l) = true) (hq : byPlace q = true) {v : Int} (hv : okNum v = true) : partOk (q :: l) ⟨[v], []⟩ = true := by
  have ok2 : okFlat ⟨[v], []⟩ = true := by
    rw [okFlat_parts]
    refine ⟨rfl, fun x hx => by rw [List.mem_singleton.1 hx]; exact hv, fun x hx => by simp at hx, by simp, by simp⟩
  unfold partOk fits
  rw [ok1, ok2, boundB_is ok1 ok2]
  have : manyB (q :: l) [v] = [] := by
    rw [manyB_nil, places_tail hq]
    simp
  simp only
  rw [this]
  rfl
end
end Go.Proofs.Ytekkimfdcbgcoab.Am
