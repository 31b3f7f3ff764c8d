/- Plain facts: signatures of wrappers. -/
import Derived.Test.YtekkimfdcbgcoabPP
namespace Go.Proofs.Ytekkimfdcbgcoab.Am
open Go
def ofK (l : List Param) (a b : Int) : List Param := l.filter fun p => decide (p.kind = a) || decide (p.kind = b)
theorem ofK_next {l : List Param} {a b : Int} {i : Nat} (hi : i < l.length) : ofK (l.take (i + 1)) a b = ofK (l.take i) a b ++ if (decide (l[i].kind = a) || decide (l[i].kind = b)) = true then [l[i]] else [] := by
  unfold ofK
  rw [List.take_add_one, List.getElem?_eq_getElem hi, List.filter_append, Option.toList_some, List.filter_cons, List.filter_nil]
theorem ofK_len {l : List Param} {a b : Int} : (ofK l a b).length ≤ l.length := List.length_filter_le _ _
def wrapAll (l m : List Param) : List Param := ofK l 0 1 ++ ofK m 0 1 ++ ofK m 2 2 ++ ofK l 3 3 ++ ofK m 3 3 ++ ofK m 4 4
theorem miniG.ofK {l : List Param} (h : miniG l) {a b : Int} : miniG (ofK l a b) := ⟨Nat.le_trans ofK_len h.len, fun x hx => h.nm x (List.mem_filter.1 hx).1⟩
theorem wrapAll_sm {l m : List Param} (h : miniG l) (k : miniG m) : smQ (wrapAll l m) := by
  have a := fun a b => (h.ofK (a := a) (b := b)).len
  have b := fun a b => (k.ofK (a := a) (b := b)).len
  refine ⟨?_, fun x hx => ?_⟩
  · unfold wrapAll big
    simp only [List.length_append]
    have := a 0 1
    have := a 3 3
    have := b 0 1
    have := b 2 2
    have := b 3 3
    have := b 4 4
    omega
  · have : x.name.size ≤ 1048576 := by
      unfold wrapAll at hx
      simp only [List.mem_append] at hx
      rcases hx with ((((hx | hx) | hx) | hx) | hx) | hx
      · exact h.ofK.nm x hx
      · exact k.ofK.nm x hx
      · exact k.ofK.nm x hx
      · exact h.ofK.nm x hx
      · exact k.ofK.nm x hx
      · exact k.ofK.nm x hx
    exact Nat.le_trans this (by decide)
def wrapOk (l m : List Param) : Bool := isWrap l && (okSig m && okSig (wrapAll l m))
def wrapSig (l m : List Param) : List Param := if wrapOk l m = true then wrapAll l m else []
theorem wrapSig_ok {l m : List Param} (h : wrapOk l m = true) : wrapSig l m = wrapAll l m ∧ okSig l = true ∧ okSig m = true ∧ okSig (wrapAll l m) = true := by
  refine ⟨by unfold wrapSig; rw [if_pos h], ?_⟩
  unfold wrapOk at h
  simp only [Bool.and_eq_true] at h
  exact ⟨(wrap_parts h.1).1, h.2.1, h.2.2⟩
theorem miniG.wrapSig {l m : List Param} : miniG (wrapSig l m) := by
  by_cases h : wrapOk l m = true
  · obtain ⟨e, _, _, ok⟩ := wrapSig_ok h
    rw [e]
    exact ⟨Nat.le_trans (okSig_len ok) (by decide), fun x hx => Nat.le_trans (okSig_name ok x hx) (by decide)⟩
  · unfold Am.wrapSig
    rw [if_neg h]
    exact .nil
end Go.Proofs.Ytekkimfdcbgcoab.Am
