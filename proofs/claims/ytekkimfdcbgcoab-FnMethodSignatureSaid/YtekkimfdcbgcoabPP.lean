/- Plain facts: what a wrapper passes on. -/
import Derived.Test.YtekkimfdcbgcoabBP
import Derived.Test.YtekkimfdcbgcoabPM
namespace Go.Proofs.Ytekkimfdcbgcoab.Am
open Go
theorem wrap_parts {l : List Param} (h : isWrap l = true) : okSig l = true ∧ hasRest l = true ∧ hasMap l = true := by
  unfold isWrap at h
  simpa only [Bool.and_eq_true] using h
theorem map_ix {l : List Param} (h : hasMap l = true) : ∃ hi : mapIx l < l.length, l[mapIx l].kind = 4 ∧ kindAt l 4 = mapIx l := by
  obtain ⟨i, hi, e, k⟩ := map_at h
  have : mapIx l = i := by unfold mapIx; rw [e]; simp
  exact ⟨this ▸ hi, by simp only [this]; exact k, by rw [this]; exact e⟩
theorem pass_is {l : List Param} {f : Flat} (hp : passOk l f = true) : passF l f = ⟨f.pl.drop (places l), f.nl.filter fun p => decide (takes l p.name = mapIx l)⟩ := by
  obtain ⟨ok1, ok2⟩ := pass_fits hp
  have o := Ord.of ok1
  have hw : isWrap l = true := by unfold passOk at hp; rw [Bool.and_eq_true] at hp; exact hp.2
  obtain ⟨_, hr, hm⟩ := wrap_parts hw
  obtain ⟨p1, p2, _⟩ := o.rest_at hr
  obtain ⟨m1, m2, _⟩ := map_ix hm
  have s1 : places l < (boundS l f).length := by rw [boundS_len]; exact p1
  have s2 : mapIx l < (boundS l f).length := by rw [boundS_len]; exact m1
  unfold passF passT
  rw [if_pos hp, if_pos ⟨hr, p1⟩, if_pos ⟨hm, m1⟩, getS_eq s1, getS_eq s2, rest_slot o hr s1, boundS_is ok1 ok2 m1 s2, slotN_four m1 m2]
theorem takes_four {l : List Param} {s : ByteArray} {j : Nat} (hj : j < l.length) (h : takes l s = j) (h4 : l[j].kind = 4) {i : Nat} (hi : i < l.length) (e : paramAt l s = i) : byName l[i] = false := by
  rw [takes_some hi e] at h
  split at h
  · have : i = j := by omega
    subst this
    simp [byName, h4]
  · rename_i hb
    simpa using hb
def hasN (l : List Pair) (s : ByteArray) : Bool := l.any fun p => decide (p.name = s)
theorem pass_name {l : List Param} {f : Flat} (hp : passOk l f = true) : ∀ p ∈ (passF l f).nl, hasN f.nl p.name = true ∧ ∀ i (hi : i < l.length), paramAt l p.name = i → byName l[i] = false := by
  have hw : isWrap l = true := by unfold passOk at hp; rw [Bool.and_eq_true] at hp; exact hp.2
  obtain ⟨_, _, hm⟩ := wrap_parts hw
  obtain ⟨m1, m2, _⟩ := map_ix hm
  intro p hx
  rw [pass_is hp] at hx
  obtain ⟨a, b⟩ := List.mem_filter.1 hx
  exact ⟨List.any_eq_true.2 ⟨p, a, by simp⟩, fun i hi e => takes_four m1 (of_decide_eq_true b) m2 hi e⟩
end Go.Proofs.Ytekkimfdcbgcoab.Am
