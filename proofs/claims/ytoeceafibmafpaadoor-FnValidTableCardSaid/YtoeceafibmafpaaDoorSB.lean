/- Slices that are cut behind an index. -/
import Derived.Test.YtoeceafibmafpaaDoorMaD
namespace Go.Proofs.YtoeceafibmafpaaDoor.Am
open Go
set_option linter.unusedSimpArgs false
set_option linter.unusedVariables false
theorem Sl.lt_of {α : Type} {enc : α → List CV} {k ty : Nat} {h : H} {v : AV} {l : List α} (hs : Sl enc k ty h v l) {j : Nat} (hj : baseOf v = some j) : j < h.n := by
  obtain ⟨b, c, rfl, _⟩ := hs.form
  cases b with
  | none => simp [baseOf] at hj
  | some a =>
    simp [baseOf] at hj
    have := (hs.own a _ c rfl).1
    omega
/-- All from i on, with its block. -/
theorem Sl.dropB {α : Type} {enc : α → List CV} {k ty : Nat} {h : H} {v : AV} {l : List α} (hs : Sl enc k ty h v l) {i : Nat} (hi : i ≤ l.length) {kd : IntKind} : ∃ v', cutO ty k h v (some (.one (.int kd i))) none none = some v' ∧ Sl enc k ty h v' (l.drop i) ∧ ∀ j, baseOf v' = some j → baseOf v = some j := by
  obtain ⟨v', h1, h2, h3⟩ := hs.cut (lo := i) (hi := l.length) (alo := some (.t 1)) (ahi := none) (amx := none) (x := .t 0) (T := fun t => if t = 0 then v else if t = 1 then .one (.int kd i) else if t = 2 then undefA else undefA) rfl hi (Nat.le_refl _) (fun c hc => ⟨c, by
    simp only [boundsA, maxA, highA, lowA]
    rw [boundA_at (i := i) (kd := kd) rfl hi], by cases c with | none => trivial | some c => exact hc⟩)
  refine ⟨v', h1, ?_, h3⟩
  rw [List.take_of_length_le (by simp)] at h2
  exact h2
theorem cut_later {ty k : Nat} {h h1 : H} {v v' : AV} {lo hi mx : Option AV} (e : cutO ty k h v lo hi mx = some v') (hb : ∀ i, baseOf v = some i → i < h.n → i < h1.n ∧ (h1.f i).ty = (h.f i).ty) : cutO ty k h1 v lo hi mx = some v' := by
  unfold cutO at e ⊢
  simp only [pureA, AX.ev] at e ⊢
  split at e
  · exact e
  · rename_i a n c hv
    split at e
    · rename_i l h' m hm
      split at e
      · rename_i hc
        obtain ⟨h2, h3⟩ := hb a.1 (by
          have hv : v = .one (.sl (some a) n c) := hv
          rw [hv]; rfl) hc.1
        rw [if_pos ⟨h2, by rw [h3]; exact hc.2⟩]
        exact e
      · simp at e
    · simp at e
  · simp at e
theorem Sl.ltB {α : Type} {enc : α → List CV} {k ty : Nat} {h : H} {v : AV} {l : List α} (hs : Sl enc k ty h v l) {j : Nat} (hj : baseOf v = some j) : j < h.n := by
  obtain ⟨b, c, rfl, _⟩ := hs.form
  cases b with
  | none => simp [baseOf] at hj
  | some a =>
    simp [baseOf] at hj
    subst hj
    exact (hs.own a _ c rfl).1
theorem pureB_cut {T : Tb} {L : Lb} {h : H} {ty k : Nat} {x : AX} {lo hi mx : Option AX} : pureB (.slice ty k x lo hi mx) T L h = (cutO ty k h (x.ev T.av) (lo.map (·.ev T.av)) (hi.map (·.ev T.av)) (mx.map (·.ev T.av))).map .v := by
  rw [pureB_slice, cutO_eq]
theorem Sl.isOne {α : Type} {enc : α → List CV} {k ty : Nat} {h : H} {v : AV} {l : List α} (hs : Sl enc k ty h v l) : ∃ c, v = .one c := by
  obtain ⟨b, c, rfl, _⟩ := hs.form
  exact ⟨_, rfl⟩
theorem cut_stay {ty k : Nat} {h h1 : H} {s v v' : AV} {lo hi mx : Option AV} (e : cutO ty k h v lo hi mx = some v') (st : Stay s h h1) (hs : Sep v s) : cutO ty k h1 v lo hi mx = some v' :=
  cut_later e fun i hi hn => ⟨Nat.lt_of_lt_of_le hn st.n, by rw [st.f i hn (hs i hi)]⟩
theorem Sl.takeB {α : Type} {enc : α → List CV} {k ty : Nat} {h : H} {v : AV} {l : List α} (hs : Sl enc k ty h v l) {i : Nat} (hi : i ≤ l.length) {kd : IntKind} : ∃ v', cutO ty k h v none (some (.one (.int kd i))) none = some v' ∧ Sl enc k ty h v' (l.take i) ∧ ∀ j, baseOf v' = some j → baseOf v = some j := by
  obtain ⟨v', h1, h2, h3⟩ := hs.cut (lo := 0) (hi := i) (alo := none) (ahi := some (.t 2)) (amx := none) (x := .t 0) (T := fun t => if t = 0 then v else if t = 1 then undefA else if t = 2 then .one (.int kd i) else undefA) rfl (Nat.zero_le _) hi (fun c hc => ⟨c, by
    have : i ≤ c.getD l.length := by cases c with | none => exact hi | some c => exact Nat.le_trans hi hc
    simp only [boundsA, maxA, highA, lowA]
    rw [boundA_at (i := i) (kd := kd) rfl this], by cases c with | none => trivial | some c => exact Nat.le_trans hi hc⟩)
  exact ⟨v', h1, by simpa using h2, h3⟩
end Go.Proofs.YtoeceafibmafpaaDoor.Am
