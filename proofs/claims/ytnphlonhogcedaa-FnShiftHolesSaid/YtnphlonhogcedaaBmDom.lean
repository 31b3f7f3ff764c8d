/- What a run is told of its arguments, as facts on slices. -/
import Derived.Test.YtnphlonhogcedaaBmBase
import Derived.Test.YtnphlonhogcedaaBmLaw
namespace Go.Proofs.Ytnphlonhogcedaa.Am
open Go
section
variable {P : Program} {h : H} {m : Nat} {t : TypeId} {cs : List CV}
theorem okF_cons {ok : TypeId → List CV → Prop} {f : Field} {r : List Field} (hk : okFields P ok (f :: r) cs) : ∃ a b, cs = a ++ b ∧ ok f.type a ∧ okFields P ok r b :=
  ⟨_, _, (List.take_append_drop _ _).symm, hk.2.1, hk.2.2⟩
theorem okF_nil {ok : TypeId → List CV → Prop} (hk : okFields P ok [] cs) : cs = [] := hk
theorem okA_int {k : IntKind} (hu : P.underlying t = some (.int k)) (hk : okA P h (m + 1) t cs) : ∃ n, cs = [.int k n] ∧ (Lit.int k n).wf = true := by
  unfold okA at hk
  rw [hu] at hk
  exact hk
theorem okA_bool (hu : P.underlying t = some .bool) (hk : okA P h (m + 1) t cs) : ∃ b, cs = [.bool b] := by
  unfold okA at hk
  rw [hu] at hk
  exact hk
theorem okA_str (hu : P.underlying t = some .string) (hk : okA P h (m + 1) t cs) : ∃ s, cs = [.str s] ∧ s.size ≤ maxLen := by
  unfold okA at hk
  rw [hu] at hk
  exact hk
theorem okA_struct {fs : Array Field} (hu : P.underlying t = some (.struct fs)) (hk : okA P h (m + 1) t cs) : okFields P (okA P h m) fs.toList cs := by
  unfold okA at hk
  rw [hu] at hk
  exact hk
theorem okItems_all {α : Type} {ok : List CV → Prop} {enc : α → List CV} {W : α → Prop} {k : Nat} (he : ∀ x, (enc x).length = k) (hi : ∀ cs, ok cs → ∃ x, cs = enc x ∧ W x) : ∀ {n : Nat} {cs : List CV}, okItems ok k n cs → ∃ l : List α, cs = l.flatMap enc ∧ l.length = n ∧ ∀ x ∈ l, W x
  | 0, _, h => ⟨[], h, rfl, fun x hx => by simp at hx⟩
  | n + 1, cs, ⟨h0, h1, h2⟩ => by
    obtain ⟨x, e1, w1⟩ := hi _ h1
    obtain ⟨l, e2, e3, w2⟩ := okItems_all he hi h2
    refine ⟨x :: l, ?_, by simp [e3], fun y hy => ?_⟩
    · rw [List.flatMap_cons, ← e1, ← e2, List.take_append_drop]
    · rcases List.mem_cons.1 hy with rfl | hy
      · exact w1
      · exact w2 y hy
theorem okA_list {α : Type} {enc : α → List CV} {W : α → Prop} {k : Nat} {e : TypeId} (he : ∀ x, (enc x).length = k) (hu : P.underlying t = some (.slice e)) (hc : P.cellsOf e = k) (hi : ∀ cs, okA P h m e cs → ∃ x, cs = enc x ∧ W x) (hk : okA P h (m + 1) t cs) :
    ∃ v l, cs = [v] ∧ Sl enc k e h (.one v) l ∧ l.length ≤ maxLen ∧ ∀ x ∈ l, W x := by
  unfold okA at hk
  rw [hu] at hk
  rcases hk with rfl | ⟨a, n, all, rfl, h1, h2, h3, h4⟩
  · exact ⟨_, [], rfl, Sl.nil he, by simp, fun x hx => by simp at hx⟩
  · rw [hc] at h3 h4
    obtain ⟨l, rfl, rfl, w⟩ := okItems_all he hi h4
    refine ⟨_, l, rfl, ⟨⟨_, _, rfl, trivial⟩, h3, he, fun b n c hb => ?_⟩, h1, w⟩
    simp at hb
    obtain ⟨rfl, _⟩ := hb
    exact h2
theorem okV_agg {v : AV} (ha : isAggT P t = some true) (hk : okV P h m t v) : ∃ cs, v = .agg cs ∧ okA P h m t cs := by
  cases v with
  | one c => have := hk.1; rw [ha] at this; simp at this
  | agg cs => exact ⟨cs, rfl, hk.2⟩
  | tup l => exact hk.elim
theorem okV_one {v : AV} (ha : isAggT P t = some false) (hk : okV P h m t v) : ∃ c, v = .one c ∧ okA P h m t [c] := by
  cases v with
  | agg c => have := hk.1; rw [ha] at this; simp at this
  | one cs => exact ⟨cs, rfl, hk.2⟩
  | tup l => exact hk.elim
theorem law_of {x : Option (AV × H)} (hx : callK x fun r _ => r = ib true) : ∃ h', x = some (.one (.bool true), h') := by
  obtain ⟨r, h', e, rfl⟩ := hx
  exact ⟨h', e⟩
theorem okVs_cons {ts : List TypeId} {vs : List AV} (hk : okVs P h m (t :: ts) vs) : ∃ v r, vs = v :: r ∧ okV P h m t v ∧ okVs P h m ts r := by
  cases vs with
  | nil => exact hk.elim
  | cons v r => exact ⟨v, r, rfl, hk.1, hk.2⟩
theorem okVs_nil {vs : List AV} (hk : okVs P h m [] vs) : vs = [] := by
  cases vs with
  | nil => rfl
  | cons v r => exact hk.elim
end
end Go.Proofs.Ytnphlonhogcedaa.Am
