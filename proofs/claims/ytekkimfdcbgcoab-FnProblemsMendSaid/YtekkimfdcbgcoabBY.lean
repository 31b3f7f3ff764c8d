/- Slots that are changed in place, and a list of problems beside them. -/
import Derived.Test.YtekkimfdcbgcoabDN
import Derived.Test.YtekkimfdcbgcoabBD
namespace Go.Proofs.Ytekkimfdcbgcoab.Am
open Go
set_option linter.unusedSimpArgs false
set_option linter.unusedVariables false
theorem set_cases {α : Type} {rs : List α} {i : Nat} {r : α} (j : Nat) (hj : j < (rs.set i r).length) : (j = i ∧ (rs.set i r)[j] = r) ∨ (j ≠ i ∧ ∃ hk : j < rs.length, (rs.set i r)[j] = rs[j]) := by
  have hk : j < rs.length := by simpa using hj
  by_cases e : j = i
  · subst e; exact .inl ⟨rfl, by simp⟩
  · exact .inr ⟨e, hk, by rw [List.getElem_set_ne (Ne.symm e)]⟩
theorem getY_set {l : List Slot} {i j : Nat} {a : Slot} (hj : j < l.length) : updY (getY l) i a j = getY (l.set i a) j := by
  unfold updY getY
  by_cases e : j = i
  · subst e; rw [if_pos rfl, List.getElem?_set_self hj]; rfl
  · rw [if_neg e, List.getElem?_set_ne (Ne.symm e)]
/-- An element whose slices are new comes into the place of another one. -/
theorem OwY.put {h0 h h1 h2 : H} {v : CV} {rs : List RSlot} {n : Nat} {f : Nat → Slot} (x : OwY h0 h v rs n f) {i : Nat} (hi : i < rs.length) {r : RSlot} {a : Slot} (g : Grow h h1) (y : NtY h h1 r a) (slvpv : SepC r.lv r.pv)
    (o : Nw encY 3 94 h0 h2 (.one v) (rs.set i r)) (st : Stay (.one v) h1 h2) (hg : h0.n ≤ h.n) : OwY h0 h2 v (rs.set i r) n (updY f i a) := by
  have vb : ∀ i, baseOf (.one v) = some i → i < h.n := fun i hi => (x.out.lt hi).1
  have bl : ∀ i (hi : i < rs.length) j, baseOf (.one rs[i].lv) = some j → j < h.n := fun i hi j hj => ((x.el i hi).list.lt hj).1
  have bp : ∀ i (hi : i < rs.length) j, baseOf (.one rs[i].pv) = some j → j < h.n := fun i hi j hj => ((x.el i hi).pairs.lt hj).1
  have nl : ∀ j, baseOf (.one r.lv) = some j → h.n ≤ j := fun j hj => (y.list.lt hj).2
  have np : ∀ j, baseOf (.one r.pv) = some j → h.n ≤ j := fun j hj => (y.pairs.lt hj).2
  refine ⟨o, by simp [x.len], fun j hj => ?_, fun j hj => ?_, fun j hj => ?_, fun j hj => ?_, fun j k hj hk hjk => ?_, fun j k hj hk hjk => ?_, fun j k hj hk hjk => ?_, fun j k hj hk hjk => ?_⟩
  · rcases set_cases j hj with ⟨e, e2⟩ | ⟨e, hk, e2⟩
    · rw [e2, show updY f i a j = a from if_pos e]
      have z := y.from hg
      exact ⟨z.given, z.list.stay st (Sep.new vb nl).symm, z.pairs.stay st (Sep.new vb np).symm⟩
    · rw [e2, show updY f i a j = f j from if_neg e]
      have z := (x.el j hk).grow g
      exact ⟨z.given, z.list.stay st (x.vlv j hk).symm, z.pairs.stay st (x.vpv j hk).symm⟩
  · rcases set_cases j hj with ⟨e, e2⟩ | ⟨e, hk, e2⟩
    · rw [e2]; exact Sep.new vb nl
    · rw [e2]; exact x.vlv j hk
  · rcases set_cases j hj with ⟨e, e2⟩ | ⟨e, hk, e2⟩
    · rw [e2]; exact Sep.new vb np
    · rw [e2]; exact x.vpv j hk
  · rcases set_cases j hj with ⟨e, e2⟩ | ⟨e, hk, e2⟩
    · rw [e2]; exact slvpv
    · rw [e2]; exact x.slvpv j hk
  · rcases set_cases j hj with ⟨e, e2⟩ | ⟨e, hj2, e2⟩ <;> rcases set_cases k hk with ⟨d, d2⟩ | ⟨d, hk2, d2⟩
    · omega
    · rw [e2, d2]; exact (Sep.new (bl k hk2) nl).symm
    · rw [e2, d2]; exact Sep.new (bl j hj2) nl
    · rw [e2, d2]; exact x.olvlv j k hj2 hk2 hjk
  · rcases set_cases j hj with ⟨e, e2⟩ | ⟨e, hj2, e2⟩ <;> rcases set_cases k hk with ⟨d, d2⟩ | ⟨d, hk2, d2⟩
    · omega
    · rw [e2, d2]; exact (Sep.new (bp k hk2) nl).symm
    · rw [e2, d2]; exact Sep.new (bl j hj2) np
    · rw [e2, d2]; exact x.olvpv j k hj2 hk2 hjk
  · rcases set_cases j hj with ⟨e, e2⟩ | ⟨e, hj2, e2⟩ <;> rcases set_cases k hk with ⟨d, d2⟩ | ⟨d, hk2, d2⟩
    · omega
    · rw [e2, d2]; exact (Sep.new (bl k hk2) np).symm
    · rw [e2, d2]; exact Sep.new (bp j hj2) nl
    · rw [e2, d2]; exact x.opvlv j k hj2 hk2 hjk
  · rcases set_cases j hj with ⟨e, e2⟩ | ⟨e, hj2, e2⟩ <;> rcases set_cases k hk with ⟨d, d2⟩ | ⟨d, hk2, d2⟩
    · omega
    · rw [e2, d2]; exact (Sep.new (bp k hk2) np).symm
    · rw [e2, d2]; exact Sep.new (bp j hj2) np
    · rw [e2, d2]; exact x.opvpv j k hj2 hk2 hjk
/-- The pairs of one element are others now. -/
theorem OwY.app_pairs {h0 h h1 h2 : H} {v : CV} {rs : List RSlot} {n : Nat} {f : Nat → Slot} (x : OwY h0 h v rs n f) {i : Nat} (hi : i < rs.length) {s : CV} {l : List Pair} (o1 : NwP h0 h1 (.one s) l) (st1 : Stay (.one rs[i].pv) h h1)
    (hb : ∀ j, baseOf (.one s) = some j → baseOf (.one rs[i].pv) = some j ∨ h.n ≤ j) (o : Nw encY 3 94 h0 h2 (.one v) (rs.set i { rs[i] with pv := s })) (st : Stay (.one v) h1 h2) : OwY h0 h2 v (rs.set i { rs[i] with pv := s }) n (updY f i { f i with pairs := l }) := by
  have vb : ∀ i, baseOf (.one v) = some i → i < h.n := fun i hi => (x.out.lt hi).1
  have bl : ∀ i (hi : i < rs.length) j, baseOf (.one rs[i].lv) = some j → j < h.n := fun i hi j hj => ((x.el i hi).list.lt hj).1
  have bp : ∀ i (hi : i < rs.length) j, baseOf (.one rs[i].pv) = some j → j < h.n := fun i hi j hj => ((x.el i hi).pairs.lt hj).1
  have vs : SepC v s := fun j hj hk => by
    rcases hb j hk with e | e
    · exact x.vpv i hi j hj e
    · have := vb j hj; omega
  have sl : ∀ k (hk : k < rs.length), SepC s rs[k].lv := fun k hk j hj hk2 => by
    rcases hb j hj with e | e
    · by_cases ik : i = k
      · subst ik; exact x.slvpv i hi j hk2 e
      · exact x.opvlv i k hi hk ik j e hk2
    · have := bl k hk j hk2; omega
  have sp : ∀ k (hk : k < rs.length), i ≠ k → SepC s rs[k].pv := fun k hk ik j hj hk2 => by
    rcases hb j hj with e | e
    · exact x.opvpv i k hi hk ik j e hk2
    · have := bp k hk j hk2; omega
  refine ⟨o, by simp [x.len], fun j hj => ?_, fun j hj => ?_, fun j hj => ?_, fun j hj => ?_, fun j k hj hk hjk => ?_, fun j k hj hk hjk => ?_, fun j k hj hk hjk => ?_, fun j k hj hk hjk => ?_⟩
  · rcases set_cases j hj with ⟨e, e2⟩ | ⟨e, hk, e2⟩
    · subst e
      rw [e2, show updY f j { f j with pairs := l } j = { f j with pairs := l } from if_pos rfl]
      have z := x.el j hi
      exact ⟨z.given, (z.list.stay st1 (x.slvpv j hi)).stay st (x.vlv j hi).symm, o1.stay st vs.symm⟩
    · rw [e2, show updY f i { f i with pairs := l } j = f j from if_neg e]
      have z := x.el j hk
      exact ⟨z.given, (z.list.stay st1 (x.olvpv j i hk hi e)).stay st (x.vlv j hk).symm, (z.pairs.stay st1 (x.opvpv j i hk hi e)).stay st (x.vpv j hk).symm⟩
  · rcases set_cases j hj with ⟨e, e2⟩ | ⟨e, hk, e2⟩
    · rw [e2]; exact x.vlv i hi
    · rw [e2]; exact x.vlv j hk
  · rcases set_cases j hj with ⟨e, e2⟩ | ⟨e, hk, e2⟩
    · rw [e2]; exact vs
    · rw [e2]; exact x.vpv j hk
  · rcases set_cases j hj with ⟨e, e2⟩ | ⟨e, hk, e2⟩
    · rw [e2]; exact (sl i hi).symm
    · rw [e2]; exact x.slvpv j hk
  · rcases set_cases j hj with ⟨e, e2⟩ | ⟨e, hj2, e2⟩ <;> rcases set_cases k hk with ⟨d, d2⟩ | ⟨d, hk2, d2⟩
    · omega
    · rw [e2, d2]; exact x.olvlv i k hi hk2 (fun q => d q.symm)
    · rw [e2, d2]; exact x.olvlv j i hj2 hi e
    · rw [e2, d2]; exact x.olvlv j k hj2 hk2 hjk
  · rcases set_cases j hj with ⟨e, e2⟩ | ⟨e, hj2, e2⟩ <;> rcases set_cases k hk with ⟨d, d2⟩ | ⟨d, hk2, d2⟩
    · omega
    · rw [e2, d2]; exact x.olvpv i k hi hk2 (fun q => d q.symm)
    · rw [e2, d2]; exact (sl j hj2).symm
    · rw [e2, d2]; exact x.olvpv j k hj2 hk2 hjk
  · rcases set_cases j hj with ⟨e, e2⟩ | ⟨e, hj2, e2⟩ <;> rcases set_cases k hk with ⟨d, d2⟩ | ⟨d, hk2, d2⟩
    · omega
    · rw [e2, d2]; exact sl k hk2
    · rw [e2, d2]; exact x.opvlv j i hj2 hi e
    · rw [e2, d2]; exact x.opvlv j k hj2 hk2 hjk
  · rcases set_cases j hj with ⟨e, e2⟩ | ⟨e, hj2, e2⟩ <;> rcases set_cases k hk with ⟨d, d2⟩ | ⟨d, hk2, d2⟩
    · omega
    · rw [e2, d2]; exact sp k hk2 (fun q => d q.symm)
    · rw [e2, d2]; exact (sp j hj2 (fun q => e q.symm)).symm
    · rw [e2, d2]; exact x.opvpv j k hj2 hk2 hjk
/-- The list of one element are others now. -/
theorem OwY.app_list {h0 h h1 h2 : H} {v : CV} {rs : List RSlot} {n : Nat} {f : Nat → Slot} (x : OwY h0 h v rs n f) {i : Nat} (hi : i < rs.length) {s : CV} {l : List Int} (o1 : NwI h0 h1 (.one s) l) (st1 : Stay (.one rs[i].lv) h h1)
    (hb : ∀ j, baseOf (.one s) = some j → baseOf (.one rs[i].lv) = some j ∨ h.n ≤ j) (o : Nw encY 3 94 h0 h2 (.one v) (rs.set i { rs[i] with lv := s })) (st : Stay (.one v) h1 h2) : OwY h0 h2 v (rs.set i { rs[i] with lv := s }) n (updY f i { f i with list := l }) := by
  have vb : ∀ i, baseOf (.one v) = some i → i < h.n := fun i hi => (x.out.lt hi).1
  have bp : ∀ i (hi : i < rs.length) j, baseOf (.one rs[i].pv) = some j → j < h.n := fun i hi j hj => ((x.el i hi).pairs.lt hj).1
  have bl : ∀ i (hi : i < rs.length) j, baseOf (.one rs[i].lv) = some j → j < h.n := fun i hi j hj => ((x.el i hi).list.lt hj).1
  have vs : SepC v s := fun j hj hk => by
    rcases hb j hk with e | e
    · exact x.vlv i hi j hj e
    · have := vb j hj; omega
  have sp : ∀ k (hk : k < rs.length), SepC s rs[k].pv := fun k hk j hj hk2 => by
    rcases hb j hj with e | e
    · by_cases ik : i = k
      · subst ik; exact x.slvpv i hi j e hk2
      · exact x.olvpv i k hi hk ik j e hk2
    · have := bp k hk j hk2; omega
  have sl : ∀ k (hk : k < rs.length), i ≠ k → SepC s rs[k].lv := fun k hk ik j hj hk2 => by
    rcases hb j hj with e | e
    · exact x.olvlv i k hi hk ik j e hk2
    · have := bl k hk j hk2; omega
  refine ⟨o, by simp [x.len], fun j hj => ?_, fun j hj => ?_, fun j hj => ?_, fun j hj => ?_, fun j k hj hk hjk => ?_, fun j k hj hk hjk => ?_, fun j k hj hk hjk => ?_, fun j k hj hk hjk => ?_⟩
  · rcases set_cases j hj with ⟨e, e2⟩ | ⟨e, hk, e2⟩
    · subst e
      rw [e2, show updY f j { f j with list := l } j = { f j with list := l } from if_pos rfl]
      have z := x.el j hi
      exact ⟨z.given, o1.stay st vs.symm, (z.pairs.stay st1 (x.slvpv j hi).symm).stay st (x.vpv j hi).symm⟩
    · rw [e2, show updY f i { f i with list := l } j = f j from if_neg e]
      have z := x.el j hk
      exact ⟨z.given, (z.list.stay st1 (x.olvlv j i hk hi e)).stay st (x.vlv j hk).symm, (z.pairs.stay st1 (x.opvlv j i hk hi e)).stay st (x.vpv j hk).symm⟩
  · rcases set_cases j hj with ⟨e, e2⟩ | ⟨e, hk, e2⟩
    · rw [e2]; exact vs
    · rw [e2]; exact x.vlv j hk
  · rcases set_cases j hj with ⟨e, e2⟩ | ⟨e, hk, e2⟩
    · rw [e2]; exact x.vpv i hi
    · rw [e2]; exact x.vpv j hk
  · rcases set_cases j hj with ⟨e, e2⟩ | ⟨e, hk, e2⟩
    · rw [e2]; exact sp i hi
    · rw [e2]; exact x.slvpv j hk
  · rcases set_cases j hj with ⟨e, e2⟩ | ⟨e, hj2, e2⟩ <;> rcases set_cases k hk with ⟨d, d2⟩ | ⟨d, hk2, d2⟩
    · omega
    · rw [e2, d2]; exact sl k hk2 (fun q => d q.symm)
    · rw [e2, d2]; exact (sl j hj2 (fun q => e q.symm)).symm
    · rw [e2, d2]; exact x.olvlv j k hj2 hk2 hjk
  · rcases set_cases j hj with ⟨e, e2⟩ | ⟨e, hj2, e2⟩ <;> rcases set_cases k hk with ⟨d, d2⟩ | ⟨d, hk2, d2⟩
    · omega
    · rw [e2, d2]; exact sp k hk2
    · rw [e2, d2]; exact x.olvpv j i hj2 hi e
    · rw [e2, d2]; exact x.olvpv j k hj2 hk2 hjk
  · rcases set_cases j hj with ⟨e, e2⟩ | ⟨e, hj2, e2⟩ <;> rcases set_cases k hk with ⟨d, d2⟩ | ⟨d, hk2, d2⟩
    · omega
    · rw [e2, d2]; exact x.opvlv i k hi hk2 (fun q => d q.symm)
    · rw [e2, d2]; exact (sp j hj2).symm
    · rw [e2, d2]; exact x.opvlv j k hj2 hk2 hjk
  · rcases set_cases j hj with ⟨e, e2⟩ | ⟨e, hj2, e2⟩ <;> rcases set_cases k hk with ⟨d, d2⟩ | ⟨d, hk2, d2⟩
    · omega
    · rw [e2, d2]; exact x.opvpv i k hi hk2 (fun q => d q.symm)
    · rw [e2, d2]; exact x.opvpv j i hj2 hi e
    · rw [e2, d2]; exact x.opvpv j k hj2 hk2 hjk

theorem Sl.lt_of {α : Type} {enc : α → List CV} {k ty : Nat} {h : H} {v : AV} {l : List α} (hs : Sl enc k ty h v l) {j : Nat} (hj : baseOf v = some j) : j < h.n := by
  obtain ⟨b, c, rfl, _⟩ := hs.form
  cases b with
  | none => simp [baseOf] at hj
  | some a =>
    simp [baseOf] at hj
    have := (hs.own a _ c rfl).1
    omega
/-- All from i on, with its block. -/
theorem Sl.dropB {α : Type} {enc : α → List CV} {k ty : Nat} {h : H} {v : AV} {l : List α} (hs : Sl enc k ty h v l) {i : Nat} (hi : i ≤ l.length) {kd : IntKind} : ∃ v', cutO ty k h v (some (.one (.int kd i))) none none = some v' ∧ Sl enc k ty h v' (l.drop i) ∧ ∀ j, baseOf v' = some j → baseOf v = some j := by
  obtain ⟨v', h1, h2, h3⟩ := hs.cut (lo := i) (hi := l.length) (alo := some (.t 1)) (ahi := none) (amx := none) (x := .t 0) (T := fun t => if t = 0 then v else if t = 1 then .one (.int kd i) else if t = 2 then undefA else undefA) rfl hi (Nat.le_refl _) (fun c hc => ⟨c, by
    simp only [boundsA, maxA, highA, lowA]
    rw [boundA_at (i := i) (kd := kd) rfl hi], by cases c with | none => trivial | some c => exact hc⟩)
  refine ⟨v', h1, ?_, h3⟩
  rw [List.take_of_length_le (by simp)] at h2
  exact h2
theorem NwF.appPl {h0 h h1 : H} {c d c2 : CV} {f : Flat} {m : List Int} (x : NwF h0 h c d f) (n : NwI h0 h1 (.one c2) m) (st : Stay (.one c) h h1) (hb : ∀ j, baseOf (.one c2) = some j → baseOf (.one c) = some j ∨ h.n ≤ j) : NwF h0 h1 c2 d ⟨m, f.nl⟩ :=
  ⟨n, x.nl.stay st x.sep.symm, fun i hi hd => by
    rcases hb i hi with e | e
    · exact x.sep i e hd
    · have := (x.nl.lt hd).1; omega⟩
theorem NwF.appNl {h0 h h1 : H} {c d d2 : CV} {f : Flat} {m : List Pair} (x : NwF h0 h c d f) (n : NwP h0 h1 (.one d2) m) (st : Stay (.one d) h h1) (hb : ∀ j, baseOf (.one d2) = some j → baseOf (.one d) = some j ∨ h.n ≤ j) : NwF h0 h1 c d2 ⟨f.pl, m⟩ :=
  ⟨x.pl.stay st x.sep, n, fun i hi hd => by
    rcases hb i hd with e | e
    · exact x.sep i hi e
    · have := (x.pl.lt hi).1; omega⟩
theorem NwY.len {h0 h : H} {v : CV} {rs : List RSlot} {l : List Slot} (x : NwY h0 h v rs l) : rs.length = l.length := x.out.len
theorem NwY.at {h0 h : H} {v : CV} {rs : List RSlot} {l : List Slot} (x : NwY h0 h v rs l) {i : Nat} (hi : i < rs.length) (hl : i < l.length) : NtY h0 h rs[i] l[i] := by
  have := x.out.el i hi
  rwa [getY_eq hl] at this
theorem NwY.of_set {h0 h : H} {v : CV} {rs : List RSlot} {l : List Slot} {i : Nat} {a : Slot} (x : OwY h0 h v rs l.length (updY (getY l) i a)) : NwY h0 h v rs (l.set i a) := by
  have := x.congr (g := getY (l.set i a)) fun j hj => getY_set hj
  rw [show l.length = (l.set i a).length by simp] at this
  exact ⟨this⟩

/-- What lies elsewhere turns. -/
theorem NwY.stayOut {h0 h h1 h2 : H} {v : CV} {rs : List RSlot} {l : List Slot} {s : AV} (x0 : NwY h0 h v rs l) (x : NwY h0 h1 v rs l) (st : Stay s h1 h2) (hs : ∀ j, baseOf s = some j → j < h0.n ∨ h.n ≤ j) : NwY h0 h2 v rs l := by
  have y := x.out
  have sep : ∀ {α : Type} {enc : α → List CV} {k ty : Nat} {u : AV} {m : List α}, Nw enc k ty h0 h u m → ∀ i, baseOf u = some i → baseOf s ≠ some i := fun n i hi e => by
    have := n.lt hi
    have := hs i e
    omega
  refine ⟨⟨y.out.stay st (sep x0.out.out), y.len, fun j hj => ?_, y.vlv, y.vpv, y.slvpv, y.olvlv, y.olvpv, y.opvlv, y.opvpv⟩⟩
  have z := y.el j hj
  have z0 := x0.out.el j hj
  exact ⟨z.given, z.list.stay st (sep z0.list), z.pairs.stay st (sep z0.pairs)⟩
/-! ### with a list of problems beside -/
structure BdY (h0 h : H) (v w : CV) (rs : List RSlot) (l : List Slot) (bad : List Problem) : Prop where
  sl : NwY h0 h v rs l
  pr : NwB h0 h (.one w) bad
  sv : SepC w v
  sl1 : ∀ i (hi : i < rs.length), SepC w rs[i].lv
  sp1 : ∀ i (hi : i < rs.length), SepC w rs[i].pv
section
variable {h0 h h1 h2 : H} {v w : CV} {rs : List RSlot} {l : List Slot} {bad : List Problem} {i : Nat}
theorem BdY.grow (x : BdY h0 h v w rs l bad) (g : Grow h h1) : BdY h0 h1 v w rs l bad := ⟨x.sl.grow g, x.pr.grow g, x.sv, x.sl1, x.sp1⟩
theorem BdY.put (x : BdY h0 h v w rs l bad) (hi : i < rs.length) {r : RSlot} {a : Slot} (g : Grow h h1) (y : NtY h h1 r a) (slvpv : SepC r.lv r.pv)
    (o : Nw encY 3 94 h0 h2 (.one v) (rs.set i r)) (st : Stay (.one v) h1 h2) (hg : h0.n ≤ h.n) : BdY h0 h2 v w (rs.set i r) (l.set i a) bad := by
  have wb : ∀ i, baseOf (.one w) = some i → i < h.n := fun i hi => (x.pr.lt hi).1
  refine ⟨NwY.of_set (x.sl.out.put hi g y slvpv o st hg), (x.pr.grow g).stay st x.sv, x.sv, fun j hj => ?_, fun j hj => ?_⟩
  · rcases set_cases j hj with ⟨e, e2⟩ | ⟨e, hk, e2⟩
    · rw [e2]; exact Sep.new wb fun j hj => (y.list.lt hj).2
    · rw [e2]; exact x.sl1 j hk
  · rcases set_cases j hj with ⟨e, e2⟩ | ⟨e, hk, e2⟩
    · rw [e2]; exact Sep.new wb fun j hj => (y.pairs.lt hj).2
    · rw [e2]; exact x.sp1 j hk
theorem BdY.app_pairs (x : BdY h0 h v w rs l bad) (hi : i < rs.length) (hl : i < l.length) {s : CV} {m : List Pair} (o1 : NwP h0 h1 (.one s) m) (st1 : Stay (.one rs[i].pv) h h1)
    (hb : ∀ j, baseOf (.one s) = some j → baseOf (.one rs[i].pv) = some j ∨ h.n ≤ j) (o : Nw encY 3 94 h0 h2 (.one v) (rs.set i { rs[i] with pv := s })) (st : Stay (.one v) h1 h2) : BdY h0 h2 v w (rs.set i { rs[i] with pv := s }) (l.set i { l[i] with pairs := m }) bad := by
  have wb : ∀ i, baseOf (.one w) = some i → i < h.n := fun i hi => (x.pr.lt hi).1
  have e := x.sl.out.app_pairs hi o1 st1 hb o st
  rw [getY_eq hl] at e
  refine ⟨NwY.of_set e, (x.pr.stay st1 (x.sp1 i hi)).stay st x.sv, x.sv, fun j hj => ?_, fun j hj => ?_⟩
  · rcases set_cases j hj with ⟨e, e2⟩ | ⟨e, hk, e2⟩
    · rw [e2]; exact x.sl1 i hi
    · rw [e2]; exact x.sl1 j hk
  · rcases set_cases j hj with ⟨e, e2⟩ | ⟨e, hk, e2⟩
    · rw [e2]
      intro j hj hk
      rcases hb j hk with e3 | e3
      · exact x.sp1 i hi j hj e3
      · have := wb j hj; omega
    · rw [e2]; exact x.sp1 j hk
theorem BdY.app_list (x : BdY h0 h v w rs l bad) (hi : i < rs.length) (hl : i < l.length) {s : CV} {m : List Int} (o1 : NwI h0 h1 (.one s) m) (st1 : Stay (.one rs[i].lv) h h1)
    (hb : ∀ j, baseOf (.one s) = some j → baseOf (.one rs[i].lv) = some j ∨ h.n ≤ j) (o : Nw encY 3 94 h0 h2 (.one v) (rs.set i { rs[i] with lv := s })) (st : Stay (.one v) h1 h2) : BdY h0 h2 v w (rs.set i { rs[i] with lv := s }) (l.set i { l[i] with list := m }) bad := by
  have wb : ∀ i, baseOf (.one w) = some i → i < h.n := fun i hi => (x.pr.lt hi).1
  have e := x.sl.out.app_list hi o1 st1 hb o st
  rw [getY_eq hl] at e
  refine ⟨NwY.of_set e, (x.pr.stay st1 (x.sl1 i hi)).stay st x.sv, x.sv, fun j hj => ?_, fun j hj => ?_⟩
  · rcases set_cases j hj with ⟨e, e2⟩ | ⟨e, hk, e2⟩
    · rw [e2]
      intro j hj hk
      rcases hb j hk with e3 | e3
      · exact x.sl1 i hi j hj e3
      · have := wb j hj; omega
    · rw [e2]; exact x.sl1 j hk
  · rcases set_cases j hj with ⟨e, e2⟩ | ⟨e, hk, e2⟩
    · rw [e2]; exact x.sp1 i hi
    · rw [e2]; exact x.sp1 j hk
/-- The problems are others now. -/
theorem BdY.push (x : BdY h0 h v w rs l bad) {w2 : CV} {bad2 : List Problem} (o : NwB h0 h1 (.one w2) bad2) (st : Stay (.one w) h h1) (hb : ∀ j, baseOf (.one w2) = some j → baseOf (.one w) = some j ∨ h.n ≤ j) : BdY h0 h1 v w2 rs l bad2 := by
  have y := x.sl.out
  refine ⟨⟨⟨y.out.stay st x.sv.symm, y.len, fun j hj => ?_, y.vlv, y.vpv, y.slvpv, y.olvlv, y.olvpv, y.opvlv, y.opvpv⟩⟩, o, fun j hj hk => ?_, fun i hi j hj hk => ?_, fun i hi j hj hk => ?_⟩
  · have z := y.el j hj
    exact ⟨z.given, z.list.stay st (x.sl1 j hj).symm, z.pairs.stay st (x.sp1 j hj).symm⟩
  · rcases hb j hj with e | e
    · exact x.sv j e hk
    · have := (y.out.lt hk).1; omega
  · rcases hb j hj with e | e
    · exact x.sl1 i hi j e hk
    · have := ((y.el i hi).list.lt hk).1; omega
  · rcases hb j hj with e | e
    · exact x.sp1 i hi j e hk
    · have := ((y.el i hi).pairs.lt hk).1; omega
theorem BdY.scalar (x : BdY h0 h v w rs l bad) (hv : v.scalar = true) (hw : w.scalar = true) (h2 : H) : BdY h0 h2 v w rs l bad := ⟨x.sl.scalar hv h2, x.pr.scalar (by simpa [AV.scalar] using hw) h2, x.sv, x.sl1, x.sp1⟩
theorem BdY.len (x : BdY h0 h v w rs l bad) : rs.length = l.length := x.sl.len
theorem BdY.mid {p q : Nat} (x : BdY h0 h v w rs l bad) (m : Mid p q h h1) (hb : q ≤ h0.n) : BdY h0 h1 v w rs l bad := ⟨x.sl.mid m hb, x.pr.past m hb, x.sv, x.sl1, x.sp1⟩
end
end Go.Proofs.Ytekkimfdcbgcoab.Am
