/- The abstract machine: an operation that has no effect on the heap gives in the model a value that the machine's stands for, and the model's world stays. -/
import Derived.Test.YtnphlonhogcedaaAmRel
namespace Go.Proofs.Ytnphlonhogcedaa.Am
open Go

section
variable {P : Program} {w : World} {t : TypeId}
theorem run_typeInfoA {i : TypeInfo} (h : P.info? t = some i) : (typeInfo t).run P w = .ok i w := by
  unfold typeInfo program
  simp [Sem.run, h]
theorem run_underlyingA {d : TypeDesc} (h : P.underlying t = some d) : (underlying t).run P w = .ok d w := by
  unfold underlying program
  simp [Sem.run, h]
theorem run_sizeA {k : Nat} (h : sizeT P t = some k) : (sizeOf t).run P w = .ok k w := by
  unfold sizeT at h
  obtain ⟨i, h1, h2⟩ := Option.map_eq_some_iff.1 h
  unfold sizeOf
  simp [run_typeInfoA h1, h2]
theorem run_isAggA {b : Bool} (h : isAggT P t = some b) : (isAgg t).run P w = .ok b w := by
  unfold isAggT at h
  unfold isAgg
  split at h
  · rename_i h1; simp at h; subst h; simp [run_underlyingA h1]
  · rename_i h1; simp at h; subst h; simp [run_underlyingA h1]
  · rename_i d h2 h3 h1
    simp at h
    subst h
    simp only [Sem.run_bind, run_underlyingA h1, Result.andThen_ok]
    cases d <;> first | rfl | exact (h2 _ rfl).elim | exact (h3 _ _ rfl).elim
  · simp at h
theorem zeroT_spec {l : List CV} (h : zeroT P t = some l) : ∃ i z, P.info? t = some i ∧ i.zero = some z ∧ cvsOf z.cells.toList = some l ∧ l.length = i.size := by
  unfold zeroT at h
  split at h
  · rename_i i h1
    split at h
    · rename_i z h2
      split at h
      · rename_i l' h3
        split at h
        · rename_i h4
          simp at h
          subst h
          exact ⟨i, z, h1, h2, h3, h4⟩
        · simp at h
      · simp at h
    · simp at h
  · simp at h
theorem run_zeroA {i : TypeInfo} {z : Value} (h : P.info? t = some i) (hz : i.zero = some z) : (zeroValue t).run P w = .ok z w := by
  unfold zeroValue
  simp [run_typeInfoA h, hz]
end

section
variable {P : Program} {β : Inj} {w : World} {T : Tm} {ρ : Operand → Value} {h : H}

/-- What is loaded. -/
theorem load_rel (hR : Rel P β h w) {a : Nat × Nat} {m : Addr} (ha : addrR β a m) {k : Nat} {cs : List CV} (hl : h.load a k = some cs) :
    ∃ vs : List Value, vs.length = k ∧ relL P β w cs vs ∧ ∀ (j : Nat) (v : Value), vs[j]? = some v → w.cell? (m.add j) = some v := by
  obtain ⟨b, d, h1, rfl⟩ := ha
  unfold H.load at hl
  split at hl
  · rename_i hc
    obtain ⟨⟨_, hd⟩, hk⟩ := hc
    simp at hl
    subst hl
    obtain ⟨cells, ty, fr, h2, _, h3⟩ := hR.live _ _ _ hd h1
    have hv : ∀ j, j < k → ∃ c v, (h.f a.1).cs[a.2 + j]? = some c ∧ cells[d + a.2 + j]? = some v ∧ relC P β w c v := by
      intro j hj
      have h4 : (h.f a.1).cs[a.2 + j]? = some ((h.f a.1).cs[a.2 + j]'(by omega)) := List.getElem?_eq_getElem (by omega)
      obtain ⟨v, h5, h6⟩ := h3 _ _ h4
      exact ⟨_, v, h4, by rw [Nat.add_assoc]; exact h5, h6⟩
    have hs : k = 0 ∨ d + a.2 + k ≤ cells.size := by
      rcases Nat.eq_zero_or_pos k with h0 | h0
      · exact .inl h0
      · right
        obtain ⟨c, v, _, h5, _⟩ := hv (k - 1) (by omega)
        have := (Array.getElem?_eq_some_iff.1 h5).1
        omega
    refine ⟨(cells.toList.drop (d + a.2)).take k, ?_, ?_, ?_⟩
    · rcases hs with rfl | hs
      · simp
      · simp; omega
    · refine relL.of_get ?_ ?_
      · rcases hs with rfl | hs
        · simp
        · simp; omega
      · intro j c v hc hv'
        rw [List.getElem?_take] at hc hv'
        split at hc
        · rename_i hj
          rw [if_pos hj] at hv'
          rw [List.getElem?_drop] at hc hv'
          obtain ⟨c2, v2, e1, e2, e3⟩ := hv j hj
          rw [e1] at hc
          simp at hc hv'
          rw [e2] at hv'
          simp at hv'
          subst hc
          subst hv'
          exact e3
        · simp at hc
    · intro j v hv'
      rw [List.getElem?_take] at hv'
      split at hv'
      · rw [List.getElem?_drop] at hv'
        unfold World.cell? Addr.add
        simp at hv'
        by_cases hj : j = 0
        · subst hj
          simp [h2]
          simpa using hv'
        · simp [hj, h2]
          exact hv'
      · simp at hv'
  · simp at hl

theorem addrR.spot {a : Nat × Nat} {m : Addr} (h : addrR β a m) : m.spot = none := by
  obtain ⟨b, d, _, rfl⟩ := h
  rfl
theorem addrR.add {a : Nat × Nat} {m : Addr} (h : addrR β a m) (n : Nat) : addrR β (a.1, a.2 + n) (m.add n) := by
  obtain ⟨b, d, h1, rfl⟩ := h
  refine ⟨b, d, h1, ?_⟩
  unfold Addr.add
  by_cases hn : n = 0
  · simp [hn]
  · simp [hn]; omega

theorem run_loadVarA (hR : Rel P β h w) {a : Nat × Nat} {m : Addr} (ha : addrR β a m) {t : TypeId} {k : Nat} {agg : Bool} {cs : List CV}
    (hg : isAggT P t = some agg) (hk : if agg then sizeT P t = some k else k = 1) (hl : h.load a k = some cs) :
    ∃ v : Value, (loadVar t m).run P w = .ok v w ∧ relV P β w (if agg then .agg cs else match cs with | [c] => .one c | _ => undefA) v := by
  obtain ⟨vs, h1, h2, h3⟩ := load_rel hR ha hl
  unfold loadVar
  cases agg with
  | true =>
    simp only [if_true] at hk
    subst h1
    refine ⟨.agg vs.toArray, ?_, vs.toArray, rfl, by simpa using h2⟩
    simp [run_isAggA hg, run_sizeA hk, run_loadCells_list w m vs h3]
  | false =>
    simp only [Bool.false_eq_true, if_false] at hk
    subst hk
    match vs, h1 with
    | [v], _ =>
      match cs, h2 with
      | [c], h2 =>
        refine ⟨v, ?_, h2.1⟩
        have h4 := h3 0 v (by simp)
        simp only [Addr.add, if_true] at h4
        simp [run_isAggA hg, load, Sem.run, h4]


theorem strBytes_rel : ∀ {cs : List CV} {vs : List Value} {l : List Int}, relL P β w cs vs → strBytes cs = some l → vs = l.map (Value.int .u8)
  | [], [], l, _, hb => by
    simp [strBytes] at hb
    subst hb
    rfl
  | c :: r, v :: s, l, ⟨h1, h2⟩, hb => by
    unfold strBytes at hb
    split at hb
    · rename_i he; cases he
    · rename_i n r' he
      cases he
      obtain ⟨l', h3, rfl⟩ := Option.map_eq_some_iff.1 hb
      rw [strBytes_rel h2 h3, show v = _ from h1]
      rfl
    · simp at hb
  | [], _ :: _, _, h, _ => h.elim
  | _ :: _, [], _, h, _ => h.elim

theorem run_value (s : Sem Value) {u : Value} (hs : s.run P w = .ok u w) : (do pure (Next.value (← s)) : Sem Next).run P w = .ok (.value u) w := by
  simp [hs]

/-! ### bounds of a cut -/
theorem boundA_run {x : Operand} {ax : AX} (hO : relO P β w T ρ) (hx : opnd x = some ax) {y y' i : Nat} (hy : y ≤ y') (hb : boundA T ax y = some i) (code : BoundsCode) :
    (Instr.sliceBound (ρ x) y' code).run P w = .ok i w ∧ i ≤ y := by
  have hr := hO x ax hx
  unfold boundA at hb
  split at hb
  · rename_i k j he
    rw [he] at hr
    have hv : ρ x = .int k j := hr
    split at hb
    · rename_i hc
      simp at hb
      subst hb
      refine ⟨?_, by omega⟩
      unfold Instr.sliceBound
      rw [hv]
      simp only [asIntOf]
      have : (0 ≤ j ∧ j ≤ (y' : Int)) := by omega
      simp [this]
    · simp at hb
  · simp at hb

theorem boundsA_run (isS : Bool) {lo hi mx : Option Operand} {alo ahi amx : Option AX} (hO : relO P β w T ρ) (h1 : oopnd lo = some alo) (h2 : oopnd hi = some ahi) (h3 : oopnd mx = some amx)
    {n c' : Nat} {c : Option Nat} (hn : n ≤ c') (hc : c = none ∨ c = some c') {l h : Nat} {m : Option Nat} (hb : boundsA T n c alo ahi amx = some (l, h, m)) :
    ∃ m', (Instr.sliceBounds isS n c' (lo.map ρ) (hi.map ρ) (mx.map ρ)).run P w = .ok (l, h, m') w ∧ l ≤ h ∧ h ≤ m' ∧ m' ≤ c' ∧ (m = none ∨ m = some m') := by
  unfold boundsA at hb
  have hcg : c.getD n ≤ c' := by rcases hc with rfl | rfl <;> simp <;> omega
  split at hb
  · simp at hb
  rename_i m0 hm0
  split at hb
  · simp at hb
  rename_i h0 hh0
  split at hb
  · simp at hb
  rename_i l0 hl0
  simp only [Option.some.injEq, Prod.mk.injEq] at hb
  obtain ⟨rfl, rfl, rfl⟩ := hb
  -- the greatest
  have hm : ∃ m' : Nat, (match (mx.map ρ : Option Value) with | some v => Instr.sliceBound v c' (if isS then .slice3Acap else .slice3Alen) | none => pure c' : Sem Nat).run P w = .ok m' w ∧ m' ≤ c' ∧
      ((m0 = none ∧ c = none ∧ mx = none ∧ m' = c') ∨ (m0 = some m' ∧ (mx = none → m' = c'))) := by
    unfold maxA at hm0
    cases mx with
    | none =>
      simp [oopnd] at h3
      subst h3
      simp at hm0
      subst hm0
      refine ⟨c', rfl, Nat.le_refl _, ?_⟩
      rcases hc with rfl | rfl <;> simp
    | some x =>
      simp only [oopnd, Option.map_eq_some_iff] at h3
      obtain ⟨ax, h4, rfl⟩ := h3
      simp only [Option.map_eq_some_iff] at hm0
      obtain ⟨m1, hbx, rfl⟩ := hm0
      obtain ⟨h5, h6⟩ := boundA_run hO h4 hcg hbx (if isS then .slice3Acap else .slice3Alen)
      exact ⟨m1, h5, by omega, .inr ⟨rfl, by simp⟩⟩
  obtain ⟨m', hm1, hm2, hm3⟩ := hm
  have hmg : m0.getD n ≤ m' := by
    rcases hm3 with ⟨rfl, _, _, rfl⟩ | ⟨rfl, _⟩ <;> simp
    omega
  have hhi : h0 ≤ m' ∧ (match (hi.map ρ : Option Value), (mx.map ρ : Option Value) with
      | some v, some _ => Instr.sliceBound v m' .slice3B
      | some v, none => Instr.sliceBound v m' (if isS then .sliceAcap else .sliceAlen)
      | none, none => pure n
      | none, some _ => stuck "Slice: max without high" : Sem Nat).run P w = .ok h0 w := by
    unfold highA at hh0
    cases hi with
    | none =>
      simp [oopnd] at h2
      subst h2
      simp only at hh0
      cases mx with
      | none =>
        simp [oopnd] at h3
        subst h3
        simp at hh0
        subst hh0
        refine ⟨?_, rfl⟩
        rcases hm3 with ⟨_, _, _, rfl⟩ | ⟨_, h7⟩
        · exact hn
        · rw [h7 rfl]; exact hn
      | some x =>
        simp only [oopnd, Option.map_eq_some_iff] at h3
        obtain ⟨ax, h4, rfl⟩ := h3
        simp at hh0
    | some x =>
      simp only [oopnd, Option.map_eq_some_iff] at h2
      obtain ⟨ax, h4, rfl⟩ := h2
      simp only at hh0
      cases mx with
      | none =>
        obtain ⟨h5, h6⟩ := boundA_run hO h4 hmg hh0 (if isS then .sliceAcap else .sliceAlen)
        exact ⟨by omega, h5⟩
      | some y =>
        obtain ⟨h5, h6⟩ := boundA_run hO h4 hmg hh0 .slice3B
        exact ⟨by omega, h5⟩
  obtain ⟨hh1, hh2⟩ := hhi
  have hlo : l0 ≤ h0 ∧ (match (lo.map ρ : Option Value) with
      | some v => Instr.sliceBound v h0 (if (mx.map ρ).isSome then .slice3C else .sliceB)
      | none => pure 0 : Sem Nat).run P w = .ok l0 w := by
    unfold lowA at hl0
    cases lo with
    | none =>
      simp [oopnd] at h1
      subst h1
      simp at hl0
      subst hl0
      exact ⟨Nat.zero_le _, rfl⟩
    | some x =>
      simp only [oopnd, Option.map_eq_some_iff] at h1
      obtain ⟨ax, h4, rfl⟩ := h1
      simp only at hl0
      obtain ⟨h5, h6⟩ := boundA_run hO h4 (Nat.le_refl h0) hl0 (if (mx.map ρ).isSome then .slice3C else .sliceB)
      exact ⟨h6, h5⟩
  obtain ⟨hl1, hl2⟩ := hlo
  refine ⟨m', ?_, hl1, hh1, hm2, ?_⟩
  · unfold Instr.sliceBounds
    cases mx <;> cases hi <;> cases lo <;> simp_all
  · rcases hm3 with ⟨rfl, _⟩ | ⟨rfl, _⟩
    · exact .inl rfl
    · exact .inr rfl
end
end Go.Proofs.Ytnphlonhogcedaa.Am
