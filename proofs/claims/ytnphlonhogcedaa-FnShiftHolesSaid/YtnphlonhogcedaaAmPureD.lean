/- The abstract machine: structs built, rows made; then all operations without effect on the heap together. -/
import Derived.Test.YtnphlonhogcedaaAmPureC
import Derived.Laws.Tables
import Derived.Laws.MakeOwn
import Derived.Great.BuildSlice
namespace Go.Proofs.Ytnphlonhogcedaa.Am
open Go

theorem splice_foldl (off : Nat) : ∀ (l : List Value) (k : Nat) (cells : Array Value), off + k + l.length ≤ cells.size →
    ((l.zipIdx k).foldl (fun cs x => cs.setIfInBounds (off + x.2) x.1) cells).toList = cells.toList.take (off + k) ++ (l ++ cells.toList.drop (off + k + l.length))
  | [], k, cells, _ => by simp
  | v :: l, k, cells, h => by
    simp only [List.zipIdx_cons, List.foldl_cons]
    rw [splice_foldl off l (k + 1) (cells.setIfInBounds (off + k) v) (by simp at h ⊢; omega)]
    simp only [List.length_cons, Array.toList_setIfInBounds] at h ⊢
    have h1 : off + k < cells.toList.length := by simp; omega
    rw [List.take_set, List.drop_set]
    have h2 : ¬ (off + (k + 1) + l.length < off + k + 1) := by omega
    have e1 : off + (k + 1) = off + k + 1 := by omega
    have e2 : off + (k + 1) + l.length = off + k + (l.length + 1) := by omega
    rw [e2, if_pos (by omega), e1]
    have h3 : (cells.toList.take (off + k + 1)).set (off + k) v = cells.toList.take (off + k) ++ [v] := by
      rw [List.take_succ_eq_append_getElem h1]
      rw [List.set_append_right _ _ (by simp; omega)]
      have h4 : (cells.toList.take (off + k)).length = off + k := by simp; omega
      simp [h4]
    rw [h3]
    simp

section
variable {P : Program} {β : Inj} {w : World} {T : Tm} {ρ : Operand → Value} {h : H} {v : AV}

theorem fill_rel {place : Nat → Option (Nat × Nat)} : ∀ {ps : List (Nat × Operand)} {aps : List (Nat × Nat × AX)} {zs cs : List CV} {cells : Array Value},
    relO P β w T ρ → List.length aps = List.length ps →
    (∀ (j : Nat) (i : Nat) (x : Operand) (a : Nat × Nat × AX), ps[j]? = some (i, x) → aps[j]? = some a → place i = some (a.1, a.2.1) ∧ opnd x = some a.2.2) →
    relL P β w zs cells.toList → fillA zs (aps.map fun p => (p.1, p.2.1, p.2.2.ev T)) = some cs →
    ∃ cells', Instr.fill place cells (ps.map fun p => (p.1, ρ p.2)) = some cells' ∧ relL P β w cs cells'.toList
  | [], [], zs, cs, cells, hO, hl, hp, hz, hf => by
    simp [fillA] at hf
    subst hf
    exact ⟨cells, rfl, hz⟩
  | (i, x) :: ps, a :: aps, zs, cs, cells, hO, hl, hp, hz, hf => by
    obtain ⟨h1, h2⟩ := hp 0 i x a rfl rfl
    have h3 := hO x _ h2
    simp only [List.map_cons, fillA] at hf
    split at hf
    · simp at hf
    · rename_i as ha
      have h4 := h3.cells ha
      have h5 : as.length = (ρ x).cells.size := by simpa using h4.length
      split at hf
      · rename_i hc
        obtain ⟨hc1, hc2⟩ := hc
        have h6 : zs.length = cells.size := by simpa using hz.length
        have h7 : ((ρ x).cells.toList.zipIdx.foldl (fun cs y => cs.setIfInBounds (a.1 + y.2) y.1) cells).toList = cells.toList.take a.1 ++ ((ρ x).cells.toList ++ cells.toList.drop (a.1 + a.2.1)) := by
          have := splice_foldl a.1 (ρ x).cells.toList 0 cells (by simp; omega)
          simp only [Nat.add_zero] at this
          rw [this]
          have e : (ρ x).cells.toList.length = a.2.1 := by simp; omega
          rw [e]
        obtain ⟨cells', h8, h9⟩ := fill_rel (ps := ps) (aps := aps) hO (by simpa using hl) (fun j i x a hj ha => hp (j + 1) i x a (by simpa using hj) (by simpa using ha))
          (cells := ((ρ x).cells.toList.zipIdx.foldl (fun cs y => cs.setIfInBounds (a.1 + y.2) y.1) cells)) (by rw [h7]; exact (hz.take _).append (h4.append (hz.drop _))) hf
        refine ⟨cells', ?_, h9⟩
        simp only [List.map_cons, Instr.fill, h1]
        rw [if_neg (by simp; omega), ← h8]
        congr 1
        rw [← Array.foldl_toList]
        simp
      · simp at hf
  | [], _ :: _, _, _, _, _, hl, _, _, _ => by simp at hl
  | _ :: _, [], _, _, _, _, hl, _, _, _ => by simp at hl

theorem partsS_spec {places : List (Nat × Nat)} : ∀ {ps : List (Nat × Operand)} {aps : List (Nat × Nat × AX)}, partsS places ps = some aps → aps.length = ps.length ∧
    ∀ (j : Nat) (i : Nat) (x : Operand) (a : Nat × Nat × AX), ps[j]? = some (i, x) → aps[j]? = some a → places.toArray[i]? = some (a.1, a.2.1) ∧ opnd x = some a.2.2
  | [], aps, h => by
    simp [partsS] at h
    subst h
    simp
  | (i, x) :: ps, aps, h => by
    unfold partsS at h
    split at h
    · rename_i p a l h1 h2 h3
      simp at h
      subst h
      obtain ⟨h4, h5⟩ := partsS_spec h3
      refine ⟨by simp [h4], ?_⟩
      intro j i' x' a' hj ha
      cases j with
      | zero =>
        simp at hj ha
        obtain ⟨rfl, rfl⟩ := hj
        subst ha
        exact ⟨by simpa using h1, h2⟩
      | succ j => exact h5 j i' x' a' (by simpa using hj) (by simpa using ha)
    · simp at h

theorem partsR_spec {k : Nat} : ∀ {ps : List (Nat × Operand)} {aps : List (Nat × Nat × AX)}, partsR k ps = some aps → aps.length = ps.length ∧
    ∀ (j : Nat) (i : Nat) (x : Operand) (a : Nat × Nat × AX), ps[j]? = some (i, x) → aps[j]? = some a → (fun i => some (i * k, k)) i = some (a.1, a.2.1) ∧ opnd x = some a.2.2
  | [], aps, h => by
    simp [partsR] at h
    subst h
    simp
  | (i, x) :: ps, aps, h => by
    unfold partsR at h
    split at h
    · rename_i a l h2 h3
      simp at h
      subst h
      obtain ⟨h4, h5⟩ := partsR_spec h3
      refine ⟨by simp [h4], ?_⟩
      intro j i' x' a' hj ha
      cases j with
      | zero =>
        simp at hj ha
        obtain ⟨rfl, rfl⟩ := hj
        subst ha
        exact ⟨rfl, h2⟩
      | succ j => exact h5 j i' x' a' (by simpa using hj) (by simpa using ha)
    · simp at h

theorem pure_build {t : TypeId} {parts : Array (Nat × Operand)} {fs : Array Field} {pl : List (Nat × Nat)} {z : List CV} {aps : List (Nat × Nat × AX)} (hO : relO P β w T ρ) (ht : P.underlying t = some (.struct fs))
    (hz : zeroT P t = some z) (hpl : placesT P fs = some pl) (hp : partsS pl parts.toList = some aps) (hv : pureA (.build z aps) T h = some v) : PureOk P β w ρ (.build t parts) v := by
  simp only [pureA] at hv
  obtain ⟨cs, h1, rfl⟩ := Option.map_eq_some_iff.1 hv
  obtain ⟨i, zv, h2, h3, h4, h5⟩ := zeroT_spec hz
  obtain ⟨h6, h7⟩ := partsS_spec hp
  obtain ⟨cells', h8, h9⟩ := fill_rel (P := P) (β := β) (w := w) (place := fun i => pl.toArray[i]?) (cells := zv.cells) hO h6 h7 (cvsOf_rel h4) h1
  refine ⟨.agg cells', fun o ho => ?_, cells', rfl, h9⟩
  have hb : P.built t (parts.map fun (i, x) => (i, ρ x)).toList = some cells' := by
    unfold placesT at hpl
    simp only [Program.built, h2, ht, h3, hpl]
    rw [← h8]
    simp
  simp [execOp, ho, run_build w t _ _ hb]

theorem repl_length (z : List CV) : ∀ n, (repl z n).length = n * z.length
  | 0 => by simp [repl]
  | n + 1 => by simp [repl, repl_length z n, Nat.add_mul]; omega
theorem repl_get (z : List CV) : ∀ (n i : Nat), i < n * z.length → (repl z n)[i]? = z[i % z.length]?
  | 0, i, h => by simp at h
  | n + 1, i, h => by
    unfold repl
    by_cases hi : i < z.length
    · rw [List.getElem?_append_left hi, Nat.mod_eq_of_lt hi]
    · have h1 : z.length ≤ i := by omega
      rw [List.getElem?_append_right h1, repl_get z n (i - z.length) (by rw [Nat.add_mul] at h; omega)]
      congr 1
      rw [Nat.mod_eq_sub_mod h1]

/-- Zero values, one behind the other. -/
theorem repl_rel {z : List CV} {cells : Array Value} (hz : relL P β w z cells.toList) (n : Nat) : relL P β w (repl z n) ((Array.range (n * cells.size)).map (cells[· % cells.size]!)).toList := by
  have hl : z.length = cells.size := by simpa using hz.length
  refine relL.of_get (by simp [repl_length, hl]) ?_
  intro i c v hc hv
  have hi : i < n * z.length := by
    have := (List.getElem?_eq_some_iff.1 hc).1
    rwa [repl_length] at this
  rw [repl_get z n i hi] at hc
  obtain ⟨u, h1, h2⟩ := hz.get hc
  simp only [Array.toList_map, List.getElem?_map, Option.map_eq_some_iff] at hv
  obtain ⟨j, hj, rfl⟩ := hv
  simp only [Array.toList_range] at hj
  rw [List.getElem?_range (by rw [← hl]; exact hi)] at hj
  simp at hj
  subst hj
  rw [hl] at h1
  have h3 : cells[i % cells.size]? = some u := by simpa using h1
  simp only [getElem!_def, h3]
  exact h2

theorem compBin_sound {op : BinOp} {t u : TypeId} {x y : Operand} {ax ay : AX} {ao : AOp} (hO : relO P β w T ρ) (hx : opnd x = some ax) (hy : opnd y = some ay) (hc : compBin P op t ax ay = some ao)
    (hv : pureA ao T h = some v) : PureOk P β w ρ (.binOp op t x y u) v := by
  unfold compBin at hc
  split at hc
  · rename_i ht
    cases op <;> simp at hc <;> subst hc
    · exact pure_eqb hO hx hy ht rfl hv
    · exact pure_eqb hO hx hy ht rfl hv
  · simp at hc
    subst hc
    exact pure_bin hO hx hy hv
  · simp at hc
    subst hc
    exact pure_bin hO hx hy hv
  · rename_i e ht
    cases op <;> simp at hc <;> subst hc
    · exact pure_eqnil hO hx hy ht rfl hv
    · exact pure_eqnil hO hx hy ht rfl hv
  · rename_i fs ht
    split at hc
    · rename_i ks hk
      split at hc
      · rename_i hg
        cases op <;> simp at hc <;> subst hc
        · exact pure_eqst hO hx hy ht hk hg.1 hg.2 rfl hv
        · exact pure_eqst hO hx hy ht hk hg.1 hg.2 rfl hv
      · simp at hc
    · simp at hc
  · simp at hc

theorem compCall_pure {c : Call} {ao : AOp} (hO : relO P β w T ρ) (hc : compCall P c = some ao) (hv : pureA ao T h = some v) : PureOk P β w ρ (.call c) v := by
  unfold compCall at hc
  split at hc
  · obtain ⟨l, _, rfl⟩ := Option.map_eq_some_iff.1 hc
    simp [pureA] at hv
  · split at hc
    · simp at hc
      subst hc
      simp [pureA] at hv
    · simp at hc
  · simp at hc
  · rename_i b hb
    split at hc
    · split at hc
      · split at hc
        · split at hc
          · split at hc
            · split at hc
              · simp at hc
                subst hc
                simp [pureA] at hv
              · simp at hc
            · simp at hc
          · obtain ⟨_, _, _, _, _, _, _, _, rfl⟩ := compAppz_spec hc
            simp [pureA] at hv
        · simp at hc
      · simp at hc
    · rename_i x ha
      split at hc
      · rename_i t ax ht hx
        split at hc
        · rename_i hu
          simp at hc
          subst hc
          exact pure_lenStr hO hx hu hb ha ht hv
        · rename_i e hu
          simp at hc
          subst hc
          exact pure_len hO hx hu hb ha ht hv
        · simp at hc
      · simp at hc
    · rename_i x ha
      split at hc
      · rename_i t ax ht hx
        split at hc
        · rename_i e hu
          simp at hc
          subst hc
          exact pure_cap hO hx hu hb ha ht hv
        · simp at hc
      · simp at hc
    · rename_i x y ha
      split at hc
      · rename_i ax ay hx hy
        simp at hc
        subst hc
        exact pure_min hO hx hy hb ha hv
      · simp at hc
    · simp at hc

/-- An operation without effect on the heap. -/
theorem pure_sound {op : Op} {ao : AOp} (hR : Rel P β h w) (hO : relO P β w T ρ) (hc : compOp P op = some ao) (hv : pureA ao T h = some v) : PureOk P β w ρ op v := by
  unfold compOp at hc
  split at hc
  · obtain ⟨ax, hx, rfl⟩ := Option.map_eq_some_iff.1 hc
    exact (pure_mov hO hx hv).1
  · obtain ⟨ax, hx, rfl⟩ := Option.map_eq_some_iff.1 hc
    exact (pure_mov hO hx hv).2
  · split at hc
    · rename_i h1 h2 h3
      simp at hc
      subst hc
      exact pure_pick hO h1 h2 h3 hv
    · simp at hc
  · obtain ⟨z, hz, rfl⟩ := Option.map_eq_some_iff.1 hc
    simp [pureA] at hv
  · obtain ⟨z, hz, rfl⟩ := Option.map_eq_some_iff.1 hc
    simp [pureA] at hv
  · split at hc
    · rename_i fs z ht hz
      split at hc
      · rename_i pl hpl
        obtain ⟨aps, hp, rfl⟩ := Option.map_eq_some_iff.1 hc
        exact pure_build hO ht hz hpl hp hv
      · simp at hc
    · simp at hc
  · split at hc
    · split at hc
      · split at hc
        · obtain ⟨aps, hp, rfl⟩ := Option.map_eq_some_iff.1 hc
          simp [pureA] at hv
        · simp at hc
      · simp at hc
    · simp at hc
  · split at hc
    · rename_i ax k hx hg hk
      simp at hc
      subst hc
      exact pure_load hR hO hx hg (by simpa using hk) hv
    · rename_i ax k hx hg hk
      simp at hc
      subst hc
      exact pure_load hR hO hx hg (by simp) hv
    · simp at hc
  · split at hc
    · simp at hc
      subst hc
      simp [pureA] at hv
    · simp at hc
  · obtain ⟨ax, hx, rfl⟩ := Option.map_eq_some_iff.1 hc
    exact pure_nilCheck hO hx hv
  · split at hc
    · rename_i ax ay hx hy
      exact compBin_sound hO hx hy hc hv
    · simp at hc
  · obtain ⟨ax, hx, rfl⟩ := Option.map_eq_some_iff.1 hc
    exact pure_not hO hx hv
  · split at hc
    · rename_i k0 k ax hs hd hx
      simp at hc
      subst hc
      exact pure_conv hO hx hs hd hv
    · rename_i e ax hs hd hx
      split at hc
      · rename_i he
        simp at hc
        subst hc
        exact pure_bytesStr hR hO hx hs he hd hv
      · simp at hc
    · simp at hc
  · split at hc
    · rename_i h0
      obtain ⟨as, ha, rfl⟩ := Option.map_eq_some_iff.1 hc
      exact pure_mkfn hO h0 ha hv
    · simp at hc
  · split at hc
    · split at hc
      · split at hc
        · simp at hc
          subst hc
          simp [pureA] at hv
        · simp at hc
      · simp at hc
    · simp at hc
  · split at hc
    · rename_i e ax lo hi mx ht hx h1 h2 h3
      split at hc
      · rename_i k hk
        split at hc
        · rename_i hk'
          simp at hc
          subst hc
          exact pure_slice hR hO hx h1 h2 h3 ht hk hk' hv
        · simp at hc
      · simp at hc
    · rename_i ax lo hi ht hx h1 h2 h3
      simp at hc
      subst hc
      rename_i mx0 _ _ _ _ _
      have hm : mx0 = none := by
        cases mx0 with
        | none => rfl
        | some y => simp [oopnd] at h3
      subst hm
      exact pure_sliceStr hO hx h1 h2 ht hv
    · simp at hc
  · split at hc
    · rename_i fs ax hs hx
      split at hc
      · rename_i fd hf
        split at hc
        · rename_i k hk
          split at hc
          · simp at hc
          · rename_i h0
            simp at hc
            subst hc
            exact pure_faddr hO hx hs hf hk h0 hv
        · simp at hc
      · simp at hc
    · simp at hc
  · split at hc
    · rename_i fs ax hs hx
      split at hc
      · rename_i fd hf
        split at hc
        · rename_i k hg hk
          simp at hc
          subst hc
          exact pure_field hO hx hs hf hg (by simpa using hk) hv
        · rename_i k hg hk
          simp at hc
          subst hc
          exact pure_field hO hx hs hf hg (by simp) hv
        · simp at hc
      · simp at hc
    · simp at hc
  · split at hc
    · rename_i e ax ai ht hx hi
      obtain ⟨k, hk, rfl⟩ := Option.map_eq_some_iff.1 hc
      exact pure_iaddr hO hx hi ht hk hv
    · simp at hc
  · split at hc
    · rename_i ax ai ht hx hi
      simp at hc
      subst hc
      exact pure_idxStr hO hx hi ht hv
    · simp at hc
  · obtain ⟨ax, hx, rfl⟩ := Option.map_eq_some_iff.1 hc
    exact pure_extract hO hx hv
  · exact compCall_pure hO hc hv
  · simp at hc
end
end Go.Proofs.Ytnphlonhogcedaa.Am
