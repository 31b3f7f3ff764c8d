/- The second machine: operations against those of the first one. -/
import Derived.Test.YtnphlonhogcedaaBmSim
namespace Go.Proofs.Ytnphlonhogcedaa.Am
open Go

section
variable {β : Re} {h h' : H} {T T' : Tm}

theorem rX (hT : ∀ t, rV β (T t) (T' t)) {x : AX} (hc : x.cl = true) : rV β (x.ev T) (x.ev T') := by
  cases x with
  | t n => exact hT n
  | c u => exact ⟨u, rfl, cl_rC hc⟩
theorem rXs (hT : ∀ t, rV β (T t) (T' t)) : ∀ {l : List AX}, l.all AX.cl = true → rVs β (l.map (·.ev T)) (l.map (·.ev T'))
  | [], _ => rfl
  | x :: l, hc => by
    simp only [List.all_cons, Bool.and_eq_true] at hc
    exact ⟨_, _, rfl, rX hT hc.1, rXs hT hc.2⟩

theorem fill_sim (hT : ∀ t, rV β (T t) (T' t)) : ∀ {ps : List (Nat × Nat × AX)} {z z' cs : List CV}, (ps.all fun p => p.2.2.cl) = true → rL β z z' → fillA z (ps.map fun p => (p.1, p.2.1, p.2.2.ev T)) = some cs →
    ∃ cs', fillA z' (ps.map fun p => (p.1, p.2.1, p.2.2.ev T')) = some cs' ∧ rL β cs cs'
  | [], z, z', cs, _, hz, hf => by
    simp [fillA] at hf
    subst hf
    exact ⟨z', rfl, hz⟩
  | p :: ps, z, z', cs, hc, hz, hf => by
    simp only [List.all_cons, Bool.and_eq_true] at hc
    simp only [List.map_cons, fillA] at hf ⊢
    split at hf
    · simp at hf
    · rename_i vs hv
      split at hf
      · rename_i hl
        obtain ⟨vs', h1, h2⟩ := (rX hT hc.1).cells hv
        rw [h1]
        simp only
        rw [if_pos ⟨by rw [h2.length]; exact hl.1, by rw [hz.length]; exact hl.2⟩]
        exact fill_sim hT hc.2 ((rL.take _ hz).append (h2.append (rL.drop _ hz))) hf
      · simp at hf

theorem bound_sim (hT : ∀ t, rV β (T t) (T' t)) {x : AX} (hc : x.cl = true) {y n : Nat} (hb : boundA T x y = some n) : boundA T' x y = some n := by
  unfold boundA at hb ⊢
  have hr := rX hT hc
  split at hb
  · rename_i k i he
    rw [he] at hr
    rw [rV_int hr]
    exact hb
  · simp at hb
theorem bounds_sim (hT : ∀ t, rV β (T t) (T' t)) {lo hi mx : Option AX} (h1 : oxcl lo = true) (h2 : oxcl hi = true) (h3 : oxcl mx = true) {n : Nat} {c : Option Nat} {r : Nat × Nat × Option Nat} (hb : boundsA T n c lo hi mx = some r) : boundsA T' n c lo hi mx = some r := by
  unfold boundsA at hb ⊢
  split at hb
  · simp at hb
  · rename_i m hm
    have e1 : maxA T' n c mx = some m := by
      unfold maxA at hm ⊢
      cases mx with
      | none => exact hm
      | some x =>
        obtain ⟨q, h4, h5⟩ := Option.map_eq_some_iff.1 hm
        subst h5
        simp only [bound_sim hT h3 h4, Option.map_some]
    rw [e1]
    simp only
    split at hb
    · simp at hb
    · rename_i k hk
      have e2 : highA T' n m hi mx = some k := by
        unfold highA at hk ⊢
        cases hi with
        | none => exact hk
        | some x => exact bound_sim hT h2 hk
      rw [e2]
      simp only
      split at hb
      · simp at hb
      · rename_i l hl
        have e3 : lowA T' k lo = some l := by
          unfold lowA at hl ⊢
          cases lo with
          | none => exact hl
          | some x => exact bound_sim hT h1 hl
        rw [e3]
        exact hb

theorem ptrs_sim : ∀ {vs vs' : List AV} {l : List (Nat × Nat)}, rVs β vs vs' → ptrsA vs = some l → ∃ l', ptrsA vs' = some l' ∧ rCaps β l l'
  | [], _, l, h, hp => by
    simp [ptrsA] at hp
    subst hp
    rw [show _ = _ from h]
    exact ⟨[], rfl, rfl⟩
  | v :: vs, _, l, ⟨v', r', h1, h2, h3⟩, hp => by
    subst h1
    unfold ptrsA at hp
    split at hp
    · simp at *
    · rename_i a r he
      simp only [List.cons.injEq] at he
      obtain ⟨rfl, rfl⟩ := he
      obtain ⟨l1, h4, rfl⟩ := Option.map_eq_some_iff.1 hp
      obtain ⟨p', rfl, hpp⟩ := rV_ptr h2
      obtain ⟨l2, h5, h6⟩ := ptrs_sim h3 h4
      exact ⟨p' :: l2, by simp [ptrsA, h5], p', l2, rfl, hpp, h6⟩
    · simp at hp

theorem bin_sim {op : BinOp} {a b a' b' v : AV} (ha : rV β a a') (hb : rV β b b') (hv : binA op a b = some v) : binA op a' b' = some v ∧ rV β v v := by
  unfold binA at hv
  split at hv
  · rw [rV_int ha, rV_int hb]
    simp only [binA]
    refine ⟨hv, ?_⟩
    split at hv
    · cases op <;> simp only [Option.some.injEq, reduceCtorEq] at hv <;> first | (subst hv; exact ⟨_, rfl, rfl⟩) | (split at hv <;> simp at hv; subst hv; exact ⟨_, rfl, rfl⟩)
    · simp at hv
  · rw [rV_str ha, rV_str hb]
    simp only [binA]
    refine ⟨hv, ?_⟩
    cases op <;> simp only [Option.some.injEq, reduceCtorEq] at hv <;> first | (subst hv; exact ⟨_, rfl, rfl⟩) | (split at hv <;> simp at hv; subst hv; exact ⟨_, rfl, rfl⟩)
  · simp at hv

theorem eqK_sim : ∀ {ks : List Nat} {a b a' b' : List CV} {r : Bool}, rL β a a' → rL β b b' → eqK ks a b = some r → eqK ks a' b' = some r
  | ks, a, b, a', b', r, ha, hb, hv => by
    unfold eqK at hv
    split at hv
    · rw [show a' = _ from ha, show b' = _ from hb]
      exact hv
    all_goals first
      | (simp at hv; done)
      | (obtain ⟨c, s, rfl, h2, h3⟩ := ha
         obtain ⟨d, u, rfl, k2, k3⟩ := hb
         rw [show c = _ from h2, show d = _ from k2]
         simp only [eqK]
         first
           | (obtain ⟨q, h4, rfl⟩ := Option.map_eq_some_iff.1 hv
              rw [eqK_sim h3 k3 h4]
              rfl)
           | (split at hv
              · rename_i hk
                rw [if_pos hk]
                obtain ⟨q, h4, rfl⟩ := Option.map_eq_some_iff.1 hv
                rw [eqK_sim h3 k3 h4]
                rfl
              · simp at hv))

theorem strBytes_sim : ∀ {cs cs' : List CV} {l : List Int}, rL β cs cs' → strBytes cs = some l → strBytes cs' = some l
  | [], _, l, h, hs => by rw [show _ = _ from h]; exact hs
  | c :: r, _, l, ⟨c', r', h1, h2, h3⟩, hs => by
    subst h1
    unfold strBytes at hs
    split at hs
    · simp at *
    · rename_i n s he
      simp only [List.cons.injEq] at he
      obtain ⟨rfl, rfl⟩ := he
      rw [show c' = _ from h2]
      obtain ⟨q, h4, rfl⟩ := Option.map_eq_some_iff.1 hs
      simp only [strBytes, strBytes_sim h3 h4, Option.map_some]
    · simp at hs

theorem pure_sim (hR : RelH β h h') (hT : ∀ t, rV β (T t) (T' t)) {o : AOp} (hc : o.cl = true) {v : AV} (hv : pureA o T h = some v) : ∃ v', pureA o T' h' = some v' ∧ rV β v v' := by
  cases o with
  | mov x =>
    simp only [pureA, Option.some.injEq] at hv ⊢
    subst hv
    exact ⟨_, rfl, rX hT hc⟩
  | pick c a b =>
    simp only [AOp.cl, Bool.and_eq_true] at hc
    simp only [pureA] at hv ⊢
    have hr := rX hT hc.1
    split at hv
    · rename_i t he
      rw [he] at hr
      rw [rV_bool hr]
      simp only [Option.some.injEq] at hv ⊢
      subst hv
      cases t
      · exact ⟨_, rfl, rX hT hc.2.2⟩
      · exact ⟨_, rfl, rX hT hc.2.1⟩
    · simp at hv
  | build z ps =>
    simp only [AOp.cl, Bool.and_eq_true] at hc
    simp only [pureA] at hv ⊢
    obtain ⟨cs, h1, rfl⟩ := Option.map_eq_some_iff.1 hv
    obtain ⟨cs', h2, h3⟩ := fill_sim hT hc.2 (cl_rL hc.1) h1
    exact ⟨_, by rw [h2]; rfl, cs', rfl, h3⟩
  | load k g x =>
    simp only [pureA] at hv ⊢
    have hr := rX hT (x := x) hc
    split at hv
    · rename_i a he
      rw [he] at hr
      obtain ⟨a', hr, ha⟩ := rV_ptr hr
      rw [hr]
      split at hv
      · rename_i cs hl
        obtain ⟨cs', h1, h2⟩ := hR.load ha hl
        simp only [h1]
        cases g with
        | true =>
          simp at hv
          subst hv
          exact ⟨_, rfl, cs', rfl, h2⟩
        | false =>
          simp only [Bool.false_eq_true, if_false] at hv ⊢
          split at hv
          · simp at hv
            subst hv
            obtain ⟨c', r', rfl, h3, h4⟩ := h2
            rw [show r' = _ from h4]
            exact ⟨_, rfl, c', rfl, h3⟩
          · simp at hv
      · simp at hv
    · simp at hv
  | nilCheck x =>
    simp only [pureA] at hv ⊢
    have hr := rX hT (x := x) hc
    split at hv
    · rename_i a he
      rw [he] at hr
      obtain ⟨a', hr2, ha⟩ := rV_ptr hr
      rw [hr2]
      simp at hv
      subst hv
      exact ⟨_, rfl, hr2 ▸ hr⟩
    · rename_i f c he
      rw [he] at hr
      obtain ⟨a', hr2, ha⟩ := rV_fn hr
      rw [hr2]
      simp at hv
      subst hv
      exact ⟨_, rfl, hr2 ▸ hr⟩
    · simp at hv
  | bin op x y =>
    simp only [AOp.cl, Bool.and_eq_true] at hc
    simp only [pureA] at hv ⊢
    obtain ⟨h1, h2⟩ := bin_sim (rX hT hc.1) (rX hT hc.2) hv
    exact ⟨v, h1, h2⟩
  | eqb n x y =>
    simp only [AOp.cl, Bool.and_eq_true] at hc
    simp only [pureA] at hv ⊢
    have hx := rX hT hc.1
    have hy := rX hT hc.2
    split at hv
    · rename_i a b e1 e2
      rw [e1] at hx
      rw [e2] at hy
      rw [rV_bool hx, rV_bool hy]
      simp at hv
      subst hv
      exact ⟨_, rfl, _, rfl, rfl⟩
    · simp at hv
  | eqst n ks x y =>
    simp only [AOp.cl, Bool.and_eq_true] at hc
    simp only [pureA] at hv ⊢
    have hx := rX hT hc.1
    have hy := rX hT hc.2
    split at hv
    · rename_i a b e1 e2
      rw [e1] at hx
      rw [e2] at hy
      obtain ⟨a', hx, ha⟩ := hx
      obtain ⟨b', hy, hb⟩ := hy
      rw [hx, hy]
      obtain ⟨r, h1, rfl⟩ := Option.map_eq_some_iff.1 hv
      simp only [eqK_sim ha hb h1, Option.map_some]
      exact ⟨_, rfl, _, rfl, rfl⟩
    · simp at hv
  | eqnil n x y =>
    simp only [AOp.cl, Bool.and_eq_true] at hc
    simp only [pureA] at hv ⊢
    have hx := rX hT hc.1
    have hy := rX hT hc.2
    split at hv
    · rename_i a m q m2 q2 e1 e2
      rw [e1] at hx
      rw [e2] at hy
      rw [rV_nil hy]
      simp at hv
      subst hv
      cases a with
      | none => rw [rV_nil hx]; exact ⟨_, rfl, _, rfl, rfl⟩
      | some p =>
        obtain ⟨p', hx, _⟩ := rV_sl hx
        rw [hx]
        exact ⟨_, rfl, _, rfl, rfl⟩
    · simp at hv
  | not x =>
    simp only [pureA] at hv ⊢
    have hx := rX hT (x := x) hc
    split at hv
    · rename_i b e1
      rw [e1] at hx
      rw [rV_bool hx]
      simp at hv
      subst hv
      exact ⟨_, rfl, _, rfl, rfl⟩
    · simp at hv
  | conv k x =>
    simp only [pureA] at hv ⊢
    have hx := rX hT (x := x) hc
    split at hv
    · rename_i b n e1
      rw [e1] at hx
      rw [rV_int hx]
      simp at hv
      subst hv
      exact ⟨_, rfl, _, rfl, rfl⟩
    · simp at hv
  | bytesStr x =>
    simp only [pureA] at hv ⊢
    have hx := rX hT (x := x) hc
    split at hv
    · rename_i a n q e1
      rw [e1] at hx
      obtain ⟨a', hx, ha⟩ := rV_sl hx
      rw [hx]
      split at hv
      · simp at hv
      · rename_i hn
        simp only [if_neg hn]
        split at hv
        · rename_i cs hl
          obtain ⟨cs', h1, h2⟩ := hR.load ha hl
          obtain ⟨l, h3, rfl⟩ := Option.map_eq_some_iff.1 hv
          simp only [h1, strBytes_sim h2 h3, Option.map_some]
          exact ⟨_, rfl, _, rfl, rfl⟩
        · simp at hv
    · simp at hv
  | mkfn f l =>
    simp only [pureA] at hv ⊢
    obtain ⟨cs, h1, rfl⟩ := Option.map_eq_some_iff.1 hv
    obtain ⟨cs', h2, h3⟩ := ptrs_sim (rXs hT hc) h1
    exact ⟨_, by rw [h2]; rfl, _, rfl, cs', rfl, h3⟩
  | slice ty size x lo hi mx =>
    simp only [AOp.cl, Bool.and_eq_true] at hc
    simp only [pureA] at hv ⊢
    have hx := rX hT hc.1
    split at hv
    · rename_i n c e1
      rw [e1] at hx
      rw [rV_nil hx]
      split at hv
      · rename_i l h1 m hb
        simp only [bounds_sim hT hc.2.1 hc.2.2.1 hc.2.2.2 hb]
        simp at hv
        subst hv
        exact ⟨_, rfl, _, rfl, rfl⟩
      · simp at hv
    · rename_i a n c e1
      rw [e1] at hx
      obtain ⟨a', hx, ha⟩ := rV_sl hx
      rw [hx]
      split at hv
      · rename_i l h1 m hb
        simp only [bounds_sim hT hc.2.1 hc.2.2.1 hc.2.2.2 hb]
        split at hv
        · rename_i hh
          obtain ⟨g1, g2, g3, g4, g5⟩ := hR.blk _ _ ha.1
          rw [if_pos ⟨g2, by rw [g3]; exact hh.2⟩]
          simp at hv
          subst hv
          exact ⟨_, rfl, _, rfl, _, rfl, ha.1, by rw [ha.2]⟩
        · simp at hv
      · simp at hv
    · simp at hv
  | sliceStr x lo hi =>
    simp only [AOp.cl, Bool.and_eq_true] at hc
    simp only [pureA] at hv ⊢
    have hx := rX hT hc.1
    split at hv
    · rename_i s e1
      rw [e1] at hx
      rw [rV_str hx]
      split at hv
      · rename_i l h1 m hb
        simp only [bounds_sim hT hc.2.1 hc.2.2 (mx := none) rfl hb]
        simp at hv
        subst hv
        exact ⟨_, rfl, _, rfl, rfl⟩
      · simp at hv
    · simp at hv
  | faddr off x =>
    simp only [pureA] at hv ⊢
    have hx := rX hT (x := x) hc
    split at hv
    · rename_i a e1
      rw [e1] at hx
      obtain ⟨a', hx, ha⟩ := rV_ptr hx
      rw [hx]
      simp at hv
      subst hv
      exact ⟨_, rfl, _, rfl, _, rfl, ha.1, by rw [ha.2]⟩
    · simp at hv
  | iaddr size x i =>
    simp only [AOp.cl, Bool.and_eq_true] at hc
    simp only [pureA] at hv ⊢
    have hx := rX hT hc.1
    have hy := rX hT hc.2
    split at hv
    · rename_i a n c k j e1 e2
      rw [e1] at hx
      rw [e2] at hy
      obtain ⟨a', hx, ha⟩ := rV_sl hx
      rw [hx, rV_int hy]
      split at hv
      · rename_i hj
        simp at hv
        subst hv
        simp only [if_pos hj]
        exact ⟨_, rfl, _, rfl, _, rfl, ha.1, by rw [ha.2]⟩
      · simp at hv
    · simp at hv
  | idxStr x i =>
    simp only [AOp.cl, Bool.and_eq_true] at hc
    simp only [pureA] at hv ⊢
    have hx := rX hT hc.1
    have hy := rX hT hc.2
    split at hv
    · rename_i s k j e1 e2
      rw [e1] at hx
      rw [e2] at hy
      rw [rV_str hx, rV_int hy]
      split at hv
      · rename_i hj
        split at hv
        · rename_i b hb
          simp at hv
          subst hv
          simp only [if_pos hj, hb]
          exact ⟨_, rfl, _, rfl, rfl⟩
        · simp at hv
      · simp at hv
    · simp at hv
  | field off k g x =>
    simp only [pureA] at hv ⊢
    have hx := rX hT (x := x) hc
    split at hv
    · rename_i cs e1
      rw [e1] at hx
      obtain ⟨cs', hx, hl⟩ := hx
      rw [hx]
      split at hv
      · rename_i hk
        simp only [hl.length, if_pos hk]
        cases g with
        | true =>
          simp at hv
          subst hv
          exact ⟨_, rfl, _, rfl, rL.take _ (rL.drop _ hl)⟩
        | false =>
          simp only [Bool.false_eq_true, if_false] at hv ⊢
          split at hv
          · rename_i c hcc
            simp at hv
            subst hv
            obtain ⟨c', h1, h2⟩ := rL.get hl hcc
            simp only [h1]
            exact ⟨_, rfl, c', rfl, h2⟩
          · simp at hv
      · simp at hv
    · simp at hv
  | extract x i =>
    simp only [pureA] at hv ⊢
    have hx := rX hT (x := x) hc
    split at hv
    · rename_i l e1
      rw [e1] at hx
      cases l with
      | nil => simp at hv
      | cons a l =>
        obtain ⟨l', hx, hl⟩ := hx
        rw [hx]
        have key : ∀ {l l' : List AV} {i : Nat} {v : AV}, rT β l l' → l[i]? = some v → ∃ v', l'[i]? = some v' ∧ rV β v v' := by
          intro l
          induction l with
          | nil => intro l' i v _ hv; simp at hv
          | cons a l ih =>
            intro l' i v hl hv
            obtain ⟨c', r', rfl, h2, h3⟩ := hl
            cases i with
            | zero => simp at hv; subst hv; exact ⟨c', rfl, h2.rV⟩
            | succ i =>
              obtain ⟨v', h4, h5⟩ := ih h3 (by simpa using hv)
              exact ⟨v', by simpa using h4, h5⟩
        exact key hl hv
    · simp at hv
  | len x =>
    simp only [pureA] at hv ⊢
    have hx := rX hT (x := x) hc
    split at hv
    · rename_i a n q e1
      rw [e1] at hx
      simp at hv
      subst hv
      cases a with
      | none => rw [rV_nil hx]; exact ⟨_, rfl, _, rfl, rfl⟩
      | some p =>
        obtain ⟨p', hx, _⟩ := rV_sl hx
        rw [hx]
        exact ⟨_, rfl, _, rfl, rfl⟩
    · simp at hv
  | lenStr x =>
    simp only [pureA] at hv ⊢
    have hx := rX hT (x := x) hc
    split at hv
    · rename_i s e1
      rw [e1] at hx
      rw [rV_str hx]
      simp at hv
      subst hv
      exact ⟨_, rfl, _, rfl, rfl⟩
    · simp at hv
  | cap x =>
    simp only [pureA] at hv ⊢
    have hx := rX hT (x := x) hc
    split at hv
    · rename_i a n q e1
      rw [e1] at hx
      simp at hv
      subst hv
      cases a with
      | none => rw [rV_nil hx]; exact ⟨_, rfl, _, rfl, rfl⟩
      | some p =>
        obtain ⟨p', hx, _⟩ := rV_sl hx
        rw [hx]
        exact ⟨_, rfl, _, rfl, rfl⟩
    · simp at hv
  | min x y =>
    simp only [AOp.cl, Bool.and_eq_true] at hc
    simp only [pureA] at hv ⊢
    have hx := rX hT hc.1
    have hy := rX hT hc.2
    split at hv
    · rename_i k a k' b e1 e2
      rw [e1] at hx
      rw [e2] at hy
      rw [rV_int hx, rV_int hy]
      split at hv
      · rename_i hk
        simp at hv
        subst hv
        simp only [if_pos hk]
        exact ⟨_, rfl, _, rfl, rfl⟩
      · simp at hv
    · simp at hv
  | alloc _ _ | box _ _ | buildSlice _ _ _ _ | mkslice _ _ _ _ _ | store _ _ _ | call _ _ | callv _ _ | append _ _ _ _ _ | appz _ _ _ _ _ _ => simp [pureA] at hv
end
end Go.Proofs.Ytnphlonhogcedaa.Am
