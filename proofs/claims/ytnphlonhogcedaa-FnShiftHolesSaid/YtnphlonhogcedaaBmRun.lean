/- The second machine: rules for its runs. -/
import Derived.Test.YtnphlonhogcedaaBmLaw
import Derived.Laws.Strings
namespace Go.Proofs.Ytnphlonhogcedaa.Am
open Go

/-! ### slots -/
theorem put_same (T : Tb) (d : Nat) (v : BV) : (T.put (some d) v) d = v := by simp [Tb.put]
theorem put_ne (T : Tb) (d t : Nat) (v : BV) (h : t ≠ d) : (T.put (some d) v) t = T t := by simp [Tb.put, h]
theorem put_none (T : Tb) (v : BV) : T.put none v = T := rfl
theorem kill_at (T : Tb) (d t : Nat) : (T.kill d) t = (T t).kill d := rfl
theorem kill_v (a : AV) (d : Nat) : (BV.v a).kill d = .v a := rfl
theorem kill_lp_same (d o : Nat) : (BV.lp d o).kill d = .v undefA := by simp [BV.kill]
theorem kill_lp_ne (t o d : Nat) (h : t ≠ d) : (BV.lp t o).kill d = .lp t o := by simp [BV.kill, h]
theorem pro_at (T : Tb) (d b t : Nat) : (T.pro d b) t = (T t).pro d b := rfl
theorem pro_v (a : AV) (d b : Nat) : (BV.v a).pro d b = .v a := rfl
theorem pro_lp_same (d b o : Nat) : (BV.lp d o).pro d b = .v (.one (.ptr (some (b, o)))) := by simp [BV.pro]
theorem pro_lp_ne (t o d b : Nat) (h : t ≠ d) : (BV.lp t o).pro d b = .lp t o := by simp [BV.pro, h]
theorem lb_same (L : Lb) (d : Nat) (c : Nat × List CV) : (L.put d c) d = c := by simp [Lb.put]
theorem lb_ne (L : Lb) (d t : Nat) (c : Nat × List CV) (h : t ≠ d) : (L.put d c) t = L t := by simp [Lb.put, h]
theorem bv_t (T : Tb) (n : Nat) : (AX.t n).bv T = T n := rfl
theorem bv_c (T : Tb) (c : CV) : (AX.c c).bv T = .v (.one c) := rfl
theorem av_v (a : AV) : (BV.v a).av = a := rfl
theorem av_lp (t o : Nat) : (BV.lp t o).av = undefA := rfl
theorem ev_t (T : Tb) (n : Nat) : (AX.t n).ev T.av = (T n).av := rfl
theorem ev_c (T : Tb) (c : CV) : (AX.c c).ev T.av = .one c := rfl
theorem start_zero (a : AV) (l : List AV) : startB (a :: l) 0 = .v a := rfl
theorem start_succ (a : AV) (l : List AV) (n : Nat) : startB (a :: l) (n + 1) = startB l n := rfl

/-! ### what is asked of a run -/
section
variable (P : Program)

/-- A heap that is known: the rules below go on where they meet one, and not under a binder. -/
def rdy (h : H) : H := h
abbrev Post := Tb → Lb → H → Prop
abbrev PostC := Ex → Tb → Lb → H → Prop
def wpC (c : ACode) (T : Tb) (L : Lb) (h : H) (Q : PostC) : Prop := ∃ ex T' L' h', codeB (bm P) c T L h = some (ex, T', L', h') ∧ Q ex T' L' h'
def callK (r : Option (AV × H)) (K : AV → H → Prop) : Prop := ∃ v h', r = some (v, h') ∧ K v h'
def wpO (o : AOp) (d : Option Nat) (T : Tb) (L : Lb) (h : H) (K : Post) : Prop := ∃ T' L' h', opB (bm P) o d T L h = some (T', L', h') ∧ K T' L' h'
def wpS (l : List AStep) (T : Tb) (L : Lb) (h : H) (K : Post) : Prop := ∃ T' L' h', stepsB (bm P) l T L h = some (T', L', h') ∧ K T' L' h'

def thenQ (K : Post) (Q : PostC) : PostC
  | .normal => K
  | e => Q e
def inBlk (id : Nat) (Q : PostC) : PostC
  | .exit id', T, L, h => if id' = id then Q .normal T L h else Q (.exit id') T L h
  | e, T, L, h => Q e T L h
/-- A choice, to be made where the value and the heap are known. -/
def whenA (v : AV) (h : H) (p q : H → Prop) : Prop :=
  match v with
  | .one (.bool b) => (b = true → p h) ∧ (b = false → q h)
  | _ => False
def guardH (v : BV) (b : Bool) (h : H) (p q : H → Prop) : Prop :=
  match v with
  | .v (.one (.bool c)) => (c = b → p h) ∧ (c = !b → q h)
  | .v (.tup []) => q h
  | _ => False
/-- The end of a call. -/
def gcK (h0 : H) (v : AV) (h : H) (K : AV → H → Prop) : Prop := K (gcA h0 (v, h)).1 (gcA h0 (v, h)).2
def endK (h0 : H) (s : Tb × H) (L : Lb) (rs : List ARes) (K : AV → H → Prop) : Prop := ∃ v, resultsB s.1 L s.2 rs = some v ∧ gcK h0 v s.2 K
def doneB (rs : List ARes) (h0 : H) (K : AV → H → Prop) : PostC
  | .exit _, _, _, _ => False
  | _, T, L, h => endK h0 (proA (tmpX rs) T L h) L rs K

variable {P}
variable {T : Tb} {L : Lb} {h h0 : H} {Q : PostC} {K : Post}

theorem thenQ_normal {K : Post} : thenQ K Q .normal T L h = K T L h := rfl
theorem thenQ_exit {K : Post} {id : Nat} : thenQ K Q (.exit id) T L h = Q (.exit id) T L h := rfl
theorem thenQ_ret {K : Post} : thenQ K Q .ret T L h = Q .ret T L h := rfl
theorem inBlk_normal {id : Nat} : inBlk id Q .normal T L h = Q .normal T L h := rfl
theorem inBlk_ret {id : Nat} : inBlk id Q .ret T L h = Q .ret T L h := rfl
theorem inBlk_exit {id id' : Nat} : inBlk id Q (.exit id') T L h = if id' = id then Q .normal T L h else Q (.exit id') T L h := rfl
theorem callK_some {v : AV} {h' : H} {K : AV → H → Prop} : callK (some (v, h')) K = K v h' := by
  refine propext ⟨?_, fun hk => ⟨v, h', rfl, hk⟩⟩
  rintro ⟨v1, h1, h2, hk⟩
  cases h2
  exact hk
theorem callH_some {v : AV} {h' : H} {K : AV → H → Prop} : callK (some (v, h')) K = K v (rdy h') := callK_some
theorem callK_mono {r : Option (AV × H)} {K K' : AV → H → Prop} (hr : callK r K) (hk : ∀ v h', K v h' → K' v h') : callK r K' := by
  obtain ⟨v, h', h1, h2⟩ := hr
  exact ⟨v, h', h1, hk v h' h2⟩
/-- A call, by what is known of it. -/
theorem wp_call {r : Option (AV × H)} {K K' : AV → H → Prop} (hr : callK r K) (hk : ∀ v h', K v h' → K' v (rdy h')) : callK r K' := callK_mono hr hk
theorem callK_eq {r : Option (AV × H)} {v : AV} {h' : H} (hr : r = some (v, h')) {K : AV → H → Prop} (hk : K v h') : callK r K := ⟨v, h', hr, hk⟩
theorem ranB {x : Ex × Tb × Lb × H} : (∃ ex T' L' h', some x = some (ex, T', L', h') ∧ Q ex T' L' h') = Q x.1 x.2.1 x.2.2.1 x.2.2.2 := by
  refine propext ⟨?_, fun hk => ⟨_, _, _, _, rfl, hk⟩⟩
  rintro ⟨ex, T', L', h', h2, hk⟩
  cases h2
  exact hk

theorem wpC_skip : wpC P .skip T L (rdy h) Q = Q .normal T L (rdy h) := ranB
theorem wpC_exit {id : Nat} : wpC P (.exit id) T L (rdy h) Q = Q (.exit id) T L (rdy h) := ranB
theorem wpC_ret : wpC P .ret T L (rdy h) Q = Q .ret T L (rdy h) := ranB
theorem wpC_reg {l : List AStep} : wpC P (.reg l) T L (rdy h) Q = wpS P l T L (rdy h) (Q .normal) := by
  simp only [rdy, wpC, wpS, codeB, Option.map_eq_some_iff, Prod.mk.injEq, Prod.exists, eq_iff_iff]
  constructor
  · rintro ⟨ex, T', L', h', ⟨T1, L1, h1, h2, rfl, rfl, rfl, rfl⟩, hq⟩
    exact ⟨_, _, _, h2, hq⟩
  · rintro ⟨T', L', h', h2, hq⟩
    exact ⟨_, _, _, _, ⟨_, _, _, h2, rfl, rfl, rfl, rfl⟩, hq⟩
theorem wpC_seq {a b : ACode} : wpC P (.seq a b) T L (rdy h) Q = wpC P a T L (rdy h) (thenQ (fun T L h => wpC P b T L h Q) Q) := by
  simp only [rdy, wpC, codeB, eq_iff_iff]
  constructor
  · rintro ⟨ex, T', L', h', h1, hq⟩
    split at h1
    · rename_i T1 L1 h2 ha
      exact ⟨.normal, T1, L1, h2, ha, ex, T', L', h', h1, hq⟩
    · rename_i hne
      refine ⟨ex, T', L', h', h1, ?_⟩
      cases ex with
      | normal => exact absurd h1 (hne _ _ _)
      | exit id => exact hq
      | ret => exact hq
  · rintro ⟨ex, T', L', h', h1, hq⟩
    cases ex with
    | normal =>
      obtain ⟨ex, T2, L2, h2, h3, h4⟩ := hq
      exact ⟨ex, T2, L2, h2, by rw [h1]; exact h3, h4⟩
    | exit id => exact ⟨_, _, _, _, by rw [h1], hq⟩
    | ret => exact ⟨_, _, _, _, by rw [h1], hq⟩
theorem wpC_cond {c : AX} {a b : ACode} : wpC P (.cond c a b) T L (rdy h) Q = whenA (c.ev T.av) h (fun h => wpC P a T L h Q) (fun h => wpC P b T L h Q) := by
  simp only [rdy, wpC, codeB, eq_iff_iff]
  cases c.ev T.av with
  | one x =>
    cases x with
    | bool t => cases t <;> simp [whenA]
    | _ => simp [whenA]
  | _ => simp [whenA]
theorem wpC_block {id : Nat} {a : ACode} : wpC P (.block id a) T L (rdy h) Q = wpC P a T L (rdy h) (inBlk id Q) := by
  simp only [rdy, wpC, codeB, eq_iff_iff]
  constructor
  · rintro ⟨ex, T', L', h', h1, hq⟩
    split at h1
    · rename_i id' T1 L1 h2 ha
      refine ⟨.exit id', T1, L1, h2, ha, ?_⟩
      unfold inBlk
      split at h1
      · rename_i hid
        simp only [Option.some.injEq, Prod.mk.injEq] at h1
        obtain ⟨rfl, rfl, rfl, rfl⟩ := h1
        simp only [if_pos hid]
        exact hq
      · rename_i hid
        simp only [Option.some.injEq, Prod.mk.injEq] at h1
        obtain ⟨rfl, rfl, rfl, rfl⟩ := h1
        simp only [if_neg hid]
        exact hq
    · rename_i hne
      refine ⟨ex, T', L', h', h1, ?_⟩
      cases ex with
      | exit id' => exact absurd h1 (hne _ _ _ _)
      | normal => exact hq
      | ret => exact hq
  · rintro ⟨ex, T', L', h', h1, hq⟩
    cases ex with
    | exit id' =>
      rw [h1]
      simp only [inBlk] at hq ⊢
      by_cases hid : id' = id
      · rw [if_pos hid] at hq ⊢
        exact ⟨_, _, _, _, rfl, hq⟩
      · rw [if_neg hid] at hq ⊢
        exact ⟨_, _, _, _, rfl, hq⟩
    | normal => exact ⟨_, _, _, _, by rw [h1], hq⟩
    | ret => exact ⟨_, _, _, _, by rw [h1], hq⟩
theorem whenA_bool {b : Bool} {p q : H → Prop} : whenA (.one (.bool b)) h p q = ((b = true → p (rdy h)) ∧ (b = false → q (rdy h))) := rfl
theorem whenA_true {p q : H → Prop} : whenA (.one (.bool true)) h p q = p (rdy h) := by simp [whenA, rdy]
theorem whenA_false {p q : H → Prop} : whenA (.one (.bool false)) h p q = q (rdy h) := by simp [whenA, rdy]
theorem guardH_undef {b : Bool} {p q : H → Prop} : guardH (.v undefA) b h p q = q (rdy h) := rfl
theorem guardH_tt {p q : H → Prop} : guardH (.v (.one (.bool true))) true h p q = p (rdy h) := by simp [guardH, rdy]
theorem guardH_ff {p q : H → Prop} : guardH (.v (.one (.bool false))) false h p q = p (rdy h) := by simp [guardH, rdy]
theorem guardH_tf {p q : H → Prop} : guardH (.v (.one (.bool true))) false h p q = q (rdy h) := by simp [guardH, rdy]
theorem guardH_ft {p q : H → Prop} : guardH (.v (.one (.bool false))) true h p q = q (rdy h) := by simp [guardH, rdy]
theorem guardH_bool {b c : Bool} {p q : H → Prop} : guardH (.v (.one (.bool c))) b h p q = ((c = b → p (rdy h)) ∧ (c = !b → q (rdy h))) := rfl

theorem wpS_nil {K : Post} : wpS P [] T L (rdy h) K = K T L (rdy h) := by
  show wpS P [] T L h K = K T L h
  refine propext ⟨?_, fun hk => ⟨_, _, _, rfl, hk⟩⟩
  rintro ⟨T', L', h', h2, hk⟩
  cases h2
  exact hk
/-- A step that is always gone. -/
theorem wpS_step {o : AOp} {d : Option Nat} {l : List AStep} : wpS P (⟨o, d, none, []⟩ :: l) T L (rdy h) K = wpO P o d T L h (fun T' L' h' => wpS P l T' L' h' K) := by
  simp only [rdy, wpS, stepsB, stepB, wantB, List.all_nil, if_true, wpO, eq_iff_iff]
  constructor
  · rintro ⟨T', L', h', h1, hk⟩
    split at h1
    · rename_i T1 L1 h2 hs
      split at hs
      · rename_i T2 L2 h3 ho
        simp only [Option.some.injEq, Prod.mk.injEq] at hs
        obtain ⟨rfl, rfl, rfl⟩ := hs
        exact ⟨T2, L2, h3, ho, T', L', h', h1, hk⟩
      · simp at hs
    · simp at h1
  · rintro ⟨T1, L1, h1, ho, T2, L2, h2, h3, hk⟩
    exact ⟨T2, L2, h2, by rw [ho]; exact h3, hk⟩
/-- What was read ahead of an effect reads the same behind it. -/
def agK (ag : List (AOp × Option Nat × Option (Nat × Bool))) (T : Tb) (L : Lb) (h : H) : Prop := ag.all (againB T L h) = true
theorem wpS_again {o : AOp} {d : Option Nat} {x : AOp × Option Nat × Option (Nat × Bool)} {ag : List (AOp × Option Nat × Option (Nat × Bool))} {l : List AStep} :
    wpS P (⟨o, d, none, x :: ag⟩ :: l) T L (rdy h) K = wpO P o d T L h (fun T' L' h' => agK (x :: ag) T' L' h' ∧ wpS P l T' L' h' K) := by
  simp only [rdy, wpS, stepsB, stepB, wantB, wpO, agK, eq_iff_iff]
  constructor
  · rintro ⟨T', L', h', h1, hk⟩
    split at h1
    · rename_i T1 L1 h2 hs
      split at hs
      · rename_i T2 L2 h3 ho
        split at hs
        · rename_i hag
          simp only [Option.some.injEq, Prod.mk.injEq] at hs
          obtain ⟨rfl, rfl, rfl⟩ := hs
          exact ⟨T2, L2, h3, ho, hag, T', L', h', h1, hk⟩
        · simp at hs
      · simp at hs
    · simp at h1
  · rintro ⟨T1, L1, h1, ho, hag, T2, L2, h2, h3, hk⟩
    exact ⟨T2, L2, h2, by rw [ho]; simp only [hag, if_true]; exact h3, hk⟩
theorem wpS_guard {o : AOp} {d : Option Nat} {t : Nat} {b : Bool} {ag : List (AOp × Option Nat × Option (Nat × Bool))} {l : List AStep} :
    wpS P (⟨o, d, some (t, b), ag⟩ :: l) T L (rdy h) K = guardH (T t) b h (fun h => wpS P (⟨o, d, none, ag⟩ :: l) T L h K) (fun h => wpS P l (T.put d (.v undefA)) L h K) := by
  simp only [rdy]
  cases hT : T t with
  | lp s o => simp [wpS, stepsB, stepB, wantB, hT, guardH]
  | v a =>
    cases a with
    | one x =>
      cases x with
      | bool c =>
        simp only [guardH, wpS, stepsB, stepB, wantB, hT, eq_iff_iff]
        by_cases hc : c = b
        · subst hc
          cases c <;> simp
        · cases c <;> cases b <;> simp_all
      | _ => simp [wpS, stepsB, stepB, wantB, hT, guardH]
    | tup l => cases l <;> simp [wpS, stepsB, stepB, wantB, hT, guardH]
    | _ => simp [wpS, stepsB, stepB, wantB, hT, guardH]

/-! again -/
theorem agK_nil : agK [] T L h = True := by simp [agK]
def agV (v : Option BV) (w : BV) : Prop :=
  match v with
  | some v => v.same w = true
  | none => False
theorem agK_cons {o : AOp} {d : Nat} {ag : List (AOp × Option Nat × Option (Nat × Bool))} : agK ((o, some d, none) :: ag) T L (rdy h) = (agV (pureB o T L h) (T d) ∧ agK ag T L (rdy h)) := by
  simp only [agK, rdy, List.all_cons, Bool.and_eq_true, againB, wantB, eq_iff_iff]
  cases pureB o T L h <;> simp [agV]
/-- The same under a guard. -/
def agG (t : Nat) (b : Bool) (v : BV) (p q : Prop) : Prop := match wantB (some (t, b)) (fun _ => v) with | some true => p ∧ q | some false => q | none => False
theorem agK_guard {o : AOp} {d t : Nat} {b : Bool} {ag : List (AOp × Option Nat × Option (Nat × Bool))} : agK ((o, some d, some (t, b)) :: ag) T L (rdy h) = agG t b (T t) (agV (pureB o T L h) (T d)) (agK ag T L (rdy h)) := by
  have e : wantB (some (t, b)) (fun _ => T t) = wantB (some (t, b)) T := rfl
  simp only [agG, e, agK, rdy, List.all_cons, Bool.and_eq_true, againB, eq_iff_iff]
  cases wantB (some (t, b)) T with
  | none => simp
  | some c =>
    cases c
    · simp
    · cases pureB o T L h <;> simp [agV]
theorem agG_tt {t : Nat} {p q : Prop} : agG t true (.v (.one (.bool true))) p q = (p ∧ q) := rfl
theorem agG_ff {t : Nat} {p q : Prop} : agG t false (.v (.one (.bool false))) p q = (p ∧ q) := rfl
theorem agG_tf {t : Nat} {p q : Prop} : agG t false (.v (.one (.bool true))) p q = q := rfl
theorem agG_ft {t : Nat} {p q : Prop} : agG t true (.v (.one (.bool false))) p q = q := rfl
theorem agG_undef {t : Nat} {b : Bool} {p q : Prop} : agG t b (.v undefA) p q = q := rfl
theorem agV_one {c : CV} : agV (some (.v (.one c))) (.v (.one c)) = True := by simp [agV, BV.same, AV.same]
theorem agV_agg {c : List CV} : agV (some (.v (.agg c))) (.v (.agg c)) = True := by simp [agV, BV.same, AV.same]

/-! ### operations -/
/-- A value, if there is one, goes into a slot. -/
def optB (r : Option AV) (d : Option Nat) (T : Tb) (L : Lb) (h : H) (K : Post) : Prop := ∃ v, r = some v ∧ K (T.put d (.v v)) L h
def optX (r : Option BV) (d : Option Nat) (T : Tb) (L : Lb) (h : H) (K : Post) : Prop := ∃ v, r = some v ∧ K (T.put d v) L h
theorem optB_some {v : AV} {d : Option Nat} : optB (some v) d T L h K = K (T.put d (.v v)) L (rdy h) := by
  refine propext ⟨?_, fun hk => ⟨v, rfl, hk⟩⟩
  rintro ⟨v1, h2, hk⟩
  cases h2
  exact hk
theorem optX_some {v : BV} {d : Option Nat} : optX (some v) d T L h K = K (T.put d v) L (rdy h) := by
  refine propext ⟨?_, fun hk => ⟨v, rfl, hk⟩⟩
  rintro ⟨v1, h2, hk⟩
  cases h2
  exact hk
theorem map_optB {r : Option AV} {d : Option Nat} : (∃ T' L' h', (r.map fun v => (T.put d (BV.v v), L, h)) = some (T', L', h') ∧ K T' L' h') = optB r d T L h K := by
  cases r with
  | none => simp [optB]
  | some v =>
    simp only [Option.map_some, Option.some.injEq, Prod.mk.injEq, optB, eq_iff_iff]
    constructor
    · rintro ⟨T', L', h', ⟨rfl, rfl, rfl⟩, hk⟩
      exact ⟨v, rfl, hk⟩
    · rintro ⟨v1, rfl, hk⟩
      exact ⟨_, _, _, ⟨rfl, rfl, rfl⟩, hk⟩
theorem map_optX {r : Option BV} {d : Option Nat} : (∃ T' L' h', (r.map fun v => (T.put d v, L, h)) = some (T', L', h') ∧ K T' L' h') = optX r d T L h K := by
  cases r with
  | none => simp [optX]
  | some v =>
    simp only [Option.map_some, Option.some.injEq, Prod.mk.injEq, optX, eq_iff_iff]
    constructor
    · rintro ⟨T', L', h', ⟨rfl, rfl, rfl⟩, hk⟩
      exact ⟨v, rfl, hk⟩
    · rintro ⟨v1, rfl, hk⟩
      exact ⟨_, _, _, ⟨rfl, rfl, rfl⟩, hk⟩
theorem gen_pure {o : AOp} {d : Option Nat} (hp : opA (bm P) o T.av h = (pureA o T.av h).map fun v => (v, h)) (ho : opB (bm P) o d T L h = genB (bm P) o d T L h) : wpO P o d T L h K = optB (pureA o T.av h) d T L h K := by
  unfold wpO
  rw [ho, ← map_optB]
  unfold genB
  rw [hp]
  cases pureA o T.av h <;> rfl

/-- Operations on values. -/
def lenO : AV → Option AV
  | .one (.sl _ n _) => some (ii n)
  | _ => none
def iaddrO (k : Nat) : AV → AV → Option AV
  | .one (.sl (some a) n _), .one (.int _ j) => if 0 ≤ j ∧ j < n then some (.one (.ptr (some (a.1, a.2 + j.toNat * k)))) else none
  | _, _ => none
def loadO (k : Nat) (g : Bool) (h : H) : AV → Option AV
  | .one (.ptr (some a)) => match h.load a k with
    | some cs => if g then some (.agg cs) else match cs with | [c] => some (.one c) | _ => none
    | none => none
  | _ => none
def faddrO (off : Nat) : AV → Option AV
  | .one (.ptr (some a)) => some (.one (.ptr (some (a.1, a.2 + off))))
  | _ => none
def lenStrO : AV → Option AV
  | .one (.str s) => some (ii s.size)
  | _ => none
def idxStrO : AV → AV → Option AV
  | .one (.str s), .one (.int _ j) => if 0 ≤ j then match s[j.toNat]? with | some b => some (.one (.int .u8 b.toNat)) | none => none else none
  | _, _ => none
def notO : AV → Option AV
  | .one (.bool b) => some (ib (!b))
  | _ => none
def fieldO (off k : Nat) (g : Bool) : AV → Option AV
  | .agg cs => if off + k ≤ cs.length then (if g then some (.agg ((cs.drop off).take k)) else match cs[off]? with | some c => some (.one c) | none => none) else none
  | _ => none
def pickO (c a b : AV) : Option AV :=
  match c with
  | .one (.bool t) => some (if t then a else b)
  | _ => none
def convO (k : IntKind) : AV → Option AV
  | .one (.int _ n) => some (.one (.int k (k.wrap n)))
  | _ => none
def eqbO (neg : Bool) : AV → AV → Option AV
  | .one (.bool a), .one (.bool b) => some (ib ((a == b) != neg))
  | _, _ => none
def eqstO (neg : Bool) (ks : List Nat) : AV → AV → Option AV
  | .agg a, .agg b => (eqK ks a b).map fun r => ib (r != neg)
  | _, _ => none
def eqnilO (neg : Bool) : AV → AV → Option AV
  | .one (.sl a _ _), .one (.sl none _ _) => some (ib (a.isNone != neg))
  | _, _ => none
def extractO (i : Nat) : AV → Option AV
  | .tup l => l[i]?
  | _ => none
def capO : AV → Option AV
  | .one (.sl _ _ (some c)) => some (ii c)
  | _ => none
def minO : AV → AV → Option AV
  | .one (.int k a), .one (.int k' b) => if k = k' then some (.one (.int k (if b < a then b else a))) else none
  | _, _ => none
def nilO : AV → Option AV
  | .one (.ptr (some a)) => some (.one (.ptr (some a)))
  | .one (.fn f c) => some (.one (.fn f c))
  | _ => none
def buildO (z : List CV) (ps : List (Nat × Nat × AV)) : Option AV := (fillA z ps).map .agg
def valX (v : BV) : Option BV := some v
theorem valX_eq {v : BV} : valX v = some v := rfl
/-- A load. -/
def ldX (k : Nat) (g : Bool) (h : H) (L : Lb) : BV → Option AV
  | .lp t off => loadL (L t).2 off k g
  | .v a => loadO k g h a
theorem ldX_lp {k : Nat} {g : Bool} {t off : Nat} : ldX k g h L (.lp t off) = loadL (L t).2 off k g := rfl
theorem ldX_v {k : Nat} {g : Bool} {a : AV} : ldX k g h L (.v a) = loadO k g h a := rfl
def faX (off : Nat) : BV → Option BV
  | .lp t o => some (.lp t (o + off))
  | .v a => (faddrO off a).map .v
theorem faX_lp {off t o : Nat} : faX off (.lp t o) = some (.lp t (o + off)) := rfl
theorem faX_v {off : Nat} {a : Nat × Nat} : faX off (.v (.one (.ptr (some a)))) = some (.v (.one (.ptr (some (a.1, a.2 + off))))) := rfl
def ncX : BV → Option BV
  | .lp t o => some (.lp t o)
  | .v a => (nilO a).map .v
theorem ncX_lp {t o : Nat} : ncX (.lp t o) = some (.lp t o) := rfl
theorem ncX_ptr {a : Nat × Nat} : ncX (.v (.one (.ptr (some a)))) = some (.v (.one (.ptr (some a)))) := rfl
theorem ncX_fn {f : Nat} {c : List (Nat × Nat)} : ncX (.v (.one (.fn f c))) = some (.v (.one (.fn f c))) := rfl

theorem pureB_load {k : Nat} {g : Bool} {x : AX} : pureB (.load k g x) T L h = (ldX k g h L (x.bv T)).map .v := by
  cases x with
  | t n =>
    simp only [pureB, AX.bv]
    cases hT : T n with
    | lp t o => rfl
    | v a =>
      simp only [ldX, pureA, AX.ev, Tb.av, hT, BV.av, loadO]
      congr 1
  | c u => rfl
theorem pureB_slice {ty k : Nat} {x : AX} {lo hi mx : Option AX} : pureB (.slice ty k x lo hi mx) T L h = (pureA (.slice ty k x lo hi mx) T.av h).map .v := rfl

theorem wpO_mov {x : AX} {d : Option Nat} : wpO P (.mov x) d T L h K = optX (valX (x.bv T)) d T L h K := by unfold wpO; exact map_optX (r := valX (x.bv T))
theorem wpO_load {k : Nat} {g : Bool} {x : AX} {d : Option Nat} : wpO P (.load k g x) d T L h K = optB (ldX k g h L (x.bv T)) d T L h K := by
  have : wpO P (.load k g x) d T L h K = optX (pureB (.load k g x) T L h) d T L h K := map_optX
  rw [this, pureB_load]
  cases ldX k g h L (x.bv T) with
  | none => simp [optX, optB]
  | some v => simp [optX, optB]
theorem wpO_faddr {off : Nat} {x : AX} {d : Option Nat} : wpO P (.faddr off x) d T L h K = optX (faX off (x.bv T)) d T L h K := by
  have : wpO P (.faddr off x) d T L h K = optX (pureB (.faddr off x) T L h) d T L h K := map_optX
  rw [this]
  congr 1
  cases x with
  | t n =>
    simp only [pureB, AX.bv]
    cases hT : T n with
    | lp t o => rfl
    | v a =>
      simp only [faX, pureA, AX.ev, Tb.av, hT, BV.av, faddrO]
      congr 1
  | c u => rfl
theorem wpO_nilCheck {x : AX} {d : Option Nat} : wpO P (.nilCheck x) d T L h K = optX (ncX (x.bv T)) d T L h K := by
  have : wpO P (.nilCheck x) d T L h K = optX (pureB (.nilCheck x) T L h) d T L h K := map_optX
  rw [this]
  congr 1
  cases x with
  | t n =>
    simp only [pureB, AX.bv]
    cases hT : T n with
    | lp t o => rfl
    | v a =>
      simp only [ncX, pureA, AX.ev, Tb.av, hT, BV.av, nilO]
      congr 1
  | c u => rfl
section
variable {d : Option Nat}
theorem wpO_pick {c a b : AX} : wpO P (.pick c a b) d T L h K = optB (pickO (c.ev T.av) (a.ev T.av) (b.ev T.av)) d T L h K := gen_pure rfl rfl
theorem wpO_build {z : List CV} {ps : List (Nat × Nat × AX)} : wpO P (.build z ps) d T L h K = optB (buildO z (ps.map fun p => (p.1, p.2.1, p.2.2.ev T.av))) d T L h K := gen_pure rfl rfl
theorem wpO_bin {op : BinOp} {x y : AX} : wpO P (.bin op x y) d T L h K = optB (binA op (x.ev T.av) (y.ev T.av)) d T L h K := gen_pure rfl rfl
theorem wpO_eqb {n : Bool} {x y : AX} : wpO P (.eqb n x y) d T L h K = optB (eqbO n (x.ev T.av) (y.ev T.av)) d T L h K := gen_pure rfl rfl
theorem wpO_eqst {n : Bool} {ks : List Nat} {x y : AX} : wpO P (.eqst n ks x y) d T L h K = optB (eqstO n ks (x.ev T.av) (y.ev T.av)) d T L h K := gen_pure rfl rfl
theorem wpO_eqnil {n : Bool} {x y : AX} : wpO P (.eqnil n x y) d T L h K = optB (eqnilO n (x.ev T.av) (y.ev T.av)) d T L h K := gen_pure rfl rfl
theorem wpO_not {x : AX} : wpO P (.not x) d T L h K = optB (notO (x.ev T.av)) d T L h K := gen_pure rfl rfl
theorem wpO_conv {k : IntKind} {x : AX} : wpO P (.conv k x) d T L h K = optB (convO k (x.ev T.av)) d T L h K := gen_pure rfl rfl
def bytesO (h : H) : AV → Option AV
  | .one (.sl (some a) n _) => if n = 0 then none else match h.load a n with
    | some cs => (strBytes cs).map fun l => .one (.str (strOfNums l))
    | none => none
  | _ => none
theorem wpO_bytesStr {x : AX} : wpO P (.bytesStr x) d T L h K = optB (bytesO h (x.ev T.av)) d T L h K := gen_pure rfl rfl
theorem wpO_iaddr {k : Nat} {x i : AX} : wpO P (.iaddr k x i) d T L h K = optB (iaddrO k (x.ev T.av) (i.ev T.av)) d T L h K := gen_pure rfl rfl
theorem wpO_idxStr {x i : AX} : wpO P (.idxStr x i) d T L h K = optB (idxStrO (x.ev T.av) (i.ev T.av)) d T L h K := gen_pure rfl rfl
theorem wpO_field {o k : Nat} {g : Bool} {x : AX} : wpO P (.field o k g x) d T L h K = optB (fieldO o k g (x.ev T.av)) d T L h K := gen_pure rfl rfl
theorem wpO_extract {x : AX} {i : Nat} : wpO P (.extract x i) d T L h K = optB (extractO i (x.ev T.av)) d T L h K := gen_pure rfl rfl
theorem wpO_len {x : AX} : wpO P (.len x) d T L h K = optB (lenO (x.ev T.av)) d T L h K := gen_pure rfl rfl
theorem wpO_lenStr {x : AX} : wpO P (.lenStr x) d T L h K = optB (lenStrO (x.ev T.av)) d T L h K := gen_pure rfl rfl
theorem wpO_cap {x : AX} : wpO P (.cap x) d T L h K = optB (capO (x.ev T.av)) d T L h K := gen_pure rfl rfl
theorem wpO_min {x y : AX} : wpO P (.min x y) d T L h K = optB (minO (x.ev T.av) (y.ev T.av)) d T L h K := gen_pure rfl rfl
end
/-- A cut, of values. -/
def cutO (ty k : Nat) (h : H) (v : AV) (lo hi mx : Option AV) : Option AV :=
  pureA (.slice ty k (.t 0) (lo.map fun _ => .t 1) (hi.map fun _ => .t 2) (mx.map fun _ => .t 3)) (fun t => if t = 0 then v else if t = 1 then lo.getD undefA else if t = 2 then hi.getD undefA else mx.getD undefA) h
theorem cutO_eq {T : Tm} {ty k : Nat} {x : AX} {lo hi mx : Option AX} : pureA (.slice ty k x lo hi mx) T h = cutO ty k h (x.ev T) (lo.map (·.ev T)) (hi.map (·.ev T)) (mx.map (·.ev T)) := by
  have hb : ∀ n c, boundsA (fun t => if t = 0 then x.ev T else if t = 1 then (lo.map (·.ev T)).getD undefA else if t = 2 then (hi.map (·.ev T)).getD undefA else (mx.map (·.ev T)).getD undefA) n c ((lo.map (·.ev T)).map fun _ => .t 1) ((hi.map (·.ev T)).map fun _ => .t 2) ((mx.map (·.ev T)).map fun _ => .t 3) = boundsA T n c lo hi mx := by
    intro n c
    cases lo <;> cases hi <;> cases mx <;> rfl
  simp only [cutO, pureA, hb]
  rfl
theorem wpO_slice {ty k : Nat} {x : AX} {lo hi mx : Option AX} {d : Option Nat} : wpO P (.slice ty k x lo hi mx) d T L h K = optB (cutO ty k h (x.ev T.av) (lo.map (·.ev T.av)) (hi.map (·.ev T.av)) (mx.map (·.ev T.av))) d T L h K := by
  rw [← cutO_eq]
  exact gen_pure rfl rfl
def sliceStrO (s : AV) (lo hi : Option AV) : Option AV :=
  match s with
  | .one (.str s) => match boundsA (fun t => if t = 1 then lo.getD undefA else hi.getD undefA) s.size (some s.size) (lo.map fun _ => .t 1) (hi.map fun _ => .t 2) none with
    | some (l, h', _) => some (.one (.str (s.extract l h')))
    | none => none
  | _ => none
theorem wpO_sliceStr {x : AX} {lo hi : Option AX} {d : Option Nat} : wpO P (.sliceStr x lo hi) d T L h K = optB (sliceStrO (x.ev T.av) (lo.map (·.ev T.av)) (hi.map (·.ev T.av))) d T L h K := by
  rw [gen_pure (P := P) (o := .sliceStr x lo hi) rfl rfl]
  congr 1
  cases lo <;> cases hi <;> rfl

/-! the function's own store -/
theorem wpO_alloc {ty t : Nat} {z : List CV} : wpO P (.alloc ty z) (some t) T L h K = K ((T.kill t).put (some t) (.lp t 0)) (L.put t (ty, z)) (rdy h) := by
  refine propext ⟨?_, fun hk => ⟨_, _, _, rfl, hk⟩⟩
  rintro ⟨T', L', h', h2, hk⟩
  cases h2
  exact hk
def boxK (v : BV) (ty t : Nat) (T : Tb) (L : Lb) (h : H) (K : Post) : Prop :=
  match v with
  | .v (.one c) => K ((T.kill t).put (some t) (.lp t 0)) (L.put t (ty, [c])) h
  | .v (.agg cs) => K ((T.kill t).put (some t) (.lp t 0)) (L.put t (ty, cs)) h
  | _ => False
theorem boxK_one {c : CV} {ty t : Nat} : boxK (.v (.one c)) ty t T L h K = K ((T.kill t).put (some t) (.lp t 0)) (L.put t (ty, [c])) (rdy h) := rfl
theorem boxK_agg {c : List CV} {ty t : Nat} : boxK (.v (.agg c)) ty t T L h K = K ((T.kill t).put (some t) (.lp t 0)) (L.put t (ty, c)) (rdy h) := rfl
theorem wpO_box {ty t : Nat} {x : AX} : wpO P (.box ty x) (some t) T L h K = boxK (x.bv T) ty t T L h K := by
  unfold wpO
  simp only [opB]
  cases hx : x.bv T with
  | lp s o => simp [boxK]
  | v a =>
    cases a with
    | one c =>
      simp only [AV.cells, Option.map_some, boxK]
      refine propext ⟨?_, fun hk => ⟨_, _, _, rfl, hk⟩⟩
      rintro ⟨T', L', h', h2, hk⟩
      cases h2
      exact hk
    | agg c =>
      simp only [AV.cells, Option.map_some, boxK]
      refine propext ⟨?_, fun hk => ⟨_, _, _, rfl, hk⟩⟩
      rintro ⟨T', L', h', h2, hk⟩
      cases h2
      exact hk
    | tup l => simp [AV.cells, boxK]
/-- A store into the function's own. -/
def stL (r : Option (List CV)) (t : Nat) (d : Option Nat) (T : Tb) (L : Lb) (h : H) (K : Post) : Prop := ∃ cs, r = some cs ∧ K (T.put d (.v undefA)) (L.put t ((L t).1, cs)) h
theorem stL_some {cs : List CV} {t : Nat} {d : Option Nat} : stL (some cs) t d T L h K = K (T.put d (.v undefA)) (L.put t ((L t).1, cs)) (rdy h) := by
  refine propext ⟨?_, fun hk => ⟨cs, rfl, hk⟩⟩
  rintro ⟨v1, h2, hk⟩
  cases h2
  exact hk
/-- A store onto the heap. -/
def stH (k : Nat) (a : Nat × Nat) (vs : List CV) (d : Option Nat) (T : Tb) (L : Lb) (h : H) (K : Post) : Prop := ∃ h', vs.length = k ∧ h.store a vs = some h' ∧ K (T.put d (.v undefA)) L h'
def stV (k : Nat) (x v : AV) (d : Option Nat) (T : Tb) (L : Lb) (h : H) (K : Post) : Prop :=
  match x, v with
  | .one (.ptr (some a)), .one c => stH k a [c] d T L h K
  | .one (.ptr (some a)), .agg cs => stH k a cs d T L h K
  | _, _ => False
def stK (k : Nat) (x : BV) (v : AV) (d : Option Nat) (T : Tb) (L : Lb) (h : H) (K : Post) : Prop :=
  match x with
  | .lp t off => (match v with
    | .one c => stL (storeL (L t).2 off k [c]) t d T L h K
    | .agg cs => stL (storeL (L t).2 off k cs) t d T L h K
    | .tup _ => False)
  | .v a => stV k a v d T L h K
theorem stK_lp_one {k t off : Nat} {c : CV} {d : Option Nat} : stK k (.lp t off) (.one c) d T L h K = stL (storeL (L t).2 off k [c]) t d T L h K := rfl
theorem stK_lp_agg {k t off : Nat} {c : List CV} {d : Option Nat} : stK k (.lp t off) (.agg c) d T L h K = stL (storeL (L t).2 off k c) t d T L h K := rfl
theorem stK_v_one {k : Nat} {a : Nat × Nat} {c : CV} {d : Option Nat} : stK k (.v (.one (.ptr (some a)))) (.one c) d T L h K = stH k a [c] d T L h K := rfl
theorem stK_v_agg {k : Nat} {a : Nat × Nat} {c : List CV} {d : Option Nat} : stK k (.v (.one (.ptr (some a)))) (.agg c) d T L h K = stH k a c d T L h K := rfl
theorem wpO_store {k : Nat} {x v : AX} {d : Option Nat} : wpO P (.store k x v) d T L h K = stK k (x.bv T) (v.ev T.av) d T L h K := by
  have ev : ∀ x : AX, x.ev T.av = (x.bv T).av := by intro x; cases x <;> rfl
  unfold wpO
  simp only [opB]
  cases hx : x.bv T with
  | lp t off =>
    simp only [stK, ev]
    cases hv : (v.bv T).av with
    | one c =>
      simp only [AV.cells, stL]
      refine propext ⟨?_, ?_⟩
      · rintro ⟨T', L', h', h2, hk⟩
        obtain ⟨cs, h3, h4⟩ := Option.map_eq_some_iff.1 h2
        simp only [Prod.mk.injEq] at h4
        obtain ⟨rfl, rfl, rfl⟩ := h4
        exact ⟨cs, h3, hk⟩
      · rintro ⟨cs, h3, hk⟩
        exact ⟨_, _, _, by rw [h3]; rfl, hk⟩
    | agg c =>
      simp only [AV.cells, stL]
      refine propext ⟨?_, ?_⟩
      · rintro ⟨T', L', h', h2, hk⟩
        obtain ⟨cs, h3, h4⟩ := Option.map_eq_some_iff.1 h2
        simp only [Prod.mk.injEq] at h4
        obtain ⟨rfl, rfl, rfl⟩ := h4
        exact ⟨cs, h3, hk⟩
      · rintro ⟨cs, h3, hk⟩
        exact ⟨_, _, _, by rw [h3]; rfl, hk⟩
    | tup l => simp [AV.cells]
  | v a =>
    have ea : x.ev T.av = a := by rw [ev, hx]; rfl
    simp only [genB, opA, ea, stK]
    have key : ∀ (p : Nat × Nat) (cs : List CV), (∃ T' L' h', ((if cs.length = k then (h.store p cs).map fun h' => (undefA, h') else none).map fun r => (T.put d (BV.v r.1), L, r.2)) = some (T', L', h') ∧ K T' L' h') = stH k p cs d T L h K := by
      intro p cs
      unfold stH
      refine propext ⟨?_, ?_⟩
      · rintro ⟨T', L', h', h2, hk⟩
        obtain ⟨r, h3, h4⟩ := Option.map_eq_some_iff.1 h2
        simp only [Prod.mk.injEq] at h4
        obtain ⟨rfl, rfl, rfl⟩ := h4
        split at h3
        · rename_i hl
          obtain ⟨h5, h6, rfl⟩ := Option.map_eq_some_iff.1 h3
          exact ⟨h5, hl, h6, hk⟩
        · simp at h3
      · rintro ⟨h5, hl, h6, hk⟩
        exact ⟨_, _, _, by rw [if_pos hl, h6]; rfl, hk⟩
    cases a with
    | one c =>
      cases c with
      | ptr p =>
        cases p with
        | none => cases v.ev T.av <;> simp [stV]
        | some p =>
          cases hv : v.ev T.av with
          | one c => simp only [AV.cells, stV]; exact key p [c]
          | agg c => simp only [AV.cells, stV]; exact key p c
          | tup l => simp [AV.cells, stV]
      | _ => cases v.ev T.av <;> simp [stV]
    | _ => cases v.ev T.av <;> simp [stV]

/-! calls -/
def proM (v : BV) (r : List AX) (T : Tb) (L : Lb) (h : H) : Tb × H :=
  match v with
  | .lp t _ => proA r (T.pro t h.n) L (h.alloc (L t).2 (L t).1)
  | .v _ => proA r T L h
theorem proA_nil : proA [] T L h = (T, h) := rfl
theorem proA_cons {x : AX} {r : List AX} : proA (x :: r) T L h = proM (x.bv T) r T L h := rfl
theorem proM_v {a : AV} {r : List AX} : proM (.v a) r T L h = proA r T L h := rfl
theorem proM_lp {t o : Nat} {r : List AX} : proM (.lp t o) r T L h = proA r (T.pro t h.n) L (h.alloc (L t).2 (L t).1) := rfl
def callG (P : Program) (s : Tb × H) (f : Nat) (l : List AX) (d : Option Nat) (L : Lb) (K : Post) : Prop := callK (bm P f (l.map (·.ev s.1.av)) s.2) fun v h' => K (s.1.put d (.v v)) L h'
theorem callG_mk {f : Nat} {l : List AX} {d : Option Nat} : callG P (T, h) f l d L K = callK (bm P f (l.map (·.ev T.av)) h) fun v h' => K (T.put d (.v v)) L h' := rfl
theorem gen_map {r : Option (AV × H)} {d : Option Nat} : (∃ T' L' h', (r.map fun r => (T.put d (BV.v r.1), L, r.2)) = some (T', L', h') ∧ K T' L' h') = callK r fun v h' => K (T.put d (.v v)) L h' := by
  cases r with
  | none => simp [callK]
  | some x =>
    obtain ⟨v, h'⟩ := x
    rw [callK_some]
    refine propext ⟨?_, fun hk => ⟨_, _, _, rfl, hk⟩⟩
    rintro ⟨T', L', h', h2, hk⟩
    cases h2
    exact hk
theorem wpO_call {f : Nat} {l : List AX} {d : Option Nat} : wpO P (.call f l) d T L h K = callG P (proA l T L h) f l d L K := gen_map
def callvK (P : Program) (v : AV) (args : List AV) (h : H) (K : AV → H → Prop) : Prop :=
  match v with
  | .one (.fn f caps) => callK (bm P f (args ++ caps.map fun a => .one (.ptr (some a))) h) K
  | _ => False
theorem callvK_fn {f : Nat} {caps : List (Nat × Nat)} {args : List AV} {K : AV → H → Prop} : callvK P (.one (.fn f caps)) args h K = callK (bm P f (args ++ caps.map fun a => .one (.ptr (some a))) h) K := rfl
def callVG (P : Program) (s : Tb × H) (x : AX) (l : List AX) (d : Option Nat) (L : Lb) (K : Post) : Prop := callvK P (x.ev s.1.av) (l.map (·.ev s.1.av)) s.2 fun v h' => K (s.1.put d (.v v)) L h'
theorem callVG_mk {x : AX} {l : List AX} {d : Option Nat} : callVG P (T, h) x l d L K = callvK P (x.ev T.av) (l.map (·.ev T.av)) h fun v h' => K (T.put d (.v v)) L h' := rfl
theorem wpO_callv {x : AX} {l : List AX} {d : Option Nat} : wpO P (.callv x l) d T L h K = callVG P (proA l T L h) x l d L K := by
  refine Eq.trans gen_map ?_
  simp only [opA, callVG, callvK]
  split
  · rename_i f caps he
    simp only [he]
  · rename_i hne
    split
    · rename_i f caps he
      exact absurd he (hne f caps)
    · simp [callK]
def fnG (s : Tb × H) (f : Nat) (l : List AX) (d : Option Nat) (L : Lb) (K : Post) : Prop := optB ((ptrsA (l.map (·.ev s.1.av))).map fun c => .one (.fn f c)) d s.1 L s.2 K
theorem fnG_mk {f : Nat} {l : List AX} {d : Option Nat} : fnG (T, h) f l d L K = optB ((ptrsA (l.map (·.ev T.av))).map fun c => .one (.fn f c)) d T L h K := rfl
theorem ptrsA_nil : ptrsA [] = some [] := rfl
theorem ptrsA_cons {a : Nat × Nat} {r : List AV} : ptrsA (.one (.ptr (some a)) :: r) = (ptrsA r).map (a :: ·) := rfl
theorem wpO_mkfn {f : Nat} {l : List AX} {d : Option Nat} : wpO P (.mkfn f l) d T L h K = fnG (proA l T L h) f l d L K := by
  refine Eq.trans gen_map ?_
  simp only [opA, pureA, fnG]
  cases hp : ptrsA (l.map (·.ev (proA l T L h).1.av)) with
  | none => simp [callK, optB]
  | some c => simp only [Option.map_some, callK_some, optB_some, rdy]

/-! what lays and grows blocks -/
def bsK (ty n : Nat) (z : List CV) (ps : List (Nat × Nat × AV)) (d : Option Nat) (T : Tb) (L : Lb) (h : H) (K : Post) : Prop :=
  ∃ cs, fillA (repl z n) ps = some cs ∧ K (T.put d (.v (.one (.sl (some (h.n, 0)) n (some n))))) L (h.alloc cs ty)
theorem wpO_buildSlice {ty n : Nat} {z : List CV} {ps : List (Nat × Nat × AX)} {d : Option Nat} : wpO P (.buildSlice ty n z ps) d T L h K = bsK ty n z (ps.map fun p => (p.1, p.2.1, p.2.2.ev T.av)) d T L h K := by
  refine Eq.trans gen_map ?_
  simp only [opA, bsK]
  cases hf : fillA (repl z n) (ps.map fun p => (p.1, p.2.1, p.2.2.ev T.av)) with
  | some cs => simp [callK_some]
  | none => simp [callK]
def mkK (ty b : Nat) (z : List CV) (l c : AV) (d : Option Nat) (T : Tb) (L : Lb) (h : H) (K : Post) : Prop :=
  match l, c with
  | .one (.int .i64 l), .one (.int .i64 c) => (0 ≤ l ∧ l ≤ c ∧ c * b ≤ 140737488355328 ∧ c ≤ 9223372036854775807) ∧ K (T.put d (.v (.one (.sl (some (h.n, 0)) l.toNat (some c.toNat))))) L (h.alloc (repl z c.toNat) ty)
  | _, _ => False
theorem wpO_mkslice {ty b : Nat} {z : List CV} {l c : AX} {d : Option Nat} : wpO P (.mkslice ty b z l c) d T L h K = mkK ty b z (l.ev T.av) (c.ev T.av) d T L h K := by
  refine Eq.trans gen_map ?_
  simp only [opA, mkK]
  cases l.ev T.av with
  | one x =>
    cases x with
    | int k l =>
      cases c.ev T.av with
      | one y =>
        cases y with
        | int k' c =>
          cases k <;> cases k' <;> simp only [callK, reduceCtorEq, false_and, exists_false]
          split
          · rename_i hc
            rw [show (∃ v h', some (AV.one (CV.sl (some (h.n, 0)) l.toNat (some c.toNat)), h.alloc (repl z c.toNat) ty) = some (v, h') ∧ K (T.put d (BV.v v)) L h') = K (T.put d (BV.v (AV.one (CV.sl (some (h.n, 0)) l.toNat (some c.toNat))))) L (h.alloc (repl z c.toNat) ty) from callK_some]
            simp [hc]
          · rename_i hc
            simp [hc]
        | _ => cases k <;> simp [callK]
      | _ => cases k <;> simp [callK]
    | _ => simp [callK]
  | _ => simp [callK]
def apK (ty k b : Nat) (s x : AV) (d : Option Nat) (T : Tb) (L : Lb) (h : H) (K : Post) : Prop := callK (appendA ty k b s x h) fun v h' => K (T.put d (.v v)) L h'
theorem wpO_append {ty k b : Nat} {s x : AX} {d : Option Nat} : wpO P (.append ty k b s x) d T L h K = apK ty k b (s.ev T.av) (x.ev T.av) d T L h K := gen_map

def azK (ty b : Nat) (z : List CV) (s x : AV) (d : Option Nat) (T : Tb) (L : Lb) (h : H) (K : Post) : Prop :=
  match s, x with
  | .one (.sl none _ _), .one (.int .i64 n) => (0 < n ∧ n * b ≤ 140737488355328 ∧ n ≤ 140737488355328) ∧ K (T.put d (.v (.one (.sl (some (h.n, 0)) n.toNat none)))) L (h.alloc (repl z n.toNat) ty)
  | _, _ => False
theorem wpO_appz {ty k b : Nat} {z : List CV} {s x : AX} {d : Option Nat} : wpO P (.appz ty k b z s x) d T L h K = azK ty b z (s.ev T.av) (x.ev T.av) d T L h K := by
  refine Eq.trans gen_map ?_
  simp only [opA, azK]
  split
  · rename_i m c n e1 e2
    rw [e1, e2]
    simp only
    split
    · rename_i hc
      rw [callK_some]
      simp [hc]
    · rename_i hc
      simp [callK, hc]
  · rename_i hne
    split
    · rename_i m c n e1 e2
      exact absurd e2 (hne m c n e1)
    · simp [callK]

/-! values -/
theorem lenO_sl {b : Option (Nat × Nat)} {n : Nat} {c : Option Nat} : lenO (.one (.sl b n c)) = some (ii n) := rfl
theorem faddrO_ptr {off : Nat} {a : Nat × Nat} : faddrO off (.one (.ptr (some a))) = some (.one (.ptr (some (a.1, a.2 + off)))) := rfl
theorem lenStrO_str {s : ByteArray} : lenStrO (.one (.str s)) = some (ii s.size) := rfl
theorem notO_bool {b : Bool} : notO (.one (.bool b)) = some (ib (!b)) := rfl
theorem pickO_bool {t : Bool} {a b : AV} : pickO (.one (.bool t)) a b = some (if t then a else b) := rfl
theorem convO_int {k k' : IntKind} {n : Int} : convO k (.one (.int k' n)) = some (.one (.int k (k.wrap n))) := rfl
theorem eqbO_bool {n a b : Bool} : eqbO n (.one (.bool a)) (.one (.bool b)) = some (ib ((a == b) != n)) := rfl
theorem eqnilO_sl {n : Bool} {a : Option (Nat × Nat)} {m m' : Nat} {c c' : Option Nat} : eqnilO n (.one (.sl a m c)) (.one (.sl none m' c')) = some (ib (a.isNone != n)) := rfl
theorem extractO_tup {i : Nat} {l : List AV} : extractO i (.tup l) = l[i]? := rfl
theorem capO_sl {b : Option (Nat × Nat)} {n c : Nat} : capO (.one (.sl b n (some c))) = some (ii c) := rfl
theorem minO_int {k : IntKind} {a b : Int} : minO (.one (.int k a)) (.one (.int k b)) = some (.one (.int k (if b < a then b else a))) := by simp [minO]
theorem loadL_one {cs : List CV} {off : Nat} : loadL cs off 1 false = cs[off]?.map .one := by
  unfold loadL
  by_cases hk : off + 1 ≤ cs.length
  · rw [if_pos hk]
    have h1 : off < cs.length := by omega
    rw [List.drop_eq_getElem_cons h1, List.take_succ_cons, List.take_zero]
    simp [h1]
  · rw [if_neg hk, List.getElem?_eq_none (by omega)]
    rfl
theorem loadL_all {cs : List CV} {k : Nat} (hk : cs.length = k) : loadL cs 0 k true = some (.agg cs) := by
  unfold loadL
  rw [if_pos (by omega)]
  simp [← hk]
theorem loadL_agg {cs : List CV} {off k : Nat} (hk : off + k ≤ cs.length) : loadL cs off k true = some (.agg ((cs.drop off).take k)) := by
  unfold loadL
  rw [if_pos hk]
  simp
theorem storeL_eq {cs vs : List CV} {off k : Nat} (hv : vs.length = k) (hk : off + k ≤ cs.length) : storeL cs off k vs = some (cs.take off ++ (vs ++ cs.drop (off + k))) := by
  unfold storeL
  rw [if_pos ⟨hv, hk⟩]
theorem fieldO_one {off : Nat} {cs : List CV} {c : CV} (hc : cs[off]? = some c) : fieldO off 1 false (.agg cs) = some (.one c) := by
  have := (List.getElem?_eq_some_iff.1 hc).1
  simp only [fieldO]
  rw [if_pos (by omega)]
  simp [hc]
theorem loadO_one {a : Nat × Nat} {c : CV} (hl : h.load a 1 = some [c]) : loadO 1 false h (.one (.ptr (some a))) = some (.one c) := by
  simp [loadO, hl]
theorem loadO_agg {a : Nat × Nat} {k : Nat} {cs : List CV} (hl : h.load a k = some cs) : loadO k true h (.one (.ptr (some a))) = some (.agg cs) := by
  simp [loadO, hl]
theorem fillA_nil {z : List CV} : fillA z [] = some z := rfl
theorem fillA_agg {z cs : List CV} {off k : Nat} {r : List (Nat × Nat × AV)} (hl : cs.length = k) (hk : off + k ≤ z.length) : fillA z ((off, k, .agg cs) :: r) = fillA (z.take off ++ (cs ++ z.drop (off + k))) r := by
  simp only [fillA, AV.cells]
  rw [if_pos ⟨hl, hk⟩]
theorem fillA_one {z : List CV} {off : Nat} {c : CV} {r : List (Nat × Nat × AV)} (hk : off + 1 ≤ z.length) : fillA z ((off, 1, .one c) :: r) = fillA (z.set off c) r := by
  simp only [fillA, AV.cells]
  rw [if_pos ⟨rfl, by omega⟩]
  congr 1
  rw [List.set_eq_take_append_cons_drop, if_pos (show off < z.length by omega)]
  rfl

section
variable {k : IntKind} {a b : Int} {s t : ByteArray}
theorem bin_add : binA .add (.one (.int k a)) (.one (.int k b)) = some (.one (.int k (k.wrap (a + b)))) := by simp [binA]
theorem bin_sub : binA .sub (.one (.int k a)) (.one (.int k b)) = some (.one (.int k (k.wrap (a - b)))) := by simp [binA]
theorem bin_mul : binA .mul (.one (.int k a)) (.one (.int k b)) = some (.one (.int k (k.wrap (a * b)))) := by simp [binA]
theorem bin_quo (hb : b ≠ 0) : binA .quo (.one (.int k a)) (.one (.int k b)) = some (.one (.int k (k.wrap (a.tdiv b)))) := by simp [binA, hb]
theorem bin_rem (hb : b ≠ 0) : binA .rem (.one (.int k a)) (.one (.int k b)) = some (.one (.int k (a.tmod b))) := by simp [binA, hb]
theorem bin_eql : binA .eql (.one (.int k a)) (.one (.int k b)) = some (ib (decide (a = b))) := by simp [binA]; rfl
theorem bin_neq : binA .neq (.one (.int k a)) (.one (.int k b)) = some (ib (!(decide (a = b)))) := by simp [binA]; rfl
theorem bin_lss : binA .lss (.one (.int k a)) (.one (.int k b)) = some (ib (decide (a < b))) := by simp [binA]
theorem bin_leq : binA .leq (.one (.int k a)) (.one (.int k b)) = some (ib (decide (a ≤ b))) := by simp [binA]
theorem bin_gtr : binA .gtr (.one (.int k a)) (.one (.int k b)) = some (ib (decide (a > b))) := by simp [binA]
theorem bin_geq : binA .geq (.one (.int k a)) (.one (.int k b)) = some (ib (decide (a ≥ b))) := by simp [binA]
theorem str_add (h : ((s.size + t.size : Nat) : Int) ≤ 9223372036854775807) : binA .add (.one (.str s)) (.one (.str t)) = some (.one (.str (s ++ t))) := by simp only [binA]; rw [if_neg (by omega)]
theorem str_beq : (s.toList == t.toList) = decide (s = t) := by
  by_cases hst : s = t
  · subst hst
    simp
  · rw [decide_eq_false hst, beq_eq_false_iff_ne]
    intro h
    rw [ByteArray.toList_eq, ByteArray.toList_eq] at h
    apply hst
    cases s
    cases t
    simp at h
    simp [h]
/-- One string is less than another one. -/
def sLess (s t : ByteArray) : Bool := Op.bytesLess s.toList t.toList
theorem str_eql : binA .eql (.one (.str s)) (.one (.str t)) = some (ib (decide (s = t))) := by rw [← str_beq]; rfl
theorem str_neq : binA .neq (.one (.str s)) (.one (.str t)) = some (ib (!(decide (s = t)))) := by rw [← str_beq]; rfl
theorem str_lss : binA .lss (.one (.str s)) (.one (.str t)) = some (ib (sLess s t)) := rfl
theorem str_leq : binA .leq (.one (.str s)) (.one (.str t)) = some (ib (sLess s t || decide (s = t))) := by rw [← str_beq]; rfl
theorem str_gtr : binA .gtr (.one (.str s)) (.one (.str t)) = some (ib (!(sLess s t || decide (s = t)))) := by rw [← str_beq]; rfl
theorem str_geq : binA .geq (.one (.str s)) (.one (.str t)) = some (ib (!(sLess s t))) := rfl
theorem i64_wrap (h1 : -9223372036854775808 ≤ a) (h2 : a ≤ 9223372036854775807) : IntKind.i64.wrap a = a := by
  simp [IntKind.wrap, IntKind.bits, IntKind.signed]
  omega
end

/-! ### the end -/
theorem gcK_same {v : AV} {K : AV → H → Prop} : gcK h v (rdy h) K = K v h := by
  unfold gcK gcA rdy
  split <;> rfl
theorem gcK_scalar {v : AV} {h1 : H} {K : AV → H → Prop} (hs : v.scalar = true) (hg : Grow h h1) : gcK h v h1 K = K v h := by
  unfold gcK gcA
  rw [if_pos ⟨hs, hg⟩]
theorem gcK_int {k : IntKind} {n : Int} {cs : List CV} {ty : Nat} {K : AV → H → Prop} : gcK h (.one (.int k n)) (rdy (h.alloc cs ty)) K = K (.one (.int k n)) h := gcK_scalar rfl (Grow.alloc h cs ty)
theorem gcK_bool {b : Bool} {cs : List CV} {ty : Nat} {K : AV → H → Prop} : gcK h (.one (.bool b)) (rdy (h.alloc cs ty)) K = K (.one (.bool b)) h := gcK_scalar rfl (Grow.alloc h cs ty)
theorem gcR_of {v : AV} {h1 : H} {K : AV → H → Prop} (hg : Grow h h1) (hs : v.scalar = true) (hk : K v h) : gcK h v (rdy h1) K := by
  show gcK h v h1 K
  rw [gcK_scalar hs hg]
  exact hk
theorem gcK_of {v : AV} {h1 : H} {K : AV → H → Prop} (hk : K v h1) (hs : v.scalar = true → Grow h h1 → K v h) : gcK h v h1 K := by
  unfold gcK gcA
  split
  · rename_i hc
    exact hs hc.1 hc.2
  · exact hk
theorem doneB_normal {rs : List ARes} {K : AV → H → Prop} : doneB rs h0 K .normal T L (rdy h) = endK h0 (proA (tmpX rs) T L h) L rs K := rfl
theorem doneB_ret {rs : List ARes} {K : AV → H → Prop} : doneB rs h0 K .ret T L (rdy h) = endK h0 (proA (tmpX rs) T L h) L rs K := rfl
theorem tmpX_nil : tmpX [] = [] := rfl
theorem tmpX_tmp {t : Nat} {r : List ARes} : tmpX (.tmp t :: r) = .t t :: tmpX r := rfl
theorem tmpX_cell {t k : Nat} {g : Bool} {r : List ARes} : tmpX (.cell t k g :: r) = tmpX r := rfl
def retK (r : Option AV) (h0 h : H) (K : AV → H → Prop) : Prop := ∃ v, r = some v ∧ gcK h0 v h K
theorem retK_some {v : AV} {K : AV → H → Prop} : retK (some v) h0 h K = gcK h0 v (rdy h) K := by
  refine propext ⟨?_, fun hk => ⟨v, rfl, hk⟩⟩
  rintro ⟨v1, h2, hk⟩
  cases h2
  exact hk
theorem endK_mk {rs : List ARes} {K : AV → H → Prop} : endK h0 (T, h) L rs K = retK (resultsB T L h rs) h0 h K := rfl
theorem results_one {r : ARes} : resultsB T L h [r] = resB T L h r := rfl
def tupO : Option AV → Option (List AV) → Option (List AV)
  | some (.tup _), _ => none
  | some v, some vs => some (v :: vs)
  | _, _ => none
theorem tupO_one {c : CV} {l : List AV} : tupO (some (.one c)) (some l) = some (.one c :: l) := rfl
theorem tupO_agg {c : List CV} {l : List AV} : tupO (some (.agg c)) (some l) = some (.agg c :: l) := rfl
theorem resBs_nil : resBs T L h [] = some [] := rfl
theorem resBs_cons {r : ARes} {l : List ARes} : resBs T L h (r :: l) = tupO (resB T L h r) (resBs T L h l) := by
  simp only [resBs]
  cases resB T L h r with
  | none => cases resBs T L h l <;> rfl
  | some v => cases v <;> cases resBs T L h l <;> rfl
theorem results_two {r s : ARes} {l : List ARes} : resultsB T L h (r :: s :: l) = (resBs T L h (r :: s :: l)).map .tup := rfl
theorem results_nil : resultsB T L h [] = some (.tup []) := rfl
theorem resB_tmp {t : Nat} : resB T L h (.tmp t) = some (T t).av := rfl
theorem resB_cell {t k : Nat} {g : Bool} : resB T L h (.cell t k g) = ldX k g h L (T t) := by
  simp only [resB, pureB_load, Option.map_map, AX.bv]
  cases ldX k g h L (T t) <;> rfl

/-! ### loops -/
theorem wpC_loop {a : ACode} (I : Nat → Tb → Lb → H → Prop) (n : Nat)
    (step : ∀ i T L h, i < n → I i T L h → wpC P a T L (rdy h) (thenQ (I (i + 1)) Q))
    (last : ∀ T L h, I n T L h → wpC P a T L (rdy h) (thenQ (fun _ _ _ => False) Q)) {i : Nat} (hi : i ≤ n) (h0 : I i T L h) : wpC P (.loop a) T L h Q := by
  have key : ∀ k i T L h, i + k = n → I i T L h → wpC P (.loop a) T L h Q := by
    intro k
    induction k with
    | zero =>
      intro i T L h hi h0
      obtain rfl : i = n := by omega
      obtain ⟨ex, T', L', h', h1, hq⟩ := last T L h h0
      simp only [rdy] at h1
      refine ⟨ex, T', L', h', ?_, ?_⟩
      · simp only [codeB]
        rw [loopB_eq, h1]
        cases ex with
        | normal => exact hq.elim
        | exit id => rfl
        | ret => rfl
      · cases ex with
        | normal => exact hq.elim
        | exit id => exact hq
        | ret => exact hq
    | succ k ih =>
      intro i T L h hi h0
      obtain ⟨ex, T', L', h', h1, hq⟩ := step i T L h (by omega) h0
      simp only [rdy] at h1
      cases ex with
      | normal =>
        obtain ⟨ex, T2, L2, h2, h3, h4⟩ := ih (i + 1) T' L' h' (by omega) hq
        refine ⟨ex, T2, L2, h2, ?_, h4⟩
        simp only [codeB] at h3 ⊢
        rw [loopB_eq, h1]
        exact h3
      | exit id => exact ⟨_, _, _, _, by simp only [codeB]; rw [loopB_eq, h1], hq⟩
      | ret => exact ⟨_, _, _, _, by simp only [codeB]; rw [loopB_eq, h1], hq⟩
  exact key (n - i) i T L h (by omega) h0

/-- A loop with a number that falls. -/
theorem wpC_while {a : ACode} (I : Nat → Tb → Lb → H → Prop) (step : ∀ m T L h, I m T L h → wpC P a T L (rdy h) (thenQ (fun T L h => ∃ m', m' < m ∧ I m' T L h) Q)) : ∀ {m : Nat} {T : Tb} {L : Lb} {h : H}, I m T L h → wpC P (.loop a) T L h Q := by
  intro m
  induction m using Nat.strongRecOn with
  | _ m ih =>
    intro T L h h0
    obtain ⟨ex, T', L', h', h1, hq⟩ := step m T L h h0
    simp only [rdy] at h1
    cases ex with
    | normal =>
      obtain ⟨m', hm, hq⟩ := hq
      obtain ⟨ex, T2, L2, h2, h3, h4⟩ := ih m' hm hq
      refine ⟨ex, T2, L2, h2, ?_, h4⟩
      simp only [codeB] at h3 ⊢
      rw [loopB_eq, h1]
      exact h3
    | exit id => exact ⟨_, _, _, _, by simp only [codeB]; rw [loopB_eq, h1], hq⟩
    | ret => exact ⟨_, _, _, _, by simp only [codeB]; rw [loopB_eq, h1], hq⟩
abbrev VC {c d : ACode} (_ : c = d) : Prop := ∀ {P : Program} {T : Tb} {L : Lb} {h : H} {Q : PostC}, wpC P c T L (rdy h) Q = wpC P d T L (rdy h) Q
abbrev VS {c d : List AStep} (_ : c = d) : Prop := ∀ {P : Program} {T : Tb} {L : Lb} {h : H} {K : Post}, wpS P c T L (rdy h) K = wpS P d T L (rdy h) K
theorem rdy_self : (rdy h = h) = True := by simp [rdy]
/-! ### functions -/
theorem bm_of {f : Nat} {F : AFunc} (hF : compB P f = some F) {args : List AV} {K : AV → H → Prop} (hw : wpC P F.body (startB args) (fun _ => (0, [])) (rdy h) (doneB F.results h K)) : callK (bm P f args h) K := by
  obtain ⟨ex, T', L', h', h1, hq⟩ := hw
  simp only [rdy] at h1
  have hb : ∀ v, resultsB (proA (tmpX F.results) T' L' h').1 L' (proA (tmpX F.results) T' L' h').2 F.results = some v → (∀ id, ex ≠ .exit id) → bodyB (bm P) F args h = some (gcA h (v, (proA (tmpX F.results) T' L' h').2)) := by
    intro v hv hne
    unfold bodyB
    rw [h1]
    cases ex with
    | exit id => exact absurd rfl (hne id)
    | normal => simp [hv]
    | ret => simp [hv]
  cases ex with
  | exit id => exact hq.elim
  | normal =>
    obtain ⟨v, hv, hk⟩ := hq
    exact ⟨_, _, bm_body hF (hb v hv (by simp)), hk⟩
  | ret =>
    obtain ⟨v, hv, hk⟩ := hq
    exact ⟨_, _, bm_body hF (hb v hv (by simp)), hk⟩
theorem bm_eq {f : Nat} {F : AFunc} (hF : compB P f = some F) {args : List AV} {r : AV} {h' : H} (hw : wpC P F.body (startB args) (fun _ => (0, [])) (rdy h) (doneB F.results h fun v h1 => v = r ∧ h1 = h')) : bm P f args h = some (r, h') := by
  obtain ⟨v, h1, h2, rfl, rfl⟩ := bm_of hF hw
  exact h2
end
end Go.Proofs.Ytnphlonhogcedaa.Am
