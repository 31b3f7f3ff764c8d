/- The second machine: rules for its runs. -/
import Derived.Test.YtoeceafibmafpaaDoorMaC
import Derived.Laws.Strings
/-! The second machine: rules for its runs. -/
namespace Go.Proofs.YtoeceafibmafpaaDoor.Am
open Go

/-! ### slots -/
theorem put_same (T : Tb) (d : Nat) (v : BV) : (T.put (some d) v) d = v := by simp [Tb.put]
theorem put_ne (T : Tb) (d t : Nat) (v : BV) (h : t ≠ d) : (T.put (some d) v) t = T t := by simp [Tb.put, h]
theorem put_none (T : Tb) (v : BV) : T.put none v = T := rfl
theorem kill_at (T : Tb) (d t : Nat) : (T.kill d) t = (T t).kill d := rfl
theorem kill_v (a : AV) (d : Nat) : (BV.v a).kill d = .v a := rfl
theorem kill_lp_same (d o : Nat) : (BV.lp d o).kill d = .v undefA := by simp [BV.kill]
theorem kill_lp_ne (t o d : Nat) (h : t ≠ d) : (BV.lp t o).kill d = .lp t o := by simp [BV.kill, h]
theorem pro_at (T : Tb) (d b t : Nat) : (T.pro d b) t = (T t).pro d b := rfl
theorem pro_v (a : AV) (d b : Nat) : (BV.v a).pro d b = .v a := rfl
theorem pro_lp_same (d b o : Nat) : (BV.lp d o).pro d b = .v (.one (.ptr (some (b, o)))) := by simp [BV.pro]
theorem pro_lp_ne (t o d b : Nat) (h : t ≠ d) : (BV.lp t o).pro d b = .lp t o := by simp [BV.pro, h]
theorem lb_same (L : Lb) (d : Nat) (c : Nat × List CV) : (L.put d c) d = c := by simp [Lb.put]
theorem lb_ne (L : Lb) (d t : Nat) (c : Nat × List CV) (h : t ≠ d) : (L.put d c) t = L t := by simp [Lb.put, h]
theorem bv_t (T : Tb) (n : Nat) : (AX.t n).bv T = T n := rfl
theorem bv_c (T : Tb) (c : CV) : (AX.c c).bv T = .v (.one c) := rfl
theorem av_v (a : AV) : (BV.v a).av = a := rfl
theorem av_lp (t o : Nat) : (BV.lp t o).av = undefA := rfl
theorem ev_t (T : Tb) (n : Nat) : (AX.t n).ev T.av = (T n).av := rfl
theorem ev_c (T : Tb) (c : CV) : (AX.c c).ev T.av = .one c := rfl
theorem start_zero (a : AV) (l : List AV) : startB (a :: l) 0 = .v a := rfl
theorem start_succ (a : AV) (l : List AV) (n : Nat) : startB (a :: l) (n + 1) = startB l n := rfl

/-! ### what is asked of a run -/
section
variable (P : Program)

/-- A heap that is known: the rules below go on where they meet one, and not under a binder. -/
def rdy (h : H) : H := h
abbrev Post := Tb → Lb → H → Prop
abbrev PostC := Ex → Tb → Lb → H → Prop
def wpC (c : ACode) (T : Tb) (L : Lb) (h : H) (Q : PostC) : Prop := ∃ ex T' L' h', codeB (bm P) c T L h = some (ex, T', L', h') ∧ Q ex T' L' h'
def callK (r : Option (AV × H)) (K : AV → H → Prop) : Prop := ∃ v h', r = some (v, h') ∧ K v h'
def wpO (o : AOp) (d : Option Nat) (T : Tb) (L : Lb) (h : H) (K : Post) : Prop := ∃ T' L' h', opB (bm P) o d T L h = some (T', L', h') ∧ K T' L' h'
def wpS (l : List AStep) (T : Tb) (L : Lb) (h : H) (K : Post) : Prop := ∃ T' L' h', stepsB (bm P) l T L h = some (T', L', h') ∧ K T' L' h'

def thenQ (K : Post) (Q : PostC) : PostC
  | .normal => K
  | e => Q e
def inBlk (id : Nat) (Q : PostC) : PostC
  | .exit id', T, L, h => if id' = id then Q .normal T L h else Q (.exit id') T L h
  | e, T, L, h => Q e T L h
/-- A choice, to be made where the value and the heap are known. -/
def whenA (v : AV) (h : H) (p q : H → Prop) : Prop :=
  match v with
  | .one (.bool b) => (b = true → p h) ∧ (b = false → q h)
  | _ => False
def guardH (v : BV) (b : Bool) (h : H) (p q : H → Prop) : Prop :=
  match v with
  | .v (.one (.bool c)) => (c = b → p h) ∧ (c = !b → q h)
  | .v (.tup []) => q h
  | _ => False
/-- The end of a call. -/
def gcK (h0 : H) (v : AV) (h : H) (K : AV → H → Prop) : Prop := K (gcA h0 (v, h)).1 (gcA h0 (v, h)).2
def endK (h0 : H) (s : Tb × H) (L : Lb) (rs : List ARes) (K : AV → H → Prop) : Prop := ∃ v, resultsB s.1 L s.2 rs = some v ∧ gcK h0 v s.2 K
def doneB (rs : List ARes) (h0 : H) (K : AV → H → Prop) : PostC
  | .exit _, _, _, _ => False
  | _, T, L, h => endK h0 (proA (tmpX rs) T L h) L rs K

variable {P}
variable {T : Tb} {L : Lb} {h h0 : H} {Q : PostC} {K : Post}

theorem thenQ_normal {K : Post} : thenQ K Q .normal T L h = K T L h := rfl
theorem thenQ_exit {K : Post} {id : Nat} : thenQ K Q (.exit id) T L h = Q (.exit id) T L h := rfl
theorem thenQ_ret {K : Post} : thenQ K Q .ret T L h = Q .ret T L h := rfl
theorem inBlk_normal {id : Nat} : inBlk id Q .normal T L h = Q .normal T L h := rfl
theorem inBlk_ret {id : Nat} : inBlk id Q .ret T L h = Q .ret T L h := rfl
theorem inBlk_exit {id id' : Nat} : inBlk id Q (.exit id') T L h = if id' = id then Q .normal T L h else Q (.exit id') T L h := rfl
theorem callK_some {v : AV} {h' : H} {K : AV → H → Prop} : callK (some (v, h')) K = K v h' := by
  refine propext ⟨?_, fun hk => ⟨v, h', rfl, hk⟩⟩
  rintro ⟨v1, h1, h2, hk⟩
  cases h2
  exact hk
theorem callH_some {v : AV} {h' : H} {K : AV → H → Prop} : callK (some (v, h')) K = K v (rdy h') := callK_some
theorem callK_mono {r : Option (AV × H)} {K K' : AV → H → Prop} (hr : callK r K) (hk : ∀ v h', K v h' → K' v h') : callK r K' := by
  obtain ⟨v, h', h1, h2⟩ := hr
  exact ⟨v, h', h1, hk v h' h2⟩
/-- A call, by what is known of it. -/
theorem wp_call {r : Option (AV × H)} {K K' : AV → H → Prop} (hr : callK r K) (hk : ∀ v h', K v h' → K' v (rdy h')) : callK r K' := callK_mono hr hk
theorem callK_eq {r : Option (AV × H)} {v : AV} {h' : H} (hr : r = some (v, h')) {K : AV → H → Prop} (hk : K v h') : callK r K := ⟨v, h', hr, hk⟩
theorem ranB {x : Ex × Tb × Lb × H} : (∃ ex T' L' h', some x = some (ex, T', L', h') ∧ Q ex T' L' h') = Q x.1 x.2.1 x.2.2.1 x.2.2.2 := by
  refine propext ⟨?_, fun hk => ⟨_, _, _, _, rfl, hk⟩⟩
  rintro ⟨ex, T', L', h', h2, hk⟩
  cases h2
  exact hk

theorem wpC_skip : wpC P .skip T L (rdy h) Q = Q .normal T L (rdy h) := ranB
theorem wpC_exit {id : Nat} : wpC P (.exit id) T L (rdy h) Q = Q (.exit id) T L (rdy h) := ranB
theorem wpC_ret : wpC P .ret T L (rdy h) Q = Q .ret T L (rdy h) := ranB
theorem wpC_reg {l : List AStep} : wpC P (.reg l) T L (rdy h) Q = wpS P l T L (rdy h) (Q .normal) := by
  simp only [rdy, wpC, wpS, codeB, Option.map_eq_some_iff, Prod.mk.injEq, Prod.exists, eq_iff_iff]
  constructor
  · rintro ⟨ex, T', L', h', ⟨T1, L1, h1, h2, rfl, rfl, rfl, rfl⟩, hq⟩
    exact ⟨_, _, _, h2, hq⟩
  · rintro ⟨T', L', h', h2, hq⟩
    exact ⟨_, _, _, _, ⟨_, _, _, h2, rfl, rfl, rfl, rfl⟩, hq⟩
theorem wpC_seq {a b : ACode} : wpC P (.seq a b) T L (rdy h) Q = wpC P a T L (rdy h) (thenQ (fun T L h => wpC P b T L h Q) Q) := by
  simp only [rdy, wpC, codeB, eq_iff_iff]
  constructor
  · rintro ⟨ex, T', L', h', h1, hq⟩
    split at h1
    · rename_i T1 L1 h2 ha
      exact ⟨.normal, T1, L1, h2, ha, ex, T', L', h', h1, hq⟩
    · rename_i hne
      refine ⟨ex, T', L', h', h1, ?_⟩
      cases ex with
      | normal => exact absurd h1 (hne _ _ _)
      | exit id => exact hq
      | ret => exact hq
  · rintro ⟨ex, T', L', h', h1, hq⟩
    cases ex with
    | normal =>
      obtain ⟨ex, T2, L2, h2, h3, h4⟩ := hq
      exact ⟨ex, T2, L2, h2, by rw [h1]; exact h3, h4⟩
    | exit id => exact ⟨_, _, _, _, by rw [h1], hq⟩
    | ret => exact ⟨_, _, _, _, by rw [h1], hq⟩
theorem wpC_cond {c : AX} {a b : ACode} : wpC P (.cond c a b) T L (rdy h) Q = whenA (c.ev T.av) h (fun h => wpC P a T L h Q) (fun h => wpC P b T L h Q) := by
  simp only [rdy, wpC, codeB, eq_iff_iff]
  cases c.ev T.av with
  | one x =>
    cases x with
    | bool t => cases t <;> simp [whenA]
    | _ => simp [whenA]
  | _ => simp [whenA]
theorem wpC_block {id : Nat} {a : ACode} : wpC P (.block id a) T L (rdy h) Q = wpC P a T L (rdy h) (inBlk id Q) := by
  simp only [rdy, wpC, codeB, eq_iff_iff]
  constructor
  · rintro ⟨ex, T', L', h', h1, hq⟩
    split at h1
    · rename_i id' T1 L1 h2 ha
      refine ⟨.exit id', T1, L1, h2, ha, ?_⟩
      unfold inBlk
      split at h1
      · rename_i hid
        simp only [Option.some.injEq, Prod.mk.injEq] at h1
        obtain ⟨rfl, rfl, rfl, rfl⟩ := h1
        simp only [if_pos hid]
        exact hq
      · rename_i hid
        simp only [Option.some.injEq, Prod.mk.injEq] at h1
        obtain ⟨rfl, rfl, rfl, rfl⟩ := h1
        simp only [if_neg hid]
        exact hq
    · rename_i hne
      refine ⟨ex, T', L', h', h1, ?_⟩
      cases ex with
      | exit id' => exact absurd h1 (hne _ _ _ _)
      | normal => exact hq
      | ret => exact hq
  · rintro ⟨ex, T', L', h', h1, hq⟩
    cases ex with
    | exit id' =>
      rw [h1]
      simp only [inBlk] at hq ⊢
      by_cases hid : id' = id
      · rw [if_pos hid] at hq ⊢
        exact ⟨_, _, _, _, rfl, hq⟩
      · rw [if_neg hid] at hq ⊢
        exact ⟨_, _, _, _, rfl, hq⟩
    | normal => exact ⟨_, _, _, _, by rw [h1], hq⟩
    | ret => exact ⟨_, _, _, _, by rw [h1], hq⟩
theorem whenA_bool {b : Bool} {p q : H → Prop} : whenA (.one (.bool b)) h p q = ((b = true → p (rdy h)) ∧ (b = false → q (rdy h))) := rfl
theorem whenA_true {p q : H → Prop} : whenA (.one (.bool true)) h p q = p (rdy h) := by simp [whenA, rdy]
theorem whenA_false {p q : H → Prop} : whenA (.one (.bool false)) h p q = q (rdy h) := by simp [whenA, rdy]
theorem guardH_undef {b : Bool} {p q : H → Prop} : guardH (.v undefA) b h p q = q (rdy h) := rfl
theorem guardH_tt {p q : H → Prop} : guardH (.v (.one (.bool true))) true h p q = p (rdy h) := by simp [guardH, rdy]
theorem guardH_ff {p q : H → Prop} : guardH (.v (.one (.bool false))) false h p q = p (rdy h) := by simp [guardH, rdy]
theorem guardH_tf {p q : H → Prop} : guardH (.v (.one (.bool true))) false h p q = q (rdy h) := by simp [guardH, rdy]
theorem guardH_ft {p q : H → Prop} : guardH (.v (.one (.bool false))) true h p q = q (rdy h) := by simp [guardH, rdy]
theorem guardH_bool {b c : Bool} {p q : H → Prop} : guardH (.v (.one (.bool c))) b h p q = ((c = b → p (rdy h)) ∧ (c = !b → q (rdy h))) := rfl

theorem wpS_nil {K : Post} : wpS P [] T L (rdy h) K = K T L (rdy h) := by
  show wpS P [] T L h K = K T L h
  refine propext ⟨?_, fun hk => ⟨_, _, _, rfl, hk⟩⟩
  rintro ⟨T', L', h', h2, hk⟩
  cases h2
  exact hk
/-- A step that is always gone. -/
theorem wpS_step {o : AOp} {d : Option Nat} {l : List AStep} : wpS P (⟨o, d, none, []⟩ :: l) T L (rdy h) K = wpO P o d T L h (fun T' L' h' => wpS P l T' L' h' K) := by
  simp only [rdy, wpS, stepsB, stepB, wantB, List.all_nil, if_true, wpO, eq_iff_iff]
  constructor
  · rintro ⟨T', L', h', h1, hk⟩
    split at h1
    · rename_i T1 L1 h2 hs
      split at hs
      · rename_i T2 L2 h3 ho
        simp only [Option.some.injEq, Prod.mk.injEq] at hs
        obtain ⟨rfl, rfl, rfl⟩ := hs
        exact ⟨T2, L2, h3, ho, T', L', h', h1, hk⟩
      · simp at hs
    · simp at h1
  · rintro ⟨T1, L1, h1, ho, T2, L2, h2, h3, hk⟩
    exact ⟨T2, L2, h2, by rw [ho]; exact h3, hk⟩
/-- What was read ahead of an effect reads the same behind it. -/
def agK (ag : List (AOp × Option Nat × Option (Nat × Bool))) (T : Tb) (L : Lb) (h : H) : Prop := ag.all (againB T L h) = true
theorem wpS_again {o : AOp} {d : Option Nat} {x : AOp × Option Nat × Option (Nat × Bool)} {ag : List (AOp × Option Nat × Option (Nat × Bool))} {l : List AStep} :
    wpS P (⟨o, d, none, x :: ag⟩ :: l) T L (rdy h) K = wpO P o d T L h (fun T' L' h' => agK (x :: ag) T' L' h' ∧ wpS P l T' L' h' K) := by
  simp only [rdy, wpS, stepsB, stepB, wantB, wpO, agK, eq_iff_iff]
  constructor
  · rintro ⟨T', L', h', h1, hk⟩
    split at h1
    · rename_i T1 L1 h2 hs
      split at hs
      · rename_i T2 L2 h3 ho
        split at hs
        · rename_i hag
          simp only [Option.some.injEq, Prod.mk.injEq] at hs
          obtain ⟨rfl, rfl, rfl⟩ := hs
          exact ⟨T2, L2, h3, ho, hag, T', L', h', h1, hk⟩
        · simp at hs
      · simp at hs
    · simp at h1
  · rintro ⟨T1, L1, h1, ho, hag, T2, L2, h2, h3, hk⟩
    exact ⟨T2, L2, h2, by rw [ho]; simp only [hag, if_true]; exact h3, hk⟩
theorem wpS_guard {o : AOp} {d : Option Nat} {t : Nat} {b : Bool} {ag : List (AOp × Option Nat × Option (Nat × Bool))} {l : List AStep} :
    wpS P (⟨o, d, some (t, b), ag⟩ :: l) T L (rdy h) K = guardH (T t) b h (fun h => wpS P (⟨o, d, none, ag⟩ :: l) T L h K) (fun h => wpS P l (T.put d (.v undefA)) L h K) := by
  simp only [rdy]
  cases hT : T t with
  | lp s o => simp [wpS, stepsB, stepB, wantB, hT, guardH]
  | v a =>
    cases a with
    | one x =>
      cases x with
      | bool c =>
        simp only [guardH, wpS, stepsB, stepB, wantB, hT, eq_iff_iff]
        by_cases hc : c = b
        · subst hc
          cases c <;> simp
        · cases c <;> cases b <;> simp_all
      | _ => simp [wpS, stepsB, stepB, wantB, hT, guardH]
    | tup l => cases l <;> simp [wpS, stepsB, stepB, wantB, hT, guardH]
    | _ => simp [wpS, stepsB, stepB, wantB, hT, guardH]

/-! again -/
theorem agK_nil : agK [] T L h = True := by simp [agK]
def agV (v : Option BV) (w : BV) : Prop :=
  match v with
  | some v => v.same w = true
  | none => False
theorem agK_cons {o : AOp} {d : Nat} {ag : List (AOp × Option Nat × Option (Nat × Bool))} : agK ((o, some d, none) :: ag) T L (rdy h) = (agV (pureB o T L h) (T d) ∧ agK ag T L (rdy h)) := by
  simp only [agK, rdy, List.all_cons, Bool.and_eq_true, againB, wantB, eq_iff_iff]
  cases pureB o T L h <;> simp [agV]
/-- The same under a guard. -/
def agG (t : Nat) (b : Bool) (v : BV) (p q : Prop) : Prop := match wantB (some (t, b)) (fun _ => v) with | some true => p ∧ q | some false => q | none => False
theorem agK_guard {o : AOp} {d t : Nat} {b : Bool} {ag : List (AOp × Option Nat × Option (Nat × Bool))} : agK ((o, some d, some (t, b)) :: ag) T L (rdy h) = agG t b (T t) (agV (pureB o T L h) (T d)) (agK ag T L (rdy h)) := by
  have e : wantB (some (t, b)) (fun _ => T t) = wantB (some (t, b)) T := rfl
  simp only [agG, e, agK, rdy, List.all_cons, Bool.and_eq_true, againB, eq_iff_iff]
  cases wantB (some (t, b)) T with
  | none => simp
  | some c =>
    cases c
    · simp
    · cases pureB o T L h <;> simp [agV]
theorem agG_tt {t : Nat} {p q : Prop} : agG t true (.v (.one (.bool true))) p q = (p ∧ q) := rfl
theorem agG_ff {t : Nat} {p q : Prop} : agG t false (.v (.one (.bool false))) p q = (p ∧ q) := rfl
theorem agG_tf {t : Nat} {p q : Prop} : agG t false (.v (.one (.bool true))) p q = q := rfl
theorem agG_ft {t : Nat} {p q : Prop} : agG t true (.v (.one (.bool false))) p q = q := rfl
theorem agG_undef {t : Nat} {b : Bool} {p q : Prop} : agG t b (.v undefA) p q = q := rfl
theorem agV_one {c : CV} : agV (some (.v (.one c))) (.v (.one c)) = True := by simp [agV, BV.same, AV.same]
theorem agV_agg {c : List CV} : agV (some (.v (.agg c))) (.v (.agg c)) = True := by simp [agV, BV.same, AV.same]

/-! ### operations -/
/-- A value, if there is one, goes into a slot. -/
def optB (r : Option AV) (d : Option Nat) (T : Tb) (L : Lb) (h : H) (K : Post) : Prop := ∃ v, r = some v ∧ K (T.put d (.v v)) L h
def optX (r : Option BV) (d : Option Nat) (T : Tb) (L : Lb) (h : H) (K : Post) : Prop := ∃ v, r = some v ∧ K (T.put d v) L h
theorem optB_some {v : AV} {d : Option Nat} : optB (some v) d T L h K = K (T.put d (.v v)) L (rdy h) := by
  refine propext ⟨?_, fun hk => ⟨v, rfl, hk⟩⟩
  rintro ⟨v1, h2, hk⟩
  cases h2
  exact hk
theorem optX_some {v : BV} {d : Option Nat} : optX (some v) d T L h K = K (T.put d v) L (rdy h) := by
  refine propext ⟨?_, fun hk => ⟨v, rfl, hk⟩⟩
  rintro ⟨v1, h2, hk⟩
  cases h2
  exact hk
theorem map_optB {r : Option AV} {d : Option Nat} : (∃ T' L' h', (r.map fun v => (T.put d (BV.v v), L, h)) = some (T', L', h') ∧ K T' L' h') = optB r d T L h K := by
  cases r with
  | none => simp [optB]
  | some v =>
    simp only [Option.map_some, Option.some.injEq, Prod.mk.injEq, optB, eq_iff_iff]
    constructor
    · rintro ⟨T', L', h', ⟨rfl, rfl, rfl⟩, hk⟩
      exact ⟨v, rfl, hk⟩
    · rintro ⟨v1, rfl, hk⟩
      exact ⟨_, _, _, ⟨rfl, rfl, rfl⟩, hk⟩
theorem map_optX {r : Option BV} {d : Option Nat} : (∃ T' L' h', (r.map fun v => (T.put d v, L, h)) = some (T', L', h') ∧ K T' L' h') = optX r d T L h K := by
  cases r with
  | none => simp [optX]
  | some v =>
    simp only [Option.map_some, Option.some.injEq, Prod.mk.injEq, optX, eq_iff_iff]
    constructor
    · rintro ⟨T', L', h', ⟨rfl, rfl, rfl⟩, hk⟩
      exact ⟨v, rfl, hk⟩
    · rintro ⟨v1, rfl, hk⟩
      exact ⟨_, _, _, ⟨rfl, rfl, rfl⟩, hk⟩
theorem gen_pure {o : AOp} {d : Option Nat} (hp : opA (bm P) o T.av h = (pureA o T.av h).map fun v => (v, h)) (ho : opB (bm P) o d T L h = genB (bm P) o d T L h) : wpO P o d T L h K = optB (pureA o T.av h) d T L h K := by
  unfold wpO
  rw [ho, ← map_optB]
  unfold genB
  rw [hp]
  cases pureA o T.av h <;> rfl

/-- Operations on values. -/
def lenO : AV → Option AV
  | .one (.sl _ n _) => some (ii n)
  | _ => none
def iaddrO (k : Nat) : AV → AV → Option AV
  | .one (.sl (some a) n _), .one (.int _ j) => if 0 ≤ j ∧ j < n then some (.one (.ptr (some (a.1, a.2 + j.toNat * k)))) else none
  | _, _ => none
def loadO (k : Nat) (g : Bool) (h : H) : AV → Option AV
  | .one (.ptr (some a)) => match h.load a k with
    | some cs => if g then some (.agg cs) else match cs with | [c] => some (.one c) | _ => none
    | none => none
  | _ => none
def faddrO (off : Nat) : AV → Option AV
  | .one (.ptr (some a)) => some (.one (.ptr (some (a.1, a.2 + off))))
  | _ => none
def lenStrO : AV → Option AV
  | .one (.str s) => some (ii s.size)
  | _ => none
def idxStrO : AV → AV → Option AV
  | .one (.str s), .one (.int _ j) => if 0 ≤ j then match s[j.toNat]? with | some b => some (.one (.int .u8 b.toNat)) | none => none else none
  | _, _ => none
def notO : AV → Option AV
  | .one (.bool b) => some (ib (!b))
  | _ => none
def fieldO (off k : Nat) (g : Bool) : AV → Option AV
  | .agg cs => if off + k ≤ cs.length then (if g then some (.agg ((cs.drop off).take k)) else match cs[off]? with | some c => some (.one c) | none => none) else none
  | _ => none
def pickO (c a b : AV) : Option AV :=
  match c with
  | .one (.bool t) => some (if t then a else b)
  | _ => none
def convO (k : IntKind) : AV → Option AV
  | .one (.int _ n) => some (.one (.int k (k.wrap n)))
  | _ => none
def eqbO (neg : Bool) : AV → AV → Option AV
  | .one (.bool a), .one (.bool b) => some (ib ((a == b) != neg))
  | _, _ => none
def eqstO (neg : Bool) (ks : List Nat) : AV → AV → Option AV
  | .agg a, .agg b => (eqK ks a b).map fun r => ib (r != neg)
  | _, _ => none
def eqnilO (neg : Bool) : AV → AV → Option AV
  | .one (.sl a _ _), .one (.sl none _ _) => some (ib (a.isNone != neg))
  | _, _ => none
def extractO (i : Nat) : AV → Option AV
  | .tup l => l[i]?
  | _ => none
def capO : AV → Option AV
  | .one (.sl _ _ (some c)) => some (ii c)
  | _ => none
def minO : AV → AV → Option AV
  | .one (.int k a), .one (.int k' b) => if k = k' then some (.one (.int k (if b < a then b else a))) else none
  | _, _ => none
def nilO : AV → Option AV
  | .one (.ptr (some a)) => some (.one (.ptr (some a)))
  | .one (.fn f c) => some (.one (.fn f c))
  | _ => none
def buildO (z : List CV) (ps : List (Nat × Nat × AV)) : Option AV := (fillA z ps).map .agg
def valX (v : BV) : Option BV := some v
theorem valX_eq {v : BV} : valX v = some v := rfl
/-- A load. -/
def ldX (k : Nat) (g : Bool) (h : H) (L : Lb) : BV → Option AV
  | .lp t off => loadL (L t).2 off k g
  | .v a => loadO k g h a
theorem ldX_lp {k : Nat} {g : Bool} {t off : Nat} : ldX k g h L (.lp t off) = loadL (L t).2 off k g := rfl
theorem ldX_v {k : Nat} {g : Bool} {a : AV} : ldX k g h L (.v a) = loadO k g h a := rfl
def faX (off : Nat) : BV → Option BV
  | .lp t o => some (.lp t (o + off))
  | .v a => (faddrO off a).map .v
theorem faX_lp {off t o : Nat} : faX off (.lp t o) = some (.lp t (o + off)) := rfl
theorem faX_v {off : Nat} {a : Nat × Nat} : faX off (.v (.one (.ptr (some a)))) = some (.v (.one (.ptr (some (a.1, a.2 + off))))) := rfl
def ncX : BV → Option BV
  | .lp t o => some (.lp t o)
  | .v a => (nilO a).map .v
theorem ncX_lp {t o : Nat} : ncX (.lp t o) = some (.lp t o) := rfl
theorem ncX_ptr {a : Nat × Nat} : ncX (.v (.one (.ptr (some a)))) = some (.v (.one (.ptr (some a)))) := rfl
theorem ncX_fn {f : Nat} {c : List (Nat × Nat)} : ncX (.v (.one (.fn f c))) = some (.v (.one (.fn f c))) := rfl

theorem pureB_load {k : Nat} {g : Bool} {x : AX} : pureB (.load k g x) T L h = (ldX k g h L (x.bv T)).map .v := by
  cases x with
  | t n =>
    simp only [pureB, AX.bv]
    cases hT : T n with
    | lp t o => rfl
    | v a =>
      simp only [ldX, pureA, AX.ev, Tb.av, hT, BV.av, loadO]
      congr 1
  | c u => rfl
theorem pureB_slice {ty k : Nat} {x : AX} {lo hi mx : Option AX} : pureB (.slice ty k x lo hi mx) T L h = (pureA (.slice ty k x lo hi mx) T.av h).map .v := rfl

theorem wpO_mov {x : AX} {d : Option Nat} : wpO P (.mov x) d T L h K = optX (valX (x.bv T)) d T L h K := by unfold wpO; exact map_optX (r := valX (x.bv T))
theorem wpO_load {k : Nat} {g : Bool} {x : AX} {d : Option Nat} : wpO P (.load k g x) d T L h K = optB (ldX k g h L (x.bv T)) d T L h K := by
  have : wpO P (.load k g x) d T L h K = optX (pureB (.load k g x) T L h) d T L h K := map_optX
  rw [this, pureB_load]
  cases ldX k g h L (x.bv T) with
  | none => simp [optX, optB]
  | some v => simp [optX, optB]
theorem wpO_faddr {off : Nat} {x : AX} {d : Option Nat} : wpO P (.faddr off x) d T L h K = optX (faX off (x.bv T)) d T L h K := by
  have : wpO P (.faddr off x) d T L h K = optX (pureB (.faddr off x) T L h) d T L h K := map_optX
  rw [this]
  congr 1
  cases x with
  | t n =>
    simp only [pureB, AX.bv]
    cases hT : T n with
    | lp t o => rfl
    | v a =>
      simp only [faX, pureA, AX.ev, Tb.av, hT, BV.av, faddrO]
      congr 1
  | c u => rfl
theorem wpO_nilCheck {x : AX} {d : Option Nat} : wpO P (.nilCheck x) d T L h K = optX (ncX (x.bv T)) d T L h K := by
  have : wpO P (.nilCheck x) d T L h K = optX (pureB (.nilCheck x) T L h) d T L h K := map_optX
  rw [this]
  congr 1
  cases x with
  | t n =>
    simp only [pureB, AX.bv]
    cases hT : T n with
    | lp t o => rfl
    | v a =>
      simp only [ncX, pureA, AX.ev, Tb.av, hT, BV.av, nilO]
      congr 1
  | c u => rfl
section
variable {d : Option Nat}
theorem wpO_pick {c a b : AX} : wpO P (.pick c a b) d T L h K = optB (pickO (c.ev T.av) (a.ev T.av) (b.ev T.av)) d T L h K := gen_pure rfl rfl
theorem wpO_build {z : List CV} {ps : List (Nat × Nat × AX)} : wpO P (.build z ps) d T L h K = optB (buildO z (ps.map fun p => (p.1, p.2.1, p.2.2.ev T.av))) d T L h K := gen_pure rfl rfl
theorem wpO_bin {op : BinOp} {x y : AX} : wpO P (.bin op x y) d T L h K = optB (binA op (x.ev T.av) (y.ev T.av)) d T L h K := gen_pure rfl rfl
theorem wpO_eqb {n : Bool} {x y : AX} : wpO P (.eqb n x y) d T L h K = optB (eqbO n (x.ev T.av) (y.ev T.av)) d T L h K := gen_pure rfl rfl
theorem wpO_eqst {n : Bool} {ks : List Nat} {x y : AX} : wpO P (.eqst n ks x y) d T L h K = optB (eqstO n ks (x.ev T.av) (y.ev T.av)) d T L h K := gen_pure rfl rfl
theorem wpO_eqnil {n : Bool} {x y : AX} : wpO P (.eqnil n x y) d T L h K = optB (eqnilO n (x.ev T.av) (y.ev T.av)) d T L h K := gen_pure rfl rfl
theorem wpO_not {x : AX} : wpO P (.not x) d T L h K = optB (notO (x.ev T.av)) d T L h K := gen_pure rfl rfl
theorem wpO_conv {k : IntKind} {x : AX} : wpO P (.conv k x) d T L h K = optB (convO k (x.ev T.av)) d T L h K := gen_pure rfl rfl
def bytesO (h : H) : AV → Option AV
  | .one (.sl (some a) n _) => if n = 0 then none else match h.load a n with
    | some cs => (strBytes cs).map fun l => .one (.str (strOfNums l))
    | none => none
  | _ => none
theorem wpO_bytesStr {x : AX} : wpO P (.bytesStr x) d T L h K = optB (bytesO h (x.ev T.av)) d T L h K := gen_pure rfl rfl
theorem wpO_iaddr {k : Nat} {x i : AX} : wpO P (.iaddr k x i) d T L h K = optB (iaddrO k (x.ev T.av) (i.ev T.av)) d T L h K := gen_pure rfl rfl
theorem wpO_idxStr {x i : AX} : wpO P (.idxStr x i) d T L h K = optB (idxStrO (x.ev T.av) (i.ev T.av)) d T L h K := gen_pure rfl rfl
theorem wpO_field {o k : Nat} {g : Bool} {x : AX} : wpO P (.field o k g x) d T L h K = optB (fieldO o k g (x.ev T.av)) d T L h K := gen_pure rfl rfl
theorem wpO_extract {x : AX} {i : Nat} : wpO P (.extract x i) d T L h K = optB (extractO i (x.ev T.av)) d T L h K := gen_pure rfl rfl
theorem wpO_len {x : AX} : wpO P (.len x) d T L h K = optB (lenO (x.ev T.av)) d T L h K := gen_pure rfl rfl
theorem wpO_lenStr {x : AX} : wpO P (.lenStr x) d T L h K = optB (lenStrO (x.ev T.av)) d T L h K := gen_pure rfl rfl
theorem wpO_cap {x : AX} : wpO P (.cap x) d T L h K = optB (capO (x.ev T.av)) d T L h K := gen_pure rfl rfl
theorem wpO_min {x y : AX} : wpO P (.min x y) d T L h K = optB (minO (x.ev T.av) (y.ev T.av)) d T L h K := gen_pure rfl rfl
end
/-- A cut, of values. -/
def cutO (ty k : Nat) (h : H) (v : AV) (lo hi mx : Option AV) : Option AV :=
  pureA (.slice ty k (.t 0) (lo.map fun _ => .t 1) (hi.map fun _ => .t 2) (mx.map fun _ => .t 3)) (fun t => if t = 0 then v else if t = 1 then lo.getD undefA else if t = 2 then hi.getD undefA else mx.getD undefA) h
theorem cutO_eq {T : Tm} {ty k : Nat} {x : AX} {lo hi mx : Option AX} : pureA (.slice ty k x lo hi mx) T h = cutO ty k h (x.ev T) (lo.map (·.ev T)) (hi.map (·.ev T)) (mx.map (·.ev T)) := by
  have hb : ∀ n c, boundsA (fun t => if t = 0 then x.ev T else if t = 1 then (lo.map (·.ev T)).getD undefA else if t = 2 then (hi.map (·.ev T)).getD undefA else (mx.map (·.ev T)).getD undefA) n c ((lo.map (·.ev T)).map fun _ => .t 1) ((hi.map (·.ev T)).map fun _ => .t 2) ((mx.map (·.ev T)).map fun _ => .t 3) = boundsA T n c lo hi mx := by
    intro n c
    cases lo <;> cases hi <;> cases mx <;> rfl
  simp only [cutO, pureA, hb]
  rfl
theorem wpO_slice {ty k : Nat} {x : AX} {lo hi mx : Option AX} {d : Option Nat} : wpO P (.slice ty k x lo hi mx) d T L h K = optB (cutO ty k h (x.ev T.av) (lo.map (·.ev T.av)) (hi.map (·.ev T.av)) (mx.map (·.ev T.av))) d T L h K := by
  rw [← cutO_eq]
  exact gen_pure rfl rfl
def sliceStrO (s : AV) (lo hi : Option AV) : Option AV :=
  match s with
  | .one (.str s) => match boundsA (fun t => if t = 1 then lo.getD undefA else hi.getD undefA) s.size (some s.size) (lo.map fun _ => .t 1) (hi.map fun _ => .t 2) none with
    | some (l, h', _) => some (.one (.str (s.extract l h')))
    | none => none
  | _ => none
theorem wpO_sliceStr {x : AX} {lo hi : Option AX} {d : Option Nat} : wpO P (.sliceStr x lo hi) d T L h K = optB (sliceStrO (x.ev T.av) (lo.map (·.ev T.av)) (hi.map (·.ev T.av))) d T L h K := by
  rw [gen_pure (P := P) (o := .sliceStr x lo hi) rfl rfl]
  congr 1
  cases lo <;> cases hi <;> rfl

/-! the function's own store -/
theorem wpO_alloc {ty t : Nat} {z : List CV} : wpO P (.alloc ty z) (some t) T L h K = K ((T.kill t).put (some t) (.lp t 0)) (L.put t (ty, z)) (rdy h) := by
  refine propext ⟨?_, fun hk => ⟨_, _, _, rfl, hk⟩⟩
  rintro ⟨T', L', h', h2, hk⟩
  cases h2
  exact hk
def boxK (v : BV) (ty t : Nat) (T : Tb) (L : Lb) (h : H) (K : Post) : Prop :=
  match v with
  | .v (.one c) => K ((T.kill t).put (some t) (.lp t 0)) (L.put t (ty, [c])) h
  | .v (.agg cs) => K ((T.kill t).put (some t) (.lp t 0)) (L.put t (ty, cs)) h
  | _ => False
theorem boxK_one {c : CV} {ty t : Nat} : boxK (.v (.one c)) ty t T L h K = K ((T.kill t).put (some t) (.lp t 0)) (L.put t (ty, [c])) (rdy h) := rfl
theorem boxK_agg {c : List CV} {ty t : Nat} : boxK (.v (.agg c)) ty t T L h K = K ((T.kill t).put (some t) (.lp t 0)) (L.put t (ty, c)) (rdy h) := rfl
theorem wpO_box {ty t : Nat} {x : AX} : wpO P (.box ty x) (some t) T L h K = boxK (x.bv T) ty t T L h K := by
  unfold wpO
  simp only [opB]
  cases hx : x.bv T with
  | lp s o => simp [boxK]
  | v a =>
    cases a with
    | one c =>
      simp only [AV.cells, Option.map_some, boxK]
      refine propext ⟨?_, fun hk => ⟨_, _, _, rfl, hk⟩⟩
      rintro ⟨T', L', h', h2, hk⟩
      cases h2
      exact hk
    | agg c =>
      simp only [AV.cells, Option.map_some, boxK]
      refine propext ⟨?_, fun hk => ⟨_, _, _, rfl, hk⟩⟩
      rintro ⟨T', L', h', h2, hk⟩
      cases h2
      exact hk
    | tup l => simp [AV.cells, boxK]
/-- A store into the function's own. -/
def stL (r : Option (List CV)) (t : Nat) (d : Option Nat) (T : Tb) (L : Lb) (h : H) (K : Post) : Prop := ∃ cs, r = some cs ∧ K (T.put d (.v undefA)) (L.put t ((L t).1, cs)) h
theorem stL_some {cs : List CV} {t : Nat} {d : Option Nat} : stL (some cs) t d T L h K = K (T.put d (.v undefA)) (L.put t ((L t).1, cs)) (rdy h) := by
  refine propext ⟨?_, fun hk => ⟨cs, rfl, hk⟩⟩
  rintro ⟨v1, h2, hk⟩
  cases h2
  exact hk
/-- A store onto the heap. -/
def stH (k : Nat) (a : Nat × Nat) (vs : List CV) (d : Option Nat) (T : Tb) (L : Lb) (h : H) (K : Post) : Prop := ∃ h', vs.length = k ∧ h.store a vs = some h' ∧ K (T.put d (.v undefA)) L h'
def stV (k : Nat) (x v : AV) (d : Option Nat) (T : Tb) (L : Lb) (h : H) (K : Post) : Prop :=
  match x, v with
  | .one (.ptr (some a)), .one c => stH k a [c] d T L h K
  | .one (.ptr (some a)), .agg cs => stH k a cs d T L h K
  | _, _ => False
def stK (k : Nat) (x : BV) (v : AV) (d : Option Nat) (T : Tb) (L : Lb) (h : H) (K : Post) : Prop :=
  match x with
  | .lp t off => (match v with
    | .one c => stL (storeL (L t).2 off k [c]) t d T L h K
    | .agg cs => stL (storeL (L t).2 off k cs) t d T L h K
    | .tup _ => False)
  | .v a => stV k a v d T L h K
theorem stK_lp_one {k t off : Nat} {c : CV} {d : Option Nat} : stK k (.lp t off) (.one c) d T L h K = stL (storeL (L t).2 off k [c]) t d T L h K := rfl
theorem stK_lp_agg {k t off : Nat} {c : List CV} {d : Option Nat} : stK k (.lp t off) (.agg c) d T L h K = stL (storeL (L t).2 off k c) t d T L h K := rfl
theorem stK_v_one {k : Nat} {a : Nat × Nat} {c : CV} {d : Option Nat} : stK k (.v (.one (.ptr (some a)))) (.one c) d T L h K = stH k a [c] d T L h K := rfl
theorem stK_v_agg {k : Nat} {a : Nat × Nat} {c : List CV} {d : Option Nat} : stK k (.v (.one (.ptr (some a)))) (.agg c) d T L h K = stH k a c d T L h K := rfl
theorem wpO_store {k : Nat} {x v : AX} {d : Option Nat} : wpO P (.store k x v) d T L h K = stK k (x.bv T) (v.ev T.av) d T L h K := by
  have ev : ∀ x : AX, x.ev T.av = (x.bv T).av := by intro x; cases x <;> rfl
  unfold wpO
  simp only [opB]
  cases hx : x.bv T with
  | lp t off =>
    simp only [stK, ev]
    cases hv : (v.bv T).av with
    | one c =>
      simp only [AV.cells, stL]
      refine propext ⟨?_, ?_⟩
      · rintro ⟨T', L', h', h2, hk⟩
        obtain ⟨cs, h3, h4⟩ := Option.map_eq_some_iff.1 h2
        simp only [Prod.mk.injEq] at h4
        obtain ⟨rfl, rfl, rfl⟩ := h4
        exact ⟨cs, h3, hk⟩
      · rintro ⟨cs, h3, hk⟩
        exact ⟨_, _, _, by rw [h3]; rfl, hk⟩
    | agg c =>
      simp only [AV.cells, stL]
      refine propext ⟨?_, ?_⟩
      · rintro ⟨T', L', h', h2, hk⟩
        obtain ⟨cs, h3, h4⟩ := Option.map_eq_some_iff.1 h2
        simp only [Prod.mk.injEq] at h4
        obtain ⟨rfl, rfl, rfl⟩ := h4
        exact ⟨cs, h3, hk⟩
      · rintro ⟨cs, h3, hk⟩
        exact ⟨_, _, _, by rw [h3]; rfl, hk⟩
    | tup l => simp [AV.cells]
  | v a =>
    have ea : x.ev T.av = a := by rw [ev, hx]; rfl
    simp only [genB, opA, ea, stK]
    have key : ∀ (p : Nat × Nat) (cs : List CV), (∃ T' L' h', ((if cs.length = k then (h.store p cs).map fun h' => (undefA, h') else none).map fun r => (T.put d (BV.v r.1), L, r.2)) = some (T', L', h') ∧ K T' L' h') = stH k p cs d T L h K := by
      intro p cs
      unfold stH
      refine propext ⟨?_, ?_⟩
      · rintro ⟨T', L', h', h2, hk⟩
        obtain ⟨r, h3, h4⟩ := Option.map_eq_some_iff.1 h2
        simp only [Prod.mk.injEq] at h4
        obtain ⟨rfl, rfl, rfl⟩ := h4
        split at h3
        · rename_i hl
          obtain ⟨h5, h6, rfl⟩ := Option.map_eq_some_iff.1 h3
          exact ⟨h5, hl, h6, hk⟩
        · simp at h3
      · rintro ⟨h5, hl, h6, hk⟩
        exact ⟨_, _, _, by rw [if_pos hl, h6]; rfl, hk⟩
    cases a with
    | one c =>
      cases c with
      | ptr p =>
        cases p with
        | none => cases v.ev T.av <;> simp [stV]
        | some p =>
          cases hv : v.ev T.av with
          | one c => simp only [AV.cells, stV]; exact key p [c]
          | agg c => simp only [AV.cells, stV]; exact key p c
          | tup l => simp [AV.cells, stV]
      | _ => cases v.ev T.av <;> simp [stV]
    | _ => cases v.ev T.av <;> simp [stV]

/-! calls -/
def proM (v : BV) (r : List AX) (T : Tb) (L : Lb) (h : H) : Tb × H :=
  match v with
  | .lp t _ => proA r (T.pro t h.n) L (h.alloc (L t).2 (L t).1)
  | .v _ => proA r T L h
theorem proA_nil : proA [] T L h = (T, h) := rfl
theorem proA_cons {x : AX} {r : List AX} : proA (x :: r) T L h = proM (x.bv T) r T L h := rfl
theorem proM_v {a : AV} {r : List AX} : proM (.v a) r T L h = proA r T L h := rfl
theorem proM_lp {t o : Nat} {r : List AX} : proM (.lp t o) r T L h = proA r (T.pro t h.n) L (h.alloc (L t).2 (L t).1) := rfl
def callG (P : Program) (s : Tb × H) (f : Nat) (l : List AX) (d : Option Nat) (L : Lb) (K : Post) : Prop := callK (bm P f (l.map (·.ev s.1.av)) s.2) fun v h' => K (s.1.put d (.v v)) L h'
theorem callG_mk {f : Nat} {l : List AX} {d : Option Nat} : callG P (T, h) f l d L K = callK (bm P f (l.map (·.ev T.av)) h) fun v h' => K (T.put d (.v v)) L h' := rfl
theorem gen_map {r : Option (AV × H)} {d : Option Nat} : (∃ T' L' h', (r.map fun r => (T.put d (BV.v r.1), L, r.2)) = some (T', L', h') ∧ K T' L' h') = callK r fun v h' => K (T.put d (.v v)) L h' := by
  cases r with
  | none => simp [callK]
  | some x =>
    obtain ⟨v, h'⟩ := x
    rw [callK_some]
    refine propext ⟨?_, fun hk => ⟨_, _, _, rfl, hk⟩⟩
    rintro ⟨T', L', h', h2, hk⟩
    cases h2
    exact hk
theorem wpO_call {f : Nat} {l : List AX} {d : Option Nat} : wpO P (.call f l) d T L h K = callG P (proA l T L h) f l d L K := gen_map
def callvK (P : Program) (v : AV) (args : List AV) (h : H) (K : AV → H → Prop) : Prop :=
  match v with
  | .one (.fn f caps) => callK (bm P f (args ++ caps.map fun a => .one (.ptr (some a))) h) K
  | _ => False
theorem callvK_fn {f : Nat} {caps : List (Nat × Nat)} {args : List AV} {K : AV → H → Prop} : callvK P (.one (.fn f caps)) args h K = callK (bm P f (args ++ caps.map fun a => .one (.ptr (some a))) h) K := rfl
def callVG (P : Program) (s : Tb × H) (x : AX) (l : List AX) (d : Option Nat) (L : Lb) (K : Post) : Prop := callvK P (x.ev s.1.av) (l.map (·.ev s.1.av)) s.2 fun v h' => K (s.1.put d (.v v)) L h'
theorem callVG_mk {x : AX} {l : List AX} {d : Option Nat} : callVG P (T, h) x l d L K = callvK P (x.ev T.av) (l.map (·.ev T.av)) h fun v h' => K (T.put d (.v v)) L h' := rfl
theorem wpO_callv {x : AX} {l : List AX} {d : Option Nat} : wpO P (.callv x l) d T L h K = callVG P (proA l T L h) x l d L K := by
  refine Eq.trans gen_map ?_
  simp only [opA, callVG, callvK]
  split
  · rename_i f caps he
    simp only [he]
  · rename_i hne
    split
    · rename_i f caps he
      exact absurd he (hne f caps)
    · simp [callK]
def fnG (s : Tb × H) (f : Nat) (l : List AX) (d : Option Nat) (L : Lb) (K : Post) : Prop := optB ((ptrsA (l.map (·.ev s.1.av))).map fun c => .one (.fn f c)) d s.1 L s.2 K
theorem fnG_mk {f : Nat} {l : List AX} {d : Option Nat} : fnG (T, h) f l d L K = optB ((ptrsA (l.map (·.ev T.av))).map fun c => .one (.fn f c)) d T L h K := rfl
theorem ptrsA_nil : ptrsA [] = some [] := rfl
theorem ptrsA_cons {a : Nat × Nat} {r : List AV} : ptrsA (.one (.ptr (some a)) :: r) = (ptrsA r).map (a :: ·) := rfl
theorem wpO_mkfn {f : Nat} {l : List AX} {d : Option Nat} : wpO P (.mkfn f l) d T L h K = fnG (proA l T L h) f l d L K := by
  refine Eq.trans gen_map ?_
  simp only [opA, pureA, fnG]
  cases hp : ptrsA (l.map (·.ev (proA l T L h).1.av)) with
  | none => simp [callK, optB]
  | some c => simp only [Option.map_some, callK_some, optB_some, rdy]

/-! what lays and grows blocks -/
def bsK (ty n : Nat) (z : List CV) (ps : List (Nat × Nat × AV)) (d : Option Nat) (T : Tb) (L : Lb) (h : H) (K : Post) : Prop :=
  ∃ cs, fillA (repl z n) ps = some cs ∧ K (T.put d (.v (.one (.sl (some (h.n, 0)) n (some n))))) L (h.alloc cs ty)
theorem wpO_buildSlice {ty n : Nat} {z : List CV} {ps : List (Nat × Nat × AX)} {d : Option Nat} : wpO P (.buildSlice ty n z ps) d T L h K = bsK ty n z (ps.map fun p => (p.1, p.2.1, p.2.2.ev T.av)) d T L h K := by
  refine Eq.trans gen_map ?_
  simp only [opA, bsK]
  cases hf : fillA (repl z n) (ps.map fun p => (p.1, p.2.1, p.2.2.ev T.av)) with
  | some cs => simp [callK_some]
  | none => simp [callK]
def mkK (ty b : Nat) (z : List CV) (l c : AV) (d : Option Nat) (T : Tb) (L : Lb) (h : H) (K : Post) : Prop :=
  match l, c with
  | .one (.int .i64 l), .one (.int .i64 c) => (0 ≤ l ∧ l ≤ c ∧ c * b ≤ 140737488355328 ∧ c ≤ 9223372036854775807) ∧ K (T.put d (.v (.one (.sl (some (h.n, 0)) l.toNat (some c.toNat))))) L (h.alloc (repl z c.toNat) ty)
  | _, _ => False
theorem wpO_mkslice {ty b : Nat} {z : List CV} {l c : AX} {d : Option Nat} : wpO P (.mkslice ty b z l c) d T L h K = mkK ty b z (l.ev T.av) (c.ev T.av) d T L h K := by
  refine Eq.trans gen_map ?_
  simp only [opA, mkK]
  cases l.ev T.av with
  | one x =>
    cases x with
    | int k l =>
      cases c.ev T.av with
      | one y =>
        cases y with
        | int k' c =>
          cases k <;> cases k' <;> simp only [callK, reduceCtorEq, false_and, exists_false]
          split
          · rename_i hc
            rw [show (∃ v h', some (AV.one (CV.sl (some (h.n, 0)) l.toNat (some c.toNat)), h.alloc (repl z c.toNat) ty) = some (v, h') ∧ K (T.put d (BV.v v)) L h') = K (T.put d (BV.v (AV.one (CV.sl (some (h.n, 0)) l.toNat (some c.toNat))))) L (h.alloc (repl z c.toNat) ty) from callK_some]
            simp [hc]
          · rename_i hc
            simp [hc]
        | _ => cases k <;> simp [callK]
      | _ => cases k <;> simp [callK]
    | _ => simp [callK]
  | _ => simp [callK]
def apK (ty k b : Nat) (s x : AV) (d : Option Nat) (T : Tb) (L : Lb) (h : H) (K : Post) : Prop := callK (appendA ty k b s x h) fun v h' => K (T.put d (.v v)) L h'
theorem wpO_append {ty k b : Nat} {s x : AX} {d : Option Nat} : wpO P (.append ty k b s x) d T L h K = apK ty k b (s.ev T.av) (x.ev T.av) d T L h K := gen_map

def azK (ty b : Nat) (z : List CV) (s x : AV) (d : Option Nat) (T : Tb) (L : Lb) (h : H) (K : Post) : Prop :=
  match s, x with
  | .one (.sl none _ _), .one (.int .i64 n) => (0 < n ∧ n * b ≤ 140737488355328 ∧ n ≤ 140737488355328) ∧ K (T.put d (.v (.one (.sl (some (h.n, 0)) n.toNat none)))) L (h.alloc (repl z n.toNat) ty)
  | _, _ => False
theorem wpO_appz {ty k b : Nat} {z : List CV} {s x : AX} {d : Option Nat} : wpO P (.appz ty k b z s x) d T L h K = azK ty b z (s.ev T.av) (x.ev T.av) d T L h K := by
  refine Eq.trans gen_map ?_
  simp only [opA, azK]
  split
  · rename_i m c n e1 e2
    rw [e1, e2]
    simp only
    split
    · rename_i hc
      rw [callK_some]
      simp [hc]
    · rename_i hc
      simp [callK, hc]
  · rename_i hne
    split
    · rename_i m c n e1 e2
      exact absurd e2 (hne m c n e1)
    · simp [callK]

def clK (z : List CV) (x : AV) (d : Option Nat) (T : Tb) (L : Lb) (h : H) (K : Post) : Prop :=
  match x with
  | .one (.sl (some a) n _) => ¬ n = 0 ∧ ∃ h', h.store a (repl z n) = some h' ∧ K (T.put d (.v (.tup []))) L h'
  | _ => False
theorem wpO_clr {z : List CV} {x : AX} {d : Option Nat} : wpO P (.clr z x) d T L h K = clK z (x.ev T.av) d T L h K := by
  refine Eq.trans gen_map ?_
  simp only [opA, clK]
  split
  · rename_i a n c e1
    simp only [e1]
    split
    · rename_i hc
      simp [callK, hc]
    · rename_i hc
      cases hs : h.store a (repl z n) with
      | none => simp [callK]
      | some h2 =>
        simp only [Option.map_some]
        rw [callK_some]
        simp [hc]
  · rename_i hne
    split
    · rename_i a n c e1
      exact absurd e1 (hne a n c)
    · simp [callK]

/-! values -/
theorem lenO_sl {b : Option (Nat × Nat)} {n : Nat} {c : Option Nat} : lenO (.one (.sl b n c)) = some (ii n) := rfl
theorem faddrO_ptr {off : Nat} {a : Nat × Nat} : faddrO off (.one (.ptr (some a))) = some (.one (.ptr (some (a.1, a.2 + off)))) := rfl
theorem lenStrO_str {s : ByteArray} : lenStrO (.one (.str s)) = some (ii s.size) := rfl
theorem notO_bool {b : Bool} : notO (.one (.bool b)) = some (ib (!b)) := rfl
theorem pickO_bool {t : Bool} {a b : AV} : pickO (.one (.bool t)) a b = some (if t then a else b) := rfl
theorem convO_int {k k' : IntKind} {n : Int} : convO k (.one (.int k' n)) = some (.one (.int k (k.wrap n))) := rfl
theorem eqbO_bool {n a b : Bool} : eqbO n (.one (.bool a)) (.one (.bool b)) = some (ib ((a == b) != n)) := rfl
theorem eqnilO_sl {n : Bool} {a : Option (Nat × Nat)} {m m' : Nat} {c c' : Option Nat} : eqnilO n (.one (.sl a m c)) (.one (.sl none m' c')) = some (ib (a.isNone != n)) := rfl
theorem extractO_tup {i : Nat} {l : List AV} : extractO i (.tup l) = l[i]? := rfl
theorem capO_sl {b : Option (Nat × Nat)} {n c : Nat} : capO (.one (.sl b n (some c))) = some (ii c) := rfl
theorem minO_int {k : IntKind} {a b : Int} : minO (.one (.int k a)) (.one (.int k b)) = some (.one (.int k (if b < a then b else a))) := by simp [minO]
theorem loadL_one {cs : List CV} {off : Nat} : loadL cs off 1 false = cs[off]?.map .one := by
  unfold loadL
  by_cases hk : off + 1 ≤ cs.length
  · rw [if_pos hk]
    have h1 : off < cs.length := by omega
    rw [List.drop_eq_getElem_cons h1, List.take_succ_cons, List.take_zero]
    simp [h1]
  · rw [if_neg hk, List.getElem?_eq_none (by omega)]
    rfl
theorem loadL_all {cs : List CV} {k : Nat} (hk : cs.length = k) : loadL cs 0 k true = some (.agg cs) := by
  unfold loadL
  rw [if_pos (by omega)]
  simp [← hk]
theorem loadL_agg {cs : List CV} {off k : Nat} (hk : off + k ≤ cs.length) : loadL cs off k true = some (.agg ((cs.drop off).take k)) := by
  unfold loadL
  rw [if_pos hk]
  simp
theorem storeL_eq {cs vs : List CV} {off k : Nat} (hv : vs.length = k) (hk : off + k ≤ cs.length) : storeL cs off k vs = some (cs.take off ++ (vs ++ cs.drop (off + k))) := by
  unfold storeL
  rw [if_pos ⟨hv, hk⟩]
theorem fieldO_one {off : Nat} {cs : List CV} {c : CV} (hc : cs[off]? = some c) : fieldO off 1 false (.agg cs) = some (.one c) := by
  have := (List.getElem?_eq_some_iff.1 hc).1
  simp only [fieldO]
  rw [if_pos (by omega)]
  simp [hc]
theorem loadO_one {a : Nat × Nat} {c : CV} (hl : h.load a 1 = some [c]) : loadO 1 false h (.one (.ptr (some a))) = some (.one c) := by
  simp [loadO, hl]
theorem loadO_agg {a : Nat × Nat} {k : Nat} {cs : List CV} (hl : h.load a k = some cs) : loadO k true h (.one (.ptr (some a))) = some (.agg cs) := by
  simp [loadO, hl]
theorem fillA_nil {z : List CV} : fillA z [] = some z := rfl
theorem fillA_agg {z cs : List CV} {off k : Nat} {r : List (Nat × Nat × AV)} (hl : cs.length = k) (hk : off + k ≤ z.length) : fillA z ((off, k, .agg cs) :: r) = fillA (z.take off ++ (cs ++ z.drop (off + k))) r := by
  simp only [fillA, AV.cells]
  rw [if_pos ⟨hl, hk⟩]
theorem fillA_one {z : List CV} {off : Nat} {c : CV} {r : List (Nat × Nat × AV)} (hk : off + 1 ≤ z.length) : fillA z ((off, 1, .one c) :: r) = fillA (z.set off c) r := by
  simp only [fillA, AV.cells]
  rw [if_pos ⟨rfl, by omega⟩]
  congr 1
  rw [List.set_eq_take_append_cons_drop, if_pos (show off < z.length by omega)]
  rfl

section
variable {k : IntKind} {a b : Int} {s t : ByteArray}
theorem bin_add : binA .add (.one (.int k a)) (.one (.int k b)) = some (.one (.int k (k.wrap (a + b)))) := by simp [binA]
theorem bin_sub : binA .sub (.one (.int k a)) (.one (.int k b)) = some (.one (.int k (k.wrap (a - b)))) := by simp [binA]
theorem bin_mul : binA .mul (.one (.int k a)) (.one (.int k b)) = some (.one (.int k (k.wrap (a * b)))) := by simp [binA]
theorem bin_quo (hb : b ≠ 0) : binA .quo (.one (.int k a)) (.one (.int k b)) = some (.one (.int k (k.wrap (a.tdiv b)))) := by simp [binA, hb]
theorem bin_rem (hb : b ≠ 0) : binA .rem (.one (.int k a)) (.one (.int k b)) = some (.one (.int k (a.tmod b))) := by simp [binA, hb]
theorem bin_eql : binA .eql (.one (.int k a)) (.one (.int k b)) = some (ib (decide (a = b))) := by simp [binA]; rfl
theorem bin_neq : binA .neq (.one (.int k a)) (.one (.int k b)) = some (ib (!(decide (a = b)))) := by simp [binA]; rfl
theorem bin_lss : binA .lss (.one (.int k a)) (.one (.int k b)) = some (ib (decide (a < b))) := by simp [binA]
theorem bin_leq : binA .leq (.one (.int k a)) (.one (.int k b)) = some (ib (decide (a ≤ b))) := by simp [binA]
theorem bin_gtr : binA .gtr (.one (.int k a)) (.one (.int k b)) = some (ib (decide (a > b))) := by simp [binA]
theorem bin_geq : binA .geq (.one (.int k a)) (.one (.int k b)) = some (ib (decide (a ≥ b))) := by simp [binA]
theorem str_add (h : ((s.size + t.size : Nat) : Int) ≤ 9223372036854775807) : binA .add (.one (.str s)) (.one (.str t)) = some (.one (.str (s ++ t))) := by simp only [binA]; rw [if_neg (by omega)]
theorem str_beq : (s.toList == t.toList) = decide (s = t) := by
  by_cases hst : s = t
  · subst hst
    simp
  · rw [decide_eq_false hst, beq_eq_false_iff_ne]
    intro h
    rw [ByteArray.toList_eq, ByteArray.toList_eq] at h
    apply hst
    cases s
    cases t
    simp at h
    simp [h]
/-- One string is less than another one. -/
def sLess (s t : ByteArray) : Bool := Op.bytesLess s.toList t.toList
theorem str_eql : binA .eql (.one (.str s)) (.one (.str t)) = some (ib (decide (s = t))) := by rw [← str_beq]; rfl
theorem str_neq : binA .neq (.one (.str s)) (.one (.str t)) = some (ib (!(decide (s = t)))) := by rw [← str_beq]; rfl
theorem str_lss : binA .lss (.one (.str s)) (.one (.str t)) = some (ib (sLess s t)) := rfl
theorem str_leq : binA .leq (.one (.str s)) (.one (.str t)) = some (ib (sLess s t || decide (s = t))) := by rw [← str_beq]; rfl
theorem str_gtr : binA .gtr (.one (.str s)) (.one (.str t)) = some (ib (!(sLess s t || decide (s = t)))) := by rw [← str_beq]; rfl
theorem str_geq : binA .geq (.one (.str s)) (.one (.str t)) = some (ib (!(sLess s t))) := rfl
theorem i64_wrap (h1 : -9223372036854775808 ≤ a) (h2 : a ≤ 9223372036854775807) : IntKind.i64.wrap a = a := by
  simp [IntKind.wrap, IntKind.bits, IntKind.signed]
  omega
end

/-! ### the end -/
theorem gcK_same {v : AV} {K : AV → H → Prop} : gcK h v (rdy h) K = K v h := by
  unfold gcK gcA rdy
  split <;> rfl
theorem gcK_scalar {v : AV} {h1 : H} {K : AV → H → Prop} (hs : v.scalar = true) (hg : Grow h h1) : gcK h v h1 K = K v h := by
  unfold gcK gcA
  rw [if_pos ⟨hs, hg⟩]
theorem gcK_int {k : IntKind} {n : Int} {cs : List CV} {ty : Nat} {K : AV → H → Prop} : gcK h (.one (.int k n)) (rdy (h.alloc cs ty)) K = K (.one (.int k n)) h := gcK_scalar rfl (Grow.alloc h cs ty)
theorem gcK_bool {b : Bool} {cs : List CV} {ty : Nat} {K : AV → H → Prop} : gcK h (.one (.bool b)) (rdy (h.alloc cs ty)) K = K (.one (.bool b)) h := gcK_scalar rfl (Grow.alloc h cs ty)
theorem gcR_of {v : AV} {h1 : H} {K : AV → H → Prop} (hg : Grow h h1) (hs : v.scalar = true) (hk : K v h) : gcK h v (rdy h1) K := by
  show gcK h v h1 K
  rw [gcK_scalar hs hg]
  exact hk
theorem gcK_of {v : AV} {h1 : H} {K : AV → H → Prop} (hk : K v h1) (hs : v.scalar = true → Grow h h1 → K v h) : gcK h v h1 K := by
  unfold gcK gcA
  split
  · rename_i hc
    exact hs hc.1 hc.2
  · exact hk
theorem doneB_normal {rs : List ARes} {K : AV → H → Prop} : doneB rs h0 K .normal T L (rdy h) = endK h0 (proA (tmpX rs) T L h) L rs K := rfl
theorem doneB_ret {rs : List ARes} {K : AV → H → Prop} : doneB rs h0 K .ret T L (rdy h) = endK h0 (proA (tmpX rs) T L h) L rs K := rfl
theorem tmpX_nil : tmpX [] = [] := rfl
theorem tmpX_tmp {t : Nat} {r : List ARes} : tmpX (.tmp t :: r) = .t t :: tmpX r := rfl
theorem tmpX_cell {t k : Nat} {g : Bool} {r : List ARes} : tmpX (.cell t k g :: r) = tmpX r := rfl
def retK (r : Option AV) (h0 h : H) (K : AV → H → Prop) : Prop := ∃ v, r = some v ∧ gcK h0 v h K
theorem retK_some {v : AV} {K : AV → H → Prop} : retK (some v) h0 h K = gcK h0 v (rdy h) K := by
  refine propext ⟨?_, fun hk => ⟨v, rfl, hk⟩⟩
  rintro ⟨v1, h2, hk⟩
  cases h2
  exact hk
theorem endK_mk {rs : List ARes} {K : AV → H → Prop} : endK h0 (T, h) L rs K = retK (resultsB T L h rs) h0 h K := rfl
theorem results_one {r : ARes} : resultsB T L h [r] = resB T L h r := rfl
def tupO : Option AV → Option (List AV) → Option (List AV)
  | some (.tup _), _ => none
  | some v, some vs => some (v :: vs)
  | _, _ => none
theorem tupO_one {c : CV} {l : List AV} : tupO (some (.one c)) (some l) = some (.one c :: l) := rfl
theorem tupO_agg {c : List CV} {l : List AV} : tupO (some (.agg c)) (some l) = some (.agg c :: l) := rfl
theorem resBs_nil : resBs T L h [] = some [] := rfl
theorem resBs_cons {r : ARes} {l : List ARes} : resBs T L h (r :: l) = tupO (resB T L h r) (resBs T L h l) := by
  simp only [resBs]
  cases resB T L h r with
  | none => cases resBs T L h l <;> rfl
  | some v => cases v <;> cases resBs T L h l <;> rfl
theorem results_two {r s : ARes} {l : List ARes} : resultsB T L h (r :: s :: l) = (resBs T L h (r :: s :: l)).map .tup := rfl
theorem results_nil : resultsB T L h [] = some (.tup []) := rfl
theorem resB_tmp {t : Nat} : resB T L h (.tmp t) = some (T t).av := rfl
theorem resB_cell {t k : Nat} {g : Bool} : resB T L h (.cell t k g) = ldX k g h L (T t) := by
  simp only [resB, pureB_load, Option.map_map, AX.bv]
  cases ldX k g h L (T t) <;> rfl

/-! ### loops -/
theorem wpC_loop {a : ACode} (I : Nat → Tb → Lb → H → Prop) (n : Nat)
    (step : ∀ i T L h, i < n → I i T L h → wpC P a T L (rdy h) (thenQ (I (i + 1)) Q))
    (last : ∀ T L h, I n T L h → wpC P a T L (rdy h) (thenQ (fun _ _ _ => False) Q)) {i : Nat} (hi : i ≤ n) (h0 : I i T L h) : wpC P (.loop a) T L h Q := by
  have key : ∀ k i T L h, i + k = n → I i T L h → wpC P (.loop a) T L h Q := by
    intro k
    induction k with
    | zero =>
      intro i T L h hi h0
      obtain rfl : i = n := by omega
      obtain ⟨ex, T', L', h', h1, hq⟩ := last T L h h0
      simp only [rdy] at h1
      refine ⟨ex, T', L', h', ?_, ?_⟩
      · simp only [codeB]
        rw [loopB_eq, h1]
        cases ex with
        | normal => exact hq.elim
        | exit id => rfl
        | ret => rfl
      · cases ex with
        | normal => exact hq.elim
        | exit id => exact hq
        | ret => exact hq
    | succ k ih =>
      intro i T L h hi h0
      obtain ⟨ex, T', L', h', h1, hq⟩ := step i T L h (by omega) h0
      simp only [rdy] at h1
      cases ex with
      | normal =>
        obtain ⟨ex, T2, L2, h2, h3, h4⟩ := ih (i + 1) T' L' h' (by omega) hq
        refine ⟨ex, T2, L2, h2, ?_, h4⟩
        simp only [codeB] at h3 ⊢
        rw [loopB_eq, h1]
        exact h3
      | exit id => exact ⟨_, _, _, _, by simp only [codeB]; rw [loopB_eq, h1], hq⟩
      | ret => exact ⟨_, _, _, _, by simp only [codeB]; rw [loopB_eq, h1], hq⟩
  exact key (n - i) i T L h (by omega) h0

/-- A loop with a number that falls. -/
theorem wpC_while {a : ACode} (I : Nat → Tb → Lb → H → Prop) (step : ∀ m T L h, I m T L h → wpC P a T L (rdy h) (thenQ (fun T L h => ∃ m', m' < m ∧ I m' T L h) Q)) : ∀ {m : Nat} {T : Tb} {L : Lb} {h : H}, I m T L h → wpC P (.loop a) T L h Q := by
  intro m
  induction m using Nat.strongRecOn with
  | _ m ih =>
    intro T L h h0
    obtain ⟨ex, T', L', h', h1, hq⟩ := step m T L h h0
    simp only [rdy] at h1
    cases ex with
    | normal =>
      obtain ⟨m', hm, hq⟩ := hq
      obtain ⟨ex, T2, L2, h2, h3, h4⟩ := ih m' hm hq
      refine ⟨ex, T2, L2, h2, ?_, h4⟩
      simp only [codeB] at h3 ⊢
      rw [loopB_eq, h1]
      exact h3
    | exit id => exact ⟨_, _, _, _, by simp only [codeB]; rw [loopB_eq, h1], hq⟩
    | ret => exact ⟨_, _, _, _, by simp only [codeB]; rw [loopB_eq, h1], hq⟩
abbrev VC {c d : ACode} (_ : c = d) : Prop := ∀ {P : Program} {T : Tb} {L : Lb} {h : H} {Q : PostC}, wpC P c T L (rdy h) Q = wpC P d T L (rdy h) Q
abbrev VS {c d : List AStep} (_ : c = d) : Prop := ∀ {P : Program} {T : Tb} {L : Lb} {h : H} {K : Post}, wpS P c T L (rdy h) K = wpS P d T L (rdy h) K
theorem rdy_self : (rdy h = h) = True := by simp [rdy]
/-! ### functions -/
theorem bm_of {f : Nat} {F : AFunc} (hF : compB P f = some F) {args : List AV} {K : AV → H → Prop} (hw : wpC P F.body (startB args) (fun _ => (0, [])) (rdy h) (doneB F.results h K)) : callK (bm P f args h) K := by
  obtain ⟨ex, T', L', h', h1, hq⟩ := hw
  simp only [rdy] at h1
  have hb : ∀ v, resultsB (proA (tmpX F.results) T' L' h').1 L' (proA (tmpX F.results) T' L' h').2 F.results = some v → (∀ id, ex ≠ .exit id) → bodyB (bm P) F args h = some (gcA h (v, (proA (tmpX F.results) T' L' h').2)) := by
    intro v hv hne
    unfold bodyB
    rw [h1]
    cases ex with
    | exit id => exact absurd rfl (hne id)
    | normal => simp [hv]
    | ret => simp [hv]
  cases ex with
  | exit id => exact hq.elim
  | normal =>
    obtain ⟨v, hv, hk⟩ := hq
    exact ⟨_, _, bm_body hF (hb v hv (by simp)), hk⟩
  | ret =>
    obtain ⟨v, hv, hk⟩ := hq
    exact ⟨_, _, bm_body hF (hb v hv (by simp)), hk⟩
theorem bm_eq {f : Nat} {F : AFunc} (hF : compB P f = some F) {args : List AV} {r : AV} {h' : H} (hw : wpC P F.body (startB args) (fun _ => (0, [])) (rdy h) (doneB F.results h fun v h1 => v = r ∧ h1 = h')) : bm P f args h = some (r, h') := by
  obtain ⟨v, h1, h2, rfl, rfl⟩ := bm_of hF hw
  exact h2
end
end Go.Proofs.YtoeceafibmafpaaDoor.Am
/-! The second machine: slices that are read, blocks of a run's own, lists that grow. -/
namespace Go.Proofs.YtoeceafibmafpaaDoor.Am
open Go

section
variable {P : Program} {T : Tb} {L : Lb} {h h0 h1 : H} {K : Post}

/-! ### slices that are read -/
/-- Where element i of a slice is. -/
def elem (k : Nat) : AV → Nat → Nat × Nat
  | .one (.sl (some a) _ _), i => (a.1, a.2 + i * k)
  | _, _ => (0, 0)
/-- The room of a slice, if it is known, holds its length. -/
def capOk (n : Nat) : Option Nat → Prop
  | none => True
  | some c => n ≤ c
/-- A slice of things that are k cells long. -/
structure Sl {α : Type} (enc : α → List CV) (k ty : Nat) (h : H) (v : AV) (l : List α) : Prop where
  form : ∃ b c, v = .one (.sl b l.length c) ∧ capOk l.length c
  src : srcA h k v = some (l.flatMap enc)
  enc : ∀ x, (enc x).length = k
  own : ∀ a n c, v = .one (.sl (some a) n c) → a.1 < h.n ∧ (h.f a.1).ty = ty
/-- The block of a slice. -/
def baseOf : AV → Option Nat
  | .one (.sl (some a) _ _) => some a.1
  | _ => none
/-- Nothing but the block of s has turned. -/
structure Stay (s : AV) (h h' : H) : Prop where
  n : h.n ≤ h'.n
  f : ∀ i, i < h.n → baseOf s ≠ some i → h'.f i = h.f i
theorem Grow.stay (g : Grow h h1) (s : AV) : Stay s h h1 := ⟨g.n, fun i hi _ => g.f i hi⟩
theorem Stay.trans {s : AV} {a b c : H} (x : Stay s a b) (y : Stay s b c) : Stay s a c := ⟨Nat.le_trans x.n y.n, fun i hi hn => (y.f i (by have := x.n; omega) hn).trans (x.f i hi hn)⟩

section
variable {α : Type} {enc : α → List CV} {k ty : Nat} {v s : AV} {l : List α}
theorem Sl.len (hs : Sl enc k ty h v l) : lenO v = some (ii l.length) := by
  obtain ⟨b, c, rfl, _⟩ := hs.form
  rfl
theorem Sl.of_stay (hs : Sl enc k ty h v l) (g : Stay s h h1) (hd : ∀ i, baseOf v = some i → baseOf s ≠ some i) : Sl enc k ty h1 v l := by
  refine ⟨hs.form, ?_, hs.enc, fun a n c he => ?_⟩
  · have h2 := hs.src
    obtain ⟨b, c, rfl, _⟩ := hs.form
    match hn : l.length, b with
    | 0, _ => rw [hn] at h2; simpa [srcA] using h2
    | n + 1, none => rw [hn] at h2; simp [srcA] at h2
    | n + 1, some a =>
      rw [hn] at h2
      simp only [srcA] at h2 ⊢
      have := (hs.own a _ c rfl).1
      unfold H.load at h2 ⊢
      rw [g.f a.1 this (hd a.1 rfl)]
      split at h2
      · rename_i hc
        rw [if_pos ⟨⟨Nat.lt_of_lt_of_le hc.1.1 g.n, hc.1.2⟩, hc.2⟩]
        exact h2
      · simp at h2
  · obtain ⟨h2, h3⟩ := hs.own a n c he
    refine ⟨Nat.lt_of_lt_of_le h2 g.n, ?_⟩
    rw [g.f a.1 h2 (hd a.1 (by rw [he]; rfl))]
    exact h3
theorem Sl.grow (hs : Sl enc k ty h v l) (g : Grow h h1) : Sl enc k ty h1 v l := hs.of_stay (g.stay (.tup [])) (fun _ _ h => by simp [baseOf] at h)
theorem flat_at (he : ∀ x, (enc x).length = k) : ∀ {l : List α} {i : Nat} (hi : i < l.length) (rest : List CV), ((l.flatMap enc ++ rest).drop (i * k)).take k = enc l[i]
  | x :: l, 0, _, rest => by
    simp only [Nat.zero_mul, List.drop_zero, List.flatMap_cons, List.getElem_cons_zero, List.append_assoc]
    rw [List.take_append_of_le_length (by rw [he]; exact Nat.le_refl _), List.take_of_length_le (by rw [he]; exact Nat.le_refl _)]
  | x :: l, i + 1, hi, rest => by
    simp only [List.flatMap_cons, List.getElem_cons_succ, List.append_assoc]
    rw [show (i + 1) * k = (enc x).length + i * k by rw [he, Nat.add_mul]; omega, ← List.drop_drop, List.drop_left]
    exact flat_at he (by simpa using hi) rest
theorem flat_len (he : ∀ x, (enc x).length = k) : ∀ (l : List α), (l.flatMap enc).length = l.length * k
  | [] => by simp
  | x :: l => by rw [List.flatMap_cons, List.length_append, he, flat_len he l, List.length_cons, Nat.add_mul]; omega
theorem Sl.base (hs : Sl enc k ty h v l) {i : Nat} (hi : i < l.length) : ∃ a c, v = .one (.sl (some a) l.length c) ∧ h.load a (l.length * k) = some (l.flatMap enc) := by
  obtain ⟨b, c, rfl, _⟩ := hs.form
  have h1 := hs.src
  match hn : l.length, b with
  | 0, _ => omega
  | n + 1, none => rw [hn] at h1; simp [srcA] at h1
  | n + 1, some a => rw [hn] at h1; exact ⟨a, c, rfl, by simpa [srcA] using h1⟩
theorem Sl.iaddr (hs : Sl enc k ty h v l) {i : Nat} (hi : i < l.length) {kd : IntKind} : iaddrO k v (.one (.int kd i)) = some (.one (.ptr (some (elem k v i)))) := by
  obtain ⟨a, c, rfl, _⟩ := hs.base hi
  simp only [iaddrO, elem]
  rw [if_pos ⟨by omega, by omega⟩]
  simp
theorem Sl.iaddr_int (hs : Sl enc k ty h v l) {j : Int} (h0 : 0 ≤ j) (hj : j < l.length) {kd : IntKind} : iaddrO k v (.one (.int kd j)) = some (.one (.ptr (some (elem k v j.toNat)))) := by
  have := hs.iaddr (i := j.toNat) (by omega) (kd := kd)
  rwa [Int.toNat_of_nonneg h0] at this
theorem H.load_part {a : Nat × Nat} {k off m : Nat} {cs : List CV} (hl : h.load a k = some cs) (ho : off + m ≤ k) : h.load (a.1, a.2 + off) m = some ((cs.drop off).take m) := by
  unfold H.load at hl ⊢
  split at hl
  · rename_i hc
    rw [if_pos ⟨hc.1, by have := hc.2; simp only; omega⟩]
    simp only [Option.some.injEq] at hl ⊢
    rw [← hl, List.drop_take, List.take_take, Nat.min_eq_left (by omega), List.drop_drop]
  · simp at hl
theorem Sl.load (hs : Sl enc k ty h v l) {i : Nat} (hi : i < l.length) : h.load (elem k v i) k = some (enc l[i]) := by
  obtain ⟨a, c, rfl, h1⟩ := hs.base hi
  have e1 : (i + 1) * k ≤ l.length * k := Nat.mul_le_mul_right _ (by omega)
  rw [Nat.add_mul] at e1
  have h2 := H.load_part h1 (show i * k + k ≤ l.length * k by omega)
  have h3 := flat_at hs.enc hi []
  rw [List.append_nil] at h3
  rw [h3] at h2
  exact h2
theorem flat_drop (he : ∀ x, (enc x).length = k) : ∀ (l : List α) (i : Nat), (l.flatMap enc).drop (i * k) = (l.drop i).flatMap enc
  | l, 0 => by simp
  | [], i + 1 => by simp
  | x :: l, i + 1 => by
    rw [List.flatMap_cons, show (i + 1) * k = (enc x).length + i * k by rw [he, Nat.add_mul]; omega, ← List.drop_drop, List.drop_left, flat_drop he l i]
    simp
theorem flat_take (he : ∀ x, (enc x).length = k) : ∀ (l : List α) (i : Nat), (l.flatMap enc).take (i * k) = (l.take i).flatMap enc
  | l, 0 => by simp
  | [], i + 1 => by simp
  | x :: l, i + 1 => by
    rw [List.flatMap_cons, show (i + 1) * k = (enc x).length + i * k by rw [he, Nat.add_mul]; omega, List.take_length_add_append, flat_take he l i]
    simp
/-- A cut. -/
theorem Sl.cut {T : Tm} (hs : Sl enc k ty h v l) {x : AX} {alo ahi amx : Option AX} {lo hi : Nat} (hx : x.ev T = v) (hlo : lo ≤ hi) (hhi : hi ≤ l.length)
    (hb : ∀ c, capOk l.length c → ∃ m, boundsA T l.length c alo ahi amx = some (lo, hi, m) ∧ capOk hi m) :
    ∃ v', pureA (.slice ty k x alo ahi amx) T h = some v' ∧ Sl enc k ty h v' ((l.drop lo).take (hi - lo)) ∧ (∀ i, baseOf v' = some i → baseOf v = some i) := by
  obtain ⟨b, c, rfl, hc⟩ := hs.form
  obtain ⟨m, h1, h2⟩ := hb c hc
  have hlen : ((l.drop lo).take (hi - lo)).length = hi - lo := by simp; omega
  have hcap : capOk (hi - lo) (m.map (· - lo)) := by
    cases m with
    | none => trivial
    | some m => exact Nat.sub_le_sub_right h2 lo
  cases b with
  | none =>
    have hsrc := hs.src
    have hl0 : l = [] := by
      cases hl : l with
      | nil => rfl
      | cons y r => subst hl; simp [srcA] at hsrc
    subst hl0
    simp only [List.length_nil] at h1 hhi
    obtain rfl : hi = 0 := by omega
    refine ⟨.one (.sl none (0 - lo) (m.map (· - lo))), ?_, ?_, fun i hi => by simp [baseOf] at hi⟩
    · simp only [pureA, hx, List.length_nil, h1]
    · obtain rfl : lo = 0 := by omega
      exact ⟨⟨none, _, rfl, by simpa using hcap⟩, by simp [srcA], hs.enc, fun a n c he => by simp at he⟩
  | some a =>
    have ho := hs.own a l.length c rfl
    refine ⟨.one (.sl (some (a.1, a.2 + lo * k)) (hi - lo) (m.map (· - lo))), ?_, ?_, fun i hi => hi⟩
    · simp only [pureA, hx, h1]
      rw [if_pos ho]
    · refine ⟨⟨_, _, by rw [hlen], by rw [hlen]; exact hcap⟩, ?_, hs.enc, fun a' n' c' he => by simp at he; obtain ⟨⟨rfl, _⟩, _⟩ := he; exact ho⟩
      by_cases h0 : hi - lo = 0
      · rw [h0]
        simp [srcA]
      · obtain ⟨a', c', he, hl⟩ := hs.base (i := lo) (by omega)
        simp at he
        obtain ⟨rfl, rfl⟩ := he
        have e1 : hi * k ≤ l.length * k := Nat.mul_le_mul_right _ hhi
        have e2 : lo * k + (hi - lo) * k = hi * k := by rw [← Nat.add_mul]; congr 1; omega
        have h3 := H.load_part hl (show lo * k + (hi - lo) * k ≤ l.length * k by omega)
        rw [flat_drop hs.enc, flat_take hs.enc] at h3
        obtain ⟨n, hn⟩ : ∃ n, hi - lo = n + 1 := ⟨hi - lo - 1, by omega⟩
        rw [hn] at h3 ⊢
        simpa [srcA] using h3
theorem boundA_at {T : Tm} {x : AX} {i y : Nat} {kd : IntKind} (hx : x.ev T = .one (.int kd i)) (hi : i ≤ y) : boundA T x y = some i := by
  simp only [boundA, hx]
  rw [if_pos ⟨by omega, by omega⟩]
  simp
/-- The first i elements. -/
theorem Sl.takeO (hs : Sl enc k ty h v l) {i : Nat} (hi : i ≤ l.length) {kd : IntKind} : ∃ v', cutO ty k h v none (some (.one (.int kd i))) none = some v' ∧ Sl enc k ty h v' (l.take i) := by
  obtain ⟨v', h1, h2, _⟩ := hs.cut (lo := 0) (hi := i) (alo := none) (ahi := some (.t 2)) (amx := none) (x := .t 0) (T := fun t => if t = 0 then v else if t = 1 then undefA else if t = 2 then .one (.int kd i) else undefA) rfl (Nat.zero_le _) hi (fun c hc => ⟨c, by
    have : i ≤ c.getD l.length := by cases c with | none => exact hi | some c => exact Nat.le_trans hi hc
    simp only [boundsA, maxA, highA, lowA]
    rw [boundA_at (i := i) (kd := kd) rfl this], by cases c with | none => trivial | some c => exact Nat.le_trans hi hc⟩)
  exact ⟨v', h1, by simpa using h2⟩
/-- All from i on. -/
theorem Sl.dropO (hs : Sl enc k ty h v l) {i : Nat} (hi : i ≤ l.length) {kd : IntKind} : ∃ v', cutO ty k h v (some (.one (.int kd i))) none none = some v' ∧ Sl enc k ty h v' (l.drop i) := by
  obtain ⟨v', h1, h2, _⟩ := hs.cut (lo := i) (hi := l.length) (alo := some (.t 1)) (ahi := none) (amx := none) (x := .t 0) (T := fun t => if t = 0 then v else if t = 1 then .one (.int kd i) else if t = 2 then undefA else undefA) rfl hi (Nat.le_refl _) (fun c hc => ⟨c, by
    simp only [boundsA, maxA, highA, lowA]
    rw [boundA_at (i := i) (kd := kd) rfl hi], by cases c with | none => trivial | some c => exact hc⟩)
  refine ⟨v', h1, ?_⟩
  rw [List.take_of_length_le (by simp)] at h2
  exact h2
/-- All, without room behind it. -/
theorem Sl.clipO (hs : Sl enc k ty h v l) {kd kd' : IntKind} : ∃ v', cutO ty k h v none (some (.one (.int kd l.length))) (some (.one (.int kd' l.length))) = some v' ∧ Sl enc k ty h v' l := by
  obtain ⟨v', h1, h2, _⟩ := hs.cut (lo := 0) (hi := l.length) (alo := none) (ahi := some (.t 2)) (amx := some (.t 3)) (x := .t 0) (T := fun t => if t = 0 then v else if t = 1 then undefA else if t = 2 then .one (.int kd l.length) else .one (.int kd' l.length)) rfl (Nat.zero_le _) (Nat.le_refl _) (fun c hc => ⟨some l.length, by
    have : l.length ≤ c.getD l.length := by cases c with | none => exact Nat.le_refl _ | some c => exact hc
    simp only [boundsA, maxA, highA, lowA]
    rw [boundA_at (i := l.length) (kd := kd') rfl this, Option.map_some]
    simp only [Option.getD_some]
    rw [boundA_at (i := l.length) (kd := kd) rfl (Nat.le_refl _)], Nat.le_refl _⟩)
  exact ⟨v', h1, by simpa using h2⟩
/-- A field of an element. -/
theorem Sl.field (hs : Sl enc k ty h v l) {i off : Nat} {c : CV} (hi : i < l.length) (hc : (enc l[i])[off]? = some c) : loadO 1 false h (.one (.ptr (some ((elem k v i).1, (elem k v i).2 + off)))) = some (.one c) := by
  refine loadO_one ?_
  have h1 := hs.load hi
  have h2 := (List.getElem?_eq_some_iff.1 hc).1
  rw [hs.enc] at h2
  rw [H.load_part h1 (show off + 1 ≤ k by omega)]
  obtain ⟨h3, h4⟩ := List.getElem?_eq_some_iff.1 hc
  rw [List.drop_eq_getElem_cons h3]
  simp [h4]
/-- Any field of an element. -/
theorem Sl.fieldO (hs : Sl enc k ty h v l) {i off : Nat} (hi : i < l.length) (ho : off + 1 ≤ k) : loadO 1 false h (.one (.ptr (some ((elem k v i).1, (elem k v i).2 + off)))) = (enc l[i])[off]?.map .one := by
  have h1 : off < (enc l[i]).length := by rw [hs.enc]; omega
  rw [hs.field hi (List.getElem?_eq_getElem h1), List.getElem?_eq_getElem h1]
  rfl
theorem Sl.oneO (hs : Sl enc 1 ty h v l) {i : Nat} (hi : i < l.length) : loadO 1 false h (.one (.ptr (some (elem 1 v i)))) = (enc l[i])[0]?.map .one := by
  have := hs.fieldO (off := 0) hi (Nat.le_refl _)
  simpa using this
theorem Sl.field0 (hs : Sl enc k ty h v l) {i : Nat} {c : CV} (hi : i < l.length) (hc : (enc l[i])[0]? = some c) : loadO 1 false h (.one (.ptr (some (elem k v i)))) = some (.one c) := by
  have := hs.field (off := 0) hi hc
  simpa using this
theorem Sl.one (hs : Sl enc 1 ty h v l) {i : Nat} {c : CV} (hi : i < l.length) (hc : enc l[i] = [c]) : loadO 1 false h (.one (.ptr (some (elem 1 v i)))) = some (.one c) := by
  refine loadO_one ?_
  rw [hs.load hi, hc]
theorem Sl.whole (hs : Sl enc k ty h v l) {i : Nat} (hi : i < l.length) : loadO k true h (.one (.ptr (some (elem k v i)))) = some (.agg (enc l[i])) := loadO_agg (hs.load hi)
theorem Sl.nil (he : ∀ x, (enc x).length = k) : Sl enc k ty h (.one (.sl none 0 (some 0))) ([] : List α) := ⟨⟨none, some 0, rfl, Nat.le_refl _⟩, rfl, he, fun a n c he => by simp at he⟩
theorem bytes_at {l : List Int} {ty : Nat} (hs : Sl (fun n : Int => [CV.int .u8 n]) 1 ty h v l) (hl : l ≠ []) : bytesO h v = some (.one (.str (strOfNums l))) := by
  obtain ⟨a, c, rfl, h1⟩ := hs.base (i := 0) (List.length_pos_iff.2 hl)
  simp only [bytesO]
  rw [if_neg (by simpa using hl)]
  rw [Nat.mul_one] at h1
  have : ∀ l : List Int, strBytes (l.flatMap fun n : Int => [CV.int .u8 n]) = some l := by
    intro l
    induction l with
    | nil => rfl
    | cons x r ih => simp only [List.flatMap_cons, List.cons_append, List.nil_append, strBytes, ih, Option.map_some]
  simp only [h1, this, Option.map_some]
theorem Sl.isNil (hs : Sl enc k ty h v l) : ∃ b : Bool, (∀ n, eqnilO n v (.one (.sl none 0 (some 0))) = some (ib (b != n))) ∧ (b = true → l = []) := by
  obtain ⟨b, c, rfl, hc⟩ := hs.form
  refine ⟨b.isNone, fun n => rfl, fun hb => ?_⟩
  cases b with
  | none =>
    have := hs.src
    cases hl : l with
    | nil => rfl
    | cons x r => subst hl; simp [srcA] at this
  | some a => simp at hb
end

/-! ### blocks of a run's own -/
structure Box (h : H) (p : Nat) (cs : List CV) (ty : Nat) : Prop where
  lt : p < h.n
  eq : h.f p = ⟨cs, ty, .rw⟩
theorem Box.grow {p : Nat} {cs : List CV} {ty : Nat} (b : Box h p cs ty) (g : Grow h h1) : Box h1 p cs ty := ⟨Nat.lt_of_lt_of_le b.lt g.n, (g.f p b.lt).trans b.eq⟩
theorem Box.stay {p : Nat} {cs : List CV} {ty : Nat} {s : AV} (b : Box h p cs ty) (g : Stay s h h1) (hn : baseOf s ≠ some p) : Box h1 p cs ty := ⟨Nat.lt_of_lt_of_le b.lt g.n, (g.f p b.lt hn).trans b.eq⟩
theorem Box.load {p : Nat} {cs : List CV} {ty off k : Nat} (b : Box h p cs ty) (hk : off + k ≤ cs.length) : h.load (p, off) k = some ((cs.drop off).take k) := by
  unfold H.load
  rw [b.eq, if_pos ⟨⟨b.lt, by simp⟩, hk⟩]
theorem Box.one {p : Nat} {cs : List CV} {ty off : Nat} {c : CV} (b : Box h p cs ty) (hc : cs[off]? = some c) : loadO 1 false h (.one (.ptr (some (p, off)))) = some (.one c) := by
  obtain ⟨h1, h2⟩ := List.getElem?_eq_some_iff.1 hc
  refine loadO_one ?_
  rw [b.load (by omega), List.drop_eq_getElem_cons h1]
  simp [h2]
theorem Box.all {p : Nat} {cs : List CV} {ty k : Nat} (b : Box h p cs ty) (hk : cs.length = k) : loadO k true h (.one (.ptr (some (p, 0)))) = some (.agg cs) := by
  refine loadO_agg ?_
  rw [b.load (by omega)]
  simp [← hk]
theorem Box.new {cs : List CV} {ty : Nat} : Box (h.alloc cs ty) h.n cs ty := ⟨Nat.lt_succ_self _, alloc_f_new⟩
theorem Box.store {p : Nat} {cs vs : List CV} {ty off : Nat} (b : Box h p cs ty) (hv : off + vs.length ≤ cs.length) :
    ∃ h1, h.store (p, off) vs = some h1 ∧ h1.n = h.n ∧ (∀ i, i ≠ p → h1.f i = h.f i) ∧ Box h1 p (cs.take off ++ (vs ++ cs.drop (off + vs.length))) ty := by
  unfold H.store
  rw [b.eq, if_pos ⟨rfl, hv⟩]
  exact ⟨_, rfl, rfl, fun i hi => by rw [setBlk_f, if_neg hi], b.lt, by rw [setBlk_f, if_pos rfl]⟩

/-! ### a list of the run's own, from h0 on -/
section
variable {α : Type} {enc : α → List CV} {k ty : Nat} {v s : AV} {l : List α}
inductive Nw {α : Type} (enc : α → List CV) (k ty : Nat) (h0 h : H) : AV → List α → Prop
  | nil : Nw enc k ty h0 h (.one (.sl none 0 (some 0))) []
  | emp {b o : Nat} : b < h.n → (h.f b).ty = ty → h0.n ≤ b → Nw enc k ty h0 h (.one (.sl (some (b, o)) 0 (some 0))) []
  | spare {b : Nat} {cs : List CV} : Box h b cs ty → h0.n ≤ b → Nw enc k ty h0 h (.one (.sl (some (b, 0)) 0 none)) []
  | full {b : Nat} {c : Option Nat} {l : List α} : (c = none ∨ c = some l.length) → Box h b (l.flatMap enc) ty → h0.n ≤ b → Nw enc k ty h0 h (.one (.sl (some (b, 0)) l.length c)) l

theorem Nw.sl (hs : Nw enc k ty h0 h v l) (he : ∀ x, (enc x).length = k) : Sl enc k ty h v l := by
  cases hs with
  | nil => exact Sl.nil he
  | emp h1 h2 h3 => exact ⟨⟨_, _, rfl, Nat.le_refl _⟩, rfl, he, fun a n c h4 => by simp at h4; obtain ⟨rfl, _⟩ := h4; exact ⟨h1, h2⟩⟩
  | spare h1 h2 => exact ⟨⟨_, _, rfl, trivial⟩, rfl, he, fun a n c h4 => by simp at h4; obtain ⟨rfl, _⟩ := h4; exact ⟨h1.lt, by rw [h1.eq]⟩⟩
  | full hc hb h3 =>
    rename_i b c
    refine ⟨⟨_, _, rfl, ?_⟩, ?_, he, fun a n c h4 => ?_⟩
    · rcases hc with rfl | rfl
      · trivial
      · exact Nat.le_refl _
    · cases hl : l.length with
      | zero =>
        have : l = [] := List.length_eq_zero_iff.1 hl
        subst this
        rfl
      | succ n =>
        simp only [srcA]
        rw [← hl, hb.load (by rw [flat_len he]; omega), List.drop_zero, List.take_of_length_le (by rw [flat_len he]; omega)]
    · simp at h4
      obtain ⟨⟨rfl, _⟩, _⟩ := h4
      exact ⟨hb.lt, by rw [hb.eq]⟩
theorem Nw.from (hs : Nw enc k ty h1 h v l) (hn : h0.n ≤ h1.n) : Nw enc k ty h0 h v l := by
  cases hs with
  | nil => exact .nil
  | emp h1 h2 h3 => exact .emp h1 h2 (Nat.le_trans hn h3)
  | spare h1 h2 => exact .spare h1 (Nat.le_trans hn h2)
  | full hc hb h3 => exact .full hc hb (Nat.le_trans hn h3)
theorem Nw.grow {h2 : H} (hs : Nw enc k ty h0 h v l) (g : Grow h h2) : Nw enc k ty h0 h2 v l := by
  cases hs with
  | nil => exact .nil
  | emp h1 h2 h3 => exact .emp (Nat.lt_of_lt_of_le h1 g.n) (by rw [g.f _ h1]; exact h2) h3
  | spare h1 h2 => exact .spare (h1.grow g) h2
  | full hc hb h3 => exact .full hc (hb.grow g) h3
theorem Nw.stay {h2 : H} (hs : Nw enc k ty h0 h v l) (g : Stay s h h2) (hd : ∀ i, baseOf v = some i → baseOf s ≠ some i) : Nw enc k ty h0 h2 v l := by
  cases hs with
  | nil => exact .nil
  | emp h1 h3 h4 => exact .emp (Nat.lt_of_lt_of_le h1 g.n) (by rw [g.f _ h1 (hd _ rfl)]; exact h3) h4
  | spare h1 h2 => exact .spare (h1.stay g (hd _ rfl)) h2
  | full hc hb h3 => exact .full hc (hb.stay g (hd _ rfl)) h3
theorem Nw.lt (hs : Nw enc k ty h0 h v l) {i : Nat} (hi : baseOf v = some i) : i < h.n ∧ h0.n ≤ i := by
  cases hs with
  | nil => simp [baseOf] at hi
  | emp h1 h2 h3 => simp [baseOf] at hi; subst hi; exact ⟨h1, h3⟩
  | spare h1 h2 => simp [baseOf] at hi; subst hi; exact ⟨h1.lt, h2⟩
  | full hc hb h3 => simp [baseOf] at hi; subst hi; exact ⟨hb.lt, h3⟩
theorem Nw.one (hs : Nw enc k ty h0 h v l) : ∃ c, v = .one c := by cases hs <;> exact ⟨_, rfl⟩
/-- Nothing that points: it is nothing. -/
theorem Nw.scalar (hs : Nw enc k ty h0 h v l) (hv : v.scalar = true) (h2 : H) : Nw enc k ty h0 h2 v l := by
  cases hs with
  | nil => exact .nil
  | emp => simp [AV.scalar, CV.scalar] at hv
  | spare => simp [AV.scalar, CV.scalar] at hv
  | full => simp [AV.scalar, CV.scalar] at hv
theorem Nw.clipO (hs : Nw enc k ty h0 h v l) {kd kd' : IntKind} : ∃ v', cutO ty k h v none (some (.one (.int kd l.length))) (some (.one (.int kd' l.length))) = some v' ∧ Nw enc k ty h0 h v' l := by
  cases hs with
  | nil => exact ⟨_, by simp [cutO, pureA, AX.ev, boundsA, maxA, highA, lowA, boundA], .nil⟩
  | emp h1 h2 h3 =>
    refine ⟨_, by simp [cutO, pureA, AX.ev, boundsA, maxA, highA, lowA, boundA]; exact ⟨⟨h1, h2⟩, rfl⟩, .emp h1 h2 h3⟩
  | spare h1 h2 =>
    refine ⟨_, by simp [cutO, pureA, AX.ev, boundsA, maxA, highA, lowA, boundA]; exact ⟨⟨h1.lt, by rw [h1.eq]⟩, rfl⟩, .emp h1.lt (by rw [h1.eq]) h2⟩
  | full hc hb h3 =>
    rename_i b c
    refine ⟨.one (.sl (some (b, 0)) l.length (some l.length)), ?_, .full (.inr rfl) hb h3⟩
    have : c.getD l.length = l.length := by rcases hc with rfl | rfl <;> rfl
    simp [cutO, pureA, AX.ev, boundsA, maxA, highA, lowA, boundA, this]
    exact ⟨hb.lt, by rw [hb.eq]⟩

theorem Nw.clipB (hs : Nw enc k ty h0 h v l) {kd kd' : IntKind} : ∃ v', cutO ty k h v none (some (.one (.int kd l.length))) (some (.one (.int kd' l.length))) = some v' ∧ Nw enc k ty h0 h v' l ∧ ∀ i, baseOf v' = some i → baseOf v = some i := by
  cases hs with
  | nil => exact ⟨_, by simp [cutO, pureA, AX.ev, boundsA, maxA, highA, lowA, boundA], .nil, fun i hi => by simp [baseOf] at hi⟩
  | emp h1 h2 h3 =>
    refine ⟨_, by simp [cutO, pureA, AX.ev, boundsA, maxA, highA, lowA, boundA]; exact ⟨⟨h1, h2⟩, rfl⟩, .emp h1 h2 h3, fun i hi => by simpa [baseOf] using hi⟩
  | spare h1 h2 =>
    refine ⟨_, by simp [cutO, pureA, AX.ev, boundsA, maxA, highA, lowA, boundA]; exact ⟨⟨h1.lt, by rw [h1.eq]⟩, rfl⟩, .emp h1.lt (by rw [h1.eq]) h2, fun i hi => by simpa [baseOf] using hi⟩
  | full hc hb h3 =>
    rename_i b c
    refine ⟨.one (.sl (some (b, 0)) l.length (some l.length)), ?_, .full (.inr rfl) hb h3, fun i hi => by simpa [baseOf] using hi⟩
    have : c.getD l.length = l.length := by rcases hc with rfl | rfl <;> rfl
    simp [cutO, pureA, AX.ev, boundsA, maxA, highA, lowA, boundA, this]
    exact ⟨hb.lt, by rw [hb.eq]⟩

theorem Nw.inv (hs : Nw enc k ty h0 h v l) : (v = .one (.sl none 0 (some 0)) ∧ l = []) ∨ (∃ b o, v = .one (.sl (some (b, o)) 0 (some 0)) ∧ l = [] ∧ b < h.n ∧ (h.f b).ty = ty ∧ h0.n ≤ b) ∨ (∃ b cs, v = .one (.sl (some (b, 0)) 0 none) ∧ l = [] ∧ Box h b cs ty ∧ h0.n ≤ b) ∨ ∃ b c, v = .one (.sl (some (b, 0)) l.length c) ∧ (c = none ∨ c = some l.length) ∧ Box h b (l.flatMap enc) ty ∧ h0.n ≤ b := by
  cases hs with
  | nil => exact .inl ⟨rfl, rfl⟩
  | emp h1 h2 h3 => exact .inr (.inl ⟨_, _, rfl, rfl, h1, h2, h3⟩)
  | spare h1 h2 => exact .inr (.inr (.inl ⟨_, _, rfl, rfl, h1, h2⟩))
  | full hc hb h3 => exact .inr (.inr (.inr ⟨_, _, rfl, hc, hb, h3⟩))
theorem wp_append {b : Nat} {x : AV} {m : List α} {d : Option Nat} (he : ∀ x, (enc x).length = k) (hs : Nw enc k ty h0 h s l) (hx : Sl enc k ty h x m) (g : Grow h0 h) (hb : (l.length + m.length) * b ≤ 140737488355328)
    (hk : ∀ h1 s', Grow h0 h1 → Nw enc k ty h0 h1 s' (l ++ m) → Stay s h h1 → (∀ i, baseOf s' = some i → baseOf s = some i ∨ h.n ≤ i) → K (T.put d (.v s')) L (rdy h1)) : apK ty k b s x d T L h K := by
  obtain ⟨xb, xc, rfl, _⟩ := hx.form
  have hsl := hs.sl he
  obtain ⟨sb, sc, rfl, hcap⟩ := hsl.form
  unfold apK
  simp only [appendA]
  by_cases hm : m.length = 0
  · rw [if_pos hm, callK_some]
    have : m = [] := List.length_eq_zero_iff.1 hm
    subst this
    exact hk h _ g (by simpa using hs) ((Grow.refl h).stay _) (fun i hi => .inl hi)
  · rw [if_neg hm, if_neg (by omega), hsl.src, hx.src]
    simp only
    have done : ∀ h2 : H, h2.n = h.n → Grow h0 h2 → (∀ i, i < h.n → baseOf (.one (.sl sb l.length sc)) ≠ some i → h2.f i = h.f i) →
        K (T.put d (.v (.one (.sl (some (h.n, 0)) (l.length + m.length) none)))) L (h2.alloc (l.flatMap enc ++ m.flatMap enc) ty) := by
      intro h2 e1 e2 e3
      refine hk _ _ (e2.trans (Grow.alloc h2 _ ty)) ?_ ⟨by show h.n ≤ h2.n + 1; omega, fun i hi hne => (alloc_f_old (by omega)).trans (e3 i hi hne)⟩ (fun i hi => .inr (by simp [baseOf] at hi; omega))
      have hbox : Box (h2.alloc ((l ++ m).flatMap enc) ty) h.n ((l ++ m).flatMap enc) ty := ⟨by show h.n < h2.n + 1; omega, by rw [← e1]; exact alloc_f_new⟩
      have := Nw.full (enc := enc) (k := k) (h0 := h0) (c := none) (l := l ++ m) (.inl rfl) hbox g.n
      rw [List.length_append, List.flatMap_append] at this
      exact this
    have hgrow : ∀ c', sc = some c' → ¬ l.length + m.length ≤ c' → callK (some (AV.one (.sl (some (h.n, 0)) (l.length + m.length) none), h.alloc (l.flatMap enc ++ m.flatMap enc) ty)) fun v h' => K (T.put d (.v v)) L h' := by
      intro c' _ _
      rw [callK_some]
      exact done h rfl g (fun _ _ _ => rfl)
    rcases hs.inv with ⟨h1, h2⟩ | ⟨b', o, h1, h2, _⟩ | ⟨b', cs, h1, h2, hbx, h3⟩ | ⟨b', c, h1, hc, hbx, h3⟩
    · subst h2
      simp at h1
      obtain ⟨rfl, rfl⟩ := h1
      simp only
      rw [if_neg (by rw [List.length_nil]; omega)]
      exact hgrow 0 rfl (by rw [List.length_nil]; omega)
    · subst h2
      simp at h1
      obtain ⟨rfl, rfl⟩ := h1
      simp only
      rw [if_neg (by rw [List.length_nil]; omega)]
      exact hgrow 0 rfl (by rw [List.length_nil]; omega)
    · subst h2
      simp at h1
      obtain ⟨rfl, rfl⟩ := h1
      simp only
      rw [if_pos ⟨by rw [hbx.eq], by rw [hbx.eq]⟩, callK_some]
      refine done (h.kill _) rfl ⟨g.n, fun i hi => ?_⟩ (fun i hi hne => ?_)
      · rw [kill_f, if_neg (by show i ≠ _; omega)]
        exact g.f i hi
      · rw [kill_f, if_neg (fun e => hne (by simp [baseOf, e]))]
    · simp at h1
      obtain ⟨rfl, rfl⟩ := h1
      rcases hc with rfl | rfl
      · simp only
        rw [if_pos ⟨by rw [hbx.eq], by rw [hbx.eq]⟩, callK_some]
        refine done (h.kill _) rfl ⟨g.n, fun i hi => ?_⟩ (fun i hi hne => ?_)
        · rw [kill_f, if_neg (by show i ≠ _; omega)]
          exact g.f i hi
        · rw [kill_f, if_neg (fun e => hne (by simp [baseOf, e]))]
      · simp only
        rw [if_neg (by omega)]
        exact hgrow _ rfl (by omega)

/-- Two slices of blocks apart. -/
def Sep (v w : AV) : Prop := ∀ i, baseOf v = some i → baseOf w ≠ some i
theorem Sep.symm {v w : AV} (h : Sep v w) : Sep w v := fun i hi hv => h i hv hi
/-- What came up later lies apart. -/
theorem Nw.apart {β : Type} {enc2 : β → List CV} {k2 ty2 : Nat} {h2 : H} {w : AV} {m : List β} (hs : Nw enc k ty h0 h v l) (hw : Nw enc2 k2 ty2 h h2 w m) : Sep v w := by
  intro i hi hj
  have h3 := (hs.lt hi).1
  have h4 := (hw.lt hj).2
  omega
theorem Sl.apart {β : Type} {enc2 : β → List CV} {k2 ty2 : Nat} {h2 : H} {w : AV} {m : List β} (hs : Sl enc k ty h v l) (hw : Nw enc2 k2 ty2 h h2 w m) : Sep v w := by
  intro i hi hj
  have h4 := (hw.lt hj).2
  obtain ⟨b, c, rfl, _⟩ := hs.form
  cases b with
  | none => simp [baseOf] at hi
  | some a =>
    simp [baseOf] at hi
    have := (hs.own a _ c rfl).1
    omega
theorem Sep.nil {v : AV} {n : Nat} {c : Option Nat} : Sep (.one (.sl none n c)) v := fun i hi => by simp [baseOf] at hi

/-- What was changed lies between a and b. -/
structure Mid (a b : Nat) (h h' : H) : Prop where
  n : h.n ≤ h'.n
  f : ∀ i, i < h.n → (i < a ∨ b ≤ i) → h'.f i = h.f i
theorem Grow.mid {a b : Nat} {h h1 : H} (g : Grow h h1) : Mid a b h h1 := ⟨g.n, fun i hi _ => g.f i hi⟩
theorem Mid.trans {a b : Nat} {h h1 h2 : H} (x : Mid a b h h1) (y : Mid a b h1 h2) : Mid a b h h2 := ⟨Nat.le_trans x.n y.n, fun i hi hn => (y.f i (by have := x.n; omega) hn).trans (x.f i hi hn)⟩
theorem Mid.widen {a b c : Nat} {h h1 : H} (m : Mid a b h h1) (hc : b ≤ c) : Mid a c h h1 := ⟨m.n, fun i hi hn => m.f i hi (by omega)⟩
theorem Mid.grow {a b : Nat} {h0 h h1 : H} (m : Mid a b h h1) (g : Grow h0 h) (ha : h0.n ≤ a) : Grow h0 h1 := ⟨Nat.le_trans g.n m.n, fun i hi => (m.f i (Nat.lt_of_lt_of_le hi g.n) (.inl (by omega))).trans (g.f i hi)⟩
theorem Nw.mid {α : Type} {enc : α → List CV} {k ty : Nat} {h0 hb h h1 : H} {v : AV} {l : List α} (hv : Nw enc k ty h0 hb v l) (s : Stay v h h1) : Mid h0.n hb.n h h1 :=
  ⟨s.n, fun i hi hn => s.f i hi fun e => by have := hv.lt e; omega⟩
theorem Nw.past {α : Type} {enc : α → List CV} {k ty a b : Nat} {h0 h h1 : H} {v : AV} {l : List α} (hv : Nw enc k ty h0 h v l) (m : Mid a b h h1) (hb : b ≤ h0.n) : Nw enc k ty h0 h1 v l := by
  cases hv with
  | nil => exact .nil
  | emp h1 h3 h4 => exact .emp (Nat.lt_of_lt_of_le h1 m.n) (by rw [m.f _ h1 (.inr (by omega))]; exact h3) h4
  | spare h1 h2 => exact .spare ⟨Nat.lt_of_lt_of_le h1.lt m.n, (m.f _ h1.lt (.inr (by omega))).trans h1.eq⟩ h2
  | full hc hb h3 => exact .full hc ⟨Nat.lt_of_lt_of_le hb.lt m.n, (m.f _ hb.lt (.inr (by omega))).trans hb.eq⟩ h3
/-- A list that is written out. -/
theorem wp_lit {n : Nat} {z : List CV} {ps : List (Nat × Nat × AV)} {d : Option Nat} (l : List α) (hf : fillA (repl z n) ps = some (l.flatMap enc)) (hl : l.length = n)
    (hk : ∀ h1 v, Grow h h1 → Nw enc k ty h h1 v l → (∀ i, baseOf v = some i → h.n ≤ i) → K (T.put d (.v v)) L (rdy h1)) : bsK ty n z ps d T L h K := by
  subst hl
  exact ⟨_, hf, hk _ _ (Grow.alloc h _ ty) (.full (.inr rfl) Box.new (Nat.le_refl _)) (fun i hi => by simp [baseOf] at hi; omega)⟩
/-- A list of zeros. -/
theorem repl_rep {x0 : α} : ∀ n, repl (enc x0) n = (List.replicate n x0).flatMap enc
  | 0 => rfl
  | n + 1 => by rw [repl, repl_rep n, List.replicate_succ, List.flatMap_cons]
theorem wp_make {n b : Nat} {z : List CV} {d : Option Nat} (x0 : α) (hz : z = enc x0) (hn : n * b ≤ 140737488355328) (hn2 : n ≤ 9223372036854775807)
    (hk : ∀ h1 v, Grow h h1 → Nw enc k ty h h1 v (List.replicate n x0) → (∀ i, baseOf v = some i → h.n ≤ i) → K (T.put d (.v v)) L (rdy h1)) : mkK ty b z (.one (.int .i64 n)) (.one (.int .i64 n)) d T L h K := by
  subst hz
  refine ⟨⟨by omega, Int.le_refl _, by rw [← Int.natCast_mul]; omega, by omega⟩, ?_⟩
  simp only [Int.toNat_natCast, repl_rep]
  have := Nw.full (enc := enc) (k := k) (ty := ty) (h0 := h) (h := h.alloc ((List.replicate n x0).flatMap enc) ty) (c := some n) (l := List.replicate n x0) (.inr (by simp)) Box.new (Nat.le_refl _)
  simp only [List.length_replicate] at this
  exact hk _ _ (Grow.alloc h _ ty) this (fun i hi => by simp [baseOf] at hi; omega)

/-- Zeros behind nothing. -/
theorem wp_appz {n b : Nat} {z : List CV} {d : Option Nat} (hn : 0 < n) (hb : n * b ≤ 140737488355328) (hn2 : n ≤ 140737488355328)
    (hk : ∀ h1, Grow h h1 → Box h1 h.n (repl z n) ty → K (T.put d (.v (.one (.sl (some (h.n, 0)) n none)))) L (rdy h1)) : azK ty b z (.one (.sl none 0 (some 0))) (.one (.int .i64 n)) d T L h K := by
  refine ⟨⟨by omega, by rw [← Int.natCast_mul]; omega, by omega⟩, ?_⟩
  simp only [Int.toNat_natCast]
  exact hk _ (Grow.alloc h _ ty) Box.new
theorem cut_zero {b n : Nat} {cs : List CV} (hb : Box h b cs ty) {kd : IntKind} : cutO ty k h (.one (.sl (some (b, 0)) n none)) none (some (.one (.int kd 0))) none = some (.one (.sl (some (b, 0)) 0 none)) := by
  simp [cutO, pureA, AX.ev, boundsA, maxA, highA, lowA, boundA]
  exact ⟨hb.lt, by rw [hb.eq]⟩

theorem flat_set (he : ∀ x, (enc x).length = k) {x : α} {off : Nat} {vs : List CV} : ∀ {l : List α} {i : Nat} (hi : i < l.length), (enc l[i]).take off ++ (vs ++ (enc l[i]).drop (off + vs.length)) = enc x → off + vs.length ≤ k →
    (l.flatMap enc).take (i * k + off) ++ (vs ++ (l.flatMap enc).drop (i * k + off + vs.length)) = (l.set i x).flatMap enc
  | y :: l, 0, hi, hx, ho => by
    simp only [List.getElem_cons_zero] at hx
    simp only [Nat.zero_mul, Nat.zero_add, List.flatMap_cons, List.set_cons_zero]
    rw [List.take_append_of_le_length (by rw [he]; omega), List.drop_append_of_le_length (by rw [he]; omega), ← hx]
    simp
  | y :: l, i + 1, hi, hx, ho => by
    simp only [List.getElem_cons_succ] at hx
    simp only [List.flatMap_cons, List.set_cons_succ]
    have ih := flat_set he (l := l) (i := i) (by simpa using hi) hx ho
    rw [show (i + 1) * k + off = (enc y).length + (i * k + off) by rw [he, Nat.add_mul]; omega, List.take_length_add_append, Nat.add_assoc, List.drop_length_add_append, ← ih, Nat.add_assoc]
    simp
/-- Cells of an element are written. -/
theorem wp_set {x : α} {i off m : Nat} {vs : List CV} {d : Option Nat} (he : ∀ x, (enc x).length = k) (hs : Nw enc k ty h0 h v l) (hi : i < l.length) (hm : vs.length = m) (hx : (enc l[i]).take off ++ (vs ++ (enc l[i]).drop (off + vs.length)) = enc x) (ho : off + vs.length ≤ k)
    (g : Grow h0 h) (hk : ∀ h1, Grow h0 h1 → Nw enc k ty h0 h1 v (l.set i x) → Stay v h h1 → K (T.put d (.v undefA)) L (rdy h1)) : stH m ((elem k v i).1, (elem k v i).2 + off) vs d T L h K := by
  cases hs with
  | nil => simp at hi
  | emp => simp at hi
  | spare => simp at hi
  | full hc hb h3 =>
    rename_i b c
    have e1 : (i + 1) * k ≤ l.length * k := Nat.mul_le_mul_right _ (by omega)
    rw [Nat.add_mul] at e1
    obtain ⟨h2, h4, h5, h6, h7⟩ := hb.store (off := i * k + off) (vs := vs) (by rw [flat_len he]; omega)
    rw [flat_set he hi hx ho] at h7
    refine ⟨h2, hm, by simpa [elem, Nat.zero_add] using h4, ?_⟩
    have hn : Nw enc k ty h0 h2 (.one (.sl (some (b, 0)) l.length c)) (l.set i x) := by
      have := Nw.full (enc := enc) (k := k) (h0 := h0) (c := c) (l := l.set i x) (by simpa using hc) h7 h3
      simpa using this
    exact hk h2 ⟨by rw [h5]; exact g.n, fun j hj => (h6 j (by omega)).trans (g.f j hj)⟩ hn ⟨by omega, fun j hj hne => h6 j (fun e => hne (by simp [baseOf, e]))⟩
theorem wp_setE {x : α} {i m : Nat} {vs : List CV} {d : Option Nat} (he : ∀ x, (enc x).length = k) (hs : Nw enc k ty h0 h v l) (hi : i < l.length) (hm : vs.length = m) (hx : vs = enc x)
    (g : Grow h0 h) (hk : ∀ h1, Grow h0 h1 → Nw enc k ty h0 h1 v (l.set i x) → Stay v h h1 → K (T.put d (.v undefA)) L (rdy h1)) : stH m (elem k v i) vs d T L h K := by
  subst hx
  have := wp_set (x := x) (off := 0) (vs := enc x) (m := m) (d := d) (K := K) (L := L) (T := T) he hs hi hm (by simp [he]) (by rw [he]; omega) g hk
  simpa using this
end
end

/-- Nothing has turned: what is in it was in it. -/
theorem Nw.back {α : Type} {enc : α → List CV} {k ty : Nat} {h0 h h1 : H} {v : AV} {l m : List α} (hm : Nw enc k ty h0 h1 v m) (hl : Nw enc k ty h0 h v l) (g : Grow h h1) : Nw enc k ty h0 h v m := by
  rcases hm.inv with ⟨h2, h3⟩ | ⟨b, o, h2, h3, a1, a2, a3⟩ | ⟨b, cs, h2, h3, h4, h5⟩ | ⟨b, c, h2, h3, h4, h5⟩
  · subst h2; subst h3; exact .nil
  · subst h2
    subst h3
    have hlt := (hl.lt (i := b) rfl).1
    exact .emp hlt (by rw [← g.f b hlt]; exact a2) a3
  · subst h2
    subst h3
    have hlt := (hl.lt (i := b) rfl).1
    exact .spare ⟨hlt, by rw [← g.f b hlt]; exact h4.eq⟩ h5
  · subst h2
    have hlt := (hl.lt (i := b) rfl).1
    exact .full h3 ⟨hlt, by rw [← g.f b hlt]; exact h4.eq⟩ h5
theorem Nw.length {α : Type} {enc : α → List CV} {k ty : Nat} {h0 h : H} {v : AV} {l : List α} (hl : Nw enc k ty h0 h v l) : lenO v = some (ii l.length) := by
  cases hl <;> rfl
theorem Nw.iaddr {α : Type} {enc : α → List CV} {k ty : Nat} {h0 h : H} {v : AV} {l : List α} (hl : Nw enc k ty h0 h v l) {i : Nat} (hi : i < l.length) {kd : IntKind} : iaddrO k v (.one (.int kd i)) = some (.one (.ptr (some (elem k v i)))) := by
  cases hl with
  | nil => simp at hi
  | emp => simp at hi
  | spare => simp at hi
  | full h1 h2 h3 =>
    simp only [iaddrO, elem]
    rw [if_pos ⟨by omega, by omega⟩]
    simp

/-- A list under way: the first i are there, the others are zeros. -/
def fillL {α : Type} (l : List α) (z : α) (i : Nat) : List α := l.take i ++ List.replicate (l.length - i) z
theorem fillL_zero {α : Type} {l : List α} {z : α} : fillL l z 0 = List.replicate l.length z := by simp [fillL]
theorem fillL_all {α : Type} {l : List α} {z : α} : fillL l z l.length = l := by simp [fillL]
theorem fillL_len {α : Type} {l : List α} {z : α} {i : Nat} (hi : i ≤ l.length) : (fillL l z i).length = l.length := by simp [fillL]; omega
theorem fillL_set {α : Type} {l : List α} {z : α} {i : Nat} (hi : i < l.length) : (fillL l z i).set i l[i] = fillL l z (i + 1) := by
  unfold fillL
  have hlen : (l.take i).length = i := by rw [List.length_take]; omega
  rw [List.set_append_right _ _ (by omega), List.take_succ_eq_append_getElem hi]
  obtain ⟨n, hn⟩ : ∃ n, l.length - i = n + 1 := ⟨l.length - i - 1, by omega⟩
  rw [hn, List.replicate_succ, show i - (l.take i).length = 0 by omega, List.set_cons_zero, show l.length - (i + 1) = n by omega, List.append_assoc]
  rfl
/-- Marks. -/
def markL {α : Type} (f : Int → α) (c : Nat) (k : Int) (n : Nat) : List α := (List.range n).map fun j => f (k + ((c * j : Nat) : Int))
theorem markL_len {α : Type} {f : Int → α} {c : Nat} {k : Int} {n : Nat} : (markL f c k n).length = n := by simp [markL]
theorem markL_at {α : Type} {f : Int → α} {c : Nat} {k : Int} {n i : Nat} (hi : i < (markL f c k n).length) : (markL f c k n)[i] = f (k + ((c * i : Nat) : Int)) := by simp [markL]
/-- The first i are marked. -/
def markT {α : Type} (f : Int → α) (c : Nat) (k : Int) (l : List α) (i : Nat) : List α := markL f c k i ++ l.drop i
theorem markT_zero {α : Type} {f : Int → α} {c : Nat} {k : Int} {l : List α} : markT f c k l 0 = l := by simp [markT, markL]
theorem markT_all {α : Type} {f : Int → α} {c : Nat} {k : Int} {l : List α} : markT f c k l l.length = markL f c k l.length := by simp [markT]
theorem markT_len {α : Type} {f : Int → α} {c : Nat} {k : Int} {l : List α} {i : Nat} (hi : i ≤ l.length) : (markT f c k l i).length = l.length := by simp [markT, markL_len]; omega
theorem markT_set {α : Type} {f : Int → α} {c : Nat} {k : Int} {l : List α} {i : Nat} (hi : i < l.length) : (markT f c k l i).set i (f (k + ((c * i : Nat) : Int))) = markT f c k l (i + 1) := by
  unfold markT
  rw [List.set_append_right _ _ (by simp [markL_len]), show i - (markL f c k i).length = 0 by simp [markL_len], List.drop_eq_getElem_cons hi, List.set_cons_zero]
  unfold markL
  rw [List.range_succ, List.map_append]
  simp

/-! ### loops -/
theorem wrap_next {i n : Nat} (hi : i < n) (hn : n < 2 ^ 62) : IntKind.i64.wrap ((i : Int) + 1) = ((i + 1 : Nat) : Int) := by
  rw [i64_wrap (by omega) (by omega)]
  omega
theorem lt_true {i n : Nat} (hi : i < n) : decide ((i : Int) < (n : Int)) = true := by simpa using hi
theorem lt_false {n : Nat} : decide ((n : Int) < (n : Int)) = false := by simp
theorem nat_ge (j : Nat) : decide ((j : Int) ≥ 0) = true := decide_eq_true (by omega)
theorem neg_ge : decide ((-1 : Int) ≥ 0) = false := rfl
theorem nat_lt (j : Nat) : decide ((j : Int) < 0) = false := decide_eq_false (by omega)
theorem neg_lt : decide ((-1 : Int) < 0) = true := rfl
theorem all_stop {α : Type} {l : List α} {p : α → Bool} {i : Nat} (hi : i < l.length) (h : p l[i] = false) : l.all p = false :=
  List.all_eq_false.2 ⟨l[i], List.getElem_mem hi, by simp [h]⟩
theorem take_next {α : Type} {l : List α} {p : α → Bool} {b : Bool} {i : Nat} (hi : i < l.length) (h0 : ∀ x ∈ l.take i, p x = b) (h : p l[i] = b) : ∀ x ∈ l.take (i + 1), p x = b := by
  intro x hx
  rw [List.take_succ_eq_append_getElem hi, List.mem_append] at hx
  rcases hx with hx | hx
  · exact h0 x hx
  · simp at hx
    subst hx
    exact h
theorem all_end {α : Type} {l : List α} {p : α → Bool} (h0 : ∀ x ∈ l.take l.length, p x = true) : l.all p = true := by
  rw [List.take_length] at h0
  exact List.all_eq_true.2 h0
theorem find_hit {α : Type} {l : List α} {p : α → Bool} {i : Nat} (hi : i < l.length) (h0 : ∀ x ∈ l.take i, p x = false) (h : p l[i] = true) : l.findIdx? p = some i := by
  rw [List.findIdx?_eq_some_iff_getElem]
  refine ⟨hi, h, fun j hj => ?_⟩
  have := h0 l[j] (by rw [List.mem_take_iff_getElem]; exact ⟨j, by omega, rfl⟩)
  simp [this]
/-- The first i have p. -/
structure Pre {α : Type} (p : α → Bool) (b : Bool) (l : List α) (i : Nat) : Prop where
  out : ∀ x ∈ l.take i, p x = b
theorem Pre.zero {α : Type} {p : α → Bool} {b : Bool} {l : List α} : Pre p b l 0 := ⟨fun x hx => by simp at hx⟩
theorem Pre.next {α : Type} {p : α → Bool} {b : Bool} {l : List α} {i : Nat} (hp : Pre p b l i) (hi : i < l.length) (h : p l[i] = b) : Pre p b l (i + 1) := ⟨take_next hi hp.out h⟩
theorem Pre.all {α : Type} {p : α → Bool} {l : List α} (hp : Pre p true l l.length) : l.all p = true := all_end hp.out
/-- All numbers up to i have p. -/
structure Upto (p : Nat → Bool) (i : Nat) : Prop where
  out : ∀ j, j < i → p j = true
theorem Upto.zero {p : Nat → Bool} : Upto p 0 := ⟨fun j hj => by omega⟩
theorem Upto.next {p : Nat → Bool} {i : Nat} (hp : Upto p i) (h : p i = true) : Upto p (i + 1) := ⟨fun j hj => by
  by_cases hji : j = i
  · rw [hji]; exact h
  · exact hp.out j (by omega)⟩
theorem Upto.all {p : Nat → Bool} {n : Nat} (hp : Upto p n) : (List.range n).all p = true := List.all_eq_true.2 fun i hi => hp.out i (List.mem_range.1 hi)
theorem idx_at {s : ByteArray} {i : Nat} (hi : i < s.size) {kd : IntKind} : idxStrO (.one (.str s)) (.one (.int kd i)) = some (.one (.int .u8 ((s.data[i]'hi).toNat : Int))) := by
  simp only [idxStrO]
  rw [if_pos (by omega)]
  simp [hi]
  rfl
end Go.Proofs.YtoeceafibmafpaaDoor.Am
/-! What a run is told of its arguments, as facts on slices. -/
namespace Go.Proofs.YtoeceafibmafpaaDoor.Am
open Go
section
variable {P : Program} {h : H} {m : Nat} {t : TypeId} {cs : List CV}
theorem okF_cons {ok : TypeId → List CV → Prop} {f : Field} {r : List Field} (hk : okFields P ok (f :: r) cs) : ∃ a b, cs = a ++ b ∧ ok f.type a ∧ okFields P ok r b :=
  ⟨_, _, (List.take_append_drop _ _).symm, hk.2.1, hk.2.2⟩
theorem okF_nil {ok : TypeId → List CV → Prop} (hk : okFields P ok [] cs) : cs = [] := hk
theorem okA_int {k : IntKind} (hu : P.underlying t = some (.int k)) (hk : okA P h (m + 1) t cs) : ∃ n, cs = [.int k n] ∧ (Lit.int k n).wf = true := by
  unfold okA at hk
  rw [hu] at hk
  exact hk
theorem okA_bool (hu : P.underlying t = some .bool) (hk : okA P h (m + 1) t cs) : ∃ b, cs = [.bool b] := by
  unfold okA at hk
  rw [hu] at hk
  exact hk
theorem okA_str (hu : P.underlying t = some .string) (hk : okA P h (m + 1) t cs) : ∃ s, cs = [.str s] ∧ s.size ≤ maxLen := by
  unfold okA at hk
  rw [hu] at hk
  exact hk
theorem okA_struct {fs : Array Field} (hu : P.underlying t = some (.struct fs)) (hk : okA P h (m + 1) t cs) : okFields P (okA P h m) fs.toList cs := by
  unfold okA at hk
  rw [hu] at hk
  exact hk
theorem okItems_all {α : Type} {ok : List CV → Prop} {enc : α → List CV} {W : α → Prop} {k : Nat} (he : ∀ x, (enc x).length = k) (hi : ∀ cs, ok cs → ∃ x, cs = enc x ∧ W x) : ∀ {n : Nat} {cs : List CV}, okItems ok k n cs → ∃ l : List α, cs = l.flatMap enc ∧ l.length = n ∧ ∀ x ∈ l, W x
  | 0, _, h => ⟨[], h, rfl, fun x hx => by simp at hx⟩
  | n + 1, cs, ⟨h0, h1, h2⟩ => by
    obtain ⟨x, e1, w1⟩ := hi _ h1
    obtain ⟨l, e2, e3, w2⟩ := okItems_all he hi h2
    refine ⟨x :: l, ?_, by simp [e3], fun y hy => ?_⟩
    · rw [List.flatMap_cons, ← e1, ← e2, List.take_append_drop]
    · rcases List.mem_cons.1 hy with rfl | hy
      · exact w1
      · exact w2 y hy
theorem okA_list {α : Type} {enc : α → List CV} {W : α → Prop} {k : Nat} {e : TypeId} (he : ∀ x, (enc x).length = k) (hu : P.underlying t = some (.slice e)) (hc : P.cellsOf e = k) (hi : ∀ cs, okA P h m e cs → ∃ x, cs = enc x ∧ W x) (hk : okA P h (m + 1) t cs) :
    ∃ v l, cs = [v] ∧ Sl enc k e h (.one v) l ∧ l.length ≤ maxLen ∧ ∀ x ∈ l, W x := by
  unfold okA at hk
  rw [hu] at hk
  rcases hk with rfl | ⟨a, n, all, rfl, h1, h2, h3, h4⟩
  · exact ⟨_, [], rfl, Sl.nil he, by simp, fun x hx => by simp at hx⟩
  · rw [hc] at h3 h4
    obtain ⟨l, rfl, rfl, w⟩ := okItems_all he hi h4
    refine ⟨_, l, rfl, ⟨⟨_, _, rfl, trivial⟩, h3, he, fun b n c hb => ?_⟩, h1, w⟩
    simp at hb
    obtain ⟨rfl, _⟩ := hb
    exact h2
theorem okV_agg {v : AV} (ha : isAggT P t = some true) (hk : okV P h m t v) : ∃ cs, v = .agg cs ∧ okA P h m t cs := by
  cases v with
  | one c => have := hk.1; rw [ha] at this; simp at this
  | agg cs => exact ⟨cs, rfl, hk.2⟩
  | tup l => exact hk.elim
theorem okV_one {v : AV} (ha : isAggT P t = some false) (hk : okV P h m t v) : ∃ c, v = .one c ∧ okA P h m t [c] := by
  cases v with
  | agg c => have := hk.1; rw [ha] at this; simp at this
  | one cs => exact ⟨cs, rfl, hk.2⟩
  | tup l => exact hk.elim
theorem law_of {x : Option (AV × H)} (hx : callK x fun r _ => r = ib true) : ∃ h', x = some (.one (.bool true), h') := by
  obtain ⟨r, h', e, rfl⟩ := hx
  exact ⟨h', e⟩
theorem okVs_cons {ts : List TypeId} {vs : List AV} (hk : okVs P h m (t :: ts) vs) : ∃ v r, vs = v :: r ∧ okV P h m t v ∧ okVs P h m ts r := by
  cases vs with
  | nil => exact hk.elim
  | cons v r => exact ⟨v, r, rfl, hk.1, hk.2⟩
theorem okVs_nil {vs : List AV} (hk : okVs P h m [] vs) : vs = [] := by
  cases vs with
  | nil => rfl
  | cons v r => exact hk.elim
end
end Go.Proofs.YtoeceafibmafpaaDoor.Am
