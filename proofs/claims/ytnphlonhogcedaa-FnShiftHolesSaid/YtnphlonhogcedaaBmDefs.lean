/- The second machine: as the abstract one, but what a function lays for itself alone lies in a store of its own, and a call that gives back nothing that points leaves the heap as it was. Definitions. -/
import Derived.Test.YtnphlonhogcedaaAmLaw
namespace Go.Proofs.Ytnphlonhogcedaa.Am
open Go

/-- What a slot of the second machine holds: a value, or the place of something of the function's own. -/
inductive BV where
  | v (a : AV)
  | lp (t off : Nat)

def BV.av : BV → AV
  | .v a => a
  | .lp _ _ => undefA
abbrev Tb := Nat → BV
abbrev Lb := Nat → Nat × List CV
def Tb.av (T : Tb) : Tm := fun t => (T t).av
def BV.kill (d : Nat) : BV → BV
  | .lp t o => if t = d then .v undefA else .lp t o
  | .v a => .v a
def Tb.kill (T : Tb) (d : Nat) : Tb := fun t => (T t).kill d
def BV.pro (d b : Nat) : BV → BV
  | .lp t o => if t = d then .v (.one (.ptr (some (b, o)))) else .lp t o
  | .v a => .v a
def Tb.pro (T : Tb) (d b : Nat) : Tb := fun t => (T t).pro d b
def Tb.put (T : Tb) (d : Option Nat) (x : BV) : Tb :=
  match d with
  | some d => fun t => if t = d then x else T t
  | none => T
def Lb.put (L : Lb) (d : Nat) (c : Nat × List CV) : Lb := fun t => if t = d then c else L t
def AX.bv (T : Tb) : AX → BV
  | .t n => T n
  | .c u => .v (.one u)

/-- What points outside of the function's own comes to lie on the heap. -/
def proA : List AX → Tb → Lb → H → Tb × H
  | [], T, _, h => (T, h)
  | x :: r, T, L, h =>
    match x.bv T with
    | .lp t _ => proA r (T.pro t h.n) L (h.alloc (L t).2 (L t).1)
    | .v _ => proA r T L h

def loadL (cs : List CV) (off k : Nat) (g : Bool) : Option AV :=
  if off + k ≤ cs.length then
    if g then some (.agg ((cs.drop off).take k)) else match (cs.drop off).take k with | [c] => some (.one c) | _ => none
  else none
def storeL (cs : List CV) (off k : Nat) (vs : List CV) : Option (List CV) :=
  if vs.length = k ∧ off + k ≤ cs.length then some (cs.take off ++ (vs ++ cs.drop (off + k))) else none

def pureB (o : AOp) (T : Tb) (L : Lb) (h : H) : Option BV :=
  match o with
  | .mov x => some (x.bv T)
  | .load k g x => match x.bv T with
    | .lp t off => (loadL (L t).2 off k g).map .v
    | .v _ => (pureA (.load k g x) T.av h).map .v
  | .nilCheck x => match x.bv T with
    | .lp t off => some (.lp t off)
    | .v _ => (pureA (.nilCheck x) T.av h).map .v
  | .faddr off x => match x.bv T with
    | .lp t o => some (.lp t (o + off))
    | .v _ => (pureA (.faddr off x) T.av h).map .v
  | o => (pureA o T.av h).map .v

def genB (call : Oracle) (o : AOp) (d : Option Nat) (T : Tb) (L : Lb) (h : H) : Option (Tb × Lb × H) :=
  (opA call o T.av h).map fun r => (T.put d (.v r.1), L, r.2)

def opB (call : Oracle) (o : AOp) (d : Option Nat) (T : Tb) (L : Lb) (h : H) : Option (Tb × Lb × H) :=
  match o with
  | .alloc ty z => match d with
    | some t => some ((T.kill t).put (some t) (.lp t 0), L.put t (ty, z), h)
    | none => none
  | .box ty x => match d, x.bv T with
    | some t, .v a => a.cells.map fun cs => ((T.kill t).put (some t) (.lp t 0), L.put t (ty, cs), h)
    | _, _ => none
  | .store k x v => match x.bv T with
    | .lp t off => match (v.bv T).av.cells with
      | some vs => (storeL (L t).2 off k vs).map fun cs => (T.put d (.v undefA), L.put t ((L t).1, cs), h)
      | none => none
    | .v _ => genB call (.store k x v) d T L h
  | .mov x => (pureB (.mov x) T L h).map fun v => (T.put d v, L, h)
  | .load k g x => (pureB (.load k g x) T L h).map fun v => (T.put d v, L, h)
  | .nilCheck x => (pureB (.nilCheck x) T L h).map fun v => (T.put d v, L, h)
  | .faddr off x => (pureB (.faddr off x) T L h).map fun v => (T.put d v, L, h)
  | .mkfn f l => genB call (.mkfn f l) d (proA l T L h).1 L (proA l T L h).2
  | .call f l => genB call (.call f l) d (proA l T L h).1 L (proA l T L h).2
  | .callv x l => genB call (.callv x l) d (proA l T L h).1 L (proA l T L h).2
  | o => genB call o d T L h

def BV.same : BV → BV → Bool
  | .v a, .v b => a.same b
  | _, _ => false

/-- Whether a step is gone; none where that is not told. -/
def wantB (g : Option (Nat × Bool)) (T : Tb) : Option Bool :=
  match g with
  | none => some true
  | some (t, b) => match T t with
    | .v (.one (.bool c)) => some (c == b)
    | .v (.tup []) => some false
    | _ => none

def againB (T : Tb) (L : Lb) (h : H) (r : AOp × Option Nat × Option (Nat × Bool)) : Bool :=
  match wantB r.2.2 T with
  | some true =>
    match pureB r.1 T L h, r.2.1 with
    | some v, some d => v.same (T d)
    | _, _ => false
  | some false => true
  | none => false

def stepB (call : Oracle) (s : AStep) (T : Tb) (L : Lb) (h : H) : Option (Tb × Lb × H) :=
  match wantB s.guard T with
  | some true =>
    match opB call s.op s.dst T L h with
    | some (T', L', h') => if s.again.all (againB T' L' h') then some (T', L', h') else none
    | none => none
  | some false => some (T.put s.dst (.v undefA), L, h)
  | none => none

def stepsB (call : Oracle) : List AStep → Tb → Lb → H → Option (Tb × Lb × H)
  | [], T, L, h => some (T, L, h)
  | s :: l, T, L, h =>
    match stepB call s T L h with
    | some (T', L', h') => stepsB call l T' L' h'
    | none => none

abbrev RunB := Tb → Lb → H → Option (Ex × Tb × Lb × H)
def loopNB (body : RunB) : Nat → RunB
  | 0, _, _, _ => none
  | n + 1, T, L, h =>
    match body T L h with
    | some (.normal, T', L', h') => loopNB body n T' L' h'
    | r => r

open Classical in
noncomputable def loopB : RunB → RunB := fun body T L h => if hx : ∃ x, ∃ n0, ∀ n, n0 ≤ n → loopNB body n T L h = some x then some hx.choose else none

noncomputable def codeB (call : Oracle) : ACode → RunB
  | .skip, T, L, h => some (.normal, T, L, h)
  | .reg l, T, L, h => (stepsB call l T L h).map fun r => (.normal, r.1, r.2.1, r.2.2)
  | .seq a b, T, L, h =>
    match codeB call a T L h with
    | some (.normal, T', L', h') => codeB call b T' L' h'
    | r => r
  | .cond c a b, T, L, h =>
    match c.ev T.av with
    | .one (.bool true) => codeB call a T L h
    | .one (.bool false) => codeB call b T L h
    | _ => none
  | .block id a, T, L, h =>
    match codeB call a T L h with
    | some (.exit id', T', L', h') => if id' = id then some (.normal, T', L', h') else some (.exit id', T', L', h')
    | r => r
  | .loop a, T, L, h => loopB (codeB call a) T L h
  | .exit id, T, L, h => some (.exit id, T, L, h)
  | .ret, T, L, h => some (.ret, T, L, h)

def tmpX : List ARes → List AX
  | [] => []
  | .tmp t :: r => .t t :: tmpX r
  | .cell .. :: r => tmpX r
def resB (T : Tb) (L : Lb) (h : H) : ARes → Option AV
  | .tmp t => some (T t).av
  | .cell t k g => (pureB (.load k g (.t t)) T L h).map BV.av
def resBs (T : Tb) (L : Lb) (h : H) : List ARes → Option (List AV)
  | [] => some []
  | r :: l => match resB T L h r, resBs T L h l with
    | some (.tup _), _ => none
    | some v, some vs => some (v :: vs)
    | _, _ => none
def resultsB (T : Tb) (L : Lb) (h : H) (l : List ARes) : Option AV :=
  match l with
  | [r] => resB T L h r
  | l => (resBs T L h l).map .tup

def CV.scalar : CV → Bool
  | .bool _ | .int _ _ | .str _ | .nilf | .ptr none => true
  | .sl none n c => n == 0 && c == some 0
  | _ => false
def AV.scalars : List AV → Bool
  | [] => true
  | .one c :: r => c.scalar && AV.scalars r
  | .agg cs :: r => cs.all CV.scalar && AV.scalars r
  | .tup _ :: _ => false
def AV.scalar : AV → Bool
  | .one c => c.scalar
  | .agg cs => cs.all CV.scalar
  | .tup l => AV.scalars l

open Classical in
/-- Where nothing comes back that points, what was laid is dropped. -/
noncomputable def gcA (h : H) (r : AV × H) : AV × H := if r.1.scalar = true ∧ Grow h r.2 then (r.1, h) else r

def startB (args : List AV) : Tb := fun t => .v (args.getD t undefA)

noncomputable def bodyB (call : Oracle) (F : AFunc) (args : List AV) (h : H) : Option (AV × H) :=
  match codeB call F.body (startB args) (fun _ => (0, [])) h with
  | some (.exit _, _, _, _) => none
  | some (_, T, L, h') => (resultsB (proA (tmpX F.results) T L h').1 L (proA (tmpX F.results) T L h').2 F.results).map fun v => gcA h (v, (proA (tmpX F.results) T L h').2)
  | none => none

/-! ### constants that point nowhere -/
def CV.cl : CV → Bool
  | .bool _ | .int _ _ | .str _ | .nilf | .ptr none | .sl none _ _ | .fn _ [] => true
  | _ => false
def AX.cl : AX → Bool
  | .t _ => true
  | .c u => u.cl
def oxcl : Option AX → Bool
  | some x => x.cl
  | none => true
def AOp.cl : AOp → Bool
  | .mov x | .box _ x | .load _ _ x | .nilCheck x | .not x | .conv _ x | .bytesStr x | .faddr _ x | .field _ _ _ x | .extract x _ | .len x | .lenStr x | .cap x => x.cl
  | .pick c a b => c.cl && (a.cl && b.cl)
  | .alloc _ z => z.all CV.cl
  | .build z ps => z.all CV.cl && ps.all fun p => p.2.2.cl
  | .buildSlice _ _ z ps => z.all CV.cl && ps.all fun p => p.2.2.cl
  | .mkslice _ _ z x y => z.all CV.cl && (x.cl && y.cl)
  | .store _ x y | .bin _ x y | .eqb _ x y | .eqst _ _ x y | .eqnil _ x y | .iaddr _ x y | .idxStr x y | .append _ _ _ x y | .min x y => x.cl && y.cl
  | .appz _ _ _ z x y => z.all CV.cl && (x.cl && y.cl)
  | .mkfn _ l | .call _ l => l.all AX.cl
  | .callv x l => x.cl && l.all AX.cl
  | .slice _ _ x lo hi mx => x.cl && (oxcl lo && (oxcl hi && oxcl mx))
  | .sliceStr x lo hi => x.cl && (oxcl lo && oxcl hi)
def AStep.cl (s : AStep) : Bool := s.op.cl && s.again.all fun r => r.1.cl
def ACode.cl : ACode → Bool
  | .skip | .exit _ | .ret => true
  | .reg l => l.all AStep.cl
  | .seq a b => a.cl && b.cl
  | .cond c a b => c.cl && (a.cl && b.cl)
  | .block _ a | .loop a => a.cl

def compB (P : Program) (f : Nat) : Option AFunc :=
  match compFunc P f with
  | some F => if F.body.cl then some F else none
  | none => none

/-- Calls nested at most k deep. -/
noncomputable def callB (P : Program) : Nat → Oracle
  | 0, _, _, _ => none
  | k + 1, f, args, h => match compB P f with
    | some F => bodyB (callB P k) F args h
    | none => none

open Classical in
noncomputable def bm (P : Program) : Oracle := fun f args h => if hx : ∃ x, ∃ k0, ∀ k, k0 ≤ k → callB P k f args h = some x then some hx.choose else none
end Go.Proofs.Ytnphlonhogcedaa.Am
