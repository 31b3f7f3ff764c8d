/- The abstract machine: the compiler from the loaded program's code to the machine's code; definitions alone. -/
import Derived.Test.YtnphlonhogcedaaAmDefs
namespace Go.Proofs.Ytnphlonhogcedaa.Am
open Go

def cvOf : Value → Option CV
  | .bool b => some (.bool b)
  | .int k n => some (.int k n)
  | .string s => some (.str s)
  | .slice none 0 0 => some (.sl none 0 (some 0))
  | .pointer none => some (.ptr none)
  | .nilFunc => some .nilf
  | _ => none

def cvsOf : List Value → Option (List CV)
  | [] => some []
  | v :: r => match cvOf v, cvsOf r with
    | some c, some l => some (c :: l)
    | _, _ => none

def opnd : Operand → Option AX
  | .tmp t => some (.t t)
  | .const v => (cvOf v).map .c
  | .func f => some (.c (.fn f []))
  | .global _ => none

def opnds : List Operand → Option (List AX)
  | [] => some []
  | x :: r => match opnd x, opnds r with
    | some a, some l => some (a :: l)
    | _, _ => none

def oopnd : Option Operand → Option (Option AX)
  | none => some none
  | some x => (opnd x).map some

def sizeT (P : Program) (t : TypeId) : Option Nat := (P.info? t).map (·.size)
def bytesT (P : Program) (t : TypeId) : Option Nat := (P.info? t).map (·.bytes)
def isAggT (P : Program) (t : TypeId) : Option Bool :=
  match P.underlying t with
  | some (.struct _) | some (.array _ _) => some true
  | some _ => some false
  | none => none

/-- A type's zero value, its cells. -/
def zeroT (P : Program) (t : TypeId) : Option (List CV) :=
  match P.info? t with
  | some i => match i.zero with
    | some z => match cvsOf z.cells.toList with
      | some l => if l.length = i.size then some l else none
      | none => none
    | none => none
  | none => none

def placesT (P : Program) (fs : Array Field) : Option (List (Nat × Nat)) := fs.toList.mapM (fun f => (P.info? f.type).map fun i => (f.offset, i.size))
def partsS (places : List (Nat × Nat)) : List (Nat × Operand) → Option (List (Nat × Nat × AX))
  | [] => some []
  | (i, x) :: r => match places[i]?, opnd x, partsS places r with
    | some p, some a, some l => some ((p.1, p.2, a) :: l)
    | _, _, _ => none

def partsR (size : Nat) : List (Nat × Operand) → Option (List (Nat × Nat × AX))
  | [] => some []
  | (i, x) :: r => match opnd x, partsR size r with
    | some a, some l => some ((i * size, size, a) :: l)
    | _, _ => none

/-- The kinds of the fields of a struct of bools, whole numbers and strings, from place k on. -/
def kindsF (P : Program) : Nat → List Field → Option (List Nat)
  | _, [] => some []
  | k, f :: r =>
    if (f.name == "_") = false ∧ f.offset = k then
      match P.underlying f.type with
      | some .bool => (kindsF P (k + 1) r).map (0 :: ·)
      | some (.int _) => (kindsF P (k + 1) r).map (1 :: ·)
      | some .string => (kindsF P (k + 1) r).map (2 :: ·)
      | _ => none
    else none

def compBin (P : Program) (op : BinOp) (t : TypeId) (x y : AX) : Option AOp :=
  match P.underlying t with
  | some .bool => match op with | .eql => some (.eqb false x y) | .neq => some (.eqb true x y) | _ => none
  | some (.int _) | some .string => some (.bin op x y)
  | some (.slice _) => match op with | .eql => some (.eqnil false x y) | .neq => some (.eqnil true x y) | _ => none
  | some (.struct fs) =>
    match kindsF P 0 fs.toList with
    | some ks => if P.eqGuardType P.depth t = false ∧ P.stoodInHeld t = false then
        match op with | .eql => some (.eqst false ks x y) | .neq => some (.eqst true ks x y) | _ => none
      else none
    | none => none
  | _ => none

def isI64 (P : Program) (t : TypeId) : Bool :=
  match P.underlying t with
  | some (.int k) => decide (k = .i64)
  | _ => false
/-- Zeros are appended. -/
def compAppz (P : Program) (e tx : TypeId) (s x : AX) : Option AOp :=
  if isI64 P tx = true then
    match sizeT P e, bytesT P e, zeroT P e with
    | some k, some b, some z => if 0 < k ∧ z.length = k ∧ 0 < b ∧ k = P.cellsOf e then some (.appz e k b z s x) else none
    | _, _, _ => none
  else none
theorem compAppz_spec {P : Program} {e tx : TypeId} {s x : AX} {o : AOp} (h : compAppz P e tx s x = some o) : isI64 P tx = true ∧ ∃ k b z, sizeT P e = some k ∧ bytesT P e = some b ∧ zeroT P e = some z ∧ (0 < k ∧ z.length = k ∧ 0 < b ∧ k = P.cellsOf e) ∧ o = .appz e k b z s x := by
  unfold compAppz at h
  split at h
  · rename_i h1
    split at h
    · rename_i k b z h2 h3 h4
      split at h
      · rename_i h5
        simp at h
        exact ⟨h1, k, b, z, h2, h3, h4, h5, h.symm⟩
      · simp at h
    · simp at h
  · simp at h

def compCall (P : Program) (c : Call) : Option AOp :=
  match c.callee with
  | .value (.func f) => (opnds c.args.toList).map (.call f)
  | .value x => match opnd x, opnds c.args.toList with
    | some a, some l => some (.callv a l)
    | _, _ => none
  | .invoke .. => none
  | .builtin b =>
    match b, c.args.toList with
    | .append, [s, x] =>
      match c.argTypes[0]?, c.argTypes[1]?, opnd s, opnd x with
      | some ts, some tx, some s, some x =>
        match P.underlying ts with
        | some (.slice e) => if tx = ts then
            match sizeT P e, bytesT P e, zeroT P e with
            | some k, some b, some z => if 0 < k ∧ z.length = k ∧ 0 < b ∧ k = P.cellsOf e then some (.append e k b s x) else none
            | _, _, _ => none
          else compAppz P e tx s x
        | _ => none
      | _, _, _, _ => none
    | .len, [x] => match c.argTypes[0]?, opnd x with
      | some t, some x => match P.underlying t with
        | some .string => some (.lenStr x)
        | some (.slice _) => some (.len x)
        | _ => none
      | _, _ => none
    | .cap, [x] => match c.argTypes[0]?, opnd x with
      | some t, some x => match P.underlying t with
        | some (.slice _) => some (.cap x)
        | _ => none
      | _, _ => none
    | .min, [x, y] => match opnd x, opnd y with
      | some x, some y => some (.min x y)
      | _, _ => none
    | _, _ => none

def compOp (P : Program) (o : Op) : Option AOp :=
  match o with
  | .move x | .assign x => (opnd x).map .mov
  | .pick c a b => match opnd c, opnd a, opnd b with
    | some c, some a, some b => some (.pick c a b)
    | _, _, _ => none
  | .alloc e => (zeroT P e).map (.alloc e)
  | .box e x => (opnd x).map (.box e)
  | .build t ps => match P.underlying t, zeroT P t with
    | some (.struct fs), some z => match placesT P fs with
      | some pl => (partsS pl ps.toList).map (.build z)
      | none => none
    | _, _ => none
  | .buildSlice t len ps => match P.underlying t with
    | some (.slice e) => match sizeT P e, zeroT P e with
      | some k, some z => if 0 < k ∧ len * k ≤ 16777216 ∧ z.length = k ∧ k = P.cellsOf e then (partsR k ps.toList).map (.buildSlice e len z) else none
      | _, _ => none
    | _ => none
  | .load t x => match opnd x, isAggT P t, sizeT P t with
    | some x, some true, some k => some (.load k true x)
    | some x, some false, some _ => some (.load 1 false x)
    | _, _, _ => none
  | .store t x v => match opnd x, opnd v, sizeT P t with
    | some x, some v, some k => some (.store k x v)
    | _, _, _ => none
  | .nilCheck x => (opnd x).map .nilCheck
  | .binOp op t x y _ => match opnd x, opnd y with
    | some x, some y => compBin P op t x y
    | _, _ => none
  | .unOp .not _ x => (opnd x).map .not
  | .convert s d x => match P.underlying s, P.underlying d, opnd x with
    | some (.int _), some (.int k), some x => some (.conv k x)
    | some (.slice e), some .string, some x => match P.underlying e with
      | some (.int .u8) => some (.bytesStr x)
      | _ => none
    | _, _, _ => none
  | .makeFunc (.func f) first caps => if first.size = 0 then (opnds caps.toList).map (.mkfn f) else none
  | .makeSlice t l c => match P.underlying t with
    | some (.slice e) => match sizeT P e, bytesT P e, zeroT P e, opnd l, opnd c with
      | some k, some b, some z, some l, some c => if 0 < k ∧ z.length = k ∧ k = P.cellsOf e then some (.mkslice e b z l c) else none
      | _, _, _, _, _ => none
    | _ => none
  | .slice t x lo hi mx => match P.underlying t, opnd x, oopnd lo, oopnd hi, oopnd mx with
    | some (.slice e), some x, some lo, some hi, some mx => match sizeT P e with
      | some k => if k = P.cellsOf e then some (.slice e k x lo hi mx) else none
      | none => none
    | some .string, some x, some lo, some hi, some none => some (.sliceStr x lo hi)
    | _, _, _, _, _ => none
  | .fieldAddr s x f => match P.underlying s, opnd x with
    | some (.struct fs), some x => match fs[f]? with
      | some fd => match sizeT P fd.type with
        | some k => if k = 0 then none else some (.faddr fd.offset x)
        | none => none
      | none => none
    | _, _ => none
  | .field t x f => match P.underlying t, opnd x with
    | some (.struct fs), some x => match fs[f]? with
      | some fd => match isAggT P fd.type, sizeT P fd.type with
        | some true, some k => some (.field fd.offset k true x)
        | some false, some _ => some (.field fd.offset 1 false x)
        | _, _ => none
      | none => none
    | _, _ => none
  | .indexAddr t x i => match P.underlying t, opnd x, opnd i with
    | some (.slice e), some x, some i => (sizeT P e).map fun k => .iaddr k x i
    | _, _, _ => none
  | .index t x i => match P.underlying t, opnd x, opnd i with
    | some .string, some x, some i => some (.idxStr x i)
    | _, _, _ => none
  | .extract x i => (opnd x).map fun x => .extract x i
  | .call c => compCall P c
  | _ => none

def guardOf (ops : Array Oper) : Option (Nat × Bool) → Option (Option (Nat × Bool))
  | none => some none
  | some (g, b) => match (ops[g]?).bind (·.dst) with
    | some t => some (some (t, b))
    | none => none

def dstOk (nt : Nat) : Option Nat → Bool
  | some d => decide (d < nt)
  | none => true

def compStep (P : Program) (nt : Nat) (ops : Array Oper) (o : Oper) : Option AStep :=
  match compOp P o.op, guardOf ops o.guard with
  | some op, some g => if dstOk nt o.dst = true then some ⟨op, o.dst, g, []⟩ else none
  | _, _ => none

def compSteps (P : Program) (nt : Nat) (ops : Array Oper) : List Oper → Option (List AStep)
  | [] => some []
  | o :: r => match compStep P nt ops o, compSteps P nt ops r with
    | some s, some l => some (s :: l)
    | _, _ => none

/-! ### a region that draws its order: one order of it, and what makes all others come to the same -/
def effA : AOp → Bool
  | .call .. | .callv .. | .append .. | .appz .. | .store .. => true
  | _ => false
/-- What reads the heap. -/
def isLoad : AOp → Bool
  | .load .. | .slice .. | .bytesStr .. => true
  | _ => false

/-- What an operation is kept beside others for: an effect, or a slot that others write, or read too soon. -/
def effI (l : List AStep) (masks : Array Nat) (i : Nat) : Bool :=
  match l[i]? with
  | some s => effA s.op || match s.dst with
    | some d => (List.range l.length).any fun j => match l[j]? with
      | some p => (j != i && p.dst == some d) || (p.looks.contains d && !(masks.getD j 0).testBit i)
      | none => false
    | none => false
  | none => false

/-- Edges lead backwards; the masks hold no more than what an operation waits for; a slot that is read is written ahead of it or, by an operation kept beside others, behind it. -/
def orderOk (ops : Array Oper) (l : List AStep) (masks : Array Nat) : Bool :=
  (List.range ops.size).all fun i => match ops[i]?, l[i]? with
    | some o, some s =>
      (o.after.toList.all fun e => !Region.binds .any e || decide (e.on < i)) &&
      ((List.range ops.size).all fun j => !(masks.getD i 0).testBit j || o.after.toList.any fun e => Region.binds .any e && (e.on == j || (masks.getD e.on 0).testBit j)) &&
      ((List.range ops.size).all fun j => j == i || match l[j]? with
        | some p => match p.dst with
          | some d => !s.looks.contains d || (masks.getD i 0).testBit j || (effI l masks j && (masks.getD j 0).testBit i)
          | none => true
        | none => true)
    | _, _ => true

def againOf (l : List AStep) (masks : Array Nat) (done : Array Bool) (k : Nat) : List (AOp × Option Nat × Option (Nat × Bool)) :=
  l.zipIdx.filterMap fun s => if done.getD s.2 false && isLoad s.1.op && !(masks.getD k 0).testBit s.2 then some (s.1.op, s.1.dst, s.1.guard) else none

def planGo (ops : Array Oper) (l : List AStep) (masks : Array Nat) (eff : List Bool) : Nat → Array Bool → Option (List AStep)
  | 0, done => if Region.ready .any ops done = [] then some [] else none
  | fuel + 1, done =>
    match (Region.ready .any ops done).find? (fun i => !eff.getD i true) with
    | some i => match l[i]?, planGo ops l masks eff fuel (done.setIfInBounds i true) with
      | some s, some r => some (s :: r)
      | _, _ => none
    | none => match Region.ready .any ops done with
      | [] => some []
      | [k] => match l[k]?, planGo ops l masks eff fuel (done.setIfInBounds k true) with
        | some s, some r => some ({ s with again := againOf l masks done k } :: r)
        | _, _ => none
      | _ => none

def plan (ops : Array Oper) (l : List AStep) : Option (List AStep) :=
  if orderOk ops l (Region.before ops) = true then
    planGo ops l (Region.before ops) ((List.range l.length).map (effI l (Region.before ops))) ops.size (Array.replicate ops.size false)
  else none

/-- Code that is never gone. -/
def badC : ACode := .cond (.c .nilf) .skip .skip

def compCode (P : Program) (nt : Nat) : Code → Option ACode
  | .skip => some .skip
  | .region _ ops draw =>
    match compSteps P nt ops ops.toList with
    | some l => if draw then (match plan ops l with | some l' => some (.reg l') | none => some badC) else some (.reg l)
    | none => some badC
  | .seq a b => match compCode P nt a, compCode P nt b with
    | some a, some b => some (.seq a b)
    | _, _ => none
  | .cond c a b => match opnd c, compCode P nt a, compCode P nt b with
    | some c, some a, some b => some (.cond c a b)
    | _, _, _ => none
  | .block id a => (compCode P nt a).map (.block id)
  | .loop a => (compCode P nt a).map .loop
  | .exit id => some (.exit id)
  | .ret => some .ret
  | _ => some badC

def compRes (P : Program) : List ResultVar → Option (List ARes)
  | [] => some []
  | .tmp t :: r => (compRes P r).map (.tmp t :: ·)
  | .cell a t :: r => match isAggT P t, sizeT P t, compRes P r with
    | some true, some k, some l => some (.cell a k true :: l)
    | some false, some _, some l => some (.cell a 1 false :: l)
    | _, _, _ => none

def compFunc (P : Program) (f : Nat) : Option AFunc :=
  match P.funcs[f]? with
  | some fn =>
    if fn.name == "runtime.NumGoroutine" then none else
    match fn.body with
    | some c => match compCode P fn.ntmps c, compRes P fn.results.toList with
      | some b, some r => some ⟨fn.ntmps, r, b⟩
      | _, _ => none
    | none => none
  | none => none

/-- Calls nested at most k deep. -/
def callA (lp : Rounds) (P : Program) : Nat → Oracle
  | 0, _, _, _ => none
  | k + 1, f, args, h => match compFunc P f with
    | some F => bodyA lp (callA lp P k) F args h
    | none => none

end Go.Proofs.Ytnphlonhogcedaa.Am
