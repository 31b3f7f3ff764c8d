/- The abstract machine: a deterministic interpreter of compiled code over a heap of blocks; definitions alone (values, heap, operations, code, runs). -/
import Derived.Calls
import Derived.Orders
import Derived.Tactics
import Derived.KernelRfl
import Derived.Laws.BytesArg
import Derived.Laws.Cells
import Derived.Laws.CopyRow
import Derived.Laws.Append
import Derived.Lib.LaidTab
import Derived.Lib.ItoaNum
import Derived.Laws.StructEq
import Derived.Laws.Tables
import Derived.Laws.MakeOwn
import Derived.Great.BuildSlice
/-! The abstract machine: a deterministic interpreter of compiled code over a heap of blocks; definitions alone (values, heap, operations, code, runs). -/
namespace Go.Proofs.YtoeceafibmafpaaDoor.Am
open Go

/-- What one cell holds. A slice's capacity is known (some c) or not (none). -/
inductive CV where
  | bool (b : Bool)
  | int (k : IntKind) (n : Int)
  | str (s : ByteArray)
  | sl (a : Option (Nat × Nat)) (n : Nat) (c : Option Nat)
  | ptr (a : Option (Nat × Nat))
  | fn (f : Nat) (caps : List (Nat × Nat))
  | nilf
  deriving DecidableEq

/-- What a slot holds. -/
inductive AV where
  | one (c : CV)
  | agg (cs : List CV)
  | tup (l : List AV)

@[reducible] def undefA : AV := .tup []

def AV.cells : AV → Option (List CV)
  | .one c => some [c]
  | .agg cs => some cs
  | .tup _ => none

def AV.same : AV → AV → Bool
  | .one a, .one b => decide (a = b)
  | .agg a, .agg b => decide (a = b)
  | _, _ => false

inductive St where
  | ro | rw | dead
  deriving DecidableEq

structure Blk where
  cs : List CV
  ty : Nat
  st : St

structure H where
  n : Nat
  f : Nat → Blk

def H.alloc (h : H) (cs : List CV) (ty : Nat) : H := { n := h.n + 1, f := fun i => if i = h.n then ⟨cs, ty, .rw⟩ else h.f i }
def H.load (h : H) (a : Nat × Nat) (k : Nat) : Option (List CV) :=
  if (a.1 < h.n ∧ (h.f a.1).st ≠ .dead) ∧ a.2 + k ≤ (h.f a.1).cs.length then some (((h.f a.1).cs.drop a.2).take k) else none
def H.setBlk (h : H) (i : Nat) (b : Blk) : H := { h with f := fun j => if j = i then b else h.f j }
def H.store (h : H) (a : Nat × Nat) (vs : List CV) : Option H :=
  if (h.f a.1).st = .rw ∧ a.2 + vs.length ≤ (h.f a.1).cs.length then
    some (h.setBlk a.1 { h.f a.1 with cs := (h.f a.1).cs.take a.2 ++ (vs ++ (h.f a.1).cs.drop (a.2 + vs.length)) })
  else none
def H.kill (h : H) (i : Nat) : H := h.setBlk i { h.f i with st := .dead }

/-- An operand. -/
inductive AX where
  | t (n : Nat)
  | c (v : CV)
  deriving DecidableEq

inductive AOp where
  | mov (x : AX)
  | pick (c a b : AX)
  | alloc (ty : Nat) (z : List CV)
  | box (ty : Nat) (x : AX)
  | build (z : List CV) (parts : List (Nat × Nat × AX))
  | buildSlice (ty len : Nat) (z : List CV) (parts : List (Nat × Nat × AX))
  | load (k : Nat) (agg : Bool) (x : AX)
  | store (k : Nat) (x v : AX)
  | nilCheck (x : AX)
  | bin (op : BinOp) (x y : AX)
  | eqb (neg : Bool) (x y : AX)
  | eqst (neg : Bool) (ks : List Nat) (x y : AX)
  | eqnil (neg : Bool) (x y : AX)
  | not (x : AX)
  | conv (k : IntKind) (x : AX)
  | bytesStr (x : AX)
  | mkfn (f : Nat) (caps : List AX)
  | mkslice (ty bytes : Nat) (z : List CV) (l c : AX)
  | slice (ty size : Nat) (x : AX) (lo hi mx : Option AX)
  | sliceStr (x : AX) (lo hi : Option AX)
  | faddr (off : Nat) (x : AX)
  | iaddr (size : Nat) (x i : AX)
  | idxStr (x i : AX)
  | field (off k : Nat) (agg : Bool) (x : AX)
  | extract (x : AX) (i : Nat)
  | call (f : Nat) (args : List AX)
  | callv (x : AX) (args : List AX)
  | append (ty size bytes : Nat) (s x : AX)
  | appz (ty size bytes : Nat) (z : List CV) (s x : AX)
  | clr (z : List CV) (x : AX)
  | len (x : AX)
  | lenStr (x : AX)
  | cap (x : AX)
  | min (x y : AX)

def AX.slots : AX → List Nat
  | .t n => [n]
  | .c _ => []
def oslots : Option AX → List Nat
  | some x => x.slots
  | none => []
/-- The slots that an operation reads. -/
def AOp.slots : AOp → List Nat
  | .mov x | .box _ x | .load _ _ x | .nilCheck x | .not x | .conv _ x | .bytesStr x | .faddr _ x | .field _ _ _ x | .extract x _ | .len x | .lenStr x | .cap x | .clr _ x => x.slots
  | .pick c a b => c.slots ++ (a.slots ++ b.slots)
  | .alloc .. => []
  | .build _ ps | .buildSlice _ _ _ ps => ps.flatMap fun p => p.2.2.slots
  | .store _ x y | .bin _ x y | .eqb _ x y | .eqst _ _ x y | .eqnil _ x y | .mkslice _ _ _ x y | .iaddr _ x y | .idxStr x y | .append _ _ _ x y | .appz _ _ _ _ x y | .min x y => x.slots ++ y.slots
  | .mkfn _ l | .call _ l => l.flatMap AX.slots
  | .callv x l => x.slots ++ l.flatMap AX.slots
  | .slice _ _ x lo hi mx => x.slots ++ (oslots lo ++ (oslots hi ++ oslots mx))
  | .sliceStr x lo hi => x.slots ++ (oslots lo ++ oslots hi)

structure AStep where
  op : AOp
  dst : Option Nat
  guard : Option (Nat × Bool)
  again : List (AOp × Option Nat × Option (Nat × Bool))

def AStep.looks (s : AStep) : List Nat := s.op.slots ++ (match s.guard with | some (t, _) => [t] | none => [])

inductive ACode where
  | skip
  | reg (l : List AStep)
  | seq (a b : ACode)
  | cond (c : AX) (a b : ACode)
  | block (id : Nat) (a : ACode)
  | loop (a : ACode)
  | exit (id : Nat)
  | ret

inductive ARes where
  | tmp (t : Nat)
  | cell (t k : Nat) (agg : Bool)

structure AFunc where
  ntmps : Nat
  results : List ARes
  body : ACode

abbrev Tm := Nat → AV
def Tm.put (T : Tm) (d : Option Nat) (v : AV) : Tm :=
  match d with
  | some d => fun t => if t = d then v else T t
  | none => T

def AX.ev (T : Tm) : AX → AV
  | .t n => T n
  | .c v => .one v

/-- Another function is called: its number, its arguments, the heap. -/
abbrev Oracle := Nat → List AV → H → Option (AV × H)

/-! ### operations -/
def ib (b : Bool) : AV := .one (.bool b)
def ii (n : Int) : AV := .one (.int .i64 n)

def fillA : List CV → List (Nat × Nat × AV) → Option (List CV)
  | cells, [] => some cells
  | cells, (off, size, v) :: r =>
    match v.cells with
    | none => none
    | some cs => if cs.length = size ∧ off + size ≤ cells.length then fillA (cells.take off ++ (cs ++ cells.drop (off + size))) r else none

def binA (op : BinOp) : AV → AV → Option AV
  | .one (.int k a), .one (.int k' b) =>
    if k = k' then
      match op with
      | .add => some (.one (.int k (k.wrap (a + b))))
      | .sub => some (.one (.int k (k.wrap (a - b))))
      | .mul => some (.one (.int k (k.wrap (a * b))))
      | .quo => if b = 0 then none else some (.one (.int k (k.wrap (a.tdiv b))))
      | .rem => if b = 0 then none else some (.one (.int k (a.tmod b)))
      | .xor => some (.one (.int k (k.wrap (BitVec.ofInt k.bits a ^^^ BitVec.ofInt k.bits b).toNat)))
      | .eql => some (ib (a == b))
      | .neq => some (ib (a != b))
      | .lss => some (ib (decide (a < b)))
      | .leq => some (ib (decide (a ≤ b)))
      | .gtr => some (ib (decide (a > b)))
      | .geq => some (ib (decide (a ≥ b)))
      | _ => none
    else none
  | .one (.str a), .one (.str b) =>
    match op with
    | .add => if ((a.size + b.size : Nat) : Int) > 9223372036854775807 then none else some (.one (.str (a ++ b)))
    | .eql => some (ib (a.toList == b.toList))
    | .neq => some (ib (!(a.toList == b.toList)))
    | .lss => some (ib (Op.bytesLess a.toList b.toList))
    | .leq => some (ib (Op.bytesLess a.toList b.toList || a.toList == b.toList))
    | .gtr => some (ib (!(Op.bytesLess a.toList b.toList || a.toList == b.toList)))
    | .geq => some (ib (!(Op.bytesLess a.toList b.toList)))
    | _ => none
  | _, _ => none

/-- Two structs of bools (0), whole numbers (1) and strings (2). -/
def eqK : List Nat → List CV → List CV → Option Bool
  | [], [], [] => some true
  | 0 :: ks, .bool a :: r, .bool b :: s => (eqK ks r s).map ((a == b) && ·)
  | 1 :: ks, .int k a :: r, .int k' b :: s => if k = k' then (eqK ks r s).map ((a == b) && ·) else none
  | 2 :: ks, .str a :: r, .str b :: s => (eqK ks r s).map ((a.toList == b.toList) && ·)
  | _, _, _ => none

/-- A bound of a slice expression against the length n and the capacity c. -/
def boundA (T : Tm) (x : AX) (y : Nat) : Option Nat :=
  match x.ev T with
  | .one (.int _ i) => if 0 ≤ i ∧ i ≤ y then some i.toNat else none
  | _ => none

def maxA (T : Tm) (n : Nat) (c : Option Nat) (mx : Option AX) : Option (Option Nat) :=
  match mx with
  | some x => (boundA T x (c.getD n)).map some
  | none => some c
def highA (T : Tm) (n : Nat) (m : Option Nat) (hi mx : Option AX) : Option Nat :=
  match hi with
  | some x => boundA T x (m.getD n)
  | none => match mx with | none => some n | some _ => none
def lowA (T : Tm) (h : Nat) (lo : Option AX) : Option Nat :=
  match lo with
  | some x => boundA T x h
  | none => some 0
/-- The three bounds (low, high, the capacity if it is known) of a cut. -/
def boundsA (T : Tm) (n : Nat) (c : Option Nat) (lo hi mx : Option AX) : Option (Nat × Nat × Option Nat) :=
  match maxA T n c mx with
  | none => none
  | some m => match highA T n m hi mx with
    | none => none
    | some h => match lowA T h lo with
      | none => none
      | some l => some (l, h, m)

def repl (z : List CV) : Nat → List CV
  | 0 => []
  | n + 1 => z ++ repl z n

def ptrsA : List AV → Option (List (Nat × Nat))
  | [] => some []
  | .one (.ptr (some a)) :: r => (ptrsA r).map (a :: ·)
  | _ => none

def srcA (h : H) (size : Nat) : AV → Option (List CV)
  | .one (.sl _ 0 _) => some []
  | .one (.sl (some a) n _) => h.load a (n * size)
  | _ => none

def lenA : AV → Nat
  | .one (.sl _ n _) => n
  | _ => 0

def appendA (ty size bytes : Nat) (s x : AV) (h : H) : Option (AV × H) :=
  match s, x with
  | .one (.sl base n c), .one (.sl xb m xc) =>
    if m = 0 then some (.one (.sl base n c), h)
    else if (n + m) * bytes > 140737488355328 then none
    else
      match srcA h size (.one (.sl base n c)), srcA h size (.one (.sl xb m xc)) with
      | some old, some new =>
        match c with
        | some c' =>
          if n + m ≤ c' then
            match base with
            | some a => if (h.f a.1).ty = ty then (h.store (a.1, a.2 + n * size) new).map fun h' => (.one (.sl (some a) (n + m) (some c')), h') else none
            | none => none
          else some (.one (.sl (some (h.n, 0)) (n + m) none), h.alloc (old ++ new) ty)
        | none =>
          match base with
          | some a => if (h.f a.1).st = .rw ∧ (h.f a.1).ty = ty then some (.one (.sl (some (h.n, 0)) (n + m) none), (h.kill a.1).alloc (old ++ new) ty) else none
          | none => none
      | _, _ => none
  | _, _ => none

def strBytes : List CV → Option (List Int)
  | [] => some []
  | .int .u8 n :: r => (strBytes r).map (n :: ·)
  | _ => none

/-- An operation without effect on the heap: its value. -/
def pureA (o : AOp) (T : Tm) (h : H) : Option AV :=
  match o with
  | .mov x => some (x.ev T)
  | .pick c a b => match c.ev T with | .one (.bool t) => some (if t then a.ev T else b.ev T) | _ => none
  | .build z parts => (fillA z (parts.map fun p => (p.1, p.2.1, p.2.2.ev T))).map .agg
  | .load k agg x =>
    match x.ev T with
    | .one (.ptr (some a)) =>
      match h.load a k with
      | some cs => if agg then some (.agg cs) else match cs with | [c] => some (.one c) | _ => none
      | none => none
    | _ => none
  | .nilCheck x => match x.ev T with | .one (.ptr (some a)) => some (.one (.ptr (some a))) | .one (.fn f c) => some (.one (.fn f c)) | _ => none
  | .bin op x y => binA op (x.ev T) (y.ev T)
  | .eqb neg x y => match x.ev T, y.ev T with | .one (.bool a), .one (.bool b) => some (ib ((a == b) != neg)) | _, _ => none
  | .eqst neg ks x y => match x.ev T, y.ev T with
    | .agg a, .agg b => (eqK ks a b).map fun r => ib (r != neg)
    | _, _ => none
  | .eqnil neg x y => match x.ev T, y.ev T with
    | .one (.sl a _ _), .one (.sl none _ _) => some (ib (a.isNone != neg))
    | _, _ => none
  | .not x => match x.ev T with | .one (.bool b) => some (ib (!b)) | _ => none
  | .conv k x => match x.ev T with | .one (.int _ n) => some (.one (.int k (k.wrap n))) | _ => none
  | .bytesStr x => match x.ev T with
    | .one (.sl (some a) n _) => if n = 0 then none else match h.load a n with
      | some cs => (strBytes cs).map fun l => .one (.str (strOfNums l))
      | none => none
    | _ => none
  | .mkfn f caps => (ptrsA (caps.map (·.ev T))).map fun l => .one (.fn f l)
  | .slice ty size x lo hi mx =>
    match x.ev T with
    | .one (.sl none _ c) =>
      match boundsA T 0 c lo hi mx with
      | some (l, h', m) => some (.one (.sl none (h' - l) (m.map (· - l))))
      | none => none
    | .one (.sl (some a) n c) =>
      match boundsA T n c lo hi mx with
      | some (l, h', m) => if a.1 < h.n ∧ (h.f a.1).ty = ty then some (.one (.sl (some (a.1, a.2 + l * size)) (h' - l) (m.map (· - l)))) else none
      | none => none
    | _ => none
  | .sliceStr x lo hi =>
    match x.ev T with
    | .one (.str s) =>
      match boundsA T s.size (some s.size) lo hi none with
      | some (l, h', _) => some (.one (.str (s.extract l h')))
      | none => none
    | _ => none
  | .faddr off x => match x.ev T with | .one (.ptr (some a)) => some (.one (.ptr (some (a.1, a.2 + off)))) | _ => none
  | .iaddr size x i =>
    match x.ev T, i.ev T with
    | .one (.sl (some a) n _), .one (.int _ j) => if 0 ≤ j ∧ j < n then some (.one (.ptr (some (a.1, a.2 + j.toNat * size)))) else none
    | _, _ => none
  | .idxStr x i =>
    match x.ev T, i.ev T with
    | .one (.str s), .one (.int _ j) => if 0 ≤ j then match s[j.toNat]? with | some b => some (.one (.int .u8 b.toNat)) | none => none else none
    | _, _ => none
  | .field off k agg x =>
    match x.ev T with
    | .agg cs => if off + k ≤ cs.length then (if agg then some (.agg ((cs.drop off).take k)) else match cs[off]? with | some c => some (.one c) | none => none) else none
    | _ => none
  | .extract x i => match x.ev T with | .tup l => l[i]? | _ => none
  | .len x => match x.ev T with | .one (.sl _ n _) => some (ii n) | _ => none
  | .lenStr x => match x.ev T with | .one (.str s) => some (ii s.size) | _ => none
  | .cap x => match x.ev T with | .one (.sl _ _ (some c)) => some (ii c) | _ => none
  | .min x y => match x.ev T, y.ev T with | .one (.int k a), .one (.int k' b) => if k = k' then some (.one (.int k (if b < a then b else a))) else none | _, _ => none
  | _ => none

def opA (call : Oracle) (o : AOp) (T : Tm) (h : H) : Option (AV × H) :=
  match o with
  | .alloc ty z => some (.one (.ptr (some (h.n, 0))), h.alloc z ty)
  | .box ty x => match (x.ev T).cells with | some cs => some (.one (.ptr (some (h.n, 0))), h.alloc cs ty) | none => none
  | .buildSlice ty len z parts =>
    match fillA (repl z len) (parts.map fun p => (p.1, p.2.1, p.2.2.ev T)) with
    | some cs => some (.one (.sl (some (h.n, 0)) len (some len)), h.alloc cs ty)
    | none => none
  | .mkslice ty bytes z l c =>
    match l.ev T, c.ev T with
    | .one (.int .i64 l), .one (.int .i64 c) =>
      if 0 ≤ l ∧ l ≤ c ∧ c * bytes ≤ 140737488355328 ∧ c ≤ 9223372036854775807 then some (.one (.sl (some (h.n, 0)) l.toNat (some c.toNat)), h.alloc (repl z c.toNat) ty) else none
    | _, _ => none
  | .store k x v =>
    match x.ev T, (v.ev T).cells with
    | .one (.ptr (some a)), some cs => if cs.length = k then (h.store a cs).map fun h' => (undefA, h') else none
    | _, _ => none
  | .append ty size bytes s x => appendA ty size bytes (s.ev T) (x.ev T) h
  | .appz ty _ bytes z s x =>
    match s.ev T, x.ev T with
    | .one (.sl none _ _), .one (.int .i64 n) => if 0 < n ∧ n * bytes ≤ 140737488355328 ∧ n ≤ 140737488355328 then some (.one (.sl (some (h.n, 0)) n.toNat none), h.alloc (repl z n.toNat) ty) else none
    | _, _ => none
  | .clr z x => match x.ev T with
    | .one (.sl (some a) n _) => if n = 0 then none else (h.store a (repl z n)).map fun h' => (.tup [], h')
    | _ => none
  | .call f args => call f (args.map (·.ev T)) h
  | .callv x args => match x.ev T with
    | .one (.fn f caps) => call f (args.map (·.ev T) ++ caps.map fun a => .one (.ptr (some a))) h
    | _ => none
  | o => (pureA o T h).map fun v => (v, h)

def wantA (g : Option (Nat × Bool)) (T : Tm) : Bool :=
  match g with
  | none => true
  | some (t, b) => match T t with | .one (.bool c) => c == b | _ => false

/-- A load that came up before an operation with effect gives the same behind it. -/
def againA (T : Tm) (h : H) (r : AOp × Option Nat × Option (Nat × Bool)) : Bool :=
  if wantA r.2.2 T then
    match pureA r.1 T h, r.2.1 with
    | some v, some d => v.same (T d)
    | _, _ => false
  else true

def stepA (call : Oracle) (s : AStep) (T : Tm) (h : H) : Option (Tm × H) :=
  if wantA s.guard T then
    match opA call s.op T h with
    | some (v, h') => if s.again.all (againA (T.put s.dst v) h') then some (T.put s.dst v, h') else none
    | none => none
  else some (T.put s.dst undefA, h)

def stepsA (call : Oracle) : List AStep → Tm → H → Option (Tm × H)
  | [], T, h => some (T, h)
  | s :: l, T, h =>
    match stepA call s T h with
    | some (T', h') => stepsA call l T' h'
    | none => none

/-! ### code -/
inductive Ex where
  | normal | exit (id : Nat) | ret

/-- At most n rounds. -/
def loopN (body : Tm → H → Option (Ex × Tm × H)) : Nat → Tm → H → Option (Ex × Tm × H)
  | 0, _, _ => none
  | n + 1, T, h =>
    match body T h with
    | some (.normal, T', h') => loopN body n T' h'
    | r => r

/-- What a loop is, given its round. -/
abbrev Rounds := (Tm → H → Option (Ex × Tm × H)) → Tm → H → Option (Ex × Tm × H)

def codeA (lp : Rounds) (call : Oracle) : ACode → Tm → H → Option (Ex × Tm × H)
  | .skip, T, h => some (.normal, T, h)
  | .reg l, T, h => (stepsA call l T h).map fun r => (.normal, r.1, r.2)
  | .seq a b, T, h =>
    match codeA lp call a T h with
    | some (.normal, T', h') => codeA lp call b T' h'
    | r => r
  | .cond c a b, T, h =>
    match c.ev T with
    | .one (.bool true) => codeA lp call a T h
    | .one (.bool false) => codeA lp call b T h
    | _ => none
  | .block id a, T, h =>
    match codeA lp call a T h with
    | some (.exit id', T', h') => if id' = id then some (.normal, T', h') else some (.exit id', T', h')
    | r => r
  | .loop a, T, h => lp (codeA lp call a) T h
  | .exit id, T, h => some (.exit id, T, h)
  | .ret, T, h => some (.ret, T, h)

def resA (T : Tm) (h : H) : ARes → Option AV
  | .tmp t => some (T t)
  | .cell t k agg => pureA (.load k agg (.t t)) T h

def resAs (T : Tm) (h : H) : List ARes → Option (List AV)
  | [] => some []
  | r :: l => match resA T h r, resAs T h l with
    | some (.tup _), _ => none
    | some v, some vs => some (v :: vs)
    | _, _ => none

def resultsA (T : Tm) (h : H) (l : List ARes) : Option AV :=
  match l with
  | [r] => resA T h r
  | l => (resAs T h l).map .tup

def startT (args : List AV) : Tm := fun t => args.getD t undefA

def bodyA (lp : Rounds) (call : Oracle) (F : AFunc) (args : List AV) (h : H) : Option (AV × H) :=
  match codeA lp call F.body (startT args) h with
  | some (.exit _, _, _) => none
  | some (_, T, h') => (resultsA T h' F.results).map fun v => (v, h')
  | none => none

end Go.Proofs.YtoeceafibmafpaaDoor.Am
/-! The abstract machine: the compiler from the loaded program's code to the machine's code; definitions alone. -/
namespace Go.Proofs.YtoeceafibmafpaaDoor.Am
open Go

def cvOf : Value → Option CV
  | .bool b => some (.bool b)
  | .int k n => some (.int k n)
  | .string s => some (.str s)
  | .slice none 0 0 => some (.sl none 0 (some 0))
  | .pointer none => some (.ptr none)
  | .nilFunc => some .nilf
  | _ => none

def cvsOf : List Value → Option (List CV)
  | [] => some []
  | v :: r => match cvOf v, cvsOf r with
    | some c, some l => some (c :: l)
    | _, _ => none

def opnd : Operand → Option AX
  | .tmp t => some (.t t)
  | .const v => (cvOf v).map .c
  | .func f => some (.c (.fn f []))
  | .global _ => none

def opnds : List Operand → Option (List AX)
  | [] => some []
  | x :: r => match opnd x, opnds r with
    | some a, some l => some (a :: l)
    | _, _ => none

def oopnd : Option Operand → Option (Option AX)
  | none => some none
  | some x => (opnd x).map some

def sizeT (P : Program) (t : TypeId) : Option Nat := (P.info? t).map (·.size)
def bytesT (P : Program) (t : TypeId) : Option Nat := (P.info? t).map (·.bytes)
def isAggT (P : Program) (t : TypeId) : Option Bool :=
  match P.underlying t with
  | some (.struct _) | some (.array _ _) => some true
  | some _ => some false
  | none => none

/-- A type's zero value, its cells. -/
def zeroT (P : Program) (t : TypeId) : Option (List CV) :=
  match P.info? t with
  | some i => match i.zero with
    | some z => match cvsOf z.cells.toList with
      | some l => if l.length = i.size then some l else none
      | none => none
    | none => none
  | none => none

def placesT (P : Program) (fs : Array Field) : Option (List (Nat × Nat)) := fs.toList.mapM (fun f => (P.info? f.type).map fun i => (f.offset, i.size))
def partsS (places : List (Nat × Nat)) : List (Nat × Operand) → Option (List (Nat × Nat × AX))
  | [] => some []
  | (i, x) :: r => match places[i]?, opnd x, partsS places r with
    | some p, some a, some l => some ((p.1, p.2, a) :: l)
    | _, _, _ => none

def partsR (size : Nat) : List (Nat × Operand) → Option (List (Nat × Nat × AX))
  | [] => some []
  | (i, x) :: r => match opnd x, partsR size r with
    | some a, some l => some ((i * size, size, a) :: l)
    | _, _ => none

/-- The kinds of the fields of a struct of bools, whole numbers and strings, from place k on. -/
def kindsF (P : Program) : Nat → List Field → Option (List Nat)
  | _, [] => some []
  | k, f :: r =>
    if (f.name == "_") = false ∧ f.offset = k then
      match P.underlying f.type with
      | some .bool => (kindsF P (k + 1) r).map (0 :: ·)
      | some (.int _) => (kindsF P (k + 1) r).map (1 :: ·)
      | some .string => (kindsF P (k + 1) r).map (2 :: ·)
      | _ => none
    else none

def compBin (P : Program) (op : BinOp) (t : TypeId) (x y : AX) : Option AOp :=
  match P.underlying t with
  | some .bool => match op with | .eql => some (.eqb false x y) | .neq => some (.eqb true x y) | _ => none
  | some (.int _) | some .string => some (.bin op x y)
  | some (.slice _) => match op with | .eql => some (.eqnil false x y) | .neq => some (.eqnil true x y) | _ => none
  | some (.struct fs) =>
    match kindsF P 0 fs.toList with
    | some ks => if P.eqGuardType P.depth t = false ∧ P.stoodInHeld t = false then
        match op with | .eql => some (.eqst false ks x y) | .neq => some (.eqst true ks x y) | _ => none
      else none
    | none => none
  | _ => none

def isI64 (P : Program) (t : TypeId) : Bool :=
  match P.underlying t with
  | some (.int k) => decide (k = .i64)
  | _ => false
/-- Zeros are appended. -/
def compAppz (P : Program) (e tx : TypeId) (s x : AX) : Option AOp :=
  if isI64 P tx = true then
    match sizeT P e, bytesT P e, zeroT P e with
    | some k, some b, some z => if 0 < k ∧ z.length = k ∧ 0 < b ∧ k = P.cellsOf e then some (.appz e k b z s x) else none
    | _, _, _ => none
  else none
theorem compAppz_spec {P : Program} {e tx : TypeId} {s x : AX} {o : AOp} (h : compAppz P e tx s x = some o) : isI64 P tx = true ∧ ∃ k b z, sizeT P e = some k ∧ bytesT P e = some b ∧ zeroT P e = some z ∧ (0 < k ∧ z.length = k ∧ 0 < b ∧ k = P.cellsOf e) ∧ o = .appz e k b z s x := by
  unfold compAppz at h
  split at h
  · rename_i h1
    split at h
    · rename_i k b z h2 h3 h4
      split at h
      · rename_i h5
        simp at h
        exact ⟨h1, k, b, z, h2, h3, h4, h5, h.symm⟩
      · simp at h
    · simp at h
  · simp at h

def compCall (P : Program) (c : Call) : Option AOp :=
  match c.callee with
  | .value (.func f) => (opnds c.args.toList).map (.call f)
  | .value x => match opnd x, opnds c.args.toList with
    | some a, some l => some (.callv a l)
    | _, _ => none
  | .invoke .. => none
  | .builtin b =>
    match b, c.args.toList with
    | .append, [s, x] =>
      match c.argTypes[0]?, c.argTypes[1]?, opnd s, opnd x with
      | some ts, some tx, some s, some x =>
        match P.underlying ts with
        | some (.slice e) => if tx = ts then
            match sizeT P e, bytesT P e, zeroT P e with
            | some k, some b, some z => if 0 < k ∧ z.length = k ∧ 0 < b ∧ k = P.cellsOf e then some (.append e k b s x) else none
            | _, _, _ => none
          else compAppz P e tx s x
        | _ => none
      | _, _, _, _ => none
    | .len, [x] => match c.argTypes[0]?, opnd x with
      | some t, some x => match P.underlying t with
        | some .string => some (.lenStr x)
        | some (.slice _) => some (.len x)
        | _ => none
      | _, _ => none
    | .cap, [x] => match c.argTypes[0]?, opnd x with
      | some t, some x => match P.underlying t with
        | some (.slice _) => some (.cap x)
        | _ => none
      | _, _ => none
    | .min, [x, y] => match opnd x, opnd y with
      | some x, some y => some (.min x y)
      | _, _ => none
    | .clear, [x] => match c.argTypes[0]?, opnd x with
      | some t, some x => match P.underlying t with
        | some (.slice e) => (zeroT P e).map fun z => .clr z x
        | _ => none
      | _, _ => none
    | _, _ => none

def compOp (P : Program) (o : Op) : Option AOp :=
  match o with
  | .move x | .assign x => (opnd x).map .mov
  | .pick c a b => match opnd c, opnd a, opnd b with
    | some c, some a, some b => some (.pick c a b)
    | _, _, _ => none
  | .alloc e => (zeroT P e).map (.alloc e)
  | .box e x => (opnd x).map (.box e)
  | .build t ps => match P.underlying t, zeroT P t with
    | some (.struct fs), some z => match placesT P fs with
      | some pl => (partsS pl ps.toList).map (.build z)
      | none => none
    | _, _ => none
  | .buildSlice t len ps => match P.underlying t with
    | some (.slice e) => match sizeT P e, zeroT P e with
      | some k, some z => if 0 < k ∧ len * k ≤ 16777216 ∧ z.length = k ∧ k = P.cellsOf e then (partsR k ps.toList).map (.buildSlice e len z) else none
      | _, _ => none
    | _ => none
  | .load t x => match opnd x, isAggT P t, sizeT P t with
    | some x, some true, some k => some (.load k true x)
    | some x, some false, some _ => some (.load 1 false x)
    | _, _, _ => none
  | .store t x v => match opnd x, opnd v, sizeT P t with
    | some x, some v, some k => some (.store k x v)
    | _, _, _ => none
  | .nilCheck x => (opnd x).map .nilCheck
  | .binOp op t x y _ => match opnd x, opnd y with
    | some x, some y => compBin P op t x y
    | _, _ => none
  | .unOp .not _ x => (opnd x).map .not
  | .convert s d x => match P.underlying s, P.underlying d, opnd x with
    | some (.int _), some (.int k), some x => some (.conv k x)
    | some (.slice e), some .string, some x => match P.underlying e with
      | some (.int .u8) => some (.bytesStr x)
      | _ => none
    | _, _, _ => none
  | .makeFunc (.func f) first caps => if first.size = 0 then (opnds caps.toList).map (.mkfn f) else none
  | .makeSlice t l c => match P.underlying t with
    | some (.slice e) => match sizeT P e, bytesT P e, zeroT P e, opnd l, opnd c with
      | some k, some b, some z, some l, some c => if 0 < k ∧ z.length = k ∧ k = P.cellsOf e then some (.mkslice e b z l c) else none
      | _, _, _, _, _ => none
    | _ => none
  | .slice t x lo hi mx => match P.underlying t, opnd x, oopnd lo, oopnd hi, oopnd mx with
    | some (.slice e), some x, some lo, some hi, some mx => match sizeT P e with
      | some k => if k = P.cellsOf e then some (.slice e k x lo hi mx) else none
      | none => none
    | some .string, some x, some lo, some hi, some none => some (.sliceStr x lo hi)
    | _, _, _, _, _ => none
  | .fieldAddr s x f => match P.underlying s, opnd x with
    | some (.struct fs), some x => match fs[f]? with
      | some fd => match sizeT P fd.type with
        | some k => if k = 0 then none else some (.faddr fd.offset x)
        | none => none
      | none => none
    | _, _ => none
  | .field t x f => match P.underlying t, opnd x with
    | some (.struct fs), some x => match fs[f]? with
      | some fd => match isAggT P fd.type, sizeT P fd.type with
        | some true, some k => some (.field fd.offset k true x)
        | some false, some _ => some (.field fd.offset 1 false x)
        | _, _ => none
      | none => none
    | _, _ => none
  | .indexAddr t x i => match P.underlying t, opnd x, opnd i with
    | some (.slice e), some x, some i => (sizeT P e).map fun k => .iaddr k x i
    | _, _, _ => none
  | .index t x i => match P.underlying t, opnd x, opnd i with
    | some .string, some x, some i => some (.idxStr x i)
    | _, _, _ => none
  | .extract x i => (opnd x).map fun x => .extract x i
  | .call c => compCall P c
  | _ => none

def guardOf (ops : Array Oper) : Option (Nat × Bool) → Option (Option (Nat × Bool))
  | none => some none
  | some (g, b) => match (ops[g]?).bind (·.dst) with
    | some t => some (some (t, b))
    | none => none

def dstOk (nt : Nat) : Option Nat → Bool
  | some d => decide (d < nt)
  | none => true

def compStep (P : Program) (nt : Nat) (ops : Array Oper) (o : Oper) : Option AStep :=
  match compOp P o.op, guardOf ops o.guard with
  | some op, some g => if dstOk nt o.dst = true then some ⟨op, o.dst, g, []⟩ else none
  | _, _ => none

def compSteps (P : Program) (nt : Nat) (ops : Array Oper) : List Oper → Option (List AStep)
  | [] => some []
  | o :: r => match compStep P nt ops o, compSteps P nt ops r with
    | some s, some l => some (s :: l)
    | _, _ => none

/-! ### a region that draws its order: one order of it, and what makes all others come to the same -/
def effA : AOp → Bool
  | .call .. | .callv .. | .append .. | .appz .. | .clr .. | .store .. => true
  | _ => false
/-- What reads the heap. -/
def isLoad : AOp → Bool
  | .load .. | .slice .. | .bytesStr .. => true
  | _ => false

/-- What an operation is kept beside others for: an effect, or a slot that others write, or read too soon. -/
def effI (l : List AStep) (masks : Array Nat) (i : Nat) : Bool :=
  match l[i]? with
  | some s => effA s.op || match s.dst with
    | some d => (List.range l.length).any fun j => match l[j]? with
      | some p => (j != i && p.dst == some d) || (p.looks.contains d && !(masks.getD j 0).testBit i)
      | none => false
    | none => false
  | none => false

/-- Edges lead backwards; the masks hold no more than what an operation waits for; a slot that is read is written ahead of it or, by an operation kept beside others, behind it. -/
def orderOk (ops : Array Oper) (l : List AStep) (masks : Array Nat) : Bool :=
  (List.range ops.size).all fun i => match ops[i]?, l[i]? with
    | some o, some s =>
      (o.after.toList.all fun e => !Region.binds .any e || decide (e.on < i)) &&
      ((List.range ops.size).all fun j => !(masks.getD i 0).testBit j || o.after.toList.any fun e => Region.binds .any e && (e.on == j || (masks.getD e.on 0).testBit j)) &&
      ((List.range ops.size).all fun j => j == i || match l[j]? with
        | some p => match p.dst with
          | some d => !s.looks.contains d || (masks.getD i 0).testBit j || (effI l masks j && (masks.getD j 0).testBit i)
          | none => true
        | none => true)
    | _, _ => true

def againOf (l : List AStep) (masks : Array Nat) (done : Array Bool) (k : Nat) : List (AOp × Option Nat × Option (Nat × Bool)) :=
  l.zipIdx.filterMap fun s => if done.getD s.2 false && isLoad s.1.op && !(masks.getD k 0).testBit s.2 then some (s.1.op, s.1.dst, s.1.guard) else none

def planGo (ops : Array Oper) (l : List AStep) (masks : Array Nat) (eff : List Bool) : Nat → Array Bool → Option (List AStep)
  | 0, done => if Region.ready .any ops done = [] then some [] else none
  | fuel + 1, done =>
    match (Region.ready .any ops done).find? (fun i => !eff.getD i true) with
    | some i => match l[i]?, planGo ops l masks eff fuel (done.setIfInBounds i true) with
      | some s, some r => some (s :: r)
      | _, _ => none
    | none => match Region.ready .any ops done with
      | [] => some []
      | [k] => match l[k]?, planGo ops l masks eff fuel (done.setIfInBounds k true) with
        | some s, some r => some ({ s with again := againOf l masks done k } :: r)
        | _, _ => none
      | _ => none

def plan (ops : Array Oper) (l : List AStep) : Option (List AStep) :=
  if orderOk ops l (Region.before ops) = true then
    planGo ops l (Region.before ops) ((List.range l.length).map (effI l (Region.before ops))) ops.size (Array.replicate ops.size false)
  else none

/-- Code that is never gone. -/
def badC : ACode := .cond (.c .nilf) .skip .skip

def compCode (P : Program) (nt : Nat) : Code → Option ACode
  | .skip => some .skip
  | .region _ ops draw =>
    match compSteps P nt ops ops.toList with
    | some l => if draw then (match plan ops l with | some l' => some (.reg l') | none => some badC) else some (.reg l)
    | none => some badC
  | .seq a b => match compCode P nt a, compCode P nt b with
    | some a, some b => some (.seq a b)
    | _, _ => none
  | .cond c a b => match opnd c, compCode P nt a, compCode P nt b with
    | some c, some a, some b => some (.cond c a b)
    | _, _, _ => none
  | .block id a => (compCode P nt a).map (.block id)
  | .loop a => (compCode P nt a).map .loop
  | .exit id => some (.exit id)
  | .ret => some .ret
  | _ => some badC

def compRes (P : Program) : List ResultVar → Option (List ARes)
  | [] => some []
  | .tmp t :: r => (compRes P r).map (.tmp t :: ·)
  | .cell a t :: r => match isAggT P t, sizeT P t, compRes P r with
    | some true, some k, some l => some (.cell a k true :: l)
    | some false, some _, some l => some (.cell a 1 false :: l)
    | _, _, _ => none

/-! ### functions of the library that are not walked: what they answer -/
def isExt (s : String) : Bool := s == "strconv.Itoa" || s == "strings.Join"
def strsOf : List CV → Option (List ByteArray)
  | [] => some []
  | .str s :: r => (strsOf r).map (s :: ·)
  | _ => none
def joinB (sep : ByteArray) : List ByteArray → ByteArray
  | [] => ByteArray.empty
  | [x] => x
  | x :: r => x ++ sep ++ joinB sep r
def digB (n : Nat) : ByteArray := if n < 10 then strOfNums [48 + (n : Int)] else strOfNums [48 + ((n / 10 : Nat) : Int), 48 + ((n % 10 : Nat) : Int)]
/-- A number's digits, with - ahead of it below 0. -/
def numB (n : Int) : ByteArray := if n < 0 then strOfNums [45] ++ digB n.natAbs else digB n.toNat
def extJoin (v : AV) (sep : ByteArray) (h : H) : Option AV :=
  match srcA h 1 v with
  | some cs => match strsOf cs with
    | some l => if (joinB sep l).size ≤ 140737488355328 ∧ l.length ≤ 140737488355328 then some (.one (.str (joinB sep l))) else none
    | none => none
  | none => none
def extO (P : Program) : Oracle := fun f args h =>
  match P.funcs[f]? with
  | some fn =>
    if fn.name == "strconv.Itoa" then match args with
      | [.one (.int .i64 n)] => if -100 < n ∧ n < 100 then some (.one (.str (numB n)), h) else none
      | _ => none
    else if fn.name == "strings.Join" then match args with
      | [v, .one (.str sep)] => (extJoin v sep h).map fun r => (r, h)
      | _ => none
    else none
  | none => none

def compFunc (P : Program) (f : Nat) : Option AFunc :=
  match P.funcs[f]? with
  | some fn =>
    if fn.name == "runtime.NumGoroutine" then none else
    if isExt fn.name then none else
    match fn.body with
    | some c => match compCode P fn.ntmps c, compRes P fn.results.toList with
      | some b, some r => some ⟨fn.ntmps, r, b⟩
      | _, _ => none
    | none => none
  | none => none

/-- Calls nested at most k deep. -/
def callA (lp : Rounds) (P : Program) : Nat → Oracle
  | 0, _, _, _ => none
  | k + 1, f, args, h => match compFunc P f with
    | some F => bodyA lp (callA lp P k) F args h
    | none => extO P f args h

end Go.Proofs.YtoeceafibmafpaaDoor.Am
/-! The abstract machine: how its values and its heap stand for the model's (a partial injection of blocks), and what stays when the world moves on. -/
namespace Go.Proofs.YtoeceafibmafpaaDoor.Am
open Go

/-- Which model block, from which cell on, a block of the machine is. -/
abbrev Inj := Nat → Option (Nat × Nat)

def addrR (β : Inj) (a : Nat × Nat) (m : Addr) : Prop := ∃ b d, β a.1 = some (b, d) ∧ m = ⟨b, d + a.2, none⟩

def capsR (β : Inj) : List (Nat × Nat) → List Value → Prop
  | [], [] => True
  | a :: r, v :: s => (∃ m, v = .pointer (some m) ∧ addrR β a m) ∧ capsR β r s
  | _, _ => False

/-- A block of the model's that was there at the start: its number is told by the machine's block 0. -/
def exempt (β : Inj) (b : Nat) : Prop := ∃ L d, β 0 = some (L, d) ∧ b ≤ L

/-- A slice's capacity ends within its block (asked of the blocks alone that have been laid since the start). -/
def roomR (P : Program) (β : Inj) (w : World) (m : Addr) (c : Nat) : Prop := exempt β m.block ∨ ∃ t s, w.shape? m.block = some (t, s) ∧ m.off + c * P.cellsOf t ≤ s

def relC (P : Program) (β : Inj) (w : World) : CV → Value → Prop
  | .bool b, v => v = .bool b
  | .int k n, v => v = .int k n
  | .str s, v => v = .string s
  | .sl none n c, v => n = 0 ∧ c = some 0 ∧ v = .slice none 0 0
  | .sl (some a) n c, v => ∃ m c', v = .slice (some m) n c' ∧ n ≤ c' ∧ (c = none ∨ c = some c') ∧ ((c' = 0 ∧ (∃ p, β a.1 = some p)) ∨ (addrR β a m ∧ roomR P β w m c'))
  | .ptr none, v => v = .pointer none
  | .ptr (some a), v => ∃ m, v = .pointer (some m) ∧ addrR β a m
  | .fn f caps, v => ∃ cv, v = .func (.func f) #[] cv ∧ capsR β caps cv.toList
  | .nilf, v => v = .nilFunc

def relL (P : Program) (β : Inj) (w : World) : List CV → List Value → Prop
  | [], [] => True
  | c :: r, v :: s => relC P β w c v ∧ relL P β w r s
  | _, _ => False

def relV0 (P : Program) (β : Inj) (w : World) : AV → Value → Prop
  | .one c, v => relC P β w c v
  | .agg cs, v => ∃ arr, v = .agg arr ∧ relL P β w cs arr.toList
  | .tup _, _ => False

def relT (P : Program) (β : Inj) (w : World) : List AV → List Value → Prop
  | [], [] => True
  | c :: r, v :: s => relV0 P β w c v ∧ relT P β w r s
  | _, _ => False

def relV (P : Program) (β : Inj) (w : World) : AV → Value → Prop
  | .one c, v => relC P β w c v
  | .agg cs, v => ∃ arr, v = .agg arr ∧ relL P β w cs arr.toList
  | .tup l, v => ∃ arr, v = .tuple arr ∧ relT P β w l arr.toList

/-- The library's table of powers, where the program has it, lies among the blocks that were there at the start. -/
def TabOk (P : Program) (β : Inj) (w : World) : Prop := ∀ g, P.globalNamed "internal/strconv.uint64pow10" = some g → Lib.TabIs P w "internal/strconv.uint64pow10" .u64 Lib.pow10Tab ∧ exempt β g
theorem TabOk.mono {P : Program} {β β' : Inj} {w w' : World} (h : TabOk P β w) (e : ∀ b, exempt β b → exempt β' b) (hb : ∀ b, exempt β b → w'.heap[b]? = w.heap[b]?) : TabOk P β' w' := by
  intro g hg
  obtain ⟨h1, h2⟩ := h g hg
  refine ⟨?_, e g h2⟩
  unfold Lib.TabIs World.var? at h1 ⊢
  rw [hg] at h1 ⊢
  simp only [Option.bind_some] at h1 ⊢
  rw [hb g h2]
  exact h1

structure Rel (P : Program) (β : Inj) (h : H) (w : World) : Prop where
  ty : ∀ i b d, β i = some (b, d) → exempt β b ∨ ∃ s, w.shape? b = some ((h.f i).ty, s)
  live : ∀ i b d, (h.f i).st ≠ .dead → β i = some (b, d) → ∃ cells t fr, w.heap[b]? = some (.cells cells t fr) ∧ ((h.f i).st = .rw → t = (h.f i).ty ∧ fr = (0, 0)) ∧
    ∀ o c, (h.f i).cs[o]? = some c → ∃ v, cells[d + o]? = some v ∧ relC P β w c v
  inj : ∀ i j b d d', i ≠ j → (h.f i).st = .rw → (h.f j).st ≠ .dead → β i = some (b, d) → β j = some (b, d') → False
  dom : ∀ i, h.n ≤ i → β i = none
  low : ∀ i b d, (h.f i).st = .rw → β i = some (b, d) → ¬ exempt β b
  top : ∃ L d, β 0 = some (L, d) ∧ L < w.heap.size
  tab : TabOk P β w

/-- What stays when the world moves on. -/
def Shapes (w w' : World) : Prop := ∀ b s, w.shape? b = some s → w'.shape? b = some s
def Ext (β β' : Inj) : Prop := ∀ i p, β i = some p → β' i = some p

theorem Shapes.refl (w : World) : Shapes w w := fun _ _ h => h
theorem Shapes.trans {a b c : World} (h : Shapes a b) (k : Shapes b c) : Shapes a c := fun x s e => k x s (h x s e)
theorem Ext.refl (β : Inj) : Ext β β := fun _ _ h => h
theorem Ext.trans {a b c : Inj} (h : Ext a b) (k : Ext b c) : Ext a c := fun i p e => k i p (h i p e)

theorem addrR.ext {β β' : Inj} {a : Nat × Nat} {m : Addr} (h : addrR β a m) (e : Ext β β') : addrR β' a m := by
  obtain ⟨b, d, h1, h2⟩ := h
  exact ⟨b, d, e _ _ h1, h2⟩
theorem capsR.ext {β β' : Inj} (e : Ext β β') : ∀ {l : List (Nat × Nat)} {s : List Value}, capsR β l s → capsR β' l s
  | [], [], _ => trivial
  | _ :: _, _ :: _, ⟨⟨m, h1, h2⟩, h3⟩ => ⟨⟨m, h1, h2.ext e⟩, capsR.ext e h3⟩
  | [], _ :: _, h => h.elim
  | _ :: _, [], h => h.elim
theorem exempt.ext {β β' : Inj} {b : Nat} (h : exempt β b) (e : Ext β β') : exempt β' b := by
  obtain ⟨L, d, h1, h2⟩ := h
  exact ⟨L, d, e _ _ h1, h2⟩
theorem roomR.mono {P : Program} {β β' : Inj} {w w' : World} {m : Addr} {c : Nat} (h : roomR P β w m c) (e : Ext β β') (s : Shapes w w') : roomR P β' w' m c := by
  rcases h with h | ⟨t, z, h1, h2⟩
  · exact .inl (h.ext e)
  · exact .inr ⟨t, z, s _ _ h1, h2⟩
theorem Rel.exempt_lt {P : Program} {β : Inj} {h : H} {w : World} (hR : Rel P β h w) {b : Nat} (hb : exempt β b) : b < w.heap.size := by
  obtain ⟨L, d, h1, h2⟩ := hR.top
  obtain ⟨L', d', h3, h4⟩ := hb
  rw [h1] at h3
  simp at h3
  omega
theorem Rel.lt {P : Program} {β : Inj} {h : H} {w : World} (hR : Rel P β h w) {i b d : Nat} (hb : β i = some (b, d)) : b < w.heap.size := by
  rcases hR.ty i b d hb with h1 | ⟨s, h1⟩
  · obtain ⟨L, d, h2, h3⟩ := hR.top
    obtain ⟨L', d', h4, h5⟩ := h1
    rw [h2] at h4
    simp at h4
    omega
  · rcases Nat.lt_or_ge b w.heap.size with h' | h'
    · exact h'
    · simp [World.shape?, Array.getElem?_eq_none h'] at h1
section
variable {P : Program} {β β' : Inj} {w w' : World} (e : Ext β β') (s : Shapes w w')
include e s
theorem relC.mono {c : CV} {v : Value} (h : relC P β w c v) : relC P β' w' c v := by
  cases c with
  | sl a n k =>
    cases a with
    | none => exact h
    | some a =>
      obtain ⟨m, c', h1, h2, h3, h4⟩ := h
      exact ⟨m, c', h1, h2, h3, h4.imp (fun h => ⟨h.1, by obtain ⟨p, hp⟩ := h.2; exact ⟨p, e _ _ hp⟩⟩) (fun h => ⟨h.1.ext e, h.2.mono e s⟩)⟩
  | ptr a =>
    cases a with
    | none => exact h
    | some a =>
      obtain ⟨m, h1, h2⟩ := h
      exact ⟨m, h1, h2.ext e⟩
  | fn f caps =>
    obtain ⟨cv, h1, h2⟩ := h
    exact ⟨cv, h1, h2.ext e⟩
  | _ => exact h
theorem relL.mono : ∀ {l : List CV} {vs : List Value}, relL P β w l vs → relL P β' w' l vs
  | [], [], _ => trivial
  | _ :: _, _ :: _, ⟨h1, h2⟩ => ⟨relC.mono e s h1, relL.mono h2⟩
  | [], _ :: _, h => h.elim
  | _ :: _, [], h => h.elim
theorem relV0.mono {x : AV} {v : Value} (h : relV0 P β w x v) : relV0 P β' w' x v := by
  cases x with
  | one c => exact relC.mono e s h
  | agg cs => obtain ⟨arr, h1, h2⟩ := h; exact ⟨arr, h1, relL.mono e s h2⟩
  | tup l => exact h
theorem relT.mono : ∀ {l : List AV} {vs : List Value}, relT P β w l vs → relT P β' w' l vs
  | [], [], _ => trivial
  | _ :: _, _ :: _, ⟨h1, h2⟩ => ⟨relV0.mono e s h1, relT.mono h2⟩
  | [], _ :: _, h => h.elim
  | _ :: _, [], h => h.elim
theorem relV.mono {x : AV} {v : Value} (h : relV P β w x v) : relV P β' w' x v := by
  cases x with
  | one c => exact relC.mono e s h
  | agg cs => obtain ⟨arr, h1, h2⟩ := h; exact ⟨arr, h1, relL.mono e s h2⟩
  | tup l => obtain ⟨arr, h1, h2⟩ := h; exact ⟨arr, h1, relT.mono e s h2⟩
end
section
variable {P : Program} {β : Inj} {w : World}
theorem relL.length : ∀ {l : List CV} {vs : List Value}, relL P β w l vs → l.length = vs.length
  | [], [], _ => rfl
  | _ :: _, _ :: _, ⟨_, h2⟩ => by simp [relL.length h2]
  | [], _ :: _, h => h.elim
  | _ :: _, [], h => h.elim
theorem relL.get : ∀ {l : List CV} {vs : List Value}, relL P β w l vs → ∀ {i : Nat} {c : CV}, l[i]? = some c → ∃ v, vs[i]? = some v ∧ relC P β w c v
  | [], [], _, i, c, h => by simp at h
  | a :: r, v :: s, ⟨h1, h2⟩, 0, c, h => by
    simp at h
    subst h
    exact ⟨v, by simp, h1⟩
  | a :: r, v :: s, ⟨h1, h2⟩, i + 1, c, h => by
    simp at h
    obtain ⟨u, h3, h4⟩ := relL.get h2 h
    exact ⟨u, by simpa using h3, h4⟩
  | [], _ :: _, h, _, _, _ => h.elim
  | _ :: _, [], h, _, _, _ => h.elim
theorem relL.append : ∀ {l l' : List CV} {vs vs' : List Value}, relL P β w l vs → relL P β w l' vs' → relL P β w (l ++ l') (vs ++ vs')
  | [], _, [], _, _, h => by simpa using h
  | _ :: _, _, _ :: _, _, ⟨h1, h2⟩, h => ⟨h1, relL.append h2 h⟩
  | [], _, _ :: _, _, h, _ => h.elim
  | _ :: _, _, [], _, h, _ => h.elim
theorem relL.drop : ∀ {l : List CV} {vs : List Value}, relL P β w l vs → ∀ n, relL P β w (l.drop n) (vs.drop n)
  | _, _, h, 0 => by simpa using h
  | [], [], _, n + 1 => by simp [relL]
  | _ :: _, _ :: _, ⟨_, h2⟩, n + 1 => by simpa using relL.drop h2 n
  | [], _ :: _, h, _ => h.elim
  | _ :: _, [], h, _ => h.elim
theorem relL.take : ∀ {l : List CV} {vs : List Value}, relL P β w l vs → ∀ n, relL P β w (l.take n) (vs.take n)
  | _, _, h, 0 => by simp [relL]
  | [], [], _, n + 1 => by simp [relL]
  | _ :: _, _ :: _, ⟨h1, h2⟩, n + 1 => by simpa using ⟨h1, relL.take h2 n⟩
  | [], _ :: _, h, _ => h.elim
  | _ :: _, [], h, _ => h.elim
theorem relL.of_get : ∀ {l : List CV} {vs : List Value}, l.length = vs.length → (∀ (i : Nat) (c : CV) (v : Value), l[i]? = some c → vs[i]? = some v → relC P β w c v) → relL P β w l vs
  | [], [], _, _ => trivial
  | a :: r, v :: s, hl, h => ⟨h 0 a v (by simp) (by simp), relL.of_get (by simpa using hl) fun i c u hc hu => h (i + 1) c u (by simpa using hc) (by simpa using hu)⟩
  | [], _ :: _, hl, _ => by simp at hl
  | _ :: _, [], hl, _ => by simp at hl
theorem relT.get : ∀ {l : List AV} {vs : List Value}, relT P β w l vs → ∀ {i : Nat} {c : AV}, l[i]? = some c → ∃ v, vs[i]? = some v ∧ relV0 P β w c v
  | [], [], _, i, c, h => by simp at h
  | a :: r, v :: s, ⟨h1, h2⟩, 0, c, h => by
    simp at h
    subst h
    exact ⟨v, by simp, h1⟩
  | a :: r, v :: s, ⟨h1, h2⟩, i + 1, c, h => by
    simp at h
    obtain ⟨u, h3, h4⟩ := relT.get h2 h
    exact ⟨u, by simpa using h3, h4⟩
  | [], _ :: _, h, _, _, _ => h.elim
  | _ :: _, [], h, _, _, _ => h.elim
theorem relV0.relV {x : AV} {v : Value} (h : relV0 P β w x v) : relV P β w x v := by
  cases x with
  | one c => exact h
  | agg cs => exact h
  | tup l => exact h.elim

/-- A value of one cell. -/
theorem relC.oneCell {c : CV} {v : Value} (h : relC P β w c v) : v.oneCell' = true := by
  cases c with
  | sl a n k =>
    cases a with
    | none => rw [h.2.2]; rfl
    | some a => obtain ⟨m, c', h1, _⟩ := h; rw [h1]; rfl
  | ptr a =>
    cases a with
    | none => rw [show v = _ from h]; rfl
    | some a => obtain ⟨m, h1, _⟩ := h; rw [h1]; rfl
  | fn f caps => obtain ⟨cv, h1, _⟩ := h; rw [h1]; rfl
  | _ => rw [show v = _ from h]; rfl
theorem relC.cells {c : CV} {v : Value} (h : relC P β w c v) : v.cells = #[v] := by
  cases c with
  | sl a n k =>
    cases a with
    | none => rw [h.2.2]; rfl
    | some a => obtain ⟨m, c', h1, _⟩ := h; rw [h1]; rfl
  | ptr a =>
    cases a with
    | none => rw [show v = _ from h]; rfl
    | some a => obtain ⟨m, h1, _⟩ := h; rw [h1]; rfl
  | fn f caps => obtain ⟨cv, h1, _⟩ := h; rw [h1]; rfl
  | _ => rw [show v = _ from h]; rfl
theorem relL.oneCell : ∀ {l : List CV} {vs : List Value}, relL P β w l vs → ∀ v ∈ vs, v.oneCell' = true
  | [], [], _, _, h => by simp at h
  | _ :: _, _ :: _, ⟨h1, h2⟩, v, h => by
    rcases List.mem_cons.1 h with rfl | h
    · exact h1.oneCell
    · exact relL.oneCell h2 v h
  | [], _ :: _, h, _, _ => h.elim
  | _ :: _, [], h, _, _ => h.elim
theorem relV.cells {x : AV} {v : Value} {cs : List CV} (h : relV P β w x v) (hc : x.cells = some cs) : relL P β w cs v.cells.toList := by
  cases x with
  | one c =>
    simp only [AV.cells, Option.some.injEq] at hc
    subst hc
    rw [relC.cells h]
    exact ⟨h, trivial⟩
  | agg l =>
    simp only [AV.cells, Option.some.injEq] at hc
    subst hc
    obtain ⟨arr, h1, h2⟩ := h
    subst h1
    exact h2
  | tup l => simp [AV.cells] at hc
end

/-! ### constants -/
section
variable {P : Program} {β : Inj} {w : World}
theorem cvOf_rel {v : Value} {c : CV} (h : cvOf v = some c) : relC P β w c v := by
  unfold cvOf at h
  split at h <;> simp at h <;> subst h <;> simp [relC]
theorem cvsOf_rel : ∀ {vs : List Value} {l : List CV}, cvsOf vs = some l → relL P β w l vs
  | [], l, h => by simp [cvsOf] at h; subst h; trivial
  | v :: r, l, h => by
    unfold cvsOf at h
    split at h
    · rename_i c l' h1 h2
      simp at h
      subst h
      exact ⟨cvOf_rel h1, cvsOf_rel h2⟩
    · simp at h

/-- The slots of a run stand for the model's. -/
def relA (P : Program) (β : Inj) (w : World) (T : Tm) (a : Act) : Prop := ∀ t, relV P β w (T t) (a.tmps.getD t undef)
theorem relA.mono {β' : Inj} {w' : World} {T : Tm} {a : Act} (h : relA P β w T a) (e : Ext β β') (s : Shapes w w') : relA P β' w' T a := fun t => (h t).mono e s
/-- The same of the operands. -/
def relO (P : Program) (β : Inj) (w : World) (T : Tm) (ρ : Operand → Value) : Prop := ∀ x ax, opnd x = some ax → relV P β w (ax.ev T) (ρ x)
theorem relA.opnd {T : Tm} {a : Act} (h : relA P β w T a) : relO P β w T a.eval := by
  intro x ax hx
  cases x with
  | tmp t =>
    simp [Am.opnd] at hx
    subst hx
    exact h t
  | const v =>
    simp only [Am.opnd, Option.map_eq_some_iff] at hx
    obtain ⟨c, h1, rfl⟩ := hx
    exact cvOf_rel h1
  | func f =>
    simp [Am.opnd] at hx
    subst hx
    exact ⟨#[], rfl, trivial⟩
  | global g => simp [Am.opnd] at hx
end
end Go.Proofs.YtoeceafibmafpaaDoor.Am
/-! The abstract machine: an operation that has no effect on the heap gives in the model a value that the machine's stands for, and the model's world stays. -/
namespace Go.Proofs.YtoeceafibmafpaaDoor.Am
open Go

section
variable {P : Program} {w : World} {t : TypeId}
theorem run_typeInfoA {i : TypeInfo} (h : P.info? t = some i) : (typeInfo t).run P w = .ok i w := by
  unfold typeInfo program
  simp [Sem.run, h]
theorem run_underlyingA {d : TypeDesc} (h : P.underlying t = some d) : (underlying t).run P w = .ok d w := by
  unfold underlying program
  simp [Sem.run, h]
theorem run_sizeA {k : Nat} (h : sizeT P t = some k) : (sizeOf t).run P w = .ok k w := by
  unfold sizeT at h
  obtain ⟨i, h1, h2⟩ := Option.map_eq_some_iff.1 h
  unfold sizeOf
  simp [run_typeInfoA h1, h2]
theorem run_isAggA {b : Bool} (h : isAggT P t = some b) : (isAgg t).run P w = .ok b w := by
  unfold isAggT at h
  unfold isAgg
  split at h
  · rename_i h1; simp at h; subst h; simp [run_underlyingA h1]
  · rename_i h1; simp at h; subst h; simp [run_underlyingA h1]
  · rename_i d h2 h3 h1
    simp at h
    subst h
    simp only [Sem.run_bind, run_underlyingA h1, Result.andThen_ok]
    cases d <;> first | rfl | exact (h2 _ rfl).elim | exact (h3 _ _ rfl).elim
  · simp at h
theorem zeroT_spec {l : List CV} (h : zeroT P t = some l) : ∃ i z, P.info? t = some i ∧ i.zero = some z ∧ cvsOf z.cells.toList = some l ∧ l.length = i.size := by
  unfold zeroT at h
  split at h
  · rename_i i h1
    split at h
    · rename_i z h2
      split at h
      · rename_i l' h3
        split at h
        · rename_i h4
          simp at h
          subst h
          exact ⟨i, z, h1, h2, h3, h4⟩
        · simp at h
      · simp at h
    · simp at h
  · simp at h
theorem run_zeroA {i : TypeInfo} {z : Value} (h : P.info? t = some i) (hz : i.zero = some z) : (zeroValue t).run P w = .ok z w := by
  unfold zeroValue
  simp [run_typeInfoA h, hz]
end

section
variable {P : Program} {β : Inj} {w : World} {T : Tm} {ρ : Operand → Value} {h : H}

/-- What is loaded. -/
theorem load_rel (hR : Rel P β h w) {a : Nat × Nat} {m : Addr} (ha : addrR β a m) {k : Nat} {cs : List CV} (hl : h.load a k = some cs) :
    ∃ vs : List Value, vs.length = k ∧ relL P β w cs vs ∧ ∀ (j : Nat) (v : Value), vs[j]? = some v → w.cell? (m.add j) = some v := by
  obtain ⟨b, d, h1, rfl⟩ := ha
  unfold H.load at hl
  split at hl
  · rename_i hc
    obtain ⟨⟨_, hd⟩, hk⟩ := hc
    simp at hl
    subst hl
    obtain ⟨cells, ty, fr, h2, _, h3⟩ := hR.live _ _ _ hd h1
    have hv : ∀ j, j < k → ∃ c v, (h.f a.1).cs[a.2 + j]? = some c ∧ cells[d + a.2 + j]? = some v ∧ relC P β w c v := by
      intro j hj
      have h4 : (h.f a.1).cs[a.2 + j]? = some ((h.f a.1).cs[a.2 + j]'(by omega)) := List.getElem?_eq_getElem (by omega)
      obtain ⟨v, h5, h6⟩ := h3 _ _ h4
      exact ⟨_, v, h4, by rw [Nat.add_assoc]; exact h5, h6⟩
    have hs : k = 0 ∨ d + a.2 + k ≤ cells.size := by
      rcases Nat.eq_zero_or_pos k with h0 | h0
      · exact .inl h0
      · right
        obtain ⟨c, v, _, h5, _⟩ := hv (k - 1) (by omega)
        have := (Array.getElem?_eq_some_iff.1 h5).1
        omega
    refine ⟨(cells.toList.drop (d + a.2)).take k, ?_, ?_, ?_⟩
    · rcases hs with rfl | hs
      · simp
      · simp; omega
    · refine relL.of_get ?_ ?_
      · rcases hs with rfl | hs
        · simp
        · simp; omega
      · intro j c v hc hv'
        rw [List.getElem?_take] at hc hv'
        split at hc
        · rename_i hj
          rw [if_pos hj] at hv'
          rw [List.getElem?_drop] at hc hv'
          obtain ⟨c2, v2, e1, e2, e3⟩ := hv j hj
          rw [e1] at hc
          simp at hc hv'
          rw [e2] at hv'
          simp at hv'
          subst hc
          subst hv'
          exact e3
        · simp at hc
    · intro j v hv'
      rw [List.getElem?_take] at hv'
      split at hv'
      · rw [List.getElem?_drop] at hv'
        unfold World.cell? Addr.add
        simp at hv'
        by_cases hj : j = 0
        · subst hj
          simp [h2]
          simpa using hv'
        · simp [hj, h2]
          exact hv'
      · simp at hv'
  · simp at hl

theorem addrR.spot {a : Nat × Nat} {m : Addr} (h : addrR β a m) : m.spot = none := by
  obtain ⟨b, d, _, rfl⟩ := h
  rfl
theorem addrR.add {a : Nat × Nat} {m : Addr} (h : addrR β a m) (n : Nat) : addrR β (a.1, a.2 + n) (m.add n) := by
  obtain ⟨b, d, h1, rfl⟩ := h
  refine ⟨b, d, h1, ?_⟩
  unfold Addr.add
  by_cases hn : n = 0
  · simp [hn]
  · simp [hn]; omega

theorem run_loadVarA (hR : Rel P β h w) {a : Nat × Nat} {m : Addr} (ha : addrR β a m) {t : TypeId} {k : Nat} {agg : Bool} {cs : List CV}
    (hg : isAggT P t = some agg) (hk : if agg then sizeT P t = some k else k = 1) (hl : h.load a k = some cs) :
    ∃ v : Value, (loadVar t m).run P w = .ok v w ∧ relV P β w (if agg then .agg cs else match cs with | [c] => .one c | _ => undefA) v := by
  obtain ⟨vs, h1, h2, h3⟩ := load_rel hR ha hl
  unfold loadVar
  cases agg with
  | true =>
    simp only [if_true] at hk
    subst h1
    refine ⟨.agg vs.toArray, ?_, vs.toArray, rfl, by simpa using h2⟩
    simp [run_isAggA hg, run_sizeA hk, run_loadCells_list w m vs h3]
  | false =>
    simp only [Bool.false_eq_true, if_false] at hk
    subst hk
    match vs, h1 with
    | [v], _ =>
      match cs, h2 with
      | [c], h2 =>
        refine ⟨v, ?_, h2.1⟩
        have h4 := h3 0 v (by simp)
        simp only [Addr.add, if_true] at h4
        simp [run_isAggA hg, load, Sem.run, h4]


theorem strBytes_rel : ∀ {cs : List CV} {vs : List Value} {l : List Int}, relL P β w cs vs → strBytes cs = some l → vs = l.map (Value.int .u8)
  | [], [], l, _, hb => by
    simp [strBytes] at hb
    subst hb
    rfl
  | c :: r, v :: s, l, ⟨h1, h2⟩, hb => by
    unfold strBytes at hb
    split at hb
    · rename_i he; cases he
    · rename_i n r' he
      cases he
      obtain ⟨l', h3, rfl⟩ := Option.map_eq_some_iff.1 hb
      rw [strBytes_rel h2 h3, show v = _ from h1]
      rfl
    · simp at hb
  | [], _ :: _, _, h, _ => h.elim
  | _ :: _, [], _, h, _ => h.elim

theorem run_value (s : Sem Value) {u : Value} (hs : s.run P w = .ok u w) : (do pure (Next.value (← s)) : Sem Next).run P w = .ok (.value u) w := by
  simp [hs]

/-! ### bounds of a cut -/
theorem boundA_run {x : Operand} {ax : AX} (hO : relO P β w T ρ) (hx : opnd x = some ax) {y y' i : Nat} (hy : y ≤ y') (hb : boundA T ax y = some i) (code : BoundsCode) :
    (Instr.sliceBound (ρ x) y' code).run P w = .ok i w ∧ i ≤ y := by
  have hr := hO x ax hx
  unfold boundA at hb
  split at hb
  · rename_i k j he
    rw [he] at hr
    have hv : ρ x = .int k j := hr
    split at hb
    · rename_i hc
      simp at hb
      subst hb
      refine ⟨?_, by omega⟩
      unfold Instr.sliceBound
      rw [hv]
      simp only [asIntOf]
      have : (0 ≤ j ∧ j ≤ (y' : Int)) := by omega
      simp [this]
    · simp at hb
  · simp at hb

theorem boundsA_run (isS : Bool) {lo hi mx : Option Operand} {alo ahi amx : Option AX} (hO : relO P β w T ρ) (h1 : oopnd lo = some alo) (h2 : oopnd hi = some ahi) (h3 : oopnd mx = some amx)
    {n c' : Nat} {c : Option Nat} (hn : n ≤ c') (hc : c = none ∨ c = some c') {l h : Nat} {m : Option Nat} (hb : boundsA T n c alo ahi amx = some (l, h, m)) :
    ∃ m', (Instr.sliceBounds isS n c' (lo.map ρ) (hi.map ρ) (mx.map ρ)).run P w = .ok (l, h, m') w ∧ l ≤ h ∧ h ≤ m' ∧ m' ≤ c' ∧ (m = none ∨ m = some m') := by
  unfold boundsA at hb
  have hcg : c.getD n ≤ c' := by rcases hc with rfl | rfl <;> simp <;> omega
  split at hb
  · simp at hb
  rename_i m0 hm0
  split at hb
  · simp at hb
  rename_i h0 hh0
  split at hb
  · simp at hb
  rename_i l0 hl0
  simp only [Option.some.injEq, Prod.mk.injEq] at hb
  obtain ⟨rfl, rfl, rfl⟩ := hb
  -- the greatest
  have hm : ∃ m' : Nat, (match (mx.map ρ : Option Value) with | some v => Instr.sliceBound v c' (if isS then .slice3Acap else .slice3Alen) | none => pure c' : Sem Nat).run P w = .ok m' w ∧ m' ≤ c' ∧
      ((m0 = none ∧ c = none ∧ mx = none ∧ m' = c') ∨ (m0 = some m' ∧ (mx = none → m' = c'))) := by
    unfold maxA at hm0
    cases mx with
    | none =>
      simp [oopnd] at h3
      subst h3
      simp at hm0
      subst hm0
      refine ⟨c', rfl, Nat.le_refl _, ?_⟩
      rcases hc with rfl | rfl <;> simp
    | some x =>
      simp only [oopnd, Option.map_eq_some_iff] at h3
      obtain ⟨ax, h4, rfl⟩ := h3
      simp only [Option.map_eq_some_iff] at hm0
      obtain ⟨m1, hbx, rfl⟩ := hm0
      obtain ⟨h5, h6⟩ := boundA_run hO h4 hcg hbx (if isS then .slice3Acap else .slice3Alen)
      exact ⟨m1, h5, by omega, .inr ⟨rfl, by simp⟩⟩
  obtain ⟨m', hm1, hm2, hm3⟩ := hm
  have hmg : m0.getD n ≤ m' := by
    rcases hm3 with ⟨rfl, _, _, rfl⟩ | ⟨rfl, _⟩ <;> simp
    omega
  have hhi : h0 ≤ m' ∧ (match (hi.map ρ : Option Value), (mx.map ρ : Option Value) with
      | some v, some _ => Instr.sliceBound v m' .slice3B
      | some v, none => Instr.sliceBound v m' (if isS then .sliceAcap else .sliceAlen)
      | none, none => pure n
      | none, some _ => stuck "Slice: max without high" : Sem Nat).run P w = .ok h0 w := by
    unfold highA at hh0
    cases hi with
    | none =>
      simp [oopnd] at h2
      subst h2
      simp only at hh0
      cases mx with
      | none =>
        simp [oopnd] at h3
        subst h3
        simp at hh0
        subst hh0
        refine ⟨?_, rfl⟩
        rcases hm3 with ⟨_, _, _, rfl⟩ | ⟨_, h7⟩
        · exact hn
        · rw [h7 rfl]; exact hn
      | some x =>
        simp only [oopnd, Option.map_eq_some_iff] at h3
        obtain ⟨ax, h4, rfl⟩ := h3
        simp at hh0
    | some x =>
      simp only [oopnd, Option.map_eq_some_iff] at h2
      obtain ⟨ax, h4, rfl⟩ := h2
      simp only at hh0
      cases mx with
      | none =>
        obtain ⟨h5, h6⟩ := boundA_run hO h4 hmg hh0 (if isS then .sliceAcap else .sliceAlen)
        exact ⟨by omega, h5⟩
      | some y =>
        obtain ⟨h5, h6⟩ := boundA_run hO h4 hmg hh0 .slice3B
        exact ⟨by omega, h5⟩
  obtain ⟨hh1, hh2⟩ := hhi
  have hlo : l0 ≤ h0 ∧ (match (lo.map ρ : Option Value) with
      | some v => Instr.sliceBound v h0 (if (mx.map ρ).isSome then .slice3C else .sliceB)
      | none => pure 0 : Sem Nat).run P w = .ok l0 w := by
    unfold lowA at hl0
    cases lo with
    | none =>
      simp [oopnd] at h1
      subst h1
      simp at hl0
      subst hl0
      exact ⟨Nat.zero_le _, rfl⟩
    | some x =>
      simp only [oopnd, Option.map_eq_some_iff] at h1
      obtain ⟨ax, h4, rfl⟩ := h1
      simp only at hl0
      obtain ⟨h5, h6⟩ := boundA_run hO h4 (Nat.le_refl h0) hl0 (if (mx.map ρ).isSome then .slice3C else .sliceB)
      exact ⟨h6, h5⟩
  obtain ⟨hl1, hl2⟩ := hlo
  refine ⟨m', ?_, hl1, hh1, hm2, ?_⟩
  · unfold Instr.sliceBounds
    cases mx <;> cases hi <;> cases lo <;> simp_all
  · rcases hm3 with ⟨rfl, _⟩ | ⟨rfl, _⟩
    · exact .inl rfl
    · exact .inr rfl
end
end Go.Proofs.YtoeceafibmafpaaDoor.Am
/-! The abstract machine: each operation without effect on the heap, one by one, against the model's. -/
namespace Go.Proofs.YtoeceafibmafpaaDoor.Am
open Go

/-- The model's operation gives a value that v stands for; the world stays. -/
def PureOk (P : Program) (β : Inj) (w : World) (ρ : Operand → Value) (op : Op) (v : AV) : Prop :=
  ∃ u, (∀ o : Oper, o.op = op → (execOp ρ o).run P w = .ok (.value u) w) ∧ relV P β w v u

section
variable {P : Program} {β : Inj} {w : World} {T : Tm} {ρ : Operand → Value} {h : H} {v : AV}

theorem pure_mov {x : Operand} {ax : AX} (hO : relO P β w T ρ) (hx : opnd x = some ax) (hv : pureA (.mov ax) T h = some v) : PureOk P β w ρ (.move x) v ∧ PureOk P β w ρ (.assign x) v := by
  simp only [pureA, Option.some.injEq] at hv
  subst hv
  exact ⟨⟨ρ x, fun o ho => by simp [execOp, ho], hO x ax hx⟩, ⟨ρ x, fun o ho => by simp [execOp, ho], hO x ax hx⟩⟩

theorem pure_pick {c a b : Operand} {ac aa ab : AX} (hO : relO P β w T ρ) (h1 : opnd c = some ac) (h2 : opnd a = some aa) (h3 : opnd b = some ab)
    (hv : pureA (.pick ac aa ab) T h = some v) : PureOk P β w ρ (.pick c a b) v := by
  have hc := hO c ac h1
  simp only [pureA] at hv
  split at hv
  · rename_i t he
    rw [he] at hc
    have hc : ρ c = .bool t := hc
    simp only [Option.some.injEq] at hv
    subst hv
    refine ⟨if t then ρ a else ρ b, fun o ho => ?_, ?_⟩
    · simp [execOp, ho, hc, asBool]
    · cases t
      · exact hO b ab h3
      · exact hO a aa h2
  · simp at hv

theorem pure_nilCheck {x : Operand} {ax : AX} (hO : relO P β w T ρ) (hx : opnd x = some ax) (hv : pureA (.nilCheck ax) T h = some v) : PureOk P β w ρ (.nilCheck x) v := by
  have hr := hO x ax hx
  simp only [pureA] at hv
  split at hv
  · rename_i a he
    simp only [Option.some.injEq] at hv
    subst hv
    rw [he] at hr
    obtain ⟨m, h1, h2⟩ := hr
    exact ⟨_, fun o ho => by simp [execOp, ho, h1], m, rfl, h2⟩
  · rename_i f c he
    simp only [Option.some.injEq] at hv
    subst hv
    rw [he] at hr
    obtain ⟨cv, h1, h2⟩ := hr
    exact ⟨_, fun o ho => by simp [execOp, ho, h1], cv, rfl, h2⟩
  · simp at hv

theorem pure_extract {x : Operand} {ax : AX} {i : Nat} (hO : relO P β w T ρ) (hx : opnd x = some ax) (hv : pureA (.extract ax i) T h = some v) : PureOk P β w ρ (.extract x i) v := by
  have hr := hO x ax hx
  simp only [pureA] at hv
  split at hv
  · rename_i l he
    rw [he] at hr
    obtain ⟨arr, h1, h2⟩ := hr
    obtain ⟨u, h3, h4⟩ := relT.get h2 hv
    have h5 : arr[i]? = some u := by simpa using h3
    exact ⟨u, fun o ho => by simp [execOp, ho, h1, Instr.extract, h5], h4.relV⟩
  · simp at hv

theorem pure_not {x : Operand} {t : TypeId} {ax : AX} (hO : relO P β w T ρ) (hx : opnd x = some ax) (hv : pureA (.not ax) T h = some v) : PureOk P β w ρ (.unOp .not t x) v := by
  have hr := hO x ax hx
  simp only [pureA] at hv
  split at hv
  · rename_i b he
    simp only [Option.some.injEq] at hv
    subst hv
    rw [he] at hr
    have hr : ρ x = .bool b := hr
    exact ⟨.bool (!b), fun o ho => by simp [execOp, ho, hr, Op.unary], rfl⟩
  · simp at hv

theorem pure_conv {x : Operand} {s d : TypeId} {ax : AX} {k k0 : IntKind} (hO : relO P β w T ρ) (hx : opnd x = some ax) (hs : P.underlying s = some (.int k0)) (hd : P.underlying d = some (.int k))
    (hv : pureA (.conv k ax) T h = some v) : PureOk P β w ρ (.convert s d x) v := by
  have hr := hO x ax hx
  simp only [pureA] at hv
  split at hv
  · rename_i k1 n he
    simp only [Option.some.injEq] at hv
    subst hv
    rw [he] at hr
    have hr : ρ x = .int k1 n := hr
    exact ⟨.int k (k.wrap n), fun o ho => by simp [execOp, ho, hr, convert, run_underlyingA hs, run_underlyingA hd, Conv.intToInt], rfl⟩
  · simp at hv

theorem pure_len {x : Operand} {t e : TypeId} {ax : AX} (hO : relO P β w T ρ) (hx : opnd x = some ax) (ht : P.underlying t = some (.slice e))
    {c : Call} (hc : c.callee = .builtin .len) (ha : c.args.toList = [x]) (hty : c.argTypes[0]? = some t) (hv : pureA (.len ax) T h = some v) : PureOk P β w ρ (.call c) v := by
  have hr := hO x ax hx
  have hargs : c.args = #[x] := by rw [← Array.toArray_toList (xs := c.args), ha]
  simp only [pureA] at hv
  split at hv
  · rename_i a n k he
    simp only [Option.some.injEq] at hv
    subst hv
    rw [he] at hr
    have hr : ∃ b c, ρ x = .slice b n c := by
      cases a with
      | none => exact ⟨none, 0, by rw [hr.2.2, hr.1]⟩
      | some a => obtain ⟨m, c', h1, _⟩ := hr; exact ⟨_, c', h1⟩
    obtain ⟨b, cc, hr⟩ := hr
    exact ⟨.int .i64 n, fun o ho => by simp [execOp, ho, resolve, hc, hargs, invoke, builtin, Builtin.len_, hty, hr, run_underlyingA ht, goInt], rfl⟩
  · simp at hv

theorem pure_lenStr {x : Operand} {t : TypeId} {ax : AX} (hO : relO P β w T ρ) (hx : opnd x = some ax) (ht : P.underlying t = some .string)
    {c : Call} (hc : c.callee = .builtin .len) (ha : c.args.toList = [x]) (hty : c.argTypes[0]? = some t) (hv : pureA (.lenStr ax) T h = some v) : PureOk P β w ρ (.call c) v := by
  have hr := hO x ax hx
  have hargs : c.args = #[x] := by rw [← Array.toArray_toList (xs := c.args), ha]
  simp only [pureA] at hv
  split at hv
  · rename_i s he
    simp only [Option.some.injEq] at hv
    subst hv
    rw [he] at hr
    have hr : ρ x = .string s := hr
    exact ⟨.int .i64 s.size, fun o ho => by simp [execOp, ho, resolve, hc, hargs, invoke, builtin, Builtin.len_, hty, hr, run_underlyingA ht, goInt], rfl⟩
  · simp at hv

theorem pure_cap {x : Operand} {t e : TypeId} {ax : AX} (hO : relO P β w T ρ) (hx : opnd x = some ax) (ht : P.underlying t = some (.slice e))
    {c : Call} (hc : c.callee = .builtin .cap) (ha : c.args.toList = [x]) (hty : c.argTypes[0]? = some t) (hv : pureA (.cap ax) T h = some v) : PureOk P β w ρ (.call c) v := by
  have hr := hO x ax hx
  have hargs : c.args = #[x] := by rw [← Array.toArray_toList (xs := c.args), ha]
  simp only [pureA] at hv
  split at hv
  · rename_i a n k he
    simp only [Option.some.injEq] at hv
    subst hv
    rw [he] at hr
    have hr : ∃ b, ρ x = .slice b n k := by
      cases a with
      | none => obtain ⟨h1, h2, h3⟩ := hr; simp at h2; subst h1; subst h2; exact ⟨none, h3⟩
      | some a =>
        obtain ⟨m, c', h1, _, h2, _⟩ := hr
        simp at h2
        subst h2
        exact ⟨_, h1⟩
    obtain ⟨b, hr⟩ := hr
    exact ⟨.int .i64 k, fun o ho => by simp [execOp, ho, resolve, hc, hargs, invoke, builtin, Builtin.cap_, hty, hr, run_underlyingA ht, goInt], rfl⟩
  · simp at hv

theorem pure_min {x y : Operand} {ax ay : AX} (hO : relO P β w T ρ) (hx : opnd x = some ax) (hy : opnd y = some ay)
    {c : Call} (hc : c.callee = .builtin .min) (ha : c.args.toList = [x, y]) (hv : pureA (.min ax ay) T h = some v) : PureOk P β w ρ (.call c) v := by
  have h1 := hO x ax hx
  have h2 := hO y ay hy
  have hargs : c.args = #[x, y] := by rw [← Array.toArray_toList (xs := c.args), ha]
  simp only [pureA] at hv
  split at hv
  · rename_i k a k' b he he'
    rw [he] at h1
    rw [he'] at h2
    have h1 : ρ x = .int k a := h1
    have h2 : ρ y = .int k' b := h2
    split at hv
    · rename_i hk
      simp only [Option.some.injEq] at hv
      subst hv
      subst hk
      exact ⟨.int k (if b < a then b else a), fun o ho => by simp [execOp, ho, resolve, hc, hargs, invoke, builtin, Builtin.min_, h1, h2, Builtin.min2], rfl⟩
    · simp at hv
  · simp at hv

theorem pure_faddr {x : Operand} {s : TypeId} {f : Nat} {fs : Array Field} {fd : Field} {k : Nat} {ax : AX} (hO : relO P β w T ρ) (hx : opnd x = some ax) (hs : P.underlying s = some (.struct fs)) (hf : fs[f]? = some fd)
    (hk : sizeT P fd.type = some k) (h0 : k ≠ 0) (hv : pureA (.faddr fd.offset ax) T h = some v) : PureOk P β w ρ (.fieldAddr s x f) v := by
  have hr := hO x ax hx
  simp only [pureA] at hv
  split at hv
  · rename_i a he
    simp only [Option.some.injEq] at hv
    subst hv
    rw [he] at hr
    obtain ⟨m, h1, h2⟩ := hr
    refine ⟨.pointer (some (m.add fd.offset)), fun o ho => ?_, _, rfl, h2.add _⟩
    simp [execOp, ho, Instr.fieldAt, run_underlyingA hs, hf, h1, Instr.sureAddr, fieldPlace, run_sizeA hk, h0]
  · simp at hv

theorem pure_iaddr {x i : Operand} {t e : TypeId} {k : Nat} {ax ai : AX} (hO : relO P β w T ρ) (hx : opnd x = some ax) (hi : opnd i = some ai) (ht : P.underlying t = some (.slice e)) (hk : sizeT P e = some k)
    (hv : pureA (.iaddr k ax ai) T h = some v) : PureOk P β w ρ (.indexAddr t x i) v := by
  have h1 := hO x ax hx
  have h2 := hO i ai hi
  simp only [pureA] at hv
  split at hv
  · rename_i a n c kk j he he'
    rw [he] at h1
    rw [he'] at h2
    obtain ⟨m, c', h3, h4, h5, h6⟩ := h1
    have h2 : ρ i = .int kk j := h2
    split at hv
    · rename_i hj
      simp only [Option.some.injEq] at hv
      subst hv
      have hj' : (0 ≤ j ∧ j < (n : Int)) = True := by simp [hj]
      rcases h6 with ⟨h6, _⟩ | ⟨h6, _⟩
      · omega
      refine ⟨.pointer (some (m.add (j.toNat * k))), fun o ho => ?_, _, rfl, h6.add _⟩
      simp [execOp, ho, Instr.indexAt, h2, h3, asIntOf, run_underlyingA ht, hj', run_sizeA hk]
    · simp at hv
  · simp at hv

theorem pure_idxStr {x i : Operand} {t : TypeId} {ax ai : AX} (hO : relO P β w T ρ) (hx : opnd x = some ax) (hi : opnd i = some ai) (ht : P.underlying t = some .string)
    (hv : pureA (.idxStr ax ai) T h = some v) : PureOk P β w ρ (.index t x i) v := by
  have h1 := hO x ax hx
  have h2 := hO i ai hi
  simp only [pureA] at hv
  split at hv
  · rename_i s kk j he he'
    rw [he] at h1
    rw [he'] at h2
    have h1 : ρ x = .string s := h1
    have h2 : ρ i = .int kk j := h2
    split at hv
    · rename_i hj
      split at hv
      · rename_i b hb
        simp only [Option.some.injEq] at hv
        subst hv
        exact ⟨.int .u8 b.toNat, fun o ho => by simp [execOp, ho, Instr.index, h1, h2, asIntOf, run_underlyingA ht, hj, hb], rfl⟩
      · simp at hv
    · simp at hv
  · simp at hv

theorem pure_load {x : Operand} {t : TypeId} {k : Nat} {agg : Bool} {ax : AX} (hR : Rel P β h w) (hO : relO P β w T ρ) (hx : opnd x = some ax) (hg : isAggT P t = some agg) (hk : if agg then sizeT P t = some k else k = 1)
    (hv : pureA (.load k agg ax) T h = some v) : PureOk P β w ρ (.load t x) v := by
  have hr := hO x ax hx
  simp only [pureA] at hv
  split at hv
  · rename_i a he
    rw [he] at hr
    obtain ⟨m, h1, h2⟩ := hr
    split at hv
    · rename_i cs hl
      obtain ⟨u, h3, h4⟩ := run_loadVarA hR h2 hg hk hl
      refine ⟨u, fun o ho => by simp [execOp, ho, Instr.loadAt, h1, Instr.sureAddr, h3], ?_⟩
      cases agg with
      | true => simp at hv; subst hv; exact h4
      | false =>
        simp only [Bool.false_eq_true, if_false] at hv h4
        split at hv
        · simp at hv; subst hv; exact h4
        · simp at hv
    · simp at hv
  · simp at hv

theorem boundsA_known {n c l h' : Nat} {m : Option Nat} {lo hi mx : Option AX} (hb : boundsA T n (some c) lo hi mx = some (l, h', m)) : m.isSome = true := by
  unfold boundsA at hb
  split at hb
  · simp at hb
  · rename_i m0 hm0
    split at hb
    · simp at hb
    · split at hb
      · simp at hb
      · simp only [Option.some.injEq, Prod.mk.injEq] at hb
        obtain ⟨_, _, rfl⟩ := hb
        unfold maxA at hm0
        split at hm0
        · obtain ⟨q, _, rfl⟩ := Option.map_eq_some_iff.1 hm0
          rfl
        · simp at hm0
          subst hm0
          rfl

theorem pure_slice {x : Operand} {lo hi mx : Option Operand} {t e : TypeId} {k : Nat} {ax : AX} {alo ahi amx : Option AX} (hR : Rel P β h w) (hO : relO P β w T ρ) (hx : opnd x = some ax)
    (h1 : oopnd lo = some alo) (h2 : oopnd hi = some ahi) (h3 : oopnd mx = some amx) (ht : P.underlying t = some (.slice e)) (hk : sizeT P e = some k) (hk' : k = P.cellsOf e)
    (hv : pureA (.slice e k ax alo ahi amx) T h = some v) : PureOk P β w ρ (.slice t x lo hi mx) v := by
  have hr := hO x ax hx
  simp only [pureA] at hv
  split at hv
  · rename_i n c he
    rw [he] at hr
    obtain ⟨h4, h5, h6⟩ := hr
    subst h4
    subst h5
    split at hv
    · rename_i l h' m hb
      simp only [Option.some.injEq] at hv
      subst hv
      obtain ⟨m', h7, h8, h9, h10, h11⟩ := boundsA_run true hO h1 h2 h3 (Nat.le_refl 0) (.inr rfl) hb
      have e1 : m' = 0 := by omega
      have e2 : h' = 0 := by omega
      have e3 : l = 0 := by omega
      subst e1
      subst e2
      subst e3
      refine ⟨.slice none 0 0, fun o ho => ?_, ?_⟩
      · simp [execOp, ho, Instr.sliceAt, Instr.slice, run_underlyingA ht, h6, h7, run_sizeA hk]
      · have : m = some 0 := by
          rcases h11 with rfl | rfl
          · have h8 := boundsA_known hb
            simp at h8
          · rfl
        subst this
        exact ⟨rfl, rfl, rfl⟩
    · simp at hv
  · rename_i a n c he
    rw [he] at hr
    obtain ⟨mm, c', h4, h5, h6, h7⟩ := hr
    split at hv
    · rename_i l h' m hb
      split at hv
      · rename_i hty
        simp only [Option.some.injEq] at hv
        subst hv
        obtain ⟨m', g1, g2, g3, g4, g5⟩ := boundsA_run true hO h1 h2 h3 h5 h6 hb
        refine ⟨.slice (if m' = l then some mm else some (mm.add (l * k))) (h' - l) (m' - l), fun o ho => ?_, ?_⟩
        · simp [execOp, ho, Instr.sliceAt, Instr.slice, run_underlyingA ht, h4, g1, run_sizeA hk]
        · by_cases hml : m' = l
          · rw [if_pos hml]
            refine ⟨mm, m' - l, rfl, by omega, by rcases g5 with rfl | rfl <;> simp, .inl ⟨by omega, ?_⟩⟩
            rcases h7 with ⟨_, h7⟩ | ⟨⟨b, d, h7, _⟩, _⟩
            · exact h7
            · exact ⟨_, h7⟩
          · rw [if_neg hml]
            rcases h7 with ⟨h7, _⟩ | ⟨h7, h7x | ⟨ts, s, h8, h9⟩⟩
            · omega
            · refine ⟨_, m' - l, rfl, by omega, by rcases g5 with rfl | rfl <;> simp, .inr ⟨h7.add _, .inl ?_⟩⟩
              unfold Addr.add
              split <;> exact h7x
            by_cases hex : exempt β mm.block
            · refine ⟨_, m' - l, rfl, by omega, by rcases g5 with rfl | rfl <;> simp, .inr ⟨h7.add _, .inl ?_⟩⟩
              unfold Addr.add
              split <;> exact hex
            refine ⟨_, m' - l, rfl, by omega, by rcases g5 with rfl | rfl <;> simp, .inr ⟨h7.add _, .inr ⟨ts, s, ?_, ?_⟩⟩⟩
            · unfold Addr.add
              split <;> exact h8
            · have hoff : (mm.add (l * k)).off = mm.off + l * k := by
                unfold Addr.add
                split
                · omega
                · rfl
              obtain ⟨b, d, hb1, rfl⟩ := h7
              obtain ⟨s', hb2⟩ := (hR.ty _ _ _ hb1).resolve_left hex
              have hty := hty.2
              have : ts = e := by
                rw [show (⟨b, d + a.2, none⟩ : Addr).block = b from rfl] at h8
                rw [hb2] at h8
                simp at h8
                rw [← h8.1, hty]
              subst this
              rw [hoff, hk']
              have e5 : l * P.cellsOf ts + (m' - l) * P.cellsOf ts ≤ c' * P.cellsOf ts := by
                rw [← Nat.add_mul]
                exact Nat.mul_le_mul_right _ (by omega)
              omega
      · simp at hv
    · simp at hv
  · simp at hv

theorem pure_sliceStr {x : Operand} {lo hi : Option Operand} {t : TypeId} {ax : AX} {alo ahi : Option AX} (hO : relO P β w T ρ) (hx : opnd x = some ax)
    (h1 : oopnd lo = some alo) (h2 : oopnd hi = some ahi) (ht : P.underlying t = some .string)
    (hv : pureA (.sliceStr ax alo ahi) T h = some v) : PureOk P β w ρ (.slice t x lo hi none) v := by
  have hr := hO x ax hx
  simp only [pureA] at hv
  split at hv
  · rename_i s he
    rw [he] at hr
    have hr : ρ x = .string s := hr
    split at hv
    · rename_i l h' m hb
      simp only [Option.some.injEq] at hv
      subst hv
      obtain ⟨m', g1, g2, g3, g4, g5⟩ := boundsA_run false hO h1 h2 (mx := none) rfl (Nat.le_refl s.size) (.inr rfl) hb
      refine ⟨.string (s.extract l h'), fun o ho => ?_, rfl⟩
      simp only [Option.map_none] at g1
      simp [execOp, ho, Instr.sliceAt, Instr.slice, run_underlyingA ht, hr, g1]
    · simp at hv
  · simp at hv
end
end Go.Proofs.YtoeceafibmafpaaDoor.Am
/-! The abstract machine: the other operations without effect on the heap (operators, parts of structs, functions made, bytes read as text), and all of them together. -/
namespace Go.Proofs.YtoeceafibmafpaaDoor.Am
open Go

section
variable {P : Program} {β : Inj} {w : World} {T : Tm} {ρ : Operand → Value} {h : H} {v : AV}

theorem run_guardA (op : BinOp) (t : TypeId) (x y : Operand) (a b : Value) (h1 : a ≠ .nilIface) (h2 : (∃ c, a = .agg c) → P.eqGuardType P.depth t = false) : (eqGuard op t x y a b).run P w = .ok () w := by
  cases op <;> cases a <;> first
    | (simp [eqGuard]; done)
    | exact absurd rfl h1
    | (cases b <;> simp [eqGuard, program, Sem.run, h2 ⟨_, rfl⟩])

theorem pure_bin {op : BinOp} {x y : Operand} {t u : TypeId} {ax ay : AX} (hO : relO P β w T ρ) (hx : opnd x = some ax) (hy : opnd y = some ay)
    (hv : pureA (.bin op ax ay) T h = some v) : PureOk P β w ρ (.binOp op t x y u) v := by
  have h1 := hO x ax hx
  have h2 := hO y ay hy
  simp only [pureA] at hv
  generalize ax.ev T = vx at h1 hv
  generalize ay.ev T = vy at h2 hv
  unfold binA at hv
  split at hv
  · rename_i k a k' b
    have h1 : ρ x = .int k a := h1
    have h2 : ρ y = .int k' b := h2
    split at hv
    · rename_i hk
      subst hk
      have key : ∀ z : Value, (binOp op t (.int k a) (.int k b)).run P w = .ok z w → (∃ c, v = .one c ∧ relC P β w c z) → PureOk P β w ρ (.binOp op t x y u) v := by
        rintro z hz ⟨c, rfl, hc⟩
        refine ⟨z, fun o ho => ?_, hc⟩
        simp only [execOp, ho, Sem.run_bind, h1, h2]
        rw [run_guardA op t x y _ _ (by simp) (by simp)]
        simp [hz]
      cases op <;> simp only [Option.some.injEq, reduceCtorEq] at hv <;> first
        | (subst hv; exact key _ (by simp [binOp, Op.intArith, Op.intBits, Op.intCmp]) ⟨_, rfl, rfl⟩)
        | (split at hv
           · cases hv
           · rename_i h0; simp only [Option.some.injEq] at hv; subst hv; exact key _ (by simp [binOp, Op.intDiv, h0]) ⟨_, rfl, rfl⟩)
    · simp at hv
  · rename_i a b
    have h1 : ρ x = .string a := h1
    have h2 : ρ y = .string b := h2
    have key : ∀ z : Value, (binOp op t (.string a) (.string b)).run P w = .ok z w → (∃ c, v = .one c ∧ relC P β w c z) → PureOk P β w ρ (.binOp op t x y u) v := by
      rintro z hz ⟨c, rfl, hc⟩
      refine ⟨z, fun o ho => ?_, hc⟩
      simp only [execOp, ho, Sem.run_bind, h1, h2]
      rw [run_guardA op t x y _ _ (by simp) (by simp)]
      simp [hz]
    cases op <;> simp only [Option.some.injEq, reduceCtorEq] at hv <;> first
      | (subst hv; exact key _ (by simp [binOp, Op.stringOp]) ⟨_, rfl, rfl⟩)
      | (split at hv
         · simp at hv
         · rename_i h0; simp only [Option.some.injEq] at hv; subst hv
           refine key (.string (a ++ b)) ?_ ⟨_, rfl, rfl⟩
           have h3 : ¬ (((a.size + b.size : Nat) : Int) > IntKind.i64.max) := by
             have : IntKind.i64.max = 9223372036854775807 := by decide
             omega
           simp only [binOp, Op.stringOp, if_neg h3]
           rfl)
  · simp at hv

theorem pure_eqb {neg : Bool} {op : BinOp} {x y : Operand} {t u : TypeId} {ax ay : AX} (hO : relO P β w T ρ) (hx : opnd x = some ax) (hy : opnd y = some ay) (ht : P.underlying t = some .bool)
    (hop : op = if neg then .neq else .eql) (hv : pureA (.eqb neg ax ay) T h = some v) : PureOk P β w ρ (.binOp op t x y u) v := by
  have h1 := hO x ax hx
  have h2 := hO y ay hy
  simp only [pureA] at hv
  split at hv
  · rename_i a b he he'
    rw [he] at h1
    rw [he'] at h2
    have h1 : ρ x = .bool a := h1
    have h2 : ρ y = .bool b := h2
    simp only [Option.some.injEq] at hv
    subst hv
    have h3 : (Op.equal t (.bool a) (.bool b)).run P w = .ok (a == b) w := by
      exact run_equalIn_bool' w 9999 t a b ht
    refine ⟨.bool ((a == b) != neg), fun o ho => ?_, rfl⟩
    simp only [execOp, ho, Sem.run_bind, h1, h2]
    rw [run_guardA op t x y _ _ (by simp) (by simp)]
    cases neg <;> subst hop <;> simp [binOp, h3]
  · simp at hv

theorem eqnil_run (d : Nat) {t e : TypeId} {b : Option Addr} {n c : Nat} (ht : P.underlying t = some (.slice e)) : (Op.equalIn (d + 1) t (.slice b n c) (.slice none 0 0)).run P w = .ok b.isNone w := by
  cases b <;> simp [Op.equalIn, run_underlyingA ht]

theorem pure_eqnil {neg : Bool} {op : BinOp} {x y : Operand} {t u e : TypeId} {ax ay : AX} (hO : relO P β w T ρ) (hx : opnd x = some ax) (hy : opnd y = some ay) (ht : P.underlying t = some (.slice e))
    (hop : op = if neg then .neq else .eql) (hv : pureA (.eqnil neg ax ay) T h = some v) : PureOk P β w ρ (.binOp op t x y u) v := by
  have h1 := hO x ax hx
  have h2 := hO y ay hy
  simp only [pureA] at hv
  split at hv
  · rename_i a n c n' c' he he'
    rw [he] at h1
    rw [he'] at h2
    obtain ⟨_, _, h2⟩ := h2
    simp only [Option.some.injEq] at hv
    subst hv
    have h3 : ∃ b n'' c'', ρ x = .slice b n'' c'' ∧ b.isNone = a.isNone := by
      cases a with
      | none => exact ⟨none, 0, 0, h1.2.2, rfl⟩
      | some a => obtain ⟨m, c', h1, _⟩ := h1; exact ⟨_, _, _, h1, rfl⟩
    obtain ⟨b, n'', c'', h3, h4⟩ := h3
    have h5 : (Op.equal t (.slice b n'' c'') (.slice none 0 0)).run P w = .ok (a.isNone) w := by
      rw [← h4]
      exact eqnil_run 9999 ht
    refine ⟨.bool (a.isNone != neg), fun o ho => ?_, rfl⟩
    simp only [execOp, ho, Sem.run_bind, h3, h2]
    rw [run_guardA op t x y _ _ (by simp) (by simp)]
    cases neg <;> subst hop <;> simp [binOp, h5]
  · simp at hv

theorem eq_step {d : Nat} {xs ys : Array Value} {f : Field} {fs : List Field} {a b : Value} {r s : Bool} (hn : (f.name == "_") = false) (ha : (part f.type xs f.offset).run P w = .ok a w)
    (hb : (part f.type ys f.offset).run P w = .ok b w) (he : (Op.equalIn d f.type a b).run P w = .ok r w) (hr : (Op.eqFields d xs ys fs).run P w = .ok s w) :
    (Op.eqFields d xs ys (f :: fs)).run P w = .ok (r && s) w := by
  have hn' : f.name ≠ "_" := by simpa using hn
  rw [Op.eqFields]
  simp only [if_pos hn', Sem.run_bind, ha, hb, he, Result.andThen_ok]
  cases r
  · simp
  · simpa using hr

theorem part_scalar {t : TypeId} {k : Nat} {zs : Array Value} {z : Value} {q : List Value} (hz : zs.toList.drop k = z :: q) (hg : isAggT P t = some false) : (part t zs k).run P w = .ok z w := by
  have h3 : zs[k]? = some z := by
    have h4 := congrArg (fun l => l[0]?) hz
    simp at h4
    simpa using h4
  simp [part, run_isAggA hg, h3]
theorem drop_next {zs : Array Value} {z : Value} {q : List Value} {k : Nat} (hz : zs.toList.drop k = z :: q) : zs.toList.drop (k + 1) = q := by
  rw [← List.drop_drop, hz]
  rfl
theorem relL_cons {c : CV} {l : List CV} {vs : List Value} (h : relL P β w (c :: l) vs) : ∃ v r, vs = v :: r ∧ relC P β w c v ∧ relL P β w l r := by
  cases vs with
  | nil => exact h.elim
  | cons v r => exact ⟨v, r, rfl, h.1, h.2⟩

theorem eqK_run {d : Nat} {xs ys : Array Value} : ∀ {fs : List Field} {ks : List Nat} {k : Nat} {as bs : List CV} {r : Bool}, kindsF P k fs = some ks → eqK ks as bs = some r →
    relL P β w as (xs.toList.drop k) → relL P β w bs (ys.toList.drop k) → (Op.eqFields (d + 1) xs ys fs).run P w = .ok r w
  | [], ks, k, as, bs, r, hk, he, h1, h2 => by
    simp [kindsF] at hk
    subst hk
    cases as <;> cases bs <;> simp [eqK] at he
    subst he
    simp [Op.eqFields]
  | f :: fs, ks, k, as, bs, r, hk, he, h1, h2 => by
    unfold kindsF at hk
    split at hk
    · rename_i hf
      obtain ⟨hf1, hf2⟩ := hf
      split at hk
      · rename_i hu
        obtain ⟨ks', hk', rfl⟩ := Option.map_eq_some_iff.1 hk
        have hg : isAggT P f.type = some false := by simp [isAggT, hu]
        cases as with
        | nil => simp [eqK] at he
        | cons a as => cases bs with
          | nil => cases a <;> simp [eqK] at he
          | cons b bs =>
            cases a <;> cases b <;> simp only [eqK, reduceCtorEq] at he
            obtain ⟨r', he2, rfl⟩ := Option.map_eq_some_iff.1 he
            obtain ⟨x, xr, hx, hx1, hx2⟩ := relL_cons h1
            obtain ⟨y, yr, hy, hy1, hy2⟩ := relL_cons h2
            have hx1 : x = .bool _ := hx1
            have hy1 : y = .bool _ := hy1
            refine eq_step hf1 (by rw [hf2]; exact part_scalar hx hg) (by rw [hf2]; exact part_scalar hy hg) ?_ (eqK_run hk' he2 (by rw [drop_next hx]; exact hx2) (by rw [drop_next hy]; exact hy2))
            rw [hx1, hy1]
            simp [Op.equalIn, run_underlyingA hu]
      · rename_i kk hu
        obtain ⟨ks', hk', rfl⟩ := Option.map_eq_some_iff.1 hk
        have hg : isAggT P f.type = some false := by simp [isAggT, hu]
        cases as with
        | nil => simp [eqK] at he
        | cons a as => cases bs with
          | nil => cases a <;> simp [eqK] at he
          | cons b bs =>
            cases a <;> cases b <;> simp only [eqK, reduceCtorEq] at he
            split at he
            rotate_left
            · cases he
            rename_i hkk
            subst hkk
            obtain ⟨r', he2, rfl⟩ := Option.map_eq_some_iff.1 he
            obtain ⟨x, xr, hx, hx1, hx2⟩ := relL_cons h1
            obtain ⟨y, yr, hy, hy1, hy2⟩ := relL_cons h2
            have hx1 : x = .int _ _ := hx1
            have hy1 : y = .int _ _ := hy1
            refine eq_step hf1 (by rw [hf2]; exact part_scalar hx hg) (by rw [hf2]; exact part_scalar hy hg) ?_ (eqK_run hk' he2 (by rw [drop_next hx]; exact hx2) (by rw [drop_next hy]; exact hy2))
            rw [hx1, hy1]
            simp [Op.equalIn, run_underlyingA hu]
      · rename_i hu
        obtain ⟨ks', hk', rfl⟩ := Option.map_eq_some_iff.1 hk
        have hg : isAggT P f.type = some false := by simp [isAggT, hu]
        cases as with
        | nil => simp [eqK] at he
        | cons a as => cases bs with
          | nil => cases a <;> simp [eqK] at he
          | cons b bs =>
            cases a <;> cases b <;> simp only [eqK, reduceCtorEq] at he
            obtain ⟨r', he2, rfl⟩ := Option.map_eq_some_iff.1 he
            obtain ⟨x, xr, hx, hx1, hx2⟩ := relL_cons h1
            obtain ⟨y, yr, hy, hy1, hy2⟩ := relL_cons h2
            have hx1 : x = .string _ := hx1
            have hy1 : y = .string _ := hy1
            refine eq_step hf1 (by rw [hf2]; exact part_scalar hx hg) (by rw [hf2]; exact part_scalar hy hg) ?_ (eqK_run hk' he2 (by rw [drop_next hx]; exact hx2) (by rw [drop_next hy]; exact hy2))
            rw [hx1, hy1]
            simp [Op.equalIn, run_underlyingA hu, beq_toListBytes]
      · simp at hk
    · simp at hk

theorem pure_eqst {neg : Bool} {op : BinOp} {x y : Operand} {t u : TypeId} {fs : Array Field} {ks : List Nat} {ax ay : AX} (hO : relO P β w T ρ) (hx : opnd x = some ax) (hy : opnd y = some ay)
    (ht : P.underlying t = some (.struct fs)) (hk : kindsF P 0 fs.toList = some ks) (hg : P.eqGuardType P.depth t = false) (hs : P.stoodInHeld t = false)
    (hop : op = if neg then .neq else .eql) (hv : pureA (.eqst neg ks ax ay) T h = some v) : PureOk P β w ρ (.binOp op t x y u) v := by
  have h1 := hO x ax hx
  have h2 := hO y ay hy
  simp only [pureA] at hv
  split at hv
  · rename_i a b he he'
    rw [he] at h1
    rw [he'] at h2
    obtain ⟨xs, h1, h3⟩ := h1
    obtain ⟨ys, h2, h4⟩ := h2
    obtain ⟨r, h5, rfl⟩ := Option.map_eq_some_iff.1 hv
    have h6 : (Op.equal t (.agg xs) (.agg ys)).run P w = .ok r w := by
      unfold Op.equal
      rw [show Op.maxDepth = 9999 + 1 from rfl]
      have hfo : P.fieldsOf t = fs := by simp [Program.fieldsOf, ht]
      rw [run_equalIn_struct w 9999 t xs ys (by rw [hfo]; exact ht) hs, hfo]
      exact eqK_run (d := 9998) hk h5 (by simpa using h3) (by simpa using h4)
    refine ⟨.bool (r != neg), fun o ho => ?_, rfl⟩
    simp only [execOp, ho, Sem.run_bind, h1, h2]
    rw [run_guardA op t x y _ _ (by simp) (fun _ => hg)]
    cases neg <;> subst hop <;> simp [binOp, h6]
  · simp at hv

theorem ptrsA_rel : ∀ {xs : List Operand} {as : List AX} {l : List (Nat × Nat)}, relO P β w T ρ → opnds xs = some as → ptrsA (as.map (·.ev T)) = some l → capsR β l (xs.map ρ)
  | [], as, l, hO, ha, hl => by
    simp [opnds] at ha
    subst ha
    simp [ptrsA] at hl
    subst hl
    trivial
  | x :: xs, as, l, hO, ha, hl => by
    unfold opnds at ha
    split at ha
    · rename_i a l' h1 h2
      simp at ha
      subst ha
      have h3 := hO x a h1
      simp only [List.map_cons] at hl
      cases hev : a.ev T with
      | one c =>
        rw [hev] at hl h3
        cases c with
        | ptr p =>
          cases p with
          | none => simp [ptrsA] at hl
          | some p =>
            simp only [ptrsA] at hl
            obtain ⟨l'', h4, rfl⟩ := Option.map_eq_some_iff.1 hl
            exact ⟨h3, ptrsA_rel hO h2 h4⟩
        | _ => simp [ptrsA] at hl
      | _ => rw [hev] at hl; simp [ptrsA] at hl
    · simp at ha

theorem pure_mkfn {f : Nat} {first caps : Array Operand} {as : List AX} (hO : relO P β w T ρ) (h0 : first.size = 0) (ha : opnds caps.toList = some as) (hv : pureA (.mkfn f as) T h = some v) :
    PureOk P β w ρ (.makeFunc (.func f) first caps) v := by
  simp only [pureA] at hv
  obtain ⟨l, h1, rfl⟩ := Option.map_eq_some_iff.1 hv
  have h2 := ptrsA_rel hO ha h1
  have h3 : first = #[] := Array.size_eq_zero_iff.1 h0
  exact ⟨.func (.func f) #[] (caps.map ρ), fun o ho => by simp [execOp, ho, Instr.makeFunc, h3], caps.map ρ, rfl, by simpa using h2⟩

theorem pure_field {x : Operand} {t : TypeId} {f : Nat} {fs : Array Field} {fd : Field} {k : Nat} {agg : Bool} {ax : AX} (hO : relO P β w T ρ) (hx : opnd x = some ax) (ht : P.underlying t = some (.struct fs)) (hf : fs[f]? = some fd)
    (hg : isAggT P fd.type = some agg) (hk : if agg then sizeT P fd.type = some k else k = 1) (hv : pureA (.field fd.offset k agg ax) T h = some v) : PureOk P β w ρ (.field t x f) v := by
  have hr := hO x ax hx
  simp only [pureA] at hv
  split at hv
  · rename_i cs he
    rw [he] at hr
    obtain ⟨arr, h1, h2⟩ := hr
    split at hv
    · rename_i hlen
      cases agg with
      | true =>
        simp only [if_true] at hk hv
        simp only [Option.some.injEq] at hv
        subst hv
        refine ⟨.agg (arr.extract fd.offset (fd.offset + k)), fun o ho => by simp [execOp, ho, Instr.field, run_underlyingA ht, hf, h1, asAgg, part, run_isAggA hg, run_sizeA hk], _, rfl, ?_⟩
        have h3 := (h2.drop fd.offset).take k
        simpa [List.take_drop, Nat.add_comm] using h3
      | false =>
        simp only [Bool.false_eq_true, if_false] at hk hv
        split at hv
        · rename_i c hc
          simp only [Option.some.injEq] at hv
          subst hv
          obtain ⟨u, h3, h4⟩ := h2.get hc
          have h5 : arr[fd.offset]? = some u := by simpa using h3
          exact ⟨u, fun o ho => by simp [execOp, ho, Instr.field, run_underlyingA ht, hf, h1, asAgg, part, run_isAggA hg, h5], h4⟩
        · simp at hv
    · simp at hv
  · simp at hv

theorem pure_bytesStr {x : Operand} {s d e : TypeId} {ax : AX} (hR : Rel P β h w) (hO : relO P β w T ρ) (hx : opnd x = some ax) (hs : P.underlying s = some (.slice e)) (he : P.underlying e = some (.int .u8)) (hd : P.underlying d = some .string)
    (hv : pureA (.bytesStr ax) T h = some v) : PureOk P β w ρ (.convert s d x) v := by
  have hr := hO x ax hx
  simp only [pureA] at hv
  split at hv
  · rename_i a n c hev
    rw [hev] at hr
    obtain ⟨m, c', h1, h2, h3, h4⟩ := hr
    split at hv
    · simp at hv
    rename_i hn0
    split at hv
    · rename_i cs hl
      obtain ⟨l, h5, rfl⟩ := Option.map_eq_some_iff.1 hv
      rcases Nat.eq_zero_or_pos c' with h0 | h0
      · have hn : n = 0 := by omega
        exact absurd hn hn0
      · rcases h4 with ⟨h4, _⟩ | ⟨h4, _⟩
        · omega
        obtain ⟨vs, h6, h7, h8⟩ := load_rel hR h4 hl
        have h9 := strBytes_rel h7 h5
        subst h9
        have h10 := h4.spot
        obtain ⟨b, o, sp⟩ := m
        simp only at h10
        subst h10
        refine ⟨.string (strOfNums l), fun oo ho => ?_, rfl⟩
        have h11 := run_convert_bytes_arg (w := w) s e hs he b o n c' l (by simpa using h6) (fun i hi => by
          have h12 := h8 i (.int .u8 (l.getD i 0)) (by
            rw [List.getElem?_map]
            have : i < l.length := by simp at h6; omega
            simp [List.getD_eq_getElem?_getD, List.getElem?_eq_getElem this])
          unfold Addr.add at h12
          by_cases hi0 : i = 0
          · simpa [hi0] using h12
          · simpa [hi0] using h12) d hd
        simp [execOp, ho, h1, h11]
    · simp at hv
  · simp at hv
end
end Go.Proofs.YtoeceafibmafpaaDoor.Am
/-! The abstract machine: structs built, rows made; then all operations without effect on the heap together. -/
namespace Go.Proofs.YtoeceafibmafpaaDoor.Am
open Go

theorem splice_foldl (off : Nat) : ∀ (l : List Value) (k : Nat) (cells : Array Value), off + k + l.length ≤ cells.size →
    ((l.zipIdx k).foldl (fun cs x => cs.setIfInBounds (off + x.2) x.1) cells).toList = cells.toList.take (off + k) ++ (l ++ cells.toList.drop (off + k + l.length))
  | [], k, cells, _ => by simp
  | v :: l, k, cells, h => by
    simp only [List.zipIdx_cons, List.foldl_cons]
    rw [splice_foldl off l (k + 1) (cells.setIfInBounds (off + k) v) (by simp at h ⊢; omega)]
    simp only [List.length_cons, Array.toList_setIfInBounds] at h ⊢
    have h1 : off + k < cells.toList.length := by simp; omega
    rw [List.take_set, List.drop_set]
    have h2 : ¬ (off + (k + 1) + l.length < off + k + 1) := by omega
    have e1 : off + (k + 1) = off + k + 1 := by omega
    have e2 : off + (k + 1) + l.length = off + k + (l.length + 1) := by omega
    rw [e2, if_pos (by omega), e1]
    have h3 : (cells.toList.take (off + k + 1)).set (off + k) v = cells.toList.take (off + k) ++ [v] := by
      rw [List.take_succ_eq_append_getElem h1]
      rw [List.set_append_right _ _ (by simp; omega)]
      have h4 : (cells.toList.take (off + k)).length = off + k := by simp; omega
      simp [h4]
    rw [h3]
    simp

section
variable {P : Program} {β : Inj} {w : World} {T : Tm} {ρ : Operand → Value} {h : H} {v : AV}

theorem fill_rel {place : Nat → Option (Nat × Nat)} : ∀ {ps : List (Nat × Operand)} {aps : List (Nat × Nat × AX)} {zs cs : List CV} {cells : Array Value},
    relO P β w T ρ → List.length aps = List.length ps →
    (∀ (j : Nat) (i : Nat) (x : Operand) (a : Nat × Nat × AX), ps[j]? = some (i, x) → aps[j]? = some a → place i = some (a.1, a.2.1) ∧ opnd x = some a.2.2) →
    relL P β w zs cells.toList → fillA zs (aps.map fun p => (p.1, p.2.1, p.2.2.ev T)) = some cs →
    ∃ cells', Instr.fill place cells (ps.map fun p => (p.1, ρ p.2)) = some cells' ∧ relL P β w cs cells'.toList
  | [], [], zs, cs, cells, hO, hl, hp, hz, hf => by
    simp [fillA] at hf
    subst hf
    exact ⟨cells, rfl, hz⟩
  | (i, x) :: ps, a :: aps, zs, cs, cells, hO, hl, hp, hz, hf => by
    obtain ⟨h1, h2⟩ := hp 0 i x a rfl rfl
    have h3 := hO x _ h2
    simp only [List.map_cons, fillA] at hf
    split at hf
    · simp at hf
    · rename_i as ha
      have h4 := h3.cells ha
      have h5 : as.length = (ρ x).cells.size := by simpa using h4.length
      split at hf
      · rename_i hc
        obtain ⟨hc1, hc2⟩ := hc
        have h6 : zs.length = cells.size := by simpa using hz.length
        have h7 : ((ρ x).cells.toList.zipIdx.foldl (fun cs y => cs.setIfInBounds (a.1 + y.2) y.1) cells).toList = cells.toList.take a.1 ++ ((ρ x).cells.toList ++ cells.toList.drop (a.1 + a.2.1)) := by
          have := splice_foldl a.1 (ρ x).cells.toList 0 cells (by simp; omega)
          simp only [Nat.add_zero] at this
          rw [this]
          have e : (ρ x).cells.toList.length = a.2.1 := by simp; omega
          rw [e]
        obtain ⟨cells', h8, h9⟩ := fill_rel (ps := ps) (aps := aps) hO (by simpa using hl) (fun j i x a hj ha => hp (j + 1) i x a (by simpa using hj) (by simpa using ha))
          (cells := ((ρ x).cells.toList.zipIdx.foldl (fun cs y => cs.setIfInBounds (a.1 + y.2) y.1) cells)) (by rw [h7]; exact (hz.take _).append (h4.append (hz.drop _))) hf
        refine ⟨cells', ?_, h9⟩
        simp only [List.map_cons, Instr.fill, h1]
        rw [if_neg (by simp; omega), ← h8]
        congr 1
        rw [← Array.foldl_toList]
        simp
      · simp at hf
  | [], _ :: _, _, _, _, _, hl, _, _, _ => by simp at hl
  | _ :: _, [], _, _, _, _, hl, _, _, _ => by simp at hl

theorem partsS_spec {places : List (Nat × Nat)} : ∀ {ps : List (Nat × Operand)} {aps : List (Nat × Nat × AX)}, partsS places ps = some aps → aps.length = ps.length ∧
    ∀ (j : Nat) (i : Nat) (x : Operand) (a : Nat × Nat × AX), ps[j]? = some (i, x) → aps[j]? = some a → places.toArray[i]? = some (a.1, a.2.1) ∧ opnd x = some a.2.2
  | [], aps, h => by
    simp [partsS] at h
    subst h
    simp
  | (i, x) :: ps, aps, h => by
    unfold partsS at h
    split at h
    · rename_i p a l h1 h2 h3
      simp at h
      subst h
      obtain ⟨h4, h5⟩ := partsS_spec h3
      refine ⟨by simp [h4], ?_⟩
      intro j i' x' a' hj ha
      cases j with
      | zero =>
        simp at hj ha
        obtain ⟨rfl, rfl⟩ := hj
        subst ha
        exact ⟨by simpa using h1, h2⟩
      | succ j => exact h5 j i' x' a' (by simpa using hj) (by simpa using ha)
    · simp at h

theorem partsR_spec {k : Nat} : ∀ {ps : List (Nat × Operand)} {aps : List (Nat × Nat × AX)}, partsR k ps = some aps → aps.length = ps.length ∧
    ∀ (j : Nat) (i : Nat) (x : Operand) (a : Nat × Nat × AX), ps[j]? = some (i, x) → aps[j]? = some a → (fun i => some (i * k, k)) i = some (a.1, a.2.1) ∧ opnd x = some a.2.2
  | [], aps, h => by
    simp [partsR] at h
    subst h
    simp
  | (i, x) :: ps, aps, h => by
    unfold partsR at h
    split at h
    · rename_i a l h2 h3
      simp at h
      subst h
      obtain ⟨h4, h5⟩ := partsR_spec h3
      refine ⟨by simp [h4], ?_⟩
      intro j i' x' a' hj ha
      cases j with
      | zero =>
        simp at hj ha
        obtain ⟨rfl, rfl⟩ := hj
        subst ha
        exact ⟨rfl, h2⟩
      | succ j => exact h5 j i' x' a' (by simpa using hj) (by simpa using ha)
    · simp at h

theorem pure_build {t : TypeId} {parts : Array (Nat × Operand)} {fs : Array Field} {pl : List (Nat × Nat)} {z : List CV} {aps : List (Nat × Nat × AX)} (hO : relO P β w T ρ) (ht : P.underlying t = some (.struct fs))
    (hz : zeroT P t = some z) (hpl : placesT P fs = some pl) (hp : partsS pl parts.toList = some aps) (hv : pureA (.build z aps) T h = some v) : PureOk P β w ρ (.build t parts) v := by
  simp only [pureA] at hv
  obtain ⟨cs, h1, rfl⟩ := Option.map_eq_some_iff.1 hv
  obtain ⟨i, zv, h2, h3, h4, h5⟩ := zeroT_spec hz
  obtain ⟨h6, h7⟩ := partsS_spec hp
  obtain ⟨cells', h8, h9⟩ := fill_rel (P := P) (β := β) (w := w) (place := fun i => pl.toArray[i]?) (cells := zv.cells) hO h6 h7 (cvsOf_rel h4) h1
  refine ⟨.agg cells', fun o ho => ?_, cells', rfl, h9⟩
  have hb : P.built t (parts.map fun (i, x) => (i, ρ x)).toList = some cells' := by
    unfold placesT at hpl
    simp only [Program.built, h2, ht, h3, hpl]
    rw [← h8]
    simp
  simp [execOp, ho, run_build w t _ _ hb]

theorem repl_length (z : List CV) : ∀ n, (repl z n).length = n * z.length
  | 0 => by simp [repl]
  | n + 1 => by simp [repl, repl_length z n, Nat.add_mul]; omega
theorem repl_get (z : List CV) : ∀ (n i : Nat), i < n * z.length → (repl z n)[i]? = z[i % z.length]?
  | 0, i, h => by simp at h
  | n + 1, i, h => by
    unfold repl
    by_cases hi : i < z.length
    · rw [List.getElem?_append_left hi, Nat.mod_eq_of_lt hi]
    · have h1 : z.length ≤ i := by omega
      rw [List.getElem?_append_right h1, repl_get z n (i - z.length) (by rw [Nat.add_mul] at h; omega)]
      congr 1
      rw [Nat.mod_eq_sub_mod h1]

/-- Zero values, one behind the other. -/
theorem repl_rel {z : List CV} {cells : Array Value} (hz : relL P β w z cells.toList) (n : Nat) : relL P β w (repl z n) ((Array.range (n * cells.size)).map (cells[· % cells.size]!)).toList := by
  have hl : z.length = cells.size := by simpa using hz.length
  refine relL.of_get (by simp [repl_length, hl]) ?_
  intro i c v hc hv
  have hi : i < n * z.length := by
    have := (List.getElem?_eq_some_iff.1 hc).1
    rwa [repl_length] at this
  rw [repl_get z n i hi] at hc
  obtain ⟨u, h1, h2⟩ := hz.get hc
  simp only [Array.toList_map, List.getElem?_map, Option.map_eq_some_iff] at hv
  obtain ⟨j, hj, rfl⟩ := hv
  simp only [Array.toList_range] at hj
  rw [List.getElem?_range (by rw [← hl]; exact hi)] at hj
  simp at hj
  subst hj
  rw [hl] at h1
  have h3 : cells[i % cells.size]? = some u := by simpa using h1
  simp only [getElem!_def, h3]
  exact h2

theorem compBin_sound {op : BinOp} {t u : TypeId} {x y : Operand} {ax ay : AX} {ao : AOp} (hO : relO P β w T ρ) (hx : opnd x = some ax) (hy : opnd y = some ay) (hc : compBin P op t ax ay = some ao)
    (hv : pureA ao T h = some v) : PureOk P β w ρ (.binOp op t x y u) v := by
  unfold compBin at hc
  split at hc
  · rename_i ht
    cases op <;> simp at hc <;> subst hc
    · exact pure_eqb hO hx hy ht rfl hv
    · exact pure_eqb hO hx hy ht rfl hv
  · simp at hc
    subst hc
    exact pure_bin hO hx hy hv
  · simp at hc
    subst hc
    exact pure_bin hO hx hy hv
  · rename_i e ht
    cases op <;> simp at hc <;> subst hc
    · exact pure_eqnil hO hx hy ht rfl hv
    · exact pure_eqnil hO hx hy ht rfl hv
  · rename_i fs ht
    split at hc
    · rename_i ks hk
      split at hc
      · rename_i hg
        cases op <;> simp at hc <;> subst hc
        · exact pure_eqst hO hx hy ht hk hg.1 hg.2 rfl hv
        · exact pure_eqst hO hx hy ht hk hg.1 hg.2 rfl hv
      · simp at hc
    · simp at hc
  · simp at hc

theorem compCall_pure {c : Call} {ao : AOp} (hO : relO P β w T ρ) (hc : compCall P c = some ao) (hv : pureA ao T h = some v) : PureOk P β w ρ (.call c) v := by
  unfold compCall at hc
  split at hc
  · obtain ⟨l, _, rfl⟩ := Option.map_eq_some_iff.1 hc
    simp [pureA] at hv
  · split at hc
    · simp at hc
      subst hc
      simp [pureA] at hv
    · simp at hc
  · simp at hc
  · rename_i b hb
    split at hc
    · split at hc
      · split at hc
        · split at hc
          · split at hc
            · split at hc
              · simp at hc
                subst hc
                simp [pureA] at hv
              · simp at hc
            · simp at hc
          · obtain ⟨_, _, _, _, _, _, _, _, rfl⟩ := compAppz_spec hc
            simp [pureA] at hv
        · simp at hc
      · simp at hc
    · rename_i x ha
      split at hc
      · rename_i t ax ht hx
        split at hc
        · rename_i hu
          simp at hc
          subst hc
          exact pure_lenStr hO hx hu hb ha ht hv
        · rename_i e hu
          simp at hc
          subst hc
          exact pure_len hO hx hu hb ha ht hv
        · simp at hc
      · simp at hc
    · rename_i x ha
      split at hc
      · rename_i t ax ht hx
        split at hc
        · rename_i e hu
          simp at hc
          subst hc
          exact pure_cap hO hx hu hb ha ht hv
        · simp at hc
      · simp at hc
    · rename_i x y ha
      split at hc
      · rename_i ax ay hx hy
        simp at hc
        subst hc
        exact pure_min hO hx hy hb ha hv
      · simp at hc
    · split at hc
      · split at hc
        · obtain ⟨_, _, rfl⟩ := Option.map_eq_some_iff.1 hc
          simp [pureA] at hv
        · simp at hc
      · simp at hc
    · simp at hc

/-- An operation without effect on the heap. -/
theorem pure_sound {op : Op} {ao : AOp} (hR : Rel P β h w) (hO : relO P β w T ρ) (hc : compOp P op = some ao) (hv : pureA ao T h = some v) : PureOk P β w ρ op v := by
  unfold compOp at hc
  split at hc
  · obtain ⟨ax, hx, rfl⟩ := Option.map_eq_some_iff.1 hc
    exact (pure_mov hO hx hv).1
  · obtain ⟨ax, hx, rfl⟩ := Option.map_eq_some_iff.1 hc
    exact (pure_mov hO hx hv).2
  · split at hc
    · rename_i h1 h2 h3
      simp at hc
      subst hc
      exact pure_pick hO h1 h2 h3 hv
    · simp at hc
  · obtain ⟨z, hz, rfl⟩ := Option.map_eq_some_iff.1 hc
    simp [pureA] at hv
  · obtain ⟨z, hz, rfl⟩ := Option.map_eq_some_iff.1 hc
    simp [pureA] at hv
  · split at hc
    · rename_i fs z ht hz
      split at hc
      · rename_i pl hpl
        obtain ⟨aps, hp, rfl⟩ := Option.map_eq_some_iff.1 hc
        exact pure_build hO ht hz hpl hp hv
      · simp at hc
    · simp at hc
  · split at hc
    · split at hc
      · split at hc
        · obtain ⟨aps, hp, rfl⟩ := Option.map_eq_some_iff.1 hc
          simp [pureA] at hv
        · simp at hc
      · simp at hc
    · simp at hc
  · split at hc
    · rename_i ax k hx hg hk
      simp at hc
      subst hc
      exact pure_load hR hO hx hg (by simpa using hk) hv
    · rename_i ax k hx hg hk
      simp at hc
      subst hc
      exact pure_load hR hO hx hg (by simp) hv
    · simp at hc
  · split at hc
    · simp at hc
      subst hc
      simp [pureA] at hv
    · simp at hc
  · obtain ⟨ax, hx, rfl⟩ := Option.map_eq_some_iff.1 hc
    exact pure_nilCheck hO hx hv
  · split at hc
    · rename_i ax ay hx hy
      exact compBin_sound hO hx hy hc hv
    · simp at hc
  · obtain ⟨ax, hx, rfl⟩ := Option.map_eq_some_iff.1 hc
    exact pure_not hO hx hv
  · split at hc
    · rename_i k0 k ax hs hd hx
      simp at hc
      subst hc
      exact pure_conv hO hx hs hd hv
    · rename_i e ax hs hd hx
      split at hc
      · rename_i he
        simp at hc
        subst hc
        exact pure_bytesStr hR hO hx hs he hd hv
      · simp at hc
    · simp at hc
  · split at hc
    · rename_i h0
      obtain ⟨as, ha, rfl⟩ := Option.map_eq_some_iff.1 hc
      exact pure_mkfn hO h0 ha hv
    · simp at hc
  · split at hc
    · split at hc
      · split at hc
        · simp at hc
          subst hc
          simp [pureA] at hv
        · simp at hc
      · simp at hc
    · simp at hc
  · split at hc
    · rename_i e ax lo hi mx ht hx h1 h2 h3
      split at hc
      · rename_i k hk
        split at hc
        · rename_i hk'
          simp at hc
          subst hc
          exact pure_slice hR hO hx h1 h2 h3 ht hk hk' hv
        · simp at hc
      · simp at hc
    · rename_i ax lo hi ht hx h1 h2 h3
      simp at hc
      subst hc
      rename_i mx0 _ _ _ _ _
      have hm : mx0 = none := by
        cases mx0 with
        | none => rfl
        | some y => simp [oopnd] at h3
      subst hm
      exact pure_sliceStr hO hx h1 h2 ht hv
    · simp at hc
  · split at hc
    · rename_i fs ax hs hx
      split at hc
      · rename_i fd hf
        split at hc
        · rename_i k hk
          split at hc
          · simp at hc
          · rename_i h0
            simp at hc
            subst hc
            exact pure_faddr hO hx hs hf hk h0 hv
        · simp at hc
      · simp at hc
    · simp at hc
  · split at hc
    · rename_i fs ax hs hx
      split at hc
      · rename_i fd hf
        split at hc
        · rename_i k hg hk
          simp at hc
          subst hc
          exact pure_field hO hx hs hf hg (by simpa using hk) hv
        · rename_i k hg hk
          simp at hc
          subst hc
          exact pure_field hO hx hs hf hg (by simp) hv
        · simp at hc
      · simp at hc
    · simp at hc
  · split at hc
    · rename_i e ax ai ht hx hi
      obtain ⟨k, hk, rfl⟩ := Option.map_eq_some_iff.1 hc
      exact pure_iaddr hO hx hi ht hk hv
    · simp at hc
  · split at hc
    · rename_i ax ai ht hx hi
      simp at hc
      subst hc
      exact pure_idxStr hO hx hi ht hv
    · simp at hc
  · obtain ⟨ax, hx, rfl⟩ := Option.map_eq_some_iff.1 hc
    exact pure_extract hO hx hv
  · exact compCall_pure hO hc hv
  · simp at hc
end
end Go.Proofs.YtoeceafibmafpaaDoor.Am
