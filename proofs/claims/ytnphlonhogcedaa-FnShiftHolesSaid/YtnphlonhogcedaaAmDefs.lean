/- The abstract machine: a deterministic interpreter of compiled code over a heap of blocks; definitions alone (values, heap, operations, code, runs). -/
import Derived.Calls
import Derived.Orders
import Derived.Tactics
import Derived.KernelRfl
import Derived.Laws.BytesArg
namespace Go.Proofs.Ytnphlonhogcedaa.Am
open Go

/-- What one cell holds. A slice's capacity is known (some c) or not (none). -/
inductive CV where
  | bool (b : Bool)
  | int (k : IntKind) (n : Int)
  | str (s : ByteArray)
  | sl (a : Option (Nat × Nat)) (n : Nat) (c : Option Nat)
  | ptr (a : Option (Nat × Nat))
  | fn (f : Nat) (caps : List (Nat × Nat))
  | nilf
  deriving DecidableEq

/-- What a slot holds. -/
inductive AV where
  | one (c : CV)
  | agg (cs : List CV)
  | tup (l : List AV)

@[reducible] def undefA : AV := .tup []

def AV.cells : AV → Option (List CV)
  | .one c => some [c]
  | .agg cs => some cs
  | .tup _ => none

def AV.same : AV → AV → Bool
  | .one a, .one b => decide (a = b)
  | .agg a, .agg b => decide (a = b)
  | _, _ => false

inductive St where
  | ro | rw | dead
  deriving DecidableEq

structure Blk where
  cs : List CV
  ty : Nat
  st : St

structure H where
  n : Nat
  f : Nat → Blk

def H.alloc (h : H) (cs : List CV) (ty : Nat) : H := { n := h.n + 1, f := fun i => if i = h.n then ⟨cs, ty, .rw⟩ else h.f i }
def H.load (h : H) (a : Nat × Nat) (k : Nat) : Option (List CV) :=
  if (a.1 < h.n ∧ (h.f a.1).st ≠ .dead) ∧ a.2 + k ≤ (h.f a.1).cs.length then some (((h.f a.1).cs.drop a.2).take k) else none
def H.setBlk (h : H) (i : Nat) (b : Blk) : H := { h with f := fun j => if j = i then b else h.f j }
def H.store (h : H) (a : Nat × Nat) (vs : List CV) : Option H :=
  if (h.f a.1).st = .rw ∧ a.2 + vs.length ≤ (h.f a.1).cs.length then
    some (h.setBlk a.1 { h.f a.1 with cs := (h.f a.1).cs.take a.2 ++ (vs ++ (h.f a.1).cs.drop (a.2 + vs.length)) })
  else none
def H.kill (h : H) (i : Nat) : H := h.setBlk i { h.f i with st := .dead }

/-- An operand. -/
inductive AX where
  | t (n : Nat)
  | c (v : CV)
  deriving DecidableEq

inductive AOp where
  | mov (x : AX)
  | pick (c a b : AX)
  | alloc (ty : Nat) (z : List CV)
  | box (ty : Nat) (x : AX)
  | build (z : List CV) (parts : List (Nat × Nat × AX))
  | buildSlice (ty len : Nat) (z : List CV) (parts : List (Nat × Nat × AX))
  | load (k : Nat) (agg : Bool) (x : AX)
  | store (k : Nat) (x v : AX)
  | nilCheck (x : AX)
  | bin (op : BinOp) (x y : AX)
  | eqb (neg : Bool) (x y : AX)
  | eqst (neg : Bool) (ks : List Nat) (x y : AX)
  | eqnil (neg : Bool) (x y : AX)
  | not (x : AX)
  | conv (k : IntKind) (x : AX)
  | bytesStr (x : AX)
  | mkfn (f : Nat) (caps : List AX)
  | mkslice (ty bytes : Nat) (z : List CV) (l c : AX)
  | slice (ty size : Nat) (x : AX) (lo hi mx : Option AX)
  | sliceStr (x : AX) (lo hi : Option AX)
  | faddr (off : Nat) (x : AX)
  | iaddr (size : Nat) (x i : AX)
  | idxStr (x i : AX)
  | field (off k : Nat) (agg : Bool) (x : AX)
  | extract (x : AX) (i : Nat)
  | call (f : Nat) (args : List AX)
  | callv (x : AX) (args : List AX)
  | append (ty size bytes : Nat) (s x : AX)
  | appz (ty size bytes : Nat) (z : List CV) (s x : AX)
  | len (x : AX)
  | lenStr (x : AX)
  | cap (x : AX)
  | min (x y : AX)

def AX.slots : AX → List Nat
  | .t n => [n]
  | .c _ => []
def oslots : Option AX → List Nat
  | some x => x.slots
  | none => []
/-- The slots that an operation reads. -/
def AOp.slots : AOp → List Nat
  | .mov x | .box _ x | .load _ _ x | .nilCheck x | .not x | .conv _ x | .bytesStr x | .faddr _ x | .field _ _ _ x | .extract x _ | .len x | .lenStr x | .cap x => x.slots
  | .pick c a b => c.slots ++ (a.slots ++ b.slots)
  | .alloc .. => []
  | .build _ ps | .buildSlice _ _ _ ps => ps.flatMap fun p => p.2.2.slots
  | .store _ x y | .bin _ x y | .eqb _ x y | .eqst _ _ x y | .eqnil _ x y | .mkslice _ _ _ x y | .iaddr _ x y | .idxStr x y | .append _ _ _ x y | .appz _ _ _ _ x y | .min x y => x.slots ++ y.slots
  | .mkfn _ l | .call _ l => l.flatMap AX.slots
  | .callv x l => x.slots ++ l.flatMap AX.slots
  | .slice _ _ x lo hi mx => x.slots ++ (oslots lo ++ (oslots hi ++ oslots mx))
  | .sliceStr x lo hi => x.slots ++ (oslots lo ++ oslots hi)

structure AStep where
  op : AOp
  dst : Option Nat
  guard : Option (Nat × Bool)
  again : List (AOp × Option Nat × Option (Nat × Bool))

def AStep.looks (s : AStep) : List Nat := s.op.slots ++ (match s.guard with | some (t, _) => [t] | none => [])

inductive ACode where
  | skip
  | reg (l : List AStep)
  | seq (a b : ACode)
  | cond (c : AX) (a b : ACode)
  | block (id : Nat) (a : ACode)
  | loop (a : ACode)
  | exit (id : Nat)
  | ret

inductive ARes where
  | tmp (t : Nat)
  | cell (t k : Nat) (agg : Bool)

structure AFunc where
  ntmps : Nat
  results : List ARes
  body : ACode

abbrev Tm := Nat → AV
def Tm.put (T : Tm) (d : Option Nat) (v : AV) : Tm :=
  match d with
  | some d => fun t => if t = d then v else T t
  | none => T

def AX.ev (T : Tm) : AX → AV
  | .t n => T n
  | .c v => .one v

/-- Another function is called: its number, its arguments, the heap. -/
abbrev Oracle := Nat → List AV → H → Option (AV × H)

/-! ### operations -/
def ib (b : Bool) : AV := .one (.bool b)
def ii (n : Int) : AV := .one (.int .i64 n)

def fillA : List CV → List (Nat × Nat × AV) → Option (List CV)
  | cells, [] => some cells
  | cells, (off, size, v) :: r =>
    match v.cells with
    | none => none
    | some cs => if cs.length = size ∧ off + size ≤ cells.length then fillA (cells.take off ++ (cs ++ cells.drop (off + size))) r else none

def binA (op : BinOp) : AV → AV → Option AV
  | .one (.int k a), .one (.int k' b) =>
    if k = k' then
      match op with
      | .add => some (.one (.int k (k.wrap (a + b))))
      | .sub => some (.one (.int k (k.wrap (a - b))))
      | .mul => some (.one (.int k (k.wrap (a * b))))
      | .quo => if b = 0 then none else some (.one (.int k (k.wrap (a.tdiv b))))
      | .rem => if b = 0 then none else some (.one (.int k (a.tmod b)))
      | .xor => some (.one (.int k (k.wrap (BitVec.ofInt k.bits a ^^^ BitVec.ofInt k.bits b).toNat)))
      | .eql => some (ib (a == b))
      | .neq => some (ib (a != b))
      | .lss => some (ib (decide (a < b)))
      | .leq => some (ib (decide (a ≤ b)))
      | .gtr => some (ib (decide (a > b)))
      | .geq => some (ib (decide (a ≥ b)))
      | _ => none
    else none
  | .one (.str a), .one (.str b) =>
    match op with
    | .add => if ((a.size + b.size : Nat) : Int) > 9223372036854775807 then none else some (.one (.str (a ++ b)))
    | .eql => some (ib (a.toList == b.toList))
    | .neq => some (ib (!(a.toList == b.toList)))
    | .lss => some (ib (Op.bytesLess a.toList b.toList))
    | .leq => some (ib (Op.bytesLess a.toList b.toList || a.toList == b.toList))
    | .gtr => some (ib (!(Op.bytesLess a.toList b.toList || a.toList == b.toList)))
    | .geq => some (ib (!(Op.bytesLess a.toList b.toList)))
    | _ => none
  | _, _ => none

/-- Two structs of bools (0), whole numbers (1) and strings (2). -/
def eqK : List Nat → List CV → List CV → Option Bool
  | [], [], [] => some true
  | 0 :: ks, .bool a :: r, .bool b :: s => (eqK ks r s).map ((a == b) && ·)
  | 1 :: ks, .int k a :: r, .int k' b :: s => if k = k' then (eqK ks r s).map ((a == b) && ·) else none
  | 2 :: ks, .str a :: r, .str b :: s => (eqK ks r s).map ((a.toList == b.toList) && ·)
  | _, _, _ => none

/-- A bound of a slice expression against the length n and the capacity c. -/
def boundA (T : Tm) (x : AX) (y : Nat) : Option Nat :=
  match x.ev T with
  | .one (.int _ i) => if 0 ≤ i ∧ i ≤ y then some i.toNat else none
  | _ => none

def maxA (T : Tm) (n : Nat) (c : Option Nat) (mx : Option AX) : Option (Option Nat) :=
  match mx with
  | some x => (boundA T x (c.getD n)).map some
  | none => some c
def highA (T : Tm) (n : Nat) (m : Option Nat) (hi mx : Option AX) : Option Nat :=
  match hi with
  | some x => boundA T x (m.getD n)
  | none => match mx with | none => some n | some _ => none
def lowA (T : Tm) (h : Nat) (lo : Option AX) : Option Nat :=
  match lo with
  | some x => boundA T x h
  | none => some 0
/-- The three bounds (low, high, the capacity if it is known) of a cut. -/
def boundsA (T : Tm) (n : Nat) (c : Option Nat) (lo hi mx : Option AX) : Option (Nat × Nat × Option Nat) :=
  match maxA T n c mx with
  | none => none
  | some m => match highA T n m hi mx with
    | none => none
    | some h => match lowA T h lo with
      | none => none
      | some l => some (l, h, m)

def repl (z : List CV) : Nat → List CV
  | 0 => []
  | n + 1 => z ++ repl z n

def ptrsA : List AV → Option (List (Nat × Nat))
  | [] => some []
  | .one (.ptr (some a)) :: r => (ptrsA r).map (a :: ·)
  | _ => none

def srcA (h : H) (size : Nat) : AV → Option (List CV)
  | .one (.sl _ 0 _) => some []
  | .one (.sl (some a) n _) => h.load a (n * size)
  | _ => none

def lenA : AV → Nat
  | .one (.sl _ n _) => n
  | _ => 0

def appendA (ty size bytes : Nat) (s x : AV) (h : H) : Option (AV × H) :=
  match s, x with
  | .one (.sl base n c), .one (.sl xb m xc) =>
    if m = 0 then some (.one (.sl base n c), h)
    else if (n + m) * bytes > 140737488355328 then none
    else
      match srcA h size (.one (.sl base n c)), srcA h size (.one (.sl xb m xc)) with
      | some old, some new =>
        match c with
        | some c' =>
          if n + m ≤ c' then
            match base with
            | some a => if (h.f a.1).ty = ty then (h.store (a.1, a.2 + n * size) new).map fun h' => (.one (.sl (some a) (n + m) (some c')), h') else none
            | none => none
          else some (.one (.sl (some (h.n, 0)) (n + m) none), h.alloc (old ++ new) ty)
        | none =>
          match base with
          | some a => if (h.f a.1).st = .rw ∧ (h.f a.1).ty = ty then some (.one (.sl (some (h.n, 0)) (n + m) none), (h.kill a.1).alloc (old ++ new) ty) else none
          | none => none
      | _, _ => none
  | _, _ => none

def strBytes : List CV → Option (List Int)
  | [] => some []
  | .int .u8 n :: r => (strBytes r).map (n :: ·)
  | _ => none

/-- An operation without effect on the heap: its value. -/
def pureA (o : AOp) (T : Tm) (h : H) : Option AV :=
  match o with
  | .mov x => some (x.ev T)
  | .pick c a b => match c.ev T with | .one (.bool t) => some (if t then a.ev T else b.ev T) | _ => none
  | .build z parts => (fillA z (parts.map fun p => (p.1, p.2.1, p.2.2.ev T))).map .agg
  | .load k agg x =>
    match x.ev T with
    | .one (.ptr (some a)) =>
      match h.load a k with
      | some cs => if agg then some (.agg cs) else match cs with | [c] => some (.one c) | _ => none
      | none => none
    | _ => none
  | .nilCheck x => match x.ev T with | .one (.ptr (some a)) => some (.one (.ptr (some a))) | .one (.fn f c) => some (.one (.fn f c)) | _ => none
  | .bin op x y => binA op (x.ev T) (y.ev T)
  | .eqb neg x y => match x.ev T, y.ev T with | .one (.bool a), .one (.bool b) => some (ib ((a == b) != neg)) | _, _ => none
  | .eqst neg ks x y => match x.ev T, y.ev T with
    | .agg a, .agg b => (eqK ks a b).map fun r => ib (r != neg)
    | _, _ => none
  | .eqnil neg x y => match x.ev T, y.ev T with
    | .one (.sl a _ _), .one (.sl none _ _) => some (ib (a.isNone != neg))
    | _, _ => none
  | .not x => match x.ev T with | .one (.bool b) => some (ib (!b)) | _ => none
  | .conv k x => match x.ev T with | .one (.int _ n) => some (.one (.int k (k.wrap n))) | _ => none
  | .bytesStr x => match x.ev T with
    | .one (.sl (some a) n _) => if n = 0 then none else match h.load a n with
      | some cs => (strBytes cs).map fun l => .one (.str (strOfNums l))
      | none => none
    | _ => none
  | .mkfn f caps => (ptrsA (caps.map (·.ev T))).map fun l => .one (.fn f l)
  | .slice ty size x lo hi mx =>
    match x.ev T with
    | .one (.sl none _ c) =>
      match boundsA T 0 c lo hi mx with
      | some (l, h', m) => some (.one (.sl none (h' - l) (m.map (· - l))))
      | none => none
    | .one (.sl (some a) n c) =>
      match boundsA T n c lo hi mx with
      | some (l, h', m) => if a.1 < h.n ∧ (h.f a.1).ty = ty then some (.one (.sl (some (a.1, a.2 + l * size)) (h' - l) (m.map (· - l)))) else none
      | none => none
    | _ => none
  | .sliceStr x lo hi =>
    match x.ev T with
    | .one (.str s) =>
      match boundsA T s.size (some s.size) lo hi none with
      | some (l, h', _) => some (.one (.str (s.extract l h')))
      | none => none
    | _ => none
  | .faddr off x => match x.ev T with | .one (.ptr (some a)) => some (.one (.ptr (some (a.1, a.2 + off)))) | _ => none
  | .iaddr size x i =>
    match x.ev T, i.ev T with
    | .one (.sl (some a) n _), .one (.int _ j) => if 0 ≤ j ∧ j < n then some (.one (.ptr (some (a.1, a.2 + j.toNat * size)))) else none
    | _, _ => none
  | .idxStr x i =>
    match x.ev T, i.ev T with
    | .one (.str s), .one (.int _ j) => if 0 ≤ j then match s[j.toNat]? with | some b => some (.one (.int .u8 b.toNat)) | none => none else none
    | _, _ => none
  | .field off k agg x =>
    match x.ev T with
    | .agg cs => if off + k ≤ cs.length then (if agg then some (.agg ((cs.drop off).take k)) else match cs[off]? with | some c => some (.one c) | none => none) else none
    | _ => none
  | .extract x i => match x.ev T with | .tup l => l[i]? | _ => none
  | .len x => match x.ev T with | .one (.sl _ n _) => some (ii n) | _ => none
  | .lenStr x => match x.ev T with | .one (.str s) => some (ii s.size) | _ => none
  | .cap x => match x.ev T with | .one (.sl _ _ (some c)) => some (ii c) | _ => none
  | .min x y => match x.ev T, y.ev T with | .one (.int k a), .one (.int k' b) => if k = k' then some (.one (.int k (if b < a then b else a))) else none | _, _ => none
  | _ => none

def opA (call : Oracle) (o : AOp) (T : Tm) (h : H) : Option (AV × H) :=
  match o with
  | .alloc ty z => some (.one (.ptr (some (h.n, 0))), h.alloc z ty)
  | .box ty x => match (x.ev T).cells with | some cs => some (.one (.ptr (some (h.n, 0))), h.alloc cs ty) | none => none
  | .buildSlice ty len z parts =>
    match fillA (repl z len) (parts.map fun p => (p.1, p.2.1, p.2.2.ev T)) with
    | some cs => some (.one (.sl (some (h.n, 0)) len (some len)), h.alloc cs ty)
    | none => none
  | .mkslice ty bytes z l c =>
    match l.ev T, c.ev T with
    | .one (.int .i64 l), .one (.int .i64 c) =>
      if 0 ≤ l ∧ l ≤ c ∧ c * bytes ≤ 140737488355328 ∧ c ≤ 9223372036854775807 then some (.one (.sl (some (h.n, 0)) l.toNat (some c.toNat)), h.alloc (repl z c.toNat) ty) else none
    | _, _ => none
  | .store k x v =>
    match x.ev T, (v.ev T).cells with
    | .one (.ptr (some a)), some cs => if cs.length = k then (h.store a cs).map fun h' => (undefA, h') else none
    | _, _ => none
  | .append ty size bytes s x => appendA ty size bytes (s.ev T) (x.ev T) h
  | .appz ty _ bytes z s x =>
    match s.ev T, x.ev T with
    | .one (.sl none _ _), .one (.int .i64 n) => if 0 < n ∧ n * bytes ≤ 140737488355328 ∧ n ≤ 140737488355328 then some (.one (.sl (some (h.n, 0)) n.toNat none), h.alloc (repl z n.toNat) ty) else none
    | _, _ => none
  | .call f args => call f (args.map (·.ev T)) h
  | .callv x args => match x.ev T with
    | .one (.fn f caps) => call f (args.map (·.ev T) ++ caps.map fun a => .one (.ptr (some a))) h
    | _ => none
  | o => (pureA o T h).map fun v => (v, h)

def wantA (g : Option (Nat × Bool)) (T : Tm) : Bool :=
  match g with
  | none => true
  | some (t, b) => match T t with | .one (.bool c) => c == b | _ => false

/-- A load that came up before an operation with effect gives the same behind it. -/
def againA (T : Tm) (h : H) (r : AOp × Option Nat × Option (Nat × Bool)) : Bool :=
  if wantA r.2.2 T then
    match pureA r.1 T h, r.2.1 with
    | some v, some d => v.same (T d)
    | _, _ => false
  else true

def stepA (call : Oracle) (s : AStep) (T : Tm) (h : H) : Option (Tm × H) :=
  if wantA s.guard T then
    match opA call s.op T h with
    | some (v, h') => if s.again.all (againA (T.put s.dst v) h') then some (T.put s.dst v, h') else none
    | none => none
  else some (T.put s.dst undefA, h)

def stepsA (call : Oracle) : List AStep → Tm → H → Option (Tm × H)
  | [], T, h => some (T, h)
  | s :: l, T, h =>
    match stepA call s T h with
    | some (T', h') => stepsA call l T' h'
    | none => none

/-! ### code -/
inductive Ex where
  | normal | exit (id : Nat) | ret

/-- At most n rounds. -/
def loopN (body : Tm → H → Option (Ex × Tm × H)) : Nat → Tm → H → Option (Ex × Tm × H)
  | 0, _, _ => none
  | n + 1, T, h =>
    match body T h with
    | some (.normal, T', h') => loopN body n T' h'
    | r => r

/-- What a loop is, given its round. -/
abbrev Rounds := (Tm → H → Option (Ex × Tm × H)) → Tm → H → Option (Ex × Tm × H)

def codeA (lp : Rounds) (call : Oracle) : ACode → Tm → H → Option (Ex × Tm × H)
  | .skip, T, h => some (.normal, T, h)
  | .reg l, T, h => (stepsA call l T h).map fun r => (.normal, r.1, r.2)
  | .seq a b, T, h =>
    match codeA lp call a T h with
    | some (.normal, T', h') => codeA lp call b T' h'
    | r => r
  | .cond c a b, T, h =>
    match c.ev T with
    | .one (.bool true) => codeA lp call a T h
    | .one (.bool false) => codeA lp call b T h
    | _ => none
  | .block id a, T, h =>
    match codeA lp call a T h with
    | some (.exit id', T', h') => if id' = id then some (.normal, T', h') else some (.exit id', T', h')
    | r => r
  | .loop a, T, h => lp (codeA lp call a) T h
  | .exit id, T, h => some (.exit id, T, h)
  | .ret, T, h => some (.ret, T, h)

def resA (T : Tm) (h : H) : ARes → Option AV
  | .tmp t => some (T t)
  | .cell t k agg => pureA (.load k agg (.t t)) T h

def resAs (T : Tm) (h : H) : List ARes → Option (List AV)
  | [] => some []
  | r :: l => match resA T h r, resAs T h l with
    | some (.tup _), _ => none
    | some v, some vs => some (v :: vs)
    | _, _ => none

def resultsA (T : Tm) (h : H) (l : List ARes) : Option AV :=
  match l with
  | [r] => resA T h r
  | l => (resAs T h l).map .tup

def startT (args : List AV) : Tm := fun t => args.getD t undefA

def bodyA (lp : Rounds) (call : Oracle) (F : AFunc) (args : List AV) (h : H) : Option (AV × H) :=
  match codeA lp call F.body (startT args) h with
  | some (.exit _, _, _) => none
  | some (_, T, h') => (resultsA T h' F.results).map fun v => (v, h')
  | none => none

end Go.Proofs.Ytnphlonhogcedaa.Am
