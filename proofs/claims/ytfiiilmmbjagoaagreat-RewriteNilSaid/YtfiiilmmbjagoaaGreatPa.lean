/-
  The plain machine, a small interpreter of the model's code, and that each of its operations tells the truth of the model's. No conditions beyond those that each theorem names.
-/
import GoSem.Step
import Derived.CheckFast
import Derived.Laws.Sem
import Derived.Laws.Cells
import Derived.Laws.CopyRow
import Derived.Laws.Entries
import Derived.Calls
import Derived.Laws.Tables
import Derived.Great.BuildSlice
import Derived.IntWalk
/-
THE PLAIN MACHINE: a small interpreter of the model's code. Memory that is never written again is told by the values themselves (sl, iptr); memory that is written lies in rows of its own (row, ptr, mp, it, yld). It is stuck (none) wherever it can't tell. Its soundness over the model's machine is another text's.
-/
namespace Go.PI

/-- A value of the plain machine. -/
inductive PV where
  | lit (x : Value)
  | sl (cs : List PV) (n : Nat) (full nn : Bool)
  | row (r off n s : Nat) (full : Bool)
  | ptr (r off : Nat)
  | iptr (cs : List PV)
  | mp (r : Nat)
  | fn (f : FuncId) (first caps : List PV)
  | yld (l : Nat)
  | it (r : Nat)
  | agg (cs : List PV)
  | tup (vs : List PV)
  deriving Inhabited

/-- Temporaries: a tree by a number's bits; the small ones stand near its root. -/
inductive Tr where
  | e
  | b (v : Option PV) (x y : Tr)
  deriving Inhabited
def Tr.get : Nat → Tr → Nat → Option PV
  | d + 1, .b v x y, i => match i with
    | 0 => v
    | m + 1 => bif Nat.beq (m % 2) 0 then x.get d (m / 2) else y.get d (m / 2)
  | _, _, _ => none
def Tr.left : Tr → Tr
  | .b _ x _ => x
  | _ => .e
def Tr.right : Tr → Tr
  | .b _ _ y => y
  | _ => .e
def Tr.val : Tr → Option PV
  | .b v _ _ => v
  | _ => none
def Tr.set : Nat → Tr → Nat → PV → Tr
  | 0, t, _, _ => t
  | d + 1, t, i, v => match i with
    | 0 => .b (some v) t.left t.right
    | m + 1 => bif Nat.beq (m % 2) 0 then .b t.val (t.left.set d (m / 2) v) t.right else .b t.val t.left (t.right.set d (m / 2) v)

abbrev Regs := Tr
def deep : Nat := 10
/-- So many temporaries at the most. -/
def wide : Nat := 512
def gt (ρ : Regs) (t : Nat) : Option PV := bif Nat.blt t wide then ρ.get deep t else none
def st (ρ : Regs) (t : Nat) (v : PV) : Regs := ρ.set deep t v

structure LoopR where
  state : Nat
  pend : Option Code
  fn : FuncId
  nt : Nat
  regs : Regs
  params : List Tmp
  assign : Code
  body : Code
  deriving Inhabited

inductive PO where
  | dead
  | cells (cs : List PV)
  | map (es : List (PV × PV × Nat)) (clock : Nat)
  | iter (m : Option Nat) (since : Nat) (seen : List Nat) (last : Nat)
  | loop (l : LoopR)
  deriving Inhabited

structure H where
  rows : List PO
  deriving Inhabited

inductive TD where
  | int (k : IntKind) | bool | str
  | slice (e : TypeId) | arr (n : Nat) (e : TypeId)
  | st (fs : List (Nat × TypeId))
  | map (k e : TypeId) | ptr (e : TypeId) | fn | other
  deriving Inhabited
structure TI where
  d : TD
  sz : Nat
  byt : Nat
  zero : List Value
  deriving Inhabited
def TD.agg : TD → Bool
  | .arr _ _ | .st _ => true
  | _ => false
def TI.agg (ti : TI) : Bool := ti.d.agg
def TI.zeros (ti : TI) : List PV := ti.zero.map .lit

inductive X where
  | norm | exit (id : Nat) | ret
  deriving Inhabited

/-- What the program is: its functions, its types; which functions, called by which, write nothing of their callers' and hand back frozen values; summaries; the choices. -/
structure Pg where
  fn : FuncId → Option Func
  ty : TypeId → Option TI
  pure : FuncId → FuncId → Bool
  sum : FuncId → Option (List PV → H → Option PV)

/-- me: the function that runs; nt: how many temporaries it has; lo: below it no row is written; pr: nor are these; det: no choice is made; rd: the loop whose round runs. -/
structure Cx where
  me : FuncId
  nt : Nat
  lo : Nat
  pr : List Nat
  det : Bool
  rd : Option Nat
def Cx.no (C : Cx) (r : Nat) : Bool := decide (r < C.lo) || C.pr.contains r

def oneV : Value → Bool
  | .agg _ | .tuple _ => false
  | _ => true
def ev (ρ : Regs) : Operand → Option PV
  | .tmp t => gt ρ t
  | .const v => match v with
    | .agg cs => if cs.toList.all oneV then some (.agg (cs.toList.map .lit)) else none
    | .func (.func f) first caps => if first.size = 0 ∧ caps.size = 0 then some (.fn f [] []) else none
    | .tuple _ => none
    | v => some (.lit v)
  | .func f => some (.fn f [] [])
  | .global _ => none

def cellsOf : PV → List PV
  | .agg cs => cs
  | v => [v]
def intOf : PV → Option Int
  | .lit (.int _ n) => some n
  | _ => none
def boolOf : PV → Option Bool
  | .lit (.bool b) => some b
  | _ => none

/-- A value of a type out of the cells from some place on. -/
def ofCells (ti : TI) (cs : List PV) : Option PV :=
  if ti.agg then (if cs.length < ti.sz then none else some (.agg (cs.take ti.sz)))
  else cs.head?

def memAt (h : H) : PV → Option (List PV)
  | .ptr r off => match h.rows[r]? with
    | some (.cells cs) => some (cs.drop off)
    | _ => none
  | .iptr cs => some cs
  | _ => none

def setMany (cs : List PV) (i : Nat) : List PV → List PV
  | [] => cs
  | v :: r => setMany (cs.set i v) (i + 1) r

def setRow (h : H) (r : Nat) (o : PO) : H := { h with rows := h.rows.set r o }

def one : PV → Bool
  | .agg _ | .tup _ => false
  | _ => true

def storeAt (C : Cx) (h : H) (p : PV) (vs : List PV) : Option H :=
  match p with
  | .ptr r off => if C.no r then none else match h.rows[r]? with
    | some (.cells cs) => if off + vs.length ≤ cs.length ∧ vs.all one then some (setRow h r (.cells (setMany cs off vs))) else none
    | _ => none
  | _ => none

def newObj (h : H) (o : PO) : H := { h with rows := h.rows ++ [o] }

def isNil (d : TD) : PV → Option Bool
  | .lit (.pointer none) => match d with | .ptr _ => some true | _ => none
  | .ptr .. | .iptr _ => match d with | .ptr _ => some false | _ => none
  | .lit (.map none) => match d with | .map _ _ => some true | _ => none
  | .mp _ => match d with | .map _ _ => some false | _ => none
  | .lit .nilFunc => match d with | .fn => some true | _ => none
  | .fn .. | .yld _ => match d with | .fn => some false | _ => none
  | .lit (.slice none _ _) => match d with | .slice _ => some true | _ => none
  | .sl _ n _ nn => match d with | .slice _ => if 0 < n ∨ nn = true then some false else none | _ => none
  | .row .. => match d with | .slice _ => some false | _ => none
  | _ => none
def nilLit : PV → Bool
  | .lit (.pointer none) | .lit (.slice none _ _) | .lit (.map none) | .lit .nilFunc => true
  | _ => false

def binI (op : BinOp) (k : IntKind) (a b : Int) : Option Value :=
  match op with
  | .add => some (.int k (k.wrap (a + b)))
  | .sub => some (.int k (k.wrap (a - b)))
  | .mul => some (.int k (k.wrap (a * b)))
  | .quo => if b = 0 then none else some (.int k (k.wrap (a.tdiv b)))
  | .rem => if b = 0 then none else some (.int k (a.tmod b))
  | .eql => some (.bool (a == b))
  | .neq => some (.bool (a != b))
  | .lss => some (.bool (a < b))
  | .leq => some (.bool (a ≤ b))
  | .gtr => some (.bool (a > b))
  | .geq => some (.bool (a ≥ b))
  | _ => none
def eqP (d : TD) (x y : PV) : Option Bool :=
  match x, y with
  | .lit (.bool a), .lit (.bool b) => match d with | .bool => some (a == b) | _ => none
  | .lit (.string a), .lit (.string b) => some (a.toList == b.toList)
  | _, _ => match isNil d y with
    | some true => isNil d x
    | _ => match isNil d x with
      | some true => isNil d y
      | _ => none
def bin (d : TD) (op : BinOp) (x y : PV) : Option PV :=
  match x, y with
  | .lit (.int k a), .lit (.int k' b) => if k = k' then (binI op k a b).map .lit else none
  | _, _ => match op with
    | .eql => (eqP d x y).map fun b => .lit (.bool b)
    | .neq => (eqP d x y).map fun b => .lit (.bool !b)
    | _ => none
def un (op : UnOp) (x : PV) : Option PV :=
  match op, x with
  | .not, .lit (.bool b) => some (.lit (.bool !b))
  | .neg, .lit (.int k n) => some (.lit (.int k (k.wrap (0 - n))))
  | _, _ => none

def boundIn (v : Option PV) (dflt top : Nat) : Option Nat :=
  match v with
  | none => some dflt
  | some p => match intOf p with
    | some i => if 0 ≤ i ∧ i ≤ top then some i.toNat else none
    | none => none

/-- How far a row may be sliced. -/
def topOf (h : H) (r off n s : Nat) (full : Bool) : Nat :=
  if full then n else match h.rows[r]? with
    | some (.cells cs) => (cs.length - off) / s
    | _ => n

/-- The row is no longer than that. -/
def fits (h : H) (r k : Nat) : Bool :=
  match h.rows[r]? with
  | some (.cells cs) => Nat.ble cs.length k
  | _ => false
/-- The bounds of x[lo:hi:mx]: n: the length, top: how far it goes. With mx the slice is full. -/
def bounds (n top : Nat) (lo hi mx : Option PV) : Option (Nat × Nat) :=
  if mx.isSome && hi.isNone then none else
  match boundIn mx top top with
  | some m => match boundIn hi n m with
    | some b => if mx.isSome && m != b then none else match boundIn lo 0 b with
      | some a => if a ≤ b then some (a, b) else none
      | none => none
    | none => none
  | none => none

def sliceP (T : Pg) (h : H) (ti : TI) (x : PV) (lo hi mx : Option PV) : Option PV :=
  match ti.d, x with
  | .slice e, .sl cs n full nn => match T.ty e, bounds n n lo hi mx with
    | some te, some (a, b) => if cs.length = n * te.sz then some (.sl ((cs.drop (a * te.sz)).take ((b - a) * te.sz)) (b - a) (mx.isSome || full && b == n) nn) else none
    | _, _ => none
  | .slice e, .row r off n s full => match T.ty e, bounds n (topOf h r off n s full) lo hi mx with
    | some te, some (a, b) => if te.sz = s ∧ 0 < s ∧ (mx.isSome = true ∨ full = false ∨ b = n ∨ fits h r (off + n * s)) then some (.row r (off + a * s) (b - a) s (mx.isSome || full && b == n)) else none
    | _, _ => none
  | .slice e, .lit (.slice none 0 0) => match T.ty e, bounds 0 0 lo hi mx with
    | some _, some _ => some x
    | _, _ => none
  | .arr n e, .ptr r off => match T.ty e, lo, hi, mx with
    | some te, none, none, none => match h.rows[r]? with
      | some (.cells cs) => if 0 < te.sz ∧ off + n * te.sz ≤ cs.length then some (.row r off n te.sz true) else none
      | _ => none
    | _, _, _, _ => none
  | .arr n e, .iptr cs => match T.ty e, lo, hi, mx with
    | some te, none, none, none => if n * te.sz ≤ cs.length then some (.sl (cs.take (n * te.sz)) n true true) else none
    | _, _, _, _ => none
  | _, _ => none

def lenN (d : TD) (x : PV) : Option Nat :=
  match d with
  | .slice _ => match x with
    | .sl _ n _ _ => some n
    | .row _ _ n _ _ => some n
    | .lit (.slice none n _) => some n
    | _ => none
  | .str => match x with
    | .lit (.string s) => some s.size
    | _ => none
  | _ => none
def lenM (h : H) (d : TD) (x : PV) : Option Nat :=
  match d with
  | .map _ _ => match x with
    | .lit (.map none) => some 0
    | .mp r => match h.rows[r]? with
      | some (.map es _) => some es.length
      | _ => none
    | _ => none
  | _ => none

/-- Keys are whole numbers. -/
def findE (kk : IntKind) (k : Int) : List (PV × PV × Nat) → Nat → Option (Option (Nat × PV × Nat))
  | [], _ => some none
  | e :: es, i => match e.1 with
    | .lit (.int kj j) => if kk = kj then (if k = j then some (some (i, e.2)) else findE kk k es (i + 1)) else none
    | _ => none

def rowCells (h : H) : PV → Option (List PV × Nat)
  | .lit (.slice none 0 0) => some ([], 0)
  | .sl cs n _ _ => some (cs, n)
  | .row r off n s _ => match h.rows[r]? with
    | some (.cells cs) => if off + n * s ≤ cs.length then some ((cs.drop off).take (n * s), n) else none
    | _ => none
  | _ => none

def maxLen : Nat := 4294967296
def maxByt : Nat := 8192

def appendP (C : Cx) (h : H) (te : TI) (s x : PV) : Option (PV × H) :=
  match rowCells h s, rowCells h x with
  | some (old, n), some (new, m) =>
    if old.length = n * te.sz ∧ new.length = m * te.sz ∧ n + m ≤ maxLen ∧ te.byt ≤ maxByt ∧ 0 < te.byt ∧ 0 < te.sz ∧ new.all one then
      if m = 0 then some (s, h) else
      let grown : PV × H := (.row h.rows.length 0 (n + m) te.sz false, newObj h (.cells (old ++ new)))
      match s with
      | .row r off _ z full => if z = te.sz then
          if full then some grown
          else if C.no r then none else match h.rows[r]? with
            | some (.cells cs) => if off + (n + m) * z ≤ cs.length then some (.row r off (n + m) z false, setRow h r (.cells (setMany cs (off + n * z) new)))
              else some (grown.1, setRow grown.2 r .dead)
            | _ => none
        else none
      | .sl _ _ full _ => if full then some grown else none
      | _ => some grown
    else none
  | _, _ => none

def fillP (place : Nat → Option (Nat × Nat)) (cs : List PV) : List (Nat × PV) → Option (List PV)
  | [] => some cs
  | (i, v) :: rest => match place i with
    | none => none
    | some (off, size) => let c := cellsOf v
      if c.length = size ∧ off + size ≤ cs.length then fillP place (setMany cs off c) rest else none

def repl (n : Nat) (z : List PV) : List PV := (List.replicate n z).flatten

def evs (ρ : Regs) : List (Nat × Operand) → Option (List (Nat × PV))
  | [] => some []
  | (i, x) :: r => match ev ρ x, evs ρ r with
    | some v, some vs => some ((i, v) :: vs)
    | _, _ => none
def evl (ρ : Regs) : List Operand → Option (List PV)
  | [] => some []
  | x :: r => match ev ρ x, evl ρ r with
    | some v, some vs => some (v :: vs)
    | _, _ => none
def evo (ρ : Regs) : Option Operand → Option (Option PV)
  | none => some none
  | some x => (ev ρ x).map some

def bornIn (seen : List Nat) (e : PV × PV × Nat) : Bool := !seen.contains e.2.2

/-! ### Operations that look at the temporaries alone -/
def opN (T : Pg) (ρ : Regs) (o : Op) : Option PV :=
  match o with
  | .move x | .assign x => ev ρ x
  | .pick c a b => match (ev ρ c).bind boolOf with
    | some true => ev ρ a
    | some false => ev ρ b
    | none => none
  | .build t parts => match T.ty t, evs ρ parts.toList with
    | some ti, some ps => match ti.d with
      | .st fs => (fillP (fun i => match fs[i]? with | some (off, ft) => (T.ty ft).map fun fi => (off, fi.sz) | none => none) ti.zeros ps).map .agg
      | .arr _ e => match T.ty e with
        | some te => (fillP (fun i => some (i * te.sz, te.sz)) ti.zeros ps).map .agg
        | none => none
      | _ => none
    | _, _ => none
  | .nilCheck x => match ev ρ x with
    | some (.ptr r o) => some (.ptr r o)
    | some (.iptr cs) => some (.iptr cs)
    | some (.fn f a b) => some (.fn f a b)
    | _ => none
  | .binOp op t x y _ => match T.ty t, ev ρ x, ev ρ y with
    | some ti, some a, some b => bin ti.d op a b
    | _, _, _ => none
  | .unOp op _ x => match ev ρ x with
    | some a => un op a
    | none => none
  | .convert s d x => match T.ty s, T.ty d, ev ρ x with
    | some _, some { d := .int k, .. }, some (.lit (.int _ n)) => some (.lit (.int k (k.wrap n)))
    | _, _, _ => none
  | .makeFunc (.func f) first caps => match evl ρ first.toList, evl ρ caps.toList with
    | some a, some b => some (.fn f a b)
    | _, _ => none
  | .fieldAddr s x f => match T.ty s, ev ρ x with
    | some { d := .st fs, .. }, some p => match fs[f]? with
      | some (off, ft) => match T.ty ft with
        | some fi => if 0 < fi.sz then match p with
          | .ptr r o => some (.ptr r (o + off))
          | .iptr cs => some (.iptr (cs.drop off))
          | _ => none else none
        | none => none
      | none => none
    | _, _ => none
  | .field s x f => match T.ty s, ev ρ x with
    | some { d := .st fs, .. }, some (.agg cs) => match fs[f]? with
      | some (off, ft) => match T.ty ft with
        | some fi => ofCells fi (cs.drop off)
        | none => none
      | none => none
    | _, _ => none
  | .indexAddr t x i => match T.ty t, ev ρ x, (ev ρ i).bind intOf with
    | some ti, some p, some j => match ti.d, p with
      | .slice e, .sl cs n _ _ => match T.ty e with
        | some te => if 0 ≤ j ∧ j < n ∧ 0 < te.sz then some (.iptr (cs.drop (j.toNat * te.sz))) else none
        | none => none
      | .slice e, .row r off n s _ => match T.ty e with
        | some te => if te.sz = s ∧ 0 ≤ j ∧ j < n ∧ 0 < s then some (.ptr r (off + j.toNat * s)) else none
        | none => none
      | .arr n e, .ptr r off => match T.ty e with
        | some te => if 0 ≤ j ∧ j < n then some (.ptr r (off + j.toNat * te.sz)) else none
        | none => none
      | .arr n e, .iptr cs => match T.ty e with
        | some te => if 0 ≤ j ∧ j < n then some (.iptr (cs.drop (j.toNat * te.sz))) else none
        | none => none
      | _, _ => none
    | _, _, _ => none
  | .index t x i => match T.ty t, ev ρ x, (ev ρ i).bind intOf with
    | some { d := .arr n e, .. }, some (.agg cs), some j => match T.ty e with
      | some te => if 0 ≤ j ∧ j < n then ofCells te (cs.drop (j.toNat * te.sz)) else none
      | none => none
    | some { d := .str, .. }, some (.lit (.string s)), some j => if 0 ≤ j then (s[j.toNat]?).map fun b => .lit (.int .u8 b.toNat) else none
    | _, _, _ => none
  | .extract x i => match ev ρ x with
    | some (.tup vs) => vs[i]?
    | _ => none
  | .call { callee := .builtin b, args, argTypes } => match b, evl ρ args.toList with
    | .min, some [.lit (.int k a), .lit (.int _ b)] => some (.lit (.int k (if b < a then b else a)))
    | .max, some [.lit (.int k a), .lit (.int _ b)] => some (.lit (.int k (if b > a then b else a)))
    | .len, some [x] => match (argTypes[0]?).bind T.ty with
      | some ti => (lenN ti.d x).map fun (n : Nat) => .lit (.int .i64 (n : Int))
      | none => none
    | _, _ => none
  | _ => none

/-! ### Operations that read memory -/
def opR (T : Pg) (ρ : Regs) (h : H) (o : Op) : Option PV :=
  match o with
  | .load t a => match T.ty t, (ev ρ a).bind (memAt h) with
    | some ti, some cs => ofCells ti cs
    | _, _ => none
  | .slice t x lo hi mx => match T.ty t, ev ρ x, evo ρ lo, evo ρ hi, evo ρ mx with
    | some ti, some v, some l, some hh, some m => sliceP T h ti v l hh m
    | _, _, _, _, _ => none
  | .lookup t x i ok => match T.ty t, ev ρ x, ev ρ i with
    | some { d := .map kt e, .. }, some m, some (.lit (.int kk k)) => match T.ty kt, T.ty e with
      | some { d := .int _, .. }, some te =>
        let out (v : PV) (b : Bool) : PV := if ok then .tup [v, .lit (.bool b)] else v
        match m with
        | .lit (.map none) => (ofCells te te.zeros).map fun z => out z false
        | .mp r => match h.rows[r]? with
          | some (.map es _) => match findE kk k es 0 with
            | some (some (_, v, _)) => some (out v true)
            | some none => (ofCells te te.zeros).map fun z => out z false
            | none => none
          | _ => none
        | _ => none
      | _, _ => none
    | _, _, _ => none
  | .entry x => match ev ρ x with
    | some (.it q) => match h.rows[q]? with
      | some (.iter (some m) _ seen last) => match h.rows[m]?, seen.getLast? with
        | some (.map es clk), some b => if clk = last then match es.find? (fun e => e.2.2 == b) with
            | some e => some (.tup [e.1, e.2.1])
            | none => none
          else none
        | _, _ => none
      | _ => none
    | _ => none
  | .call { callee := .builtin .len, args, argTypes } => match evl ρ args.toList with
    | some [x] => match (argTypes[0]?).bind T.ty with
      | some ti => (lenM h ti.d x).map fun (n : Nat) => .lit (.int .i64 (n : Int))
      | none => none
    | _ => none
  | _ => none

/-! ### Operations that make a row -/
def opA (T : Pg) (ρ : Regs) (r : Nat) (o : Op) : Option (PV × PO) :=
  match o with
  | .alloc t => (T.ty t).map fun ti => (.ptr r 0, .cells ti.zeros)
  | .box t x => match T.ty t, ev ρ x with
    | some ti, some v => if (cellsOf v).length = ti.sz then some (.ptr r 0, .cells (cellsOf v)) else none
    | _, _ => none
  | .buildSlice t len parts => match T.ty t, evs ρ parts.toList with
    | some { d := .slice e, .. }, some ps => match T.ty e with
      | some te => if len ≤ 4096 ∧ te.sz ≤ 4096 ∧ 0 < te.sz then (fillP (fun i => some (i * te.sz, te.sz)) (repl len te.zeros) ps).map fun cs => (.row r 0 len te.sz true, .cells cs) else none
      | none => none
    | _, _ => none
  | .makeMap _ none => some (.mp r, .map [] 0)
  | .makeSlice t l c => match T.ty t, (ev ρ l).bind intOf, (ev ρ c).bind intOf with
    | some { d := .slice e, .. }, some a, some b => match T.ty e with
      | some te => if 0 ≤ a ∧ a ≤ b ∧ b ≤ maxLen ∧ te.byt ≤ maxByt ∧ 0 < te.sz then some (.row r 0 a.toNat te.sz (a == b), .cells (repl a.toNat te.zeros)) else none
      | none => none
    | _, _, _ => none
  | _ => none

/-! ### Operations that write -/
def opW (T : Pg) (C : Cx) (ρ : Regs) (h : H) (o : Op) : Option (PV × H) :=
  match o with
  | .store t a x => match T.ty t, ev ρ a, ev ρ x with
    | some ti, some p, some v => if (cellsOf v).length = ti.sz then (storeAt C h p (cellsOf v)).map (.tup [], ·) else none
    | _, _, _ => none
  | .mapUpdate t m k x => match T.ty t, ev ρ m, ev ρ k, ev ρ x with
    | some { d := .map kt _, .. }, some (.mp r), some (.lit (.int kk kn)), some v => match T.ty kt with
      | some { d := .int _, .. } => if C.no r then none else match h.rows[r]? with
        | some (.map es c) => match findE kk kn es 0 with
          | some (some (i, _, b)) => some (.tup [], setRow h r (.map (es.set i (.lit (.int kk kn), v, b)) c))
          | some none => some (.tup [], setRow h r (.map (es ++ [(.lit (.int kk kn), v, c)]) (c + 1)))
          | none => none
        | _ => none
      | _ => none
    | _, _, _, _ => none
  | .mapEntry t m k => match T.ty t, ev ρ m, ev ρ k with
    | some { d := .map kt e, .. }, some (.mp r), some (.lit (.int kk kn)) => match T.ty kt with
      | some { d := .int _, .. } => if C.no r then none else match h.rows[r]?, (T.ty e).bind fun te => ofCells te te.zeros with
        | some (.map es c), some z => match findE kk kn es 0 with
          | some (some (i, v, b)) => some (.tup [v, .lit (.int .i64 b)], setRow h r (.map (es.set i (.lit (.int kk kn), v, b)) c))
          | some none => some (.tup [z, .lit (.int .i64 c)], setRow h r (.map (es ++ [(.lit (.int kk kn), z, c)]) (c + 1)))
          | none => none
        | _, _ => none
      | _ => none
    | _, _, _ => none
  | .entryStore _ m s x => match ev ρ m, (ev ρ s).bind intOf, ev ρ x with
    | some (.mp r), some b, some v => if C.no r then none else match h.rows[r]? with
      | some (.map es c) => match es.findIdx? (fun e => (e.2.2 : Int) == b) with
        | some i => match es[i]? with
          | some (k, _, b) => some (.tup [], setRow h r (.map (es.set i (k, v, b)) c))
          | none => none
        | none => none
      | _ => none
    | _, _, _ => none
  | .range t x => match T.ty t, ev ρ x with
    | some { d := .map _ _, .. }, some (.lit (.map none)) => some (.it h.rows.length, newObj h (.iter none 0 [] 0))
    | some { d := .map _ _, .. }, some (.mp r) => match h.rows[r]? with
      | some (.map _ c) => some (.it h.rows.length, newObj h (.iter (some r) c [] c))
      | _ => none
    | _, _ => none
  | .call { callee := .builtin b, args, argTypes } => match b, evl ρ args.toList with
    | .append, some [s, x] => match (argTypes[0]?).bind T.ty, (argTypes[1]?).bind T.ty with
      | some { d := .slice e, .. }, some { d := .slice _, .. } => match T.ty e with
        | some te => appendP C h te s x
        | none => none
      | _, _ => none
    | .delete, some [.lit (.map none), .lit (.int _ _)] => match (argTypes[0]?).bind T.ty with
      | some { d := .map kt _, .. } => match T.ty kt with
        | some { d := .int _, .. } => some (.tup [], h)
        | _ => none
      | _ => none
    | .delete, some [.mp r, .lit (.int kk kn)] => match (argTypes[0]?).bind T.ty with
      | some { d := .map kt _, .. } => match T.ty kt with
        | some { d := .int _, .. } => if C.no r then none else match h.rows[r]? with
          | some (.map es c) => match findE kk kn es 0 with
            | some (some (i, _, _)) => some (.tup [], setRow h r (.map (es.eraseIdx i) c))
            | some none => some (.tup [], h)
            | none => none
          | _ => none
        | _ => none
      | _ => none
    | .copy, some [.row r off n s _, x] => match rowCells h x, (argTypes[0]?).bind T.ty with
      | some (cs, m), some { d := .slice e, .. } => match T.ty e with
        | some te => if te.sz = s ∧ cs.length = m * s ∧ 0 < s then (storeAt C h (.ptr r off) (cs.take (min m n * s))).map fun h' => (.lit (.int .i64 (min m n : Nat)), h') else none
        | none => none
      | _, _ => none
    | .clear, some [.row r off n s _] => match (argTypes[0]?).bind T.ty with
      | some { d := .slice e, .. } => match T.ty e with
        | some te => if te.sz = s then (storeAt C h (.ptr r off) (repl n te.zeros)).map (.tup [], ·) else none
        | none => none
      | _ => none
    | _, _ => none
  | _ => none

/-- What the next one of a map's may be: all that it may come to. -/
def nextP (C : Cx) (ρ : Regs) (h : H) (x : Operand) : Option (List (PV × H)) :=
  match ev ρ x with
  | some (.it q) => if C.no q then none else match h.rows[q]? with
    | some (.iter none _ _ _) => some [(.tup [.lit (.bool false)], h)]
    | some (.iter (some m) since seen last) => match h.rows[m]? with
      | some (.map es clk) =>
        let left := es.filter (bornIn seen)
        if left.all (fun e => Nat.blt e.2.2 since) && (seen.isEmpty || es.isEmpty || es.any fun e => Nat.blt e.2.2 last) then
          match left with
          | [] => some [(.tup [.lit (.bool false)], h)]
          | e :: r => if C.det && !r.isEmpty then none else
            some ((e :: r).map fun e => (.tup [.lit (.bool true), e.1, e.2.1], setRow h q (.iter (some m) since (seen ++ [e.2.2]) clk)))
        else none
      | _ => none
    | _ => none
  | _ => none

/-- An operation's kind: neutral, reading, making a row, writing, a call. -/
inductive OK where
  | n | r | a | w | c
  deriving DecidableEq
def kindOf (T : Pg) : Op → OK
  | .move _ | .assign _ | .pick .. | .build .. | .nilCheck _ | .binOp .. | .unOp .. | .convert .. | .makeFunc .. | .fieldAddr .. | .field .. | .indexAddr .. | .index .. | .extract .. => .n
  | .load .. | .slice .. | .lookup .. | .entry _ => .r
  | .alloc _ | .box .. | .buildSlice .. | .makeMap .. | .makeSlice .. => .a
  | .call { callee := .builtin b, argTypes, .. } => match b with
    | .min | .max => .n
    | .len => match (argTypes[0]?).bind T.ty with
      | some { d := .map _ _, .. } => .r
      | _ => .n
    | _ => .w
  | .call _ => .c
  | _ => .w

/-- An operation that is no call of a function. -/
def op1 (T : Pg) (C : Cx) (ρ : Regs) (h : H) (o : Op) : Option (PV × H) :=
  match kindOf T o with
  | .n => (opN T ρ o).map (·, h)
  | .r => (opR T ρ h o).map (·, h)
  | .a => (opA T ρ h.rows.length o).map fun (v, po) => (v, newObj h po)
  | .w => opW T C ρ h o
  | .c => none

/-- Frozen: what a value holds, told by itself. Rows below lo stay as they are, at the top: never within what is frozen. -/
def freezes (f : PV → Option PV) : List PV → Option (List PV)
  | [] => some []
  | p :: r => match f p, freezes f r with
    | some q, some s => some (q :: s)
    | _, _ => none
def freeze (lo : Nat) (h : H) : Nat → Bool → PV → Option PV
  | 0, _, _ => none
  | n + 1, top, p => match p with
    | .lit _ | .sl .. | .iptr _ => some p
    | .row r off k s full => bif Nat.blt r lo then (bif top then some p else none) else match h.rows[r]? with
      | some (.cells cs) => if off + k * s ≤ cs.length then (freezes (freeze lo h n false) ((cs.drop off).take (k * s))).map fun c => .sl c k full true else none
      | _ => none
    | .ptr r off => bif Nat.blt r lo then (bif top then some p else none) else match h.rows[r]? with
      | some (.cells cs) => (freezes (freeze lo h n false) (cs.drop off)).map .iptr
      | _ => none
    | .fn f a b => match freezes (freeze lo h n top) a, freezes (freeze lo h n top) b with
      | some a, some b => some (.fn f a b)
      | _, _ => none
    | .agg cs => (freezes (freeze lo h n top) cs).map .agg
    | .tup cs => (freezes (freeze lo h n top) cs).map .tup
    | .mp r | .yld r | .it r => bif top && Nat.blt r lo then some p else none
def fuelF : Nat := 1000

/-- Is a guarded operation wanted? -/
def wantedP (ops : Array Oper) (ρ : Regs) (o : Oper) : Option Bool :=
  match o.guard with
  | none => some true
  | some (j, want) => match (ops[j]?).bind (·.dst) with
    | some d => match gt ρ d with
      | some (.lit (.bool b)) => some (b == want)
      | some (.tup []) => some false
      | _ => none
    | none => none

def putD (C : Cx) (ρ : Regs) (d : Option Tmp) (v : PV) : Option Regs :=
  match d with
  | some t => if t < C.nt then some (st ρ t v) else none
  | none => some ρ

def regsOf : List PV → Nat → Regs → Regs
  | [], _, ρ => ρ
  | a :: r, i, ρ => regsOf r (i + 1) (st ρ i a)

def res1 (T : Pg) (ρ : Regs) (h : H) : ResultVar → Option PV
  | .tmp t => gt ρ t
  | .cell a t => match T.ty t, (gt ρ a).bind (memAt h) with
    | some ti, some cs => ofCells ti cs
    | _, _ => none
def resAll (T : Pg) (ρ : Regs) (h : H) : List ResultVar → Option (List PV)
  | [] => some []
  | x :: r => match res1 T ρ h x, resAll T ρ h r with
    | some v, some vs => some (v :: vs)
    | _, _ => none
def results (T : Pg) (ρ : Regs) (h : H) (rs : List ResultVar) : Option PV :=
  match resAll T ρ h rs with
  | some [v] => some v
  | some vs => some (.tup vs)
  | none => none

/-! ### A region that draws its order -/
/-- Which operations are listed ahead of each, whatever order is drawn: bits. -/
def beforeAny (ops : Array Oper) : List Nat := (CheckFast.beforeF ops).toList
/-- Does a call of a value write nothing that stood there? -/
def pureV (T : Pg) (me : FuncId) : PV → Bool
  | .fn g _ _ => T.pure me g
  | _ => false
/-- What an operation does in such a region: a call of a known function that writes nothing reads. -/
def does (T : Pg) (me : FuncId) (o : Oper) : OK :=
  match kindOf T o.op with
  | .c => match o.op with
    | .call { callee := .value (.func f), .. } => if pureV T me (.fn f [] []) then .r else .w
    | _ => .w
  | k => k
/-- The temporaries that an operation of a region names, and its guard's. -/
def namesOf (ops : Array Oper) (o : Oper) : List Nat :=
  (match o.guard with
    | some (j, _) => match (ops[j]?).bind (·.dst) with
      | some d => [d]
      | none => []
    | none => []) ++ o.op.operands.toList.filterMap fun x => match x with
    | .tmp t => some t
    | _ => none
/-- An operation with its number, the numbers (bits) of what stands ahead of it whatever order is drawn, the temporaries it names, what it does. -/
structure DOp where
  i : Nat
  b : Nat
  o : Oper
  ns : List Nat
  kd : OK
def dops (T : Pg) (me : FuncId) (ops : Array Oper) : List Oper → List Nat → Nat → List DOp
  | o :: r, b :: bs, i => ⟨i, b, o, namesOf ops o, does T me o⟩ :: dops T me ops r bs (i + 1)
  | _, _, _ => []
def bitsOf (f : DOp → Bool) : List DOp → Nat
  | [] => 0
  | d :: r => (bif f d then 2 ^ d.i else 0) ||| bitsOf f r
def OK.isN : OK → Bool
  | .n => true
  | _ => false
def OK.isA : OK → Bool
  | .a => true
  | _ => false
def OK.isW : OK → Bool
  | .n | .a | .r => false
  | _ => true
/-- Taken first: what writes nothing and waits for nothing that writes. -/
def early (ws : Nat) (d : DOp) : Bool := !d.kd.isW && Nat.beq (d.b &&& ws) 0
/-- What a writer may come ahead of: a load: what it reads is kept from the writer. -/
def hides (ρ : Regs) : Op → Option Nat
  | .load _ a => match ev ρ a with
    | some (.ptr r _) => some r
    | _ => none
  | _ => none
/-- Who reads, and is no load. -/
def fast (d : DOp) : Bool :=
  match d.kd with
  | .r => match d.o.op with
    | .load .. => false
    | _ => true
  | _ => false
/-- How many of these stand ahead. -/
def behind (nn : List DOp) (d : DOp) : Nat := (nn.filter fun w => d.b.testBit w.i).length
/-- The late ones: a neutral one stands right behind the last one, not neutral, that stands ahead of it whatever order is drawn. -/
def arrange (nn ne : List DOp) : List DOp → Nat → List DOp
  | [], j => ne.filter fun d => Nat.beq (behind nn d) j
  | w :: r, j => (ne.filter fun d => Nat.beq (behind nn d) j) ++ w :: arrange nn ne r (j + 1)
/-- Each stands behind what stands ahead of it; all are there ('full'), none twice. -/
def okSeq (full : Nat) : List DOp → Nat → Bool
  | [], seen => Nat.beq seen full
  | d :: r, seen => Nat.beq (seen &&& d.b) d.b && !seen.testBit d.i && okSeq full r (seen ||| 2 ^ d.i)
/-- Of the late ones each waits for all late ones that are not neutral and stand before it here; who is not neutral waits for the early ones that read and are no loads (A). -/
def okLate (A : Nat) : List DOp → Nat → Bool
  | [], _ => true
  | d :: r, ws => Nat.beq (d.b &&& ws) ws && (bif d.kd.isN then okLate A r ws else Nat.beq (d.b &&& A) A && okLate A r (ws ||| 2 ^ d.i))
/-- The numbers ahead of one. -/
def bOf (ds : List DOp) (i : Nat) : Nat :=
  match ds.find? fun d => Nat.beq d.i i with
  | some d => d.b
  | none => 0
/-- What stands ahead of an operation is what its edges say. -/
def edgesOk (ds : List DOp) : Bool := ds.all fun d => Nat.blt d.b (2 ^ d.i) && Nat.beq d.b (d.o.after.toList.foldr (fun e s => bif Region.binds .any e then (2 ^ e.on ||| bOf ds e.on) ||| s else s) 0)
def namesT (d : DOp) (t : Nat) : Bool := d.ns.any (Nat.beq t) || match d.o.dst with
  | some u => Nat.beq t u
  | none => false
/-- Whoever names a temporary is ordered with whoever writes it. -/
def tmpsOk (ds : List DOp) : Bool := ds.all fun e => match e.o.dst with
  | some t => ds.all fun d => Nat.beq d.i e.i || (!namesT d t || (d.b.testBit e.i || e.b.testBit d.i))
  | none => true
structure Plan where
  na : Nat
  fst : List DOp
  late : List DOp
def lateOf (ds : List DOp) (ws : Nat) : List DOp :=
  let l := ds.filter fun d => !early ws d
  let nn := l.filter fun d => !d.kd.isN
  arrange nn (l.filter fun d => d.kd.isN) nn 0
/-- How such a region is gone through; none: it isn't. -/
def planOk (ops : Array Oper) (ds fst late : List DOp) : Bool :=
  edgesOk ds && (tmpsOk ds && (okSeq (2 ^ ops.size - 1) (fst ++ late) 0 && okLate (bitsOf fast fst) late 0))
def plan (T : Pg) (me : FuncId) (ops : Array Oper) : Option Plan :=
  let ds := dops T me ops ops.toList (beforeAny ops) 0
  let ws := bitsOf (fun d => d.kd.isW) ds
  let fst := ds.filter (early ws)
  let late := lateOf ds ws
  bif planOk ops ds fst late then some ⟨(fst.filter fun d => d.kd.isA).length, fst, late⟩ else none
/-- The rows that are hidden from an operation, or kept from it: those of what does not stand ahead of it (b). -/
def masked (b : Nat) (new : Bool) : List (Nat × Option (Bool × Nat)) → List Nat
  | [] => []
  | (i, x) :: r => match x with
    | some (y, q) => bif y == new && !b.testBit i then q :: masked b new r else masked b new r
    | none => masked b new r
def maskRow (rs : List PO) : List Nat → List PO
  | [] => rs
  | r :: m => maskRow (rs.set r .dead) m
/-- The rows m put back as they were. -/
def unmask (old : List PO) (rs : List PO) : List Nat → List PO
  | [] => rs
  | r :: m => unmask old (rs.set r (old.getD r .dead)) m

inductive Task where
  | code (c : Code) (ρ : Regs)
  | ops (all : Array Oper) (l : List Oper) (ρ : Regs)
  -- the early ones; q: the next new row's number; ms: what is hidden, what is kept
  | draw (all : Array Oper) (l late : List DOp) (ρ : Regs) (q : Nat) (ms : List (Nat × Option (Bool × Nat)))
  | tail (all : Array Oper) (l : List DOp) (ρ : Regs) (ms : List (Nat × Option (Bool × Nat)))
  | call (f : PV) (args : List PV)

structure Out where
  x : X
  ρ : Regs
  v : PV
  h : H

def params (ρ : Regs) (C : Cx) : List Tmp → List PV → Option Regs
  | [], [] => some ρ
  | t :: ts, a :: as => if t < C.nt then params (st ρ t a) C ts as else none
  | _, _ => none

/-- An operation: all that it may come to goes on well. -/
def exec (T : Pg) (call : Cx → PV → List PV → H → (PV → H → Bool) → Bool) (C : Cx) (ρ : Regs) (h : H) (op : Op) (k : PV → H → Bool) : Bool :=
  match op with
  | .call { callee := .value f, args, .. } => match ev ρ f, evl ρ args.toList with
    | some fv, some vs => call C fv vs h k
    | _, _ => false
  | .next x false => match nextP C ρ h x with
    | some l => l.all fun e => k e.1 e.2
    | none => false
  | op => match op1 T C ρ h op with
    | some (v, h') => k v h'
    | none => false

/-- These temporaries alone. -/
def only (ρ : Regs) : List Nat → Regs
  | [] => .e
  | t :: r => match gt ρ t with
    | some v => st (only ρ r) t v
    | none => only ρ r
/-- The round's loop is there. -/
def inRound (C : Cx) (h : H) : Bool :=
  match C.rd with
  | none => true
  | some l => match h.rows[l]? with
    | some (.loop _) => true
    | _ => false

/-- The machine: whatever is chosen, k holds of what it comes to. -/
def run (T : Pg) : Nat → Cx → Task → H → (Out → Bool) → Bool
  | 0, _, _, _, _ => false
  | n + 1, C, .code c ρ, h, k =>
    match c with
    | .skip | .label _ => k ⟨.norm, ρ, .tup [], h⟩
    | .ret => k ⟨.ret, ρ, .tup [], h⟩
    | .exit id => k ⟨.exit id, ρ, .tup [], h⟩
    | .seq a b => run T n C (.code a ρ) h fun o => match o.x with
      | .norm => run T n C (.code b o.ρ) o.h k
      | _ => k o
    | .cond c a b => match (ev ρ c).bind boolOf with
      | some true => run T n C (.code a ρ) h k
      | some false => run T n C (.code b ρ) h k
      | none => false
    | .block id b => run T n C (.code b ρ) h fun o => match o.x with
      | .exit i => bif Nat.beq i id then k ⟨.norm, o.ρ, o.v, o.h⟩ else k o
      | _ => k o
    | .loop b => run T n C (.code b ρ) h fun o => match o.x with
      | .norm => run T n C (.code (.loop b) o.ρ) o.h k
      | _ => k o
    | .scope b => run T n C (.code b ρ) h k
    | .region _ ops false => run T n C (.ops ops ops.toList ρ) h k
    | .region _ ops true => match plan T C.me ops with
      | none => false
      | some p => run T n C (.draw ops p.fst p.late ρ h.rows.length []) { rows := h.rows ++ List.replicate p.na .dead } k
    | .rangeFunc f ps a b => match ev ρ f with
      | none => false
      | some fv => if inRound C h = false ∨ C.no h.rows.length = true then false else
        let l := h.rows.length
        run T n C (.call fv [.yld l]) (newObj h (.loop { state := 0, pend := none, fn := C.me, nt := C.nt, regs := ρ, params := ps.toList, assign := a, body := b })) fun o =>
          match o.h.rows[l]? with
          | some (.loop lr) => if lr.state = 1 then false else
            match lr.pend with
            | none => k ⟨.norm, ρ, .tup [], setRow o.h l .dead⟩
            | some .ret => k ⟨.ret, ρ, .tup [], setRow o.h l .dead⟩
            | some (.exit i) => k ⟨.exit i, ρ, .tup [], setRow o.h l .dead⟩
            | some _ => false
          | _ => false
    | .goto _ | .refuse _ => false
  | _ + 1, _, .ops _ [] ρ, h, k => k ⟨.norm, ρ, .tup [], h⟩
  | n + 1, C, .ops all (o :: l) ρ, h, k =>
    match wantedP all ρ o with
    | none => false
    | some false => match putD C ρ o.dst (.tup []) with
      | some ρ' => run T n C (.ops all l ρ') h k
      | none => false
    | some true => exec T (fun C f vs h k => run T n C (.call f vs) h fun o => k o.v o.h) C ρ h o.op fun v h' => match putD C ρ o.dst v with
      | some ρ' => run T n C (.ops all l ρ') h' k
      | none => false
  | n + 1, C, .draw all [] late ρ q ms, h, k => run T n C (.tail all late ρ ms) h k
  | n + 1, C, .draw all (d :: l) late ρ q ms, h, k =>
    let ρo := only ρ d.ns
    match wantedP all ρo d.o with
    | none => false
    | some false => match putD C ρ d.o.dst (.tup []) with
      | some ρ' => run T n C (.draw all l late ρ' q ms) h k
      | none => false
    | some true => match d.kd with
      | .n => match opN T ρo d.o.op with
        | some v => match putD C ρ d.o.dst v with
          | some ρ' => run T n C (.draw all l late ρ' q ms) h k
          | none => false
        | none => false
      | .a => match opA T ρo q d.o.op with
        | some (v, po) => match putD C ρ d.o.dst v with
          | some ρ' => run T n C (.draw all l late ρ' (q + 1) ((d.i, some (true, q)) :: ms)) (setRow h q po) k
          | none => false
        | none => false
      | .r => match kindOf T d.o.op with
        | .c => match d.o.op with
          | .call { callee := .value (.func f), args, .. } => match evl ρo args.toList with
            | some vs => run T n { C with det := true } (.call (.fn f [] []) vs) { rows := maskRow h.rows (masked d.b true ms) } fun r => match putD C ρ d.o.dst r.v with
              | some ρ' => run T n C (.draw all l late ρ' q ms) h k
              | none => false
            | none => false
          | _ => false
        | _ => match opR T ρo { rows := maskRow h.rows (masked d.b true ms) } d.o.op with
          | some v => match putD C ρ d.o.dst v with
            | some ρ' => run T n C (.draw all l late ρ' q (match hides ρo d.o.op with | some r => (d.i, some (false, r)) :: ms | none => ms)) h k
            | none => false
          | none => false
      | _ => false
  | _ + 1, _, .tail _ [] ρ _, h, k => k ⟨.norm, ρ, .tup [], h⟩
  | n + 1, C, .tail all (d :: l) ρ ms, h, k =>
    let ρo := only ρ d.ns
    match wantedP all ρo d.o with
    | none => false
    | some false => match putD C ρ d.o.dst (.tup []) with
      | some ρ' => run T n C (.tail all l ρ' ms) h k
      | none => false
    | some true => match d.kd with
      | .n => match opN T ρo d.o.op with
        | some v => match putD C ρ d.o.dst v with
          | some ρ' => run T n C (.tail all l ρ' ms) h k
          | none => false
        | none => false
      | _ => let m := masked d.b true ms
        exec T (fun C f vs h k => run T n C (.call f vs) h fun o => k o.v o.h) { C with pr := masked d.b false ms ++ (m ++ C.pr) } ρo { rows := maskRow h.rows m } d.o.op fun v h' => match putD C ρ d.o.dst v with
          | some ρ' => run T n C (.tail all l ρ' ms) { rows := unmask h.rows h'.rows m } k
          | none => false
  | n + 1, C, .call fv args, h, k => match fv with
    | .fn f first caps =>
      let as := first ++ args ++ caps
      match (T.sum f).bind (fun s => s as h) with
      | some v => k ⟨.norm, .e, v, h⟩
      | none => match T.fn f with
        | some fn => match fn.body with
          | some b =>
            bif Nat.ble as.length fn.ntmps && Nat.ble fn.ntmps wide then
              bif T.pure C.me f then
                run T n { C with me := f, nt := fn.ntmps, lo := h.rows.length, rd := none } (.code b (regsOf as 0 .e)) h fun o => match o.x with
                  | .exit _ => false
                  | _ => match results T o.ρ o.h fn.results.toList with
                    | some v => match freeze h.rows.length o.h fuelF true v with
                      | some v' => k ⟨.norm, .e, v', h⟩
                      | none => false
                    | none => false
              else
                run T n { C with me := f, nt := fn.ntmps, rd := none } (.code b (regsOf as 0 .e)) h fun o => match o.x with
                  | .exit _ => false
                  | _ => match results T o.ρ o.h fn.results.toList with
                    | some v => k ⟨.norm, .e, v, o.h⟩
                    | none => false
            else false
          | none => false
        | none => false
    | .yld l => if C.no l then false else match h.rows[l]? with
      | some (.loop lr) => if lr.state = 0 then
          let C' : Cx := { C with me := lr.fn, nt := lr.nt, rd := some l }
          match params lr.regs C' lr.params args with
          | some ρ => run T n C' (.code lr.assign ρ) h fun o => match o.x with
            | .norm => match o.h.rows[l]? with
              | some (.loop lr1) => if lr1.state = 0 then
                  run T n C' (.code lr.body o.ρ) (setRow o.h l (.loop { lr1 with state := 1 })) fun o3 => match o3.h.rows[l]? with
                    | some (.loop lr3) => match o3.x with
                      | .norm => k ⟨.norm, .e, .lit (.bool true), setRow o3.h l (.loop { lr3 with state := 0, pend := none })⟩
                      | .ret => k ⟨.norm, .e, .lit (.bool false), setRow o3.h l (.loop { lr3 with state := 2, pend := some .ret })⟩
                      | .exit i => k ⟨.norm, .e, .lit (.bool false), setRow o3.h l (.loop { lr3 with state := 2, pend := some (.exit i) })⟩
                    | _ => false
                else false
              | _ => false
            | _ => false
          | none => false
        else false
      | _ => false
    | _ => false

def tdOf : TypeDesc → TD
  | .int k => .int k
  | .bool => .bool
  | .string => .str
  | .slice e => .slice e
  | .array n e => .arr n e
  | .struct fs => .st (fs.toList.map fun f => (f.offset, f.type))
  | .map k e => .map k e
  | .pointer e => .ptr e
  | .func _ _ _ => .fn
  | _ => .other
def tupB : Value → Bool
  | .tuple _ => true
  | _ => false
/-- A type out of the program's table. -/
def tiOf (types : Array TypeInfo) (t : TypeId) : Option TI :=
  match types[t]? with
  | none => none
  | some i =>
    let d : TypeDesc := match i.desc with
      | .named _ u => match types[u]? with | some j => j.desc | none => .invalid
      | d => d
    match i.zero with
    | some z => bif tupB z then none else some { d := tdOf d, sz := i.size, byt := i.bytes, zero := z.cells.toList }
    | none => none
end Go.PI
namespace Go.PI

/-- Where a row lies: its block, from which cell on, how many cells of it are told, how many the block has. -/
structure Loc where
  b : Nat
  o : Nat
  len : Nat
  sz : Nat
/-- Where rows lie. 'dead': what is told of them no longer. 'off': blocks of which nothing is told, that may be written. -/
structure Wd where
  β : Nat → Option Loc
  N : Nat
  dead : Nat → Prop
  off : Nat → Prop

/-- A block in which nothing is written any more. -/
def Imm (W : Wd) (w : World) (b : Nat) : Prop := b < w.heap.size ∧ (∀ r x, W.β r = some x → x.b ≠ b) ∧ ¬ W.off b

/-- No row may be named. -/
def Wd.none (W : Wd) : Wd := ⟨W.β, 0, fun _ => False, W.off⟩

mutual
def Rel : Wd → World → PV → Value → Prop
  | _, _, .lit x, v => v = x ∧ x.oneCell' = true
  | W, w, .sl cs n full nn, v => ∃ a cap, v = .slice a n cap ∧ n ≤ cap ∧ (full = true → cap = n) ∧ (nn = true ∨ 0 < n → a.isSome = true) ∧
      (cs = [] ∨ ∃ b o, a = some ⟨b, o, Option.none⟩ ∧ Imm W w b ∧ RelAt W.none w cs b o)
  | W, _, .row r off n s full, v => r < W.N ∧ ∃ a cap, v = .slice (some a) n cap ∧ n ≤ cap ∧ (full = true → cap = n) ∧
      (W.dead r ∨ ∃ x, W.β r = some x ∧ (0 < cap → a = ⟨x.b, x.o + off, Option.none⟩) ∧ x.o + off + cap * s ≤ x.sz ∧ (full = false → x.len ≤ off + cap * s))
  | W, _, .ptr r off, v => r < W.N ∧ ∃ a, v = .pointer (some a) ∧ (W.dead r ∨ ∃ x, W.β r = some x ∧ a = ⟨x.b, x.o + off, Option.none⟩)
  | W, w, .iptr cs, v => ∃ a, v = .pointer (some a) ∧ (cs = [] ∨ ∃ b o, a = ⟨b, o, Option.none⟩ ∧ Imm W w b ∧ RelAt W.none w cs b o)
  | W, _, .mp r, v => r < W.N ∧ ∃ b, v = .map (some b) ∧ (W.dead r ∨ ∃ x, W.β r = some x ∧ x.b = b)
  | W, w, .fn f first caps, v => ∃ vf vc, v = .func (.func f) vf vc ∧ RelL W w first vf.toList ∧ RelL W w caps vc.toList
  | W, _, .yld l, v => l < W.N ∧ ∃ b, v = .func (.yield b) #[] #[] ∧ (W.dead l ∨ ∃ x, W.β l = some x ∧ x.b = b)
  | W, _, .it r, v => r < W.N ∧ ∃ b, v = .pointer (some ⟨b, 0, Option.none⟩) ∧ (W.dead r ∨ ∃ x, W.β r = some x ∧ x.b = b)
  | W, w, .agg cs, v => ∃ vs, v = .agg vs ∧ RelL W w cs vs.toList
  | W, w, .tup cs, v => ∃ vs, v = .tuple vs ∧ RelL W w cs vs.toList
def RelL : Wd → World → List PV → List Value → Prop
  | _, _, [], l => l = []
  | W, w, p :: ps, l => ∃ v vs, l = v :: vs ∧ Rel W w p v ∧ RelL W w ps vs
def RelAt : Wd → World → List PV → Nat → Nat → Prop
  | _, _, [], _, _ => True
  | W, w, p :: ps, b, o => (∃ v, w.cell? ⟨b, o, Option.none⟩ = some v ∧ Rel W w p v) ∧ RelAt W w ps b (o + 1)
end

section
variable {W W' : Wd} {w w' : World}
theorem RelL.length : ∀ {ps : List PV} {vs : List Value}, RelL W w ps vs → ps.length = vs.length
  | [], vs, h => by simp only [RelL] at h; simp [h]
  | p :: ps, vs, h => by
    simp only [RelL] at h
    obtain ⟨v, vs, rfl, _, h⟩ := h
    simp [RelL.length h]
theorem RelL.get : ∀ {ps : List PV} {vs : List Value}, RelL W w ps vs → ∀ {i : Nat} {p : PV}, ps[i]? = some p → ∃ v, vs[i]? = some v ∧ Rel W w p v
  | [], _, _, i, p, hp => by simp at hp
  | q :: ps, vs, h, i, p, hp => by
    simp only [RelL] at h
    obtain ⟨v, vs, rfl, h0, h⟩ := h
    cases i with
    | zero => simp at hp; subst hp; exact ⟨v, by simp, h0⟩
    | succ i => simp at hp ⊢; exact RelL.get h hp
theorem RelL.of_get : ∀ {ps : List PV} {vs : List Value}, ps.length = vs.length → (∀ (i : Nat) (p : PV), ps[i]? = some p → ∃ v, vs[i]? = some v ∧ Rel W w p v) → RelL W w ps vs
  | [], vs, hl, _ => by simp only [RelL]; exact List.eq_nil_of_length_eq_zero hl.symm
  | p :: ps, [], hl, _ => by simp at hl
  | p :: ps, v :: vs, hl, h => by
    simp only [RelL]
    refine ⟨v, vs, rfl, ?_, RelL.of_get (by simpa using hl) (fun i q hq => by simpa using h (i + 1) q (by simpa using hq))⟩
    obtain ⟨u, hu, hr⟩ := h 0 p rfl
    simp at hu; subst hu; exact hr
theorem RelAt.get : ∀ {ps : List PV} {b o : Nat}, RelAt W w ps b o → ∀ {i : Nat} {p : PV}, ps[i]? = some p → ∃ v, w.cell? ⟨b, o + i, none⟩ = some v ∧ Rel W w p v
  | [], _, _, _, i, p, hp => by simp at hp
  | q :: ps, b, o, h, i, p, hp => by
    simp only [RelAt] at h
    cases i with
    | zero => simp at hp; subst hp; exact h.1
    | succ i =>
      simp at hp
      obtain ⟨v, hv, hr⟩ := RelAt.get h.2 hp
      exact ⟨v, by rw [← hv]; congr 2; omega, hr⟩
theorem RelAt.of_get : ∀ {ps : List PV} {b o : Nat}, (∀ (i : Nat) (p : PV), ps[i]? = some p → ∃ v, w.cell? ⟨b, o + i, none⟩ = some v ∧ Rel W w p v) → RelAt W w ps b o
  | [], _, _, _ => by simp only [RelAt]
  | p :: ps, b, o, h => by
    simp only [RelAt]
    refine ⟨by simpa using h 0 p rfl, RelAt.of_get fun i q hq => ?_⟩
    obtain ⟨v, hv, hr⟩ := h (i + 1) q (by simpa using hq)
    exact ⟨v, by rw [← hv]; congr 2; omega, hr⟩
theorem RelAt.drop {ps : List PV} {b o : Nat} (h : RelAt W w ps b o) (k : Nat) : RelAt W w (ps.drop k) b (o + k) :=
  RelAt.of_get fun i p hp => by
    rw [List.getElem?_drop] at hp
    obtain ⟨v, hv, hr⟩ := h.get hp
    exact ⟨v, by rw [← hv]; congr 2; omega, hr⟩
theorem RelAt.take {ps : List PV} {b o : Nat} (h : RelAt W w ps b o) (k : Nat) : RelAt W w (ps.take k) b o :=
  RelAt.of_get fun i p hp => by
    rw [List.getElem?_take] at hp
    split at hp
    · exact h.get hp
    · cases hp
end

/-! ### What becomes of the world -/
def alive (h : H) (r : Nat) : Prop := ∃ po, h.rows[r]? = some po ∧ po ≠ .dead
structure Ext (C : Cx) (h : H) (W : Wd) (w : World) (W' : Wd) (w' : World) : Prop where
  size : w.heap.size ≤ w'.heap.size
  same : ∀ b, b < w.heap.size → (∀ r x, W.β r = some x → alive h r → C.no r = false → x.b ≠ b) → w'.heap[b]? = w.heap[b]?
  n : W.N ≤ W'.N
  up : ∀ r, r < W.N → ∀ x, W.β r = some x → W'.β r = some x ∨ W'.dead r
  down : ∀ r, r < W.N → ∀ x, W'.β r = some x → W.β r = some x
  dead : ∀ r, W.dead r → W'.dead r
  off : ∀ b, W'.off b ↔ W.off b
  new : ∀ r x, W'.β r = some x → w.heap.size ≤ x.b ∨ ∃ r' x', W.β r' = some x' ∧ x'.b = x.b ∧ (r' = r ∨ alive h r' ∧ C.no r' = false)
  os : w'.os = w.os
  tape : w'.tape = w.tape
  output : w'.output = w.output

theorem Ext.refl (C : Cx) (h : H) (W : Wd) (w : World) : Ext C h W w W w :=
  ⟨Nat.le_refl _, fun _ _ _ => rfl, Nat.le_refl _, fun _ _ _ h => .inl h, fun _ _ _ h => h, fun _ h => h, fun _ => Iff.rfl, fun r x h => .inr ⟨r, x, h, rfl, .inl rfl⟩, rfl, rfl, rfl⟩
section
variable {C : Cx} {h h1 : H} {W W' W'' : Wd} {w w' w'' : World}
theorem Ext.imm (e : Ext C h W w W' w') {b : Nat} (hb : Imm W w b) : Imm W' w' b ∧ w'.heap[b]? = w.heap[b]? := by
  refine ⟨⟨Nat.lt_of_lt_of_le hb.1 e.size, fun r x hr => ?_, fun h => hb.2.2 ((e.off b).1 h)⟩, e.same b hb.1 (fun r x hr _ _ => hb.2.1 r x hr)⟩
  rcases e.new r x hr with h | ⟨r', x', h, hx, _⟩
  · exact fun he => by have := hb.1; omega
  · exact hx ▸ hb.2.1 r' x' h
theorem cell_of_heap {b : Nat} (h : w'.heap[b]? = w.heap[b]?) (o : Nat) : w'.cell? ⟨b, o, none⟩ = w.cell? ⟨b, o, none⟩ := by
  simp only [World.cell?, h]
/-- What values need of what becomes of the world. -/
structure Mon (W : Wd) (w : World) (W' : Wd) (w' : World) : Prop where
  imm : ∀ b vs e z, Imm W w b → w.heap[b]? = some (.cells vs e z) → Imm W' w' b ∧ w'.heap[b]? = w.heap[b]?
  n : W.N ≤ W'.N
  up : ∀ r, r < W.N → ∀ x, W.β r = some x → W'.β r = some x ∨ W'.dead r
  dead : ∀ r, r < W.N → W.dead r → W'.dead r
theorem Mon.none (e : Mon W w W' w') : Mon W.none w W'.none w' := ⟨e.imm, Nat.le_refl _, fun _ h => absurd h (Nat.not_lt_zero _), fun _ h => absurd h (Nat.not_lt_zero _)⟩
theorem Mon.of_none (W : Wd) (w : World) : Mon W.none w W w := ⟨fun _ _ _ _ h _ => ⟨h, rfl⟩, Nat.zero_le _, fun _ h => absurd h (Nat.not_lt_zero _), fun _ h => absurd h (Nat.not_lt_zero _)⟩
theorem Ext.mon (e : Ext C h W w W' w') : Mon W w W' w' := ⟨fun _ _ _ _ hb _ => e.imm hb, e.n, e.up, fun r _ h => e.dead r h⟩
theorem cells_of_cell {b o : Nat} {v : Value} (h : w.cell? ⟨b, o, none⟩ = some v) : ∃ vs e z, w.heap[b]? = some (.cells vs e z) := by
  simp only [World.cell?] at h
  split at h
  · exact ⟨_, _, _, ‹_›⟩
  · cases h
theorem RelAt.cells {p : PV} {ps : List PV} {b o : Nat} (h : RelAt W w (p :: ps) b o) : ∃ vs e z, w.heap[b]? = some (.cells vs e z) := by
  simp only [RelAt] at h
  obtain ⟨⟨v, hv, _⟩, _⟩ := h
  exact cells_of_cell hv
mutual
theorem Rel.mon : ∀ {W W' : Wd} {w w' : World} (_ : Mon W w W' w') {p : PV} {v : Value}, Rel W w p v → Rel W' w' p v
  | _, _, _, _, _, .lit x, v, hr => by simp only [Rel] at hr ⊢; exact hr
  | _, _, _, _, e, .sl cs n full nn, v, hr => by
    simp only [Rel] at hr ⊢
    obtain ⟨a, cap, hv, h1, h2, h3, h4⟩ := hr
    refine ⟨a, cap, hv, h1, h2, h3, ?_⟩
    rcases h4 with h4 | ⟨b, o, ha, hi, hc⟩
    · exact .inl h4
    · cases cs with
      | nil => exact .inl rfl
      | cons c cs =>
        obtain ⟨vs, t, z, hcells⟩ := hc.cells
        exact .inr ⟨b, o, ha, (e.imm _ _ _ _ hi hcells).1, RelAt.mon e.none hi hc⟩
  | _, _, _, _, e, .row r off n s full, v, hr => by
    simp only [Rel] at hr ⊢
    obtain ⟨hN, a, cap, hv, h1, h2, h3⟩ := hr
    refine ⟨Nat.lt_of_lt_of_le hN e.n, a, cap, hv, h1, h2, ?_⟩
    rcases h3 with h3 | ⟨x, hx, h4⟩
    · exact .inl (e.dead _ hN h3)
    · exact (e.up r hN x hx).elim (fun hx => .inr ⟨x, hx, h4⟩) .inl
  | _, _, _, _, e, .ptr r off, v, hr => by
    simp only [Rel] at hr ⊢
    obtain ⟨hN, a, hv, h3⟩ := hr
    refine ⟨Nat.lt_of_lt_of_le hN e.n, a, hv, ?_⟩
    rcases h3 with h3 | ⟨x, hx, h4⟩
    · exact .inl (e.dead _ hN h3)
    · exact (e.up r hN x hx).elim (fun hx => .inr ⟨x, hx, h4⟩) .inl
  | _, _, _, _, e, .iptr cs, v, hr => by
    simp only [Rel] at hr ⊢
    obtain ⟨a, hv, h4⟩ := hr
    refine ⟨a, hv, ?_⟩
    rcases h4 with h4 | ⟨b, o, ha, hi, hc⟩
    · exact .inl h4
    · cases cs with
      | nil => exact .inl rfl
      | cons c cs =>
        obtain ⟨vs, t, z, hcells⟩ := hc.cells
        exact .inr ⟨b, o, ha, (e.imm _ _ _ _ hi hcells).1, RelAt.mon e.none hi hc⟩
  | _, _, _, _, e, .mp r, v, hr => by
    simp only [Rel] at hr ⊢
    obtain ⟨hN, b, hv, h3⟩ := hr
    refine ⟨Nat.lt_of_lt_of_le hN e.n, b, hv, ?_⟩
    rcases h3 with h3 | ⟨x, hx, h4⟩
    · exact .inl (e.dead _ hN h3)
    · exact (e.up r hN x hx).elim (fun hx => .inr ⟨x, hx, h4⟩) .inl
  | _, _, _, _, e, .fn f first caps, v, hr => by
    simp only [Rel] at hr ⊢
    obtain ⟨vf, vc, hv, h1, h2⟩ := hr
    exact ⟨vf, vc, hv, RelL.mon e h1, RelL.mon e h2⟩
  | _, _, _, _, e, .yld r, v, hr => by
    simp only [Rel] at hr ⊢
    obtain ⟨hN, b, hv, h3⟩ := hr
    refine ⟨Nat.lt_of_lt_of_le hN e.n, b, hv, ?_⟩
    rcases h3 with h3 | ⟨x, hx, h4⟩
    · exact .inl (e.dead _ hN h3)
    · exact (e.up r hN x hx).elim (fun hx => .inr ⟨x, hx, h4⟩) .inl
  | _, _, _, _, e, .it r, v, hr => by
    simp only [Rel] at hr ⊢
    obtain ⟨hN, b, hv, h3⟩ := hr
    refine ⟨Nat.lt_of_lt_of_le hN e.n, b, hv, ?_⟩
    rcases h3 with h3 | ⟨x, hx, h4⟩
    · exact .inl (e.dead _ hN h3)
    · exact (e.up r hN x hx).elim (fun hx => .inr ⟨x, hx, h4⟩) .inl
  | _, _, _, _, e, .agg cs, v, hr => by
    simp only [Rel] at hr ⊢
    obtain ⟨vs, hv, h1⟩ := hr
    exact ⟨vs, hv, RelL.mon e h1⟩
  | _, _, _, _, e, .tup cs, v, hr => by
    simp only [Rel] at hr ⊢
    obtain ⟨vs, hv, h1⟩ := hr
    exact ⟨vs, hv, RelL.mon e h1⟩
theorem RelL.mon : ∀ {W W' : Wd} {w w' : World} (_ : Mon W w W' w') {ps : List PV} {vs : List Value}, RelL W w ps vs → RelL W' w' ps vs
  | _, _, _, _, _, [], vs, hr => by simp only [RelL] at hr ⊢; exact hr
  | _, _, _, _, e, p :: ps, vs, hr => by
    simp only [RelL] at hr ⊢
    obtain ⟨v, vs, hl, h1, h2⟩ := hr
    exact ⟨v, vs, hl, Rel.mon e h1, RelL.mon e h2⟩
theorem RelAt.mon : ∀ {W W' : Wd} {w w' : World} (_ : Mon W w W' w') {ps : List PV} {b o : Nat}, Imm W w b → RelAt W w ps b o → RelAt W' w' ps b o
  | _, _, _, _, _, [], b, o, _, hr => by simp only [RelAt] at hr ⊢
  | _, _, _, _, e, p :: ps, b, o, hi, hr => by
    simp only [RelAt] at hr ⊢
    obtain ⟨⟨v, hv, h1⟩, h2⟩ := hr
    obtain ⟨vs, t, z, hcells⟩ := cells_of_cell hv
    exact ⟨⟨v, by rw [cell_of_heap (e.imm _ _ _ _ hi hcells).2]; exact hv, Rel.mon e h1⟩, RelAt.mon e hi h2⟩
end
theorem Rel.mono (e : Ext C h W w W' w') {p : PV} {v : Value} (hr : Rel W w p v) : Rel W' w' p v := hr.mon e.mon
theorem RelL.mono (e : Ext C h W w W' w') {ps : List PV} {vs : List Value} (hr : RelL W w ps vs) : RelL W' w' ps vs := hr.mon e.mon
theorem RelAt.up {ps : List PV} {b o : Nat} (hr : RelAt W.none w ps b o) (hi : Imm W w b) : RelAt W w ps b o := hr.mon (Mon.of_none W w) hi
end
end Go.PI
namespace Go.PI

structure RegsRel (W : Wd) (w : World) (ρ : Regs) (tmps : Array Value) (n : Nat) : Prop where
  size : tmps.size = n
  wide : n ≤ wide
  get : ∀ t p, gt ρ t = some p → ∃ v, tmps[t]? = some v ∧ Rel W w p v

def RelE (W : Wd) (w : World) (e : PV × PV × Nat) (m : MapEntry) : Prop := Rel W w e.1 m.key ∧ Rel W w e.2.1 m.val ∧ m.born = e.2.2

def PORel (W : Wd) (w : World) : PO → Loc → Prop
  | .dead, _ => False
  | .cells cs, x => cs.length = x.len ∧ x.o + x.len ≤ x.sz ∧ ∃ vs e, w.heap[x.b]? = some (.cells vs e (0, 0)) ∧ vs.size = x.sz ∧
      ∀ (i : Nat) (c : PV), cs[i]? = some c → ∃ v, vs[x.o + i]? = some v ∧ Rel W w c v
  | .map es clk, x => ∃ mes : Array MapEntry, w.heap[x.b]? = some (.map mes clk) ∧ es.length = mes.size ∧ ∀ (i : Nat) (e : PV × PV × Nat), es[i]? = some e → ∃ m, mes[i]? = some m ∧ RelE W w e m
  | .iter m since seen last, x => ∃ mb, w.heap[x.b]? = some (.mapIter mb since seen.toArray last) ∧
      (match m with
        | none => mb = none
        | some r => r < W.N ∧ ∃ b, mb = some b ∧ (W.dead r ∨ ∃ y, W.β r = some y ∧ y.b = b))
  | .loop lr, x => ∃ L, w.heap[x.b]? = some (.loop L) ∧ L.state = (match lr.state with | 0 => .ready | 1 => .busy | 2 => .done | _ => .exhausted) ∧ L.pending = lr.pend ∧
      L.fn = lr.fn ∧ L.params.toList = lr.params ∧ L.assign = lr.assign ∧ L.body = lr.body ∧ RegsRel W w lr.regs L.tmps lr.nt

structure HRel (W : Wd) (w : World) (h : H) : Prop where
  n : h.rows.length = W.N
  rows : ∀ r po, h.rows[r]? = some po → po ≠ .dead → ∃ x, W.β r = some x ∧ PORel W w po x
  lt : ∀ r x, W.β r = some x → r < W.N ∧ x.b < w.heap.size
  inj : ∀ r r' x x', W.β r = some x → W.β r' = some x' → x.b = x'.b → r = r'
  dead : ∀ r, W.dead r → h.rows[r]? = some .dead ∧ W.β r = none
  offlt : ∀ b, W.off b → b < w.heap.size
  offno : ∀ r x, W.β r = some x → ¬ W.off x.b

section
variable {C : Cx} {h h1 : H} {W W' W'' : Wd} {w w' w'' : World}
theorem RegsRel.mon (e : Mon W w W' w') {ρ : Regs} {tmps : Array Value} {n : Nat} (hr : RegsRel W w ρ tmps n) : RegsRel W' w' ρ tmps n :=
  ⟨hr.size, hr.wide, fun t p hp => let ⟨v, hv, h⟩ := hr.get t p hp; ⟨v, hv, h.mon e⟩⟩
theorem RegsRel.mono (e : Ext C h W w W' w') {ρ : Regs} {tmps : Array Value} {n : Nat} (hr : RegsRel W w ρ tmps n) : RegsRel W' w' ρ tmps n := hr.mon e.mon
theorem PORel.mon (e : Mon W w W' w') {po : PO} {x : Loc} (hb : w'.heap[x.b]? = w.heap[x.b]?) (hr : PORel W w po x) : PORel W' w' po x := by
  cases po with
  | dead => exact hr.elim
  | cells cs =>
    obtain ⟨h1, h2, vs, t, h3, h4, h5⟩ := hr
    exact ⟨h1, h2, vs, t, hb.trans h3, h4, fun i c hc => let ⟨v, hv, hq⟩ := h5 i c hc; ⟨v, hv, hq.mon e⟩⟩
  | map es clk =>
    obtain ⟨mes, h1, h2, h3⟩ := hr
    exact ⟨mes, hb.trans h1, h2, fun i c hc => let ⟨v, hv, hq⟩ := h3 i c hc; ⟨v, hv, hq.1.mon e, hq.2.1.mon e, hq.2.2⟩⟩
  | iter m since seen last =>
    obtain ⟨mb, h1, h2⟩ := hr
    refine ⟨mb, hb.trans h1, ?_⟩
    cases m with
    | none => exact h2
    | some r =>
      obtain ⟨hN, b, hm, h3⟩ := h2
      refine ⟨Nat.lt_of_lt_of_le hN e.n, b, hm, ?_⟩
      rcases h3 with h3 | ⟨y, hy, h4⟩
      · exact .inl (e.dead _ hN h3)
      · exact (e.up r hN y hy).elim (fun hx => .inr ⟨y, hx, h4⟩) .inl
  | loop lr =>
    obtain ⟨L, h1, h2, h3, h4, h5, h6, h7, h8⟩ := hr
    exact ⟨L, hb.trans h1, h2, h3, h4, h5, h6, h7, h8.mon e⟩
theorem PORel.mono (e : Ext C h W w W' w') {po : PO} {x : Loc} (hb : w'.heap[x.b]? = w.heap[x.b]?) (hr : PORel W w po x) : PORel W' w' po x := hr.mon e.mon hb

theorem HRel.ltβ (hh : HRel W w h) : ∀ r x, W.β r = some x → r < W.N := fun r x hr => (hh.lt r x hr).1

theorem Ext.trans (hβ : ∀ r x, W.β r = some x → r < W.N) (e1 : Ext C h W w W' w') (ha : ∀ r, r < W.N → alive h1 r → alive h r) (e2 : Ext C h1 W' w' W'' w'') : Ext C h W w W'' w'' where
  size := Nat.le_trans e1.size e2.size
  same b hb hA := by
    rw [e2.same b (Nat.lt_of_lt_of_le hb e1.size) fun r x hr hal hno => ?_, e1.same b hb hA]
    rcases e1.new r x hr with h | ⟨r', x', h, hx, rfl | ⟨h2, h3⟩⟩
    · exact fun he => by omega
    · exact hx ▸ hA r' x' h (ha r' (hβ _ _ h) hal) hno
    · exact hx ▸ hA r' x' h h2 h3
  n := Nat.le_trans e1.n e2.n
  up r hN x hx := (e1.up r hN x hx).elim (fun h => e2.up r (Nat.lt_of_lt_of_le hN e1.n) x h) (fun h => .inr (e2.dead _ h))
  down r hN x hx := e1.down r hN x (e2.down r (Nat.lt_of_lt_of_le hN e1.n) x hx)
  dead r hd := e2.dead r (e1.dead r hd)
  off b := (e2.off b).trans (e1.off b)
  new r x hx := by
    rcases e2.new r x hx with h | ⟨r', x', h, hb, hor⟩
    · exact .inl (Nat.le_trans e1.size h)
    · rcases e1.new r' x' h with h' | ⟨r'', x'', h', hb', hor'⟩
      · exact .inl (hb ▸ h')
      · refine .inr ⟨r'', x'', h', hb'.trans hb, ?_⟩
        rcases hor' with rfl | hor'
        · rcases hor with rfl | ⟨h2, h3⟩
          · exact .inl rfl
          · exact .inr ⟨ha r'' (hβ _ _ h') h2, h3⟩
        · exact .inr hor'
  os := e2.os.trans e1.os
  tape := e2.tape.trans e1.tape
  output := e2.output.trans e1.output

/-- What is hidden from view has not to be told. -/
theorem HRel.fewer (hh : HRel W w h) (hl : h1.rows.length = h.rows.length) (hr : ∀ (r : Nat) (po : PO), h1.rows[r]? = some po → po ≠ .dead → h.rows[r]? = some po) (hd : ∀ r, W.dead r → h1.rows[r]? = some PO.dead) : HRel W w h1 :=
  ⟨hl.trans hh.n, fun r po h1 h2 => hh.rows r po (hr r po h1 h2) h2, hh.lt, hh.inj, fun r h => ⟨hd r h, (hh.dead r h).2⟩, hh.offlt, hh.offno⟩

/-- The world has grown by blocks; what stood there is as it was. -/
structure Grew (w w' : World) : Prop where
  size : w.heap.size ≤ w'.heap.size
  same : ∀ b, b < w.heap.size → w'.heap[b]? = w.heap[b]?
  os : w'.os = w.os
  tape : w'.tape = w.tape
  output : w'.output = w.output
theorem Grew.refl (w : World) : Grew w w := ⟨Nat.le_refl _, fun _ _ => rfl, rfl, rfl, rfl⟩
theorem Grew.trans (g : Grew w w') (g' : Grew w' w'') : Grew w w'' :=
  ⟨Nat.le_trans g.size g'.size, fun b hb => (g'.same b (Nat.lt_of_lt_of_le hb g.size)).trans (g.same b hb), g'.os.trans g.os, g'.tape.trans g.tape, g'.output.trans g.output⟩
theorem Grew.push (w : World) (o : Obj) : Grew w { w with heap := w.heap.push o } :=
  ⟨by simp, fun b hb => by simp [Array.getElem?_push, Nat.ne_of_lt hb], rfl, rfl, rfl⟩
theorem Grew.ext (g : Grew w w') : Ext C h W w W w' :=
  ⟨g.size, fun b hb _ => g.same b hb, Nat.le_refl _, fun _ _ _ h => .inl h, fun _ _ _ h => h, fun _ h => h, fun _ => Iff.rfl, fun r x h => .inr ⟨r, x, h, rfl, .inl rfl⟩, g.os, g.tape, g.output⟩
theorem HRel.grew (hh : HRel W w h) (g : Grew w w') : HRel W w' h :=
  ⟨hh.n, fun r po h1 h2 => let ⟨x, hx, hp⟩ := hh.rows r po h1 h2; ⟨x, hx, hp.mono (C := ⟨0, 0, 0, [], false, none⟩) (h := h) g.ext (g.same _ (hh.lt r x hx).2)⟩, fun r x hx => ⟨(hh.lt r x hx).1, Nat.lt_of_lt_of_le (hh.lt r x hx).2 g.size⟩, hh.inj, hh.dead, fun b hb => Nat.lt_of_lt_of_le (hh.offlt b hb) g.size, hh.offno⟩

/-- One row more. -/
def Wd.push (W : Wd) (x : Loc) : Wd := ⟨fun r => if r = W.N then some x else W.β r, W.N + 1, W.dead, W.off⟩
theorem Wd.push_ext (g : Grew w w') {x : Loc} (hx : w.heap.size ≤ x.b) : Ext C h W w (W.push x) w' where
  size := g.size
  same b hb _ := g.same b hb
  n := Nat.le_succ _
  up r hN y hy := .inl (by simp only [Wd.push, Nat.ne_of_lt hN, if_false]; exact hy)
  down r hN y hy := by simpa only [Wd.push, Nat.ne_of_lt hN, if_false] using hy
  dead _ h := h
  off _ := Iff.rfl
  new r y hy := by
    simp only [Wd.push] at hy
    split at hy
    · injection hy with hy; exact .inl (hy ▸ hx)
    · exact .inr ⟨r, y, hy, rfl, .inl rfl⟩
  os := g.os
  tape := g.tape
  output := g.output
theorem HRel.push (hh : HRel W w h) (g : Grew w w') {x : Loc} (hx : w.heap.size ≤ x.b) (hx' : x.b < w'.heap.size) {po : PO} (hp : PORel (W.push x) w' po x) : HRel (W.push x) w' (newObj h po) where
  n := by simp [newObj, hh.n, Wd.push]
  rows r po' h1 h2 := by
    by_cases hr : r = W.N
    · refine ⟨x, by simp [Wd.push, hr], ?_⟩
      have : po' = po := by
        have := h1
        simp [newObj, hr, ← hh.n] at this
        exact this.symm
      exact this ▸ hp
    · have hlt : r < h.rows.length := by
        have := List.getElem?_eq_some_iff.1 h1
        obtain ⟨hl, _⟩ := this
        simp [newObj] at hl
        have := hh.n
        omega
      have h3 : h.rows[r]? = some po' := by
        simpa [newObj, List.getElem?_append, hlt] using h1
      obtain ⟨y, hy, hq⟩ := hh.rows r po' h3 h2
      exact ⟨y, by simp [Wd.push, hr, hy], hq.mono (C := ⟨0, 0, 0, [], false, none⟩) (h := h) (Wd.push_ext g hx) (g.same _ (hh.lt r y hy).2)⟩
  lt r y hy := by
    simp only [Wd.push] at hy ⊢
    split at hy
    · injection hy with hy; subst hy; exact ⟨by omega, hx'⟩
    · exact ⟨Nat.lt_succ_of_lt (hh.lt r y hy).1, Nat.lt_of_lt_of_le (hh.lt r y hy).2 g.size⟩
  inj r r' y y' hy hy' hb := by
    simp only [Wd.push] at hy hy'
    split at hy <;> split at hy'
    · omega
    · injection hy with hy; subst hy
      have := (hh.lt r' y' hy').2; omega
    · injection hy' with hy'; subst hy'
      have := (hh.lt r y hy).2; omega
    · exact hh.inj r r' y y' hy hy' hb
  dead r hd := by
    obtain ⟨h1, h2⟩ := hh.dead r hd
    have hlt : r < h.rows.length := (List.getElem?_eq_some_iff.1 h1).1
    refine ⟨by simp [newObj, List.getElem?_append, hlt]; simpa [List.getElem?_eq_getElem hlt] using h1, ?_⟩
    have := hh.n
    simp only [Wd.push]
    rw [if_neg (by omega)]
    exact h2
  offlt b hb := Nat.lt_of_lt_of_le (hh.offlt b hb) g.size
  offno r y hy hb := by
    simp only [Wd.push] at hy
    split at hy
    · injection hy with hy; subst hy
      exact absurd (hh.offlt _ hb) (by omega)
    · exact hh.offno r y hy hb

/-- One block is written anew. -/
structure Wrote (w w' : World) (b : Nat) : Prop where
  size : w'.heap.size = w.heap.size
  same : ∀ c, c ≠ b → w'.heap[c]? = w.heap[c]?
  os : w'.os = w.os
  tape : w'.tape = w.tape
  output : w'.output = w.output
theorem Wrote.ext {r : Nat} {x : Loc} (g : Wrote w w' x.b) (hx : W.β r = some x) (ha : alive h r) (hno : C.no r = false) : Ext C h W w W w' :=
  ⟨Nat.le_of_eq g.size.symm, fun b _ hA => g.same b (fun hb => hA r x hx ha hno hb.symm), Nat.le_refl _, fun _ _ _ h => .inl h, fun _ _ _ h => h, fun _ h => h, fun _ => Iff.rfl, fun r x h => .inr ⟨r, x, h, rfl, .inl rfl⟩, g.os, g.tape, g.output⟩
theorem HRel.setRow (hh : HRel W w h) {r : Nat} {x : Loc} (hx : W.β r = some x) (ha : alive h r) (g : Wrote w w' x.b) (hno : C.no r = false) {po : PO} (hp : PORel W w' po x) : HRel W w' (setRow h r po) where
  n := by simp [PI.setRow, hh.n]
  rows r' po' h1 h2 := by
    by_cases hr : r' = r
    · subst hr
      have hlt : r' < h.rows.length := by rw [hh.n]; exact (hh.lt _ _ hx).1
      simp [PI.setRow, hlt] at h1
      exact ⟨x, hx, h1 ▸ hp⟩
    · have h3 : h.rows[r']? = some po' := by simpa [PI.setRow, List.getElem?_set_ne (Ne.symm hr)] using h1
      obtain ⟨y, hy, hq⟩ := hh.rows r' po' h3 h2
      exact ⟨y, hy, hq.mono (C := C) (h := h) (g.ext hx ha hno) (g.same _ (fun hb => hr (hh.inj r' r y x hy hx hb)))⟩
  lt r' y hy := ⟨(hh.lt r' y hy).1, by rw [g.size]; exact (hh.lt r' y hy).2⟩
  inj := hh.inj
  dead r' hd := by
    obtain ⟨h1, h2⟩ := hh.dead r' hd
    have hr : r' ≠ r := by rintro rfl; rw [h2] at hx; cases hx
    exact ⟨by simpa [PI.setRow, List.getElem?_set_ne (Ne.symm hr)] using h1, h2⟩
  offlt b hb := by rw [g.size]; exact hh.offlt b hb
  offno := hh.offno
end
end Go.PI
namespace Go.PI

def TdOk : TD → TypeDesc → Prop
  | .int k, u => u = .int k
  | .bool, u => u = .bool
  | .str, u => u = .string
  | .slice e, u => u = .slice e
  | .arr n e, u => u = .array n e
  | .st fs, u => ∃ fields : Array Field, u = .struct fields ∧ fields.toList.map (fun f => (f.offset, f.type)) = fs
  | .map k e, u => u = .map k e
  | .ptr e, u => u = .pointer e
  | .fn, u => ∃ a b c, u = .func a b c
  | .other, u => (∀ f, u ≠ .struct f) ∧ ∀ n e, u ≠ .array n e
structure TyOk (P : Program) (t : TypeId) (ti : TI) : Prop where
  info : ∃ i, P.info? t = some i ∧ i.size = ti.sz ∧ i.bytes = ti.byt ∧ ∃ z, i.zero = some z ∧ z.cells.toList = ti.zero ∧ (ti.agg = true → z = .agg ti.zero.toArray) ∧ (ti.agg = false → ti.zero = [z])
  und : ∃ u, P.underlying t = some u ∧ TdOk ti.d u
  zlen : ti.zero.length = ti.sz
  zone : ∀ v ∈ ti.zero, v.oneCell' = true
  flds : ∀ fields, P.underlying t = some (.struct fields) → ∀ f ∈ fields.toList, (P.info? f.type).isSome = true

section
variable {P : Program} {t : TypeId} {ti : TI} (w : World)
theorem TyOk.size (h : TyOk P t ti) : (sizeOf t).run P w = .ok ti.sz w := by
  obtain ⟨i, h1, h2, _⟩ := h.info
  simp [sizeOf, typeInfo, h1, h2]
theorem TyOk.bytes (h : TyOk P t ti) : ∃ i, (typeInfo t).run P w = .ok i w ∧ i.bytes = ti.byt := by
  obtain ⟨i, h1, _, h3, _⟩ := h.info
  exact ⟨i, by simp [typeInfo, h1], h3⟩
theorem TyOk.zero (h : TyOk P t ti) : ∃ z, (zeroValue t).run P w = .ok z w ∧ z.cells.toList = ti.zero ∧ (ti.agg = true → z = .agg ti.zero.toArray) ∧ (ti.agg = false → ti.zero = [z]) := by
  obtain ⟨i, h1, _, _, z, h4, h5⟩ := h.info
  exact ⟨z, by simp [zeroValue, typeInfo, h1, h4], h5⟩
theorem TyOk.isAgg (h : TyOk P t ti) : (isAgg t).run P w = .ok ti.agg w := by
  obtain ⟨u, h1, h2⟩ := h.und
  simp only [Go.isAgg, Sem.run_bind, run_underlying h1, Result.andThen_ok]
  cases hd : ti.d <;> rw [hd] at h2 <;> simp only [TdOk] at h2 <;> simp only [TI.agg, TD.agg, hd]
  case st => obtain ⟨f, rfl, _⟩ := h2; rfl
  case fn => obtain ⟨a, b, c, rfl⟩ := h2; rfl
  case other =>
    cases u <;> first | rfl | exact absurd rfl (h2.1 _) | exact absurd rfl (h2.2 _ _)
  all_goals (subst h2; rfl)
end

theorem add_zero (b o : Nat) : (⟨b, o, none⟩ : Addr).add 0 = ⟨b, o, none⟩ := rfl
theorem add_mk (b o n : Nat) : (⟨b, o, none⟩ : Addr).add n = ⟨b, o + n, none⟩ := by
  unfold Addr.add; split <;> simp_all

/-! ### Operands -/
section
variable {W : Wd} {w : World} {ρ : Regs} {a : Act} {n : Nat}
theorem relL_lits : ∀ {vs : List Value}, (∀ v ∈ vs, v.oneCell' = true) → RelL W w (vs.map .lit) vs
  | [], _ => by simp [RelL]
  | v :: vs, h => by simp only [List.map_cons, RelL]; exact ⟨v, vs, rfl, by simp [Rel, h v (by simp)], relL_lits fun u hu => h u (by simp [hu])⟩
theorem ev_rel (hr : RegsRel W w ρ a.tmps n) {x : Operand} {p : PV} (h : ev ρ x = some p) : Rel W w p (a.eval x) := by
  cases x with
  | tmp t =>
    obtain ⟨v, hv, hq⟩ := hr.get t p h
    simpa [Act.eval, Array.getD_eq_getD_getElem?, hv] using hq
  | const v =>
    simp only [ev] at h
    simp only [Act.eval]
    split at h
    · rename_i cs
      split at h
      · rename_i hall
        injection h with h; subst h
        simp only [Rel]
        exact ⟨_, rfl, relL_lits (fun v hv => by have := List.all_eq_true.1 hall v hv; cases v <;> first | rfl | cases this)⟩
      · cases h
    · split at h
      · rename_i hc
        injection h with h; subst h
        simp only [Rel]
        exact ⟨_, _, rfl, by rw [Array.eq_empty_of_size_eq_zero hc.1]; simp [RelL], by rw [Array.eq_empty_of_size_eq_zero hc.2]; simp [RelL]⟩
      · cases h
    · cases h
    · injection h with h; subst h
      rename_i h1 h2 h3
      simp only [Rel, true_and]
      cases v <;> first | rfl | (exact absurd rfl (h1 _)) | (exact absurd rfl (h3 _))
  | global g => simp [ev] at h
  | func f =>
    simp only [ev] at h
    injection h with h; subst h
    simp only [Act.eval, Rel]
    exact ⟨_, _, rfl, by simp [RelL], by simp [RelL]⟩
theorem evl_rel (hr : RegsRel W w ρ a.tmps n) : ∀ {xs : List Operand} {ps : List PV}, evl ρ xs = some ps → RelL W w ps (xs.map a.eval)
  | [], ps, h => by simp only [evl] at h; injection h with h; subst h; simp [RelL]
  | x :: xs, ps, h => by
    simp only [evl] at h
    split at h
    · rename_i v vs hv hvs
      injection h with h; subst h
      simp only [List.map_cons, RelL]
      exact ⟨_, _, rfl, ev_rel hr hv, evl_rel hr hvs⟩
    · cases h
theorem evs_rel (hr : RegsRel W w ρ a.tmps n) : ∀ {xs : List (Nat × Operand)} {ps : List (Nat × PV)}, evs ρ xs = some ps →
    ps.map (·.1) = xs.map (·.1) ∧ RelL W w (ps.map (·.2)) (xs.map fun x => a.eval x.2)
  | [], ps, h => by simp only [evs] at h; injection h with h; subst h; simp [RelL]
  | x :: xs, ps, h => by
    obtain ⟨i, x⟩ := x
    simp only [evs] at h
    split at h
    · rename_i v vs hv hvs
      injection h with h; subst h
      obtain ⟨h1, h2⟩ := evs_rel hr hvs
      simp only [List.map_cons, RelL]
      exact ⟨by simp [h1], _, _, rfl, ev_rel hr hv, h2⟩
    · cases h
theorem one_rel {p : PV} {v : Value} (h : Rel W w p v) (h1 : one p = true) : v.oneCell' = true := by
  cases p <;> simp only [Rel] at h <;> simp only [one] at h1
  case lit x => obtain ⟨rfl, h⟩ := h; exact h
  case sl => obtain ⟨a, cap, rfl, _⟩ := h; rfl
  case row => obtain ⟨_, a, cap, rfl, _⟩ := h; rfl
  case ptr => obtain ⟨_, a, rfl, _⟩ := h; rfl
  case iptr => obtain ⟨a, rfl, _⟩ := h; rfl
  case mp => obtain ⟨_, a, rfl, _⟩ := h; rfl
  case fn => obtain ⟨_, a, rfl, _⟩ := h; rfl
  case yld => obtain ⟨_, a, rfl, _⟩ := h; rfl
  case it => obtain ⟨_, a, rfl, _⟩ := h; rfl
  all_goals cases h1
theorem cells_rel {p : PV} {v : Value} (h : Rel W w p v) : RelL W w (cellsOf p) v.cells.toList := by
  by_cases h1 : one p = true
  · have h2 := one_rel h h1
    have hc : cellsOf p = [p] := by cases p <;> first | rfl | cases h1
    have hv : v.cells.toList = [v] := by cases v <;> first | rfl | cases h2
    rw [hc, hv]
    simp only [RelL]
    exact ⟨v, [], rfl, h, rfl⟩
  · cases p <;> simp only [one, not_true_eq_false] at h1
    · have h' := h
      simp only [Rel] at h
      obtain ⟨vs, rfl, h⟩ := h
      exact h
    · have h' := h
      simp only [Rel] at h
      obtain ⟨vs, rfl, h⟩ := h
      simp only [cellsOf, Value.cells, RelL]
      exact ⟨_, [], rfl, h', rfl⟩
end
end Go.PI
namespace Go.PI
section
variable {W : Wd} {w : World} {P : Program}

/-! ### Cells laid into cells -/
theorem setMany_length : ∀ (new cs : List PV) (i : Nat), (setMany cs i new).length = cs.length
  | [], _, _ => rfl
  | v :: r, cs, i => by rw [setMany, setMany_length r]; simp
theorem setMany_get : ∀ (new cs : List PV) (i j : Nat), i + new.length ≤ cs.length → (setMany cs i new)[j]? = if i ≤ j ∧ j < i + new.length then new[j - i]? else cs[j]?
  | [], cs, i, j, _ => by
    simp only [setMany, List.length_nil, Nat.add_zero]
    rw [if_neg (by omega)]
  | v :: r, cs, i, j, h => by
    simp only [List.length_cons] at h
    rw [setMany, setMany_get r (cs.set i v) (i + 1) j (by simp; omega)]
    by_cases h1 : i = j
    · subst h1
      rw [if_neg (by omega), if_pos (by simp)]
      simp [List.getElem?_set_self (show i < cs.length by omega)]
    · by_cases h2 : i + 1 ≤ j ∧ j < i + 1 + r.length
      · rw [if_pos h2, if_pos (by simp; omega)]
        have : j - i = (j - (i + 1)) + 1 := by omega
        rw [this, List.getElem?_cons_succ]
      · rw [if_neg h2, if_neg (by simp; omega), List.getElem?_set_ne h1]
theorem foldl_set_get : ∀ (l : List Value) (k off : Nat) (acc : Array Value) (j : Nat), off + k + l.length ≤ acc.size →
    ((l.zipIdx k).foldl (fun (cs : Array Value) (x : Value × Nat) => cs.setIfInBounds (off + x.2) x.1) acc).size = acc.size ∧
    ((l.zipIdx k).foldl (fun (cs : Array Value) (x : Value × Nat) => cs.setIfInBounds (off + x.2) x.1) acc)[j]? = if off + k ≤ j ∧ j < off + k + l.length then l[j - (off + k)]? else acc[j]?
  | [], k, off, acc, j, _ => by
    simp only [List.zipIdx_nil, List.foldl_nil, List.length_nil, Nat.add_zero, true_and]
    rw [if_neg (by omega)]
  | v :: r, k, off, acc, j, h => by
    simp only [List.length_cons] at h
    simp only [List.zipIdx_cons, List.foldl_cons]
    obtain ⟨h1, h2⟩ := foldl_set_get r (k + 1) off (acc.setIfInBounds (off + k) v) j (by simp; omega)
    refine ⟨by rw [h1]; simp, ?_⟩
    rw [h2]
    by_cases e : off + k = j
    · subst e
      rw [if_neg (by omega), if_pos (by simp)]
      simp [show off + k < acc.size by omega]
    · by_cases h2 : off + (k + 1) ≤ j ∧ j < off + (k + 1) + r.length
      · rw [if_pos h2, if_pos (by simp; omega)]
        have : j - (off + k) = (j - (off + (k + 1))) + 1 := by omega
        rw [this, List.getElem?_cons_succ]
      · rw [if_neg h2, if_neg (by simp; omega)]
        simp [e]
theorem setMany_rel {cs new : List PV} {vs : Array Value} {us : Array Value} {off : Nat} (h : RelL W w cs vs.toList) (hn : RelL W w new us.toList) (hl : off + new.length ≤ cs.length) :
    RelL W w (setMany cs off new) (us.zipIdx.foldl (fun (cs : Array Value) (x : Value × Nat) => cs.setIfInBounds (off + x.2) x.1) vs).toList := by
  have h1 := h.length
  have h2 := hn.length
  simp only [Array.length_toList] at h1 h2
  have key := fun j => foldl_set_get us.toList 0 off vs j (by simp; omega)
  have he : us.zipIdx.foldl (fun (cs : Array Value) (x : Value × Nat) => cs.setIfInBounds (off + x.2) x.1) vs = (us.toList.zipIdx 0).foldl (fun (cs : Array Value) (x : Value × Nat) => cs.setIfInBounds (off + x.2) x.1) vs := by
    rw [← Array.foldl_toList, Array.toList_zipIdx]
  rw [he]
  refine RelL.of_get (by rw [setMany_length, h1]; exact (Array.length_toList.trans (key 0).1).symm) fun i p hp => ?_
  rw [setMany_get _ _ _ _ hl] at hp
  rw [Array.getElem?_toList, (key i).2]
  simp only [Nat.add_zero, Array.length_toList]
  rw [← h2]
  split at hp
  · rename_i hc
    rw [if_pos hc]
    exact hn.get hp
  · rename_i hc
    rw [if_neg hc]
    obtain ⟨v, hv, hr⟩ := h.get hp
    exact ⟨v, by simpa using hv, hr⟩

theorem fill_rel {place place' : Nat → Option (Nat × Nat)} (hpl : ∀ i x, place i = some x → place' i = some x) : ∀ {ps : List (Nat × PV)} {qs : List (Nat × Value)} {cs cs' : List PV} {vs : Array Value},
    fillP place cs ps = some cs' → ps.map (·.1) = qs.map (·.1) → RelL W w (ps.map (·.2)) (qs.map (·.2)) → RelL W w cs vs.toList → ∃ vs', Instr.fill place' vs qs = some vs' ∧ RelL W w cs' vs'.toList
  | [], qs, cs, cs', vs, h, h1, _, hr => by
    simp only [fillP] at h
    injection h with h; subst h
    have : qs = [] := by cases qs <;> simp at h1 ⊢
    subst this
    exact ⟨vs, by simp [Instr.fill], hr⟩
  | (i, p) :: ps, qs, cs, cs', vs, h, h1, h2, hr => by
    cases qs with
    | nil => simp at h1
    | cons q qs =>
      obtain ⟨j, u⟩ := q
      simp only [List.map_cons, List.cons.injEq] at h1
      obtain ⟨rfl, h1⟩ := h1
      simp only [List.map_cons, RelL] at h2
      obtain ⟨u', us, heq, h3, h4⟩ := h2
      simp only [List.cons.injEq] at heq
      obtain ⟨rfl, rfl⟩ := heq
      simp only [fillP] at h
      split at h
      · cases h
      · rename_i off size hpi
        split at h
        · rename_i hc
          have hcr := cells_rel h3
          have hlen := hcr.length
          have hlen2 := hr.length
          simp only [Array.length_toList] at hlen hlen2
          have hset := setMany_rel hr hcr (off := off) (by omega)
          obtain ⟨vs', hf, hr'⟩ := fill_rel hpl h h1 h4 hset
          refine ⟨vs', ?_, hr'⟩
          simp only [Instr.fill, hpl _ _ hpi]
          rw [if_neg (by simp; omega)]
          exact hf
        · cases h

/-! ### A value out of cells -/
theorem part_rel {t : TypeId} {ti : TI} (ht : TyOk P t ti) {cs : List PV} {vs : Array Value} {off : Nat} {p : PV} (hr : RelL W w cs vs.toList) (h : ofCells ti (cs.drop off) = some p) :
    ∃ v, (part t vs off).run P w = .ok v w ∧ Rel W w p v := by
  have hlen := hr.length
  simp only [Array.length_toList] at hlen
  simp only [part, Sem.run_bind, ht.isAgg w, Result.andThen_ok]
  simp only [ofCells] at h
  split at h
  · rename_i hag
    split at h
    · cases h
    · rename_i hlt
      injection h with h; subst h
      simp only [hag, if_true, Sem.run_bind, ht.size w, Result.andThen_ok, Sem.run_pure]
      refine ⟨_, rfl, ?_⟩
      simp only [Rel]
      refine ⟨_, rfl, RelL.of_get ?_ fun i q hq => ?_⟩
      · simp only [List.length_take, List.length_drop, Array.length_toList, Array.size_extract] at hlt ⊢
        omega
      · rw [List.getElem?_take] at hq
        split at hq
        · rename_i hi
          rw [List.getElem?_drop] at hq
          obtain ⟨v, hv, hq⟩ := hr.get hq
          refine ⟨v, ?_, hq⟩
          rw [Array.getElem?_toList] at hv ⊢
          rw [Array.getElem?_extract]
          have : off + i < vs.size := (Array.getElem?_eq_some_iff.1 hv).1
          rw [if_pos (by omega)]
          exact hv
        · cases hq
  · rename_i hag
    rw [List.head?_drop] at h
    obtain ⟨v, hv, hq⟩ := hr.get h
    have hag' : ti.agg = false := by simpa using hag
    simp only [Array.getElem?_toList] at hv
    exact ⟨v, by simp [hag', hv], hq⟩
theorem loadVar_rel {t : TypeId} {ti : TI} (ht : TyOk P t ti) {cs : List PV} {b o : Nat} {p : PV} (hr : RelAt W w cs b o) (h : ofCells ti cs = some p) :
    ∃ v, (loadVar t ⟨b, o, none⟩).run P w = .ok v w ∧ Rel W w p v := by
  simp only [loadVar, Sem.run_bind, ht.isAgg w, Result.andThen_ok]
  simp only [ofCells] at h
  split at h
  · rename_i hag
    split at h
    · cases h
    · rename_i hlt
      injection h with h; subst h
      simp only [hag, if_true, Sem.run_bind, ht.size w, Result.andThen_ok]
      have hcell : ∀ j, j < ti.sz → ∃ v, w.cell? ⟨b, o + j, none⟩ = some v ∧ ∃ q, cs[j]? = some q ∧ Rel W w q v := fun j hj => by
        have hj' : j < cs.length := by omega
        obtain ⟨v, hv, hq⟩ := hr.get (List.getElem?_eq_getElem hj')
        exact ⟨v, hv, _, List.getElem?_eq_getElem hj', hq⟩
      let f : Nat → Value := fun j => (w.cell? ⟨b, o + j, none⟩).getD undef
      have hf : ∀ j, j < ti.sz → w.cell? ((⟨b, o, none⟩ : Addr).add j) = some (f j) := fun j hj => by
        obtain ⟨v, hv, _⟩ := hcell j hj
        rw [add_mk, hv]
        simp [f, hv]
      rw [run_loadCells w ⟨b, o, none⟩ ti.sz f hf]
      simp only [Result.andThen_ok, Sem.run_pure]
      refine ⟨_, rfl, ?_⟩
      simp only [Rel]
      refine ⟨_, rfl, RelL.of_get (by simp; omega) fun i q hq => ?_⟩
      rw [List.getElem?_take] at hq
      split at hq
      · rename_i hi
        obtain ⟨v, hv, q', hq', hrq⟩ := hcell i hi
        rw [hq] at hq'
        injection hq' with hq'; subst hq'
        exact ⟨v, by simp [hi, f, hv], hrq⟩
      · cases hq
  · rename_i hag
    cases cs with
    | nil => simp at h
    | cons c cs =>
      simp at h; subst h
      obtain ⟨v, hv, hq⟩ := hr.get (i := 0) (p := c) rfl
      have hag' : ti.agg = false := by simpa using hag
      exact ⟨v, by simp [hag']; rw [show (⟨b, o, none⟩ : Addr) = ⟨b, o + 0, none⟩ from rfl, hv], hq⟩
theorem loadVar_nil {t : TypeId} {ti : TI} (ht : TyOk P t ti) {a : Addr} {p : PV} (h : ofCells ti [] = some p) : ∃ v, (loadVar t a).run P w = .ok v w ∧ Rel W w p v := by
  simp only [loadVar, Sem.run_bind, ht.isAgg w, Result.andThen_ok]
  simp only [ofCells] at h
  split at h
  · rename_i hag
    split at h
    · cases h
    · rename_i hlt
      injection h with h; subst h
      have h0 : ti.sz = 0 := by simpa using hlt
      simp only [hag, if_true, Sem.run_bind, ht.size w, Result.andThen_ok, h0]
      refine ⟨.agg #[], by simp [loadCells, loadCellsFrom], ?_⟩
      simp [Rel, RelL]
  · simp at h
theorem mem_rel {h : H} (hh : HRel W w h) {p : PV} {v : Value} {cs : List PV} (hr : Rel W w p v) (hm : memAt h p = some cs) :
    ∃ a, v = .pointer (some a) ∧ (cs = [] ∨ ∃ b o, a = ⟨b, o, none⟩ ∧ RelAt W w cs b o) := by
  cases p <;> simp only [memAt] at hm
  case ptr r off =>
    split at hm
    · rename_i l hl
      injection hm with hm; subst hm
      simp only [Rel] at hr
      obtain ⟨_, a, rfl, hd | ⟨x, hx, rfl⟩⟩ := hr
      · rw [(hh.dead r hd).1] at hl; cases hl
      · obtain ⟨y, hy, hp⟩ := hh.rows r _ hl (by simp)
        rw [hx] at hy; injection hy with hy; subst hy
        obtain ⟨h1, h2, vs, e, h3, h4, h5⟩ := hp
        refine ⟨_, rfl, .inr ⟨_, _, rfl, RelAt.of_get fun i q hq => ?_⟩⟩
        rw [List.getElem?_drop] at hq
        obtain ⟨u, hu, hrel⟩ := h5 _ _ hq
        exact ⟨u, by simp only [World.cell?, h3, Option.isSome_none, Bool.false_eq_true, if_false]; rw [← hu]; congr 1; omega, hrel⟩
    · cases hm
  case iptr l =>
    injection hm with hm; subst hm
    simp only [Rel] at hr
    obtain ⟨a, rfl, h0 | ⟨b, o, rfl, hi, h1⟩⟩ := hr
    · exact ⟨a, rfl, .inl h0⟩
    · exact ⟨_, rfl, .inr ⟨b, o, rfl, h1.up hi⟩⟩
  all_goals cases hm
theorem load_rel {h : H} (hh : HRel W w h) {t : TypeId} {ti : TI} (ht : TyOk P t ti) {p : PV} {v : Value} {cs : List PV} {q : PV} (hr : Rel W w p v) (hm : memAt h p = some cs) (ho : ofCells ti cs = some q) :
    ∃ u, (Instr.loadAt t v).run P w = .ok u w ∧ Rel W w q u := by
  obtain ⟨a, rfl, h0 | ⟨b, o, rfl, h1⟩⟩ := mem_rel hh hr hm
  · subst h0
    obtain ⟨u, h1, h2⟩ := loadVar_nil (W := W) (w := w) ht (a := a) ho
    exact ⟨u, by simp [Instr.loadAt, Instr.sureAddr, h1], h2⟩
  · obtain ⟨u, h2, h3⟩ := loadVar_rel ht h1 ho
    exact ⟨u, by simp [Instr.loadAt, Instr.sureAddr, h2], h3⟩
end
end Go.PI
namespace Go.PI
section
variable {W : Wd} {w : World} {P : Program} {T : Pg} {ρ : Regs} {a : Act} {n : Nat}

/-- The types' table is the program's. -/
def TyS (P : Program) (T : Pg) : Prop := ∀ t ti, T.ty t = some ti → TyOk P t ti

theorem TyOk.und_slice {t e : TypeId} {ti : TI} (h : TyOk P t ti) (hd : ti.d = .slice e) : P.underlying t = some (.slice e) := by
  obtain ⟨u, h1, h2⟩ := h.und
  rw [hd] at h2; simp only [TdOk] at h2; rw [h1, h2]
theorem TyOk.und_arr {t e : TypeId} {m : Nat} {ti : TI} (h : TyOk P t ti) (hd : ti.d = .arr m e) : P.underlying t = some (.array m e) := by
  obtain ⟨u, h1, h2⟩ := h.und
  rw [hd] at h2; simp only [TdOk] at h2; rw [h1, h2]
theorem TyOk.und_map {t k e : TypeId} {ti : TI} (h : TyOk P t ti) (hd : ti.d = .map k e) : P.underlying t = some (.map k e) := by
  obtain ⟨u, h1, h2⟩ := h.und
  rw [hd] at h2; simp only [TdOk] at h2; rw [h1, h2]
theorem TyOk.und_int {t : TypeId} {k : IntKind} {ti : TI} (h : TyOk P t ti) (hd : ti.d = .int k) : P.underlying t = some (.int k) := by
  obtain ⟨u, h1, h2⟩ := h.und
  rw [hd] at h2; simp only [TdOk] at h2; rw [h1, h2]
theorem TyOk.und_str {t : TypeId} {ti : TI} (h : TyOk P t ti) (hd : ti.d = .str) : P.underlying t = some .string := by
  obtain ⟨u, h1, h2⟩ := h.und
  rw [hd] at h2; simp only [TdOk] at h2; rw [h1, h2]
theorem TyOk.und_st {t : TypeId} {fs : List (Nat × TypeId)} {ti : TI} (h : TyOk P t ti) (hd : ti.d = .st fs) : ∃ fields : Array Field, P.underlying t = some (.struct fields) ∧ fields.toList.map (fun f => (f.offset, f.type)) = fs := by
  obtain ⟨u, h1, h2⟩ := h.und
  rw [hd] at h2; simp only [TdOk] at h2
  obtain ⟨fields, rfl, h3⟩ := h2
  exact ⟨fields, h1, h3⟩
theorem field_at {fields : Array Field} {fs : List (Nat × TypeId)} (h : fields.toList.map (fun f => (f.offset, f.type)) = fs) {i off : Nat} {ft : TypeId} (hf : fs[i]? = some (off, ft)) : ∃ f, fields[i]? = some f ∧ f.offset = off ∧ f.type = ft := by
  subst h
  rw [List.getElem?_map, Array.getElem?_toList] at hf
  cases hx : fields[i]? with
  | none => rw [hx] at hf; cases hf
  | some f =>
    rw [hx] at hf
    simp at hf
    exact ⟨f, rfl, hf.1, hf.2⟩

theorem int_rel {p : PV} {v : Value} {i : Int} (h : Rel W w p v) (hi : intOf p = some i) : ∃ k, v = .int k i := by
  cases p <;> simp only [intOf] at hi
  case lit x =>
    simp only [Rel] at h
    obtain ⟨rfl, _⟩ := h
    cases v <;> simp at hi
    subst hi
    exact ⟨_, rfl⟩
  all_goals cases hi
theorem bool_rel {p : PV} {v : Value} {b : Bool} (h : Rel W w p v) (hi : boolOf p = some b) : v = .bool b := by
  cases p <;> simp only [boolOf] at hi
  case lit x =>
    simp only [Rel] at h
    obtain ⟨rfl, _⟩ := h
    cases v <;> simp at hi
    subst hi; rfl
  all_goals cases hi

/-! ### binary operators -/
theorem binI_rel {op : BinOp} {k : IntKind} {x y : Int} {r : Value} (h : binI op k x y = some r) (t : TypeId) : (binOp op t (.int k x) (.int k y)).run P w = .ok r w ∧ r.oneCell' = true := by
  cases op <;> simp only [binI] at h
  case quo =>
    split at h
    · cases h
    · rename_i hy
      injection h with h; subst h
      exact ⟨by simp [binOp, Op.intDiv, hy], rfl⟩
  case rem =>
    split at h
    · cases h
    · rename_i hy
      injection h with h; subst h
      exact ⟨by simp [binOp, Op.intDiv, hy], rfl⟩
  all_goals (first | (cases h; done) | (injection h with h; subst h; exact ⟨by simp [binOp, Op.intArith, Op.intCmp], rfl⟩))
theorem nil_cases {x : Value} (hx : nilLit (.lit x) = true) : x = .pointer none ∨ (∃ m c, x = .slice none m c) ∨ x = .map none ∨ x = .nilFunc := by
  unfold nilLit at hx
  split at hx <;> rename_i he
  · injection he with he; exact .inl he
  · injection he with he; exact .inr (.inl ⟨_, _, he⟩)
  · injection he with he; exact .inr (.inr (.inl he))
  · injection he with he; exact .inr (.inr (.inr he))
  · cases hx
/-- Which nil belongs to a type. -/
inductive NilOf : TD → Value → Prop
  | ptr (e) : NilOf (.ptr e) (.pointer none)
  | slice (e m c) : NilOf (.slice e) (.slice none m c)
  | map (k e) : NilOf (.map k e) (.map none)
  | fn : NilOf .fn .nilFunc
theorem isNil_lit {d : TD} {v : Value} {b : Bool} (h : isNil d (.lit v) = some b) : b = true ∧ NilOf d v := by
  unfold isNil at h
  split at h <;> rename_i he <;> (try (injection he with he; subst he)) <;> (try (cases he; done)) <;> (try (cases h; done)) <;> (split at h) <;> (try (cases h; done))
  all_goals (injection h with h; subst h; exact ⟨rfl, by constructor⟩)
theorem NilOf.lit {d : TD} {v : Value} (h : NilOf d v) : nilLit (.lit v) = true := by cases h <;> rfl
theorem isNil_other {d : TD} {p : PV} {v : Value} {b : Bool} (h : isNil d p = some b) (hr : Rel W w p v) (hp : ∀ x, p ≠ .lit x) : b = false ∧
    ((∃ e a, d = .ptr e ∧ v = .pointer (some a)) ∨ (∃ e a m c, d = .slice e ∧ v = .slice (some a) m c) ∨ (∃ k e a, d = .map k e ∧ v = .map (some a)) ∨ (d = .fn ∧ ∃ f x y, v = .func f x y)) := by
  cases p <;> simp only [isNil] at h <;> (try (cases h; done)) <;> simp only [Rel] at hr
  case lit x => exact absurd rfl (hp x)
  case sl =>
    split at h
    · split at h
      · rename_i hc
        injection h with h
        obtain ⟨a, cap, rfl, _, _, hs, _⟩ := hr
        obtain ⟨a, rfl⟩ := Option.isSome_iff_exists.1 (hs hc.symm)
        exact ⟨h.symm, .inr (.inl ⟨_, a, _, _, rfl, rfl⟩)⟩
      · cases h
    · cases h
  case row =>
    split at h
    · injection h with h
      obtain ⟨_, a, cap, rfl, _⟩ := hr
      exact ⟨h.symm, .inr (.inl ⟨_, a, _, _, rfl, rfl⟩)⟩
    · cases h
  case ptr =>
    split at h
    · injection h with h
      obtain ⟨_, a, rfl, _⟩ := hr
      exact ⟨h.symm, .inl ⟨_, a, rfl, rfl⟩⟩
    · cases h
  case iptr =>
    split at h
    · injection h with h
      obtain ⟨a, rfl, _⟩ := hr
      exact ⟨h.symm, .inl ⟨_, a, rfl, rfl⟩⟩
    · cases h
  case mp =>
    split at h
    · injection h with h
      obtain ⟨_, a, rfl, _⟩ := hr
      exact ⟨h.symm, .inr (.inr (.inl ⟨_, _, a, rfl, rfl⟩))⟩
    · cases h
  case fn =>
    split at h
    · injection h with h
      obtain ⟨_, a, rfl, _⟩ := hr
      exact ⟨h.symm, .inr (.inr (.inr ⟨rfl, _, _, _, rfl⟩))⟩
    · cases h
  case yld =>
    split at h
    · injection h with h
      obtain ⟨_, a, rfl, _⟩ := hr
      exact ⟨h.symm, .inr (.inr (.inr ⟨rfl, _, _, _, rfl⟩))⟩
    · cases h
theorem nil_rel {d : TD} {t : TypeId} {ti : TI} (ht : TyOk P t ti) (hd : ti.d = d) {p : PV} {x v : Value} {b : Bool} (hx : NilOf d x) (hr : Rel W w p v) (h : isNil d p = some b) (m : Nat) :
    (Op.equalIn (m + 1) t v x).run P w = .ok b w ∧ (Op.equalIn (m + 1) t x v).run P w = .ok b w := by
  obtain ⟨u, h1, h2⟩ := ht.und
  rw [hd] at h2
  have hu := run_underlying h1 w
  by_cases hp : ∃ z, p = .lit z
  · obtain ⟨z, rfl⟩ := hp
    obtain ⟨rfl, hz⟩ := isNil_lit h
    simp only [Rel] at hr
    obtain ⟨rfl, _⟩ := hr
    cases hx <;> cases hz <;> simp only [TdOk] at h2
    case ptr => subst h2; constructor <;> simp [Op.equalIn, hu]
    case slice => subst h2; constructor <;> simp [Op.equalIn, hu]
    case map => subst h2; constructor <;> simp [Op.equalIn, hu]
    case fn => obtain ⟨q1, q2, q3, rfl⟩ := h2; constructor <;> simp [Op.equalIn, hu]
  · obtain ⟨rfl, h3⟩ := isNil_other h hr (fun z hz => hp ⟨z, hz⟩)
    rcases h3 with ⟨e, a, rfl, rfl⟩ | ⟨e, a, q, c, rfl, rfl⟩ | ⟨k, e, a, rfl, rfl⟩ | ⟨rfl, f, q, y, rfl⟩ <;> cases hx <;> simp only [TdOk] at h2
    · subst h2; constructor <;> simp [Op.equalIn, hu]
    · subst h2; constructor <;> simp [Op.equalIn, hu]
    · subst h2; constructor <;> simp [Op.equalIn, hu]
    · obtain ⟨q1, q2, q3, rfl⟩ := h2; constructor <;> simp [Op.equalIn, hu]
end
end Go.PI
namespace Go.PI
section
variable {W : Wd} {w : World} {P : Program} {T : Pg} {ρ : Regs} {a : Act} {n : Nat} {o : Oper} {p : PV}

/-- The operation hands back a value that is so, and leaves the world alone. -/
def Yields (P : Program) (W : Wd) (w : World) (a : Act) (o : Oper) (p : PV) : Prop := ∃ v, (execOp a.eval o).run P w = .ok (.value v) w ∧ Rel W w p v

theorem y_pick (hr : RegsRel W w ρ a.tmps n) {c x y : Operand} (ho : o.op = .pick c x y) (h : opN T ρ (.pick c x y) = some p) : Yields P W w a o p := by
  simp only [opN] at h
  cases hc : ev ρ c with
  | none => simp [hc] at h
  | some pc =>
    cases hb : boolOf pc with
    | none => simp [hc, hb] at h
    | some b =>
      have hv := bool_rel (ev_rel hr hc) hb
      cases b <;> simp only [hc, hb, Option.bind_some] at h
      · exact ⟨a.eval y, by simp [execOp, ho, hv, asBool], ev_rel hr h⟩
      · exact ⟨a.eval x, by simp [execOp, ho, hv, asBool], ev_rel hr h⟩
theorem y_nilCheck (hr : RegsRel W w ρ a.tmps n) {x : Operand} (ho : o.op = .nilCheck x) (h : opN T ρ (.nilCheck x) = some p) : Yields P W w a o p := by
  simp only [opN] at h
  split at h <;> (try (cases h; done)) <;> rename_i he <;> (injection h with h; subst h) <;> have hv := ev_rel hr he <;> have hv' := hv <;> simp only [Rel] at hv
  · obtain ⟨_, b, hb, _⟩ := hv
    exact ⟨a.eval x, by simp [execOp, ho, hb], hv'⟩
  · obtain ⟨b, hb, _⟩ := hv
    exact ⟨a.eval x, by simp [execOp, ho, hb], hv'⟩
  · obtain ⟨_, b, hb, _⟩ := hv
    exact ⟨a.eval x, by simp [execOp, ho, hb], hv'⟩
theorem y_extract (hr : RegsRel W w ρ a.tmps n) {x : Operand} {i : Nat} (ho : o.op = .extract x i) (h : opN T ρ (.extract x i) = some p) : Yields P W w a o p := by
  simp only [opN] at h
  split at h
  · rename_i vs he
    have hv := ev_rel hr he
    simp only [Rel] at hv
    obtain ⟨us, hu, hl⟩ := hv
    obtain ⟨u, h1, h2⟩ := hl.get h
    simp only [Array.getElem?_toList] at h1
    exact ⟨u, by simp [execOp, ho, hu, Instr.extract, h1], h2⟩
  · cases h
theorem y_makeFunc (hr : RegsRel W w ρ a.tmps n) {f : Fn} {x y : Array Operand} (ho : o.op = .makeFunc f x y) (h : opN T ρ (.makeFunc f x y) = some p) : Yields P W w a o p := by
  cases f <;> simp only [opN] at h <;> (try (cases h; done))
  split at h
  · rename_i q r h1 h2
    injection h with h; subst h
    refine ⟨_, by simp only [execOp, ho, Instr.makeFunc, Sem.run_bind, Sem.run_pure, Result.andThen_ok]; rfl, ?_⟩
    simp only [Rel]
    exact ⟨_, _, rfl, by simpa using evl_rel hr h1, by simpa using evl_rel hr h2⟩
  · cases h
theorem y_unOp (hr : RegsRel W w ρ a.tmps n) {op : UnOp} {t : TypeId} {x : Operand} (ho : o.op = .unOp op t x) (h : opN T ρ (.unOp op t x) = some p) : Yields P W w a o p := by
  simp only [opN] at h
  split at h
  · rename_i q he
    have hv := ev_rel hr he
    unfold un at h
    split at h
    · rename_i b
      injection h with h; subst h
      simp only [Rel] at hv
      exact ⟨.bool (!b), by simp [execOp, ho, hv.1, Op.unary], by simp [Rel, Value.oneCell']⟩
    · rename_i k m
      injection h with h; subst h
      simp only [Rel] at hv
      exact ⟨.int k (k.wrap (0 - m)), by simp [execOp, ho, hv.1, Op.unary, Op.intArith], by simp [Rel, Value.oneCell']⟩
    · cases h
  · cases h
theorem y_convert (hT : TyS P T) (hr : RegsRel W w ρ a.tmps n) {s d : TypeId} {x : Operand} (ho : o.op = .convert s d x) (h : opN T ρ (.convert s d x) = some p) : Yields P W w a o p := by
  simp only [opN] at h
  split at h
  · rename_i ts k sz byt zero kk m hts ht he
    injection h with h; subst h
    have hv := ev_rel hr he
    simp only [Rel] at hv
    have hd := (hT _ _ ht).und_int rfl
    obtain ⟨u, hu, _⟩ := (hT _ _ hts).und
    refine ⟨.int k (k.wrap m), ?_, by simp [Rel, Value.oneCell']⟩
    simp [execOp, ho, hv.1, convert, run_underlying hu, run_underlying hd, Conv.intToInt]
  · cases h
theorem y_build (hT : TyS P T) (hr : RegsRel W w ρ a.tmps n) {t : TypeId} {parts : Array (Nat × Operand)} (ho : o.op = .build t parts) (h : opN T ρ (.build t parts) = some p) : Yields P W w a o p := by
  simp only [opN] at h
  split at h
  · rename_i ti ps ht hps
    have hok := hT _ _ ht
    obtain ⟨hp1, hp2⟩ := evs_rel hr hps
    obtain ⟨i, hi, _, _, z, hz, hzc, hza, _⟩ := hok.info
    have hz0 : RelL W w ti.zeros z.cells.toList := by rw [hzc]; exact relL_lits hok.zone
    have key : ∀ cells : Array Value, P.built t (parts.map fun (i, x) => (i, a.eval x)).toList = some cells → (execOp a.eval o).run P w = .ok (.value (.agg cells)) w := fun cells hc => by
      simp only [execOp, ho, Sem.run_bind, run_build w t _ cells hc, Result.andThen_ok, Sem.run_pure]
    have hq1 : ps.map (·.1) = ((parts.map fun (i, x) => (i, a.eval x)).toList).map (·.1) := by rw [hp1]; simp [List.map_map, Function.comp_def]
    have hq2 : RelL W w (ps.map (·.2)) (((parts.map fun (i, x) => (i, a.eval x)).toList).map (·.2)) := by simpa [List.map_map, Function.comp_def] using hp2
    split at h
    · rename_i fs hd
      obtain ⟨fields, hu, hf⟩ := hok.und_st hd
      obtain ⟨cs, hfl, rfl⟩ := Option.map_eq_some_iff.1 h
      · have hall : ∃ places, fields.toList.mapM (fun f => (P.info? f.type).map fun i => (f.offset, i.size)) = some places ∧ ∀ (j : Nat) f i, fields.toList[j]? = some f → P.info? f.type = some i → places[j]? = some (f.offset, i.size) := by
          have hfld := hok.flds fields hu
          revert hfld
          generalize fields.toList = l
          intro hfld
          induction l with
          | nil => exact ⟨[], by simp, fun j f i hj => by simp at hj⟩
          | cons f l ih =>
            obtain ⟨places, h1, h2⟩ := ih (fun g hg => hfld g (by simp [hg]))
            obtain ⟨i, hi⟩ := Option.isSome_iff_exists.1 (hfld f (by simp))
            refine ⟨(f.offset, i.size) :: places, by simp [List.mapM_cons, hi, h1], fun j g k hj hk => ?_⟩
            cases j with
            | zero => simp at hj; subst hj; rw [hi] at hk; injection hk with hk; subst hk; rfl
            | succ j => simp at hj ⊢; exact h2 j g k hj hk
        obtain ⟨places, hpl, hpg⟩ := hall
        obtain ⟨cells, hfc, hrel⟩ := fill_rel (place' := (places.toArray[·]?)) (fun j x hx => by
          split at hx
          · rename_i off ft hj
            obtain ⟨f, hf1, hf2, hf3⟩ := field_at hf hj
            cases hty : T.ty ft with
            | none => simp [hty] at hx
            | some fi =>
              simp [hty] at hx
              obtain ⟨i', hi', hs', _⟩ := (hT _ _ hty).info
              have := hpg j f i' (by simpa using hf1) (by rw [hf3]; exact hi')
              simp only [List.getElem?_toArray]
              rw [this, hf2, hs', hx]
          · cases hx) hfl hq1 hq2 hz0
        refine ⟨.agg cells, key cells ?_, by simp only [Rel]; exact ⟨cells, rfl, hrel⟩⟩
        simp only [Program.built, hi, hu, hz, hpl]
        exact hfc
    · rename_i m e hd
      split at h
      · rename_i te hte
        have hu := hok.und_arr hd
        obtain ⟨cs, hfl, rfl⟩ := Option.map_eq_some_iff.1 h
        · obtain ⟨ie, hie, hse, _⟩ := (hT _ _ hte).info
          obtain ⟨cells, hfc, hrel⟩ := fill_rel (place' := fun i => some (i * ie.size, ie.size)) (fun j x hx => by rw [hse]; exact hx) hfl hq1 hq2 hz0
          refine ⟨.agg cells, key cells ?_, by simp only [Rel]; exact ⟨cells, rfl, hrel⟩⟩
          simp only [Program.built, hi, hu, hz, hie]
          exact hfc
      · cases h
    · cases h
  · cases h
end
end Go.PI
namespace Go.PI
section
variable {W : Wd} {w : World} {P : Program} {T : Pg} {ρ : Regs} {a : Act} {n : Nat} {o : Oper} {p : PV}

theorem binOp_eql_nil {x : Value} (hx : nilLit (.lit x) = true) (t : TypeId) (v : Value) :
    binOp .eql t v x = (do pure (.bool (← Op.equal t v x))) ∧ binOp .eql t x v = (do pure (.bool (← Op.equal t x v))) ∧
    binOp .neq t v x = (do pure (.bool (!(← Op.equal t v x)))) ∧ binOp .neq t x v = (do pure (.bool (!(← Op.equal t x v)))) := by
  rcases nil_cases hx with rfl | ⟨m, c, rfl⟩ | rfl | rfl <;> refine ⟨?_, ?_, ?_, ?_⟩ <;> cases v <;> rfl
theorem eqGuard_nil {x : Value} (hx : nilLit (.lit x) = true) (op : BinOp) (t : TypeId) (x1 x2 : Operand) (v : Value) : (eqGuard op t x1 x2 v x).run P w = .ok () w ∧ (eqGuard op t x1 x2 x v).run P w = .ok () w := by
  rcases nil_cases hx with rfl | ⟨m, c, rfl⟩ | rfl | rfl <;> constructor <;> unfold eqGuard <;> cases op <;> cases v <;> rfl
theorem eqGuard_plain (op : BinOp) (t : TypeId) (x1 x2 : Operand) {u v : Value} (h : (∃ k i, u = .int k i) ∨ (∃ b, u = .bool b) ∨ ∃ s, u = .string s) : (eqGuard op t x1 x2 u v).run P w = .ok () w := by
  rcases h with ⟨k, i, rfl⟩ | ⟨b, rfl⟩ | ⟨s, rfl⟩ <;> unfold eqGuard <;> cases op <;> cases v <;> rfl
theorem eqP_rel (hT : TyS P T) {t : TypeId} {ti : TI} (ht : T.ty t = some ti) {x y : PV} {u v : Value} (hx : Rel W w x u) (hy : Rel W w y v) {b : Bool} (h : eqP ti.d x y = some b) (x1 x2 : Operand) :
    ((eqGuard .eql t x1 x2 u v).run P w = .ok () w ∧ (binOp .eql t u v).run P w = .ok (.bool b) w) ∧ ((eqGuard .neq t x1 x2 u v).run P w = .ok () w ∧ (binOp .neq t u v).run P w = .ok (.bool !b) w) := by
  have hok := hT _ _ ht
  unfold eqP at h
  split at h
  · rename_i c d
    simp only [Rel] at hx hy
    obtain ⟨rfl, _⟩ := hx
    obtain ⟨rfl, _⟩ := hy
    split at h
    · rename_i hd
      injection h with h; subst h
      obtain ⟨z, h1, h2⟩ := hok.und
      rw [hd] at h2
      simp only [TdOk] at h2
      subst h2
      have heq : ∀ m, (Op.equalIn (m + 1) t (.bool c) (.bool d)).run P w = .ok (c == d) w := fun m => by simp [Op.equalIn, run_underlying h1]
      have heq' : (Op.equal t (.bool c) (.bool d)).run P w = .ok (c == d) w := heq 9999
      exact ⟨⟨eqGuard_plain _ _ _ _ (.inr (.inl ⟨_, rfl⟩)), by simp [binOp, heq']⟩, ⟨eqGuard_plain _ _ _ _ (.inr (.inl ⟨_, rfl⟩)), by simp [binOp, heq']⟩⟩
    · cases h
  · rename_i c d
    simp only [Rel] at hx hy
    obtain ⟨rfl, _⟩ := hx
    obtain ⟨rfl, _⟩ := hy
    injection h with h; subst h
    exact ⟨⟨eqGuard_plain _ _ _ _ (.inr (.inr ⟨_, rfl⟩)), by simp [binOp, Op.stringOp]⟩, ⟨eqGuard_plain _ _ _ _ (.inr (.inr ⟨_, rfl⟩)), by simp [binOp, Op.stringOp]⟩⟩
  · split at h
    · rename_i hn
      have hyl : ∃ z, y = .lit z := by
        apply Classical.byContradiction
        intro hc
        have := (isNil_other hn hy (fun z hz => hc ⟨z, hz⟩)).1
        cases this
      obtain ⟨z, rfl⟩ := hyl
      have hz : v = z := by simp only [Rel] at hy; exact hy.1
      subst hz
      have hnil := (isNil_lit hn).2
      obtain ⟨g1, g2⟩ := binOp_eql_nil hnil.lit t u
      have heq : (Op.equal t u v).run P w = .ok b w := (nil_rel hok rfl hnil hx h 9999).1
      exact ⟨⟨(eqGuard_nil hnil.lit _ _ _ _ _).1, by rw [g1]; simp [heq]⟩, ⟨(eqGuard_nil hnil.lit _ _ _ _ _).1, by rw [g2.2.1]; simp [heq]⟩⟩
    · split at h
      · rename_i hn
        have hyl : ∃ z, x = .lit z := by
          apply Classical.byContradiction
          intro hc
          have := (isNil_other hn hx (fun z hz => hc ⟨z, hz⟩)).1
          cases this
        obtain ⟨z, rfl⟩ := hyl
        have hz : u = z := by simp only [Rel] at hx; exact hx.1
        subst hz
        have hnil := (isNil_lit hn).2
        obtain ⟨g1, g2⟩ := binOp_eql_nil hnil.lit t v
        have heq : (Op.equal t u v).run P w = .ok b w := (nil_rel hok rfl hnil hy h 9999).2
        exact ⟨⟨(eqGuard_nil hnil.lit _ _ _ _ _).2, by rw [g2.1]; simp [heq]⟩, ⟨(eqGuard_nil hnil.lit _ _ _ _ _).2, by rw [g2.2.2]; simp [heq]⟩⟩
      · cases h
theorem y_binOp (hT : TyS P T) (hr : RegsRel W w ρ a.tmps n) {op : BinOp} {t u : TypeId} {x y : Operand} (ho : o.op = .binOp op t x y u) (h : opN T ρ (.binOp op t x y u) = some p) : Yields P W w a o p := by
  simp only [opN] at h
  split at h
  · rename_i ti q r ht hq hr'
    have h1 := ev_rel hr hq
    have h2 := ev_rel hr hr'
    unfold bin at h
    split at h
    · rename_i k c k' d
      split at h
      · rename_i hk
        subst hk
        obtain ⟨z, hz, rfl⟩ := Option.map_eq_some_iff.1 h
        simp only [Rel] at h1 h2
        obtain ⟨h3, h4⟩ := binI_rel (w := w) (P := P) hz t
        exact ⟨z, by simp [execOp, ho, h1.1, h2.1, eqGuard_plain (w := w) (P := P) op t x y (.inl ⟨k, c, rfl⟩), h3], by simp [Rel, h4]⟩
      · cases h
    · split at h
      · obtain ⟨b, hb, rfl⟩ := Option.map_eq_some_iff.1 h
        obtain ⟨⟨h3, h4⟩, _⟩ := eqP_rel hT ht h1 h2 hb x y
        exact ⟨.bool b, by simp [execOp, ho, h3, h4], by simp [Rel, Value.oneCell']⟩
      · obtain ⟨b, hb, rfl⟩ := Option.map_eq_some_iff.1 h
        obtain ⟨_, h3, h4⟩ := eqP_rel hT ht h1 h2 hb x y
        exact ⟨.bool !b, by simp [execOp, ho, h3, h4], by simp [Rel, Value.oneCell']⟩
      · cases h
  · cases h

/-! ### addresses -/
theorem y_fieldAddr (hT : TyS P T) (hr : RegsRel W w ρ a.tmps n) {s : TypeId} {x : Operand} {f : Nat} (ho : o.op = .fieldAddr s x f) (h : opN T ρ (.fieldAddr s x f) = some p) : Yields P W w a o p := by
  simp only [opN] at h
  split at h
  · rename_i fs sz byt zero q ht hq
    have h1 := ev_rel hr hq
    obtain ⟨fields, hu, hf⟩ := (hT _ _ ht).und_st rfl
    split at h
    · rename_i off ft hff
      obtain ⟨fd, hfd, ho1, ho2⟩ := field_at hf hff
      split at h
      · rename_i fi hfi
        have hsz := (hT _ _ hfi).size w
        split at h
        · rename_i hpos
          have key : ∀ ad : Addr, a.eval x = .pointer (some ad) → (execOp a.eval o).run P w = .ok (.value (.pointer (some (ad.add off)))) w := fun ad had => by
            simp [execOp, ho, had, Instr.fieldAt, run_underlying hu, hfd, Instr.sureAddr, fieldPlace, ho2, hsz, Nat.ne_of_gt hpos, ho1]
          split at h
          · rename_i r o'
            injection h with h; subst h
            simp only [Rel] at h1
            obtain ⟨hN, ad, had, hor⟩ := h1
            refine ⟨_, key ad had, ?_⟩
            simp only [Rel]
            refine ⟨hN, _, rfl, hor.imp id ?_⟩
            rintro ⟨y, hy, rfl⟩
            exact ⟨y, hy, by rw [add_mk]; congr 1; omega⟩
          · rename_i cs
            injection h with h; subst h
            simp only [Rel] at h1
            obtain ⟨ad, had, hor⟩ := h1
            refine ⟨_, key ad had, ?_⟩
            simp only [Rel]
            refine ⟨_, rfl, ?_⟩
            rcases hor with rfl | ⟨b, o', rfl, hi, hc⟩
            · exact .inl (by simp)
            · exact .inr ⟨b, o' + off, add_mk _ _ _, hi, hc.drop off⟩
          · cases h
        · cases h
      · cases h
    · cases h
  · cases h
theorem y_field (hT : TyS P T) (hr : RegsRel W w ρ a.tmps n) {s : TypeId} {x : Operand} {f : Nat} (ho : o.op = .field s x f) (h : opN T ρ (.field s x f) = some p) : Yields P W w a o p := by
  simp only [opN] at h
  split at h
  · rename_i fs sz byt zero cs ht hq
    have h1 := ev_rel hr hq
    obtain ⟨fields, hu, hf⟩ := (hT _ _ ht).und_st rfl
    split at h
    · rename_i off ft hff
      obtain ⟨fd, hfd, ho1, ho2⟩ := field_at hf hff
      split at h
      · rename_i fi hfi
        simp only [Rel] at h1
        obtain ⟨vs, hv, hl⟩ := h1
        obtain ⟨v, h2, h3⟩ := part_rel (hT _ _ hfi) hl h
        exact ⟨v, by simp [execOp, ho, hv, Instr.field, run_underlying hu, hfd, asAgg, ho1, ho2, h2], h3⟩
      · cases h
    · cases h
  · cases h
theorem y_index (hT : TyS P T) (hr : RegsRel W w ρ a.tmps n) {t : TypeId} {x i : Operand} (ho : o.op = .index t x i) (h : opN T ρ (.index t x i) = some p) : Yields P W w a o p := by
  simp only [opN] at h
  split at h
  · rename_i m e sz byt zero cs j ht hq hj
    obtain ⟨pj, hpj, hj⟩ := Option.bind_eq_some_iff.1 hj
    obtain ⟨k, hk⟩ := int_rel (ev_rel hr hpj) hj
    have h1 := ev_rel hr hq
    simp only [Rel] at h1
    obtain ⟨vs, hv, hl⟩ := h1
    have hu := (hT _ _ ht).und_arr rfl
    split at h
    · rename_i te hte
      split at h
      · rename_i hjj
        obtain ⟨v, h2, h3⟩ := part_rel (hT _ _ hte) hl h
        exact ⟨v, by simp [execOp, ho, hv, hk, Instr.index, asIntOf, run_underlying hu, hjj.1, hjj.2, (hT _ _ hte).size w, h2], h3⟩
      · cases h
    · cases h
  · rename_i sz byt zero s j ht hq hj
    obtain ⟨pj, hpj, hj⟩ := Option.bind_eq_some_iff.1 hj
    obtain ⟨k, hk⟩ := int_rel (ev_rel hr hpj) hj
    have h1 := ev_rel hr hq
    simp only [Rel] at h1
    have hu := (hT _ _ ht).und_str rfl
    split at h
    · rename_i hjj
      obtain ⟨b, hb, rfl⟩ := Option.map_eq_some_iff.1 h
      exact ⟨.int .u8 b.toNat, by simp [execOp, ho, h1.1, hk, Instr.index, asIntOf, run_underlying hu, hjj, hb], by simp [Rel, Value.oneCell']⟩
    · cases h
  · cases h
theorem y_indexAddr (hT : TyS P T) (hr : RegsRel W w ρ a.tmps n) {t : TypeId} {x i : Operand} (ho : o.op = .indexAddr t x i) (h : opN T ρ (.indexAddr t x i) = some p) : Yields P W w a o p := by
  simp only [opN] at h
  split at h
  · rename_i ti q j ht hq hj
    obtain ⟨pj, hpj, hj⟩ := Option.bind_eq_some_iff.1 hj
    obtain ⟨k, hk⟩ := int_rel (ev_rel hr hpj) hj
    have h1 := ev_rel hr hq
    split at h
    · rename_i e cs m full nn hd
      have hu := (hT _ _ ht).und_slice hd
      split at h
      · rename_i te hte
        split at h
        · rename_i hjj
          injection h with h; subst h
          simp only [Rel] at h1
          obtain ⟨ad, cap, hv, hcap, hfull, hnn, hor⟩ := h1
          obtain ⟨ad, rfl⟩ := Option.isSome_iff_exists.1 (hnn (.inr (by omega)))
          refine ⟨.pointer (some (ad.add (j.toNat * te.sz))), by simp [execOp, ho, hv, hk, Instr.indexAt, asIntOf, run_underlying hu, hjj.1, hjj.2.1, (hT _ _ hte).size w], ?_⟩
          simp only [Rel]
          refine ⟨_, rfl, ?_⟩
          rcases hor with rfl | ⟨b, o', hab, hi, hc⟩
          · exact .inl (by simp)
          · injection hab with hab; subst hab
            exact .inr ⟨b, _, add_mk _ _ _, hi, hc.drop _⟩
        · cases h
      · cases h
    · rename_i e r off m s full hd
      have hu := (hT _ _ ht).und_slice hd
      split at h
      · rename_i te hte
        split at h
        · rename_i hjj
          obtain ⟨hsz, hj0, hjm, hs0⟩ := hjj
          injection h with h; subst h
          simp only [Rel] at h1
          obtain ⟨hN, ad, cap, hv, hcap, hfull, hor⟩ := h1
          refine ⟨.pointer (some (ad.add (j.toNat * te.sz))), by simp [execOp, ho, hv, hk, Instr.indexAt, asIntOf, run_underlying hu, hj0, hjm, (hT _ _ hte).size w], ?_⟩
          simp only [Rel]
          refine ⟨hN, _, rfl, hor.imp id ?_⟩
          rintro ⟨y, hy, h3, _⟩
          refine ⟨y, hy, ?_⟩
          rw [h3 (by omega), add_mk, hsz]
          congr 1; omega
        · cases h
      · cases h
    · rename_i m e r off hd
      have hu := (hT _ _ ht).und_arr hd
      split at h
      · rename_i te hte
        split at h
        · rename_i hjj
          injection h with h; subst h
          simp only [Rel] at h1
          obtain ⟨hN, ad, hv, hor⟩ := h1
          refine ⟨.pointer (some (ad.add (j.toNat * te.sz))), by simp [execOp, ho, hv, hk, Instr.indexAt, asIntOf, run_underlying hu, Instr.sureAddr, hjj.1, hjj.2, (hT _ _ hte).size w], ?_⟩
          simp only [Rel]
          refine ⟨hN, _, rfl, hor.imp id ?_⟩
          rintro ⟨y, hy, rfl⟩
          exact ⟨y, hy, by rw [add_mk]; congr 1; omega⟩
        · cases h
      · cases h
    · rename_i m e cs hd
      have hu := (hT _ _ ht).und_arr hd
      split at h
      · rename_i te hte
        split at h
        · rename_i hjj
          injection h with h; subst h
          simp only [Rel] at h1
          obtain ⟨ad, hv, hor⟩ := h1
          refine ⟨.pointer (some (ad.add (j.toNat * te.sz))), by simp [execOp, ho, hv, hk, Instr.indexAt, asIntOf, run_underlying hu, Instr.sureAddr, hjj.1, hjj.2, (hT _ _ hte).size w], ?_⟩
          simp only [Rel]
          refine ⟨_, rfl, ?_⟩
          rcases hor with rfl | ⟨b, o', rfl, hi, hc⟩
          · exact .inl (by simp)
          · exact .inr ⟨b, _, add_mk _ _ _, hi, hc.drop _⟩
        · cases h
      · cases h
    · cases h
  · cases h
end
end Go.PI
namespace Go.PI
section
variable {W : Wd} {w : World} {P : Program} {T : Pg} {ρ : Regs} {a : Act} {n : Nat} {o : Oper} {p : PV}

/-- What a builtin comes to. -/
theorem run_builtin {b : Builtin} {args : Array Operand} {argTypes : Array TypeId} (ho : o.op = .call { callee := .builtin b, args, argTypes }) (a : Act) :
    ∃ consts, ∀ w, (execOp a.eval o).run P w = (builtin b argTypes o.type consts (args.map a.eval)).run P w :=
  ⟨_, fun w => by simp only [execOp, ho, resolve, Sem.run_bind, Sem.run_pure, Result.andThen_ok, invoke]; rfl⟩
theorem args1 {args : Array Operand} {x : PV} (hr : RegsRel W w ρ a.tmps n) (h : evl ρ args.toList = some [x]) : ∃ v, args.map a.eval = #[v] ∧ Rel W w x v := by
  have hl := evl_rel hr h
  simp only [RelL] at hl
  obtain ⟨v, vs, he, h1, rfl⟩ := hl
  refine ⟨v, ?_, h1⟩
  apply Array.ext'
  simpa using he
theorem args2 {args : Array Operand} {x y : PV} (hr : RegsRel W w ρ a.tmps n) (h : evl ρ args.toList = some [x, y]) : ∃ u v, args.map a.eval = #[u, v] ∧ Rel W w x u ∧ Rel W w y v := by
  have hl := evl_rel hr h
  simp only [RelL] at hl
  obtain ⟨u, vs, he, h1, v, us, rfl, h2, rfl⟩ := hl
  refine ⟨u, v, ?_, h1, h2⟩
  apply Array.ext'
  simpa using he
theorem arg0 {argTypes : Array TypeId} {ti : TI} (hT : TyS P T) (h0 : (argTypes[0]?).bind T.ty = some ti) : ∃ t, argTypes[0]? = some t ∧ TyOk P t ti := by
  obtain ⟨t, h1, h2⟩ := Option.bind_eq_some_iff.1 h0
  exact ⟨t, h1, hT _ _ h2⟩
theorem len_rel {argTypes : Array TypeId} {t : TypeId} {ti : TI} (h0 : argTypes[0]? = some t) (ht : TyOk P t ti) {x : PV} {v : Value} (hx : Rel W w x v) {k : Nat} (h : lenN ti.d x = some k) (ty : TypeId) : (Builtin.len_ argTypes ty #[v]).run P w = .ok (.int .i64 k) w := by
  unfold lenN at h
  split at h
  · rename_i e hd
    have hu := ht.und_slice hd
    split at h <;> (try (cases h; done)) <;> (injection h with h; subst h) <;> simp only [Rel] at hx
    · obtain ⟨ad, cap, rfl, _⟩ := hx
      simp [Builtin.len_, h0, run_underlying hu, goInt]
    · obtain ⟨_, ad, cap, rfl, _⟩ := hx
      simp [Builtin.len_, h0, run_underlying hu, goInt]
    · obtain ⟨rfl, _⟩ := hx
      simp [Builtin.len_, h0, run_underlying hu, goInt]
  · rename_i hd
    have hu := ht.und_str hd
    split at h <;> (try (cases h; done))
    injection h with h; subst h
    simp only [Rel] at hx
    obtain ⟨rfl, _⟩ := hx
    simp [Builtin.len_, h0, run_underlying hu, goInt]
  · cases h
theorem y_builtinN (hT : TyS P T) (hr : RegsRel W w ρ a.tmps n) {b : Builtin} {args : Array Operand} {argTypes : Array TypeId} (ho : o.op = .call { callee := .builtin b, args, argTypes })
    (h : opN T ρ (.call { callee := .builtin b, args, argTypes }) = some p) : Yields P W w a o p := by
  obtain ⟨consts, hrun⟩ := run_builtin (P := P) ho a
  simp only [opN] at h
  split at h
  · rename_i k c k' d he
    injection h with h; subst h
    obtain ⟨u, v, hargs, h1, h2⟩ := args2 hr he
    simp only [Rel] at h1 h2
    obtain ⟨rfl, _⟩ := h1
    obtain ⟨rfl, _⟩ := h2
    exact ⟨.int k (if d < c then d else c), by rw [hrun, hargs]; simp [builtin, Builtin.min_, Builtin.min2], by simp [Rel, Value.oneCell']⟩
  · rename_i k c k' d he
    injection h with h; subst h
    obtain ⟨u, v, hargs, h1, h2⟩ := args2 hr he
    simp only [Rel] at h1 h2
    obtain ⟨rfl, _⟩ := h1
    obtain ⟨rfl, _⟩ := h2
    exact ⟨.int k (if d > c then d else c), by rw [hrun, hargs]; simp [builtin, Builtin.max_, Builtin.max2], by simp [Rel, Value.oneCell']⟩
  · rename_i x he
    obtain ⟨v, hargs, h1⟩ := args1 hr he
    split at h
    · rename_i ti ht
      obtain ⟨k, hk, rfl⟩ := Option.map_eq_some_iff.1 h
      obtain ⟨t, h0, hok⟩ := arg0 hT ht
      exact ⟨.int .i64 k, by rw [hrun, hargs]; simp [builtin, len_rel h0 hok h1 hk], by simp [Rel, Value.oneCell']⟩
    · cases h
  · cases h

theorem opN_sound (hT : TyS P T) (hr : RegsRel W w ρ a.tmps n) (h : opN T ρ o.op = some p) : Yields P W w a o p := by
  generalize hop : o.op = op at h
  cases op <;> (try (simp only [opN] at h; cases h; done))
  case move x => exact ⟨a.eval x, by simp [execOp, hop], ev_rel hr h⟩
  case assign x => exact ⟨a.eval x, by simp [execOp, hop], ev_rel hr h⟩
  case pick c x y => exact y_pick hr hop h
  case build t ps => exact y_build hT hr hop h
  case nilCheck x => exact y_nilCheck hr hop h
  case binOp => exact y_binOp hT hr hop h
  case unOp => exact y_unOp hr hop h
  case convert => exact y_convert hT hr hop h
  case makeFunc => exact y_makeFunc hr hop h
  case fieldAddr => exact y_fieldAddr hT hr hop h
  case field => exact y_field hT hr hop h
  case indexAddr => exact y_indexAddr hT hr hop h
  case index => exact y_index hT hr hop h
  case extract => exact y_extract hr hop h
  case call c =>
    obtain ⟨cl, args, argTypes⟩ := c
    cases cl <;> (try (simp only [opN] at h; cases h; done))
    exact y_builtinN hT hr hop h
end
end Go.PI
namespace Go.PI
section
variable {W : Wd} {w : World} {P : Program} {T : Pg} {ρ : Regs} {a : Act} {n : Nat} {o : Oper} {p : PV} {h : H}

/-- An optional operand. -/
def RelO (W : Wd) (w : World) : Option PV → Option Value → Prop
  | none, v => v = none
  | some p, v => ∃ u, v = some u ∧ Rel W w p u
theorem evo_rel (hr : RegsRel W w ρ a.tmps n) {x : Option Operand} {p : Option PV} (h : evo ρ x = some p) : RelO W w p (x.map a.eval) := by
  cases x with
  | none => simp only [evo] at h; injection h with h; subst h; simp [RelO]
  | some x =>
    simp only [evo] at h
    obtain ⟨q, hq, rfl⟩ := Option.map_eq_some_iff.1 h
    exact ⟨_, rfl, ev_rel hr hq⟩
theorem bound_rel {x : Option PV} {v : Option Value} (hx : RelO W w x v) {dflt top r : Nat} (hb : boundIn x dflt top = some r) {y : Nat} (hy : top ≤ y) (code : BoundsCode) :
    (x = none ∧ v = none ∧ r = dflt) ∨ ∃ u, x.isSome = true ∧ v = some u ∧ (Instr.sliceBound u y code).run P w = .ok r w ∧ r ≤ top := by
  cases x with
  | none =>
    simp only [boundIn] at hb
    injection hb with hb
    exact .inl ⟨rfl, hx, hb.symm⟩
  | some p =>
    obtain ⟨u, rfl, hu⟩ := hx
    simp only [boundIn] at hb
    split at hb
    · rename_i i hi
      split at hb
      · rename_i hc
        injection hb with hb; subst hb
        obtain ⟨k, rfl⟩ := int_rel hu hi
        refine .inr ⟨_, rfl, rfl, ?_, by omega⟩
        have : (0 : Int) ≤ i ∧ i ≤ (y : Int) := ⟨hc.1, by omega⟩
        simp [Instr.sliceBound, asIntOf, this]
      · cases hb
    · cases hb
theorem bounds_rel {lo hi mx : Option PV} {lo' hi' mx' : Option Value} (h1 : RelO W w lo lo') (h2 : RelO W w hi hi') (h3 : RelO W w mx mx') {k top x y : Nat} (hb : bounds k top lo hi mx = some (x, y)) (b : Bool) {cap : Nat} (hk : k ≤ cap) (ht : top ≤ cap) :
    ∃ m, (Instr.sliceBounds b k cap lo' hi' mx').run P w = .ok (x, y, m) w ∧ x ≤ y ∧ y ≤ m ∧ m ≤ cap ∧ (mx.isSome = true → m = y) ∧ (mx.isSome = false → m = cap) ∧ (y = k ∨ y ≤ top) := by
  unfold bounds at hb
  split at hb
  · cases hb
  rename_i hmh
  split at hb
  · rename_i m hm
    split at hb
    · rename_i q hq
      split at hb
      · cases hb
      rename_i hmq
      split at hb
      · rename_i z hz
        split at hb
        · rename_i hle
          injection hb with hb
          injection hb with hb1 hb2
          subst hb1; subst hb2
          rcases bound_rel (P := P) h3 hm ht (if b then BoundsCode.slice3Acap else .slice3Alen) with ⟨rfl, rfl, rfl⟩ | ⟨um, hms, rfl, hmr, hml⟩
          · -- no max
            rcases bound_rel (P := P) h2 hq ht (if b then BoundsCode.sliceAcap else .sliceAlen) with ⟨rfl, rfl, rfl⟩ | ⟨uh, hhs, rfl, hhr, hhl⟩
            · rcases bound_rel (P := P) h1 hz (Nat.le_refl q) (BoundsCode.sliceB) with ⟨rfl, rfl, rfl⟩ | ⟨ul, hls, rfl, hlr, hll⟩
              · exact ⟨cap, by simp [Instr.sliceBounds], hle, by omega, Nat.le_refl _, by simp, by simp, .inl rfl⟩
              · exact ⟨cap, by simp [Instr.sliceBounds, hlr], hle, by omega, Nat.le_refl _, by simp, by simp, .inl rfl⟩
            · rcases bound_rel (P := P) h1 hz (Nat.le_refl q) (BoundsCode.sliceB) with ⟨rfl, rfl, rfl⟩ | ⟨ul, hls, rfl, hlr, hll⟩
              · exact ⟨cap, by simp [Instr.sliceBounds, hhr], hle, by omega, Nat.le_refl _, by simp, by simp, .inr hhl⟩
              · exact ⟨cap, by simp [Instr.sliceBounds, hhr, hlr], hle, by omega, Nat.le_refl _, by simp, by simp, .inr hhl⟩
          · have hqm : m = q := by simpa [hms] using hmq
            subst hqm
            rcases bound_rel (P := P) h2 hq (Nat.le_refl m) (BoundsCode.slice3B) with ⟨rfl, rfl, rfl⟩ | ⟨uh, hhs, rfl, hhr, hhl⟩
            · simp [hms] at hmh
            · rcases bound_rel (P := P) h1 hz (Nat.le_refl m) (BoundsCode.slice3C) with ⟨rfl, rfl, rfl⟩ | ⟨ul, hls, rfl, hlr, hll⟩
              · exact ⟨m, by simp [Instr.sliceBounds, hmr, hhr], hle, Nat.le_refl _, by omega, by simp, by simp [hms], .inr hml⟩
              · exact ⟨m, by simp [Instr.sliceBounds, hmr, hhr, hlr], hle, Nat.le_refl _, by omega, by simp, by simp [hms], .inr hml⟩
        · cases hb
      · cases hb
    · cases hb
  · cases hb
end
end Go.PI
namespace Go.PI
section
variable {W : Wd} {w : World} {P : Program} {T : Pg} {ρ : Regs} {a : Act} {n : Nat} {o : Oper} {p : PV} {h : H}

theorem alive_loc (hh : HRel W w h) {r : Nat} {x : Loc} {po : PO} (hr : h.rows[r]? = some po) (hne : po ≠ .dead) (hx : W.dead r ∨ ∃ y, W.β r = some y ∧ y = x) : W.β r = some x ∧ PORel W w po x := by
  rcases hx with hd | ⟨y, hy, rfl⟩
  · rw [(hh.dead r hd).1] at hr; injection hr with hr; exact absurd hr.symm hne
  · obtain ⟨z, hz, hp⟩ := hh.rows r po hr hne
    rw [hy] at hz; injection hz with hz; subst hz
    exact ⟨hy, hp⟩

theorem slice_rel (hT : TyS P T) (hh : HRel W w h) {t : TypeId} {ti : TI} (ht : TyOk P t ti) {x : PV} {v : Value} (hx : Rel W w x v) {lo hi mx : Option PV} {lo' hi' mx' : Option Value} (h1 : RelO W w lo lo') (h2 : RelO W w hi hi') (h3 : RelO W w mx mx')
    (hs : sliceP T h ti x lo hi mx = some p) : ∃ u, (Instr.sliceAt t v lo' hi' mx').run P w = .ok u w ∧ Rel W w p u := by
  unfold sliceP at hs
  split at hs
  · -- a slice that is told by itself
    rename_i e cs k full nn hd
    have hu := ht.und_slice hd
    split at hs
    · rename_i te xx yy hte hb
      split at hs
      · rename_i hlen
        injection hs with hs; subst hs
        simp only [Rel] at hx
        obtain ⟨ad, cap, rfl, hcap, hfull, hnn, hor⟩ := hx
        obtain ⟨m, hrun, hxy, hym, hmc, hm1, hm2, hyk⟩ := bounds_rel (P := P) h1 h2 h3 hb true hcap hcap
        refine ⟨.slice (if m = xx then ad else ad.map (·.add (xx * te.sz))) (yy - xx) (m - xx), by simp [Instr.sliceAt, Instr.slice, run_underlying hu, hrun, (hT _ _ hte).size w], ?_⟩
        simp only [Rel]
        refine ⟨_, _, rfl, by omega, fun hf => ?_, fun hn => ?_, ?_⟩
        · rcases hmx : mx.isSome with _ | _
          · rw [hmx] at hf
            simp only [Bool.false_or, Bool.and_eq_true, beq_iff_eq] at hf
            have := hfull hf.1
            have := hm2 hmx
            omega
          · have := hm1 hmx
            omega
        · have hs1 : ad.isSome = true := hnn (hn.imp id (fun hn => by omega))
          split
          · exact hs1
          · simpa using hs1
        · rcases hor with rfl | ⟨b, o', rfl, hi', hc⟩
          · exact .inl (by simp)
          · by_cases hmx : m = xx
            · refine .inl ?_
              have : yy - xx = 0 := by omega
              rw [this]; simp
            · exact .inr ⟨b, o' + xx * te.sz, by rw [if_neg hmx, Option.map_some, add_mk], hi', (hc.drop _).take _⟩
      · cases hs
    · cases hs
  · -- a row
    rename_i e r off k s full hd
    have hu := ht.und_slice hd
    split at hs
    · rename_i te xx yy hte hb
      split at hs
      · rename_i hcond
        obtain ⟨hsz, hs0, hor3⟩ := hcond
        injection hs with hs; subst hs
        simp only [Rel] at hx
        obtain ⟨hN, ad, cap, rfl, hcap, hfull, hor⟩ := hx
        have htop : topOf h r off k s full ≤ cap := by
          unfold topOf
          split
          · exact hcap
          · rename_i hff
            split
            · rename_i cs hcs
              rcases hor with hdd | ⟨y, hy, _, _, h5⟩
              · rw [(hh.dead r hdd).1] at hcs; cases hcs
              · obtain ⟨z, hz, hp⟩ := hh.rows r _ hcs (by simp)
                rw [hy] at hz; injection hz with hz; subst hz
                have h6 := hp.1
                have h7 := h5 (by simpa using hff)
                rw [Nat.div_le_iff_le_mul_add_pred hs0]
                have : s * cap = cap * s := Nat.mul_comm _ _
                omega
            · exact hcap
        obtain ⟨m, hrun, hxy, hym, hmc, hm1, hm2, hyk⟩ := bounds_rel (P := P) h1 h2 h3 hb true hcap htop
        have hsz' : (sizeOf e).run P w = .ok s w := by rw [← hsz]; exact (hT _ _ hte).size w
        refine ⟨.slice (some (if m = xx then ad else ad.add (xx * s))) (yy - xx) (m - xx), by
          simp only [Instr.sliceAt, Instr.slice, run_underlying hu, hrun, hsz', Sem.run_bind, Result.andThen_ok, Sem.run_pure]
          split <;> simp_all, ?_⟩
        simp only [Rel]
        refine ⟨hN, _, _, rfl, by omega, fun hf => ?_, ?_⟩
        · rcases hmx : mx.isSome with _ | _
          · rw [hmx] at hf
            simp only [Bool.false_or, Bool.and_eq_true, beq_iff_eq] at hf
            have := hfull hf.1
            have := hm2 hmx
            omega
          · have := hm1 hmx
            omega
        · rcases hor with hdd | ⟨y, hy, h4, h5, h6⟩
          · exact .inl hdd
          · refine .inr ⟨y, hy, fun hpos => ?_, ?_, fun hf => ?_⟩
            · rw [if_neg (by omega), h4 (by omega), add_mk]
              congr 1; omega
            · have hmul : xx * s + (m - xx) * s = m * s := by rw [← Nat.add_mul]; congr 1; omega
              have hle : m * s ≤ cap * s := Nat.mul_le_mul_right _ hmc
              omega
            · have hmx : mx.isSome = false := by
                cases hq : mx.isSome <;> simp [hq] at hf ⊢
              have hmul : xx * s + (m - xx) * s = m * s := by rw [← Nat.add_mul]; congr 1; omega
              have hmcap := hm2 hmx
              subst hmcap
              have key : y.len ≤ off + m * s := by
                by_cases hfu : full = true
                · rcases hor3 with hq | hq | hq | hq
                  · rw [hmx] at hq; cases hq
                  · rw [hfu] at hq; cases hq
                  · rw [hmx, hfu] at hf; simp [hq] at hf
                  · unfold fits at hq
                    split at hq
                    · rename_i cs hcs
                      obtain ⟨z, hz, hp⟩ := hh.rows r _ hcs (by simp)
                      rw [hy] at hz; injection hz with hz; subst hz
                      have h7 := hp.1
                      have h8 := Nat.le_of_ble_eq_true hq
                      have h9 := hfull hfu
                      rw [h9]
                      omega
                    · cases hq
                · exact h6 (by simpa using hfu)
              omega
      · cases hs
    · cases hs
  · -- nil
    rename_i e hd
    have hu := ht.und_slice hd
    split at hs
    · rename_i te xy hte hb
      injection hs with hs; subst hs
      obtain ⟨xx, yy⟩ := xy
      simp only [Rel] at hx
      obtain ⟨rfl, _⟩ := hx
      obtain ⟨m, hrun, hxy, hym, hmc, hm1, hm2, hyk⟩ := bounds_rel (P := P) h1 h2 h3 hb true (Nat.le_refl 0) (Nat.le_refl 0)
      have hm0 : m = 0 := by omega
      have hy0 : yy = 0 := by omega
      have hx0 : xx = 0 := by omega
      subst hm0; subst hy0; subst hx0
      exact ⟨.slice none 0 0, by simp [Instr.sliceAt, Instr.slice, run_underlying hu, hrun, (hT _ _ hte).size w], by simp [Rel, Value.oneCell']⟩
    · cases hs
  · -- an array behind a pointer
    rename_i m e r off hd
    have hu := ht.und_arr hd
    split at hs
    · rename_i te hte
      split at hs
      · rename_i cs hcs
        split at hs
        · rename_i hc
          injection hs with hs; subst hs
          simp only [RelO] at h1 h2 h3
          subst h1; subst h2; subst h3
          simp only [Rel] at hx
          obtain ⟨hN, ad, rfl, hor⟩ := hx
          refine ⟨.slice (some ad) m m, ?_, ?_⟩
          · simp [Instr.sliceAt, run_underlying hu, Instr.sureAddr, Instr.sliceBounds, (hT _ _ hte).size w, Addr.add]
          · simp only [Rel]
            refine ⟨hN, ad, m, rfl, Nat.le_refl _, fun _ => rfl, hor.imp id ?_⟩
            rintro ⟨y, hy, rfl⟩
            obtain ⟨z, hz, hp⟩ := hh.rows r _ hcs (by simp)
            rw [hy] at hz; injection hz with hz; subst hz
            have h7 := hp.1
            have h8 := hp.2.1
            exact ⟨y, hy, fun _ => rfl, by omega, by simp⟩
        · cases hs
      · cases hs
    · cases hs
  · rename_i m e cs hd
    have hu := ht.und_arr hd
    split at hs
    · rename_i te hte
      split at hs
      · injection hs with hs; subst hs
        simp only [RelO] at h1 h2 h3
        subst h1; subst h2; subst h3
        simp only [Rel] at hx
        obtain ⟨ad, rfl, hor⟩ := hx
        refine ⟨.slice (some ad) m m, ?_, ?_⟩
        · simp [Instr.sliceAt, run_underlying hu, Instr.sureAddr, Instr.sliceBounds, (hT _ _ hte).size w, Addr.add]
        · simp only [Rel]
          refine ⟨_, m, rfl, Nat.le_refl _, fun _ => rfl, fun _ => rfl, ?_⟩
          rcases hor with rfl | ⟨b, o', rfl, hi', hc⟩
          · exact .inl (by simp)
          · exact .inr ⟨b, o', rfl, hi', hc.take _⟩
      · cases hs
    · cases hs
  · cases hs

/-! ### maps that are read -/
theorem zero_rel {t : TypeId} {ti : TI} (ht : TyOk P t ti) (h : ofCells ti ti.zeros = some p) : ∃ v, (zeroValue t).run P w = .ok v w ∧ Rel W w p v := by
  obtain ⟨z, h1, h2, h3, h4⟩ := ht.zero w
  refine ⟨z, h1, ?_⟩
  have hz : RelL W w ti.zeros ti.zero := relL_lits ht.zone
  unfold ofCells at h
  split at h
  · rename_i hag
    split at h
    · cases h
    · injection h with h; subst h
      rw [h3 hag]
      simp only [Rel]
      refine ⟨_, rfl, ?_⟩
      have : (ti.zeros).take ti.sz = ti.zeros := List.take_of_length_le (by rw [hz.length, ht.zlen]; exact Nat.le_refl _)
      rw [this]
      simpa using hz
  · rename_i hag
    have := h4 (by simpa using hag)
    rw [this] at hz
    simp only [TI.zeros, this, List.map_cons, List.map_nil, List.head?_cons] at h
    injection h with h; subst h
    simp only [Rel, true_and]
    exact ht.zone z (by rw [this]; simp)
theorem checkKey_int {t : TypeId} {k : IntKind} (hu : P.underlying t = some (.int k)) (e : Bool) (m : Nat) (kk : IntKind) (x : Int) : (Instr.checkKey e (m + 1) t (.int kk x)).run P w = .ok () w := by
  simp [Instr.checkKey, run_underlying hu]
theorem findNow_rel {k : IntKind} {kk : IntKind} {x : Int} : ∀ {es : List (PV × PV × Nat)} {mes : List MapEntry} {i : Nat} {r : Option (Nat × PV × Nat)}, es.length = mes.length → (∀ (j : Nat) e, es[j]? = some e → ∃ m, mes[j]? = some m ∧ RelE W w e m) →
    findE kk x es i = some r → ∃ r', Instr.findNow (.int k) (.int kk x) mes i = some r' ∧ (match r with
      | none => r' = none
      | some (j, v, b) => ∃ u, r' = some (j, u) ∧ Rel W w v u ∧ i ≤ j ∧ ∃ q, es[j - i]? = some (q, v, b))
  | [], mes, i, r, hl, _, h => by
    simp only [findE] at h
    injection h with h; subst h
    have : mes = [] := List.eq_nil_of_length_eq_zero hl.symm
    subst this
    exact ⟨none, by simp [Instr.findNow], rfl⟩
  | e :: es, mes, i, r, hl, hr, h => by
    cases mes with
    | nil => simp at hl
    | cons m mes =>
      obtain ⟨m', hm, he1, he2, he3⟩ := hr 0 e rfl
      simp at hm; subst hm
      simp only [findE] at h
      split at h
      · rename_i kj j hk
        split at h
        · rename_i hkk
          subst hkk
          rw [hk] at he1
          simp only [Rel] at he1
          split at h
          · rename_i hxj
            subst hxj
            injection h with h; subst h
            refine ⟨some (i, m.val), by simp [Instr.findNow, he1.1, Instr.sameNow], ?_⟩
            exact ⟨m.val, rfl, he2, Nat.le_refl _, e.1, by simp⟩
          · rename_i hxj
            obtain ⟨r', h1, h2⟩ := findNow_rel (k := k) (by simpa using hl) (fun j e he => by simpa using hr (j + 1) e (by simpa using he)) h
            have hbj : (x == j) = false := by simpa using hxj
            refine ⟨r', by simp [Instr.findNow, he1.1, Instr.sameNow, hbj, h1], ?_⟩
            cases r with
            | none => exact h2
            | some r =>
              obtain ⟨j', v, b⟩ := r
              obtain ⟨u, h3, h4, h5, q, h6⟩ := h2
              exact ⟨u, h3, h4, by omega, q, by rw [show j' - i = (j' - (i + 1)) + 1 by omega, List.getElem?_cons_succ]; exact h6⟩
        · cases h
      · cases h
theorem map_at (hh : HRel W w h) {r : Nat} {b : Nat} {es : List (PV × PV × Nat)} {clk : Nat} (hr : h.rows[r]? = some (.map es clk)) (hb : W.dead r ∨ ∃ x, W.β r = some x ∧ x.b = b) :
    ∃ x mes, W.β r = some x ∧ x.b = b ∧ w.heap[b]? = some (.map mes clk) ∧ es.length = mes.size ∧ ∀ (i : Nat) e, es[i]? = some e → ∃ m, mes[i]? = some m ∧ RelE W w e m := by
  rcases hb with hd | ⟨x, hx, rfl⟩
  · rw [(hh.dead r hd).1] at hr; cases hr
  · obtain ⟨z, hz, hp⟩ := hh.rows r _ hr (by simp)
    rw [hx] at hz; injection hz with hz; subst hz
    obtain ⟨mes, h1, h2, h3⟩ := hp
    exact ⟨x, mes, hx, rfl, h1, h2, h3⟩
theorem run_getMap {b : Nat} {mes : Array MapEntry} {clk : Nat} (h : w.heap[b]? = some (.map mes clk)) : (getObj b).run P w = .ok (.map mes clk) w := by
  simp [getObj, Sem.run, h]
theorem run_findKey {kt : TypeId} {k : IntKind} (hu : P.underlying kt = some (.int k)) {x : Value} {es : List MapEntry} {r : Option (Nat × Value)} (h : Instr.findNow (.int k) x es 0 = some r) : (Instr.findKey kt x es).run P w = .ok r w := by
  simp [Instr.findKey, run_underlying hu, h]
theorem y_lookup (hT : TyS P T) (hh : HRel W w h) (hr : RegsRel W w ρ a.tmps n) {t : TypeId} {x i : Operand} {ok : Bool} (ho : o.op = .lookup t x i ok) (hs : opR T ρ h (.lookup t x i ok) = some p) : Yields P W w a o p := by
  simp only [opR] at hs
  split at hs
  · rename_i kt e sz byt zero m kk key ht hx hi
    have h1 := ev_rel hr hx
    have h2 := ev_rel hr hi
    have hu := (hT _ _ ht).und_map rfl
    simp only [Rel] at h2
    split at hs
    · rename_i k sz' byt' zero' te hkt hte
      have huk := (hT _ _ hkt).und_int rfl
      have hck : ∀ b, (Instr.checkKey b 10000 kt (.int kk key)).run P w = .ok () w := fun b => checkKey_int huk b 9999 kk key
      split at hs
      · simp only [Rel] at h1
        obtain ⟨z, hz, rfl⟩ := Option.map_eq_some_iff.1 hs
        obtain ⟨v, hv, hvr⟩ := zero_rel (W := W) (w := w) (hT _ _ hte) hz
        have hf : (Instr.findKey kt (.int kk key) []).run P w = .ok none w := run_findKey huk rfl
        cases ok
        · exact ⟨v, by simp [execOp, ho, h1.1, h2.1, Instr.lookup, run_underlying hu, hck, hf, hv], hvr⟩
        · refine ⟨.tuple #[v, .bool false], by simp [execOp, ho, h1.1, h2.1, Instr.lookup, run_underlying hu, hck, hf, hv], ?_⟩
          simp [Rel, RelL, hvr, Value.oneCell']
      · rename_i r
        simp only [Rel] at h1
        obtain ⟨hN, b, hb, hor⟩ := h1
        split at hs
        · rename_i es clk hrow
          obtain ⟨y, mes, hy, rfl, hm, hlen, hrel⟩ := map_at hh hrow hor
          have hg := run_getMap (P := P) hm
          split at hs
          · rename_i q v q' hfe
            injection hs with hs; subst hs
            obtain ⟨r', hf1, u, rfl, hru, _⟩ := findNow_rel (k := k) (mes := mes.toList) (by rw [Array.length_toList]; exact hlen) (fun j e he => by simpa using hrel j e he) hfe
            have hf := run_findKey (w := w) huk hf1
            cases ok
            · exact ⟨u, by simp [execOp, ho, hb, h2.1, Instr.lookup, run_underlying hu, hg, hck, hf], hru⟩
            · refine ⟨.tuple #[u, .bool true], by simp [execOp, ho, hb, h2.1, Instr.lookup, run_underlying hu, hg, hck, hf], ?_⟩
              simp [Rel, RelL, hru, Value.oneCell']
          · rename_i hfe
            obtain ⟨z, hz, rfl⟩ := Option.map_eq_some_iff.1 hs
            obtain ⟨r', hf1, rfl⟩ := findNow_rel (k := k) (mes := mes.toList) (by rw [Array.length_toList]; exact hlen) (fun j e he => by simpa using hrel j e he) hfe
            have hf := run_findKey (w := w) huk hf1
            obtain ⟨v, hv, hvr⟩ := zero_rel (W := W) (w := w) (hT _ _ hte) hz
            cases ok
            · exact ⟨v, by simp [execOp, ho, hb, h2.1, Instr.lookup, run_underlying hu, hg, hck, hf, hv], hvr⟩
            · refine ⟨.tuple #[v, .bool false], by simp [execOp, ho, hb, h2.1, Instr.lookup, run_underlying hu, hg, hck, hf, hv], ?_⟩
              simp [Rel, RelL, hvr, Value.oneCell']
          · cases hs
        · cases hs
      · cases hs
    · cases hs
  · cases hs
end
end Go.PI
namespace Go.PI
section
variable {W : Wd} {w : World} {P : Program} {T : Pg} {ρ : Regs} {a : Act} {n : Nat} {o : Oper} {p : PV} {h : H}

theorem tup2_rel {p q : PV} {u v : Value} (h1 : Rel W w p u) (h2 : Rel W w q v) : Rel W w (.tup [p, q]) (.tuple #[u, v]) := by
  simp only [Rel]
  exact ⟨_, rfl, by simp only [RelL]; exact ⟨_, _, rfl, h1, _, _, rfl, h2, rfl⟩⟩
theorem tup3_rel {p q r : PV} {u v x : Value} (h1 : Rel W w p u) (h2 : Rel W w q v) (h3 : Rel W w r x) : Rel W w (.tup [p, q, r]) (.tuple #[u, v, x]) := by
  simp only [Rel]
  exact ⟨_, rfl, by simp only [RelL]; exact ⟨_, _, rfl, h1, _, _, rfl, h2, _, _, rfl, h3, rfl⟩⟩
theorem find_rel {b : Nat} : ∀ {es : List (PV × PV × Nat)} {mes : List MapEntry} {e : PV × PV × Nat}, es.length = mes.length → (∀ (j : Nat) e, es[j]? = some e → ∃ m, mes[j]? = some m ∧ RelE W w e m) →
    es.find? (fun e => e.2.2 == b) = some e → ∃ m, mes.find? (fun m => m.born == b) = some m ∧ RelE W w e m
  | [], mes, e, _, _, h => by simp at h
  | c :: es, mes, e, hl, hr, h => by
    cases mes with
    | nil => simp at hl
    | cons m mes =>
      obtain ⟨m', hm, he⟩ := hr 0 c rfl
      simp at hm; subst hm
      rw [List.find?_cons] at h ⊢
      have hb : (m.born == b) = (c.2.2 == b) := by rw [he.2.2]
      rw [hb]
      split at h
      · rename_i hc
        injection h with h; subst h
        exact ⟨m, by simp, he⟩
      · rename_i hc
        exact find_rel (by simpa using hl) (fun j e he => by simpa using hr (j + 1) e (by simpa using he)) h
theorem y_entry (hh : HRel W w h) (hr : RegsRel W w ρ a.tmps n) {x : Operand} (ho : o.op = .entry x) (hs : opR T ρ h (.entry x) = some p) : Yields P W w a o p := by
  simp only [opR] at hs
  split at hs
  · rename_i q hx
    have h1 := ev_rel hr hx
    simp only [Rel] at h1
    obtain ⟨hN, b, hb, hor⟩ := h1
    split at hs
    · rename_i m since seen last hq
      split at hs
      · rename_i es clk b' hm hse
        split at hs
        · rename_i hcl
          split at hs
          · rename_i e hfe
            injection hs with hs; subst hs
            rcases hor with hd | ⟨y, hy, rfl⟩
            · rw [(hh.dead q hd).1] at hq; cases hq
            · obtain ⟨z, hz, hp⟩ := hh.rows q _ hq (by simp)
              rw [hy] at hz; injection hz with hz; subst hz
              obtain ⟨mb, hi1, hi2⟩ := hp
              obtain ⟨hmN, bm, rfl, hmor⟩ := hi2
              obtain ⟨ym, mes, hym, rfl, hmm, hlen, hrel⟩ := map_at hh hm hmor
              have hg := run_getMap (P := P) hmm
              have hg2 : (getObj y.b).run P w = .ok (.mapIter (some ym.b) since seen.toArray last) w := by simp [getObj, Sem.run, hi1]
              obtain ⟨me, hf, hre⟩ := find_rel (b := b') (mes := mes.toList) (by rw [Array.length_toList]; exact hlen) (fun j e he => by simpa using hrel j e he) hfe
              have hback : seen.toArray.back? = some b' := by rw [← hse]; simp [Array.back?, List.getLast?_eq_getElem?]
              subst hcl
              refine ⟨.tuple #[me.key, me.val], ?_, tup2_rel hre.1 hre.2.1⟩
              simp [execOp, ho, hb, Instr.entry, hg, hg2, hback, ← Array.find?_toList, hf]
          · cases hs
        · cases hs
      · cases hs
    · cases hs
  · cases hs
theorem y_lenM (hT : TyS P T) (hh : HRel W w h) (hr : RegsRel W w ρ a.tmps n) {args : Array Operand} {argTypes : Array TypeId} (ho : o.op = .call { callee := .builtin .len, args, argTypes })
    (hs : opR T ρ h (.call { callee := .builtin .len, args, argTypes }) = some p) : Yields P W w a o p := by
  obtain ⟨consts, hrun⟩ := run_builtin (P := P) ho a
  simp only [opR] at hs
  split at hs
  · rename_i x he
    obtain ⟨v, hargs, h1⟩ := args1 hr he
    split at hs
    · rename_i ti ht
      obtain ⟨k, hk, rfl⟩ := Option.map_eq_some_iff.1 hs
      obtain ⟨t, h0, hok⟩ := arg0 hT ht
      refine ⟨.int .i64 k, ?_, by simp [Rel, Value.oneCell']⟩
      rw [hrun, hargs]
      unfold lenM at hk
      split at hk
      · rename_i hd
        have hu := hok.und_map hd
        split at hk
        · injection hk with hk; subst hk
          simp only [Rel] at h1
          obtain ⟨rfl, _⟩ := h1
          simp [builtin, Builtin.len_, h0, run_underlying hu, goInt]
        · simp only [Rel] at h1
          obtain ⟨hN, b, rfl, hor⟩ := h1
          split at hk
          · rename_i es clk hrow
            injection hk with hk; subst hk
            obtain ⟨y, mes, hy, rfl, hm, hlen, hrel⟩ := map_at hh hrow hor
            simp [builtin, Builtin.len_, h0, run_underlying hu, goInt, run_getMap (P := P) hm, hlen]
          · cases hk
        · cases hk
      · cases hk
    · cases hs
  · cases hs
theorem y_load (hT : TyS P T) (hh : HRel W w h) (hr : RegsRel W w ρ a.tmps n) {t : TypeId} {x : Operand} (ho : o.op = .load t x) (hs : opR T ρ h (.load t x) = some p) : Yields P W w a o p := by
  simp only [opR] at hs
  split at hs
  · rename_i ti cs ht hm
    obtain ⟨q, hq, hm⟩ := Option.bind_eq_some_iff.1 hm
    obtain ⟨u, h1, h2⟩ := load_rel hh (hT _ _ ht) (ev_rel hr hq) hm hs
    exact ⟨u, by simp [execOp, ho, h1], h2⟩
  · cases hs
theorem y_slice (hT : TyS P T) (hh : HRel W w h) (hr : RegsRel W w ρ a.tmps n) {t : TypeId} {x : Operand} {lo hi mx : Option Operand} (ho : o.op = .slice t x lo hi mx) (hs : opR T ρ h (.slice t x lo hi mx) = some p) : Yields P W w a o p := by
  simp only [opR] at hs
  split at hs
  · rename_i ti v l hh' m ht hx h1 h2 h3
    obtain ⟨u, hu1, hu2⟩ := slice_rel hT hh (hT _ _ ht) (ev_rel hr hx) (evo_rel hr h1) (evo_rel hr h2) (evo_rel hr h3) hs
    exact ⟨u, by simp [execOp, ho, hu1], hu2⟩
  · cases hs
theorem opR_sound (hT : TyS P T) (hh : HRel W w h) (hr : RegsRel W w ρ a.tmps n) (hs : opR T ρ h o.op = some p) : Yields P W w a o p := by
  generalize hop : o.op = op at hs
  cases op <;> (try (simp only [opR] at hs; cases hs; done))
  case load => exact y_load hT hh hr hop hs
  case slice => exact y_slice hT hh hr hop hs
  case lookup => exact y_lookup hT hh hr hop hs
  case entry => exact y_entry hh hr hop hs
  case call c =>
    obtain ⟨cl, args, argTypes⟩ := c
    cases cl <;> (try (simp only [opR] at hs; cases hs; done))
    rename_i b
    cases b <;> (try (simp only [opR] at hs; cases hs; done))
    exact y_lenM hT hh hr hop hs

/-! ### new rows -/
/-- The operation makes a row (numbered r), and hands back where it lies. -/
def Makes (P : Program) (W : Wd) (w : World) (a : Act) (o : Oper) (p : PV) (po : PO) (r : Nat) : Prop :=
  ∃ (v : Value) (ob : Obj) (x : Loc), (execOp a.eval o).run P w = .ok (.value v) { w with heap := w.heap.push ob } ∧ x.b = w.heap.size ∧
    ∀ W', Mon W w W' { w with heap := w.heap.push ob } → r < W'.N → W'.β r = some x → PORel W' { w with heap := w.heap.push ob } po x ∧ Rel W' { w with heap := w.heap.push ob } p v
theorem po_cells {W' : Wd} {cs : List PV} {vs : Array Value} {e : TypeId} (hr : RelL W w cs vs.toList) (he : Mon W w W' { w with heap := w.heap.push (.cells vs e) }) :
    PORel W' { w with heap := w.heap.push (.cells vs e) } (.cells cs) ⟨w.heap.size, 0, cs.length, vs.size⟩ := by
  have hl := hr.length
  simp only [Array.length_toList] at hl
  refine ⟨rfl, by simp only [Nat.zero_add]; omega, vs, e, by simp, rfl, fun i c hc => ?_⟩
  obtain ⟨v, hv, hrel⟩ := hr.get hc
  exact ⟨v, by simpa using hv, hrel.mon he⟩
theorem ptr_new {W' : Wd} {w1 : World} {r len sz : Nat} (hr : r < W'.N) (hx : W'.β r = some ⟨w.heap.size, 0, len, sz⟩) : Rel W' w1 (.ptr r 0) (.pointer (some ⟨w.heap.size, 0, none⟩)) := by
  simp only [Rel]
  exact ⟨hr, _, rfl, .inr ⟨_, hx, rfl⟩⟩
variable {r : Nat}
theorem m_alloc (hT : TyS P T) {t : TypeId} {po : PO} (ho : o.op = .alloc t) (hs : opA T ρ r (.alloc t) = some (p, po)) : Makes P W w a o p po r := by
  simp only [opA] at hs
  obtain ⟨ti, ht, hs⟩ := Option.map_eq_some_iff.1 hs
  injection hs with hs1 hs2; subst hs1; subst hs2
  obtain ⟨z, h1, h2, _⟩ := (hT _ _ ht).zero w
  have hz : RelL W w ti.zeros z.cells.toList := by rw [h2]; exact relL_lits (hT _ _ ht).zone
  refine ⟨.pointer (some ⟨w.heap.size, 0, none⟩), .cells z.cells t, ⟨w.heap.size, 0, ti.zeros.length, z.cells.size⟩, ?_, rfl, fun W' e hr hx => ⟨po_cells hz e, ptr_new hr hx⟩⟩
  simp [execOp, ho, Instr.alloc, h1, newVar, newRow]
theorem m_box (hr : RegsRel W w ρ a.tmps n) {t : TypeId} {x : Operand} {po : PO} (ho : o.op = .box t x) (hs : opA T ρ r (.box t x) = some (p, po)) : Makes P W w a o p po r := by
  simp only [opA] at hs
  split at hs
  · rename_i ti v ht hv
    split at hs
    · injection hs with hs; injection hs with hs1 hs2; subst hs1; subst hs2
      have hz := cells_rel (ev_rel hr hv)
      refine ⟨.pointer (some ⟨w.heap.size, 0, none⟩), .cells (a.eval x).cells t, ⟨w.heap.size, 0, (cellsOf v).length, (a.eval x).cells.size⟩, ?_, rfl, fun W' e hr hx => ⟨po_cells hz e, ptr_new hr hx⟩⟩
      simp [execOp, ho, Instr.box, newVar, newRow]
    · cases hs
  · cases hs
theorem m_makeMap {t : TypeId} {po : PO} (ho : o.op = .makeMap t none) (hs : opA T ρ r (.makeMap t none) = some (p, po)) : Makes P W w a o p po r := by
  simp only [opA] at hs
  injection hs with hs; injection hs with hs1 hs2; subst hs1; subst hs2
  refine ⟨.map (some w.heap.size), .map #[] 0, ⟨w.heap.size, 0, 0, 0⟩, ?_, rfl, fun W' e hr hx => ⟨⟨#[], by simp, rfl, by simp⟩, ?_⟩⟩
  · simp [execOp, ho, Instr.makeMap]
  · simp only [Rel]
    exact ⟨hr, _, rfl, .inr ⟨_, hx, rfl⟩⟩
end
end Go.PI
namespace Go.PI
section
variable {W : Wd} {w : World} {P : Program} {T : Pg} {ρ : Regs} {a : Act} {n : Nat} {o : Oper} {p : PV} {h : H}

theorem repl_length (m : Nat) (z : List PV) : (repl m z).length = m * z.length := by
  induction m with
  | zero => simp [repl]
  | succ m ih =>
    have : repl (m + 1) z = z ++ repl m z := by simp [repl, List.replicate_succ]
    rw [this, List.length_append, ih, Nat.succ_mul]; omega
theorem repl_get : ∀ (m : Nat) (z : List PV) (i : Nat), i < m * z.length → (repl m z)[i]? = z[i % z.length]?
  | 0, z, i, h => by simp at h
  | m + 1, z, i, h => by
    have he : repl (m + 1) z = z ++ repl m z := by simp [repl, List.replicate_succ]
    rw [he]
    by_cases hi : i < z.length
    · rw [List.getElem?_append_left hi, Nat.mod_eq_of_lt hi]
    · have hz : z.length ≤ i := by omega
      rw [List.getElem?_append_right hz, repl_get m z _ (by rw [Nat.succ_mul] at h; omega)]
      rw [Nat.mod_eq_sub_mod hz]
theorem zeros_rel {t : TypeId} {ti : TI} (ht : TyOk P t ti) {z : Value} (hz : z.cells.toList = ti.zero) (m k : Nat) (hk : k = m * ti.sz) :
    RelL W w (repl m ti.zeros) ((Array.range k).map (fun i => z.cells[i % z.cells.size]!)).toList := by
  have hs : z.cells.size = ti.sz := by rw [← Array.length_toList, hz, ht.zlen]
  have hl : (ti.zeros).length = ti.sz := by simp [TI.zeros, ht.zlen]
  subst hk
  refine RelL.of_get (by simp [repl_length, hl]) fun i q hq => ?_
  have hi : i < m * ti.sz := by
    have := (List.getElem?_eq_some_iff.1 hq).1
    rwa [repl_length, hl] at this
  rw [repl_get m _ i (by rw [hl]; exact hi), hl] at hq
  have hpos : 0 < ti.sz := Nat.pos_of_ne_zero fun e => by rw [e] at hi; simp at hi
  have hmod : i % ti.sz < z.cells.size := by rw [hs]; exact Nat.mod_lt _ hpos
  have hzr : RelL W w ti.zeros z.cells.toList := by rw [hz]; exact relL_lits ht.zone
  obtain ⟨v, hv, hrel⟩ := hzr.get hq
  refine ⟨v, ?_, hrel⟩
  simp only [Array.getElem?_toList] at hv
  simp [hi, hs]
  rw [getElem!_def, hv]
theorem row_new {W' : Wd} {w1 : World} {r : Nat} {cs : List PV} {m s cap : Nat} {sz : Nat} {full : Bool} (hr : r < W'.N) (hx : W'.β r = some ⟨w.heap.size, 0, cs.length, sz⟩) (h1 : m ≤ cap) (h2 : full = true → cap = m) (h3 : cap * s ≤ sz) (h4 : full = false → cs.length ≤ cap * s) :
    Rel W' w1 (.row r 0 m s full) (.slice (some ⟨w.heap.size, 0, none⟩) m cap) := by
  simp only [Rel]
  exact ⟨hr, _, cap, rfl, h1, h2, .inr ⟨_, hx, fun _ => rfl, by simpa using h3, fun hf => by simpa using h4 hf⟩⟩
variable {r : Nat}
theorem m_buildSlice (hT : TyS P T) (hr : RegsRel W w ρ a.tmps n) {t : TypeId} {len : Nat} {parts : Array (Nat × Operand)} {po : PO} (ho : o.op = .buildSlice t len parts) (hs : opA T ρ r (.buildSlice t len parts) = some (p, po)) : Makes P W w a o p po r := by
  simp only [opA] at hs
  split at hs
  · rename_i e sz byt zero ps ht hps
    have hu := (hT _ _ ht).und_slice rfl
    obtain ⟨hp1, hp2⟩ := evs_rel hr hps
    have hq1 : ps.map (·.1) = ((parts.map fun (i, x) => (i, a.eval x)).toList).map (·.1) := by rw [hp1]; simp [List.map_map, Function.comp_def]
    have hq2 : RelL W w (ps.map (·.2)) (((parts.map fun (i, x) => (i, a.eval x)).toList).map (·.2)) := by simpa [List.map_map, Function.comp_def] using hp2
    split at hs
    · rename_i te hte
      split at hs
      · rename_i hc
        obtain ⟨hl1, hl2, hl3⟩ := hc
        obtain ⟨cs, hfl, hs⟩ := Option.map_eq_some_iff.1 hs
        injection hs with hs1 hs2; subst hs1; subst hs2
        have hok := hT _ _ hte
        obtain ⟨ie, hie, hse, _, z, hz, hzc, _⟩ := hok.info
        obtain ⟨vs, hfc, hrel⟩ := fill_rel (place' := fun i => some (i * ie.size, ie.size)) (fun j x hx => by rw [hse]; exact hx) hfl hq1 hq2 (zeros_rel (W := W) (w := w) hok hzc len (len * ie.size) (by rw [hse]))
        have hcl : cs.length = len * te.sz := by
          have h1 : ∀ {pl : Nat → Option (Nat × Nat)} {qs : List (Nat × PV)} {c c' : List PV}, fillP pl c qs = some c' → c'.length = c.length := by
            intro pl qs
            induction qs with
            | nil => intro c c' hq; simp only [fillP] at hq; injection hq with hq; rw [hq]
            | cons q qs ih =>
              intro c c' hq
              obtain ⟨i, v⟩ := q
              simp only [fillP] at hq
              split at hq
              · cases hq
              · split at hq
                · rw [ih hq, setMany_length]
                · cases hq
          rw [h1 hfl, repl_length]; simp [TI.zeros, hok.zlen]
        have hvl : vs.size = len * te.sz := by rw [← hcl, hrel.length, Array.length_toList]
        refine ⟨.slice (some ⟨w.heap.size, 0, none⟩) len len, .cells vs e, ⟨w.heap.size, 0, cs.length, vs.size⟩, ?_, rfl, fun W' e hr hx => ⟨po_cells hrel e,
          row_new hr hx (Nat.le_refl _) (fun _ => rfl) (by rw [hvl]; exact Nat.le_refl _) (fun hf => by cases hf)⟩⟩
        by_cases h0 : len * ie.size = 0
        · have hlen0 : len = 0 := by
            rcases Nat.mul_eq_zero.1 h0 with h0 | h0
            · exact h0
            · omega
          subst hlen0
          have hr0 : ∀ f : Nat → Value, (Array.range 0).map f = #[] := fun f => by rw [show Array.range 0 = #[] from rfl, Array.map_empty]
          rw [Nat.zero_mul, hr0] at hfc
          simp only [execOp, ho, Instr.buildSlice, run_underlying hu, sizeOf, typeInfo, Sem.run_bind, Result.andThen_ok, run_program, hie, Sem.run_pure]
          simp only [Nat.zero_mul, Nat.not_lt_zero, gt_iff_lt, if_false, if_true, Sem.run_pure, Result.andThen_ok, hr0, hfc, newRow, Sem.run_bind, run_newObj]
        · have hbs := run_buildSlice w t e len (parts.map fun (i, x) => (i, a.eval x)) vs ie z hu hie hz (by
            have : len * ie.size ≤ 4096 * 4096 := Nat.mul_le_mul hl1 (by rw [hse]; exact hl2)
            omega) h0 hfc
          simp only [execOp, ho, Sem.run_bind, hbs, Result.andThen_ok, Sem.run_pure]
          rfl
      · cases hs
    · cases hs
  · cases hs
theorem m_makeSlice (hT : TyS P T) (hr : RegsRel W w ρ a.tmps n) {t : TypeId} {l c : Operand} {po : PO} (ho : o.op = .makeSlice t l c) (hs : opA T ρ r (.makeSlice t l c) = some (p, po)) : Makes P W w a o p po r := by
  simp only [opA] at hs
  split at hs
  · rename_i e sz byt zero x y ht hx hy
    have hu := (hT _ _ ht).und_slice rfl
    obtain ⟨px, hpx, hx⟩ := Option.bind_eq_some_iff.1 hx
    obtain ⟨py, hpy, hy⟩ := Option.bind_eq_some_iff.1 hy
    obtain ⟨kx, hkx⟩ := int_rel (ev_rel hr hpx) hx
    obtain ⟨ky, hky⟩ := int_rel (ev_rel hr hpy) hy
    split at hs
    · rename_i te hte
      split at hs
      · rename_i hc
        obtain ⟨h0, h1, h2, h3, h4⟩ := hc
        injection hs with hs; injection hs with hs1 hs2; subst hs1; subst hs2
        have hok := hT _ _ hte
        obtain ⟨ie, hie, hse, hbe, z, hz, hzc, _⟩ := hok.info
        simp only [maxLen, maxByt] at h2 h3
        have hwx : IntKind.i64.wrap x = x := IntWalk.i64_in _ (by omega)
        have hwy : IntKind.i64.wrap y = y := IntWalk.i64_in _ (by omega)
        obtain ⟨c, rfl⟩ := Int.eq_ofNat_of_zero_le (show 0 ≤ y by omega)
        obtain ⟨l, rfl⟩ := Int.eq_ofNat_of_zero_le h0
        have hby : ((ie.bytes : Int) * (c : Int)) ≤ 281474976710656 := by
          have h5 : ie.bytes * c ≤ 8192 * 4294967296 := Nat.mul_le_mul (by omega) (by omega)
          have h6 : ((ie.bytes * c : Nat) : Int) ≤ ((8192 * 4294967296 : Nat) : Int) := Int.ofNat_le.2 h5
          rw [← Int.natCast_mul]
          omega
        have hcl : (repl l te.zeros).length = l * te.sz := by rw [repl_length]; simp [TI.zeros, hok.zlen]
        have hz0 : RelL W w (repl c te.zeros) ((Array.range (c * ie.size)).map (fun i => z.cells[i % z.cells.size]!)).toList := zeros_rel hok hzc c _ (by rw [hse])
        refine ⟨.slice (some ⟨w.heap.size, 0, none⟩) l c, .cells ((Array.range (c * ie.size)).map (fun i => z.cells[i % z.cells.size]!)) e, ⟨w.heap.size, 0, (repl l te.zeros).length, c * te.sz⟩, ?_, rfl, fun W' hmon hr hx => ⟨?_, ?_⟩⟩
        · have hnt : ¬ ((c : Int) < 0 ∨ (ie.bytes : Int) * (c : Int) > 2 ^ 48) := by
            have : (2 : Int) ^ 48 = 281474976710656 := by decide
            omega
          have hlc : ¬ ((c : Int) < (l : Int)) := by omega
          have hl0 : ¬ ((l : Int) < 0) := by omega
          have hn0 : ¬ (c * ie.size = 0) ∨ c = 0 := by
            rcases Nat.eq_zero_or_pos c with h | h
            · exact .inr h
            · exact .inl (Nat.ne_of_gt (Nat.mul_pos h (by omega)))
          simp [execOp, ho, hkx, hky, Instr.makeSlice, run_underlying hu, asInt, asIntOf, typeInfo, hie, hwx, hwy, sizeOf, zeroValue, hz, newRow]
          rw [if_neg (by omega)]
          by_cases h00 : c * ie.size = 0
          · have hr0 : ∀ f : Nat → Value, (Array.range 0).map f = #[] := fun f => by rw [show Array.range 0 = #[] from rfl, Array.map_empty]
            rw [if_pos h00, h00, hr0, hr0]
          · rw [if_neg h00]
        · have hlen := hz0.length
          simp only [Array.length_toList, Array.size_map, Array.size_range, repl_length] at hlen
          have hlz : (te.zeros).length = te.sz := by simp [TI.zeros, hok.zlen]
          have hle : l * te.sz ≤ c * te.sz := Nat.mul_le_mul_right _ (by omega)
          refine ⟨rfl, by rw [hcl]; simpa using hle, (Array.range (c * ie.size)).map (fun i => z.cells[i % z.cells.size]!), e, by simp, by simp [hse], fun i q hq => ?_⟩
          have hi : i < l * te.sz := by rw [← hcl]; exact (List.getElem?_eq_some_iff.1 hq).1
          have hq' : (repl c te.zeros)[i]? = some q := by
            rw [repl_get _ _ _ (by rw [hlz]; omega)]
            rw [repl_get _ _ _ (by rw [hlz]; exact hi)] at hq
            exact hq
          obtain ⟨v, hv, hrel⟩ := hz0.get hq'
          exact ⟨v, by rw [Array.getElem?_toList] at hv; simpa only [Nat.zero_add] using hv, hrel.mon hmon⟩
        · have e1 : ((l : Int)).toNat = l := Int.toNat_natCast l
          have e2 : (l : Int) == (c : Int) → c = l := fun hf => by
            have : (l : Int) = c := by simpa using hf
            omega
          have hlc : l ≤ c := by omega
          rw [e1]
          exact row_new hr hx hlc e2 (Nat.le_refl _) (fun _ => by rw [hcl]; exact Nat.mul_le_mul_right _ hlc)
      · cases hs
    · cases hs
  · cases hs
end
end Go.PI
namespace Go.PI
section
variable {W W' W'' : Wd} {w w' w'' : World} {P : Program} {T : Pg} {C : Cx} {ρ : Regs} {a : Act} {n : Nat} {o : Oper} {p : PV} {h h' h'' : H} {po : PO}

/-- From one state of the plain machine's memory to another, and the world's along with it. -/
structure Goes (C : Cx) (h : H) (W : Wd) (w : World) (h' : H) (W' : Wd) (w' : World) : Prop where
  ext : Ext C h W w W' w'
  rel : HRel W' w' h'
  live : ∀ r, r < W.N → alive h' r → alive h r
  kept : ∀ r, r < W.N → C.no r = true → h'.rows[r]? = h.rows[r]? ∧ (W'.dead r → W.dead r)
theorem Goes.refl (hh : HRel W w h) : Goes C h W w h W w := ⟨Ext.refl _ _ _ _, hh, fun _ _ h => h, fun _ _ _ => ⟨rfl, fun h => h⟩⟩
theorem Goes.trans (hh : HRel W w h) (g : Goes C h W w h' W' w') (g' : Goes C h' W' w' h'' W'' w'') : Goes C h W w h'' W'' w'' where
  ext := Ext.trans hh.ltβ g.ext g.live g'.ext
  rel := g'.rel
  live r hr ha := g.live r hr (g'.live r (Nat.lt_of_lt_of_le hr g.ext.n) ha)
  kept r hr hno :=
    have h1 := g.kept r hr hno
    have h2 := g'.kept r (Nat.lt_of_lt_of_le hr g.ext.n) hno
    ⟨h2.1.trans h1.1, fun hd => h1.2 (h2.2 hd)⟩
theorem Goes.grew (hh : HRel W w h) (g : Grew w w') : Goes C h W w h W w' := ⟨g.ext, hh.grew g, fun _ _ h => h, fun _ _ _ => ⟨rfl, fun h => h⟩⟩
theorem Goes.push (hh : HRel W w h) (g : Grew w w') {x : Loc} (hx : w.heap.size ≤ x.b) (hx' : x.b < w'.heap.size) (hp : PORel (W.push x) w' po x) : Goes C h W w (newObj h po) (W.push x) w' where
  ext := Wd.push_ext g hx
  rel := hh.push g hx hx' hp
  live r hr ha := by
    obtain ⟨q, h1, h2⟩ := ha
    rw [← hh.n] at hr
    refine ⟨q, ?_, h2⟩
    simpa [newObj, List.getElem?_append, hr] using h1
  kept r hr _ := by
    rw [← hh.n] at hr
    exact ⟨by simp [newObj, List.getElem?_append, hr], fun h => h⟩
theorem Goes.set (hh : HRel W w h) {r : Nat} {x : Loc} (hx : W.β r = some x) (ha : alive h r) (g : Wrote w w' x.b) (hno : C.no r = false) (hp : PORel W w' po x) : Goes C h W w (setRow h r po) W w' where
  ext := g.ext hx ha hno
  rel := hh.setRow hx ha g hno hp
  live r' hr' ha' := by
    by_cases he : r' = r
    · exact he ▸ ha
    · obtain ⟨q, h1, h2⟩ := ha'
      exact ⟨q, by simpa [PI.setRow, List.getElem?_set_ne (Ne.symm he)] using h1, h2⟩
  kept r' _ hno' := by
    have he : r' ≠ r := by rintro rfl; rw [hno] at hno'; cases hno'
    exact ⟨by simp [PI.setRow, List.getElem?_set_ne (Ne.symm he)], fun h => h⟩

/-- What an operation comes to: a value, or none ('undef'). -/
def Does (P : Program) (C : Cx) (W : Wd) (w : World) (h : H) (a : Act) (o : Oper) (p : PV) (h' : H) : Prop :=
  ∃ nx v w' W', (execOp a.eval o).run P w = .ok nx w' ∧ (nx = .value v ∨ nx = .skip ∧ v = undef) ∧ Rel W' w' p v ∧ Goes C h W w h' W' w'
theorem Yields.does (hh : HRel W w h) (hy : Yields P W w a o p) : Does P C W w h a o p h := by
  obtain ⟨v, h1, h2⟩ := hy
  exact ⟨_, v, w, W, h1, .inl rfl, h2, .refl hh⟩
theorem Makes.does (hh : HRel W w h) (hm : Makes P W w a o p po h.rows.length) : Does P C W w h a o p (newObj h po) := by
  obtain ⟨v, ob, x, h1, h2, h3⟩ := hm
  have he : Ext C h W w (W.push x) { w with heap := w.heap.push ob } := Wd.push_ext (Grew.push w _) (Nat.le_of_eq h2.symm)
  obtain ⟨h3, h4⟩ := h3 (W.push x) he.mon (by rw [hh.n]; exact Nat.lt_succ_self _) (by simp [Wd.push, hh.n])
  exact ⟨_, v, _, W.push x, h1, .inl rfl, h4, .push hh (Grew.push w ob) (Nat.le_of_eq h2.symm) (by simp [h2]) h3⟩
theorem rel_undef : Rel W w (.tup []) undef := by simp [Rel, undef, RelL]
theorem opA_sound {r : Nat} (hT : TyS P T) (hr : RegsRel W w ρ a.tmps n) (hs : opA T ρ r o.op = some (p, po)) : Makes P W w a o p po r := by
  generalize hop : o.op = op at hs
  cases op <;> (try (simp only [opA] at hs; cases hs; done))
  case alloc => exact m_alloc hT hop hs
  case box => exact m_box hr hop hs
  case buildSlice => exact m_buildSlice hT hr hop hs
  case makeSlice => exact m_makeSlice hT hr hop hs
  case makeMap t r =>
    cases r with
    | none => exact m_makeMap hop hs
    | some r => simp only [opA] at hs; cases hs

/-! ### stores -/
theorem setRow_wrote (w : World) (g : Nat) (cells : Array Value) : Wrote w (w.setRow g cells) g := by
  refine ⟨by simp [World.setRow], fun c hc => ?_, rfl, rfl, rfl⟩
  simp [World.setRow, Array.getElem?_modify, Ne.symm hc]
theorem storeCells_goes (hh : HRel W w h) {q : PV} {v : Value} (hq : Rel W w q v) {new : List PV} {vs : List Value} (hn : RelL W w new vs) (hs : storeAt C h q new = some h') :
    ∃ ad w', v = .pointer (some ad) ∧ (storeCells ad vs).run P w = .ok () w' ∧ Goes C h W w h' W w' := by
  cases q <;> simp only [storeAt] at hs <;> (try (cases hs; done))
  rename_i r off
  split at hs
  · cases hs
  rename_i hno
  split at hs
  · rename_i cs hcs
    split at hs
    · rename_i hc
      obtain ⟨hc, hone⟩ := hc
      injection hs with hs; subst hs
      simp only [Rel] at hq
      obtain ⟨hN, ad, rfl, hor⟩ := hq
      rcases hor with hd | ⟨x, hx, rfl⟩
      · rw [(hh.dead r hd).1] at hcs; cases hcs
      obtain ⟨z, hz, hp⟩ := hh.rows r _ hcs (by simp)
      rw [hx] at hz; injection hz with hz; subst hz
      have hal : alive h r := ⟨_, hcs, by simp⟩
      have hno' : C.no r = false := by simpa using hno
      obtain ⟨h1, h2, cur, e, h3, h4, h5⟩ := hp
      have hlen := hn.length
      have hones : ∀ u ∈ vs, u.oneCell' = true := by
        intro u hu
        obtain ⟨i, hi, hiu⟩ := List.getElem_of_mem hu
        have hi' : i < new.length := by omega
        obtain ⟨u', hu', hrel⟩ := hn.get (List.getElem?_eq_getElem hi')
        rw [List.getElem?_eq_getElem hi] at hu'
        injection hu' with hu'
        rw [← hiu, hu']
        exact one_rel hrel (List.all_eq_true.1 hone _ (List.getElem_mem hi'))
      have hrun := run_storeCells_at P x.b (x.o + off) e vs 0 cur w h3 (by omega) hones
      refine ⟨_, _, rfl, hrun, ?_⟩
      have hwr := setRow_wrote w x.b (cur.toList.take (x.o + off + 0) ++ vs ++ cur.toList.drop (x.o + off + 0 + vs.length)).toArray
      refine Goes.set hh hx hal hwr hno' ⟨by rw [setMany_length]; exact h1, h2, _, e, setRow_heap w _ cur _ e _ h3, ?_, fun i c hic => ?_⟩
      · simp only [List.size_toArray, List.length_append, List.length_take, List.length_drop, Array.length_toList, Nat.add_zero]
        omega
      · have hext := hwr.ext (C := C) hx hal hno'
        rw [setMany_get _ _ _ _ hc] at hic
        simp only [List.getElem?_toArray, Nat.add_zero]
        split at hic
        · rename_i hii
          obtain ⟨u, hu, hrel⟩ := hn.get hic
          refine ⟨u, ?_, hrel.mono hext⟩
          rw [List.append_assoc, List.getElem?_append_right (by simp; omega), List.getElem?_append_left (by simp; omega)]
          rw [← hu]; congr 1
          simp; omega
        · rename_i hii
          obtain ⟨u, hu, hrel⟩ := h5 i c hic
          refine ⟨u, ?_, hrel.mono hext⟩
          have hlt : x.o + i < cur.size := (Array.getElem?_eq_some_iff.1 hu).1
          by_cases hlo : i < off
          · rw [List.append_assoc, List.getElem?_append_left (by simp; omega), List.getElem?_take, if_pos (by omega), Array.getElem?_toList, hu]
          · rw [List.getElem?_append_right (by simp; omega), List.getElem?_drop, Array.getElem?_toList, ← hu]
            congr 1
            simp; omega
    · cases hs
  · cases hs
theorem w_store (hT : TyS P T) (hh : HRel W w h) (hr : RegsRel W w ρ a.tmps n) {t : TypeId} {x y : Operand} (ho : o.op = .store t x y) (hs : opW T C ρ h (.store t x y) = some (p, h')) : Does P C W w h a o p h' := by
  simp only [opW] at hs
  split at hs
  · rename_i ti q v ht hq hv
    split at hs
    · rename_i hc
      obtain ⟨h1, hst, hs⟩ := Option.map_eq_some_iff.1 hs
      injection hs with hs1 hs2; subst hs1; subst hs2
      have hcr := cells_rel (ev_rel hr hv)
      have hl := hcr.length
      obtain ⟨ad, w', had, hrun, hg⟩ := storeCells_goes (P := P) hh (ev_rel hr hq) hcr hst
      refine ⟨.skip, undef, w', W, ?_, .inr ⟨rfl, rfl⟩, rel_undef, hg⟩
      have hsz : (a.eval y).cells.size = ti.sz := by rw [← Array.length_toList, ← hl, hc]
      simp [execOp, ho, Instr.storeAt, had, Instr.sureAddr, storeVar, (hT _ _ ht).size w, hsz, hrun]
    · cases hs
  · cases hs
end
end Go.PI
namespace Go.PI
section
variable {W W' W'' : Wd} {w w' w'' : World} {P : Program} {T : Pg} {C : Cx} {ρ : Regs} {a : Act} {n : Nat} {o : Oper} {p : PV} {h h' h'' : H} {po : PO}

/-! ### maps and iterators that are written -/
theorem setObj_wrote (w : World) (b : Nat) (o : Obj) : Wrote w { w with heap := w.heap.setIfInBounds b o } b :=
  ⟨by simp, fun c hc => by simp [Ne.symm hc], rfl, rfl, rfl⟩
theorem setObj_heap {b : Nat} {o' : Obj} (hb : w.heap[b]? = some o') (o : Obj) : (w.heap.setIfInBounds b o)[b]? = some o := by
  have := (Array.getElem?_eq_some_iff.1 hb).1
  simp [this]
theorem map_goes (hh : HRel W w h) {r : Nat} {x : Loc} (hx : W.β r = some x) {es es' : List (PV × PV × Nat)} {mes mes' : Array MapEntry} {clk clk' : Nat} (hr : h.rows[r]? = some (.map es clk)) (hm : w.heap[x.b]? = some (.map mes clk)) (hno : C.no r = false)
    (hlen : es'.length = mes'.size) (hrel : ∀ (i : Nat) e, es'[i]? = some e → ∃ m, mes'[i]? = some m ∧ RelE W w e m) :
    (setObj x.b (.map mes' clk')).run P w = .ok () { w with heap := w.heap.setIfInBounds x.b (.map mes' clk') } ∧ Goes C h W w (setRow h r (.map es' clk')) W { w with heap := w.heap.setIfInBounds x.b (.map mes' clk') } := by
  refine ⟨by simp [setObj, Sem.run, hm], ?_⟩
  have hal : alive h r := ⟨_, hr, by simp⟩
  have hwr := setObj_wrote w x.b (.map mes' clk')
  have hext := hwr.ext (C := C) hx hal hno
  exact Goes.set hh hx hal hwr hno ⟨mes', setObj_heap hm _, hlen, fun i e he => let ⟨m, h1, h2, h3, h4⟩ := hrel i e he; ⟨m, h1, h2.mono hext, h3.mono hext, h4⟩⟩
theorem set_entries {es : List (PV × PV × Nat)} {mes : Array MapEntry} (hlen : es.length = mes.size) (hrel : ∀ (i : Nat) e, es[i]? = some e → ∃ m, mes[i]? = some m ∧ RelE W w e m) {i : Nat} {q : PV × PV × Nat} {f : MapEntry → MapEntry}
    (hf : ∀ e m, es[i]? = some e → mes[i]? = some m → RelE W w e m → RelE W w q (f m)) :
    (es.set i q).length = (mes.modify i f).size ∧ ∀ (j : Nat) e, (es.set i q)[j]? = some e → ∃ m, (mes.modify i f)[j]? = some m ∧ RelE W w e m := by
  refine ⟨by simpa using hlen, fun j e he => ?_⟩
  rw [List.getElem?_set] at he
  rw [Array.getElem?_modify]
  split at he
  · rename_i hij
    subst hij
    split at he
    · rename_i hlt
      injection he with he; subst he
      obtain ⟨m, hm, hr⟩ := hrel i _ (List.getElem?_eq_getElem hlt)
      exact ⟨f m, by simp [hm], hf _ m (List.getElem?_eq_getElem hlt) hm hr⟩
    · cases he
  · rename_i hij
    obtain ⟨m, hm, hr⟩ := hrel j e he
    exact ⟨m, by simp [hij, hm], hr⟩
theorem push_entries {es : List (PV × PV × Nat)} {mes : Array MapEntry} (hlen : es.length = mes.size) (hrel : ∀ (i : Nat) e, es[i]? = some e → ∃ m, mes[i]? = some m ∧ RelE W w e m) {q : PV × PV × Nat} {m : MapEntry}
    (hq : RelE W w q m) : (es ++ [q]).length = (mes.push m).size ∧ ∀ (j : Nat) e, (es ++ [q])[j]? = some e → ∃ m', (mes.push m)[j]? = some m' ∧ RelE W w e m' := by
  refine ⟨by simpa using hlen, fun j e he => ?_⟩
  rw [Array.getElem?_push]
  by_cases hj : j < es.length
  · rw [List.getElem?_append_left hj] at he
    obtain ⟨m', h1, h2⟩ := hrel j e he
    exact ⟨m', by rw [if_neg (by omega)]; exact h1, h2⟩
  · rw [List.getElem?_append_right (by omega)] at he
    have : j - es.length = 0 := by
      rcases Nat.eq_zero_or_pos (j - es.length) with h | h
      · exact h
      · rw [List.getElem?_eq_none (by simp; omega)] at he; cases he
    rw [this] at he
    simp at he; subst he
    exact ⟨m, by rw [if_pos (by omega)], hq⟩
theorem run_keyThatStays (k : IntKind) (x : Int) : (Instr.keyThatStays (.int k x) (.int k x)).run P w = .ok (.int k x) w := by
  simp [Instr.keyThatStays, Instr.sameBits]
theorem findE_key {kk : IntKind} {x : Int} : ∀ {es : List (PV × PV × Nat)} {i j : Nat} {v : PV} {b : Nat}, findE kk x es i = some (some (j, v, b)) → i ≤ j ∧ es[j - i]? = some (.lit (.int kk x), v, b)
  | [], _, _, _, _, h => by simp [findE] at h
  | e :: es, i, j, v, b, h => by
    simp only [findE] at h
    split at h
    · rename_i kj y hk
      split at h
      · rename_i hkk
        subst hkk
        split at h
        · rename_i hxj
          subst hxj
          injection h with h; injection h with h
          simp only [Prod.mk.injEq] at h
          obtain ⟨rfl, h⟩ := h
          refine ⟨Nat.le_refl _, ?_⟩
          obtain ⟨e1, e2⟩ := e
          simp at hk h ⊢
          exact ⟨hk, h⟩
        · obtain ⟨h1, h2⟩ := findE_key h
          exact ⟨by omega, by rw [show j - i = (j - (i + 1)) + 1 by omega, List.getElem?_cons_succ]; exact h2⟩
      · cases h
    · cases h
theorem w_mapUpdate (hT : TyS P T) (hh : HRel W w h) (hr : RegsRel W w ρ a.tmps n) {t : TypeId} {m i x : Operand} (ho : o.op = .mapUpdate t m i x) (hs : opW T C ρ h (.mapUpdate t m i x) = some (p, h')) : Does P C W w h a o p h' := by
  simp only [opW] at hs
  split at hs
  · rename_i kt e sz byt zero r kk key v ht hm hi hv
    have h1 := ev_rel hr hm
    have h2 := ev_rel hr hi
    have h3 := ev_rel hr hv
    have hu := (hT _ _ ht).und_map rfl
    simp only [Rel] at h1 h2
    obtain ⟨hN, b, hb, hor⟩ := h1
    split at hs
    · rename_i k sz' byt' zero' hkt
      have huk := (hT _ _ hkt).und_int rfl
      have hck : ∀ b, (Instr.checkKey b 10000 kt (.int kk key)).run P w = .ok () w := fun b => checkKey_int huk b 9999 kk key
      split at hs
      · cases hs
      rename_i hno
      have hno' : C.no r = false := by simpa using hno
      split at hs
      · rename_i es clk hrow
        obtain ⟨y, mes, hy, rfl, hmm, hlen, hrel⟩ := map_at hh hrow hor
        have hg := run_getMap (P := P) hmm
        split at hs
        · rename_i j v' b' hfe
          injection hs with hs; injection hs with hs1 hs2; subst hs1; subst hs2
          obtain ⟨r', hf1, u, rfl, hru, _⟩ := findNow_rel (k := k) (mes := mes.toList) (by rw [Array.length_toList]; exact hlen) (fun j e he => by simpa using hrel j e he) hfe
          have hf := run_findKey (w := w) huk hf1
          obtain ⟨_, hj⟩ := findE_key hfe
          simp only [Nat.sub_zero] at hj
          obtain ⟨m', hm1, hm2⟩ := hrel j _ hj
          have hkey : m'.key = .int kk key := by have := hm2.1; simp only [Rel] at this; exact this.1
          obtain ⟨hl', hr'⟩ := set_entries (f := fun e => { e with key := .int kk key, val := a.eval x }) hlen hrel (i := j) (q := (.lit (.int kk key), v, b')) (fun e m he hm hre => by
            rw [hj] at he; injection he with he; subst he
            exact ⟨by simp [Rel, Value.oneCell'], h3, hre.2.2⟩)
          obtain ⟨hset, hgo⟩ := map_goes (P := P) (C := C) hh hy hrow hmm hno' (clk' := clk) hl' hr'
          refine ⟨.skip, undef, _, W, ?_, .inr ⟨rfl, rfl⟩, rel_undef, hgo⟩
          simp [execOp, ho, hb, h2.1, Instr.mapUpdate, run_underlying hu, hg, hck, hf, hm1, hkey, run_keyThatStays, hset]
        · rename_i hfe
          injection hs with hs; injection hs with hs1 hs2; subst hs1; subst hs2
          obtain ⟨r', hf1, rfl⟩ := findNow_rel (k := k) (mes := mes.toList) (by rw [Array.length_toList]; exact hlen) (fun j e he => by simpa using hrel j e he) hfe
          have hf := run_findKey (w := w) huk hf1
          obtain ⟨hl', hr'⟩ := push_entries hlen hrel (q := (.lit (.int kk key), v, clk)) (m := { key := .int kk key, val := a.eval x, born := clk }) ⟨by simp [Rel, Value.oneCell'], h3, rfl⟩
          obtain ⟨hset, hgo⟩ := map_goes (P := P) (C := C) hh hy hrow hmm hno' (clk' := clk + 1) hl' hr'
          refine ⟨.skip, undef, _, W, ?_, .inr ⟨rfl, rfl⟩, rel_undef, hgo⟩
          simp [execOp, ho, hb, h2.1, Instr.mapUpdate, run_underlying hu, hg, hck, hf, hset]
        · cases hs
      · cases hs
    · cases hs
  · cases hs
theorem w_mapEntry (hT : TyS P T) (hh : HRel W w h) (hr : RegsRel W w ρ a.tmps n) {t : TypeId} {m i : Operand} (ho : o.op = .mapEntry t m i) (hs : opW T C ρ h (.mapEntry t m i) = some (p, h')) : Does P C W w h a o p h' := by
  simp only [opW] at hs
  split at hs
  · rename_i kt e sz byt zero r kk key ht hm hi
    have h1 := ev_rel hr hm
    have h2 := ev_rel hr hi
    have hu := (hT _ _ ht).und_map rfl
    simp only [Rel] at h1 h2
    obtain ⟨hN, b, hb, hor⟩ := h1
    split at hs
    · rename_i k sz' byt' zero' hkt
      have huk := (hT _ _ hkt).und_int rfl
      have hck : ∀ b, (Instr.checkKey b 10000 kt (.int kk key)).run P w = .ok () w := fun b => checkKey_int huk b 9999 kk key
      split at hs
      · cases hs
      rename_i hno
      have hno' : C.no r = false := by simpa using hno
      split at hs
      · rename_i es clk z hrow hz
        obtain ⟨te, hte, hz⟩ := Option.bind_eq_some_iff.1 hz
        obtain ⟨y, mes, hy, rfl, hmm, hlen, hrel⟩ := map_at hh hrow hor
        have hg := run_getMap (P := P) hmm
        obtain ⟨zv, hzv, hzr⟩ := zero_rel (W := W) (w := w) (hT _ _ hte) hz
        split at hs
        · rename_i j v' b' hfe
          injection hs with hs; injection hs with hs1 hs2; subst hs1; subst hs2
          obtain ⟨r', hf1, u, rfl, hru, _⟩ := findNow_rel (k := k) (mes := mes.toList) (by rw [Array.length_toList]; exact hlen) (fun j e he => by simpa using hrel j e he) hfe
          have hf := run_findKey (w := w) huk hf1
          obtain ⟨_, hj⟩ := findE_key hfe
          simp only [Nat.sub_zero] at hj
          obtain ⟨m', hm1, hm2⟩ := hrel j _ hj
          have hkey : m'.key = .int kk key := by have := hm2.1; simp only [Rel] at this; exact this.1
          have hborn := hm2.2.2
          simp only at hborn
          obtain ⟨hl', hr'⟩ := set_entries (f := fun e => { e with key := .int kk key }) hlen hrel (i := j) (q := (.lit (.int kk key), v', b')) (fun e m he hm hre => by
            rw [hj] at he; injection he with he; subst he
            exact ⟨by simp [Rel, Value.oneCell'], hre.2⟩)
          obtain ⟨hset, hgo⟩ := map_goes (P := P) (C := C) hh hy hrow hmm hno' (clk' := clk) hl' hr'
          refine ⟨.value (.tuple #[u, goInt b']), _, _, W, ?_, .inl rfl, tup2_rel (hru.mono hgo.ext) (by simp [Rel, goInt, Value.oneCell']), hgo⟩
          simp [execOp, ho, hb, h2.1, Instr.mapEntry, run_underlying hu, hg, hck, hf, hm1, hkey, hborn, run_keyThatStays, hset]
        · rename_i hfe
          injection hs with hs; injection hs with hs1 hs2; subst hs1; subst hs2
          obtain ⟨r', hf1, rfl⟩ := findNow_rel (k := k) (mes := mes.toList) (by rw [Array.length_toList]; exact hlen) (fun j e he => by simpa using hrel j e he) hfe
          have hf := run_findKey (w := w) huk hf1
          obtain ⟨hl', hr'⟩ := push_entries hlen hrel (q := (.lit (.int kk key), z, clk)) (m := { key := .int kk key, val := zv, born := clk }) ⟨by simp [Rel, Value.oneCell'], hzr, rfl⟩
          obtain ⟨hset, hgo⟩ := map_goes (P := P) (C := C) hh hy hrow hmm hno' (clk' := clk + 1) hl' hr'
          refine ⟨.value (.tuple #[zv, goInt clk]), _, _, W, ?_, .inl rfl, tup2_rel (hzr.mono hgo.ext) (by simp [Rel, goInt, Value.oneCell']), hgo⟩
          simp [execOp, ho, hb, h2.1, Instr.mapEntry, run_underlying hu, hg, hck, hf, hzv, hset]
        · cases hs
      · cases hs
    · cases hs
  · cases hs
theorem findIdx_rel {b : Int} : ∀ {es : List (PV × PV × Nat)} {mes : List MapEntry} , es.length = mes.length → (∀ (j : Nat) e, es[j]? = some e → ∃ m, mes[j]? = some m ∧ RelE W w e m) →
    mes.findIdx? (fun m => (m.born : Int) == b) = es.findIdx? (fun e => (e.2.2 : Int) == b)
  | [], mes, hl, _ => by
    have : mes = [] := List.eq_nil_of_length_eq_zero hl.symm
    subst this; rfl
  | e :: es, mes, hl, hr => by
    cases mes with
    | nil => simp at hl
    | cons m mes =>
      obtain ⟨m', hm, he⟩ := hr 0 e rfl
      simp at hm; subst hm
      rw [List.findIdx?_cons, List.findIdx?_cons, findIdx_rel (es := es) (by simpa using hl) (fun j e he => by simpa using hr (j + 1) e (by simpa using he)), he.2.2]
theorem w_entryStore (hh : HRel W w h) (hr : RegsRel W w ρ a.tmps n) {t : TypeId} {m i x : Operand} (ho : o.op = .entryStore t m i x) (hs : opW T C ρ h (.entryStore t m i x) = some (p, h')) : Does P C W w h a o p h' := by
  simp only [opW] at hs
  split at hs
  · rename_i r b v hm hi hv
    have h1 := ev_rel hr hm
    have h3 := ev_rel hr hv
    obtain ⟨pi, hpi, hib⟩ := Option.bind_eq_some_iff.1 hi
    have h2 := ev_rel hr hpi
    unfold intOf at hib
    split at hib
    · rename_i ik iv
      injection hib with hib; subst hib
      simp only [Rel] at h1 h2
      obtain ⟨hN, bb, hb, hor⟩ := h1
      split at hs
      · cases hs
      rename_i hno
      have hno' : C.no r = false := by simpa using hno
      split at hs
      · rename_i es clk hrow
        obtain ⟨y, mes, hy, rfl, hmm, hlen, hrel⟩ := map_at hh hrow hor
        have hg := run_getMap (P := P) hmm
        split at hs
        · rename_i j hfi
          split at hs
          · rename_i k' v' b' hj
            injection hs with hs; injection hs with hs1 hs2; subst hs1; subst hs2
            have hfi' : mes.findIdx? (fun e => (e.born : Int) == iv) = some j := by
              rw [show mes = mes.toList.toArray from (Array.toArray_toList).symm, List.findIdx?_toArray, findIdx_rel (W := W) (w := w) (es := es) (by rw [Array.length_toList]; exact hlen) (fun j e he => by simpa using hrel j e he)]
              exact hfi
            obtain ⟨hl', hr'⟩ := set_entries (f := fun e => { e with val := a.eval x }) hlen hrel (i := j) (q := (k', v, b')) (fun e m he hm hre => by
              rw [hj] at he; injection he with he; subst he
              exact ⟨hre.1, h3, hre.2.2⟩)
            obtain ⟨hset, hgo⟩ := map_goes (P := P) (C := C) hh hy hrow hmm hno' (clk' := clk) hl' hr'
            refine ⟨.skip, undef, _, W, ?_, .inr ⟨rfl, rfl⟩, rel_undef, hgo⟩
            simp [execOp, ho, hb, h2.1, Instr.entryStore, hg, asInt, asIntOf, hfi', hset]
          · cases hs
        · cases hs
      · cases hs
    · cases hib
  · cases hs
theorem it_new (hh : HRel W w h) {m : Option Nat} {mb : Option Nat} {since last : Nat} (hm : match m with
        | none => mb = none
        | some r => r < W.N ∧ ∃ b, mb = some b ∧ (W.dead r ∨ ∃ y, W.β r = some y ∧ y.b = b)) :
    ∃ W', Rel W' { w with heap := w.heap.push (.mapIter mb since #[] last) } (.it h.rows.length) (.pointer (some ⟨w.heap.size, 0, none⟩)) ∧ Goes C h W w (newObj h (.iter m since [] last)) W' { w with heap := w.heap.push (.mapIter mb since #[] last) } := by
  refine ⟨W.push ⟨w.heap.size, 0, 0, 0⟩, ?_, .push hh (Grew.push w _) (Nat.le_refl _) (by simp) ⟨mb, by simp, ?_⟩⟩
  · simp only [Rel, Wd.push, hh.n]
    exact ⟨Nat.lt_succ_self _, _, rfl, .inr ⟨_, if_pos trivial, rfl⟩⟩
  · cases m with
    | none => exact hm
    | some r =>
      obtain ⟨hN, b, h1, h2⟩ := hm
      refine ⟨Nat.lt_succ_of_lt hN, b, h1, h2.imp id ?_⟩
      rintro ⟨y, hy, h3⟩
      exact ⟨y, by simp [Wd.push, Nat.ne_of_lt hN, hy], h3⟩
theorem w_range (hT : TyS P T) (hh : HRel W w h) (hr : RegsRel W w ρ a.tmps n) {t : TypeId} {x : Operand} (ho : o.op = .range t x) (hs : opW T C ρ h (.range t x) = some (p, h')) : Does P C W w h a o p h' := by
  simp only [opW] at hs
  split at hs
  · rename_i kt e sz byt zero ht hx
    have h1 := ev_rel hr hx
    have hu := (hT _ _ ht).und_map rfl
    simp only [Rel] at h1
    injection hs with hs; injection hs with hs1 hs2; subst hs1; subst hs2
    obtain ⟨W', hrel, hgo⟩ := it_new (C := C) hh (m := none) (mb := none) (since := 0) (last := 0) rfl
    exact ⟨_, _, _, W', by simp [execOp, ho, h1.1, Instr.range, run_underlying hu], .inl rfl, hrel, hgo⟩
  · rename_i kt e sz byt zero r ht hx
    have h1 := ev_rel hr hx
    have hu := (hT _ _ ht).und_map rfl
    simp only [Rel] at h1
    obtain ⟨hN, b, hb, hor⟩ := h1
    split at hs
    · rename_i es clk hrow
      injection hs with hs; injection hs with hs1 hs2; subst hs1; subst hs2
      obtain ⟨y, mes, hy, rfl, hmm, hlen, hrel⟩ := map_at hh hrow hor
      have hg := run_getMap (P := P) hmm
      obtain ⟨W', hrel, hgo⟩ := it_new (C := C) hh (m := some r) (mb := some y.b) (since := clk) (last := clk) ⟨hN, _, rfl, hor⟩
      exact ⟨_, _, _, W', by simp [execOp, ho, hb, Instr.range, run_underlying hu, hg], .inl rfl, hrel, hgo⟩
    · cases hs
  · cases hs
end
end Go.PI
namespace Go.PI
section
variable {W W' W'' : Wd} {w w' w'' : World} {P : Program} {T : Pg} {C : Cx} {ρ : Regs} {a : Act} {n : Nat} {o : Oper} {p : PV} {h h' h'' : H} {po : PO}

/-! ### the next one of a map's -/
theorem filter_rel {f : PV × PV × Nat → Bool} {g : MapEntry → Bool} (hfg : ∀ e m, RelE W w e m → f e = g m) : ∀ {es : List (PV × PV × Nat)} {mes : List MapEntry}, es.length = mes.length → (∀ (j : Nat) e, es[j]? = some e → ∃ m, mes[j]? = some m ∧ RelE W w e m) →
    (es.filter f).length = (mes.filter g).length ∧ ∀ (j : Nat) m, (mes.filter g)[j]? = some m → ∃ e, (es.filter f)[j]? = some e ∧ RelE W w e m
  | [], mes, hl, _ => by
    have : mes = [] := List.eq_nil_of_length_eq_zero hl.symm
    subst this
    exact ⟨rfl, fun j m hm => by simp at hm⟩
  | e :: es, mes, hl, hr => by
    cases mes with
    | nil => simp at hl
    | cons m mes =>
      obtain ⟨m', hm, he⟩ := hr 0 e rfl
      simp at hm; subst hm
      obtain ⟨h1, h2⟩ := filter_rel hfg (es := es) (mes := mes) (by simpa using hl) (fun j e he => by simpa using hr (j + 1) e (by simpa using he))
      rw [List.filter_cons, List.filter_cons, hfg _ _ he]
      split
      · refine ⟨by simp [h1], fun j m' hm' => ?_⟩
        cases j with
        | zero => simp at hm'; subst hm'; exact ⟨e, by simp, he⟩
        | succ j =>
          obtain ⟨e', he1, he2⟩ := h2 j m' (by simpa using hm')
          exact ⟨e', by simpa using he1, he2⟩
      · exact ⟨h1, h2⟩
theorem any_rel {f : PV × PV × Nat → Bool} {g : MapEntry → Bool} (hfg : ∀ e m, RelE W w e m → f e = g m) : ∀ {es : List (PV × PV × Nat)} {mes : List MapEntry}, es.length = mes.length → (∀ (j : Nat) e, es[j]? = some e → ∃ m, mes[j]? = some m ∧ RelE W w e m) → mes.any g = es.any f
  | [], mes, hl, _ => by
    have : mes = [] := List.eq_nil_of_length_eq_zero hl.symm
    subst this; rfl
  | e :: es, mes, hl, hr => by
    cases mes with
    | nil => simp at hl
    | cons m mes =>
      obtain ⟨m', hm, he⟩ := hr 0 e rfl
      simp at hm; subst hm
      rw [List.any_cons, List.any_cons, any_rel hfg (es := es) (by simpa using hl) (fun j e he => by simpa using hr (j + 1) e (by simpa using he)), hfg _ _ he]
theorem iter_goes (hh : HRel W w h) {q : Nat} {x : Loc} (hx : W.β q = some x) {r : Nat} {since last : Nat} {seen : List Nat} (hq : h.rows[q]? = some (.iter (some r) since seen last)) (hno : C.no q = false) {mb : Nat}
    (hi : w.heap[x.b]? = some (.mapIter (some mb) since seen.toArray last)) (hm : r < W.N ∧ (W.dead r ∨ ∃ y, W.β r = some y ∧ y.b = mb)) (b clk : Nat) :
    (setObj x.b (.mapIter (some mb) since (seen.toArray.push b) clk)).run P w = .ok () { w with heap := w.heap.setIfInBounds x.b (.mapIter (some mb) since (seen.toArray.push b) clk) } ∧
      Goes C h W w (setRow h q (.iter (some r) since (seen ++ [b]) clk)) W { w with heap := w.heap.setIfInBounds x.b (.mapIter (some mb) since (seen.toArray.push b) clk) } := by
  refine ⟨by simp [setObj, Sem.run, hi], ?_⟩
  have hal : alive h q := ⟨_, hq, by simp⟩
  have hwr := setObj_wrote w x.b (.mapIter (some mb) since (seen.toArray.push b) clk)
  refine Goes.set hh hx hal hwr hno ⟨some mb, ?_, hm.1, mb, rfl, hm.2⟩
  simp only [setObj_heap hi]; simp
theorem choose_next (P : Program) (w : World) {k : Nat} (hk : 0 < k) : ∃ c d, (choose (.mapNext k)).run P w = .ok c { w with drawn := d } ∧ c < k := by
  rw [run_choose]
  by_cases h : k ≤ 1
  · exact ⟨0, w.drawn, by simp [Question.forced, h], hk⟩
  · exact ⟨w.tape w.drawn (.mapNext k) % k, w.drawn + 1, by simp [Question.forced, h, Question.cut], Nat.mod_lt _ hk⟩
theorem drew_grew (w : World) (d : Nat) : Grew w { w with drawn := d } := ⟨Nat.le_refl _, fun _ _ => rfl, rfl, rfl, rfl⟩
theorem w_next (hh : HRel W w h) (hr : RegsRel W w ρ a.tmps n) {x : Operand} {l : List (PV × H)} (ho : o.op = .next x false) (hs : nextP C ρ h x = some l) : ∃ e ∈ l, Does P C W w h a o e.1 e.2 := by
  unfold nextP at hs
  split at hs
  · rename_i q hx
    have h1 := ev_rel hr hx
    simp only [Rel] at h1
    obtain ⟨hN, b, hb, hor⟩ := h1
    split at hs
    · cases hs
    rename_i hno
    have hno' : C.no q = false := by simpa using hno
    split at hs
    · rename_i hq
      injection hs with hs; subst hs
      refine ⟨_, List.mem_singleton.2 rfl, ?_⟩
      rcases hor with hd | ⟨y, hy, rfl⟩
      · rw [(hh.dead q hd).1] at hq; cases hq
      obtain ⟨z, hz, mb, hi, hmb⟩ := hh.rows q _ hq (by simp)
      rw [hy] at hz; injection hz with hz; subst hz
      simp only at hmb; subst hmb
      refine ⟨.value (.tuple #[.bool false]), _, w, W, ?_, .inl rfl, ?_, .refl hh⟩
      · simp [execOp, ho, hb, Instr.next, getObj, Sem.run, hi, Sem.run_bind, Result.andThen]
      · simp [Rel, RelL, Value.oneCell']
    · rename_i m since seen last hq
      split at hs
      · rename_i es clk hm
        dsimp only at hs
        split at hs
        · rename_i hc
          simp only [Bool.and_eq_true, Bool.or_eq_true, List.all_eq_true, Nat.blt_eq] at hc
          obtain ⟨hold, hany⟩ := hc
          rcases hor with hd | ⟨y, hy, rfl⟩
          · rw [(hh.dead q hd).1] at hq; cases hq
          obtain ⟨z, hz, mb, hi, hmb⟩ := hh.rows q _ hq (by simp)
          rw [hy] at hz; injection hz with hz; subst hz
          obtain ⟨hmN, bm, rfl, hmor⟩ := id hmb
          obtain ⟨ym, mes, hym, rfl, hmm, hlen, hrel⟩ := map_at hh hm hmor
          obtain ⟨ml⟩ := mes
          have hlen' : es.length = ml.length := by simpa using hlen
          have hrel' : ∀ (j : Nat) e, es[j]? = some e → ∃ m, ml[j]? = some m ∧ RelE W w e m := fun j e he => by simpa using hrel j e he
          have hfg : ∀ e m, RelE W w e m → bornIn seen e = !seen.contains m.born := fun e m he => by simp only [bornIn, he.2.2]
          obtain ⟨hfl, hfr⟩ := filter_rel hfg hlen' hrel'
          have hg := run_getMap (P := P) hmm
          have hg2 : (getObj y.b).run P w = .ok (.mapIter (some ym.b) since seen.toArray last) w := by simp [getObj, Sem.run, hi]
          -- the model's own candidates
          have hbad : (!seen.toArray.isEmpty && !(Array.mk ml).isEmpty && (Array.mk ml).all (·.born ≥ last)) = false := by
            rcases hany with (h1 | h1) | h1
            · have : seen = [] := List.isEmpty_iff.1 h1
              subst this; simp
            · have : es = [] := List.isEmpty_iff.1 h1
              subst this
              have : ml = [] := List.eq_nil_of_length_eq_zero hlen'.symm
              subst this; simp
            · rw [← any_rel (W := W) (w := w) (g := fun m => Nat.blt m.born last) (fun e m he => by rw [he.2.2]) hlen' hrel'] at h1
              have : (Array.mk ml).all (·.born ≥ last) = false := by
                rw [← Bool.not_eq_true]
                intro hall
                rw [List.all_toArray, List.all_eq_true] at hall
                obtain ⟨m, hm1, hm2⟩ := List.any_eq_true.1 h1
                have h3 := hall m hm1
                rw [Nat.blt_eq] at hm2
                simp at h3
                omega
              rw [this]; simp
          have hleft : (Array.mk ml).filter (fun e => !seen.toArray.contains e.born) = (ml.filter fun e => !seen.contains e.born).toArray := by simp
          have hallold : ∀ m ∈ ml.filter (fun e => !seen.contains e.born), m.born < since := fun m hm => by
            obtain ⟨j, hj, hjm⟩ := List.getElem_of_mem hm
            obtain ⟨e, he1, he2⟩ := hfr j m (by rw [List.getElem?_eq_getElem hj, hjm])
            rw [he2.2.2]
            exact hold e (List.mem_of_getElem? he1)
          have hold' : (ml.filter fun e => !seen.contains e.born).filter (fun m => decide (m.born < since)) = ml.filter fun e => !seen.contains e.born :=
            List.filter_eq_self.2 fun m hm => by simpa using hallold m hm
          have hnew' : (ml.filter fun e => !seen.contains e.born).filter (fun m => decide (m.born ≥ since)) = [] :=
            List.filter_eq_nil_iff.2 fun m hm => by have := hallold m hm; simp; omega
          generalize hL : (ml.filter fun e => !seen.contains e.born) = L at *
          generalize hE : es.filter (bornIn seen) = E at *
          cases L with
          | nil =>
            have : E = [] := List.eq_nil_of_length_eq_zero hfl
            subst this
            simp only at hs
            injection hs with hs; subst hs
            refine ⟨_, List.mem_singleton.2 rfl, .value (.tuple #[.bool false]), _, w, W, ?_, .inl rfl, ?_, .refl hh⟩
            · simp only [execOp, ho, hb, Instr.next, Sem.run_bind, hg2, Result.andThen_ok, hg, hbad, Bool.false_eq_true, if_false, hleft]
              simp [Question.forced]
            · simp [Rel, RelL, Value.oneCell']
          | cons m0 L =>
            obtain ⟨c, d, hch, hc⟩ := choose_next P w (k := (m0 :: L).length) (by simp)
            obtain ⟨e, he1, he2⟩ := hfr c _ (List.getElem?_eq_getElem hc)
            obtain ⟨mc, hmc⟩ : ∃ mc, (m0 :: L)[c] = mc := ⟨_, rfl⟩
            rw [hmc] at he2
            cases E with
            | nil => simp at he1
            | cons e0 E =>
              simp only at hs
              split at hs
              · cases hs
              injection hs with hs; subst hs
              have hw := drew_grew w d
              have hh' := hh.grew hw
              obtain ⟨hset, hgo⟩ := iter_goes (P := P) (C := C) hh' hy hq hno' hi ⟨hmN, hmor⟩ e.2.2 clk
              refine ⟨_, List.mem_map.2 ⟨e, List.mem_of_getElem? he1, rfl⟩, .value (.tuple #[.bool true, mc.key, mc.val]), _, _, W, ?_, .inl rfl, ?_, (Goes.grew hh hw).trans hh hgo⟩
              · have hsz : ((if (m0 :: L).toArray.isEmpty = true then #[none] else #[]) ++ ((m0 :: L).toArray.map some)).size = (m0 :: L).length := by simp
                simp only [execOp, ho, hb, Instr.next, Sem.run_bind, hg2, Result.andThen_ok, hg, hbad, Bool.false_eq_true, if_false, hleft, List.filter_toArray, hold', hnew', Array.append_empty, hsz, hch]
                have hget : ((if (m0 :: L).toArray.isEmpty = true then #[none] else #[]) ++ Array.map some (m0 :: L).toArray)[c]? = some (some mc) := by
                  have h0 : (m0 :: L)[c]? = some mc := by rw [List.getElem?_eq_getElem hc, hmc]
                  rw [show (m0 :: L).toArray.isEmpty = false by simp, if_neg (by simp), show (#[] : Array (Option MapEntry)) ++ Array.map some (m0 :: L).toArray = Array.map some (m0 :: L).toArray by simp, Array.getElem?_map, List.getElem?_toArray, h0]
                  rfl
                rw [hget]
                simp only [Sem.run_bind, he2.2.2, hset, Result.andThen_ok, Sem.run_pure]
              · exact tup3_rel (by simp [Rel, Value.oneCell']) ((he2.1.mono (C := C) (h := h) hw.ext).mono hgo.ext) ((he2.2.1.mono (C := C) (h := h) hw.ext).mono hgo.ext)
        · cases hs
      · cases hs
    · cases hs
  · cases hs
end
end Go.PI
namespace Go.PI
section
variable {W W' W'' : Wd} {w w' w'' : World} {P : Program} {T : Pg} {C : Cx} {ρ : Regs} {a : Act} {n : Nat} {o : Oper} {p : PV} {h h' h'' : H} {po : PO}

/-! ### rows that are written at once -/
theorem ones_rel {new : List PV} {vs : List Value} (hn : RelL W w new vs) (hone : new.all one = true) : ∀ u ∈ vs, u.oneCell' = true := by
  intro u hu
  obtain ⟨i, hi, hiu⟩ := List.getElem_of_mem hu
  have hlen := hn.length
  have hi' : i < new.length := by omega
  obtain ⟨u', hu', hrel⟩ := hn.get (List.getElem?_eq_getElem hi')
  rw [List.getElem?_eq_getElem hi] at hu'
  injection hu' with hu'
  rw [← hiu, hu']
  exact one_rel hrel (List.all_eq_true.1 hone _ (List.getElem_mem hi'))
theorem store_block (P : Program) (w : World) {b o : Nat} {e : TypeId} {cur : Array Value} {vs : List Value} (h3 : w.heap[b]? = some (.cells cur e (0, 0))) (hle : o + vs.length ≤ cur.size) (hones : ∀ u ∈ vs, u.oneCell' = true) :
    ∃ w' cur', (storeCells ⟨b, o, none⟩ vs).run P w = .ok () w' ∧ Wrote w w' b ∧ w'.heap[b]? = some (.cells cur' e (0, 0)) ∧ cur'.size = cur.size ∧ ∀ j, j < cur.size → cur'[j]? = if o ≤ j ∧ j < o + vs.length then vs[j - o]? else cur[j]? := by
  refine ⟨_, _, run_storeCells_at P b o e vs 0 cur w h3 (by omega) hones, setRow_wrote w b _, setRow_heap w _ cur _ e _ h3, ?_, fun j hj => ?_⟩
  · simp only [List.size_toArray, List.length_append, List.length_take, List.length_drop, Array.length_toList, Nat.add_zero]
    omega
  · simp only [List.getElem?_toArray, Nat.add_zero]
    split
    · rename_i hii
      rw [List.append_assoc, List.getElem?_append_right (by simp; omega), List.getElem?_append_left (by simp; omega)]
      congr 1
      simp; omega
    · rename_i hii
      by_cases hlo : j < o
      · rw [List.append_assoc, List.getElem?_append_left (by simp; omega), List.getElem?_take, if_pos (by omega), Array.getElem?_toList]
      · rw [List.getElem?_append_right (by simp; omega), List.getElem?_drop, Array.getElem?_toList]
        congr 1
        simp; omega
theorem storeCells_nil (ad : Addr) : (storeCells ad []).run P w = .ok () w := by simp [storeCells]
theorem storeAt_row {r off : Nat} {new : List PV} (hs : storeAt C h (.ptr r off) new = some h') : C.no r = false ∧ ∃ cs, h.rows[r]? = some (.cells cs) ∧ off + new.length ≤ cs.length ∧ new.all one = true ∧ h' = setRow h r (.cells (setMany cs off new)) := by
  simp only [storeAt] at hs
  split at hs
  · cases hs
  rename_i hno
  split at hs
  · rename_i cs hcs
    split at hs
    · rename_i hc
      injection hs with hs
      exact ⟨by simpa using hno, cs, hcs, hc.1, hc.2, hs.symm⟩
    · cases hs
  · cases hs
theorem row_store (hh : HRel W w h) {r off m s d : Nat} {full : Bool} {ad : Addr} {cap : Nat} (hq : Rel W w (.row r off m s full) (.slice (some ad) m cap)) {new : List PV} {vs : List Value} (hn : RelL W w new vs) (hs : storeAt C h (.ptr r (off + d)) new = some h') (hcap : new = [] ∨ 0 < cap) :
    ∃ w', (storeCells (ad.add d) vs).run P w = .ok () w' ∧ Goes C h W w h' W w' := by
  obtain ⟨_, cs, hcs, _⟩ := storeAt_row hs
  simp only [Rel] at hq
  obtain ⟨hN, ad', cap', hv, h1, h2, hor⟩ := hq
  injection hv with hv1 hv2 hv3
  injection hv1 with hv1
  subst hv1; subst hv3
  rcases hor with hd | ⟨x, hx, hx2, _⟩
  · rw [(hh.dead r hd).1] at hcs; cases hcs
  obtain ⟨ad', w', had, hrun, hgo⟩ := storeCells_goes (P := P) hh (q := .ptr r (off + d)) (v := .pointer (some ⟨x.b, x.o + (off + d), none⟩)) (by simp only [Rel]; exact ⟨hN, _, rfl, .inr ⟨x, hx, rfl⟩⟩) hn hs
  injection had with had; injection had with had; subst had
  refine ⟨w', ?_, hgo⟩
  rcases hcap with rfl | hcap
  · simp only [RelL] at hn; subst hn
    rw [storeCells_nil] at hrun ⊢
    exact hrun
  · rw [hx2 hcap, add_mk, Nat.add_assoc]
    exact hrun
theorem loadCells_rel {cs : List PV} {b o : Nat} (hr : RelAt W w cs b o) {k : Nat} (hk : k ≤ cs.length) : ∃ vs, (loadCells ⟨b, o, none⟩ k).run P w = .ok vs w ∧ RelL W w (cs.take k) vs.toList := by
  have hcell : ∀ j, j < k → ∃ v, w.cell? ⟨b, o + j, none⟩ = some v ∧ ∃ q, cs[j]? = some q ∧ Rel W w q v := fun j hj => by
    have hj' : j < cs.length := by omega
    obtain ⟨v, hv, hq⟩ := hr.get (List.getElem?_eq_getElem hj')
    exact ⟨v, hv, _, List.getElem?_eq_getElem hj', hq⟩
  let f : Nat → Value := fun j => (w.cell? ⟨b, o + j, none⟩).getD undef
  have hf : ∀ j, j < k → w.cell? ((⟨b, o, none⟩ : Addr).add j) = some (f j) := fun j hj => by
    obtain ⟨v, hv, _⟩ := hcell j hj
    rw [add_mk, hv]
    simp [f, hv]
  refine ⟨_, run_loadCells w ⟨b, o, none⟩ k f hf, RelL.of_get (by simp; omega) fun i q hq => ?_⟩
  rw [List.getElem?_take] at hq
  split at hq
  · rename_i hi
    obtain ⟨v, hv, q', hq', hrq⟩ := hcell i hi
    rw [hq] at hq'
    injection hq' with hq'; subst hq'
    exact ⟨v, by simp [hi, f, hv], hrq⟩
  · cases hq
theorem loadCells_none (ad : Addr) : (loadCells ad 0).run P w = .ok #[] w := by simp [loadCells, loadCellsFrom]
theorem firstCells_rel (hh : HRel W w h) {x : PV} {v : Value} (hx : Rel W w x v) {cs : List PV} {m : Nat} (hc : rowCells h x = some (cs, m)) {size : Nat} (hlen : cs.length = m * size) {k : Nat} (hk : k ≤ m) :
    ∃ base cap vs, v = .slice base m cap ∧ m ≤ cap ∧ (Builtin.firstCells size k v).run P w = .ok vs w ∧ RelL W w (cs.take (k * size)) vs.toList := by
  have hks : k * size ≤ m * size := Nat.mul_le_mul_right _ hk
  unfold rowCells at hc
  split at hc
  · injection hc with hc; injection hc with h1 h2; subst h1; subst h2
    simp only [Rel] at hx
    obtain ⟨rfl, _⟩ := hx
    exact ⟨none, 0, #[], rfl, Nat.le_refl _, by simp [Builtin.firstCells], by simp [RelL]⟩
  · injection hc with hc; injection hc with h1 h2; subst h1; subst h2
    simp only [Rel] at hx
    obtain ⟨ad, cap, rfl, hcap, hfull, hnn, hor⟩ := hx
    rcases hor with rfl | ⟨b, o, rfl, hi, hat⟩
    · have h1 : 0 = _ * size := hlen
      have h0 : k * size = 0 := by omega
      refine ⟨ad, cap, #[], rfl, hcap, ?_, by simp [RelL]⟩
      cases ad with
      | none => simp [Builtin.firstCells]
      | some ad => simp only [Builtin.firstCells, h0]; exact loadCells_none ad
    · obtain ⟨vs, h1, h2⟩ := loadCells_rel (P := P) hat (k := k * size) (by omega)
      exact ⟨_, cap, vs, rfl, hcap, by simpa only [Builtin.firstCells] using h1, h2.mon (Mon.of_none W w)⟩
  · rename_i r off m' s full
    split at hc
    · rename_i cells hcells
      split at hc
      · rename_i hle
        injection hc with hc; injection hc with h1 h2; subst h1; subst h2
        simp only [List.length_take, List.length_drop] at hlen
        obtain ⟨hN, ad, cap, rfl, hcap, hfull, hor⟩ := (by simpa only [Rel] using hx : r < W.N ∧ ∃ a cap, v = .slice (some a) m' cap ∧ m' ≤ cap ∧ (full = true → cap = m') ∧
      (W.dead r ∨ ∃ x, W.β r = some x ∧ (0 < cap → a = ⟨x.b, x.o + off, none⟩) ∧ x.o + off + cap * s ≤ x.sz ∧ (full = false → x.len ≤ off + cap * s)))
        rcases hor with hd | ⟨y, hy, had, _⟩
        · rw [(hh.dead r hd).1] at hcells; cases hcells
        by_cases h0 : k * size = 0
        · exact ⟨_, cap, #[], rfl, hcap, by simp only [Builtin.firstCells, h0]; exact loadCells_none ad, by rw [h0]; simp [RelL]⟩
        · have hm : 0 < m' := by
            rcases Nat.eq_zero_or_pos m' with h | h
            · subst h; simp at hks; omega
            · exact h
          have had' := had (by omega)
          subst had'
          obtain ⟨ad2, had2, hor2⟩ := mem_rel hh (p := .ptr r off) (v := .pointer (some ⟨y.b, y.o + off, none⟩)) (cs := cells.drop off) (by simp only [Rel]; exact ⟨hN, _, rfl, .inr ⟨y, hy, rfl⟩⟩) (by simp only [memAt, hcells])
          injection had2 with had2; injection had2 with had2; subst had2
          rcases hor2 with hnil | ⟨b, o, hbo, hat⟩
          · have : cells.length ≤ off := by simpa using hnil
            omega
          · injection hbo with hb ho
            subst hb; subst ho
            obtain ⟨vs, h1, h2⟩ := loadCells_rel (P := P) (hat.take (m' * s)) (k := k * size) (by simp; omega)
            exact ⟨_, cap, vs, rfl, hcap, by simpa only [Builtin.firstCells] using h1, h2⟩
      · cases hc
    · cases hc
  · cases hc
theorem w_copy (hT : TyS P T) (hh : HRel W w h) (hr : RegsRel W w ρ a.tmps n) {args : Array Operand} {argTypes : Array TypeId} (ho : o.op = .call { callee := .builtin .copy, args, argTypes })
    (hs : opW T C ρ h (.call { callee := .builtin .copy, args, argTypes }) = some (p, h')) : Does P C W w h a o p h' := by
  obtain ⟨consts, hrun⟩ := run_builtin (P := P) ho a
  simp only [opW] at hs
  split at hs <;> (try (rename_i hcontra; cases hcontra; done)) <;> (try (rename_i hcontra _; cases hcontra; done)) <;> (try (cases hs; done))
  rename_i r off m s full x _ he
  obtain ⟨u, v, hargs, h1, h2⟩ := args2 hr he
  split at hs
  · rename_i cs k e sz byt zero hrc h0
    obtain ⟨t, ht0, hok⟩ := arg0 hT h0
    have hu := hok.und_slice rfl
    split at hs
    · rename_i te hte
      split at hs
      · rename_i hc
        obtain ⟨hsz, hlen, hpos⟩ := hc
        obtain ⟨h1', hst, hs⟩ := Option.map_eq_some_iff.1 hs
        injection hs with hs1 hs2; subst hs1; subst hs2
        subst hsz
        obtain ⟨base, cap, vs, rfl, hcap, hfc, hvs⟩ := firstCells_rel (P := P) hh h2 hrc hlen (k := min k m) (Nat.min_le_left _ _)
        have h1c := h1
        simp only [Rel] at h1c
        obtain ⟨_, ad, cap2, rfl, hcap2, _, _⟩ := h1c
        have hst' : storeAt C h (.ptr r (off + 0)) (cs.take (min k m * te.sz)) = some h1' := hst
        obtain ⟨w', hrun2, hgo⟩ := row_store (P := P) hh h1 hvs hst' (by
          rcases Nat.eq_zero_or_pos cap2 with h | h
          · left; have : m = 0 := by omega
            subst this; simp
          · exact .inr h)
        have hadd : ad.add 0 = ad := rfl
        refine ⟨.value (.int .i64 ((min k m : Nat) : Int)), _, w', W, ?_, .inl rfl, by simp [Rel, Value.oneCell'], hgo⟩
        rw [hrun, hargs]
        rw [hadd] at hrun2
        have hmin : Nat.min k m = min k m := rfl
        simp [builtin, Builtin.copy_, ht0, run_underlying hu, Builtin.lenOf, (hT _ _ hte).size w, hmin, hfc, hrun2, goInt]
      · cases hs
    · cases hs
  · cases hs
theorem w_clear (hT : TyS P T) (hh : HRel W w h) (hr : RegsRel W w ρ a.tmps n) {args : Array Operand} {argTypes : Array TypeId} (ho : o.op = .call { callee := .builtin .clear, args, argTypes })
    (hs : opW T C ρ h (.call { callee := .builtin .clear, args, argTypes }) = some (p, h')) : Does P C W w h a o p h' := by
  obtain ⟨consts, hrun⟩ := run_builtin (P := P) ho a
  simp only [opW] at hs
  split at hs <;> (try (rename_i hcontra; cases hcontra; done)) <;> (try (rename_i hcontra _; cases hcontra; done)) <;> (try (cases hs; done))
  rename_i r off m s full _ he
  obtain ⟨v, hargs, h1⟩ := args1 hr he
  split at hs
  · rename_i e sz byt zero h0
    obtain ⟨t, ht0, hok⟩ := arg0 hT h0
    have hu := hok.und_slice rfl
    split at hs
    · rename_i te hte
      split at hs
      · rename_i hsz
        obtain ⟨h1', hst, hs⟩ := Option.map_eq_some_iff.1 hs
        injection hs with hs1 hs2; subst hs1; subst hs2
        subst hsz
        have hke := hT _ _ hte
        obtain ⟨z, hz, hzc, _⟩ := hke.zero w
        have hzs : z.cells.size = te.sz := by rw [← Array.length_toList, hzc, hke.zlen]
        have h1c := h1
        simp only [Rel] at h1c
        obtain ⟨_, ad, cap2, rfl, hcap2, _, _⟩ := h1c
        have hst' : storeAt C h (.ptr r (off + 0)) (repl m te.zeros) = some h1' := hst
        have hvs : RelL W w (repl m te.zeros) (Builtin.zeroCells z.cells m).toList := by
          unfold Builtin.zeroCells
          exact zeros_rel hke hzc m _ (by rw [hzs])
        obtain ⟨w', hrun2, hgo⟩ := row_store (P := P) hh h1 hvs hst' (by
          rcases Nat.eq_zero_or_pos cap2 with h | h
          · left; have : m = 0 := by omega
            subst this; simp [repl]
          · exact .inr h)
        have hadd : ad.add 0 = ad := rfl
        rw [hadd] at hrun2
        refine ⟨.value (.tuple #[]), _, w', W, ?_, .inl rfl, rel_undef, hgo⟩
        rw [hrun, hargs]
        cases m with
        | zero =>
          have : (Builtin.zeroCells z.cells 0).toList = [] := by simp [Builtin.zeroCells]
          rw [this, storeCells_nil] at hrun2
          injection hrun2 with _ hrun2
          subst hrun2
          simp [builtin, Builtin.clear_, ht0, run_underlying hu]
        | succ m => simp [builtin, Builtin.clear_, ht0, run_underlying hu, hz, hrun2]
      · cases hs
    · cases hs
  · cases hs
theorem w_delete (hT : TyS P T) (hh : HRel W w h) (hr : RegsRel W w ρ a.tmps n) {args : Array Operand} {argTypes : Array TypeId} (ho : o.op = .call { callee := .builtin .delete, args, argTypes })
    (hs : opW T C ρ h (.call { callee := .builtin .delete, args, argTypes }) = some (p, h')) : Does P C W w h a o p h' := by
  obtain ⟨consts, hrun⟩ := run_builtin (P := P) ho a
  simp only [opW] at hs
  split at hs <;> (try (rename_i hcontra; cases hcontra; done)) <;> (try (rename_i hcontra _; cases hcontra; done)) <;> (try (cases hs; done))
  · rename_i ik iv _ he
    obtain ⟨u, v, hargs, h1, h2⟩ := args2 hr he
    simp only [Rel] at h1 h2
    obtain ⟨rfl, _⟩ := h1
    obtain ⟨rfl, _⟩ := h2
    split at hs
    · rename_i kt e sz byt zero h0
      obtain ⟨t, ht0, hok⟩ := arg0 hT h0
      have hu := hok.und_map rfl
      split at hs
      · rename_i k sz' byt' zero' hkt
        have huk := (hT _ _ hkt).und_int rfl
        injection hs with hs; injection hs with hs1 hs2; subst hs1; subst hs2
        have hck : ∀ b, (Instr.checkKey b 10000 kt (.int ik iv)).run P w = .ok () w := fun b => checkKey_int huk b 9999 ik iv
        refine ⟨.value (.tuple #[]), _, w, W, ?_, .inl rfl, rel_undef, .refl hh⟩
        rw [hrun, hargs]
        simp [builtin, Builtin.delete_, ht0, run_underlying hu, hck]
      · cases hs
    · cases hs
  · rename_i r kk key _ he
    obtain ⟨u, v, hargs, h1, h2⟩ := args2 hr he
    simp only [Rel] at h1 h2
    obtain ⟨hN, b, rfl, hor⟩ := h1
    obtain ⟨rfl, _⟩ := h2
    split at hs
    · rename_i kt e sz byt zero h0
      obtain ⟨t, ht0, hok⟩ := arg0 hT h0
      have hu := hok.und_map rfl
      split at hs
      · rename_i k sz' byt' zero' hkt
        have huk := (hT _ _ hkt).und_int rfl
        have hck : ∀ b, (Instr.checkKey b 10000 kt (.int kk key)).run P w = .ok () w := fun b => checkKey_int huk b 9999 kk key
        split at hs
        · cases hs
        rename_i hno
        have hno' : C.no r = false := by simpa using hno
        split at hs
        · rename_i es clk hrow
          obtain ⟨y, mes, hy, rfl, hmm, hlen, hrel⟩ := map_at hh hrow hor
          have hg := run_getMap (P := P) hmm
          split at hs
          · rename_i j v' b' hfe
            injection hs with hs; injection hs with hs1 hs2; subst hs1; subst hs2
            obtain ⟨r', hf1, u, rfl, hru, _⟩ := findNow_rel (k := k) (mes := mes.toList) (by rw [Array.length_toList]; exact hlen) (fun j e he => by simpa using hrel j e he) hfe
            have hf := run_findKey (w := w) huk hf1
            obtain ⟨_, hj⟩ := findE_key hfe
            simp only [Nat.sub_zero] at hj
            have hjl : j < es.length := (List.getElem?_eq_some_iff.1 hj).1
            obtain ⟨hset, hgo⟩ := map_goes (P := P) (C := C) hh hy hrow hmm hno' (clk' := clk) (es' := es.eraseIdx j) (mes' := mes.eraseIdxIfInBounds j) (by
                rw [List.length_eraseIdx_of_lt hjl, Array.eraseIdxIfInBounds, dif_pos (by omega), Array.size_eraseIdx]; omega) (fun i e he => by
                rw [List.getElem?_eraseIdx] at he
                rw [Array.eraseIdxIfInBounds, dif_pos (by omega), Array.getElem?_eraseIdx]
                split at he
                · rename_i hij; rw [if_pos hij]; exact hrel _ _ he
                · rename_i hij; rw [if_neg hij]; exact hrel _ _ he)
            refine ⟨.value (.tuple #[]), _, _, W, ?_, .inl rfl, rel_undef, hgo⟩
            rw [hrun, hargs]
            simp [builtin, Builtin.delete_, ht0, run_underlying hu, hg, hck, hf, hset]
          · rename_i hfe
            injection hs with hs; injection hs with hs1 hs2; subst hs1; subst hs2
            obtain ⟨r', hf1, rfl⟩ := findNow_rel (k := k) (mes := mes.toList) (by rw [Array.length_toList]; exact hlen) (fun j e he => by simpa using hrel j e he) hfe
            have hf := run_findKey (w := w) huk hf1
            have hset : (setObj y.b (.map mes clk)).run P w = .ok () { w with heap := w.heap.setIfInBounds y.b (.map mes clk) } := by simp [setObj, Sem.run, hmm]
            have hsame : w.heap.setIfInBounds y.b (.map mes clk) = w.heap := by
              apply Array.ext_getElem?
              intro i
              rw [Array.getElem?_setIfInBounds]
              split
              · rename_i hi; subst hi; rw [if_pos (Array.getElem?_eq_some_iff.1 hmm).1, hmm]
              · rfl
            rw [hsame] at hset
            refine ⟨.value (.tuple #[]), _, _, W, ?_, .inl rfl, rel_undef, .refl hh⟩
            rw [hrun, hargs]
            simp [builtin, Builtin.delete_, ht0, run_underlying hu, hg, hck, hf, hset]
          · cases hs
        · cases hs
      · cases hs
    · cases hs
end
end Go.PI
namespace Go.PI
section
variable {W W' W'' : Wd} {w w' w'' : World} {P : Program} {T : Pg} {C : Cx} {ρ : Regs} {a : Act} {n : Nat} {o : Oper} {p : PV} {h h' h'' : H} {po : PO}

/-! ### append -/
def Wd.kill (W : Wd) (r : Nat) : Wd := ⟨fun q => if q = r then Option.none else W.β q, W.N, fun q => q = r ∨ W.dead q, W.off⟩
theorem Goes.kill (hh : HRel W w h) {r : Nat} (hr : r < W.N) (ha : alive h r) (hno : C.no r = false) : Goes C h W w (setRow h r .dead) (W.kill r) w where
  ext :=
    { size := Nat.le_refl _
      same := fun _ _ _ => rfl
      n := Nat.le_refl _
      up := fun q _ x hx => by
        by_cases he : q = r
        · exact .inr (.inl he)
        · exact .inl (by simp only [Wd.kill, if_neg he]; exact hx)
      down := fun q _ x hx => by
        simp only [Wd.kill] at hx
        split at hx
        · cases hx
        · exact hx
      dead := fun q hd => .inr hd
      off := fun _ => Iff.rfl
      new := fun q x hx => by
        simp only [Wd.kill] at hx
        split at hx
        · cases hx
        · exact .inr ⟨q, x, hx, rfl, .inl rfl⟩
      os := rfl
      tape := rfl
      output := rfl }
  rel :=
    have hlt : r < h.rows.length := by rw [hh.n]; exact hr
    { n := by simp [PI.setRow, hh.n, Wd.kill]
      rows := fun q po h1 h2 => by
        have he : q ≠ r := by
          rintro rfl
          simp [PI.setRow, hlt] at h1
          exact h2 h1.symm
        have h3 : h.rows[q]? = some po := by simpa [PI.setRow, List.getElem?_set_ne (Ne.symm he)] using h1
        obtain ⟨x, hx, hp⟩ := hh.rows q po h3 h2
        refine ⟨x, by simp only [Wd.kill, if_neg he]; exact hx, hp.mono (C := C) (h := h) ?_ rfl⟩
        exact
          { size := Nat.le_refl _
            same := fun _ _ _ => rfl
            n := Nat.le_refl _
            up := fun q _ x hx => by
              by_cases he : q = r
              · exact .inr (.inl he)
              · exact .inl (by simp only [Wd.kill, if_neg he]; exact hx)
            down := fun q _ x hx => by
              simp only [Wd.kill] at hx
              split at hx
              · cases hx
              · exact hx
            dead := fun q hd => .inr hd
            off := fun _ => Iff.rfl
            new := fun q x hx => by
              simp only [Wd.kill] at hx
              split at hx
              · cases hx
              · exact .inr ⟨q, x, hx, rfl, .inl rfl⟩
            os := rfl
            tape := rfl
            output := rfl }
      lt := fun q x hx => by
        simp only [Wd.kill] at hx ⊢
        split at hx
        · cases hx
        · exact hh.lt q x hx
      inj := fun q q' x x' hx hx' => by
        simp only [Wd.kill] at hx hx'
        split at hx
        · cases hx
        split at hx'
        · cases hx'
        exact hh.inj q q' x x' hx hx'
      dead := fun q hd => by
        by_cases he : q = r
        · subst he
          exact ⟨by simp [PI.setRow, hlt], by simp [Wd.kill]⟩
        · rcases hd with hd | hd
          · exact absurd hd he
          · obtain ⟨h1, h2⟩ := hh.dead q hd
            exact ⟨by simpa [PI.setRow, List.getElem?_set_ne (Ne.symm he)] using h1, by simp [Wd.kill, h2]⟩
      offlt := hh.offlt
      offno := fun q x hx => by
        simp only [Wd.kill] at hx
        split at hx
        · cases hx
        · exact hh.offno q x hx }
  live q hq hal := by
    obtain ⟨po, h1, h2⟩ := hal
    by_cases he : q = r
    · exact he ▸ ha
    · exact ⟨po, by simpa [PI.setRow, List.getElem?_set_ne (Ne.symm he)] using h1, h2⟩
  kept q _ hno' := by
    have he : q ≠ r := by rintro rfl; rw [hno] at hno'; cases hno'
    exact ⟨by simp [PI.setRow, List.getElem?_set_ne (Ne.symm he)], fun h => h.resolve_left he⟩

/-- A row's block goes over to a new row. -/
def Wd.adopt (W : Wd) (r : Nat) (x : Loc) : Wd := ⟨fun q => if q = W.N then some x else if q = r then Option.none else W.β q, W.N + 1, fun q => q = r ∨ W.dead q, W.off⟩
theorem Goes.adopt (hh : HRel W w h) {r : Nat} {x y : Loc} (hx : W.β r = some x) (ha : alive h r) (hno : C.no r = false) (g : Wrote w w' x.b) (hy : y.b = x.b)
    (hp : Ext C h W w (W.adopt r y) w' → PORel (W.adopt r y) w' po y) : Goes C h W w (setRow (newObj h po) r .dead) (W.adopt r y) w' := by
  have hrN : r < W.N := (hh.lt r x hx).1
  have hlt : r < h.rows.length := by rw [hh.n]; exact hrN
  have hne : ∀ q, q ≠ W.N → q ≠ r → (W.adopt r y).β q = W.β q := fun q h1 h2 => by simp [Wd.adopt, h1, h2]
  have hβ : ∀ q z, (W.adopt r y).β q = some z → q = W.N ∧ z = y ∨ q ≠ W.N ∧ q ≠ r ∧ W.β q = some z := fun q z hz => by
    simp only [Wd.adopt] at hz
    split at hz
    · injection hz with hz; exact .inl ⟨‹_›, hz.symm⟩
    · split at hz
      · cases hz
      · exact .inr ⟨‹_›, ‹_›, hz⟩
  have hext : Ext C h W w (W.adopt r y) w' :=
    { size := Nat.le_of_eq g.size.symm
      same := fun b _ hA => g.same b (fun hb => hA r x hx ha hno hb.symm)
      n := Nat.le_succ _
      up := fun q hq z hz => by
        by_cases he : q = r
        · exact .inr (.inl he)
        · exact .inl (by rw [hne q (by omega) he]; exact hz)
      down := fun q hq z hz => by
        rcases hβ q z hz with ⟨h1, _⟩ | ⟨_, _, h3⟩
        · omega
        · exact h3
      dead := fun q hd => .inr hd
      off := fun _ => Iff.rfl
      new := fun q z hz => by
        rcases hβ q z hz with ⟨_, rfl⟩ | ⟨_, _, h3⟩
        · exact .inr ⟨r, x, hx, hy.symm, .inr ⟨ha, hno⟩⟩
        · exact .inr ⟨q, z, h3, rfl, .inl rfl⟩
      os := g.os
      tape := g.tape
      output := g.output }
  have hrow : ∀ q, q ≠ r → q ≠ W.N → (setRow (newObj h po) r .dead).rows[q]? = h.rows[q]? := fun q h1 h2 => by
    simp only [PI.setRow, newObj]
    rw [List.getElem?_set_ne (Ne.symm h1)]
    rcases Nat.lt_or_ge q h.rows.length with h3 | h3
    · rw [List.getElem?_append_left h3]
    · rw [List.getElem?_append_right h3, List.getElem?_eq_none h3, List.getElem?_eq_none]
      have := hh.n
      simp; omega
  refine ⟨hext, ⟨?_, fun q po' h1 h2 => ?_, fun q z hz => ?_, fun q q' z z' hz hz' hb => ?_, fun q hd => ?_, fun b hb => by rw [g.size]; exact hh.offlt b hb, fun q z hz hb => ?_⟩, fun q hq hal => ?_, fun q hq hno' => ?_⟩
  · simp [PI.setRow, newObj, hh.n, Wd.adopt]
  · have he : q ≠ r := by
      rintro rfl
      rw [show (setRow (newObj h po) q .dead).rows[q]? = some .dead by simp only [PI.setRow, newObj]; rw [List.getElem?_set_self]; simp; omega] at h1
      injection h1 with h1; exact h2 h1.symm
    by_cases hq : q = W.N
    · refine ⟨y, by simp [Wd.adopt, hq], ?_⟩
      have : po' = po := by
        have h3 := h1
        simp only [PI.setRow, newObj] at h3
        rw [List.getElem?_set_ne (Ne.symm he), hq, ← hh.n, List.getElem?_concat_length] at h3
        injection h3 with h3; exact h3.symm
      exact this ▸ hp hext
    · rw [hrow q he hq] at h1
      obtain ⟨z, hz, hpz⟩ := hh.rows q po' h1 h2
      exact ⟨z, by rw [hne q hq he]; exact hz, hpz.mono hext (g.same _ (fun hb => he (hh.inj q r z x hz hx hb)))⟩
  · rcases hβ q z hz with ⟨rfl, rfl⟩ | ⟨_, _, h3⟩
    · exact ⟨Nat.lt_succ_self _, by rw [hy, g.size]; exact (hh.lt r x hx).2⟩
    · exact ⟨Nat.lt_succ_of_lt (hh.lt q z h3).1, by rw [g.size]; exact (hh.lt q z h3).2⟩
  · rcases hβ q z hz with ⟨h1, rfl⟩ | ⟨h1, h2, h3⟩ <;> rcases hβ q' z' hz' with ⟨h4, rfl⟩ | ⟨h4, h5, h6⟩
    · omega
    · exact absurd (hh.inj q' r z' x h6 hx (by rw [← hb, hy])) h5
    · exact absurd (hh.inj q r z x h3 hx (by rw [hb, hy])) h2
    · exact hh.inj q q' z z' h3 h6 hb
  · by_cases he : q = r
    · subst he
      exact ⟨by simp only [PI.setRow, newObj]; rw [List.getElem?_set_self]; simp; omega, by simp [Wd.adopt, Nat.ne_of_lt hrN]⟩
    · rcases hd with hd | hd
      · exact absurd hd he
      · obtain ⟨h1, h2⟩ := hh.dead q hd
        have hqN : q ≠ W.N := by
          have := (List.getElem?_eq_some_iff.1 h1).1
          have := hh.n
          omega
        exact ⟨by rw [hrow q he hqN]; exact h1, by rw [hne q hqN he]; exact h2⟩
  · rcases hβ q z hz with ⟨_, rfl⟩ | ⟨_, _, h3⟩
    · rw [hy] at hb; exact hh.offno r x hx hb
    · exact hh.offno q z h3 hb
  · obtain ⟨po', h1, h2⟩ := hal
    by_cases he : q = r
    · exact he ▸ ha
    · exact ⟨po', by rw [hrow q he (by omega)] at h1; exact h1, h2⟩
  · have he : q ≠ r := by rintro rfl; rw [hno] at hno'; cases hno'
    exact ⟨hrow q he (by omega), fun h => h.resolve_left he⟩
end
end Go.PI
namespace Go.PI
section
variable {W W' W'' : Wd} {w w' w'' : World} {P : Program} {T : Pg} {C : Cx} {ρ : Regs} {a : Act} {n : Nat} {o : Oper} {p : PV} {h h' h'' : H} {po : PO}

theorem growBy_le (m : Nat) : ∀ (r c : Nat), c ≤ 2 * m + 1000 → Builtin.growBy m r c ≤ 2 * m + 1000
  | 0, c, h => by simpa [Builtin.growBy] using h
  | r + 1, c, h => by
    simp only [Builtin.growBy]
    split
    · exact h
    · exact growBy_le m r _ (by omega)
theorem cap_le {need cap : Nat} (h : cap < need) : Builtin.nextslicecap need cap ≤ 2 * need + 1000 := by
  unfold Builtin.nextslicecap
  split
  · omega
  · split
    · omega
    · exact growBy_le _ _ _ (by omega)
/-- What stands ahead of both branches. -/
structure AppArgs (P : Program) (T : Pg) (argTypes : Array TypeId) (e : TypeId) (te : TI) : Prop where
  t0 : ∃ t, argTypes[0]? = some t ∧ P.underlying t = some (.slice e)
  t1 : ∃ t e', argTypes[1]? = some t ∧ P.underlying t = some (.slice e')
  te : TyOk P e te
theorem append_room {argTypes : Array TypeId} {e : TypeId} {te : TI} (hA : AppArgs P T argTypes e te) {base xb : Option Addr} {k cap m xcap : Nat} {vs : Array Value} (hroom : k + m ≤ cap)
    (hfc : (Builtin.firstCells te.sz m (.slice xb m xcap)).run P w = .ok vs w) (hst : ∀ ad, base = some ad → (storeCells (ad.add (k * te.sz)) vs.toList).run P w = .ok () w') (hb : base = none → w' = w) (ty : TypeId) :
    (Builtin.append_ argTypes ty #[.slice base k cap, .slice xb m xcap]).run P w = .ok (.slice base (k + m) cap) w' := by
  obtain ⟨t, ht, hu⟩ := hA.t0
  obtain ⟨t1, e1, ht1, hu1⟩ := hA.t1
  cases base with
  | none =>
    have := hb rfl
    subst this
    simp [Builtin.append_, ht, ht1, run_underlying hu, run_underlying hu1, hA.te.size w', Builtin.lenOf, hroom, hfc]
  | some ad =>
    simp [Builtin.append_, ht, ht1, run_underlying hu, run_underlying hu1, hA.te.size w, Builtin.lenOf, hroom, hfc, hst ad rfl]
theorem append_new {argTypes : Array TypeId} {e : TypeId} {te : TI} (hA : AppArgs P T argTypes e te) (hh : HRel W w h) {s x : PV} {vs vx : Value} (hs : Rel W w s vs) (hx : Rel W w x vx) {old new : List PV} {k m cap : Nat} {base : Option Addr}
    (hso : rowCells h s = some (old, k)) (hxo : rowCells h x = some (new, m)) (hvs : vs = .slice base k cap) (h1 : old.length = k * te.sz) (h2 : new.length = m * te.sz) (h3 : k + m ≤ maxLen) (h4 : te.byt ≤ maxByt) (h5 : 0 < te.byt) (hneed : ¬ k + m ≤ cap) (ty : TypeId) :
    ∃ v w' W', (Builtin.append_ argTypes ty #[vs, vx]).run P w = .ok v w' ∧ Rel W' w' (.row h.rows.length 0 (k + m) te.sz false) v ∧ Goes C h W w (newObj h (.cells (old ++ new))) W' w' ∧ W'.N = W.N + 1 := by
  obtain ⟨t, ht, hu⟩ := hA.t0
  obtain ⟨t1, e1, ht1, hu1⟩ := hA.t1
  obtain ⟨ie, hie, hse, hbe, z, hz, hzc, _⟩ := hA.te.info
  have hzs : z.cells.size = te.sz := by rw [← Array.length_toList, hzc, hA.te.zlen]
  simp only [maxLen, maxByt] at h3 h4
  let w1 : World := { w with drawn := w.drawn + 1 }
  have hw := drew_grew w (w.drawn + 1)
  have hh1 : HRel W w1 h := hh.grew hw
  have hs1 : Rel W w1 s vs := hs.mono (C := C) (h := h) hw.ext
  have hx1 : Rel W w1 x vx := hx.mono (C := C) (h := h) hw.ext
  obtain ⟨base', cap', ov, hv1, _, hfo, hro⟩ := firstCells_rel (P := P) hh1 hs1 hso h1 (k := k) (Nat.le_refl _)
  obtain ⟨xb, xcap, nv, rfl, _, hfn, hrn⟩ := firstCells_rel (P := P) hh1 hx1 hxo h2 (k := m) (Nat.le_refl _)
  rw [hvs] at hv1
  injection hv1 with hv1 _ hv3
  subst hv1; subst hv3; subst hvs
  let q : Question := .appendCap (k + m) cap e
  let nc : Nat := q.cut (w.tape w.drawn q)
  have hnc : k + m ≤ nc := by simp only [nc, q, Question.cut]; omega
  have hrest : (Builtin.zeroCells z.cells (nc - (k + m))).size = (nc - (k + m)) * te.sz := by simp [Builtin.zeroCells, hzs]
  have hro' : RelL W w1 old ov.toList := by rw [List.take_of_length_le (by omega)] at hro; exact hro
  have hrn' : RelL W w1 new nv.toList := by rw [List.take_of_length_le (by omega)] at hrn; exact hrn
  have hol := hro'.length
  have hnl := hrn'.length
  simp only [Array.length_toList] at hol hnl
  let cells : Array Value := ov ++ nv ++ Builtin.zeroCells z.cells (nc - (k + m))
  have hsz : cells.size = nc * te.sz := by
    simp only [cells, Array.size_append, hrest, ← hol, ← hnl, h1, h2]
    rw [← Nat.add_mul, ← Nat.add_mul]; congr 1; omega
  have hlen : (old ++ new).length = (k + m) * te.sz := by rw [List.length_append, h1, h2, Nat.add_mul]
  have hle : (k + m) * te.sz ≤ nc * te.sz := Nat.mul_le_mul_right _ hnc
  let x0 : Loc := ⟨w1.heap.size, 0, (old ++ new).length, nc * te.sz⟩
  have hrow : Rel (W.push x0) { w1 with heap := w1.heap.push (.cells cells e) } (.row W.N 0 (k + m) te.sz false) (.slice (some ⟨w1.heap.size, 0, none⟩) (k + m) nc) :=
    row_new (cs := old ++ new) (sz := nc * te.sz) (Nat.lt_succ_self _) (by simp [Wd.push, x0]) hnc (by simp) (Nat.le_refl _) (fun _ => by omega)
  have hext : Ext C h W w1 (W.push x0) { w1 with heap := w1.heap.push (.cells cells e) } := Wd.push_ext (Grew.push w1 _) (Nat.le_refl _)
  have hpo : PORel (W.push x0) { w1 with heap := w1.heap.push (.cells cells e) } (.cells (old ++ new)) x0 := by
    refine ⟨rfl, by simp only [x0, Nat.zero_add]; omega, cells, e, by simp [x0], hsz, fun i c hc => ?_⟩
    have hci : cells[i]? = (ov.toList ++ nv.toList)[i]? ∨ (old ++ new).length ≤ i := by
      rcases Nat.lt_or_ge i (old ++ new).length with hi | hi
      · left
        rw [List.length_append] at hi
        simp only [cells]
        rw [Array.getElem?_append_left (by simp; omega), ← Array.toList_append, Array.getElem?_toList]
      · exact .inr hi
    rcases hci with hci | hci
    · simp only [x0, Nat.zero_add]
      rw [hci]
      rw [List.getElem?_append] at hc ⊢
      simp only [Array.length_toList, ← hol]
      split at hc
      · rename_i hi
        obtain ⟨u, h1, h2⟩ := hro'.get hc
        exact ⟨u, by rw [if_pos hi]; exact h1, h2.mono hext⟩
      · rename_i hi
        obtain ⟨u, h1, h2⟩ := hrn'.get hc
        exact ⟨u, by rw [if_neg hi]; exact h1, h2.mono hext⟩
    · rw [List.getElem?_eq_none hci] at hc; cases hc
  refine ⟨_, { w1 with heap := w1.heap.push (.cells cells e) }, W.push x0, ?_, by rw [hh.n]; exact hrow, (Goes.grew hh hw).trans hh (Goes.push hh1 (Grew.push w1 _) (Nat.le_refl _) (by simp [x0]) hpo), rfl⟩
  have hmul : Builtin.nextslicecap (k + m) cap * ie.bytes ≤ (2 * (k + m) + 1000) * 8192 := Nat.mul_le_mul (cap_le (by omega)) (by omega)
  have hbig : ¬ (281474976710656 < Builtin.nextslicecap (k + m) cap * ie.bytes) := by omega
  have hb0 : ¬ ie.bytes = 0 := by omega
  have hch : (choose (.appendCap (k + m) cap e)).run P w = .ok nc w1 := by rw [run_choose]; simp [Question.forced, nc, q, w1]
  have hzw : (zeroValue e).run P w1 = .ok z w1 := by simp [zeroValue, typeInfo, hie, hz]
  simp [-run_choose_drew, -run_choose, Builtin.append_, ht, ht1, run_underlying hu, run_underlying hu1, hA.te.size w, Builtin.lenOf, hneed, typeInfo, hie, hb0, hbig, hch, hfo, hfn, hzw, newRow]
  rw [← Array.append_assoc]
theorem rowCells_fits {s : PV} {old : List PV} {k : Nat} (hso : rowCells h s = some (old, k)) : (∃ cs full nn, s = .sl cs k full nn) ∨ (∃ r off z full, s = .row r off k z full) ∨ s = .lit (.slice none 0 0) ∧ k = 0 := by
  unfold rowCells at hso
  split at hso
  · injection hso with hso; injection hso with h1 h2; exact .inr (.inr ⟨rfl, h2.symm⟩)
  · injection hso with hso; injection hso with h1 h2; subst h2; exact .inl ⟨_, _, _, rfl⟩
  · split at hso
    · split at hso
      · injection hso with hso; injection hso with h1 h2; subst h2; exact .inr (.inl ⟨_, _, _, _, rfl⟩)
      · cases hso
    · cases hso
  · cases hso
theorem append_rel {argTypes : Array TypeId} {e : TypeId} {te : TI} (hA : AppArgs P T argTypes e te) (hh : HRel W w h) {s x : PV} {vs vx : Value} (hs : Rel W w s vs) (hx : Rel W w x vx) (hap : appendP C h te s x = some (p, h')) (ty : TypeId) :
    ∃ v w' W', (Builtin.append_ argTypes ty #[vs, vx]).run P w = .ok v w' ∧ Rel W' w' p v ∧ Goes C h W w h' W' w' := by
  unfold appendP at hap
  split at hap
  · rename_i old k new m hso hxo
    split at hap
    · rename_i hc
      obtain ⟨h1, h2, h3, h4, h5, h6, h7⟩ := hc
      obtain ⟨base, cap, ov, rfl, hcap, hfo, hro⟩ := firstCells_rel (P := P) hh hs hso h1 (k := k) (Nat.le_refl _)
      obtain ⟨xb, xcap, nv, rfl, hxcap, hfn, hrn⟩ := firstCells_rel (P := P) hh hx hxo h2 (k := m) (Nat.le_refl _)
      rw [List.take_of_length_le (by omega)] at hro hrn
      split at hap
      · -- nothing is added
        rename_i hm
        subst hm
        injection hap with hap; injection hap with hp1 hp2; subst hp1; subst hp2
        have hnv : nv.toList = [] := by
          have hl := hrn.length
          rw [h2, Nat.zero_mul] at hl
          exact List.eq_nil_of_length_eq_zero hl.symm
        refine ⟨_, w, W, append_room hA (by simpa using hcap) hfn (fun ad _ => by rw [hnv]; exact storeCells_nil _) (fun _ => rfl) ty, hs, .refl hh⟩
      · rename_i hm
        rcases rowCells_fits hso with ⟨cs, full, nn, rfl⟩ | ⟨r, off, z, full, rfl⟩ | ⟨rfl, rfl⟩
        · -- a row that is never written again
          simp only at hap
          split at hap
          · rename_i hf
            injection hap with hap; injection hap with hp1 hp2; subst hp1; subst hp2
            have hs' := hs
            simp only [Rel] at hs'
            obtain ⟨ad, cap', hv, _, hfull, _⟩ := hs'
            injection hv with _ _ hv3
            have := hfull hf
            obtain ⟨v, w', W', g1, g2, g3, _⟩ := append_new (C := C) hA hh hs hx hso hxo rfl h1 h2 h3 h4 h5 (by omega) ty
            exact ⟨v, w', W', g1, g2, g3⟩
          · cases hap
        · simp only at hap
          have hs' := hs
          simp only [Rel] at hs'
          obtain ⟨hrN, ad, cap', hv, _, hfull, hor⟩ := hs'
          injection hv with hv1 _ hv3
          subst hv1; subst hv3
          split at hap
          · rename_i hz
            subst hz
            split at hap
            · rename_i hf
              injection hap with hap; injection hap with hp1 hp2; subst hp1; subst hp2
              have := hfull hf
              obtain ⟨v, w', W', g1, g2, g3, _⟩ := append_new (C := C) hA hh hs hx hso hxo rfl h1 h2 h3 h4 h5 (by omega) ty
              exact ⟨v, w', W', g1, g2, g3⟩
            · rename_i hf
              have hf' : full = false := by simpa using hf
              split at hap
              · cases hap
              rename_i hno
              have hno' : C.no r = false := by simpa using hno
              split at hap
              · rename_i cs hcs
                rcases hor with hd | ⟨y, hy, hy2, hy3, hy4⟩
                · rw [(hh.dead r hd).1] at hcs; cases hcs
                have hal : alive h r := ⟨_, hcs, by simp⟩
                obtain ⟨y', hy', hpo⟩ := hh.rows r _ hcs (by simp)
                rw [hy] at hy'; injection hy' with hy'; subst hy'
                obtain ⟨q1, q2, cur, ct, q3, q4, q5⟩ := hpo
                have hlen := hy4 hf'
                have hlnv : nv.toList.length = m * te.sz := by rw [← hrn.length, h2]
                have hones := ones_rel hrn h7
                split at hap
                · -- in its place
                  rename_i hle
                  injection hap with hap; injection hap with hp1 hp2; subst hp1; subst hp2
                  have hroom : k + m ≤ cap := by
                    have h8 : (k + m) * te.sz ≤ cap * te.sz := by omega
                    exact Nat.le_of_mul_le_mul_right h8 h6
                  have hst : storeAt C h (.ptr r (off + k * te.sz)) new = some (setRow h r (.cells (setMany cs (off + k * te.sz) new))) := by
                    have h9 : off + k * te.sz + m * te.sz ≤ cs.length := by rw [Nat.add_assoc, ← Nat.add_mul]; exact hle
                    simp only [storeAt]
                    rw [if_neg hno, hcs]
                    simp only
                    rw [if_pos ⟨by rw [h2]; exact h9, h7⟩]
                  obtain ⟨w', hrun, hgo⟩ := row_store (P := P) hh hs hrn hst (.inr (by omega))
                  refine ⟨_, w', W, append_room hA hroom hfn (fun ad' had => by injection had with had; subst had; exact hrun) (fun hb => by cases hb) ty, ?_, hgo⟩
                  simp only [Rel]
                  refine ⟨hrN, ad, cap, rfl, hroom, by simp, .inr ⟨y, hy, hy2, hy3, fun _ => hlen⟩⟩
                · -- in its place or not: it cannot be told
                  rename_i hle
                  injection hap with hap; injection hap with hp1 hp2; subst hp1; subst hp2
                  by_cases hroom : k + m ≤ cap
                  · have had := hy2 (by omega)
                    subst had
                    have hmle : (k + m) * te.sz ≤ cap * te.sz := Nat.mul_le_mul_right _ hroom
                    rw [Nat.add_mul] at hmle
                    obtain ⟨w', cur', hrun, hwr, hhe, hcs', hget⟩ := store_block P w (o := y.o + off + k * te.sz) q3 (vs := nv.toList) (by rw [hlnv]; omega) hones
                    have hadd : (⟨y.b, y.o + off, none⟩ : Addr).add (k * te.sz) = ⟨y.b, y.o + off + k * te.sz, none⟩ := add_mk _ _ _
                    let y1 : Loc := ⟨y.b, y.o + off, (old ++ new).length, y.sz⟩
                    have hol : (old ++ new).length = k * te.sz + m * te.sz := by rw [List.length_append, h1, h2]
                    have hg := Goes.adopt (C := C) (w' := w') (y := y1) (po := .cells (old ++ new)) hh hy hal hno' hwr rfl (fun hext => by
                      refine ⟨rfl, by simp only [y1]; omega, cur', ct, hhe, by rw [hcs']; exact q4, fun i c hc => ?_⟩
                      have hil : i < (old ++ new).length := (List.getElem?_eq_some_iff.1 hc).1
                      rw [hget _ (by simp only [y1]; omega)]
                      simp only [y1]
                      rw [List.getElem?_append] at hc
                      split at hc
                      · rename_i hi
                        rw [if_neg (by omega)]
                        -- what stood there
                        unfold rowCells at hso
                        simp only [hcs] at hso
                        split at hso
                        · injection hso with hso; injection hso with hso _
                          subst hso
                          rw [List.getElem?_take, if_pos (by omega), List.getElem?_drop] at hc
                          obtain ⟨u, hu1, hu2⟩ := q5 _ _ hc
                          exact ⟨u, by rw [← hu1]; congr 1; omega, hu2.mono hext⟩
                        · cases hso
                      · rename_i hi
                        rw [if_pos (by omega)]
                        obtain ⟨u, hu1, hu2⟩ := hrn.get hc
                        exact ⟨u, by rw [← hu1]; congr 1; omega, hu2.mono hext⟩)
                    refine ⟨_, w', _, append_room hA hroom hfn (fun ad' had => by injection had with had; subst had; rw [hadd]; exact hrun) (fun hb => by cases hb) ty, ?_, hg⟩
                    simp only [Rel]
                    refine ⟨by simp only [Wd.adopt, hh.n]; omega, _, cap, rfl, hroom, by simp, .inr ⟨y1, by simp [Wd.adopt, hh.n], fun _ => rfl, by simp only [y1, Nat.add_zero]; omega, fun _ => by simp only [y1]; rw [hol]; omega⟩⟩
                  · obtain ⟨v, w', W', g1, g2, g3, g4⟩ := append_new (C := C) hA hh hs hx hso hxo rfl h1 h2 h3 h4 h5 hroom ty
                    have hrl : r < h.rows.length := by rw [hh.n]; exact hrN
                    have hal' : alive (newObj h (.cells (old ++ new))) r := ⟨.cells cs, by simp only [newObj]; rw [List.getElem?_append_left hrl]; exact hcs, by simp⟩
                    have hk := Goes.kill (C := C) g3.rel (r := r) (by omega) hal' hno'
                    exact ⟨v, w', W'.kill r, g1, g2.mono hk.ext, g3.trans hh hk⟩
              · cases hap
          · cases hap
        · simp only at hap
          injection hap with hap; injection hap with hp1 hp2; subst hp1; subst hp2
          have hs' := hs
          simp only [Rel] at hs'
          obtain ⟨hv, _⟩ := hs'
          injection hv with _ _ hv3
          obtain ⟨v, w', W', g1, g2, g3, _⟩ := append_new (C := C) hA hh hs hx hso hxo rfl h1 h2 h3 h4 h5 (by omega) ty
          exact ⟨v, w', W', g1, g2, g3⟩
    · cases hap
  · cases hap
theorem w_append (hT : TyS P T) (hh : HRel W w h) (hr : RegsRel W w ρ a.tmps n) {args : Array Operand} {argTypes : Array TypeId} (ho : o.op = .call { callee := .builtin .append, args, argTypes })
    (hs : opW T C ρ h (.call { callee := .builtin .append, args, argTypes }) = some (p, h')) : Does P C W w h a o p h' := by
  obtain ⟨consts, hrun⟩ := run_builtin (P := P) ho a
  simp only [opW] at hs
  split at hs <;> (try (rename_i hcontra; cases hcontra; done)) <;> (try (rename_i hcontra _; cases hcontra; done)) <;> (try (cases hs; done))
  rename_i s x _ he
  obtain ⟨u, v, hargs, h1, h2⟩ := args2 hr he
  split at hs
  · rename_i e sz byt zero e1 sz1 byt1 zero1 h0 h01
    obtain ⟨t, ht0, hok⟩ := arg0 hT h0
    obtain ⟨t1, ht1, h01⟩ := Option.bind_eq_some_iff.1 h01
    have hok1 := hT _ _ h01
    split at hs
    · rename_i te hte
      have hA : AppArgs P T argTypes e te := ⟨⟨t, ht0, hok.und_slice rfl⟩, ⟨t1, e1, ht1, hok1.und_slice rfl⟩, hT _ _ hte⟩
      obtain ⟨v', w', W', g1, g2, g3⟩ := append_rel (P := P) hA hh h1 h2 hs o.type
      exact ⟨.value v', v', w', W', by rw [hrun, hargs]; simp [builtin, g1], .inl rfl, g2, g3⟩
    · cases hs
  · cases hs
theorem opW_sound (hT : TyS P T) (hh : HRel W w h) (hr : RegsRel W w ρ a.tmps n) (hs : opW T C ρ h o.op = some (p, h')) : Does P C W w h a o p h' := by
  generalize hop : o.op = op at hs
  cases op <;> (try (simp only [opW] at hs; cases hs; done))
  case store => exact w_store hT hh hr hop hs
  case mapUpdate => exact w_mapUpdate hT hh hr hop hs
  case mapEntry => exact w_mapEntry hT hh hr hop hs
  case entryStore => exact w_entryStore hh hr hop hs
  case range => exact w_range hT hh hr hop hs
  case call c =>
    obtain ⟨callee, args, argTypes⟩ := c
    cases callee <;> (try (simp only [opW] at hs; cases hs; done))
    rename_i b
    cases b <;> (try (simp only [opW] at hs; cases hs; done))
    case append => exact w_append hT hh hr hop hs
    case copy => exact w_copy hT hh hr hop hs
    case clear => exact w_clear hT hh hr hop hs
    case delete => exact w_delete hT hh hr hop hs
end
end Go.PI
namespace Go.PI
section
variable {W W' W'' : Wd} {w w' w'' : World} {P : Program} {T : Pg} {C : Cx} {ρ : Regs} {a : Act} {n : Nat} {o : Oper} {p : PV} {h h' h'' : H} {po : PO}

theorem op1_sound (hT : TyS P T) (hh : HRel W w h) (hr : RegsRel W w ρ a.tmps n) (hs : op1 T C ρ h o.op = some (p, h')) : Does P C W w h a o p h' := by
  unfold op1 at hs
  split at hs
  · obtain ⟨q, hq, hs⟩ := Option.map_eq_some_iff.1 hs
    injection hs with h1 h2; subst h1; subst h2
    exact (opN_sound hT hr hq).does hh
  · obtain ⟨q, hq, hs⟩ := Option.map_eq_some_iff.1 hs
    injection hs with h1 h2; subst h1; subst h2
    exact (opR_sound hT hh hr hq).does hh
  · obtain ⟨⟨q, po⟩, hq, hs⟩ := Option.map_eq_some_iff.1 hs
    injection hs with h1 h2; subst h1; subst h2
    exact (opA_sound hT hr hq).does hh
  · exact opW_sound hT hh hr hs
  · cases hs

/-! ### frozen values -/
/-- From a world with more rows to one with fewer: what stands below m is the same. -/
structure Less (W1 W : Wd) (m : Nat) : Prop where
  le : m ≤ W.N
  lt : ∀ r x, W.β r = some x → r < m
  sub : ∀ r x, W.β r = some x → W1.β r = some x
  up : ∀ r, r < m → ∀ x, W1.β r = some x → W.β r = some x
  dead : ∀ r, r < m → W1.dead r → W.dead r
  off : ∀ b, W1.off b ↔ W.off b
variable {W1 : Wd} {m : Nat}
theorem Less.imm (l : Less W1 W m) {b : Nat} (hi : Imm W1 w b) : Imm W w b := ⟨hi.1, fun r x hr => hi.2.1 r x (l.sub r x hr), fun h => hi.2.2 ((l.off b).2 h)⟩
theorem Less.mon (l : Less W1 W m) : Mon W1.none w W.none w :=
  ⟨fun _ _ _ _ hi _ => ⟨l.imm hi, rfl⟩, Nat.le_refl _, fun _ h => absurd h (Nat.not_lt_zero _), fun _ h => absurd h (Nat.not_lt_zero _)⟩
theorem Less.gone (l : Less W1 W m) (hh : HRel W1 w h) {r : Nat} {x : Loc} (hx : W1.β r = some x) (hr : ¬ r < m) : Imm W w x.b :=
  ⟨(hh.lt r x hx).2, fun r' x' hx' he => by
    have := hh.inj r' r x' x (l.sub _ _ hx') hx he
    exact hr (this ▸ l.lt _ _ hx'), fun h => hh.offno r x hx ((l.off _).2 h)⟩
/-- Where the frozen value stands: within a row that is frozen itself, no row may be named. -/
def Wd.at (W : Wd) (top : Bool) : Wd := if top then W else W.none
theorem Wd.at_β (W : Wd) (top : Bool) : (W.at top).β = W.β := by cases top <;> rfl
theorem Wd.at_none (W : Wd) (top : Bool) : (W.at top).none = W.none := by cases top <;> rfl
theorem Imm.at {b : Nat} (h : Imm W w b) (top : Bool) : Imm (W.at top) w b := by cases top <;> exact h
theorem freezes_get {f : PV → Option PV} : ∀ {ps qs : List PV}, freezes f ps = some qs → ps.length = qs.length ∧ ∀ (i : Nat) q, qs[i]? = some q → ∃ p, ps[i]? = some p ∧ f p = some q
  | [], qs, h => by
    simp only [freezes] at h
    injection h with h; subst h
    exact ⟨rfl, fun i q hq => by simp at hq⟩
  | p :: ps, qs, h => by
    simp only [freezes] at h
    split at h
    · rename_i q s hq hs
      injection h with h; subst h
      obtain ⟨h1, h2⟩ := freezes_get hs
      refine ⟨by simp [h1], fun i q' hq' => ?_⟩
      cases i with
      | zero => simp at hq'; subst hq'; exact ⟨p, by simp, hq⟩
      | succ i =>
        obtain ⟨p', h3, h4⟩ := h2 i q' (by simpa using hq')
        exact ⟨p', by simpa using h3, h4⟩
    · cases h
theorem freeze_rel (hh : HRel W1 w h) (l : Less W1 W m) : ∀ (n : Nat) (top : Bool) (p q : PV) (v : Value), freeze m h n top p = some q → Rel W1 w p v → Rel (W.at top) w q v
  | 0, _, _, _, _, hf, _ => by simp only [freeze] at hf; cases hf
  | n + 1, top, p, q, v, hf, hr => by
    have hl : ∀ (ps qs : List PV) (vs : List Value), freezes (freeze m h n top) ps = some qs → RelL W1 w ps vs → RelL (W.at top) w qs vs := fun ps qs vs hfs hrs => by
      obtain ⟨h1, h2⟩ := freezes_get hfs
      refine RelL.of_get (by rw [← h1, hrs.length]) fun i q' hq' => ?_
      obtain ⟨p', h3, h4⟩ := h2 i q' hq'
      obtain ⟨u, hu, hru⟩ := hrs.get h3
      exact ⟨u, hu, freeze_rel hh l n top p' q' u h4 hru⟩
    have hat : ∀ (ps qs : List PV) (b o : Nat), freezes (freeze m h n false) ps = some qs → RelAt W1 w ps b o → RelAt W.none w qs b o := fun ps qs b o hfs hrs => by
      obtain ⟨h1, h2⟩ := freezes_get hfs
      refine RelAt.of_get fun i q' hq' => ?_
      obtain ⟨p', h3, h4⟩ := h2 i q' hq'
      obtain ⟨u, hu, hru⟩ := hrs.get h3
      exact ⟨u, hu, freeze_rel hh l n false p' q' u h4 hru⟩
    cases p <;> simp only [freeze] at hf
    case lit x =>
      injection hf with hf; subst hf
      simp only [Rel] at hr ⊢; exact hr
    case sl cs k full nn =>
      injection hf with hf; subst hf
      simp only [Rel] at hr ⊢
      obtain ⟨a, cap, hv, h1, h2, h3, h4⟩ := hr
      refine ⟨a, cap, hv, h1, h2, h3, h4.imp id ?_⟩
      rintro ⟨b, o, ha, hi, hc⟩
      exact ⟨b, o, ha, (l.imm hi).at top, by rw [Wd.at_none]; exact hc.mon l.mon hi⟩
    case iptr cs =>
      injection hf with hf; subst hf
      simp only [Rel] at hr ⊢
      obtain ⟨a, hv, h4⟩ := hr
      refine ⟨a, hv, h4.imp id ?_⟩
      rintro ⟨b, o, ha, hi, hc⟩
      exact ⟨b, o, ha, (l.imm hi).at top, by rw [Wd.at_none]; exact hc.mon l.mon hi⟩
    case row r off k s full =>
      cases hlt : Nat.blt r m <;> rw [hlt] at hf <;> simp only [cond_true, cond_false] at hf
      · have hlt' : ¬ r < m := fun h => by rw [← Nat.blt_eq] at h; rw [h] at hlt; cases hlt
        split at hf
        · rename_i cs hcs
          split at hf
          · rename_i hle
            obtain ⟨c, hc, rfl⟩ := Option.map_eq_some_iff.1 hf
            obtain ⟨hcl, _⟩ := freezes_get hc
            simp only [List.length_take, List.length_drop] at hcl
            have hr' := hr
            simp only [Rel] at hr' ⊢
            obtain ⟨hN, a, cap, rfl, h1, h2, hor⟩ := hr'
            refine ⟨some a, cap, rfl, h1, h2, fun _ => rfl, ?_⟩
            rcases hor with hd | ⟨x, hx, hxa, _⟩
            · rw [(hh.dead r hd).1] at hcs; cases hcs
            by_cases h0 : c = []
            · exact .inl h0
            · have hpos : 0 < c.length := List.length_pos_iff.2 h0
              have hk : 0 < k := by
                rcases Nat.eq_zero_or_pos k with h | h
                · subst h; simp at hcl; omega
                · exact h
              have ha := hxa (by omega)
              subst ha
              obtain ⟨ad2, had2, hor2⟩ := mem_rel hh (p := .ptr r off) (v := .pointer (some ⟨x.b, x.o + off, none⟩)) (cs := cs.drop off) (by simp only [Rel]; exact ⟨hN, _, rfl, .inr ⟨x, hx, rfl⟩⟩) (by simp only [memAt, hcs])
              injection had2 with had2; injection had2 with had2; subst had2
              rcases hor2 with hnil | ⟨b, o, hbo, hatt⟩
              · have : cs.length ≤ off := by simpa using hnil
                omega
              · injection hbo with hb ho
                subst hb; subst ho
                exact .inr ⟨_, _, rfl, (l.gone hh hx hlt').at top, by rw [Wd.at_none]; exact hat _ _ _ _ hc (hatt.take _)⟩
          · cases hf
        · cases hf
      · have hlt' : r < m := Nat.blt_eq ▸ hlt
        cases top <;> simp only [cond_true, cond_false] at hf
        · cases hf
        · injection hf with hf; subst hf
          simp only [Rel, Wd.at, if_true] at hr ⊢
          obtain ⟨hN, a, cap, hv, h1, h2, hor⟩ := hr
          refine ⟨Nat.lt_of_lt_of_le hlt' l.le, a, cap, hv, h1, h2, ?_⟩
          rcases hor with hd | ⟨x, hx, h3⟩
          · exact .inl (l.dead r hlt' hd)
          · exact .inr ⟨x, l.up r hlt' x hx, h3⟩
    case ptr r off =>
      cases hlt : Nat.blt r m <;> rw [hlt] at hf <;> simp only [cond_true, cond_false] at hf
      · have hlt' : ¬ r < m := fun h => by rw [← Nat.blt_eq] at h; rw [h] at hlt; cases hlt
        split at hf
        · rename_i cs hcs
          obtain ⟨c, hc, rfl⟩ := Option.map_eq_some_iff.1 hf
          obtain ⟨hcl, _⟩ := freezes_get hc
          have hr' := hr
          simp only [Rel] at hr' ⊢
          obtain ⟨hN, a, rfl, hor⟩ := hr'
          refine ⟨a, rfl, ?_⟩
          rcases hor with hd | ⟨x, hx, rfl⟩
          · rw [(hh.dead r hd).1] at hcs; cases hcs
          by_cases h0 : c = []
          · exact .inl h0
          · have hpos : 0 < c.length := List.length_pos_iff.2 h0
            obtain ⟨ad2, had2, hor2⟩ := mem_rel hh (p := .ptr r off) (cs := cs.drop off) hr (by simp only [memAt, hcs])
            injection had2 with had2; injection had2 with had2; subst had2
            rcases hor2 with hnil | ⟨b, o, hbo, hatt⟩
            · rw [hnil] at hcl; simp at hcl; omega
            · injection hbo with hb ho
              subst hb; subst ho
              exact .inr ⟨_, _, rfl, (l.gone hh hx hlt').at top, by rw [Wd.at_none]; exact hat _ _ _ _ hc hatt⟩
        · cases hf
      · have hlt' : r < m := Nat.blt_eq ▸ hlt
        cases top <;> simp only [cond_true, cond_false] at hf
        · cases hf
        · injection hf with hf; subst hf
          simp only [Rel, Wd.at, if_true] at hr ⊢
          obtain ⟨hN, a, hv, hor⟩ := hr
          refine ⟨Nat.lt_of_lt_of_le hlt' l.le, a, hv, ?_⟩
          rcases hor with hd | ⟨x, hx, h3⟩
          · exact .inl (l.dead r hlt' hd)
          · exact .inr ⟨x, l.up r hlt' x hx, h3⟩
    case fn f fs caps =>
      split at hf
      · rename_i a b ha hb
        injection hf with hf; subst hf
        simp only [Rel] at hr ⊢
        obtain ⟨vf, vc, hv, h1, h2⟩ := hr
        exact ⟨vf, vc, hv, hl _ _ _ ha h1, hl _ _ _ hb h2⟩
      · cases hf
    case agg cs =>
      obtain ⟨c, hc, rfl⟩ := Option.map_eq_some_iff.1 hf
      simp only [Rel] at hr ⊢
      obtain ⟨vs, hv, h1⟩ := hr
      exact ⟨vs, hv, hl _ _ _ hc h1⟩
    case tup cs =>
      obtain ⟨c, hc, rfl⟩ := Option.map_eq_some_iff.1 hf
      simp only [Rel] at hr ⊢
      obtain ⟨vs, hv, h1⟩ := hr
      exact ⟨vs, hv, hl _ _ _ hc h1⟩
    all_goals
      rename_i r
      cases top <;> cases hlt : Nat.blt r m <;> rw [hlt] at hf <;> simp only [Bool.and_true, Bool.and_false, cond_true, cond_false] at hf <;> (try (cases hf; done))
      have hlt' : r < m := Nat.blt_eq ▸ hlt
      injection hf with hf; subst hf
      simp only [Rel, Wd.at, if_true] at hr ⊢
      obtain ⟨hN, a, hv, hor⟩ := hr
      refine ⟨Nat.lt_of_lt_of_le hlt' l.le, a, hv, ?_⟩
      rcases hor with hd | ⟨x, hx, h3⟩
      · exact .inl (l.dead r hlt' hd)
      · exact .inr ⟨x, l.up r hlt' x hx, h3⟩
/-- A call that writes nothing of its callers': the world has grown, and the callee's rows may be given up. -/
theorem Goes.pure (hh : HRel W w h) (hC : C.lo = h.rows.length) (g : Goes C h W w h' W1 w') : Grew w w' ∧ Less W1 W W.N := by
  have hno : ∀ r, r < W.N → C.no r = true := fun r hr => by
    rw [← hh.n, ← hC] at hr
    simp [Cx.no, hr]
  refine ⟨⟨g.ext.size, fun b hb => g.ext.same b hb fun r x hx _ hn => ?_, g.ext.os, g.ext.tape, g.ext.output⟩, Nat.le_refl _, fun r x hx => (hh.lt r x hx).1, fun r x hx => ?_, fun r hr x hx => g.ext.down r hr x hx, fun r hr hd => (g.kept r hr (hno r hr)).2 hd, g.ext.off⟩
  · rw [hno r (hh.lt r x hx).1] at hn; cases hn
  · have hr := (hh.lt r x hx).1
    rcases g.ext.up r hr x hx with h1 | h1
    · exact h1
    · have := (hh.dead r ((g.kept r hr (hno r hr)).2 h1)).2
      rw [this] at hx; cases hx
end
end Go.PI
