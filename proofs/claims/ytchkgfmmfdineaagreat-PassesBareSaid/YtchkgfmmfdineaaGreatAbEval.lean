/- An evaluator of the model's code over abstract values: data as trees, a small heap of its own, no order and no capacity drawn.
   Its definitions only; that it is sound stands in the texts behind it. -/
import Derived.Calls
namespace Go.Ab

/-- Data that nothing writes to. A slice: whether it is nil, whether its capacity is its length, its elements, each a list of cells. -/
inductive Tree where
  | bool (b : Bool)
  | int (k : IntKind) (n : Int)
  | str (s : List Nat)
  | sl (nl clip : Bool) (es : List (List Tree))
  | agg (cs : List Tree)
  | ifc (t : TypeId) (v : Tree)
  | nilifc
  | fn (f : FuncId)
  | nilfn
  | nilptr
  | nilmap
  deriving Inhabited

/-- Values: trees; pointers into the evaluator's heap; slices over it; closures. 'nov': the model's own 'undef'; 'unk': whatever. -/
inductive AV where
  | t (x : Tree)
  | nov
  | unk
  | box (id off : Nat)
  | el (id ver i off : Nat)
  | rp (cs : List Tree)
  | hs (id ver : Nat)
  | hsub (id ver lo len : Nat)
  | agg (cs : List AV)
  | fn (f : FuncId) (first captured : List AV)
  | tup (vs : List AV)
  deriving Inhabited

inductive Obj where
  | box (cs : List AV)
  | arr (s ver : Nat) (frz : Bool) (es : List (List Tree))
  | marr (s ver : Nat) (es : List (List AV))
  | siter (s : List Nat) (pos : Nat)
  | dead
  deriving Inhabited

abbrev Heap := List Obj
abbrev Look := Nat → Option Obj
abbrev Patch := List (Nat × Obj)

inductive Out where
  | val (v : AV)
  | pan (v : AV)
  deriving Inhabited

structure Cfg where
  P : Program
  byRef : FuncId → Bool
  thaw : FuncId → Bool
  keep : FuncId → Nat → Option (List Nat)
  prim : FuncId → List AV → Option AV

abbrev Oracle := FuncId → List AV → Heap → Option (Out × Heap)

/-! ### Lists -/

def nth {α : Type} : List α → Nat → Option α
  | [], _ => none
  | a :: _, 0 => some a
  | _ :: l, n + 1 => nth l n

def setN {α : Type} : List α → Nat → α → List α
  | [], _, _ => []
  | _ :: l, 0, x => x :: l
  | a :: l, n + 1, x => a :: setN l n x

def idx {α : Type} (l : List α) : Int → Option α
  | .ofNat n => nth l n
  | .negSucc _ => none

/-! ### Values -/

def lit1 : Value → Option Tree
  | .bool b => some (.bool b)
  | .int k n => some (.int k n)
  | .string s => some (.str (s.data.toList.map UInt8.toNat))
  | .pointer none => some .nilptr
  | .slice none 0 0 => some (.sl true true [])
  | .map none => some .nilmap
  | .func (.func f) a b => if a.isEmpty && b.isEmpty then some (.fn f) else none
  | .nilFunc => some .nilfn
  | .nilIface => some .nilifc
  | _ => none

def lits : List Value → Option (List Tree)
  | [] => some []
  | v :: vs => match lit1 v with
    | none => none
    | some x => match lits vs with
      | none => none
      | some xs => some (x :: xs)

def lit (v : Value) : AV :=
  match v with
  | .agg cs => match lits cs.toList with
    | some ts => .t (.agg ts)
    | none => .unk
  | v => match lit1 v with
    | some x => .t x
    | none => .unk

/-- The scalars, as the model has them: what its own arithmetic is asked. -/
def scal : Tree → Option Value
  | .bool b => some (.bool b)
  | .int k n => some (.int k n)
  | _ => none

def unscal : Value → Option Tree
  | .bool b => some (.bool b)
  | .int k n => some (.int k n)
  | _ => none

def ofSem : Sem Value → Option Tree
  | .pure v => unscal v
  | _ => none

def trees : List AV → Option (List Tree)
  | [] => some []
  | .t x :: vs => match trees vs with
    | none => none
    | some xs => some (x :: xs)
  | _ => none

def mkAgg (cs : List AV) : AV :=
  match trees cs with
  | some ts => .t (.agg ts)
  | none => .agg cs

/-- The cells of a struct or an array. -/
def aggCells : AV → Option (List AV)
  | .t (.agg ts) => some (ts.map .t)
  | .agg cs => some cs
  | _ => none

/-- The cells of any value of which it is known how many it has. -/
def cellsOf : AV → Option (List AV)
  | .t (.agg ts) => some (ts.map .t)
  | .agg cs => some cs
  | .unk | .nov | .tup _ => none
  | v => some [v]

/-- The model's own table of types, as a list. -/
def info (P : Program) (t : TypeId) : Option TypeInfo := nth P.types.toList t

def und (P : Program) (t : TypeId) : Option TypeDesc :=
  match info P t with
  | some i => match i.desc with
    | .named _ u => match info P u with
      | some j => some j.desc
      | none => none
    | d => some d
  | none => none

def sizeOf? (P : Program) (t : TypeId) : Option Nat :=
  match info P t with
  | some i => some i.size
  | none => none

def agg? (P : Program) (t : TypeId) : Option Bool :=
  match und P t with
  | some (.struct _) | some (.array _ _) => some true
  | some _ => some false
  | none => none

/-- The elements of a list from a place on, so many; only if there are so many. -/
def cut {α : Type} (l : List α) (lo n : Nat) : Option (List α) :=
  if lo + n ≤ l.length then some ((l.drop lo).take n) else none

def mem (n : Nat) : List Nat → Bool
  | [] => false
  | a :: l => match Nat.beq a n with
    | true => true
    | false => mem n l

def place (n : Nat) : List Nat → Nat
  | [] => 0
  | a :: l => match Nat.beq a n with
    | true => 0
    | false => place n l + 1

def splice {α : Type} (l : List α) (lo : Nat) (new : List α) : List α := l.take lo ++ new ++ l.drop (lo + new.length)

/-! ### Memory -/

/-- So many cells at an address. -/
def loadCells (g : Look) (n : Nat) : AV → Option (List AV)
  | .box id off => match g id with
    | some (.box cs) => cut cs off n
    | _ => none
  | .el id ver i off => match g id with
    | some (.arr _ ver' _ es) => if ver = ver' then match nth es i with
        | some e => match cut e off n with
          | some cs => some (cs.map .t)
          | none => none
        | none => none
      else none
    | some (.marr _ ver' es) => if ver = ver' then match nth es i with
        | some e => cut e off n
        | none => none
      else none
    | _ => none
  | .rp cs => match cut cs 0 n with
    | some cs => some (cs.map .t)
    | none => none
  | _ => none

def load (P : Program) (g : Look) (t : TypeId) (a : AV) : Option AV :=
  match agg? P t with
  | some true => match sizeOf? P t with
    | some n => match loadCells g n a with
      | some cs => some (mkAgg cs)
      | none => none
    | none => none
  | some false => match loadCells g 1 a with
    | some [v] => some v
    | _ => none
  | none => none

def addOff (n : Nat) : AV → Option AV
  | .box id off => some (.box id (off + n))
  | .el id ver i off => some (.el id ver i (off + n))
  | .rp cs => if n ≤ cs.length then some (.rp (cs.drop n)) else none
  | _ => none

def catMap {α β : Type} (f : α → List β) : List α → List β
  | [] => []
  | a :: l => f a ++ catMap f l

/-- A slice's elements, if they are trees: of the heap, or a tree's. -/
def elems (g : Look) : AV → Option (List (List Tree))
  | .t (.sl _ _ es) => some es
  | .hs id ver => match g id with
    | some (.arr _ ver' _ es) => if ver = ver' then some es else none
    | _ => none
  | .hsub id ver lo len => match g id with
    | some (.arr _ ver' _ es) => if ver = ver' then cut es lo len else none
    | _ => none
  | _ => none

def lenOf (g : Look) : AV → Option Nat
  | .t (.sl _ _ es) => some es.length
  | .hs id ver => match g id with
    | some (.arr _ ver' _ es) => if ver = ver' then some es.length else none
    | some (.marr _ ver' es) => if ver = ver' then some es.length else none
    | _ => none
  | .hsub _ _ _ len => some len
  | _ => none

/-- A value without the heap: slices over it as trees. -/
def view (g : Look) : AV → AV
  | .hs id ver => match elems g (.hs id ver) with
    | some es => .t (.sl false false es)
    | none => .hs id ver
  | .hsub id ver lo len => match elems g (.hsub id ver lo len) with
    | some es => .t (.sl false false es)
    | none => .hsub id ver lo len
  | .agg cs => mkAgg (cs.map fun c => match c with
    | .hs id ver => (match elems g (.hs id ver) with
      | some es => .t (.sl false false es)
      | none => .hs id ver)
    | .hsub id ver lo len => (match elems g (.hsub id ver lo len) with
      | some es => .t (.sl false false es)
      | none => .hsub id ver lo len)
    | c => c)
  | v => v

/-- The heap's slices that 'view' looks into. -/
def viewed (g : Look) : AV → List Nat
  | .hs id ver => match elems g (.hs id ver) with
    | some _ => [id]
    | none => []
  | .hsub id ver lo len => match elems g (.hsub id ver lo len) with
    | some _ => [id]
    | none => []
  | .agg cs => catMap (fun c => match c with
    | .hs id ver => (match elems g (.hs id ver) with
      | some _ => [id]
      | none => [])
    | .hsub id ver lo len => (match elems g (.hsub id ver lo len) with
      | some _ => [id]
      | none => [])
    | _ => []) cs
  | _ => []

def freeze (g : Look) : List Nat → Patch
  | [] => []
  | id :: ids => match g id with
    | some (.arr s ver _ es) => (id, .arr s ver true es) :: freeze g ids
    | _ => freeze g ids

/-! ### Which part of the heap a value reaches, and that part by itself -/

/-- Is the slice, or the pointer into one, not out of date? -/
def fresh (g : Look) (id ver : Nat) : Bool :=
  match g id with
  | some (.arr _ ver' _ _) => Nat.beq ver ver'
  | some (.marr _ ver' _) => Nat.beq ver ver'
  | _ => false

/-- What a value points to (d: how deep values may lie in each other). -/
def refs (g : Look) : Nat → AV → List Nat
  | 0, _ => []
  | d + 1, v => match v with
    | .box id _ => [id]
    | .el id ver _ _ => bif fresh g id ver then [id] else []
    | .hs id ver => bif fresh g id ver then [id] else []
    | .hsub id ver _ _ => bif fresh g id ver then [id] else []
    | .agg cs => catMap (refs g d) cs
    | .fn _ a b => catMap (refs g d) a ++ catMap (refs g d) b
    | .tup vs => catMap (refs g d) vs
    | _ => []

def depth : Nat := 5

def refsL (g : Look) (vs : List AV) : List Nat := catMap (refs g depth) vs

def refsO (g : Look) : Obj → List Nat
  | .box cs => refsL g cs
  | .marr _ _ es => catMap (refsL g) es
  | _ => []

def reach (g : Look) : Nat → List Nat → List Nat → Option (List Nat)
  | 0, _, _ => none
  | _ + 1, [], acc => some acc
  | n + 1, id :: todo, acc =>
    match mem id acc with
    | true => reach g n todo acc
    | false => match g id with
      | some o => reach g n (refsO g o ++ todo) (acc ++ [id])
      | none => none

/-- A new number for each of the old ones: its place in a list; versions begin anew. -/
def ren (g : Look) (ids : List Nat) : Nat → AV → AV
  | 0, _ => .unk
  | d + 1, v => match v with
    | .box id off => bif mem id ids then .box (place id ids) off else .unk
    | .el id ver i off => bif fresh g id ver && mem id ids then .el (place id ids) 0 i off else .unk
    | .hs id ver => bif fresh g id ver && mem id ids then .hs (place id ids) 0 else .unk
    | .hsub id ver lo len => bif fresh g id ver && mem id ids then .hsub (place id ids) 0 lo len else .unk
    | .agg cs => .agg (cs.map (ren g ids d))
    | .fn f a b => .fn f (a.map (ren g ids d)) (b.map (ren g ids d))
    | .tup vs => .tup (vs.map (ren g ids d))
    | v => v

def renL (g : Look) (ids : List Nat) (vs : List AV) : List AV := vs.map (ren g ids depth)

def renO (g : Look) (ids : List Nat) : Obj → Obj
  | .box cs => .box (renL g ids cs)
  | .arr s _ frz es => .arr s 0 frz es
  | .marr s _ es => .marr s 0 (es.map (renL g ids))
  | o => o

def sub1 (g : Look) (ids : List Nat) : List Nat → Option Heap
  | [] => some []
  | id :: l => match g id with
    | none => none
    | some o => match sub1 g ids l with
      | none => none
      | some os => some (renO g ids o :: os)

def sub (g : Look) (ids : List Nat) : Option Heap := sub1 g ids ids

def upto : Nat → List Nat → List Nat
  | 0, acc => acc
  | n + 1, acc => upto n (n :: acc)

/-- The heap in the canonical form: the first m objects, and what they and the values reach, in that order. -/
def canon (h : Heap) (m : Nat) (vs : List AV) : Option (List AV × Heap) :=
  let g : Look := nth h
  match reach g 100000 (catMap (refsO g) (h.take m) ++ refsL g vs) (upto m []) with
  | none => none
  | some ids => match sub g ids with
    | none => none
    | some h' => some (renL g ids vs, h')

def getN (l : List Nat) (i : Nat) : Nat := (nth l i).getD 0

/-- What goes back with a call's answer: the answer's heap, how many of its objects were there, their old numbers and new versions, the number of the first new one. -/
structure Way where
  g : Look
  m : Nat
  ids : List Nat
  vers : List Nat
  nid : Nat

def Way.id (y : Way) (k : Nat) : Nat := bif Nat.blt k y.m then getN y.ids k else y.nid + (k - y.m)
def Way.ver (y : Way) (k : Nat) : Nat := bif Nat.blt k y.m then getN y.vers k else 0

/-- The way back: the first objects by their old numbers, the others behind; versions of those that were there go up. -/
def back (y : Way) : Nat → AV → AV
  | 0, _ => .unk
  | d + 1, v => match v with
    | .box k off => .box (y.id k) off
    | .el k ver i off => bif fresh y.g k ver then .el (y.id k) (y.ver k) i off else .unk
    | .hs k ver => bif fresh y.g k ver then .hs (y.id k) (y.ver k) else .unk
    | .hsub k ver lo len => bif fresh y.g k ver then .hsub (y.id k) (y.ver k) lo len else .unk
    | .agg cs => .agg (cs.map (back y d))
    | .fn f a b => .fn f (a.map (back y d)) (b.map (back y d))
    | .tup vs => .tup (vs.map (back y d))
    | v => v

def backL (y : Way) (vs : List AV) : List AV := vs.map (back y depth)

def backO (y : Way) (ver : Nat) : Obj → Obj
  | .box cs => .box (backL y cs)
  | .arr s _ frz es => .arr s ver frz es
  | .marr s _ es => .marr s ver (es.map (backL y))
  | o => o

def verOf : Option Obj → Nat
  | some (.arr _ ver _ _) => ver + 1
  | some (.marr _ ver _) => ver + 1
  | _ => 0

/-- The objects of the answer's heap, by the numbers that they get. -/
def backAll (y : Way) : Nat → List Obj → Patch
  | _, [] => []
  | k, o :: os => (y.id k, backO y (y.ver k) o) :: backAll y (k + 1) os

/-! ### What a function hands back -/

def plainT : Tree → Bool
  | .sl _ _ _ => false
  | .agg cs => cs.all fun c => match c with
    | .sl _ _ _ | .agg _ | .ifc _ _ => false
    | _ => true
  | .ifc _ v => match v with
    | .sl _ _ _ | .agg _ | .ifc _ _ => false
    | _ => true
  | _ => true

def plain : AV → Bool
  | .t x => plainT x
  | .nov => true
  | .tup vs => vs.all fun v => match v with
    | .t x => plainT x
    | .nov => true
    | _ => false
  | _ => false

/-- A result as a tree, where it is one (unless the function hands back what is its caller's to write). -/
def export1 (g : Look) (v : AV) : AV := view g v
def exports (g : Look) : AV → AV
  | .tup vs => .tup (vs.map (view g))
  | v => view g v

/-! ### Operations -/

abbrev Env := List (Nat × AV)

def get (T : Env) (t : Nat) : AV :=
  match T with
  | [] => .unk
  | (u, v) :: T => match Nat.beq u t with
    | true => v
    | false => get T t

def operand (T : Env) : Operand → AV
  | .tmp t => get T t
  | .const v => lit v
  | .global _ => .unk
  | .func f => .t (.fn f)

def bytesLess : List Nat → List Nat → Bool
  | _, [] => false
  | [], _ :: _ => true
  | a :: x, b :: y => Nat.blt a b || (Nat.beq a b && bytesLess x y)

def beqL : List Nat → List Nat → Bool
  | [], [] => true
  | a :: x, b :: y => match Nat.beq a b with
    | true => beqL x y
    | false => false
  | _, _ => false

def strOp (op : BinOp) (x y : List Nat) : Option Tree :=
  match op with
  | .add => if x.length + y.length < 4611686018427387904 then some (.str (x ++ y)) else none
  | .eql => some (.bool (beqL x y))
  | .neq => some (.bool !(beqL x y))
  | .lss => some (.bool (bytesLess x y))
  | .leq => some (.bool (bytesLess x y || beqL x y))
  | .gtr => some (.bool !(bytesLess x y || beqL x y))
  | .geq => some (.bool !(bytesLess x y))
  | _ => none

/-- A part of a struct's cells. -/
def part (P : Program) (t : TypeId) (cs : List AV) (off : Nat) : Option AV :=
  match agg? P t with
  | some true => match sizeOf? P t with
    | some n => match cut cs off n with
      | some l => some (mkAgg l)
      | none => none
    | none => none
  | some false => nth cs off
  | none => none

def partT (P : Program) (t : TypeId) (cs : List Tree) (off : Nat) : Option Tree :=
  match agg? P t with
  | some true => match sizeOf? P t with
    | some n => match cut cs off n with
      | some l => some (.agg l)
      | none => none
    | none => none
  | some false => nth cs off
  | none => none

/-- == on values without addresses, by the type, as the model goes. -/
def equal (P : Program) : Nat → TypeId → Tree → Tree → Option Bool
  | 0, _, _, _ => none
  | d + 1, t, x, y =>
    match und P t, x, y with
    | some .bool, .bool a, .bool b => some (a == b)
    | some (.int _), .int k a, .int k' b => if k = k' then some (a == b) else none
    | some .string, .str a, .str b => some (beqL a b)
    | some (.struct fields), .agg xs, .agg ys =>
      if P.stoodInHeld t then none else
      eqFields (fun u x y => equal P d u x y) xs ys fields.toList
    | _, _, _ => none
where
  eqFields (eq : TypeId → Tree → Tree → Option Bool) (xs ys : List Tree) : List Field → Option Bool
    | [] => some true
    | f :: fs =>
      if f.name = "_" then eqFields eq xs ys fs else
      match partT P f.type xs f.offset, partT P f.type ys f.offset with
      | some x, some y => match eq f.type x y with
        | some true => eqFields eq xs ys fs
        | some false => some false
        | none => none
      | _, _ => none

/-- Functions 0, pointers 1, slices 2; and is it nil? -/
def kindOf : AV → Option (Nat × Bool)
  | .t .nilfn => some (0, true)
  | .t (.fn _) => some (0, false)
  | .fn _ _ _ => some (0, false)
  | .t .nilptr => some (1, true)
  | .box _ _ => some (1, false)
  | .el _ _ _ _ => some (1, false)
  | .rp _ => some (1, false)
  | .t (.sl nl _ _) => some (2, nl)
  | .hs _ _ => some (2, false)
  | .hsub _ _ _ _ => some (2, false)
  | _ => none

def kindT (P : Program) (t : TypeId) : Option Nat :=
  match und P t with
  | some (.func _ _ _) => some 0
  | some (.pointer _) => some 1
  | some (.slice _) => some 2
  | _ => none

/-- == where one side is nil. -/
def nilEq (P : Program) (t : TypeId) (x y : AV) : Option Bool :=
  match kindT P t, kindOf x, kindOf y with
  | some k, some (a, m), some (b, n) =>
    match Nat.beq k a && Nat.beq k b, m, n with
    | true, true, n => some n
    | true, false, true => some false
    | _, _, _ => none
  | _, _, _ => none

/-- The model's 'eqGuardType', by a bound of its own. -/
def guarded (P : Program) : Nat → TypeId → Bool
  | 0, _ => true
  | d + 1, t => match und P t with
    | some (.interface ms) => !ms.isEmpty
    | some (.struct fs) => fs.toList.any fun f => f.name != "_" && guarded P d f.type
    | some (.array _ e) => guarded P d e
    | some _ => false
    | none => true

def binop (P : Program) (op : BinOp) (t : TypeId) (x y : AV) : Option AV :=
  match x, y with
  | .t (.int k a), .t (.int k' b) => (ofSem (Go.binOp op t (.int k a) (.int k' b))).map .t
  | .t (.str a), .t (.str b) => (strOp op a b).map .t
  | .t (.bool a), .t (.bool b) => match op, und P t with
    | .eql, some .bool => some (.t (.bool (a == b)))
    | .neq, some .bool => some (.t (.bool !(a == b)))
    | _, _ => none
  | .t (.agg xs), .t (.agg ys) =>
    if guarded P 50 t then none else match op with
    | .eql => (equal P 100 t (.agg xs) (.agg ys)).map fun b => .t (.bool b)
    | .neq => (equal P 100 t (.agg xs) (.agg ys)).map fun b => .t (.bool !b)
    | _ => none
  | x, y => match op, nilEq P t x y with
    | .eql, some b => some (.t (.bool b))
    | .neq, some b => some (.t (.bool !b))
    | _, _ => none

def unop (op : UnOp) (x : AV) : Option AV :=
  match x with
  | .t x => match scal x with
    | some v => (ofSem (Op.unary op v)).map .t
    | none => none
  | _ => none

def bytesOf : List (List Tree) → Option (List Nat)
  | [] => some []
  | [.int .u8 (.ofNat n)] :: es => match Nat.blt n 256, bytesOf es with
    | true, some bs => some (n :: bs)
    | _, _ => none
  | _ => none

def byteCells (s : List Nat) : List (List Tree) := s.map fun b => [.int .u8 (.ofNat b)]

def fillCells (P : Program) : List (Nat × Nat) → List AV → List (Nat × AV) → Option (List AV)
  | _, cells, [] => some cells
  | places, cells, (i, v) :: rest => match nth places i with
    | none => none
    | some (off, size) => match cellsOf v with
      | some cs => if cs.length = size ∧ off + size ≤ cells.length then fillCells P places (splice cells off cs) rest else none
      | none => none

def zeroCells (P : Program) (t : TypeId) : Option (List AV) :=
  match info P t with
  | some i => match i.zero with
    | some z => match lit z with
      | .t (.agg ts) => some (ts.map .t)
      | .t x => some [.t x]
      | _ => none
    | none => none
  | none => none

def placesOf (P : Program) : List Field → Option (List (Nat × Nat))
  | [] => some []
  | f :: fs => match sizeOf? P f.type with
    | none => none
    | some n => match placesOf P fs with
      | none => none
      | some l => some ((f.offset, n) :: l)

def build (P : Program) (t : TypeId) (parts : List (Nat × AV)) : Option AV :=
  match zeroCells P t with
  | none => none
  | some zero => match und P t with
    | some (.struct fields) => match placesOf P fields.toList with
      | some places => (fillCells P places zero parts).map mkAgg
      | none => none
    | some (.array n elem) => match sizeOf? P elem with
      | some size => (fillCells P ((List.range n).map fun i => (i * size, size)) zero parts).map mkAgg
      | none => none
    | _ => none

def treesL : List (List AV) → Option (List (List Tree))
  | [] => some []
  | e :: es => match trees e with
    | none => none
    | some x => match treesL es with
      | none => none
      | some xs => some (x :: xs)

def mkArr (s : Nat) (es : List (List AV)) : Obj :=
  match treesL es with
  | some es => .arr s 0 false es
  | none => .marr s 0 es

/-- A value of one cell. -/
def isCell : AV → Bool
  | .t (.agg _) => false
  | .t _ | .box _ _ | .el _ _ _ _ | .rp _ | .hs _ _ | .hsub _ _ _ _ | .fn _ _ _ => true
  | _ => false

/-- Elements of a slice literal: each place's cells, zero where none is given. -/
def litElems (n : Nat) (zero : List AV) (parts : List (Nat × AV)) : Option (List (List AV)) :=
  go (List.replicate n zero) parts
where
  go (es : List (List AV)) : List (Nat × AV) → Option (List (List AV))
    | [] => some es
    | (i, v) :: rest => match cellsOf v with
      | some cs => if i < es.length ∧ cs.length = zero.length ∧ cs.all isCell = true then go (setN es i cs) rest else none
      | none => none

abbrev Res := Option (Out × Patch)

def ret (v : AV) : Res := some (.val v, [])
def retO (o : Option AV) : Res := match o with
  | some v => some (.val v, [])
  | none => none

/-- Values that are put into a slice: slices of the heap among their parts become trees, and are written to no more. -/
def purify (g : Look) (v : AV) : AV × Patch := (view g v, freeze g (viewed g v))

def indexAddr (P : Program) (g : Look) (t : TypeId) (x : AV) (i : Int) : Option AV :=
  match und P t, x with
  | some (.slice elem), .t (.sl _ _ es) => match sizeOf? P elem, idx es i with
    | some n, some e => if e.length = n then some (.rp e) else none
    | _, _ => none
  | some (.slice elem), .hs id ver => match g id, sizeOf? P elem with
    | some (.arr s ver' _ es), some n => if ver = ver' ∧ s = n ∧ 0 ≤ i ∧ i < es.length then some (.el id ver i.toNat 0) else none
    | some (.marr s ver' es), some n => if ver = ver' ∧ s = n ∧ 0 ≤ i ∧ i < es.length then some (.el id ver i.toNat 0) else none
    | _, _ => none
  | some (.slice elem), .hsub id ver lo len => match g id, sizeOf? P elem with
    | some (.arr s ver' _ es), some n => if ver = ver' ∧ s = n ∧ 0 ≤ i ∧ i < len ∧ lo + len ≤ es.length then some (.el id ver (lo + i.toNat) 0) else none
    | _, _ => none
  | some (.array n elem), x => match sizeOf? P elem with
    | some s => if 0 ≤ i ∧ i < n then addOff (i.toNat * s) x else none
    | none => none
  | _, _ => none

def index (P : Program) (t : TypeId) (x : AV) (i : Int) : Option AV :=
  match und P t, x with
  | some .string, .t (.str s) => match idx s i with
    | some b => some (.t (.int .u8 (.ofNat b)))
    | none => none
  | some (.array n elem), x => match sizeOf? P elem with
    | some s => match aggCells x with
      | some cs => if 0 ≤ i ∧ i < n then part P elem cs (i.toNat * s) else none
      | none => none
    | none => none
  | _, _ => none

/-- Is the first element of so many cells? -/
def headLen (n : Nat) : List (List Tree) → Bool
  | [] => true
  | e :: _ => Nat.beq e.length n

def slice (P : Program) (g : Look) (t : TypeId) (x : AV) (lo hi mx : Option Int) : Option AV :=
  match und P t, x with
  | some .string, .t (.str s) =>
    let l := lo.getD 0
    let h := hi.getD s.length
    if mx.isNone ∧ 0 ≤ l ∧ l ≤ h ∧ h ≤ s.length then some (.t (.str ((s.take h.toNat).drop l.toNat))) else none
  | some (.slice elem), .t (.sl nl clip es) => match sizeOf? P elem with
    | some n =>
      let l := lo.getD 0
      let h := hi.getD es.length
      if 0 ≤ l ∧ l ≤ h ∧ h ≤ es.length ∧ headLen n es = true then
        match mx with
        | none => some (.t (.sl nl (clip && h == es.length) ((es.take h.toNat).drop l.toNat)))
        | some m => if m = h ∧ hi.isSome = true then some (.t (.sl nl true ((es.take h.toNat).drop l.toNat))) else none
      else none
    | none => none
  | some (.slice elem), .hs id ver => match g id, sizeOf? P elem with
    | some (.arr s ver' _ es), some n =>
      let l := lo.getD 0
      let h := hi.getD es.length
      if ver = ver' ∧ s = n ∧ 0 ≤ l ∧ l ≤ h ∧ h ≤ es.length then
        match mx with
        | none => some (.hsub id ver l.toNat (h.toNat - l.toNat))
        | some m => if m = h ∧ h = l ∧ hi.isSome = true then some (.t (.sl false true [])) else none
      else none
    | _, _ => none
  | some (.slice elem), .hsub id ver lo0 len => match g id, sizeOf? P elem with
    | some (.arr s ver' _ es), some n =>
      let l := lo.getD 0
      let h := hi.getD len
      if ver = ver' ∧ s = n ∧ lo0 + len ≤ es.length ∧ 0 ≤ l ∧ l ≤ h ∧ h ≤ len ∧ mx.isNone = true then some (.hsub id ver (lo0 + l.toNat) (h.toNat - l.toNat)) else none
    | _, _ => none
  | _, _ => none

def zeroFits (i : TypeInfo) : Bool :=
  match i.zero with
  | some z => Nat.beq z.cells.toList.length i.size
  | none => false

def small (P : Program) (t : TypeId) (n : Nat) : Bool :=
  match info P t with
  | some i => i.bytes ≤ 8192 && n < 4294967296 && zeroFits i
  | none => false

/-- What is put behind a slice: elements. -/
def added (g : Look) : AV → Option (List (List Tree))
  | .t (.str s) => some (byteCells s)
  | v => elems g v

/-- The second operand of append is no number (as in the model's 'append(s, make ..)'). -/
def noInt (P : Program) (t : TypeId) : Bool :=
  match und P t with
  | some (.int _) => false
  | some _ => true
  | none => false

def lens (n : Nat) (es : List (List Tree)) : Bool := es.all fun e => Nat.beq e.length n

def append (P : Program) (g : Look) (nid : Nat) (t t' : TypeId) (s x : AV) : Res :=
  match und P t with
  | some (.slice elem) => match added g x, sizeOf? P elem, noInt P t' with
    | some new, some n, true =>
      match s with
      | .t (.sl _ clip es) =>
        match new with
        | [] => ret s
        | e :: new =>
          if clip = true ∧ lens n (e :: new) = true ∧ headLen n es = true ∧ small P elem (es.length + (e :: new).length) = true ∧ 0 < n then
            some (.val (.hs nid 0), [(nid, .arr n 0 false (es ++ e :: new))])
          else none
      | .hs id ver => match g id with
        | some (.arr s ver' false es) =>
          if ver = ver' ∧ s = n ∧ lens n new = true ∧ small P elem (es.length + new.length) = true ∧ 0 < n then
            some (.val (.hs id (ver + 1)), [(id, .arr s (ver + 1) false (es ++ new))])
          else none
        | _ => none
      | _ => none
    | _, _, _ => none
  | _ => none

def maxmin (lt : Bool) : AV → List AV → Option AV
  | x, [] => some x
  | .t (.int k a), .t (.int k' b) :: rest =>
    if k = k' then maxmin lt (.t (.int k (if (if lt then decide (b < a) else decide (b > a)) then b else a))) rest else none
  | _, _ => none

def convert (P : Program) (g : Look) (nid : Nat) (src dst : TypeId) (x : AV) : Res :=
  match und P src, und P dst, x with
  | some _, some (.int k), .t (.int _ n) => ret (.t (.int k (k.wrap n)))
  | some _, some .string, .t (.str s) => ret (.t (.str s))
  | some .string, some (.slice e), .t (.str s) => match und P e with
    | some (.int .u8) => some (.val (.hs nid 0), [(nid, .arr 1 0 false (byteCells s))])
    | _ => none
  | some (.slice e), some .string, x => match und P e with
    | some (.int .u8) => match elems g x with
      | some es => (match bytesOf es with
        | some bs => ret (.t (.str bs))
        | none => none)
      | none => none
    | _ => none
  | _, _, _ => none

def storeAt (g : Look) (a : AV) (cs : List AV) : Option Patch :=
  match a with
  | .box id off => match g id with
    | some (.box old) => if off + cs.length ≤ old.length then some [(id, .box (splice old off cs))] else none
    | _ => none
  | .el id ver i off => match g id with
    | some (.arr s ver' false es) => if ver = ver' then match nth es i with
        | some e => if off + cs.length ≤ e.length then match trees cs with
            | some ts => some [(id, .arr s ver' false (setN es i (splice e off ts)))]
            | none => none
          else none
        | none => none
      else none
    | some (.marr s ver' es) => if ver = ver' then match nth es i with
        | some e => if off + cs.length ≤ e.length then some [(id, .marr s ver' (setN es i (splice e off cs)))] else none
        | none => none
      else none
    | _ => none
  | _ => none

/-- A look at the heap behind a patch. -/
def upd (g : Look) : Patch → Look
  | [] => g
  | (id, o) :: ps => upd (fun i => match Nat.beq i id with
    | true => some o
    | false => g i) ps

def hasBody (P : Program) (f : FuncId) : Bool :=
  match nth P.funcs.toList f with
  | some fn => fn.body.isSome && fn.name != "runtime.NumGoroutine"
  | none => false

def versOf (g : Look) : List Nat → List Nat
  | [] => []
  | id :: ids => verOf (g id) :: versOf g ids

/-- What becomes of a call's answer in its caller's heap. -/
def import1 (g1 : Look) (frz : Patch) (nid : Nat) (ids : List Nat) (v : AV) (h' : Heap) : AV × Patch :=
  match plain v, ids, h' with
  | true, [], [] => (v, [])
  | _, _, _ => (back ⟨nth h', ids.length, ids, versOf g1 ids, nid⟩ depth v, frz ++ backAll ⟨nth h', ids.length, ids, versOf g1 ids, nid⟩ 0 h')

/-- A call: what it reaches of the heap goes along, by itself. -/
def callIn (ρ : Oracle) (g1 : Look) (frz : Patch) (nid : Nat) (f : FuncId) (args : List AV) : Res :=
  match reach g1 100000 (refsL g1 args) [] with
  | none => none
  | some ids => match sub g1 ids with
    | none => none
    | some h => match ρ f (renL g1 ids args) h with
      | none => none
      | some (.val v, h') => some (.val (import1 g1 frz nid ids v h').1, (import1 g1 frz nid ids v h').2)
      | some (.pan v, h') => some (.pan (import1 g1 frz nid ids v h').1, (import1 g1 frz nid ids v h').2)

def callF (C : Cfg) (ρ : Oracle) (g : Look) (nid : Nat) (f : FuncId) (args : List AV) : Res :=
  match C.byRef f with
  | true => match hasBody C.P f with
    | true => callIn ρ g [] nid f args
    | false => none
  | false =>
    match C.prim f (args.map (view g)) with
    | some v => match plain v, hasBody C.P f with
      | true, true => ret v
      | _, _ => none
    | none => match hasBody C.P f with
      | true => callIn ρ (upd g (freeze g (catMap (viewed g) args))) (freeze g (catMap (viewed g) args)) nid f (args.map (view g))
      | false => none

def nilcheck : AV → Option AV
  | .box id off => some (.box id off)
  | .el id ver i off => some (.el id ver i off)
  | .rp cs => some (.rp cs)
  | .t (.fn f) => some (.t (.fn f))
  | .fn f a b => some (.fn f a b)
  | _ => none

def purifyAll (g : Look) : List (Nat × AV) → List (Nat × AV) × Patch
  | [] => ([], [])
  | (i, v) :: rest =>
    let (l, p) := purifyAll g rest
    ((i, view g v) :: l, freeze g (viewed g v) ++ p)

def opds (T : Env) : List Operand → List AV
  | [] => []
  | x :: xs => operand T x :: opds T xs

def opdsI (T : Env) : List (Nat × Operand) → List (Nat × AV)
  | [] => []
  | (i, x) :: xs => (i, operand T x) :: opdsI T xs

def xPick (c a b : AV) : Res := match c with
  | .t (.bool true) => ret a
  | .t (.bool false) => ret b
  | _ => none

def xAlloc (P : Program) (nid : Nat) (t : TypeId) : Res := match zeroCells P t with
  | some cs => some (.val (.box nid 0), [(nid, .box cs)])
  | none => none

def xBox (nid : Nat) (x : AV) : Res := match cellsOf x with
  | some cs => some (.val (.box nid 0), [(nid, .box cs)])
  | none => none

/-- An element's zero, where it has as many cells as its type. -/
def zeroElem (P : Program) (t : TypeId) : Option (List AV) :=
  match zeroCells P t, sizeOf? P t with
  | some z, some n => if z.length = n ∧ 0 < n ∧ z.all isCell = true then some z else none
  | _, _ => none

def xBuildSlice (P : Program) (g : Look) (nid : Nat) (t : TypeId) (n : Nat) (parts : List (Nat × AV)) : Res :=
  match und P t with
  | some (.slice elem) => match zeroElem P elem with
    | some zero =>
      if 16777216 < n * zero.length then none else
      match litElems n zero (purifyAll g parts).1 with
      | some es => some (.val (.hs nid 0), (purifyAll g parts).2 ++ [(nid, mkArr zero.length es)])
      | none => none
    | none => none
  | _ => none

def xStore (P : Program) (g : Look) (t : TypeId) (a x : AV) : Res :=
  match sizeOf? P t with
  | some n =>
    let x' : AV × Patch := match a with
      | .el _ _ _ _ => purify g x
      | _ => (x, [])
    match cellsOf x'.1 with
    | some cs => if cs.length = n ∧ cs.all isCell = true then match storeAt (upd g x'.2) a cs with
        | some p => some (.val .nov, x'.2 ++ p)
        | none => none
      else none
    | none => none
  | none => none

def xMakeSlice (P : Program) (nid : Nat) (t : TypeId) (l c : AV) : Res :=
  match und P t, l, c with
  | some (.slice elem), .t (.int _ (.ofNat l)), .t (.int _ (.ofNat c)) => match zeroElem P elem with
    | some zero =>
      if l ≤ c ∧ (l = c ∨ l = 0) ∧ small P elem c = true then some (.val (.hs nid 0), [(nid, mkArr zero.length (List.replicate l zero))]) else none
    | none => none
  | _, _, _ => none

def bound (T : Env) : Option Operand → Option (Option Int)
  | none => some none
  | some x => match operand T x with
    | .t (.int _ n) => some (some n)
    | _ => none

def xSlice (P : Program) (g : Look) (T : Env) (t : TypeId) (x : AV) (lo hi mx : Option Operand) : Res :=
  match bound T lo, bound T hi, bound T mx with
  | some lo, some hi, some mx => retO (slice P g t x lo hi mx)
  | _, _, _ => none

def xFieldAddr (P : Program) (s : TypeId) (x : AV) (f : Nat) : Res :=
  match und P s with
  | some (.struct fields) => match nth fields.toList f with
    | some fd => match sizeOf? P fd.type with
      | some (_ + 1) => retO (addOff fd.offset x)
      | _ => none
    | none => none
  | _ => none

def xField (P : Program) (s : TypeId) (x : AV) (f : Nat) : Res :=
  match und P s with
  | some (.struct fields) => match nth fields.toList f with
    | some fd => match aggCells x with
      | some cs => retO (part P fd.type cs fd.offset)
      | none => none
    | none => none
  | _ => none

def xIndexAddr (P : Program) (g : Look) (t : TypeId) (x i : AV) : Res :=
  match i with
  | .t (.int _ n) => retO (indexAddr P g t x n)
  | _ => none

def xIndex (P : Program) (t : TypeId) (x i : AV) : Res :=
  match i with
  | .t (.int _ n) => retO (index P t x n)
  | _ => none

def xRange (P : Program) (nid : Nat) (t : TypeId) (x : AV) : Res :=
  match und P t, x with
  | some .string, .t (.str s) => some (.val (.box nid 0), [(nid, .siter s 0)])
  | _, _ => none

def xNext (g : Look) (it : AV) : Res :=
  match it with
  | .box id 0 => match g id with
    | some (.siter s pos) =>
      if pos < s.length then
        let cw := Utf8.decode ⟨(s.map UInt8.ofNat).toArray⟩ pos
        some (.val (.tup [.t (.bool true), .t (.int .i64 (.ofNat pos)), .t (.int .i32 (.ofNat cw.1))]), [(id, .siter s (pos + cw.2))])
      else ret (.tup [.t (.bool false)])
    | _ => none
  | _ => none

def xExtract (t : AV) (i : Nat) : Res :=
  match t with
  | .tup vs => retO (nth vs i)
  | _ => none

def xLen (P : Program) (g : Look) (t : TypeId) : List AV → Res
  | [x] => match und P t, x with
    | some (.array n _), _ => ret (.t (.int .i64 (.ofNat n)))
    | some .string, .t (.str s) => ret (.t (.int .i64 (.ofNat s.length)))
    | some (.slice _), x => match lenOf g x with
      | some n => ret (.t (.int .i64 (.ofNat n)))
      | none => none
    | _, _ => none
  | _ => none

def xBuiltin (P : Program) (g : Look) (nid : Nat) (b : Builtin) (ts : List TypeId) (args : List AV) : Res :=
  match b, ts, args with
  | .len, t :: _, args => xLen P g t args
  | .append, [t, t'], [s, x] => append P g nid t t' s x
  | .max, _, x :: rest => retO (maxmin false x rest)
  | .min, _, x :: rest => retO (maxmin true x rest)
  | _, _, _ => none

def xCall (C : Cfg) (ρ : Oracle) (g : Look) (nid : Nat) (T : Env) (c : Call) : Res :=
  match c.callee with
  | .value f => match operand T f with
    | .t (.fn f) => callF C ρ g nid f (opds T c.args.toList)
    | .fn f first captured => callF C ρ g nid f (first ++ (opds T c.args.toList ++ captured))
    | _ => none
  | .builtin b => xBuiltin C.P g nid b c.argTypes.toList (opds T c.args.toList)
  | _ => none

def exec1 (C : Cfg) (ρ : Oracle) (g : Look) (nid : Nat) (T : Env) (o : Oper) : Res :=
  match o.op with
  | .move x | .assign x => ret (operand T x)
  | .pick c a b => xPick (operand T c) (operand T a) (operand T b)
  | .alloc t => xAlloc C.P nid t
  | .box _ x => xBox nid (operand T x)
  | .build t parts => retO (build C.P t (opdsI T parts.toList))
  | .buildSlice t n parts => xBuildSlice C.P g nid t n (opdsI T parts.toList)
  | .load t a => retO (load C.P g t (operand T a))
  | .store t a x => xStore C.P g t (operand T a) (operand T x)
  | .nilCheck x => retO (nilcheck (operand T x))
  | .binOp op t x y _ => retO (binop C.P op t (operand T x) (operand T y))
  | .unOp op _ x => retO (unop op (operand T x))
  | .convert s d x => convert C.P g nid s d (operand T x)
  | .makeFunc (.func f) first captured => ret (.fn f (opds T first.toList) (opds T captured.toList))
  | .makeSlice t l c => xMakeSlice C.P nid t (operand T l) (operand T c)
  | .slice t x lo hi mx => xSlice C.P g T t (operand T x) lo hi mx
  | .fieldAddr s x f => xFieldAddr C.P s (operand T x) f
  | .field s x f => xField C.P s (operand T x) f
  | .indexAddr t x i => xIndexAddr C.P g t (operand T x) (operand T i)
  | .index t x i => xIndex C.P t (operand T x) (operand T i)
  | .range t x => xRange C.P nid t (operand T x)
  | .next it true => xNext g (operand T it)
  | .extract t i => xExtract (operand T t) i
  | .call c => xCall C ρ g nid T c
  | _ => none

/-! ### Regions, code, calls -/

def putT (T : Env) (d : Option Tmp) (v : AV) : Env :=
  match d with
  | some d => (d, v) :: T
  | none => T

/-- An object at a number (behind the heap's end: behind dead ones). -/
def put1 : Heap → Nat → Obj → Heap
  | [], 0, o => [o]
  | [], n + 1, o => .dead :: put1 [] n o
  | _ :: h, 0, o => o :: h
  | a :: h, n + 1, o => a :: put1 h n o

def patch (h : Heap) : Patch → Heap
  | [] => h
  | (id, o) :: ps => patch (put1 h id o) ps

/-- Is it carried out? ('none': it can't be told.) -/
def wanted (ops : List Oper) (T : Env) (o : Oper) : Option Bool :=
  match o.guard with
  | none => some true
  | some (j, want) => match nth ops j with
    | some oj => match oj.dst with
      | some d => match get T d with
        | .t (.bool b) => some (b == want)
        | .nov => some false
        | _ => none
      | none => none
    | none => none

structure Rec where
  reads : List Nat
  v : AV
  p : Patch

def Rec.mods (r : Rec) : List Nat := r.p.map (·.1)

/-- The numbers that a value names, out of date or not. -/
def names : Nat → AV → List Nat
  | 0, _ => []
  | d + 1, v => match v with
    | .box id _ => [id]
    | .el id _ _ _ => [id]
    | .hs id _ => [id]
    | .hsub id _ _ _ => [id]
    | .agg cs => catMap (names d) cs
    | .fn _ a b => catMap (names d) a ++ catMap (names d) b
    | .tup vs => catMap (names d) vs
    | _ => []

def namesL (vs : List AV) : List Nat := catMap (names depth) vs

def namesO : Obj → List Nat
  | .box cs => namesL cs
  | .marr _ _ es => catMap namesL es
  | _ => []

def namesAt (g : Look) (id : Nat) : List Nat :=
  match g id with
  | some o => namesO o
  | none => []

/-- The numbers of the heap's objects that a call looks at. -/
def footIn (g1 : Look) (args : List AV) : List Nat :=
  match reach g1 100000 (refsL g1 args) [] with
  | none => []
  | some ids => ids ++ catMap (namesAt g1) ids

def footF (C : Cfg) (g : Look) (f : FuncId) (args : List AV) : List Nat :=
  match C.byRef f with
  | true => namesL args ++ footIn g args
  | false => namesL args ++ match C.prim f (args.map (view g)) with
    | some _ => []
    | none => footIn (upd g (freeze g (catMap (viewed g) args))) (args.map (view g))

/-- The numbers of the heap's objects that an operation looks at. -/
def foot (C : Cfg) (g : Look) (T : Env) (o : Oper) : List Nat :=
  match o.op with
  | .load _ a => names depth (operand T a)
  | .store _ a x => names depth (operand T a) ++ names depth (operand T x)
  | .convert _ _ x => names depth (operand T x)
  | .slice _ x _ _ _ => names depth (operand T x)
  | .indexAddr _ x _ => names depth (operand T x)
  | .next it _ => names depth (operand T it)
  | .buildSlice _ _ parts => namesL ((opdsI T parts.toList).map (·.2))
  | .call c => match c.callee with
    | .value f => match operand T f with
      | .t (.fn f) => footF C g f (opds T c.args.toList)
      | .fn f first captured => footF C g f (first ++ (opds T c.args.toList ++ captured))
      | _ => []
    | .builtin _ => namesL (opds T c.args.toList)
    | _ => []
  | _ => []

/-- What a region comes to: none: it goes on; a panic's value: it ends there. -/
def runOps (C : Cfg) (ρ : Oracle) (ops : List Oper) : List Oper → Env → Heap → Option (Option AV × Env × Heap)
  | [], T, h => some (none, T, h)
  | o :: rest, T, h => match wanted ops T o with
    | none => none
    | some false => runOps C ρ ops rest (putT T o.dst .nov) h
    | some true => match exec1 C ρ (nth h) h.length T o with
      | none => none
      | some (.pan v, p) => some (some v, T, patch h p)
      | some (.val v, p) => runOps C ρ ops rest (putT T o.dst v) (patch h p)

/-- A patch leaves no number out behind the heap's end. -/
def gapless : Nat → Patch → Bool
  | _, [] => true
  | n, (id, _) :: p => match Nat.blt id n with
    | true => gapless n p
    | false => match Nat.beq id n with
      | true => gapless (n + 1) p
      | false => false

/-- The same, with a record of what each has looked at and written to. -/
def runRec (C : Cfg) (ρ : Oracle) (ops : List Oper) : List Oper → Env → Heap → Option (List Rec × Env × Heap)
  | [], T, h => some ([], T, h)
  | o :: rest, T, h => match wanted ops T o with
    | none => none
    | some false => match runRec C ρ ops rest (putT T o.dst .nov) h with
      | none => none
      | some (l, T', h') => some (⟨[], .nov, []⟩ :: l, T', h')
    | some true => match exec1 C ρ (nth h) h.length T o with
      | none => none
      | some (.pan _, _) => none
      | some (.val v, p) => match gapless h.length p with
        | false => none
        | true => match runRec C ρ ops rest (putT T o.dst v) (patch h p) with
          | none => none
          | some (l, T', h') => some (⟨foot C (nth h) T o, v, p⟩ :: l, T', h')

def apartL (a b : List Nat) : Bool := a.all fun x => !mem x b

def clash (a b : Rec) : Bool := !(apartL a.mods b.reads && apartL a.reads b.mods && apartL a.mods b.mods)

def busy (a : Rec) : Bool := !(a.reads.isEmpty && a.p.isEmpty)

def quietR : List (Rec × Nat) → List (Rec × Nat)
  | [] => []
  | (a, i) :: rest => match busy a with
    | true => (a, i) :: quietR rest
    | false => quietR rest

def number : Nat → List Rec → List (Rec × Nat)
  | _, [] => []
  | i, a :: rest => (a, i) :: number (i + 1) rest

/-- No two operations whose order is open get in each other's way. -/
def calm (before : List Nat) : List (Rec × Nat) → Bool
  | [] => true
  | (a, i) :: rest => (rest.all fun (b, j) => (getN before j).testBit i || !clash a b) && calm before rest

/-- Which operations surely come before one: a number's bits. -/
def maskOf (masks : List Nat) : List Edge → Nat
  | [] => 0
  | e :: es => match Region.binds .any e with
    | true => Nat.lor (Nat.lor (Nat.shiftLeft 1 e.on) (getN masks e.on)) (maskOf masks es)
    | false => maskOf masks es

/-- For each operation of a region. (acc: those so far.) -/
def masksFrom : List Nat → List Oper → List Nat
  | acc, [] => acc
  | acc, o :: os => match maskOf acc o.after.toList with
    | n => masksFrom (acc ++ [n]) os

def masks (ops : List Oper) : List Nat := masksFrom [] ops

/-- Edges go back. -/
def edgesOK : Nat → List Oper → Bool
  | _, [] => true
  | i, o :: os => (o.after.toList.all fun e => !Region.binds .any e || Nat.blt e.on i) && edgesOK (i + 1) os

/-- The temporaries that an operation names: its own, its operands, its guard's. -/
def tmpsOf : List Operand → List Nat
  | [] => []
  | .tmp t :: xs => t :: tmpsOf xs
  | _ :: xs => tmpsOf xs

def guardT (ops : List Oper) (o : Oper) : List Nat :=
  match o.guard with
  | none => []
  | some (j, _) => match nth ops j with
    | some oj => match oj.dst with
      | some d => [d]
      | none => []
    | none => []

def looks (ops : List Oper) (o : Oper) : List Nat := tmpsOf o.op.operands.toList ++ guardT ops o

def apartT (ops : List Oper) (x y : Oper) : Bool :=
  match x.dst with
  | some d => !mem d (looks ops y) && (match y.dst with
    | some e => !Nat.beq d e
    | none => true)
  | none => true

def staticFrom (ops : List Oper) (ms : List Nat) : Nat → List Oper → Bool
  | _, [] => true
  | i, a :: rest => go i a (i + 1) rest && staticFrom ops ms (i + 1) rest
where
  go (i : Nat) (a : Oper) : Nat → List Oper → Bool
    | _, [] => true
    | j, b :: rest => ((getN ms j).testBit i || (apartT ops a b && apartT ops b a)) && go i a (j + 1) rest

/-- No two operations whose order is open write to, or write and look at, one temporary. -/
def static (ops : List Oper) : Bool := edgesOK 0 ops && staticFrom ops (masks ops) 0 ops

/-- An operation writes only to the temporaries that there are. -/
def dstOK (k : Nat) : List Oper → Bool
  | [] => true
  | o :: os => match o.dst with
    | some d => match Nat.blt d k with
      | true => dstOK k os
      | false => false
    | none => dstOK k os

inductive Ex where
  | normal
  | exit (id : Nat)
  | ret
  | pan (v : AV)
  deriving Inhabited

structure St where
  T : Env
  h : Heap
  deriving Inhabited

def region (C : Cfg) (ρ : Oracle) (k : Nat) (ops : List Oper) (draw : Bool) (st : St) : Option (Ex × St) :=
  match dstOK k ops with
  | false => none
  | true => match draw with
    | true => match static ops, runRec C ρ ops ops st.T st.h with
      | true, some (l, T, h) => match calm (masks ops) (quietR (number 0 l)) with
        | true => some (.normal, ⟨T, h⟩)
        | false => none
      | _, _ => none
    | false => match runOps C ρ ops ops st.T st.h with
      | none => none
      | some (none, T, h) => some (.normal, ⟨T, h⟩)
      | some (some v, T, h) => some (.pan v, ⟨T, h⟩)

def firstRegion : Code → Option Nat
  | .region id _ _ => some id
  | .seq a b => match firstRegion a with
    | some id => some id
    | none => firstRegion b
  | .cond _ a b => match firstRegion a with
    | some id => some id
    | none => firstRegion b
  | .block _ b => firstRegion b
  | .loop b => firstRegion b
  | .scope b => firstRegion b
  | _ => none

/-- At a loop's head: what is still wanted, and the heap in its canonical form. -/
def tidy (m : Nat) (keep : Option (List Nat)) (st : St) : Option St :=
  match keep with
  | none => some st
  | some ks =>
    match canon st.h m (ks.map (get st.T)) with
    | some (vs, h) => some ⟨ks.zip vs, h⟩
    | none => none

def iter (gc : St → Option St) (body : St → Option (Ex × St)) : Nat → St → Option (Ex × St)
  | 0, _ => none
  | n + 1, st => match gc st with
    | none => none
    | some st => match body st with
      | some (.normal, st) => iter gc body n st
      | r => r

def exec (C : Cfg) (ρ : Oracle) (n m k : Nat) (keep : Nat → Option (List Nat)) : Code → St → Option (Ex × St)
  | .skip, st => some (.normal, st)
  | .region _ ops draw, st => region C ρ k ops.toList draw st
  | .seq a b, st => match exec C ρ n m k keep a st with
    | some (.normal, st) => exec C ρ n m k keep b st
    | r => r
  | .cond c a b, st => match operand st.T c with
    | .t (.bool true) => exec C ρ n m k keep a st
    | .t (.bool false) => exec C ρ n m k keep b st
    | _ => none
  | .block id b, st => match exec C ρ n m k keep b st with
    | some (.exit id', st) => if id' = id then some (.normal, st) else some (.exit id', st)
    | r => r
  | .loop b, st => iter (tidy m (match firstRegion b with
      | some r => keep r
      | none => none)) (exec C ρ n m k keep b) n st
  | .exit id, st => some (.exit id, st)
  | .scope b, st => exec C ρ n m k keep b st
  | .label _, st => some (.normal, st)
  | .ret, st => some (.ret, st)
  | _, _ => none

def resultOf (P : Program) (st : St) : ResultVar → Option AV
  | .tmp t => some (get st.T t)
  | .cell a t => load P (nth st.h) t (get st.T a)

def resultsOf (P : Program) (st : St) : List ResultVar → Option (List AV)
  | [] => some []
  | r :: rs => match resultOf P st r with
    | none => none
    | some v => match resultsOf P st rs with
      | none => none
      | some vs => some (v :: vs)

def results (P : Program) (fn : Func) (st : St) : Option AV :=
  match resultsOf P st fn.results.toList with
  | some [v] => some v
  | some vs => some (.tup vs)
  | none => none

def viewedO (g : Look) : AV → List Nat
  | .tup vs => catMap (viewed g) vs
  | v => viewed g v

def finish (C : Cfg) (f : FuncId) (m : Nat) (v : AV) (h : Heap) : Option (AV × Heap) :=
  match C.thaw f with
  | true => match canon h m [v] with
    | some ([v], h) => some (v, h)
    | _ => none
  | false => match canon (patch h (freeze (nth h) (viewedO (nth h) v))) m [exports (nth h) v] with
    | some ([v], h) => some (v, h)
    | _ => none

def argsT : Nat → List AV → Env
  | _, [] => []
  | i, v :: vs => (i, v) :: argsT (i + 1) vs

/-- One call, within which calls are asked of an oracle. -/
def callS (C : Cfg) (ρ : Oracle) (n : Nat) (f : FuncId) (args : List AV) (h : Heap) : Option (Out × Heap) :=
  match nth C.P.funcs.toList f with
  | none => none
  | some fn => match fn.body with
    | none => none
    | some c =>
      match exec C ρ n h.length fn.ntmps (C.keep f) c ⟨argsT 0 args, h⟩ with
      | some (.normal, st) | some (.ret, st) => match results C.P fn st with
        | none => none
        | some v => match finish C f h.length v st.h with
          | some (v, h) => some (.val v, h)
          | none => none
      | some (.pan v, st) => match finish C f h.length v st.h with
        | some (v, h) => some (.pan v, h)
        | none => none
      | _ => none

def callN (C : Cfg) : Nat → Oracle
  | 0, _, _, _ => none
  | n + 1, f, args, h => callS C (callN C n) n f args h

/-- The same with a table of calls that are known. -/
def callK (C : Cfg) (tbl : Oracle) : Nat → Oracle
  | 0, _, _, _ => none
  | n + 1, f, args, h => match tbl f args h with
    | some r => some r
    | none => callS C (callK C tbl n) n f args h

end Go.Ab
