/- The program's data as Lean's, and their trees; rules for the evaluator's steps on them. -/
import Derived.Test.YtchkgfmmfdineaaGreatAbWp
namespace Go.Ab

theorem blt_dec (a b : Nat) : Nat.blt a b = decide (a < b) := by
  cases h : Nat.blt a b with
  | true => rw [Nat.blt_eq] at h; simp [h]
  | false =>
    have : ¬ a < b := fun hh => by rw [← Nat.blt_eq, h] at hh; cases hh
    simp [this]
theorem beq_dec (a b : Nat) : Nat.beq a b = decide (a = b) := by
  cases h : Nat.beq a b with
  | true => simp [Nat.eq_of_beq_eq_true h]
  | false => simp [Nat.ne_of_beq_eq_false h]
theorem ofSem_pure (v : Value) : ofSem (pure v) = unscal v := rfl
theorem finish_tree (C : Cfg) (f : FuncId) (x : Tree) : finish C f 0 (.t x) [] = some (.t x, []) := by
  unfold finish; cases C.thaw f <;> rfl

theorem finish_tree' (C : Cfg) (f : FuncId) (x : Tree) (h : Heap) : finish C f 0 (.t x) h = some (.t x, []) := by
  unfold finish; cases C.thaw f <;> rfl

theorem idx_nat {α : Type} (l : List α) (n : Nat) : idx l (n : Int) = l[n]? := by
  show nth l n = _
  exact nth_eq l n

theorem wrap64 {x : Int} (h : -9223372036854775808 ≤ x) (h' : x < 9223372036854775808) : IntKind.i64.wrap x = x := by
  simp only [IntKind.wrap, IntKind.signed, IntKind.bits]
  simp only [Bool.true_and]
  split <;> rename_i h1 <;> simp at h1 <;> omega

/-! ### Numbers -/

section
variable (P : Program) (t : TypeId) (a b : Int)
theorem i64_add : binop P .add t (.t (.int .i64 a)) (.t (.int .i64 b)) = some (.t (.int .i64 (IntKind.i64.wrap (a + b)))) := rfl
theorem i64_sub : binop P .sub t (.t (.int .i64 a)) (.t (.int .i64 b)) = some (.t (.int .i64 (IntKind.i64.wrap (a - b)))) := rfl
theorem i64_mul : binop P .mul t (.t (.int .i64 a)) (.t (.int .i64 b)) = some (.t (.int .i64 (IntKind.i64.wrap (a * b)))) := rfl
theorem int_lss (k : IntKind) : binop P .lss t (.t (.int k a)) (.t (.int k b)) = some (.t (.bool (decide (a < b)))) := by
  simp [binop, Go.binOp, Op.intCmp, ofSem_pure, unscal]
theorem int_leq (k : IntKind) : binop P .leq t (.t (.int k a)) (.t (.int k b)) = some (.t (.bool (decide (a ≤ b)))) := by
  simp [binop, Go.binOp, Op.intCmp, ofSem_pure, unscal]
theorem int_gtr (k : IntKind) : binop P .gtr t (.t (.int k a)) (.t (.int k b)) = some (.t (.bool (decide (a > b)))) := by
  simp [binop, Go.binOp, Op.intCmp, ofSem_pure, unscal]
theorem int_geq (k : IntKind) : binop P .geq t (.t (.int k a)) (.t (.int k b)) = some (.t (.bool (decide (a ≥ b)))) := by
  simp [binop, Go.binOp, Op.intCmp, ofSem_pure, unscal]
theorem int_eql (k : IntKind) : binop P .eql t (.t (.int k a)) (.t (.int k b)) = some (.t (.bool (a == b))) := by
  simp [binop, Go.binOp, Op.intCmp, ofSem_pure, unscal]
theorem int_neq (k : IntKind) : binop P .neq t (.t (.int k a)) (.t (.int k b)) = some (.t (.bool (a != b))) := by
  simp [binop, Go.binOp, Op.intCmp, ofSem_pure, unscal]
theorem str_eql (x y : List Nat) : binop P .eql t (.t (.str x)) (.t (.str y)) = some (.t (.bool (beqL x y))) := rfl
theorem str_neq (x y : List Nat) : binop P .neq t (.t (.str x)) (.t (.str y)) = some (.t (.bool (!beqL x y))) := rfl
theorem not_bool (x : Bool) : unop .not (.t (.bool x)) = some (.t (.bool (!x))) := by
  simp [unop, scal, Op.unary, ofSem_pure, unscal]
theorem bool_eql (x y : Bool) (h : und P t = some .bool) : binop P .eql t (.t (.bool x)) (.t (.bool y)) = some (.t (.bool (x == y))) := by
  simp only [binop, h]
theorem bool_neq (x y : Bool) (h : und P t = some .bool) : binop P .neq t (.t (.bool x)) (.t (.bool y)) = some (.t (.bool (!(x == y)))) := by
  simp only [binop, h]
end

/-! ### == of structs -/
def eqStep (P : Program) (eq : TypeId → Tree → Tree → Option Bool) (u off : Nat) (xs ys : List Tree) (rest : Option Bool) : Option Bool :=
  match partT P u xs off, partT P u ys off with
  | some x, some y => match eq u x y with
    | some true => rest
    | some false => some false
    | none => none
  | _, _ => none

section
variable (P : Program) (t : TypeId) (d : Nat)
theorem eq_int (k : IntKind) (a b : Int) (h : und P t = some (.int k)) : equal P (d + 1) t (.int k a) (.int k b) = some (a == b) := by
  simp only [equal, h, if_true]
theorem eq_bool (a b : Bool) (h : und P t = some .bool) : equal P (d + 1) t (.bool a) (.bool b) = some (a == b) := by
  simp only [equal, h]
theorem eq_str (a b : List Nat) (h : und P t = some .string) : equal P (d + 1) t (.str a) (.str b) = some (beqL a b) := by
  simp only [equal, h]
theorem agg_eql (xs ys : List Tree) (h : guarded P 50 t = false) : binop P .eql t (.t (.agg xs)) (.t (.agg ys)) = (equal P 100 t (.agg xs) (.agg ys)).map fun b => .t (.bool b) := by
  simp only [binop, h, Bool.false_eq_true, if_false]
theorem agg_neq (xs ys : List Tree) (h : guarded P 50 t = false) : binop P .neq t (.t (.agg xs)) (.t (.agg ys)) = (equal P 100 t (.agg xs) (.agg ys)).map fun b => .t (.bool !b) := by
  simp only [binop, h, Bool.false_eq_true, if_false]
theorem stepB (x : Bool) (r : Bool) : (match (some x : Option Bool) with | some true => some r | some false => some false | none => none) = some (x && r) := by cases x <;> rfl
end

/-! ### Steps -/
section
variable {C : Cfg} {m k : Nat} {keep : Nat → Option (List Nat)} {st : St} {Q : Ex → St → Prop} {b : Code} {ks : Option (List Nat)} {Inv : Nat → St → Prop} {d : Nat}
theorem thenW_normal (h : W C m k keep b st Q) : thenW C m k keep b Q .normal st := h
theorem thenW_exit {id : Nat} (h : Q (.exit id) st) : thenW C m k keep b Q (.exit id) st := h
theorem thenW_ret (h : Q .ret st) : thenW C m k keep b Q .ret st := h
theorem thenW_pan {v : AV} (h : Q (.pan v) st) : thenW C m k keep b Q (.pan v) st := h
theorem outOf_normal {id : Nat} (h : Q .normal st) : outOf id Q .normal st := h
theorem outOf_ret {id : Nat} (h : Q .ret st) : outOf id Q .ret st := h
theorem outOf_pan {id : Nat} {v : AV} (h : Q (.pan v) st) : outOf id Q (.pan v) st := h
theorem outOf_eq {id : Nat} (h : Q .normal st) : outOf id Q (.exit id) st := by
  show if id = id then Q .normal st else Q (.exit id) st
  rw [if_pos rfl]; exact h
theorem outOf_ne {id id' : Nat} (hn : Nat.beq id' id = false) (h : Q (.exit id') st) : outOf id Q (.exit id') st := by
  show if id' = id then Q .normal st else Q (.exit id') st
  rw [if_neg (Nat.ne_of_beq_eq_false hn)]; exact h
theorem round_exit {id : Nat} (h : Q (.exit id) st) : round m ks Inv d Q (.exit id) st := h
theorem round_ret (h : Q .ret st) : round m ks Inv d Q .ret st := h
theorem round_pan {v : AV} (h : Q (.pan v) st) : round m ks Inv d Q (.pan v) st := h
theorem round_normal {st' : St} {d' : Nat} (hd : d' < d) (ht : tidy m ks st = some st') (h : Inv d' st') : round m ks Inv d Q .normal st := ⟨d', hd, st', ht, h⟩

theorem W_run {id : Nat} {ops : Array Oper} {T : Env} {h : Heap} (hd : dstOK k ops.toList = true) (hr : runOps C (Om C) ops.toList ops.toList st.T st.h = some (none, T, h)) (hq : Q .normal ⟨T, h⟩) :
    W C m k keep (.region id ops false) st Q := W_region (by simp only [region, hd, hr]) hq

theorem W_drawn {id : Nat} {ops : Array Oper} {l : List Rec} {T : Env} {h : Heap} (hs : static ops.toList = true) (hd : dstOK k ops.toList = true) (hr : runRec C (Om C) ops.toList ops.toList st.T st.h = some (l, T, h))
    (hc : calm (masks ops.toList) (quietR (number 0 l)) = true) (hq : Q .normal ⟨T, h⟩) :
    W C m k keep (.region id ops true) st Q := W_region (by simp only [region, hd, hs, hr, hc]) hq
end

section
variable {C : Cfg} {m k : Nat} {keep : Nat → Option (List Nat)} {st : St} {Q : Ex → St → Prop} {b : Code}
/-- Behind a round: another one, of a lesser measure; or out. -/
def again {α : Type} (m : Nat) (ks : Option (List Nat)) (S : α → St) (μ : α → Nat) (P : α → Prop) (a : α) (Q : Ex → St → Prop) : Ex → St → Prop
  | .normal, st => ∃ a', μ a' < μ a ∧ P a' ∧ tidy m ks st = some (S a')
  | e, st => Q e st

theorem W_rounds {α : Type} (S : α → St) (μ : α → Nat) (P : α → Prop) (a0 : α) (h0 : tidy m (loopKeep keep b) st = some (S a0)) (p0 : P a0)
    (step : ∀ a, P a → W C m k keep b (S a) (again m (loopKeep keep b) S μ P a Q)) : W C m k keep (.loop b) st Q := by
  refine W_loop (fun d st => ∃ a, μ a = d ∧ P a ∧ st = S a) (μ a0) h0 ⟨a0, rfl, p0, rfl⟩ fun d st1 h => ?_
  obtain ⟨a, rfl, hp, rfl⟩ := h
  refine (step a hp).mono fun e st2 hq => ?_
  cases e with
  | normal => obtain ⟨a', h1, h2, h3⟩ := hq; exact ⟨_, h1, _, h3, a', rfl, h2, rfl⟩
  | exit id => exact hq
  | ret => exact hq
  | pan v => exact hq

variable {α : Type} {ks : Option (List Nat)} {S : α → St} {μ : α → Nat} {P : α → Prop} {a : α}
theorem again_exit {id : Nat} (h : Q (.exit id) st) : again m ks S μ P a Q (.exit id) st := h
theorem again_ret (h : Q .ret st) : again m ks S μ P a Q .ret st := h
theorem again_pan {v : AV} (h : Q (.pan v) st) : again m ks S μ P a Q (.pan v) st := h
theorem again_normal (a' : α) (h1 : μ a' < μ a) (h2 : P a') (h3 : tidy m ks st = some (S a')) : again m ks S μ P a Q .normal st := ⟨a', h1, h2, h3⟩
end

/-- How a call ends that answers so. -/
def Ends' (C : Cfg) (f : FuncId) (fn : Func) (m : Nat) (v' : AV) (h' : Heap) : Ex → St → Prop
  | .normal, st => ∃ v, results C.P fn st = some v ∧ finish C f m v st.h = some (v', h')
  | .ret, st => ∃ v, results C.P fn st = some v ∧ finish C f m v st.h = some (v', h')
  | _, _ => False

theorem call_eq {C : Cfg} {f : FuncId} {fn : Func} {c : Code} {args : List AV} {h : Heap} {v' : AV} {h' : Heap} (hf : nth C.P.funcs.toList f = some fn) (hb : fn.body = some c)
    (hw : W C h.length fn.ntmps (C.keep f) c ⟨argsT 0 args, h⟩ (Ends' C f fn h.length v' h')) : Om C f args h = some (.val v', h') := by
  obtain ⟨o, h1, h2, rfl, rfl⟩ := call_of_W (R := fun o h1 => o = .val v' ∧ h1 = h') hf hb (hw.mono fun e st hq => by
    cases e with
    | normal => obtain ⟨v, h1, h2⟩ := hq; exact ⟨v, h1, v', h', h2, rfl, rfl⟩
    | ret => obtain ⟨v, h1, h2⟩ := hq; exact ⟨v, h1, v', h', h2, rfl, rfl⟩
    | exit id => exact hq
    | pan v => exact hq.elim)
  exact h2

/-! ### Data -/

structure Sl (α : Type) where
  nl : Bool
  cl : Bool
  l : List α
def Sl.t {α : Type} (f : α → List Tree) (s : Sl α) : Tree := .sl s.nl s.cl (s.l.map f)

structure Val where
  k : Int
  n : Int
  s : List Nat
  deriving DecidableEq
def Val.c (v : Val) : List Tree := [.int .u8 v.k, .int .i64 v.n, .str v.s]

structure Slot where
  name : List Nat
  kind : Int
def Slot.c (s : Slot) : List Tree := [.str s.name, .int .u8 s.kind]

structure Tpl where
  name : List Nat
  slots : Sl Slot
def Tpl.c (t : Tpl) : List Tree := [.str t.name, t.slots.t Slot.c]

structure Fact where
  id : Int
  tp : Int
  s : Sl Val
def Fact.c (f : Fact) : List Tree := [.int .i64 f.id, .int .i64 f.tp, f.s.t Val.c]

theorem lens_map {α : Type} (f : α → List Tree) (n : Nat) (h : ∀ a, (f a).length = n) (l : List α) : lens n (l.map f) = true := by
  simp [lens, h]

structure Bind where
  name : List Nat
  v : Val
  deriving DecidableEq
def Bind.c (b : Bind) : List Tree := .str b.name :: b.v.c

def intC (n : Int) : List Tree := [.int .i64 n]

structure Node where
  op : Int
  v : Val
  name : List Nat
  kids : Sl Int
  line : Int
  col : Int
def Node.c (x : Node) : List Tree := [.int .u8 x.op, .int .u8 x.v.k, .int .i64 x.v.n, .str x.v.s, .str x.name, x.kids.t intC, .int .i64 x.line, .int .i64 x.col]

structure Test where
  op : Int
  a : Sl Node
  b : Sl Node
  low : Bool
  high : Bool
  kids : Sl Int
  line : Int
  col : Int
def Test.c (x : Test) : List Tree := [.int .u8 x.op, x.a.t Node.c, x.b.t Node.c, .bool x.low, .bool x.high, x.kids.t intC, .int .i64 x.line, .int .i64 x.col]

structure STest where
  slot : List Nat
  test : Sl Test
  line : Int
  col : Int
def STest.c (x : STest) : List Tree := [.str x.slot, x.test.t Test.c, .int .i64 x.line, .int .i64 x.col]

structure Pat where
  name : List Nat
  t : List Nat
  slots : Sl STest
  line : Int
  col : Int
def Pat.c (x : Pat) : List Tree := [.str x.name, .str x.t, x.slots.t STest.c, .int .i64 x.line, .int .i64 x.col]

end Go.Ab
