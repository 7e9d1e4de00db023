/- The plain law: what tests and patterns come to hangs on what being alike compares. -/
import Derived.Test.YtchkgfmmfdineaaGreatG04
import Derived.Test.YtchkgfmmfdineaaGreatG02
namespace Go.Ab
open Go.Proofs
set_option maxRecDepth 100000
set_option linter.unusedSimpArgs false
set_option linter.unusedVariables false

/-- A test without its place, and without what tells nil from empty. -/
structure STst where
  op : Int
  a : List SNode
  b : List SNode
  low : Bool
  high : Bool
  kids : List Int
def Test.s (x : Test) : STst := ⟨x.op, x.a.l.map Node.s, x.b.l.map Node.s, x.low, x.high, x.kids.l⟩

theorem eqBy_iff {α β : Type} {f : α → α → Bool} {g : α → β} (h : ∀ a b, f a b = true ↔ g a = g b) : ∀ l r : List α, eqBy f l r = true ↔ l.map g = r.map g
  | [], [] => by simp [eqBy]
  | [], _ :: _ => by simp [eqBy]
  | _ :: _, [] => by simp [eqBy]
  | a :: l, b :: r => by
    simp only [eqBy, Bool.and_eq_true, List.map_cons, List.cons.injEq]
    rw [h, eqBy_iff h l r]
theorem sameN_iff (a b : Node) : sameN a b = true ↔ a.s = b.s := by
  simp only [sameN, Node.s, Bool.and_eq_true, beq_iff_eq, decide_eq_true_eq, beqL_eq, eqI, SNode.mk.injEq]
theorem sameT_iff (a b : Test) : sameT a b = true ↔ a.s = b.s := by
  simp only [sameT, Test.s, Bool.and_eq_true, beq_iff_eq, decide_eq_true_eq, eqI, STst.mk.injEq, eqBy_iff sameN_iff]
  constructor
  · rintro ⟨h1, h2, h3, h4, h5, h6⟩; exact ⟨h1, h5, h6, h2, h3, h4⟩
  · rintro ⟨h1, h5, h6, h2, h3, h4⟩; exact ⟨h1, h2, h3, h4, h5, h6⟩

/-! ### A test's value -/

def askedS (op : Int) (l : List SNode) : List SNode := l ++ [⟨3, Zero, [], []⟩, ⟨op, Zero, [], [(l.length : Int), (l.length : Int) - 1]⟩]
theorem askedS_eq (op : Int) (l : List Node) : (askedN op l).map Node.s = askedS op (l.map Node.s) := by
  simp [askedN, askedS, Node.s]
def partsS (x : STst) : List (Int × List SNode) :=
  if x.op = 7 then [(if x.low then 11 else 12, x.a), (if x.high then 9 else 10, x.b)] else match signOf x.op with
    | some s => [(s, x.a)]
    | none => []
theorem partsS_eq (x : Test) : partsS x.s = (partsL x).map fun p => (p.1, p.2.l.map Node.s) := by
  unfold partsS partsL Test.s
  dsimp only
  split
  · rfl
  · cases signOf x.op <;> rfl
/-- One of a test's kids. -/
def kidT (al : List Ans) (k : Int) : Ans := if k < 0 ∨ k ≥ al.length then AZero else getA al k.toNat
def kidsT (al : List Ans) (ks : List Int) : List Ans := if ks = [] then [AZero] else ks.map (kidT al)
noncomputable def madeS (x : STst) (self : Val) (vars : List Bind) : List Ans := (partsS x).map fun p => EvalA (askedS p.1 p.2) self vars
noncomputable def restS (op : Int) (kl : List Ans) : Ans :=
  if op = 1 then ⟨⟨4, 1, []⟩, 0⟩ else if op = 8 then NotU (getA kl 0) else if op = 9 then (kl.drop 1).foldl BothAny (getA kl 0) else ⟨Zero, 2⟩
noncomputable def testS (x : STst) (al : List Ans) (self : Val) (vars : List Bind) : Ans :=
  match madeS x self vars with
  | [a] => a
  | [a, b] => BothAll a b
  | _ => restS x.op (kidsT al x.kids)
/-- The answers of the first tests. -/
noncomputable def testN (ts : List STst) (self : Val) (vars : List Bind) : Nat → List Ans
  | 0 => []
  | i + 1 => testN ts self vars i ++ [match ts[i]? with
    | some x => testS x (testN ts self vars i) self vars
    | none => AZero]
noncomputable def lastE (l : List Ans) : Ans := l.getLast?.getD ⟨Zero, 2⟩
noncomputable def TestsA (ts : List STst) (self : Val) (vars : List Bind) : Ans := lastE (testN ts self vars ts.length)
theorem testN_length (ts : List STst) (self : Val) (vars : List Bind) : ∀ i, (testN ts self vars i).length = i
  | 0 => rfl
  | i + 1 => by simp [testN, testN_length ts self vars i]
theorem lastE_snoc (l : List Ans) (a : Ans) : lastE (l ++ [a]) = a := by simp [lastE]

/-! ### A pattern -/

def varS (t : List STst) : List Nat × Bool := match t with
  | [x] => if x.op = 2 then (match x.a with | [n] => if n.op = 2 then (n.name, true) else ([], false) | _ => ([], false)) else ([], false)
  | _ => ([], false)

noncomputable def stepS (t : Tpl) (f : Fact) (slot : List Nat) (ts : List STst) (out : List Bind) : Option (List Bind) :=
  if (atA t f slot).2 = false then none
  else if (varS ts).2 then
    (if (boundA (varS ts).1 out).2 = false then some (out ++ [⟨(varS ts).1, (atA t f slot).1⟩])
     else if (boundA (varS ts).1 out).1 = (atA t f slot).1 then some out else none)
  else if PassV (TestsA ts (atA t f slot).1 out) then some out else none
noncomputable def passS (t : Tpl) (f : Fact) : List (List Nat × List STst) → List Bind → Option (List Bind)
  | [], out => some out
  | s :: r, out => match stepS t f s.1 s.2 out with
    | none => none
    | some o => passS t f r o
def STest.s (x : STest) : List Nat × List STst := (x.slot, x.test.l.map Test.s)
/-- The first slots of a pattern. -/
theorem passS_snoc (t : Tpl) (f : Fact) : ∀ (l : List (List Nat × List STst)) (s : List Nat × List STst) (out : List Bind),
    passS t f (l ++ [s]) out = (passS t f l out).bind fun o => stepS t f s.1 s.2 o
  | [], s, out => by
    simp only [List.nil_append, passS, Option.bind_some]
    cases stepS t f s.1 s.2 out <;> rfl
  | x :: l, s, out => by
    simp only [List.cons_append, passS]
    cases h : stepS t f x.1 x.2 out with
    | none => rfl
    | some o => exact passS_snoc t f l s o
theorem passS_none (t : Tpl) (f : Fact) : ∀ (l r : List (List Nat × List STst)) (out : List Bind), passS t f l out = none → passS t f (l ++ r) out = none
  | [], r, out, h => by cases h
  | x :: l, r, out, h => by
    simp only [List.cons_append, passS] at h ⊢
    cases hs : stepS t f x.1 x.2 out with
    | none => rfl
    | some o => rw [hs] at h; exact passS_none t f l r o h

def sameS (a b : STest) : Bool := beqL a.slot b.slot && eqBy sameT a.test.l b.test.l
theorem sameS_iff (a b : STest) : sameS a b = true ↔ a.s = b.s := by
  simp only [sameS, STest.s, Bool.and_eq_true, beqL_eq, decide_eq_true_eq, Prod.mk.injEq, eqBy_iff sameT_iff]
def alikeP (p q : Pat) : Bool := beqL p.t q.t && eqBy sameS p.slots.l q.slots.l
theorem alikeP_iff (p q : Pat) : alikeP p q = true ↔ p.t = q.t ∧ p.slots.l.map STest.s = q.slots.l.map STest.s := by
  simp only [alikeP, Bool.and_eq_true, beqL_eq, decide_eq_true_eq, eqBy_iff sameS_iff]

theorem varS_eq (t : List Test) : varS (t.map Test.s) = varOf t := by
  match t with
  | [] => rfl
  | _ :: _ :: _ => rfl
  | [x] =>
    simp only [List.map_cons, List.map_nil, varS, varOf, Test.s]
    match x.a.l with
    | [] => rfl
    | _ :: _ :: _ => rfl
    | [n] => rfl
end Go.Ab
/- Layer 11 (unary): a test's value: a function of the test without its place. -/
namespace Go.Ab
open Go.Proofs
set_option maxRecDepth 100000
set_option maxHeartbeats 4000000
set_option linter.unusedSimpArgs false
set_option linter.unusedVariables false


/-- What is asked of an expression of a test. -/
structure XOK (T : Sl Node) : Prop where
  nil : T.nl = true → T.l = []
  len : T.l.length < 4294967000
  kids : ∀ x ∈ T.l, x.kids.l.length < 4294967295
  val : ∀ x ∈ T.l, VOK x.v
/-- What is asked of a test. -/
structure TOK (x : Test) : Prop where
  a : XOK x.a
  b : XOK x.b
  kids : x.kids.l.length < 4294967295

/-- One comparison: the expression with self, and its value. -/
theorem made_ok (s : Int) (T : Sl Node) (self : Val) (vnl vcl : Bool) (vars : List Bind) (hT : XOK T) (hs : VOK self) (hv : ∀ b ∈ vars, VOK b.v) (hvl : vars.length < 9223372036854775808) :
    ∃ L : List (List Tree), Om CC 53 [.t (.int .u8 s), .t (.sl T.nl T.cl (T.l.map Node.c))] [] = some (.val (.t (.sl false false L)), []) ∧
      Om CC 52 [.t (.sl false false L), .t (.agg [.int .u8 self.k, .int .i64 self.n, .str self.s]), .t (.sl vnl vcl (vars.map Bind.c))] [] =
        some (.val (.tup [.t (.agg [.int .u8 (EvalA (askedS s (T.l.map Node.s)) self vars).v.k, .int .i64 (EvalA (askedS s (T.l.map Node.s)) self vars).v.n, .str (EvalA (askedS s (T.l.map Node.s)) self vars).v.s]), .t (.int .i64 (EvalA (askedS s (T.l.map Node.s)) self vars).e)]), []) := by
  refine ⟨_, asked_ok s T.nl T.cl T.l hT.nil hT.len, ?_⟩
  have h := evalV_ok ⟨false, false, askedN s T.l⟩ self vnl vcl vars ?_ ?_ hvl ?_ hs hv
  · rw [askedS_eq] at h; exact h
  · have := hT.len; simp [askedN]; omega
  · intro x hx
    rcases List.mem_append.1 hx with h | h
    · exact hT.kids x h
    · simp at h; rcases h with rfl | rfl <;> simp
  · intro x hx
    rcases List.mem_append.1 hx with h | h
    · exact hT.val x h
    · simp at h; rcases h with rfl | rfl <;> exact VOK_0
theorem made_p (s : Int) (T : Sl Node) (self : Val) (vars : List Bind) (hT : XOK T) (hs : VOK self) (hv : ∀ b ∈ vars, VOK b.v) : AOK (EvalA (askedS s (T.l.map Node.s)) self vars) := by
  unfold EvalA
  refine lastA_p _ (evalN_p _ _ _ (fun x hx => ?_) hs hv _)
  rcases List.mem_append.1 hx with h | h
  · obtain ⟨y, hy, rfl⟩ := List.mem_map.1 h; exact hT.val y hy
  · simp at h; rcases h with rfl | rfl <;> exact VOK_0
theorem parts_cases (x : Test) : partsL x = [] ∨ (∃ s, partsL x = [(s, x.a)]) ∨ ∃ s t, partsL x = [(s, x.a), (t, x.b)] := by
  unfold partsL
  split
  · exact .inr (.inr ⟨_, _, rfl⟩)
  · split
    · exact .inr (.inl ⟨_, rfl⟩)
    · exact .inl rfl
theorem kidT_p (al : List Ans) (h : ∀ a ∈ al, AOK a) (k : Int) : AOK (kidT al k) := by
  unfold kidT; split
  · exact VOK_0
  · exact getA_p h _
theorem kidsT_p (al : List Ans) (h : ∀ a ∈ al, AOK a) (ks : List Int) : ∀ a ∈ kidsT al ks, AOK a := by
  unfold kidsT; split
  · intro a ha; rw [List.mem_singleton.1 ha]; exact VOK_0
  · intro a ha; obtain ⟨k, _, rfl⟩ := List.mem_map.1 ha; exact kidT_p al h k
theorem foldB_p : ∀ (l : List Ans) (a : Ans), AOK a → AOK (l.foldl BothAny a)
  | [], a, h => h
  | b :: l, a, _ => foldB_p l _ (bothAny_p a b)
/-- A test's value by its parts. -/
theorem testS_cases (x : Test) (al : List Ans) (self : Val) (vars : List Bind) :
    (partsL x = [] → testS x.s al self vars = restS x.op (kidsT al x.kids.l)) ∧ (∀ s, partsL x = [(s, x.a)] → testS x.s al self vars = EvalA (askedS s (x.a.l.map Node.s)) self vars) ∧
      (∀ s t, partsL x = [(s, x.a), (t, x.b)] → testS x.s al self vars = BothAll (EvalA (askedS s (x.a.l.map Node.s)) self vars) (EvalA (askedS t (x.b.l.map Node.s)) self vars)) := by
  refine ⟨fun h => ?_, fun s h => ?_, fun s t h => ?_⟩ <;> (unfold testS madeS; rw [partsS_eq, h]; rfl)
theorem testS_p (x : Test) (al : List Ans) (self : Val) (vars : List Bind) (hx : TOK x) (h : ∀ a ∈ al, AOK a) (hs : VOK self) (hv : ∀ b ∈ vars, VOK b.v) : AOK (testS x.s al self vars) := by
  have hrest : AOK (restS x.op (kidsT al x.kids.l)) := by
    unfold restS
    have hk := kidsT_p al h x.kids.l
    split
    · exact ⟨R64_lit.2, by simp⟩
    split
    · exact notU_p _ (getA_p hk 0)
    split
    · exact foldB_p _ _ (getA_p hk 0)
    · exact VOK_0
  unfold testS madeS
  rw [partsS_eq]
  rcases parts_cases x with h1 | ⟨s, h1⟩ | ⟨s, t, h1⟩
  · rw [h1]; exact hrest
  · rw [h1]; exact made_p s x.a self vars hx.a hs hv
  · rw [h1]; exact bothAll_p _ _
end Go.Ab
/- Layer 11 (unary): a test's value: the walk. -/
namespace Go.Ab
open Go.Proofs
set_option maxRecDepth 100000
set_option maxHeartbeats 4000000
set_option linter.unusedSimpArgs false
set_option linter.unusedVariables false

theorem idx_0 {α : Type} (a : α) (l : List α) : idx (a :: l) (0 : Int) = some a := rfl
theorem idx_1 {α : Type} (a b : α) (l : List α) : idx (a :: b :: l) (1 : Int) = some b := rfl
theorem le00 : ((0 : Int) ≤ 0) = True := by simp
theorem le01 : ((0 : Int) ≤ 1) = True := by simp
theorem lt01 : ((0 : Int) < ((1 : Nat) : Int)) = True := by simp
theorem lt02 : ((0 : Int) < ((2 : Nat) : Int)) = True := by simp
theorem lt12 : ((1 : Int) < ((2 : Nat) : Int)) = True := by simp
theorem ltS (n : Nat) : ((0 : Int) < ((n + 1 : Nat) : Int)) = True := by simp
theorem nth_1 {α : Type} (a : α) (l : List α) (j : Nat) : nth (a :: l) (1 + j) = nth l j := by rw [Nat.add_comm]; rfl
theorem le11 : ((1 : Int) ≤ ((1 : Nat) : Int)) = True := by simp
theorem le1S (n : Nat) : ((1 : Int) ≤ ((n + 1 : Nat) : Int)) = True := by simp; omega
theorem leZ (n : Nat) : ((n : Int) ≤ (n : Int)) = True := by simp
theorem toN0 : Int.toNat 0 = 0 := rfl
theorem toN1 : Int.toNat 1 = 1 := rfl
theorem test_ok (x : Test) (all : List Ans) (b : Bool) (self : Val) (vnl vcl : Bool) (vars : List Bind) (hx : TOK x) (hall : ∀ a ∈ all, AOK a) (hal : all.length < 4294967295) (hs : VOK self) (hv : ∀ b ∈ vars, VOK b.v) (hvl : vars.length < 9223372036854775808) :
    Om CC 39 [.t (.agg x.c), .t (.sl b b (all.map Ans.c)), .t (.agg [.int .u8 self.k, .int .i64 self.n, .str self.s]), .t (.sl vnl vcl (vars.map Bind.c))] [] =
      some (.val (.t (.agg [.int .u8 (testS x.s all self vars).v.k, .int .i64 (testS x.s all self vars).v.n, .str (testS x.s all self vars).v.s, .int .i64 (testS x.s all self vars).e])), []) := by
  refine call_eq fun_39 rfl ?_
  have hparts := parts_ok x
  have hmA : Hid _ := ⟨fun s => made_ok s x.a self vnl vcl vars hx.a hs hv hvl⟩
  have hmB : Hid _ := ⟨fun s => made_ok s x.b self vnl vcl vars hx.b hs hv hvl⟩
  have hpA : Hid _ := ⟨fun s => made_p s x.a self vars hx.a hs hv⟩
  have hpB : Hid _ := ⟨fun s => made_p s x.b self vars hx.b hs hv⟩
  have hkp : Hid _ := ⟨kidsT_p all hall x.kids.l⟩
  have hx2 : Hid _ := ⟨hx.kids⟩
  have hR : Hid _ := ⟨testS_cases x all self vars⟩
  have hpc : Hid _ := ⟨parts_cases x⟩
  generalize testS x.s all self vars = R at hR ⊢
  clear hx hall hs hv
  obtain ⟨op, ⟨anl, acl, al⟩, ⟨bnl, bcl, bl⟩, low, high, ⟨knl, kcl, ks⟩, line, col⟩ := x
  obtain ⟨sk, sn, ss⟩ := self
  simp only [Test.c, Sl.t] at hparts
  have w0 : IntKind.i64.wrap (0 + 1) = 1 := by decide
  have w1 : IntKind.i64.wrap (1 + 1) = 2 := by decide
  have d0 : decide ((0 : Int) < 1) = true := by decide
  have d1 : decide ((1 : Int) < 1) = false := by decide
  have d2 : decide ((0 : Int) < 2) = true := by decide
  have d3 : decide ((1 : Int) < 2) = true := by decide
  have d4 : decide ((2 : Int) < 2) = false := by decide
  have d5 : decide ((0 : Int) < 0) = false := by decide
  have z00 : decide ((0 : Int) < ((0 : Nat) : Int)) = false := by decide
  have f01 : ((0 : Int) == 1) = false := by decide
  have f02 : ((0 : Int) == 2) = false := by decide
  have f11 : ((1 : Int) == 1) = true := by decide
  have f21 : ((2 : Int) == 1) = false := by decide
  have f22 : ((2 : Int) == 2) = true := by decide
  (have F_ : _ ∧ _ ∧ _ ∧ _ ∧ _ ∧ _ ∧ _ ∧ _ ∧ _ ∧ _ ∧ _ ∧ _ ∧ _ ∧ _ ∧ _ ∧ _ ∧ _ ∧ _ ∧ _ ∧ _ ∧ _ ∧ _ ∧ _ ∧ _ ∧ _ ∧ _ ∧ _ ∧ _ ∧ _ ∧ _ ∧ _ ∧ _ ∧ _ ∧ _ ∧ _ ∧ _ ∧ _ ∧ _ ∧ _ ∧ _ ∧ _ ∧ _ ∧ _ ∧ _ ∧ _ ∧ _ ∧ _ ∧ _ ∧ _ ∧ _ ∧ _ ∧ _ ∧ _ ∧ _ ∧ _ ∧ _ ∧ _ ∧ _ ∧ _ ∧ _ ∧ _ ∧ _ ∧ _ ∧ _ ∧ _ ∧ _ ∧ _ ∧ _ ∧ _ ∧ _ ∧ _ ∧ _ ∧ _ ∧ _ ∧ _ ∧ _ ∧ _ ∧ _ ∧ _ ∧ _ ∧ _ ∧ _ ∧ _ ∧ _ ∧ _ ∧ _ ∧ _ ∧ _ ∧ _ ∧ _ ∧ _ ∧ _ ∧ _ ∧ _ ∧ _ ∧ _ ∧ _ ∧ _ ∧ _ ∧ _ ∧ _ ∧ _ ∧ _ ∧ _ ∧ _ ∧ _ ∧ _ ∧ _ ∧ _ ∧ _ ∧ _ ∧ _ ∧ _ ∧ _ ∧ _ ∧ _ ∧ _ ∧ _ ∧ _ ∧ _ ∧ _ ∧ _ ∧ _ ∧ _ ∧ _ ∧ _ ∧ _ ∧ _ ∧ _ ∧ _ ∧ _ ∧ _ ∧ _ ∧ _ ∧ _ ∧ _ ∧ _ ∧ _ ∧ _ ∧ _ ∧ _ ∧ _ ∧ _ ∧ _ ∧ _ ∧ _ ∧ _ ∧ _ ∧ _ ∧ _ ∧ _ ∧ _ ∧ _ ∧ _ ∧ _ ∧ _ ∧ _ ∧ _ ∧ _ ∧ _ ∧ _ ∧ _ ∧ _ ∧ _ ∧ _ ∧ _ ∧ _ ∧ _ ∧ _ ∧ _ := ⟨und_2, size_2, agg_2, zero_2, zel_2, small_2, und_3, size_3, agg_3, zero_3, zel_3, small_3, und_4, size_4, agg_4, zero_4, zel_4, small_4, noInt_4, und_5, size_5, agg_5, zero_5, zel_5, small_5, und_9, size_9, agg_9, zero_9, zel_9, small_9, noInt_9, fa_25_0, fd_25_0, fa_25_1, fd_25_1, bld_25, size_25, agg_25, zero_25, zel_25, small_25, noInt_25, und_31, size_31, agg_31, zero_31, zel_31, small_31, noInt_31, fa_45_0, fd_45_0, fa_45_1, fd_45_1, fa_45_2, fd_45_2, bld_45, size_45, agg_45, zero_45, zel_45, small_45, noInt_45, fa_47_0, fd_47_0, fa_47_1, fd_47_1, bld_47, size_47, agg_47, zero_47, zel_47, small_47, noInt_47, und_70, size_70, agg_70, zero_70, zel_70, small_70, noInt_70, und_71, size_71, agg_71, zero_71, zel_71, small_71, noInt_71, fa_73_0, fd_73_0, fa_73_1, fd_73_1, fa_73_2, fd_73_2, fa_73_3, fd_73_3, fa_73_4, fd_73_4, fa_73_5, fd_73_5, fa_73_6, fd_73_6, bld_73, size_73, agg_73, zero_73, zel_73, small_73, noInt_73, fa_75_0, fd_75_0, fa_75_1, fd_75_1, fa_75_2, fd_75_2, fa_75_3, fd_75_3, fa_75_4, fd_75_4, bld_75, size_75, agg_75, zero_75, zel_75, small_75, noInt_75, und_80, size_80, agg_80, zero_80, zel_80, small_80, fa_111_0, fd_111_0, fa_111_1, fd_111_1, bld_111, size_111, agg_111, zero_111, zel_111, small_111, noInt_111, und_112, size_112, agg_112, zero_112, zel_112, small_112, noInt_112, und_131, size_131, agg_131, zero_131, zel_131, small_131, noInt_131, und_132, size_132, agg_132, zero_132, zel_132, small_132, noInt_132, size_138, agg_138, zero_138, zel_138, small_138, noInt_138⟩; show W CC 0 139 (keepsOf 39) _ ⟨[(0, _), (1, _), (2, _), (3, _)], []⟩ _)
  by_cases hks : ks = []
  · subst hks
    have hkT : kidsT all [] = [AZero] := rfl
    have hR2 : Hid _ := ⟨hR.h⟩
    try dsimp only at hkp hR
    ((repeat' (first | with_reducible apply fol | with_reducible refine aRW ?_ | with_reducible refine aRR ?_ | with_reducible refine aRs ?_ | ((with_reducible first | apply RW_gdn | apply RR_gdn | apply RW_gd | apply RR_gd) <;> intro hg <;> first | (cases hg; done) | skip) | with_reducible refine aE1 ?_ | with_reducible refine aE2 ?_ | with_reducible refine aOn ?_ | ((with_reducible refine aCd ?_ ?_) <;> intro hv <;> first | (cases hv; done) | skip) | fail)))
    rw [hkT] at hkp
    rw [hkT] at hR
    clear hR2
    ((with_reducible apply W_unroll); (focus (simp only [loopKeep, firstRegion, keepsOf, tidy, canon, reach, refsL, refs, refsO, catMap, depth, renL, ren, renO, sub, sub1, upto, mem, place, fresh, cond_true, get, nth, List.map, List.zip_cons_cons, List.zip_nil_right, List.take, List.append_nil, List.nil_append, List.cons_append, beq_dec, decide_true, decide_false, Nat.reduceEqDiff, Nat.zero_add, Nat.reduceAdd] <;> exact rfl)))
    ((repeat' (first | with_reducible apply fol | with_reducible refine aRW ?_ | with_reducible refine aRR ?_ | with_reducible refine aRs ?_ | ((with_reducible first | apply RW_gdn | apply RR_gdn | apply RW_gd | apply RR_gd) <;> intro hg <;> first | (cases hg; done) | skip) | with_reducible refine aE1 ?_ | with_reducible refine aE2 ?_ | with_reducible refine aOn ?_ | ((with_reducible refine aCd ?_ ?_) <;> intro hv <;> first | (cases hv; done) | skip) | fail)))
    ((with_reducible apply W_unroll); (focus (simp only [loopKeep, firstRegion, keepsOf, tidy, canon, reach, refsL, refs, refsO, catMap, depth, renL, ren, renO, sub, sub1, upto, mem, place, fresh, cond_true, get, nth, List.map, List.zip_cons_cons, List.zip_nil_right, List.take, List.append_nil, List.nil_append, List.cons_append, beq_dec, decide_true, decide_false, Nat.reduceEqDiff, Nat.zero_add, Nat.reduceAdd] <;> exact rfl)))
    ((repeat' (first | with_reducible apply fol | with_reducible refine aRW ?_ | with_reducible refine aRR ?_ | with_reducible refine aRs ?_ | ((with_reducible first | apply RW_gdn | apply RR_gdn | apply RW_gd | apply RR_gd) <;> intro hg <;> first | (cases hg; done) | skip) | with_reducible refine aE1 ?_ | with_reducible refine aE2 ?_ | with_reducible refine aOn ?_ | ((with_reducible refine aCd ?_ ?_) <;> intro hv <;> first | (cases hv; done) | skip) | fail)))
    ((with_reducible apply W_unroll); (focus (simp only [loopKeep, firstRegion, keepsOf, tidy, canon, reach, refsL, refs, refsO, catMap, depth, renL, ren, renO, sub, sub1, upto, mem, place, fresh, cond_true, get, nth, List.map, List.zip_cons_cons, List.zip_nil_right, List.take, List.append_nil, List.nil_append, List.cons_append, Bool.and_true, beq_dec, decide_true, decide_false, Nat.reduceEqDiff, Nat.zero_add, Nat.reduceAdd] <;> exact rfl)))
    rcases hpc.h with h1 | ⟨s, h1⟩ | ⟨s, t, h1⟩
    · rw [h1] at hparts
      have hRe := hR.h.1 h1
      simp only [opsT, exprsT, List.map_nil] at hparts
      clear h1
      by_cases o1 : op = 1
      · have e1 : (op == 1) = true := by simp [o1]
        obtain rfl : R = ⟨⟨4, 1, []⟩, 0⟩ := by rw [hRe]; simp [restS, o1]
        clear o1 hRe
        (have x0_ := @Ans.c.eq_1; have x1_ := @idx_0; have x2_ := @idx_1; have x3_ := @le00; have x4_ := @le01; have x5_ := @lt01; have x6_ := @lt02; have x7_ := @lt12; have x8_ := @ltS; have x9_ := @toN0; have x10_ := @toN1; have x11_ := @hb_51; have x12_ := @hb_53; have x13_ := @hb_52; have x14_ := @hb_54; have x15_ := @hb_56; (repeat' (first | with_reducible apply fol | with_reducible refine aRW ?_ | with_reducible refine aRR ?_ | with_reducible refine aRs ?_ | ((with_reducible first | apply RW_gdn | apply RR_gdn | apply RW_gd | apply RR_gd) <;> intro hg <;> first | (cases hg; done) | skip) | with_reducible refine aE1 ?_ | with_reducible refine aE2 ?_ | with_reducible refine aOn ?_ | ((with_reducible refine aCd ?_ ?_) <;> intro hv <;> first | (cases hv; done) | skip) | fail)); all_goals clear x0_ x1_ x2_ x3_ x4_ x5_ x6_ x7_ x8_ x9_ x10_ x11_ x12_ x13_ x14_ x15_)
        ((with_reducible apply W_unroll); (focus (simp only [loopKeep, firstRegion, keepsOf, tidy, canon, reach, refsL, refs, refsO, catMap, depth, renL, ren, renO, sub, sub1, upto, mem, place, fresh, cond_true, get, nth, List.map, List.zip_cons_cons, List.zip_nil_right, List.take, List.append_nil, List.nil_append, List.cons_append, Bool.and_true, beq_dec, decide_true, decide_false, Nat.reduceEqDiff, Nat.zero_add, Nat.reduceAdd] <;> exact rfl)))
        (have x0_ := @Ans.c.eq_1; have x1_ := @idx_0; have x2_ := @idx_1; have x3_ := @le00; have x4_ := @le01; have x5_ := @lt01; have x6_ := @lt02; have x7_ := @lt12; have x8_ := @ltS; have x9_ := @toN0; have x10_ := @toN1; have x11_ := @hb_51; have x12_ := @hb_53; have x13_ := @hb_52; have x14_ := @hb_54; have x15_ := @hb_56; (repeat' (first | with_reducible apply fol | with_reducible refine aRW ?_ | with_reducible refine aRR ?_ | with_reducible refine aRs ?_ | ((with_reducible first | apply RW_gdn | apply RR_gdn | apply RW_gd | apply RR_gd) <;> intro hg <;> first | (cases hg; done) | skip) | with_reducible refine aE1 ?_ | with_reducible refine aE2 ?_ | with_reducible refine aOn ?_ | ((with_reducible refine aCd ?_ ?_) <;> intro hv <;> first | (cases hv; done) | skip) | fail)); all_goals clear x0_ x1_ x2_ x3_ x4_ x5_ x6_ x7_ x8_ x9_ x10_ x11_ x12_ x13_ x14_ x15_)
        ((with_reducible apply Ends'_ret); (focus (simp only [CC_P, results, resultsOf, resultOf, get, load, loadCells, nth, cut, mkAgg, trees, res_39, List.length_cons, List.length_nil, List.take, List.drop, Nat.zero_add, Nat.reduceAdd, Nat.reduceLeDiff, if_true, *]; exact rfl)); (focus (first | exact finish_tree' _ _ _ _ | exact finish_tup2 _ _ _ _ _ | exact finish_tup3 _ _ _ _ _ _ | kernel_rfl)))
        · rfl
        · rfl
      have e1 : (op == 1) = false := by simpa using o1
      by_cases o8 : op = 8
      · have e8 : (op == 8) = true := by simp [o8]
        obtain rfl : R = NotU (⟨⟨0, 0, []⟩, 0⟩ : Ans) := by rw [hRe]; simp only [restS, o8]; rfl
        have hn := notU_ok 0 0 [] 0
        generalize NotU (⟨⟨0, 0, []⟩, 0⟩ : Ans) = q at hn ⊢
        obtain ⟨⟨rk, rn, rs⟩, re⟩ := q
        clear o1 o8 hRe
        (have x0_ := @Ans.c.eq_1; have x1_ := @idx_0; have x2_ := @idx_1; have x3_ := @le00; have x4_ := @le01; have x5_ := @lt01; have x6_ := @lt02; have x7_ := @lt12; have x8_ := @ltS; have x9_ := @toN0; have x10_ := @toN1; have x11_ := @hb_51; have x12_ := @hb_53; have x13_ := @hb_52; have x14_ := @hb_54; have x15_ := @hb_56; (repeat' (first | with_reducible apply fol | with_reducible refine aRW ?_ | with_reducible refine aRR ?_ | with_reducible refine aRs ?_ | ((with_reducible first | apply RW_gdn | apply RR_gdn | apply RW_gd | apply RR_gd) <;> intro hg <;> first | (cases hg; done) | skip) | with_reducible refine aE1 ?_ | with_reducible refine aE2 ?_ | with_reducible refine aOn ?_ | ((with_reducible refine aCd ?_ ?_) <;> intro hv <;> first | (cases hv; done) | skip) | fail)); all_goals clear x0_ x1_ x2_ x3_ x4_ x5_ x6_ x7_ x8_ x9_ x10_ x11_ x12_ x13_ x14_ x15_)
        ((with_reducible apply W_unroll); (focus (simp only [loopKeep, firstRegion, keepsOf, tidy, canon, reach, refsL, refs, refsO, catMap, depth, renL, ren, renO, sub, sub1, upto, mem, place, fresh, cond_true, get, nth, List.map, List.zip_cons_cons, List.zip_nil_right, List.take, List.append_nil, List.nil_append, List.cons_append, Bool.and_true, beq_dec, decide_true, decide_false, Nat.reduceEqDiff, Nat.zero_add, Nat.reduceAdd] <;> exact rfl)))
        (have x0_ := @Ans.c.eq_1; have x1_ := @idx_0; have x2_ := @idx_1; have x3_ := @le00; have x4_ := @le01; have x5_ := @lt01; have x6_ := @lt02; have x7_ := @lt12; have x8_ := @ltS; have x9_ := @toN0; have x10_ := @toN1; have x11_ := @hb_51; have x12_ := @hb_53; have x13_ := @hb_52; have x14_ := @hb_54; have x15_ := @hb_56; (repeat' (first | with_reducible apply fol | with_reducible refine aRW ?_ | with_reducible refine aRR ?_ | with_reducible refine aRs ?_ | ((with_reducible first | apply RW_gdn | apply RR_gdn | apply RW_gd | apply RR_gd) <;> intro hg <;> first | (cases hg; done) | skip) | with_reducible refine aE1 ?_ | with_reducible refine aE2 ?_ | with_reducible refine aOn ?_ | ((with_reducible refine aCd ?_ ?_) <;> intro hv <;> first | (cases hv; done) | skip) | fail)); all_goals clear x0_ x1_ x2_ x3_ x4_ x5_ x6_ x7_ x8_ x9_ x10_ x11_ x12_ x13_ x14_ x15_)
        ((with_reducible apply Ends'_ret); (focus (simp only [CC_P, results, resultsOf, resultOf, get, load, loadCells, nth, cut, mkAgg, trees, res_39, List.length_cons, List.length_nil, List.take, List.drop, Nat.zero_add, Nat.reduceAdd, Nat.reduceLeDiff, if_true, *]; exact rfl)); (focus (first | exact finish_tree' _ _ _ _ | exact finish_tup2 _ _ _ _ _ | exact finish_tup3 _ _ _ _ _ _ | kernel_rfl)))
        · rfl
        · rfl
      have e8 : (op == 8) = false := by simpa using o8
      by_cases o9 : op = 9
      · have e9 : (op == 9) = true := by simp [o9]
        obtain rfl : R = ([] : List Ans).foldl BothAny (⟨⟨0, 0, []⟩, 0⟩ : Ans) := by rw [hRe]; simp only [restS, o9]; rfl
        have hkk : Hid _ := ⟨hkp.h⟩
        clear o1 o8 o9 hRe
        (have x0_ := @Ans.c.eq_1; have x1_ := @idx_0; have x2_ := @idx_1; have x3_ := @le00; have x4_ := @le01; have x5_ := @lt01; have x6_ := @lt02; have x7_ := @lt12; have x8_ := @ltS; have x9_ := @toN0; have x10_ := @toN1; have x11_ := @hb_51; have x12_ := @hb_53; have x13_ := @hb_52; have x14_ := @hb_54; have x15_ := @hb_56; (repeat' (first | with_reducible apply fol | with_reducible refine aRW ?_ | with_reducible refine aRR ?_ | with_reducible refine aRs ?_ | ((with_reducible first | apply RW_gdn | apply RR_gdn | apply RW_gd | apply RR_gd) <;> intro hg <;> first | (cases hg; done) | skip) | with_reducible refine aE1 ?_ | with_reducible refine aE2 ?_ | with_reducible refine aOn ?_ | ((with_reducible refine aCd ?_ ?_) <;> intro hv <;> first | (cases hv; done) | skip) | fail)); all_goals clear x0_ x1_ x2_ x3_ x4_ x5_ x6_ x7_ x8_ x9_ x10_ x11_ x12_ x13_ x14_ x15_)
        ((with_reducible apply W_unroll); (focus (simp only [loopKeep, firstRegion, keepsOf, tidy, canon, reach, refsL, refs, refsO, catMap, depth, renL, ren, renO, sub, sub1, upto, mem, place, fresh, cond_true, get, nth, List.map, List.zip_cons_cons, List.zip_nil_right, List.take, List.append_nil, List.nil_append, List.cons_append, Bool.and_true, beq_dec, decide_true, decide_false, Nat.reduceEqDiff, Nat.zero_add, Nat.reduceAdd] <;> exact rfl)))
        repeat' (first | with_reducible apply once_normal | with_reducible apply once_exit | with_reducible apply once_ret | with_reducible apply once_pan | with_reducible apply thenW_normal | with_reducible apply thenW_ret | with_reducible apply thenW_exit | with_reducible apply thenW_pan | with_reducible apply outOf_normal | with_reducible apply outOf_eq | (refine outOf_ne (by kernel_rfl) ?_) | with_reducible apply outOf_ret | with_reducible apply outOf_pan | with_reducible apply again_exit | with_reducible apply again_ret | with_reducible apply again_pan | with_reducible apply W_seq | with_reducible apply W_block | with_reducible apply W_scope | with_reducible apply W_skip | with_reducible apply W_ret | with_reducible apply W_exit | with_reducible apply W_label | ((with_reducible apply W_RW); (focus kernel_rfl)) | ((with_reducible apply W_RR); (focus kernel_rfl); (focus kernel_rfl)) | with_reducible apply RW_some | with_reducible apply RR_cons | ((with_reducible apply RR_some); (refine ⟨by kernel_rfl, ?_⟩)) | ((with_reducible refine RW_gdn (fun hg => ?_) (fun hg => ?_)) <;> first | (cases hg; done) | skip) | ((with_reducible refine RR_gdn (fun hg => ?_) (fun hg => ?_)) <;> first | (cases hg; done) | skip) | ((with_reducible refine RW_gd (fun hg => ?_) (fun hg => ?_)) <;> first | (cases hg; done) | skip) | ((with_reducible refine RR_gd (fun hg => ?_) (fun hg => ?_)) <;> first | (cases hg; done) | skip) | ((with_reducible apply RW_eq); (focus (simp only [Option.getD_some, List.all_cons, List.all_nil, isCell, le00, le01, ltS, toN0, toN1, xSlice, slice, bound, Option.getD_some, Option.getD_none, Int.toNat_natCast, le1S, leZ, Nat.sub_self, Int.ofNat_eq_natCast, wanted, exec1, xAlloc, xCall, xBuiltin, xLen, xStore, xIndexAddr, cellsOf, operand, opds, get, putT, ret, retO, lit, lit1, patch, put1, load, loadCells, cut, addOff, mkAgg, trees, nth, lenOf, indexAddr, storeAt, upd, splice, isCell, CC_P, int_lss, int_eql, Nat.zero_add, Nat.add_zero, List.map_cons, List.map_nil, List.length_cons, List.length_nil, List.take, List.drop, List.all_cons, List.all_nil, List.nil_append, List.append_nil, Bool.and_self, if_true, Nat.reduceAdd, Nat.reduceLeDiff, and_self, runOps_cons, runOps_nil, gdL_true, *]; exact rfl))) | ((with_reducible apply RR_eq); (focus (simp only [*]; exact rfl))) | ((refine W_cond (by (simp only [operand, get, lit, lit1, *]; exact rfl)) (fun hv => ?_) (fun hv => ?_)) <;> first | (cases hv; done) | skip))
        ((with_reducible apply W_unroll); (focus (simp only [loopKeep, firstRegion, keepsOf, tidy, canon, reach, refsL, refs, refsO, catMap, depth, renL, ren, renO, sub, sub1, upto, mem, place, fresh, cond_true, get, nth, List.map, List.zip_cons_cons, List.zip_nil_right, List.take, List.append_nil, List.nil_append, List.cons_append, Bool.and_true, beq_dec, decide_true, decide_false, Nat.reduceEqDiff, Nat.zero_add, Nat.reduceAdd] <;> exact rfl)))
        (have x0_ := @Ans.c.eq_1; have x1_ := @idx_0; have x2_ := @idx_1; have x3_ := @le00; have x4_ := @le01; have x5_ := @lt01; have x6_ := @lt02; have x7_ := @lt12; have x8_ := @ltS; have x9_ := @toN0; have x10_ := @toN1; have x11_ := @hb_51; have x12_ := @hb_53; have x13_ := @hb_52; have x14_ := @hb_54; have x15_ := @hb_56; (repeat' (first | with_reducible apply fol | with_reducible refine aRW ?_ | with_reducible refine aRR ?_ | with_reducible refine aRs ?_ | ((with_reducible first | apply RW_gdn | apply RR_gdn | apply RW_gd | apply RR_gd) <;> intro hg <;> first | (cases hg; done) | skip) | with_reducible refine aE1 ?_ | with_reducible refine aE2 ?_ | with_reducible refine aOn ?_ | ((with_reducible refine aCd ?_ ?_) <;> intro hv <;> first | (cases hv; done) | skip) | fail)); all_goals clear x0_ x1_ x2_ x3_ x4_ x5_ x6_ x7_ x8_ x9_ x10_ x11_ x12_ x13_ x14_ x15_)
        ((with_reducible apply Ends'_ret); (focus (simp only [CC_P, results, resultsOf, resultOf, get, load, loadCells, nth, cut, mkAgg, trees, res_39, List.length_cons, List.length_nil, List.take, List.drop, Nat.zero_add, Nat.reduceAdd, Nat.reduceLeDiff, if_true, *]; exact rfl)); (focus (first | exact finish_tree' _ _ _ _ | exact finish_tup2 _ _ _ _ _ | exact finish_tup3 _ _ _ _ _ _ | kernel_rfl)))
        · rfl
        · rfl
      have e9 : (op == 9) = false := by simpa using o9
      obtain rfl : R = ⟨Zero, 2⟩ := by rw [hRe]; simp [restS, o1, o8, o9]
      clear o1 o8 o9 hRe
      (have x0_ := @Ans.c.eq_1; have x1_ := @idx_0; have x2_ := @idx_1; have x3_ := @le00; have x4_ := @le01; have x5_ := @lt01; have x6_ := @lt02; have x7_ := @lt12; have x8_ := @ltS; have x9_ := @toN0; have x10_ := @toN1; have x11_ := @hb_51; have x12_ := @hb_53; have x13_ := @hb_52; have x14_ := @hb_54; have x15_ := @hb_56; (repeat' (first | with_reducible apply fol | with_reducible refine aRW ?_ | with_reducible refine aRR ?_ | with_reducible refine aRs ?_ | ((with_reducible first | apply RW_gdn | apply RR_gdn | apply RW_gd | apply RR_gd) <;> intro hg <;> first | (cases hg; done) | skip) | with_reducible refine aE1 ?_ | with_reducible refine aE2 ?_ | with_reducible refine aOn ?_ | ((with_reducible refine aCd ?_ ?_) <;> intro hv <;> first | (cases hv; done) | skip) | fail)); all_goals clear x0_ x1_ x2_ x3_ x4_ x5_ x6_ x7_ x8_ x9_ x10_ x11_ x12_ x13_ x14_ x15_)
      ((with_reducible apply W_unroll); (focus (simp only [loopKeep, firstRegion, keepsOf, tidy, canon, reach, refsL, refs, refsO, catMap, depth, renL, ren, renO, sub, sub1, upto, mem, place, fresh, cond_true, get, nth, List.map, List.zip_cons_cons, List.zip_nil_right, List.take, List.append_nil, List.nil_append, List.cons_append, Bool.and_true, beq_dec, decide_true, decide_false, Nat.reduceEqDiff, Nat.zero_add, Nat.reduceAdd] <;> exact rfl)))
      (have x0_ := @Ans.c.eq_1; have x1_ := @idx_0; have x2_ := @idx_1; have x3_ := @le00; have x4_ := @le01; have x5_ := @lt01; have x6_ := @lt02; have x7_ := @lt12; have x8_ := @ltS; have x9_ := @toN0; have x10_ := @toN1; have x11_ := @hb_51; have x12_ := @hb_53; have x13_ := @hb_52; have x14_ := @hb_54; have x15_ := @hb_56; (repeat' (first | with_reducible apply fol | with_reducible refine aRW ?_ | with_reducible refine aRR ?_ | with_reducible refine aRs ?_ | ((with_reducible first | apply RW_gdn | apply RR_gdn | apply RW_gd | apply RR_gd) <;> intro hg <;> first | (cases hg; done) | skip) | with_reducible refine aE1 ?_ | with_reducible refine aE2 ?_ | with_reducible refine aOn ?_ | ((with_reducible refine aCd ?_ ?_) <;> intro hv <;> first | (cases hv; done) | skip) | fail)); all_goals clear x0_ x1_ x2_ x3_ x4_ x5_ x6_ x7_ x8_ x9_ x10_ x11_ x12_ x13_ x14_ x15_)
      ((with_reducible apply Ends'_ret); (focus (simp only [CC_P, results, resultsOf, resultOf, get, load, loadCells, nth, cut, mkAgg, trees, res_39, List.length_cons, List.length_nil, List.take, List.drop, Nat.zero_add, Nat.reduceAdd, Nat.reduceLeDiff, if_true, *]; exact rfl)); (focus (first | exact finish_tree' _ _ _ _ | exact finish_tup2 _ _ _ _ _ | exact finish_tup3 _ _ _ _ _ _ | kernel_rfl)))
      · rfl
      · rfl
    · rw [h1] at hparts
      have hRe := hR.h.2.1 s h1
      simp only [opsT, exprsT, List.map_cons, List.map_nil, Sl.t] at hparts
      obtain ⟨L, hA, hE⟩ := hmA.h s
      dsimp only at hA hE hRe
      rw [← hRe] at hE
      clear h1 hRe
      clear hR
      obtain ⟨⟨rk, rn, rs⟩, re⟩ := R
      dsimp only at hE
      (have x0_ := @Ans.c.eq_1; have x1_ := @idx_0; have x2_ := @idx_1; have x3_ := @le00; have x4_ := @le01; have x5_ := @lt01; have x6_ := @lt02; have x7_ := @lt12; have x8_ := @ltS; have x9_ := @toN0; have x10_ := @toN1; have x11_ := @hb_51; have x12_ := @hb_53; have x13_ := @hb_52; have x14_ := @hb_54; have x15_ := @hb_56; (repeat' (first | with_reducible apply fol | with_reducible refine aRW ?_ | with_reducible refine aRR ?_ | with_reducible refine aRs ?_ | ((with_reducible first | apply RW_gdn | apply RR_gdn | apply RW_gd | apply RR_gd) <;> intro hg <;> first | (cases hg; done) | skip) | with_reducible refine aE1 ?_ | with_reducible refine aE2 ?_ | with_reducible refine aOn ?_ | ((with_reducible refine aCd ?_ ?_) <;> intro hv <;> first | (cases hv; done) | skip) | fail)); all_goals clear x0_ x1_ x2_ x3_ x4_ x5_ x6_ x7_ x8_ x9_ x10_ x11_ x12_ x13_ x14_ x15_)
      ((with_reducible apply W_unroll); (focus (simp only [loopKeep, firstRegion, keepsOf, tidy, canon, reach, refsL, refs, refsO, catMap, depth, renL, ren, renO, sub, sub1, upto, mem, place, fresh, cond_true, get, nth, List.map, List.zip_cons_cons, List.zip_nil_right, List.take, List.append_nil, List.nil_append, List.cons_append, Bool.and_true, beq_dec, decide_true, decide_false, Nat.reduceEqDiff, Nat.zero_add, Nat.reduceAdd] <;> exact rfl)))
      (have x0_ := @Ans.c.eq_1; have x1_ := @idx_0; have x2_ := @idx_1; have x3_ := @le00; have x4_ := @le01; have x5_ := @lt01; have x6_ := @lt02; have x7_ := @lt12; have x8_ := @ltS; have x9_ := @toN0; have x10_ := @toN1; have x11_ := @hb_51; have x12_ := @hb_53; have x13_ := @hb_52; have x14_ := @hb_54; have x15_ := @hb_56; (repeat' (first | with_reducible apply fol | with_reducible refine aRW ?_ | with_reducible refine aRR ?_ | with_reducible refine aRs ?_ | ((with_reducible first | apply RW_gdn | apply RR_gdn | apply RW_gd | apply RR_gd) <;> intro hg <;> first | (cases hg; done) | skip) | with_reducible refine aE1 ?_ | with_reducible refine aE2 ?_ | with_reducible refine aOn ?_ | ((with_reducible refine aCd ?_ ?_) <;> intro hv <;> first | (cases hv; done) | skip) | fail)); all_goals clear x0_ x1_ x2_ x3_ x4_ x5_ x6_ x7_ x8_ x9_ x10_ x11_ x12_ x13_ x14_ x15_)
      ((with_reducible apply W_unroll); (focus (simp only [loopKeep, firstRegion, keepsOf, tidy, canon, reach, refsL, refs, refsO, catMap, depth, renL, ren, renO, sub, sub1, upto, mem, place, fresh, cond_true, get, nth, List.map, List.zip_cons_cons, List.zip_nil_right, List.take, List.append_nil, List.nil_append, List.cons_append, Bool.and_true, beq_dec, decide_true, decide_false, Nat.reduceEqDiff, Nat.zero_add, Nat.reduceAdd] <;> exact rfl)))
      (have x0_ := @Ans.c.eq_1; have x1_ := @idx_0; have x2_ := @idx_1; have x3_ := @le00; have x4_ := @le01; have x5_ := @lt01; have x6_ := @lt02; have x7_ := @lt12; have x8_ := @ltS; have x9_ := @toN0; have x10_ := @toN1; have x11_ := @hb_51; have x12_ := @hb_53; have x13_ := @hb_52; have x14_ := @hb_54; have x15_ := @hb_56; (repeat' (first | with_reducible apply fol | with_reducible refine aRW ?_ | with_reducible refine aRR ?_ | with_reducible refine aRs ?_ | ((with_reducible first | apply RW_gdn | apply RR_gdn | apply RW_gd | apply RR_gd) <;> intro hg <;> first | (cases hg; done) | skip) | with_reducible refine aE1 ?_ | with_reducible refine aE2 ?_ | with_reducible refine aOn ?_ | ((with_reducible refine aCd ?_ ?_) <;> intro hv <;> first | (cases hv; done) | skip) | fail)); all_goals clear x0_ x1_ x2_ x3_ x4_ x5_ x6_ x7_ x8_ x9_ x10_ x11_ x12_ x13_ x14_ x15_)
      ((with_reducible apply Ends'_ret); (focus (simp only [CC_P, results, resultsOf, resultOf, get, load, loadCells, nth, cut, mkAgg, trees, res_39, List.length_cons, List.length_nil, List.take, List.drop, Nat.zero_add, Nat.reduceAdd, Nat.reduceLeDiff, if_true, *]; exact rfl)); (focus (first | exact finish_tree' _ _ _ _ | exact finish_tup2 _ _ _ _ _ | exact finish_tup3 _ _ _ _ _ _ | kernel_rfl)))
      · rfl
      · rfl
    · rw [h1] at hparts
      have hRe := hR.h.2.2 s t h1
      simp only [opsT, exprsT, List.map_cons, List.map_nil, Sl.t] at hparts
      obtain ⟨L, hA, hE⟩ := hmA.h s
      obtain ⟨M, hB, hF⟩ := hmB.h t
      have pa := hpA.h s
      have pb := hpB.h t
      dsimp only at hA hE hB hF pa pb hRe
      generalize EvalA (askedS s (al.map Node.s)) ⟨sk, sn, ss⟩ vars = ea at hE pa hRe
      generalize EvalA (askedS t (bl.map Node.s)) ⟨sk, sn, ss⟩ vars = eb at hF pb hRe
      have hbo := bothAll_ok ea eb pa pb
      rw [← hRe] at hbo
      clear h1 hRe pa pb
      clear hR
      obtain ⟨⟨rk, rn, rs⟩, re⟩ := R
      obtain ⟨⟨eak, ean, eas⟩, eae⟩ := ea
      obtain ⟨⟨ebk, ebn, ebs⟩, ebe⟩ := eb
      dsimp only at hE hF hbo
      (have x0_ := @Ans.c.eq_1; have x1_ := @idx_0; have x2_ := @idx_1; have x3_ := @le00; have x4_ := @le01; have x5_ := @lt01; have x6_ := @lt02; have x7_ := @lt12; have x8_ := @ltS; have x9_ := @toN0; have x10_ := @toN1; have x11_ := @hb_51; have x12_ := @hb_53; have x13_ := @hb_52; have x14_ := @hb_54; have x15_ := @hb_56; (repeat' (first | with_reducible apply fol | with_reducible refine aRW ?_ | with_reducible refine aRR ?_ | with_reducible refine aRs ?_ | ((with_reducible first | apply RW_gdn | apply RR_gdn | apply RW_gd | apply RR_gd) <;> intro hg <;> first | (cases hg; done) | skip) | with_reducible refine aE1 ?_ | with_reducible refine aE2 ?_ | with_reducible refine aOn ?_ | ((with_reducible refine aCd ?_ ?_) <;> intro hv <;> first | (cases hv; done) | skip) | fail)); all_goals clear x0_ x1_ x2_ x3_ x4_ x5_ x6_ x7_ x8_ x9_ x10_ x11_ x12_ x13_ x14_ x15_)
      ((with_reducible apply W_unroll); (focus (simp only [loopKeep, firstRegion, keepsOf, tidy, canon, reach, refsL, refs, refsO, catMap, depth, renL, ren, renO, sub, sub1, upto, mem, place, fresh, cond_true, get, nth, List.map, List.zip_cons_cons, List.zip_nil_right, List.take, List.append_nil, List.nil_append, List.cons_append, Bool.and_true, beq_dec, decide_true, decide_false, Nat.reduceEqDiff, Nat.zero_add, Nat.reduceAdd] <;> exact rfl)))
      (have x0_ := @Ans.c.eq_1; have x1_ := @idx_0; have x2_ := @idx_1; have x3_ := @le00; have x4_ := @le01; have x5_ := @lt01; have x6_ := @lt02; have x7_ := @lt12; have x8_ := @ltS; have x9_ := @toN0; have x10_ := @toN1; have x11_ := @hb_51; have x12_ := @hb_53; have x13_ := @hb_52; have x14_ := @hb_54; have x15_ := @hb_56; (repeat' (first | with_reducible apply fol | with_reducible refine aRW ?_ | with_reducible refine aRR ?_ | with_reducible refine aRs ?_ | ((with_reducible first | apply RW_gdn | apply RR_gdn | apply RW_gd | apply RR_gd) <;> intro hg <;> first | (cases hg; done) | skip) | with_reducible refine aE1 ?_ | with_reducible refine aE2 ?_ | with_reducible refine aOn ?_ | ((with_reducible refine aCd ?_ ?_) <;> intro hv <;> first | (cases hv; done) | skip) | fail)); all_goals clear x0_ x1_ x2_ x3_ x4_ x5_ x6_ x7_ x8_ x9_ x10_ x11_ x12_ x13_ x14_ x15_)
      ((with_reducible apply W_unroll); (focus (simp only [loopKeep, firstRegion, keepsOf, tidy, canon, reach, refsL, refs, refsO, catMap, depth, renL, ren, renO, sub, sub1, upto, mem, place, fresh, cond_true, get, nth, List.map, List.zip_cons_cons, List.zip_nil_right, List.take, List.append_nil, List.nil_append, List.cons_append, Bool.and_true, beq_dec, decide_true, decide_false, Nat.reduceEqDiff, Nat.zero_add, Nat.reduceAdd] <;> exact rfl)))
      (have x0_ := @Ans.c.eq_1; have x1_ := @idx_0; have x2_ := @idx_1; have x3_ := @le00; have x4_ := @le01; have x5_ := @lt01; have x6_ := @lt02; have x7_ := @lt12; have x8_ := @ltS; have x9_ := @toN0; have x10_ := @toN1; have x11_ := @hb_51; have x12_ := @hb_53; have x13_ := @hb_52; have x14_ := @hb_54; have x15_ := @hb_56; (repeat' (first | with_reducible apply fol | with_reducible refine aRW ?_ | with_reducible refine aRR ?_ | with_reducible refine aRs ?_ | ((with_reducible first | apply RW_gdn | apply RR_gdn | apply RW_gd | apply RR_gd) <;> intro hg <;> first | (cases hg; done) | skip) | with_reducible refine aE1 ?_ | with_reducible refine aE2 ?_ | with_reducible refine aOn ?_ | ((with_reducible refine aCd ?_ ?_) <;> intro hv <;> first | (cases hv; done) | skip) | fail)); all_goals clear x0_ x1_ x2_ x3_ x4_ x5_ x6_ x7_ x8_ x9_ x10_ x11_ x12_ x13_ x14_ x15_)
      ((with_reducible apply W_unroll); (focus (simp only [loopKeep, firstRegion, keepsOf, tidy, canon, reach, refsL, refs, refsO, catMap, depth, renL, ren, renO, sub, sub1, upto, mem, place, fresh, cond_true, get, nth, List.map, List.zip_cons_cons, List.zip_nil_right, List.take, List.append_nil, List.nil_append, List.cons_append, Bool.and_true, beq_dec, decide_true, decide_false, Nat.reduceEqDiff, Nat.zero_add, Nat.reduceAdd] <;> exact rfl)))
      (have x0_ := @Ans.c.eq_1; have x1_ := @idx_0; have x2_ := @idx_1; have x3_ := @le00; have x4_ := @le01; have x5_ := @lt01; have x6_ := @lt02; have x7_ := @lt12; have x8_ := @ltS; have x9_ := @toN0; have x10_ := @toN1; have x11_ := @hb_51; have x12_ := @hb_53; have x13_ := @hb_52; have x14_ := @hb_54; have x15_ := @hb_56; (repeat' (first | with_reducible apply fol | with_reducible refine aRW ?_ | with_reducible refine aRR ?_ | with_reducible refine aRs ?_ | ((with_reducible first | apply RW_gdn | apply RR_gdn | apply RW_gd | apply RR_gd) <;> intro hg <;> first | (cases hg; done) | skip) | with_reducible refine aE1 ?_ | with_reducible refine aE2 ?_ | with_reducible refine aOn ?_ | ((with_reducible refine aCd ?_ ?_) <;> intro hv <;> first | (cases hv; done) | skip) | fail)); all_goals clear x0_ x1_ x2_ x3_ x4_ x5_ x6_ x7_ x8_ x9_ x10_ x11_ x12_ x13_ x14_ x15_)
      ((with_reducible apply Ends'_ret); (focus (simp only [CC_P, results, resultsOf, resultOf, get, load, loadCells, nth, cut, mkAgg, trees, res_39, List.length_cons, List.length_nil, List.take, List.drop, Nat.zero_add, Nat.reduceAdd, Nat.reduceLeDiff, if_true, *]; exact rfl)); (focus (first | exact finish_tree' _ _ _ _ | exact finish_tup2 _ _ _ _ _ | exact finish_tup3 _ _ _ _ _ _ | kernel_rfl)))
      · rfl
      · rfl
  · have hks2 : Hid _ := ⟨hks⟩
    clear hks
    ((repeat' (first | with_reducible apply fol | with_reducible refine aRW ?_ | with_reducible refine aRR ?_ | with_reducible refine aRs ?_ | ((with_reducible first | apply RW_gdn | apply RR_gdn | apply RW_gd | apply RR_gd) <;> intro hg <;> first | (cases hg; done) | skip) | with_reducible refine aE1 ?_ | with_reducible refine aE2 ?_ | with_reducible refine aOn ?_ | ((with_reducible refine aCd ?_ ?_) <;> intro hv <;> first | (cases hv; done) | skip) | fail)))
    refine W_rounds (α := Nat × Bool × List Ans) (fun a => match a.2.1 with
      | true => ⟨[(1, .t (.sl b b (all.map Ans.c))), (3, .t (.sl vnl vcl (vars.map Bind.c))), (4, .box 0 0), (6, .box 1 0), (8, .box 2 0), (9, .hs 3 0), (22, .t (.sl knl kcl (ks.map intC))), (23, .t (.int .i64 ks.length)), (24, .t (.int .i64 a.1))], [.box [.t (.int .u8 op), .t (.sl anl acl (al.map Node.c)), .t (.sl bnl bcl (bl.map Node.c)), .t (.bool low), .t (.bool high), .t (.sl knl kcl (ks.map intC)), .t (.int .i64 line), .t (.int .i64 col)], .box [.t (.int .u8 sk), .t (.int .i64 sn), .t (.str ss)], .box [.t (.int .u8 0), .t (.int .i64 0), .t (.str []), .t (.int .i64 0)], .arr 4 0 false (a.2.2.map Ans.c)]⟩
      | false => ⟨[(1, .t (.sl b b (all.map Ans.c))), (3, .t (.sl vnl vcl (vars.map Bind.c))), (4, .box 0 0), (6, .box 1 0), (8, .box 2 0), (9, .t (.sl true true [])), (22, .t (.sl knl kcl (ks.map intC))), (23, .t (.int .i64 ks.length)), (24, .t (.int .i64 a.1))], [.box [.t (.int .u8 op), .t (.sl anl acl (al.map Node.c)), .t (.sl bnl bcl (bl.map Node.c)), .t (.bool low), .t (.bool high), .t (.sl knl kcl (ks.map intC)), .t (.int .i64 line), .t (.int .i64 col)], .box [.t (.int .u8 sk), .t (.int .i64 sn), .t (.str ss)], .box [.t (.int .u8 0), .t (.int .i64 0), .t (.str []), .t (.int .i64 0)]]⟩)
      (fun a => ks.length - a.1) (fun a => a.1 ≤ ks.length ∧ a.2.1 = decide (0 < a.1) ∧ a.2.2 = (ks.take a.1).map (kidT all))
      (0, false, []) (by (simp only [loopKeep, firstRegion, keepsOf, tidy, canon, reach, refsL, refs, refsO, catMap, depth, renL, ren, renO, sub, sub1, upto, mem, place, fresh, cond_true, get, nth, List.map, List.zip_cons_cons, List.zip_nil_right, List.take, List.append_nil, List.nil_append, List.cons_append, beq_dec, decide_true, decide_false, Nat.reduceEqDiff] <;> exact rfl)) ⟨Nat.zero_le _, rfl, rfl⟩ ?_
    rintro ⟨j, st, kl⟩ ⟨hj, hst, hkls⟩
    try dsimp only at hj hst hkls
    by_cases hj' : j < ks.length
    · have hwj : IntKind.i64.wrap ((j : Int) + 1) = ((j + 1 : Nat) : Int) := by
        have := hx2.h
        dsimp only at this
        rw [wrap64] <;> omega
      have hej : ks[j]? = some ks[j] := List.getElem?_eq_getElem hj'
      have hdj : decide ((j : Int) < ks.length) = true := by simpa using hj'
      have htk : ks.take (j + 1) = ks.take j ++ [ks[j]] := by rw [List.take_add_one, hej]; rfl
      have hklen : kl.length = j := by rw [hkls]; simp; omega
      have hle : lens 4 (kl.map Ans.c) = true := lens_map Ans.c 4 (fun a => rfl) kl
      have hsm : decide (j + 1 < 4294967296) = true := by
        have := hx2.h
        simp only [decide_eq_true_eq]; dsimp only at this; omega
      generalize ks[j] = k at hej htk
      have hq : ∀ q : Ans, kidT all k = q → kl ++ [q] = (ks.take (j + 1)).map (kidT all) := fun q hq => by
        rw [htk, hkls]; simp [hq]
      clear hkls htk
      cases hk0 : decide (k < 0) with
      | true =>
        have hq2 : Hid _ := ⟨hq AZero (by unfold kidT; rw [if_pos]; exact .inl (by simpa using hk0))⟩
        clear hq
        cases st with
        | true =>
          clear hst
          ((repeat' (first | with_reducible apply fol | with_reducible refine aRW ?_ | with_reducible refine aRR ?_ | with_reducible refine aRs ?_ | ((with_reducible first | apply RW_gdn | apply RR_gdn | apply RW_gd | apply RR_gd) <;> intro hg <;> first | (cases hg; done) | skip) | with_reducible refine aE1 ?_ | with_reducible refine aE2 ?_ | with_reducible refine aOn ?_ | ((with_reducible refine aCd ?_ ?_) <;> intro hv <;> first | (cases hv; done) | skip) | fail)))
          refine again_normal (j + 1, true, kl ++ [AZero]) (by first | omega | (dsimp only; omega)) ⟨by first | omega | (dsimp only; omega), by simp, hq2.h⟩ (by (simp only [loopKeep, firstRegion, keepsOf, tidy, canon, reach, refsL, refs, refsO, catMap, depth, renL, ren, renO, sub, sub1, upto, mem, place, fresh, cond_true, get, nth, List.map, List.zip_cons_cons, List.zip_nil_right, List.take, List.append_nil, List.nil_append, List.cons_append, Bool.and_true, beq_dec, decide_true, decide_false, Nat.reduceEqDiff, List.map_append, AZero, Zero, Ans.c, ] <;> exact rfl))
        | false =>
          have hj0 : j = 0 := by simpa using hst
          subst hj0
          obtain rfl : kl = [] := List.length_eq_zero_iff.1 hklen
          have hej : ks[0]? = some _ := hej
          clear hst hklen hle hsm
          ((repeat' (first | with_reducible apply fol | with_reducible refine aRW ?_ | with_reducible refine aRR ?_ | with_reducible refine aRs ?_ | ((with_reducible first | apply RW_gdn | apply RR_gdn | apply RW_gd | apply RR_gd) <;> intro hg <;> first | (cases hg; done) | skip) | with_reducible refine aE1 ?_ | with_reducible refine aE2 ?_ | with_reducible refine aOn ?_ | ((with_reducible refine aCd ?_ ?_) <;> intro hv <;> first | (cases hv; done) | skip) | fail)))
          refine again_normal (1, true, [AZero]) (by first | omega | (dsimp only; omega)) ⟨by first | omega | (dsimp only; omega), rfl, hq2.h⟩ (by (simp only [loopKeep, firstRegion, keepsOf, tidy, canon, reach, refsL, refs, refsO, catMap, depth, renL, ren, renO, sub, sub1, upto, mem, place, fresh, cond_true, get, nth, List.map, List.zip_cons_cons, List.zip_nil_right, List.take, List.append_nil, List.nil_append, List.cons_append, Bool.and_true, beq_dec, decide_true, decide_false, Nat.reduceEqDiff, AZero, Zero, Ans.c, ] <;> exact rfl))
      | false =>
        cases hk1 : decide (k ≥ (all.length : Int)) with
        | true =>
          have hq2 : Hid _ := ⟨hq AZero (by unfold kidT; rw [if_pos]; exact .inr (by simpa using hk1))⟩
          clear hq
          cases st with
          | true =>
            clear hst
            ((repeat' (first | with_reducible apply fol | with_reducible refine aRW ?_ | with_reducible refine aRR ?_ | with_reducible refine aRs ?_ | ((with_reducible first | apply RW_gdn | apply RR_gdn | apply RW_gd | apply RR_gd) <;> intro hg <;> first | (cases hg; done) | skip) | with_reducible refine aE1 ?_ | with_reducible refine aE2 ?_ | with_reducible refine aOn ?_ | ((with_reducible refine aCd ?_ ?_) <;> intro hv <;> first | (cases hv; done) | skip) | fail)))
            refine again_normal (j + 1, true, kl ++ [AZero]) (by first | omega | (dsimp only; omega)) ⟨by first | omega | (dsimp only; omega), by simp, hq2.h⟩ (by (simp only [loopKeep, firstRegion, keepsOf, tidy, canon, reach, refsL, refs, refsO, catMap, depth, renL, ren, renO, sub, sub1, upto, mem, place, fresh, cond_true, get, nth, List.map, List.zip_cons_cons, List.zip_nil_right, List.take, List.append_nil, List.nil_append, List.cons_append, Bool.and_true, beq_dec, decide_true, decide_false, Nat.reduceEqDiff, List.map_append, AZero, Zero, Ans.c, ] <;> exact rfl))
          | false =>
            have hj0 : j = 0 := by simpa using hst
            subst hj0
            obtain rfl : kl = [] := List.length_eq_zero_iff.1 hklen
            have hej : ks[0]? = some _ := hej
            clear hst hklen hle hsm
            ((repeat' (first | with_reducible apply fol | with_reducible refine aRW ?_ | with_reducible refine aRR ?_ | with_reducible refine aRs ?_ | ((with_reducible first | apply RW_gdn | apply RR_gdn | apply RW_gd | apply RR_gd) <;> intro hg <;> first | (cases hg; done) | skip) | with_reducible refine aE1 ?_ | with_reducible refine aE2 ?_ | with_reducible refine aOn ?_ | ((with_reducible refine aCd ?_ ?_) <;> intro hv <;> first | (cases hv; done) | skip) | fail)))
            refine again_normal (1, true, [AZero]) (by first | omega | (dsimp only; omega)) ⟨by first | omega | (dsimp only; omega), rfl, hq2.h⟩ (by (simp only [loopKeep, firstRegion, keepsOf, tidy, canon, reach, refsL, refs, refsO, catMap, depth, renL, ren, renO, sub, sub1, upto, mem, place, fresh, cond_true, get, nth, List.map, List.zip_cons_cons, List.zip_nil_right, List.take, List.append_nil, List.nil_append, List.cons_append, Bool.and_true, beq_dec, decide_true, decide_false, Nat.reduceEqDiff, AZero, Zero, Ans.c, ] <;> exact rfl))
        | false =>
          have h0k : 0 ≤ k := by simpa using hk0
          obtain ⟨q, rfl⟩ := Int.eq_ofNat_of_zero_le h0k
          have hqi : q < all.length := by
            have : ¬ ((q : Int) ≥ all.length) := by simpa using hk1
            omega
          have hga : all[q]? = some (getA all q) := by
            unfold getA
            rw [List.getD_eq_getElem?_getD, List.getElem?_eq_getElem hqi]; rfl
          have hkid : kidT all (q : Int) = getA all q := by
            unfold kidT
            rw [if_neg (by omega), Int.toNat_natCast]
          have hq2 : Hid _ := ⟨hq _ hkid⟩
          generalize getA all q = ga at hga hq2
          obtain ⟨⟨gk, gn, gs⟩, ge⟩ := ga
          clear hq hkid
          cases st with
          | true =>
            clear hst
            (have x0_ := @Ans.c.eq_1; (repeat' (first | with_reducible apply fol | with_reducible refine aRW ?_ | with_reducible refine aRR ?_ | with_reducible refine aRs ?_ | ((with_reducible first | apply RW_gdn | apply RR_gdn | apply RW_gd | apply RR_gd) <;> intro hg <;> first | (cases hg; done) | skip) | with_reducible refine aE1 ?_ | with_reducible refine aE2 ?_ | with_reducible refine aOn ?_ | ((with_reducible refine aCd ?_ ?_) <;> intro hv <;> first | (cases hv; done) | skip) | fail)); all_goals clear x0_)
            refine again_normal (j + 1, true, kl ++ [⟨⟨gk, gn, gs⟩, ge⟩]) (by first | omega | (dsimp only; omega)) ⟨by first | omega | (dsimp only; omega), by simp, hq2.h⟩ (by (simp only [loopKeep, firstRegion, keepsOf, tidy, canon, reach, refsL, refs, refsO, catMap, depth, renL, ren, renO, sub, sub1, upto, mem, place, fresh, cond_true, get, nth, List.map, List.zip_cons_cons, List.zip_nil_right, List.take, List.append_nil, List.nil_append, List.cons_append, Bool.and_true, beq_dec, decide_true, decide_false, Nat.reduceEqDiff, List.map_append, Ans.c, Ans.c] <;> exact rfl))
          | false =>
            have hj0 : j = 0 := by simpa using hst
            subst hj0
            obtain rfl : kl = [] := List.length_eq_zero_iff.1 hklen
            have hej : ks[0]? = some _ := hej
            clear hst hklen hle hsm
            (have x0_ := @Ans.c.eq_1; (repeat' (first | with_reducible apply fol | with_reducible refine aRW ?_ | with_reducible refine aRR ?_ | with_reducible refine aRs ?_ | ((with_reducible first | apply RW_gdn | apply RR_gdn | apply RW_gd | apply RR_gd) <;> intro hg <;> first | (cases hg; done) | skip) | with_reducible refine aE1 ?_ | with_reducible refine aE2 ?_ | with_reducible refine aOn ?_ | ((with_reducible refine aCd ?_ ?_) <;> intro hv <;> first | (cases hv; done) | skip) | fail)); all_goals clear x0_)
            refine again_normal (1, true, [⟨⟨gk, gn, gs⟩, ge⟩]) (by first | omega | (dsimp only; omega)) ⟨by first | omega | (dsimp only; omega), rfl, hq2.h⟩ (by (simp only [loopKeep, firstRegion, keepsOf, tidy, canon, reach, refsL, refs, refsO, catMap, depth, renL, ren, renO, sub, sub1, upto, mem, place, fresh, cond_true, get, nth, List.map, List.zip_cons_cons, List.zip_nil_right, List.take, List.append_nil, List.nil_append, List.cons_append, Bool.and_true, beq_dec, decide_true, decide_false, Nat.reduceEqDiff, Ans.c, Ans.c] <;> exact rfl))
    · have hd : decide ((j : Int) < ks.length) = false := by simpa using hj'
      have hjl : j = ks.length := by omega
      have hkl : kidsT all ks = kl := by
        unfold kidsT; rw [if_neg hks2.h, hkls, hjl, List.take_length]
      obtain rfl : st = true := by
        rw [hst]
        have : ks.length ≠ 0 := fun h => hks2.h (List.length_eq_zero_iff.1 h)
        simp; omega
      have hne : kl ≠ [] := by
        intro h
        rw [h] at hkls
        have := congrArg List.length hkls
        have h3 : ks.length ≠ 0 := fun h => hks2.h (List.length_eq_zero_iff.1 h)
        simp at this; omega
      dsimp only at hkp hR
      rw [hkl] at hkp
      rw [hkl] at hR
      obtain ⟨g, gl, rfl⟩ := List.exists_cons_of_ne_nil hne
      have hgl : gl.length < 9223372036854775807 := by
        have h1 := congrArg List.length hkls
        have h2 := hx2.h
        dsimp only at h2
        simp at h1; omega
      clear hkls hst hkl hne hjl
      have hkp2 : AOK g := hkp.h g (by simp)
      have hlt : decide (((gl.length : Int) + 1) < 1) = false := by simp; omega
      have hlt2 : decide (((gl.length + 1 : Nat) : Int) < 1) = false := by simp; omega
      obtain ⟨⟨gk, gn, gs⟩, ge⟩ := g
      ((repeat' (first | with_reducible apply fol | with_reducible refine aRW ?_ | with_reducible refine aRR ?_ | with_reducible refine aRs ?_ | ((with_reducible first | apply RW_gdn | apply RR_gdn | apply RW_gd | apply RR_gd) <;> intro hg <;> first | (cases hg; done) | skip) | with_reducible refine aE1 ?_ | with_reducible refine aE2 ?_ | with_reducible refine aOn ?_ | ((with_reducible refine aCd ?_ ?_) <;> intro hv <;> first | (cases hv; done) | skip) | fail)))
      ((with_reducible apply W_unroll); (focus (simp only [loopKeep, firstRegion, keepsOf, tidy, canon, reach, refsL, refs, refsO, catMap, depth, renL, ren, renO, sub, sub1, upto, mem, place, fresh, cond_true, get, nth, List.map, List.zip_cons_cons, List.zip_nil_right, List.take, List.append_nil, List.nil_append, List.cons_append, Bool.and_true, beq_dec, decide_true, decide_false, Nat.reduceEqDiff, Nat.zero_add, Nat.reduceAdd] <;> exact rfl)))
      rcases hpc.h with h1 | ⟨s, h1⟩ | ⟨s, t, h1⟩
      · rw [h1] at hparts
        have hRe := hR.h.1 h1
        simp only [opsT, exprsT] at hparts
        clear h1
        by_cases o1 : op = 1
        · have e1 : (op == 1) = true := by simp [o1]
          obtain rfl : R = ⟨⟨4, 1, []⟩, 0⟩ := by rw [hRe]; simp [restS, o1]
          clear o1 hRe
          (have x0_ := @Ans.c.eq_1; have x1_ := @idx_0; have x2_ := @idx_1; have x3_ := @le00; have x4_ := @le01; have x5_ := @lt01; have x6_ := @lt02; have x7_ := @lt12; have x8_ := @ltS; have x9_ := @toN0; have x10_ := @toN1; have x11_ := @hb_51; have x12_ := @hb_53; have x13_ := @hb_52; have x14_ := @hb_54; have x15_ := @hb_56; (repeat' (first | with_reducible apply fol | with_reducible refine aRW ?_ | with_reducible refine aRR ?_ | with_reducible refine aRs ?_ | ((with_reducible first | apply RW_gdn | apply RR_gdn | apply RW_gd | apply RR_gd) <;> intro hg <;> first | (cases hg; done) | skip) | with_reducible refine aE1 ?_ | with_reducible refine aE2 ?_ | with_reducible refine aOn ?_ | ((with_reducible refine aCd ?_ ?_) <;> intro hv <;> first | (cases hv; done) | skip) | fail)); all_goals clear x0_ x1_ x2_ x3_ x4_ x5_ x6_ x7_ x8_ x9_ x10_ x11_ x12_ x13_ x14_ x15_)
          ((with_reducible apply W_unroll); (focus (simp only [loopKeep, firstRegion, keepsOf, tidy, canon, reach, refsL, refs, refsO, catMap, depth, renL, ren, renO, sub, sub1, upto, mem, place, fresh, cond_true, get, nth, List.map, List.zip_cons_cons, List.zip_nil_right, List.take, List.append_nil, List.nil_append, List.cons_append, Bool.and_true, beq_dec, decide_true, decide_false, Nat.reduceEqDiff, Nat.zero_add, Nat.reduceAdd] <;> exact rfl)))
          (have x0_ := @Ans.c.eq_1; have x1_ := @idx_0; have x2_ := @idx_1; have x3_ := @le00; have x4_ := @le01; have x5_ := @lt01; have x6_ := @lt02; have x7_ := @lt12; have x8_ := @ltS; have x9_ := @toN0; have x10_ := @toN1; have x11_ := @hb_51; have x12_ := @hb_53; have x13_ := @hb_52; have x14_ := @hb_54; have x15_ := @hb_56; (repeat' (first | with_reducible apply fol | with_reducible refine aRW ?_ | with_reducible refine aRR ?_ | with_reducible refine aRs ?_ | ((with_reducible first | apply RW_gdn | apply RR_gdn | apply RW_gd | apply RR_gd) <;> intro hg <;> first | (cases hg; done) | skip) | with_reducible refine aE1 ?_ | with_reducible refine aE2 ?_ | with_reducible refine aOn ?_ | ((with_reducible refine aCd ?_ ?_) <;> intro hv <;> first | (cases hv; done) | skip) | fail)); all_goals clear x0_ x1_ x2_ x3_ x4_ x5_ x6_ x7_ x8_ x9_ x10_ x11_ x12_ x13_ x14_ x15_)
          ((with_reducible apply Ends'_ret); (focus (simp only [CC_P, results, resultsOf, resultOf, get, load, loadCells, nth, cut, mkAgg, trees, res_39, List.length_cons, List.length_nil, List.take, List.drop, Nat.zero_add, Nat.reduceAdd, Nat.reduceLeDiff, if_true, *]; exact rfl)); (focus (first | exact finish_tree' _ _ _ _ | exact finish_tup2 _ _ _ _ _ | exact finish_tup3 _ _ _ _ _ _ | kernel_rfl)))
          · rfl
          · rfl
        have e1 : (op == 1) = false := by simpa using o1
        by_cases o8 : op = 8
        · have e8 : (op == 8) = true := by simp [o8]
          obtain rfl : R = NotU (⟨⟨gk, gn, gs⟩, ge⟩ : Ans) := by rw [hRe]; simp only [restS, o8]; rfl
          have hn := notU_ok gk gn gs ge
          generalize NotU (⟨⟨gk, gn, gs⟩, ge⟩ : Ans) = q at hn ⊢
          obtain ⟨⟨rk, rn, rs⟩, re⟩ := q
          clear o1 o8 hRe
          (have x0_ := @Ans.c.eq_1; have x1_ := @idx_0; have x2_ := @idx_1; have x3_ := @le00; have x4_ := @le01; have x5_ := @lt01; have x6_ := @lt02; have x7_ := @lt12; have x8_ := @ltS; have x9_ := @toN0; have x10_ := @toN1; have x11_ := @hb_51; have x12_ := @hb_53; have x13_ := @hb_52; have x14_ := @hb_54; have x15_ := @hb_56; (repeat' (first | with_reducible apply fol | with_reducible refine aRW ?_ | with_reducible refine aRR ?_ | with_reducible refine aRs ?_ | ((with_reducible first | apply RW_gdn | apply RR_gdn | apply RW_gd | apply RR_gd) <;> intro hg <;> first | (cases hg; done) | skip) | with_reducible refine aE1 ?_ | with_reducible refine aE2 ?_ | with_reducible refine aOn ?_ | ((with_reducible refine aCd ?_ ?_) <;> intro hv <;> first | (cases hv; done) | skip) | fail)); all_goals clear x0_ x1_ x2_ x3_ x4_ x5_ x6_ x7_ x8_ x9_ x10_ x11_ x12_ x13_ x14_ x15_)
          ((with_reducible apply W_unroll); (focus (simp only [loopKeep, firstRegion, keepsOf, tidy, canon, reach, refsL, refs, refsO, catMap, depth, renL, ren, renO, sub, sub1, upto, mem, place, fresh, cond_true, get, nth, List.map, List.zip_cons_cons, List.zip_nil_right, List.take, List.append_nil, List.nil_append, List.cons_append, Bool.and_true, beq_dec, decide_true, decide_false, Nat.reduceEqDiff, Nat.zero_add, Nat.reduceAdd] <;> exact rfl)))
          (have x0_ := @Ans.c.eq_1; have x1_ := @idx_0; have x2_ := @idx_1; have x3_ := @le00; have x4_ := @le01; have x5_ := @lt01; have x6_ := @lt02; have x7_ := @lt12; have x8_ := @ltS; have x9_ := @toN0; have x10_ := @toN1; have x11_ := @hb_51; have x12_ := @hb_53; have x13_ := @hb_52; have x14_ := @hb_54; have x15_ := @hb_56; (repeat' (first | with_reducible apply fol | with_reducible refine aRW ?_ | with_reducible refine aRR ?_ | with_reducible refine aRs ?_ | ((with_reducible first | apply RW_gdn | apply RR_gdn | apply RW_gd | apply RR_gd) <;> intro hg <;> first | (cases hg; done) | skip) | with_reducible refine aE1 ?_ | with_reducible refine aE2 ?_ | with_reducible refine aOn ?_ | ((with_reducible refine aCd ?_ ?_) <;> intro hv <;> first | (cases hv; done) | skip) | fail)); all_goals clear x0_ x1_ x2_ x3_ x4_ x5_ x6_ x7_ x8_ x9_ x10_ x11_ x12_ x13_ x14_ x15_)
          ((with_reducible apply Ends'_ret); (focus (simp only [CC_P, results, resultsOf, resultOf, get, load, loadCells, nth, cut, mkAgg, trees, res_39, List.length_cons, List.length_nil, List.take, List.drop, Nat.zero_add, Nat.reduceAdd, Nat.reduceLeDiff, if_true, *]; exact rfl)); (focus (first | exact finish_tree' _ _ _ _ | exact finish_tup2 _ _ _ _ _ | exact finish_tup3 _ _ _ _ _ _ | kernel_rfl)))
          · rfl
          · rfl
        have e8 : (op == 8) = false := by simpa using o8
        by_cases o9 : op = 9
        · have e9 : (op == 9) = true := by simp [o9]
          obtain rfl : R = gl.foldl BothAny (⟨⟨gk, gn, gs⟩, ge⟩ : Ans) := by rw [hRe]; simp only [restS, o9]; rfl
          have hkk : Hid _ := ⟨hkp.h⟩
          clear o1 o8 o9 hRe
          (have x0_ := @Ans.c.eq_1; have x1_ := @idx_0; have x2_ := @idx_1; have x3_ := @le00; have x4_ := @le01; have x5_ := @lt01; have x6_ := @lt02; have x7_ := @lt12; have x8_ := @ltS; have x9_ := @toN0; have x10_ := @toN1; have x11_ := @hb_51; have x12_ := @hb_53; have x13_ := @hb_52; have x14_ := @hb_54; have x15_ := @hb_56; (repeat' (first | with_reducible apply fol | with_reducible refine aRW ?_ | with_reducible refine aRR ?_ | with_reducible refine aRs ?_ | ((with_reducible first | apply RW_gdn | apply RR_gdn | apply RW_gd | apply RR_gd) <;> intro hg <;> first | (cases hg; done) | skip) | with_reducible refine aE1 ?_ | with_reducible refine aE2 ?_ | with_reducible refine aOn ?_ | ((with_reducible refine aCd ?_ ?_) <;> intro hv <;> first | (cases hv; done) | skip) | fail)); all_goals clear x0_ x1_ x2_ x3_ x4_ x5_ x6_ x7_ x8_ x9_ x10_ x11_ x12_ x13_ x14_ x15_)
          ((with_reducible apply W_unroll); (focus (simp only [loopKeep, firstRegion, keepsOf, tidy, canon, reach, refsL, refs, refsO, catMap, depth, renL, ren, renO, sub, sub1, upto, mem, place, fresh, cond_true, get, nth, List.map, List.zip_cons_cons, List.zip_nil_right, List.take, List.append_nil, List.nil_append, List.cons_append, Bool.and_true, beq_dec, decide_true, decide_false, Nat.reduceEqDiff, Nat.zero_add, Nat.reduceAdd] <;> exact rfl)))
          repeat' (first | with_reducible apply once_normal | with_reducible apply once_exit | with_reducible apply once_ret | with_reducible apply once_pan | with_reducible apply thenW_normal | with_reducible apply thenW_ret | with_reducible apply thenW_exit | with_reducible apply thenW_pan | with_reducible apply outOf_normal | with_reducible apply outOf_eq | (refine outOf_ne (by kernel_rfl) ?_) | with_reducible apply outOf_ret | with_reducible apply outOf_pan | with_reducible apply again_exit | with_reducible apply again_ret | with_reducible apply again_pan | with_reducible apply W_seq | with_reducible apply W_block | with_reducible apply W_scope | with_reducible apply W_skip | with_reducible apply W_ret | with_reducible apply W_exit | with_reducible apply W_label | ((with_reducible apply W_RW); (focus kernel_rfl)) | ((with_reducible apply W_RR); (focus kernel_rfl); (focus kernel_rfl)) | with_reducible apply RW_some | with_reducible apply RR_cons | ((with_reducible apply RR_some); (refine ⟨by kernel_rfl, ?_⟩)) | ((with_reducible refine RW_gdn (fun hg => ?_) (fun hg => ?_)) <;> first | (cases hg; done) | skip) | ((with_reducible refine RR_gdn (fun hg => ?_) (fun hg => ?_)) <;> first | (cases hg; done) | skip) | ((with_reducible refine RW_gd (fun hg => ?_) (fun hg => ?_)) <;> first | (cases hg; done) | skip) | ((with_reducible refine RR_gd (fun hg => ?_) (fun hg => ?_)) <;> first | (cases hg; done) | skip) | ((with_reducible apply RW_eq); (focus (simp only [Option.getD_some, List.all_cons, List.all_nil, isCell, le00, le01, ltS, toN0, toN1, xSlice, slice, bound, Option.getD_some, Option.getD_none, Int.toNat_natCast, le1S, leZ, Nat.add_sub_cancel, Int.ofNat_eq_natCast, List.length_map, wanted, exec1, xAlloc, xCall, xBuiltin, xLen, xStore, xIndexAddr, cellsOf, operand, opds, get, putT, ret, retO, lit, lit1, patch, put1, load, loadCells, cut, addOff, mkAgg, trees, nth, lenOf, indexAddr, storeAt, upd, splice, isCell, CC_P, int_lss, int_eql, Nat.zero_add, Nat.add_zero, List.map_cons, List.map_nil, List.length_cons, List.length_nil, List.take, List.drop, List.all_cons, List.all_nil, List.nil_append, List.append_nil, Bool.and_self, if_true, Nat.reduceAdd, Nat.reduceLeDiff, and_self, runOps_cons, runOps_nil, gdL_true, *]; exact rfl))) | ((with_reducible apply RR_eq); (focus (simp only [*]; exact rfl))) | ((refine W_cond (by (simp only [operand, get, lit, lit1, *]; exact rfl)) (fun hv => ?_) (fun hv => ?_)) <;> first | (cases hv; done) | skip))
          refine W_rounds (α := Nat × Ans) (fun a => ⟨[(8, .box 0 0), (18, .box 1 0), (127, .hsub 2 0 1 gl.length), (128, .t (.int .i64 gl.length)), (129, .t (.int .i64 a.1))], [.box [.t (.int .u8 0), .t (.int .i64 0), .t (.str []), .t (.int .i64 0)], .box [.t (.int .u8 a.2.v.k), .t (.int .i64 a.2.v.n), .t (.str a.2.v.s), .t (.int .i64 a.2.e)], .arr 4 0 false ([.int .u8 gk, .int .i64 gn, .str gs, .int .i64 ge] :: gl.map Ans.c)]⟩)
            (fun a => gl.length - a.1) (fun a => a.1 ≤ gl.length ∧ a.2 = (gl.take a.1).foldl BothAny (⟨⟨gk, gn, gs⟩, ge⟩ : Ans)) (0, (⟨⟨gk, gn, gs⟩, ge⟩ : Ans)) (by (simp only [loopKeep, firstRegion, keepsOf, tidy, canon, reach, refsL, refs, refsO, catMap, depth, renL, ren, renO, sub, sub1, upto, mem, place, fresh, cond_true, get, nth, List.map, List.zip_cons_cons, List.zip_nil_right, List.take, List.append_nil, List.nil_append, List.cons_append, Bool.and_true, beq_dec, decide_true, decide_false, Nat.reduceEqDiff] <;> exact rfl)) ⟨Nat.zero_le _, rfl⟩ ?_
          rintro ⟨j, cur⟩ ⟨hj, hcur⟩
          try dsimp only at hj hcur
          have hcp : AOK cur := by rw [hcur]; exact foldB_p _ _ hkp2
          by_cases hj' : j < gl.length
          · have hwj : IntKind.i64.wrap ((j : Int) + 1) = ((j + 1 : Nat) : Int) := by rw [wrap64] <;> omega
            have hej : gl[j]? = some gl[j] := List.getElem?_eq_getElem hj'
            have hdj : decide ((j : Int) < gl.length) = true := by simpa using hj'
            have htk : gl.take (j + 1) = gl.take j ++ [gl[j]] := by rw [List.take_add_one, hej]; rfl
            have hxp : AOK gl[j] := hkk.h _ (List.mem_cons_of_mem _ (List.getElem_mem hj'))
            generalize gl[j] = x at hej htk hxp
            have hnext : (gl.take (j + 1)).foldl BothAny (⟨⟨gk, gn, gs⟩, ge⟩ : Ans) = BothAny cur x := by rw [htk, List.foldl_append, ← hcur]; rfl
            have hbo := bothAny_ok cur x hcp hxp
            have hnth : nth (gl.map Ans.c) j = some x.c := by rw [nth_eq, List.getElem?_map, hej]; rfl
            generalize BothAny cur x = nx at hnext hbo
            have hnext2 : Hid _ := ⟨hnext⟩
            clear hnext hcur htk hcp hxp hkp2
            obtain ⟨⟨ck, cn, cs⟩, ce⟩ := cur
            obtain ⟨⟨xk, xn, xs⟩, xe⟩ := x
            obtain ⟨⟨yk, yn, ys⟩, ye⟩ := nx
            dsimp only [Ans.c] at hbo hnth
            have hz0 : (0 : Int) ≤ (j : Int) := Int.natCast_nonneg j
            have hjl : (j : Int) < (gl.length : Int) := by omega
            have hgg : (1 + gl.length ≤ gl.length + 1) := by omega
            (have x0_ := @Ans.c.eq_1; have x1_ := @idx_0; have x2_ := @idx_1; have x3_ := @le00; have x4_ := @le01; have x5_ := @lt01; have x6_ := @lt02; have x7_ := @lt12; have x8_ := @ltS; have x9_ := @toN0; have x10_ := @toN1; have x11_ := @hb_51; have x12_ := @hb_53; have x13_ := @hb_52; have x14_ := @hb_54; have x15_ := @hb_56; have x16_ := @nth_1; have x17_ := @Nat.le_refl; (repeat' (first | with_reducible apply fol | with_reducible refine aRW ?_ | with_reducible refine aRR ?_ | with_reducible refine aRs ?_ | ((with_reducible first | apply RW_gdn | apply RR_gdn | apply RW_gd | apply RR_gd) <;> intro hg <;> first | (cases hg; done) | skip) | with_reducible refine aE1 ?_ | with_reducible refine aE2 ?_ | with_reducible refine aOn ?_ | ((with_reducible refine aCd ?_ ?_) <;> intro hv <;> first | (cases hv; done) | skip) | fail)); all_goals clear x0_ x1_ x2_ x3_ x4_ x5_ x6_ x7_ x8_ x9_ x10_ x11_ x12_ x13_ x14_ x15_ x16_ x17_)
            refine again_normal (j + 1, ⟨⟨yk, yn, ys⟩, ye⟩) (by first | omega | (dsimp only; omega)) ⟨by first | omega | (dsimp only; omega), hnext2.h.symm⟩ (by (simp only [loopKeep, firstRegion, keepsOf, tidy, canon, reach, refsL, refs, refsO, catMap, depth, renL, ren, renO, sub, sub1, upto, mem, place, fresh, cond_true, get, nth, List.map, List.zip_cons_cons, List.zip_nil_right, List.take, List.append_nil, List.nil_append, List.cons_append, Bool.and_true, beq_dec, decide_true, decide_false, Nat.reduceEqDiff] <;> exact rfl))
          · have hdj : decide ((j : Int) < gl.length) = false := by simpa using hj'
            rw [List.take_of_length_le (by omega)] at hcur
            rw [← hcur]
            clear hcur hcp hkp2
            obtain ⟨⟨ck, cn, cs⟩, ce⟩ := cur
            (have x0_ := @Ans.c.eq_1; have x1_ := @idx_0; have x2_ := @idx_1; have x3_ := @le00; have x4_ := @le01; have x5_ := @lt01; have x6_ := @lt02; have x7_ := @lt12; have x8_ := @ltS; have x9_ := @toN0; have x10_ := @toN1; have x11_ := @hb_51; have x12_ := @hb_53; have x13_ := @hb_52; have x14_ := @hb_54; have x15_ := @hb_56; (repeat' (first | with_reducible apply fol | with_reducible refine aRW ?_ | with_reducible refine aRR ?_ | with_reducible refine aRs ?_ | ((with_reducible first | apply RW_gdn | apply RR_gdn | apply RW_gd | apply RR_gd) <;> intro hg <;> first | (cases hg; done) | skip) | with_reducible refine aE1 ?_ | with_reducible refine aE2 ?_ | with_reducible refine aOn ?_ | ((with_reducible refine aCd ?_ ?_) <;> intro hv <;> first | (cases hv; done) | skip) | fail)); all_goals clear x0_ x1_ x2_ x3_ x4_ x5_ x6_ x7_ x8_ x9_ x10_ x11_ x12_ x13_ x14_ x15_)
            ((with_reducible apply Ends'_ret); (focus (simp only [CC_P, results, resultsOf, resultOf, get, load, loadCells, nth, cut, mkAgg, trees, res_39, List.length_cons, List.length_nil, List.take, List.drop, Nat.zero_add, Nat.reduceAdd, Nat.reduceLeDiff, if_true, *]; exact rfl)); (focus (first | exact finish_tree' _ _ _ _ | exact finish_tup2 _ _ _ _ _ | exact finish_tup3 _ _ _ _ _ _ | kernel_rfl)))
            · rfl
            · rfl
        have e9 : (op == 9) = false := by simpa using o9
        obtain rfl : R = ⟨Zero, 2⟩ := by rw [hRe]; simp [restS, o1, o8, o9]
        clear o1 o8 o9 hRe
        (have x0_ := @Ans.c.eq_1; have x1_ := @idx_0; have x2_ := @idx_1; have x3_ := @le00; have x4_ := @le01; have x5_ := @lt01; have x6_ := @lt02; have x7_ := @lt12; have x8_ := @ltS; have x9_ := @toN0; have x10_ := @toN1; have x11_ := @hb_51; have x12_ := @hb_53; have x13_ := @hb_52; have x14_ := @hb_54; have x15_ := @hb_56; (repeat' (first | with_reducible apply fol | with_reducible refine aRW ?_ | with_reducible refine aRR ?_ | with_reducible refine aRs ?_ | ((with_reducible first | apply RW_gdn | apply RR_gdn | apply RW_gd | apply RR_gd) <;> intro hg <;> first | (cases hg; done) | skip) | with_reducible refine aE1 ?_ | with_reducible refine aE2 ?_ | with_reducible refine aOn ?_ | ((with_reducible refine aCd ?_ ?_) <;> intro hv <;> first | (cases hv; done) | skip) | fail)); all_goals clear x0_ x1_ x2_ x3_ x4_ x5_ x6_ x7_ x8_ x9_ x10_ x11_ x12_ x13_ x14_ x15_)
        ((with_reducible apply W_unroll); (focus (simp only [loopKeep, firstRegion, keepsOf, tidy, canon, reach, refsL, refs, refsO, catMap, depth, renL, ren, renO, sub, sub1, upto, mem, place, fresh, cond_true, get, nth, List.map, List.zip_cons_cons, List.zip_nil_right, List.take, List.append_nil, List.nil_append, List.cons_append, Bool.and_true, beq_dec, decide_true, decide_false, Nat.reduceEqDiff, Nat.zero_add, Nat.reduceAdd] <;> exact rfl)))
        (have x0_ := @Ans.c.eq_1; have x1_ := @idx_0; have x2_ := @idx_1; have x3_ := @le00; have x4_ := @le01; have x5_ := @lt01; have x6_ := @lt02; have x7_ := @lt12; have x8_ := @ltS; have x9_ := @toN0; have x10_ := @toN1; have x11_ := @hb_51; have x12_ := @hb_53; have x13_ := @hb_52; have x14_ := @hb_54; have x15_ := @hb_56; (repeat' (first | with_reducible apply fol | with_reducible refine aRW ?_ | with_reducible refine aRR ?_ | with_reducible refine aRs ?_ | ((with_reducible first | apply RW_gdn | apply RR_gdn | apply RW_gd | apply RR_gd) <;> intro hg <;> first | (cases hg; done) | skip) | with_reducible refine aE1 ?_ | with_reducible refine aE2 ?_ | with_reducible refine aOn ?_ | ((with_reducible refine aCd ?_ ?_) <;> intro hv <;> first | (cases hv; done) | skip) | fail)); all_goals clear x0_ x1_ x2_ x3_ x4_ x5_ x6_ x7_ x8_ x9_ x10_ x11_ x12_ x13_ x14_ x15_)
        ((with_reducible apply Ends'_ret); (focus (simp only [CC_P, results, resultsOf, resultOf, get, load, loadCells, nth, cut, mkAgg, trees, res_39, List.length_cons, List.length_nil, List.take, List.drop, Nat.zero_add, Nat.reduceAdd, Nat.reduceLeDiff, if_true, *]; exact rfl)); (focus (first | exact finish_tree' _ _ _ _ | exact finish_tup2 _ _ _ _ _ | exact finish_tup3 _ _ _ _ _ _ | kernel_rfl)))
        · rfl
        · rfl
      · rw [h1] at hparts
        have hRe := hR.h.2.1 s h1
        simp only [opsT, exprsT, List.map_cons, List.map_nil, Sl.t] at hparts
        obtain ⟨L, hA, hE⟩ := hmA.h s
        dsimp only at hA hE hRe
        rw [← hRe] at hE
        clear h1 hRe
        clear hR
        obtain ⟨⟨rk, rn, rs⟩, re⟩ := R
        dsimp only at hE
        (have x0_ := @Ans.c.eq_1; have x1_ := @idx_0; have x2_ := @idx_1; have x3_ := @le00; have x4_ := @le01; have x5_ := @lt01; have x6_ := @lt02; have x7_ := @lt12; have x8_ := @ltS; have x9_ := @toN0; have x10_ := @toN1; have x11_ := @hb_51; have x12_ := @hb_53; have x13_ := @hb_52; have x14_ := @hb_54; have x15_ := @hb_56; (repeat' (first | with_reducible apply fol | with_reducible refine aRW ?_ | with_reducible refine aRR ?_ | with_reducible refine aRs ?_ | ((with_reducible first | apply RW_gdn | apply RR_gdn | apply RW_gd | apply RR_gd) <;> intro hg <;> first | (cases hg; done) | skip) | with_reducible refine aE1 ?_ | with_reducible refine aE2 ?_ | with_reducible refine aOn ?_ | ((with_reducible refine aCd ?_ ?_) <;> intro hv <;> first | (cases hv; done) | skip) | fail)); all_goals clear x0_ x1_ x2_ x3_ x4_ x5_ x6_ x7_ x8_ x9_ x10_ x11_ x12_ x13_ x14_ x15_)
        ((with_reducible apply W_unroll); (focus (simp only [loopKeep, firstRegion, keepsOf, tidy, canon, reach, refsL, refs, refsO, catMap, depth, renL, ren, renO, sub, sub1, upto, mem, place, fresh, cond_true, get, nth, List.map, List.zip_cons_cons, List.zip_nil_right, List.take, List.append_nil, List.nil_append, List.cons_append, Bool.and_true, beq_dec, decide_true, decide_false, Nat.reduceEqDiff, Nat.zero_add, Nat.reduceAdd] <;> exact rfl)))
        (have x0_ := @Ans.c.eq_1; have x1_ := @idx_0; have x2_ := @idx_1; have x3_ := @le00; have x4_ := @le01; have x5_ := @lt01; have x6_ := @lt02; have x7_ := @lt12; have x8_ := @ltS; have x9_ := @toN0; have x10_ := @toN1; have x11_ := @hb_51; have x12_ := @hb_53; have x13_ := @hb_52; have x14_ := @hb_54; have x15_ := @hb_56; (repeat' (first | with_reducible apply fol | with_reducible refine aRW ?_ | with_reducible refine aRR ?_ | with_reducible refine aRs ?_ | ((with_reducible first | apply RW_gdn | apply RR_gdn | apply RW_gd | apply RR_gd) <;> intro hg <;> first | (cases hg; done) | skip) | with_reducible refine aE1 ?_ | with_reducible refine aE2 ?_ | with_reducible refine aOn ?_ | ((with_reducible refine aCd ?_ ?_) <;> intro hv <;> first | (cases hv; done) | skip) | fail)); all_goals clear x0_ x1_ x2_ x3_ x4_ x5_ x6_ x7_ x8_ x9_ x10_ x11_ x12_ x13_ x14_ x15_)
        ((with_reducible apply W_unroll); (focus (simp only [loopKeep, firstRegion, keepsOf, tidy, canon, reach, refsL, refs, refsO, catMap, depth, renL, ren, renO, sub, sub1, upto, mem, place, fresh, cond_true, get, nth, List.map, List.zip_cons_cons, List.zip_nil_right, List.take, List.append_nil, List.nil_append, List.cons_append, Bool.and_true, beq_dec, decide_true, decide_false, Nat.reduceEqDiff, Nat.zero_add, Nat.reduceAdd] <;> exact rfl)))
        (have x0_ := @Ans.c.eq_1; have x1_ := @idx_0; have x2_ := @idx_1; have x3_ := @le00; have x4_ := @le01; have x5_ := @lt01; have x6_ := @lt02; have x7_ := @lt12; have x8_ := @ltS; have x9_ := @toN0; have x10_ := @toN1; have x11_ := @hb_51; have x12_ := @hb_53; have x13_ := @hb_52; have x14_ := @hb_54; have x15_ := @hb_56; (repeat' (first | with_reducible apply fol | with_reducible refine aRW ?_ | with_reducible refine aRR ?_ | with_reducible refine aRs ?_ | ((with_reducible first | apply RW_gdn | apply RR_gdn | apply RW_gd | apply RR_gd) <;> intro hg <;> first | (cases hg; done) | skip) | with_reducible refine aE1 ?_ | with_reducible refine aE2 ?_ | with_reducible refine aOn ?_ | ((with_reducible refine aCd ?_ ?_) <;> intro hv <;> first | (cases hv; done) | skip) | fail)); all_goals clear x0_ x1_ x2_ x3_ x4_ x5_ x6_ x7_ x8_ x9_ x10_ x11_ x12_ x13_ x14_ x15_)
        ((with_reducible apply Ends'_ret); (focus (simp only [CC_P, results, resultsOf, resultOf, get, load, loadCells, nth, cut, mkAgg, trees, res_39, List.length_cons, List.length_nil, List.take, List.drop, Nat.zero_add, Nat.reduceAdd, Nat.reduceLeDiff, if_true, *]; exact rfl)); (focus (first | exact finish_tree' _ _ _ _ | exact finish_tup2 _ _ _ _ _ | exact finish_tup3 _ _ _ _ _ _ | kernel_rfl)))
        · rfl
        · rfl
      · rw [h1] at hparts
        have hRe := hR.h.2.2 s t h1
        simp only [opsT, exprsT, List.map_cons, List.map_nil, Sl.t] at hparts
        obtain ⟨L, hA, hE⟩ := hmA.h s
        obtain ⟨M, hB, hF⟩ := hmB.h t
        have pa := hpA.h s
        have pb := hpB.h t
        dsimp only at hA hE hB hF pa pb hRe
        generalize EvalA (askedS s (al.map Node.s)) ⟨sk, sn, ss⟩ vars = ea at hE pa hRe
        generalize EvalA (askedS t (bl.map Node.s)) ⟨sk, sn, ss⟩ vars = eb at hF pb hRe
        have hbo := bothAll_ok ea eb pa pb
        rw [← hRe] at hbo
        clear h1 hRe pa pb
        clear hR
        obtain ⟨⟨rk, rn, rs⟩, re⟩ := R
        obtain ⟨⟨eak, ean, eas⟩, eae⟩ := ea
        obtain ⟨⟨ebk, ebn, ebs⟩, ebe⟩ := eb
        dsimp only at hE hF hbo
        (have x0_ := @Ans.c.eq_1; have x1_ := @idx_0; have x2_ := @idx_1; have x3_ := @le00; have x4_ := @le01; have x5_ := @lt01; have x6_ := @lt02; have x7_ := @lt12; have x8_ := @ltS; have x9_ := @toN0; have x10_ := @toN1; have x11_ := @hb_51; have x12_ := @hb_53; have x13_ := @hb_52; have x14_ := @hb_54; have x15_ := @hb_56; (repeat' (first | with_reducible apply fol | with_reducible refine aRW ?_ | with_reducible refine aRR ?_ | with_reducible refine aRs ?_ | ((with_reducible first | apply RW_gdn | apply RR_gdn | apply RW_gd | apply RR_gd) <;> intro hg <;> first | (cases hg; done) | skip) | with_reducible refine aE1 ?_ | with_reducible refine aE2 ?_ | with_reducible refine aOn ?_ | ((with_reducible refine aCd ?_ ?_) <;> intro hv <;> first | (cases hv; done) | skip) | fail)); all_goals clear x0_ x1_ x2_ x3_ x4_ x5_ x6_ x7_ x8_ x9_ x10_ x11_ x12_ x13_ x14_ x15_)
        ((with_reducible apply W_unroll); (focus (simp only [loopKeep, firstRegion, keepsOf, tidy, canon, reach, refsL, refs, refsO, catMap, depth, renL, ren, renO, sub, sub1, upto, mem, place, fresh, cond_true, get, nth, List.map, List.zip_cons_cons, List.zip_nil_right, List.take, List.append_nil, List.nil_append, List.cons_append, Bool.and_true, beq_dec, decide_true, decide_false, Nat.reduceEqDiff, Nat.zero_add, Nat.reduceAdd] <;> exact rfl)))
        (have x0_ := @Ans.c.eq_1; have x1_ := @idx_0; have x2_ := @idx_1; have x3_ := @le00; have x4_ := @le01; have x5_ := @lt01; have x6_ := @lt02; have x7_ := @lt12; have x8_ := @ltS; have x9_ := @toN0; have x10_ := @toN1; have x11_ := @hb_51; have x12_ := @hb_53; have x13_ := @hb_52; have x14_ := @hb_54; have x15_ := @hb_56; (repeat' (first | with_reducible apply fol | with_reducible refine aRW ?_ | with_reducible refine aRR ?_ | with_reducible refine aRs ?_ | ((with_reducible first | apply RW_gdn | apply RR_gdn | apply RW_gd | apply RR_gd) <;> intro hg <;> first | (cases hg; done) | skip) | with_reducible refine aE1 ?_ | with_reducible refine aE2 ?_ | with_reducible refine aOn ?_ | ((with_reducible refine aCd ?_ ?_) <;> intro hv <;> first | (cases hv; done) | skip) | fail)); all_goals clear x0_ x1_ x2_ x3_ x4_ x5_ x6_ x7_ x8_ x9_ x10_ x11_ x12_ x13_ x14_ x15_)
        ((with_reducible apply W_unroll); (focus (simp only [loopKeep, firstRegion, keepsOf, tidy, canon, reach, refsL, refs, refsO, catMap, depth, renL, ren, renO, sub, sub1, upto, mem, place, fresh, cond_true, get, nth, List.map, List.zip_cons_cons, List.zip_nil_right, List.take, List.append_nil, List.nil_append, List.cons_append, Bool.and_true, beq_dec, decide_true, decide_false, Nat.reduceEqDiff, Nat.zero_add, Nat.reduceAdd] <;> exact rfl)))
        (have x0_ := @Ans.c.eq_1; have x1_ := @idx_0; have x2_ := @idx_1; have x3_ := @le00; have x4_ := @le01; have x5_ := @lt01; have x6_ := @lt02; have x7_ := @lt12; have x8_ := @ltS; have x9_ := @toN0; have x10_ := @toN1; have x11_ := @hb_51; have x12_ := @hb_53; have x13_ := @hb_52; have x14_ := @hb_54; have x15_ := @hb_56; (repeat' (first | with_reducible apply fol | with_reducible refine aRW ?_ | with_reducible refine aRR ?_ | with_reducible refine aRs ?_ | ((with_reducible first | apply RW_gdn | apply RR_gdn | apply RW_gd | apply RR_gd) <;> intro hg <;> first | (cases hg; done) | skip) | with_reducible refine aE1 ?_ | with_reducible refine aE2 ?_ | with_reducible refine aOn ?_ | ((with_reducible refine aCd ?_ ?_) <;> intro hv <;> first | (cases hv; done) | skip) | fail)); all_goals clear x0_ x1_ x2_ x3_ x4_ x5_ x6_ x7_ x8_ x9_ x10_ x11_ x12_ x13_ x14_ x15_)
        ((with_reducible apply W_unroll); (focus (simp only [loopKeep, firstRegion, keepsOf, tidy, canon, reach, refsL, refs, refsO, catMap, depth, renL, ren, renO, sub, sub1, upto, mem, place, fresh, cond_true, get, nth, List.map, List.zip_cons_cons, List.zip_nil_right, List.take, List.append_nil, List.nil_append, List.cons_append, Bool.and_true, beq_dec, decide_true, decide_false, Nat.reduceEqDiff, Nat.zero_add, Nat.reduceAdd] <;> exact rfl)))
        (have x0_ := @Ans.c.eq_1; have x1_ := @idx_0; have x2_ := @idx_1; have x3_ := @le00; have x4_ := @le01; have x5_ := @lt01; have x6_ := @lt02; have x7_ := @lt12; have x8_ := @ltS; have x9_ := @toN0; have x10_ := @toN1; have x11_ := @hb_51; have x12_ := @hb_53; have x13_ := @hb_52; have x14_ := @hb_54; have x15_ := @hb_56; (repeat' (first | with_reducible apply fol | with_reducible refine aRW ?_ | with_reducible refine aRR ?_ | with_reducible refine aRs ?_ | ((with_reducible first | apply RW_gdn | apply RR_gdn | apply RW_gd | apply RR_gd) <;> intro hg <;> first | (cases hg; done) | skip) | with_reducible refine aE1 ?_ | with_reducible refine aE2 ?_ | with_reducible refine aOn ?_ | ((with_reducible refine aCd ?_ ?_) <;> intro hv <;> first | (cases hv; done) | skip) | fail)); all_goals clear x0_ x1_ x2_ x3_ x4_ x5_ x6_ x7_ x8_ x9_ x10_ x11_ x12_ x13_ x14_ x15_)
        ((with_reducible apply Ends'_ret); (focus (simp only [CC_P, results, resultsOf, resultOf, get, load, loadCells, nth, cut, mkAgg, trees, res_39, List.length_cons, List.length_nil, List.take, List.drop, Nat.zero_add, Nat.reduceAdd, Nat.reduceLeDiff, if_true, *]; exact rfl)); (focus (first | exact finish_tree' _ _ _ _ | exact finish_tup2 _ _ _ _ _ | exact finish_tup3 _ _ _ _ _ _ | kernel_rfl)))
        · rfl
        · rfl
end Go.Ab
/- Layer 11 (unary): tests' value; whether they pass. -/
namespace Go.Ab
open Go.Proofs
set_option maxRecDepth 100000
set_option maxHeartbeats 4000000
set_option linter.unusedSimpArgs false
set_option linter.unusedVariables false


theorem testN_p (ts : List Test) (self : Val) (vars : List Bind) (hx : ∀ x ∈ ts, TOK x) (hs : VOK self) (hv : ∀ b ∈ vars, VOK b.v) : ∀ i, ∀ a ∈ testN (ts.map Test.s) self vars i, AOK a
  | 0, a, h => by cases h
  | i + 1, a, h => by
    rcases List.mem_append.1 h with h | h
    · exact testN_p ts self vars hx hs hv i a h
    · rw [List.mem_singleton.1 h, List.getElem?_map]
      cases hi : ts[i]? with
      | none => exact VOK_0
      | some x => exact testS_p x _ self vars (hx x (List.mem_of_getElem? hi)) (testN_p ts self vars hx hs hv i) hs hv

theorem testsV_ok (nl cl : Bool) (t : List Test) (self : Val) (vnl vcl : Bool) (vars : List Bind) (hl : t.length < 4294967000) (hx : ∀ x ∈ t, TOK x) (hs : VOK self) (hv : ∀ b ∈ vars, VOK b.v) (hvl : vars.length < 9223372036854775808) :
    Om CC 28 [.t (.sl nl cl (t.map Test.c)), .t (.agg [.int .u8 self.k, .int .i64 self.n, .str self.s]), .t (.sl vnl vcl (vars.map Bind.c))] [] =
      some (.val (.tup [.t (.agg [.int .u8 (TestsA (t.map Test.s) self vars).v.k, .int .i64 (TestsA (t.map Test.s) self vars).v.n, .str (TestsA (t.map Test.s) self vars).v.s]), .t (.int .i64 (TestsA (t.map Test.s) self vars).e)]), []) := by
  refine call_eq fun_28 rfl ?_
  have htp : Hid _ := ⟨testN_p t self vars hx hs hv⟩
  have hcall : Hid _ := ⟨fun (x : Test) (h : x ∈ t) (all : List Ans) (b : Bool) (h2 : ∀ a ∈ all, AOK a) (h3 : all.length < 4294967295) => test_ok x all b self vnl vcl vars (hx x h) h2 h3 hs hv hvl⟩
  have hl2 : Hid _ := ⟨hl⟩
  unfold TestsA
  rw [List.length_map]
  have hstp : Hid _ := ⟨fun i (x : Test) (h : t[i]? = some x) => (show testN (t.map Test.s) self vars (i + 1) = testN (t.map Test.s) self vars i ++ [testS x.s (testN (t.map Test.s) self vars i) self vars] by rw [testN, List.getElem?_map, h]; rfl)⟩
  generalize hE : testN (t.map Test.s) self vars = N at *
  have h0 : Hid (N 0 = []) := ⟨by rw [← hE]; rfl⟩
  have hNl : Hid _ := ⟨fun i => (show (N i).length = i by rw [← hE]; exact testN_length _ _ _ i)⟩
  clear hE hx hs hv hl
  obtain ⟨sk, sn, ss⟩ := self
  (have F_ : _ ∧ _ ∧ _ ∧ _ ∧ _ ∧ _ ∧ _ ∧ _ ∧ _ ∧ _ ∧ _ ∧ _ ∧ _ ∧ _ ∧ _ ∧ _ ∧ _ ∧ _ ∧ _ ∧ _ ∧ _ ∧ _ ∧ _ ∧ _ ∧ _ ∧ _ ∧ _ ∧ _ ∧ _ ∧ _ ∧ _ ∧ _ ∧ _ ∧ _ ∧ _ ∧ _ ∧ _ ∧ _ ∧ _ ∧ _ ∧ _ ∧ _ ∧ _ ∧ _ ∧ _ ∧ _ ∧ _ ∧ _ ∧ _ ∧ _ ∧ _ ∧ _ ∧ _ ∧ _ ∧ _ ∧ _ ∧ _ ∧ _ ∧ _ ∧ _ ∧ _ ∧ _ ∧ _ ∧ _ ∧ _ ∧ _ ∧ _ ∧ _ ∧ _ ∧ _ ∧ _ ∧ _ ∧ _ ∧ _ ∧ _ ∧ _ ∧ _ ∧ _ ∧ _ ∧ _ ∧ _ ∧ _ ∧ _ ∧ _ ∧ _ ∧ _ ∧ _ ∧ _ ∧ _ ∧ _ ∧ _ ∧ _ ∧ _ ∧ _ ∧ _ ∧ _ ∧ _ ∧ _ ∧ _ ∧ _ ∧ _ ∧ _ ∧ _ ∧ _ ∧ _ ∧ _ ∧ _ ∧ _ ∧ _ ∧ _ ∧ _ ∧ _ ∧ _ ∧ _ ∧ _ ∧ _ ∧ _ ∧ _ ∧ _ ∧ _ ∧ _ ∧ _ ∧ _ ∧ _ ∧ _ ∧ _ ∧ _ ∧ _ ∧ _ ∧ _ ∧ _ ∧ _ ∧ _ ∧ _ ∧ _ ∧ _ ∧ _ ∧ _ ∧ _ ∧ _ ∧ _ ∧ _ ∧ _ ∧ _ ∧ _ ∧ _ ∧ _ ∧ _ ∧ _ ∧ _ ∧ _ ∧ _ ∧ _ ∧ _ ∧ _ ∧ _ ∧ _ := ⟨und_2, size_2, agg_2, zero_2, zel_2, small_2, und_3, size_3, agg_3, zero_3, zel_3, small_3, und_4, size_4, agg_4, zero_4, zel_4, small_4, noInt_4, und_5, size_5, agg_5, zero_5, zel_5, small_5, und_9, size_9, agg_9, zero_9, zel_9, small_9, noInt_9, fa_25_0, fd_25_0, fa_25_1, fd_25_1, bld_25, size_25, agg_25, zero_25, zel_25, small_25, noInt_25, und_31, size_31, agg_31, zero_31, zel_31, small_31, noInt_31, fa_45_0, fd_45_0, fa_45_1, fd_45_1, fa_45_2, fd_45_2, bld_45, size_45, agg_45, zero_45, zel_45, small_45, noInt_45, fa_47_0, fd_47_0, fa_47_1, fd_47_1, bld_47, size_47, agg_47, zero_47, zel_47, small_47, noInt_47, und_50, size_50, agg_50, zero_50, zel_50, small_50, noInt_50, und_70, size_70, agg_70, zero_70, zel_70, small_70, noInt_70, und_71, size_71, agg_71, zero_71, zel_71, small_71, noInt_71, fa_73_0, fd_73_0, fa_73_1, fd_73_1, fa_73_2, fd_73_2, fa_73_3, fd_73_3, fa_73_4, fd_73_4, fa_73_5, fd_73_5, fa_73_6, fd_73_6, bld_73, size_73, agg_73, zero_73, zel_73, small_73, noInt_73, fa_75_0, fd_75_0, fa_75_1, fd_75_1, fa_75_2, fd_75_2, fa_75_3, fd_75_3, fa_75_4, fd_75_4, bld_75, size_75, agg_75, zero_75, zel_75, small_75, noInt_75, und_80, size_80, agg_80, zero_80, zel_80, small_80, fa_111_0, fd_111_0, fa_111_1, fd_111_1, bld_111, size_111, agg_111, zero_111, zel_111, small_111, noInt_111, und_112, size_112, agg_112, zero_112, zel_112, small_112, noInt_112⟩; show W CC 0 33 (keepsOf 28) _ ⟨[(0, _), (1, _), (2, _)], []⟩ _)
  ((repeat' (first | with_reducible apply fol | with_reducible refine aRW ?_ | with_reducible refine aRR ?_ | with_reducible refine aRs ?_ | ((with_reducible first | apply RW_gdn | apply RR_gdn | apply RW_gd | apply RR_gd) <;> intro hg <;> first | (cases hg; done) | skip) | with_reducible refine aE1 ?_ | with_reducible refine aE2 ?_ | with_reducible refine aOn ?_ | ((with_reducible refine aCd ?_ ?_) <;> intro hv <;> first | (cases hv; done) | skip) | fail)))
  refine W_rounds (α := Nat × Bool × List Ans × Ans) (fun a => match a.2.1 with
      | true => ⟨[(2, .t (.sl vnl vcl (vars.map Bind.c))), (4, .box 0 0), (6, .box 1 0), (8, .box 2 0), (9, .hs 3 0), (13, .t (.sl nl cl (t.map Test.c))), (14, .t (.int .i64 t.length)), (15, .t (.int .i64 a.1))], [.box [.t (.int .u8 sk), .t (.int .i64 sn), .t (.str ss)], .box [.t (.int .u8 0), .t (.int .i64 0), .t (.str [])], .box [.t (.int .u8 a.2.2.2.v.k), .t (.int .i64 a.2.2.2.v.n), .t (.str a.2.2.2.v.s), .t (.int .i64 a.2.2.2.e)], .arr 4 0 false (a.2.2.1.map Ans.c)]⟩
      | false => ⟨[(2, .t (.sl vnl vcl (vars.map Bind.c))), (4, .box 0 0), (6, .box 1 0), (8, .box 2 0), (9, .t (.sl true true [])), (13, .t (.sl nl cl (t.map Test.c))), (14, .t (.int .i64 t.length)), (15, .t (.int .i64 a.1))], [.box [.t (.int .u8 sk), .t (.int .i64 sn), .t (.str ss)], .box [.t (.int .u8 0), .t (.int .i64 0), .t (.str [])], .box [.t (.int .u8 a.2.2.2.v.k), .t (.int .i64 a.2.2.2.v.n), .t (.str a.2.2.2.v.s), .t (.int .i64 a.2.2.2.e)]]⟩)
    (fun a => t.length - a.1) (fun a => a.1 ≤ t.length ∧ a.2.1 = decide (0 < a.1) ∧ a.2.2.1 = N a.1 ∧ a.2.2.2 = lastE (N a.1))
    (0, false, [], ⟨Zero, 2⟩) (by (simp only [loopKeep, firstRegion, keepsOf, tidy, canon, reach, refsL, refs, refsO, catMap, depth, renL, ren, renO, sub, sub1, upto, mem, place, fresh, cond_true, get, nth, List.map, List.zip_cons_cons, List.zip_nil_right, List.take, List.append_nil, List.nil_append, List.cons_append, beq_dec, decide_true, decide_false, Nat.reduceEqDiff, Zero] <;> exact rfl)) ⟨Nat.zero_le _, rfl, h0.h.symm, by rw [h0.h]; rfl⟩ ?_
  rintro ⟨i, st, all, last⟩ ⟨hi, hst, hall, hlast⟩
  try dsimp only at hi hst hall hlast
  have halen : all.length = i := by rw [hall]; exact hNl.h i
  by_cases hi' : i < t.length
  · have hw : IntKind.i64.wrap ((i : Int) + 1) = ((i + 1 : Nat) : Int) := by
      have := hl2.h
      rw [wrap64] <;> omega
    have he : t[i]? = some t[i] := List.getElem?_eq_getElem hi'
    have hd : decide ((i : Int) < t.length) = true := by simpa using hi'
    have hmem := List.getElem_mem hi'
    generalize t[i] = x at he hmem
    have hN := hstp.h i x he
    have hc := fun b => hcall.h x hmem all b (by rw [hall]; exact htp.h i) (by have := hl2.h; omega)
    rw [← hall] at hN
    have hsm : decide (i + 1 < 4294967296) = true := by
      have := hl2.h
      simp only [decide_eq_true_eq]; omega
    have hle : lens 4 (all.map Ans.c) = true := lens_map Ans.c 4 (fun a => rfl) all
    generalize testS x.s all ⟨sk, sn, ss⟩ vars = R at hN hc
    obtain ⟨⟨rk, rn, rs⟩, re⟩ := R
    obtain ⟨⟨lk, ln, ls⟩, le⟩ := last
    have hN2 : Hid _ := ⟨hN⟩
    clear hN hlast hmem
    simp only [Test.c, Sl.t] at hc
    cases st with
    | true =>
      have hc := hc false
      clear hst hall
      (have x0_ := @hb_39; (repeat' (first | with_reducible apply fol | with_reducible refine aRW ?_ | with_reducible refine aRR ?_ | with_reducible refine aRs ?_ | ((with_reducible first | apply RW_gdn | apply RR_gdn | apply RW_gd | apply RR_gd) <;> intro hg <;> first | (cases hg; done) | skip) | with_reducible refine aE1 ?_ | with_reducible refine aE2 ?_ | with_reducible refine aOn ?_ | ((with_reducible refine aCd ?_ ?_) <;> intro hv <;> first | (cases hv; done) | skip) | fail)); all_goals clear x0_)
      refine again_normal (i + 1, true, all ++ [⟨⟨rk, rn, rs⟩, re⟩], ⟨⟨rk, rn, rs⟩, re⟩) (by first | omega | (dsimp only; omega)) ⟨by first | omega | (dsimp only; omega), by simp, hN2.h.symm, by rw [hN2.h]; exact (lastE_snoc _ _).symm⟩ (by (simp only [loopKeep, firstRegion, keepsOf, tidy, canon, reach, refsL, refs, refsO, catMap, depth, renL, ren, renO, sub, sub1, upto, mem, place, fresh, cond_true, get, nth, List.map, List.zip_cons_cons, List.zip_nil_right, List.take, List.append_nil, List.nil_append, List.cons_append, Bool.and_true, beq_dec, decide_true, decide_false, Nat.reduceEqDiff, List.map_append, Ans.c] <;> exact rfl))
    | false =>
      have hc := hc true
      have hi0 : i = 0 := by simpa using hst
      obtain rfl : all = [] := List.length_eq_zero_iff.1 (by omega)
      subst hi0
      clear hst hall hle hsm halen
      simp only [List.map_nil] at hc
      (have x0_ := @hb_39; (repeat' (first | with_reducible apply fol | with_reducible refine aRW ?_ | with_reducible refine aRR ?_ | with_reducible refine aRs ?_ | ((with_reducible first | apply RW_gdn | apply RR_gdn | apply RW_gd | apply RR_gd) <;> intro hg <;> first | (cases hg; done) | skip) | with_reducible refine aE1 ?_ | with_reducible refine aE2 ?_ | with_reducible refine aOn ?_ | ((with_reducible refine aCd ?_ ?_) <;> intro hv <;> first | (cases hv; done) | skip) | fail)); all_goals clear x0_)
      refine again_normal (1, true, [⟨⟨rk, rn, rs⟩, re⟩], ⟨⟨rk, rn, rs⟩, re⟩) (by first | omega | (dsimp only; omega)) ⟨by first | omega | (dsimp only; omega), rfl, hN2.h.symm, by have := hN2.h; simp only [List.nil_append] at this; rw [this]; rfl⟩ (by (simp only [loopKeep, firstRegion, keepsOf, tidy, canon, reach, refsL, refs, refsO, catMap, depth, renL, ren, renO, sub, sub1, upto, mem, place, fresh, cond_true, get, nth, List.map, List.zip_cons_cons, List.zip_nil_right, List.take, List.append_nil, List.nil_append, List.cons_append, Bool.and_true, beq_dec, decide_true, decide_false, Nat.reduceEqDiff, Ans.c] <;> exact rfl))
  · have hd : decide ((i : Int) < t.length) = false := by simpa using hi'
    have hit : i = t.length := by omega
    have hNt : lastE (N t.length) = last := by rw [hlast, hit]
    rw [hNt]
    clear hNt hall hlast hst halen hit
    obtain ⟨⟨lk, ln, ls⟩, le⟩ := last
    cases st with
    | true =>
      (have x0_ := @Ans.c.eq_1; (repeat' (first | with_reducible apply fol | with_reducible refine aRW ?_ | with_reducible refine aRR ?_ | with_reducible refine aRs ?_ | ((with_reducible first | apply RW_gdn | apply RR_gdn | apply RW_gd | apply RR_gd) <;> intro hg <;> first | (cases hg; done) | skip) | with_reducible refine aE1 ?_ | with_reducible refine aE2 ?_ | with_reducible refine aOn ?_ | ((with_reducible refine aCd ?_ ?_) <;> intro hv <;> first | (cases hv; done) | skip) | fail)); all_goals clear x0_)
      ((with_reducible apply Ends'_ret); (focus (simp only [CC_P, results, resultsOf, resultOf, get, load, loadCells, nth, cut, mkAgg, trees, res_28, List.length_cons, List.length_nil, List.take, List.drop, Nat.zero_add, Nat.reduceAdd, Nat.reduceLeDiff, if_true, *]; exact rfl)); (focus (first | exact finish_tree' _ _ _ _ | exact finish_tup2 _ _ _ _ _ | exact finish_tup3 _ _ _ _ _ _ | kernel_rfl)))
      · rfl
      · rfl
    | false =>
      (have x0_ := @Ans.c.eq_1; (repeat' (first | with_reducible apply fol | with_reducible refine aRW ?_ | with_reducible refine aRR ?_ | with_reducible refine aRs ?_ | ((with_reducible first | apply RW_gdn | apply RR_gdn | apply RW_gd | apply RR_gd) <;> intro hg <;> first | (cases hg; done) | skip) | with_reducible refine aE1 ?_ | with_reducible refine aE2 ?_ | with_reducible refine aOn ?_ | ((with_reducible refine aCd ?_ ?_) <;> intro hv <;> first | (cases hv; done) | skip) | fail)); all_goals clear x0_)
      ((with_reducible apply Ends'_ret); (focus (simp only [CC_P, results, resultsOf, resultOf, get, load, loadCells, nth, cut, mkAgg, trees, res_28, List.length_cons, List.length_nil, List.take, List.drop, Nat.zero_add, Nat.reduceAdd, Nat.reduceLeDiff, if_true, *]; exact rfl)); (focus (first | exact finish_tree' _ _ _ _ | exact finish_tup2 _ _ _ _ _ | exact finish_tup3 _ _ _ _ _ _ | kernel_rfl)))
      · rfl
      · rfl

theorem passT_ok (nl cl : Bool) (t : List Test) (self : Val) (vnl vcl : Bool) (vars : List Bind) (hl : t.length < 4294967000) (hx : ∀ x ∈ t, TOK x) (hs : VOK self) (hv : ∀ b ∈ vars, VOK b.v) (hvl : vars.length < 9223372036854775808) :
    Om CC 20 [.t (.sl nl cl (t.map Test.c)), .t (.agg [.int .u8 self.k, .int .i64 self.n, .str self.s]), .t (.sl vnl vcl (vars.map Bind.c))] [] =
      some (.val (.t (.bool (PassV (TestsA (t.map Test.s) self vars)))), []) := by
  refine call_eq fun_20 rfl ?_
  have hc := testsV_ok nl cl t self vnl vcl vars hl hx hs hv hvl
  have hp := passes_ok (TestsA (t.map Test.s) self vars)
  generalize TestsA (t.map Test.s) self vars = R at hc hp ⊢
  generalize PassV R = q at hp ⊢
  clear hx hs hv hl hvl
  obtain ⟨sk, sn, ss⟩ := self
  (have F_ : _ ∧ _ ∧ _ ∧ _ ∧ _ ∧ _ ∧ _ ∧ _ ∧ _ ∧ _ ∧ _ ∧ _ ∧ _ ∧ _ ∧ _ ∧ _ ∧ _ ∧ _ ∧ _ ∧ _ ∧ _ ∧ _ ∧ _ ∧ _ ∧ _ ∧ _ ∧ _ ∧ _ ∧ _ ∧ _ ∧ _ ∧ _ ∧ _ ∧ _ ∧ _ ∧ _ ∧ _ ∧ _ ∧ _ ∧ _ ∧ _ ∧ _ ∧ _ ∧ _ ∧ _ ∧ _ ∧ _ ∧ _ ∧ _ ∧ _ ∧ _ ∧ _ ∧ _ ∧ _ ∧ _ ∧ _ ∧ _ ∧ _ ∧ _ ∧ _ ∧ _ ∧ _ ∧ _ ∧ _ ∧ _ ∧ _ ∧ _ ∧ _ ∧ _ ∧ _ ∧ _ ∧ _ ∧ _ ∧ _ ∧ _ ∧ _ ∧ _ ∧ _ ∧ _ ∧ _ ∧ _ ∧ _ ∧ _ ∧ _ ∧ _ ∧ _ ∧ _ ∧ _ ∧ _ ∧ _ ∧ _ ∧ _ ∧ _ ∧ _ ∧ _ ∧ _ ∧ _ ∧ _ ∧ _ ∧ _ ∧ _ ∧ _ ∧ _ ∧ _ ∧ _ ∧ _ ∧ _ ∧ _ ∧ _ ∧ _ ∧ _ ∧ _ ∧ _ ∧ _ ∧ _ ∧ _ ∧ _ ∧ _ ∧ _ ∧ _ ∧ _ ∧ _ ∧ _ ∧ _ ∧ _ ∧ _ ∧ _ ∧ _ ∧ _ ∧ _ ∧ _ ∧ _ ∧ _ ∧ _ ∧ _ ∧ _ ∧ _ ∧ _ ∧ _ := ⟨und_2, size_2, agg_2, zero_2, zel_2, small_2, und_3, size_3, agg_3, zero_3, zel_3, small_3, und_4, size_4, agg_4, zero_4, zel_4, small_4, noInt_4, und_5, size_5, agg_5, zero_5, zel_5, small_5, und_9, size_9, agg_9, zero_9, zel_9, small_9, noInt_9, fa_25_0, fd_25_0, fa_25_1, fd_25_1, bld_25, size_25, agg_25, zero_25, zel_25, small_25, noInt_25, und_31, size_31, agg_31, zero_31, zel_31, small_31, noInt_31, fa_45_0, fd_45_0, fa_45_1, fd_45_1, fa_45_2, fd_45_2, bld_45, size_45, agg_45, zero_45, zel_45, small_45, noInt_45, fa_47_0, fd_47_0, fa_47_1, fd_47_1, bld_47, size_47, agg_47, zero_47, zel_47, small_47, noInt_47, und_50, size_50, agg_50, zero_50, zel_50, small_50, noInt_50, und_70, size_70, agg_70, zero_70, zel_70, small_70, noInt_70, und_71, size_71, agg_71, zero_71, zel_71, small_71, noInt_71, fa_73_0, fd_73_0, fa_73_1, fd_73_1, fa_73_2, fd_73_2, fa_73_3, fd_73_3, fa_73_4, fd_73_4, fa_73_5, fd_73_5, fa_73_6, fd_73_6, bld_73, size_73, agg_73, zero_73, zel_73, small_73, noInt_73, fa_75_0, fd_75_0, fa_75_1, fd_75_1, fa_75_2, fd_75_2, fa_75_3, fd_75_3, fa_75_4, fd_75_4, bld_75, size_75, agg_75, zero_75, zel_75, small_75, noInt_75, und_80, size_80, agg_80, zero_80, zel_80, small_80⟩; show W CC 0 14 (keepsOf 20) _ ⟨[(0, _), (1, _), (2, _)], []⟩ _)
  (have x0_ := @hb_28; have x1_ := @hb_27; (repeat' (first | with_reducible apply fol | with_reducible refine aRW ?_ | with_reducible refine aRR ?_ | with_reducible refine aRs ?_ | ((with_reducible first | apply RW_gdn | apply RR_gdn | apply RW_gd | apply RR_gd) <;> intro hg <;> first | (cases hg; done) | skip) | with_reducible refine aE1 ?_ | with_reducible refine aE2 ?_ | with_reducible refine aOn ?_ | ((with_reducible refine aCd ?_ ?_) <;> intro hv <;> first | (cases hv; done) | skip) | fail)); all_goals clear x0_ x1_)
  exact ⟨.t (.bool q), by kernel_rfl, by kernel_rfl⟩

end Go.Ab
/- A pattern without slots: what 'Pass' answers. -/
namespace Go.Ab
open Go.Proofs
set_option maxRecDepth 100000
set_option linter.unusedSimpArgs false

/-- The place of the first template of a name; -1: there is none. -/
def tplAt (name : List Nat) (l : List Tpl) : Int :=
  match l.findIdx? (fun t => beqL t.name name) with
  | some i => i
  | none => -1

theorem tplAt_hit {name : List Nat} {l : List Tpl} {i : Nat} (hi : i < l.length) (h : beqL l[i].name name = true) (hn : ∀ j (hj : j < l.length), j < i → beqL l[j].name name = false) : tplAt name l = i := by
  have : l.findIdx? (fun t => beqL t.name name) = some i := by
    rw [List.findIdx?_eq_some_iff_getElem]
    exact ⟨hi, h, fun j hj => by simp [hn j (by omega) hj]⟩
  unfold tplAt
  rw [this]

theorem tplAt_none {name : List Nat} {l : List Tpl} (hn : ∀ j (hj : j < l.length), beqL l[j].name name = false) : tplAt name l = -1 := by
  have : l.findIdx? (fun t => beqL t.name name) = none := by
    rw [List.findIdx?_eq_none_iff]
    intro x hx
    obtain ⟨j, hj, rfl⟩ := List.getElem_of_mem hx
    exact hn j hj
  unfold tplAt
  rw [this]

theorem index_ok (ts : Sl Tpl) (p : Pat) (hl : ts.l.length < 9223372036854775808) :
    Om CC 14 [.t (ts.t Tpl.c), .fn 15 [] [.box 0 0]] [.box (p.c.map .t)] = some (.val (.t (.int .i64 (tplAt p.t ts.l))), [.box (p.c.map .t)]) := by
  refine call_eq fun_14 rfl ?_
  show W CC 1 19 (keepsOf 14) _ ⟨[(0, _), (1, _)], [_]⟩ _
  repeat (first | with_reducible apply once_normal | with_reducible apply once_exit | with_reducible apply once_ret | with_reducible apply once_pan | with_reducible apply thenW_normal | with_reducible apply thenW_ret | with_reducible apply thenW_exit | with_reducible apply thenW_pan | with_reducible apply outOf_normal | with_reducible apply outOf_eq | (refine outOf_ne (by kernel_rfl) ?_) | with_reducible apply outOf_ret | with_reducible apply outOf_pan | with_reducible apply again_exit | with_reducible apply again_ret | with_reducible apply again_pan | with_reducible apply W_seq | with_reducible apply W_block | with_reducible apply W_scope | with_reducible apply W_skip | with_reducible apply W_ret | with_reducible apply W_exit | with_reducible apply W_label | ((with_reducible apply W_run); (focus kernel_rfl); (focus (simp only [Int.ofNat_eq_natCast, List.length_map, runOps, wanted, exec1, xCall, xBuiltin, xLen, operand, opds, get, putT, ret, lit, lit1, patch, lenOf, CC_P, List.map_cons, List.map_nil, Sl.t, Pat.c, und_22]; exact rfl))))
  refine W_rounds (α := Nat) (fun i => ⟨[(0, .t (ts.t Tpl.c)), (1, .fn 15 [] [.box 0 0]), (7, .t (.int .i64 ts.l.length)), (8, .t (.int .i64 i))], [.box (p.c.map .t)]⟩) (fun i => ts.l.length - i)
    (fun i => i ≤ ts.l.length ∧ ∀ j (hj : j < ts.l.length), j < i → beqL ts.l[j].name p.t = false) 0 (by kernel_rfl) ⟨Nat.zero_le _, fun j _ hj => by omega⟩ ?_
  rintro i ⟨hi, hn⟩
  repeat (first | with_reducible apply once_normal | with_reducible apply once_exit | with_reducible apply once_ret | with_reducible apply once_pan | with_reducible apply thenW_normal | with_reducible apply thenW_ret | with_reducible apply thenW_exit | with_reducible apply thenW_pan | with_reducible apply outOf_normal | with_reducible apply outOf_eq | (refine outOf_ne (by kernel_rfl) ?_) | with_reducible apply outOf_ret | with_reducible apply outOf_pan | with_reducible apply again_exit | with_reducible apply again_ret | with_reducible apply again_pan | with_reducible apply W_seq | with_reducible apply W_block | with_reducible apply W_scope | with_reducible apply W_skip | with_reducible apply W_ret | with_reducible apply W_exit | with_reducible apply W_label | ((with_reducible apply W_run); (focus kernel_rfl); (focus (simp only [runOps, wanted, exec1, operand, get, putT, retO, patch, CC_P, int_lss, List.map_cons, List.map_nil, Sl.t, Pat.c]; exact rfl))))
  refine W_cond (v := decide ((i : Int) < ts.l.length)) (by (simp only [operand, get])) (fun hv => ?_) (fun hv => ?_)
  · have hi' : i < ts.l.length := by simpa using hv
    have hw : IntKind.i64.wrap ((i : Int) + 1) = ((i + 1 : Nat) : Int) := by rw [wrap64] <;> omega
    have he : ts.l[i]? = some ts.l[i] := List.getElem?_eq_getElem hi'
    have hc := isT_ok ts.l[i] p
    simp only [Tpl.c, Pat.c, Sl.t, List.map_cons, List.map_nil] at hc
    repeat (first | with_reducible apply once_normal | with_reducible apply once_exit | with_reducible apply once_ret | with_reducible apply once_pan | with_reducible apply thenW_normal | with_reducible apply thenW_ret | with_reducible apply thenW_exit | with_reducible apply thenW_pan | with_reducible apply outOf_normal | with_reducible apply outOf_eq | (refine outOf_ne (by kernel_rfl) ?_) | with_reducible apply outOf_ret | with_reducible apply outOf_pan | with_reducible apply again_exit | with_reducible apply again_ret | with_reducible apply again_pan | with_reducible apply W_seq | with_reducible apply W_block | with_reducible apply W_scope | with_reducible apply W_skip | with_reducible apply W_ret | with_reducible apply W_exit | with_reducible apply W_label | ((with_reducible apply W_run); (focus kernel_rfl); (focus (simp only [List.getElem?_map, Option.map_some, runOps, wanted, exec1, xCall, xIndexAddr, operand, opds, get, putT, ret, retO, patch, load, loadCells, cut, mkAgg, trees, nth, indexAddr, upd, CC_P, idx_nat, Nat.zero_add, List.map_cons, List.map_nil, List.length_cons, List.length_nil, List.take, List.drop, List.cons_append, List.nil_append, List.append_nil, if_true, Nat.reduceAdd, Nat.reduceLeDiff, Nat.reduceEqDiff, Sl.t, Tpl.c, he, callF, callIn, reach, refsL, refs, refsO, catMap, depth, sub, sub1, renL, ren, renO, mem, place, fresh, import1, plain, plainT, back, backL, backO, backAll, Way.id, Way.ver, versOf, verOf, getN, view, viewed, freeze, CC_byRef, CC_prim, ne_eq, not_false_eq_true, cond_true, blt_dec, Option.getD_some, hc, hb_15, und_22, size_39, agg_39]; exact rfl))))
    refine W_cond (v := beqL ts.l[i].name p.t) (by (simp only [operand, get])) (fun hv => ?_) (fun hv => ?_)
    · repeat (first | with_reducible apply once_normal | with_reducible apply once_exit | with_reducible apply once_ret | with_reducible apply once_pan | with_reducible apply thenW_normal | with_reducible apply thenW_ret | with_reducible apply thenW_exit | with_reducible apply thenW_pan | with_reducible apply outOf_normal | with_reducible apply outOf_eq | (refine outOf_ne (by kernel_rfl) ?_) | with_reducible apply outOf_ret | with_reducible apply outOf_pan | with_reducible apply again_exit | with_reducible apply again_ret | with_reducible apply again_pan | with_reducible apply W_seq | with_reducible apply W_block | with_reducible apply W_scope | with_reducible apply W_skip | with_reducible apply W_ret | with_reducible apply W_exit | with_reducible apply W_label | ((with_reducible apply W_run); (focus kernel_rfl); (focus (simp only [runOps, wanted, exec1, operand, get, putT, ret, patch]; exact rfl))))
      rw [tplAt_hit hi' hv hn]
      exact ⟨.t (.int .i64 i), by kernel_rfl, by kernel_rfl⟩
    · repeat (first | with_reducible apply once_normal | with_reducible apply once_exit | with_reducible apply once_ret | with_reducible apply once_pan | with_reducible apply thenW_normal | with_reducible apply thenW_ret | with_reducible apply thenW_exit | with_reducible apply thenW_pan | with_reducible apply outOf_normal | with_reducible apply outOf_eq | (refine outOf_ne (by kernel_rfl) ?_) | with_reducible apply outOf_ret | with_reducible apply outOf_pan | with_reducible apply again_exit | with_reducible apply again_ret | with_reducible apply again_pan | with_reducible apply W_seq | with_reducible apply W_block | with_reducible apply W_scope | with_reducible apply W_skip | with_reducible apply W_ret | with_reducible apply W_exit | with_reducible apply W_label | ((with_reducible apply W_run); (focus kernel_rfl); (focus (simp only [runOps, wanted, exec1, operand, get, putT, ret, retO, lit, lit1, patch, CC_P, i64_add, hw]; exact rfl))))
      refine again_normal (i + 1) (by omega) ⟨by omega, fun j hj hji => ?_⟩ (by kernel_rfl)
      rcases Nat.lt_or_ge j i with h | h
      · exact hn j hj h
      · obtain rfl : j = i := by omega
        exact hv
  · have hi' : ¬ i < ts.l.length := by simpa using hv
    repeat (first | with_reducible apply once_normal | with_reducible apply once_exit | with_reducible apply once_ret | with_reducible apply once_pan | with_reducible apply thenW_normal | with_reducible apply thenW_ret | with_reducible apply thenW_exit | with_reducible apply thenW_pan | with_reducible apply outOf_normal | with_reducible apply outOf_eq | (refine outOf_ne (by kernel_rfl) ?_) | with_reducible apply outOf_ret | with_reducible apply outOf_pan | with_reducible apply again_exit | with_reducible apply again_ret | with_reducible apply again_pan | with_reducible apply W_seq | with_reducible apply W_block | with_reducible apply W_scope | with_reducible apply W_skip | with_reducible apply W_ret | with_reducible apply W_exit | with_reducible apply W_label | ((with_reducible apply W_run); (focus kernel_rfl); (focus (simp only [runOps, wanted, exec1, operand, putT, ret, lit, lit1, patch]; exact rfl))))
    rw [tplAt_none fun j hj => hn j hj (by omega)]
    exact ⟨.t (.int .i64 (-1)), by kernel_rfl, by kernel_rfl⟩

theorem clone_nil (cl : Bool) (es : List (List Tree)) : Om CC 16 [.t (.sl true cl es)] [] = some (.val (.t (.sl true true [])), []) := by
  refine call_eq fun_16 rfl ?_
  show W CC 0 8 (keepsOf 16) _ ⟨[(0, _)], []⟩ _
  repeat (first | with_reducible apply once_normal | with_reducible apply once_exit | with_reducible apply once_ret | with_reducible apply once_pan | with_reducible apply thenW_normal | with_reducible apply thenW_ret | with_reducible apply thenW_exit | with_reducible apply thenW_pan | with_reducible apply outOf_normal | with_reducible apply outOf_eq | (refine outOf_ne (by kernel_rfl) ?_) | with_reducible apply outOf_ret | with_reducible apply outOf_pan | with_reducible apply again_exit | with_reducible apply again_ret | with_reducible apply again_pan | with_reducible apply W_seq | with_reducible apply W_block | with_reducible apply W_scope | with_reducible apply W_skip | with_reducible apply W_ret | with_reducible apply W_exit | with_reducible apply W_label | ((with_reducible apply W_run); (focus kernel_rfl); (focus (simp only [runOps, wanted, exec1, operand, get, putT, ret, retO, lit, lit1, patch, CC_P, Nat.beq, Bool.and_self, nilEq, kindT, kindOf, binop, und_31]; exact rfl))))
  refine W_cond (v := true) (by (simp only [operand, get])) (fun hv => ?_) (fun hv => ?_)
  · repeat (first | with_reducible apply once_normal | with_reducible apply once_exit | with_reducible apply once_ret | with_reducible apply once_pan | with_reducible apply thenW_normal | with_reducible apply thenW_ret | with_reducible apply thenW_exit | with_reducible apply thenW_pan | with_reducible apply outOf_normal | with_reducible apply outOf_eq | (refine outOf_ne (by kernel_rfl) ?_) | with_reducible apply outOf_ret | with_reducible apply outOf_pan | with_reducible apply again_exit | with_reducible apply again_ret | with_reducible apply again_pan | with_reducible apply W_seq | with_reducible apply W_block | with_reducible apply W_scope | with_reducible apply W_skip | with_reducible apply W_ret | with_reducible apply W_exit | with_reducible apply W_label | ((with_reducible apply W_run); (focus kernel_rfl); (focus (simp only [runOps, wanted, exec1, operand, putT, ret, lit, lit1, patch]; exact rfl))))
    exact ⟨.t (.sl true true []), by kernel_rfl, by kernel_rfl⟩
  · cases hv

theorem clone_ok (cl : Bool) (l : List Bind) (hl : l.length < 4294967296) : Om CC 16 [.t (.sl false cl (l.map Bind.c))] [] = some (.val (.hs 0 0), [.arr 4 0 false (l.map Bind.c)]) := by
  refine call_eq fun_16 rfl ?_
  show W CC 0 8 (keepsOf 16) _ ⟨[(0, _)], []⟩ _
  repeat (first | with_reducible apply once_normal | with_reducible apply once_exit | with_reducible apply once_ret | with_reducible apply once_pan | with_reducible apply thenW_normal | with_reducible apply thenW_ret | with_reducible apply thenW_exit | with_reducible apply thenW_pan | with_reducible apply outOf_normal | with_reducible apply outOf_eq | (refine outOf_ne (by kernel_rfl) ?_) | with_reducible apply outOf_ret | with_reducible apply outOf_pan | with_reducible apply again_exit | with_reducible apply again_ret | with_reducible apply again_pan | with_reducible apply W_seq | with_reducible apply W_block | with_reducible apply W_scope | with_reducible apply W_skip | with_reducible apply W_ret | with_reducible apply W_exit | with_reducible apply W_label | ((with_reducible apply W_run); (focus kernel_rfl); (focus (simp only [runOps, wanted, exec1, operand, get, putT, ret, retO, lit, lit1, patch, CC_P, Nat.beq, Bool.and_self, nilEq, kindT, kindOf, binop, und_31]; exact rfl))))
  refine W_cond (v := false) (by (simp only [operand, get])) (fun hv => ?_) (fun hv => ?_)
  · cases hv
  · have hle : lens 4 (l.map Bind.c) = true := lens_map Bind.c 4 (fun a => rfl) l
    repeat (first | with_reducible apply once_normal | with_reducible apply once_exit | with_reducible apply once_ret | with_reducible apply once_pan | with_reducible apply thenW_normal | with_reducible apply thenW_ret | with_reducible apply thenW_exit | with_reducible apply thenW_pan | with_reducible apply outOf_normal | with_reducible apply outOf_eq | (refine outOf_ne (by kernel_rfl) ?_) | with_reducible apply outOf_ret | with_reducible apply outOf_pan | with_reducible apply again_exit | with_reducible apply again_ret | with_reducible apply again_pan | with_reducible apply W_seq | with_reducible apply W_block | with_reducible apply W_scope | with_reducible apply W_skip | with_reducible apply W_ret | with_reducible apply W_exit | with_reducible apply W_label | ((with_reducible apply W_run); (focus kernel_rfl); (focus (simp only [decide_true, List.length_map, runOps, wanted, exec1, xCall, xBuiltin, operand, opds, opdsI, get, putT, ret, patch, put1, nth, CC_P, Nat.zero_add, List.length_cons, List.length_nil, List.nil_append, Bool.and_self, if_false, Nat.reduceAdd, true_and, xBuildSlice, purifyAll, litElems, litElems.go, mkArr, treesL, append, added, elems, hle, hl, List.replicate, List.nil_append, Nat.not_lt_zero, Nat.zero_mul, decide_true, und_31, noInt_31, size_47, zel_47, small_47]; exact rfl))))
    exact ⟨.hs 0 1, by kernel_rfl, by kernel_rfl⟩
end Go.Ab
/- Layer 18 (passes): Pass, of any pattern. -/
namespace Go.Ab
open Go.Proofs
set_option maxRecDepth 100000
set_option maxHeartbeats 4000000
set_option linter.unusedSimpArgs false
set_option linter.unusedVariables false


theorem val_neq (k n : Int) (s : List Nat) (k' n' : Int) (s' : List Nat) : binop Tryz.prog .neq 45 (.t (.agg [.int .u8 k, .int .i64 n, .str s])) (.t (.agg [.int .u8 k', .int .i64 n', .str s'])) = some (.t (.bool (!decide ((⟨k, n, s⟩ : Val) = ⟨k', n', s'⟩)))) := by
  show binop Tryz.prog .neq 45 (.t (.agg (Val.c ⟨k, n, s⟩))) (.t (.agg (Val.c ⟨k', n', s'⟩))) = _
  rw [agg_neq _ _ _ _ grd_45, val_eq 98]; rfl

/-- What Pass tells; none: the fact does not pass. -/
noncomputable def passP (ts : List Tpl) (p : Pat) (f : Fact) (vars : List Bind) : Option (List Bind) :=
  match ts.findIdx? (fun t => beqL t.name p.t) with
  | some i => if f.tp = (i : Int) then (match ts[i]? with | some t => passS t f (p.slots.l.map STest.s) vars | none => none) else none
  | none => none
/-- What is asked of a slot's tests. -/
structure SOK (s : STest) : Prop where
  len : s.test.l.length < 4294967000
  all : ∀ x ∈ s.test.l, TOK x
/-- What is asked of a pattern, of a fact and of bindings. -/
structure PassOK (ts : Sl Tpl) (p : Pat) (f : Fact) (vars : Sl Bind) : Prop where
  hts : ts.l.length < 9223372036854775808
  htsl : ∀ t ∈ ts.l, t.slots.l.length < 9223372036854775808
  hsl : p.slots.l.length < 2000000000
  htests : ∀ s ∈ p.slots.l, SOK s
  hfv : ∀ v ∈ f.s.l, VOK v
  hvl : vars.l.length < 2000000000
  hvv : ∀ b ∈ vars.l, VOK b.v
  hvn : vars.nl = true → vars.l = []

theorem atA_p (t : Tpl) (f : Fact) (name : List Nat) (h : ∀ v ∈ f.s.l, VOK v) : VOK (atA t f name).1 := by
  unfold atA
  split
  · split
    · rename_i v hv; exact h v (List.mem_of_getElem? hv)
    · exact VOK_0
  · exact VOK_0

/-- A slot's round. -/
structure SlotOK (t : Tpl) (f : Fact) (x : STest) : Prop where
  slots : t.slots.l.length < 9223372036854775808
  fval : ∀ v ∈ f.s.l, VOK v
  x : SOK x

def passF (a : Bool × Bool × List Bind × Bool) : AV := .tup [.t (.sl a.1 a.2.1 (a.2.2.1.map Bind.c)), .t (.bool a.2.2.2)]
def passE (o : Option (List Bind)) (a : Bool × Bool × List Bind × Bool) : Prop := match o with
  | none => a = (true, true, [], false)
  | some l => a.2.2 = (l, true)

theorem passP_not (ts : Sl Tpl) (p : Pat) (f : Fact) (vars : Sl Bind) (hl : ts.l.length < 9223372036854775808) (h : tplAt p.t ts.l < 0 ∨ f.tp ≠ tplAt p.t ts.l) :
    Om CC 8 [.t (ts.t Tpl.c), .t (.agg p.c), .t (.agg f.c), .t (vars.t Bind.c)] [] = some (.val (passF (true, true, [], false)), []) := by
  refine call_eq fun_8 rfl ?_
  have hc := index_ok ts p hl
  obtain ⟨tnl, tcl, ts⟩ := ts
  obtain ⟨pn, pt, ⟨snl, scl, l⟩, line, col⟩ := p
  obtain ⟨fid, ftp, ⟨fnl, fcl, fl⟩⟩ := f
  obtain ⟨vnl, vcl, vars⟩ := vars
  dsimp only at h
  simp only [Pat.c, Sl.t, List.map_cons, List.map_nil] at hc
  generalize tplAt pt ts = n at *
  clear hl
  unfold passF
  rcases Bool.eq_false_or_eq_true (decide (n < 0)) with hb | hb
  · clear h
    (have F_ : _ ∧ _ ∧ _ ∧ _ ∧ _ ∧ _ ∧ _ ∧ _ ∧ _ ∧ _ ∧ _ ∧ _ ∧ _ ∧ _ ∧ _ ∧ _ ∧ _ ∧ _ ∧ _ ∧ _ ∧ _ ∧ _ ∧ _ ∧ _ ∧ _ ∧ _ ∧ _ ∧ _ ∧ _ ∧ _ ∧ _ ∧ _ ∧ _ ∧ _ ∧ _ ∧ _ ∧ _ ∧ _ ∧ _ ∧ _ ∧ _ ∧ _ ∧ _ ∧ _ ∧ _ ∧ _ ∧ _ ∧ _ ∧ _ ∧ _ ∧ _ ∧ _ ∧ _ ∧ _ ∧ _ ∧ _ ∧ _ ∧ _ ∧ _ ∧ _ ∧ _ ∧ _ ∧ _ ∧ _ ∧ _ ∧ _ ∧ _ ∧ _ ∧ _ ∧ _ ∧ _ ∧ _ ∧ _ ∧ _ ∧ _ ∧ _ ∧ _ ∧ _ ∧ _ ∧ _ ∧ _ ∧ _ ∧ _ ∧ _ ∧ _ ∧ _ ∧ _ ∧ _ ∧ _ ∧ _ ∧ _ ∧ _ ∧ _ ∧ _ ∧ _ ∧ _ ∧ _ ∧ _ ∧ _ ∧ _ ∧ _ ∧ _ ∧ _ ∧ _ ∧ _ ∧ _ ∧ _ ∧ _ ∧ _ ∧ _ ∧ _ ∧ _ ∧ _ ∧ _ ∧ _ ∧ _ ∧ _ ∧ _ ∧ _ ∧ _ ∧ _ ∧ _ ∧ _ ∧ _ ∧ _ ∧ _ ∧ _ ∧ _ ∧ _ ∧ _ ∧ _ ∧ _ ∧ _ ∧ _ ∧ _ ∧ _ ∧ _ ∧ _ ∧ _ ∧ _ ∧ _ ∧ _ ∧ _ ∧ _ ∧ _ ∧ _ ∧ _ ∧ _ ∧ _ ∧ _ ∧ _ ∧ _ ∧ _ ∧ _ ∧ _ ∧ _ ∧ _ ∧ _ ∧ _ ∧ _ ∧ _ ∧ _ ∧ _ ∧ _ ∧ _ ∧ _ ∧ _ ∧ _ ∧ _ ∧ _ ∧ _ ∧ _ ∧ _ ∧ _ ∧ _ ∧ _ ∧ _ ∧ _ ∧ _ ∧ _ ∧ _ ∧ _ ∧ _ ∧ _ ∧ _ ∧ _ ∧ _ ∧ _ ∧ _ ∧ _ ∧ _ ∧ _ ∧ _ ∧ _ ∧ _ ∧ _ ∧ _ ∧ _ ∧ _ ∧ _ ∧ _ ∧ _ ∧ _ ∧ _ ∧ _ ∧ _ ∧ _ ∧ _ ∧ _ ∧ _ ∧ _ ∧ _ ∧ _ ∧ _ ∧ _ ∧ _ ∧ _ ∧ _ ∧ _ ∧ _ ∧ _ ∧ _ ∧ _ ∧ _ ∧ _ ∧ _ ∧ _ ∧ _ ∧ _ ∧ _ := ⟨und_2, size_2, agg_2, zero_2, zel_2, small_2, und_3, size_3, agg_3, zero_3, zel_3, small_3, und_4, size_4, agg_4, zero_4, zel_4, small_4, noInt_4, und_5, size_5, agg_5, zero_5, zel_5, small_5, und_9, size_9, agg_9, zero_9, zel_9, small_9, noInt_9, und_22, size_22, agg_22, zero_22, zel_22, small_22, noInt_22, und_23, size_23, agg_23, zero_23, zel_23, small_23, noInt_23, fa_25_0, fd_25_0, fa_25_1, fd_25_1, bld_25, size_25, agg_25, zero_25, zel_25, small_25, noInt_25, fa_27_0, fd_27_0, fa_27_1, fd_27_1, fa_27_2, fd_27_2, fa_27_3, fd_27_3, bld_27, size_27, agg_27, zero_27, zel_27, small_27, noInt_27, und_28, size_28, agg_28, zero_28, zel_28, small_28, noInt_28, fa_30_0, fd_30_0, fa_30_1, fd_30_1, fa_30_2, fd_30_2, bld_30, size_30, agg_30, zero_30, zel_30, small_30, noInt_30, und_31, size_31, agg_31, zero_31, zel_31, small_31, noInt_31, und_37, size_37, agg_37, zero_37, zel_37, small_37, noInt_37, fa_39_0, fd_39_0, fa_39_1, fd_39_1, bld_39, size_39, agg_39, zero_39, zel_39, small_39, noInt_39, fa_45_0, fd_45_0, fa_45_1, fd_45_1, fa_45_2, fd_45_2, bld_45, size_45, agg_45, zero_45, zel_45, small_45, noInt_45, fa_47_0, fd_47_0, fa_47_1, fd_47_1, bld_47, size_47, agg_47, zero_47, zel_47, small_47, noInt_47, und_50, size_50, agg_50, zero_50, zel_50, small_50, noInt_50, fa_52_0, fd_52_0, fa_52_1, fd_52_1, fa_52_2, fd_52_2, bld_52, size_52, agg_52, zero_52, zel_52, small_52, noInt_52, fa_54_0, fd_54_0, fa_54_1, fd_54_1, bld_54, size_54, agg_54, zero_54, zel_54, small_54, noInt_54, size_58, agg_58, zero_58, zel_58, small_58, noInt_58, und_70, size_70, agg_70, zero_70, zel_70, small_70, noInt_70, und_71, size_71, agg_71, zero_71, zel_71, small_71, noInt_71, fa_73_0, fd_73_0, fa_73_1, fd_73_1, fa_73_2, fd_73_2, fa_73_3, fd_73_3, fa_73_4, fd_73_4, fa_73_5, fd_73_5, fa_73_6, fd_73_6, bld_73, size_73, agg_73, zero_73, zel_73, small_73, noInt_73, fa_75_0, fd_75_0, fa_75_1, fd_75_1, fa_75_2, fd_75_2, fa_75_3, fd_75_3, fa_75_4, fd_75_4, bld_75, size_75, agg_75, zero_75, zel_75, small_75, noInt_75⟩; show W CC 0 96 (keepsOf 8) _ ⟨[(0, _), (1, _), (2, _), (3, _)], []⟩ _)
    (have x0_ := @hb_14; (repeat' (first | with_reducible apply fol | with_reducible refine aRW ?_ | with_reducible refine aRR ?_ | with_reducible refine aRs ?_ | ((with_reducible first | apply RW_gdn | apply RR_gdn | apply RW_gd | apply RR_gd) <;> intro hg <;> first | (cases hg; done) | skip) | with_reducible refine aE1 ?_ | with_reducible refine aE2 ?_ | with_reducible refine aOn ?_ | ((with_reducible refine aCd ?_ ?_) <;> intro hv <;> first | (cases hv; done) | skip) | fail)); all_goals clear x0_)
    exact ⟨.tup [.t (.sl true true []), .t (.bool false)], by kernel_rfl, by kernel_rfl⟩
  · have hb' : (ftp != n) = true := by
      rcases h with h | h
      · simp at hb; omega
      · simpa using h
    clear h
    (have F_ : _ ∧ _ ∧ _ ∧ _ ∧ _ ∧ _ ∧ _ ∧ _ ∧ _ ∧ _ ∧ _ ∧ _ ∧ _ ∧ _ ∧ _ ∧ _ ∧ _ ∧ _ ∧ _ ∧ _ ∧ _ ∧ _ ∧ _ ∧ _ ∧ _ ∧ _ ∧ _ ∧ _ ∧ _ ∧ _ ∧ _ ∧ _ ∧ _ ∧ _ ∧ _ ∧ _ ∧ _ ∧ _ ∧ _ ∧ _ ∧ _ ∧ _ ∧ _ ∧ _ ∧ _ ∧ _ ∧ _ ∧ _ ∧ _ ∧ _ ∧ _ ∧ _ ∧ _ ∧ _ ∧ _ ∧ _ ∧ _ ∧ _ ∧ _ ∧ _ ∧ _ ∧ _ ∧ _ ∧ _ ∧ _ ∧ _ ∧ _ ∧ _ ∧ _ ∧ _ ∧ _ ∧ _ ∧ _ ∧ _ ∧ _ ∧ _ ∧ _ ∧ _ ∧ _ ∧ _ ∧ _ ∧ _ ∧ _ ∧ _ ∧ _ ∧ _ ∧ _ ∧ _ ∧ _ ∧ _ ∧ _ ∧ _ ∧ _ ∧ _ ∧ _ ∧ _ ∧ _ ∧ _ ∧ _ ∧ _ ∧ _ ∧ _ ∧ _ ∧ _ ∧ _ ∧ _ ∧ _ ∧ _ ∧ _ ∧ _ ∧ _ ∧ _ ∧ _ ∧ _ ∧ _ ∧ _ ∧ _ ∧ _ ∧ _ ∧ _ ∧ _ ∧ _ ∧ _ ∧ _ ∧ _ ∧ _ ∧ _ ∧ _ ∧ _ ∧ _ ∧ _ ∧ _ ∧ _ ∧ _ ∧ _ ∧ _ ∧ _ ∧ _ ∧ _ ∧ _ ∧ _ ∧ _ ∧ _ ∧ _ ∧ _ ∧ _ ∧ _ ∧ _ ∧ _ ∧ _ ∧ _ ∧ _ ∧ _ ∧ _ ∧ _ ∧ _ ∧ _ ∧ _ ∧ _ ∧ _ ∧ _ ∧ _ ∧ _ ∧ _ ∧ _ ∧ _ ∧ _ ∧ _ ∧ _ ∧ _ ∧ _ ∧ _ ∧ _ ∧ _ ∧ _ ∧ _ ∧ _ ∧ _ ∧ _ ∧ _ ∧ _ ∧ _ ∧ _ ∧ _ ∧ _ ∧ _ ∧ _ ∧ _ ∧ _ ∧ _ ∧ _ ∧ _ ∧ _ ∧ _ ∧ _ ∧ _ ∧ _ ∧ _ ∧ _ ∧ _ ∧ _ ∧ _ ∧ _ ∧ _ ∧ _ ∧ _ ∧ _ ∧ _ ∧ _ ∧ _ ∧ _ ∧ _ ∧ _ ∧ _ ∧ _ ∧ _ ∧ _ ∧ _ ∧ _ ∧ _ ∧ _ ∧ _ ∧ _ ∧ _ ∧ _ ∧ _ ∧ _ ∧ _ ∧ _ ∧ _ := ⟨und_2, size_2, agg_2, zero_2, zel_2, small_2, und_3, size_3, agg_3, zero_3, zel_3, small_3, und_4, size_4, agg_4, zero_4, zel_4, small_4, noInt_4, und_5, size_5, agg_5, zero_5, zel_5, small_5, und_9, size_9, agg_9, zero_9, zel_9, small_9, noInt_9, und_22, size_22, agg_22, zero_22, zel_22, small_22, noInt_22, und_23, size_23, agg_23, zero_23, zel_23, small_23, noInt_23, fa_25_0, fd_25_0, fa_25_1, fd_25_1, bld_25, size_25, agg_25, zero_25, zel_25, small_25, noInt_25, fa_27_0, fd_27_0, fa_27_1, fd_27_1, fa_27_2, fd_27_2, fa_27_3, fd_27_3, bld_27, size_27, agg_27, zero_27, zel_27, small_27, noInt_27, und_28, size_28, agg_28, zero_28, zel_28, small_28, noInt_28, fa_30_0, fd_30_0, fa_30_1, fd_30_1, fa_30_2, fd_30_2, bld_30, size_30, agg_30, zero_30, zel_30, small_30, noInt_30, und_31, size_31, agg_31, zero_31, zel_31, small_31, noInt_31, und_37, size_37, agg_37, zero_37, zel_37, small_37, noInt_37, fa_39_0, fd_39_0, fa_39_1, fd_39_1, bld_39, size_39, agg_39, zero_39, zel_39, small_39, noInt_39, fa_45_0, fd_45_0, fa_45_1, fd_45_1, fa_45_2, fd_45_2, bld_45, size_45, agg_45, zero_45, zel_45, small_45, noInt_45, fa_47_0, fd_47_0, fa_47_1, fd_47_1, bld_47, size_47, agg_47, zero_47, zel_47, small_47, noInt_47, und_50, size_50, agg_50, zero_50, zel_50, small_50, noInt_50, fa_52_0, fd_52_0, fa_52_1, fd_52_1, fa_52_2, fd_52_2, bld_52, size_52, agg_52, zero_52, zel_52, small_52, noInt_52, fa_54_0, fd_54_0, fa_54_1, fd_54_1, bld_54, size_54, agg_54, zero_54, zel_54, small_54, noInt_54, size_58, agg_58, zero_58, zel_58, small_58, noInt_58, und_70, size_70, agg_70, zero_70, zel_70, small_70, noInt_70, und_71, size_71, agg_71, zero_71, zel_71, small_71, noInt_71, fa_73_0, fd_73_0, fa_73_1, fd_73_1, fa_73_2, fd_73_2, fa_73_3, fd_73_3, fa_73_4, fd_73_4, fa_73_5, fd_73_5, fa_73_6, fd_73_6, bld_73, size_73, agg_73, zero_73, zel_73, small_73, noInt_73, fa_75_0, fd_75_0, fa_75_1, fd_75_1, fa_75_2, fd_75_2, fa_75_3, fd_75_3, fa_75_4, fd_75_4, bld_75, size_75, agg_75, zero_75, zel_75, small_75, noInt_75⟩; show W CC 0 96 (keepsOf 8) _ ⟨[(0, _), (1, _), (2, _), (3, _)], []⟩ _)
    (have x0_ := @hb_14; (repeat' (first | with_reducible apply fol | with_reducible refine aRW ?_ | with_reducible refine aRR ?_ | with_reducible refine aRs ?_ | ((with_reducible first | apply RW_gdn | apply RR_gdn | apply RW_gd | apply RR_gd) <;> intro hg <;> first | (cases hg; done) | skip) | with_reducible refine aE1 ?_ | with_reducible refine aE2 ?_ | with_reducible refine aOn ?_ | ((with_reducible refine aCd ?_ ?_) <;> intro hv <;> first | (cases hv; done) | skip) | fail)); all_goals clear x0_)
    exact ⟨.tup [.t (.sl true true []), .t (.bool false)], by kernel_rfl, by kernel_rfl⟩

theorem passP_run (ts : Sl Tpl) (p : Pat) (f : Fact) (vars : Sl Bind) (hp : PassOK ts p f vars) (n : Nat) (t : Tpl) (hn : tplAt p.t ts.l = (n : Int)) (ht : ts.l[n]? = some t) (hf : f.tp = (n : Int)) :
    ∃ a, Om CC 8 [.t (ts.t Tpl.c), .t (.agg p.c), .t (.agg f.c), .t (vars.t Bind.c)] [] = some (.val (passF a), []) ∧ passE (passS t f (p.slots.l.map STest.s) vars.l) a := by
  refine call_ex (F := passF) (P := passE (passS t f (p.slots.l.map STest.s) vars.l)) fun_8 rfl ?_
  have hc := index_ok ts p hp.hts
  have hround : Hid _ := ⟨fun (x : STest) (h : x ∈ p.slots.l) => (⟨hp.htsl t (List.mem_of_getElem? ht), hp.hfv, hp.htests x h⟩ : SlotOK t f x)⟩
  have hs0 : Hid _ := ⟨hp.hsl⟩
  have hv0 : Hid _ := ⟨hp.hvl⟩
  have hvv : Hid _ := ⟨hp.hvv⟩
  have hvn : Hid _ := ⟨hp.hvn⟩
  clear hp
  obtain ⟨tnl, tcl, ts⟩ := ts
  obtain ⟨pn, pt, ⟨snl, scl, l⟩, line, col⟩ := p
  obtain ⟨vnl, vcl, vars⟩ := vars
  dsimp only at hn hf ht
  simp only [Pat.c, Sl.t, List.map_cons, List.map_nil] at hc
  rw [hn] at hc
  have hstep : Hid _ := ⟨fun i (x : STest) (h : l[i]? = some x) (out : List Bind) => (show passS t f ((l.take i).map STest.s) vars = some out → passS t f ((l.take (i + 1)).map STest.s) vars = stepS t f x.slot (x.test.l.map Test.s) out from fun ho => by
    rw [List.take_add_one, h, List.map_append]
    show passS t f (_ ++ [STest.s x]) vars = _
    rw [passS_snoc, ho]; rfl)⟩
  have hstop : Hid _ := ⟨fun i (h : passS t f ((l.take i).map STest.s) vars = none) => (show passS t f (l.map STest.s) vars = none from by
    have := passS_none t f _ ((l.drop i).map STest.s) _ h
    rwa [← List.map_append, List.take_append_drop] at this)⟩
  have hround2 : Hid _ := ⟨fun (x : STest) (h : x ∈ l) (out : List Bind) (onl ocl : Bool) (ho : ∀ b ∈ out, VOK b.v) (hol : out.length < 4000000000) =>
    (show Om CC 17 [.t (.agg t.c), .t (.agg f.c), .t (.str x.slot)] [] = some (.val (.tup [.t (.agg [.int .u8 (atA t f x.slot).1.k, .int .i64 (atA t f x.slot).1.n, .str (atA t f x.slot).1.s]), .t (.bool (atA t f x.slot).2)]), []) ∧
      Om CC 20 [.t (.sl x.test.nl x.test.cl (x.test.l.map Test.c)), .t (.agg [.int .u8 (atA t f x.slot).1.k, .int .i64 (atA t f x.slot).1.n, .str (atA t f x.slot).1.s]), .t (.sl onl ocl (out.map Bind.c))] [] = some (.val (.t (.bool (PassV (TestsA (x.test.l.map Test.s) (atA t f x.slot).1 out)))), []) ∧ VOK (atA t f x.slot).1
     from ⟨at_ok t f x.slot (hround.h x h).slots, passT_ok _ _ _ _ _ _ _ (hround.h x h).x.len (hround.h x h).x.all (atA_p t f _ (hround.h x h).fval) ho (by omega), atA_p t f _ (hround.h x h).fval⟩)⟩
  clear hround
  have hcn : vnl = true → Om CC 16 [.t (.sl vnl vcl (vars.map Bind.c))] [] = some (.val (.t (.sl true true [])), []) := fun h => by rw [h]; exact clone_nil _ _
  have hcs : vnl = false → Om CC 16 [.t (.sl vnl vcl (vars.map Bind.c))] [] = some (.val (.hs 0 0), [.arr 4 0 false (vars.map Bind.c)]) := fun h => by rw [h]; exact clone_ok _ _ (by have := hv0.h; dsimp only at this; omega)
  obtain ⟨tn, ⟨tsn, tsc, tsl⟩⟩ := t
  obtain ⟨fid, ftp, ⟨fnl, fcl, fl⟩⟩ := f
  dsimp only at hf
  subst hf
  have hcn : Hid _ := ⟨hcn⟩
  have hcs : Hid _ := ⟨hcs⟩
  have hd0 : decide ((n : Int) < 0) = false := by simp
  clear hn
  (have F_ : _ ∧ _ ∧ _ ∧ _ ∧ _ ∧ _ ∧ _ ∧ _ ∧ _ ∧ _ ∧ _ ∧ _ ∧ _ ∧ _ ∧ _ ∧ _ ∧ _ ∧ _ ∧ _ ∧ _ ∧ _ ∧ _ ∧ _ ∧ _ ∧ _ ∧ _ ∧ _ ∧ _ ∧ _ ∧ _ ∧ _ ∧ _ ∧ _ ∧ _ ∧ _ ∧ _ ∧ _ ∧ _ ∧ _ ∧ _ ∧ _ ∧ _ ∧ _ ∧ _ ∧ _ ∧ _ ∧ _ ∧ _ ∧ _ ∧ _ ∧ _ ∧ _ ∧ _ ∧ _ ∧ _ ∧ _ ∧ _ ∧ _ ∧ _ ∧ _ ∧ _ ∧ _ ∧ _ ∧ _ ∧ _ ∧ _ ∧ _ ∧ _ ∧ _ ∧ _ ∧ _ ∧ _ ∧ _ ∧ _ ∧ _ ∧ _ ∧ _ ∧ _ ∧ _ ∧ _ ∧ _ ∧ _ ∧ _ ∧ _ ∧ _ ∧ _ ∧ _ ∧ _ ∧ _ ∧ _ ∧ _ ∧ _ ∧ _ ∧ _ ∧ _ ∧ _ ∧ _ ∧ _ ∧ _ ∧ _ ∧ _ ∧ _ ∧ _ ∧ _ ∧ _ ∧ _ ∧ _ ∧ _ ∧ _ ∧ _ ∧ _ ∧ _ ∧ _ ∧ _ ∧ _ ∧ _ ∧ _ ∧ _ ∧ _ ∧ _ ∧ _ ∧ _ ∧ _ ∧ _ ∧ _ ∧ _ ∧ _ ∧ _ ∧ _ ∧ _ ∧ _ ∧ _ ∧ _ ∧ _ ∧ _ ∧ _ ∧ _ ∧ _ ∧ _ ∧ _ ∧ _ ∧ _ ∧ _ ∧ _ ∧ _ ∧ _ ∧ _ ∧ _ ∧ _ ∧ _ ∧ _ ∧ _ ∧ _ ∧ _ ∧ _ ∧ _ ∧ _ ∧ _ ∧ _ ∧ _ ∧ _ ∧ _ ∧ _ ∧ _ ∧ _ ∧ _ ∧ _ ∧ _ ∧ _ ∧ _ ∧ _ ∧ _ ∧ _ ∧ _ ∧ _ ∧ _ ∧ _ ∧ _ ∧ _ ∧ _ ∧ _ ∧ _ ∧ _ ∧ _ ∧ _ ∧ _ ∧ _ ∧ _ ∧ _ ∧ _ ∧ _ ∧ _ ∧ _ ∧ _ ∧ _ ∧ _ ∧ _ ∧ _ ∧ _ ∧ _ ∧ _ ∧ _ ∧ _ ∧ _ ∧ _ ∧ _ ∧ _ ∧ _ ∧ _ ∧ _ ∧ _ ∧ _ ∧ _ ∧ _ ∧ _ ∧ _ ∧ _ ∧ _ ∧ _ ∧ _ ∧ _ ∧ _ ∧ _ ∧ _ ∧ _ ∧ _ ∧ _ ∧ _ ∧ _ ∧ _ := ⟨und_2, size_2, agg_2, zero_2, zel_2, small_2, und_3, size_3, agg_3, zero_3, zel_3, small_3, und_4, size_4, agg_4, zero_4, zel_4, small_4, noInt_4, und_5, size_5, agg_5, zero_5, zel_5, small_5, und_9, size_9, agg_9, zero_9, zel_9, small_9, noInt_9, und_22, size_22, agg_22, zero_22, zel_22, small_22, noInt_22, und_23, size_23, agg_23, zero_23, zel_23, small_23, noInt_23, fa_25_0, fd_25_0, fa_25_1, fd_25_1, bld_25, size_25, agg_25, zero_25, zel_25, small_25, noInt_25, fa_27_0, fd_27_0, fa_27_1, fd_27_1, fa_27_2, fd_27_2, fa_27_3, fd_27_3, bld_27, size_27, agg_27, zero_27, zel_27, small_27, noInt_27, und_28, size_28, agg_28, zero_28, zel_28, small_28, noInt_28, fa_30_0, fd_30_0, fa_30_1, fd_30_1, fa_30_2, fd_30_2, bld_30, size_30, agg_30, zero_30, zel_30, small_30, noInt_30, und_31, size_31, agg_31, zero_31, zel_31, small_31, noInt_31, und_37, size_37, agg_37, zero_37, zel_37, small_37, noInt_37, fa_39_0, fd_39_0, fa_39_1, fd_39_1, bld_39, size_39, agg_39, zero_39, zel_39, small_39, noInt_39, fa_45_0, fd_45_0, fa_45_1, fd_45_1, fa_45_2, fd_45_2, bld_45, size_45, agg_45, zero_45, zel_45, small_45, noInt_45, fa_47_0, fd_47_0, fa_47_1, fd_47_1, bld_47, size_47, agg_47, zero_47, zel_47, small_47, noInt_47, und_50, size_50, agg_50, zero_50, zel_50, small_50, noInt_50, fa_52_0, fd_52_0, fa_52_1, fd_52_1, fa_52_2, fd_52_2, bld_52, size_52, agg_52, zero_52, zel_52, small_52, noInt_52, fa_54_0, fd_54_0, fa_54_1, fd_54_1, bld_54, size_54, agg_54, zero_54, zel_54, small_54, noInt_54, size_58, agg_58, zero_58, zel_58, small_58, noInt_58, und_70, size_70, agg_70, zero_70, zel_70, small_70, noInt_70, und_71, size_71, agg_71, zero_71, zel_71, small_71, noInt_71, fa_73_0, fd_73_0, fa_73_1, fd_73_1, fa_73_2, fd_73_2, fa_73_3, fd_73_3, fa_73_4, fd_73_4, fa_73_5, fd_73_5, fa_73_6, fd_73_6, bld_73, size_73, agg_73, zero_73, zel_73, small_73, noInt_73, fa_75_0, fd_75_0, fa_75_1, fd_75_1, fa_75_2, fd_75_2, fa_75_3, fd_75_3, fa_75_4, fd_75_4, bld_75, size_75, agg_75, zero_75, zel_75, small_75, noInt_75⟩; show W CC 0 96 (keepsOf 8) _ ⟨[(0, _), (1, _), (2, _), (3, _)], []⟩ _)
  -- the loop, from whatever the bindings' copy is
  cases hvnl : vnl with
  | true =>
    have hcl := hcn.h hvnl
    have hve := hvn.h hvnl
    dsimp only at hve
    subst hve
    subst hvnl
    simp only [List.map_nil] at hcl
    clear hvn
    (have x0_ := @hb_14; have x1_ := @hb_16; (repeat' (first | with_reducible apply fol | with_reducible refine aRW ?_ | with_reducible refine aRR ?_ | with_reducible refine aRs ?_ | ((with_reducible first | apply RW_gdn | apply RR_gdn | apply RW_gd | apply RR_gd) <;> intro hg <;> first | (cases hg; done) | skip) | with_reducible refine aE1 ?_ | with_reducible refine aE2 ?_ | with_reducible refine aOn ?_ | ((with_reducible refine aCd ?_ ?_) <;> intro hv <;> first | (cases hv; done) | skip) | fail)); all_goals clear x0_ x1_)
    refine W_rounds (α := Nat × Bool × List Bind) (fun a => match a.2.1 with
          | true => ⟨[(0, .t (.sl tnl tcl (ts.map Tpl.c))), (6, .box 0 0), (10, .t (.int .i64 (n : Int))), (11, .hs 1 0), (34, .t (.sl snl scl (l.map STest.c))), (35, .t (.int .i64 l.length)), (36, .t (.int .i64 a.1))], [.box [.t (.int .i64 fid), .t (.int .i64 (n : Int)), .t (.sl fnl fcl (fl.map Val.c))], .arr 4 0 false (a.2.2.map Bind.c)]⟩
          | false => ⟨[(0, .t (.sl tnl tcl (ts.map Tpl.c))), (6, .box 0 0), (10, .t (.int .i64 (n : Int))), (11, .t (.sl true true [])), (34, .t (.sl snl scl (l.map STest.c))), (35, .t (.int .i64 l.length)), (36, .t (.int .i64 a.1))], [.box [.t (.int .i64 fid), .t (.int .i64 (n : Int)), .t (.sl fnl fcl (fl.map Val.c))]]⟩)
      (fun a => l.length - a.1) (fun a => a.1 ≤ l.length ∧ (a.2.1 = false → a.2.2 = []) ∧ passS ⟨tn, ⟨tsn, tsc, tsl⟩⟩ ⟨fid, (n : Int), ⟨fnl, fcl, fl⟩⟩ ((l.take a.1).map STest.s) ([] : List Bind) = some a.2.2 ∧ a.2.2.length ≤ ([] : List Bind).length + a.1 ∧ ∀ b ∈ a.2.2, VOK b.v)
      (0, false, ([] : List Bind)) (by (simp only [loopKeep, firstRegion, keepsOf, tidy, canon, reach, refsL, refs, refsO, catMap, depth, renL, ren, renO, sub, sub1, upto, mem, place, fresh, cond_true, get, nth, List.map, List.zip_cons_cons, List.zip_nil_right, List.take, List.append_nil, List.nil_append, beq_dec, decide_true] <;> exact rfl)) ⟨Nat.zero_le _, fun h => rfl, rfl, by simp, hvv.h⟩ ?_
    rintro ⟨i, st, out⟩ ⟨hi, hst, hps, hol, hov⟩
    try dsimp only at hi hst hps hol hov
    by_cases hi' : i < l.length
    · have hw : IntKind.i64.wrap ((i : Int) + 1) = ((i + 1 : Nat) : Int) := by
        have := hs0.h; dsimp only at this
        rw [wrap64] <;> omega
      have he : l[i]? = some l[i] := List.getElem?_eq_getElem hi'
      have hd : decide ((i : Int) < l.length) = true := by simpa using hi'
      have hmem := List.getElem_mem hi'
      generalize l[i] = x at he hmem
      have hlen : out.length + 1 < 4000000000 := by
        have h1 := hs0.h; have h2 := hv0.h; dsimp only at h1 h2
        simp only [List.length_nil] at hol; omega
      have hr := fun onl ocl => hround2.h x hmem out onl ocl hov (by omega)
      have hvar := var_ok x.test.nl x.test.cl x.test.l
      have hbd := fun onl ocl => bound_ok onl ocl out (varOf x.test.l).1 (by omega)
      have hstp := hstep.h i x he out hps
      have hstop2 := hstop.h (i + 1)
      rw [hstp] at hstop2
      unfold stepS at hstp hstop2
      rw [varS_eq] at hstp hstop2
      have hsm : decide (out.length + 1 < 4294967296) = true := by simp only [decide_eq_true_eq]; omega
      have hle : lens 4 (out.map Bind.c) = true := lens_map Bind.c 4 (fun a => rfl) out
      obtain ⟨slot, ⟨xnl, xcl, xl⟩, xline, xcol⟩ := x
      dsimp only at hr hvar hbd hstp hstop2
      generalize atA ⟨tn, ⟨tsn, tsc, tsl⟩⟩ ⟨fid, (n : Int), ⟨fnl, fcl, fl⟩⟩ slot = A at *
      generalize varOf xl = V at *
      obtain ⟨Vn, Va⟩ := V
      generalize boundA Vn out = B at *
      generalize PassV (TestsA (xl.map Test.s) A.1 out) = pv at *
      obtain ⟨⟨Ak, An, As⟩, Ab⟩ := A
      obtain ⟨⟨Bk, Bn, Bs⟩, Bb⟩ := B
      dsimp only at hr hvar hbd hstp hstop2
      have hAv := (hr true true).2.2
      have hr := fun onl ocl => And.intro (hr onl ocl).1 (hr onl ocl).2.1
      have hne := val_neq Bk Bn Bs Ak An As
      have hstp2 : Hid _ := ⟨hstp⟩
      have hstop3 : Hid _ := ⟨hstop2⟩
      have hAv2 : Hid _ := ⟨hAv⟩
      have hov2 : Hid _ := ⟨hov⟩
      have hol2 : Hid _ := ⟨hol⟩
      have hst2 : Hid _ := ⟨hst⟩
      clear hstp hstop2 hAv hov hol hst hps hmem
      simp only [Tpl.c, Fact.c, Sl.t] at hr
      generalize heqd : decide ((⟨Bk, Bn, Bs⟩ : Val) = ⟨Ak, An, As⟩) = eqd at hne
      cases st with
      | true =>
        obtain ⟨hat, hpt⟩ := hr false false
        have hbd := hbd false false
        clear hr hst2
        cases Ab with
        | false =>
          have hno := hstop3.h (by rw [if_pos rfl])
          have hno : Hid _ := ⟨hno⟩
          clear hstop3 hstp2
          (have x0_ := @hb_17; have x1_ := @hb_18; have x2_ := @hb_19; have x3_ := @hb_20; (repeat' (first | with_reducible apply fol | with_reducible refine aRW ?_ | with_reducible refine aRR ?_ | with_reducible refine aRs ?_ | ((with_reducible first | apply RW_gdn | apply RR_gdn | apply RW_gd | apply RR_gd) <;> intro hg <;> first | (cases hg; done) | skip) | with_reducible refine aE1 ?_ | with_reducible refine aE2 ?_ | with_reducible refine aOn ?_ | ((with_reducible refine aCd ?_ ?_) <;> intro hv <;> first | (cases hv; done) | skip) | fail)); all_goals clear x0_ x1_ x2_ x3_)
          ((with_reducible apply ends_ret); (focus (simp only [CC_P, results, resultsOf, resultOf, get, res_8, *]; exact rfl)); (focus (first | exact finish_tree' _ _ _ _ | exact finish_tup2 _ _ _ _ _ | exact finish_tup3 _ _ _ _ _ _)))
          exact ⟨(true, true, [], false), ⟨rfl, rfl⟩, by unfold passE; rw [hno.h]⟩
        | true =>
          cases Va with
          | true =>
            cases Bb with
            | false =>
              have hyes : Hid (passS ⟨tn, ⟨tsn, tsc, tsl⟩⟩ ⟨fid, (n : Int), ⟨fnl, fcl, fl⟩⟩ ((l.take (i + 1)).map STest.s) ([] : List Bind) = some (out ++ [⟨Vn, ⟨Ak, An, As⟩⟩])) := ⟨hstp2.h.trans (by rw [if_neg (by decide), if_pos rfl, if_pos rfl]; try rfl)⟩
              clear hstop3 hstp2
              (have x0_ := @hb_17; have x1_ := @hb_18; have x2_ := @hb_19; have x3_ := @hb_20; (repeat' (first | with_reducible apply fol | with_reducible refine aRW ?_ | with_reducible refine aRR ?_ | with_reducible refine aRs ?_ | ((with_reducible first | apply RW_gdn | apply RR_gdn | apply RW_gd | apply RR_gd) <;> intro hg <;> first | (cases hg; done) | skip) | with_reducible refine aE1 ?_ | with_reducible refine aE2 ?_ | with_reducible refine aOn ?_ | ((with_reducible refine aCd ?_ ?_) <;> intro hv <;> first | (cases hv; done) | skip) | fail)); all_goals clear x0_ x1_ x2_ x3_)
              refine again_normal (i + 1, true, out ++ [⟨Vn, ⟨Ak, An, As⟩⟩]) (by first | omega | (dsimp only; omega)) ⟨by first | omega | (dsimp only; omega), fun h => (by cases h), hyes.h, by have := hol2.h; simp at this ⊢ <;> omega, ?_⟩ (by (simp only [loopKeep, firstRegion, keepsOf, tidy, canon, reach, refsL, refs, refsO, catMap, depth, renL, ren, renO, sub, sub1, upto, mem, place, fresh, cond_true, get, nth, List.map, List.zip_cons_cons, List.zip_nil_right, List.take, List.append_nil, List.nil_append, List.cons_append, Bool.and_true, beq_dec, decide_true, decide_false, Nat.reduceEqDiff, Val.c, Bind.c, List.map_append, Bind.c, Val.c] <;> exact rfl))
              intro b hb
              rcases List.mem_append.1 hb with hb | hb
              · exact hov2.h b hb
              · rw [List.mem_singleton.1 hb]; exact hAv2.h
            | true =>
              cases eqd with
              | true =>
                have hyes : Hid (passS ⟨tn, ⟨tsn, tsc, tsl⟩⟩ ⟨fid, (n : Int), ⟨fnl, fcl, fl⟩⟩ ((l.take (i + 1)).map STest.s) ([] : List Bind) = some out) := ⟨hstp2.h.trans (by rw [if_neg (by decide), if_pos rfl, if_neg (by decide), if_pos (of_decide_eq_true heqd)])⟩
                clear hstop3 hstp2
                (have x0_ := @hb_17; have x1_ := @hb_18; have x2_ := @hb_19; have x3_ := @hb_20; (repeat' (first | with_reducible apply fol | with_reducible refine aRW ?_ | with_reducible refine aRR ?_ | with_reducible refine aRs ?_ | ((with_reducible first | apply RW_gdn | apply RR_gdn | apply RW_gd | apply RR_gd) <;> intro hg <;> first | (cases hg; done) | skip) | with_reducible refine aE1 ?_ | with_reducible refine aE2 ?_ | with_reducible refine aOn ?_ | ((with_reducible refine aCd ?_ ?_) <;> intro hv <;> first | (cases hv; done) | skip) | fail)); all_goals clear x0_ x1_ x2_ x3_)
                refine again_normal (i + 1, true, out) (by first | omega | (dsimp only; omega)) ⟨by first | omega | (dsimp only; omega), fun h => (by cases h), hyes.h, by have := hol2.h; simp at this ⊢ <;> omega, hov2.h⟩ (by (simp only [loopKeep, firstRegion, keepsOf, tidy, canon, reach, refsL, refs, refsO, catMap, depth, renL, ren, renO, sub, sub1, upto, mem, place, fresh, cond_true, get, nth, List.map, List.zip_cons_cons, List.zip_nil_right, List.take, List.append_nil, List.nil_append, List.cons_append, Bool.and_true, beq_dec, decide_true, decide_false, Nat.reduceEqDiff] <;> exact rfl))
              | false =>
                have hno : Hid _ := ⟨hstop3.h (by rw [if_neg (by decide), if_pos rfl, if_neg (by decide), if_neg (of_decide_eq_false heqd)])⟩
                clear hstop3 hstp2
                (have x0_ := @hb_17; have x1_ := @hb_18; have x2_ := @hb_19; have x3_ := @hb_20; (repeat' (first | with_reducible apply fol | with_reducible refine aRW ?_ | with_reducible refine aRR ?_ | with_reducible refine aRs ?_ | ((with_reducible first | apply RW_gdn | apply RR_gdn | apply RW_gd | apply RR_gd) <;> intro hg <;> first | (cases hg; done) | skip) | with_reducible refine aE1 ?_ | with_reducible refine aE2 ?_ | with_reducible refine aOn ?_ | ((with_reducible refine aCd ?_ ?_) <;> intro hv <;> first | (cases hv; done) | skip) | fail)); all_goals clear x0_ x1_ x2_ x3_)
                ((with_reducible apply ends_ret); (focus (simp only [CC_P, results, resultsOf, resultOf, get, res_8, *]; exact rfl)); (focus (first | exact finish_tree' _ _ _ _ | exact finish_tup2 _ _ _ _ _ | exact finish_tup3 _ _ _ _ _ _)))
                exact ⟨(true, true, [], false), ⟨rfl, rfl⟩, by unfold passE; rw [hno.h]⟩
          | false =>
            cases pv with
            | true =>
              have hyes : Hid (passS ⟨tn, ⟨tsn, tsc, tsl⟩⟩ ⟨fid, (n : Int), ⟨fnl, fcl, fl⟩⟩ ((l.take (i + 1)).map STest.s) ([] : List Bind) = some out) := ⟨hstp2.h.trans (by rw [if_neg (by decide), if_neg (by decide), if_pos rfl])⟩
              clear hstop3 hstp2
              (have x0_ := @hb_17; have x1_ := @hb_18; have x2_ := @hb_19; have x3_ := @hb_20; (repeat' (first | with_reducible apply fol | with_reducible refine aRW ?_ | with_reducible refine aRR ?_ | with_reducible refine aRs ?_ | ((with_reducible first | apply RW_gdn | apply RR_gdn | apply RW_gd | apply RR_gd) <;> intro hg <;> first | (cases hg; done) | skip) | with_reducible refine aE1 ?_ | with_reducible refine aE2 ?_ | with_reducible refine aOn ?_ | ((with_reducible refine aCd ?_ ?_) <;> intro hv <;> first | (cases hv; done) | skip) | fail)); all_goals clear x0_ x1_ x2_ x3_)
              refine again_normal (i + 1, true, out) (by first | omega | (dsimp only; omega)) ⟨by first | omega | (dsimp only; omega), fun h => (by cases h), hyes.h, by have := hol2.h; simp at this ⊢ <;> omega, hov2.h⟩ (by (simp only [loopKeep, firstRegion, keepsOf, tidy, canon, reach, refsL, refs, refsO, catMap, depth, renL, ren, renO, sub, sub1, upto, mem, place, fresh, cond_true, get, nth, List.map, List.zip_cons_cons, List.zip_nil_right, List.take, List.append_nil, List.nil_append, List.cons_append, Bool.and_true, beq_dec, decide_true, decide_false, Nat.reduceEqDiff] <;> exact rfl))
            | false =>
              have hno : Hid _ := ⟨hstop3.h (by rw [if_neg (by decide), if_neg (by decide), if_neg (by decide)])⟩
              clear hstop3 hstp2
              (have x0_ := @hb_17; have x1_ := @hb_18; have x2_ := @hb_19; have x3_ := @hb_20; (repeat' (first | with_reducible apply fol | with_reducible refine aRW ?_ | with_reducible refine aRR ?_ | with_reducible refine aRs ?_ | ((with_reducible first | apply RW_gdn | apply RR_gdn | apply RW_gd | apply RR_gd) <;> intro hg <;> first | (cases hg; done) | skip) | with_reducible refine aE1 ?_ | with_reducible refine aE2 ?_ | with_reducible refine aOn ?_ | ((with_reducible refine aCd ?_ ?_) <;> intro hv <;> first | (cases hv; done) | skip) | fail)); all_goals clear x0_ x1_ x2_ x3_)
              ((with_reducible apply ends_ret); (focus (simp only [CC_P, results, resultsOf, resultOf, get, res_8, *]; exact rfl)); (focus (first | exact finish_tree' _ _ _ _ | exact finish_tup2 _ _ _ _ _ | exact finish_tup3 _ _ _ _ _ _)))
              exact ⟨(true, true, [], false), ⟨rfl, rfl⟩, by unfold passE; rw [hno.h]⟩
      | false =>
        obtain ⟨hat, hpt⟩ := hr true true
        have hbd := hbd true true
        obtain rfl : out = [] := hst2.h rfl
        clear hr hst2 hsm hle
        simp only [List.map_nil] at hpt hbd
        cases Ab with
        | false =>
          have hno := hstop3.h (by rw [if_pos rfl])
          have hno : Hid _ := ⟨hno⟩
          clear hstop3 hstp2
          (have x0_ := @hb_17; have x1_ := @hb_18; have x2_ := @hb_19; have x3_ := @hb_20; (repeat' (first | with_reducible apply fol | with_reducible refine aRW ?_ | with_reducible refine aRR ?_ | with_reducible refine aRs ?_ | ((with_reducible first | apply RW_gdn | apply RR_gdn | apply RW_gd | apply RR_gd) <;> intro hg <;> first | (cases hg; done) | skip) | with_reducible refine aE1 ?_ | with_reducible refine aE2 ?_ | with_reducible refine aOn ?_ | ((with_reducible refine aCd ?_ ?_) <;> intro hv <;> first | (cases hv; done) | skip) | fail)); all_goals clear x0_ x1_ x2_ x3_)
          ((with_reducible apply ends_ret); (focus (simp only [CC_P, results, resultsOf, resultOf, get, res_8, *]; exact rfl)); (focus (first | exact finish_tree' _ _ _ _ | exact finish_tup2 _ _ _ _ _ | exact finish_tup3 _ _ _ _ _ _)))
          exact ⟨(true, true, [], false), ⟨rfl, rfl⟩, by unfold passE; rw [hno.h]⟩
        | true =>
          cases Va with
          | true =>
            cases Bb with
            | false =>
              have hyes : Hid (passS ⟨tn, ⟨tsn, tsc, tsl⟩⟩ ⟨fid, (n : Int), ⟨fnl, fcl, fl⟩⟩ ((l.take (i + 1)).map STest.s) ([] : List Bind) = some [⟨Vn, ⟨Ak, An, As⟩⟩]) := ⟨hstp2.h.trans (by rw [if_neg (by decide), if_pos rfl, if_pos rfl]; try rfl)⟩
              clear hstop3 hstp2
              (have x0_ := @hb_17; have x1_ := @hb_18; have x2_ := @hb_19; have x3_ := @hb_20; (repeat' (first | with_reducible apply fol | with_reducible refine aRW ?_ | with_reducible refine aRR ?_ | with_reducible refine aRs ?_ | ((with_reducible first | apply RW_gdn | apply RR_gdn | apply RW_gd | apply RR_gd) <;> intro hg <;> first | (cases hg; done) | skip) | with_reducible refine aE1 ?_ | with_reducible refine aE2 ?_ | with_reducible refine aOn ?_ | ((with_reducible refine aCd ?_ ?_) <;> intro hv <;> first | (cases hv; done) | skip) | fail)); all_goals clear x0_ x1_ x2_ x3_)
              refine again_normal (i + 1, true, [⟨Vn, ⟨Ak, An, As⟩⟩]) (by first | omega | (dsimp only; omega)) ⟨by first | omega | (dsimp only; omega), fun h => (by cases h), hyes.h, by have := hol2.h; simp at this ⊢ <;> omega, ?_⟩ (by (simp only [loopKeep, firstRegion, keepsOf, tidy, canon, reach, refsL, refs, refsO, catMap, depth, renL, ren, renO, sub, sub1, upto, mem, place, fresh, cond_true, get, nth, List.map, List.zip_cons_cons, List.zip_nil_right, List.take, List.append_nil, List.nil_append, List.cons_append, Bool.and_true, beq_dec, decide_true, decide_false, Nat.reduceEqDiff, Val.c, Bind.c, Bind.c, Val.c] <;> exact rfl))
              intro b hb
              skip
              skip
              rw [List.mem_singleton.1 hb]; exact hAv2.h
            | true =>
              cases eqd with
              | true =>
                have hyes : Hid (passS ⟨tn, ⟨tsn, tsc, tsl⟩⟩ ⟨fid, (n : Int), ⟨fnl, fcl, fl⟩⟩ ((l.take (i + 1)).map STest.s) ([] : List Bind) = some ([] : List Bind)) := ⟨hstp2.h.trans (by rw [if_neg (by decide), if_pos rfl, if_neg (by decide), if_pos (of_decide_eq_true heqd)])⟩
                clear hstop3 hstp2
                (have x0_ := @hb_17; have x1_ := @hb_18; have x2_ := @hb_19; have x3_ := @hb_20; (repeat' (first | with_reducible apply fol | with_reducible refine aRW ?_ | with_reducible refine aRR ?_ | with_reducible refine aRs ?_ | ((with_reducible first | apply RW_gdn | apply RR_gdn | apply RW_gd | apply RR_gd) <;> intro hg <;> first | (cases hg; done) | skip) | with_reducible refine aE1 ?_ | with_reducible refine aE2 ?_ | with_reducible refine aOn ?_ | ((with_reducible refine aCd ?_ ?_) <;> intro hv <;> first | (cases hv; done) | skip) | fail)); all_goals clear x0_ x1_ x2_ x3_)
                refine again_normal (i + 1, false, ([] : List Bind)) (by first | omega | (dsimp only; omega)) ⟨by first | omega | (dsimp only; omega), fun h => rfl, hyes.h, by have := hol2.h; simp at this ⊢ <;> omega, hov2.h⟩ (by (simp only [loopKeep, firstRegion, keepsOf, tidy, canon, reach, refsL, refs, refsO, catMap, depth, renL, ren, renO, sub, sub1, upto, mem, place, fresh, cond_true, get, nth, List.map, List.zip_cons_cons, List.zip_nil_right, List.take, List.append_nil, List.nil_append, beq_dec, decide_true] <;> exact rfl))
              | false =>
                have hno : Hid _ := ⟨hstop3.h (by rw [if_neg (by decide), if_pos rfl, if_neg (by decide), if_neg (of_decide_eq_false heqd)])⟩
                clear hstop3 hstp2
                (have x0_ := @hb_17; have x1_ := @hb_18; have x2_ := @hb_19; have x3_ := @hb_20; (repeat' (first | with_reducible apply fol | with_reducible refine aRW ?_ | with_reducible refine aRR ?_ | with_reducible refine aRs ?_ | ((with_reducible first | apply RW_gdn | apply RR_gdn | apply RW_gd | apply RR_gd) <;> intro hg <;> first | (cases hg; done) | skip) | with_reducible refine aE1 ?_ | with_reducible refine aE2 ?_ | with_reducible refine aOn ?_ | ((with_reducible refine aCd ?_ ?_) <;> intro hv <;> first | (cases hv; done) | skip) | fail)); all_goals clear x0_ x1_ x2_ x3_)
                ((with_reducible apply ends_ret); (focus (simp only [CC_P, results, resultsOf, resultOf, get, res_8, *]; exact rfl)); (focus (first | exact finish_tree' _ _ _ _ | exact finish_tup2 _ _ _ _ _ | exact finish_tup3 _ _ _ _ _ _)))
                exact ⟨(true, true, [], false), ⟨rfl, rfl⟩, by unfold passE; rw [hno.h]⟩
          | false =>
            cases pv with
            | true =>
              have hyes : Hid (passS ⟨tn, ⟨tsn, tsc, tsl⟩⟩ ⟨fid, (n : Int), ⟨fnl, fcl, fl⟩⟩ ((l.take (i + 1)).map STest.s) ([] : List Bind) = some ([] : List Bind)) := ⟨hstp2.h.trans (by rw [if_neg (by decide), if_neg (by decide), if_pos rfl])⟩
              clear hstop3 hstp2
              (have x0_ := @hb_17; have x1_ := @hb_18; have x2_ := @hb_19; have x3_ := @hb_20; (repeat' (first | with_reducible apply fol | with_reducible refine aRW ?_ | with_reducible refine aRR ?_ | with_reducible refine aRs ?_ | ((with_reducible first | apply RW_gdn | apply RR_gdn | apply RW_gd | apply RR_gd) <;> intro hg <;> first | (cases hg; done) | skip) | with_reducible refine aE1 ?_ | with_reducible refine aE2 ?_ | with_reducible refine aOn ?_ | ((with_reducible refine aCd ?_ ?_) <;> intro hv <;> first | (cases hv; done) | skip) | fail)); all_goals clear x0_ x1_ x2_ x3_)
              refine again_normal (i + 1, false, ([] : List Bind)) (by first | omega | (dsimp only; omega)) ⟨by first | omega | (dsimp only; omega), fun h => rfl, hyes.h, by have := hol2.h; simp at this ⊢ <;> omega, hov2.h⟩ (by (simp only [loopKeep, firstRegion, keepsOf, tidy, canon, reach, refsL, refs, refsO, catMap, depth, renL, ren, renO, sub, sub1, upto, mem, place, fresh, cond_true, get, nth, List.map, List.zip_cons_cons, List.zip_nil_right, List.take, List.append_nil, List.nil_append, beq_dec, decide_true] <;> exact rfl))
            | false =>
              have hno : Hid _ := ⟨hstop3.h (by rw [if_neg (by decide), if_neg (by decide), if_neg (by decide)])⟩
              clear hstop3 hstp2
              (have x0_ := @hb_17; have x1_ := @hb_18; have x2_ := @hb_19; have x3_ := @hb_20; (repeat' (first | with_reducible apply fol | with_reducible refine aRW ?_ | with_reducible refine aRR ?_ | with_reducible refine aRs ?_ | ((with_reducible first | apply RW_gdn | apply RR_gdn | apply RW_gd | apply RR_gd) <;> intro hg <;> first | (cases hg; done) | skip) | with_reducible refine aE1 ?_ | with_reducible refine aE2 ?_ | with_reducible refine aOn ?_ | ((with_reducible refine aCd ?_ ?_) <;> intro hv <;> first | (cases hv; done) | skip) | fail)); all_goals clear x0_ x1_ x2_ x3_)
              ((with_reducible apply ends_ret); (focus (simp only [CC_P, results, resultsOf, resultOf, get, res_8, *]; exact rfl)); (focus (first | exact finish_tree' _ _ _ _ | exact finish_tup2 _ _ _ _ _ | exact finish_tup3 _ _ _ _ _ _)))
              exact ⟨(true, true, [], false), ⟨rfl, rfl⟩, by unfold passE; rw [hno.h]⟩
    · have hd : decide ((i : Int) < l.length) = false := by simpa using hi'
      have hil : l.take i = l := List.take_of_length_le (by omega)
      rw [hil] at hps
      have hps2 : Hid _ := ⟨hps⟩
      have hst2 : Hid _ := ⟨hst⟩
      clear hps hst hov hol hil hi'
      cases st with
      | true =>
        ((repeat' (first | with_reducible apply fol | with_reducible refine aRW ?_ | with_reducible refine aRR ?_ | with_reducible refine aRs ?_ | ((with_reducible first | apply RW_gdn | apply RR_gdn | apply RW_gd | apply RR_gd) <;> intro hg <;> first | (cases hg; done) | skip) | with_reducible refine aE1 ?_ | with_reducible refine aE2 ?_ | with_reducible refine aOn ?_ | ((with_reducible refine aCd ?_ ?_) <;> intro hv <;> first | (cases hv; done) | skip) | fail)))
        ((with_reducible apply ends_ret); (focus (simp only [CC_P, results, resultsOf, resultOf, get, res_8, *]; exact rfl)); (focus (simp only [finish, thaw_8, exports, viewedO, viewed, view, elems, freeze, patch, catMap, canon, reach, refsL, refs, depth, renL, ren, sub, sub1, upto, nth, List.map, List.take, List.length_nil, List.append_nil, if_true] <;> exact rfl)))
        exact ⟨(false, false, out, true), ⟨rfl, rfl⟩, by unfold passE; rw [hps2.h]⟩
      | false =>
        obtain rfl : out = [] := hst2.h rfl
        ((repeat' (first | with_reducible apply fol | with_reducible refine aRW ?_ | with_reducible refine aRR ?_ | with_reducible refine aRs ?_ | ((with_reducible first | apply RW_gdn | apply RR_gdn | apply RW_gd | apply RR_gd) <;> intro hg <;> first | (cases hg; done) | skip) | with_reducible refine aE1 ?_ | with_reducible refine aE2 ?_ | with_reducible refine aOn ?_ | ((with_reducible refine aCd ?_ ?_) <;> intro hv <;> first | (cases hv; done) | skip) | fail)))
        ((with_reducible apply ends_ret); (focus (simp only [CC_P, results, resultsOf, resultOf, get, res_8, *]; exact rfl)); (focus (first | exact finish_tree' _ _ _ _ | exact finish_tup2 _ _ _ _ _ | exact finish_tup3 _ _ _ _ _ _)))
        exact ⟨(true, true, [], true), ⟨rfl, rfl⟩, by unfold passE; rw [hps2.h]⟩
  | false =>
    have hcl := hcs.h hvnl
    subst hvnl
    clear hvn
    (have x0_ := @hb_14; have x1_ := @hb_16; (repeat' (first | with_reducible apply fol | with_reducible refine aRW ?_ | with_reducible refine aRR ?_ | with_reducible refine aRs ?_ | ((with_reducible first | apply RW_gdn | apply RR_gdn | apply RW_gd | apply RR_gd) <;> intro hg <;> first | (cases hg; done) | skip) | with_reducible refine aE1 ?_ | with_reducible refine aE2 ?_ | with_reducible refine aOn ?_ | ((with_reducible refine aCd ?_ ?_) <;> intro hv <;> first | (cases hv; done) | skip) | fail)); all_goals clear x0_ x1_)
    refine W_rounds (α := Nat × Bool × List Bind) (fun a => match a.2.1 with
          | true => ⟨[(0, .t (.sl tnl tcl (ts.map Tpl.c))), (6, .box 0 0), (10, .t (.int .i64 (n : Int))), (11, .hs 1 0), (34, .t (.sl snl scl (l.map STest.c))), (35, .t (.int .i64 l.length)), (36, .t (.int .i64 a.1))], [.box [.t (.int .i64 fid), .t (.int .i64 (n : Int)), .t (.sl fnl fcl (fl.map Val.c))], .arr 4 0 false (a.2.2.map Bind.c)]⟩
          | false => ⟨[(0, .t (.sl tnl tcl (ts.map Tpl.c))), (6, .box 0 0), (10, .t (.int .i64 (n : Int))), (11, .t (.sl true true [])), (34, .t (.sl snl scl (l.map STest.c))), (35, .t (.int .i64 l.length)), (36, .t (.int .i64 a.1))], [.box [.t (.int .i64 fid), .t (.int .i64 (n : Int)), .t (.sl fnl fcl (fl.map Val.c))]]⟩)
      (fun a => l.length - a.1) (fun a => a.1 ≤ l.length ∧ (a.2.1 = false → a.2.2 = []) ∧ passS ⟨tn, ⟨tsn, tsc, tsl⟩⟩ ⟨fid, (n : Int), ⟨fnl, fcl, fl⟩⟩ ((l.take a.1).map STest.s) vars = some a.2.2 ∧ a.2.2.length ≤ vars.length + a.1 ∧ ∀ b ∈ a.2.2, VOK b.v)
      (0, true, vars) (by (simp only [loopKeep, firstRegion, keepsOf, tidy, canon, reach, refsL, refs, refsO, catMap, depth, renL, ren, sub, upto, mem, fresh, cond_true, get, nth, List.map, List.take, List.append_nil, List.nil_append, List.cons_append, beq_dec, decide_true] <;> exact rfl)) ⟨Nat.zero_le _, fun h => (by cases h), rfl, by simp, hvv.h⟩ ?_
    rintro ⟨i, st, out⟩ ⟨hi, hst, hps, hol, hov⟩
    try dsimp only at hi hst hps hol hov
    by_cases hi' : i < l.length
    · have hw : IntKind.i64.wrap ((i : Int) + 1) = ((i + 1 : Nat) : Int) := by
        have := hs0.h; dsimp only at this
        rw [wrap64] <;> omega
      have he : l[i]? = some l[i] := List.getElem?_eq_getElem hi'
      have hd : decide ((i : Int) < l.length) = true := by simpa using hi'
      have hmem := List.getElem_mem hi'
      generalize l[i] = x at he hmem
      have hlen : out.length + 1 < 4000000000 := by
        have h1 := hs0.h; have h2 := hv0.h; dsimp only at h1 h2
        omega
      have hr := fun onl ocl => hround2.h x hmem out onl ocl hov (by omega)
      have hvar := var_ok x.test.nl x.test.cl x.test.l
      have hbd := fun onl ocl => bound_ok onl ocl out (varOf x.test.l).1 (by omega)
      have hstp := hstep.h i x he out hps
      have hstop2 := hstop.h (i + 1)
      rw [hstp] at hstop2
      unfold stepS at hstp hstop2
      rw [varS_eq] at hstp hstop2
      have hsm : decide (out.length + 1 < 4294967296) = true := by simp only [decide_eq_true_eq]; omega
      have hle : lens 4 (out.map Bind.c) = true := lens_map Bind.c 4 (fun a => rfl) out
      obtain ⟨slot, ⟨xnl, xcl, xl⟩, xline, xcol⟩ := x
      dsimp only at hr hvar hbd hstp hstop2
      generalize atA ⟨tn, ⟨tsn, tsc, tsl⟩⟩ ⟨fid, (n : Int), ⟨fnl, fcl, fl⟩⟩ slot = A at *
      generalize varOf xl = V at *
      obtain ⟨Vn, Va⟩ := V
      generalize boundA Vn out = B at *
      generalize PassV (TestsA (xl.map Test.s) A.1 out) = pv at *
      obtain ⟨⟨Ak, An, As⟩, Ab⟩ := A
      obtain ⟨⟨Bk, Bn, Bs⟩, Bb⟩ := B
      dsimp only at hr hvar hbd hstp hstop2
      have hAv := (hr true true).2.2
      have hr := fun onl ocl => And.intro (hr onl ocl).1 (hr onl ocl).2.1
      have hne := val_neq Bk Bn Bs Ak An As
      have hstp2 : Hid _ := ⟨hstp⟩
      have hstop3 : Hid _ := ⟨hstop2⟩
      have hAv2 : Hid _ := ⟨hAv⟩
      have hov2 : Hid _ := ⟨hov⟩
      have hol2 : Hid _ := ⟨hol⟩
      have hst2 : Hid _ := ⟨hst⟩
      clear hstp hstop2 hAv hov hol hst hps hmem
      simp only [Tpl.c, Fact.c, Sl.t] at hr
      generalize heqd : decide ((⟨Bk, Bn, Bs⟩ : Val) = ⟨Ak, An, As⟩) = eqd at hne
      cases st with
      | true =>
        obtain ⟨hat, hpt⟩ := hr false false
        have hbd := hbd false false
        clear hr hst2
        cases Ab with
        | false =>
          have hno := hstop3.h (by rw [if_pos rfl])
          have hno : Hid _ := ⟨hno⟩
          clear hstop3 hstp2
          (have x0_ := @hb_17; have x1_ := @hb_18; have x2_ := @hb_19; have x3_ := @hb_20; (repeat' (first | with_reducible apply fol | with_reducible refine aRW ?_ | with_reducible refine aRR ?_ | with_reducible refine aRs ?_ | ((with_reducible first | apply RW_gdn | apply RR_gdn | apply RW_gd | apply RR_gd) <;> intro hg <;> first | (cases hg; done) | skip) | with_reducible refine aE1 ?_ | with_reducible refine aE2 ?_ | with_reducible refine aOn ?_ | ((with_reducible refine aCd ?_ ?_) <;> intro hv <;> first | (cases hv; done) | skip) | fail)); all_goals clear x0_ x1_ x2_ x3_)
          ((with_reducible apply ends_ret); (focus (simp only [CC_P, results, resultsOf, resultOf, get, res_8, *]; exact rfl)); (focus (first | exact finish_tree' _ _ _ _ | exact finish_tup2 _ _ _ _ _ | exact finish_tup3 _ _ _ _ _ _)))
          exact ⟨(true, true, [], false), ⟨rfl, rfl⟩, by unfold passE; rw [hno.h]⟩
        | true =>
          cases Va with
          | true =>
            cases Bb with
            | false =>
              have hyes : Hid (passS ⟨tn, ⟨tsn, tsc, tsl⟩⟩ ⟨fid, (n : Int), ⟨fnl, fcl, fl⟩⟩ ((l.take (i + 1)).map STest.s) vars = some (out ++ [⟨Vn, ⟨Ak, An, As⟩⟩])) := ⟨hstp2.h.trans (by rw [if_neg (by decide), if_pos rfl, if_pos rfl]; try rfl)⟩
              clear hstop3 hstp2
              (have x0_ := @hb_17; have x1_ := @hb_18; have x2_ := @hb_19; have x3_ := @hb_20; (repeat' (first | with_reducible apply fol | with_reducible refine aRW ?_ | with_reducible refine aRR ?_ | with_reducible refine aRs ?_ | ((with_reducible first | apply RW_gdn | apply RR_gdn | apply RW_gd | apply RR_gd) <;> intro hg <;> first | (cases hg; done) | skip) | with_reducible refine aE1 ?_ | with_reducible refine aE2 ?_ | with_reducible refine aOn ?_ | ((with_reducible refine aCd ?_ ?_) <;> intro hv <;> first | (cases hv; done) | skip) | fail)); all_goals clear x0_ x1_ x2_ x3_)
              refine again_normal (i + 1, true, out ++ [⟨Vn, ⟨Ak, An, As⟩⟩]) (by first | omega | (dsimp only; omega)) ⟨by first | omega | (dsimp only; omega), fun h => (by cases h), hyes.h, by have := hol2.h; simp at this ⊢ <;> omega, ?_⟩ (by (simp only [loopKeep, firstRegion, keepsOf, tidy, canon, reach, refsL, refs, refsO, catMap, depth, renL, ren, renO, sub, sub1, upto, mem, place, fresh, cond_true, get, nth, List.map, List.zip_cons_cons, List.zip_nil_right, List.take, List.append_nil, List.nil_append, List.cons_append, Bool.and_true, beq_dec, decide_true, decide_false, Nat.reduceEqDiff, Val.c, Bind.c, List.map_append, Bind.c, Val.c] <;> exact rfl))
              intro b hb
              rcases List.mem_append.1 hb with hb | hb
              · exact hov2.h b hb
              · rw [List.mem_singleton.1 hb]; exact hAv2.h
            | true =>
              cases eqd with
              | true =>
                have hyes : Hid (passS ⟨tn, ⟨tsn, tsc, tsl⟩⟩ ⟨fid, (n : Int), ⟨fnl, fcl, fl⟩⟩ ((l.take (i + 1)).map STest.s) vars = some out) := ⟨hstp2.h.trans (by rw [if_neg (by decide), if_pos rfl, if_neg (by decide), if_pos (of_decide_eq_true heqd)])⟩
                clear hstop3 hstp2
                (have x0_ := @hb_17; have x1_ := @hb_18; have x2_ := @hb_19; have x3_ := @hb_20; (repeat' (first | with_reducible apply fol | with_reducible refine aRW ?_ | with_reducible refine aRR ?_ | with_reducible refine aRs ?_ | ((with_reducible first | apply RW_gdn | apply RR_gdn | apply RW_gd | apply RR_gd) <;> intro hg <;> first | (cases hg; done) | skip) | with_reducible refine aE1 ?_ | with_reducible refine aE2 ?_ | with_reducible refine aOn ?_ | ((with_reducible refine aCd ?_ ?_) <;> intro hv <;> first | (cases hv; done) | skip) | fail)); all_goals clear x0_ x1_ x2_ x3_)
                refine again_normal (i + 1, true, out) (by first | omega | (dsimp only; omega)) ⟨by first | omega | (dsimp only; omega), fun h => (by cases h), hyes.h, by have := hol2.h; simp at this ⊢ <;> omega, hov2.h⟩ (by (simp only [loopKeep, firstRegion, keepsOf, tidy, canon, reach, refsL, refs, refsO, catMap, depth, renL, ren, renO, sub, sub1, upto, mem, place, fresh, cond_true, get, nth, List.map, List.zip_cons_cons, List.zip_nil_right, List.take, List.append_nil, List.nil_append, List.cons_append, Bool.and_true, beq_dec, decide_true, decide_false, Nat.reduceEqDiff] <;> exact rfl))
              | false =>
                have hno : Hid _ := ⟨hstop3.h (by rw [if_neg (by decide), if_pos rfl, if_neg (by decide), if_neg (of_decide_eq_false heqd)])⟩
                clear hstop3 hstp2
                (have x0_ := @hb_17; have x1_ := @hb_18; have x2_ := @hb_19; have x3_ := @hb_20; (repeat' (first | with_reducible apply fol | with_reducible refine aRW ?_ | with_reducible refine aRR ?_ | with_reducible refine aRs ?_ | ((with_reducible first | apply RW_gdn | apply RR_gdn | apply RW_gd | apply RR_gd) <;> intro hg <;> first | (cases hg; done) | skip) | with_reducible refine aE1 ?_ | with_reducible refine aE2 ?_ | with_reducible refine aOn ?_ | ((with_reducible refine aCd ?_ ?_) <;> intro hv <;> first | (cases hv; done) | skip) | fail)); all_goals clear x0_ x1_ x2_ x3_)
                ((with_reducible apply ends_ret); (focus (simp only [CC_P, results, resultsOf, resultOf, get, res_8, *]; exact rfl)); (focus (first | exact finish_tree' _ _ _ _ | exact finish_tup2 _ _ _ _ _ | exact finish_tup3 _ _ _ _ _ _)))
                exact ⟨(true, true, [], false), ⟨rfl, rfl⟩, by unfold passE; rw [hno.h]⟩
          | false =>
            cases pv with
            | true =>
              have hyes : Hid (passS ⟨tn, ⟨tsn, tsc, tsl⟩⟩ ⟨fid, (n : Int), ⟨fnl, fcl, fl⟩⟩ ((l.take (i + 1)).map STest.s) vars = some out) := ⟨hstp2.h.trans (by rw [if_neg (by decide), if_neg (by decide), if_pos rfl])⟩
              clear hstop3 hstp2
              (have x0_ := @hb_17; have x1_ := @hb_18; have x2_ := @hb_19; have x3_ := @hb_20; (repeat' (first | with_reducible apply fol | with_reducible refine aRW ?_ | with_reducible refine aRR ?_ | with_reducible refine aRs ?_ | ((with_reducible first | apply RW_gdn | apply RR_gdn | apply RW_gd | apply RR_gd) <;> intro hg <;> first | (cases hg; done) | skip) | with_reducible refine aE1 ?_ | with_reducible refine aE2 ?_ | with_reducible refine aOn ?_ | ((with_reducible refine aCd ?_ ?_) <;> intro hv <;> first | (cases hv; done) | skip) | fail)); all_goals clear x0_ x1_ x2_ x3_)
              refine again_normal (i + 1, true, out) (by first | omega | (dsimp only; omega)) ⟨by first | omega | (dsimp only; omega), fun h => (by cases h), hyes.h, by have := hol2.h; simp at this ⊢ <;> omega, hov2.h⟩ (by (simp only [loopKeep, firstRegion, keepsOf, tidy, canon, reach, refsL, refs, refsO, catMap, depth, renL, ren, renO, sub, sub1, upto, mem, place, fresh, cond_true, get, nth, List.map, List.zip_cons_cons, List.zip_nil_right, List.take, List.append_nil, List.nil_append, List.cons_append, Bool.and_true, beq_dec, decide_true, decide_false, Nat.reduceEqDiff] <;> exact rfl))
            | false =>
              have hno : Hid _ := ⟨hstop3.h (by rw [if_neg (by decide), if_neg (by decide), if_neg (by decide)])⟩
              clear hstop3 hstp2
              (have x0_ := @hb_17; have x1_ := @hb_18; have x2_ := @hb_19; have x3_ := @hb_20; (repeat' (first | with_reducible apply fol | with_reducible refine aRW ?_ | with_reducible refine aRR ?_ | with_reducible refine aRs ?_ | ((with_reducible first | apply RW_gdn | apply RR_gdn | apply RW_gd | apply RR_gd) <;> intro hg <;> first | (cases hg; done) | skip) | with_reducible refine aE1 ?_ | with_reducible refine aE2 ?_ | with_reducible refine aOn ?_ | ((with_reducible refine aCd ?_ ?_) <;> intro hv <;> first | (cases hv; done) | skip) | fail)); all_goals clear x0_ x1_ x2_ x3_)
              ((with_reducible apply ends_ret); (focus (simp only [CC_P, results, resultsOf, resultOf, get, res_8, *]; exact rfl)); (focus (first | exact finish_tree' _ _ _ _ | exact finish_tup2 _ _ _ _ _ | exact finish_tup3 _ _ _ _ _ _)))
              exact ⟨(true, true, [], false), ⟨rfl, rfl⟩, by unfold passE; rw [hno.h]⟩
      | false =>
        obtain ⟨hat, hpt⟩ := hr true true
        have hbd := hbd true true
        obtain rfl : out = [] := hst2.h rfl
        clear hr hst2 hsm hle
        simp only [List.map_nil] at hpt hbd
        cases Ab with
        | false =>
          have hno := hstop3.h (by rw [if_pos rfl])
          have hno : Hid _ := ⟨hno⟩
          clear hstop3 hstp2
          (have x0_ := @hb_17; have x1_ := @hb_18; have x2_ := @hb_19; have x3_ := @hb_20; (repeat' (first | with_reducible apply fol | with_reducible refine aRW ?_ | with_reducible refine aRR ?_ | with_reducible refine aRs ?_ | ((with_reducible first | apply RW_gdn | apply RR_gdn | apply RW_gd | apply RR_gd) <;> intro hg <;> first | (cases hg; done) | skip) | with_reducible refine aE1 ?_ | with_reducible refine aE2 ?_ | with_reducible refine aOn ?_ | ((with_reducible refine aCd ?_ ?_) <;> intro hv <;> first | (cases hv; done) | skip) | fail)); all_goals clear x0_ x1_ x2_ x3_)
          ((with_reducible apply ends_ret); (focus (simp only [CC_P, results, resultsOf, resultOf, get, res_8, *]; exact rfl)); (focus (first | exact finish_tree' _ _ _ _ | exact finish_tup2 _ _ _ _ _ | exact finish_tup3 _ _ _ _ _ _)))
          exact ⟨(true, true, [], false), ⟨rfl, rfl⟩, by unfold passE; rw [hno.h]⟩
        | true =>
          cases Va with
          | true =>
            cases Bb with
            | false =>
              have hyes : Hid (passS ⟨tn, ⟨tsn, tsc, tsl⟩⟩ ⟨fid, (n : Int), ⟨fnl, fcl, fl⟩⟩ ((l.take (i + 1)).map STest.s) vars = some [⟨Vn, ⟨Ak, An, As⟩⟩]) := ⟨hstp2.h.trans (by rw [if_neg (by decide), if_pos rfl, if_pos rfl]; try rfl)⟩
              clear hstop3 hstp2
              (have x0_ := @hb_17; have x1_ := @hb_18; have x2_ := @hb_19; have x3_ := @hb_20; (repeat' (first | with_reducible apply fol | with_reducible refine aRW ?_ | with_reducible refine aRR ?_ | with_reducible refine aRs ?_ | ((with_reducible first | apply RW_gdn | apply RR_gdn | apply RW_gd | apply RR_gd) <;> intro hg <;> first | (cases hg; done) | skip) | with_reducible refine aE1 ?_ | with_reducible refine aE2 ?_ | with_reducible refine aOn ?_ | ((with_reducible refine aCd ?_ ?_) <;> intro hv <;> first | (cases hv; done) | skip) | fail)); all_goals clear x0_ x1_ x2_ x3_)
              refine again_normal (i + 1, true, [⟨Vn, ⟨Ak, An, As⟩⟩]) (by first | omega | (dsimp only; omega)) ⟨by first | omega | (dsimp only; omega), fun h => (by cases h), hyes.h, by have := hol2.h; simp at this ⊢ <;> omega, ?_⟩ (by (simp only [loopKeep, firstRegion, keepsOf, tidy, canon, reach, refsL, refs, refsO, catMap, depth, renL, ren, renO, sub, sub1, upto, mem, place, fresh, cond_true, get, nth, List.map, List.zip_cons_cons, List.zip_nil_right, List.take, List.append_nil, List.nil_append, List.cons_append, Bool.and_true, beq_dec, decide_true, decide_false, Nat.reduceEqDiff, Val.c, Bind.c, Bind.c, Val.c] <;> exact rfl))
              intro b hb
              skip
              skip
              rw [List.mem_singleton.1 hb]; exact hAv2.h
            | true =>
              cases eqd with
              | true =>
                have hyes : Hid (passS ⟨tn, ⟨tsn, tsc, tsl⟩⟩ ⟨fid, (n : Int), ⟨fnl, fcl, fl⟩⟩ ((l.take (i + 1)).map STest.s) vars = some ([] : List Bind)) := ⟨hstp2.h.trans (by rw [if_neg (by decide), if_pos rfl, if_neg (by decide), if_pos (of_decide_eq_true heqd)])⟩
                clear hstop3 hstp2
                (have x0_ := @hb_17; have x1_ := @hb_18; have x2_ := @hb_19; have x3_ := @hb_20; (repeat' (first | with_reducible apply fol | with_reducible refine aRW ?_ | with_reducible refine aRR ?_ | with_reducible refine aRs ?_ | ((with_reducible first | apply RW_gdn | apply RR_gdn | apply RW_gd | apply RR_gd) <;> intro hg <;> first | (cases hg; done) | skip) | with_reducible refine aE1 ?_ | with_reducible refine aE2 ?_ | with_reducible refine aOn ?_ | ((with_reducible refine aCd ?_ ?_) <;> intro hv <;> first | (cases hv; done) | skip) | fail)); all_goals clear x0_ x1_ x2_ x3_)
                refine again_normal (i + 1, false, ([] : List Bind)) (by first | omega | (dsimp only; omega)) ⟨by first | omega | (dsimp only; omega), fun h => rfl, hyes.h, by have := hol2.h; simp at this ⊢ <;> omega, hov2.h⟩ (by (simp only [loopKeep, firstRegion, keepsOf, tidy, canon, reach, refsL, refs, refsO, catMap, depth, renL, ren, renO, sub, sub1, upto, mem, place, fresh, cond_true, get, nth, List.map, List.zip_cons_cons, List.zip_nil_right, List.take, List.append_nil, List.nil_append, beq_dec, decide_true] <;> exact rfl))
              | false =>
                have hno : Hid _ := ⟨hstop3.h (by rw [if_neg (by decide), if_pos rfl, if_neg (by decide), if_neg (of_decide_eq_false heqd)])⟩
                clear hstop3 hstp2
                (have x0_ := @hb_17; have x1_ := @hb_18; have x2_ := @hb_19; have x3_ := @hb_20; (repeat' (first | with_reducible apply fol | with_reducible refine aRW ?_ | with_reducible refine aRR ?_ | with_reducible refine aRs ?_ | ((with_reducible first | apply RW_gdn | apply RR_gdn | apply RW_gd | apply RR_gd) <;> intro hg <;> first | (cases hg; done) | skip) | with_reducible refine aE1 ?_ | with_reducible refine aE2 ?_ | with_reducible refine aOn ?_ | ((with_reducible refine aCd ?_ ?_) <;> intro hv <;> first | (cases hv; done) | skip) | fail)); all_goals clear x0_ x1_ x2_ x3_)
                ((with_reducible apply ends_ret); (focus (simp only [CC_P, results, resultsOf, resultOf, get, res_8, *]; exact rfl)); (focus (first | exact finish_tree' _ _ _ _ | exact finish_tup2 _ _ _ _ _ | exact finish_tup3 _ _ _ _ _ _)))
                exact ⟨(true, true, [], false), ⟨rfl, rfl⟩, by unfold passE; rw [hno.h]⟩
          | false =>
            cases pv with
            | true =>
              have hyes : Hid (passS ⟨tn, ⟨tsn, tsc, tsl⟩⟩ ⟨fid, (n : Int), ⟨fnl, fcl, fl⟩⟩ ((l.take (i + 1)).map STest.s) vars = some ([] : List Bind)) := ⟨hstp2.h.trans (by rw [if_neg (by decide), if_neg (by decide), if_pos rfl])⟩
              clear hstop3 hstp2
              (have x0_ := @hb_17; have x1_ := @hb_18; have x2_ := @hb_19; have x3_ := @hb_20; (repeat' (first | with_reducible apply fol | with_reducible refine aRW ?_ | with_reducible refine aRR ?_ | with_reducible refine aRs ?_ | ((with_reducible first | apply RW_gdn | apply RR_gdn | apply RW_gd | apply RR_gd) <;> intro hg <;> first | (cases hg; done) | skip) | with_reducible refine aE1 ?_ | with_reducible refine aE2 ?_ | with_reducible refine aOn ?_ | ((with_reducible refine aCd ?_ ?_) <;> intro hv <;> first | (cases hv; done) | skip) | fail)); all_goals clear x0_ x1_ x2_ x3_)
              refine again_normal (i + 1, false, ([] : List Bind)) (by first | omega | (dsimp only; omega)) ⟨by first | omega | (dsimp only; omega), fun h => rfl, hyes.h, by have := hol2.h; simp at this ⊢ <;> omega, hov2.h⟩ (by (simp only [loopKeep, firstRegion, keepsOf, tidy, canon, reach, refsL, refs, refsO, catMap, depth, renL, ren, renO, sub, sub1, upto, mem, place, fresh, cond_true, get, nth, List.map, List.zip_cons_cons, List.zip_nil_right, List.take, List.append_nil, List.nil_append, beq_dec, decide_true] <;> exact rfl))
            | false =>
              have hno : Hid _ := ⟨hstop3.h (by rw [if_neg (by decide), if_neg (by decide), if_neg (by decide)])⟩
              clear hstop3 hstp2
              (have x0_ := @hb_17; have x1_ := @hb_18; have x2_ := @hb_19; have x3_ := @hb_20; (repeat' (first | with_reducible apply fol | with_reducible refine aRW ?_ | with_reducible refine aRR ?_ | with_reducible refine aRs ?_ | ((with_reducible first | apply RW_gdn | apply RR_gdn | apply RW_gd | apply RR_gd) <;> intro hg <;> first | (cases hg; done) | skip) | with_reducible refine aE1 ?_ | with_reducible refine aE2 ?_ | with_reducible refine aOn ?_ | ((with_reducible refine aCd ?_ ?_) <;> intro hv <;> first | (cases hv; done) | skip) | fail)); all_goals clear x0_ x1_ x2_ x3_)
              ((with_reducible apply ends_ret); (focus (simp only [CC_P, results, resultsOf, resultOf, get, res_8, *]; exact rfl)); (focus (first | exact finish_tree' _ _ _ _ | exact finish_tup2 _ _ _ _ _ | exact finish_tup3 _ _ _ _ _ _)))
              exact ⟨(true, true, [], false), ⟨rfl, rfl⟩, by unfold passE; rw [hno.h]⟩
    · have hd : decide ((i : Int) < l.length) = false := by simpa using hi'
      have hil : l.take i = l := List.take_of_length_le (by omega)
      rw [hil] at hps
      have hps2 : Hid _ := ⟨hps⟩
      have hst2 : Hid _ := ⟨hst⟩
      clear hps hst hov hol hil hi'
      cases st with
      | true =>
        ((repeat' (first | with_reducible apply fol | with_reducible refine aRW ?_ | with_reducible refine aRR ?_ | with_reducible refine aRs ?_ | ((with_reducible first | apply RW_gdn | apply RR_gdn | apply RW_gd | apply RR_gd) <;> intro hg <;> first | (cases hg; done) | skip) | with_reducible refine aE1 ?_ | with_reducible refine aE2 ?_ | with_reducible refine aOn ?_ | ((with_reducible refine aCd ?_ ?_) <;> intro hv <;> first | (cases hv; done) | skip) | fail)))
        ((with_reducible apply ends_ret); (focus (simp only [CC_P, results, resultsOf, resultOf, get, res_8, *]; exact rfl)); (focus (simp only [finish, thaw_8, exports, viewedO, viewed, view, elems, freeze, patch, catMap, canon, reach, refsL, refs, depth, renL, ren, sub, sub1, upto, nth, List.map, List.take, List.length_nil, List.append_nil, if_true] <;> exact rfl)))
        exact ⟨(false, false, out, true), ⟨rfl, rfl⟩, by unfold passE; rw [hps2.h]⟩
      | false =>
        obtain rfl : out = [] := hst2.h rfl
        ((repeat' (first | with_reducible apply fol | with_reducible refine aRW ?_ | with_reducible refine aRR ?_ | with_reducible refine aRs ?_ | ((with_reducible first | apply RW_gdn | apply RR_gdn | apply RW_gd | apply RR_gd) <;> intro hg <;> first | (cases hg; done) | skip) | with_reducible refine aE1 ?_ | with_reducible refine aE2 ?_ | with_reducible refine aOn ?_ | ((with_reducible refine aCd ?_ ?_) <;> intro hv <;> first | (cases hv; done) | skip) | fail)))
        ((with_reducible apply ends_ret); (focus (simp only [CC_P, results, resultsOf, resultOf, get, res_8, *]; exact rfl)); (focus (first | exact finish_tree' _ _ _ _ | exact finish_tup2 _ _ _ _ _ | exact finish_tup3 _ _ _ _ _ _)))
        exact ⟨(true, true, [], true), ⟨rfl, rfl⟩, by unfold passE; rw [hps2.h]⟩

end Go.Ab
/- Layer 18 (passes): tests of slots, and patterns, that are alike. -/
namespace Go.Ab
open Go.Proofs
set_option maxRecDepth 100000
set_option maxHeartbeats 4000000
set_option linter.unusedSimpArgs false
set_option linter.unusedVariables false


/-- What is asked of a slot's tests. -/
def SLen (a : STest) : Prop := a.test.l.length < 9223372036854775808 ∧ ∀ x ∈ a.test.l, TLen x
theorem sameS_ok (a b : STest) (hk : SLen a) :
    Om CC 22 [.t (.agg a.c), .t (.agg b.c)] [] = some (.val (.t (.bool (sameS a b))), []) := by
  refine call_eq fun_22 rfl ?_
  obtain ⟨sl, ⟨nl, cl, l⟩, line, col⟩ := a
  obtain ⟨sl', ⟨nl', cl', l'⟩, line', col'⟩ := b
  have hq := sameTs_ok nl cl nl' cl' l l' hk.1 hk.2
  simp only [sameS]
  clear hk
  generalize eqBy sameT l l' = e at *
  cases e1 : beqL sl sl' with
  | false =>
    (have F_ : _ ∧ _ ∧ _ ∧ _ ∧ _ ∧ _ ∧ _ ∧ _ ∧ _ ∧ _ ∧ _ ∧ _ ∧ _ ∧ _ ∧ _ ∧ _ ∧ _ ∧ _ ∧ _ ∧ _ ∧ _ ∧ _ ∧ _ ∧ _ ∧ _ ∧ _ ∧ _ ∧ _ ∧ _ ∧ _ ∧ _ ∧ _ ∧ _ ∧ _ ∧ _ ∧ _ ∧ _ ∧ _ ∧ _ ∧ _ ∧ _ ∧ _ ∧ _ ∧ _ ∧ _ ∧ _ ∧ _ ∧ _ ∧ _ ∧ _ ∧ _ ∧ _ ∧ _ ∧ _ ∧ _ ∧ _ ∧ _ ∧ _ ∧ _ ∧ _ ∧ _ ∧ _ ∧ _ ∧ _ ∧ _ ∧ _ ∧ _ ∧ _ ∧ _ ∧ _ ∧ _ ∧ _ ∧ _ ∧ _ ∧ _ ∧ _ ∧ _ ∧ _ ∧ _ ∧ _ ∧ _ ∧ _ ∧ _ ∧ _ ∧ _ ∧ _ ∧ _ ∧ _ ∧ _ ∧ _ ∧ _ ∧ _ ∧ _ ∧ _ ∧ _ ∧ _ ∧ _ ∧ _ ∧ _ ∧ _ ∧ _ ∧ _ ∧ _ ∧ _ ∧ _ ∧ _ ∧ _ ∧ _ ∧ _ ∧ _ ∧ _ ∧ _ ∧ _ ∧ _ ∧ _ ∧ _ ∧ _ ∧ _ ∧ _ ∧ _ ∧ _ ∧ _ ∧ _ ∧ _ ∧ _ ∧ _ ∧ _ ∧ _ := ⟨und_2, size_2, agg_2, zero_2, zel_2, small_2, und_3, size_3, agg_3, zero_3, zel_3, small_3, und_4, size_4, agg_4, zero_4, zel_4, small_4, noInt_4, und_5, size_5, agg_5, zero_5, zel_5, small_5, und_9, size_9, agg_9, zero_9, zel_9, small_9, noInt_9, fa_25_0, fd_25_0, fa_25_1, fd_25_1, bld_25, size_25, agg_25, zero_25, zel_25, small_25, noInt_25, fa_45_0, fd_45_0, fa_45_1, fd_45_1, fa_45_2, fd_45_2, bld_45, size_45, agg_45, zero_45, zel_45, small_45, noInt_45, und_50, size_50, agg_50, zero_50, zel_50, small_50, noInt_50, fa_52_0, fd_52_0, fa_52_1, fd_52_1, fa_52_2, fd_52_2, bld_52, size_52, agg_52, zero_52, zel_52, small_52, noInt_52, und_70, size_70, agg_70, zero_70, zel_70, small_70, noInt_70, und_71, size_71, agg_71, zero_71, zel_71, small_71, noInt_71, fa_73_0, fd_73_0, fa_73_1, fd_73_1, fa_73_2, fd_73_2, fa_73_3, fd_73_3, fa_73_4, fd_73_4, fa_73_5, fd_73_5, fa_73_6, fd_73_6, bld_73, size_73, agg_73, zero_73, zel_73, small_73, noInt_73, fa_75_0, fd_75_0, fa_75_1, fd_75_1, fa_75_2, fd_75_2, fa_75_3, fd_75_3, fa_75_4, fd_75_4, bld_75, size_75, agg_75, zero_75, zel_75, small_75, noInt_75⟩; show W CC 0 17 (keepsOf 22) _ ⟨[(0, _), (1, _)], []⟩ _)
    ((repeat' (first | with_reducible apply fol | with_reducible refine aRW ?_ | with_reducible refine aRR ?_ | with_reducible refine aRs ?_ | ((with_reducible first | apply RW_gdn | apply RR_gdn | apply RW_gd | apply RR_gd) <;> intro hg <;> first | (cases hg; done) | skip) | with_reducible refine aE1 ?_ | with_reducible refine aE2 ?_ | with_reducible refine aOn ?_ | ((with_reducible refine aCd ?_ ?_) <;> intro hv <;> first | (cases hv; done) | skip) | fail)))
    exact ⟨.t (.bool false), by kernel_rfl, by kernel_rfl⟩
  | true =>
    (have F_ : _ ∧ _ ∧ _ ∧ _ ∧ _ ∧ _ ∧ _ ∧ _ ∧ _ ∧ _ ∧ _ ∧ _ ∧ _ ∧ _ ∧ _ ∧ _ ∧ _ ∧ _ ∧ _ ∧ _ ∧ _ ∧ _ ∧ _ ∧ _ ∧ _ ∧ _ ∧ _ ∧ _ ∧ _ ∧ _ ∧ _ ∧ _ ∧ _ ∧ _ ∧ _ ∧ _ ∧ _ ∧ _ ∧ _ ∧ _ ∧ _ ∧ _ ∧ _ ∧ _ ∧ _ ∧ _ ∧ _ ∧ _ ∧ _ ∧ _ ∧ _ ∧ _ ∧ _ ∧ _ ∧ _ ∧ _ ∧ _ ∧ _ ∧ _ ∧ _ ∧ _ ∧ _ ∧ _ ∧ _ ∧ _ ∧ _ ∧ _ ∧ _ ∧ _ ∧ _ ∧ _ ∧ _ ∧ _ ∧ _ ∧ _ ∧ _ ∧ _ ∧ _ ∧ _ ∧ _ ∧ _ ∧ _ ∧ _ ∧ _ ∧ _ ∧ _ ∧ _ ∧ _ ∧ _ ∧ _ ∧ _ ∧ _ ∧ _ ∧ _ ∧ _ ∧ _ ∧ _ ∧ _ ∧ _ ∧ _ ∧ _ ∧ _ ∧ _ ∧ _ ∧ _ ∧ _ ∧ _ ∧ _ ∧ _ ∧ _ ∧ _ ∧ _ ∧ _ ∧ _ ∧ _ ∧ _ ∧ _ ∧ _ ∧ _ ∧ _ ∧ _ ∧ _ ∧ _ ∧ _ ∧ _ ∧ _ ∧ _ ∧ _ := ⟨und_2, size_2, agg_2, zero_2, zel_2, small_2, und_3, size_3, agg_3, zero_3, zel_3, small_3, und_4, size_4, agg_4, zero_4, zel_4, small_4, noInt_4, und_5, size_5, agg_5, zero_5, zel_5, small_5, und_9, size_9, agg_9, zero_9, zel_9, small_9, noInt_9, fa_25_0, fd_25_0, fa_25_1, fd_25_1, bld_25, size_25, agg_25, zero_25, zel_25, small_25, noInt_25, fa_45_0, fd_45_0, fa_45_1, fd_45_1, fa_45_2, fd_45_2, bld_45, size_45, agg_45, zero_45, zel_45, small_45, noInt_45, und_50, size_50, agg_50, zero_50, zel_50, small_50, noInt_50, fa_52_0, fd_52_0, fa_52_1, fd_52_1, fa_52_2, fd_52_2, bld_52, size_52, agg_52, zero_52, zel_52, small_52, noInt_52, und_70, size_70, agg_70, zero_70, zel_70, small_70, noInt_70, und_71, size_71, agg_71, zero_71, zel_71, small_71, noInt_71, fa_73_0, fd_73_0, fa_73_1, fd_73_1, fa_73_2, fd_73_2, fa_73_3, fd_73_3, fa_73_4, fd_73_4, fa_73_5, fd_73_5, fa_73_6, fd_73_6, bld_73, size_73, agg_73, zero_73, zel_73, small_73, noInt_73, fa_75_0, fd_75_0, fa_75_1, fd_75_1, fa_75_2, fd_75_2, fa_75_3, fd_75_3, fa_75_4, fd_75_4, bld_75, size_75, agg_75, zero_75, zel_75, small_75, noInt_75⟩; show W CC 0 17 (keepsOf 22) _ ⟨[(0, _), (1, _)], []⟩ _)
    (have x0_ := @hb_23; (repeat' (first | with_reducible apply fol | with_reducible refine aRW ?_ | with_reducible refine aRR ?_ | with_reducible refine aRs ?_ | ((with_reducible first | apply RW_gdn | apply RR_gdn | apply RW_gd | apply RR_gd) <;> intro hg <;> first | (cases hg; done) | skip) | with_reducible refine aE1 ?_ | with_reducible refine aE2 ?_ | with_reducible refine aOn ?_ | ((with_reducible refine aCd ?_ ?_) <;> intro hv <;> first | (cases hv; done) | skip) | fail)); all_goals clear x0_)
    exact ⟨.t (.bool e), by kernel_rfl, by kernel_rfl⟩

theorem equalS_ok (nl cl nl2 cl2 : Bool) (l r : List STest) (hl : l.length < 9223372036854775808) (hk : ∀ x ∈ l, SLen x) :
    Om CC 21 [.t (.sl nl cl (l.map STest.c)), .t (.sl nl2 cl2 (r.map STest.c)), .t (.fn 22)] [] = some (.val (.t (.bool (eqBy sameS l r))), []) := by
  refine call_eq fun_21 rfl ?_
  (have F_ : _ ∧ _ ∧ _ ∧ _ ∧ _ ∧ _ ∧ _ ∧ _ ∧ _ ∧ _ ∧ _ ∧ _ ∧ _ ∧ _ ∧ _ ∧ _ ∧ _ ∧ _ ∧ _ ∧ _ ∧ _ ∧ _ ∧ _ ∧ _ ∧ _ ∧ _ ∧ _ ∧ _ ∧ _ ∧ _ ∧ _ ∧ _ ∧ _ ∧ _ ∧ _ ∧ _ ∧ _ ∧ _ ∧ _ ∧ _ ∧ _ ∧ _ ∧ _ ∧ _ ∧ _ ∧ _ ∧ _ ∧ _ ∧ _ ∧ _ ∧ _ ∧ _ ∧ _ ∧ _ ∧ _ ∧ _ ∧ _ ∧ _ ∧ _ ∧ _ ∧ _ ∧ _ ∧ _ ∧ _ ∧ _ ∧ _ ∧ _ ∧ _ ∧ _ ∧ _ ∧ _ ∧ _ ∧ _ ∧ _ ∧ _ ∧ _ ∧ _ ∧ _ ∧ _ ∧ _ ∧ _ ∧ _ ∧ _ ∧ _ ∧ _ ∧ _ ∧ _ ∧ _ ∧ _ ∧ _ ∧ _ ∧ _ ∧ _ ∧ _ ∧ _ ∧ _ ∧ _ ∧ _ ∧ _ ∧ _ ∧ _ ∧ _ ∧ _ ∧ _ ∧ _ ∧ _ ∧ _ ∧ _ ∧ _ ∧ _ ∧ _ ∧ _ ∧ _ ∧ _ ∧ _ ∧ _ ∧ _ ∧ _ ∧ _ ∧ _ ∧ _ ∧ _ ∧ _ ∧ _ ∧ _ ∧ _ ∧ _ ∧ _ ∧ _ ∧ _ ∧ _ ∧ _ ∧ _ ∧ _ ∧ _ ∧ _ ∧ _ ∧ _ ∧ _ ∧ _ ∧ _ := ⟨und_2, size_2, agg_2, zero_2, zel_2, small_2, und_3, size_3, agg_3, zero_3, zel_3, small_3, und_4, size_4, agg_4, zero_4, zel_4, small_4, noInt_4, und_5, size_5, agg_5, zero_5, zel_5, small_5, und_9, size_9, agg_9, zero_9, zel_9, small_9, noInt_9, und_23, size_23, agg_23, zero_23, zel_23, small_23, noInt_23, fa_25_0, fd_25_0, fa_25_1, fd_25_1, bld_25, size_25, agg_25, zero_25, zel_25, small_25, noInt_25, fa_45_0, fd_45_0, fa_45_1, fd_45_1, fa_45_2, fd_45_2, bld_45, size_45, agg_45, zero_45, zel_45, small_45, noInt_45, und_50, size_50, agg_50, zero_50, zel_50, small_50, noInt_50, fa_52_0, fd_52_0, fa_52_1, fd_52_1, fa_52_2, fd_52_2, bld_52, size_52, agg_52, zero_52, zel_52, small_52, noInt_52, size_68, agg_68, zero_68, zel_68, small_68, noInt_68, und_70, size_70, agg_70, zero_70, zel_70, small_70, noInt_70, und_71, size_71, agg_71, zero_71, zel_71, small_71, noInt_71, fa_73_0, fd_73_0, fa_73_1, fd_73_1, fa_73_2, fd_73_2, fa_73_3, fd_73_3, fa_73_4, fd_73_4, fa_73_5, fd_73_5, fa_73_6, fd_73_6, bld_73, size_73, agg_73, zero_73, zel_73, small_73, noInt_73, fa_75_0, fd_75_0, fa_75_1, fd_75_1, fa_75_2, fd_75_2, fa_75_3, fd_75_3, fa_75_4, fd_75_4, bld_75, size_75, agg_75, zero_75, zel_75, small_75, noInt_75⟩; show W CC 0 32 (keepsOf 21) _ ⟨[(0, _), (1, _), (2, _)], []⟩ _)
  by_cases hlen : l.length = r.length
  · have hlen' : r.length = l.length := hlen.symm
    clear hlen
    ((repeat' (first | with_reducible apply fol | with_reducible refine aRW ?_ | with_reducible refine aRR ?_ | with_reducible refine aRs ?_ | ((with_reducible first | apply RW_gdn | apply RR_gdn | apply RW_gd | apply RR_gd) <;> intro hg <;> first | (cases hg; done) | skip) | with_reducible refine aE1 ?_ | with_reducible refine aE2 ?_ | with_reducible refine aOn ?_ | ((with_reducible refine aCd ?_ ?_) <;> intro hv <;> first | (cases hv; done) | skip) | fail)))
    refine W_rounds (α := Nat) (fun i => ⟨[(1, .t (.sl nl2 cl2 (r.map STest.c))), (2, .t (.fn 22)), (15, .t (.sl nl cl (l.map STest.c))), (16, .t (.int .i64 l.length)), (17, .t (.int .i64 i))], []⟩) (fun i => l.length - i)
      (fun i => i ≤ l.length ∧ ∀ j (hj : j < l.length) (hj2 : j < r.length), j < i → sameS l[j] r[j] = true) 0 (by kernel_rfl) ⟨Nat.zero_le _, fun j _ _ hj => by omega⟩ ?_
    rintro i ⟨hi, hn⟩
    by_cases hi' : i < l.length
    · have hw : IntKind.i64.wrap ((i : Int) + 1) = ((i + 1 : Nat) : Int) := by rw [wrap64] <;> omega
      have hj' : i < r.length := hlen'.symm ▸ hi'
      have he : l[i]? = some l[i] := List.getElem?_eq_getElem hi'
      have he2 : r[i]? = some r[i] := List.getElem?_eq_getElem hj'
      have hd : decide ((i : Int) < l.length) = true := by simpa using hi'
      have hc := sameS_ok l[i] r[i] (hk _ (List.getElem_mem hi'))
      cases hb : sameS l[i] r[i] with
      | true =>
        have hn' : ∀ j (hj : j < l.length) (hj2 : j < r.length), j < i + 1 → sameS l[j] r[j] = true := fun j hj hj2 hji => by
          rcases Nat.lt_or_ge j i with h | h
          · exact hn j hj hj2 h
          · obtain rfl : j = i := by omega
            exact hb
        rw [hb] at hc
        simp only [STest.c, Sl.t] at hc
        clear hn hb hk
        generalize l[i] = a at *
        generalize r[i] = b at *
        (have x0_ := @hb_22; (repeat' (first | with_reducible apply fol | with_reducible refine aRW ?_ | with_reducible refine aRR ?_ | with_reducible refine aRs ?_ | ((with_reducible first | apply RW_gdn | apply RR_gdn | apply RW_gd | apply RR_gd) <;> intro hg <;> first | (cases hg; done) | skip) | with_reducible refine aE1 ?_ | with_reducible refine aE2 ?_ | with_reducible refine aOn ?_ | ((with_reducible refine aCd ?_ ?_) <;> intro hv <;> first | (cases hv; done) | skip) | fail)); all_goals clear x0_)
        refine again_normal (i + 1) (by omega) ⟨by omega, hn'⟩ (by (simp only [loopKeep, firstRegion, keepsOf, tidy, canon, reach, refsL, refs, catMap, depth, renL, ren, sub, sub1, upto, mem, place, fresh, get, List.map, List.zip_cons_cons, List.zip_nil_right, List.take, List.append_nil, beq_dec] <;> exact rfl))
      | false =>
        have hr : eqBy sameS l r = false := eqBy_not hi' hj' hb
        rw [hr]
        rw [hb] at hc
        simp only [STest.c, Sl.t] at hc
        clear hn hr hb hk
        generalize l[i] = a at *
        generalize r[i] = b at *
        (have x0_ := @hb_22; (repeat' (first | with_reducible apply fol | with_reducible refine aRW ?_ | with_reducible refine aRR ?_ | with_reducible refine aRs ?_ | ((with_reducible first | apply RW_gdn | apply RR_gdn | apply RW_gd | apply RR_gd) <;> intro hg <;> first | (cases hg; done) | skip) | with_reducible refine aE1 ?_ | with_reducible refine aE2 ?_ | with_reducible refine aOn ?_ | ((with_reducible refine aCd ?_ ?_) <;> intro hv <;> first | (cases hv; done) | skip) | fail)); all_goals clear x0_)
        exact ⟨.t (.bool false), by kernel_rfl, by kernel_rfl⟩
    · have hd : decide ((i : Int) < l.length) = false := by simpa using hi'
      have hr : eqBy sameS l r = true := eqBy_all hlen' fun j hj hj2 => hn j hj hj2 (by omega)
      rw [hr]
      clear hn hr hk
      ((repeat' (first | with_reducible apply fol | with_reducible refine aRW ?_ | with_reducible refine aRR ?_ | with_reducible refine aRs ?_ | ((with_reducible first | apply RW_gdn | apply RR_gdn | apply RW_gd | apply RR_gd) <;> intro hg <;> first | (cases hg; done) | skip) | with_reducible refine aE1 ?_ | with_reducible refine aE2 ?_ | with_reducible refine aOn ?_ | ((with_reducible refine aCd ?_ ?_) <;> intro hv <;> first | (cases hv; done) | skip) | fail)))
      exact ⟨.t (.bool true), by kernel_rfl, by kernel_rfl⟩
  · have h0 : (((l.length : Nat) : Int) != (r.length : Int)) = true := by
      rw [bne_iff_ne]
      omega
    rw [eqBy_len hlen]
    clear hlen hk
    ((repeat' (first | with_reducible apply fol | with_reducible refine aRW ?_ | with_reducible refine aRR ?_ | with_reducible refine aRs ?_ | ((with_reducible first | apply RW_gdn | apply RR_gdn | apply RW_gd | apply RR_gd) <;> intro hg <;> first | (cases hg; done) | skip) | with_reducible refine aE1 ?_ | with_reducible refine aE2 ?_ | with_reducible refine aOn ?_ | ((with_reducible refine aCd ?_ ?_) <;> intro hv <;> first | (cases hv; done) | skip) | fail)))
    exact ⟨.t (.bool false), by kernel_rfl, by kernel_rfl⟩


theorem alike_ok (p q : Pat) (hl : p.slots.l.length < 9223372036854775808) (hk : ∀ x ∈ p.slots.l, SLen x) :
    Om CC 10 [.t (.agg p.c), .t (.agg q.c)] [] = some (.val (.t (.bool (alikeP p q))), []) := by
  refine call_eq fun_10 rfl ?_
  obtain ⟨n, t, ⟨nl, cl, l⟩, line, col⟩ := p
  obtain ⟨n', t', ⟨nl', cl', l'⟩, line', col'⟩ := q
  have hq := equalS_ok nl cl nl' cl' l l' hl hk
  simp only [alikeP]
  clear hl hk
  generalize eqBy sameS l l' = e at *
  cases e1 : beqL t t' with
  | false =>
    (have F_ : _ ∧ _ ∧ _ ∧ _ ∧ _ ∧ _ ∧ _ ∧ _ ∧ _ ∧ _ ∧ _ ∧ _ ∧ _ ∧ _ ∧ _ ∧ _ ∧ _ ∧ _ ∧ _ ∧ _ ∧ _ ∧ _ ∧ _ ∧ _ ∧ _ ∧ _ ∧ _ ∧ _ ∧ _ ∧ _ ∧ _ ∧ _ ∧ _ ∧ _ ∧ _ ∧ _ ∧ _ ∧ _ ∧ _ ∧ _ ∧ _ ∧ _ ∧ _ ∧ _ ∧ _ ∧ _ ∧ _ ∧ _ ∧ _ ∧ _ ∧ _ ∧ _ ∧ _ ∧ _ ∧ _ ∧ _ ∧ _ ∧ _ ∧ _ ∧ _ ∧ _ ∧ _ ∧ _ ∧ _ ∧ _ ∧ _ ∧ _ ∧ _ ∧ _ ∧ _ ∧ _ ∧ _ ∧ _ ∧ _ ∧ _ ∧ _ ∧ _ ∧ _ ∧ _ ∧ _ ∧ _ ∧ _ ∧ _ ∧ _ ∧ _ ∧ _ ∧ _ ∧ _ ∧ _ ∧ _ ∧ _ ∧ _ ∧ _ ∧ _ ∧ _ ∧ _ ∧ _ ∧ _ ∧ _ ∧ _ ∧ _ ∧ _ ∧ _ ∧ _ ∧ _ ∧ _ ∧ _ ∧ _ ∧ _ ∧ _ ∧ _ ∧ _ ∧ _ ∧ _ ∧ _ ∧ _ ∧ _ ∧ _ ∧ _ ∧ _ ∧ _ ∧ _ ∧ _ ∧ _ ∧ _ ∧ _ ∧ _ ∧ _ ∧ _ ∧ _ ∧ _ ∧ _ ∧ _ ∧ _ ∧ _ ∧ _ ∧ _ ∧ _ ∧ _ ∧ _ ∧ _ ∧ _ ∧ _ ∧ _ ∧ _ ∧ _ ∧ _ ∧ _ ∧ _ ∧ _ ∧ _ ∧ _ ∧ _ ∧ _ ∧ _ ∧ _ := ⟨und_2, size_2, agg_2, zero_2, zel_2, small_2, und_3, size_3, agg_3, zero_3, zel_3, small_3, und_4, size_4, agg_4, zero_4, zel_4, small_4, noInt_4, und_5, size_5, agg_5, zero_5, zel_5, small_5, und_9, size_9, agg_9, zero_9, zel_9, small_9, noInt_9, und_23, size_23, agg_23, zero_23, zel_23, small_23, noInt_23, fa_25_0, fd_25_0, fa_25_1, fd_25_1, bld_25, size_25, agg_25, zero_25, zel_25, small_25, noInt_25, fa_27_0, fd_27_0, fa_27_1, fd_27_1, fa_27_2, fd_27_2, fa_27_3, fd_27_3, bld_27, size_27, agg_27, zero_27, zel_27, small_27, noInt_27, fa_45_0, fd_45_0, fa_45_1, fd_45_1, fa_45_2, fd_45_2, bld_45, size_45, agg_45, zero_45, zel_45, small_45, noInt_45, und_50, size_50, agg_50, zero_50, zel_50, small_50, noInt_50, fa_52_0, fd_52_0, fa_52_1, fd_52_1, fa_52_2, fd_52_2, bld_52, size_52, agg_52, zero_52, zel_52, small_52, noInt_52, size_68, agg_68, zero_68, zel_68, small_68, noInt_68, und_70, size_70, agg_70, zero_70, zel_70, small_70, noInt_70, und_71, size_71, agg_71, zero_71, zel_71, small_71, noInt_71, fa_73_0, fd_73_0, fa_73_1, fd_73_1, fa_73_2, fd_73_2, fa_73_3, fd_73_3, fa_73_4, fd_73_4, fa_73_5, fd_73_5, fa_73_6, fd_73_6, bld_73, size_73, agg_73, zero_73, zel_73, small_73, noInt_73, fa_75_0, fd_75_0, fa_75_1, fd_75_1, fa_75_2, fd_75_2, fa_75_3, fd_75_3, fa_75_4, fd_75_4, bld_75, size_75, agg_75, zero_75, zel_75, small_75, noInt_75⟩; show W CC 0 17 (keepsOf 10) _ ⟨[(0, _), (1, _)], []⟩ _)
    ((repeat' (first | with_reducible apply fol | with_reducible refine aRW ?_ | with_reducible refine aRR ?_ | with_reducible refine aRs ?_ | ((with_reducible first | apply RW_gdn | apply RR_gdn | apply RW_gd | apply RR_gd) <;> intro hg <;> first | (cases hg; done) | skip) | with_reducible refine aE1 ?_ | with_reducible refine aE2 ?_ | with_reducible refine aOn ?_ | ((with_reducible refine aCd ?_ ?_) <;> intro hv <;> first | (cases hv; done) | skip) | fail)))
    exact ⟨.t (.bool false), by kernel_rfl, by kernel_rfl⟩
  | true =>
    (have F_ : _ ∧ _ ∧ _ ∧ _ ∧ _ ∧ _ ∧ _ ∧ _ ∧ _ ∧ _ ∧ _ ∧ _ ∧ _ ∧ _ ∧ _ ∧ _ ∧ _ ∧ _ ∧ _ ∧ _ ∧ _ ∧ _ ∧ _ ∧ _ ∧ _ ∧ _ ∧ _ ∧ _ ∧ _ ∧ _ ∧ _ ∧ _ ∧ _ ∧ _ ∧ _ ∧ _ ∧ _ ∧ _ ∧ _ ∧ _ ∧ _ ∧ _ ∧ _ ∧ _ ∧ _ ∧ _ ∧ _ ∧ _ ∧ _ ∧ _ ∧ _ ∧ _ ∧ _ ∧ _ ∧ _ ∧ _ ∧ _ ∧ _ ∧ _ ∧ _ ∧ _ ∧ _ ∧ _ ∧ _ ∧ _ ∧ _ ∧ _ ∧ _ ∧ _ ∧ _ ∧ _ ∧ _ ∧ _ ∧ _ ∧ _ ∧ _ ∧ _ ∧ _ ∧ _ ∧ _ ∧ _ ∧ _ ∧ _ ∧ _ ∧ _ ∧ _ ∧ _ ∧ _ ∧ _ ∧ _ ∧ _ ∧ _ ∧ _ ∧ _ ∧ _ ∧ _ ∧ _ ∧ _ ∧ _ ∧ _ ∧ _ ∧ _ ∧ _ ∧ _ ∧ _ ∧ _ ∧ _ ∧ _ ∧ _ ∧ _ ∧ _ ∧ _ ∧ _ ∧ _ ∧ _ ∧ _ ∧ _ ∧ _ ∧ _ ∧ _ ∧ _ ∧ _ ∧ _ ∧ _ ∧ _ ∧ _ ∧ _ ∧ _ ∧ _ ∧ _ ∧ _ ∧ _ ∧ _ ∧ _ ∧ _ ∧ _ ∧ _ ∧ _ ∧ _ ∧ _ ∧ _ ∧ _ ∧ _ ∧ _ ∧ _ ∧ _ ∧ _ ∧ _ ∧ _ ∧ _ ∧ _ ∧ _ ∧ _ ∧ _ ∧ _ ∧ _ := ⟨und_2, size_2, agg_2, zero_2, zel_2, small_2, und_3, size_3, agg_3, zero_3, zel_3, small_3, und_4, size_4, agg_4, zero_4, zel_4, small_4, noInt_4, und_5, size_5, agg_5, zero_5, zel_5, small_5, und_9, size_9, agg_9, zero_9, zel_9, small_9, noInt_9, und_23, size_23, agg_23, zero_23, zel_23, small_23, noInt_23, fa_25_0, fd_25_0, fa_25_1, fd_25_1, bld_25, size_25, agg_25, zero_25, zel_25, small_25, noInt_25, fa_27_0, fd_27_0, fa_27_1, fd_27_1, fa_27_2, fd_27_2, fa_27_3, fd_27_3, bld_27, size_27, agg_27, zero_27, zel_27, small_27, noInt_27, fa_45_0, fd_45_0, fa_45_1, fd_45_1, fa_45_2, fd_45_2, bld_45, size_45, agg_45, zero_45, zel_45, small_45, noInt_45, und_50, size_50, agg_50, zero_50, zel_50, small_50, noInt_50, fa_52_0, fd_52_0, fa_52_1, fd_52_1, fa_52_2, fd_52_2, bld_52, size_52, agg_52, zero_52, zel_52, small_52, noInt_52, size_68, agg_68, zero_68, zel_68, small_68, noInt_68, und_70, size_70, agg_70, zero_70, zel_70, small_70, noInt_70, und_71, size_71, agg_71, zero_71, zel_71, small_71, noInt_71, fa_73_0, fd_73_0, fa_73_1, fd_73_1, fa_73_2, fd_73_2, fa_73_3, fd_73_3, fa_73_4, fd_73_4, fa_73_5, fd_73_5, fa_73_6, fd_73_6, bld_73, size_73, agg_73, zero_73, zel_73, small_73, noInt_73, fa_75_0, fd_75_0, fa_75_1, fd_75_1, fa_75_2, fd_75_2, fa_75_3, fd_75_3, fa_75_4, fd_75_4, bld_75, size_75, agg_75, zero_75, zel_75, small_75, noInt_75⟩; show W CC 0 17 (keepsOf 10) _ ⟨[(0, _), (1, _)], []⟩ _)
    (have x0_ := @hb_21; (repeat' (first | with_reducible apply fol | with_reducible refine aRW ?_ | with_reducible refine aRR ?_ | with_reducible refine aRs ?_ | ((with_reducible first | apply RW_gdn | apply RR_gdn | apply RW_gd | apply RR_gd) <;> intro hg <;> first | (cases hg; done) | skip) | with_reducible refine aE1 ?_ | with_reducible refine aE2 ?_ | with_reducible refine aOn ?_ | ((with_reducible refine aCd ?_ ?_) <;> intro hv <;> first | (cases hv; done) | skip) | fail)); all_goals clear x0_)
    exact ⟨.t (.bool e), by kernel_rfl, by kernel_rfl⟩

end Go.Ab
/- The function 'great' of layer 18's statements: it answers. -/
namespace Go.Ab
open Go.Proofs
set_option maxRecDepth 100000
set_option linter.unusedSimpArgs false
theorem great_ok (ts : Sl Tpl) (f : Fact) (vars : Sl Bind) (h1 : ts.l.length < 9223372036854775808) (h2 : f.s.l.length < 9223372036854775808) (h3 : vars.l.length < 9223372036854775808) :
    ∃ b, Om CC 5 [.t (ts.t Tpl.c), .t (.agg f.c), .t (vars.t Bind.c)] [] = some (.val (.t (.bool b)), []) ∧ (b = false → vars.l.length ≤ 40 ∧ f.s.l.length ≤ 20) := by
  have key := call_of_W (C := CC) (args := [.t (ts.t Tpl.c), .t (.agg f.c), .t (vars.t Bind.c)]) (h := []) (R := fun o h' => ∃ b, (o = .val (.t (.bool b)) ∧ h' = []) ∧ (b = false → vars.l.length ≤ 40 ∧ f.s.l.length ≤ 20)) fun_5 rfl ?_
  · obtain ⟨o, h', h1, b, ⟨rfl, rfl⟩, h2⟩ := key
    exact ⟨b, h1, h2⟩
  show W CC 0 70 (keepsOf 5) _ ⟨[(0, _), (1, _), (2, _)], []⟩ _
  repeat (first | with_reducible apply once_normal | with_reducible apply once_exit | with_reducible apply once_ret | with_reducible apply once_pan | with_reducible apply thenW_normal | with_reducible apply thenW_ret | with_reducible apply thenW_exit | with_reducible apply thenW_pan | with_reducible apply outOf_normal | with_reducible apply outOf_eq | (refine outOf_ne (by kernel_rfl) ?_) | with_reducible apply outOf_ret | with_reducible apply outOf_pan | with_reducible apply again_exit | with_reducible apply again_ret | with_reducible apply again_pan | with_reducible apply W_seq | with_reducible apply W_block | with_reducible apply W_scope | with_reducible apply W_skip | with_reducible apply W_ret | with_reducible apply W_exit | with_reducible apply W_label | ((with_reducible apply W_run); (focus kernel_rfl); (focus (simp only [Int.ofNat_eq_natCast, List.length_map, runOps, wanted, exec1, xBox, xCall, xBuiltin, xLen, cellsOf, operand, opds, get, putT, ret, lit, lit1, patch, put1, lenOf, CC_P, List.map_cons, List.map_nil, List.length_nil, Sl.t, Fact.c, und_22]; exact rfl))))
  refine W_rounds (α := Nat × Int) (fun a => ⟨[(0, .t (ts.t Tpl.c)), (2, .t (vars.t Bind.c)), (4, .box 0 0), (7, .t (.int .i64 a.2)), (12, .t (.int .i64 ts.l.length)), (13, .t (.int .i64 a.1))], [.box [.t (.int .i64 f.id), .t (.int .i64 f.tp), .t (f.s.t Val.c)]]⟩)
    (fun a => ts.l.length - a.1) (fun a => a.1 ≤ ts.l.length) (0, 0) (by kernel_rfl) (Nat.zero_le _) ?_
  rintro ⟨i, n⟩ hi
  try dsimp only at hi
  repeat (first | with_reducible apply once_normal | with_reducible apply once_exit | with_reducible apply once_ret | with_reducible apply once_pan | with_reducible apply thenW_normal | with_reducible apply thenW_ret | with_reducible apply thenW_exit | with_reducible apply thenW_pan | with_reducible apply outOf_normal | with_reducible apply outOf_eq | (refine outOf_ne (by kernel_rfl) ?_) | with_reducible apply outOf_ret | with_reducible apply outOf_pan | with_reducible apply again_exit | with_reducible apply again_ret | with_reducible apply again_pan | with_reducible apply W_seq | with_reducible apply W_block | with_reducible apply W_scope | with_reducible apply W_skip | with_reducible apply W_ret | with_reducible apply W_exit | with_reducible apply W_label | ((with_reducible apply W_run); (focus kernel_rfl); (focus (simp only [runOps, wanted, exec1, operand, get, putT, retO, patch, CC_P, int_lss, Sl.t]; exact rfl))))
  refine W_cond (v := decide ((i : Int) < ts.l.length)) (by (simp only [operand, get])) (fun hv => ?_) (fun hv => ?_)
  · have hi' : i < ts.l.length := by simpa using hv
    have hw : IntKind.i64.wrap ((i : Int) + 1) = ((i + 1 : Nat) : Int) := by rw [wrap64] <;> omega
    have he : ts.l[i]? = some ts.l[i] := List.getElem?_eq_getElem hi'
    repeat (first | with_reducible apply once_normal | with_reducible apply once_exit | with_reducible apply once_ret | with_reducible apply once_pan | with_reducible apply thenW_normal | with_reducible apply thenW_ret | with_reducible apply thenW_exit | with_reducible apply thenW_pan | with_reducible apply outOf_normal | with_reducible apply outOf_eq | (refine outOf_ne (by kernel_rfl) ?_) | with_reducible apply outOf_ret | with_reducible apply outOf_pan | with_reducible apply again_exit | with_reducible apply again_ret | with_reducible apply again_pan | with_reducible apply W_seq | with_reducible apply W_block | with_reducible apply W_scope | with_reducible apply W_skip | with_reducible apply W_ret | with_reducible apply W_exit | with_reducible apply W_label | ((with_reducible apply W_run); (focus kernel_rfl); (focus (simp only [Int.ofNat_eq_natCast, List.length_map, List.getElem?_map, Option.map_some, runOps, wanted, exec1, xCall, xBuiltin, xLen, xIndexAddr, operand, opds, get, putT, ret, retO, lit, lit1, patch, load, loadCells, cut, addOff, lenOf, indexAddr, CC_P, i64_add, idx_nat, Nat.zero_add, List.map_cons, List.map_nil, List.length_cons, List.length_nil, List.take, List.drop, if_true, Nat.reduceAdd, Nat.reduceLeDiff, Sl.t, Tpl.c, he, hw, und_22, und_37, agg_37, fa_39_1, size_39]; exact rfl))))
    refine again_normal (i + 1, ?_) (by dsimp only; omega) (by dsimp only; omega) ?_
    rotate_left
    · (simp only [loopKeep, firstRegion, keepsOf, tidy, canon, reach, refsL, refs, refsO, catMap, depth, renL, ren, renO, sub, sub1, upto, mem, place, fresh, cond_true, get, nth, List.map, List.zip_cons_cons, List.zip_nil_right, List.take, List.append_nil, List.nil_append, beq_dec, decide_true, Sl.t] <;> exact rfl)
  clear hv
  repeat (first | with_reducible apply once_normal | with_reducible apply once_exit | with_reducible apply once_ret | with_reducible apply once_pan | with_reducible apply thenW_normal | with_reducible apply thenW_ret | with_reducible apply thenW_exit | with_reducible apply thenW_pan | with_reducible apply outOf_normal | with_reducible apply outOf_eq | (refine outOf_ne (by kernel_rfl) ?_) | with_reducible apply outOf_ret | with_reducible apply outOf_pan | with_reducible apply again_exit | with_reducible apply again_ret | with_reducible apply again_pan | with_reducible apply W_seq | with_reducible apply W_block | with_reducible apply W_scope | with_reducible apply W_skip | with_reducible apply W_ret | with_reducible apply W_exit | with_reducible apply W_label | ((with_reducible apply W_run); (focus kernel_rfl); (focus (simp only [Int.ofNat_eq_natCast, List.length_map, runOps, wanted, exec1, xCall, xBuiltin, xLen, operand, opds, get, putT, ret, retO, lit, lit1, patch, load, loadCells, cut, addOff, nth, lenOf, CC_P, Nat.zero_add, List.length_cons, List.length_nil, List.take, List.drop, if_true, Nat.reduceAdd, Nat.reduceLeDiff, und_28, agg_28, fa_30_2]; exact rfl))))
  refine W_rounds (α := Nat × Int) (fun a => ⟨[(2, .t (vars.t Bind.c)), (4, .box 0 0), (7, .t (.int .i64 a.2)), (28, .t (.int .i64 f.s.l.length)), (29, .t (.int .i64 a.1))], [.box [.t (.int .i64 f.id), .t (.int .i64 f.tp), .t (f.s.t Val.c)]]⟩)
    (fun a => f.s.l.length - a.1) (fun a => a.1 ≤ f.s.l.length) (0, n) (by kernel_rfl) (Nat.zero_le _) ?_
  clear hi
  rintro ⟨i, n⟩ hi
  try dsimp only at hi
  repeat (first | with_reducible apply once_normal | with_reducible apply once_exit | with_reducible apply once_ret | with_reducible apply once_pan | with_reducible apply thenW_normal | with_reducible apply thenW_ret | with_reducible apply thenW_exit | with_reducible apply thenW_pan | with_reducible apply outOf_normal | with_reducible apply outOf_eq | (refine outOf_ne (by kernel_rfl) ?_) | with_reducible apply outOf_ret | with_reducible apply outOf_pan | with_reducible apply again_exit | with_reducible apply again_ret | with_reducible apply again_pan | with_reducible apply W_seq | with_reducible apply W_block | with_reducible apply W_scope | with_reducible apply W_skip | with_reducible apply W_ret | with_reducible apply W_exit | with_reducible apply W_label | ((with_reducible apply W_run); (focus kernel_rfl); (focus (simp only [runOps, wanted, exec1, operand, get, putT, retO, patch, CC_P, int_lss, Sl.t]; exact rfl))))
  refine W_cond (v := decide ((i : Int) < f.s.l.length)) (by (simp only [operand, get])) (fun hv => ?_) (fun hv => ?_)
  · have hi' : i < f.s.l.length := by simpa using hv
    have hw : IntKind.i64.wrap ((i : Int) + 1) = ((i + 1 : Nat) : Int) := by rw [wrap64] <;> omega
    have he : f.s.l[i]? = some f.s.l[i] := List.getElem?_eq_getElem hi'
    repeat (first | with_reducible apply once_normal | with_reducible apply once_exit | with_reducible apply once_ret | with_reducible apply once_pan | with_reducible apply thenW_normal | with_reducible apply thenW_ret | with_reducible apply thenW_exit | with_reducible apply thenW_pan | with_reducible apply outOf_normal | with_reducible apply outOf_eq | (refine outOf_ne (by kernel_rfl) ?_) | with_reducible apply outOf_ret | with_reducible apply outOf_pan | with_reducible apply again_exit | with_reducible apply again_ret | with_reducible apply again_pan | with_reducible apply W_seq | with_reducible apply W_block | with_reducible apply W_scope | with_reducible apply W_skip | with_reducible apply W_ret | with_reducible apply W_exit | with_reducible apply W_label | ((with_reducible apply W_run); (focus kernel_rfl); (focus (simp only [Int.ofNat_eq_natCast, List.getElem?_map, Option.map_some, runOps, wanted, exec1, xCall, xBuiltin, xLen, xIndexAddr, operand, opds, get, putT, ret, retO, lit, lit1, patch, load, loadCells, cut, addOff, nth, indexAddr, CC_P, i64_add, idx_nat, Nat.zero_add, List.map_cons, List.map_nil, List.length_cons, List.length_nil, List.take, List.drop, if_true, Nat.reduceAdd, Nat.reduceLeDiff, Val.c, he, hw, und_9, agg_9, und_28, agg_28, fa_30_2, fa_45_2, size_45]; exact rfl))))
    refine again_normal (i + 1, ?_) (by dsimp only; omega) (by dsimp only; omega) ?_
    rotate_left
    · (simp only [loopKeep, firstRegion, keepsOf, tidy, canon, reach, refsL, refs, refsO, catMap, depth, renL, ren, renO, sub, sub1, upto, mem, place, fresh, cond_true, get, nth, List.map, List.zip_cons_cons, List.zip_nil_right, List.take, List.append_nil, List.nil_append, beq_dec, decide_true, Sl.t] <;> exact rfl)
  clear hv
  repeat (first | with_reducible apply once_normal | with_reducible apply once_exit | with_reducible apply once_ret | with_reducible apply once_pan | with_reducible apply thenW_normal | with_reducible apply thenW_ret | with_reducible apply thenW_exit | with_reducible apply thenW_pan | with_reducible apply outOf_normal | with_reducible apply outOf_eq | (refine outOf_ne (by kernel_rfl) ?_) | with_reducible apply outOf_ret | with_reducible apply outOf_pan | with_reducible apply again_exit | with_reducible apply again_ret | with_reducible apply again_pan | with_reducible apply W_seq | with_reducible apply W_block | with_reducible apply W_scope | with_reducible apply W_skip | with_reducible apply W_ret | with_reducible apply W_exit | with_reducible apply W_label | ((with_reducible apply W_run); (focus kernel_rfl); (focus (simp only [Int.ofNat_eq_natCast, List.length_map, runOps, wanted, exec1, xCall, xBuiltin, xLen, operand, opds, get, putT, ret, lit, lit1, patch, lenOf, CC_P, und_31]; exact rfl))))
  refine W_rounds (α := Nat × Int) (fun a => ⟨[(2, .t (vars.t Bind.c)), (4, .box 0 0), (7, .t (.int .i64 a.2)), (43, .t (.int .i64 vars.l.length)), (44, .t (.int .i64 a.1))], [.box [.t (.int .i64 f.id), .t (.int .i64 f.tp), .t (f.s.t Val.c)]]⟩)
    (fun a => vars.l.length - a.1) (fun a => a.1 ≤ vars.l.length) (0, n) (by kernel_rfl) (Nat.zero_le _) ?_
  clear hi
  rintro ⟨i, n⟩ hi
  try dsimp only at hi
  repeat (first | with_reducible apply once_normal | with_reducible apply once_exit | with_reducible apply once_ret | with_reducible apply once_pan | with_reducible apply thenW_normal | with_reducible apply thenW_ret | with_reducible apply thenW_exit | with_reducible apply thenW_pan | with_reducible apply outOf_normal | with_reducible apply outOf_eq | (refine outOf_ne (by kernel_rfl) ?_) | with_reducible apply outOf_ret | with_reducible apply outOf_pan | with_reducible apply again_exit | with_reducible apply again_ret | with_reducible apply again_pan | with_reducible apply W_seq | with_reducible apply W_block | with_reducible apply W_scope | with_reducible apply W_skip | with_reducible apply W_ret | with_reducible apply W_exit | with_reducible apply W_label | ((with_reducible apply W_run); (focus kernel_rfl); (focus (simp only [runOps, wanted, exec1, operand, get, putT, retO, patch, CC_P, int_lss, Sl.t]; exact rfl))))
  refine W_cond (v := decide ((i : Int) < vars.l.length)) (by (simp only [operand, get])) (fun hv => ?_) (fun hv => ?_)
  · have hi' : i < vars.l.length := by simpa using hv
    have hw : IntKind.i64.wrap ((i : Int) + 1) = ((i + 1 : Nat) : Int) := by rw [wrap64] <;> omega
    have he : vars.l[i]? = some vars.l[i] := List.getElem?_eq_getElem hi'
    repeat (first | with_reducible apply once_normal | with_reducible apply once_exit | with_reducible apply once_ret | with_reducible apply once_pan | with_reducible apply thenW_normal | with_reducible apply thenW_ret | with_reducible apply thenW_exit | with_reducible apply thenW_pan | with_reducible apply outOf_normal | with_reducible apply outOf_eq | (refine outOf_ne (by kernel_rfl) ?_) | with_reducible apply outOf_ret | with_reducible apply outOf_pan | with_reducible apply again_exit | with_reducible apply again_ret | with_reducible apply again_pan | with_reducible apply W_seq | with_reducible apply W_block | with_reducible apply W_scope | with_reducible apply W_skip | with_reducible apply W_ret | with_reducible apply W_exit | with_reducible apply W_label | ((with_reducible apply W_run); (focus kernel_rfl); (focus (simp only [Int.ofNat_eq_natCast, List.getElem?_map, Option.map_some, runOps, wanted, exec1, xCall, xBuiltin, xLen, xIndexAddr, operand, opds, get, putT, ret, retO, lit, lit1, patch, load, loadCells, cut, addOff, indexAddr, CC_P, i64_add, idx_nat, Nat.zero_add, List.map_cons, List.map_nil, List.length_cons, List.length_nil, List.take, List.drop, if_true, Nat.reduceAdd, Nat.reduceLeDiff, Val.c, Bind.c, he, hw, und_9, agg_9, und_31, fa_45_2, fa_47_1, size_47]; exact rfl))))
    refine again_normal (i + 1, ?_) (by dsimp only; omega) (by dsimp only; omega) ?_
    rotate_left
    · (simp only [loopKeep, firstRegion, keepsOf, tidy, canon, reach, refsL, refs, refsO, catMap, depth, renL, ren, renO, sub, sub1, upto, mem, place, fresh, cond_true, get, nth, List.map, List.zip_cons_cons, List.zip_nil_right, List.take, List.append_nil, List.nil_append, beq_dec, decide_true, Sl.t] <;> exact rfl)
  clear hv
  repeat (first | with_reducible apply once_normal | with_reducible apply once_exit | with_reducible apply once_ret | with_reducible apply once_pan | with_reducible apply thenW_normal | with_reducible apply thenW_ret | with_reducible apply thenW_exit | with_reducible apply thenW_pan | with_reducible apply outOf_normal | with_reducible apply outOf_eq | (refine outOf_ne (by kernel_rfl) ?_) | with_reducible apply outOf_ret | with_reducible apply outOf_pan | with_reducible apply again_exit | with_reducible apply again_ret | with_reducible apply again_pan | with_reducible apply W_seq | with_reducible apply W_block | with_reducible apply W_scope | with_reducible apply W_skip | with_reducible apply W_ret | with_reducible apply W_exit | with_reducible apply W_label | ((with_reducible apply W_run); (focus kernel_rfl); (focus (simp only [beq_false, Int.ofNat_eq_natCast, List.length_map, runOps, wanted, exec1, xPick, xCall, xBuiltin, xLen, operand, opds, get, putT, ret, retO, lit, lit1, patch, load, loadCells, cut, addOff, nth, lenOf, CC_P, int_gtr, Nat.zero_add, List.length_cons, List.length_nil, List.take, List.drop, if_true, Nat.reduceAdd, Nat.reduceLeDiff, und_28, agg_28, fa_30_2, und_31]; exact rfl))))
  have fin : ∀ (b : Bool) (T : Env) (h : Heap), (b = false → vars.l.length ≤ 40 ∧ f.s.l.length ≤ 20) → ends CC 5 Tryz.f5 0 (fun o h' => ∃ b, (o = .val (.t (.bool b)) ∧ h' = []) ∧ (b = false → vars.l.length ≤ 40 ∧ f.s.l.length ≤ 20)) .ret ⟨(6, .t (.bool b)) :: T, h⟩ :=
    fun b T h hx => ⟨.t (.bool b), by kernel_rfl, .t (.bool b), [], finish_tree' _ _ _ _, b, ⟨rfl, rfl⟩, hx⟩
  rcases Bool.eq_false_or_eq_true (decide (n > 2000)) with hb | hb
  · repeat (first | with_reducible apply once_normal | with_reducible apply once_exit | with_reducible apply once_ret | with_reducible apply once_pan | with_reducible apply thenW_normal | with_reducible apply thenW_ret | with_reducible apply thenW_exit | with_reducible apply thenW_pan | with_reducible apply outOf_normal | with_reducible apply outOf_eq | (refine outOf_ne (by kernel_rfl) ?_) | with_reducible apply outOf_ret | with_reducible apply outOf_pan | with_reducible apply again_exit | with_reducible apply again_ret | with_reducible apply again_pan | with_reducible apply W_seq | with_reducible apply W_block | with_reducible apply W_scope | with_reducible apply W_skip | with_reducible apply W_ret | with_reducible apply W_exit | with_reducible apply W_label | ((with_reducible apply W_run); (focus kernel_rfl); (focus (simp only [beq_false, runOps, wanted, exec1, xPick, operand, get, putT, ret, retO, lit, lit1, patch, nth, CC_P, int_gtr, Bool.not_true, hb]; exact rfl))))
    exact fin _ _ _ (fun h => by cases h)
  · rcases Bool.eq_false_or_eq_true (decide ((f.s.l.length : Int) > 20)) with hb' | hb'
    · repeat (first | with_reducible apply once_normal | with_reducible apply once_exit | with_reducible apply once_ret | with_reducible apply once_pan | with_reducible apply thenW_normal | with_reducible apply thenW_ret | with_reducible apply thenW_exit | with_reducible apply thenW_pan | with_reducible apply outOf_normal | with_reducible apply outOf_eq | (refine outOf_ne (by kernel_rfl) ?_) | with_reducible apply outOf_ret | with_reducible apply outOf_pan | with_reducible apply again_exit | with_reducible apply again_ret | with_reducible apply again_pan | with_reducible apply W_seq | with_reducible apply W_block | with_reducible apply W_scope | with_reducible apply W_skip | with_reducible apply W_ret | with_reducible apply W_exit | with_reducible apply W_label | ((with_reducible apply W_run); (focus kernel_rfl); (focus (simp only [beq_false, Int.ofNat_eq_natCast, List.length_map, runOps, wanted, exec1, xPick, xCall, xBuiltin, xLen, operand, opds, get, putT, ret, retO, lit, lit1, patch, load, loadCells, cut, addOff, nth, lenOf, CC_P, int_gtr, beq_self_eq_true, Nat.zero_add, List.length_cons, List.length_nil, List.take, List.drop, Bool.not_true, if_true, Nat.reduceAdd, Nat.reduceLeDiff, hb, hb', und_28, agg_28, fa_30_2]; exact rfl))))
      exact fin _ _ _ (fun h => by cases h)
    · repeat (first | with_reducible apply once_normal | with_reducible apply once_exit | with_reducible apply once_ret | with_reducible apply once_pan | with_reducible apply thenW_normal | with_reducible apply thenW_ret | with_reducible apply thenW_exit | with_reducible apply thenW_pan | with_reducible apply outOf_normal | with_reducible apply outOf_eq | (refine outOf_ne (by kernel_rfl) ?_) | with_reducible apply outOf_ret | with_reducible apply outOf_pan | with_reducible apply again_exit | with_reducible apply again_ret | with_reducible apply again_pan | with_reducible apply W_seq | with_reducible apply W_block | with_reducible apply W_scope | with_reducible apply W_skip | with_reducible apply W_ret | with_reducible apply W_exit | with_reducible apply W_label | ((with_reducible apply W_run); (focus kernel_rfl); (focus (simp only [Int.ofNat_eq_natCast, List.length_map, runOps, wanted, exec1, xPick, xCall, xBuiltin, xLen, operand, opds, get, putT, ret, retO, lit, lit1, patch, load, loadCells, cut, addOff, nth, lenOf, CC_P, int_gtr, beq_self_eq_true, Nat.zero_add, List.length_cons, List.length_nil, List.take, List.drop, if_true, Nat.reduceAdd, Nat.reduceLeDiff, hb, hb', und_28, agg_28, fa_30_2, und_31]; exact rfl))))
      exact fin _ _ _ (fun h => by simp at h hb'; omega)
end Go.Ab
