/- How the evaluator's values and heap stand to the model's: the relations, and that they last as memory goes on. -/
import Derived.Test.YtchkgfmmfdineaaGreatAbEval
import Derived.Laws.World
import Derived.Laws.Sem
namespace Go.Ab

/-! ### Lists -/

theorem nth_eq {α : Type} : ∀ (l : List α) (n : Nat), nth l n = l[n]?
  | [], n => by simp [nth]
  | a :: l, 0 => by simp [nth]
  | a :: l, n + 1 => by simp [nth, nth_eq l n]

theorem setN_eq {α : Type} : ∀ (l : List α) (n : Nat) (x : α), setN l n x = l.set n x
  | [], n, x => by simp [setN]
  | a :: l, 0, x => by simp [setN]
  | a :: l, n + 1, x => by simp [setN, setN_eq l n]

theorem cut_some {α : Type} {l : List α} {lo n : Nat} {r : List α} (h : cut l lo n = some r) :
    lo + n ≤ l.length ∧ r = (l.drop lo).take n := by
  unfold cut at h
  split at h
  · exact ⟨by assumption, by simpa using h.symm⟩
  · cases h

theorem cut_length {α : Type} {l : List α} {lo n : Nat} {r : List α} (h : cut l lo n = some r) : r.length = n := by
  obtain ⟨h1, rfl⟩ := cut_some h
  simp; omega

theorem cut_get {α : Type} {l : List α} {lo n : Nat} {r : List α} (h : cut l lo n = some r) {i : Nat} (hi : i < n) : r[i]? = l[lo + i]? := by
  obtain ⟨h1, rfl⟩ := cut_some h
  rw [List.getElem?_take_of_lt hi, List.getElem?_drop]

theorem beqL_eq : ∀ (x y : List Nat), beqL x y = decide (x = y)
  | [], [] => by simp [beqL]
  | [], _ :: _ => by simp [beqL]
  | _ :: _, [] => by simp [beqL]
  | a :: x, b :: y => by
    have ih := beqL_eq x y
    unfold beqL
    cases h : Nat.beq a b with
    | true => have : a = b := Nat.eq_of_beq_eq_true h; simp [ih, this]
    | false => have : a ≠ b := Nat.ne_of_beq_eq_false h; simp [this]

/-! ### Trees and the model's values -/

abbrev Imm := Nat → Nat → Option Value

inductive TR (I : Imm) : Tree → Value → Prop
  | bool (b : Bool) : TR I (.bool b) (.bool b)
  | int (k : IntKind) (n : Int) : TR I (.int k n) (.int k n)
  | str (s : List Nat) (h : ∀ b ∈ s, b < 256) : TR I (.str s) (.string ⟨(s.map UInt8.ofNat).toArray⟩)
  | sl (nl clip : Bool) (es : List (List Tree)) (a : Option Addr) (cap s : Nat) (val : Nat → Nat → Value)
      (h0 : nl = true → a = none ∧ es = [] ∧ cap = 0)
      (h1 : nl = false → a ≠ none ∧ ∃ b o, (es ≠ [] → a = some ⟨b, o, none⟩) ∧ ∀ (i j : Nat) e c, es[i]? = some e → e[j]? = some c → I b (o + i * s + j) = some (val i j))
      (h2 : ∀ e ∈ es, e.length = s)
      (h3 : ∀ (i j : Nat) e c, es[i]? = some e → e[j]? = some c → TR I c (val i j))
      (h4 : es.length ≤ cap) (h5 : clip = true → cap = es.length)
      (h6 : ∀ (i j : Nat) e c, es[i]? = some e → e[j]? = some c → (val i j).oneCell' = true) : TR I (.sl nl clip es) (.slice a es.length cap)
  | agg (cs : List Tree) (vs : List Value) (hl : cs.length = vs.length)
      (h : ∀ (i : Nat) c v, cs[i]? = some c → vs[i]? = some v → TR I c v) : TR I (.agg cs) (.agg vs.toArray)
  | ifc (t : TypeId) (x : Tree) (v : Value) (h : TR I x v) : TR I (.ifc t x) (.iface t v)
  | nilifc : TR I .nilifc .nilIface
  | fn (f : FuncId) : TR I (.fn f) (.func (.func f) #[] #[])
  | nilfn : TR I .nilfn .nilFunc
  | nilptr : TR I .nilptr (.pointer none)
  | nilmap : TR I .nilmap (.map none)

def ImmLe (I J : Imm) : Prop := ∀ b o v, I b o = some v → J b o = some v

theorem ImmLe.refl (I : Imm) : ImmLe I I := fun _ _ _ h => h
theorem ImmLe.trans {I J K : Imm} (h : ImmLe I J) (h' : ImmLe J K) : ImmLe I K := fun b o v x => h' b o v (h b o v x)

theorem TR.mono {I J : Imm} (hij : ImmLe I J) {x : Tree} {v : Value} (h : TR I x v) : TR J x v := by
  induction h with
  | bool b => exact .bool b
  | int k n => exact .int k n
  | str s hs => exact .str s hs
  | sl nl clip es a cap s val h0 h1 h2 h3 h4 h5 h6 ih =>
    exact .sl nl clip es a cap s val h0 (fun hn => let ⟨hne, b, o, ha, hc⟩ := h1 hn; ⟨hne, b, o, ha, fun i j e c he hc' => hij _ _ _ (hc i j e c he hc')⟩) h2 ih h4 h5 h6
  | agg cs vs hl h ih => exact .agg cs vs hl ih
  | ifc t x v h ih => exact .ifc t x v ih
  | nilifc => exact .nilifc
  | fn f => exact .fn f
  | nilfn => exact .nilfn
  | nilptr => exact .nilptr
  | nilmap => exact .nilmap

/-! ### The evaluator's values -/

/-- Where the evaluator's objects lie, how many cells there are, and what nothing writes to. -/
structure G where
  β : Nat → Option Nat
  sz : Nat → Nat
  imm : Imm

/-- A slice's version. -/
def cur (g : Look) (id : Nat) : Option Nat :=
  match g id with
  | some (.arr _ ver _ _) => some ver
  | some (.marr _ ver _) => some ver
  | _ => none

/-- A slice's cells an element, and its length. -/
def dims (g : Look) (id : Nat) : Option (Nat × Nat) :=
  match g id with
  | some (.arr s _ _ es) => some (s, es.length)
  | some (.marr s _ es) => some (s, es.length)
  | _ => none

theorem fresh_iff {g : Look} {id ver : Nat} : fresh g id ver = true ↔ cur g id = some ver := by
  unfold fresh cur
  split <;> simp_all
  · exact eq_comm
  · exact eq_comm

/-- A version that is there, or was. -/
def Old (g : Look) (id ver : Nat) : Prop := ∃ c, cur g id = some c ∧ ver ≤ c

inductive VR (γ : G) (g : Look) : AV → Value → Prop
  | t (x : Tree) (v : Value) (h : TR γ.imm x v) : VR γ g (.t x) v
  | nov : VR γ g .nov undef
  | unk (v : Value) : VR γ g .unk v
  | box (id off b : Nat) (h : γ.β id = some b) (hc : cur g id = none) : VR γ g (.box id off) (.pointer (some ⟨b, off, none⟩))
  | el (id ver i off : Nat) (a : Addr) (ho : Old g id ver)
      (h : cur g id = some ver → ∃ b s n, γ.β id = some b ∧ dims g id = some (s, n) ∧ a = ⟨b, i * s + off, none⟩) : VR γ g (.el id ver i off) (.pointer (some a))
  | rp (cs : List Tree) (b o : Nat) (val : Nat → Value) (h : ∀ (j : Nat) c, cs[j]? = some c → γ.imm b (o + j) = some (val j))
      (h' : ∀ (j : Nat) c, cs[j]? = some c → TR γ.imm c (val j)) : VR γ g (.rp cs) (.pointer (some ⟨b, o, none⟩))
  | hs (id ver : Nat) (a : Addr) (n cap : Nat) (ho : Old g id ver)
      (h : cur g id = some ver → ∃ b s, γ.β id = some b ∧ dims g id = some (s, n) ∧ a = ⟨b, 0, none⟩ ∧ n ≤ cap ∧ cap * s ≤ γ.sz id) : VR γ g (.hs id ver) (.slice (some a) n cap)
  | hsub (id ver lo len : Nat) (a : Addr) (cap : Nat) (ho : Old g id ver)
      (h : cur g id = some ver → ∃ b s n, γ.β id = some b ∧ dims g id = some (s, n) ∧ len ≤ cap ∧ lo + len ≤ n ∧ (len ≠ 0 → a = ⟨b, lo * s, none⟩)) : VR γ g (.hsub id ver lo len) (.slice (some a) len cap)
  | agg (cs : List AV) (vs : List Value) (hl : cs.length = vs.length)
      (h : ∀ (i : Nat) c v, cs[i]? = some c → vs[i]? = some v → VR γ g c v) : VR γ g (.agg cs) (.agg vs.toArray)
  | fn (f : FuncId) (as bs : List AV) (us vs : List Value) (hl : as.length = us.length) (hl' : bs.length = vs.length)
      (h : ∀ (i : Nat) c v, as[i]? = some c → us[i]? = some v → VR γ g c v)
      (h' : ∀ (i : Nat) c v, bs[i]? = some c → vs[i]? = some v → VR γ g c v) : VR γ g (.fn f as bs) (.func (.func f) us.toArray vs.toArray)
  | tup (cs : List AV) (vs : List Value) (hl : cs.length = vs.length)
      (h : ∀ (i : Nat) c v, cs[i]? = some c → vs[i]? = some v → VR γ g c v) : VR γ g (.tup cs) (.tuple vs.toArray)

/-- Lists of values, one by one. -/
def VRs (γ : G) (g : Look) (xs : List AV) (vs : List Value) : Prop :=
  xs.length = vs.length ∧ ∀ (i : Nat) x v, xs[i]? = some x → vs[i]? = some v → VR γ g x v

theorem VRs.nil {γ : G} {g : Look} : VRs γ g [] [] := ⟨rfl, fun _ _ _ h => by simp at h⟩
theorem VRs.cons {γ : G} {g : Look} {x : AV} {v : Value} {xs : List AV} {vs : List Value} (h : VR γ g x v) (hs : VRs γ g xs vs) : VRs γ g (x :: xs) (v :: vs) := by
  refine ⟨by simp [hs.1], fun i y u hy hu => ?_⟩
  cases i with
  | zero => simp at hy hu; subst hy; subst hu; exact h
  | succ i => exact hs.2 i y u (by simpa using hy) (by simpa using hu)
theorem VRs.head {γ : G} {g : Look} {x : AV} {v : Value} {xs : List AV} {vs : List Value} (h : VRs γ g (x :: xs) (v :: vs)) : VR γ g x v := h.2 0 x v rfl rfl
theorem VRs.tail {γ : G} {g : Look} {x : AV} {v : Value} {xs : List AV} {vs : List Value} (h : VRs γ g (x :: xs) (v :: vs)) : VRs γ g xs vs :=
  ⟨by simpa using h.1, fun i y u hy hu => h.2 (i + 1) y u (by simpa using hy) (by simpa using hu)⟩
theorem VRs.cases_cons {γ : G} {g : Look} {x : AV} {xs : List AV} {vs : List Value} (h : VRs γ g (x :: xs) vs) : ∃ v vs', vs = v :: vs' ∧ VR γ g x v ∧ VRs γ g xs vs' := by
  cases vs with
  | nil => simp [VRs] at h
  | cons v vs' => exact ⟨v, vs', rfl, h.head, h.tail⟩
theorem VRs.nil_inv {γ : G} {g : Look} {vs : List Value} (h : VRs γ g [] vs) : vs = [] := by
  exact List.eq_nil_of_length_eq_zero h.1.symm
theorem VRs.append {γ : G} {g : Look} {xs ys : List AV} {vs us : List Value} (h : VRs γ g xs vs) (h' : VRs γ g ys us) : VRs γ g (xs ++ ys) (vs ++ us) := by
  induction xs generalizing vs with
  | nil => rw [h.nil_inv]; exact h'
  | cons x xs ih => obtain ⟨v, vs', rfl, hx, hxs⟩ := h.cases_cons; exact .cons hx (ih hxs)

/-! ### It lasts -/

/-- What may become of the evaluator's memory and of where it lies: what a value says stays true. -/
structure Ext (γ : G) (g : Look) (γ' : G) (g' : Look) : Prop where
  imm : ImmLe γ.imm γ'.imm
  box : ∀ id b, γ.β id = some b → cur g id = none → γ'.β id = some b ∧ cur g' id = none
  arr : ∀ id c, cur g id = some c → ∃ c', cur g' id = some c' ∧ c ≤ c' ∧ (c' = c → γ'.β id = γ.β id ∧ γ'.sz id = γ.sz id ∧ dims g' id = dims g id)

theorem Ext.refl (γ : G) (g : Look) : Ext γ g γ g := ⟨.refl _, fun _ _ h h' => ⟨h, h'⟩, fun _ c h => ⟨c, h, Nat.le_refl _, fun _ => ⟨rfl, rfl, rfl⟩⟩⟩

theorem Ext.trans {γ₁ γ₂ γ₃ : G} {g₁ g₂ g₃ : Look} (h : Ext γ₁ g₁ γ₂ g₂) (h' : Ext γ₂ g₂ γ₃ g₃) : Ext γ₁ g₁ γ₃ g₃ := by
  refine ⟨h.imm.trans h'.imm, fun id b hb hc => ?_, fun id c hc => ?_⟩
  · obtain ⟨h1, h2⟩ := h.box id b hb hc
    exact h'.box id b h1 h2
  · obtain ⟨c₂, h1, h2, h3⟩ := h.arr id c hc
    obtain ⟨c₃, h4, h5, h6⟩ := h'.arr id c₂ h1
    refine ⟨c₃, h4, by omega, fun he => ?_⟩
    obtain ⟨a1, a2, a3⟩ := h6 (by omega)
    obtain ⟨b1, b2, b3⟩ := h3 (by omega)
    exact ⟨a1.trans b1, a2.trans b2, a3.trans b3⟩

theorem Old.mono {γ γ' : G} {g g' : Look} (e : Ext γ g γ' g') {id ver : Nat} (h : Old g id ver) : Old g' id ver := by
  obtain ⟨c, hc, hv⟩ := h
  obtain ⟨c', h1, h2, _⟩ := e.arr id c hc
  exact ⟨c', h1, by omega⟩

/-- What is said of the slice as it is now was said of it before. -/
theorem Ext.back {γ γ' : G} {g g' : Look} (e : Ext γ g γ' g') {id ver : Nat} (ho : Old g id ver) (h : cur g' id = some ver) :
    cur g id = some ver ∧ γ'.β id = γ.β id ∧ γ'.sz id = γ.sz id ∧ dims g' id = dims g id := by
  obtain ⟨c, hc, hv⟩ := ho
  obtain ⟨c', h1, h2, h3⟩ := e.arr id c hc
  rw [h1] at h; cases h
  have : c = ver := by omega
  subst this
  exact ⟨hc, h3 rfl⟩

theorem VR.mono {γ γ' : G} {g g' : Look} (e : Ext γ g γ' g') {x : AV} {v : Value} (h : VR γ g x v) : VR γ' g' x v := by
  induction h with
  | t x v h => exact .t x v (h.mono e.imm)
  | nov => exact .nov
  | unk v => exact .unk v
  | box id off b h hc => obtain ⟨h1, h2⟩ := e.box id b h hc; exact .box id off b h1 h2
  | el id ver i off a ho h =>
    refine .el id ver i off a (ho.mono e) fun hc => ?_
    obtain ⟨h1, h2, h3, h4⟩ := e.back ho hc
    obtain ⟨b, s, n, a1, a2, a3⟩ := h h1
    exact ⟨b, s, n, h2.trans a1, h4.trans a2, a3⟩
  | rp cs b o val h h' => exact .rp cs b o val (fun j c hc => e.imm _ _ _ (h j c hc)) (fun j c hc => (h' j c hc).mono e.imm)
  | hs id ver a n cap ho h =>
    refine .hs id ver a n cap (ho.mono e) fun hc => ?_
    obtain ⟨h1, h2, h3, h4⟩ := e.back ho hc
    obtain ⟨b, s, a1, a2, a3, a4, a5⟩ := h h1
    exact ⟨b, s, h2.trans a1, h4.trans a2, a3, a4, by rw [h3]; exact a5⟩
  | hsub id ver lo len a cap ho h =>
    refine .hsub id ver lo len a cap (ho.mono e) fun hc => ?_
    obtain ⟨h1, h2, h3, h4⟩ := e.back ho hc
    obtain ⟨b, s, n, a1, a2, a3, a4, a5⟩ := h h1
    exact ⟨b, s, n, h2.trans a1, h4.trans a2, a3, a4, a5⟩
  | agg cs vs hl h ih => exact .agg cs vs hl ih
  | fn f as bs us vs hl hl' h h' ih ih' => exact .fn f as bs us vs hl hl' ih ih'
  | tup cs vs hl h ih => exact .tup cs vs hl ih

theorem VRs.mono {γ γ' : G} {g g' : Look} (e : Ext γ g γ' g') {xs : List AV} {vs : List Value} (h : VRs γ g xs vs) : VRs γ' g' xs vs :=
  ⟨h.1, fun i x v hx hv => (h.2 i x v hx hv).mono e⟩

/-! ### Objects -/

def unfrozen (fr : Nat × Nat) (n : Nat) : Prop := ∀ i, i < n → ¬ (fr.1 ≤ i ∧ i < fr.2)

/-- An object, and the block in which it lies. -/
def OR (γ : G) (g : Look) (w : World) (id b : Nat) : Obj → Prop
  | .box cs => (∃ c ty fr, w.heap[b]? = some (.cells c ty fr) ∧ unfrozen fr c.size ∧ VRs γ g cs c.toList) ∧ ∀ o, γ.imm b o = none
  | .arr s _ frz es => (∃ c ty fr, w.heap[b]? = some (.cells c ty fr) ∧ unfrozen fr c.size ∧ c.size = γ.sz id ∧ es.length * s ≤ c.size ∧ (∀ e ∈ es, e.length = s) ∧
      (∀ (i j : Nat) e t v, es[i]? = some e → e[j]? = some t → c[i * s + j]? = some v → TR γ.imm t v ∧ v.oneCell' = true) ∧
      (frz = true → ∀ (i j : Nat) e t, es[i]? = some e → e[j]? = some t → γ.imm b (i * s + j) = c[i * s + j]?)) ∧ (frz = false → ∀ o, γ.imm b o = none)
  | .marr s _ es => (∃ c ty fr, w.heap[b]? = some (.cells c ty fr) ∧ unfrozen fr c.size ∧ c.size = γ.sz id ∧ es.length * s ≤ c.size ∧ (∀ e ∈ es, e.length = s) ∧
      (∀ (i j : Nat) e t v, es[i]? = some e → e[j]? = some t → c[i * s + j]? = some v → VR γ g t v)) ∧ ∀ o, γ.imm b o = none
  | .siter s pos => w.heap[b]? = some (.stringIter ⟨(s.map UInt8.ofNat).toArray⟩ pos) ∧ ∀ o, γ.imm b o = none
  | .dead => False

structure HR (γ : G) (g : Look) (w : World) : Prop where
  obj : ∀ id b, γ.β id = some b → ∃ o, g id = some o ∧ OR γ g w id b o
  inj : ∀ id id' b, γ.β id = some b → γ.β id' = some b → id = id'
  imm : ∀ b o v, γ.imm b o = some v → w.cell? ⟨b, o, none⟩ = some v

theorem OR.lt {γ : G} {g : Look} {w : World} {id b : Nat} {o : Obj} (h : OR γ g w id b o) : b < w.heap.size := by
  have key : ∀ x, w.heap[b]? = some x → b < w.heap.size := fun x hx => by
    rcases Nat.lt_or_ge b w.heap.size with h | h
    · exact h
    · simp [Array.getElem?_eq_none h] at hx
  cases o with
  | box cs => obtain ⟨⟨c, ty, fr, hb, _⟩, _⟩ := h; exact key _ hb
  | arr s ver frz es => obtain ⟨⟨c, ty, fr, hb, _⟩, _⟩ := h; exact key _ hb
  | marr s ver es => obtain ⟨⟨c, ty, fr, hb, _⟩, _⟩ := h; exact key _ hb
  | siter s pos => exact key _ h.1
  | dead => exact h.elim

theorem HR.lt {γ : G} {g : Look} {w : World} (h : HR γ g w) {id b : Nat} (hb : γ.β id = some b) : b < w.heap.size := by
  obtain ⟨o, _, ho⟩ := h.obj id b hb; exact ho.lt

end Go.Ab
