/- Regions in their order, and the heap behind a patch. -/
import Derived.Test.YtchkgfmmfdineaaGreatAbExec1
namespace Go.Ab

/-! ### The heap behind a patch -/

/-- The same objects; where one has none, the other may have a dead one. -/
def Same (g g' : Look) : Prop := (∀ id o, g id = some o → g' id = some o) ∧ ∀ id, g id = none → g' id = none ∨ g' id = some .dead

theorem Same.refl (g : Look) : Same g g := ⟨fun _ _ h => h, fun _ h => .inl h⟩

theorem Same.cur {g g' : Look} (h : Same g g') (id : Nat) : Ab.cur g' id = Ab.cur g id := by
  unfold Ab.cur
  cases hg : g id with
  | some o => rw [h.1 id o hg]
  | none => rcases h.2 id hg with h1 | h1 <;> rw [h1]

theorem Same.dims {g g' : Look} (h : Same g g') (id : Nat) : Ab.dims g' id = Ab.dims g id := by
  unfold Ab.dims
  cases hg : g id with
  | some o => rw [h.1 id o hg]
  | none => rcases h.2 id hg with h1 | h1 <;> rw [h1]

theorem Same.ext {g g' : Look} (h : Same g g') (γ : G) : Ext γ g γ g' :=
  ⟨.refl _, fun id b hb hc => ⟨hb, by rw [h.cur]; exact hc⟩, fun id c hc => ⟨c, by rw [h.cur]; exact hc, Nat.le_refl _, fun _ => ⟨rfl, rfl, h.dims id⟩⟩⟩

theorem HR.same {γ : G} {g g' : Look} {w : World} (hr : HR γ g w) (h : Same g g') : HR γ g' w := by
  refine ⟨fun id b hb => ?_, hr.inj, hr.imm⟩
  obtain ⟨o, ho, hor⟩ := hr.obj id b hb
  exact ⟨o, h.1 id o ho, hor.mono (h.ext γ) rfl rfl (fun _ => rfl)⟩

theorem nth_put1 : ∀ (h : Heap) (n : Nat) (o : Obj) (i : Nat), nth (put1 h n o) i = if i = n then some o else match nth h i with
    | some x => some x
    | none => if i < n then some .dead else none
  | [], 0, o, i => by
    unfold put1
    cases i with
    | zero => simp [nth]
    | succ i => simp [nth]
  | [], n + 1, o, i => by
    unfold put1
    cases i with
    | zero => simp [nth]
    | succ i =>
      have := nth_put1 [] n o i
      simp only [nth] at this ⊢
      rw [this]
      simp
  | a :: h, 0, o, i => by
    unfold put1
    cases i with
    | zero => simp [nth]
    | succ i => simp only [nth]; simp; cases nth h i <;> rfl
  | a :: h, n + 1, o, i => by
    unfold put1
    cases i with
    | zero => simp [nth]
    | succ i =>
      have := nth_put1 h n o i
      simp only [nth] at this ⊢
      rw [this]
      simp

theorem patch_same : ∀ {p : Patch} {g : Look} {h : Heap}, Same g (nth h) → Same (upd g p) (nth (patch h p))
  | [], g, h, hs => hs
  | (id, o) :: p, g, h, hs => by
    unfold upd patch
    refine patch_same ⟨fun i x hx => ?_, fun i hx => ?_⟩
    · dsimp only at hx
      rw [nth_put1]
      cases hb : Nat.beq i id with
      | true => have := Nat.eq_of_beq_eq_true hb; rw [hb] at hx; simp only [this, if_true]; exact hx
      | false =>
        have := Nat.ne_of_beq_eq_false hb
        rw [hb] at hx
        simp only [this, if_false]
        rw [hs.1 i x hx]
    · dsimp only at hx
      rw [nth_put1]
      cases hb : Nat.beq i id with
      | true => rw [hb] at hx; cases hx
      | false =>
        have := Nat.ne_of_beq_eq_false hb
        rw [hb] at hx
        simp only [this, if_false]
        rcases hs.2 i hx with h1 | h1
        · rw [h1]; by_cases hlt : i < id <;> simp [hlt]
        · rw [h1]; simp

/-! ### The state -/

structure Inv (w0 : World) (k : Nat) (γ : G) (h : Heap) (T : Env) (a : Act) (w : World) : Prop where
  hr : HR γ (nth h) w
  base : Base w0 γ w
  er : ER γ (nth h) T a
  sz : k ≤ a.tmps.size
  nd : a.defers = []

theorem HR.free {γ : G} {h : Heap} {w : World} (hr : HR γ (nth h) w) {i : Nat} (hi : h.length ≤ i) : γ.β i = none ∧ nth h i = none := by
  have h1 : nth h i = none := by rw [nth_eq]; exact List.getElem?_eq_none hi
  refine ⟨?_, h1⟩
  cases hb : γ.β i with
  | none => rfl
  | some b => obtain ⟨o, ho, _⟩ := hr.obj i b hb; rw [h1] at ho; cases ho

theorem ER.put {γ : G} {g : Look} {T : Env} {a : Act} {dst : Option Tmp} {v : AV} {u : Value} (h : ER γ g T a) (hv : VR γ g v u) (hd : ∀ d, dst = some d → d < a.tmps.size) :
    ER γ g (putT T dst v) (a.put dst u) := by
  cases dst with
  | none => exact h
  | some d =>
    intro t
    have hlt := hd d rfl
    unfold putT
    simp only [get, Act.put]
    cases hb : Nat.beq d t with
    | true =>
      have := Nat.eq_of_beq_eq_true hb
      subst this
      simp only
      rw [Array.getD_eq_getD_getElem?, Array.getElem?_setIfInBounds_self_of_lt hlt]
      exact hv
    | false =>
      have := Nat.ne_of_beq_eq_false hb
      simp only
      rw [Array.getD_eq_getD_getElem?, Array.getElem?_setIfInBounds_ne this, ← Array.getD_eq_getD_getElem?]
      exact h t

theorem ER.mono {γ γ' : G} {g g' : Look} {T : Env} {a : Act} (e : Ext γ g γ' g') (h : ER γ g T a) : ER γ' g' T a := fun t => (h t).mono e

theorem put_size (a : Act) (dst : Option Tmp) (u : Value) : (a.put dst u).tmps.size = a.tmps.size := by
  cases dst <;> simp [Act.put]

theorem put_defers (a : Act) (dst : Option Tmp) (u : Value) : (a.put dst u).defers = a.defers := by
  cases dst <;> rfl

theorem wanted_ER {γ : G} {g : Look} {T : Env} {a : Act} {ops : Array Oper} {o : Oper} {b : Bool} (h : ER γ g T a) (hw : wanted ops.toList T o = some b) :
    Region.wanted o (yielded ops a.tmps) = b := by
  unfold wanted at hw
  unfold Region.wanted
  split at hw
  · rename_i hg; cases hw; rw [hg]
  · rename_i j want hg
    rw [hg]
    simp only
    rw [nth_eq] at hw
    split at hw
    · rename_i oj hoj
      have hoj' : ops[j]? = some oj := by simpa using hoj
      split at hw
      · rename_i d hd
        have hv := h d
        unfold yielded
        simp only [hoj', hd, Option.bind_some]
        split at hw
        · rename_i b' hgt
          rw [hgt] at hv
          rw [Array.getD_eq_getD_getElem?] at hv
          have : a.tmps[d]? = some (.bool b') := by
            cases hx : a.tmps[d]? with
            | none => rw [hx] at hv; cases hv with
              | t _ _ ht => exact nomatch ht
            | some x => rw [hx] at hv; cases hv with
              | t _ _ ht => cases ht; rfl
          rw [this]
          cases hw
          cases b' <;> cases want <;> rfl
        · rename_i hgt
          cases hw
          rw [hgt] at hv
          rw [Array.getD_eq_getD_getElem?] at hv
          cases hx : a.tmps[d]? with
          | none => rfl
          | some x =>
            rw [hx] at hv
            cases hv
            rfl
        · cases hw
      · cases hw
    · cases hw

theorem dstOK_cons {k : Nat} {o : Oper} {os : List Oper} (h : dstOK k (o :: os) = true) : (∀ d, o.dst = some d → d < k) ∧ dstOK k os = true := by
  unfold dstOK at h
  split at h
  · rename_i d hd
    split at h
    · rename_i hb
      refine ⟨fun d' hd' => ?_, h⟩
      rw [hd] at hd'; cases hd'
      rw [Nat.blt_eq] at hb; exact hb
    · cases h
  · rename_i hd
    exact ⟨fun d' hd' => (by rw [hd] at hd'; cases hd'), h⟩

theorem Inv.step {w0 : World} {k : Nat} {γ γ' : G} {h : Heap} {T : Env} {a : Act} {w w' : World} {o : Oper} {v : AV} {u : Value} {p : Patch} (hi : Inv w0 k γ h T a w)
    (e : Ext γ (nth h) γ' (upd (nth h) p)) (hh : HR γ' (upd (nth h) p) w') (f : Fr γ w γ' w') (hv : VR γ' (upd (nth h) p) v u) (hd : ∀ d, o.dst = some d → d < k) :
    Inv w0 k γ' (patch h p) (putT T o.dst v) (a.put o.dst u) w' ∧ Ext γ (nth h) γ' (nth (patch h p)) := by
  have hs := patch_same (p := p) (Same.refl (nth h))
  have e' := e.trans (hs.ext γ')
  refine ⟨⟨hh.same hs, hi.base.mono f, (hi.er.mono e').put (hv.mono (hs.ext γ')) fun d hd' => Nat.lt_of_lt_of_le (hd d hd') hi.sz, ?_, ?_⟩, e'⟩
  · rw [put_size]; exact hi.sz
  · rw [put_defers]; exact hi.nd

theorem Inv.skip {w0 : World} {k : Nat} {γ : G} {h : Heap} {T : Env} {a : Act} {w : World} {o : Oper} (hi : Inv w0 k γ h T a w) (hd : ∀ d, o.dst = some d → d < k) :
    Inv w0 k γ h (putT T o.dst .nov) (a.put o.dst undef) w :=
  ⟨hi.hr, hi.base, hi.er.put .nov fun d hd' => Nat.lt_of_lt_of_le (hd d hd') hi.sz, by rw [put_size]; exact hi.sz, by rw [put_defers]; exact hi.nd⟩

theorem sim_runOps {C : Cfg} {w0 : World} {ρ : Oracle} (hρ : OracleOK C.P w0 ρ) (hpr : PrimOK C w0) {ops : Array Oper} {k : Nat} {Q : Exit → Act → World → Prop} :
    ∀ (rest : List Oper) (i : Nat), ops.toList.drop i = rest → ∀ (T : Env) (h : Heap) (γ : G) (a : Act) (w : World) (r : Option AV) (T' : Env) (h' : Heap),
      runOps C ρ ops.toList rest T h = some (r, T', h') → Inv w0 k γ h T a w → dstOK k rest = true →
      (∀ γ' a' w', r = none → Inv w0 k γ' h' T' a' w' → Fr γ w γ' w' → Ext γ (nth h) γ' (nth h') → Q .normal a' w') →
      (∀ γ' a' w' v u, r = some v → Inv w0 k γ' h' T' a' w' → Fr γ w γ' w' → Ext γ (nth h) γ' (nth h') → VR γ' (nth h') v u → Q (.panic [{ v := u, recovered := false }]) a' w') →
      wpOps C.P ops Q (List.range' i rest.length) a w
  | [], i, hi, T, h, γ, a, w, r, T', h', hx, hinv, hd, hpost, _ => by
    simp only [runOps, Option.some.injEq, Prod.mk.injEq] at hx
    obtain ⟨rfl, rfl, rfl⟩ := hx
    simp only [List.length_nil, List.range'_zero, wpOps]
    exact hpost γ a w rfl hinv (.refl _ _) (.refl _ _)
  | o :: rest, i, hi, T, h, γ, a, w, r, T', h', hx, hinv, hd, hpost, hpan => by
    obtain ⟨hd1, hd2⟩ := dstOK_cons hd
    have hoi : ops[i]? = some o := by
      have : (ops.toList.drop i)[0]? = some o := by rw [hi]; rfl
      rw [List.getElem?_drop] at this
      simpa using this
    have hrest : ops.toList.drop (i + 1) = rest := by
      rw [← List.tail_drop, hi]; rfl
    simp only [List.length_cons, List.range'_succ, wpOps, hoi]
    unfold runOps at hx
    split at hx
    · cases hx
    · rename_i hw
      rw [wanted_ER hinv.er hw]
      simp only [Bool.false_eq_true, if_false]
      exact sim_runOps hρ hpr rest (i + 1) hrest _ h γ _ w r T' h' hx (hinv.skip hd1) hd2 hpost hpan
    · rename_i hw
      rw [wanted_ER hinv.er hw]
      simp only [if_true]
      refine .inl ?_
      split at hx
      · cases hx
      · rename_i v p he
        simp only [Option.some.injEq, Prod.mk.injEq] at hx
        obtain ⟨rfl, rfl, rfl⟩ := hx
        refine sim_exec1 hρ hpr hinv.hr hinv.base hinv.er he (fun i x hi _ => hinv.hr.free hi) fun u w' γ' e hh f hv => ?_
        have hs := patch_same (p := p) (Same.refl (nth h))
        have e' := e.trans (hs.ext γ')
        exact hpan γ' a w' v u rfl ⟨hh.same hs, hinv.base.mono f, hinv.er.mono e', hinv.sz, hinv.nd⟩ f e' (hv.mono (hs.ext γ'))
      · rename_i v p he
        refine sim_exec1 hρ hpr hinv.hr hinv.base hinv.er he (fun i x hi _ => hinv.hr.free hi) fun u w' γ' e hh f hv => ?_
        obtain ⟨hinv', e'⟩ := hinv.step (o := o) e hh f hv hd1
        refine sim_runOps hρ hpr rest (i + 1) hrest _ _ γ' _ w' r T' h' hx hinv' hd2 (fun γ'' a'' w'' h0 h1 h2 h3 => hpost γ'' a'' w'' h0 h1 (f.trans h2) (e'.trans h3))
          (fun γ'' a'' w'' v' u' h0 h1 h2 h3 h4 => hpan γ'' a'' w'' v' u' h0 h1 (f.trans h2) (e'.trans h3) h4)

end Go.Ab
