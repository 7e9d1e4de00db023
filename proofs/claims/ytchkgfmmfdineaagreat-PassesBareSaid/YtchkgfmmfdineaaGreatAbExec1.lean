/- Each operation of the evaluator is the model's. -/
import Derived.Test.YtchkgfmmfdineaaGreatAbStep
namespace Go.Ab

section
variable {C : Cfg} {γ : G} {g : Look} {w : World} {o : Oper} {a : Act} {next : Act → World → Prop} {Q : Exit → Act → World → Prop}

theorem ret_val {v v' : AV} {p : Patch} (h : ret v = some (.val v', p)) : v' = v ∧ p = [] := by
  unfold ret at h; cases h; exact ⟨rfl, rfl⟩

/-- What follows an operation. -/
def Goes (γ : G) (g : Look) (w : World) (o : Oper) (a : Act) (next : Act → World → Prop) (Q : Exit → Act → World → Prop) (out : Out) (p : Patch) : Prop :=
  ∀ u w' γ', Ext γ g γ' (upd g p) → HR γ' (upd g p) w' → Fr γ w γ' w' → match out with
    | .val v => VR γ' (upd g p) v u → next (a.put o.dst u) w'
    | .pan v => VR γ' (upd g p) v u → Q (.panic [{ v := u, recovered := false }]) a w'

theorem Goes.pure {v : AV} {u : Value} (h : HR γ g w) (hv : VR γ g v u) (hg : Goes γ g w o a next Q (.val v) []) : next (a.put o.dst u) w :=
  hg u w γ (.refl _ _) h (.refl _ _) hv

theorem sim_move {x : Operand} {T : Env} {out : Out} {p : Patch} (h : HR γ g w) (he : ER γ g T a) (hx : ret (operand T x) = some (out, p))
    (hg : Goes γ g w o a next Q out p) : next (a.put o.dst (a.eval x)) w := by
  unfold ret at hx
  cases hx
  exact hg.pure h (operand_VR he x)

theorem upon_call {f : FuncId} {args : Array Value} {out : Out} {p : Patch} (hb : hasBody C.P f = true) (hc : Calls C.P f args w (GoodE γ g w p out))
    (hg : Goes γ g w o a next Q out p) : o.upon C.P a next Q ((callFunc f args).run C.P w) := by
  rw [run_callFunc hb, Oper.upon_enter]
  refine Calls.mono hc fun e w' ⟨γ', h1, h2, h3, h4⟩ => ?_
  cases out with
  | val v =>
    cases e with
    | returned u => exact hg u w' γ' h1 h2 h3 h4
    | panicked c => exact False.elim h4
    | outgrown => exact False.elim h4
  | pan v =>
    cases e with
    | returned u => exact False.elim h4
    | panicked c => obtain ⟨u, rfl, hu⟩ := h4; exact hg u w' γ' h1 h2 h3 hu
    | outgrown => exact False.elim h4

theorem builtin_val {b : Builtin} {ts : Array TypeId} {type : TypeId} {cs : Array Bool} {args : Array Value} {s : Sem Value} {v : AV} {p : Patch}
    (hs : builtin b ts type cs args = (do pure (Next.value (← s)) : Sem Next)) (h : Good γ g w p v (s.run C.P w)) (hg : Goes γ g w o a next Q (.val v) p) :
    o.upon C.P a next Q ((builtin b ts type cs args).run C.P w) := by
  rw [hs]; exact upon_good h hg

theorem sim_xBuiltin {b : Builtin} {nid : Nat} {ts : Array TypeId} {type : TypeId} {cs : Array Bool} {xs : List AV} {us : List Value} {out : Out} {p : Patch} (h : HR γ g w)
    (hv : VRs γ g xs us) (hx : xBuiltin C.P g nid b ts.toList xs = some (out, p)) (hfree : (∃ x, (nid, x) ∈ p) → γ.β nid = none ∧ g nid = none)
    (hg : Goes γ g w o a next Q out p) : o.upon C.P a next Q ((builtin b ts type cs us.toArray).run C.P w) := by
  unfold xBuiltin at hx
  split at hx
  · rename_i t rest hts
    have hout : ∃ v, out = .val v := by
      unfold xLen at hx
      split at hx
      · split at hx
        · unfold ret at hx; cases hx; exact ⟨_, rfl⟩
        · unfold ret at hx; cases hx; exact ⟨_, rfl⟩
        · split at hx
          · unfold ret at hx; cases hx; exact ⟨_, rfl⟩
          · cases hx
        · cases hx
      · cases hx
    obtain ⟨v, rfl⟩ := hout
    have := sim_len (ty := type) (ts := rest) h hv hx
    have e : (t :: rest).toArray = ts := by rw [← hts]
    rw [e] at this
    exact builtin_val rfl this hg
  · rename_i t t' s x hts
    obtain ⟨us1, us', rfl, h1, h2⟩ := hv.cases_cons
    obtain ⟨us2, us'', rfl, h3, h4⟩ := h2.cases_cons
    have := h4.nil_inv
    subst this
    have hout : ∃ v, out = .val v := by
      unfold append at hx
      repeat' split at hx
      all_goals first | (cases hx; done) | (cases hx; exact ⟨_, rfl⟩) | (unfold ret at hx; cases hx; exact ⟨_, rfl⟩)
    obtain ⟨v, rfl⟩ := hout
    have := sim_append (ty := type) h (fun hh => (hfree hh).1) (fun hh => (hfree hh).2) h1 h3 hx
    have e : #[t, t'] = ts := by have : [t, t'].toArray = ts := by rw [← hts]
                                 exact this
    rw [e] at this
    exact builtin_val rfl this hg
  · rename_i x rest
    obtain ⟨u, us', rfl, h1, h2⟩ := hv.cases_cons
    cases out with
    | pan v => exact absurd hx retO_pan
    | val v =>
      obtain ⟨hm, rfl⟩ := retO_val hx
      exact builtin_val (s := us'.foldlM Builtin.max2 u) rfl (sim_maxmin false h h1 h2 hm) hg
  · rename_i x rest
    obtain ⟨u, us', rfl, h1, h2⟩ := hv.cases_cons
    cases out with
    | pan v => exact absurd hx retO_pan
    | val v =>
      obtain ⟨hm, rfl⟩ := retO_val hx
      exact builtin_val (s := us'.foldlM Builtin.min2 u) rfl (sim_maxmin true h h1 h2 hm) hg
  · cases hx

theorem sim_xCall {w0 : World} {ρ : Oracle} (hρ : OracleOK C.P w0 ρ) (hpr : PrimOK C w0) {nid : Nat} {T : Env} {c : Call} {out : Out} {p : Patch} (h : HR γ g w) (hb : Base w0 γ w)
    (he : ER γ g T a) (hx : xCall C ρ g nid T c = some (out, p)) (hfree : ∀ i x, nid ≤ i → (i, x) ∈ p → γ.β i = none ∧ g i = none)
    (hg : Goes γ g w o a next Q out p) (type : TypeId) : o.upon C.P a next Q ((do let d ← resolve a.eval c type; invoke d.target d.args : Sem Next).run C.P w) := by
  have hargs : c.args.map a.eval = (c.args.toList.map a.eval).toArray := by
    apply Array.ext'; rw [Array.toList_map]
  have hvs := opds_VRs he c.args.toList
  unfold xCall at hx
  unfold resolve
  split at hx
  · rename_i f hf
    have hfv := operand_VR he f
    simp only [hf]
    split at hx
    · rename_i f' hop
      rw [hop] at hfv
      have hfe : a.eval f = .func (.func f') #[] #[] := by
        generalize a.eval f = fv at hfv
        cases hfv with
        | t _ _ ht => cases ht; rfl
      rw [hfe]
      obtain ⟨hbody, hc⟩ := sim_callF hρ hpr h hb hvs hx hfree
      simp only [Deferred.ofValue, Sem.run_bind, Sem.run_pure, Result.andThen_ok, invoke, hargs]
      simpa using upon_call hbody hc hg
    · rename_i f' first captured hop
      rw [hop] at hfv
      generalize hfe : a.eval f = fv at hfv
      cases hfv with
      | fn _ _ _ us vs hl hl' h1 h2 =>
        have hfirst : VRs γ g first us := ⟨hl, h1⟩
        have hcap : VRs γ g captured vs := ⟨hl', h2⟩
        obtain ⟨hbody, hc⟩ := sim_callF hρ hpr h hb (hfirst.append (hvs.append hcap)) hx hfree
        simp only [Deferred.ofValue, Sem.run_bind, Sem.run_pure, Result.andThen_ok, invoke, hargs]
        have harr : us.toArray ++ (c.args.toList.map a.eval).toArray ++ vs.toArray = (us ++ (c.args.toList.map a.eval ++ vs)).toArray := by simp
        rw [harr]
        exact upon_call hbody hc hg
    · cases hx
  · rename_i b hbt
    simp only [hbt]
    simp only [Sem.run_bind, Sem.run_pure, Result.andThen_ok, invoke, hargs]
    exact sim_xBuiltin h hvs hx (fun ⟨x, hx⟩ => hfree nid x (Nat.le_refl _) hx) hg
  · cases hx

theorem Goes.val_of {out : Out} {p : Patch} {r : Res} (hx : r = some (out, p)) (hr : ∀ v q, r ≠ some (.pan v, q)) : ∃ v, out = .val v := by
  cases out with
  | val v => exact ⟨v, rfl⟩
  | pan v => exact absurd hx (hr v p)

theorem retO_nil {x : Option AV} {out : Out} {p : Patch} (h : retO x = some (out, p)) : ∃ v, out = .val v ∧ x = some v ∧ p = [] := by
  cases out with
  | pan v => exact absurd h retO_pan
  | val v => exact ⟨v, rfl, (retO_val h).1, (retO_val h).2⟩

theorem sim_exec1 {w0 : World} {ρ : Oracle} (hρ : OracleOK C.P w0 ρ) (hpr : PrimOK C w0) {nid : Nat} {T : Env} {out : Out} {p : Patch} (h : HR γ g w) (hb : Base w0 γ w)
    (he : ER γ g T a) (hx : exec1 C ρ g nid T o = some (out, p)) (hfree : ∀ i x, nid ≤ i → (i, x) ∈ p → γ.β i = none ∧ g i = none)
    (hg : Goes γ g w o a next Q out p) : o.wp C.P a w next Q := by
  have hnid : (∃ x, (nid, x) ∈ p) → γ.β nid = none ∧ g nid = none := fun ⟨x, hx⟩ => hfree nid x (Nat.le_refl _) hx
  unfold exec1 at hx
  unfold Oper.wp execOp
  split at hx
  · rename_i x hop
    simp only [hop, Sem.run_pure, Oper.upon_value]
    exact sim_move h he hx hg
  · rename_i x hop
    simp only [hop, Sem.run_pure, Oper.upon_value]
    exact sim_move h he hx hg
  · rename_i c x y hop
    simp only [hop]
    have hc := operand_VR he c
    unfold xPick at hx
    split at hx
    · rename_i hcb
      rw [hcb] at hc
      have : a.eval c = .bool true := by
        generalize a.eval c = cv at hc
        cases hc with
        | t _ _ ht => cases ht; rfl
      rw [this]
      exact sim_move h he hx hg
    · rename_i hcb
      rw [hcb] at hc
      have : a.eval c = .bool false := by
        generalize a.eval c = cv at hc
        cases hc with
        | t _ _ ht => cases ht; rfl
      rw [this]
      exact sim_move h he hx hg
    · cases hx
  · rename_i t hop
    simp only [hop]
    have hout : ∃ v, out = .val v ∧ ∃ x, (nid, x) ∈ p := by
      unfold xAlloc at hx
      split at hx
      · cases hx; exact ⟨_, rfl, _, .head _⟩
      · cases hx
    obtain ⟨v, rfl, hin⟩ := hout
    exact upon_good (sim_alloc h (hnid hin).1 (hnid hin).2 hx) hg
  · rename_i t x hop
    simp only [hop]
    have hout : ∃ v, out = .val v ∧ ∃ x, (nid, x) ∈ p := by
      unfold xBox at hx
      split at hx
      · cases hx; exact ⟨_, rfl, _, .head _⟩
      · cases hx
    obtain ⟨v, rfl, hin⟩ := hout
    exact upon_good (sim_box h (hnid hin).1 (hnid hin).2 (operand_VR he x) hx) hg
  · rename_i t parts hop
    simp only [hop]
    obtain ⟨v, rfl, hx2, rfl⟩ := retO_nil hx
    refine upon_good (sim_build h ?_ hx2) hg
    simpa using opdsI_VPs he parts.toList
  · rename_i t n parts hop
    simp only [hop]
    have hout : ∃ v, out = .val v ∧ ∃ x, (nid, x) ∈ p := by
      unfold xBuildSlice at hx
      repeat' split at hx
      all_goals first | (cases hx; done) | (cases hx; exact ⟨_, rfl, _, List.mem_append_right _ (.head _)⟩)
    obtain ⟨v, rfl, hin⟩ := hout
    refine upon_good (sim_buildSlice h (hnid hin).1 (hnid hin).2 ?_ hx) hg
    simpa using opdsI_VPs he parts.toList
  · rename_i t x hop
    simp only [hop]
    obtain ⟨v, rfl, hx2, rfl⟩ := retO_nil hx
    exact upon_good (sim_load h (operand_VR he x) hx2) hg
  · rename_i t x y hop
    simp only [hop]
    have hout : ∃ v, out = .val v := by
      unfold xStore at hx
      split at hx
      · dsimp only at hx
        split at hx
        · split at hx
          · split at hx
            · cases hx; exact ⟨_, rfl⟩
            · cases hx
          · cases hx
        · cases hx
      · cases hx
    obtain ⟨v, rfl⟩ := hout
    obtain ⟨rfl, hgu⟩ := sim_store h (operand_VR he x) (operand_VR he y) hx
    exact upon_goodU hgu hg
  · rename_i x hop
    simp only [hop]
    obtain ⟨v, rfl, hx2, rfl⟩ := retO_nil hx
    have hxv := operand_VR he x
    generalize a.eval x = u at hxv ⊢
    obtain ⟨rfl, hr⟩ := sim_nilcheck (P := C.P) (w := w) hxv hx2
    have hgo : o.upon C.P a next Q (.ok (.value u) w) := by rw [Oper.upon_value]; exact hg.pure h hxv
    rw [← hr] at hgo
    exact hgo
  · rename_i op t x y ty hop
    simp only [hop]
    obtain ⟨v, rfl, hx2, rfl⟩ := retO_nil hx
    exact upon_good (sim_binop x y h (operand_VR he x) (operand_VR he y) hx2) hg
  · rename_i op t x hop
    simp only [hop]
    obtain ⟨v, rfl, hx2, rfl⟩ := retO_nil hx
    exact upon_good (sim_unop h (operand_VR he x) hx2) hg
  · rename_i s d x hop
    simp only [hop]
    have hout : ∃ v, out = .val v := by
      unfold convert at hx
      repeat' split at hx
      all_goals first | (cases hx; done) | (cases hx; exact ⟨_, rfl⟩) | (unfold ret at hx; cases hx; exact ⟨_, rfl⟩)
    obtain ⟨v, rfl⟩ := hout
    exact upon_good (sim_convert h (fun hh => (hnid hh).1) (fun hh => (hnid hh).2) (operand_VR he x) hx) hg
  · rename_i f first captured hop
    simp only [hop]
    unfold ret at hx
    cases hx
    have h1 := opds_VRs he first.toList
    have h2 := opds_VRs he captured.toList
    have : VR γ g (.fn f (opds T first.toList) (opds T captured.toList)) (.func (.func f) (first.map a.eval) (captured.map a.eval)) := by
      have e1 : first.map a.eval = (first.toList.map a.eval).toArray := by apply Array.ext'; rw [Array.toList_map]
      have e2 : captured.map a.eval = (captured.toList.map a.eval).toArray := by apply Array.ext'; rw [Array.toList_map]
      rw [e1, e2]
      exact .fn f _ _ _ _ h1.1 h2.1 h1.2 h2.2
    refine upon_good (s := Instr.makeFunc (.func f) (first.map a.eval) (captured.map a.eval)) (v := .fn f (opds T first.toList) (opds T captured.toList)) ?_ hg
    exact .pure h this
  · rename_i t l c hop
    simp only [hop]
    have hout : ∃ v, out = .val v ∧ ∃ x, (nid, x) ∈ p := by
      unfold xMakeSlice at hx
      repeat' split at hx
      all_goals first | (cases hx; done) | (cases hx; exact ⟨_, rfl, _, .head _⟩)
    obtain ⟨v, rfl, hin⟩ := hout
    exact upon_good (sim_makeSlice h (hnid hin).1 (hnid hin).2 (operand_VR he l) (operand_VR he c) hx) hg
  · rename_i t x lo hi mx hop
    simp only [hop]
    unfold xSlice at hx
    split at hx
    · rename_i lo' hi' mx' h1 h2 h3
      obtain ⟨v, rfl, hx2, rfl⟩ := retO_nil hx
      exact upon_good (sim_slice h (operand_VR he x) (bound_BO he h1) (bound_BO he h2) (bound_BO he h3) hx2) hg
    · cases hx
  · rename_i s x f hop
    simp only [hop]
    have hout : ∃ v, out = .val v := by
      unfold xFieldAddr at hx
      repeat' split at hx
      all_goals first | (cases hx; done) | (obtain ⟨v, h1, _⟩ := retO_nil hx; exact ⟨v, h1⟩)
    obtain ⟨v, rfl⟩ := hout
    exact upon_good (sim_fieldAddr h (operand_VR he x) hx) hg
  · rename_i s x f hop
    simp only [hop]
    have hout : ∃ v, out = .val v := by
      unfold xField at hx
      repeat' split at hx
      all_goals first | (cases hx; done) | (obtain ⟨v, h1, _⟩ := retO_nil hx; exact ⟨v, h1⟩)
    obtain ⟨v, rfl⟩ := hout
    exact upon_good (sim_field h (operand_VR he x) hx) hg
  · rename_i t x i hop
    simp only [hop]
    have hout : ∃ v, out = .val v := by
      unfold xIndexAddr at hx
      repeat' split at hx
      all_goals first | (cases hx; done) | (obtain ⟨v, h1, _⟩ := retO_nil hx; exact ⟨v, h1⟩)
    obtain ⟨v, rfl⟩ := hout
    exact upon_good (sim_indexAddr h (operand_VR he x) (operand_VR he i) hx) hg
  · rename_i t x i hop
    simp only [hop]
    have hout : ∃ v, out = .val v := by
      unfold xIndex at hx
      repeat' split at hx
      all_goals first | (cases hx; done) | (obtain ⟨v, h1, _⟩ := retO_nil hx; exact ⟨v, h1⟩)
    obtain ⟨v, rfl⟩ := hout
    exact upon_good (sim_index h (operand_VR he x) (operand_VR he i) hx) hg
  · rename_i t x hop
    simp only [hop]
    have hout : ∃ v, out = .val v ∧ ∃ x, (nid, x) ∈ p := by
      unfold xRange at hx
      repeat' split at hx
      all_goals first | (cases hx; done) | (cases hx; exact ⟨_, rfl, _, .head _⟩)
    obtain ⟨v, rfl, hin⟩ := hout
    exact upon_good (sim_range h (hnid hin).1 (hnid hin).2 (operand_VR he x) hx) hg
  · rename_i it hop
    simp only [hop]
    have hout : ∃ v, out = .val v := by
      unfold xNext at hx
      repeat' split at hx
      all_goals first | (cases hx; done) | (cases hx; exact ⟨_, rfl⟩) | (unfold ret at hx; cases hx; exact ⟨_, rfl⟩)
    obtain ⟨v, rfl⟩ := hout
    exact upon_good (sim_next h (operand_VR he it) hx) hg
  · rename_i t i hop
    simp only [hop]
    have hout : ∃ v, out = .val v := by
      unfold xExtract at hx
      repeat' split at hx
      all_goals first | (cases hx; done) | (obtain ⟨v, h1, _⟩ := retO_nil hx; exact ⟨v, h1⟩)
    obtain ⟨v, rfl⟩ := hout
    exact upon_good (sim_extract h (operand_VR he t) hx) hg
  · rename_i c hop
    simp only [hop]
    exact sim_xCall hρ hpr h hb he hx hfree hg o.type
  · cases hx

end
end Go.Ab
