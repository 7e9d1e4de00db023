/- A step of the evaluator does what the model's operation does: calls too. -/
import Derived.Test.YtchkgfmmfdineaaGreatAbCall
namespace Go.Ab

/-! ### Values that hang on no memory -/

theorem plainT_TR {I J : Imm} {x : Tree} {v : Value} (hp : plainT x = true) (h : TR I x v) : TR J x v := by
  have atom : ∀ {c : Tree} {v : Value}, (match c with
      | .sl _ _ _ | .agg _ | .ifc _ _ => false
      | _ => true) = true → TR I c v → TR J c v := by
    intro c v hc hv
    cases hv with
    | bool b => exact .bool b
    | int k n => exact .int k n
    | str s hs => exact .str s hs
    | sl => cases hc
    | agg => cases hc
    | ifc => cases hc
    | nilifc => exact .nilifc
    | fn f => exact .fn f
    | nilfn => exact .nilfn
    | nilptr => exact .nilptr
    | nilmap => exact .nilmap
  cases h with
  | bool b => exact .bool b
  | int k n => exact .int k n
  | str s hs => exact .str s hs
  | sl => cases hp
  | agg cs vs hl h =>
    refine .agg cs vs hl fun i c v hc hv => atom ?_ (h i c v hc hv)
    simp only [plainT, List.all_eq_true] at hp
    exact hp c (List.mem_of_getElem? hc)
  | ifc t x v h => exact .ifc t x v (atom hp h)
  | nilifc => exact .nilifc
  | fn f => exact .fn f
  | nilfn => exact .nilfn
  | nilptr => exact .nilptr
  | nilmap => exact .nilmap

theorem plain_VR {γ γ' : G} {g g' : Look} {v : AV} {u : Value} (hp : plain v = true) (h : VR γ g v u) : VR γ' g' v u := by
  cases h with
  | t x v h => exact .t x u (plainT_TR hp h)
  | nov => exact .nov
  | tup cs vs hl h =>
    refine .tup cs vs hl fun i c v hc hv => ?_
    simp only [plain, List.all_eq_true] at hp
    have hpc := hp c (List.mem_of_getElem? hc)
    have hcv := h i c v hc hv
    cases hcv with
    | t x v h => exact .t x _ (plainT_TR hpc h)
    | nov => exact .nov
    | _ => cases hpc
  | _ => cases hp

/-! ### A call within its caller -/

/-- What a call has come to, in the caller's heap. -/
def GoodE (γ : G) (g : Look) (w : World) (p : Patch) (out : Out) (e : Ending) (w' : World) : Prop :=
  ∃ γ', Ext γ g γ' (upd g p) ∧ HR γ' (upd g p) w' ∧ Fr γ w γ' w' ∧ Ends γ' (upd g p) out e

theorem HR.of_keep {γ : G} {g : Look} {w w' : World} (h : HR γ g w) (hk : ∀ b, b < w.heap.size → w'.heap[b]? = w.heap[b]?) : HR γ g w' := by
  refine ⟨fun id b hb => ?_, h.inj, fun b o v hv => ?_⟩
  · obtain ⟨o, ho, hor⟩ := h.obj id b hb
    exact ⟨o, ho, hor.mono (.refl _ _) (hk b hor.lt) rfl (fun _ => rfl)⟩
  · have hc := h.imm b o v hv
    rw [cell_of_heap (hk b (lt_of_cell hc))]; exact hc

theorem sim_callIn {P : Program} {w0 : World} {ρ : Oracle} (hρ : OracleOK P w0 ρ) {γ γ1 : G} {g : Look} {w : World} {frz : Patch} {nid : Nat} {f : FuncId} {args : List AV} {vs : List Value}
    {out : Out} {p : Patch} (hr : HR γ g w) (hb : Base w0 γ1 w) (e1 : Ext γ g γ1 (upd g frz)) (hr1 : HR γ1 (upd g frz) w) (f1 : Fr γ w γ1 w) (hv : VRs γ1 (upd g frz) args vs)
    (hx : callIn ρ (upd g frz) frz nid f args = some (out, p)) (hfree : ∀ i o, nid ≤ i → (i, o) ∈ p → γ1.β i = none ∧ upd g frz i = none) :
    Calls P f vs.toArray w (GoodE γ g w p out) := by
  unfold callIn at hx
  split at hx
  · cases hx
  · rename_i ids hids
    have hnod := reach_nodup _ _ _ _ hids (by simp)
    split at hx
    · cases hx
    · rename_i h hs
      -- what the callee's answer is
      have main : ∀ (o : Out) (v : AV) (h' : Heap), (o = .val v ∨ o = .pan v) → ρ f (renL (upd g frz) ids args) h = some (o, h') →
          (∀ i x, nid ≤ i → (i, x) ∈ (import1 (upd g frz) frz nid ids v h').2 → γ1.β i = none ∧ upd g frz i = none) →
          Calls P f vs.toArray w fun e w' => ∃ γ', Ext γ g γ' (upd g (import1 (upd g frz) frz nid ids v h').2) ∧ HR γ' (upd g (import1 (upd g frz) frz nid ids v h').2) w' ∧ Fr γ w γ' w' ∧
            ((o = .val v → ∃ u, e = .returned u ∧ VR γ' (upd g (import1 (upd g frz) frz nid ids v h').2) (import1 (upd g frz) frz nid ids v h').1 u) ∧
             (o = .pan v → ∃ u, e = .panicked [{ v := u, recovered := false }] ∧ VR γ' (upd g (import1 (upd g frz) frz nid ids v h').2) (import1 (upd g frz) frz nid ids v h').1 u)) := by
        intro o v h' ho hor hfree
        have hbs : Base w0 (γ1.sub ids) w := ⟨hb.1, fun b hlt => ⟨(hb.2 b hlt).1, fun k hk => by
          cases hid : ids[k]? with
          | none => simp only [G.sub, hid] at hk; cases hk
          | some id => exact (hb.2 b hlt).2 id (by simpa only [G.sub, hid] using hk)⟩⟩
        refine Calls.mono (hρ f _ h o h' hor (γ1.sub ids) w vs (sub_HR hr1 hs hnod) hbs (renL_VRs hs hv)) fun e w' hpost => ?_
        obtain ⟨γ', k1, k2, k3, k4, k7⟩ := hpost
        have hend : ∀ {γ'' : G} {g'' : Look} {v' : AV}, (∀ u, VR γ' (nth h') v u → VR γ'' g'' v' u) →
            ((o = .val v → ∃ u, e = .returned u ∧ VR γ'' g'' v' u) ∧ (o = .pan v → ∃ u, e = .panicked [{ v := u, recovered := false }] ∧ VR γ'' g'' v' u)) := by
          intro γ'' g'' v' hh
          refine ⟨fun h1 => ?_, fun h1 => ?_⟩
          · rw [h1] at k7
            cases e with
            | returned u => exact ⟨u, rfl, hh u k7⟩
            | panicked c => exact False.elim k7
            | outgrown => exact False.elim k7
          · rw [h1] at k7
            cases e with
            | returned u => exact False.elim k7
            | panicked c => obtain ⟨u, rfl, hvr⟩ := k7; exact ⟨u, rfl, hh u hvr⟩
            | outgrown => exact False.elim k7
        by_cases htriv : plain v = true ∧ ids = [] ∧ h' = []
        · obtain ⟨hp, rfl, rfl⟩ := htriv
          have himp : import1 (upd g frz) frz nid [] v [] = (v, []) := by unfold import1; rw [hp]
          rw [himp]
          have hkeep : ∀ b, b < w.heap.size → w'.heap[b]? = w.heap[b]? := fun b hlt => k2.keep b hlt fun k hk => by simp [G.sub] at hk
          exact ⟨γ, .refl _ _, hr.of_keep hkeep, ⟨k2.size, fun b hlt _ => hkeep b hlt, fun i b hib => .inr ⟨i, hib⟩, fun _ _ _ hv => .inl hv, k2.same⟩, hend fun u hu => plain_VR hp hu⟩
        · have himp : import1 (upd g frz) frz nid ids v h' = (back ⟨nth h', ids.length, ids, versOf (upd g frz) ids, nid⟩ depth v, frz ++ backAll ⟨nth h', ids.length, ids, versOf (upd g frz) ids, nid⟩ 0 h') := by
            unfold import1
            split
            · rename_i h1; exact absurd ⟨h1, rfl, rfl⟩ htriv
            · rfl
          rw [himp] at hfree ⊢
          have hlen := (sub1_spec hs).1
          obtain ⟨γ'', e2, hr2, f2, hvr⟩ := sim_back (nid := nid) hr1 hnod hs k1 k2 k3 k4 (fun j hj => by
            refine hfree (nid + j) _ (by omega) (List.mem_append_right _ ((backAll_mem 0 h' _ _).2 ⟨ids.length + j, h'[ids.length + j], List.getElem?_eq_getElem hj, ?_, rfl⟩))
            simp only [Nat.zero_add, Way.id]
            have hb : Nat.blt (ids.length + j) ids.length = false := by
              cases hb : Nat.blt (ids.length + j) ids.length with
              | false => rfl
              | true => rw [Nat.blt_eq] at hb; omega
            rw [hb, cond_false]; omega)
          rw [← upd_append] at e2 hr2 hvr
          exact ⟨γ'', e1.trans e2, hr2, f1.trans f2, hend fun u hu => hvr v u hu⟩
      split at hx
      · cases hx
      · rename_i v h' hor
        cases hx
        refine Calls.mono (main _ v h' (.inl rfl) hor hfree) fun e w' ⟨γ', h1, h2, h3, h4, _⟩ => ?_
        obtain ⟨u, rfl, hu⟩ := h4 rfl
        exact ⟨γ', h1, h2, h3, hu⟩
      · rename_i v h' hor
        cases hx
        refine Calls.mono (main _ v h' (.inr rfl) hor hfree) fun e w' ⟨γ', h1, h2, h3, _, h4⟩ => ?_
        obtain ⟨u, rfl, hu⟩ := h4 rfl
        exact ⟨γ', h1, h2, h3, u, rfl, hu⟩

/-- What is asked of the functions that are not evaluated. -/
def PrimOK (C : Cfg) (w0 : World) : Prop :=
  ∀ f args v, C.prim f args = some v → plain v = true → ∀ (γ : G) (g : Look) (w : World) (vs : List Value), HR γ g w → Base w0 γ w → VRs γ g args vs →
    Calls C.P f vs.toArray w fun e w' => ∃ u, e = .returned u ∧ VR γ g v u ∧ (w'.os = w.os ∧ w'.output = w.output) ∧ w.heap.size ≤ w'.heap.size ∧ ∀ b, b < w.heap.size → w'.heap[b]? = w.heap[b]?

theorem views_VRs {γ γ1 : G} {g : Look} {w : World} : ∀ {args : List AV} {vs : List Value} {l : List Nat}, (∀ x ∈ args, ∀ id ∈ viewed g x, id ∈ l) → Ext γ g γ1 (upd g (freeze g l)) → HR γ1 (upd g (freeze g l)) w →
    VRs γ g args vs → VRs γ1 (upd g (freeze g l)) (args.map (view g)) vs
  | [], vs, l, _, _, _, hv => by rw [hv.nil_inv]; exact .nil
  | x :: args, vs, l, hl, e, hr, hv => by
    obtain ⟨v, vs', rfl, hx, hxs⟩ := hv.cases_cons
    refine .cons (view_VR hr (fun id hid s ver frz es hg => ?_) (hx.mono e)) (views_VRs (fun y hy => hl y (List.mem_cons_of_mem _ hy)) e hr hxs)
    exact (freeze_patch g l).upd_eq hg ⟨_, freeze_mem hg (hl x (.head _) id hid)⟩

theorem mem_catMap {α β : Type} {f : α → List β} {y : β} : ∀ {l : List α}, y ∈ catMap f l ↔ ∃ x ∈ l, y ∈ f x
  | [] => by simp [catMap]
  | a :: l => by simp [catMap, mem_catMap (l := l)]

theorem sim_callF {C : Cfg} {w0 : World} {ρ : Oracle} (hρ : OracleOK C.P w0 ρ) (hpr : PrimOK C w0) {γ : G} {g : Look} {w : World} {nid : Nat} {f : FuncId} {args : List AV} {vs : List Value}
    {out : Out} {p : Patch} (hr : HR γ g w) (hb : Base w0 γ w) (hv : VRs γ g args vs) (hx : callF C ρ g nid f args = some (out, p))
    (hfree : ∀ i o, nid ≤ i → (i, o) ∈ p → γ.β i = none ∧ g i = none) : hasBody C.P f = true ∧ Calls C.P f vs.toArray w (GoodE γ g w p out) := by
  unfold callF at hx
  split at hx
  · split at hx
    · rename_i hbody
      exact ⟨hbody, sim_callIn (γ1 := γ) (frz := []) hρ hr hb (.refl _ _) hr (.refl _ _) hv hx hfree⟩
    · cases hx
  · obtain ⟨γ1, e1, hr1, f1, hβ⟩ := sim_freeze hr (freeze_patch g (catMap (viewed g) args))
    have hv1 := views_VRs (args := args) (l := catMap (viewed g) args) (fun x hx id hid => mem_catMap.2 ⟨x, hx, hid⟩) e1 hr1 hv
    have hb1 := hb.mono f1
    split at hx
    · rename_i v hprim
      split at hx
      · rename_i hp hbody
        cases hx
        refine ⟨hbody, Calls.mono (hpr f _ v hprim hp γ1 _ w vs hr1 hb1 hv1) fun e w' ⟨u, he, hu, hsm, hsz, hk⟩ => ?_⟩
        subst he
        exact ⟨γ, .refl _ _, hr.of_keep hk, ⟨hsz, fun b hlt _ => hk b hlt, fun i b hib => .inr ⟨i, hib⟩, fun _ _ _ hv => .inl hv, hsm⟩, plain_VR hp hu⟩
      · cases hx
    · split at hx
      · rename_i hbody
        refine ⟨hbody, sim_callIn hρ hr hb1 e1 hr1 f1 hv1 hx fun i o hi ho => ?_⟩
        obtain ⟨h1, h2⟩ := hfree i o hi ho
        exact ⟨by rw [hβ]; exact h1, (freeze_patch g _).upd_none h2⟩
      · cases hx

/-! ### Any operation -/

section
variable {P : Program} {γ : G} {g : Look} {w : World} {o : Oper} {a : Act} {p : Patch} {next : Act → World → Prop} {Q : Exit → Act → World → Prop}

theorem upon_good {s : Sem Value} {v : AV} (h : Good γ g w p v (s.run P w))
    (hn : ∀ u w' γ', Ext γ g γ' (upd g p) → HR γ' (upd g p) w' → Fr γ w γ' w' → VR γ' (upd g p) v u → next (a.put o.dst u) w') :
    o.upon P a next Q ((do pure (Next.value (← s)) : Sem Next).run P w) := by
  obtain ⟨u, w', γ', hr, e, hh, hv, f⟩ := h
  simp only [Sem.run_bind, hr, Result.andThen_ok, Sem.run_pure]
  exact hn u w' γ' e hh f hv

theorem upon_goodU {s : Sem Unit} (h : GoodU γ g w p (s.run P w))
    (hn : ∀ u w' γ', Ext γ g γ' (upd g p) → HR γ' (upd g p) w' → Fr γ w γ' w' → VR γ' (upd g p) .nov u → next (a.put o.dst u) w') :
    o.upon P a next Q ((do s; pure Next.skip : Sem Next).run P w) := by
  obtain ⟨w', γ', hr, e, hh, f⟩ := h
  simp only [Sem.run_bind, hr, Result.andThen_ok, Sem.run_pure]
  exact hn undef w' γ' e hh f .nov

theorem hasBody_spec {f : FuncId} (h : hasBody P f = true) : ∃ fn c, P.funcs[f]? = some fn ∧ fn.body = some c ∧ fn.name ≠ "runtime.NumGoroutine" := by
  unfold hasBody at h
  rw [nth_eq] at h
  cases hf : P.funcs.toList[f]? with
  | none => rw [hf] at h; cases h
  | some fn =>
    rw [hf] at h
    simp only [Bool.and_eq_true, bne_iff_ne, ne_eq] at h
    obtain ⟨c, hc⟩ := Option.isSome_iff_exists.1 h.1
    exact ⟨fn, c, by simpa using hf, hc, h.2⟩

theorem run_callFunc {f : FuncId} {args : Array Value} (h : hasBody P f = true) : (callFunc f args).run P w = .ok (.enter f args) w := by
  obtain ⟨fn, c, h1, h2, h3⟩ := hasBody_spec h
  unfold callFunc
  simp [h1, h2, h3]

end

end Go.Ab
