/- Whole functions: the evaluator's calls are the model's. -/
import Derived.Test.YtchkgfmmfdineaaGreatAbExec
namespace Go.Ab

/-! ### Results -/

theorem load_run {P : Program} {γ : G} {g : Look} {w : World} {t : TypeId} {a v : AV} {u : Value} (h : HR γ g w) (hv : VR γ g a u) (hx : load P g t a = some v) :
    ∃ ad r, u = .pointer (some ad) ∧ (loadVar t ad).run P w = .ok r w ∧ VR γ g v r := by
  unfold load at hx
  split at hx
  · rename_i hagg
    split at hx
    · rename_i n hn
      split at hx
      · rename_i cs hcs
        cases hx
        obtain ⟨b, o, vs, rfl, hl, hvs, hc⟩ := loadCells_VR h hcs hv
        have hrun := run_loadCells_list (P := P) w ⟨b, o, none⟩ vs (fun j x hj => by rw [addr_add]; exact hc j x hj)
        rw [hl] at hrun
        refine ⟨_, .agg vs.toArray, rfl, ?_, .mkAgg hvs⟩
        simp only [loadVar, Sem.run_bind, Sem.run_pure, Result.andThen_ok, run_isAgg hagg, if_true, run_size hn, hrun]
      · cases hx
    · cases hx
  · rename_i hagg
    split at hx
    · rename_i v' hcs
      cases hx
      obtain ⟨b, o, vs, rfl, hl, hvs, hc⟩ := loadCells_VR h hcs hv
      obtain ⟨v0, vs', rfl, h0, _⟩ := hvs.cases_cons
      have hc0 := hc 0 v0 rfl
      simp only [Nat.add_zero] at hc0
      have hl0 : (Go.load ⟨b, o, none⟩).run P w = .ok v0 w := by rw [run_load]; simp [hc0]
      refine ⟨_, v0, rfl, ?_, h0⟩
      simp only [loadVar, Sem.run_bind, Sem.run_pure, Result.andThen_ok, run_isAgg hagg, Bool.false_eq_true, if_false, hl0]
    · cases hx
  · cases hx

/-- What the model does for one result. -/
def resultSem (tmps : Array Value) : ResultVar → Sem Value
  | .tmp t => pure (tmps.getD t undef)
  | .cell a t => do loadVar t (← asAddr (tmps.getD a undef))

theorem resultsOf_run {P : Program} {γ : G} {st : St} {a : Act} {w : World} (hr : HR γ (nth st.h) w) (he : ER γ (nth st.h) st.T a) :
    ∀ {rs : List ResultVar} {vs : List AV}, resultsOf P st rs = some vs → ∃ us, (rs.mapM (resultSem a.tmps)).run P w = .ok us w ∧ VRs γ (nth st.h) vs us
  | [], vs, h => by
    simp only [resultsOf, Option.some.injEq] at h
    subst h
    exact ⟨[], by simp, .nil⟩
  | r :: rs, vs, h => by
    unfold resultsOf at h
    split at h
    · cases h
    · rename_i v hv
      split at h
      · cases h
      · rename_i vs' hvs
        cases h
        obtain ⟨us, h1, h2⟩ := resultsOf_run hr he hvs
        have h0 : ∃ u, (resultSem a.tmps r).run P w = .ok u w ∧ VR γ (nth st.h) v u := by
          unfold resultOf at hv
          split at hv
          · cases hv; exact ⟨_, rfl, he _⟩
          · obtain ⟨ad, u, e1, e2, e3⟩ := load_run hr (he _) hv
            refine ⟨u, ?_, e3⟩
            simp only [resultSem, e1, asAddr, Sem.run_bind, Sem.run_pure, Result.andThen_ok, e2]
        obtain ⟨u, h3, h4⟩ := h0
        refine ⟨u :: us, ?_, .cons h4 h2⟩
        rw [List.mapM_cons]
        simp only [Sem.run_bind, h3, h1, Result.andThen_ok, Sem.run_pure]

theorem results_eq (fn : Func) (tmps : Array Value) : Go.results fn tmps = (do
    let vs ← fn.results.mapM (resultSem tmps)
    pure (if h : vs.size = 1 then vs[0] else .tuple vs)) := by
  unfold Go.results
  congr 1

theorem sim_results {P : Program} {γ : G} {st : St} {a : Act} {w : World} {fn : Func} {v : AV} (hr : HR γ (nth st.h) w) (he : ER γ (nth st.h) st.T a) (hx : results P fn st = some v) :
    ∃ u, (Go.results fn a.tmps).run P w = .ok u w ∧ VR γ (nth st.h) v u := by
  rw [results_eq, Array.mapM_eq_mapM_toList]
  unfold results at hx
  split at hx
  · rename_i v' hvs
    cases hx
    obtain ⟨us, h1, h2⟩ := resultsOf_run (P := P) hr he hvs
    obtain ⟨u, us', rfl, h3, h4⟩ := h2.cases_cons
    have := h4.nil_inv
    subst this
    exact ⟨u, by simp [h1], h3⟩
  · rename_i vs hne hvs
    cases hx
    obtain ⟨us, h1, h2⟩ := resultsOf_run (P := P) hr he hvs
    refine ⟨.tuple us.toArray, ?_, .tup vs us h2.1 h2.2⟩
    have hl : us.length ≠ 1 := fun hl => by
      rw [← h2.1] at hl
      match vs, hl with
      | [x], _ => exact hne x rfl
    simp [h1, hl]
  · cases hx

/-! ### The answer's heap -/

theorem views_VRs' {γ : G} {g g' : Look} {w : World} (hr : HR γ g' w) : ∀ {xs : List AV} {vs : List Value},
    (∀ x ∈ xs, ∀ id ∈ viewed g x, ∀ s ver frz es, g id = some (.arr s ver frz es) → g' id = some (.arr s ver true es)) → VRs γ g' xs vs → VRs γ g' (xs.map (view g)) vs
  | [], vs, _, hv => by rw [hv.nil_inv]; exact .nil
  | x :: xs, vs, hp, hv => by
    obtain ⟨v, vs', rfl, hx, hxs⟩ := hv.cases_cons
    exact .cons (view_VR hr (hp x (.head _)) hx) (views_VRs' hr (fun y hy => hp y (List.mem_cons_of_mem _ hy)) hxs)

theorem exports_VR {γ : G} {g g' : Look} {w : World} {v : AV} {u : Value} (hr : HR γ g' w) (hp : ∀ id ∈ viewedO g v, ∀ s ver frz es, g id = some (.arr s ver frz es) → g' id = some (.arr s ver true es))
    (hv : VR γ g' v u) : VR γ g' (exports g v) u := by
  unfold exports
  split
  · rename_i vs
    cases hv with
    | tup _ us hl h =>
      have hh : VRs γ g' vs us := ⟨hl, h⟩
      have := views_VRs' (g := g) hr (fun x hx id hid => hp id (by unfold viewedO; exact mem_catMap.2 ⟨x, hx, hid⟩)) hh
      exact .tup _ us this.1 this.2
  · rename_i hne
    refine view_VR hr (fun id hid => hp id ?_) hv
    unfold viewedO
    split
    · rename_i vs; exact absurd rfl (hne vs)
    · exact hid

theorem renL_one {g : Look} {ids : List Nat} {x y : AV} (h : [y] = renL g ids [x]) : y = ren g ids depth x := by
  simpa [renL] using h

theorem sim_finish {C : Cfg} {f : FuncId} {m : Nat} {v v' : AV} {h h' : Heap} {γ : G} {w : World} {u : Value} (hr : HR γ (nth h) w) (hv : VR γ (nth h) v u) (hx : finish C f m v h = some (v', h')) :
    ∃ γ', HR γ' (nth h') w ∧ Fr γ w γ' w ∧ ImmLe γ.imm γ'.imm ∧ Keep m γ (nth h) γ' (nth h') ∧ VR γ' (nth h') v' u := by
  unfold finish at hx
  split at hx
  · split at hx
    · rename_i y h1 hc
      cases hx
      obtain ⟨ids, h1, h2, h3, h4⟩ := sim_canon hr hc
      refine ⟨_, h1, .sub _ _ _, .refl _, h2, ?_⟩
      rw [renL_one h3]
      exact h4 _ _ hv
    · cases hx
  · split at hx
    · rename_i y h1 hc
      cases hx
      obtain ⟨γ1, e1, hr1, f1, _⟩ := sim_freeze hr (freeze_patch (nth h) (viewedO (nth h) v))
      have hs := patch_same (p := freeze (nth h) (viewedO (nth h) v)) (Same.refl (nth h))
      have e2 := hs.ext γ1
      have hv1 : VR γ1 (upd (nth h) (freeze (nth h) (viewedO (nth h) v))) (exports (nth h) v) u :=
        exports_VR hr1 (fun id hid s ver frz es hg => (freeze_patch (nth h) _).upd_eq hg ⟨_, freeze_mem hg hid⟩) (hv.mono e1)
      obtain ⟨ids, h1, h2, h3, h4⟩ := sim_canon (hr1.same hs) hc
      refine ⟨_, h1, f1.trans (.sub _ _ _), e1.imm, ((e1.trans e2).keep m).trans h2, ?_⟩
      rw [renL_one h3]
      exact h4 _ _ (hv1.mono e2)
    · cases hx

/-! ### Functions -/

theorem get_argsT (t : Nat) : ∀ (l : List AV) (i : Nat), get (argsT i l) t = if i ≤ t then (l[t - i]?).getD .unk else .unk
  | [], i => by simp [argsT, get]
  | v :: l, i => by
    simp only [argsT, get]
    cases hb : Nat.beq i t with
    | true => have := Nat.eq_of_beq_eq_true hb; subst this; simp
    | false =>
      have := Nat.ne_of_beq_eq_false hb
      simp only
      rw [get_argsT t l (i + 1)]
      by_cases h1 : i + 1 ≤ t
      · have : t - i = (t - (i + 1)) + 1 := by omega
        rw [if_pos h1, if_pos (by omega), this, List.getElem?_cons_succ]
      · rw [if_neg h1, if_neg (by omega)]

theorem inv_args {w0 w : World} {γ : G} {h : Heap} {args : List AV} {vs : List Value} (n : Nat) (hr : HR γ (nth h) w) (hb : Base w0 γ w) (hv : VRs γ (nth h) args vs) :
    Inv w0 n γ h (argsT 0 args) { tmps := vs.toArray ++ Array.replicate (n - vs.toArray.size) undef, defers := [] } w := by
  refine ⟨hr, hb, fun t => ?_, by simp; omega, rfl⟩
  rw [get_argsT]
  simp only [Nat.zero_le, if_true, Nat.sub_zero]
  cases hx : args[t]? with
  | none => exact .unk _
  | some x =>
    have hlt := getElem_lt hx
    have hlt' : t < vs.length := by rw [← hv.1]; exact hlt
    have hvt : vs[t]? = some vs[t] := List.getElem?_eq_getElem hlt'
    have : (vs.toArray ++ Array.replicate (n - vs.toArray.size) undef).getD t undef = vs[t] := by
      rw [Array.getD_eq_getD_getElem?, Array.getElem?_append_left (by simpa using hlt')]
      simp [hlt']
    rw [this]
    exact hv.2 t x _ hx hvt

theorem callS_OK {C : Cfg} {w0 : World} (hreg : ∀ ρ, OracleOK C.P w0 ρ → RegionOK C ρ w0) {ρ : Oracle} (ih : OracleOK C.P w0 ρ) (n : Nat) : OracleOK C.P w0 (callS C ρ n) :=
  fun f args h out h' hx => by
    unfold callS at hx
    rw [nth_eq] at hx
    split at hx
    · cases hx
    · rename_i fn hfn
      have hfn' : C.P.funcs[f]? = some fn := by simpa using hfn
      split at hx
      · cases hx
      · rename_i c hc
        intro γ w vs hr hb hv
        refine calls_of_wp hfn' hc ?_
        have hinv := inv_args fn.ntmps hr hb hv
        have val : ∀ (r : Ex) (st : St), (r = .normal ∨ r = .ret) → (match results C.P fn st with
              | none => none
              | some v => match finish C f h.length v st.h with
                | some (v, h) => some (Out.val v, h)
                | none => none) = some (out, h') →
            exec C ρ n h.length fn.ntmps (C.keep f) c ⟨argsT 0 args, h⟩ = some (r, st) →
            Code.wp C.P c (bodyPost C.P fn fun e w' => ∃ γ', HR γ' (nth h') w' ∧ Fr γ w γ' w' ∧ ImmLe γ.imm γ'.imm ∧ Keep h.length γ (nth h) γ' (nth h') ∧ Ends γ' (nth h') out e) { tmps := vs.toArray ++ Array.replicate (fn.ntmps - vs.toArray.size) undef, defers := [] } w := by
          intro r st hr' hres hex
          refine sim_exec (hreg _ ih) n h.length fn.ntmps (C.keep f) c ⟨argsT 0 args, h⟩ r st γ _ w _ hex hinv fun γ1 a1 w1 i1 f1 m1 k1 => ?_
          split at hres
          · cases hres
          · rename_i v hv'
            split at hres
            · rename_i v2 h2 hfin
              cases hres
              obtain ⟨u, hu1, hu2⟩ := sim_results i1.hr i1.er hv'
              obtain ⟨γ2, g1, g2, g3, g4, g5⟩ := sim_finish i1.hr hu2 hfin
              rcases hr' with rfl | rfl
              · exact ⟨i1.nd, u, hu1, γ2, g1, f1.trans g2, m1.trans g3, k1.trans g4, g5⟩
              · exact ⟨i1.nd, u, hu1, γ2, g1, f1.trans g2, m1.trans g3, k1.trans g4, g5⟩
            · cases hres
        split at hx
        · rename_i st hex; exact val _ st (.inl rfl) hx hex
        · rename_i st hex; exact val _ st (.inr rfl) hx hex
        · rename_i v st hex
          split at hx
          · rename_i v2 h2 hfin
            cases hx
            refine sim_exec (hreg _ ih) n h.length fn.ntmps (C.keep f) c ⟨argsT 0 args, h⟩ (.pan v) st γ _ w _ hex hinv fun γ1 a1 w1 i1 f1 m1 k1 u hu => ?_
            obtain ⟨γ2, g1, g2, g3, g4, g5⟩ := sim_finish i1.hr hu hfin
            exact ⟨i1.nd, γ2, g1, f1.trans g2, m1.trans g3, k1.trans g4, u, rfl, g5⟩
          · cases hx
        · cases hx

theorem callN_OK {C : Cfg} {w0 : World} (hreg : ∀ ρ, OracleOK C.P w0 ρ → RegionOK C ρ w0) : ∀ n, OracleOK C.P w0 (callN C n)
  | 0 => fun f args h out h' hx => by simp [callN] at hx
  | n + 1 => callS_OK hreg (callN_OK hreg n) n

theorem callK_OK {C : Cfg} {w0 : World} (hreg : ∀ ρ, OracleOK C.P w0 ρ → RegionOK C ρ w0) {tbl : Oracle} (ht : OracleOK C.P w0 tbl) : ∀ n, OracleOK C.P w0 (callK C tbl n)
  | 0 => fun f args h out h' hx => by simp [callK] at hx
  | n + 1 => fun f args h out h' hx => by
    unfold callK at hx
    split at hx
    · rename_i r hr
      cases hx
      exact ht f args h out h' hr
    · exact callS_OK hreg (callK_OK hreg ht n) n f args h out h' hx

end Go.Ab
