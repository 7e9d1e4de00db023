/- Rules by which an open function's code is gone through, step by step. -/
import Derived.Test.YtchkgfmmfdineaaGreatAbMono
namespace Go.Ab

/-- Some fuel lets the code end so. -/
def W (C : Cfg) (m k : Nat) (keep : Nat → Option (List Nat)) (c : Code) (st : St) (Q : Ex → St → Prop) : Prop :=
  ∃ n e st', exec C (Om C) n m k keep c st = some (e, st') ∧ Q e st'

section
variable {C : Cfg} {m k : Nat} {keep : Nat → Option (List Nat)} {st : St} {Q : Ex → St → Prop}

/-- What follows a statement that ended. -/
def thenW (C : Cfg) (m k : Nat) (keep : Nat → Option (List Nat)) (b : Code) (Q : Ex → St → Prop) : Ex → St → Prop
  | .normal, st => W C m k keep b st Q
  | e, st => Q e st

theorem W.mono {c : Code} {Q' : Ex → St → Prop} (h : W C m k keep c st Q) (hq : ∀ e st, Q e st → Q' e st) : W C m k keep c st Q' := by
  obtain ⟨n, e, st', h1, h2⟩ := h
  exact ⟨n, e, st', h1, hq _ _ h2⟩

theorem W_skip (h : Q .normal st) : W C m k keep .skip st Q := ⟨0, .normal, st, by simp only [exec], h⟩

theorem W_ret (h : Q .ret st) : W C m k keep .ret st Q := ⟨0, .ret, st, by simp only [exec], h⟩

theorem W_exit {id : Nat} (h : Q (.exit id) st) : W C m k keep (.exit id) st Q := ⟨0, .exit id, st, by simp only [exec], h⟩

theorem W_label {l : Nat} (h : Q .normal st) : W C m k keep (.label l) st Q := ⟨0, .normal, st, by simp only [exec], h⟩

theorem W_region {id : Nat} {ops : Array Oper} {draw : Bool} {e : Ex} {st' : St} (h : region C (Om C) k ops.toList draw st = some (e, st')) (hq : Q e st') :
    W C m k keep (.region id ops draw) st Q := ⟨0, e, st', by simp only [exec]; exact h, hq⟩

theorem W_seq {a b : Code} (h : W C m k keep a st (thenW C m k keep b Q)) : W C m k keep (.seq a b) st Q := by
  obtain ⟨n, e, st', h1, h2⟩ := h
  cases e with
  | normal =>
    obtain ⟨n', e, st'', h3, h4⟩ := h2
    refine ⟨max n n', e, st'', ?_, h4⟩
    simp only [exec]
    rw [exec_mono (Nat.le_max_left n n') h1]
    exact exec_mono (Nat.le_max_right n n') h3
  | exit id => exact ⟨n, _, st', by simp only [exec, h1], h2⟩
  | ret => exact ⟨n, _, st', by simp only [exec, h1], h2⟩
  | pan v => exact ⟨n, _, st', by simp only [exec, h1], h2⟩

theorem W_cond {c : Operand} {a b : Code} {v : Bool} (h : operand st.T c = .t (.bool v)) (h1 : v = true → W C m k keep a st Q) (h2 : v = false → W C m k keep b st Q) :
    W C m k keep (.cond c a b) st Q := by
  cases v with
  | true =>
    obtain ⟨n, e, st', h3, h4⟩ := h1 rfl
    exact ⟨n, e, st', by simp only [exec, h, h3], h4⟩
  | false =>
    obtain ⟨n, e, st', h3, h4⟩ := h2 rfl
    exact ⟨n, e, st', by simp only [exec, h, h3], h4⟩

def outOf (id : Nat) (Q : Ex → St → Prop) : Ex → St → Prop
  | .exit id', st => if id' = id then Q .normal st else Q (.exit id') st
  | e, st => Q e st

theorem W_block {id : Nat} {b : Code} (h : W C m k keep b st (outOf id Q)) : W C m k keep (.block id b) st Q := by
  obtain ⟨n, e, st', h1, h2⟩ := h
  cases e with
  | exit id' =>
    simp only [outOf] at h2
    by_cases hi : id' = id
    · rw [if_pos hi] at h2
      exact ⟨n, .normal, st', by simp only [exec, h1, hi, if_true], h2⟩
    · rw [if_neg hi] at h2
      exact ⟨n, .exit id', st', by simp only [exec, h1, hi, if_false], h2⟩
  | normal => exact ⟨n, .normal, st', by simp only [exec, h1], h2⟩
  | ret => exact ⟨n, .ret, st', by simp only [exec, h1], h2⟩
  | pan v => exact ⟨n, .pan v, st', by simp only [exec, h1], h2⟩

theorem W_scope {b : Code} (h : W C m k keep b st Q) : W C m k keep (.scope b) st Q := by
  obtain ⟨n, e, st', h1, h2⟩ := h
  exact ⟨n, e, st', by simp only [exec, h1], h2⟩

/-- A loop's state at its head, and behind it. -/
def loopKeep (keep : Nat → Option (List Nat)) (b : Code) : Option (List Nat) :=
  match firstRegion b with
  | some r => keep r
  | none => none

/-- Behind a round: another one, of a lesser measure; or out. -/
def round (m : Nat) (ks : Option (List Nat)) (Inv : Nat → St → Prop) (d : Nat) (Q : Ex → St → Prop) : Ex → St → Prop
  | .normal, st => ∃ d', d' < d ∧ ∃ st', tidy m ks st = some st' ∧ Inv d' st'
  | e, st => Q e st

theorem W_loop {b : Code} (Inv : Nat → St → Prop) (d : Nat) {st1 : St} (h0 : tidy m (loopKeep keep b) st = some st1) (h1 : Inv d st1)
    (step : ∀ d st1, Inv d st1 → W C m k keep b st1 (round m (loopKeep keep b) Inv d Q)) : W C m k keep (.loop b) st Q := by
  have key : ∀ d st st1, tidy m (loopKeep keep b) st = some st1 → Inv d st1 →
      ∃ n e st', iter (tidy m (loopKeep keep b)) (exec C (Om C) n m k keep b) n st = some (e, st') ∧ Q e st' := by
    intro d
    induction d using Nat.strongRecOn with
    | _ d ih =>
      intro st st1 h0 h1
      obtain ⟨n, e, st2, h2, h3⟩ := step d st1 h1
      cases e with
      | normal =>
        obtain ⟨d', hd, st3, h4, h5⟩ := h3
        obtain ⟨n', e', st4, h6, h7⟩ := ih d' hd st2 st3 h4 h5
        refine ⟨max n n' + 1, e', st4, ?_, h7⟩
        unfold iter
        rw [h0]
        dsimp only
        rw [exec_mono (by omega) h2]
        dsimp only
        obtain ⟨L, s1, s2⟩ := fin_iter (body := fun ρ n st => exec C ρ n m k keep b st) (gc := tidy m (loopKeep keep b)) (fun st => fin_exec C m k keep b st) n' st2 (Om C) n' _ h6
        exact s2 (Om C) (max n n' + 1) (max n n') (by omega) (by omega) s1
      | exit id =>
        refine ⟨n + 1, _, st2, ?_, h3⟩
        unfold iter
        rw [h0]
        dsimp only
        rw [exec_mono (by omega) h2]
      | ret =>
        refine ⟨n + 1, _, st2, ?_, h3⟩
        unfold iter
        rw [h0]
        dsimp only
        rw [exec_mono (by omega) h2]
      | pan v =>
        refine ⟨n + 1, _, st2, ?_, h3⟩
        unfold iter
        rw [h0]
        dsimp only
        rw [exec_mono (by omega) h2]
  obtain ⟨n, e, st', h2, h3⟩ := key d st st1 h0 h1
  refine ⟨n, e, st', ?_, h3⟩
  simp only [exec]
  exact h2

/-- How a call ends. -/
def ends (C : Cfg) (f : FuncId) (fn : Func) (m : Nat) (R : Out → Heap → Prop) : Ex → St → Prop
  | .normal, st => ∃ v, results C.P fn st = some v ∧ ∃ v' h', finish C f m v st.h = some (v', h') ∧ R (.val v') h'
  | .ret, st => ∃ v, results C.P fn st = some v ∧ ∃ v' h', finish C f m v st.h = some (v', h') ∧ R (.val v') h'
  | .pan v, st => ∃ v' h', finish C f m v st.h = some (v', h') ∧ R (.pan v') h'
  | _, _ => False

/-- A call, by its code. -/
theorem call_of_W {f : FuncId} {fn : Func} {c : Code} {args : List AV} {h : Heap} {R : Out → Heap → Prop} (hf : nth C.P.funcs.toList f = some fn) (hb : fn.body = some c)
    (hw : W C h.length fn.ntmps (C.keep f) c ⟨argsT 0 args, h⟩ (ends C f fn h.length R)) : ∃ o h', Om C f args h = some (o, h') ∧ R o h' := by
  obtain ⟨n, e, st', h1, h2⟩ := hw
  cases e with
  | normal =>
    obtain ⟨v, h3, v', h', h4, h5⟩ := h2
    exact ⟨_, _, om_call (n := n) (by unfold callS; simp only [hf, hb, h1, h3, h4]), h5⟩
  | ret =>
    obtain ⟨v, h3, v', h', h4, h5⟩ := h2
    exact ⟨_, _, om_call (n := n) (by unfold callS; simp only [hf, hb, h1, h3, h4]), h5⟩
  | pan v =>
    obtain ⟨v', h', h4, h5⟩ := h2
    exact ⟨_, _, om_call (n := n) (by unfold callS; simp only [hf, hb, h1, h4]), h5⟩
  | exit id => exact h2.elim

end
end Go.Ab
