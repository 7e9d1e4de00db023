/- The evaluator: more fuel, an oracle that knows more: the same answer; and the oracle that knows whatever some fuel gives. -/
import Derived.Test.YtchkgfmmfdineaaGreatAbDraw3
namespace Go.Ab

structure Ask where
  f : FuncId
  args : List AV
  h : Heap
  r : Out × Heap

def Sat (ρ : Oracle) (L : List Ask) : Prop := ∀ q ∈ L, ρ q.f q.args q.h = some q.r

theorem Sat.nil {ρ : Oracle} : Sat ρ [] := fun _ h => by simp at h
theorem Sat.append {ρ : Oracle} {L L' : List Ask} : Sat ρ (L ++ L') ↔ Sat ρ L ∧ Sat ρ L' := by
  simp only [Sat, List.mem_append]
  exact ⟨fun h => ⟨fun q hq => h q (.inl hq), fun q hq => h q (.inr hq)⟩, fun h q hq => hq.elim (h.1 q) (h.2 q)⟩

/-- An answer hangs on finitely many answers of the oracle, and on so much fuel. -/
def Uses {α : Type} (F : Oracle → Nat → Option α) : Prop :=
  ∀ ρ n r, F ρ n = some r → ∃ L, Sat ρ L ∧ ∀ ρ' n', n ≤ n' → Sat ρ' L → F ρ' n' = some r

theorem Uses.const {α : Type} (x : Option α) : Uses (fun _ _ => x) := fun _ _ _ h => ⟨[], Sat.nil, fun _ _ _ _ => h⟩

theorem Uses.ask (f : FuncId) (args : List AV) (h : Heap) : Uses (fun ρ _ => ρ f args h) :=
  fun ρ n r hx => ⟨[⟨f, args, h, r⟩], fun q hq => by rw [List.mem_singleton.1 hq]; exact hx, fun ρ' n' _ hs => hs ⟨f, args, h, r⟩ (List.mem_singleton.2 rfl)⟩

theorem Uses.bind {α β : Type} {F : Oracle → Nat → Option α} {G : α → Oracle → Nat → Option β} (hF : Uses F) (hG : ∀ a, Uses (G a)) :
    Uses (fun ρ n => match F ρ n with | none => none | some a => G a ρ n) := by
  intro ρ n r hx
  dsimp only at hx
  cases hf : F ρ n with
  | none => rw [hf] at hx; cases hx
  | some a =>
    rw [hf] at hx
    obtain ⟨L, h1, h2⟩ := hF ρ n a hf
    obtain ⟨L', h3, h4⟩ := hG a ρ n r hx
    refine ⟨L ++ L', Sat.append.2 ⟨h1, h3⟩, fun ρ' n' hn hs => ?_⟩
    show (match F ρ' n' with | none => none | some a => G a ρ' n') = some r
    rw [h2 ρ' n' hn (Sat.append.1 hs).1]
    exact h4 ρ' n' hn (Sat.append.1 hs).2

theorem Uses.congr {α : Type} {F G : Oracle → Nat → Option α} (h : ∀ ρ n, F ρ n = G ρ n) (hG : Uses G) : Uses F := by
  have : F = G := funext fun ρ => funext fun n => h ρ n
  rw [this]; exact hG

theorem Uses.of {α β : Type} {F : Oracle → Nat → Option α} {H : Oracle → Nat → Option β} (hF : Uses F) (G : α → Oracle → Nat → Option β) (hG : ∀ a, Uses (G a))
    (h : ∀ ρ n, H ρ n = match F ρ n with | none => none | some a => G a ρ n) : Uses H :=
  Uses.congr h (hF.bind hG)

theorem fin_callIn (g1 : Look) (frz : Patch) (nid : Nat) (f : FuncId) (args : List AV) : Uses (fun ρ _ => callIn ρ g1 frz nid f args) := by
  unfold callIn
  cases reach g1 100000 (refsL g1 args) [] with
  | none => exact .const none
  | some ids =>
    dsimp only
    cases sub g1 ids with
    | none => exact .const none
    | some h =>
      dsimp only
      refine Uses.of (.ask f (renL g1 ids args) h) (fun a _ _ => match a with
        | (Out.val v, h') => some (Out.val (import1 g1 frz nid ids v h').1, (import1 g1 frz nid ids v h').2)
        | (Out.pan v, h') => some (Out.pan (import1 g1 frz nid ids v h').1, (import1 g1 frz nid ids v h').2)) (fun a => .const _) ?_
      intro ρ n
      cases ρ f (renL g1 ids args) h with
      | none => rfl
      | some a => obtain ⟨o, h'⟩ := a; cases o <;> rfl

theorem fin_callF (C : Cfg) (g : Look) (nid : Nat) (f : FuncId) (args : List AV) : Uses (fun ρ _ => callF C ρ g nid f args) := by
  unfold callF
  cases C.byRef f with
  | true =>
    dsimp only
    cases hasBody C.P f with
    | true => exact fin_callIn _ _ _ _ _
    | false => exact .const none
  | false =>
    dsimp only
    cases C.prim f (args.map (view g)) with
    | some v => exact .const _
    | none =>
      dsimp only
      cases hasBody C.P f with
      | true => exact fin_callIn _ _ _ _ _
      | false => exact .const none

theorem fin_xCall (C : Cfg) (g : Look) (nid : Nat) (T : Env) (c : Call) : Uses (fun ρ _ => xCall C ρ g nid T c) := by
  unfold xCall
  cases c.callee with
  | value f =>
    dsimp only
    generalize operand T f = v
    cases v with
    | t x =>
      cases x with
      | fn f => exact fin_callF _ _ _ _ _
      | _ => exact .const none
    | fn f a b => exact fin_callF _ _ _ _ _
    | _ => exact .const none
  | builtin b => exact .const _
  | _ => exact .const none

theorem fin_exec1 (C : Cfg) (g : Look) (nid : Nat) (T : Env) (o : Oper) : Uses (fun ρ _ => exec1 C ρ g nid T o) := by
  unfold exec1
  generalize o.op = op
  cases op with
  | call c => exact fin_xCall _ _ _ _ _
  | makeFunc f a b => cases f <;> exact .const _
  | next it s => cases s <;> exact .const _
  | _ => exact .const _

theorem fin_runOps (C : Cfg) (ops : List Oper) : ∀ (l : List Oper) (T : Env) (h : Heap), Uses (fun ρ _ => runOps C ρ ops l T h)
  | [], T, h => by unfold runOps; exact .const _
  | o :: rest, T, h => by
    unfold runOps
    cases wanted ops T o with
    | none => exact .const none
    | some b =>
      skip
      cases b with
      | false => exact fin_runOps C ops rest _ _
      | true =>
        refine Uses.of (fin_exec1 C (nth h) h.length T o) (fun a ρ _ => match a with
            | (Out.pan v, p) => some (some v, T, patch h p)
            | (Out.val v, p) => runOps C ρ ops rest (putT T o.dst v) (patch h p)) (fun a => ?_) ?_
        · obtain ⟨o', p⟩ := a
          cases o' with
          | pan v => exact .const _
          | val v => exact fin_runOps C ops rest _ _
        · intro ρ n
          cases exec1 C ρ (nth h) h.length T o with
          | none => rfl
          | some a => obtain ⟨o, p⟩ := a; cases o <;> rfl

theorem fin_runRec (C : Cfg) (ops : List Oper) : ∀ (l : List Oper) (T : Env) (h : Heap), Uses (fun ρ _ => runRec C ρ ops l T h)
  | [], T, h => by unfold runRec; exact .const _
  | o :: rest, T, h => by
    unfold runRec
    cases wanted ops T o with
    | none => exact .const none
    | some b =>
      skip
      cases b with
      | false =>
        dsimp only
        refine Uses.of (fin_runRec C ops rest (putT T o.dst .nov) h) (fun a _ _ => some (⟨[], .nov, []⟩ :: a.1, a.2.1, a.2.2)) (fun a => .const _) ?_
        intro ρ n
        cases runRec C ρ ops rest (putT T o.dst .nov) h with
        | none => rfl
        | some a => obtain ⟨l, T', h'⟩ := a; rfl
      | true =>
        refine Uses.of (fin_exec1 C (nth h) h.length T o) (fun a ρ _ => match a with
            | (Out.pan _, _) => none
            | (Out.val v, p) => match gapless h.length p with
              | false => none
              | true => match runRec C ρ ops rest (putT T o.dst v) (patch h p) with
                | none => none
                | some (l, T', h') => some (⟨foot C (nth h) T o, v, p⟩ :: l, T', h')) (fun a => ?_) ?_
        · obtain ⟨o', p⟩ := a
          cases o' with
          | pan v => exact .const _
          | val v =>
            dsimp only
            cases gapless h.length p with
            | false => exact .const _
            | true =>
              dsimp only
              refine Uses.of (fin_runRec C ops rest (putT T o.dst v) (patch h p)) (fun b _ _ => some (⟨foot C (nth h) T o, v, p⟩ :: b.1, b.2.1, b.2.2)) (fun b => .const _) ?_
              intro ρ n
              cases runRec C ρ ops rest (putT T o.dst v) (patch h p) with
              | none => rfl
              | some b => obtain ⟨l, T', h'⟩ := b; rfl
        · intro ρ n
          cases exec1 C ρ (nth h) h.length T o with
          | none => rfl
          | some a => obtain ⟨o, p⟩ := a; cases o <;> rfl

theorem fin_region (C : Cfg) (k : Nat) (ops : List Oper) (draw : Bool) (st : St) : Uses (fun ρ _ => region C ρ k ops draw st) := by
  unfold region
  cases dstOK k ops with
  | false => exact .const none
  | true =>
    dsimp only
    cases draw with
    | true =>
      dsimp only
      cases static ops with
      | false => exact Uses.const none
      | true =>
        refine Uses.of (fin_runRec C ops ops st.T st.h) (fun a _ _ => match calm (masks ops) (quietR (number 0 a.1)) with
            | true => some (Ex.normal, ⟨a.2.1, a.2.2⟩)
            | false => none) (fun a => .const _) ?_
        intro ρ n
        cases runRec C ρ ops ops st.T st.h with
        | none => rfl
        | some a => obtain ⟨l, T, h⟩ := a; rfl
    | false =>
      refine Uses.of (fin_runOps C ops ops st.T st.h) (fun a _ _ => match a with
          | (none, T, h) => some (Ex.normal, ⟨T, h⟩)
          | (some v, T, h) => some (Ex.pan v, ⟨T, h⟩)) (fun a => .const _) ?_
      intro ρ n
      cases runOps C ρ ops ops st.T st.h with
      | none => rfl
      | some a => obtain ⟨o, T, h⟩ := a; cases o <;> rfl

theorem fin_iter {gc : St → Option St} {body : Oracle → Nat → St → Option (Ex × St)} (hb : ∀ st, Uses (fun ρ n => body ρ n st)) :
    ∀ (fuel : Nat) (st : St) (ρ : Oracle) (n : Nat) (r : Ex × St), iter gc (body ρ n) fuel st = some r →
      ∃ L, Sat ρ L ∧ ∀ ρ' n' fuel', n ≤ n' → fuel ≤ fuel' → Sat ρ' L → iter gc (body ρ' n') fuel' st = some r
  | 0, st, ρ, n, r, hx => by simp [iter] at hx
  | fuel + 1, st, ρ, n, r, hx => by
    unfold iter at hx
    cases hg : gc st with
    | none => rw [hg] at hx; cases hx
    | some st1 =>
      rw [hg] at hx
      dsimp only at hx
      cases hbd : body ρ n st1 with
      | none => rw [hbd] at hx; cases hx
      | some a =>
        obtain ⟨e, st2⟩ := a
        obtain ⟨L, h1, h2'⟩ := hb st1 ρ n _ hbd
        have h2 : ∀ ρ' n', n ≤ n' → Sat ρ' L → body ρ' n' st1 = some (e, st2) := h2'
        clear h2'
        rw [hbd] at hx
        have stop : ∀ (hr : some (e, st2) = some r), (∀ x, e = .normal → x = fuel → False) → ∃ L, Sat ρ L ∧ ∀ ρ' n' fuel', n ≤ n' → fuel + 1 ≤ fuel' → Sat ρ' L → iter gc (body ρ' n') fuel' st = some r := by
          intro hr hne
          refine ⟨L, h1, fun ρ' n' fuel' hn hf hs => ?_⟩
          obtain ⟨f', rfl⟩ : ∃ f', fuel' = f' + 1 := ⟨fuel' - 1, by omega⟩
          unfold iter
          rw [hg]
          dsimp only
          rw [h2 ρ' n' hn hs]
          cases e with
          | normal => exact (hne fuel rfl rfl).elim
          | _ => exact hr
        cases e with
        | normal =>
          dsimp only at hx
          obtain ⟨L', h3, h4⟩ := fin_iter hb fuel st2 ρ n r hx
          refine ⟨L ++ L', Sat.append.2 ⟨h1, h3⟩, fun ρ' n' fuel' hn hf hs => ?_⟩
          obtain ⟨f', rfl⟩ : ∃ f', fuel' = f' + 1 := ⟨fuel' - 1, by omega⟩
          unfold iter
          rw [hg]
          dsimp only
          rw [h2 ρ' n' hn (Sat.append.1 hs).1]
          exact h4 ρ' n' f' hn (by omega) (Sat.append.1 hs).2
        | _ => exact stop hx (fun _ h => by cases h)

theorem fin_exec (C : Cfg) (m k : Nat) (keep : Nat → Option (List Nat)) : ∀ (c : Code) (st : St), Uses (fun ρ n => exec C ρ n m k keep c st)
  | .skip, st => by unfold exec; exact .const _
  | .region _ ops draw, st => by unfold exec; exact fin_region _ _ _ _ _
  | .seq a b, st => by
    unfold exec
    refine Uses.of (fin_exec C m k keep a st) (fun r ρ n => match r with
        | (Ex.normal, st) => exec C ρ n m k keep b st
        | r => some r) (fun r => ?_) ?_
    · obtain ⟨e, st'⟩ := r
      cases e with
      | normal => exact fin_exec C m k keep b st'
      | _ => exact .const _
    · intro ρ n
      skip
      cases exec C ρ n m k keep a st with
      | none => rfl
      | some r => obtain ⟨e, st⟩ := r; cases e <;> rfl
  | .cond c a b, st => by
    unfold exec
    generalize operand st.T c = v
    cases v with
    | t x =>
      cases x with
      | bool v => cases v with
        | true => exact fin_exec C m k keep a st
        | false => exact fin_exec C m k keep b st
      | _ => exact .const none
    | _ => exact .const none
  | .block id b, st => by
    unfold exec
    refine Uses.of (fin_exec C m k keep b st) (fun r _ _ => match r with
        | (Ex.exit id', st) => if id' = id then some (Ex.normal, st) else some (Ex.exit id', st)
        | r => some r) (fun r => .const _) ?_
    intro ρ n
    skip
    cases exec C ρ n m k keep b st with
    | none => rfl
    | some r => obtain ⟨e, st⟩ := r; cases e <;> rfl
  | .loop b, st => by
    intro ρ n r hx
    unfold exec at hx
    obtain ⟨L, h1, h2⟩ := fin_iter (body := fun ρ n st => exec C ρ n m k keep b st) (fun st => fin_exec C m k keep b st) n st ρ n r hx
    refine ⟨L, h1, fun ρ' n' hn hs => ?_⟩
    show exec C ρ' n' m k keep (.loop b) st = some r
    unfold exec
    exact h2 ρ' n' n' hn hn hs
  | .exit id, st => by unfold exec; exact .const _
  | .scope b, st => by unfold exec; exact fin_exec C m k keep b st
  | .label _, st => by unfold exec; exact .const _
  | .ret, st => by unfold exec; exact .const _
  | .rangeFunc .., st => by unfold exec; exact .const none
  | .goto _, st => by unfold exec; exact .const none
  | .refuse _, st => by unfold exec; exact .const none

theorem fin_callS (C : Cfg) (f : FuncId) (args : List AV) (h : Heap) : Uses (fun ρ n => callS C ρ n f args h) := by
  unfold callS
  cases nth C.P.funcs.toList f with
  | none => exact .const none
  | some fn =>
    dsimp only
    cases fn.body with
    | none => exact .const none
    | some c =>
      dsimp only
      refine Uses.of (fin_exec C h.length fn.ntmps (C.keep f) c ⟨argsT 0 args, h⟩) (fun r _ _ => match r with
          | (Ex.normal, st) | (Ex.ret, st) => match results C.P fn st with
            | none => none
            | some v => match finish C f h.length v st.h with
              | some (v, h) => some (Out.val v, h)
              | none => none
          | (Ex.pan v, st) => match finish C f h.length v st.h with
            | some (v, h) => some (Out.pan v, h)
            | none => none
          | _ => none) (fun r => .const _) ?_
      intro ρ n
      skip
      cases exec C ρ n h.length fn.ntmps (C.keep f) c ⟨argsT 0 args, h⟩ with
      | none => rfl
      | some r => obtain ⟨e, st⟩ := r; cases e <;> rfl

theorem exec_mono {C : Cfg} {ρ : Oracle} {m k n n' : Nat} {keep : Nat → Option (List Nat)} {c : Code} {st : St} {r : Ex × St} (hn : n ≤ n')
    (hx : exec C ρ n m k keep c st = some r) : exec C ρ n' m k keep c st = some r := by
  obtain ⟨L, h1, h2⟩ := fin_exec C m k keep c st ρ n r hx
  exact h2 ρ n' hn h1

theorem callN_step {C : Cfg} : ∀ (n : Nat) {f : FuncId} {args : List AV} {h : Heap} {r : Out × Heap}, callN C n f args h = some r → callN C (n + 1) f args h = some r
  | 0, f, args, h, r, hx => by simp [callN] at hx
  | n + 1, f, args, h, r, hx => by
    unfold callN at hx ⊢
    obtain ⟨L, h1, h2⟩ := fin_callS C f args h _ _ _ hx
    exact h2 _ _ (by omega) fun q hq => callN_step n (h1 q hq)

theorem callN_mono {C : Cfg} {n n' : Nat} (hn : n ≤ n') {f : FuncId} {args : List AV} {h : Heap} {r : Out × Heap} (hx : callN C n f args h = some r) : callN C n' f args h = some r := by
  induction hn with
  | refl => exact hx
  | step _ ih => exact callN_step _ ih

/-- What a function answers, with as much fuel as it wants. -/
def Ev (C : Cfg) (f : FuncId) (args : List AV) (h : Heap) (r : Out × Heap) : Prop := ∃ n, callN C n f args h = some r

theorem Ev.det {C : Cfg} {f : FuncId} {args : List AV} {h : Heap} {r r' : Out × Heap} (a : Ev C f args h r) (b : Ev C f args h r') : r = r' := by
  obtain ⟨n, hn⟩ := a
  obtain ⟨n', hn'⟩ := b
  have h1 := callN_mono (Nat.le_max_left n n') hn
  have h2 := callN_mono (Nat.le_max_right n n') hn'
  rw [h1] at h2
  exact Option.some.inj h2

open Classical in
noncomputable def Om (C : Cfg) : Oracle := fun f args h => if ex : ∃ r, Ev C f args h r then some ex.choose else none

theorem om_iff {C : Cfg} {f : FuncId} {args : List AV} {h : Heap} {r : Out × Heap} : Om C f args h = some r ↔ Ev C f args h r := by
  unfold Om
  split
  · rename_i ex
    constructor
    · intro hx; cases hx; exact ex.choose_spec
    · intro hx; exact congrArg some (ex.choose_spec.det hx)
  · rename_i ex
    constructor
    · intro hx; cases hx
    · intro hx; exact (ex ⟨r, hx⟩).elim

theorem sat_om {C : Cfg} : ∀ {L : List Ask}, Sat (Om C) L → ∃ N, ∀ n, N ≤ n → Sat (callN C n) L
  | [], _ => ⟨0, fun _ _ => Sat.nil⟩
  | q :: L, h => by
    obtain ⟨N, hN⟩ := sat_om (L := L) fun x hx => h x (List.mem_cons_of_mem _ hx)
    obtain ⟨N', hN'⟩ := om_iff.1 (h q (List.mem_cons_self ..))
    refine ⟨max N N', fun n hn x hx => ?_⟩
    rcases List.mem_cons.1 hx with rfl | hx
    · exact callN_mono (by omega) hN'
    · exact hN n (by omega) x hx

theorem om_call {C : Cfg} {n : Nat} {f : FuncId} {args : List AV} {h : Heap} {r : Out × Heap} (hx : callS C (Om C) n f args h = some r) : Om C f args h = some r := by
  obtain ⟨L, h1, h2⟩ := fin_callS C f args h _ _ _ hx
  obtain ⟨N, hN⟩ := sat_om h1
  refine om_iff.2 ⟨max N n + 1, ?_⟩
  unfold callN
  exact h2 _ _ (by omega) (hN _ (by omega))

theorem om_of_callN {C : Cfg} {n : Nat} {f : FuncId} {args : List AV} {h : Heap} {r : Out × Heap} (hx : callN C n f args h = some r) : Om C f args h = some r := om_iff.2 ⟨n, hx⟩

theorem om_of_callK {C : Cfg} {tbl : Oracle} (ht : ∀ f args h r, tbl f args h = some r → Om C f args h = some r) : ∀ {n : Nat} {f : FuncId} {args : List AV} {h : Heap} {r : Out × Heap},
    callK C tbl n f args h = some r → Om C f args h = some r
  | 0, f, args, h, r, hx => by simp [callK] at hx
  | n + 1, f, args, h, r, hx => by
    unfold callK at hx
    split at hx
    · rename_i r' hr
      cases hx
      exact ht _ _ _ _ hr
    · obtain ⟨L, h1, h2⟩ := fin_callS C f args h _ _ _ hx
      exact om_call (h2 (Om C) n (Nat.le_refl _) fun q hq => om_of_callK ht (h1 q hq))

theorem om_sound {C : Cfg} {w0 : World} (hm : C.P.follows .mixedOrders = true) (hpr : PrimOK C w0) : OracleOK C.P w0 (Om C) :=
  fun f args h out h' hx => by
    obtain ⟨n, hn⟩ := om_iff.1 hx
    exact callN_sound hm hpr n f args h out h' hn

end Go.Ab
