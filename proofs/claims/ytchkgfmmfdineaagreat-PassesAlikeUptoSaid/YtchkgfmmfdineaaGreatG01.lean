/- Each operation of the evaluator does what the model's does: strings, lengths, conversions. -/
import Derived.Test.YtchkgfmmfdineaaGreatG00
import Derived.Laws.BytesArg
import Derived.Laws.IdiomStrings
import Derived.Scope
import Derived.Orders
namespace Go.Ab

theorem lenOf_VR {γ : G} {g : Look} {x : AV} {u : Value} {n : Nat} (hx : lenOf g x = some n) (hv : VR γ g x u) : ∃ a c, u = .slice a n c := by
  unfold lenOf at hx
  split at hx
  · cases hx
    have ht := hv.of_tree
    cases ht
    exact ⟨_, _, rfl⟩
  · rename_i id ver
    cases hv with
    | hs _ _ a m cap ho hh =>
      split at hx
      · rename_i s ver' frz es hg
        split at hx
        · rename_i hver
          cases hx
          obtain ⟨b, s', hb, hd, _⟩ := hh (by rw [cur_arr hg, hver])
          rw [dims_arr hg] at hd; cases hd
          exact ⟨_, _, rfl⟩
        · cases hx
      · rename_i s ver' es hg
        split at hx
        · rename_i hver
          cases hx
          obtain ⟨b, s', hb, hd, _⟩ := hh (by unfold cur; rw [hg]; simp [hver])
          have hdd : dims g id = some (s, es.length) := by unfold dims; rw [hg]
          rw [hdd] at hd; cases hd
          exact ⟨_, _, rfl⟩
        · cases hx
      · cases hx
  · cases hx
    cases hv
    exact ⟨_, _, rfl⟩
  · cases hx

theorem sim_len {P : Program} {γ : G} {g : Look} {w : World} {t ty : TypeId} {ts : List TypeId} {x : List AV} {us : List Value} {v : AV} {p : Patch} (h : HR γ g w) (hx : VRs γ g x us)
    (hl : xLen P g t x = some (.val v, p)) : Good γ g w p v ((Builtin.len_ (t :: ts).toArray ty us.toArray).run P w) := by
  unfold xLen at hl
  split at hl
  · rename_i x
    obtain ⟨u, us', rfl, hu, hr⟩ := hx.cases_cons
    have := hr.nil_inv
    subst this
    have hint : ∀ n : Nat, Good γ g w [] (.t (.int .i64 (.ofNat n))) (.ok (goInt n) w) := fun n => .pure h (.t _ _ (.int _ _))
    split at hl
    · rename_i n e hut
      cases hl
      simp [Builtin.len_, run_und hut]
      exact hint n
    · rename_i s hut
      cases hl
      obtain ⟨rfl, _⟩ := hu.of_tree.str_inv
      simp [Builtin.len_, run_und hut, mkS_size]
      exact hint _
    · rename_i e hut
      split at hl
      · rename_i n hn
        cases hl
        obtain ⟨a, c, rfl⟩ := lenOf_VR hn hu
        simp [Builtin.len_, run_und hut]
        exact hint n
      · cases hl
    · cases hl
  · cases hl

theorem sim_maxmin {P : Program} {γ : G} {g : Look} {w : World} (lt : Bool) : ∀ {xs : List AV} {x : AV} {us : List Value} {u : Value} {v : AV}, HR γ g w → VR γ g x u → VRs γ g xs us → maxmin lt x xs = some v →
    Good γ g w [] v ((us.foldlM (if lt then Builtin.min2 else Builtin.max2) u).run P w)
  | [], x, us, u, v, h, hx, hxs, hm => by
    have := hxs.nil_inv
    subst this
    simp [maxmin] at hm
    subst hm
    exact .pure h hx
  | y :: xs, x, us, u, v, h, hx, hxs, hm => by
    obtain ⟨u', us', rfl, hu, hr⟩ := hxs.cases_cons
    unfold maxmin at hm
    split at hm
    · rename_i heq; cases heq
    · rename_i k a k' b rest heq
      cases heq
      split at hm
      · rename_i hk
        subst hk
        have h1 := hx.of_tree
        have h2 := hu.of_tree
        cases h1; cases h2
        simp only [List.foldlM_cons, Sem.run_bind]
        cases lt with
        | true =>
          have : (Builtin.min2 (.int k a) (.int k b)).run P w = .ok (.int k (if b < a then b else a)) w := rfl
          simp only [if_true, this, Result.andThen_ok]
          exact sim_maxmin true h (.t _ _ (by simpa using TR.int k _)) hr hm
        | false =>
          have : (Builtin.max2 (.int k a) (.int k b)).run P w = .ok (.int k (if b > a then b else a)) w := rfl
          simp only [Bool.false_eq_true, if_false, this, Result.andThen_ok]
          exact sim_maxmin false h (.t _ _ (by simpa using TR.int k _)) hr hm
      · cases hm
    · cases hm

/-! ### Conversions -/

theorem bytesOf_flat : ∀ {es : List (List Tree)} {bs : List Nat}, bytesOf es = some bs → ∃ ns : List Int, es = ns.map (fun n => [.int .u8 n]) ∧ bs = ns.map fun n => n.toNat % 256
  | [], bs, h => by simp [bytesOf] at h; subst h; exact ⟨[], rfl, rfl⟩
  | e :: es, bs, h => by
    unfold bytesOf at h
    split at h
    · rename_i heq; cases heq
    · rename_i n es' heq
      cases heq
      split at h
      · rename_i bs' hb
        cases h
        obtain ⟨ns, h1, h2⟩ := bytesOf_flat hb
        exact ⟨n :: ns, by rw [h1]; rfl, by rw [h2]; rfl⟩
      · cases h
    · cases h

theorem flat_bytes_inv {I : Imm} {ns : List Int} {vs : List Value} (h : Flat I 1 (ns.map fun n => [Tree.int .u8 n]) vs) : vs = ns.map fun n => Value.int .u8 n := by
  apply List.ext_getElem?
  intro i
  have hl := h.len
  simp at hl
  by_cases hi : i < ns.length
  · obtain ⟨v, h1, h2, _⟩ := h.val i 0 [.int .u8 ns[i]] (.int .u8 ns[i]) (by simp [hi]) rfl
    cases h2
    simp at h1
    rw [h1]; simp [hi]
  · rw [List.getElem?_eq_none (by omega), List.getElem?_eq_none (by simp; omega)]

theorem ofNat_mod (n : Nat) : UInt8.ofNat (n % 256) = UInt8.ofNat n := by
  apply UInt8.toNat.inj
  simp

theorem foldl_mkS (ns : List Int) : ns.foldl (fun r n => r.push (UInt8.ofNat n.toNat)) ByteArray.empty = mkS (ns.map fun n => n.toNat % 256) := by
  rw [foldl_push_bytes]
  apply ByteArray.ext
  simp [mkS, ByteArray.empty, ByteArray.emptyWithCapacity, Function.comp_def, ofNat_mod]
  rfl

theorem sim_convert {P : Program} {γ : G} {g : Look} {w : World} {nid : Nat} {src dst : TypeId} {x v : AV} {u : Value} {p : Patch} (h : HR γ g w) (hn : (∃ o, (nid, o) ∈ p) → γ.β nid = none) (hg : (∃ o, (nid, o) ∈ p) → g nid = none)
    (hv : VR γ g x u) (hx : convert P g nid src dst x = some (.val v, p)) : Good γ g w p v ((Go.convert src dst u).run P w) := by
  unfold convert at hx
  split at hx
  · rename_i d k k' n hs hd
    cases hx
    have ht := hv.of_tree
    cases ht
    have : (Go.convert src dst (.int k' n)).run P w = .ok (.int k (k.wrap n)) w := by
      simp [Go.convert, run_und hs, run_und hd, Conv.intToInt]
    rw [this]
    exact .pure h (.t _ _ (.int _ _))
  · rename_i d s hs hd
    cases hx
    obtain ⟨rfl, hb⟩ := hv.of_tree.str_inv
    have : (Go.convert src dst (.string (mkS s))).run P w = .ok (.string (mkS s)) w := by
      simp [Go.convert, run_und hs, run_und hd]
    rw [this]
    exact .pure h (.t _ _ (.mkS hb))
  · rename_i e s hs hd
    split at hx
    · rename_i he
      cases hx
      obtain ⟨rfl, hb⟩ := hv.of_tree.str_inv
      rw [run_bytes_of_string w src dst e (mkS s) (und_eq hs) (und_eq hd) (und_eq he)]
      have hge := grownCap_ge w (mkS s).size 0 e
      rw [mkS_size] at hge ⊢
      have hC : bytesRow (mkS s) (grownCap w s.length 0 e) = (s.map fun b : Nat => Value.int .u8 (b : Int)).toArray ++ Array.replicate (grownCap w s.length 0 e - s.length) (.int .u8 0) := by
        unfold bytesRow; rw [mkS_bytes hb, mkS_size]
      have hlen : s.length = (byteCells s).length := by simp [byteCells]
      have := new_arr (nid := nid) (s := 1) (cap := grownCap w s.length 0 e) (es := byteCells s) (c := bytesRow (mkS s) (grownCap w s.length 0 e)) (ty := e)
        (fr := ((bytesRow (mkS s) (grownCap w s.length 0 e)).size, (bytesRow (mkS s) (grownCap w s.length 0 e)).size + 1)) (hn ⟨_, .head _⟩) (hg ⟨_, .head _⟩) h
        (w' := w.drew.alloc (.cells (bytesRow (mkS s) (grownCap w s.length 0 e)) e ((bytesRow (mkS s) (grownCap w s.length 0 e)).size, (bytesRow (mkS s) (grownCap w s.length 0 e)).size + 1))) rfl
        (fun i hi hh => by omega) (byteCells_len s) (by rw [← hlen]; exact hge) (by rw [hC]; simp; omega)
        ((flat_bytes γ.imm s).cells (byteCells_len s) fun k hk => by
          rw [hC, Array.getElem?_append_left (by simpa [byteCells] using hk)]; simp)
      rw [← hlen] at this
      exact this
    · cases hx
  · rename_i e hs hd hnot
    split at hx
    · rename_i he
      split at hx
      · rename_i es hes
        split at hx
        · rename_i bs hbs
          cases hx
          obtain ⟨ns, rfl, rfl⟩ := bytesOf_flat hbs
          have hb : ∀ b ∈ ns.map (fun n : Int => n.toNat % 256), b < 256 := fun b hbm => by
            obtain ⟨n, _, rfl⟩ := List.mem_map.1 hbm
            exact Nat.mod_lt _ (by decide)
          obtain ⟨a, cap, vs, rfl, hle, hf, hc⟩ := elems_cells (n := 1) h hes hv (fun e he => by obtain ⟨b, _, rfl⟩ := List.mem_map.1 he; rfl)
          have hvs := flat_bytes_inv hf
          have hgood : Good γ g w [] (.t (.str (ns.map fun n => n.toNat % 256))) (.ok (.string (mkS (ns.map fun n => n.toNat % 256))) w) := .pure h (.t _ _ (.mkS hb))
          cases a with
          | none =>
            have : vs = [] := by
              cases vs with
              | nil => rfl
              | cons v vs => obtain ⟨b, o, hh, _⟩ := hc 0 v rfl; cases hh
            rw [this] at hvs
            have hbs0 : ns = [] := by simpa using hvs.symm
            subst hbs0
            rw [run_convert_bytes_nil w src e (und_eq hs) (und_eq he) _ _ dst (und_eq hd)]
            exact hgood
          | some a =>
            rw [run_convert_bytes_string w src dst e _ _ _ (und_eq hs) (und_eq he) (und_eq hd)]
            have hl := run_loadCells_list (P := P) w a vs (fun j v hj => by
              obtain ⟨b, o, ha, hcc⟩ := hc j v hj
              cases ha
              rw [addr_add]; exact hcc)
            rw [run_bytesToString w a _ cap ns (by
              have e1 : (ns.map fun n => [Tree.int .u8 n]).length = vs.length := by rw [hvs]; simp
              rw [e1, hl, hvs]), foldl_mkS]
            exact hgood
        · cases hx
      · cases hx
    · cases hx
  · cases hx

/-! ### Ranging over a string -/

theorem sim_range {P : Program} {γ : G} {g : Look} {w : World} {nid : Nat} {t : TypeId} {x v : AV} {u : Value} {p : Patch} (h : HR γ g w) (hn : γ.β nid = none) (hg : g nid = none)
    (hv : VR γ g x u) (hx : xRange P nid t x = some (.val v, p)) : Good γ g w p v ((Instr.range t u).run P w) := by
  unfold xRange at hx
  split at hx
  · rename_i s hu
    cases hx
    obtain ⟨rfl, hb⟩ := hv.of_tree.str_inv
    have hrun : (Instr.range t (.string (mkS s))).run P w = .ok (.pointer (some ⟨w.heap.size, 0, none⟩)) (w.alloc (.stringIter (mkS s) 0)) := by
      simp [Instr.range, run_und hu]
    rw [hrun]
    obtain ⟨h1, h2, h3⟩ := new_block (n := 0) (w' := w.alloc (.stringIter (mkS s) 0)) (o := .siter s 0) (X := .stringIter (mkS s) 0) hn hg h rfl
      ⟨by show (w.heap.push (.stringIter (mkS s) 0))[w.heap.size]? = _; rw [Array.getElem?_push]; simp; rfl, fun o => imm_none_new h o⟩
    refine ⟨_, _, _, rfl, h1, h2, .box nid 0 _ (by simp [G.new]) ?_, h3⟩
    unfold cur; rw [upd_one, if_pos rfl]
  · cases hx

theorem sim_next {P : Program} {γ : G} {g : Look} {w : World} {t : TypeId} {x v : AV} {u : Value} {p : Patch} (h : HR γ g w) (hv : VR γ g x u)
    (hx : xNext g x = some (.val v, p)) : Good γ g w p v ((Instr.next u true t).run P w) := by
  unfold xNext at hx
  split at hx
  · rename_i id
    split at hx
    · rename_i s pos hg
      cases hv with
      | box _ _ b hb hc =>
        obtain ⟨o, ho, hor⟩ := h.obj id b hb
        rw [hg] at ho; cases ho
        obtain ⟨k1, k2⟩ := hor
        have hblt : b < w.heap.size := h.lt hb
        have hobj : (getObj b).run P w = .ok (.stringIter (mkS s) pos) w := by
          unfold getObj; simp only [Sem.run, k1]; rfl
        split at hx
        · rename_i hpos
          cases hx
          have hset : ∀ o, (setObj b o).run P w = .ok () { w with heap := w.heap.setIfInBounds b o } := fun o => by
            unfold setObj; simp only [Sem.run, k1]
          have hsz : pos < (mkS s).size := by rw [mkS_size]; exact hpos
          have hrun : (Instr.next (.pointer (some ⟨b, 0, none⟩)) true t).run P w =
              .ok (.tuple #[.bool true, goInt pos, .int .i32 (Utf8.decode (mkS s) pos).1]) { w with heap := w.heap.setIfInBounds b (.stringIter (mkS s) (pos + (Utf8.decode (mkS s) pos).2)) } := by
            simp only [Instr.next, Sem.run_bind, hobj, Result.andThen_ok, hsz, if_true, hset, Sem.run_pure]
          rw [hrun]
          have hcur : cur (upd g [(id, .siter s (pos + (Utf8.decode (mkS s) pos).2))]) id = cur g id := by unfold cur; rw [upd_one, if_pos rfl, hg]
          have hdim : dims (upd g [(id, .siter s (pos + (Utf8.decode (mkS s) pos).2))]) id = dims g id := by unfold dims; rw [upd_one, if_pos rfl, hg]
          obtain ⟨e, hh, f⟩ := sim_set (w' := { w with heap := w.heap.setIfInBounds b (.stringIter (mkS s) (pos + (Utf8.decode (mkS s) pos).2)) }) (o' := .siter s (pos + (Utf8.decode (mkS s) pos).2)) h hb k2 hcur hdim
            (fun b' hb' => by rw [Array.getElem?_setIfInBounds, if_neg (fun e => hb' e.symm)]) (by simp)
            ⟨by rw [Array.getElem?_setIfInBounds, if_pos rfl, if_pos hblt]; rfl, k2⟩
          refine ⟨_, _, γ, rfl, e, hh, ?_, f⟩
          exact .tup _ [.bool true, goInt pos, .int .i32 (Utf8.decode (mkS s) pos).1] rfl fun i c v hc hv => by
            match i with
            | 0 => simp at hc hv; subst hc; subst hv; exact .t _ _ (.bool _)
            | 1 => simp at hc hv; subst hc; subst hv; exact .t _ _ (.int _ _)
            | 2 => simp at hc hv; subst hc; subst hv; exact .t _ _ (.int _ _)
            | i + 3 => simp at hc
        · rename_i hpos
          cases hx
          have hsz : ¬ pos < (mkS s).size := by rw [mkS_size]; exact hpos
          have hrun : (Instr.next (.pointer (some ⟨b, 0, none⟩)) true t).run P w = .ok (.tuple #[.bool false]) w := by
            simp only [Instr.next, Sem.run_bind, hobj, Result.andThen_ok, hsz, if_false, Sem.run_pure]
          rw [hrun]
          exact .pure h (.tup _ [.bool false] rfl fun i c v hc hv => by
            match i with
            | 0 => simp at hc hv; subst hc; subst hv; exact .t _ _ (.bool _)
            | i + 1 => simp at hc)
    · cases hx
  · cases hx

end Go.Ab
/- A call: the part of the heap that goes along, and what comes back. -/
namespace Go.Ab

/-- The blocks that were there at first are as they were, and none of them is the evaluator's. -/
def Base (w0 : World) (γ : G) (w : World) : Prop := w0.heap.size ≤ w.heap.size ∧ ∀ b, b < w0.heap.size → w.heap[b]? = w0.heap[b]? ∧ ∀ id, γ.β id ≠ some b

theorem Base.mono {w0 : World} {γ γ' : G} {w w' : World} (h : Base w0 γ w) (f : Fr γ w γ' w') : Base w0 γ' w' := by
  refine ⟨Nat.le_trans h.1 f.size, fun b hb => ⟨?_, fun id hid => ?_⟩⟩
  · rw [f.keep b (by have := h.1; omega) (h.2 b hb).2]; exact (h.2 b hb).1
  · rcases f.rng id b hid with h1 | ⟨i, h1⟩
    · have := h.1; omega
    · exact (h.2 b hb).2 i h1

/-- What stays of the first objects, whatever becomes of their versions. -/
structure Keep (m : Nat) (γ : G) (g : Look) (γ' : G) (g' : Look) : Prop where
  box : ∀ id b, id < m → γ.β id = some b → cur g id = none → γ'.β id = some b ∧ cur g' id = none
  arr : ∀ id, id < m → cur g id ≠ none → cur g' id ≠ none

theorem Ext.keep {γ γ' : G} {g g' : Look} (e : Ext γ g γ' g') (m : Nat) : Keep m γ g γ' g' := by
  refine ⟨fun id b _ hb hc => e.box id b hb hc, fun id _ hc => ?_⟩
  cases h : cur g id with
  | none => exact absurd h hc
  | some c => obtain ⟨c', h1, _⟩ := e.arr id c h; rw [h1]; simp

theorem Keep.trans {m : Nat} {γ₁ γ₂ γ₃ : G} {g₁ g₂ g₃ : Look} (h : Keep m γ₁ g₁ γ₂ g₂) (h' : Keep m γ₂ g₂ γ₃ g₃) : Keep m γ₁ g₁ γ₃ g₃ := by
  refine ⟨fun id b hm hb hc => ?_, fun id hm hc => h'.arr id hm (h.arr id hm hc)⟩
  obtain ⟨h1, h2⟩ := h.box id b hm hb hc
  exact h'.box id b hm h1 h2

/-- How a call ends. -/
def Ends (γ : G) (g : Look) : Out → Ending → Prop
  | .val v, .returned u => VR γ g v u
  | .pan v, .panicked chain => ∃ u, chain = [{ v := u, recovered := false }] ∧ VR γ g v u
  | _, _ => False

/-- What is promised of a call. -/
def CallOK (P : Program) (w0 : World) (f : FuncId) (args : List AV) (h : Heap) (out : Out) (h' : Heap) : Prop :=
  ∀ (γ : G) (w : World) (vs : List Value), HR γ (nth h) w → Base w0 γ w → VRs γ (nth h) args vs →
    Calls P f vs.toArray w fun e w' => ∃ γ', HR γ' (nth h') w' ∧ Fr γ w γ' w' ∧ ImmLe γ.imm γ'.imm ∧ Keep h.length γ (nth h) γ' (nth h') ∧ Ends γ' (nth h') out e

def OracleOK (P : Program) (w0 : World) (ρ : Oracle) : Prop := ∀ f args h out h', ρ f args h = some (out, h') → CallOK P w0 f args h out h'

/-! ### Renumbering -/

theorem mem_place {n : Nat} : ∀ {l : List Nat}, mem n l = true → l[place n l]? = some n
  | [], h => by simp [mem] at h
  | a :: l, h => by
    unfold mem at h
    unfold place
    split at h
    · rename_i hb
      have := Nat.eq_of_beq_eq_true hb
      subst this
      simp
    · rename_i hb
      simp [mem_place h]

theorem mem_iff {n : Nat} : ∀ {l : List Nat}, mem n l = true ↔ n ∈ l
  | [] => by simp [mem]
  | a :: l => by
    unfold mem
    cases hb : Nat.beq a n with
    | true => have := Nat.eq_of_beq_eq_true hb; subst this; simp
    | false =>
      have := Nat.ne_of_beq_eq_false hb
      simp [mem_iff (l := l), Ne.symm this]

theorem reach_nodup {g : Look} : ∀ (n : Nat) (todo acc r : List Nat), reach g n todo acc = some r → acc.Nodup → r.Nodup
  | 0, _, _, _, h, _ => by simp [reach] at h
  | _ + 1, [], acc, r, h, hn => by simp [reach] at h; subst h; exact hn
  | n + 1, id :: todo, acc, r, h, hn => by
    unfold reach at h
    split at h
    · exact reach_nodup n _ _ _ h hn
    · rename_i hm
      split at h
      · refine reach_nodup n _ _ _ h ?_
        rw [List.nodup_append]
        refine ⟨hn, by simp, fun a ha b hb => ?_⟩
        simp at hb
        subst hb
        intro e
        subst e
        have := mem_iff.2 ha
        rw [this] at hm; cases hm
      · cases h

theorem sub1_spec {g : Look} {ids : List Nat} : ∀ {l : List Nat} {h : Heap}, sub1 g ids l = some h → h.length = l.length ∧ ∀ (k id : Nat), l[k]? = some id → ∃ o, g id = some o ∧ h[k]? = some (renO g ids o)
  | [], h, hs => by simp [sub1] at hs; subst hs; exact ⟨rfl, fun k id hk => by simp at hk⟩
  | i :: l, h, hs => by
    unfold sub1 at hs
    split at hs
    · cases hs
    · rename_i o ho
      split at hs
      · cases hs
      · rename_i os hos
        cases hs
        obtain ⟨h1, h2⟩ := sub1_spec hos
        refine ⟨by simp [h1], fun k id hk => ?_⟩
        cases k with
        | zero => simp at hk; subst hk; exact ⟨o, ho, rfl⟩
        | succ k => simpa using h2 k id (by simpa using hk)

/-- The callee's view of where things lie. -/
def G.sub (γ : G) (ids : List Nat) : G :=
  { β := fun k => match ids[k]? with
      | some id => γ.β id
      | none => none
    sz := fun k => γ.sz (ids.getD k 0)
    imm := γ.imm }

theorem cur_renO {g g' : Look} {ids : List Nat} {o : Obj} {id k : Nat} (h : g id = some o) (h' : g' k = some (renO g ids o)) :
    (cur g id = none → cur g' k = none) ∧ (∀ c, cur g id = some c → cur g' k = some 0) ∧ (cur g id ≠ none → dims g' k = dims g id) ∧ (cur g' k ≠ none → cur g id ≠ none) := by
  unfold cur dims
  rw [h, h']
  cases o <;> simp [renO]

theorem ren_VR {γ : G} {g : Look} {ids : List Nat} {h : Heap} (hs : Ab.sub g ids = some h) : ∀ (d : Nat) {x : AV} {u : Value}, VR γ g x u → VR (γ.sub ids) (nth h) (ren g ids d x) u
  | 0, _, u, _ => .unk u
  | d + 1, x, u, hv => by
    obtain ⟨hlen, hspec⟩ := sub1_spec hs
    have look : ∀ {id : Nat}, mem id ids = true → ∃ o, g id = some o ∧ nth h (place id ids) = some (renO g ids o) ∧ ids[place id ids]? = some id := fun {id} hm => by
      have hp := mem_place hm
      obtain ⟨o, h1, h2⟩ := hspec _ _ hp
      exact ⟨o, h1, by rw [nth_eq]; exact h2, hp⟩
    have hβ : ∀ {id : Nat}, ids[place id ids]? = some id → (γ.sub ids).β (place id ids) = γ.β id := fun {id} hp => by simp only [G.sub, hp]
    have hsz : ∀ {id : Nat}, ids[place id ids]? = some id → (γ.sub ids).sz (place id ids) = γ.sz id := fun {id} hp => by simp only [G.sub, List.getD, hp, Option.getD_some]
    cases hv with
    | t x v hh => exact .t x u hh
    | nov => exact .nov
    | unk v => exact .unk _
    | box id off b hb hc =>
      cases hm : mem id ids with
      | false => simp only [ren, hm, cond_false]; exact .unk _
      | true =>
        simp only [ren, hm, cond_true]
        obtain ⟨o, h1, h2, h3⟩ := look hm
        exact .box _ off b (by rw [hβ h3]; exact hb) ((cur_renO h1 h2).1 hc)
    | el id ver i off a ho hh =>
      cases hm : (fresh g id ver && mem id ids) with
      | false => simp only [ren, hm, cond_false]; exact .unk _
      | true =>
        simp only [ren, hm, cond_true]
        simp only [Bool.and_eq_true] at hm
        obtain ⟨hf, hm⟩ := hm
        have hcu := fresh_iff.1 hf
        obtain ⟨o, h1, h2, h3⟩ := look hm
        obtain ⟨_, c2, c3, _⟩ := cur_renO h1 h2
        have hc0 := c2 _ hcu
        refine .el _ 0 i off a ⟨0, hc0, Nat.le_refl _⟩ fun _ => ?_
        obtain ⟨b, s, n, a1, a2, a3⟩ := hh hcu
        exact ⟨b, s, n, by rw [hβ h3]; exact a1, by rw [c3 (by rw [hcu]; simp)]; exact a2, a3⟩
    | rp cs b o val h1 h2 => exact .rp cs b o val h1 h2
    | hs id ver a n cap ho hh =>
      cases hm : (fresh g id ver && mem id ids) with
      | false => simp only [ren, hm, cond_false]; exact .unk _
      | true =>
        simp only [ren, hm, cond_true]
        simp only [Bool.and_eq_true] at hm
        obtain ⟨hf, hm⟩ := hm
        have hcu := fresh_iff.1 hf
        obtain ⟨o, h1, h2, h3⟩ := look hm
        obtain ⟨_, c2, c3, _⟩ := cur_renO h1 h2
        have hc0 := c2 _ hcu
        refine .hs _ 0 a n cap ⟨0, hc0, Nat.le_refl _⟩ fun _ => ?_
        obtain ⟨b, s, a1, a2, a3, a4, a5⟩ := hh hcu
        exact ⟨b, s, by rw [hβ h3]; exact a1, by rw [c3 (by rw [hcu]; simp)]; exact a2, a3, a4, by rw [hsz h3]; exact a5⟩
    | hsub id ver lo len a cap ho hh =>
      cases hm : (fresh g id ver && mem id ids) with
      | false => simp only [ren, hm, cond_false]; exact .unk _
      | true =>
        simp only [ren, hm, cond_true]
        simp only [Bool.and_eq_true] at hm
        obtain ⟨hf, hm⟩ := hm
        have hcu := fresh_iff.1 hf
        obtain ⟨o, h1, h2, h3⟩ := look hm
        obtain ⟨_, c2, c3, _⟩ := cur_renO h1 h2
        have hc0 := c2 _ hcu
        refine .hsub _ 0 lo len a cap ⟨0, hc0, Nat.le_refl _⟩ fun _ => ?_
        obtain ⟨b, s, n, a1, a2, a3, a4, a5⟩ := hh hcu
        exact ⟨b, s, n, by rw [hβ h3]; exact a1, by rw [c3 (by rw [hcu]; simp)]; exact a2, a3, a4, a5⟩
    | agg cs vs hl hh =>
      refine .agg (cs.map (ren g ids d)) vs (by simpa using hl) fun i c v hc hv => ?_
      rw [List.getElem?_map] at hc
      cases hci : cs[i]? with
      | none => rw [hci] at hc; cases hc
      | some c0 => rw [hci] at hc; cases hc; exact ren_VR hs d (hh i c0 v hci hv)
    | fn f as bs us vs hl hl' hh hh' =>
      refine .fn f (as.map (ren g ids d)) (bs.map (ren g ids d)) us vs (by simpa using hl) (by simpa using hl') (fun i c v hc hv => ?_) (fun i c v hc hv => ?_)
      · rw [List.getElem?_map] at hc
        cases hci : as[i]? with
        | none => rw [hci] at hc; cases hc
        | some c0 => rw [hci] at hc; cases hc; exact ren_VR hs d (hh i c0 v hci hv)
      · rw [List.getElem?_map] at hc
        cases hci : bs[i]? with
        | none => rw [hci] at hc; cases hc
        | some c0 => rw [hci] at hc; cases hc; exact ren_VR hs d (hh' i c0 v hci hv)
    | tup cs vs hl hh =>
      refine .tup (cs.map (ren g ids d)) vs (by simpa using hl) fun i c v hc hv => ?_
      rw [List.getElem?_map] at hc
      cases hci : cs[i]? with
      | none => rw [hci] at hc; cases hc
      | some c0 => rw [hci] at hc; cases hc; exact ren_VR hs d (hh i c0 v hci hv)

theorem VRs.map {γ γ' : G} {g g' : Look} {f : AV → AV} (hf : ∀ x u, VR γ g x u → VR γ' g' (f x) u) {xs : List AV} {vs : List Value} (h : VRs γ g xs vs) : VRs γ' g' (xs.map f) vs := by
  refine ⟨by simpa using h.1, fun i x v hx hv => ?_⟩
  rw [List.getElem?_map] at hx
  cases hi : xs[i]? with
  | none => rw [hi] at hx; cases hx
  | some y => rw [hi] at hx; cases hx; exact hf _ _ (h.2 i y v hi hv)

theorem renL_VRs {γ : G} {g : Look} {ids : List Nat} {h : Heap} (hs : Ab.sub g ids = some h) {xs : List AV} {vs : List Value} (hv : VRs γ g xs vs) : VRs (γ.sub ids) (nth h) (renL g ids xs) vs :=
  hv.map fun _ _ hx => ren_VR hs depth hx

theorem renO_OR {γ : G} {g : Look} {w : World} {ids : List Nat} {h : Heap} (hs : Ab.sub g ids = some h) {id k b : Nat} {o : Obj} (hk : ids[k]? = some id) (ho : OR γ g w id b o) :
    OR (γ.sub ids) (nth h) w k b (renO g ids o) := by
  have hsz : (γ.sub ids).sz k = γ.sz id := by simp only [G.sub, List.getD, hk, Option.getD_some]
  cases o with
  | box cs =>
    obtain ⟨⟨c, ty, fr, h1, h2, h3⟩, h4⟩ := ho
    exact ⟨⟨c, ty, fr, h1, h2, renL_VRs hs h3⟩, h4⟩
  | arr s ver frz es =>
    obtain ⟨⟨c, ty, fr, h1, h2, h3, h4, h5, h6, h7⟩, h8⟩ := ho
    exact ⟨⟨c, ty, fr, h1, h2, h3.trans hsz.symm, h4, h5, h6, h7⟩, h8⟩
  | marr s ver es =>
    obtain ⟨⟨c, ty, fr, h1, h2, h3, h4, h5, h6⟩, h8⟩ := ho
    refine ⟨⟨c, ty, fr, h1, h2, h3.trans hsz.symm, by simpa using h4, fun e he => ?_, fun i j e t v he ht hv => ?_⟩, h8⟩
    · obtain ⟨e0, he0, rfl⟩ := List.mem_map.1 he
      simp [renL, h5 e0 he0]
    · rw [List.getElem?_map] at he
      cases hi : es[i]? with
      | none => rw [hi] at he; cases he
      | some e0 =>
        rw [hi] at he; cases he
        unfold renL at ht
        rw [List.getElem?_map] at ht
        cases hj : e0[j]? with
        | none => rw [hj] at ht; cases ht
        | some t0 => rw [hj] at ht; cases ht; exact ren_VR hs depth (h6 i j e0 t0 v hi hj hv)
  | siter s pos => exact ho
  | dead => exact ho

theorem sub_HR {γ : G} {g : Look} {w : World} {ids : List Nat} {h : Heap} (hr : HR γ g w) (hs : Ab.sub g ids = some h) (hn : ids.Nodup) : HR (γ.sub ids) (nth h) w := by
  obtain ⟨hlen, hspec⟩ := sub1_spec hs
  refine ⟨fun k b hb => ?_, fun k k' b hb hb' => ?_, hr.imm⟩
  · cases hk : ids[k]? with
    | none => simp only [G.sub, hk] at hb; cases hb
    | some id =>
      simp only [G.sub, hk] at hb
      obtain ⟨o, ho, hor⟩ := hr.obj id b hb
      obtain ⟨o', ho', hh⟩ := hspec k id hk
      rw [ho] at ho'; cases ho'
      exact ⟨renO g ids o, by rw [nth_eq]; exact hh, renO_OR hs hk hor⟩
  · cases hk : ids[k]? with
    | none => simp only [G.sub, hk] at hb; cases hb
    | some id =>
      cases hk' : ids[k']? with
      | none => simp only [G.sub, hk'] at hb'; cases hb'
      | some id' =>
        simp only [G.sub, hk] at hb
        simp only [G.sub, hk'] at hb'
        have := hr.inj id id' b hb hb'
        subst this
        have h1 := getElem_lt hk
        have h2 := getElem_lt hk'
        rw [List.getElem?_eq_getElem h1] at hk
        rw [List.getElem?_eq_getElem h2] at hk'
        exact (List.getElem_inj hn).1 (by rw [Option.some.inj hk, Option.some.inj hk'])

/-! ### The way back -/

/-- Where things lie behind the call, for the caller. -/
structure Back (y : Way) (γ : G) (γ' : G) (g' : Look) : Prop where
  β : ∀ k b, γ.β k = some b → γ'.β (y.id k) = some b
  none : ∀ k, cur y.g k = none → (∃ b, γ.β k = some b) → cur g' (y.id k) = none
  cur : ∀ k c, cur y.g k = some c → cur g' (y.id k) = some (y.ver k)
  dims : ∀ k c, Ab.cur y.g k = some c → dims g' (y.id k) = Ab.dims y.g k ∧ γ'.sz (y.id k) = γ.sz k
  imm : γ'.imm = γ.imm

theorem back_VR {y : Way} {γ γ' : G} {g' : Look} (hb : Back y γ γ' g') : ∀ (d : Nat) {x : AV} {u : Value}, VR γ y.g x u → VR γ' g' (back y d x) u
  | 0, _, u, _ => .unk u
  | d + 1, x, u, hv => by
    cases hv with
    | t x v hh => exact .t x u (by rw [hb.imm]; exact hh)
    | nov => exact .nov
    | unk v => exact .unk _
    | box k off b hk hc => exact .box _ off b (hb.β k b hk) (hb.none k hc ⟨b, hk⟩)
    | el k ver i off a ho hh =>
      cases hm : fresh y.g k ver with
      | false => simp only [back, hm, cond_false]; exact .unk _
      | true =>
        simp only [back, hm, cond_true]
        have hcu := fresh_iff.1 hm
        have hc := hb.cur k ver hcu
        refine .el _ _ i off a ⟨_, hc, Nat.le_refl _⟩ fun _ => ?_
        obtain ⟨b, s, n, a1, a2, a3⟩ := hh hcu
        exact ⟨b, s, n, hb.β k b a1, by rw [(hb.dims k ver hcu).1]; exact a2, a3⟩
    | rp cs b o val h1 h2 => exact .rp cs b o val (by rw [hb.imm]; exact h1) (by rw [hb.imm]; exact h2)
    | hs k ver a n cap ho hh =>
      cases hm : fresh y.g k ver with
      | false => simp only [back, hm, cond_false]; exact .unk _
      | true =>
        simp only [back, hm, cond_true]
        have hcu := fresh_iff.1 hm
        have hc := hb.cur k ver hcu
        refine .hs _ _ a n cap ⟨_, hc, Nat.le_refl _⟩ fun _ => ?_
        obtain ⟨b, s, a1, a2, a3, a4, a5⟩ := hh hcu
        exact ⟨b, s, hb.β k b a1, by rw [(hb.dims k ver hcu).1]; exact a2, a3, a4, by rw [(hb.dims k ver hcu).2]; exact a5⟩
    | hsub k ver lo len a cap ho hh =>
      cases hm : fresh y.g k ver with
      | false => simp only [back, hm, cond_false]; exact .unk _
      | true =>
        simp only [back, hm, cond_true]
        have hcu := fresh_iff.1 hm
        have hc := hb.cur k ver hcu
        refine .hsub _ _ lo len a cap ⟨_, hc, Nat.le_refl _⟩ fun _ => ?_
        obtain ⟨b, s, n, a1, a2, a3, a4, a5⟩ := hh hcu
        exact ⟨b, s, n, hb.β k b a1, by rw [(hb.dims k ver hcu).1]; exact a2, a3, a4, a5⟩
    | agg cs vs hl hh =>
      refine .agg (cs.map (back y d)) vs (by simpa using hl) fun i c v hc hv => ?_
      rw [List.getElem?_map] at hc
      cases hci : cs[i]? with
      | none => rw [hci] at hc; cases hc
      | some c0 => rw [hci] at hc; cases hc; exact back_VR hb d (hh i c0 v hci hv)
    | fn f as bs us vs hl hl' hh hh' =>
      refine .fn f (as.map (back y d)) (bs.map (back y d)) us vs (by simpa using hl) (by simpa using hl') (fun i c v hc hv => ?_) (fun i c v hc hv => ?_)
      · rw [List.getElem?_map] at hc
        cases hci : as[i]? with
        | none => rw [hci] at hc; cases hc
        | some c0 => rw [hci] at hc; cases hc; exact back_VR hb d (hh i c0 v hci hv)
      · rw [List.getElem?_map] at hc
        cases hci : bs[i]? with
        | none => rw [hci] at hc; cases hc
        | some c0 => rw [hci] at hc; cases hc; exact back_VR hb d (hh' i c0 v hci hv)
    | tup cs vs hl hh =>
      refine .tup (cs.map (back y d)) vs (by simpa using hl) fun i c v hc hv => ?_
      rw [List.getElem?_map] at hc
      cases hci : cs[i]? with
      | none => rw [hci] at hc; cases hc
      | some c0 => rw [hci] at hc; cases hc; exact back_VR hb d (hh i c0 v hci hv)

theorem backO_OR {y : Way} {γ γ' : G} {g' : Look} {w : World} (hb : Back y γ γ' g') {k b : Nat} {o : Obj} (hk : y.g k = some o) (ho : OR γ y.g w k b o) :
    OR γ' g' w (y.id k) b (backO y (y.ver k) o) := by
  cases o with
  | box cs =>
    obtain ⟨⟨c, ty, fr, h1, h2, h3⟩, h4⟩ := ho
    exact ⟨⟨c, ty, fr, h1, h2, h3.map fun _ _ hx => back_VR hb depth hx⟩, by rw [hb.imm]; exact h4⟩
  | arr s ver frz es =>
    obtain ⟨⟨c, ty, fr, h1, h2, h3, h4, h5, h6, h7⟩, h8⟩ := ho
    have hsz := (hb.dims k ver (cur_arr hk)).2
    exact ⟨⟨c, ty, fr, h1, h2, h3.trans hsz.symm, h4, h5, by rw [hb.imm]; exact h6, by rw [hb.imm]; exact h7⟩, by rw [hb.imm]; exact h8⟩
  | marr s ver es =>
    obtain ⟨⟨c, ty, fr, h1, h2, h3, h4, h5, h6⟩, h8⟩ := ho
    have hsz := (hb.dims k ver (by unfold cur; rw [hk])).2
    refine ⟨⟨c, ty, fr, h1, h2, h3.trans hsz.symm, by simpa using h4, fun e he => ?_, fun i j e t v he ht hv => ?_⟩, by rw [hb.imm]; exact h8⟩
    · obtain ⟨e0, he0, rfl⟩ := List.mem_map.1 he
      simp [backL, h5 e0 he0]
    · rw [List.getElem?_map] at he
      cases hi : es[i]? with
      | none => rw [hi] at he; cases he
      | some e0 =>
        rw [hi] at he; cases he
        unfold backL at ht
        rw [List.getElem?_map] at ht
        cases hj : e0[j]? with
        | none => rw [hj] at ht; cases ht
        | some t0 => rw [hj] at ht; cases ht; exact back_VR hb depth (h6 i j e0 t0 v hi hj hv)
  | siter s pos => exact ⟨ho.1, by rw [hb.imm]; exact ho.2⟩
  | dead => exact ho

theorem backAll_mem {y : Way} : ∀ (k : Nat) (os : List Obj) (i : Nat) (o : Obj), (i, o) ∈ backAll y k os ↔ ∃ j x, os[j]? = some x ∧ i = y.id (k + j) ∧ o = backO y (y.ver (k + j)) x
  | k, [], i, o => by simp [backAll]
  | k, x :: os, i, o => by
    simp only [backAll, List.mem_cons, Prod.mk.injEq, backAll_mem (k + 1) os i o]
    constructor
    · rintro (⟨rfl, rfl⟩ | ⟨j, x', h1, h2, h3⟩)
      · exact ⟨0, x, rfl, rfl, rfl⟩
      · exact ⟨j + 1, x', by simpa using h1, by rw [h2]; congr 1; omega, by rw [h3]; congr 2; omega⟩
    · rintro ⟨j, x', h1, h2, h3⟩
      cases j with
      | zero => simp at h1; subst h1; exact .inl ⟨h2, h3⟩
      | succ j => exact .inr ⟨j, x', by simpa using h1, by rw [h2]; congr 1; omega, by rw [h3]; congr 2; omega⟩

theorem versOf_get {g : Look} : ∀ {ids : List Nat} {k id : Nat}, ids[k]? = some id → getN (versOf g ids) k = verOf (g id)
  | [], k, id, h => by simp at h
  | i :: ids, 0, id, h => by simp at h; subst h; rfl
  | i :: ids, k + 1, id, h => by
    have := versOf_get (g := g) (ids := ids) (k := k) (id := id) (by simpa using h)
    simpa [versOf, getN, nth] using this

theorem getN_eq {l : List Nat} {k x : Nat} (h : l[k]? = some x) : getN l k = x := by
  unfold getN; rw [nth_eq, h]; rfl

theorem place_get {n k : Nat} : ∀ {l : List Nat}, l.Nodup → l[k]? = some n → place n l = k ∧ mem n l = true := by
  intro l hn hk
  have hm : mem n l = true := mem_iff.2 (List.mem_of_getElem? hk)
  have hp := mem_place hm
  refine ⟨?_, hm⟩
  have h1 := getElem_lt hk
  have h2 := getElem_lt hp
  rw [List.getElem?_eq_getElem h1] at hk
  rw [List.getElem?_eq_getElem h2] at hp
  exact (List.getElem_inj hn).1 (by rw [Option.some.inj hk, Option.some.inj hp])

/-- Where things lie for the caller, behind the call. -/
def G.back (γ γ' : G) (ids : List Nat) (nid : Nat) (fresh : Nat → Bool) : G :=
  { β := fun i => if fresh i = true then γ'.β (ids.length + (i - nid)) else if mem i ids = true then γ'.β (place i ids) else γ.β i
    sz := fun i => if fresh i = true then γ'.sz (ids.length + (i - nid)) else if mem i ids = true then γ'.sz (place i ids) else γ.sz i
    imm := γ'.imm }

theorem cur_backO {y : Way} {g' : Look} {k : Nat} {o : Obj} {i ver : Nat} (h : y.g k = some o) (h' : g' i = some (backO y ver o)) :
    (cur y.g k = none → cur g' i = none) ∧ (∀ c, cur y.g k = some c → cur g' i = some ver) ∧ (cur y.g k ≠ none → dims g' i = dims y.g k) := by
  unfold cur dims
  rw [h, h']
  cases o <;> simp [backO]

/-- What comes back of a call, in the caller's heap. -/
theorem sim_back {γ γ' : G} {g : Look} {w w' : World} {ids : List Nat} {nid : Nat} {h h' : Heap} (hr : HR γ g w) (hn : ids.Nodup) (hs : Ab.sub g ids = some h)
    (hr' : HR γ' (nth h') w') (hf : Fr (γ.sub ids) w γ' w') (hi : ImmLe γ.imm γ'.imm) (hkeep : Keep h.length (γ.sub ids) (nth h) γ' (nth h'))
    (hnew : ∀ j, ids.length + j < h'.length → γ.β (nid + j) = none ∧ g (nid + j) = none) :
    ∃ γ'', Ext γ g γ'' (upd g (backAll ⟨nth h', ids.length, ids, versOf g ids, nid⟩ 0 h')) ∧ HR γ'' (upd g (backAll ⟨nth h', ids.length, ids, versOf g ids, nid⟩ 0 h')) w' ∧ Fr γ w γ'' w' ∧
      ∀ v u, VR γ' (nth h') v u → VR γ'' (upd g (backAll ⟨nth h', ids.length, ids, versOf g ids, nid⟩ 0 h')) (back ⟨nth h', ids.length, ids, versOf g ids, nid⟩ depth v) u := by
  obtain ⟨hl, hspec⟩ := sub1_spec hs
  generalize hy : (⟨nth h', ids.length, ids, versOf g ids, nid⟩ : Way) = y
  have yg : y.g = nth h' := by rw [← hy]
  have ylo : ∀ k id, ids[k]? = some id → y.id k = id := fun k id hk => by
    have := getElem_lt hk
    rw [← hy]; unfold Way.id
    have hb : Nat.blt k ids.length = true := by rw [Nat.blt_eq]; exact this
    simp only [hb, cond_true]
    exact getN_eq hk
  have yhi : ∀ k, ids.length ≤ k → y.id k = nid + (k - ids.length) := fun k hk => by
    rw [← hy]; unfold Way.id
    have hb : Nat.blt k ids.length = false := by
      cases hb : Nat.blt k ids.length with
      | false => rfl
      | true => rw [Nat.blt_eq] at hb; omega
    simp only [hb, cond_false]
  have yver : ∀ k id, ids[k]? = some id → y.ver k = verOf (g id) := fun k id hk => by
    have := getElem_lt hk
    rw [← hy]; unfold Way.ver
    have hb : Nat.blt k ids.length = true := by rw [Nat.blt_eq]; exact this
    simp only [hb, cond_true]
    exact versOf_get hk
  -- which numbers are new
  let isnew : Nat → Bool := fun i => decide (nid ≤ i ∧ ids.length + (i - nid) < h'.length)
  have hnewi : ∀ i, isnew i = true → γ.β i = none ∧ g i = none ∧ mem i ids = false ∧ y.id (ids.length + (i - nid)) = i := fun i hi => by
    have hi := of_decide_eq_true hi
    obtain ⟨h1, h2⟩ := hnew (i - nid) hi.2
    have : nid + (i - nid) = i := by omega
    rw [this] at h1 h2
    refine ⟨h1, h2, ?_, ?_⟩
    · cases hm : mem i ids with
      | false => rfl
      | true =>
        obtain ⟨o, ho, _⟩ := hspec _ _ (mem_place hm)
        rw [ho] at h2; cases h2
    · rw [yhi _ (by omega)]; omega
  -- every number of the answer's heap is an old one or a new one
  have hcase : ∀ k o, h'[k]? = some o → (∃ id, ids[k]? = some id ∧ y.id k = id ∧ isnew id = false ∧ mem id ids = true ∧ place id ids = k) ∨
      (ids.length ≤ k ∧ isnew (y.id k) = true ∧ ids.length + (y.id k - nid) = k) := fun k o hk => by
    have hk' := getElem_lt hk
    rcases Nat.lt_or_ge k ids.length with hlt | hge
    · have hid : ids[k]? = some ids[k] := List.getElem?_eq_getElem hlt
      refine .inl ⟨ids[k], hid, ylo _ _ hid, ?_, (place_get hn hid).2, (place_get hn hid).1⟩
      cases hx : isnew ids[k] with
      | false => rfl
      | true =>
        have := (hnewi _ hx).2.2.1
        rw [(place_get hn hid).2] at this; cases this
    · have he := yhi k hge
      refine .inr ⟨hge, decide_eq_true ?_, ?_⟩
      · rw [he]; exact ⟨by omega, by have : ids.length + (nid + (k - ids.length) - nid) = k := by omega
                                     rw [this]; exact hk'⟩
      · rw [he]; omega
  have yinj : ∀ k k' o o', h'[k]? = some o → h'[k']? = some o' → y.id k = y.id k' → k = k' := fun k k' o o' hk hk' he => by
    rcases hcase k o hk with ⟨id, a1, a2, a3, a4, a5⟩ | ⟨a1, a2, a3⟩ <;> rcases hcase k' o' hk' with ⟨id', b1, b2, b3, b4, b5⟩ | ⟨b1, b2, b3⟩
    · rw [← a5, ← b5, ← a2, ← b2, he]
    · rw [← he, a2, a3] at b2; cases b2
    · rw [he, b2, b3] at a2; cases a2
    · rw [← a3, ← b3, he]
  have look : ∀ k o, h'[k]? = some o → upd g (backAll y 0 h') (y.id k) = some (backO y (y.ver k) o) := fun k o hk => by
    refine mem_upd (fun o' ho' => ?_) (.inr ⟨_, (backAll_mem 0 h' _ _).2 ⟨k, o, hk, by simp, by simp; rfl⟩⟩)
    obtain ⟨j, x, h1, h2, h3⟩ := (backAll_mem 0 h' _ _).1 ho'
    simp only [Nat.zero_add] at h2 h3
    have := yinj k j o x hk h1 h2
    subst this
    rw [hk] at h1; cases h1
    exact h3
  have other : ∀ i, isnew i = false → mem i ids = false → upd g (backAll y 0 h') i = g i := fun i h1 h2 => by
    refine upd_not_mem fun o ho => ?_
    obtain ⟨j, x, a1, a2, a3⟩ := (backAll_mem 0 h' _ _).1 ho
    simp only [Nat.zero_add] at a2
    rcases hcase j x a1 with ⟨id, b1, b2, b3, b4, b5⟩ | ⟨b1, b2, b3⟩
    · rw [a2, b2, b4] at h2; cases h2
    · rw [a2, b2] at h1; cases h1
  let γ'' := γ.back γ' ids nid isnew
  have βk : ∀ k o, h'[k]? = some o → γ''.β (y.id k) = γ'.β k ∧ γ''.sz (y.id k) = γ'.sz k := fun k o hk => by
    rcases hcase k o hk with ⟨id, b1, b2, b3, b4, b5⟩ | ⟨b1, b2, b3⟩
    · simp [γ'', G.back, b2, b3, b4, b5]
    · simp [γ'', G.back, b2, b3]
  have hobj : ∀ k b, γ'.β k = some b → ∃ o, h'[k]? = some o ∧ OR γ' (nth h') w' k b o := fun k b hk => by
    obtain ⟨o, h1, h2⟩ := hr'.obj k b hk
    exact ⟨o, by rw [← nth_eq]; exact h1, h2⟩
  have hcurk : ∀ k c, cur y.g k = some c → ∃ o, h'[k]? = some o := fun k c hc => by
    rw [yg] at hc
    unfold cur at hc
    cases ho : nth h' k with
    | none => rw [ho] at hc; cases hc
    | some o => exact ⟨o, by rw [← nth_eq]; exact ho⟩
  have hb : Back y γ' γ'' (upd g (backAll y 0 h')) := by
    refine ⟨fun k b hk => ?_, fun k hc ⟨b, hk⟩ => ?_, fun k c hc => ?_, fun k c hc => ?_, rfl⟩
    · obtain ⟨o, ho, _⟩ := hobj k b hk
      rw [(βk k o ho).1]; exact hk
    · obtain ⟨o, ho, _⟩ := hobj k b hk
      exact (cur_backO (by rw [yg, nth_eq]; exact ho) (look k o ho)).1 hc
    · obtain ⟨o, ho⟩ := hcurk k c hc
      exact (cur_backO (by rw [yg, nth_eq]; exact ho) (look k o ho)).2.1 c hc
    · obtain ⟨o, ho⟩ := hcurk k c hc
      exact ⟨(cur_backO (by rw [yg, nth_eq]; exact ho) (look k o ho)).2.2 (by rw [hc]; simp), (βk k o ho).2⟩
  have hsubβ : ∀ {k id b : Nat}, ids[k]? = some id → ((γ.sub ids).β k = some b ↔ γ.β id = some b) := fun {k id b} hk => by simp only [G.sub, hk]
  have hsubr : ∀ k b, (γ.sub ids).β k = some b → ∃ id, ids[k]? = some id ∧ γ.β id = some b := fun k b hk => by
    cases hid : ids[k]? with
    | none => simp only [G.sub, hid] at hk; cases hk
    | some id => exact ⟨id, rfl, by simpa only [G.sub, hid] using hk⟩
  -- a block of the caller's own is none of the callee's
  have hown : ∀ i b, γ.β i = some b → mem i ids = false → ∀ k, (γ.sub ids).β k ≠ some b := fun i b hb hm k hk => by
    obtain ⟨id, h1, h2⟩ := hsubr k b hk
    have := hr.inj i id b hb h2
    subst this
    rw [mem_iff.2 (List.mem_of_getElem? h1)] at hm; cases hm
  have himm : ∀ i b, γ.β i = some b → mem i ids = false → ∀ o, γ'.imm b o = γ.imm b o := fun i b hb hm o => by
    cases hv : γ.imm b o with
    | some v => exact hi _ _ _ hv
    | none =>
      cases hv' : γ'.imm b o with
      | none => rfl
      | some v =>
        rcases hf.immr b o v hv' with h1 | h1 | ⟨k, h1⟩
        · have h1 : γ.imm b o = some v := h1
          rw [hv] at h1; cases h1
        · have := hr.lt hb; omega
        · exact absurd h1 (hown i b hb hm k)
  -- the three kinds of numbers
  have kinds : ∀ i b, γ''.β i = some b → (∃ k o, h'[k]? = some o ∧ y.id k = i ∧ γ'.β k = some b) ∨ (γ.β i = some b ∧ isnew i = false ∧ mem i ids = false) := fun i b hb => by
    cases h1 : isnew i with
    | true =>
      simp only [γ'', G.back, h1, if_true] at hb
      obtain ⟨o, ho, _⟩ := hobj _ _ hb
      exact .inl ⟨_, o, ho, (hnewi i h1).2.2.2, hb⟩
    | false =>
      cases h2 : mem i ids with
      | true =>
        simp only [γ'', G.back, h1, h2, if_true, Bool.false_eq_true, if_false] at hb
        obtain ⟨o, ho, _⟩ := hobj _ _ hb
        exact .inl ⟨_, o, ho, ylo _ _ (mem_place h2), hb⟩
      | false =>
        simp only [γ'', G.back, h1, h2, Bool.false_eq_true, if_false] at hb
        exact .inr ⟨hb, rfl, rfl⟩
  have notnew : ∀ i, (γ.β i ≠ none ∨ g i ≠ none) → isnew i = false := fun i hx => by
    cases h1 : isnew i with
    | false => rfl
    | true => rcases hx with hx | hx
              · exact absurd (hnewi i h1).1 hx
              · exact absurd (hnewi i h1).2.1 hx
  have ext : Ext γ g γ'' (upd g (backAll y 0 h')) := by
    refine ⟨hi, fun i b hib hc => ?_, fun i c hc => ?_⟩
    · have h1 := notnew i (.inl (by rw [hib]; simp))
      cases h2 : mem i ids with
      | false => exact ⟨by simp only [γ'', G.back, h1, h2, Bool.false_eq_true, if_false]; exact hib, by unfold cur; rw [other i h1 h2]; exact hc⟩
      | true =>
        have hp := mem_place h2
        obtain ⟨o, ho, hh⟩ := hspec _ _ hp
        have hlt := getElem_lt hh
        have hh' : nth h (place i ids) = some (renO g ids o) := by rw [nth_eq]; exact hh
        obtain ⟨hbk, c1⟩ := hkeep.box _ b hlt ((hsubβ hp).2 hib) ((cur_renO ho hh').1 hc)
        have e := ylo _ _ hp
        refine ⟨by have := hb.β _ b hbk; rw [e] at this; exact this, ?_⟩
        have := hb.none _ (by rw [yg]; exact c1) ⟨b, hbk⟩
        rw [e] at this; exact this
    · have hgi : g i ≠ none := fun e => by rw [cur_none_of e] at hc; cases hc
      have h1 := notnew i (.inr hgi)
      cases h2 : mem i ids with
      | false =>
        have e1 : γ''.β i = γ.β i := by simp only [γ'', G.back, h1, h2, Bool.false_eq_true, if_false]
        have e2 : γ''.sz i = γ.sz i := by simp only [γ'', G.back, h1, h2, Bool.false_eq_true, if_false]
        exact ⟨c, by unfold cur; rw [other i h1 h2]; exact hc, Nat.le_refl _, fun _ => ⟨e1, e2, by unfold dims; rw [other i h1 h2]⟩⟩
      | true =>
        have hp := mem_place h2
        obtain ⟨o, ho, hh⟩ := hspec _ _ hp
        have hlt := getElem_lt hh
        have hh' : nth h (place i ids) = some (renO g ids o) := by rw [nth_eq]; exact hh
        have c0 := (cur_renO ho hh').2.1 c hc
        have c1 := hkeep.arr _ hlt (by rw [c0]; simp)
        have e := ylo _ _ hp
        cases hc' : cur (nth h') (place i ids) with
        | none => exact absurd hc' c1
        | some c' =>
          have := hb.cur _ c' (by rw [yg]; exact hc')
          rw [e, yver _ _ hp] at this
          have hv : verOf (g i) = c + 1 := by
            unfold cur at hc
            unfold verOf
            split at hc
            · rename_i hg; try rw [hg]
              cases hc; rfl
            · rename_i hg; try rw [hg]
              cases hc; rfl
            · cases hc
          rw [hv] at this
          exact ⟨c + 1, this, by omega, fun he => by omega⟩
  refine ⟨γ'', ext, ⟨fun i b hib => ?_, fun i i' b hib hib' => ?_, hr'.imm⟩, ⟨hf.size, fun b hlt hne => ?_, fun i b hib => ?_, fun b o v hv => ?_, hf.same⟩, fun v u hv => back_VR hb depth (by rw [yg]; exact hv)⟩
  · rcases kinds i b hib with ⟨k, o, h1, h2, h3⟩ | ⟨h1, h2, h3⟩
    · obtain ⟨o', ho', hor⟩ := hobj k b h3
      rw [h1] at ho'; cases ho'
      subst h2
      exact ⟨_, look k o h1, backO_OR hb (by rw [yg, nth_eq]; exact h1) (by rw [yg]; exact hor)⟩
    · obtain ⟨o, ho, hor⟩ := hr.obj i b h1
      exact ⟨o, by rw [other i h2 h3]; exact ho, hor.mono ext (hf.keep b hor.lt (hown i b h1 h3)) (by simp only [γ'', G.back, h2, h3, Bool.false_eq_true, if_false]) (himm i b h1 h3)⟩
  · have cross : ∀ i j k, γ.β i = some b → mem i ids = false → γ'.β k = some b → i = j := fun i j k h1 h3 h4 => by
      rcases hf.rng k b h4 with h5 | ⟨k', h5⟩
      · have := hr.lt h1; omega
      · exact absurd h5 (hown i b h1 h3 k')
    rcases kinds i b hib with ⟨k, o, h1, h2, h3⟩ | ⟨h1, h2, h3⟩ <;> rcases kinds i' b hib' with ⟨k', o', h1', h2', h3'⟩ | ⟨h1', h2', h3'⟩
    · have := hr'.inj k k' b h3 h3'
      subst this
      rw [← h2, ← h2']
    · exact (cross i' i k h1' h3' h3).symm
    · exact cross i i' k' h1 h3 h3'
    · exact hr.inj i i' b h1 h1'
  · refine hf.keep b hlt fun k hk => ?_
    obtain ⟨id, h1, h2⟩ := hsubr k b hk
    exact hne id h2
  · rcases kinds i b hib with ⟨k, o, h1, h2, h3⟩ | ⟨h1, h2, h3⟩
    · rcases hf.rng k b h3 with h4 | ⟨k', h4⟩
      · exact .inl h4
      · obtain ⟨id, _, h6⟩ := hsubr k' b h4
        exact .inr ⟨id, h6⟩
    · exact .inr ⟨i, h1⟩
  · rcases hf.immr b o v hv with h1 | h1 | ⟨k, h1⟩
    · exact .inl h1
    · exact .inr (.inl h1)
    · obtain ⟨id, _, h6⟩ := hsubr k b h1
      exact .inr (.inr ⟨id, h6⟩)

end Go.Ab
/- A step of the evaluator does what the model's operation does: calls too. -/
namespace Go.Ab

/-! ### Values that hang on no memory -/

theorem plainT_TR {I J : Imm} {x : Tree} {v : Value} (hp : plainT x = true) (h : TR I x v) : TR J x v := by
  have atom : ∀ {c : Tree} {v : Value}, (match c with
      | .sl _ _ _ | .agg _ | .ifc _ _ => false
      | _ => true) = true → TR I c v → TR J c v := by
    intro c v hc hv
    cases hv with
    | bool b => exact .bool b
    | int k n => exact .int k n
    | str s hs => exact .str s hs
    | sl => cases hc
    | agg => cases hc
    | ifc => cases hc
    | nilifc => exact .nilifc
    | fn f => exact .fn f
    | nilfn => exact .nilfn
    | nilptr => exact .nilptr
    | nilmap => exact .nilmap
  cases h with
  | bool b => exact .bool b
  | int k n => exact .int k n
  | str s hs => exact .str s hs
  | sl => cases hp
  | agg cs vs hl h =>
    refine .agg cs vs hl fun i c v hc hv => atom ?_ (h i c v hc hv)
    simp only [plainT, List.all_eq_true] at hp
    exact hp c (List.mem_of_getElem? hc)
  | ifc t x v h => exact .ifc t x v (atom hp h)
  | nilifc => exact .nilifc
  | fn f => exact .fn f
  | nilfn => exact .nilfn
  | nilptr => exact .nilptr
  | nilmap => exact .nilmap

theorem plain_VR {γ γ' : G} {g g' : Look} {v : AV} {u : Value} (hp : plain v = true) (h : VR γ g v u) : VR γ' g' v u := by
  cases h with
  | t x v h => exact .t x u (plainT_TR hp h)
  | nov => exact .nov
  | tup cs vs hl h =>
    refine .tup cs vs hl fun i c v hc hv => ?_
    simp only [plain, List.all_eq_true] at hp
    have hpc := hp c (List.mem_of_getElem? hc)
    have hcv := h i c v hc hv
    cases hcv with
    | t x v h => exact .t x _ (plainT_TR hpc h)
    | nov => exact .nov
    | _ => cases hpc
  | _ => cases hp

/-! ### A call within its caller -/

/-- What a call has come to, in the caller's heap. -/
def GoodE (γ : G) (g : Look) (w : World) (p : Patch) (out : Out) (e : Ending) (w' : World) : Prop :=
  ∃ γ', Ext γ g γ' (upd g p) ∧ HR γ' (upd g p) w' ∧ Fr γ w γ' w' ∧ Ends γ' (upd g p) out e

theorem HR.of_keep {γ : G} {g : Look} {w w' : World} (h : HR γ g w) (hk : ∀ b, b < w.heap.size → w'.heap[b]? = w.heap[b]?) : HR γ g w' := by
  refine ⟨fun id b hb => ?_, h.inj, fun b o v hv => ?_⟩
  · obtain ⟨o, ho, hor⟩ := h.obj id b hb
    exact ⟨o, ho, hor.mono (.refl _ _) (hk b hor.lt) rfl (fun _ => rfl)⟩
  · have hc := h.imm b o v hv
    rw [cell_of_heap (hk b (lt_of_cell hc))]; exact hc

theorem sim_callIn {P : Program} {w0 : World} {ρ : Oracle} (hρ : OracleOK P w0 ρ) {γ γ1 : G} {g : Look} {w : World} {frz : Patch} {nid : Nat} {f : FuncId} {args : List AV} {vs : List Value}
    {out : Out} {p : Patch} (hr : HR γ g w) (hb : Base w0 γ1 w) (e1 : Ext γ g γ1 (upd g frz)) (hr1 : HR γ1 (upd g frz) w) (f1 : Fr γ w γ1 w) (hv : VRs γ1 (upd g frz) args vs)
    (hx : callIn ρ (upd g frz) frz nid f args = some (out, p)) (hfree : ∀ i o, nid ≤ i → (i, o) ∈ p → γ1.β i = none ∧ upd g frz i = none) :
    Calls P f vs.toArray w (GoodE γ g w p out) := by
  unfold callIn at hx
  split at hx
  · cases hx
  · rename_i ids hids
    have hnod := reach_nodup _ _ _ _ hids (by simp)
    split at hx
    · cases hx
    · rename_i h hs
      -- what the callee's answer is
      have main : ∀ (o : Out) (v : AV) (h' : Heap), (o = .val v ∨ o = .pan v) → ρ f (renL (upd g frz) ids args) h = some (o, h') →
          (∀ i x, nid ≤ i → (i, x) ∈ (import1 (upd g frz) frz nid ids v h').2 → γ1.β i = none ∧ upd g frz i = none) →
          Calls P f vs.toArray w fun e w' => ∃ γ', Ext γ g γ' (upd g (import1 (upd g frz) frz nid ids v h').2) ∧ HR γ' (upd g (import1 (upd g frz) frz nid ids v h').2) w' ∧ Fr γ w γ' w' ∧
            ((o = .val v → ∃ u, e = .returned u ∧ VR γ' (upd g (import1 (upd g frz) frz nid ids v h').2) (import1 (upd g frz) frz nid ids v h').1 u) ∧
             (o = .pan v → ∃ u, e = .panicked [{ v := u, recovered := false }] ∧ VR γ' (upd g (import1 (upd g frz) frz nid ids v h').2) (import1 (upd g frz) frz nid ids v h').1 u)) := by
        intro o v h' ho hor hfree
        have hbs : Base w0 (γ1.sub ids) w := ⟨hb.1, fun b hlt => ⟨(hb.2 b hlt).1, fun k hk => by
          cases hid : ids[k]? with
          | none => simp only [G.sub, hid] at hk; cases hk
          | some id => exact (hb.2 b hlt).2 id (by simpa only [G.sub, hid] using hk)⟩⟩
        refine Calls.mono (hρ f _ h o h' hor (γ1.sub ids) w vs (sub_HR hr1 hs hnod) hbs (renL_VRs hs hv)) fun e w' hpost => ?_
        obtain ⟨γ', k1, k2, k3, k4, k7⟩ := hpost
        have hend : ∀ {γ'' : G} {g'' : Look} {v' : AV}, (∀ u, VR γ' (nth h') v u → VR γ'' g'' v' u) →
            ((o = .val v → ∃ u, e = .returned u ∧ VR γ'' g'' v' u) ∧ (o = .pan v → ∃ u, e = .panicked [{ v := u, recovered := false }] ∧ VR γ'' g'' v' u)) := by
          intro γ'' g'' v' hh
          refine ⟨fun h1 => ?_, fun h1 => ?_⟩
          · rw [h1] at k7
            cases e with
            | returned u => exact ⟨u, rfl, hh u k7⟩
            | panicked c => exact False.elim k7
            | outgrown => exact False.elim k7
          · rw [h1] at k7
            cases e with
            | returned u => exact False.elim k7
            | panicked c => obtain ⟨u, rfl, hvr⟩ := k7; exact ⟨u, rfl, hh u hvr⟩
            | outgrown => exact False.elim k7
        by_cases htriv : plain v = true ∧ ids = [] ∧ h' = []
        · obtain ⟨hp, rfl, rfl⟩ := htriv
          have himp : import1 (upd g frz) frz nid [] v [] = (v, []) := by unfold import1; rw [hp]
          rw [himp]
          have hkeep : ∀ b, b < w.heap.size → w'.heap[b]? = w.heap[b]? := fun b hlt => k2.keep b hlt fun k hk => by simp [G.sub] at hk
          exact ⟨γ, .refl _ _, hr.of_keep hkeep, ⟨k2.size, fun b hlt _ => hkeep b hlt, fun i b hib => .inr ⟨i, hib⟩, fun _ _ _ hv => .inl hv, k2.same⟩, hend fun u hu => plain_VR hp hu⟩
        · have himp : import1 (upd g frz) frz nid ids v h' = (back ⟨nth h', ids.length, ids, versOf (upd g frz) ids, nid⟩ depth v, frz ++ backAll ⟨nth h', ids.length, ids, versOf (upd g frz) ids, nid⟩ 0 h') := by
            unfold import1
            split
            · rename_i h1; exact absurd ⟨h1, rfl, rfl⟩ htriv
            · rfl
          rw [himp] at hfree ⊢
          have hlen := (sub1_spec hs).1
          obtain ⟨γ'', e2, hr2, f2, hvr⟩ := sim_back (nid := nid) hr1 hnod hs k1 k2 k3 k4 (fun j hj => by
            refine hfree (nid + j) _ (by omega) (List.mem_append_right _ ((backAll_mem 0 h' _ _).2 ⟨ids.length + j, h'[ids.length + j], List.getElem?_eq_getElem hj, ?_, rfl⟩))
            simp only [Nat.zero_add, Way.id]
            have hb : Nat.blt (ids.length + j) ids.length = false := by
              cases hb : Nat.blt (ids.length + j) ids.length with
              | false => rfl
              | true => rw [Nat.blt_eq] at hb; omega
            rw [hb, cond_false]; omega)
          rw [← upd_append] at e2 hr2 hvr
          exact ⟨γ'', e1.trans e2, hr2, f1.trans f2, hend fun u hu => hvr v u hu⟩
      split at hx
      · cases hx
      · rename_i v h' hor
        cases hx
        refine Calls.mono (main _ v h' (.inl rfl) hor hfree) fun e w' ⟨γ', h1, h2, h3, h4, _⟩ => ?_
        obtain ⟨u, rfl, hu⟩ := h4 rfl
        exact ⟨γ', h1, h2, h3, hu⟩
      · rename_i v h' hor
        cases hx
        refine Calls.mono (main _ v h' (.inr rfl) hor hfree) fun e w' ⟨γ', h1, h2, h3, _, h4⟩ => ?_
        obtain ⟨u, rfl, hu⟩ := h4 rfl
        exact ⟨γ', h1, h2, h3, u, rfl, hu⟩

/-- What is asked of the functions that are not evaluated. -/
def PrimOK (C : Cfg) (w0 : World) : Prop :=
  ∀ f args v, C.prim f args = some v → plain v = true → ∀ (γ : G) (g : Look) (w : World) (vs : List Value), HR γ g w → Base w0 γ w → VRs γ g args vs →
    Calls C.P f vs.toArray w fun e w' => ∃ u, e = .returned u ∧ VR γ g v u ∧ (w'.os = w.os ∧ w'.output = w.output) ∧ w.heap.size ≤ w'.heap.size ∧ ∀ b, b < w.heap.size → w'.heap[b]? = w.heap[b]?

theorem views_VRs {γ γ1 : G} {g : Look} {w : World} : ∀ {args : List AV} {vs : List Value} {l : List Nat}, (∀ x ∈ args, ∀ id ∈ viewed g x, id ∈ l) → Ext γ g γ1 (upd g (freeze g l)) → HR γ1 (upd g (freeze g l)) w →
    VRs γ g args vs → VRs γ1 (upd g (freeze g l)) (args.map (view g)) vs
  | [], vs, l, _, _, _, hv => by rw [hv.nil_inv]; exact .nil
  | x :: args, vs, l, hl, e, hr, hv => by
    obtain ⟨v, vs', rfl, hx, hxs⟩ := hv.cases_cons
    refine .cons (view_VR hr (fun id hid s ver frz es hg => ?_) (hx.mono e)) (views_VRs (fun y hy => hl y (List.mem_cons_of_mem _ hy)) e hr hxs)
    exact (freeze_patch g l).upd_eq hg ⟨_, freeze_mem hg (hl x (.head _) id hid)⟩

theorem mem_catMap {α β : Type} {f : α → List β} {y : β} : ∀ {l : List α}, y ∈ catMap f l ↔ ∃ x ∈ l, y ∈ f x
  | [] => by simp [catMap]
  | a :: l => by simp [catMap, mem_catMap (l := l)]

theorem sim_callF {C : Cfg} {w0 : World} {ρ : Oracle} (hρ : OracleOK C.P w0 ρ) (hpr : PrimOK C w0) {γ : G} {g : Look} {w : World} {nid : Nat} {f : FuncId} {args : List AV} {vs : List Value}
    {out : Out} {p : Patch} (hr : HR γ g w) (hb : Base w0 γ w) (hv : VRs γ g args vs) (hx : callF C ρ g nid f args = some (out, p))
    (hfree : ∀ i o, nid ≤ i → (i, o) ∈ p → γ.β i = none ∧ g i = none) : hasBody C.P f = true ∧ Calls C.P f vs.toArray w (GoodE γ g w p out) := by
  unfold callF at hx
  split at hx
  · split at hx
    · rename_i hbody
      exact ⟨hbody, sim_callIn (γ1 := γ) (frz := []) hρ hr hb (.refl _ _) hr (.refl _ _) hv hx hfree⟩
    · cases hx
  · obtain ⟨γ1, e1, hr1, f1, hβ⟩ := sim_freeze hr (freeze_patch g (catMap (viewed g) args))
    have hv1 := views_VRs (args := args) (l := catMap (viewed g) args) (fun x hx id hid => mem_catMap.2 ⟨x, hx, hid⟩) e1 hr1 hv
    have hb1 := hb.mono f1
    split at hx
    · rename_i v hprim
      split at hx
      · rename_i hp hbody
        cases hx
        refine ⟨hbody, Calls.mono (hpr f _ v hprim hp γ1 _ w vs hr1 hb1 hv1) fun e w' ⟨u, he, hu, hsm, hsz, hk⟩ => ?_⟩
        subst he
        exact ⟨γ, .refl _ _, hr.of_keep hk, ⟨hsz, fun b hlt _ => hk b hlt, fun i b hib => .inr ⟨i, hib⟩, fun _ _ _ hv => .inl hv, hsm⟩, plain_VR hp hu⟩
      · cases hx
    · split at hx
      · rename_i hbody
        refine ⟨hbody, sim_callIn hρ hr hb1 e1 hr1 f1 hv1 hx fun i o hi ho => ?_⟩
        obtain ⟨h1, h2⟩ := hfree i o hi ho
        exact ⟨by rw [hβ]; exact h1, (freeze_patch g _).upd_none h2⟩
      · cases hx

/-! ### Any operation -/

section
variable {P : Program} {γ : G} {g : Look} {w : World} {o : Oper} {a : Act} {p : Patch} {next : Act → World → Prop} {Q : Exit → Act → World → Prop}

theorem upon_good {s : Sem Value} {v : AV} (h : Good γ g w p v (s.run P w))
    (hn : ∀ u w' γ', Ext γ g γ' (upd g p) → HR γ' (upd g p) w' → Fr γ w γ' w' → VR γ' (upd g p) v u → next (a.put o.dst u) w') :
    o.upon P a next Q ((do pure (Next.value (← s)) : Sem Next).run P w) := by
  obtain ⟨u, w', γ', hr, e, hh, hv, f⟩ := h
  simp only [Sem.run_bind, hr, Result.andThen_ok, Sem.run_pure]
  exact hn u w' γ' e hh f hv

theorem upon_goodU {s : Sem Unit} (h : GoodU γ g w p (s.run P w))
    (hn : ∀ u w' γ', Ext γ g γ' (upd g p) → HR γ' (upd g p) w' → Fr γ w γ' w' → VR γ' (upd g p) .nov u → next (a.put o.dst u) w') :
    o.upon P a next Q ((do s; pure Next.skip : Sem Next).run P w) := by
  obtain ⟨w', γ', hr, e, hh, f⟩ := h
  simp only [Sem.run_bind, hr, Result.andThen_ok, Sem.run_pure]
  exact hn undef w' γ' e hh f .nov

theorem hasBody_spec {f : FuncId} (h : hasBody P f = true) : ∃ fn c, P.funcs[f]? = some fn ∧ fn.body = some c ∧ fn.name ≠ "runtime.NumGoroutine" := by
  unfold hasBody at h
  rw [nth_eq] at h
  cases hf : P.funcs.toList[f]? with
  | none => rw [hf] at h; cases h
  | some fn =>
    rw [hf] at h
    simp only [Bool.and_eq_true, bne_iff_ne, ne_eq] at h
    obtain ⟨c, hc⟩ := Option.isSome_iff_exists.1 h.1
    exact ⟨fn, c, by simpa using hf, hc, h.2⟩

theorem run_callFunc {f : FuncId} {args : Array Value} (h : hasBody P f = true) : (callFunc f args).run P w = .ok (.enter f args) w := by
  obtain ⟨fn, c, h1, h2, h3⟩ := hasBody_spec h
  unfold callFunc
  simp [h1, h2, h3]

end

end Go.Ab
/- Each operation of the evaluator is the model's. -/
namespace Go.Ab

section
variable {C : Cfg} {γ : G} {g : Look} {w : World} {o : Oper} {a : Act} {next : Act → World → Prop} {Q : Exit → Act → World → Prop}

theorem ret_val {v v' : AV} {p : Patch} (h : ret v = some (.val v', p)) : v' = v ∧ p = [] := by
  unfold ret at h; cases h; exact ⟨rfl, rfl⟩

/-- What follows an operation. -/
def Goes (γ : G) (g : Look) (w : World) (o : Oper) (a : Act) (next : Act → World → Prop) (Q : Exit → Act → World → Prop) (out : Out) (p : Patch) : Prop :=
  ∀ u w' γ', Ext γ g γ' (upd g p) → HR γ' (upd g p) w' → Fr γ w γ' w' → match out with
    | .val v => VR γ' (upd g p) v u → next (a.put o.dst u) w'
    | .pan v => VR γ' (upd g p) v u → Q (.panic [{ v := u, recovered := false }]) a w'

theorem Goes.pure {v : AV} {u : Value} (h : HR γ g w) (hv : VR γ g v u) (hg : Goes γ g w o a next Q (.val v) []) : next (a.put o.dst u) w :=
  hg u w γ (.refl _ _) h (.refl _ _) hv

theorem sim_move {x : Operand} {T : Env} {out : Out} {p : Patch} (h : HR γ g w) (he : ER γ g T a) (hx : ret (operand T x) = some (out, p))
    (hg : Goes γ g w o a next Q out p) : next (a.put o.dst (a.eval x)) w := by
  unfold ret at hx
  cases hx
  exact hg.pure h (operand_VR he x)

theorem upon_call {f : FuncId} {args : Array Value} {out : Out} {p : Patch} (hb : hasBody C.P f = true) (hc : Calls C.P f args w (GoodE γ g w p out))
    (hg : Goes γ g w o a next Q out p) : o.upon C.P a next Q ((callFunc f args).run C.P w) := by
  rw [run_callFunc hb, Oper.upon_enter]
  refine Calls.mono hc fun e w' ⟨γ', h1, h2, h3, h4⟩ => ?_
  cases out with
  | val v =>
    cases e with
    | returned u => exact hg u w' γ' h1 h2 h3 h4
    | panicked c => exact False.elim h4
    | outgrown => exact False.elim h4
  | pan v =>
    cases e with
    | returned u => exact False.elim h4
    | panicked c => obtain ⟨u, rfl, hu⟩ := h4; exact hg u w' γ' h1 h2 h3 hu
    | outgrown => exact False.elim h4

theorem builtin_val {b : Builtin} {ts : Array TypeId} {type : TypeId} {cs : Array Bool} {args : Array Value} {s : Sem Value} {v : AV} {p : Patch}
    (hs : builtin b ts type cs args = (do pure (Next.value (← s)) : Sem Next)) (h : Good γ g w p v (s.run C.P w)) (hg : Goes γ g w o a next Q (.val v) p) :
    o.upon C.P a next Q ((builtin b ts type cs args).run C.P w) := by
  rw [hs]; exact upon_good h hg

theorem sim_xBuiltin {b : Builtin} {nid : Nat} {ts : Array TypeId} {type : TypeId} {cs : Array Bool} {xs : List AV} {us : List Value} {out : Out} {p : Patch} (h : HR γ g w)
    (hv : VRs γ g xs us) (hx : xBuiltin C.P g nid b ts.toList xs = some (out, p)) (hfree : (∃ x, (nid, x) ∈ p) → γ.β nid = none ∧ g nid = none)
    (hg : Goes γ g w o a next Q out p) : o.upon C.P a next Q ((builtin b ts type cs us.toArray).run C.P w) := by
  unfold xBuiltin at hx
  split at hx
  · rename_i t rest hts
    have hout : ∃ v, out = .val v := by
      unfold xLen at hx
      split at hx
      · split at hx
        · unfold ret at hx; cases hx; exact ⟨_, rfl⟩
        · unfold ret at hx; cases hx; exact ⟨_, rfl⟩
        · split at hx
          · unfold ret at hx; cases hx; exact ⟨_, rfl⟩
          · cases hx
        · cases hx
      · cases hx
    obtain ⟨v, rfl⟩ := hout
    have := sim_len (ty := type) (ts := rest) h hv hx
    have e : (t :: rest).toArray = ts := by rw [← hts]
    rw [e] at this
    exact builtin_val rfl this hg
  · rename_i t t' s x hts
    obtain ⟨us1, us', rfl, h1, h2⟩ := hv.cases_cons
    obtain ⟨us2, us'', rfl, h3, h4⟩ := h2.cases_cons
    have := h4.nil_inv
    subst this
    have hout : ∃ v, out = .val v := by
      unfold append at hx
      repeat' split at hx
      all_goals first | (cases hx; done) | (cases hx; exact ⟨_, rfl⟩) | (unfold ret at hx; cases hx; exact ⟨_, rfl⟩)
    obtain ⟨v, rfl⟩ := hout
    have := sim_append (ty := type) h (fun hh => (hfree hh).1) (fun hh => (hfree hh).2) h1 h3 hx
    have e : #[t, t'] = ts := by have : [t, t'].toArray = ts := by rw [← hts]
                                 exact this
    rw [e] at this
    exact builtin_val rfl this hg
  · rename_i x rest
    obtain ⟨u, us', rfl, h1, h2⟩ := hv.cases_cons
    cases out with
    | pan v => exact absurd hx retO_pan
    | val v =>
      obtain ⟨hm, rfl⟩ := retO_val hx
      exact builtin_val (s := us'.foldlM Builtin.max2 u) rfl (sim_maxmin false h h1 h2 hm) hg
  · rename_i x rest
    obtain ⟨u, us', rfl, h1, h2⟩ := hv.cases_cons
    cases out with
    | pan v => exact absurd hx retO_pan
    | val v =>
      obtain ⟨hm, rfl⟩ := retO_val hx
      exact builtin_val (s := us'.foldlM Builtin.min2 u) rfl (sim_maxmin true h h1 h2 hm) hg
  · cases hx

theorem sim_xCall {w0 : World} {ρ : Oracle} (hρ : OracleOK C.P w0 ρ) (hpr : PrimOK C w0) {nid : Nat} {T : Env} {c : Call} {out : Out} {p : Patch} (h : HR γ g w) (hb : Base w0 γ w)
    (he : ER γ g T a) (hx : xCall C ρ g nid T c = some (out, p)) (hfree : ∀ i x, nid ≤ i → (i, x) ∈ p → γ.β i = none ∧ g i = none)
    (hg : Goes γ g w o a next Q out p) (type : TypeId) : o.upon C.P a next Q ((do let d ← resolve a.eval c type; invoke d.target d.args : Sem Next).run C.P w) := by
  have hargs : c.args.map a.eval = (c.args.toList.map a.eval).toArray := by
    apply Array.ext'; rw [Array.toList_map]
  have hvs := opds_VRs he c.args.toList
  unfold xCall at hx
  unfold resolve
  split at hx
  · rename_i f hf
    have hfv := operand_VR he f
    simp only [hf]
    split at hx
    · rename_i f' hop
      rw [hop] at hfv
      have hfe : a.eval f = .func (.func f') #[] #[] := by
        generalize a.eval f = fv at hfv
        cases hfv with
        | t _ _ ht => cases ht; rfl
      rw [hfe]
      obtain ⟨hbody, hc⟩ := sim_callF hρ hpr h hb hvs hx hfree
      simp only [Deferred.ofValue, Sem.run_bind, Sem.run_pure, Result.andThen_ok, invoke, hargs]
      simpa using upon_call hbody hc hg
    · rename_i f' first captured hop
      rw [hop] at hfv
      generalize hfe : a.eval f = fv at hfv
      cases hfv with
      | fn _ _ _ us vs hl hl' h1 h2 =>
        have hfirst : VRs γ g first us := ⟨hl, h1⟩
        have hcap : VRs γ g captured vs := ⟨hl', h2⟩
        obtain ⟨hbody, hc⟩ := sim_callF hρ hpr h hb (hfirst.append (hvs.append hcap)) hx hfree
        simp only [Deferred.ofValue, Sem.run_bind, Sem.run_pure, Result.andThen_ok, invoke, hargs]
        have harr : us.toArray ++ (c.args.toList.map a.eval).toArray ++ vs.toArray = (us ++ (c.args.toList.map a.eval ++ vs)).toArray := by simp
        rw [harr]
        exact upon_call hbody hc hg
    · cases hx
  · rename_i b hbt
    simp only [hbt]
    simp only [Sem.run_bind, Sem.run_pure, Result.andThen_ok, invoke, hargs]
    exact sim_xBuiltin h hvs hx (fun ⟨x, hx⟩ => hfree nid x (Nat.le_refl _) hx) hg
  · cases hx

theorem Goes.val_of {out : Out} {p : Patch} {r : Res} (hx : r = some (out, p)) (hr : ∀ v q, r ≠ some (.pan v, q)) : ∃ v, out = .val v := by
  cases out with
  | val v => exact ⟨v, rfl⟩
  | pan v => exact absurd hx (hr v p)

theorem retO_nil {x : Option AV} {out : Out} {p : Patch} (h : retO x = some (out, p)) : ∃ v, out = .val v ∧ x = some v ∧ p = [] := by
  cases out with
  | pan v => exact absurd h retO_pan
  | val v => exact ⟨v, rfl, (retO_val h).1, (retO_val h).2⟩

theorem sim_exec1 {w0 : World} {ρ : Oracle} (hρ : OracleOK C.P w0 ρ) (hpr : PrimOK C w0) {nid : Nat} {T : Env} {out : Out} {p : Patch} (h : HR γ g w) (hb : Base w0 γ w)
    (he : ER γ g T a) (hx : exec1 C ρ g nid T o = some (out, p)) (hfree : ∀ i x, nid ≤ i → (i, x) ∈ p → γ.β i = none ∧ g i = none)
    (hg : Goes γ g w o a next Q out p) : o.wp C.P a w next Q := by
  have hnid : (∃ x, (nid, x) ∈ p) → γ.β nid = none ∧ g nid = none := fun ⟨x, hx⟩ => hfree nid x (Nat.le_refl _) hx
  unfold exec1 at hx
  unfold Oper.wp execOp
  split at hx
  · rename_i x hop
    simp only [hop, Sem.run_pure, Oper.upon_value]
    exact sim_move h he hx hg
  · rename_i x hop
    simp only [hop, Sem.run_pure, Oper.upon_value]
    exact sim_move h he hx hg
  · rename_i c x y hop
    simp only [hop]
    have hc := operand_VR he c
    unfold xPick at hx
    split at hx
    · rename_i hcb
      rw [hcb] at hc
      have : a.eval c = .bool true := by
        generalize a.eval c = cv at hc
        cases hc with
        | t _ _ ht => cases ht; rfl
      rw [this]
      exact sim_move h he hx hg
    · rename_i hcb
      rw [hcb] at hc
      have : a.eval c = .bool false := by
        generalize a.eval c = cv at hc
        cases hc with
        | t _ _ ht => cases ht; rfl
      rw [this]
      exact sim_move h he hx hg
    · cases hx
  · rename_i t hop
    simp only [hop]
    have hout : ∃ v, out = .val v ∧ ∃ x, (nid, x) ∈ p := by
      unfold xAlloc at hx
      split at hx
      · cases hx; exact ⟨_, rfl, _, .head _⟩
      · cases hx
    obtain ⟨v, rfl, hin⟩ := hout
    exact upon_good (sim_alloc h (hnid hin).1 (hnid hin).2 hx) hg
  · rename_i t x hop
    simp only [hop]
    have hout : ∃ v, out = .val v ∧ ∃ x, (nid, x) ∈ p := by
      unfold xBox at hx
      split at hx
      · cases hx; exact ⟨_, rfl, _, .head _⟩
      · cases hx
    obtain ⟨v, rfl, hin⟩ := hout
    exact upon_good (sim_box h (hnid hin).1 (hnid hin).2 (operand_VR he x) hx) hg
  · rename_i t parts hop
    simp only [hop]
    obtain ⟨v, rfl, hx2, rfl⟩ := retO_nil hx
    refine upon_good (sim_build h ?_ hx2) hg
    simpa using opdsI_VPs he parts.toList
  · rename_i t n parts hop
    simp only [hop]
    have hout : ∃ v, out = .val v ∧ ∃ x, (nid, x) ∈ p := by
      unfold xBuildSlice at hx
      repeat' split at hx
      all_goals first | (cases hx; done) | (cases hx; exact ⟨_, rfl, _, List.mem_append_right _ (.head _)⟩)
    obtain ⟨v, rfl, hin⟩ := hout
    refine upon_good (sim_buildSlice h (hnid hin).1 (hnid hin).2 ?_ hx) hg
    simpa using opdsI_VPs he parts.toList
  · rename_i t x hop
    simp only [hop]
    obtain ⟨v, rfl, hx2, rfl⟩ := retO_nil hx
    exact upon_good (sim_load h (operand_VR he x) hx2) hg
  · rename_i t x y hop
    simp only [hop]
    have hout : ∃ v, out = .val v := by
      unfold xStore at hx
      split at hx
      · dsimp only at hx
        split at hx
        · split at hx
          · split at hx
            · cases hx; exact ⟨_, rfl⟩
            · cases hx
          · cases hx
        · cases hx
      · cases hx
    obtain ⟨v, rfl⟩ := hout
    obtain ⟨rfl, hgu⟩ := sim_store h (operand_VR he x) (operand_VR he y) hx
    exact upon_goodU hgu hg
  · rename_i x hop
    simp only [hop]
    obtain ⟨v, rfl, hx2, rfl⟩ := retO_nil hx
    have hxv := operand_VR he x
    generalize a.eval x = u at hxv ⊢
    obtain ⟨rfl, hr⟩ := sim_nilcheck (P := C.P) (w := w) hxv hx2
    have hgo : o.upon C.P a next Q (.ok (.value u) w) := by rw [Oper.upon_value]; exact hg.pure h hxv
    rw [← hr] at hgo
    exact hgo
  · rename_i op t x y ty hop
    simp only [hop]
    obtain ⟨v, rfl, hx2, rfl⟩ := retO_nil hx
    exact upon_good (sim_binop x y h (operand_VR he x) (operand_VR he y) hx2) hg
  · rename_i op t x hop
    simp only [hop]
    obtain ⟨v, rfl, hx2, rfl⟩ := retO_nil hx
    exact upon_good (sim_unop h (operand_VR he x) hx2) hg
  · rename_i s d x hop
    simp only [hop]
    have hout : ∃ v, out = .val v := by
      unfold convert at hx
      repeat' split at hx
      all_goals first | (cases hx; done) | (cases hx; exact ⟨_, rfl⟩) | (unfold ret at hx; cases hx; exact ⟨_, rfl⟩)
    obtain ⟨v, rfl⟩ := hout
    exact upon_good (sim_convert h (fun hh => (hnid hh).1) (fun hh => (hnid hh).2) (operand_VR he x) hx) hg
  · rename_i f first captured hop
    simp only [hop]
    unfold ret at hx
    cases hx
    have h1 := opds_VRs he first.toList
    have h2 := opds_VRs he captured.toList
    have : VR γ g (.fn f (opds T first.toList) (opds T captured.toList)) (.func (.func f) (first.map a.eval) (captured.map a.eval)) := by
      have e1 : first.map a.eval = (first.toList.map a.eval).toArray := by apply Array.ext'; rw [Array.toList_map]
      have e2 : captured.map a.eval = (captured.toList.map a.eval).toArray := by apply Array.ext'; rw [Array.toList_map]
      rw [e1, e2]
      exact .fn f _ _ _ _ h1.1 h2.1 h1.2 h2.2
    refine upon_good (s := Instr.makeFunc (.func f) (first.map a.eval) (captured.map a.eval)) (v := .fn f (opds T first.toList) (opds T captured.toList)) ?_ hg
    exact .pure h this
  · rename_i t l c hop
    simp only [hop]
    have hout : ∃ v, out = .val v ∧ ∃ x, (nid, x) ∈ p := by
      unfold xMakeSlice at hx
      repeat' split at hx
      all_goals first | (cases hx; done) | (cases hx; exact ⟨_, rfl, _, .head _⟩)
    obtain ⟨v, rfl, hin⟩ := hout
    exact upon_good (sim_makeSlice h (hnid hin).1 (hnid hin).2 (operand_VR he l) (operand_VR he c) hx) hg
  · rename_i t x lo hi mx hop
    simp only [hop]
    unfold xSlice at hx
    split at hx
    · rename_i lo' hi' mx' h1 h2 h3
      obtain ⟨v, rfl, hx2, rfl⟩ := retO_nil hx
      exact upon_good (sim_slice h (operand_VR he x) (bound_BO he h1) (bound_BO he h2) (bound_BO he h3) hx2) hg
    · cases hx
  · rename_i s x f hop
    simp only [hop]
    have hout : ∃ v, out = .val v := by
      unfold xFieldAddr at hx
      repeat' split at hx
      all_goals first | (cases hx; done) | (obtain ⟨v, h1, _⟩ := retO_nil hx; exact ⟨v, h1⟩)
    obtain ⟨v, rfl⟩ := hout
    exact upon_good (sim_fieldAddr h (operand_VR he x) hx) hg
  · rename_i s x f hop
    simp only [hop]
    have hout : ∃ v, out = .val v := by
      unfold xField at hx
      repeat' split at hx
      all_goals first | (cases hx; done) | (obtain ⟨v, h1, _⟩ := retO_nil hx; exact ⟨v, h1⟩)
    obtain ⟨v, rfl⟩ := hout
    exact upon_good (sim_field h (operand_VR he x) hx) hg
  · rename_i t x i hop
    simp only [hop]
    have hout : ∃ v, out = .val v := by
      unfold xIndexAddr at hx
      repeat' split at hx
      all_goals first | (cases hx; done) | (obtain ⟨v, h1, _⟩ := retO_nil hx; exact ⟨v, h1⟩)
    obtain ⟨v, rfl⟩ := hout
    exact upon_good (sim_indexAddr h (operand_VR he x) (operand_VR he i) hx) hg
  · rename_i t x i hop
    simp only [hop]
    have hout : ∃ v, out = .val v := by
      unfold xIndex at hx
      repeat' split at hx
      all_goals first | (cases hx; done) | (obtain ⟨v, h1, _⟩ := retO_nil hx; exact ⟨v, h1⟩)
    obtain ⟨v, rfl⟩ := hout
    exact upon_good (sim_index h (operand_VR he x) (operand_VR he i) hx) hg
  · rename_i t x hop
    simp only [hop]
    have hout : ∃ v, out = .val v ∧ ∃ x, (nid, x) ∈ p := by
      unfold xRange at hx
      repeat' split at hx
      all_goals first | (cases hx; done) | (cases hx; exact ⟨_, rfl, _, .head _⟩)
    obtain ⟨v, rfl, hin⟩ := hout
    exact upon_good (sim_range h (hnid hin).1 (hnid hin).2 (operand_VR he x) hx) hg
  · rename_i it hop
    simp only [hop]
    have hout : ∃ v, out = .val v := by
      unfold xNext at hx
      repeat' split at hx
      all_goals first | (cases hx; done) | (cases hx; exact ⟨_, rfl⟩) | (unfold ret at hx; cases hx; exact ⟨_, rfl⟩)
    obtain ⟨v, rfl⟩ := hout
    exact upon_good (sim_next h (operand_VR he it) hx) hg
  · rename_i t i hop
    simp only [hop]
    have hout : ∃ v, out = .val v := by
      unfold xExtract at hx
      repeat' split at hx
      all_goals first | (cases hx; done) | (obtain ⟨v, h1, _⟩ := retO_nil hx; exact ⟨v, h1⟩)
    obtain ⟨v, rfl⟩ := hout
    exact upon_good (sim_extract h (operand_VR he t) hx) hg
  · rename_i c hop
    simp only [hop]
    exact sim_xCall hρ hpr h hb he hx hfree hg o.type
  · cases hx

end
end Go.Ab
/- Regions in their order, and the heap behind a patch. -/
namespace Go.Ab

/-! ### The heap behind a patch -/

/-- The same objects; where one has none, the other may have a dead one. -/
def Same (g g' : Look) : Prop := (∀ id o, g id = some o → g' id = some o) ∧ ∀ id, g id = none → g' id = none ∨ g' id = some .dead

theorem Same.refl (g : Look) : Same g g := ⟨fun _ _ h => h, fun _ h => .inl h⟩

theorem Same.cur {g g' : Look} (h : Same g g') (id : Nat) : Ab.cur g' id = Ab.cur g id := by
  unfold Ab.cur
  cases hg : g id with
  | some o => rw [h.1 id o hg]
  | none => rcases h.2 id hg with h1 | h1 <;> rw [h1]

theorem Same.dims {g g' : Look} (h : Same g g') (id : Nat) : Ab.dims g' id = Ab.dims g id := by
  unfold Ab.dims
  cases hg : g id with
  | some o => rw [h.1 id o hg]
  | none => rcases h.2 id hg with h1 | h1 <;> rw [h1]

theorem Same.ext {g g' : Look} (h : Same g g') (γ : G) : Ext γ g γ g' :=
  ⟨.refl _, fun id b hb hc => ⟨hb, by rw [h.cur]; exact hc⟩, fun id c hc => ⟨c, by rw [h.cur]; exact hc, Nat.le_refl _, fun _ => ⟨rfl, rfl, h.dims id⟩⟩⟩

theorem HR.same {γ : G} {g g' : Look} {w : World} (hr : HR γ g w) (h : Same g g') : HR γ g' w := by
  refine ⟨fun id b hb => ?_, hr.inj, hr.imm⟩
  obtain ⟨o, ho, hor⟩ := hr.obj id b hb
  exact ⟨o, h.1 id o ho, hor.mono (h.ext γ) rfl rfl (fun _ => rfl)⟩

theorem nth_put1 : ∀ (h : Heap) (n : Nat) (o : Obj) (i : Nat), nth (put1 h n o) i = if i = n then some o else match nth h i with
    | some x => some x
    | none => if i < n then some .dead else none
  | [], 0, o, i => by
    unfold put1
    cases i with
    | zero => simp [nth]
    | succ i => simp [nth]
  | [], n + 1, o, i => by
    unfold put1
    cases i with
    | zero => simp [nth]
    | succ i =>
      have := nth_put1 [] n o i
      simp only [nth] at this ⊢
      rw [this]
      simp
  | a :: h, 0, o, i => by
    unfold put1
    cases i with
    | zero => simp [nth]
    | succ i => simp only [nth]; simp; cases nth h i <;> rfl
  | a :: h, n + 1, o, i => by
    unfold put1
    cases i with
    | zero => simp [nth]
    | succ i =>
      have := nth_put1 h n o i
      simp only [nth] at this ⊢
      rw [this]
      simp

theorem patch_same : ∀ {p : Patch} {g : Look} {h : Heap}, Same g (nth h) → Same (upd g p) (nth (patch h p))
  | [], g, h, hs => hs
  | (id, o) :: p, g, h, hs => by
    unfold upd patch
    refine patch_same ⟨fun i x hx => ?_, fun i hx => ?_⟩
    · dsimp only at hx
      rw [nth_put1]
      cases hb : Nat.beq i id with
      | true => have := Nat.eq_of_beq_eq_true hb; rw [hb] at hx; simp only [this, if_true]; exact hx
      | false =>
        have := Nat.ne_of_beq_eq_false hb
        rw [hb] at hx
        simp only [this, if_false]
        rw [hs.1 i x hx]
    · dsimp only at hx
      rw [nth_put1]
      cases hb : Nat.beq i id with
      | true => rw [hb] at hx; cases hx
      | false =>
        have := Nat.ne_of_beq_eq_false hb
        rw [hb] at hx
        simp only [this, if_false]
        rcases hs.2 i hx with h1 | h1
        · rw [h1]; by_cases hlt : i < id <;> simp [hlt]
        · rw [h1]; simp

/-! ### The state -/

structure Inv (w0 : World) (k : Nat) (γ : G) (h : Heap) (T : Env) (a : Act) (w : World) : Prop where
  hr : HR γ (nth h) w
  base : Base w0 γ w
  er : ER γ (nth h) T a
  sz : k ≤ a.tmps.size
  nd : a.defers = []

theorem HR.free {γ : G} {h : Heap} {w : World} (hr : HR γ (nth h) w) {i : Nat} (hi : h.length ≤ i) : γ.β i = none ∧ nth h i = none := by
  have h1 : nth h i = none := by rw [nth_eq]; exact List.getElem?_eq_none hi
  refine ⟨?_, h1⟩
  cases hb : γ.β i with
  | none => rfl
  | some b => obtain ⟨o, ho, _⟩ := hr.obj i b hb; rw [h1] at ho; cases ho

theorem ER.put {γ : G} {g : Look} {T : Env} {a : Act} {dst : Option Tmp} {v : AV} {u : Value} (h : ER γ g T a) (hv : VR γ g v u) (hd : ∀ d, dst = some d → d < a.tmps.size) :
    ER γ g (putT T dst v) (a.put dst u) := by
  cases dst with
  | none => exact h
  | some d =>
    intro t
    have hlt := hd d rfl
    unfold putT
    simp only [get, Act.put]
    cases hb : Nat.beq d t with
    | true =>
      have := Nat.eq_of_beq_eq_true hb
      subst this
      simp only
      rw [Array.getD_eq_getD_getElem?, Array.getElem?_setIfInBounds_self_of_lt hlt]
      exact hv
    | false =>
      have := Nat.ne_of_beq_eq_false hb
      simp only
      rw [Array.getD_eq_getD_getElem?, Array.getElem?_setIfInBounds_ne this, ← Array.getD_eq_getD_getElem?]
      exact h t

theorem ER.mono {γ γ' : G} {g g' : Look} {T : Env} {a : Act} (e : Ext γ g γ' g') (h : ER γ g T a) : ER γ' g' T a := fun t => (h t).mono e

theorem put_size (a : Act) (dst : Option Tmp) (u : Value) : (a.put dst u).tmps.size = a.tmps.size := by
  cases dst <;> simp [Act.put]

theorem put_defers (a : Act) (dst : Option Tmp) (u : Value) : (a.put dst u).defers = a.defers := by
  cases dst <;> rfl

theorem wanted_ER {γ : G} {g : Look} {T : Env} {a : Act} {ops : Array Oper} {o : Oper} {b : Bool} (h : ER γ g T a) (hw : wanted ops.toList T o = some b) :
    Region.wanted o (yielded ops a.tmps) = b := by
  unfold wanted at hw
  unfold Region.wanted
  split at hw
  · rename_i hg; cases hw; rw [hg]
  · rename_i j want hg
    rw [hg]
    simp only
    rw [nth_eq] at hw
    split at hw
    · rename_i oj hoj
      have hoj' : ops[j]? = some oj := by simpa using hoj
      split at hw
      · rename_i d hd
        have hv := h d
        unfold yielded
        simp only [hoj', hd, Option.bind_some]
        split at hw
        · rename_i b' hgt
          rw [hgt] at hv
          rw [Array.getD_eq_getD_getElem?] at hv
          have : a.tmps[d]? = some (.bool b') := by
            cases hx : a.tmps[d]? with
            | none => rw [hx] at hv; cases hv with
              | t _ _ ht => exact nomatch ht
            | some x => rw [hx] at hv; cases hv with
              | t _ _ ht => cases ht; rfl
          rw [this]
          cases hw
          cases b' <;> cases want <;> rfl
        · rename_i hgt
          cases hw
          rw [hgt] at hv
          rw [Array.getD_eq_getD_getElem?] at hv
          cases hx : a.tmps[d]? with
          | none => rfl
          | some x =>
            rw [hx] at hv
            cases hv
            rfl
        · cases hw
      · cases hw
    · cases hw

theorem dstOK_cons {k : Nat} {o : Oper} {os : List Oper} (h : dstOK k (o :: os) = true) : (∀ d, o.dst = some d → d < k) ∧ dstOK k os = true := by
  unfold dstOK at h
  split at h
  · rename_i d hd
    split at h
    · rename_i hb
      refine ⟨fun d' hd' => ?_, h⟩
      rw [hd] at hd'; cases hd'
      rw [Nat.blt_eq] at hb; exact hb
    · cases h
  · rename_i hd
    exact ⟨fun d' hd' => (by rw [hd] at hd'; cases hd'), h⟩

theorem Inv.step {w0 : World} {k : Nat} {γ γ' : G} {h : Heap} {T : Env} {a : Act} {w w' : World} {o : Oper} {v : AV} {u : Value} {p : Patch} (hi : Inv w0 k γ h T a w)
    (e : Ext γ (nth h) γ' (upd (nth h) p)) (hh : HR γ' (upd (nth h) p) w') (f : Fr γ w γ' w') (hv : VR γ' (upd (nth h) p) v u) (hd : ∀ d, o.dst = some d → d < k) :
    Inv w0 k γ' (patch h p) (putT T o.dst v) (a.put o.dst u) w' ∧ Ext γ (nth h) γ' (nth (patch h p)) := by
  have hs := patch_same (p := p) (Same.refl (nth h))
  have e' := e.trans (hs.ext γ')
  refine ⟨⟨hh.same hs, hi.base.mono f, (hi.er.mono e').put (hv.mono (hs.ext γ')) fun d hd' => Nat.lt_of_lt_of_le (hd d hd') hi.sz, ?_, ?_⟩, e'⟩
  · rw [put_size]; exact hi.sz
  · rw [put_defers]; exact hi.nd

theorem Inv.skip {w0 : World} {k : Nat} {γ : G} {h : Heap} {T : Env} {a : Act} {w : World} {o : Oper} (hi : Inv w0 k γ h T a w) (hd : ∀ d, o.dst = some d → d < k) :
    Inv w0 k γ h (putT T o.dst .nov) (a.put o.dst undef) w :=
  ⟨hi.hr, hi.base, hi.er.put .nov fun d hd' => Nat.lt_of_lt_of_le (hd d hd') hi.sz, by rw [put_size]; exact hi.sz, by rw [put_defers]; exact hi.nd⟩

theorem sim_runOps {C : Cfg} {w0 : World} {ρ : Oracle} (hρ : OracleOK C.P w0 ρ) (hpr : PrimOK C w0) {ops : Array Oper} {k : Nat} {Q : Exit → Act → World → Prop} :
    ∀ (rest : List Oper) (i : Nat), ops.toList.drop i = rest → ∀ (T : Env) (h : Heap) (γ : G) (a : Act) (w : World) (r : Option AV) (T' : Env) (h' : Heap),
      runOps C ρ ops.toList rest T h = some (r, T', h') → Inv w0 k γ h T a w → dstOK k rest = true →
      (∀ γ' a' w', r = none → Inv w0 k γ' h' T' a' w' → Fr γ w γ' w' → Ext γ (nth h) γ' (nth h') → Q .normal a' w') →
      (∀ γ' a' w' v u, r = some v → Inv w0 k γ' h' T' a' w' → Fr γ w γ' w' → Ext γ (nth h) γ' (nth h') → VR γ' (nth h') v u → Q (.panic [{ v := u, recovered := false }]) a' w') →
      wpOps C.P ops Q (List.range' i rest.length) a w
  | [], i, hi, T, h, γ, a, w, r, T', h', hx, hinv, hd, hpost, _ => by
    simp only [runOps, Option.some.injEq, Prod.mk.injEq] at hx
    obtain ⟨rfl, rfl, rfl⟩ := hx
    simp only [List.length_nil, List.range'_zero, wpOps]
    exact hpost γ a w rfl hinv (.refl _ _) (.refl _ _)
  | o :: rest, i, hi, T, h, γ, a, w, r, T', h', hx, hinv, hd, hpost, hpan => by
    obtain ⟨hd1, hd2⟩ := dstOK_cons hd
    have hoi : ops[i]? = some o := by
      have : (ops.toList.drop i)[0]? = some o := by rw [hi]; rfl
      rw [List.getElem?_drop] at this
      simpa using this
    have hrest : ops.toList.drop (i + 1) = rest := by
      rw [← List.tail_drop, hi]; rfl
    simp only [List.length_cons, List.range'_succ, wpOps, hoi]
    unfold runOps at hx
    split at hx
    · cases hx
    · rename_i hw
      rw [wanted_ER hinv.er hw]
      simp only [Bool.false_eq_true, if_false]
      exact sim_runOps hρ hpr rest (i + 1) hrest _ h γ _ w r T' h' hx (hinv.skip hd1) hd2 hpost hpan
    · rename_i hw
      rw [wanted_ER hinv.er hw]
      simp only [if_true]
      refine .inl ?_
      split at hx
      · cases hx
      · rename_i v p he
        simp only [Option.some.injEq, Prod.mk.injEq] at hx
        obtain ⟨rfl, rfl, rfl⟩ := hx
        refine sim_exec1 hρ hpr hinv.hr hinv.base hinv.er he (fun i x hi _ => hinv.hr.free hi) fun u w' γ' e hh f hv => ?_
        have hs := patch_same (p := p) (Same.refl (nth h))
        have e' := e.trans (hs.ext γ')
        exact hpan γ' a w' v u rfl ⟨hh.same hs, hinv.base.mono f, hinv.er.mono e', hinv.sz, hinv.nd⟩ f e' (hv.mono (hs.ext γ'))
      · rename_i v p he
        refine sim_exec1 hρ hpr hinv.hr hinv.base hinv.er he (fun i x hi _ => hinv.hr.free hi) fun u w' γ' e hh f hv => ?_
        obtain ⟨hinv', e'⟩ := hinv.step (o := o) e hh f hv hd1
        refine sim_runOps hρ hpr rest (i + 1) hrest _ _ γ' _ w' r T' h' hx hinv' hd2 (fun γ'' a'' w'' h0 h1 h2 h3 => hpost γ'' a'' w'' h0 h1 (f.trans h2) (e'.trans h3))
          (fun γ'' a'' w'' v' u' h0 h1 h2 h3 h4 => hpan γ'' a'' w'' v' u' h0 h1 (f.trans h2) (e'.trans h3) h4)

end Go.Ab
/- Code: what the evaluator says of it the model does. The law of regions is put in as a premise here, and proved behind. -/
namespace Go.Ab

/-! ### The heap in its canonical form -/

theorem upto_eq : ∀ (n : Nat) (acc : List Nat), upto n acc = List.range n ++ acc
  | 0, acc => by simp [upto]
  | n + 1, acc => by rw [upto, upto_eq n, List.range_succ]; simp

theorem reach_prefix {g : Look} : ∀ (n : Nat) (todo acc r : List Nat), reach g n todo acc = some r → ∃ t, r = acc ++ t
  | 0, _, _, _, h => by simp [reach] at h
  | _ + 1, [], acc, r, h => by simp [reach] at h; exact ⟨[], by simp [h]⟩
  | n + 1, id :: todo, acc, r, h => by
    unfold reach at h
    split at h
    · exact reach_prefix n _ _ _ h
    · split at h
      · obtain ⟨t, ht⟩ := reach_prefix n _ _ _ h
        exact ⟨id :: t, by rw [ht]; simp⟩
      · cases h

theorem Base.sub {w0 w : World} {γ : G} (hb : Base w0 γ w) (ids : List Nat) : Base w0 (γ.sub ids) w :=
  ⟨hb.1, fun b hlt => ⟨(hb.2 b hlt).1, fun k hk => by
    cases hid : ids[k]? with
    | none => simp only [G.sub, hid] at hk; cases hk
    | some id => exact (hb.2 b hlt).2 id (by simpa only [G.sub, hid] using hk)⟩⟩

theorem Fr.sub (γ : G) (w : World) (ids : List Nat) : Fr γ w (γ.sub ids) w :=
  ⟨Nat.le_refl _, fun _ _ _ => rfl, fun k b hk => by
    cases hid : ids[k]? with
    | none => simp only [G.sub, hid] at hk; cases hk
    | some id => exact .inr ⟨id, by simpa only [G.sub, hid] using hk⟩, fun _ _ _ h => .inl h, rfl, rfl⟩

theorem sim_canon {γ : G} {h h' : Heap} {w : World} {m : Nat} {xs ys : List AV} (hr : HR γ (nth h) w) (hx : canon h m xs = some (ys, h')) :
    ∃ ids, HR (γ.sub ids) (nth h') w ∧ Keep m γ (nth h) (γ.sub ids) (nth h') ∧ ys = renL (nth h) ids xs ∧ ∀ x u, VR γ (nth h) x u → VR (γ.sub ids) (nth h') (ren (nth h) ids depth x) u := by
  unfold canon at hx
  dsimp only at hx
  split at hx
  · cases hx
  · rename_i ids hids
    have hnod := reach_nodup _ _ _ _ hids (by rw [upto_eq]; simp [List.nodup_range])
    obtain ⟨t, ht⟩ := reach_prefix _ _ _ _ hids
    rw [upto_eq, List.append_nil] at ht
    split at hx
    · cases hx
    · rename_i h1 hs
      cases hx
      have hget : ∀ k, k < m → ids[k]? = some k := fun k hk => by
        rw [ht, List.getElem?_append_left (by simpa using hk)]; simp [hk]
      obtain ⟨_, hspec⟩ := sub1_spec hs
      refine ⟨ids, sub_HR hr hs hnod, ⟨fun id b hm hb hc => ?_, fun id hm hc => ?_⟩, rfl, fun x u hv => ren_VR hs depth hv⟩
      · have hi := hget id hm
        obtain ⟨o, ho, hh⟩ := hspec _ _ hi
        exact ⟨by simp only [G.sub, hi]; exact hb, (cur_renO ho (by rw [nth_eq]; exact hh : nth h' id = _)).1 hc⟩
      · have hi := hget id hm
        obtain ⟨o, ho, hh⟩ := hspec _ _ hi
        cases hcc : cur (nth h) id with
        | none => exact absurd hcc hc
        | some c => rw [(cur_renO ho (by rw [nth_eq]; exact hh : nth h' id = _)).2.1 c hcc]; simp

theorem get_zip {f : Nat → AV} (t : Nat) : ∀ (ks : List Nat), get (ks.zip (ks.map f)) t = f t ∨ get (ks.zip (ks.map f)) t = .unk
  | [] => .inr rfl
  | k :: ks => by
    simp only [List.map_cons, List.zip_cons_cons, get]
    cases hb : Nat.beq k t with
    | true => have := Nat.eq_of_beq_eq_true hb; subst this; exact .inl rfl
    | false => exact get_zip t ks

/-! ### What is said of code -/

def Post (w0 : World) (k m : Nat) (γ : G) (g : Look) (w : World) (r : Ex) (st' : St) (Q : Exit → Act → World → Prop) : Prop :=
  ∀ γ' a' w', Inv w0 k γ' st'.h st'.T a' w' → Fr γ w γ' w' → ImmLe γ.imm γ'.imm → Keep m γ g γ' (nth st'.h) → match r with
    | .normal => Q .normal a' w'
    | .exit id => Q (.exit id) a' w'
    | .ret => Q .ret a' w'
    | .pan v => ∀ u, VR γ' (nth st'.h) v u → Q (.panic [{ v := u, recovered := false }]) a' w'

theorem Post.after {w0 : World} {k m : Nat} {γ γ1 : G} {g g1 : Look} {w w1 : World} {r : Ex} {st' : St} {Q : Exit → Act → World → Prop} (h : Post w0 k m γ g w r st' Q)
    (f : Fr γ w γ1 w1) (i : ImmLe γ.imm γ1.imm) (kp : Keep m γ g γ1 g1) : Post w0 k m γ1 g1 w1 r st' Q :=
  fun γ' a' w' h1 h2 h3 h4 => h γ' a' w' h1 (f.trans h2) (i.trans h3) (kp.trans h4)

theorem Keep.refl (m : Nat) (γ : G) (g : Look) : Keep m γ g γ g := ⟨fun _ _ _ h h' => ⟨h, h'⟩, fun _ _ h => h⟩

theorem exists_least {p : Nat → Prop} (h : ∃ n, p n) : ∃ n, p n ∧ ∀ m, p m → n ≤ m := by
  obtain ⟨n, hn⟩ := h
  induction n using Nat.strongRecOn with
  | _ n ih =>
    by_cases hh : ∃ m, m < n ∧ p m
    · obtain ⟨m, hm, hp⟩ := hh; exact ih m hm hp
    · exact ⟨n, hn, fun m hm => Nat.le_of_not_lt fun hlt => hh ⟨m, hlt, hm⟩⟩

/-- The law of regions. -/
def RegionOK (C : Cfg) (ρ : Oracle) (w0 : World) : Prop :=
  ∀ (k m : Nat) (id : Nat) (ops : Array Oper) (draw : Bool) (st : St) (r : Ex) (st' : St) (γ : G) (a : Act) (w : World) (Q : Exit → Act → World → Prop),
    region C ρ k ops.toList draw st = some (r, st') → Inv w0 k γ st.h st.T a w → Post w0 k m γ (nth st.h) w r st' Q → (Code.region id ops draw).wp C.P Q a w

theorem sim_tidy {w0 : World} {k m : Nat} {keep : Option (List Nat)} {st st' : St} {γ : G} {a : Act} {w : World} (hx : tidy m keep st = some st') (hi : Inv w0 k γ st.h st.T a w) :
    ∃ γ', Inv w0 k γ' st'.h st'.T a w ∧ Fr γ w γ' w ∧ ImmLe γ.imm γ'.imm ∧ Keep m γ (nth st.h) γ' (nth st'.h) := by
  unfold tidy at hx
  split at hx
  · cases hx; exact ⟨γ, hi, .refl _ _, .refl _, .refl _ _ _⟩
  · rename_i ks
    split at hx
    · rename_i vs h hc
      cases hx
      obtain ⟨ids, h1, h2, h3, h4⟩ := sim_canon hi.hr hc
      refine ⟨γ.sub ids, ⟨h1, hi.base.sub ids, fun t => ?_, hi.sz, hi.nd⟩, .sub _ _ _, .refl _, h2⟩
      simp only
      rw [h3]
      unfold renL
      rw [List.map_map]
      rcases get_zip (f := ren (nth st.h) ids depth ∘ get st.T) t ks with h5 | h5
      · rw [h5]; exact h4 _ _ (hi.er t)
      · rw [h5]; exact .unk _
    · cases hx

theorem sim_exec {C : Cfg} {w0 : World} {ρ : Oracle} (hreg : RegionOK C ρ w0) (n m k : Nat) (keep : Nat → Option (List Nat)) :
    ∀ (c : Code) (st : St) (r : Ex) (st' : St) (γ : G) (a : Act) (w : World) (Q : Exit → Act → World → Prop),
      exec C ρ n m k keep c st = some (r, st') → Inv w0 k γ st.h st.T a w → Post w0 k m γ (nth st.h) w r st' Q → c.wp C.P Q a w := by
  intro c
  induction c with
  | skip =>
    intro st r st' γ a w Q hx hi hp
    simp only [exec, Option.some.injEq, Prod.mk.injEq] at hx
    obtain ⟨rfl, rfl⟩ := hx
    exact wp_skip (hp γ a w hi (.refl _ _) (.refl _) (.refl _ _ _))
  | region id ops draw =>
    intro st r st' γ a w Q hx hi hp
    exact hreg k m id ops draw st r st' γ a w Q hx hi hp
  | seq x y ihx ihy =>
    intro st r st' γ a w Q hx hi hp
    unfold exec at hx
    split at hx
    · rename_i st1 h1
      refine wp_seq (ihx st .normal st1 γ a w _ h1 hi fun γ1 a1 w1 i1 f1 m1 k1 => ?_)
      exact ihy st1 r st' γ1 a1 w1 Q hx i1 (hp.after f1 m1 k1)
    · rename_i r1 hne
      refine wp_seq (ihx st r st' γ a w _ hx hi fun γ1 a1 w1 i1 f1 m1 k1 => ?_)
      have := hp γ1 a1 w1 i1 f1 m1 k1
      cases r with
      | normal => exact absurd hx (hne st')
      | exit id => exact this
      | ret => exact this
      | pan v => exact this
  | cond c x y ihx ihy =>
    intro st r st' γ a w Q hx hi hp
    unfold exec at hx
    have hc := operand_VR hi.er c
    split at hx
    · rename_i hop
      rw [hop] at hc
      have : a.eval c = .bool true := by
        generalize a.eval c = cv at hc
        cases hc with
        | t _ _ ht => cases ht; rfl
      exact wp_cond_true this (ihx st r st' γ a w Q hx hi hp)
    · rename_i hop
      rw [hop] at hc
      have : a.eval c = .bool false := by
        generalize a.eval c = cv at hc
        cases hc with
        | t _ _ ht => cases ht; rfl
      exact wp_cond_false this (ihy st r st' γ a w Q hx hi hp)
    · cases hx
  | block id b ih =>
    intro st r st' γ a w Q hx hi hp
    unfold exec at hx
    split at hx
    · rename_i id' st1 h1
      refine wp_block (ih st (.exit id') st1 γ a w _ h1 hi fun γ1 a1 w1 i1 f1 m1 k1 => ?_)
      simp only [Exit.inBlock]
      split at hx
      · rename_i he
        cases hx
        rw [if_pos he]
        exact hp γ1 a1 w1 i1 f1 m1 k1
      · rename_i he
        cases hx
        rw [if_neg he]
        exact hp γ1 a1 w1 i1 f1 m1 k1
    · rename_i r1 hne
      refine wp_block (ih st r st' γ a w _ hx hi fun γ1 a1 w1 i1 f1 m1 k1 => ?_)
      have := hp γ1 a1 w1 i1 f1 m1 k1
      cases r with
      | normal => exact this
      | exit id => exact absurd hx (hne id st')
      | ret => exact this
      | pan v => exact this
  | loop b ih =>
    intro st r st' γ a w Q hx hi hp
    unfold exec at hx
    have hgen : ∃ ks, iter (tidy m ks) (exec C ρ n m k keep b) n st = some (r, st') := ⟨_, hx⟩
    obtain ⟨ks, hx⟩ := hgen
    let R : Nat → Act → World → Prop := fun f a w => ∃ st2 γ2, iter (tidy m ks) (exec C ρ n m k keep b) f st2 = some (r, st') ∧ Inv w0 k γ2 st2.h st2.T a w ∧ Post w0 k m γ2 (nth st2.h) w r st' Q
    have hR : R n a w := ⟨st, γ, hx, hi, hp⟩
    let μ : Act → World → Nat := fun a w => open Classical in if h : ∃ f, R f a w then Classical.choose (exists_least h) else 0
    have hμ : ∀ a w f, R f a w → R (μ a w) a w ∧ μ a w ≤ f := fun a w f h => by
      have hex : ∃ f, R f a w := ⟨f, h⟩
      have hs := Classical.choose_spec (exists_least hex)
      have he : μ a w = Classical.choose (exists_least hex) := dif_pos hex
      rw [he]
      exact ⟨hs.1, hs.2 f h⟩
    refine wp_loop (fun a w => ∃ f, R f a w) μ ⟨n, hR⟩ fun a w ⟨f0, hf0⟩ => ?_
    obtain ⟨⟨st2, γ2, h1, h2, h3⟩, _⟩ := hμ a w f0 hf0
    cases hf : μ a w with
    | zero => rw [hf] at h1; simp [iter] at h1
    | succ f =>
      rw [hf] at h1
      unfold iter at h1
      split at h1
      · cases h1
      · rename_i st3 htidy
        obtain ⟨γ3, i3, f3, m3, k3⟩ := sim_tidy htidy h2
        have h4 := h3.after f3 m3 k3
        split at h1
        · rename_i st4 hb
          refine ih st3 .normal st4 γ3 a w _ hb i3 fun γ5 a5 w5 i5 f5 m5 k5 => ?_
          have hR5 : R f a5 w5 := ⟨st4, γ5, h1, i5, h4.after f5 m5 k5⟩
          exact ⟨⟨f, hR5⟩, Nat.lt_succ_of_le (hμ a5 w5 f hR5).2⟩
        · rename_i r1 hne
          refine ih st3 r st' γ3 a w _ h1 i3 fun γ5 a5 w5 i5 f5 m5 k5 => ?_
          have := h4 γ5 a5 w5 i5 f5 m5 k5
          cases r with
          | normal => exact absurd h1 (hne st')
          | exit id => exact this
          | ret => exact this
          | pan v => exact this
  | rangeFunc f ps x y ihx ihy => intro st r st' γ a w Q hx; simp [exec] at hx
  | exit id =>
    intro st r st' γ a w Q hx hi hp
    simp only [exec, Option.some.injEq, Prod.mk.injEq] at hx
    obtain ⟨rfl, rfl⟩ := hx
    exact wp_exit (hp γ a w hi (.refl _ _) (.refl _) (.refl _ _ _))
  | scope b ih =>
    intro st r st' γ a w Q hx hi hp
    unfold exec at hx
    refine wp_scope_straight (ih st r st' γ a w _ hx hi fun γ1 a1 w1 i1 f1 m1 k1 => ?_)
    have := hp γ1 a1 w1 i1 f1 m1 k1
    cases r with
    | normal => exact this
    | exit id => exact this
    | ret => exact this
    | pan v => exact this
  | label l =>
    intro st r st' γ a w Q hx hi hp
    simp only [exec, Option.some.injEq, Prod.mk.injEq] at hx
    obtain ⟨rfl, rfl⟩ := hx
    exact wp_label (hp γ a w hi (.refl _ _) (.refl _) (.refl _ _ _))
  | goto l => intro st r st' γ a w Q hx; simp [exec] at hx
  | ret =>
    intro st r st' γ a w Q hx hi hp
    simp only [exec, Option.some.injEq, Prod.mk.injEq] at hx
    obtain ⟨rfl, rfl⟩ := hx
    exact wp_ret (hp γ a w hi (.refl _ _) (.refl _) (.refl _ _ _))
  | refuse s => intro st r st' γ a w Q hx; simp [exec] at hx

end Go.Ab
/- Whole functions: the evaluator's calls are the model's. -/
namespace Go.Ab

/-! ### Results -/

theorem load_run {P : Program} {γ : G} {g : Look} {w : World} {t : TypeId} {a v : AV} {u : Value} (h : HR γ g w) (hv : VR γ g a u) (hx : load P g t a = some v) :
    ∃ ad r, u = .pointer (some ad) ∧ (loadVar t ad).run P w = .ok r w ∧ VR γ g v r := by
  unfold load at hx
  split at hx
  · rename_i hagg
    split at hx
    · rename_i n hn
      split at hx
      · rename_i cs hcs
        cases hx
        obtain ⟨b, o, vs, rfl, hl, hvs, hc⟩ := loadCells_VR h hcs hv
        have hrun := run_loadCells_list (P := P) w ⟨b, o, none⟩ vs (fun j x hj => by rw [addr_add]; exact hc j x hj)
        rw [hl] at hrun
        refine ⟨_, .agg vs.toArray, rfl, ?_, .mkAgg hvs⟩
        simp only [loadVar, Sem.run_bind, Sem.run_pure, Result.andThen_ok, run_isAgg hagg, if_true, run_size hn, hrun]
      · cases hx
    · cases hx
  · rename_i hagg
    split at hx
    · rename_i v' hcs
      cases hx
      obtain ⟨b, o, vs, rfl, hl, hvs, hc⟩ := loadCells_VR h hcs hv
      obtain ⟨v0, vs', rfl, h0, _⟩ := hvs.cases_cons
      have hc0 := hc 0 v0 rfl
      simp only [Nat.add_zero] at hc0
      have hl0 : (Go.load ⟨b, o, none⟩).run P w = .ok v0 w := by rw [run_load]; simp [hc0]
      refine ⟨_, v0, rfl, ?_, h0⟩
      simp only [loadVar, Sem.run_bind, Result.andThen_ok, run_isAgg hagg, Bool.false_eq_true, if_false, hl0]
    · cases hx
  · cases hx

/-- What the model does for one result. -/
def resultSem (tmps : Array Value) : ResultVar → Sem Value
  | .tmp t => pure (tmps.getD t undef)
  | .cell a t => do loadVar t (← asAddr (tmps.getD a undef))

theorem resultsOf_run {P : Program} {γ : G} {st : St} {a : Act} {w : World} (hr : HR γ (nth st.h) w) (he : ER γ (nth st.h) st.T a) :
    ∀ {rs : List ResultVar} {vs : List AV}, resultsOf P st rs = some vs → ∃ us, (rs.mapM (resultSem a.tmps)).run P w = .ok us w ∧ VRs γ (nth st.h) vs us
  | [], vs, h => by
    simp only [resultsOf, Option.some.injEq] at h
    subst h
    exact ⟨[], by simp, .nil⟩
  | r :: rs, vs, h => by
    unfold resultsOf at h
    split at h
    · cases h
    · rename_i v hv
      split at h
      · cases h
      · rename_i vs' hvs
        cases h
        obtain ⟨us, h1, h2⟩ := resultsOf_run hr he hvs
        have h0 : ∃ u, (resultSem a.tmps r).run P w = .ok u w ∧ VR γ (nth st.h) v u := by
          unfold resultOf at hv
          split at hv
          · cases hv; exact ⟨_, rfl, he _⟩
          · obtain ⟨ad, u, e1, e2, e3⟩ := load_run hr (he _) hv
            refine ⟨u, ?_, e3⟩
            simp only [resultSem, e1, asAddr, Sem.run_bind, Sem.run_pure, Result.andThen_ok, e2]
        obtain ⟨u, h3, h4⟩ := h0
        refine ⟨u :: us, ?_, .cons h4 h2⟩
        rw [List.mapM_cons]
        simp only [Sem.run_bind, h3, h1, Result.andThen_ok, Sem.run_pure]

theorem results_eq (fn : Func) (tmps : Array Value) : Go.results fn tmps = (do
    let vs ← fn.results.mapM (resultSem tmps)
    pure (if h : vs.size = 1 then vs[0] else .tuple vs)) := by
  unfold Go.results
  congr 1

theorem sim_results {P : Program} {γ : G} {st : St} {a : Act} {w : World} {fn : Func} {v : AV} (hr : HR γ (nth st.h) w) (he : ER γ (nth st.h) st.T a) (hx : results P fn st = some v) :
    ∃ u, (Go.results fn a.tmps).run P w = .ok u w ∧ VR γ (nth st.h) v u := by
  rw [results_eq, Array.mapM_eq_mapM_toList]
  unfold results at hx
  split at hx
  · rename_i v' hvs
    cases hx
    obtain ⟨us, h1, h2⟩ := resultsOf_run (P := P) hr he hvs
    obtain ⟨u, us', rfl, h3, h4⟩ := h2.cases_cons
    have := h4.nil_inv
    subst this
    exact ⟨u, by simp [h1], h3⟩
  · rename_i vs hne hvs
    cases hx
    obtain ⟨us, h1, h2⟩ := resultsOf_run (P := P) hr he hvs
    refine ⟨.tuple us.toArray, ?_, .tup vs us h2.1 h2.2⟩
    have hl : us.length ≠ 1 := fun hl => by
      rw [← h2.1] at hl
      match vs, hl with
      | [x], _ => exact hne x rfl
    simp [h1, hl]
  · cases hx

/-! ### The answer's heap -/

theorem views_VRs' {γ : G} {g g' : Look} {w : World} (hr : HR γ g' w) : ∀ {xs : List AV} {vs : List Value},
    (∀ x ∈ xs, ∀ id ∈ viewed g x, ∀ s ver frz es, g id = some (.arr s ver frz es) → g' id = some (.arr s ver true es)) → VRs γ g' xs vs → VRs γ g' (xs.map (view g)) vs
  | [], vs, _, hv => by rw [hv.nil_inv]; exact .nil
  | x :: xs, vs, hp, hv => by
    obtain ⟨v, vs', rfl, hx, hxs⟩ := hv.cases_cons
    exact .cons (view_VR hr (hp x (.head _)) hx) (views_VRs' hr (fun y hy => hp y (List.mem_cons_of_mem _ hy)) hxs)

theorem exports_VR {γ : G} {g g' : Look} {w : World} {v : AV} {u : Value} (hr : HR γ g' w) (hp : ∀ id ∈ viewedO g v, ∀ s ver frz es, g id = some (.arr s ver frz es) → g' id = some (.arr s ver true es))
    (hv : VR γ g' v u) : VR γ g' (exports g v) u := by
  unfold exports
  split
  · rename_i vs
    cases hv with
    | tup _ us hl h =>
      have hh : VRs γ g' vs us := ⟨hl, h⟩
      have := views_VRs' (g := g) hr (fun x hx id hid => hp id (by unfold viewedO; exact mem_catMap.2 ⟨x, hx, hid⟩)) hh
      exact .tup _ us this.1 this.2
  · rename_i hne
    refine view_VR hr (fun id hid => hp id ?_) hv
    unfold viewedO
    split
    · rename_i vs; exact absurd rfl (hne vs)
    · exact hid

theorem renL_one {g : Look} {ids : List Nat} {x y : AV} (h : [y] = renL g ids [x]) : y = ren g ids depth x := by
  simpa [renL] using h

theorem sim_finish {C : Cfg} {f : FuncId} {m : Nat} {v v' : AV} {h h' : Heap} {γ : G} {w : World} {u : Value} (hr : HR γ (nth h) w) (hv : VR γ (nth h) v u) (hx : finish C f m v h = some (v', h')) :
    ∃ γ', HR γ' (nth h') w ∧ Fr γ w γ' w ∧ ImmLe γ.imm γ'.imm ∧ Keep m γ (nth h) γ' (nth h') ∧ VR γ' (nth h') v' u := by
  unfold finish at hx
  split at hx
  · split at hx
    · rename_i y h1 hc
      cases hx
      obtain ⟨ids, h1, h2, h3, h4⟩ := sim_canon hr hc
      refine ⟨_, h1, .sub _ _ _, .refl _, h2, ?_⟩
      rw [renL_one h3]
      exact h4 _ _ hv
    · cases hx
  · split at hx
    · rename_i y h1 hc
      cases hx
      obtain ⟨γ1, e1, hr1, f1, _⟩ := sim_freeze hr (freeze_patch (nth h) (viewedO (nth h) v))
      have hs := patch_same (p := freeze (nth h) (viewedO (nth h) v)) (Same.refl (nth h))
      have e2 := hs.ext γ1
      have hv1 : VR γ1 (upd (nth h) (freeze (nth h) (viewedO (nth h) v))) (exports (nth h) v) u :=
        exports_VR hr1 (fun id hid s ver frz es hg => (freeze_patch (nth h) _).upd_eq hg ⟨_, freeze_mem hg hid⟩) (hv.mono e1)
      obtain ⟨ids, h1, h2, h3, h4⟩ := sim_canon (hr1.same hs) hc
      refine ⟨_, h1, f1.trans (.sub _ _ _), e1.imm, ((e1.trans e2).keep m).trans h2, ?_⟩
      rw [renL_one h3]
      exact h4 _ _ (hv1.mono e2)
    · cases hx

/-! ### Functions -/

theorem get_argsT (t : Nat) : ∀ (l : List AV) (i : Nat), get (argsT i l) t = if i ≤ t then (l[t - i]?).getD .unk else .unk
  | [], i => by simp [argsT, get]
  | v :: l, i => by
    simp only [argsT, get]
    cases hb : Nat.beq i t with
    | true => have := Nat.eq_of_beq_eq_true hb; subst this; simp
    | false =>
      have := Nat.ne_of_beq_eq_false hb
      simp only
      rw [get_argsT t l (i + 1)]
      by_cases h1 : i + 1 ≤ t
      · have : t - i = (t - (i + 1)) + 1 := by omega
        rw [if_pos h1, if_pos (by omega), this, List.getElem?_cons_succ]
      · rw [if_neg h1, if_neg (by omega)]

theorem inv_args {w0 w : World} {γ : G} {h : Heap} {args : List AV} {vs : List Value} (n : Nat) (hr : HR γ (nth h) w) (hb : Base w0 γ w) (hv : VRs γ (nth h) args vs) :
    Inv w0 n γ h (argsT 0 args) { tmps := vs.toArray ++ Array.replicate (n - vs.toArray.size) undef, defers := [] } w := by
  refine ⟨hr, hb, fun t => ?_, by simp; omega, rfl⟩
  rw [get_argsT]
  simp only [Nat.zero_le, if_true, Nat.sub_zero]
  cases hx : args[t]? with
  | none => exact .unk _
  | some x =>
    have hlt := getElem_lt hx
    have hlt' : t < vs.length := by rw [← hv.1]; exact hlt
    have hvt : vs[t]? = some vs[t] := List.getElem?_eq_getElem hlt'
    have : (vs.toArray ++ Array.replicate (n - vs.toArray.size) undef).getD t undef = vs[t] := by
      rw [Array.getD_eq_getD_getElem?, Array.getElem?_append_left (by simpa using hlt')]
      simp [hlt']
    rw [this]
    exact hv.2 t x _ hx hvt

theorem callS_OK {C : Cfg} {w0 : World} (hreg : ∀ ρ, OracleOK C.P w0 ρ → RegionOK C ρ w0) {ρ : Oracle} (ih : OracleOK C.P w0 ρ) (n : Nat) : OracleOK C.P w0 (callS C ρ n) :=
  fun f args h out h' hx => by
    unfold callS at hx
    rw [nth_eq] at hx
    split at hx
    · cases hx
    · rename_i fn hfn
      have hfn' : C.P.funcs[f]? = some fn := by simpa using hfn
      split at hx
      · cases hx
      · rename_i c hc
        intro γ w vs hr hb hv
        refine calls_of_wp hfn' hc ?_
        have hinv := inv_args fn.ntmps hr hb hv
        have val : ∀ (r : Ex) (st : St), (r = .normal ∨ r = .ret) → (match results C.P fn st with
              | none => none
              | some v => match finish C f h.length v st.h with
                | some (v, h) => some (Out.val v, h)
                | none => none) = some (out, h') →
            exec C ρ n h.length fn.ntmps (C.keep f) c ⟨argsT 0 args, h⟩ = some (r, st) →
            Code.wp C.P c (bodyPost C.P fn fun e w' => ∃ γ', HR γ' (nth h') w' ∧ Fr γ w γ' w' ∧ ImmLe γ.imm γ'.imm ∧ Keep h.length γ (nth h) γ' (nth h') ∧ Ends γ' (nth h') out e) { tmps := vs.toArray ++ Array.replicate (fn.ntmps - vs.toArray.size) undef, defers := [] } w := by
          intro r st hr' hres hex
          refine sim_exec (hreg _ ih) n h.length fn.ntmps (C.keep f) c ⟨argsT 0 args, h⟩ r st γ _ w _ hex hinv fun γ1 a1 w1 i1 f1 m1 k1 => ?_
          split at hres
          · cases hres
          · rename_i v hv'
            split at hres
            · rename_i v2 h2 hfin
              cases hres
              obtain ⟨u, hu1, hu2⟩ := sim_results i1.hr i1.er hv'
              obtain ⟨γ2, g1, g2, g3, g4, g5⟩ := sim_finish i1.hr hu2 hfin
              rcases hr' with rfl | rfl
              · exact ⟨i1.nd, u, hu1, γ2, g1, f1.trans g2, m1.trans g3, k1.trans g4, g5⟩
              · exact ⟨i1.nd, u, hu1, γ2, g1, f1.trans g2, m1.trans g3, k1.trans g4, g5⟩
            · cases hres
        split at hx
        · rename_i st hex; exact val _ st (.inl rfl) hx hex
        · rename_i st hex; exact val _ st (.inr rfl) hx hex
        · rename_i v st hex
          split at hx
          · rename_i v2 h2 hfin
            cases hx
            refine sim_exec (hreg _ ih) n h.length fn.ntmps (C.keep f) c ⟨argsT 0 args, h⟩ (.pan v) st γ _ w _ hex hinv fun γ1 a1 w1 i1 f1 m1 k1 u hu => ?_
            obtain ⟨γ2, g1, g2, g3, g4, g5⟩ := sim_finish i1.hr hu hfin
            exact ⟨i1.nd, γ2, g1, f1.trans g2, m1.trans g3, k1.trans g4, u, rfl, g5⟩
          · cases hx
        · cases hx

theorem callN_OK {C : Cfg} {w0 : World} (hreg : ∀ ρ, OracleOK C.P w0 ρ → RegionOK C ρ w0) : ∀ n, OracleOK C.P w0 (callN C n)
  | 0 => fun f args h out h' hx => by simp [callN] at hx
  | n + 1 => callS_OK hreg (callN_OK hreg n) n

theorem callK_OK {C : Cfg} {w0 : World} (hreg : ∀ ρ, OracleOK C.P w0 ρ → RegionOK C ρ w0) {tbl : Oracle} (ht : OracleOK C.P w0 tbl) : ∀ n, OracleOK C.P w0 (callK C tbl n)
  | 0 => fun f args h out h' hx => by simp [callK] at hx
  | n + 1 => fun f args h out h' hx => by
    unfold callK at hx
    split at hx
    · rename_i r hr
      cases hx
      exact ht f args h out h' hr
    · exact callS_OK hreg (callK_OK hreg ht n) n f args h out h' hx

end Go.Ab
/- An operation looks at its operands and at the objects that 'foot' lists, and at nothing else. -/
namespace Go.Ab

/-- Two looks agree on a list of numbers. -/
def Ag (g g' : Look) (l : List Nat) : Prop := ∀ id ∈ l, g' id = g id

theorem Ag.left {g g' : Look} {l l' : List Nat} (h : Ag g g' (l ++ l')) : Ag g g' l := fun id hid => h id (List.mem_append_left _ hid)
theorem Ag.right {g g' : Look} {l l' : List Nat} (h : Ag g g' (l ++ l')) : Ag g g' l' := fun id hid => h id (List.mem_append_right _ hid)
theorem Ag.one {g g' : Look} {id : Nat} (h : Ag g g' [id]) : g' id = g id := h id (.head _)
theorem Ag.catMap {α : Type} {g g' : Look} {f : α → List Nat} {l : List α} (h : Ag g g' (Ab.catMap f l)) {x : α} (hx : x ∈ l) : Ag g g' (f x) :=
  fun id hid => h id (mem_catMap.2 ⟨x, hx, hid⟩)

theorem catMap_congr {α β : Type} {f f' : α → List β} : ∀ {l : List α}, (∀ x ∈ l, f' x = f x) → catMap f' l = catMap f l
  | [], _ => rfl
  | a :: l, h => by simp only [catMap]; rw [h a (.head _), catMap_congr fun x hx => h x (List.mem_cons_of_mem _ hx)]

theorem upd_ag {id : Nat} : ∀ {p : Patch} {g g' : Look}, g' id = g id → upd g' p id = upd g p id
  | [], g, g', h => h
  | (i, o) :: p, g, g', h => by
    unfold upd
    refine upd_ag ?_
    cases Nat.beq id i with
    | true => rfl
    | false => exact h

theorem fresh_ag {g g' : Look} {id ver : Nat} (h : g' id = g id) : fresh g' id ver = fresh g id ver := by unfold fresh; rw [h]

theorem refs_ag {g g' : Look} : ∀ (d : Nat) (v : AV), Ag g g' (names d v) → refs g' d v = refs g d v
  | 0, v, _ => rfl
  | d + 1, v, h => by
    cases v with
    | el id ver i off => simp only [refs]; rw [fresh_ag h.one]
    | hs id ver => simp only [refs]; rw [fresh_ag h.one]
    | hsub id ver lo len => simp only [refs]; rw [fresh_ag h.one]
    | agg cs => exact catMap_congr fun c hc => refs_ag d c (h.catMap hc)
    | fn f a b =>
      simp only [refs]
      rw [catMap_congr fun c hc => refs_ag d c ((Ag.left h).catMap hc), catMap_congr fun c hc => refs_ag d c ((Ag.right h).catMap hc)]
    | tup vs => exact catMap_congr fun c hc => refs_ag d c (h.catMap hc)
    | _ => rfl

theorem refsL_ag {g g' : Look} {vs : List AV} (h : Ag g g' (namesL vs)) : refsL g' vs = refsL g vs :=
  catMap_congr fun v hv => refs_ag depth v (Ag.catMap h hv)

theorem refsO_ag {g g' : Look} {o : Obj} (h : Ag g g' (namesO o)) : refsO g' o = refsO g o := by
  cases o with
  | box cs => exact refsL_ag h
  | marr s ver es => exact catMap_congr fun e he => refsL_ag (Ag.catMap h he)
  | _ => rfl

theorem ren_ag {g g' : Look} {ids : List Nat} : ∀ (d : Nat) (v : AV), Ag g g' (names d v) → ren g' ids d v = ren g ids d v
  | 0, v, _ => rfl
  | d + 1, v, h => by
    cases v with
    | el id ver i off => simp only [ren]; rw [fresh_ag h.one]
    | hs id ver => simp only [ren]; rw [fresh_ag h.one]
    | hsub id ver lo len => simp only [ren]; rw [fresh_ag h.one]
    | agg cs => simp only [ren]; rw [List.map_congr_left fun c hc => ren_ag d c (Ag.catMap h hc)]
    | fn f a b =>
      simp only [ren]
      rw [List.map_congr_left fun c hc => ren_ag d c ((Ag.left h).catMap hc), List.map_congr_left fun c hc => ren_ag d c ((Ag.right h).catMap hc)]
    | tup vs => simp only [ren]; rw [List.map_congr_left fun c hc => ren_ag d c (Ag.catMap h hc)]
    | _ => rfl

theorem renL_ag {g g' : Look} {ids : List Nat} {vs : List AV} (h : Ag g g' (namesL vs)) : renL g' ids vs = renL g ids vs :=
  List.map_congr_left fun v hv => ren_ag depth v (Ag.catMap h hv)

theorem renO_ag {g g' : Look} {ids : List Nat} {o : Obj} (h : Ag g g' (namesO o)) : renO g' ids o = renO g ids o := by
  cases o with
  | box cs => simp only [renO]; rw [renL_ag h]
  | marr s ver es => simp only [renO]; rw [List.map_congr_left fun e he => renL_ag (Ag.catMap h he)]
  | _ => rfl

theorem reach_ag {g g' : Look} : ∀ (n : Nat) (todo acc r : List Nat), reach g n todo acc = some r → Ag g g' r → Ag g g' (catMap (namesAt g) r) → reach g' n todo acc = some r
  | 0, _, _, _, h, _, _ => by simp [reach] at h
  | _ + 1, [], acc, r, h, _, _ => by simpa [reach] using h
  | n + 1, id :: todo, acc, r, h, h1, h2 => by
    unfold reach at h ⊢
    split at h
    · rename_i hm
      exact reach_ag n _ _ _ h h1 h2
    · rename_i hm
      split at h
      · rename_i o ho
        obtain ⟨t, ht⟩ := reach_prefix _ _ _ _ h
        have hid : id ∈ r := by rw [ht]; simp
        have hn : Ag g g' (namesO o) := by
          have := Ag.catMap h2 hid
          unfold namesAt at this
          rw [ho] at this
          exact this
        rw [h1 id hid, ho]
        simp only
        rw [refsO_ag hn]
        exact reach_ag n _ _ _ h h1 h2
      · cases h

theorem sub1_ag {g g' : Look} {ids : List Nat} : ∀ {l : List Nat} {r : Heap}, sub1 g ids l = some r → Ag g g' l → Ag g g' (catMap (namesAt g) l) → sub1 g' ids l = some r
  | [], r, h, _, _ => h
  | id :: l, r, h, h1, h2 => by
    unfold sub1 at h ⊢
    split at h
    · cases h
    · rename_i o ho
      have hn : Ag g g' (namesO o) := by
        have := Ag.catMap h2 (List.mem_cons_self ..)
        unfold namesAt at this
        rw [ho] at this
        exact this
      rw [h1 id (.head _), ho]
      simp only
      split at h
      · cases h
      · rename_i os hos
        rw [sub1_ag hos (fun i hi => h1 i (List.mem_cons_of_mem _ hi)) (fun i hi => h2 i (by
          obtain ⟨x, hx, hix⟩ := mem_catMap.1 hi
          exact mem_catMap.2 ⟨x, List.mem_cons_of_mem _ hx, hix⟩)), renO_ag hn]
        exact h

theorem versOf_ag {g g' : Look} : ∀ {ids : List Nat}, Ag g g' ids → versOf g' ids = versOf g ids
  | [], _ => rfl
  | id :: ids, h => by
    simp only [versOf]
    rw [h id (.head _), versOf_ag fun i hi => h i (List.mem_cons_of_mem _ hi)]

theorem callIn_ag {ρ : Oracle} {g g' : Look} {frz : Patch} {nid : Nat} {f : FuncId} {args : List AV} {r : Out × Patch} (h : callIn ρ g frz nid f args = some r) (h1 : Ag g g' (namesL args))
    (h2 : Ag g g' (footIn g args)) : callIn ρ g' frz nid f args = some r := by
  unfold callIn at h ⊢
  unfold footIn at h2
  split at h
  · cases h
  · rename_i ids hids
    rw [hids] at h2
    simp only at h2
    rw [refsL_ag h1, reach_ag _ _ _ _ hids h2.left h2.right]
    simp only
    split at h
    · cases h
    · rename_i hh hs
      have : Ab.sub g' ids = some hh := sub1_ag hs h2.left h2.right
      rw [this]
      simp only
      rw [renL_ag h1]
      have himp : ∀ v h', import1 g' frz nid ids v h' = import1 g frz nid ids v h' := fun v h' => by
        unfold import1
        rw [versOf_ag h2.left]
      split at h
      · cases h
      · rename_i v h' hρ
        rw [himp]
        exact h
      · rename_i v h' hρ
        rw [himp]
        exact h

/-! ### Views -/

theorem elems_hs_ag {g g' : Look} {id ver : Nat} (h : g' id = g id) : elems g' (.hs id ver) = elems g (.hs id ver) := by simp only [elems]; rw [h]
theorem elems_hsub_ag {g g' : Look} {id ver lo len : Nat} (h : g' id = g id) : elems g' (.hsub id ver lo len) = elems g (.hsub id ver lo len) := by simp only [elems]; rw [h]

theorem elems_ag {g g' : Look} {x : AV} (h : Ag g g' (names depth x)) : elems g' x = elems g x := by
  cases x with
  | hs id ver => exact elems_hs_ag h.one
  | hsub id ver lo len => exact elems_hsub_ag h.one
  | t x => cases x <;> rfl
  | _ => rfl

theorem view_ag {g g' : Look} {x : AV} (h : Ag g g' (names depth x)) : view g' x = view g x := by
  cases x with
  | hs id ver => simp only [view]; rw [elems_hs_ag h.one]
  | hsub id ver lo len => simp only [view]; rw [elems_hsub_ag h.one]
  | agg cs =>
    simp only [view]
    congr 1
    refine List.map_congr_left fun c hc => ?_
    have hc' := Ag.catMap h hc
    cases c with
    | hs id ver => simp only; rw [elems_hs_ag hc'.one]
    | hsub id ver lo len => simp only; rw [elems_hsub_ag hc'.one]
    | _ => rfl
  | _ => rfl

theorem viewed_ag {g g' : Look} {x : AV} (h : Ag g g' (names depth x)) : viewed g' x = viewed g x := by
  cases x with
  | hs id ver => simp only [viewed]; rw [elems_hs_ag h.one]
  | hsub id ver lo len => simp only [viewed]; rw [elems_hsub_ag h.one]
  | agg cs =>
    refine catMap_congr fun c hc => ?_
    have hc' := Ag.catMap h hc
    cases c with
    | hs id ver => simp only; rw [elems_hs_ag hc'.one]
    | hsub id ver lo len => simp only; rw [elems_hsub_ag hc'.one]
    | _ => rfl
  | _ => rfl

theorem viewed_sub {g : Look} {x : AV} : ∀ id ∈ viewed g x, id ∈ names depth x := by
  intro i hi
  cases x with
  | hs id ver => simp only [viewed] at hi; split at hi <;> simp_all [names, depth]
  | hsub id ver lo len => simp only [viewed] at hi; split at hi <;> simp_all [names, depth]
  | agg cs =>
    obtain ⟨c, hc, hic⟩ := mem_catMap.1 hi
    refine mem_catMap.2 ⟨c, hc, ?_⟩
    cases c with
    | hs id ver => simp only at hic; split at hic <;> simp_all [names]
    | hsub id ver lo len => simp only at hic; split at hic <;> simp_all [names]
    | _ => cases hic
  | _ => cases hi

theorem freeze_ag {g g' : Look} : ∀ {l : List Nat}, Ag g g' l → freeze g' l = freeze g l
  | [], _ => rfl
  | id :: l, h => by
    simp only [freeze]
    rw [h id (.head _), freeze_ag fun i hi => h i (List.mem_cons_of_mem _ hi)]

theorem names_view {g : Look} {x : AV} : ∀ id ∈ names depth (view g x), id ∈ names depth x := by
  intro i hi
  cases x with
  | hs id ver => simp only [view] at hi; split at hi <;> simp_all [names, depth]
  | hsub id ver lo len => simp only [view] at hi; split at hi <;> simp_all [names, depth]
  | agg cs =>
    simp only [view, mkAgg] at hi
    split at hi
    · cases hi
    · obtain ⟨c', hc', hic⟩ := mem_catMap.1 hi
      obtain ⟨c, hc, rfl⟩ := List.mem_map.1 hc'
      refine mem_catMap.2 ⟨c, hc, ?_⟩
      cases c with
      | hs id ver => simp only at hic; split at hic <;> simp_all [names]
      | hsub id ver lo len => simp only at hic; split at hic <;> simp_all [names]
      | _ => exact hic
  | _ => exact hi

theorem namesL_view {g : Look} {vs : List AV} : ∀ id ∈ namesL (vs.map (view g)), id ∈ namesL vs := by
  intro i hi
  obtain ⟨c', hc', hic⟩ := mem_catMap.1 hi
  obtain ⟨c, hc, rfl⟩ := List.mem_map.1 hc'
  exact mem_catMap.2 ⟨c, hc, names_view i hic⟩

theorem callF_ag {C : Cfg} {ρ : Oracle} {g g' : Look} {nid : Nat} {f : FuncId} {args : List AV} {r : Out × Patch} (h : callF C ρ g nid f args = some r) (ha : Ag g g' (footF C g f args)) :
    callF C ρ g' nid f args = some r := by
  unfold callF at h ⊢
  unfold footF at ha
  cases hb : C.byRef f with
  | true =>
    rw [hb] at h ha
    simp only at h ha ⊢
    split at h
    · exact callIn_ag h ha.left ha.right
    · cases h
  | false =>
    rw [hb] at h ha
    simp only at h ha ⊢
    have h1 := ha.left
    have hview : args.map (view g') = args.map (view g) := List.map_congr_left fun x hx => view_ag (Ag.catMap h1 hx)
    have hvd : catMap (viewed g') args = catMap (viewed g) args := catMap_congr fun x hx => viewed_ag (Ag.catMap h1 hx)
    have hfz : freeze g' (catMap (viewed g) args) = freeze g (catMap (viewed g) args) := freeze_ag fun i hi => by
      obtain ⟨x, hx, hix⟩ := mem_catMap.1 hi
      exact h1 i (mem_catMap.2 ⟨x, hx, viewed_sub i hix⟩)
    rw [hview, hvd, hfz]
    have h2 := ha.right
    cases hp : C.prim f (args.map (view g)) with
    | some v => rw [hp] at h; exact h
    | none =>
      rw [hp] at h h2
      simp only at h h2 ⊢
      split at h
      · exact callIn_ag h (fun i hi => upd_ag (h1 i (namesL_view i hi))) (fun i hi => upd_ag (h2 i hi))
      · cases h

theorem opds_T {T T' : Env} : ∀ {l : List Operand}, (∀ x ∈ l, operand T' x = operand T x) → opds T' l = opds T l
  | [], _ => rfl
  | x :: l, h => by simp only [opds]; rw [h x (.head _), opds_T fun y hy => h y (List.mem_cons_of_mem _ hy)]

theorem opdsI_T {T T' : Env} : ∀ {l : List (Nat × Operand)}, (∀ x ∈ l.map (·.2), operand T' x = operand T x) → opdsI T' l = opdsI T l
  | [], _ => rfl
  | (i, x) :: l, h => by
    simp only [opdsI]
    rw [h x (by simp), opdsI_T fun y hy => h y (by simp only [List.map_cons, List.mem_cons]; exact .inr hy)]

theorem bound_T {T T' : Env} {b : Option Operand} (h : ∀ x, b = some x → operand T' x = operand T x) : bound T' b = bound T b := by
  cases b with
  | none => rfl
  | some x => simp only [bound]; rw [h x rfl]

theorem exec1_T {C : Cfg} {ρ : Oracle} {g : Look} {nid : Nat} {T T' : Env} {o : Oper} (h : ∀ x ∈ o.op.operands.toList, operand T' x = operand T x) : exec1 C ρ g nid T' o = exec1 C ρ g nid T o := by
  unfold exec1
  cases hop : o.op <;> rw [hop] at h <;> (try simp only [Op.operands] at h) <;> (try simp only)
  case move x => rw [h x (by simp)]
  case assign x => rw [h x (by simp)]
  case pick c a b => rw [h c (by simp), h a (by simp), h b (by simp)]
  case box e x => rw [h x (by simp)]
  case build t ps => rw [opdsI_T fun x hx => h x (by simpa using hx)]
  case buildSlice t n ps => rw [opdsI_T fun x hx => h x (by simpa using hx)]
  case load t a => rw [h a (by simp)]
  case store t a x => rw [h a (by simp), h x (by simp)]
  case nilCheck x => rw [h x (by simp)]
  case binOp op t x y ty => rw [h x (by simp), h y (by simp)]
  case unOp op t x => rw [h x (by simp)]
  case convert s d x => rw [h x (by simp)]
  case makeFunc fn a b =>
    cases fn with
    | func f => simp only; rw [opds_T fun x hx => h x (by simp; exact .inl (by simpa using hx)), opds_T fun x hx => h x (by simp; exact .inr (by simpa using hx))]
    | _ => rfl
  case makeSlice t l c => rw [h l (by simp), h c (by simp)]
  case slice t x lo hi mx =>
    unfold xSlice
    rw [h x (by simp), bound_T fun y hy => h y (by subst hy; simp), bound_T fun y hy => h y (by subst hy; simp), bound_T fun y hy => h y (by subst hy; simp)]
  case fieldAddr s x f => rw [h x (by simp)]
  case field s x f => rw [h x (by simp)]
  case indexAddr t x i => rw [h x (by simp), h i (by simp)]
  case index t x i => rw [h x (by simp), h i (by simp)]
  case range t x => rw [h x (by simp)]
  case next x b =>
    cases b with
    | true => simp only; rw [h x (by simp)]
    | false => rfl
  case extract t i => rw [h t (by simp)]
  case call c =>
    unfold xCall
    unfold Call.operands at h
    cases hc : c.callee with
    | value f =>
      rw [hc] at h
      simp only at h ⊢
      rw [h f (by simp), opds_T fun x hx => h x (by simp; exact .inr (by simpa using hx))]
    | builtin b =>
      rw [hc] at h
      simp only at h ⊢
      rw [opds_T fun x hx => h x (by simpa using hx)]
    | invoke r m => rfl

/-! ### Each operation -/

theorem loadCells_ag {g g' : Look} {n : Nat} {a : AV} (h : Ag g g' (names depth a)) : loadCells g' n a = loadCells g n a := by
  cases a with
  | box id off => simp only [loadCells]; rw [h.one]
  | el id ver i off => simp only [loadCells]; rw [h.one]
  | _ => rfl

theorem storeAt_ag {g g' : Look} {a : AV} {cs : List AV} (h : Ag g g' (names depth a)) : storeAt g' a cs = storeAt g a cs := by
  cases a with
  | box id off => simp only [storeAt]; rw [h.one]
  | el id ver i off => simp only [storeAt]; rw [h.one]
  | _ => rfl

theorem purify_ag {g g' : Look} {x : AV} (h : Ag g g' (names depth x)) : purify g' x = purify g x := by
  unfold purify
  rw [view_ag h, viewed_ag h, freeze_ag fun i hi => h i (viewed_sub i hi)]

theorem purifyAll_ag {g g' : Look} : ∀ {l : List (Nat × AV)}, Ag g g' (namesL (l.map (·.2))) → purifyAll g' l = purifyAll g l
  | [], _ => rfl
  | (i, v) :: l, h => by
    have h1 : Ag g g' (names depth v) := Ag.catMap (f := names depth) (l := ((i, v) :: l).map (·.2)) h (by simp)
    simp only [purifyAll]
    rw [purifyAll_ag (l := l) fun id hid => h id (by
      obtain ⟨x, hx, hix⟩ := mem_catMap.1 hid
      exact mem_catMap.2 ⟨x, by simp only [List.map_cons, List.mem_cons]; exact .inr hx, hix⟩), view_ag h1, viewed_ag h1, freeze_ag fun i hi => h1 i (viewed_sub i hi)]

theorem lenOf_ag {g g' : Look} {x : AV} (h : Ag g g' (names depth x)) : lenOf g' x = lenOf g x := by
  cases x with
  | hs id ver => simp only [lenOf]; rw [h.one]
  | t x => cases x <;> rfl
  | _ => rfl

theorem added_ag {g g' : Look} {x : AV} (h : Ag g g' (names depth x)) : added g' x = added g x := by
  unfold added
  split
  · rfl
  · exact elems_ag h

theorem slice_ag {P : Program} {g g' : Look} {t : TypeId} {x : AV} {lo hi mx : Option Int} (h : Ag g g' (names depth x)) : slice P g' t x lo hi mx = slice P g t x lo hi mx := by
  unfold slice
  cases und P t with
  | none => rfl
  | some d =>
    cases x with
    | hs id ver => cases d <;> first | rfl | (simp only; rw [h.one])
    | hsub id ver a b => cases d <;> first | rfl | (simp only; rw [h.one])
    | t x => cases d <;> cases x <;> rfl
    | _ => cases d <;> rfl

theorem indexAddr_ag {P : Program} {g g' : Look} {t : TypeId} {x : AV} {i : Int} (h : Ag g g' (names depth x)) : indexAddr P g' t x i = indexAddr P g t x i := by
  unfold indexAddr
  cases und P t with
  | none => rfl
  | some d =>
    cases x with
    | hs id ver => cases d <;> first | rfl | (simp only; rw [h.one])
    | hsub id ver a b => cases d <;> first | rfl | (simp only; rw [h.one])
    | t x => cases d <;> cases x <;> rfl
    | _ => cases d <;> rfl

theorem append_ag {P : Program} {g g' : Look} {nid : Nat} {t t' : TypeId} {s x : AV} (h : Ag g g' (names depth s)) (h' : Ag g g' (names depth x)) : append P g' nid t t' s x = append P g nid t t' s x := by
  unfold append
  rw [added_ag h']
  cases s with
  | hs id ver => simp only [h.one]
  | t x => cases x <;> rfl
  | _ => rfl

theorem convert_ag {P : Program} {g g' : Look} {nid : Nat} {s d : TypeId} {x : AV} (h : Ag g g' (names depth x)) : convert P g' nid s d x = convert P g nid s d x := by
  have e := elems_ag h
  unfold convert
  split
  · rfl
  · rfl
  · rfl
  · rw [e]
  · rfl

theorem exec1_ag {C : Cfg} {ρ : Oracle} {g g' : Look} {nid : Nat} {T : Env} {o : Oper} {r : Out × Patch} (h : exec1 C ρ g nid T o = some r) (ha : Ag g g' (foot C g T o)) :
    exec1 C ρ g' nid T o = some r := by
  unfold exec1 at h ⊢
  unfold foot at ha
  cases hop : o.op <;> rw [hop] at h ha <;> (try simp only at h ha ⊢) <;> try exact h
  case makeFunc fn a b => cases fn <;> exact h
  case buildSlice t n ps =>
    unfold xBuildSlice at h ⊢
    rw [purifyAll_ag ha]
    exact h
  case load t a =>
    unfold load at h ⊢
    simp only [loadCells_ag ha]
    exact h
  case store t a x =>
    have h1 := purify_ag ha.right
    unfold xStore at h ⊢
    have h2 : (match operand T a with
        | .el _ _ _ _ => purify g' (operand T x)
        | _ => (operand T x, [])) = (match operand T a with
        | .el _ _ _ _ => purify g (operand T x)
        | _ => (operand T x, [])) := by rw [h1]
    have h3 : ∀ (q : Patch) cs, storeAt (upd g' q) (operand T a) cs = storeAt (upd g q) (operand T a) cs := fun q cs => storeAt_ag fun i hi => upd_ag (ha.left i hi)
    simp only [h1, h3] at h ⊢
    exact h
  case convert s d x => rw [convert_ag ha]; exact h
  case slice t x lo hi mx =>
    unfold xSlice at h ⊢
    simp only [slice_ag ha]
    exact h
  case indexAddr t x i =>
    unfold xIndexAddr at h ⊢
    simp only [indexAddr_ag ha]
    exact h
  case next x b =>
    cases b with
    | false => exact h
    | true =>
      simp only at h ⊢
      generalize operand T x = v at h ha
      unfold xNext at h ⊢
      cases v with
      | box id off =>
        cases off with
        | zero => simp only at h ⊢; rw [ha.one]; exact h
        | succ n => exact h
      | _ => exact h
  case call c =>
    unfold xCall at h ⊢
    cases hc : c.callee with
    | value f =>
      rw [hc] at h ha
      simp only at h ha ⊢
      generalize operand T f = v at h ha
      cases v with
      | t x =>
        cases x with
        | fn f => exact callF_ag h ha
        | _ => exact h
      | fn f first captured => exact callF_ag h ha
      | _ => exact h
    | builtin b =>
      rw [hc] at h ha
      simp only at h ha ⊢
      unfold xBuiltin at h ⊢
      split at h
      · rename_i t rest hts
        generalize opds T c.args.toList = l at h ha
        unfold xLen at h ⊢
        match l, h, ha with
        | [x], h, ha =>
          have hx : Ag g g' (names depth x) := Ag.catMap (f := names depth) (l := [x]) ha (.head _)
          have e := lenOf_ag hx
          simp only at h ⊢
          split
          · rename_i hu; rw [hu] at h; exact h
          · rename_i hu; rw [hu] at h; exact h
          · rename_i hu; rw [hu] at h; rw [e]; exact h
          · rename_i h1 h2 h3
            split at h
            · rename_i hu; exact absurd hu (h1 _ _)
            · rename_i hu; exact (h3 _ hu rfl).elim
            · rename_i hu; exact (h2 _ hu).elim
            · cases h
        | [], h, _ => exact h
        | _ :: _ :: _, h, _ => exact h
      · rename_i s x hts heq
        rw [heq] at ha
        have hx1 : Ag g g' (names depth s) := Ag.catMap (f := names depth) (l := [s, x]) ha (.head _)
        have hx2 : Ag g g' (names depth x) := Ag.catMap (f := names depth) (l := [s, x]) ha (.tail _ (.head _))
        rw [append_ag hx1 hx2]
        exact h
      · exact h
      · exact h
      · cases h
    | invoke r m => rw [hc] at h; cases h

end Go.Ab
/- Regions whose order is drawn: whatever the order, the same comes of it. -/
namespace Go.Ab

/-! ### What surely comes before -/

theorem getN_none {l : List Nat} {k : Nat} (h : l.length ≤ k) : getN l k = 0 := by
  unfold getN; rw [nth_eq, List.getElem?_eq_none h]; rfl

theorem getN_take {l : List Nat} {k e : Nat} : getN (l.take k) e = if e < k then getN l e else 0 := by
  unfold getN
  rw [nth_eq, nth_eq, List.getElem?_take]
  split <;> rfl

theorem masksFrom_spec : ∀ (os : List Oper) (acc : List Nat), ∃ t, masksFrom acc os = acc ++ t ∧ t.length = os.length ∧
    ∀ (k : Nat) o, os[k]? = some o → getN (masksFrom acc os) (acc.length + k) = maskOf ((masksFrom acc os).take (acc.length + k)) o.after.toList
  | [], acc => ⟨[], by simp [masksFrom], rfl, fun k o h => by simp at h⟩
  | o :: os, acc => by
    unfold masksFrom
    simp only
    obtain ⟨t, h1, h2, h3⟩ := masksFrom_spec os (acc ++ [maskOf acc o.after.toList])
    refine ⟨maskOf acc o.after.toList :: t, by rw [h1]; simp, by simp [h2], fun k o' hk => ?_⟩
    cases k with
    | zero =>
      simp only [List.getElem?_cons_zero, Option.some.injEq] at hk
      subst hk
      rw [Nat.add_zero, h1, List.append_assoc, List.take_left]
      refine getN_eq ?_
      simp
    | succ k =>
      have := h3 k o' (by simpa using hk)
      rw [List.length_append, List.length_singleton] at this
      have e : acc.length + 1 + k = acc.length + (k + 1) := by omega
      rw [e] at this
      exact this

theorem masks_spec {os : List Oper} {k : Nat} {o : Oper} (h : os[k]? = some o) : getN (masks os) k = maskOf ((masks os).take k) o.after.toList := by
  obtain ⟨_, _, _, h3⟩ := masksFrom_spec os []
  have := h3 k o h
  simpa [masks] using this

theorem maskOf_bit {M : List Nat} {i : Nat} : ∀ {es : List Edge}, (maskOf M es).testBit i = true → ∃ e ∈ es, Region.binds .any e = true ∧ (i = e.on ∨ (getN M e.on).testBit i = true)
  | [], h => by simp [maskOf] at h
  | e :: es, h => by
    unfold maskOf at h
    split at h
    · rename_i hb
      have hor : ∀ a b : Nat, Nat.lor a b = a ||| b := fun _ _ => rfl
      have hsh : Nat.shiftLeft 1 e.on = 1 <<< e.on := rfl
      rw [hor, hor, hsh, Nat.testBit_or, Nat.testBit_or, Bool.or_eq_true, Bool.or_eq_true] at h
      rcases h with (h | h) | h
      · refine ⟨e, .head _, hb, .inl ?_⟩
        rw [Nat.one_shiftLeft] at h
        have := Nat.testBit_two_pow (n := e.on) (m := i)
        rw [this] at h
        exact (of_decide_eq_true h).symm
      · exact ⟨e, .head _, hb, .inr h⟩
      · obtain ⟨e', h1, h2, h3⟩ := maskOf_bit h
        exact ⟨e', List.mem_cons_of_mem _ h1, h2, h3⟩
    · obtain ⟨e', h1, h2, h3⟩ := maskOf_bit h
      exact ⟨e', List.mem_cons_of_mem _ h1, h2, h3⟩

/-- Whatever surely comes before what is done is done. -/
def Closed (ops : List Oper) (D : Nat → Bool) : Prop := ∀ j o, ops[j]? = some o → D j = true → ∀ e ∈ o.after.toList, Region.binds .any e = true → D e.on = true

theorem before_done {ops : List Oper} {D : Nat → Bool} (hc : Closed ops D) : ∀ (j : Nat) (o : Oper), ops[j]? = some o → (∀ e ∈ o.after.toList, Region.binds .any e = true → D e.on = true) →
    ∀ i, (getN (masks ops) j).testBit i = true → D i = true := by
  intro j
  induction j using Nat.strongRecOn with
  | _ j ih =>
    intro o ho hd i hi
    rw [masks_spec ho] at hi
    obtain ⟨e, he, hb, h⟩ := maskOf_bit hi
    have hde := hd e he hb
    rcases h with h | h
    · rw [h]; exact hde
    · rw [getN_take] at h
      split at h
      · rename_i hlt
        cases hoe : ops[e.on]? with
        | none =>
          obtain ⟨t, h1, h2, _⟩ := masksFrom_spec ops []
          have hlen : (masks ops).length = ops.length := by unfold masks; rw [h1]; simpa using h2
          rw [getN_none (by rw [hlen]; exact List.getElem?_eq_none_iff.1 hoe)] at h
          simp at h
        | some oe => exact ih e.on hlt oe hoe (hc e.on oe hoe hde) i h
      · simp at h

/-! ### The checks -/

theorem edgesOK_spec : ∀ {os : List Oper} {i : Nat}, edgesOK i os = true → ∀ (k : Nat) o, os[k]? = some o → ∀ e ∈ o.after.toList, Region.binds .any e = true → e.on < i + k
  | [], i, _, k, o, h => by simp at h
  | o :: os, i, h, k, o', hk => by
    unfold edgesOK at h
    rw [Bool.and_eq_true, List.all_eq_true] at h
    cases k with
    | zero =>
      simp only [List.getElem?_cons_zero, Option.some.injEq] at hk
      subst hk
      intro e he hb
      have := h.1 e he
      rw [hb] at this
      simp only [Bool.not_true, Bool.false_or, Nat.blt_eq] at this
      omega
    | succ k =>
      intro e he hb
      have := edgesOK_spec h.2 k o' (by simpa using hk) e he hb
      omega

theorem staticGo_spec {ops : List Oper} {ms : List Nat} {i : Nat} {a : Oper} : ∀ {os : List Oper} {j : Nat}, staticFrom.go ops ms i a j os = true → ∀ (k : Nat) b, os[k]? = some b →
    (getN ms (j + k)).testBit i = true ∨ (apartT ops a b = true ∧ apartT ops b a = true)
  | [], j, _, k, b, h => by simp at h
  | o :: os, j, h, k, b, hk => by
    unfold staticFrom.go at h
    rw [Bool.and_eq_true, Bool.or_eq_true, Bool.and_eq_true] at h
    cases k with
    | zero =>
      simp only [List.getElem?_cons_zero, Option.some.injEq] at hk
      subst hk
      exact h.1
    | succ k =>
      have := staticGo_spec h.2 k b (by simpa using hk)
      have e : j + 1 + k = j + (k + 1) := by omega
      rw [e] at this
      exact this

theorem staticFrom_spec {ops : List Oper} {ms : List Nat} : ∀ {os : List Oper} {i : Nat}, staticFrom ops ms i os = true → ∀ (k k' : Nat) a b, k < k' → os[k]? = some a → os[k']? = some b →
    (getN ms (i + k')).testBit (i + k) = true ∨ (apartT ops a b = true ∧ apartT ops b a = true)
  | [], i, _, k, k', a, b, _, h, _ => by simp at h
  | o :: os, i, h, k, k', a, b, hlt, hk, hk' => by
    unfold staticFrom at h
    rw [Bool.and_eq_true] at h
    cases k' with
    | zero => omega
    | succ k' =>
      have e : i + 1 + k' = i + (k' + 1) := by omega
      cases k with
      | zero =>
        simp only [List.getElem?_cons_zero, Option.some.injEq] at hk
        subst hk
        have := staticGo_spec h.1 k' b (by simpa using hk')
        rw [e] at this
        exact this
      | succ k =>
        have := staticFrom_spec h.2 k k' a b (by omega) (by simpa using hk) (by simpa using hk')
        have e' : i + 1 + k = i + (k + 1) := by omega
        rw [e, e'] at this
        exact this

theorem static_spec {ops : List Oper} (h : static ops = true) {k k' : Nat} {a b : Oper} (hlt : k < k') (hk : ops[k]? = some a) (hk' : ops[k']? = some b) :
    (getN (masks ops) k').testBit k = true ∨ (apartT ops a b = true ∧ apartT ops b a = true) := by
  unfold static at h
  rw [Bool.and_eq_true] at h
  have := staticFrom_spec h.2 k k' a b hlt hk hk'
  rwa [Nat.zero_add, Nat.zero_add] at this

theorem number_spec : ∀ (l : List Rec) (i : Nat) (a : Rec) (j : Nat), (a, j) ∈ number i l ↔ ∃ k, l[k]? = some a ∧ j = i + k
  | [], i, a, j => by simp [number]
  | x :: l, i, a, j => by
    simp only [number, List.mem_cons, Prod.mk.injEq, number_spec l (i + 1)]
    constructor
    · rintro (⟨rfl, rfl⟩ | ⟨k, h1, h2⟩)
      · exact ⟨0, rfl, rfl⟩
      · exact ⟨k + 1, by simpa using h1, by omega⟩
    · rintro ⟨k, h1, h2⟩
      cases k with
      | zero => simp at h1; exact .inl ⟨h1.symm, h2⟩
      | succ k => exact .inr ⟨k, by simpa using h1, by omega⟩

theorem quietR_number : ∀ (l : List Rec) (i : Nat), quietR (number i l) = (number i l).filter fun x => busy x.1
  | [], i => rfl
  | x :: l, i => by
    simp only [number, quietR, List.filter_cons]
    rw [quietR_number l (i + 1)]
    cases hb : busy x <;> simp

/-- Two of a list, in their order. -/
theorem calm_pair {ms : List Nat} : ∀ {l : List (Rec × Nat)}, calm ms l = true → l.Pairwise fun x y => (getN ms y.2).testBit x.2 = true ∨ clash x.1 y.1 = false
  | [], _ => .nil
  | (a, i) :: l, h => by
    unfold calm at h
    rw [Bool.and_eq_true, List.all_eq_true] at h
    refine .cons (fun y hy => ?_) (calm_pair h.2)
    obtain ⟨b, j⟩ := y
    have := h.1 (b, j) hy
    simpa using this

theorem number_pairwise : ∀ (l : List Rec) (i : Nat), (number i l).Pairwise fun x y => x.2 < y.2
  | [], i => .nil
  | x :: l, i => by
    refine .cons (fun y hy => ?_) (number_pairwise l (i + 1))
    obtain ⟨b, j⟩ := y
    obtain ⟨k, _, h2⟩ := (number_spec l (i + 1) b j).1 hy
    simp only
    omega

theorem pairwise_mem {α : Type} {R : α → α → Prop} {S : α → α → Prop} (hs : ∀ a, ¬ S a a) (hst : ∀ a b, S a b → ¬ S b a) : ∀ {l : List α}, l.Pairwise R → l.Pairwise S → ∀ {x y : α}, x ∈ l → y ∈ l → S x y → R x y
  | [], _, _, _, _, h, _, _ => by cases h
  | a :: l, hR, hS, x, y, hx, hy, h => by
    obtain ⟨r1, r2⟩ := List.pairwise_cons.1 hR
    obtain ⟨s1, s2⟩ := List.pairwise_cons.1 hS
    rcases List.mem_cons.1 hx with ex | hx'
    · rcases List.mem_cons.1 hy with ey | hy'
      · subst ex; subst ey; exact absurd h (hs _)
      · subst ex; exact r1 y hy'
    · rcases List.mem_cons.1 hy with ey | hy'
      · subst ey; exact absurd (s1 x hx') (hst _ _ h)
      · exact pairwise_mem hs hst r2 s2 hx' hy' h

/-- Two records that don't get in each other's way. -/
structure Free (a b : Rec) : Prop where
  mr : ∀ id ∈ a.mods, id ∉ b.reads
  rm : ∀ id ∈ a.reads, id ∉ b.mods
  mm : ∀ id ∈ a.mods, id ∉ b.mods

theorem Free.symm {a b : Rec} (h : Free a b) : Free b a := ⟨fun id h1 h2 => h.rm id h2 h1, fun id h1 h2 => h.mr id h2 h1, fun id h1 h2 => h.mm id h2 h1⟩

theorem apartL_spec {a b : List Nat} (h : apartL a b = true) : ∀ id ∈ a, id ∉ b := fun id hid hb => by
  have := List.all_eq_true.1 h id hid
  rw [mem_iff.2 hb] at this
  cases this

theorem clash_free {a b : Rec} (h : clash a b = false) : Free a b := by
  unfold clash at h
  simp only [Bool.not_eq_false', Bool.and_eq_true] at h
  exact ⟨apartL_spec h.1.1, apartL_spec h.1.2, apartL_spec h.2⟩

theorem busy_free {a b : Rec} (h : busy a = false) : Free a b := by
  unfold busy at h
  simp only [Bool.not_eq_false', Bool.and_eq_true, List.isEmpty_iff] at h
  have hm : a.mods = [] := by unfold Rec.mods; rw [h.2]; rfl
  exact ⟨fun id hid => (by rw [hm] at hid; cases hid), fun id hid => (by rw [h.1] at hid; cases hid), fun id hid => (by rw [hm] at hid; cases hid)⟩

theorem calm_spec {ms : List Nat} {l : List Rec} (h : calm ms (quietR (number 0 l)) = true) {i j : Nat} {a b : Rec} (hlt : i < j) (ha : l[i]? = some a) (hb : l[j]? = some b) :
    (getN ms j).testBit i = true ∨ Free a b := by
  cases hba : busy a with
  | false => exact .inr (busy_free hba)
  | true =>
    cases hbb : busy b with
    | false => exact .inr (busy_free hbb).symm
    | true =>
      have hp := calm_pair h
      rw [quietR_number] at hp
      have hs := (number_pairwise l 0).filter (fun x => busy x.1)
      have h1 : (a, i) ∈ (number 0 l).filter fun x => busy x.1 := List.mem_filter.2 ⟨(number_spec l 0 a i).2 ⟨i, ha, by omega⟩, hba⟩
      have h2 : (b, j) ∈ (number 0 l).filter fun x => busy x.1 := List.mem_filter.2 ⟨(number_spec l 0 b j).2 ⟨j, hb, by omega⟩, hbb⟩
      rcases pairwise_mem (S := fun x y : Rec × Nat => x.2 < y.2) (fun a => Nat.lt_irrefl _) (fun a b h => Nat.lt_asymm h) hp hs h1 h2 hlt with h3 | h3
      · exact .inl h3
      · exact .inr (clash_free h3)

end Go.Ab
/- Regions whose order is drawn: the state after a part of the operations. -/
namespace Go.Ab

/-- The temporaries after those of the operations that D names. -/
def envD (D : Nat → Bool) : Nat → List Oper → List Rec → Env → Env
  | i, o :: os, r :: rs, T => envD D (i + 1) os rs (if D i = true then putT T o.dst r.v else T)
  | _, _, _, T => T

def memD (D : Nat → Bool) : Nat → List Rec → Look → Look
  | i, r :: rs, g => memD D (i + 1) rs (if D i = true then upd g r.p else g)
  | _, [], g => g

theorem shift (n k : Nat) : n + 1 + k = n + (k + 1) := by omega

theorem get_putT {T : Env} {d : Option Tmp} {v : AV} {t : Nat} : get (putT T d v) t = if d = some t then v else get T t := by
  cases d with
  | none => simp [putT]
  | some d =>
    simp only [putT, get, Option.some.injEq]
    cases hb : Nat.beq d t with
    | true => have := Nat.eq_of_beq_eq_true hb; simp [this]
    | false => have := Nat.ne_of_beq_eq_false hb; simp [this]

/-- Only those that write to a temporary matter to it. -/
theorem envD_congr {D D' : Nat → Bool} {t : Nat} : ∀ (os : List Oper) (rs : List Rec) (i : Nat) (T T' : Env), get T' t = get T t →
    (∀ (k : Nat) o, os[k]? = some o → k < rs.length → o.dst = some t → D' (i + k) = D (i + k)) → get (envD D' i os rs T') t = get (envD D i os rs T) t
  | [], rs, i, T, T', h, _ => by unfold envD; exact h
  | o :: os, [], i, T, T', h, _ => by unfold envD; exact h
  | o :: os, r :: rs, i, T, T', h, hd => by
    unfold envD
    refine envD_congr os rs (i + 1) _ _ ?_ fun k o' hk hl ho => ?_
    · by_cases hdst : o.dst = some t
      · have := hd 0 o rfl (by simp) hdst
        rw [Nat.add_zero] at this
        rw [this]
        by_cases hD : D i = true
        · rw [if_pos hD, if_pos hD, get_putT, get_putT, if_pos hdst, if_pos hdst]
        · rw [if_neg hD, if_neg hD]; exact h
      · have e1 : ∀ (c : Bool) (T : Env), get (if c = true then putT T o.dst r.v else T) t = get T t := fun c T => by
          cases c
          · rfl
          · simp only [if_true]; rw [get_putT, if_neg hdst]
        rw [e1, e1]; exact h
    · have := hd (k + 1) o' (by simpa using hk) (by simpa using hl) ho
      have e : i + 1 + k = i + (k + 1) := by omega
      rw [e]; exact this

/-- One more, behind which none of those done writes to its temporary. -/
theorem envD_add {D D' : Nat → Bool} {j t : Nat} {oj : Oper} {rj : Rec} : ∀ (os : List Oper) (rs : List Rec) (i : Nat) (T : Env), i ≤ j → os[j - i]? = some oj → rs[j - i]? = some rj →
    D j = false → (∀ x, D' x = (D x || decide (x = j))) → (∀ (k : Nat) o, os[k]? = some o → j < i + k → D (i + k) = true → oj.dst = some t → o.dst ≠ some t) →
    get (envD D' i os rs T) t = if oj.dst = some t then rj.v else get (envD D i os rs T) t
  | [], rs, i, T, _, h, _, _, _, _ => by simp at h
  | o :: os, [], i, T, _, _, h, _, _, _ => by simp at h
  | o :: os, r :: rs, i, T, hij, h1, h2, hD, hD', hno => by
    unfold envD
    by_cases hi : i = j
    · subst hi
      simp only [Nat.sub_self, List.getElem?_cons_zero, Option.some.injEq] at h1 h2
      subst h1; subst h2
      have hDi : D' i = true := by rw [hD']; simp
      have hDj : ¬ (D i = true) := by rw [hD]; simp
      rw [if_pos hDi, if_neg hDj]
      by_cases hdst : o.dst = some t
      · rw [if_pos hdst]
        -- nothing behind writes to it
        have key : ∀ (os : List Oper) (rs : List Rec) (n : Nat) (T : Env), (∀ (k : Nat) o', os[k]? = some o' → D' (n + k) = true → o'.dst ≠ some t) → get (envD D' n os rs T) t = get T t := by
          intro os
          induction os with
          | nil => intro rs n T _; unfold envD; rfl
          | cons x os ih =>
            intro rs n T hh
            cases rs with
            | nil => unfold envD; rfl
            | cons y rs =>
              unfold envD
              rw [ih rs (n + 1) _ fun k o' hk hd => hh (k + 1) o' (by simpa using hk) (by rw [← shift]; exact hd)]
              by_cases hDn : D' n = true
              · rw [if_pos hDn, get_putT, if_neg (hh 0 x rfl hDn)]
              · rw [if_neg hDn]
        rw [key os rs (i + 1) _ fun k o' hk hd => by
          refine hno (k + 1) o' (by simpa using hk) (by omega) ?_ hdst
          rw [hD'] at hd
          have e : i + 1 + k = i + (k + 1) := by omega
          rw [e] at hd
          have : decide (i + (k + 1) = i) = false := by simp
          rw [this, Bool.or_false] at hd
          exact hd]
        rw [get_putT, if_pos hdst]
      · rw [if_neg hdst]
        refine envD_congr os rs (i + 1) _ _ (by rw [get_putT, if_neg hdst]) fun k o' _ _ _ => ?_
        rw [hD']
        have : decide (i + 1 + k = i) = false := by simp; omega
        rw [this, Bool.or_false]
    · have hne : decide (i = j) = false := by simp [hi]
      have hDi : D' i = D i := by rw [hD', hne, Bool.or_false]
      rw [hDi]
      have e : j - i = (j - (i + 1)) + 1 := by omega
      rw [e] at h1 h2
      exact envD_add os rs (i + 1) _ (by omega) (by simpa using h1) (by simpa using h2) hD hD' fun k o' hk hlt hd hdst => hno (k + 1) o' (by simpa using hk) (by omega) (by rw [← shift]; exact hd) hdst

theorem upd_congr {g g' : Look} {p : Patch} {id : Nat} (h : g' id = g id) : upd g' p id = upd g p id := upd_ag h

theorem upd_other {g : Look} {p : Patch} {id : Nat} (h : id ∉ p.map (·.1)) : upd g p id = g id :=
  upd_not_mem fun o ho => h (List.mem_map.2 ⟨(id, o), ho, rfl⟩)

theorem upd_mem {p : Patch} {id : Nat} (h : id ∈ p.map (·.1)) : ∀ (g g' : Look), upd g' p id = upd g p id := by
  induction p with
  | nil => cases h
  | cons x p ih =>
    obtain ⟨i, o⟩ := x
    intro g g'
    unfold upd
    by_cases hm : id ∈ p.map (·.1)
    · exact ih hm _ _
    · rw [upd_other hm, upd_other hm]
      simp only [List.map_cons, List.mem_cons] at h
      have : id = i := h.resolve_right hm
      subst this
      rw [Nat.beq_refl]

theorem memD_congr {D D' : Nat → Bool} {id : Nat} : ∀ (rs : List Rec) (i : Nat) (g g' : Look), g' id = g id → (∀ (k : Nat) r, rs[k]? = some r → id ∈ r.mods → D' (i + k) = D (i + k)) →
    memD D' i rs g' id = memD D i rs g id
  | [], i, g, g', h, _ => by unfold memD; exact h
  | r :: rs, i, g, g', h, hd => by
    unfold memD
    refine memD_congr rs (i + 1) _ _ ?_ fun k r' hk hm => ?_
    · by_cases hm : id ∈ r.mods
      · have := hd 0 r rfl hm
        rw [Nat.add_zero] at this
        rw [this]
        by_cases hD : D i = true
        · rw [if_pos hD, if_pos hD]; exact upd_congr h
        · rw [if_neg hD, if_neg hD]; exact h
      · have e1 : ∀ (c : Bool) (g : Look), (if c = true then upd g r.p else g) id = g id := fun c g => by
          cases c
          · rfl
          · simp only [if_true]; exact upd_other hm
        rw [e1, e1]; exact h
    · have := hd (k + 1) r' (by simpa using hk) hm
      have e : i + 1 + k = i + (k + 1) := by omega
      rw [e]; exact this

theorem memD_add {D D' : Nat → Bool} {j id : Nat} {rj : Rec} : ∀ (rs : List Rec) (i : Nat) (g : Look), i ≤ j → rs[j - i]? = some rj →
    D j = false → (∀ x, D' x = (D x || decide (x = j))) → (∀ (k : Nat) r, rs[k]? = some r → j < i + k → D (i + k) = true → id ∈ rj.mods → id ∉ r.mods) →
    memD D' i rs g id = upd (memD D i rs g) rj.p id
  | [], i, g, _, h, _, _, _ => by simp at h
  | r :: rs, i, g, hij, h2, hD, hD', hno => by
    unfold memD
    by_cases hi : i = j
    · subst hi
      simp only [Nat.sub_self, List.getElem?_cons_zero, Option.some.injEq] at h2
      subst h2
      have hDi : D' i = true := by rw [hD']; simp
      have hDj : ¬ (D i = true) := by rw [hD]; simp
      rw [if_pos hDi, if_neg hDj]
      have hrest : ∀ k, D' (i + 1 + k) = D (i + 1 + k) := fun k => by
        rw [hD']
        have : decide (i + 1 + k = i) = false := by simp; omega
        rw [this, Bool.or_false]
      by_cases hm : id ∈ r.mods
      · have key : ∀ (rs : List Rec) (n : Nat) (g : Look), (∀ (k : Nat) r', rs[k]? = some r' → D' (n + k) = true → id ∉ r'.mods) → memD D' n rs g id = g id := by
          intro rs
          induction rs with
          | nil => intro n g _; unfold memD; rfl
          | cons y rs ih =>
            intro n g hh
            unfold memD
            rw [ih (n + 1) _ fun k r' hk hd => hh (k + 1) r' (by simpa using hk) (by rw [← shift]; exact hd)]
            by_cases hDn : D' n = true
            · rw [if_pos hDn, upd_other (hh 0 y rfl hDn)]
            · rw [if_neg hDn]
        rw [key rs (i + 1) _ fun k r' hk hd => by
          refine hno (k + 1) r' (by simpa using hk) (by omega) ?_ hm
          rw [hrest] at hd
          have e : i + 1 + k = i + (k + 1) := by omega
          rw [← e]; exact hd]
        exact upd_mem hm _ _
      · rw [upd_other hm]
        exact memD_congr rs (i + 1) _ _ (upd_other hm) fun k r' _ _ => hrest k
    · have hne : decide (i = j) = false := by simp [hi]
      have hDi : D' i = D i := by rw [hD', hne, Bool.or_false]
      rw [hDi]
      have e : j - i = (j - (i + 1)) + 1 := by omega
      rw [e] at h2
      exact memD_add rs (i + 1) _ (by omega) (by simpa using h2) hD hD' fun k r' hk hlt hd hm => hno (k + 1) r' (by simpa using hk) (by omega) (by rw [← shift]; exact hd) hm

/-! ### The run in the text's order -/

/-- One operation of it. -/
def Stp (C : Cfg) (ρ : Oracle) (ops : List Oper) (o : Oper) (r : Rec) (T : Env) (g : Look) (n : Nat) : Prop :=
  (wanted ops T o = some false ∧ r = ⟨[], .nov, []⟩) ∨ (wanted ops T o = some true ∧ exec1 C ρ g n T o = some (.val r.v, r.p) ∧ r.reads = foot C g T o)

inductive Tr (C : Cfg) (ρ : Oracle) (ops : List Oper) : List Oper → List Rec → Env → Heap → Env → Heap → Prop
  | nil (T : Env) (h : Heap) : Tr C ρ ops [] [] T h T h
  | cons {o : Oper} {os : List Oper} {r : Rec} {rs : List Rec} {T : Env} {h : Heap} {T' : Env} {h' : Heap} (hs : Stp C ρ ops o r T (nth h) h.length) (hg : gapless h.length r.p = true)
      (hr : Tr C ρ ops os rs (putT T o.dst r.v) (patch h r.p) T' h') : Tr C ρ ops (o :: os) (r :: rs) T h T' h'

theorem runRec_Tr {C : Cfg} {ρ : Oracle} {ops : List Oper} : ∀ {os : List Oper} {T : Env} {h : Heap} {l : List Rec} {T' : Env} {h' : Heap}, runRec C ρ ops os T h = some (l, T', h') → Tr C ρ ops os l T h T' h'
  | [], T, h, l, T', h', hx => by
    simp only [runRec, Option.some.injEq, Prod.mk.injEq] at hx
    obtain ⟨rfl, rfl, rfl⟩ := hx
    exact .nil T h
  | o :: os, T, h, l, T', h', hx => by
    unfold runRec at hx
    split at hx
    · cases hx
    · rename_i hw
      split at hx
      · cases hx
      · rename_i l1 T1 h1 hr
        cases hx
        exact .cons (.inl ⟨hw, rfl⟩) rfl (runRec_Tr hr)
    · rename_i hw
      split at hx
      · cases hx
      · cases hx
      · rename_i v p he
        split at hx
        · cases hx
        · rename_i hg
          split at hx
          · cases hx
          · rename_i l1 T1 h1 hr
            cases hx
            exact .cons (.inr ⟨hw, he, rfl⟩) hg (runRec_Tr hr)

theorem put1_length : ∀ (h : Heap) (n : Nat) (o : Obj), n ≤ h.length → (put1 h n o).length = if n = h.length then h.length + 1 else h.length
  | [], 0, o, _ => rfl
  | [], n + 1, o, h => by simp at h
  | a :: h, 0, o, _ => by simp [put1]
  | a :: h, n + 1, o, hle => by
    simp only [List.length_cons, Nat.add_le_add_iff_right] at hle
    simp only [put1, List.length_cons, put1_length h n o hle]
    by_cases he : n = h.length <;> simp [he]

theorem gapless_spec : ∀ {p : Patch} {h : Heap}, gapless h.length p = true → (∀ i, nth (patch h p) i = upd (nth h) p i) ∧ h.length ≤ (patch h p).length ∧ ∀ id o, (id, o) ∈ p → id < (patch h p).length
  | [], h, _ => ⟨fun _ => rfl, Nat.le_refl _, fun _ _ hm => by cases hm⟩
  | (id, o) :: p, h, hg => by
    have hle : id ≤ h.length := by
      unfold gapless at hg
      split at hg
      · rename_i hb; rw [Nat.blt_eq] at hb; omega
      · split at hg
        · rename_i hb; have := Nat.eq_of_beq_eq_true hb; omega
        · cases hg
    have hlen := put1_length h id o hle
    have hg' : gapless (put1 h id o).length p = true := by
      unfold gapless at hg
      split at hg
      · rename_i hb
        rw [Nat.blt_eq] at hb
        rw [hlen, if_neg (by omega)]; exact hg
      · split at hg
        · rename_i hb
          have := Nat.eq_of_beq_eq_true hb
          rw [hlen, if_pos this]; exact hg
        · cases hg
    obtain ⟨h1, h2, h3⟩ := gapless_spec hg'
    have hll : h.length ≤ (put1 h id o).length := by rw [hlen]; split <;> omega
    refine ⟨fun i => ?_, Nat.le_trans hll h2, fun i x hm => ?_⟩
    · unfold patch upd
      rw [h1]
      refine upd_congr ?_
      rw [nth_put1]
      cases hb : Nat.beq i id with
      | true => have := Nat.eq_of_beq_eq_true hb; rw [if_pos this]
      | false =>
        have := Nat.ne_of_beq_eq_false hb
        rw [if_neg this]
        simp only
        cases hn : nth h i with
        | some x => rfl
        | none =>
          simp only
          rw [nth_eq, List.getElem?_eq_none_iff] at hn
          rw [if_neg (by omega)]
    · rcases List.mem_cons.1 hm with hm | hm
      · cases hm
        have : id < (put1 h id o).length := by rw [hlen]; split <;> omega
        exact Nat.lt_of_lt_of_le this h2
      · exact h3 i x hm

theorem Tr.length {C : Cfg} {ρ : Oracle} {ops os : List Oper} {rs : List Rec} {T T' : Env} {h h' : Heap} (t : Tr C ρ ops os rs T h T' h') : rs.length = os.length := by
  induction t with
  | nil => rfl
  | cons _ _ _ ih => simp [ih]

theorem envD_none {D : Nat → Bool} : ∀ (os : List Oper) (rs : List Rec) (i : Nat) (T : Env), (∀ x, i ≤ x → D x = false) → envD D i os rs T = T
  | [], rs, i, T, _ => by unfold envD; rfl
  | o :: os, [], i, T, _ => by unfold envD; rfl
  | o :: os, r :: rs, i, T, h => by
    unfold envD
    rw [if_neg (by rw [h i (Nat.le_refl _)]; simp)]
    exact envD_none os rs (i + 1) T fun x hx => h x (by omega)

theorem memD_none {D : Nat → Bool} : ∀ (rs : List Rec) (i : Nat) (g : Look), (∀ x, i ≤ x → D x = false) → memD D i rs g = g
  | [], i, g, _ => rfl
  | r :: rs, i, g, h => by
    unfold memD
    rw [if_neg (by rw [h i (Nat.le_refl _)]; simp)]
    exact memD_none rs (i + 1) g fun x hx => h x (by omega)

theorem Tr_at {C : Cfg} {ρ : Oracle} {ops : List Oper} : ∀ (j i : Nat) {os : List Oper} {rs : List Rec} {T T' : Env} {h h' : Heap} {o : Oper} {r : Rec}, Tr C ρ ops os rs T h T' h' → os[j]? = some o → rs[j]? = some r →
    ∃ n, h.length ≤ n ∧ Stp C ρ ops o r (envD (fun x => decide (x < i + j)) i os rs T) (memD (fun x => decide (x < i + j)) i rs (nth h)) n ∧
      ∀ j', j' < j → ∀ r', rs[j']? = some r' → ∀ id ∈ r'.mods, id < n
  | 0, i, _, _, T, T', h, h', o, r, .cons hs hg hr, ho, hr' => by
    simp only [List.getElem?_cons_zero, Option.some.injEq] at ho hr'
    subst ho; subst hr'
    refine ⟨h.length, Nat.le_refl _, ?_, fun j' hj => by omega⟩
    rw [envD_none _ _ _ _ (fun x hx => by simp; omega), memD_none _ _ _ (fun x hx => by simp; omega)]
    exact hs
  | j + 1, i, _, _, T, T', h, h', o, r, .cons (o := o0) (os := os) (r := r0) (rs := rs) hs hg hr, ho, hr' => by
    obtain ⟨n, h1, h2, h3⟩ := Tr_at j (i + 1) hr (by simpa using ho) (by simpa using hr')
    obtain ⟨g1, g2, g3⟩ := gapless_spec hg
    refine ⟨n, Nat.le_trans g2 h1, ?_, fun j' hj r' hj' id hid => ?_⟩
    · have e : i + 1 + j = i + (j + 1) := by omega
      rw [e] at h2
      unfold envD memD
      rw [if_pos (by simp), if_pos (by simp)]
      have hl : nth (patch h r0.p) = upd (nth h) r0.p := funext g1
      rw [← hl]
      exact h2
    · cases j' with
      | zero =>
        simp only [List.getElem?_cons_zero, Option.some.injEq] at hj'
        subst hj'
        obtain ⟨⟨i', x⟩, hx, rfl⟩ := List.mem_map.1 hid
        exact Nat.lt_of_lt_of_le (g3 i' x hx) h1
      | succ j' => exact h3 j' (by omega) r' (by simpa using hj') id hid

theorem Tr_end {C : Cfg} {ρ : Oracle} {ops : List Oper} {D : Nat → Bool} : ∀ {os : List Oper} {rs : List Rec} {T T' : Env} {h h' : Heap} (i : Nat), Tr C ρ ops os rs T h T' h' → (∀ x, i ≤ x → x < i + os.length → D x = true) →
    envD D i os rs T = T' ∧ memD D i rs (nth h) = nth h'
  | _, _, T, _, h, _, i, .nil _ _, _ => ⟨by unfold envD; rfl, by unfold memD; rfl⟩
  | _, _, T, T', h, h', i, .cons (r := r) hs hg hr, hD => by
    unfold envD memD
    rw [if_pos (hD i (Nat.le_refl _) (by simp)), if_pos (hD i (Nat.le_refl _) (by simp))]
    obtain ⟨g1, _, _⟩ := gapless_spec hg
    have hl : nth (patch h r.p) = upd (nth h) r.p := funext g1
    rw [← hl]
    exact Tr_end (i + 1) hr fun x h1 h2 => hD x (by omega) (by simp; omega)

end Go.Ab
/- Regions whose order is drawn: the law. -/
namespace Go.Ab

/-! ### How many are left -/

def undone : List Bool → Nat
  | [] => 0
  | b :: l => (if b = true then 0 else 1) + undone l

theorem undone_set : ∀ {l : List Bool} {j : Nat}, l[j]? = some false → undone (l.set j true) + 1 = undone l
  | [], j, h => by simp at h
  | b :: l, 0, h => by simp at h; subst h; simp [undone]; omega
  | b :: l, j + 1, h => by
    have := undone_set (l := l) (j := j) (by simpa using h)
    simp only [List.set_cons_succ, undone]
    omega

theorem undone_zero : ∀ {l : List Bool}, undone l = 0 → ∀ (j : Nat), j < l.length → l[j]? = some true
  | [], _, j, h => by simp at h
  | b :: l, h, j, hj => by
    unfold undone at h
    cases b with
    | false => simp at h
    | true =>
      cases j with
      | zero => rfl
      | succ j => simpa using undone_zero (l := l) (by simpa using h) j (by simpa using hj)

theorem undone_replicate : ∀ (n : Nat), undone (List.replicate n false) = n
  | 0 => rfl
  | n + 1 => by simp [List.replicate_succ, undone, undone_replicate n]; omega

/-! ### What an operation names -/

theorem mem_tmpsOf {t : Nat} : ∀ {l : List Operand}, .tmp t ∈ l → t ∈ tmpsOf l
  | [], h => by cases h
  | x :: l, h => by
    rcases List.mem_cons.1 h with h | h
    · subst h; exact .head _
    · have := mem_tmpsOf h
      cases x <;> first | exact List.mem_cons_of_mem _ this | exact this

theorem operand_T {T T' : Env} {x : Operand} (h : ∀ t, x = .tmp t → get T' t = get T t) : operand T' x = operand T x := by
  cases x with
  | tmp t => exact h t rfl
  | _ => rfl

theorem wanted_T {ops : List Oper} {T T' : Env} {o : Oper} (h : ∀ t ∈ guardT ops o, get T' t = get T t) : wanted ops T' o = wanted ops T o := by
  unfold wanted
  unfold guardT at h
  cases hg : o.guard with
  | none => rfl
  | some jw =>
    obtain ⟨j, want⟩ := jw
    rw [hg] at h
    simp only at h ⊢
    cases hj : nth ops j with
    | none => rfl
    | some oj =>
      rw [hj] at h
      simp only at h ⊢
      cases hd : oj.dst with
      | none => rfl
      | some d =>
        rw [hd] at h
        simp only at h ⊢
        rw [h d (.head _)]

theorem apartT_spec {ops : List Oper} {x y : Oper} {d : Nat} (h : apartT ops x y = true) (hd : x.dst = some d) : d ∉ looks ops y ∧ y.dst ≠ some d := by
  unfold apartT at h
  rw [hd] at h
  simp only [Bool.and_eq_true, Bool.not_eq_true'] at h
  refine ⟨fun hm => by rw [mem_iff.2 hm] at h; exact absurd h.1 (by simp), fun hy => ?_⟩
  have h2 := h.2
  rw [hy] at h2
  simp only [Bool.not_eq_true'] at h2
  exact Nat.ne_of_beq_eq_false h2 rfl

/-! ### The state after a part -/

def doneOf (listed : Array Bool) : Nat → Bool := fun i => listed.getD i false

structure DInv (w0 : World) (k : Nat) (A : Array Oper) (l : List Rec) (T0 : Env) (g0 : Look) (γ0 : G) (wi : World) (listed : Array Bool) (γ : G) (a : Act) (w : World) : Prop where
  sz : listed.size = A.size
  hr : HR γ (memD (doneOf listed) 0 l g0) w
  base : Base w0 γ w
  er : ER γ (memD (doneOf listed) 0 l g0) (envD (doneOf listed) 0 A.toList l T0) a
  tsz : k ≤ a.tmps.size
  nd : a.defers = []
  fr : Fr γ0 wi γ w
  ext : Ext γ0 g0 γ (memD (doneOf listed) 0 l g0)
  closed : Closed A.toList (doneOf listed)

section
variable {C : Cfg} {w0 : World} {ρ : Oracle} {A : Array Oper} {l : List Rec} {k : Nat} {T T' : Env} {h h' : Heap} {Q : Exit → Act → World → Prop} {γ0 : G} {wi : World}

theorem sim_drawStep (hρ : OracleOK C.P w0 ρ) (hpr : PrimOK C w0) (tr : Tr C ρ A.toList A.toList l T h T' h') (hst : static A.toList = true) (hcalm : calm (masks A.toList) (quietR (number 0 l)) = true)
    (hdst : dstOK k A.toList = true) {listed : Array Bool} {γ : G} {a : Act} {w : World} (hi : DInv w0 k A l T (nth h) γ0 wi listed γ a w) {j : Nat} (hj : j ∈ Region.ready .any A listed)
    {K : Act → World → Prop} (hK : ∀ γ' a' w', DInv w0 k A l T (nth h) γ0 wi (listed.setIfInBounds j true) γ' a' w' → K a' w') : wpOp C.P A Q j K a w := by
  obtain ⟨hnl, o, ho, hedges⟩ := mem_ready.1 hj
  have hjs : j < A.size := (Array.getElem?_eq_some_iff.1 ho).1
  have hoL : A.toList[j]? = some o := by simpa using ho
  have hjl : j < listed.size := by rw [hi.sz]; exact hjs
  have hlen := tr.length
  have hjr : j < l.length := by rw [hlen]; simpa using hjs
  obtain ⟨r, hr⟩ : ∃ r, l[j]? = some r := ⟨l[j], List.getElem?_eq_getElem hjr⟩
  generalize hD : doneOf listed = D at *
  have hDj : D j = false := by
    rw [← hD]
    unfold doneOf
    simp only [Array.getD_eq_getD_getElem?, Array.getElem?_eq_getElem hjl, Option.getD_some] at hnl ⊢
    exact hnl
  have hedges' : ∀ e ∈ o.after.toList, Region.binds .any e = true → D e.on = true := fun e he hb => by
    rw [← hD]; exact hedges e (by simpa using he) hb
  have hclosed : Closed A.toList D := by rw [← hD]; exact hi.closed
  have hD' : ∀ x, doneOf (listed.setIfInBounds j true) x = (D x || decide (x = j)) := fun x => by
    rw [← hD]
    unfold doneOf
    by_cases hx : x = j
    · subst hx
      simp [Array.getD_eq_getD_getElem?, hjl]
    · have : j ≠ x := fun e => hx e.symm
      simp [Array.getD_eq_getD_getElem?, Array.getElem?_setIfInBounds_ne this, hx]
  -- what the order says of another one
  have early : ∀ x, (getN (masks A.toList) j).testBit x = true → D x = true := fun x hx => before_done hclosed j o hoL hedges' x hx
  have late : ∀ x ox, A.toList[x]? = some ox → (getN (masks A.toList) x).testBit j = true → D x = false := fun x ox hox hx => by
    cases hDx : D x with
    | false => rfl
    | true =>
      have := before_done hclosed x ox hox (hclosed x ox hox hDx) j hx
      rw [hDj] at this; cases this
  have recOf : ∀ x ox, A.toList[x]? = some ox → ∃ rx, l[x]? = some rx := fun x ox hox => by
    have : x < l.length := by rw [hlen]; exact getElem_lt hox
    exact ⟨l[x], List.getElem?_eq_getElem this⟩
  have operOf : ∀ x rx, l[x]? = some rx → ∃ ox, A.toList[x]? = some ox := fun x rx hrx => by
    have : x < A.toList.length := by rw [← hlen]; exact getElem_lt hrx
    exact ⟨A.toList[x], List.getElem?_eq_getElem this⟩
  -- temporaries that the operation looks at
  have agreeT : ∀ t ∈ looks A.toList o, get (envD D 0 A.toList l T) t = get (envD (fun x => decide (x < 0 + j)) 0 A.toList l T) t := fun t ht => by
    refine envD_congr A.toList l 0 T T rfl fun x ox hox _ hdx => ?_
    simp only [Nat.zero_add]
    rcases Nat.lt_trichotomy x j with hlt | heq | hgt
    · rcases static_spec hst hlt hox hoL with hb | ⟨hap, _⟩
      · rw [early x hb]; simp [hlt]
      · exact absurd ht (apartT_spec hap hdx).1
    · subst heq; rw [hDj]; simp
    · rcases static_spec hst hgt hoL hox with hb | ⟨_, hap⟩
      · rw [late x ox hox hb]; simp; omega
      · exact absurd ht (apartT_spec hap hdx).1
  have agreeM : ∀ id ∈ r.reads, memD D 0 l (nth h) id = memD (fun x => decide (x < 0 + j)) 0 l (nth h) id := fun id hid => by
    refine memD_congr l 0 _ _ rfl fun x rx hrx hm => ?_
    simp only [Nat.zero_add]
    obtain ⟨ox, hox⟩ := operOf x rx hrx
    rcases Nat.lt_trichotomy x j with hlt | heq | hgt
    · rcases calm_spec hcalm hlt hrx hr with hb | hf
      · rw [early x hb]; simp [hlt]
      · exact absurd hid (hf.mr id hm)
    · subst heq; rw [hDj]; simp
    · rcases calm_spec hcalm hgt hr hrx with hb | hf
      · rw [late x ox hox hb]; simp; omega
      · exact absurd hm (hf.rm id hid)
  -- the state behind it
  have nextM : memD (doneOf (listed.setIfInBounds j true)) 0 l (nth h) = upd (memD D 0 l (nth h)) r.p := funext fun id =>
    memD_add l 0 _ (Nat.zero_le _) hr hDj hD' fun x rx hrx hlt hDx hm => by
      rw [Nat.zero_add] at hlt hDx
      obtain ⟨ox, hox⟩ := operOf x rx hrx
      rcases calm_spec hcalm hlt hr hrx with hb | hf
      · rw [late x ox hox hb] at hDx; cases hDx
      · exact hf.mm id hm
  have nextT : ∀ t, get (envD (doneOf (listed.setIfInBounds j true)) 0 A.toList l T) t = get (putT (envD D 0 A.toList l T) o.dst r.v) t := fun t => by
    rw [get_putT]
    refine envD_add A.toList l 0 T (Nat.zero_le _) hoL hr hDj hD' fun x ox hox hlt hDx hdt => ?_
    rw [Nat.zero_add] at hlt hDx
    rcases static_spec hst hlt hoL hox with hb | ⟨hap, _⟩
    · rw [late x ox hox hb] at hDx; cases hDx
    · exact (apartT_spec hap hdt).2
  have nextC : Closed A.toList (doneOf (listed.setIfInBounds j true)) := fun x ox hox hx e he hb => by
    rw [hD'] at hx ⊢
    rw [Bool.or_eq_true] at hx ⊢
    rcases hx with hx | hx
    · exact .inl (hclosed x ox hox hx e he hb)
    · have := of_decide_eq_true hx
      subst this
      rw [hoL] at hox; cases hox
      exact .inl (hedges' e he hb)
  have hdj : ∀ d, o.dst = some d → d < a.tmps.size := fun d hd => by
    have key : ∀ {os : List Oper} {n : Nat}, dstOK k os = true → os[n]? = some o → d < k := by
      intro os
      induction os with
      | nil => intro n _ hn; simp at hn
      | cons x os ih =>
        intro n hx hn
        obtain ⟨h1, h2⟩ := dstOK_cons hx
        cases n with
        | zero => simp only [List.getElem?_cons_zero, Option.some.injEq] at hn; subst hn; exact h1 d hd
        | succ n => exact ih h2 (by simpa using hn)
    exact Nat.lt_of_lt_of_le (key hdst hoL) hi.tsz
  have goOn : ∀ u w' γ', Ext γ (memD D 0 l (nth h)) γ' (upd (memD D 0 l (nth h)) r.p) → HR γ' (upd (memD D 0 l (nth h)) r.p) w' → Fr γ w γ' w' → VR γ' (upd (memD D 0 l (nth h)) r.p) r.v u → K (a.put o.dst u) w' := by
    intro u w' γ' e hh f hv
    refine hK γ' _ w' ⟨by simp [hi.sz], by rw [nextM]; exact hh, hi.base.mono f, fun t => ?_, by rw [put_size]; exact hi.tsz, by rw [put_defers]; exact hi.nd, hi.fr.trans f, ?_, nextC⟩
    · rw [nextM, nextT]
      have her := hi.er
      rw [hD] at her
      exact (her.mono e).put hv hdj t
    · rw [nextM]
      have hext := hi.ext
      rw [hD] at hext
      exact hext.trans e
  obtain ⟨n, hn1, hstp, hn3⟩ := Tr_at j 0 tr hoL hr
  have hwT : wanted A.toList (envD D 0 A.toList l T) o = wanted A.toList (envD (fun x => decide (x < 0 + j)) 0 A.toList l T) o :=
    wanted_T fun t ht => agreeT t (List.mem_append_right _ ht)
  have her := hi.er
  have hhr := hi.hr
  rw [hD] at her hhr
  unfold wpOp
  simp only [ho]
  rcases hstp with ⟨hw, hrr⟩ | ⟨hw, hex, hreads⟩
  · rw [wanted_ER her (hwT.trans hw)]
    simp only [Bool.false_eq_true, if_false]
    have hp : r.p = [] := by rw [hrr]
    have hv : r.v = .nov := by rw [hrr]
    refine goOn undef w γ ?_ ?_ (.refl _ _) ?_
    · rw [hp]; exact .refl _ _
    · rw [hp]; exact hhr
    · rw [hv]; exact .nov
  · rw [wanted_ER her (hwT.trans hw)]
    simp only [if_true]
    refine .inl ?_
    have hexD : exec1 C ρ (memD D 0 l (nth h)) n (envD D 0 A.toList l T) o = some (.val r.v, r.p) := by
      rw [exec1_T (T := envD (fun x => decide (x < 0 + j)) 0 A.toList l T) fun x hx => operand_T fun t ht => agreeT t (List.mem_append_left _ (mem_tmpsOf (by rw [← ht]; exact hx)))]
      exact exec1_ag hex fun id hid => agreeM id (by rw [hreads]; exact hid)
    refine sim_exec1 hρ hpr hhr hi.base her hexD (fun i x hni hix => ?_) goOn
    have him : i ∈ r.mods := List.mem_map.2 ⟨(i, x), hix, rfl⟩
    have hg : memD D 0 l (nth h) i = none := by
      have h1 : memD D 0 l (nth h) i = memD (fun _ => false) 0 l (nth h) i := by
        refine memD_congr l 0 _ _ rfl fun y ry hry hm => ?_
        rw [Nat.zero_add]
        obtain ⟨oy, hoy⟩ := operOf y ry hry
        rcases Nat.lt_trichotomy y j with hlt | heq | hgt
        · have := hn3 y hlt ry hry i hm
          omega
        · subst heq; exact hDj
        · rcases calm_spec hcalm hgt hr hry with hb | hf
          · exact late y oy hoy hb
          · exact absurd hm (hf.mm i him)
      rw [h1, memD_none l 0 _ fun _ _ => rfl, nth_eq]
      exact List.getElem?_eq_none (by omega)
    refine ⟨?_, hg⟩
    cases hb : γ.β i with
    | none => rfl
    | some b => obtain ⟨o', ho', _⟩ := hhr.obj i b hb; rw [hg] at ho'; cases ho'

theorem sim_wpAny (hρ : OracleOK C.P w0 ρ) (hpr : PrimOK C w0) (tr : Tr C ρ A.toList A.toList l T h T' h') (hst : static A.toList = true) (hcalm : calm (masks A.toList) (quietR (number 0 l)) = true)
    (hdst : dstOK k A.toList = true) (hQ : ∀ γ' a' w', Inv w0 k γ' h' T' a' w' → Fr γ0 wi γ' w' → Ext γ0 (nth h) γ' (nth h') → Q .normal a' w') :
    ∀ (fuel : Nat) (listed : Array Bool) (γ : G) (a : Act) (w : World), undone listed.toList ≤ fuel → DInv w0 k A l T (nth h) γ0 wi listed γ a w → wpAny C.P .any A Q fuel listed a w := by
  have hall : ∀ (listed : Array Bool) (γ : G) (a : Act) (w : World), DInv w0 k A l T (nth h) γ0 wi listed γ a w → (∀ x, x < A.size → doneOf listed x = true) → Q .normal a w := by
    intro listed γ a w hi hd
    obtain ⟨h1, h2⟩ := Tr_end (D := doneOf listed) 0 tr fun x _ hx => hd x (by simpa using hx)
    have e1 := hi.er; have e2 := hi.hr; have e3 := hi.ext
    rw [h1, h2] at e1; rw [h2] at e2 e3
    exact hQ γ a w ⟨e2, hi.base, e1, hi.tsz, hi.nd⟩ hi.fr e3
  have hempty : ∀ (listed : Array Bool) (γ : G) (a : Act) (w : World), DInv w0 k A l T (nth h) γ0 wi listed γ a w → Region.ready .any A listed = [] → Q .normal a w := by
    intro listed γ a w hi he
    refine hall listed γ a w hi ?_
    intro x
    induction x using Nat.strongRecOn with
    | _ x ih =>
      intro hx
      cases hd : doneOf listed x with
      | true => rfl
      | false =>
        have hxl : x < listed.size := by rw [hi.sz]; exact hx
        have hmem : x ∈ Region.ready .any A listed := by
          refine mem_ready.2 ⟨?_, A[x], Array.getElem?_eq_getElem hx, fun e he hb => ?_⟩
          · unfold doneOf at hd
            simp only [Array.getD_eq_getD_getElem?, Array.getElem?_eq_getElem hxl, Option.getD_some] at hd ⊢
            exact hd
          · have hst' := hst
            unfold static at hst'
            rw [Bool.and_eq_true] at hst'
            have := edgesOK_spec hst'.1 x A[x] (by simp [hx]) e (by simpa using he) hb
            exact ih e.on (by omega) (by omega)
        rw [he] at hmem
        cases hmem
  intro fuel
  induction fuel with
  | zero =>
    intro listed γ a w hu hi
    have hz := undone_zero (Nat.le_zero.1 hu)
    have hd : ∀ x, x < A.size → listed[x]? = some true := fun x hx => by
      have := hz x (by simp [hi.sz, hx])
      simpa using this
    refine ⟨?_, hall listed γ a w hi fun x hx => ?_⟩
    · cases hr : Region.ready .any A listed with
      | nil => rfl
      | cons x xs =>
        have hx : x ∈ Region.ready .any A listed := by rw [hr]; exact .head _
        obtain ⟨h1, o, ho, _⟩ := mem_ready.1 hx
        have hxs : x < A.size := (Array.getElem?_eq_some_iff.1 ho).1
        rw [Array.getD_eq_getD_getElem?, hd x hxs] at h1
        cases h1
    · unfold doneOf
      rw [Array.getD_eq_getD_getElem?, hd x hx]
      rfl
  | succ fuel ih =>
    intro listed γ a w hu hi
    refine ⟨hempty listed γ a w hi, fun j hj => ?_⟩
    refine sim_drawStep hρ hpr tr hst hcalm hdst hi hj fun γ' a' w' hi' => ih _ γ' a' w' ?_ hi'
    obtain ⟨hnl, o, ho, _⟩ := mem_ready.1 hj
    have hjs : j < listed.size := by rw [hi.sz]; exact (Array.getElem?_eq_some_iff.1 ho).1
    have hjf : listed.toList[j]? = some false := by
      simp only [Array.getD_eq_getD_getElem?, Array.getElem?_eq_getElem hjs, Option.getD_some] at hnl
      simp [hjs, hnl]
    have := undone_set hjf
    rw [Array.toList_setIfInBounds]
    omega

end

/-- The law of regions. -/
theorem regionOK {C : Cfg} {w0 : World} (hm : C.P.follows .mixedOrders = true) (hpr : PrimOK C w0) (ρ : Oracle) (hρ : OracleOK C.P w0 ρ) : RegionOK C ρ w0 := by
  intro k m id ops draw st r st' γ a w Q hx hi hp
  unfold region at hx
  split at hx
  · cases hx
  · rename_i hdst
    cases draw with
    | true =>
      simp only at hx
      split at hx
      · rename_i l T h hst hrun
        split at hx
        · rename_i hcalm
          cases hx
          refine wp_region_any hm ?_
          have hi' : DInv w0 k ops l st.T (nth st.h) γ w (Array.replicate ops.size false) γ a { w with drawn := w.drawn + 1 } := by
            have hno : ∀ x, doneOf (Array.replicate ops.size false) x = false := fun x => by
              unfold doneOf
              rw [Array.getD_eq_getD_getElem?, Array.getElem?_replicate]
              split <;> rfl
            have em : memD (doneOf (Array.replicate ops.size false)) 0 l (nth st.h) = nth st.h := memD_none l 0 _ fun x _ => hno x
            have ee : envD (doneOf (Array.replicate ops.size false)) 0 ops.toList l st.T = st.T := envD_none _ l 0 _ fun x _ => hno x
            refine ⟨by simp, ?_, ⟨hi.base.1, fun b hb => hi.base.2 b hb⟩, ?_, hi.sz, hi.nd, ⟨Nat.le_refl _, fun _ _ _ => rfl, fun i b hb => .inr ⟨i, hb⟩, fun _ _ _ hv => .inl hv, rfl, rfl⟩, ?_, fun j o _ hd => ?_⟩
            · rw [em]; exact hi.hr.of_keep fun b _ => rfl
            · rw [em, ee]; exact hi.er
            · rw [em]; exact .refl _ _
            · rw [hno] at hd; cases hd
          refine sim_wpAny hρ hpr (runRec_Tr hrun) hst hcalm hdst (fun γ' a' w' i1 f1 e1 => hp γ' a' w' i1 f1 e1.imm (e1.keep m)) ops.size _ γ a _ ?_ hi'
          rw [Array.toList_replicate, undone_replicate]
          exact Nat.le_refl _
        · cases hx
      · cases hx
    | false =>
      simp only at hx
      split at hx
      · cases hx
      · rename_i T h hrun
        cases hx
        refine wp_region ?_
        rw [List.range_eq_range']
        have := sim_runOps hρ hpr (Q := Q) ops.toList 0 rfl st.T st.h γ a w none T h hrun hi hdst (fun γ' a' w' _ i1 f1 e1 => hp γ' a' w' i1 f1 e1.imm (e1.keep m)) (fun γ' a' w' v u hv => by cases hv)
        simpa using this
      · rename_i v T h hrun
        cases hx
        refine wp_region ?_
        rw [List.range_eq_range']
        have := sim_runOps hρ hpr (Q := Q) ops.toList 0 rfl st.T st.h γ a w (some v) T h hrun hi hdst (fun γ' a' w' hv => by cases hv)
          (fun γ' a' w' v' u hv i1 f1 e1 hu => by cases hv; exact hp γ' a' w' i1 f1 e1.imm (e1.keep m) u hu)
        simpa using this

/-- The evaluator's calls are the model's. -/
theorem callN_sound {C : Cfg} {w0 : World} (hm : C.P.follows .mixedOrders = true) (hpr : PrimOK C w0) (n : Nat) : OracleOK C.P w0 (callN C n) :=
  callN_OK (fun ρ hρ => regionOK hm hpr ρ hρ) n

end Go.Ab
/- The evaluator: more fuel, an oracle that knows more: the same answer; and the oracle that knows whatever some fuel gives. -/
namespace Go.Ab

structure Ask where
  f : FuncId
  args : List AV
  h : Heap
  r : Out × Heap

def Sat (ρ : Oracle) (L : List Ask) : Prop := ∀ q ∈ L, ρ q.f q.args q.h = some q.r

theorem Sat.nil {ρ : Oracle} : Sat ρ [] := fun _ h => by simp at h
theorem Sat.append {ρ : Oracle} {L L' : List Ask} : Sat ρ (L ++ L') ↔ Sat ρ L ∧ Sat ρ L' := by
  simp only [Sat, List.mem_append]
  exact ⟨fun h => ⟨fun q hq => h q (.inl hq), fun q hq => h q (.inr hq)⟩, fun h q hq => hq.elim (h.1 q) (h.2 q)⟩

/-- An answer hangs on finitely many answers of the oracle, and on so much fuel. -/
def Uses {α : Type} (F : Oracle → Nat → Option α) : Prop :=
  ∀ ρ n r, F ρ n = some r → ∃ L, Sat ρ L ∧ ∀ ρ' n', n ≤ n' → Sat ρ' L → F ρ' n' = some r

theorem Uses.const {α : Type} (x : Option α) : Uses (fun _ _ => x) := fun _ _ _ h => ⟨[], Sat.nil, fun _ _ _ _ => h⟩

theorem Uses.ask (f : FuncId) (args : List AV) (h : Heap) : Uses (fun ρ _ => ρ f args h) :=
  fun ρ n r hx => ⟨[⟨f, args, h, r⟩], fun q hq => by rw [List.mem_singleton.1 hq]; exact hx, fun ρ' n' _ hs => hs ⟨f, args, h, r⟩ (List.mem_singleton.2 rfl)⟩

theorem Uses.bind {α β : Type} {F : Oracle → Nat → Option α} {G : α → Oracle → Nat → Option β} (hF : Uses F) (hG : ∀ a, Uses (G a)) :
    Uses (fun ρ n => match F ρ n with | none => none | some a => G a ρ n) := by
  intro ρ n r hx
  dsimp only at hx
  cases hf : F ρ n with
  | none => rw [hf] at hx; cases hx
  | some a =>
    rw [hf] at hx
    obtain ⟨L, h1, h2⟩ := hF ρ n a hf
    obtain ⟨L', h3, h4⟩ := hG a ρ n r hx
    refine ⟨L ++ L', Sat.append.2 ⟨h1, h3⟩, fun ρ' n' hn hs => ?_⟩
    show (match F ρ' n' with | none => none | some a => G a ρ' n') = some r
    rw [h2 ρ' n' hn (Sat.append.1 hs).1]
    exact h4 ρ' n' hn (Sat.append.1 hs).2

theorem Uses.congr {α : Type} {F G : Oracle → Nat → Option α} (h : ∀ ρ n, F ρ n = G ρ n) (hG : Uses G) : Uses F := by
  have : F = G := funext fun ρ => funext fun n => h ρ n
  rw [this]; exact hG

theorem Uses.of {α β : Type} {F : Oracle → Nat → Option α} {H : Oracle → Nat → Option β} (hF : Uses F) (G : α → Oracle → Nat → Option β) (hG : ∀ a, Uses (G a))
    (h : ∀ ρ n, H ρ n = match F ρ n with | none => none | some a => G a ρ n) : Uses H :=
  Uses.congr h (hF.bind hG)

theorem fin_callIn (g1 : Look) (frz : Patch) (nid : Nat) (f : FuncId) (args : List AV) : Uses (fun ρ _ => callIn ρ g1 frz nid f args) := by
  unfold callIn
  cases reach g1 100000 (refsL g1 args) [] with
  | none => exact .const none
  | some ids =>
    dsimp only
    cases sub g1 ids with
    | none => exact .const none
    | some h =>
      dsimp only
      refine Uses.of (.ask f (renL g1 ids args) h) (fun a _ _ => match a with
        | (Out.val v, h') => some (Out.val (import1 g1 frz nid ids v h').1, (import1 g1 frz nid ids v h').2)
        | (Out.pan v, h') => some (Out.pan (import1 g1 frz nid ids v h').1, (import1 g1 frz nid ids v h').2)) (fun a => .const _) ?_
      intro ρ n
      cases ρ f (renL g1 ids args) h with
      | none => rfl
      | some a => obtain ⟨o, h'⟩ := a; cases o <;> rfl

theorem fin_callF (C : Cfg) (g : Look) (nid : Nat) (f : FuncId) (args : List AV) : Uses (fun ρ _ => callF C ρ g nid f args) := by
  unfold callF
  cases C.byRef f with
  | true =>
    dsimp only
    cases hasBody C.P f with
    | true => exact fin_callIn _ _ _ _ _
    | false => exact .const none
  | false =>
    dsimp only
    cases C.prim f (args.map (view g)) with
    | some v => exact .const _
    | none =>
      dsimp only
      cases hasBody C.P f with
      | true => exact fin_callIn _ _ _ _ _
      | false => exact .const none

theorem fin_xCall (C : Cfg) (g : Look) (nid : Nat) (T : Env) (c : Call) : Uses (fun ρ _ => xCall C ρ g nid T c) := by
  unfold xCall
  cases c.callee with
  | value f =>
    dsimp only
    generalize operand T f = v
    cases v with
    | t x =>
      cases x with
      | fn f => exact fin_callF _ _ _ _ _
      | _ => exact .const none
    | fn f a b => exact fin_callF _ _ _ _ _
    | _ => exact .const none
  | builtin b => exact .const _
  | _ => exact .const none

theorem fin_exec1 (C : Cfg) (g : Look) (nid : Nat) (T : Env) (o : Oper) : Uses (fun ρ _ => exec1 C ρ g nid T o) := by
  unfold exec1
  generalize o.op = op
  cases op with
  | call c => exact fin_xCall _ _ _ _ _
  | makeFunc f a b => cases f <;> exact .const _
  | next it s => cases s <;> exact .const _
  | _ => exact .const _

theorem fin_runOps (C : Cfg) (ops : List Oper) : ∀ (l : List Oper) (T : Env) (h : Heap), Uses (fun ρ _ => runOps C ρ ops l T h)
  | [], T, h => by unfold runOps; exact .const _
  | o :: rest, T, h => by
    unfold runOps
    cases wanted ops T o with
    | none => exact .const none
    | some b =>
      skip
      cases b with
      | false => exact fin_runOps C ops rest _ _
      | true =>
        refine Uses.of (fin_exec1 C (nth h) h.length T o) (fun a ρ _ => match a with
            | (Out.pan v, p) => some (some v, T, patch h p)
            | (Out.val v, p) => runOps C ρ ops rest (putT T o.dst v) (patch h p)) (fun a => ?_) ?_
        · obtain ⟨o', p⟩ := a
          cases o' with
          | pan v => exact .const _
          | val v => exact fin_runOps C ops rest _ _
        · intro ρ n
          cases exec1 C ρ (nth h) h.length T o with
          | none => rfl
          | some a => obtain ⟨o, p⟩ := a; cases o <;> rfl

theorem fin_runRec (C : Cfg) (ops : List Oper) : ∀ (l : List Oper) (T : Env) (h : Heap), Uses (fun ρ _ => runRec C ρ ops l T h)
  | [], T, h => by unfold runRec; exact .const _
  | o :: rest, T, h => by
    unfold runRec
    cases wanted ops T o with
    | none => exact .const none
    | some b =>
      skip
      cases b with
      | false =>
        dsimp only
        refine Uses.of (fin_runRec C ops rest (putT T o.dst .nov) h) (fun a _ _ => some (⟨[], .nov, []⟩ :: a.1, a.2.1, a.2.2)) (fun a => .const _) ?_
        intro ρ n
        cases runRec C ρ ops rest (putT T o.dst .nov) h with
        | none => rfl
        | some a => obtain ⟨l, T', h'⟩ := a; rfl
      | true =>
        refine Uses.of (fin_exec1 C (nth h) h.length T o) (fun a ρ _ => match a with
            | (Out.pan _, _) => none
            | (Out.val v, p) => match gapless h.length p with
              | false => none
              | true => match runRec C ρ ops rest (putT T o.dst v) (patch h p) with
                | none => none
                | some (l, T', h') => some (⟨foot C (nth h) T o, v, p⟩ :: l, T', h')) (fun a => ?_) ?_
        · obtain ⟨o', p⟩ := a
          cases o' with
          | pan v => exact .const _
          | val v =>
            dsimp only
            cases gapless h.length p with
            | false => exact .const _
            | true =>
              dsimp only
              refine Uses.of (fin_runRec C ops rest (putT T o.dst v) (patch h p)) (fun b _ _ => some (⟨foot C (nth h) T o, v, p⟩ :: b.1, b.2.1, b.2.2)) (fun b => .const _) ?_
              intro ρ n
              cases runRec C ρ ops rest (putT T o.dst v) (patch h p) with
              | none => rfl
              | some b => obtain ⟨l, T', h'⟩ := b; rfl
        · intro ρ n
          cases exec1 C ρ (nth h) h.length T o with
          | none => rfl
          | some a => obtain ⟨o, p⟩ := a; cases o <;> rfl

theorem fin_region (C : Cfg) (k : Nat) (ops : List Oper) (draw : Bool) (st : St) : Uses (fun ρ _ => region C ρ k ops draw st) := by
  unfold region
  cases dstOK k ops with
  | false => exact .const none
  | true =>
    dsimp only
    cases draw with
    | true =>
      dsimp only
      cases static ops with
      | false => exact Uses.const none
      | true =>
        refine Uses.of (fin_runRec C ops ops st.T st.h) (fun a _ _ => match calm (masks ops) (quietR (number 0 a.1)) with
            | true => some (Ex.normal, ⟨a.2.1, a.2.2⟩)
            | false => none) (fun a => .const _) ?_
        intro ρ n
        cases runRec C ρ ops ops st.T st.h with
        | none => rfl
        | some a => obtain ⟨l, T, h⟩ := a; rfl
    | false =>
      refine Uses.of (fin_runOps C ops ops st.T st.h) (fun a _ _ => match a with
          | (none, T, h) => some (Ex.normal, ⟨T, h⟩)
          | (some v, T, h) => some (Ex.pan v, ⟨T, h⟩)) (fun a => .const _) ?_
      intro ρ n
      cases runOps C ρ ops ops st.T st.h with
      | none => rfl
      | some a => obtain ⟨o, T, h⟩ := a; cases o <;> rfl

theorem fin_iter {gc : St → Option St} {body : Oracle → Nat → St → Option (Ex × St)} (hb : ∀ st, Uses (fun ρ n => body ρ n st)) :
    ∀ (fuel : Nat) (st : St) (ρ : Oracle) (n : Nat) (r : Ex × St), iter gc (body ρ n) fuel st = some r →
      ∃ L, Sat ρ L ∧ ∀ ρ' n' fuel', n ≤ n' → fuel ≤ fuel' → Sat ρ' L → iter gc (body ρ' n') fuel' st = some r
  | 0, st, ρ, n, r, hx => by simp [iter] at hx
  | fuel + 1, st, ρ, n, r, hx => by
    unfold iter at hx
    cases hg : gc st with
    | none => rw [hg] at hx; cases hx
    | some st1 =>
      rw [hg] at hx
      dsimp only at hx
      cases hbd : body ρ n st1 with
      | none => rw [hbd] at hx; cases hx
      | some a =>
        obtain ⟨e, st2⟩ := a
        obtain ⟨L, h1, h2'⟩ := hb st1 ρ n _ hbd
        have h2 : ∀ ρ' n', n ≤ n' → Sat ρ' L → body ρ' n' st1 = some (e, st2) := h2'
        clear h2'
        rw [hbd] at hx
        have stop : ∀ (hr : some (e, st2) = some r), (∀ x, e = .normal → x = fuel → False) → ∃ L, Sat ρ L ∧ ∀ ρ' n' fuel', n ≤ n' → fuel + 1 ≤ fuel' → Sat ρ' L → iter gc (body ρ' n') fuel' st = some r := by
          intro hr hne
          refine ⟨L, h1, fun ρ' n' fuel' hn hf hs => ?_⟩
          obtain ⟨f', rfl⟩ : ∃ f', fuel' = f' + 1 := ⟨fuel' - 1, by omega⟩
          unfold iter
          rw [hg]
          dsimp only
          rw [h2 ρ' n' hn hs]
          cases e with
          | normal => exact (hne fuel rfl rfl).elim
          | _ => exact hr
        cases e with
        | normal =>
          dsimp only at hx
          obtain ⟨L', h3, h4⟩ := fin_iter hb fuel st2 ρ n r hx
          refine ⟨L ++ L', Sat.append.2 ⟨h1, h3⟩, fun ρ' n' fuel' hn hf hs => ?_⟩
          obtain ⟨f', rfl⟩ : ∃ f', fuel' = f' + 1 := ⟨fuel' - 1, by omega⟩
          unfold iter
          rw [hg]
          dsimp only
          rw [h2 ρ' n' hn (Sat.append.1 hs).1]
          exact h4 ρ' n' f' hn (by omega) (Sat.append.1 hs).2
        | _ => exact stop hx (fun _ h => by cases h)

theorem fin_exec (C : Cfg) (m k : Nat) (keep : Nat → Option (List Nat)) : ∀ (c : Code) (st : St), Uses (fun ρ n => exec C ρ n m k keep c st)
  | .skip, st => by unfold exec; exact .const _
  | .region _ ops draw, st => by unfold exec; exact fin_region _ _ _ _ _
  | .seq a b, st => by
    unfold exec
    refine Uses.of (fin_exec C m k keep a st) (fun r ρ n => match r with
        | (Ex.normal, st) => exec C ρ n m k keep b st
        | r => some r) (fun r => ?_) ?_
    · obtain ⟨e, st'⟩ := r
      cases e with
      | normal => exact fin_exec C m k keep b st'
      | _ => exact .const _
    · intro ρ n
      skip
      cases exec C ρ n m k keep a st with
      | none => rfl
      | some r => obtain ⟨e, st⟩ := r; cases e <;> rfl
  | .cond c a b, st => by
    unfold exec
    generalize operand st.T c = v
    cases v with
    | t x =>
      cases x with
      | bool v => cases v with
        | true => exact fin_exec C m k keep a st
        | false => exact fin_exec C m k keep b st
      | _ => exact .const none
    | _ => exact .const none
  | .block id b, st => by
    unfold exec
    refine Uses.of (fin_exec C m k keep b st) (fun r _ _ => match r with
        | (Ex.exit id', st) => if id' = id then some (Ex.normal, st) else some (Ex.exit id', st)
        | r => some r) (fun r => .const _) ?_
    intro ρ n
    skip
    cases exec C ρ n m k keep b st with
    | none => rfl
    | some r => obtain ⟨e, st⟩ := r; cases e <;> rfl
  | .loop b, st => by
    intro ρ n r hx
    unfold exec at hx
    obtain ⟨L, h1, h2⟩ := fin_iter (body := fun ρ n st => exec C ρ n m k keep b st) (fun st => fin_exec C m k keep b st) n st ρ n r hx
    refine ⟨L, h1, fun ρ' n' hn hs => ?_⟩
    show exec C ρ' n' m k keep (.loop b) st = some r
    unfold exec
    exact h2 ρ' n' n' hn hn hs
  | .exit id, st => by unfold exec; exact .const _
  | .scope b, st => by unfold exec; exact fin_exec C m k keep b st
  | .label _, st => by unfold exec; exact .const _
  | .ret, st => by unfold exec; exact .const _
  | .rangeFunc .., st => by unfold exec; exact .const none
  | .goto _, st => by unfold exec; exact .const none
  | .refuse _, st => by unfold exec; exact .const none

theorem fin_callS (C : Cfg) (f : FuncId) (args : List AV) (h : Heap) : Uses (fun ρ n => callS C ρ n f args h) := by
  unfold callS
  cases nth C.P.funcs.toList f with
  | none => exact .const none
  | some fn =>
    dsimp only
    cases fn.body with
    | none => exact .const none
    | some c =>
      dsimp only
      refine Uses.of (fin_exec C h.length fn.ntmps (C.keep f) c ⟨argsT 0 args, h⟩) (fun r _ _ => match r with
          | (Ex.normal, st) | (Ex.ret, st) => match results C.P fn st with
            | none => none
            | some v => match finish C f h.length v st.h with
              | some (v, h) => some (Out.val v, h)
              | none => none
          | (Ex.pan v, st) => match finish C f h.length v st.h with
            | some (v, h) => some (Out.pan v, h)
            | none => none
          | _ => none) (fun r => .const _) ?_
      intro ρ n
      skip
      cases exec C ρ n h.length fn.ntmps (C.keep f) c ⟨argsT 0 args, h⟩ with
      | none => rfl
      | some r => obtain ⟨e, st⟩ := r; cases e <;> rfl

theorem exec_mono {C : Cfg} {ρ : Oracle} {m k n n' : Nat} {keep : Nat → Option (List Nat)} {c : Code} {st : St} {r : Ex × St} (hn : n ≤ n')
    (hx : exec C ρ n m k keep c st = some r) : exec C ρ n' m k keep c st = some r := by
  obtain ⟨L, h1, h2⟩ := fin_exec C m k keep c st ρ n r hx
  exact h2 ρ n' hn h1

theorem callN_step {C : Cfg} : ∀ (n : Nat) {f : FuncId} {args : List AV} {h : Heap} {r : Out × Heap}, callN C n f args h = some r → callN C (n + 1) f args h = some r
  | 0, f, args, h, r, hx => by simp [callN] at hx
  | n + 1, f, args, h, r, hx => by
    unfold callN at hx ⊢
    obtain ⟨L, h1, h2⟩ := fin_callS C f args h _ _ _ hx
    exact h2 _ _ (by omega) fun q hq => callN_step n (h1 q hq)

theorem callN_mono {C : Cfg} {n n' : Nat} (hn : n ≤ n') {f : FuncId} {args : List AV} {h : Heap} {r : Out × Heap} (hx : callN C n f args h = some r) : callN C n' f args h = some r := by
  induction hn with
  | refl => exact hx
  | step _ ih => exact callN_step _ ih

/-- What a function answers, with as much fuel as it wants. -/
def Ev (C : Cfg) (f : FuncId) (args : List AV) (h : Heap) (r : Out × Heap) : Prop := ∃ n, callN C n f args h = some r

theorem Ev.det {C : Cfg} {f : FuncId} {args : List AV} {h : Heap} {r r' : Out × Heap} (a : Ev C f args h r) (b : Ev C f args h r') : r = r' := by
  obtain ⟨n, hn⟩ := a
  obtain ⟨n', hn'⟩ := b
  have h1 := callN_mono (Nat.le_max_left n n') hn
  have h2 := callN_mono (Nat.le_max_right n n') hn'
  rw [h1] at h2
  exact Option.some.inj h2

open Classical in
noncomputable def Om (C : Cfg) : Oracle := fun f args h => if ex : ∃ r, Ev C f args h r then some ex.choose else none

theorem om_iff {C : Cfg} {f : FuncId} {args : List AV} {h : Heap} {r : Out × Heap} : Om C f args h = some r ↔ Ev C f args h r := by
  unfold Om
  split
  · rename_i ex
    constructor
    · intro hx; cases hx; exact ex.choose_spec
    · intro hx; exact congrArg some (ex.choose_spec.det hx)
  · rename_i ex
    constructor
    · intro hx; cases hx
    · intro hx; exact (ex ⟨r, hx⟩).elim

theorem sat_om {C : Cfg} : ∀ {L : List Ask}, Sat (Om C) L → ∃ N, ∀ n, N ≤ n → Sat (callN C n) L
  | [], _ => ⟨0, fun _ _ => Sat.nil⟩
  | q :: L, h => by
    obtain ⟨N, hN⟩ := sat_om (L := L) fun x hx => h x (List.mem_cons_of_mem _ hx)
    obtain ⟨N', hN'⟩ := om_iff.1 (h q (List.mem_cons_self ..))
    refine ⟨max N N', fun n hn x hx => ?_⟩
    rcases List.mem_cons.1 hx with rfl | hx
    · exact callN_mono (by omega) hN'
    · exact hN n (by omega) x hx

theorem om_call {C : Cfg} {n : Nat} {f : FuncId} {args : List AV} {h : Heap} {r : Out × Heap} (hx : callS C (Om C) n f args h = some r) : Om C f args h = some r := by
  obtain ⟨L, h1, h2⟩ := fin_callS C f args h _ _ _ hx
  obtain ⟨N, hN⟩ := sat_om h1
  refine om_iff.2 ⟨max N n + 1, ?_⟩
  unfold callN
  exact h2 _ _ (by omega) (hN _ (by omega))

theorem om_of_callN {C : Cfg} {n : Nat} {f : FuncId} {args : List AV} {h : Heap} {r : Out × Heap} (hx : callN C n f args h = some r) : Om C f args h = some r := om_iff.2 ⟨n, hx⟩

theorem om_of_callK {C : Cfg} {tbl : Oracle} (ht : ∀ f args h r, tbl f args h = some r → Om C f args h = some r) : ∀ {n : Nat} {f : FuncId} {args : List AV} {h : Heap} {r : Out × Heap},
    callK C tbl n f args h = some r → Om C f args h = some r
  | 0, f, args, h, r, hx => by simp [callK] at hx
  | n + 1, f, args, h, r, hx => by
    unfold callK at hx
    split at hx
    · rename_i r' hr
      cases hx
      exact ht _ _ _ _ hr
    · obtain ⟨L, h1, h2⟩ := fin_callS C f args h _ _ _ hx
      exact om_call (h2 (Om C) n (Nat.le_refl _) fun q hq => om_of_callK ht (h1 q hq))

theorem om_sound {C : Cfg} {w0 : World} (hm : C.P.follows .mixedOrders = true) (hpr : PrimOK C w0) : OracleOK C.P w0 (Om C) :=
  fun f args h out h' hx => by
    obtain ⟨n, hn⟩ := om_iff.1 hx
    exact callN_sound hm hpr n f args h out h' hn

end Go.Ab
/- Rules by which an open function's code is gone through, step by step. -/
namespace Go.Ab

/-- Some fuel lets the code end so. -/
def W (C : Cfg) (m k : Nat) (keep : Nat → Option (List Nat)) (c : Code) (st : St) (Q : Ex → St → Prop) : Prop :=
  ∃ n e st', exec C (Om C) n m k keep c st = some (e, st') ∧ Q e st'

section
variable {C : Cfg} {m k : Nat} {keep : Nat → Option (List Nat)} {st : St} {Q : Ex → St → Prop}

/-- What follows a statement that ended. -/
def thenW (C : Cfg) (m k : Nat) (keep : Nat → Option (List Nat)) (b : Code) (Q : Ex → St → Prop) : Ex → St → Prop
  | .normal, st => W C m k keep b st Q
  | e, st => Q e st

theorem W.mono {c : Code} {Q' : Ex → St → Prop} (h : W C m k keep c st Q) (hq : ∀ e st, Q e st → Q' e st) : W C m k keep c st Q' := by
  obtain ⟨n, e, st', h1, h2⟩ := h
  exact ⟨n, e, st', h1, hq _ _ h2⟩

theorem W_skip (h : Q .normal st) : W C m k keep .skip st Q := ⟨0, .normal, st, by simp only [exec], h⟩

theorem W_ret (h : Q .ret st) : W C m k keep .ret st Q := ⟨0, .ret, st, by simp only [exec], h⟩

theorem W_exit {id : Nat} (h : Q (.exit id) st) : W C m k keep (.exit id) st Q := ⟨0, .exit id, st, by simp only [exec], h⟩

theorem W_label {l : Nat} (h : Q .normal st) : W C m k keep (.label l) st Q := ⟨0, .normal, st, by simp only [exec], h⟩

theorem W_region {id : Nat} {ops : Array Oper} {draw : Bool} {e : Ex} {st' : St} (h : region C (Om C) k ops.toList draw st = some (e, st')) (hq : Q e st') :
    W C m k keep (.region id ops draw) st Q := ⟨0, e, st', by simp only [exec]; exact h, hq⟩

theorem W_seq {a b : Code} (h : W C m k keep a st (thenW C m k keep b Q)) : W C m k keep (.seq a b) st Q := by
  obtain ⟨n, e, st', h1, h2⟩ := h
  cases e with
  | normal =>
    obtain ⟨n', e, st'', h3, h4⟩ := h2
    refine ⟨max n n', e, st'', ?_, h4⟩
    simp only [exec]
    rw [exec_mono (Nat.le_max_left n n') h1]
    exact exec_mono (Nat.le_max_right n n') h3
  | exit id => exact ⟨n, _, st', by simp only [exec, h1], h2⟩
  | ret => exact ⟨n, _, st', by simp only [exec, h1], h2⟩
  | pan v => exact ⟨n, _, st', by simp only [exec, h1], h2⟩

theorem W_cond {c : Operand} {a b : Code} {v : Bool} (h : operand st.T c = .t (.bool v)) (h1 : v = true → W C m k keep a st Q) (h2 : v = false → W C m k keep b st Q) :
    W C m k keep (.cond c a b) st Q := by
  cases v with
  | true =>
    obtain ⟨n, e, st', h3, h4⟩ := h1 rfl
    exact ⟨n, e, st', by simp only [exec, h, h3], h4⟩
  | false =>
    obtain ⟨n, e, st', h3, h4⟩ := h2 rfl
    exact ⟨n, e, st', by simp only [exec, h, h3], h4⟩

def outOf (id : Nat) (Q : Ex → St → Prop) : Ex → St → Prop
  | .exit id', st => if id' = id then Q .normal st else Q (.exit id') st
  | e, st => Q e st

theorem W_block {id : Nat} {b : Code} (h : W C m k keep b st (outOf id Q)) : W C m k keep (.block id b) st Q := by
  obtain ⟨n, e, st', h1, h2⟩ := h
  cases e with
  | exit id' =>
    simp only [outOf] at h2
    by_cases hi : id' = id
    · rw [if_pos hi] at h2
      exact ⟨n, .normal, st', by simp only [exec, h1, hi, if_true], h2⟩
    · rw [if_neg hi] at h2
      exact ⟨n, .exit id', st', by simp only [exec, h1, hi, if_false], h2⟩
  | normal => exact ⟨n, .normal, st', by simp only [exec, h1], h2⟩
  | ret => exact ⟨n, .ret, st', by simp only [exec, h1], h2⟩
  | pan v => exact ⟨n, .pan v, st', by simp only [exec, h1], h2⟩

theorem W_scope {b : Code} (h : W C m k keep b st Q) : W C m k keep (.scope b) st Q := by
  obtain ⟨n, e, st', h1, h2⟩ := h
  exact ⟨n, e, st', by simp only [exec, h1], h2⟩

/-- A loop's state at its head, and behind it. -/
def loopKeep (keep : Nat → Option (List Nat)) (b : Code) : Option (List Nat) :=
  match firstRegion b with
  | some r => keep r
  | none => none

/-- Behind a round: another one, of a lesser measure; or out. -/
def round (m : Nat) (ks : Option (List Nat)) (Inv : Nat → St → Prop) (d : Nat) (Q : Ex → St → Prop) : Ex → St → Prop
  | .normal, st => ∃ d', d' < d ∧ ∃ st', tidy m ks st = some st' ∧ Inv d' st'
  | e, st => Q e st

theorem W_loop {b : Code} (Inv : Nat → St → Prop) (d : Nat) {st1 : St} (h0 : tidy m (loopKeep keep b) st = some st1) (h1 : Inv d st1)
    (step : ∀ d st1, Inv d st1 → W C m k keep b st1 (round m (loopKeep keep b) Inv d Q)) : W C m k keep (.loop b) st Q := by
  have key : ∀ d st st1, tidy m (loopKeep keep b) st = some st1 → Inv d st1 →
      ∃ n e st', iter (tidy m (loopKeep keep b)) (exec C (Om C) n m k keep b) n st = some (e, st') ∧ Q e st' := by
    intro d
    induction d using Nat.strongRecOn with
    | _ d ih =>
      intro st st1 h0 h1
      obtain ⟨n, e, st2, h2, h3⟩ := step d st1 h1
      cases e with
      | normal =>
        obtain ⟨d', hd, st3, h4, h5⟩ := h3
        obtain ⟨n', e', st4, h6, h7⟩ := ih d' hd st2 st3 h4 h5
        refine ⟨max n n' + 1, e', st4, ?_, h7⟩
        unfold iter
        rw [h0]
        dsimp only
        rw [exec_mono (by omega) h2]
        dsimp only
        obtain ⟨L, s1, s2⟩ := fin_iter (body := fun ρ n st => exec C ρ n m k keep b st) (gc := tidy m (loopKeep keep b)) (fun st => fin_exec C m k keep b st) n' st2 (Om C) n' _ h6
        exact s2 (Om C) (max n n' + 1) (max n n') (by omega) (by omega) s1
      | exit id =>
        refine ⟨n + 1, _, st2, ?_, h3⟩
        unfold iter
        rw [h0]
        dsimp only
        rw [exec_mono (by omega) h2]
      | ret =>
        refine ⟨n + 1, _, st2, ?_, h3⟩
        unfold iter
        rw [h0]
        dsimp only
        rw [exec_mono (by omega) h2]
      | pan v =>
        refine ⟨n + 1, _, st2, ?_, h3⟩
        unfold iter
        rw [h0]
        dsimp only
        rw [exec_mono (by omega) h2]
  obtain ⟨n, e, st', h2, h3⟩ := key d st st1 h0 h1
  refine ⟨n, e, st', ?_, h3⟩
  simp only [exec]
  exact h2

/-- How a call ends. -/
def ends (C : Cfg) (f : FuncId) (fn : Func) (m : Nat) (R : Out → Heap → Prop) : Ex → St → Prop
  | .normal, st => ∃ v, results C.P fn st = some v ∧ ∃ v' h', finish C f m v st.h = some (v', h') ∧ R (.val v') h'
  | .ret, st => ∃ v, results C.P fn st = some v ∧ ∃ v' h', finish C f m v st.h = some (v', h') ∧ R (.val v') h'
  | .pan v, st => ∃ v' h', finish C f m v st.h = some (v', h') ∧ R (.pan v') h'
  | _, _ => False

/-- A call, by its code. -/
theorem call_of_W {f : FuncId} {fn : Func} {c : Code} {args : List AV} {h : Heap} {R : Out → Heap → Prop} (hf : nth C.P.funcs.toList f = some fn) (hb : fn.body = some c)
    (hw : W C h.length fn.ntmps (C.keep f) c ⟨argsT 0 args, h⟩ (ends C f fn h.length R)) : ∃ o h', Om C f args h = some (o, h') ∧ R o h' := by
  obtain ⟨n, e, st', h1, h2⟩ := hw
  cases e with
  | normal =>
    obtain ⟨v, h3, v', h', h4, h5⟩ := h2
    exact ⟨_, _, om_call (n := n) (by unfold callS; simp only [hf, hb, h1, h3, h4]), h5⟩
  | ret =>
    obtain ⟨v, h3, v', h', h4, h5⟩ := h2
    exact ⟨_, _, om_call (n := n) (by unfold callS; simp only [hf, hb, h1, h3, h4]), h5⟩
  | pan v =>
    obtain ⟨v', h', h4, h5⟩ := h2
    exact ⟨_, _, om_call (n := n) (by unfold callS; simp only [hf, hb, h1, h4]), h5⟩
  | exit id => exact h2.elim

end
end Go.Ab
/- The program's data as Lean's, and their trees; rules for the evaluator's steps on them. -/
namespace Go.Ab

theorem blt_dec (a b : Nat) : Nat.blt a b = decide (a < b) := by
  cases h : Nat.blt a b with
  | true => rw [Nat.blt_eq] at h; simp [h]
  | false =>
    have : ¬ a < b := fun hh => by rw [← Nat.blt_eq, h] at hh; cases hh
    simp [this]
theorem beq_dec (a b : Nat) : Nat.beq a b = decide (a = b) := by
  cases h : Nat.beq a b with
  | true => simp [Nat.eq_of_beq_eq_true h]
  | false => simp [Nat.ne_of_beq_eq_false h]
theorem ofSem_pure (v : Value) : ofSem (pure v) = unscal v := rfl
theorem finish_tree (C : Cfg) (f : FuncId) (x : Tree) : finish C f 0 (.t x) [] = some (.t x, []) := by
  unfold finish; cases C.thaw f <;> rfl

theorem finish_tree' (C : Cfg) (f : FuncId) (x : Tree) (h : Heap) : finish C f 0 (.t x) h = some (.t x, []) := by
  unfold finish; cases C.thaw f <;> rfl

theorem idx_nat {α : Type} (l : List α) (n : Nat) : idx l (n : Int) = l[n]? := by
  show nth l n = _
  exact nth_eq l n

theorem wrap64 {x : Int} (h : -9223372036854775808 ≤ x) (h' : x < 9223372036854775808) : IntKind.i64.wrap x = x := by
  simp only [IntKind.wrap, IntKind.signed, IntKind.bits]
  simp only [Bool.true_and]
  split <;> rename_i h1 <;> simp at h1 <;> omega

/-! ### Numbers -/

section
variable (P : Program) (t : TypeId) (a b : Int)
theorem i64_add : binop P .add t (.t (.int .i64 a)) (.t (.int .i64 b)) = some (.t (.int .i64 (IntKind.i64.wrap (a + b)))) := rfl
theorem i64_sub : binop P .sub t (.t (.int .i64 a)) (.t (.int .i64 b)) = some (.t (.int .i64 (IntKind.i64.wrap (a - b)))) := rfl
theorem i64_mul : binop P .mul t (.t (.int .i64 a)) (.t (.int .i64 b)) = some (.t (.int .i64 (IntKind.i64.wrap (a * b)))) := rfl
theorem int_lss (k : IntKind) : binop P .lss t (.t (.int k a)) (.t (.int k b)) = some (.t (.bool (decide (a < b)))) := by
  simp [binop, Go.binOp, Op.intCmp, ofSem_pure, unscal]
theorem int_leq (k : IntKind) : binop P .leq t (.t (.int k a)) (.t (.int k b)) = some (.t (.bool (decide (a ≤ b)))) := by
  simp [binop, Go.binOp, Op.intCmp, ofSem_pure, unscal]
theorem int_gtr (k : IntKind) : binop P .gtr t (.t (.int k a)) (.t (.int k b)) = some (.t (.bool (decide (a > b)))) := by
  simp [binop, Go.binOp, Op.intCmp, ofSem_pure, unscal]
theorem int_geq (k : IntKind) : binop P .geq t (.t (.int k a)) (.t (.int k b)) = some (.t (.bool (decide (a ≥ b)))) := by
  simp [binop, Go.binOp, Op.intCmp, ofSem_pure, unscal]
theorem int_eql (k : IntKind) : binop P .eql t (.t (.int k a)) (.t (.int k b)) = some (.t (.bool (a == b))) := by
  simp [binop, Go.binOp, Op.intCmp, ofSem_pure, unscal]
theorem int_neq (k : IntKind) : binop P .neq t (.t (.int k a)) (.t (.int k b)) = some (.t (.bool (a != b))) := by
  simp [binop, Go.binOp, Op.intCmp, ofSem_pure, unscal]
theorem str_eql (x y : List Nat) : binop P .eql t (.t (.str x)) (.t (.str y)) = some (.t (.bool (beqL x y))) := rfl
theorem str_neq (x y : List Nat) : binop P .neq t (.t (.str x)) (.t (.str y)) = some (.t (.bool (!beqL x y))) := rfl
theorem not_bool (x : Bool) : unop .not (.t (.bool x)) = some (.t (.bool (!x))) := by
  simp [unop, scal, Op.unary, ofSem_pure, unscal]
theorem bool_eql (x y : Bool) (h : und P t = some .bool) : binop P .eql t (.t (.bool x)) (.t (.bool y)) = some (.t (.bool (x == y))) := by
  simp only [binop, h]
theorem bool_neq (x y : Bool) (h : und P t = some .bool) : binop P .neq t (.t (.bool x)) (.t (.bool y)) = some (.t (.bool (!(x == y)))) := by
  simp only [binop, h]
end

/-! ### == of structs -/
def eqStep (P : Program) (eq : TypeId → Tree → Tree → Option Bool) (u off : Nat) (xs ys : List Tree) (rest : Option Bool) : Option Bool :=
  match partT P u xs off, partT P u ys off with
  | some x, some y => match eq u x y with
    | some true => rest
    | some false => some false
    | none => none
  | _, _ => none

section
variable (P : Program) (t : TypeId) (d : Nat)
theorem eq_int (k : IntKind) (a b : Int) (h : und P t = some (.int k)) : equal P (d + 1) t (.int k a) (.int k b) = some (a == b) := by
  simp only [equal, h, if_true]
theorem eq_bool (a b : Bool) (h : und P t = some .bool) : equal P (d + 1) t (.bool a) (.bool b) = some (a == b) := by
  simp only [equal, h]
theorem eq_str (a b : List Nat) (h : und P t = some .string) : equal P (d + 1) t (.str a) (.str b) = some (beqL a b) := by
  simp only [equal, h]
theorem agg_eql (xs ys : List Tree) (h : guarded P 50 t = false) : binop P .eql t (.t (.agg xs)) (.t (.agg ys)) = (equal P 100 t (.agg xs) (.agg ys)).map fun b => .t (.bool b) := by
  simp only [binop, h, Bool.false_eq_true, if_false]
theorem agg_neq (xs ys : List Tree) (h : guarded P 50 t = false) : binop P .neq t (.t (.agg xs)) (.t (.agg ys)) = (equal P 100 t (.agg xs) (.agg ys)).map fun b => .t (.bool !b) := by
  simp only [binop, h, Bool.false_eq_true, if_false]
theorem stepB (x : Bool) (r : Bool) : (match (some x : Option Bool) with | some true => some r | some false => some false | none => none) = some (x && r) := by cases x <;> rfl
end

/-! ### Steps -/
section
variable {C : Cfg} {m k : Nat} {keep : Nat → Option (List Nat)} {st : St} {Q : Ex → St → Prop} {b : Code} {ks : Option (List Nat)} {Inv : Nat → St → Prop} {d : Nat}
theorem thenW_normal (h : W C m k keep b st Q) : thenW C m k keep b Q .normal st := h
theorem thenW_exit {id : Nat} (h : Q (.exit id) st) : thenW C m k keep b Q (.exit id) st := h
theorem thenW_ret (h : Q .ret st) : thenW C m k keep b Q .ret st := h
theorem thenW_pan {v : AV} (h : Q (.pan v) st) : thenW C m k keep b Q (.pan v) st := h
theorem outOf_normal {id : Nat} (h : Q .normal st) : outOf id Q .normal st := h
theorem outOf_ret {id : Nat} (h : Q .ret st) : outOf id Q .ret st := h
theorem outOf_pan {id : Nat} {v : AV} (h : Q (.pan v) st) : outOf id Q (.pan v) st := h
theorem outOf_eq {id : Nat} (h : Q .normal st) : outOf id Q (.exit id) st := by
  show if id = id then Q .normal st else Q (.exit id) st
  rw [if_pos rfl]; exact h
theorem outOf_ne {id id' : Nat} (hn : Nat.beq id' id = false) (h : Q (.exit id') st) : outOf id Q (.exit id') st := by
  show if id' = id then Q .normal st else Q (.exit id') st
  rw [if_neg (Nat.ne_of_beq_eq_false hn)]; exact h
theorem round_exit {id : Nat} (h : Q (.exit id) st) : round m ks Inv d Q (.exit id) st := h
theorem round_ret (h : Q .ret st) : round m ks Inv d Q .ret st := h
theorem round_pan {v : AV} (h : Q (.pan v) st) : round m ks Inv d Q (.pan v) st := h
theorem round_normal {st' : St} {d' : Nat} (hd : d' < d) (ht : tidy m ks st = some st') (h : Inv d' st') : round m ks Inv d Q .normal st := ⟨d', hd, st', ht, h⟩

theorem W_run {id : Nat} {ops : Array Oper} {T : Env} {h : Heap} (hd : dstOK k ops.toList = true) (hr : runOps C (Om C) ops.toList ops.toList st.T st.h = some (none, T, h)) (hq : Q .normal ⟨T, h⟩) :
    W C m k keep (.region id ops false) st Q := W_region (by simp only [region, hd, hr]) hq

theorem W_drawn {id : Nat} {ops : Array Oper} {l : List Rec} {T : Env} {h : Heap} (hs : static ops.toList = true) (hd : dstOK k ops.toList = true) (hr : runRec C (Om C) ops.toList ops.toList st.T st.h = some (l, T, h))
    (hc : calm (masks ops.toList) (quietR (number 0 l)) = true) (hq : Q .normal ⟨T, h⟩) :
    W C m k keep (.region id ops true) st Q := W_region (by simp only [region, hd, hs, hr, hc]) hq
end

section
variable {C : Cfg} {m k : Nat} {keep : Nat → Option (List Nat)} {st : St} {Q : Ex → St → Prop} {b : Code}
/-- Behind a round: another one, of a lesser measure; or out. -/
def again {α : Type} (m : Nat) (ks : Option (List Nat)) (S : α → St) (μ : α → Nat) (P : α → Prop) (a : α) (Q : Ex → St → Prop) : Ex → St → Prop
  | .normal, st => ∃ a', μ a' < μ a ∧ P a' ∧ tidy m ks st = some (S a')
  | e, st => Q e st

theorem W_rounds {α : Type} (S : α → St) (μ : α → Nat) (P : α → Prop) (a0 : α) (h0 : tidy m (loopKeep keep b) st = some (S a0)) (p0 : P a0)
    (step : ∀ a, P a → W C m k keep b (S a) (again m (loopKeep keep b) S μ P a Q)) : W C m k keep (.loop b) st Q := by
  refine W_loop (fun d st => ∃ a, μ a = d ∧ P a ∧ st = S a) (μ a0) h0 ⟨a0, rfl, p0, rfl⟩ fun d st1 h => ?_
  obtain ⟨a, rfl, hp, rfl⟩ := h
  refine (step a hp).mono fun e st2 hq => ?_
  cases e with
  | normal => obtain ⟨a', h1, h2, h3⟩ := hq; exact ⟨_, h1, _, h3, a', rfl, h2, rfl⟩
  | exit id => exact hq
  | ret => exact hq
  | pan v => exact hq

variable {α : Type} {ks : Option (List Nat)} {S : α → St} {μ : α → Nat} {P : α → Prop} {a : α}
theorem again_exit {id : Nat} (h : Q (.exit id) st) : again m ks S μ P a Q (.exit id) st := h
theorem again_ret (h : Q .ret st) : again m ks S μ P a Q .ret st := h
theorem again_pan {v : AV} (h : Q (.pan v) st) : again m ks S μ P a Q (.pan v) st := h
theorem again_normal (a' : α) (h1 : μ a' < μ a) (h2 : P a') (h3 : tidy m ks st = some (S a')) : again m ks S μ P a Q .normal st := ⟨a', h1, h2, h3⟩
end

/-- How a call ends that answers so. -/
def Ends' (C : Cfg) (f : FuncId) (fn : Func) (m : Nat) (v' : AV) (h' : Heap) : Ex → St → Prop
  | .normal, st => ∃ v, results C.P fn st = some v ∧ finish C f m v st.h = some (v', h')
  | .ret, st => ∃ v, results C.P fn st = some v ∧ finish C f m v st.h = some (v', h')
  | _, _ => False

theorem call_eq {C : Cfg} {f : FuncId} {fn : Func} {c : Code} {args : List AV} {h : Heap} {v' : AV} {h' : Heap} (hf : nth C.P.funcs.toList f = some fn) (hb : fn.body = some c)
    (hw : W C h.length fn.ntmps (C.keep f) c ⟨argsT 0 args, h⟩ (Ends' C f fn h.length v' h')) : Om C f args h = some (.val v', h') := by
  obtain ⟨o, h1, h2, rfl, rfl⟩ := call_of_W (R := fun o h1 => o = .val v' ∧ h1 = h') hf hb (hw.mono fun e st hq => by
    cases e with
    | normal => obtain ⟨v, h1, h2⟩ := hq; exact ⟨v, h1, v', h', h2, rfl, rfl⟩
    | ret => obtain ⟨v, h1, h2⟩ := hq; exact ⟨v, h1, v', h', h2, rfl, rfl⟩
    | exit id => exact hq
    | pan v => exact hq.elim)
  exact h2

/-! ### Data -/

structure Sl (α : Type) where
  nl : Bool
  cl : Bool
  l : List α
def Sl.t {α : Type} (f : α → List Tree) (s : Sl α) : Tree := .sl s.nl s.cl (s.l.map f)

structure Val where
  k : Int
  n : Int
  s : List Nat
  deriving DecidableEq
def Val.c (v : Val) : List Tree := [.int .u8 v.k, .int .i64 v.n, .str v.s]

structure Slot where
  name : List Nat
  kind : Int
def Slot.c (s : Slot) : List Tree := [.str s.name, .int .u8 s.kind]

structure Tpl where
  name : List Nat
  slots : Sl Slot
def Tpl.c (t : Tpl) : List Tree := [.str t.name, t.slots.t Slot.c]

structure Fact where
  id : Int
  tp : Int
  s : Sl Val
def Fact.c (f : Fact) : List Tree := [.int .i64 f.id, .int .i64 f.tp, f.s.t Val.c]

theorem lens_map {α : Type} (f : α → List Tree) (n : Nat) (h : ∀ a, (f a).length = n) (l : List α) : lens n (l.map f) = true := by
  simp [lens, h]

structure Bind where
  name : List Nat
  v : Val
  deriving DecidableEq
def Bind.c (b : Bind) : List Tree := .str b.name :: b.v.c

def intC (n : Int) : List Tree := [.int .i64 n]

structure Node where
  op : Int
  v : Val
  name : List Nat
  kids : Sl Int
  line : Int
  col : Int
def Node.c (x : Node) : List Tree := [.int .u8 x.op, .int .u8 x.v.k, .int .i64 x.v.n, .str x.v.s, .str x.name, x.kids.t intC, .int .i64 x.line, .int .i64 x.col]

structure Test where
  op : Int
  a : Sl Node
  b : Sl Node
  low : Bool
  high : Bool
  kids : Sl Int
  line : Int
  col : Int
def Test.c (x : Test) : List Tree := [.int .u8 x.op, x.a.t Node.c, x.b.t Node.c, .bool x.low, .bool x.high, x.kids.t intC, .int .i64 x.line, .int .i64 x.col]

structure STest where
  slot : List Nat
  test : Sl Test
  line : Int
  col : Int
def STest.c (x : STest) : List Tree := [.str x.slot, x.test.t Test.c, .int .i64 x.line, .int .i64 x.col]

structure Pat where
  name : List Nat
  t : List Nat
  slots : Sl STest
  line : Int
  col : Int
def Pat.c (x : Pat) : List Tree := [.str x.name, .str x.t, x.slots.t STest.c, .int .i64 x.line, .int .i64 x.col]

end Go.Ab
