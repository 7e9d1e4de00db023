/- Each operation of the evaluator does what the model's does: strings, lengths, conversions. -/
import Derived.Test.YtchkgfmmfdineaaGreatAbOps6
import Derived.Laws.BytesArg
import Derived.Laws.IdiomStrings
namespace Go.Ab

theorem lenOf_VR {γ : G} {g : Look} {x : AV} {u : Value} {n : Nat} (hx : lenOf g x = some n) (hv : VR γ g x u) : ∃ a c, u = .slice a n c := by
  unfold lenOf at hx
  split at hx
  · cases hx
    have ht := hv.of_tree
    cases ht
    exact ⟨_, _, rfl⟩
  · rename_i id ver
    cases hv with
    | hs _ _ a m cap ho hh =>
      split at hx
      · rename_i s ver' frz es hg
        split at hx
        · rename_i hver
          cases hx
          obtain ⟨b, s', hb, hd, _⟩ := hh (by rw [cur_arr hg, hver])
          rw [dims_arr hg] at hd; cases hd
          exact ⟨_, _, rfl⟩
        · cases hx
      · rename_i s ver' es hg
        split at hx
        · rename_i hver
          cases hx
          obtain ⟨b, s', hb, hd, _⟩ := hh (by unfold cur; rw [hg]; simp [hver])
          have hdd : dims g id = some (s, es.length) := by unfold dims; rw [hg]
          rw [hdd] at hd; cases hd
          exact ⟨_, _, rfl⟩
        · cases hx
      · cases hx
  · cases hx
    cases hv
    exact ⟨_, _, rfl⟩
  · cases hx

theorem sim_len {P : Program} {γ : G} {g : Look} {w : World} {t ty : TypeId} {ts : List TypeId} {x : List AV} {us : List Value} {v : AV} {p : Patch} (h : HR γ g w) (hx : VRs γ g x us)
    (hl : xLen P g t x = some (.val v, p)) : Good γ g w p v ((Builtin.len_ (t :: ts).toArray ty us.toArray).run P w) := by
  unfold xLen at hl
  split at hl
  · rename_i x
    obtain ⟨u, us', rfl, hu, hr⟩ := hx.cases_cons
    have := hr.nil_inv
    subst this
    have hint : ∀ n : Nat, Good γ g w [] (.t (.int .i64 (.ofNat n))) (.ok (goInt n) w) := fun n => .pure h (.t _ _ (.int _ _))
    split at hl
    · rename_i n e hut
      cases hl
      simp [Builtin.len_, run_und hut]
      exact hint n
    · rename_i s hut
      cases hl
      obtain ⟨rfl, _⟩ := hu.of_tree.str_inv
      simp [Builtin.len_, run_und hut, mkS_size]
      exact hint _
    · rename_i e hut
      split at hl
      · rename_i n hn
        cases hl
        obtain ⟨a, c, rfl⟩ := lenOf_VR hn hu
        simp [Builtin.len_, run_und hut]
        exact hint n
      · cases hl
    · cases hl
  · cases hl

theorem sim_maxmin {P : Program} {γ : G} {g : Look} {w : World} (lt : Bool) : ∀ {xs : List AV} {x : AV} {us : List Value} {u : Value} {v : AV}, HR γ g w → VR γ g x u → VRs γ g xs us → maxmin lt x xs = some v →
    Good γ g w [] v ((us.foldlM (if lt then Builtin.min2 else Builtin.max2) u).run P w)
  | [], x, us, u, v, h, hx, hxs, hm => by
    have := hxs.nil_inv
    subst this
    simp [maxmin] at hm
    subst hm
    exact .pure h hx
  | y :: xs, x, us, u, v, h, hx, hxs, hm => by
    obtain ⟨u', us', rfl, hu, hr⟩ := hxs.cases_cons
    unfold maxmin at hm
    split at hm
    · rename_i heq; cases heq
    · rename_i k a k' b rest heq
      cases heq
      split at hm
      · rename_i hk
        subst hk
        have h1 := hx.of_tree
        have h2 := hu.of_tree
        cases h1; cases h2
        simp only [List.foldlM_cons, Sem.run_bind]
        cases lt with
        | true =>
          have : (Builtin.min2 (.int k a) (.int k b)).run P w = .ok (.int k (if b < a then b else a)) w := rfl
          simp only [if_true, this, Result.andThen_ok]
          exact sim_maxmin true h (.t _ _ (by simpa using TR.int k _)) hr hm
        | false =>
          have : (Builtin.max2 (.int k a) (.int k b)).run P w = .ok (.int k (if b > a then b else a)) w := rfl
          simp only [Bool.false_eq_true, if_false, this, Result.andThen_ok]
          exact sim_maxmin false h (.t _ _ (by simpa using TR.int k _)) hr hm
      · cases hm
    · cases hm

/-! ### Conversions -/

theorem bytesOf_flat : ∀ {es : List (List Tree)} {bs : List Nat}, bytesOf es = some bs → es = bs.map (fun b => [.int .u8 (.ofNat b)]) ∧ ∀ b ∈ bs, b < 256
  | [], bs, h => by simp [bytesOf] at h; subst h; exact ⟨rfl, fun _ hb => by cases hb⟩
  | e :: es, bs, h => by
    unfold bytesOf at h
    split at h
    · rename_i heq; cases heq
    · rename_i n es' heq
      cases heq
      split at h
      · rename_i bs' hn hb
        cases h
        obtain ⟨h1, h2⟩ := bytesOf_flat hb
        refine ⟨by rw [h1]; rfl, fun b hbb => ?_⟩
        rcases List.mem_cons.1 hbb with hbb | hbb
        · subst hbb; simpa using hn
        · exact h2 b hbb
      · cases h
    · cases h

theorem flat_bytes_inv {I : Imm} {bs : List Nat} {vs : List Value} (h : Flat I 1 (bs.map fun b => [Tree.int .u8 (.ofNat b)]) vs) : vs = bs.map fun b : Nat => Value.int .u8 (b : Int) := by
  apply List.ext_getElem?
  intro i
  have hl := h.len
  simp at hl
  by_cases hi : i < bs.length
  · obtain ⟨v, h1, h2, _⟩ := h.val i 0 [.int .u8 (.ofNat bs[i])] (.int .u8 (.ofNat bs[i])) (by simp [hi]) rfl
    cases h2
    simp at h1
    rw [h1]; simp [hi]
  · rw [List.getElem?_eq_none (by omega), List.getElem?_eq_none (by simp; omega)]

theorem foldl_mkS (bs : List Nat) : (bs.map fun b : Nat => (b : Int)).foldl (fun r n => r.push (UInt8.ofNat n.toNat)) ByteArray.empty = mkS bs := by
  rw [foldl_push_bytes]
  apply ByteArray.ext
  simp [mkS, ByteArray.empty, ByteArray.emptyWithCapacity]
  rfl

theorem sim_convert {P : Program} {γ : G} {g : Look} {w : World} {nid : Nat} {src dst : TypeId} {x v : AV} {u : Value} {p : Patch} (h : HR γ g w) (hn : (∃ o, (nid, o) ∈ p) → γ.β nid = none) (hg : (∃ o, (nid, o) ∈ p) → g nid = none)
    (hv : VR γ g x u) (hx : convert P g nid src dst x = some (.val v, p)) : Good γ g w p v ((Go.convert src dst u).run P w) := by
  unfold convert at hx
  split at hx
  · rename_i d k k' n hs hd
    cases hx
    have ht := hv.of_tree
    cases ht
    have : (Go.convert src dst (.int k' n)).run P w = .ok (.int k (k.wrap n)) w := by
      simp [Go.convert, run_und hs, run_und hd, Conv.intToInt]
    rw [this]
    exact .pure h (.t _ _ (.int _ _))
  · rename_i d s hs hd
    cases hx
    obtain ⟨rfl, hb⟩ := hv.of_tree.str_inv
    have : (Go.convert src dst (.string (mkS s))).run P w = .ok (.string (mkS s)) w := by
      simp [Go.convert, run_und hs, run_und hd]
    rw [this]
    exact .pure h (.t _ _ (.mkS hb))
  · rename_i e s hs hd
    split at hx
    · rename_i he
      cases hx
      obtain ⟨rfl, hb⟩ := hv.of_tree.str_inv
      rw [run_bytes_of_string w src dst e (mkS s) (und_eq hs) (und_eq hd) (und_eq he)]
      have hge := grownCap_ge w (mkS s).size 0 e
      rw [mkS_size] at hge ⊢
      have hC : bytesRow (mkS s) (grownCap w s.length 0 e) = (s.map fun b : Nat => Value.int .u8 (b : Int)).toArray ++ Array.replicate (grownCap w s.length 0 e - s.length) (.int .u8 0) := by
        unfold bytesRow; rw [mkS_bytes hb, mkS_size]
      have hlen : s.length = (byteCells s).length := by simp [byteCells]
      have := new_arr (nid := nid) (s := 1) (cap := grownCap w s.length 0 e) (es := byteCells s) (c := bytesRow (mkS s) (grownCap w s.length 0 e)) (ty := e)
        (fr := ((bytesRow (mkS s) (grownCap w s.length 0 e)).size, (bytesRow (mkS s) (grownCap w s.length 0 e)).size + 1)) (hn ⟨_, .head _⟩) (hg ⟨_, .head _⟩) h
        (w' := w.drew.alloc (.cells (bytesRow (mkS s) (grownCap w s.length 0 e)) e ((bytesRow (mkS s) (grownCap w s.length 0 e)).size, (bytesRow (mkS s) (grownCap w s.length 0 e)).size + 1))) rfl
        (fun i hi hh => by omega) (byteCells_len s) (by rw [← hlen]; exact hge) (by rw [hC]; simp; omega)
        ((flat_bytes γ.imm s).cells (byteCells_len s) fun k hk => by
          rw [hC, Array.getElem?_append_left (by simpa [byteCells] using hk)]; simp)
      rw [← hlen] at this
      exact this
    · cases hx
  · rename_i e hs hd hnot
    split at hx
    · rename_i he
      split at hx
      · rename_i es hes
        split at hx
        · rename_i bs hbs
          cases hx
          obtain ⟨rfl, hb⟩ := bytesOf_flat hbs
          obtain ⟨a, cap, vs, rfl, hle, hf, hc⟩ := elems_cells (n := 1) h hes hv (fun e he => by obtain ⟨b, _, rfl⟩ := List.mem_map.1 he; rfl)
          have hvs := flat_bytes_inv hf
          have hgood : Good γ g w [] (.t (.str bs)) (.ok (.string (mkS bs)) w) := .pure h (.t _ _ (.mkS hb))
          cases a with
          | none =>
            have : vs = [] := by
              cases vs with
              | nil => rfl
              | cons v vs => obtain ⟨b, o, hh, _⟩ := hc 0 v rfl; cases hh
            rw [this] at hvs
            have hbs0 : bs = [] := by simpa using hvs.symm
            subst hbs0
            rw [run_convert_bytes_nil w src e (und_eq hs) (und_eq he) _ _ dst (und_eq hd)]
            exact hgood
          | some a =>
            rw [run_convert_bytes_string w src dst e _ _ _ (und_eq hs) (und_eq he) (und_eq hd)]
            have hl := run_loadCells_list (P := P) w a vs (fun j v hj => by
              obtain ⟨b, o, ha, hcc⟩ := hc j v hj
              cases ha
              rw [addr_add]; exact hcc)
            rw [run_bytesToString w a _ cap (bs.map fun b : Nat => (b : Int)) (by
              have e1 : (bs.map fun b => [Tree.int .u8 (.ofNat b)]).length = vs.length := by rw [hvs]; simp
              rw [e1, hl, hvs]; simp), foldl_mkS]
            exact hgood
        · cases hx
      · cases hx
    · cases hx
  · cases hx

/-! ### Ranging over a string -/

theorem sim_range {P : Program} {γ : G} {g : Look} {w : World} {nid : Nat} {t : TypeId} {x v : AV} {u : Value} {p : Patch} (h : HR γ g w) (hn : γ.β nid = none) (hg : g nid = none)
    (hv : VR γ g x u) (hx : xRange P nid t x = some (.val v, p)) : Good γ g w p v ((Instr.range t u).run P w) := by
  unfold xRange at hx
  split at hx
  · rename_i s hu
    cases hx
    obtain ⟨rfl, hb⟩ := hv.of_tree.str_inv
    have hrun : (Instr.range t (.string (mkS s))).run P w = .ok (.pointer (some ⟨w.heap.size, 0, none⟩)) (w.alloc (.stringIter (mkS s) 0)) := by
      simp [Instr.range, run_und hu]
    rw [hrun]
    obtain ⟨h1, h2, h3⟩ := new_block (n := 0) (w' := w.alloc (.stringIter (mkS s) 0)) (o := .siter s 0) (X := .stringIter (mkS s) 0) hn hg h rfl
      ⟨by show (w.heap.push (.stringIter (mkS s) 0))[w.heap.size]? = _; rw [Array.getElem?_push]; simp; rfl, fun o => imm_none_new h o⟩
    refine ⟨_, _, _, rfl, h1, h2, .box nid 0 _ (by simp [G.new]) ?_, h3⟩
    unfold cur; rw [upd_one, if_pos rfl]
  · cases hx

theorem sim_next {P : Program} {γ : G} {g : Look} {w : World} {t : TypeId} {x v : AV} {u : Value} {p : Patch} (h : HR γ g w) (hv : VR γ g x u)
    (hx : xNext g x = some (.val v, p)) : Good γ g w p v ((Instr.next u true t).run P w) := by
  unfold xNext at hx
  split at hx
  · rename_i id
    split at hx
    · rename_i s pos hg
      cases hv with
      | box _ _ b hb hc =>
        obtain ⟨o, ho, hor⟩ := h.obj id b hb
        rw [hg] at ho; cases ho
        obtain ⟨k1, k2⟩ := hor
        have hblt : b < w.heap.size := h.lt hb
        have hobj : (getObj b).run P w = .ok (.stringIter (mkS s) pos) w := by
          unfold getObj; simp only [Sem.run, k1]; rfl
        split at hx
        · rename_i hpos
          cases hx
          have hset : ∀ o, (setObj b o).run P w = .ok () { w with heap := w.heap.setIfInBounds b o } := fun o => by
            unfold setObj; simp only [Sem.run, k1]
          have hsz : pos < (mkS s).size := by rw [mkS_size]; exact hpos
          have hrun : (Instr.next (.pointer (some ⟨b, 0, none⟩)) true t).run P w =
              .ok (.tuple #[.bool true, goInt pos, .int .i32 (Utf8.decode (mkS s) pos).1]) { w with heap := w.heap.setIfInBounds b (.stringIter (mkS s) (pos + (Utf8.decode (mkS s) pos).2)) } := by
            simp only [Instr.next, Sem.run_bind, hobj, Result.andThen_ok, hsz, if_true, hset, Sem.run_pure]
          rw [hrun]
          have hcur : cur (upd g [(id, .siter s (pos + (Utf8.decode (mkS s) pos).2))]) id = cur g id := by unfold cur; rw [upd_one, if_pos rfl, hg]
          have hdim : dims (upd g [(id, .siter s (pos + (Utf8.decode (mkS s) pos).2))]) id = dims g id := by unfold dims; rw [upd_one, if_pos rfl, hg]
          obtain ⟨e, hh, f⟩ := sim_set (w' := { w with heap := w.heap.setIfInBounds b (.stringIter (mkS s) (pos + (Utf8.decode (mkS s) pos).2)) }) (o' := .siter s (pos + (Utf8.decode (mkS s) pos).2)) h hb k2 hcur hdim
            (fun b' hb' => by rw [Array.getElem?_setIfInBounds, if_neg (fun e => hb' e.symm)]) (by simp)
            ⟨by rw [Array.getElem?_setIfInBounds, if_pos rfl, if_pos hblt]; rfl, k2⟩
          refine ⟨_, _, γ, rfl, e, hh, ?_, f⟩
          exact .tup _ [.bool true, goInt pos, .int .i32 (Utf8.decode (mkS s) pos).1] rfl fun i c v hc hv => by
            match i with
            | 0 => simp at hc hv; subst hc; subst hv; exact .t _ _ (.bool _)
            | 1 => simp at hc hv; subst hc; subst hv; exact .t _ _ (.int _ _)
            | 2 => simp at hc hv; subst hc; subst hv; exact .t _ _ (.int _ _)
            | i + 3 => simp at hc
        · rename_i hpos
          cases hx
          have hsz : ¬ pos < (mkS s).size := by rw [mkS_size]; exact hpos
          have hrun : (Instr.next (.pointer (some ⟨b, 0, none⟩)) true t).run P w = .ok (.tuple #[.bool false]) w := by
            simp only [Instr.next, Sem.run_bind, hobj, Result.andThen_ok, hsz, if_false, Sem.run_pure]
          rw [hrun]
          exact .pure h (.tup _ [.bool false] rfl fun i c v hc hv => by
            match i with
            | 0 => simp at hc hv; subst hc; subst hv; exact .t _ _ (.bool _)
            | i + 1 => simp at hc)
    · cases hx
  · cases hx

end Go.Ab
