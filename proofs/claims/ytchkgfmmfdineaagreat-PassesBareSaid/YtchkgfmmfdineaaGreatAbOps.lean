/- Each operation of the evaluator does what the model's does: memory, structs, arithmetic. -/
import Derived.Test.YtchkgfmmfdineaaGreatAbRel
import Derived.Laws.Cells
import Derived.Laws.IdiomCopy
import Derived.Laws.AppendOwn
import Derived.Laws.MakeOwn
namespace Go.Ab

/-! ### The frame -/

structure Fr (γ : G) (w : World) (γ' : G) (w' : World) : Prop where
  size : w.heap.size ≤ w'.heap.size
  keep : ∀ b, b < w.heap.size → (∀ id, γ.β id ≠ some b) → w'.heap[b]? = w.heap[b]?
  rng : ∀ id b, γ'.β id = some b → w.heap.size ≤ b ∨ ∃ i, γ.β i = some b
  immr : ∀ b o v, γ'.imm b o = some v → γ.imm b o = some v ∨ w.heap.size ≤ b ∨ ∃ i, γ.β i = some b
  same : w'.os = w.os ∧ w'.output = w.output

theorem Fr.refl (γ : G) (w : World) : Fr γ w γ w := ⟨Nat.le_refl _, fun _ _ _ => rfl, fun id _ h => .inr ⟨id, h⟩, fun _ _ _ h => .inl h, rfl, rfl⟩

theorem Fr.trans {γ₁ γ₂ γ₃ : G} {w₁ w₂ w₃ : World} (h : Fr γ₁ w₁ γ₂ w₂) (h' : Fr γ₂ w₂ γ₃ w₃) : Fr γ₁ w₁ γ₃ w₃ := by
  refine ⟨Nat.le_trans h.size h'.size, fun b hb hn => ?_, fun id b hb => ?_, fun b o v hv => ?_, h'.same.1.trans h.same.1, h'.same.2.trans h.same.2⟩
  · have h2 : ∀ id, γ₂.β id ≠ some b := fun id hid => by
      rcases h.rng id b hid with h3 | ⟨i, h3⟩
      · omega
      · exact hn i h3
    rw [h'.keep b (by have := h.size; omega) h2, h.keep b hb hn]
  · rcases h'.rng id b hb with h3 | ⟨i, h3⟩
    · exact .inl (by have := h.size; omega)
    · exact h.rng i b h3
  · rcases h'.immr b o v hv with h3 | h3 | ⟨i, h3⟩
    · exact h.immr b o v h3
    · exact .inr (.inl (by have := h.size; omega))
    · rcases h.rng i b h3 with h4 | h4
      · exact .inr (.inl h4)
      · exact .inr (.inr h4)

/-- What an operation has come to. -/
def Good (γ : G) (g : Look) (w : World) (p : Patch) (v : AV) (r : Result Value) : Prop :=
  ∃ u w' γ', r = .ok u w' ∧ Ext γ g γ' (upd g p) ∧ HR γ' (upd g p) w' ∧ VR γ' (upd g p) v u ∧ Fr γ w γ' w'

theorem Good.pure {γ : G} {g : Look} {w : World} {v : AV} {u : Value} (h : HR γ g w) (hv : VR γ g v u) : Good γ g w [] v (.ok u w) :=
  ⟨u, w, γ, rfl, .refl _ _, h, hv, .refl _ _⟩

/-! ### Types -/

theorem info_eq {P : Program} {t : TypeId} {i : TypeInfo} (h : info P t = some i) : P.info? t = some i := by
  unfold info at h
  rw [nth_eq] at h
  have ht : t < P.types.size := by
    rcases Nat.lt_or_ge t P.types.toList.length with h' | h'
    · simpa using h'
    · rw [List.getElem?_eq_none h'] at h; cases h
  unfold Tables.info?
  rw [if_pos ht]
  simpa using h

theorem und_eq {P : Program} {t : TypeId} {d : TypeDesc} (h : und P t = some d) : P.underlying t = some d := by
  unfold und at h
  split at h
  · rename_i i hi
    have h1 := info_eq hi
    split at h
    · rename_i nm u hd
      split at h
      · rename_i j hj
        have h2 := info_eq hj
        unfold Program.underlying
        rw [h1]
        cases i
        simp only at hd
        subst hd
        simp [h2]
        simpa using h
      · cases h
    · rename_i d' hd
      unfold Program.underlying
      rw [h1]
      cases i
      simp only at h hd
      split
      · rename_i heq
        simp at heq
        exact absurd heq.1 (by intro e; exact hd _ _ e)
      · rename_i heq
        simp at heq; subst heq; simpa using h
      · rename_i heq; cases heq
  · cases h

theorem sizeOf_eq {P : Program} {t : TypeId} {n : Nat} (h : sizeOf? P t = some n) : ∃ i, P.info? t = some i ∧ i.size = n := by
  unfold sizeOf? at h
  split at h
  · rename_i i hi; exact ⟨i, info_eq hi, by simpa using h⟩
  · cases h

theorem run_und {P : Program} {w : World} {t : TypeId} {d : TypeDesc} (h : und P t = some d) : (underlying t).run P w = .ok d w := by
  simp [underlying, und_eq h]

theorem run_size {P : Program} {w : World} {t : TypeId} {n : Nat} (h : sizeOf? P t = some n) : (sizeOf t).run P w = .ok n w := by
  obtain ⟨i, hi, hn⟩ := sizeOf_eq h
  simp [sizeOf, typeInfo, hi, hn]

theorem run_isAgg {P : Program} {w : World} {t : TypeId} {b : Bool} (h : agg? P t = some b) : (isAgg t).run P w = .ok b w := by
  unfold agg? at h
  unfold isAgg
  cases hu : und P t with
  | none => rw [hu] at h; simp at h
  | some d => rw [hu] at h; simp only [Sem.run_bind, run_und hu, Result.andThen_ok]; cases d <;> simp_all

theorem addr_add (b o n : Nat) : (⟨b, o, none⟩ : Addr).add n = ⟨b, o + n, none⟩ := by
  unfold Addr.add; split <;> simp_all

/-! ### Values and their cells -/

theorem VRs.of_trees {γ : G} {g : Look} {ts : List Tree} {vs : List Value} (hl : ts.length = vs.length)
    (h : ∀ (i : Nat) c v, ts[i]? = some c → vs[i]? = some v → TR γ.imm c v) : VRs γ g (ts.map .t) vs := by
  refine ⟨by simpa using hl, fun i x v hx hv => ?_⟩
  rw [List.getElem?_map] at hx
  cases hc : ts[i]? with
  | none => rw [hc] at hx; cases hx
  | some c => rw [hc] at hx; cases hx; exact .t _ _ (h i c v hc hv)

theorem trees_some : ∀ {cs : List AV} {ts : List Tree}, trees cs = some ts → cs = ts.map .t
  | [], ts, h => by simp [trees] at h; subst h; rfl
  | .t x :: cs, ts, h => by
    simp only [trees] at h
    split at h
    · cases h
    · rename_i xs hxs
      have := trees_some hxs
      cases h; subst this; rfl
  | .nov :: _, _, h | .unk :: _, _, h | .box _ _ :: _, _, h | .el _ _ _ _ :: _, _, h | .rp _ :: _, _, h | .hs _ _ :: _, _, h
  | .hsub _ _ _ _ :: _, _, h | .agg _ :: _, _, h | .fn _ _ _ :: _, _, h | .tup _ :: _, _, h => by simp [trees] at h

theorem VR.of_tree {γ : G} {g : Look} {x : Tree} {v : Value} (h : VR γ g (.t x) v) : TR γ.imm x v := by cases h; assumption

theorem VRs.trees {γ : G} {g : Look} {ts : List Tree} {vs : List Value} (h : VRs γ g (ts.map .t) vs) :
    ts.length = vs.length ∧ ∀ (i : Nat) c v, ts[i]? = some c → vs[i]? = some v → TR γ.imm c v :=
  ⟨by simpa using h.1, fun i c v hc hv => (h.2 i (.t c) v (by simp [hc]) hv).of_tree⟩

theorem VR.mkAgg {γ : G} {g : Look} {cs : List AV} {vs : List Value} (h : VRs γ g cs vs) : VR γ g (mkAgg cs) (.agg vs.toArray) := by
  unfold Ab.mkAgg
  split
  · rename_i ts hts
    have := trees_some hts
    subst this
    obtain ⟨h1, h2⟩ := h.trees
    exact .t _ _ (.agg ts vs h1 h2)
  · exact .agg cs vs h.1 h.2

theorem aggCells_VR {γ : G} {g : Look} {x : AV} {v : Value} {cs : List AV} (h : aggCells x = some cs) (hv : VR γ g x v) :
    ∃ vs, v = .agg vs.toArray ∧ VRs γ g cs vs := by
  unfold aggCells at h
  split at h
  · rename_i ts
    cases h
    cases hv with
    | t _ _ ht => cases ht with
      | agg cs vs hl h => exact ⟨vs, rfl, .of_trees hl h⟩
  · rename_i cs'
    cases h
    cases hv with
    | agg cs vs hl h => exact ⟨vs, rfl, hl, h⟩
  · cases h

theorem cellsOf_VR {γ : G} {g : Look} {x : AV} {v : Value} {cs : List AV} (h : cellsOf x = some cs) (hv : VR γ g x v) :
    VRs γ g cs v.cells.toList := by
  unfold cellsOf at h
  split at h
  · rename_i ts
    cases h
    cases hv with
    | t _ _ ht => cases ht with
      | agg cs vs hl h => exact .of_trees hl h
  · rename_i cs'
    cases h
    cases hv with
    | agg cs vs hl h => exact ⟨hl, h⟩
  · cases h
  · cases h
  · cases h
  · rename_i h1 h2 h3 h4 h5
    cases h
    have key : v.cells = #[v] := by
      cases hv with
      | t x v ht => cases ht <;> first | rfl | exact absurd rfl (h1 _)
      | agg => exact absurd rfl (h2 _)
      | nov => exact absurd rfl h4
      | unk => exact absurd rfl h3
      | tup => exact absurd rfl (h5 _)
      | _ => rfl
    rw [key]
    exact .cons hv .nil

/-! ### Objects as memory goes on -/

theorem cell_of_heap {w w' : World} {b o : Nat} (h : w'.heap[b]? = w.heap[b]?) : w'.cell? ⟨b, o, none⟩ = w.cell? ⟨b, o, none⟩ := by
  unfold World.cell?; simp only [h]

theorem frozen_of_heap {w w' : World} {b o : Nat} (h : w'.heap[b]? = w.heap[b]?) : w'.frozen? ⟨b, o, none⟩ = w.frozen? ⟨b, o, none⟩ := by
  unfold World.frozen?; simp only [h]

theorem lt_of_cell {w : World} {b o : Nat} {v : Value} (h : w.cell? ⟨b, o, none⟩ = some v) : b < w.heap.size := by
  rcases Nat.lt_or_ge b w.heap.size with h' | h'
  · exact h'
  · unfold World.cell? at h; simp [Array.getElem?_eq_none h'] at h

theorem OR.mono {γ γ' : G} {g g' : Look} {w w' : World} {id b : Nat} {o : Obj} (e : Ext γ g γ' g') (hb : w'.heap[b]? = w.heap[b]?) (hs : γ'.sz id = γ.sz id)
    (hi : ∀ i, γ'.imm b i = γ.imm b i) (h : OR γ g w id b o) : OR γ' g' w' id b o := by
  cases o with
  | box cs =>
    obtain ⟨⟨c, ty, fr, h1, h2, h3⟩, h4⟩ := h
    exact ⟨⟨c, ty, fr, hb.trans h1, h2, h3.mono e⟩, fun i => (hi i).trans (h4 i)⟩
  | arr s ver frz es =>
    obtain ⟨⟨c, ty, fr, h1, h2, h3, h4, h5, h6, h7⟩, h8⟩ := h
    exact ⟨⟨c, ty, fr, hb.trans h1, h2, h3.trans hs.symm, h4, h5, fun i j x t v a1 a2 a3 => ⟨(h6 i j x t v a1 a2 a3).1.mono e.imm, (h6 i j x t v a1 a2 a3).2⟩,
      fun hf i j x t a1 a2 => (hi _).trans (h7 hf i j x t a1 a2)⟩, fun hf i => (hi i).trans (h8 hf i)⟩
  | marr s ver es =>
    obtain ⟨⟨c, ty, fr, h1, h2, h3, h4, h5, h6⟩, h8⟩ := h
    exact ⟨⟨c, ty, fr, hb.trans h1, h2, h3.trans hs.symm, h4, h5, fun i j x t v a1 a2 a3 => (h6 i j x t v a1 a2 a3).mono e⟩, fun i => (hi i).trans (h8 i)⟩
  | siter s pos => exact ⟨hb.trans h.1, fun i => (hi i).trans (h.2 i)⟩
  | dead => exact h.elim

theorem upd_one (g : Look) (id : Nat) (o : Obj) (i : Nat) : upd g [(id, o)] i = if i = id then some o else g i := by
  simp only [upd]
  cases h : Nat.beq i id with
  | true => have := Nat.eq_of_beq_eq_true h; simp [this]
  | false => have := Nat.ne_of_beq_eq_false h; simp [this]

def G.new (γ : G) (nid b n : Nat) : G :=
  { β := fun i => if i = nid then some b else γ.β i, sz := fun i => if i = nid then n else γ.sz i, imm := γ.imm }

theorem cur_upd {g : Look} {id : Nat} {o : Obj} {i : Nat} (h : i ≠ id) : cur (upd g [(id, o)]) i = cur g i := by
  unfold cur; rw [upd_one, if_neg h]

theorem dims_upd {g : Look} {id : Nat} {o : Obj} {i : Nat} (h : i ≠ id) : dims (upd g [(id, o)]) i = dims g i := by
  unfold dims; rw [upd_one, if_neg h]

theorem cur_none_of {g : Look} {id : Nat} (h : g id = none) : cur g id = none := by unfold cur; rw [h]

theorem Ext.new {γ : G} {g : Look} {nid : Nat} (b n : Nat) (o : Obj) (hn : γ.β nid = none) (hg : g nid = none) : Ext γ g (γ.new nid b n) (upd g [(nid, o)]) := by
  refine ⟨.refl _, fun id c hb hc => ?_, fun id c hc => ?_⟩
  · have hne : id ≠ nid := fun e => by rw [e, hn] at hb; cases hb
    exact ⟨by simp [G.new, hne, hb], by rw [cur_upd hne]; exact hc⟩
  · have hne : id ≠ nid := fun e => by rw [e, cur_none_of hg] at hc; cases hc
    exact ⟨c, by rw [cur_upd hne]; exact hc, Nat.le_refl _, fun _ => ⟨by simp [G.new, hne], by simp [G.new, hne], dims_upd hne⟩⟩

theorem new_block {γ : G} {g : Look} {w w' : World} {nid n : Nat} {o : Obj} {X : Go.Obj} (hn : γ.β nid = none) (hg : g nid = none) (h : HR γ g w)
    (hw : w'.heap = w.heap.push X) (ho : OR (γ.new nid w.heap.size n) (upd g [(nid, o)]) w' nid w.heap.size o) (hso : w'.os = w.os ∧ w'.output = w.output := by exact ⟨rfl, rfl⟩) :
    Ext γ g (γ.new nid w.heap.size n) (upd g [(nid, o)]) ∧ HR (γ.new nid w.heap.size n) (upd g [(nid, o)]) w' ∧ Fr γ w (γ.new nid w.heap.size n) w' := by
  have e := Ext.new w.heap.size n o hn hg
  have hold : ∀ b, b < w.heap.size → w'.heap[b]? = w.heap[b]? := fun b hb => by
    rw [hw, Array.getElem?_push]; simp [Nat.ne_of_lt hb]
  refine ⟨e, ⟨fun id b hb => ?_, fun id id' b hb hb' => ?_, fun b i v hv => ?_⟩, ⟨by rw [hw]; simp, fun b hb _ => hold b hb, fun id b hb => ?_, fun b i v hv => .inl hv, hso⟩⟩
  · by_cases hid : id = nid
    · subst hid
      simp [G.new] at hb; subst hb
      exact ⟨o, by rw [upd_one, if_pos rfl], ho⟩
    · simp [G.new, hid] at hb
      obtain ⟨x, hx, hor⟩ := h.obj id b hb
      refine ⟨x, by rw [upd_one, if_neg hid]; exact hx, hor.mono e (hold b hor.lt) (by simp [G.new, hid]) (fun _ => rfl)⟩
  · by_cases hid : id = nid <;> by_cases hid' : id' = nid
    · rw [hid, hid']
    · simp [G.new, hid] at hb; simp [G.new, hid'] at hb'
      subst hb
      have := h.lt hb'; omega
    · simp [G.new, hid'] at hb'; simp [G.new, hid] at hb
      subst hb'
      have := h.lt hb; omega
    · simp [G.new, hid] at hb; simp [G.new, hid'] at hb'
      exact h.inj id id' b hb hb'
  · have hc := h.imm b i v hv
    rw [cell_of_heap (hold b (lt_of_cell hc))]; exact hc
  · by_cases hid : id = nid
    · simp [G.new, hid] at hb; exact .inl (by omega)
    · simp [G.new, hid] at hb; exact .inr ⟨id, hb⟩

theorem imm_none_new {γ : G} {g : Look} {w : World} (h : HR γ g w) (o : Nat) : γ.imm w.heap.size o = none := by
  cases hi : γ.imm w.heap.size o with
  | none => rfl
  | some v => have := lt_of_cell (h.imm _ _ _ hi); omega

theorem unfrozen_zero (n : Nat) : unfrozen (0, 0) n := fun i _ h => by simp at h

/-- A new variable. -/
theorem new_box {γ : G} {g : Look} {w w' : World} {nid : Nat} {cs : List AV} {c : Array Value} {ty : TypeId} (hn : γ.β nid = none) (hg : g nid = none) (h : HR γ g w)
    (hw : w'.heap = w.heap.push (.cells c ty)) (hc : VRs γ g cs c.toList) (hso : w'.os = w.os ∧ w'.output = w.output := by exact ⟨rfl, rfl⟩) :
    Good γ g w [(nid, .box cs)] (.box nid 0) (.ok (.pointer (some ⟨w.heap.size, 0, none⟩)) w') := by
  have e := Ext.new w.heap.size 0 (.box cs) hn hg
  obtain ⟨h1, h2, h3⟩ := new_block (n := 0) (w' := w') (o := .box cs) hn hg h hw
    ⟨⟨c, ty, (0, 0), by rw [hw, Array.getElem?_push]; simp, unfrozen_zero _, hc.mono e⟩, fun o => imm_none_new h o⟩ hso
  refine ⟨_, w', _, rfl, h1, h2, .box nid 0 _ (by simp [G.new]) ?_, h3⟩
  unfold cur; rw [upd_one, if_pos rfl]

theorem new_arr {γ : G} {g : Look} {w w' : World} {nid s cap : Nat} {es : List (List Tree)} {c : Array Value} {ty : TypeId} {fr : Nat × Nat} (hn : γ.β nid = none) (hg : g nid = none)
    (h : HR γ g w) (hw : w'.heap = w.heap.push (.cells c ty fr)) (hfr : unfrozen fr c.size) (hl : ∀ e ∈ es, e.length = s) (hle : es.length ≤ cap) (hsz : c.size = cap * s)
    (hc : ∀ (i j : Nat) e t v, es[i]? = some e → e[j]? = some t → c[i * s + j]? = some v → TR γ.imm t v ∧ v.oneCell' = true) (hso : w'.os = w.os ∧ w'.output = w.output := by exact ⟨rfl, rfl⟩) :
    Good γ g w [(nid, .arr s 0 false es)] (.hs nid 0) (.ok (.slice (some ⟨w.heap.size, 0, none⟩) es.length cap) w') := by
  obtain ⟨h1, h2, h3⟩ := new_block (n := c.size) (w' := w') (o := .arr s 0 false es) hn hg h hw
    ⟨⟨c, ty, fr, by rw [hw, Array.getElem?_push]; simp, hfr, by simp [G.new], by rw [hsz]; exact Nat.mul_le_mul_right s hle, hl, hc, fun hf => by cases hf⟩, fun _ o => imm_none_new h o⟩ hso
  have hcur : cur (upd g [(nid, .arr s 0 false es)]) nid = some 0 := by unfold cur; rw [upd_one, if_pos rfl]
  refine ⟨_, w', _, rfl, h1, h2, .hs nid 0 _ _ _ ⟨0, hcur, Nat.le_refl _⟩ fun _ => ⟨w.heap.size, s, by simp [G.new], ?_, rfl, hle, by simp [G.new]; omega⟩, h3⟩
  unfold dims; rw [upd_one, if_pos rfl]

theorem new_marr {γ : G} {g : Look} {w w' : World} {nid s cap : Nat} {es : List (List AV)} {c : Array Value} {ty : TypeId} (hn : γ.β nid = none) (hg : g nid = none)
    (h : HR γ g w) (hw : w'.heap = w.heap.push (.cells c ty)) (hl : ∀ e ∈ es, e.length = s) (hle : es.length ≤ cap) (hsz : c.size = cap * s)
    (hc : ∀ (i j : Nat) e t v, es[i]? = some e → e[j]? = some t → c[i * s + j]? = some v → VR γ g t v) (hso : w'.os = w.os ∧ w'.output = w.output := by exact ⟨rfl, rfl⟩) :
    Good γ g w [(nid, .marr s 0 es)] (.hs nid 0) (.ok (.slice (some ⟨w.heap.size, 0, none⟩) es.length cap) w') := by
  have e := Ext.new w.heap.size c.size (.marr s 0 es) hn hg
  obtain ⟨h1, h2, h3⟩ := new_block (n := c.size) (w' := w') (o := .marr s 0 es) hn hg h hw
    ⟨⟨c, ty, (0, 0), by rw [hw, Array.getElem?_push]; simp, unfrozen_zero _, by simp [G.new], by rw [hsz]; exact Nat.mul_le_mul_right s hle, hl,
      fun i j x t v a1 a2 a3 => (hc i j x t v a1 a2 a3).mono e⟩, fun o => imm_none_new h o⟩ hso
  have hcur : cur (upd g [(nid, .marr s 0 es)]) nid = some 0 := by unfold cur; rw [upd_one, if_pos rfl]
  refine ⟨_, w', _, rfl, h1, h2, .hs nid 0 _ _ _ ⟨0, hcur, Nat.le_refl _⟩ fun _ => ⟨w.heap.size, s, by simp [G.new], ?_, rfl, hle, by simp [G.new]; omega⟩, h3⟩
  unfold dims; rw [upd_one, if_pos rfl]

/-! ### Constants -/

theorem TR.bytes (I : Imm) (s : ByteArray) : TR I (.str (s.data.toList.map UInt8.toNat)) (.string s) := by
  have h := TR.str (I := I) (s.data.toList.map UInt8.toNat) (fun b hb => by
    obtain ⟨c, _, rfl⟩ := List.mem_map.1 hb; exact c.toNat_lt)
  have e : ((s.data.toList.map UInt8.toNat).map UInt8.ofNat).toArray = s.data := by
    rw [List.map_map]
    have : (UInt8.ofNat ∘ UInt8.toNat) = id := by funext c; simp
    rw [this]; simp
  rw [e] at h
  exact h

theorem lit1_TR {I : Imm} {v : Value} {x : Tree} (h : lit1 v = some x) : TR I x v := by
  unfold lit1 at h
  split at h <;> first | (cases h; done) | skip
  · cases h; exact .bool _
  · cases h; exact .int _ _
  · cases h; exact .bytes I _
  · cases h; exact .nilptr
  · cases h
    exact .sl true true [] none 0 0 (fun _ _ => undef) (fun _ => ⟨rfl, rfl, rfl⟩) (fun hh => by cases hh) (fun _ he => by simp at he) (fun _ _ _ _ he => by simp at he) (Nat.le_refl _) (fun _ => rfl) (fun _ _ _ _ he => by simp at he)
  · cases h; exact .nilmap
  · split at h
    · rename_i a b hab
      cases h
      simp at hab
      obtain ⟨rfl, rfl⟩ := hab
      exact .fn _
    · cases h
  · cases h; exact .nilfn
  · cases h; exact .nilifc

theorem lits_TR {I : Imm} : ∀ {vs : List Value} {xs : List Tree}, lits vs = some xs → xs.length = vs.length ∧ ∀ (i : Nat) c v, xs[i]? = some c → vs[i]? = some v → TR I c v
  | [], xs, h => by simp [lits] at h; subst h; exact ⟨rfl, fun _ _ _ hc => by simp at hc⟩
  | v :: vs, xs, h => by
    simp only [lits] at h
    split at h
    · cases h
    · rename_i x hx
      split at h
      · cases h
      · rename_i xs' hxs
        cases h
        obtain ⟨h1, h2⟩ := lits_TR (I := I) hxs
        refine ⟨by simp [h1], fun i c u hc hu => ?_⟩
        cases i with
        | zero => simp at hc hu; subst hc; subst hu; exact lit1_TR hx
        | succ i => exact h2 i c u (by simpa using hc) (by simpa using hu)

theorem lit_VR {γ : G} {g : Look} (v : Value) : VR γ g (lit v) v := by
  unfold lit
  split
  · rename_i cs
    split
    · rename_i ts hts
      obtain ⟨h1, h2⟩ := lits_TR (I := γ.imm) hts
      exact .t _ _ (by have := TR.agg ts cs.toList h1 h2; simpa using this)
    · exact .unk _
  · rename_i v' hv
    split
    · rename_i x hx; exact .t _ _ (lit1_TR hx)
    · exact .unk _

/-- The temporaries. -/
def ER (γ : G) (g : Look) (T : Env) (a : Act) : Prop := ∀ t, VR γ g (get T t) (a.tmps.getD t undef)

theorem operand_VR {γ : G} {g : Look} {T : Env} {a : Act} (h : ER γ g T a) (x : Operand) : VR γ g (operand T x) (a.eval x) := by
  cases x with
  | tmp t => exact h t
  | const v => exact lit_VR v
  | global gl => exact .unk _
  | func f => exact .t _ _ (.fn f)

theorem zeroCells_VR {P : Program} {γ : G} {g : Look} {t : TypeId} {cs : List AV} (h : zeroCells P t = some cs) :
    ∃ i z, P.info? t = some i ∧ i.zero = some z ∧ VRs γ g cs z.cells.toList := by
  unfold zeroCells at h
  split at h
  · rename_i i hi
    split at h
    · rename_i z hz
      have hv := lit_VR (γ := γ) (g := g) z
      refine ⟨i, z, info_eq hi, hz, ?_⟩
      split at h
      · rename_i ts hl
        rw [hl] at hv
        cases h
        exact cellsOf_VR (x := .t (.agg ts)) rfl hv
      · rename_i x hx hl
        rw [hl] at hv
        cases h
        refine cellsOf_VR (x := .t x) ?_ hv
        unfold cellsOf
        split <;> first | rfl | (rename_i heq; cases heq; done) | (rename_i heq; cases heq; exact absurd rfl (hx _))
      · cases h
    · cases h
  · cases h

theorem run_zero {P : Program} {w : World} {t : TypeId} {i : TypeInfo} {z : Value} (hi : P.info? t = some i) (hz : i.zero = some z) : (zeroValue t).run P w = .ok z w := by
  simp [zeroValue, typeInfo, hi, hz]

theorem sim_alloc {P : Program} {γ : G} {g : Look} {w : World} {nid : Nat} {t : TypeId} {v : AV} {p : Patch} (h : HR γ g w) (hn : γ.β nid = none) (hg : g nid = none)
    (hx : xAlloc P nid t = some (.val v, p)) : Good γ g w p v ((Instr.alloc t true (.tuple #[])).run P w) := by
  unfold xAlloc at hx
  split at hx
  · rename_i cs hcs
    cases hx
    obtain ⟨i, z, hi, hz, hv⟩ := zeroCells_VR (γ := γ) (g := g) hcs
    simp only [Instr.alloc, Sem.run_bind, run_zero hi hz, Result.andThen_ok, newVar, newRow, run_newObj, Sem.run_pure]
    exact new_box (ty := t) hn hg h rfl hv
  · cases hx

theorem sim_box {P : Program} {γ : G} {g : Look} {w : World} {nid : Nat} {t : TypeId} {x v : AV} {u : Value} {p : Patch} (h : HR γ g w) (hn : γ.β nid = none) (hg : g nid = none)
    (hv : VR γ g x u) (hx : xBox nid x = some (.val v, p)) : Good γ g w p v ((Instr.box t u).run P w) := by
  unfold xBox at hx
  split at hx
  · rename_i cs hcs
    cases hx
    simp only [Instr.box, newVar, newRow, Sem.run_bind, run_newObj, Result.andThen_ok, Sem.run_pure]
    exact new_box (ty := t) hn hg h rfl (cellsOf_VR hcs hv)
  · cases hx

/-! ### Loads -/

theorem cell_cells {w : World} {b o : Nat} {c : Array Value} {ty : TypeId} {fr : Nat × Nat} (h : w.heap[b]? = some (.cells c ty fr)) : w.cell? ⟨b, o, none⟩ = c[o]? := by
  unfold World.cell?; simp [h]

theorem frozen_cells {w : World} {b o : Nat} {c : Array Value} {ty : TypeId} {fr : Nat × Nat} (h : w.heap[b]? = some (.cells c ty fr)) (hu : unfrozen fr c.size) (ho : o < c.size) :
    w.frozen? ⟨b, o, none⟩ = false := by
  unfold World.frozen?; simp only [h]
  have := hu o ho
  obtain ⟨lo, hi⟩ := fr
  simp at this ⊢
  exact this

theorem mul_lt_of {i n s k : Nat} (h : i < n) (hk : k ≤ s) : i * s + k ≤ n * s := by
  have : (i + 1) * s ≤ n * s := Nat.mul_le_mul_right s h
  rw [Nat.add_mul] at this
  omega

theorem getElem_lt {α : Type} {l : List α} {i : Nat} {x : α} (h : l[i]? = some x) : i < l.length := by
  rcases Nat.lt_or_ge i l.length with h' | h'
  · exact h'
  · rw [List.getElem?_eq_none h'] at h; cases h

theorem loadCells_VR {γ : G} {g : Look} {w : World} {n : Nat} {a : AV} {u : Value} {cs : List AV} (h : HR γ g w) (hx : loadCells g n a = some cs) (hv : VR γ g a u) :
    ∃ b o vs, u = .pointer (some ⟨b, o, none⟩) ∧ vs.length = n ∧ VRs γ g cs vs ∧ ∀ (j : Nat) v, vs[j]? = some v → w.cell? ⟨b, o + j, none⟩ = some v := by
  unfold loadCells at hx
  split at hx
  · rename_i id off
    split at hx
    · rename_i cells hg
      cases hv with
      | box _ _ b hb hc =>
        obtain ⟨o, ho, hor⟩ := h.obj id b hb
        rw [hg] at ho; cases ho
        obtain ⟨⟨c, ty, fr, h1, h2, h3⟩, _⟩ := hor
        have hl := cut_some hx
        have hlen := h3.1
        simp at hlen
        refine ⟨b, off, (c.toList.drop off).take n, rfl, by simp; omega, ⟨by rw [cut_length hx]; simp; omega, fun i x v hxi hvi => ?_⟩, fun j v hj => ?_⟩
        · have hi : i < n := by have := getElem_lt hxi; rw [cut_length hx] at this; exact this
          rw [cut_get hx hi] at hxi
          rw [List.getElem?_take_of_lt hi, List.getElem?_drop] at hvi
          exact h3.2 _ _ _ hxi hvi
        · have hi : j < n := by have := getElem_lt hj; simp at this; omega
          rw [List.getElem?_take_of_lt hi, List.getElem?_drop] at hj
          rw [cell_cells h1]; simpa using hj
    · cases hx
  · rename_i id ver i off
    split at hx
    · rename_i s ver' frz es hg
      split at hx
      · rename_i hver
        split at hx
        · rename_i e he
          split at hx
          · rename_i ts hts
            cases hx
            cases hv with
            | el _ _ _ _ ad ho hh =>
              have hcur : cur g id = some ver := by unfold cur; rw [hg]; simp [hver]
              obtain ⟨b, s', n', hb, hd, rfl⟩ := hh hcur
              have hds : s = s' := by unfold dims at hd; rw [hg] at hd; simp at hd; exact hd.1
              subst hds
              obtain ⟨o, ho', hor⟩ := h.obj id b hb
              rw [hg] at ho'; cases ho'
              obtain ⟨⟨c, ty, fr, h1, h2, h3, h4, h5, h6, h7⟩, _⟩ := hor
              rw [nth_eq] at he
              have hil := getElem_lt he
              have hel := h5 e (List.mem_of_getElem? he)
              have hl := cut_some hts
              have hle := mul_lt_of hil (k := off + n) (s := s) (by omega)
              refine ⟨b, i * s + off, (c.toList.drop (i * s + off)).take n, rfl, by simp; omega, ⟨by rw [List.length_map, cut_length hts]; simp; omega, fun k x v hxi hvi => ?_⟩, fun j v hj => ?_⟩
              · have hk : k < n := by have := getElem_lt hxi; rw [List.length_map, cut_length hts] at this; exact this
                rw [List.getElem?_map, cut_get hts hk] at hxi
                rw [List.getElem?_take_of_lt hk, List.getElem?_drop] at hvi
                cases hc : e[off + k]? with
                | none => rw [hc] at hxi; cases hxi
                | some t =>
                  rw [hc] at hxi; cases hxi
                  exact .t _ _ (h6 i (off + k) e t v he hc (by rw [← Nat.add_assoc]; simpa using hvi)).1
              · have hi : j < n := by have := getElem_lt hj; simp at this; omega
                rw [List.getElem?_take_of_lt hi, List.getElem?_drop] at hj
                rw [cell_cells h1]; simpa using hj
          · cases hx
        · cases hx
      · cases hx
    · rename_i s ver' es hg
      split at hx
      · rename_i hver
        split at hx
        · rename_i e he
          cases hv with
          | el _ _ _ _ ad ho hh =>
            have hcur : cur g id = some ver := by unfold cur; rw [hg]; simp [hver]
            obtain ⟨b, s', n', hb, hd, rfl⟩ := hh hcur
            have hds : s = s' := by unfold dims at hd; rw [hg] at hd; simp at hd; exact hd.1
            subst hds
            obtain ⟨o, ho', hor⟩ := h.obj id b hb
            rw [hg] at ho'; cases ho'
            obtain ⟨⟨c, ty, fr, h1, h2, h3, h4, h5, h6⟩, _⟩ := hor
            rw [nth_eq] at he
            have hil := getElem_lt he
            have hel := h5 e (List.mem_of_getElem? he)
            have hl := cut_some hx
            have hle := mul_lt_of hil (k := off + n) (s := s) (by omega)
            refine ⟨b, i * s + off, (c.toList.drop (i * s + off)).take n, rfl, by simp; omega, ⟨by rw [cut_length hx]; simp; omega, fun k x v hxi hvi => ?_⟩, fun j v hj => ?_⟩
            · have hk : k < n := by have := getElem_lt hxi; rw [cut_length hx] at this; exact this
              rw [cut_get hx hk] at hxi
              rw [List.getElem?_take_of_lt hk, List.getElem?_drop] at hvi
              exact h6 i (off + k) e x v he hxi (by rw [← Nat.add_assoc]; simpa using hvi)
            · have hi : j < n := by have := getElem_lt hj; simp at this; omega
              rw [List.getElem?_take_of_lt hi, List.getElem?_drop] at hj
              rw [cell_cells h1]; simpa using hj
        · cases hx
      · cases hx
    · cases hx
  · rename_i ts
    split at hx
    · rename_i ts' hts
      cases hx
      cases hv with
      | rp _ b o val h1 h2 =>
        have hl := cut_some hts
        refine ⟨b, o, (List.range n).map val, rfl, by simp, ⟨by rw [List.length_map, cut_length hts]; simp, fun k x v hxi hvi => ?_⟩, fun j v hj => ?_⟩
        · have hk : k < n := by have := getElem_lt hxi; rw [List.length_map, cut_length hts] at this; exact this
          rw [List.getElem?_map, cut_get hts hk] at hxi
          simp [hk] at hvi
          subst hvi
          cases hc : ts[0 + k]? with
          | none => rw [hc] at hxi; cases hxi
          | some t => rw [hc] at hxi; cases hxi; exact .t _ _ (h2 k t (by simpa using hc))
        · have hk : j < n := by have := getElem_lt hj; simpa using this
          simp [hk] at hj
          subst hj
          obtain ⟨t, ht⟩ : ∃ t, ts[j]? = some t := ⟨ts[j]'(by omega), List.getElem?_eq_getElem (by omega)⟩
          exact h.imm _ _ _ (h1 j t ht)
    · cases hx
  · cases hx

theorem sim_load {P : Program} {γ : G} {g : Look} {w : World} {t : TypeId} {a v : AV} {u : Value} (h : HR γ g w) (hv : VR γ g a u) (hx : load P g t a = some v) :
    Good γ g w [] v ((Instr.loadAt t u).run P w) := by
  unfold load at hx
  split at hx
  · rename_i hagg
    split at hx
    · rename_i n hn
      split at hx
      · rename_i cs hcs
        cases hx
        obtain ⟨b, o, vs, rfl, hl, hvs, hc⟩ := loadCells_VR h hcs hv
        have hrun := run_loadCells_list (P := P) w ⟨b, o, none⟩ vs (fun j x hj => by rw [addr_add]; exact hc j x hj)
        rw [hl] at hrun
        simp only [Instr.loadAt, Instr.sureAddr, loadVar, Sem.run_bind, Sem.run_pure, Result.andThen_ok, run_isAgg hagg, if_true, run_size hn, hrun]
        exact .pure h (.mkAgg hvs)
      · cases hx
    · cases hx
  · rename_i hagg
    split at hx
    · rename_i v' hcs
      cases hx
      obtain ⟨b, o, vs, rfl, hl, hvs, hc⟩ := loadCells_VR h hcs hv
      obtain ⟨v0, vs', rfl, h0, _⟩ := hvs.cases_cons
      have hc0 := hc 0 v0 rfl
      simp only [Nat.add_zero] at hc0
      have hl0 : (Go.load ⟨b, o, none⟩).run P w = .ok v0 w := by rw [run_load]; simp [hc0]
      simp only [Instr.loadAt, Instr.sureAddr, loadVar, Sem.run_bind, Sem.run_pure, Result.andThen_ok, run_isAgg hagg, Bool.false_eq_true, if_false, hl0]
      exact .pure h h0
    · cases hx
  · cases hx

/-! ### What is written to no more -/

theorem mem_upd {p : Patch} {g : Look} {id : Nat} {o : Obj} (hall : ∀ o', (id, o') ∈ p → o' = o) (hin : g id = some o ∨ ∃ o', (id, o') ∈ p) : upd g p id = some o := by
  induction p generalizing g with
  | nil => rcases hin with h | ⟨o', h⟩
           · exact h
           · cases h
  | cons x p ih =>
    obtain ⟨i, o''⟩ := x
    simp only [upd]
    refine ih (fun o' h => hall o' (List.mem_cons_of_mem _ h)) ?_
    by_cases hi : id = i
    · subst hi
      have : o'' = o := hall o'' (by simp)
      subst this
      left; simp
    · have hb : Nat.beq id i = false := by cases h : Nat.beq id i with
        | true => exact absurd (Nat.eq_of_beq_eq_true h) hi
        | false => rfl
      rcases hin with h | ⟨o', h⟩
      · left; simp [hb, h]
      · right
        rcases List.mem_cons.1 h with h | h
        · cases h; exact absurd rfl hi
        · exact ⟨o', h⟩

def FrzPatch (g : Look) (p : Patch) : Prop := ∀ id o, (id, o) ∈ p → ∃ s ver frz es, g id = some (.arr s ver frz es) ∧ o = .arr s ver true es

theorem freeze_patch (g : Look) : ∀ ids, FrzPatch g (freeze g ids)
  | [] => fun _ _ h => by cases h
  | i :: ids => fun id o h => by
    simp only [freeze] at h
    split at h
    · rename_i s ver frz es hg
      rcases List.mem_cons.1 h with h | h
      · cases h; exact ⟨s, ver, frz, es, hg, rfl⟩
      · exact freeze_patch g ids id o h
    · exact freeze_patch g ids id o h

theorem freeze_mem {g : Look} {id : Nat} {s ver : Nat} {frz : Bool} {es : List (List Tree)} (hg : g id = some (.arr s ver frz es)) : ∀ {ids : List Nat}, id ∈ ids → (id, .arr s ver true es) ∈ freeze g ids
  | i :: ids, h => by
    simp only [freeze]
    rcases List.mem_cons.1 h with h | h
    · subst h; rw [hg]; simp
    · have := freeze_mem hg h
      split
      · exact List.mem_cons_of_mem _ this
      · exact this

theorem FrzPatch.upd_eq {g : Look} {p : Patch} (h : FrzPatch g p) {id : Nat} {s ver : Nat} {frz : Bool} {es : List (List Tree)} (hg : g id = some (.arr s ver frz es))
    (hin : ∃ o, (id, o) ∈ p) : upd g p id = some (.arr s ver true es) := by
  refine mem_upd (fun o' ho' => ?_) (.inr hin)
  obtain ⟨s', ver', frz', es', h1, h2⟩ := h id o' ho'
  rw [hg] at h1; cases h1; exact h2

def G.freeze1 (γ : G) (b n : Nat) (c : Array Value) : G :=
  { γ with imm := fun b' o => match γ.imm b' o with
    | some v => some v
    | none => if b' = b ∧ o < n then c[o]? else none }

theorem sim_freeze1 {γ : G} {g : Look} {w : World} (h : HR γ g w) {id s ver : Nat} {frz : Bool} {es : List (List Tree)} (hg : g id = some (.arr s ver frz es)) :
    ∃ γ', Ext γ g γ' (upd g [(id, .arr s ver true es)]) ∧ HR γ' (upd g [(id, .arr s ver true es)]) w ∧ Fr γ w γ' w ∧ γ'.β = γ.β := by
  have hcur : ∀ i, cur (upd g [(id, .arr s ver true es)]) i = cur g i := fun i => by
    by_cases hi : i = id
    · subst hi; unfold cur; rw [upd_one, if_pos rfl, hg]
    · exact cur_upd hi
  have hdims : ∀ i, dims (upd g [(id, .arr s ver true es)]) i = dims g i := fun i => by
    by_cases hi : i = id
    · subst hi; unfold dims; rw [upd_one, if_pos rfl, hg]
    · exact dims_upd hi
  cases hb : γ.β id with
  | none =>
    have e : Ext γ g γ (upd g [(id, .arr s ver true es)]) := ⟨.refl _, fun i b hb hc => ⟨hb, by rw [hcur]; exact hc⟩, fun i c hc => ⟨c, by rw [hcur]; exact hc, Nat.le_refl _, fun _ => ⟨rfl, rfl, hdims i⟩⟩⟩
    refine ⟨γ, e, ⟨fun i b hib => ?_, h.inj, h.imm⟩, .refl _ _, rfl⟩
    obtain ⟨o, ho, hor⟩ := h.obj i b hib
    have hi : i ≠ id := fun hh => by rw [hh, hb] at hib; cases hib
    exact ⟨o, by rw [upd_one, if_neg hi]; exact ho, hor.mono e rfl rfl (fun _ => rfl)⟩
  | some b =>
    obtain ⟨o, ho, hor⟩ := h.obj id b hb
    rw [hg] at ho; cases ho
    obtain ⟨⟨c, ty, fr, h1, h2, h3, h4, h5, h6, h7⟩, h8⟩ := hor
    have hle : ImmLe γ.imm (γ.freeze1 b (es.length * s) c).imm := fun b' o v hv => by simp [G.freeze1, hv]
    have e : Ext γ g (γ.freeze1 b (es.length * s) c) (upd g [(id, .arr s ver true es)]) := ⟨hle, fun i b hb hc => ⟨hb, by rw [hcur]; exact hc⟩,
      fun i c' hc => ⟨c', by rw [hcur]; exact hc, Nat.le_refl _, fun _ => ⟨rfl, rfl, hdims i⟩⟩⟩
    have hcell : ∀ o, w.cell? ⟨b, o, none⟩ = c[o]? := fun o => cell_cells h1
    refine ⟨γ.freeze1 b (es.length * s) c, e, ⟨fun i b' hib => ?_, h.inj, fun b' o v hv => ?_⟩, ⟨Nat.le_refl _, fun _ _ _ => rfl, fun i b' hib => .inr ⟨i, hib⟩, fun b' o v hv => ?_, rfl, rfl⟩, rfl⟩
    · by_cases hi : i = id
      · subst hi
        have hbb : b' = b := by have : γ.β i = some b' := hib; rw [hb] at this; cases this; rfl
        subst hbb
        refine ⟨.arr s ver true es, by rw [upd_one, if_pos rfl], ⟨c, ty, fr, h1, h2, h3, h4, h5, fun i j x t v a1 a2 a3 => ⟨(h6 i j x t v a1 a2 a3).1.mono hle, (h6 i j x t v a1 a2 a3).2⟩, fun _ i j x t a1 a2 => ?_⟩, fun hf => by cases hf⟩
        have hil := getElem_lt a1
        have hjl := getElem_lt a2
        have hxl := h5 x (List.mem_of_getElem? a1)
        have hb1 := mul_lt_of hil (k := j + 1) (s := s) (by omega)
        simp only [G.freeze1]
        cases hi : γ.imm b' (i * s + j) with
        | some v => have := h.imm _ _ _ hi; rw [hcell] at this; rw [this]
        | none => simp; intro hh; omega
      · obtain ⟨o, ho, hor⟩ := h.obj i b' hib
        have hbb : b' ≠ b := fun hh => hi (h.inj i id b (hh ▸ hib) hb)
        exact ⟨o, by rw [upd_one, if_neg hi]; exact ho, hor.mono e rfl rfl (fun o => by simp only [G.freeze1]; split <;> simp_all)⟩
    · simp only [G.freeze1] at hv
      split at hv
      · rename_i v' hv'; cases hv; exact h.imm _ _ _ hv'
      · split at hv
        · rename_i hh; obtain ⟨rfl, _⟩ := hh; rw [hcell]; exact hv
        · cases hv
    · simp only [G.freeze1] at hv
      split at hv
      · rename_i v' hv'; cases hv; exact .inl hv'
      · split at hv
        · rename_i hh; obtain ⟨rfl, _⟩ := hh; exact .inr (.inr ⟨id, hb⟩)
        · cases hv

theorem upd_append (g : Look) : ∀ (p q : Patch), upd g (p ++ q) = upd (upd g p) q
  | [], q => rfl
  | (i, o) :: p, q => by simp only [List.cons_append, upd]; exact upd_append _ p q

theorem sim_freeze {w : World} : ∀ {p : Patch} {γ : G} {g : Look}, HR γ g w → FrzPatch g p → ∃ γ', Ext γ g γ' (upd g p) ∧ HR γ' (upd g p) w ∧ Fr γ w γ' w ∧ γ'.β = γ.β
  | [], γ, g, h, _ => ⟨γ, .refl _ _, h, .refl _ _, rfl⟩
  | (id, o) :: p, γ, g, h, hp => by
    obtain ⟨s, ver, frz, es, hg, rfl⟩ := hp id o (by simp)
    obtain ⟨γ₁, e1, h1, f1, b1⟩ := sim_freeze1 h hg
    have hp' : FrzPatch (upd g [(id, .arr s ver true es)]) p := fun i o' ho' => by
      obtain ⟨s', ver', frz', es', hg', rfl⟩ := hp i o' (List.mem_cons_of_mem _ ho')
      rw [upd_one]
      by_cases hi : i = id
      · subst hi; rw [hg] at hg'; cases hg'; exact ⟨_, _, true, _, by rw [if_pos rfl], rfl⟩
      · exact ⟨_, _, frz', _, by rw [if_neg hi]; exact hg', rfl⟩
    obtain ⟨γ₂, e2, h2, f2, b2⟩ := sim_freeze h1 hp'
    have hu : upd g ((id, .arr s ver true es) :: p) = upd (upd g [(id, .arr s ver true es)]) p := upd_append g [(id, _)] p
    rw [hu]
    exact ⟨γ₂, e1.trans e2, h2, f1.trans f2, b2.trans b1⟩

/-! ### A slice of the heap as a tree -/

theorem frozen_sl {γ : G} {g : Look} {w : World} (h : HR γ g w) {id s ver b : Nat} {es es' : List (List Tree)} (hg : g id = some (.arr s ver true es)) (hb : γ.β id = some b)
    {lo len cap : Nat} (hc : cut es lo len = some es') {a : Addr} (ha : len ≠ 0 → a = ⟨b, lo * s, none⟩) (hcap : len ≤ cap) : TR γ.imm (.sl false false es') (.slice (some a) len cap) := by
  obtain ⟨o, ho, hor⟩ := h.obj id b hb
  rw [hg] at ho; cases ho
  obtain ⟨⟨c, ty, fr, h1, h2, h3, h4, h5, h6, h7⟩, _⟩ := hor
  have hlen := cut_length hc
  have hcs := cut_some hc
  have hget : ∀ (i : Nat) e, es'[i]? = some e → es[lo + i]? = some e := fun i e he => by
    have hi : i < len := by have := getElem_lt he; omega
    rw [cut_get hc hi] at he; exact he
  have hval : ∀ (i j : Nat) e t, es'[i]? = some e → e[j]? = some t → c[lo * s + i * s + j]? = some (c.getD (lo * s + i * s + j) undef) := fun i j e t he ht => by
    have hil := getElem_lt (hget i e he)
    have hel := h5 e (List.mem_of_getElem? (hget i e he))
    have hjl := getElem_lt ht
    have := mul_lt_of hil (k := j + 1) (s := s) (by omega)
    rw [Nat.add_mul] at this
    have hlt : lo * s + i * s + j < c.size := by omega
    simp [Array.getElem?_eq_getElem hlt]
  have key := TR.sl (I := γ.imm) false false es' (some a) cap s (fun i j => c.getD (lo * s + i * s + j) undef) (fun hh => by cases hh)
    (fun _ => ⟨by simp, b, lo * s, fun hne => by rw [ha (fun h0 => hne (List.eq_nil_of_length_eq_zero (by omega)))], fun i j e t he ht => by
      have := h7 rfl (lo + i) j e t (hget i e he) ht
      rw [Nat.add_mul] at this
      rw [this]; exact hval i j e t he ht⟩)
    (fun e he => by
      obtain ⟨i, hi⟩ := List.getElem?_of_mem he
      exact h5 e (List.mem_of_getElem? (hget i e hi)))
    (fun i j e t he ht => (h6 (lo + i) j e t _ (hget i e he) ht (by rw [Nat.add_mul]; exact hval i j e t he ht)).1)
    (by omega) (fun hh => by cases hh) (fun i j e t he ht => (h6 (lo + i) j e t _ (hget i e he) ht (by rw [Nat.add_mul]; exact hval i j e t he ht)).2)
  rw [hlen] at key
  exact key

theorem elems_hs {g : Look} {id ver : Nat} {es : List (List Tree)} (h : elems g (.hs id ver) = some es) : ∃ s frz, g id = some (.arr s ver frz es) := by
  simp only [elems] at h
  split at h
  · rename_i s ver' frz es' hg
    split at h
    · rename_i hv; cases h; exact ⟨s, frz, by rw [hg, hv]⟩
    · cases h
  · cases h

theorem elems_hsub {g : Look} {id ver lo len : Nat} {es : List (List Tree)} (h : elems g (.hsub id ver lo len) = some es) : ∃ s frz es0, g id = some (.arr s ver frz es0) ∧ cut es0 lo len = some es := by
  simp only [elems] at h
  split at h
  · rename_i s ver' frz es' hg
    split at h
    · rename_i hv; exact ⟨s, frz, es', by rw [hg, hv], h⟩
    · cases h
  · cases h

theorem cur_arr {g : Look} {id s ver : Nat} {frz : Bool} {es : List (List Tree)} (h : g id = some (.arr s ver frz es)) : cur g id = some ver := by unfold cur; rw [h]
theorem dims_arr {g : Look} {id s ver : Nat} {frz : Bool} {es : List (List Tree)} (h : g id = some (.arr s ver frz es)) : dims g id = some (s, es.length) := by unfold dims; rw [h]

theorem cut_all {α : Type} (l : List α) : cut l 0 l.length = some l := by unfold cut; simp

theorem view_hs {γ : G} {g : Look} {w : World} (h : HR γ g w) {id s ver : Nat} {es : List (List Tree)} {u : Value} (hg : g id = some (.arr s ver true es))
    (hv : VR γ g (.hs id ver) u) : VR γ g (.t (.sl false false es)) u := by
  cases hv with
  | hs _ _ a n cap ho hh =>
    obtain ⟨b, s', hb, hd, rfl, hle, _⟩ := hh (cur_arr hg)
    rw [dims_arr hg] at hd
    cases hd
    exact .t _ _ (frozen_sl h hg hb (cut_all es) (fun _ => by simp) hle)

theorem view_hsub {γ : G} {g : Look} {w : World} (h : HR γ g w) {id s ver lo len : Nat} {es es' : List (List Tree)} {u : Value} (hg : g id = some (.arr s ver true es))
    (hc : cut es lo len = some es') (hv : VR γ g (.hsub id ver lo len) u) : VR γ g (.t (.sl false false es')) u := by
  cases hv with
  | hsub _ _ _ _ a cap ho hh =>
    obtain ⟨b, s', n, hb, hd, hle, hlo, ha⟩ := hh (cur_arr hg)
    rw [dims_arr hg] at hd
    cases hd
    exact .t _ _ (frozen_sl h hg hb hc ha hle)

theorem view_VR {γ : G} {g g' : Look} {w : World} (h : HR γ g' w) {x : AV} {u : Value} (hp : ∀ id ∈ viewed g x, ∀ s ver frz es, g id = some (.arr s ver frz es) → g' id = some (.arr s ver true es))
    (hv : VR γ g' x u) : VR γ g' (view g x) u := by
  unfold view
  split
  · rename_i id ver
    split
    · rename_i es he
      obtain ⟨s, frz, hg⟩ := elems_hs he
      have : id ∈ viewed g (.hs id ver) := by simp only [viewed, he]; simp
      exact view_hs h (hp id this _ _ _ _ hg) hv
    · exact hv
  · rename_i id ver lo len
    split
    · rename_i es he
      obtain ⟨s, frz, es0, hg, hc⟩ := elems_hsub he
      have : id ∈ viewed g (.hsub id ver lo len) := by simp only [viewed, he]; simp
      exact view_hsub h (hp id this _ _ _ _ hg) hc hv
    · exact hv
  · rename_i cs
    cases hv with
    | agg _ vs hl hh =>
      refine .mkAgg ⟨by simpa using hl, fun i c v hc hvi => ?_⟩
      rw [List.getElem?_map] at hc
      cases hci : cs[i]? with
      | none => rw [hci] at hc; cases hc
      | some c0 =>
        rw [hci] at hc; cases hc
        have hv0 := hh i c0 v hci hvi
        have hmem : c0 ∈ cs := List.mem_of_getElem? hci
        have hsub : ∀ id, id ∈ (match c0 with
            | .hs id ver => (match elems g (.hs id ver) with | some _ => [id] | none => [])
            | .hsub id ver lo len => (match elems g (.hsub id ver lo len) with | some _ => [id] | none => [])
            | _ => []) → id ∈ viewed g (.agg cs) := fun id hid => by
          simp only [viewed]
          clear hh hl hci hp hv0 hvi
          induction cs with
          | nil => cases hmem
          | cons d ds ih =>
            simp only [catMap, List.mem_append]
            rcases List.mem_cons.1 hmem with hm | hm
            · subst hm; exact .inl hid
            · exact .inr (ih hm)
        dsimp only
        split
        · rename_i id ver
          split
          · rename_i es he
            obtain ⟨s, frz, hg⟩ := elems_hs he
            exact view_hs h (hp id (hsub id (by simp [he])) _ _ _ _ hg) hv0
          · exact hv0
        · rename_i id ver lo len
          split
          · rename_i es he
            obtain ⟨s, frz, es0, hg, hc⟩ := elems_hsub he
            exact view_hsub h (hp id (hsub id (by simp [he])) _ _ _ _ hg) hc hv0
          · exact hv0
        · exact hv0
  · exact hv

/-- 'purify': the slices of the heap that a value has become trees. -/
theorem sim_purify {γ : G} {g : Look} {w : World} {x : AV} {u : Value} (h : HR γ g w) (hv : VR γ g x u) :
    ∃ γ', Ext γ g γ' (upd g (purify g x).2) ∧ HR γ' (upd g (purify g x).2) w ∧ Fr γ w γ' w ∧ γ'.β = γ.β ∧ VR γ' (upd g (purify g x).2) (purify g x).1 u := by
  obtain ⟨γ', e, h', f, hb⟩ := sim_freeze h (freeze_patch g (viewed g x))
  refine ⟨γ', e, h', f, hb, view_VR h' (fun id hid s ver frz es hg => ?_) (hv.mono e)⟩
  exact (freeze_patch g (viewed g x)).upd_eq hg ⟨_, freeze_mem hg hid⟩

/-! ### Stores -/

theorem setCells_heap (b : Nat) (ty : TypeId) (fr : Nat × Nat) : ∀ (vs : List Value) (o : Nat) (w : World) (c : Array Value), w.heap[b]? = some (.cells c ty fr) → o + vs.length ≤ c.size →
    ∃ c', (w.setCells b o vs).heap[b]? = some (.cells c' ty fr) ∧ c'.size = c.size ∧ (∀ i, c'[i]? = if o ≤ i ∧ i < o + vs.length then vs[i - o]? else c[i]?) ∧
      (∀ b', b' ≠ b → (w.setCells b o vs).heap[b']? = w.heap[b']?) ∧ (w.setCells b o vs).heap.size = w.heap.size
  | [], o, w, c, h, _ => ⟨c, h, rfl, fun i => by rw [if_neg (by simp)], fun _ _ => rfl, rfl⟩
  | v :: vs, o, w, c, h, hl => by
    simp at hl
    have hb : b < w.heap.size := by
      rcases Nat.lt_or_ge b w.heap.size with h' | h'
      · exact h'
      · rw [Array.getElem?_eq_none h'] at h; cases h
    have h1 : (w.setCell ⟨b, o, none⟩ v).heap[b]? = some (.cells (c.setIfInBounds o v) ty fr) := by
      simp only [World.setCell, Array.getElem?_modify, h]
      simp
    obtain ⟨c', h2, h3, h4, h5, h6⟩ := setCells_heap b ty fr vs (o + 1) (w.setCell ⟨b, o, none⟩ v) (c.setIfInBounds o v) h1 (by simp; omega)
    refine ⟨c', h2, by simpa using h3, fun i => ?_, fun b' hb' => ?_, by rw [World.setCells, h6, World.size_setCell]⟩
    · rw [h4 i]
      by_cases hi : i = o
      · subst hi
        rw [if_neg (by omega), if_pos (by simp)]
        simp [Array.getElem?_setIfInBounds]; omega
      · by_cases hio : o + 1 ≤ i ∧ i < o + 1 + vs.length
        · rw [if_pos hio, if_pos (by simp; omega)]
          have : i - o = i - (o + 1) + 1 := by omega
          rw [this]; simp
        · rw [if_neg hio, if_neg (by simp; omega)]
          simp [Array.getElem?_setIfInBounds]; omega
    · rw [World.setCells, h5 b' hb']
      simp only [World.setCell, Array.getElem?_modify]
      rw [if_neg (fun e => hb' e.symm)]

theorem splice_get {α : Type} (l new : List α) (lo : Nat) (h : lo + new.length ≤ l.length) (i : Nat) :
    (splice l lo new)[i]? = if lo ≤ i ∧ i < lo + new.length then new[i - lo]? else l[i]? := by
  unfold splice
  by_cases h1 : i < lo
  · rw [if_neg (by omega), List.getElem?_append_left (by simp; omega), List.getElem?_append_left (by simp; omega), List.getElem?_take_of_lt h1]
  · by_cases h2 : i < lo + new.length
    · rw [if_pos ⟨by omega, h2⟩, List.getElem?_append_left (by simp; omega), List.getElem?_append_right (by simp; omega)]
      congr 1; simp; omega
    · rw [if_neg (by omega), List.getElem?_append_right (by simp; omega), List.getElem?_drop]
      congr 1; simp; omega

theorem splice_length {α : Type} (l new : List α) (lo : Nat) (h : lo + new.length ≤ l.length) : (splice l lo new).length = l.length := by
  unfold splice; simp; omega

theorem setCells_same (b : Nat) : ∀ (vs : List Value) (o : Nat) (w : World), (w.setCells b o vs).os = w.os ∧ (w.setCells b o vs).output = w.output
  | [], _, _ => ⟨rfl, rfl⟩
  | v :: vs, o, w => by
    have h := setCells_same b vs (o + 1) (w.setCell ⟨b, o, none⟩ v)
    rw [World.setCells]
    exact ⟨h.1, h.2⟩

theorem sim_set {γ : G} {g : Look} {w w' : World} {id b : Nat} {o' : Obj} (h : HR γ g w) (hb : γ.β id = some b) (himm : ∀ i, γ.imm b i = none)
    (hcur : cur (upd g [(id, o')]) id = cur g id) (hdims : dims (upd g [(id, o')]) id = dims g id) (hw : ∀ b', b' ≠ b → w'.heap[b']? = w.heap[b']?) (hsz : w'.heap.size = w.heap.size)
    (ho : OR γ (upd g [(id, o')]) w' id b o') (hso : w'.os = w.os ∧ w'.output = w.output := by first | exact ⟨rfl, rfl⟩ | exact setCells_same _ _ _ _) : Ext γ g γ (upd g [(id, o')]) ∧ HR γ (upd g [(id, o')]) w' ∧ Fr γ w γ w' := by
  have hc : ∀ i, cur (upd g [(id, o')]) i = cur g i := fun i => by
    by_cases hi : i = id
    · subst hi; exact hcur
    · exact cur_upd hi
  have hd : ∀ i, dims (upd g [(id, o')]) i = dims g i := fun i => by
    by_cases hi : i = id
    · subst hi; exact hdims
    · exact dims_upd hi
  have e : Ext γ g γ (upd g [(id, o')]) := ⟨.refl _, fun i b hb hc' => ⟨hb, by rw [hc]; exact hc'⟩, fun i c hc' => ⟨c, by rw [hc]; exact hc', Nat.le_refl _, fun _ => ⟨rfl, rfl, hd i⟩⟩⟩
  refine ⟨e, ⟨fun i b' hib => ?_, h.inj, fun b' o v hv => ?_⟩, ⟨by omega, fun b' _ hn => hw b' (fun hh => hn id (by rw [hh]; exact hb)), fun i b' hib => .inr ⟨i, hib⟩, fun _ _ _ hv => .inl hv, hso⟩⟩
  · by_cases hi : i = id
    · subst hi
      rw [hb] at hib; cases hib
      exact ⟨o', by rw [upd_one, if_pos rfl], ho⟩
    · obtain ⟨x, hx, hor⟩ := h.obj i b' hib
      have hbb : b' ≠ b := fun hh => hi (h.inj i id b (hh ▸ hib) hb)
      exact ⟨x, by rw [upd_one, if_neg hi]; exact hx, hor.mono e (hw b' hbb) rfl (fun _ => rfl)⟩
  · have hbb : b' ≠ b := fun hh => by rw [hh, himm] at hv; cases hv
    rw [cell_of_heap (hw b' hbb)]; exact h.imm b' o v hv

/-- What an operation without a value has come to. -/
def GoodU (γ : G) (g : Look) (w : World) (p : Patch) (r : Result Unit) : Prop :=
  ∃ w' γ', r = .ok () w' ∧ Ext γ g γ' (upd g p) ∧ HR γ' (upd g p) w' ∧ Fr γ w γ' w'

theorem oneCell_of {γ : G} {g : Look} {cs : List AV} {vs : List Value} (h : VRs γ g cs vs) (hc : cs.all isCell = true) : ∀ v ∈ vs, v.oneCell' = true := by
  intro v hv
  obtain ⟨i, hi⟩ := List.getElem?_of_mem hv
  have hil := getElem_lt hi
  obtain ⟨x, hx⟩ : ∃ x, cs[i]? = some x := ⟨cs[i]'(by rw [h.1]; exact hil), List.getElem?_eq_getElem _⟩
  have hr := h.2 i x v hx hi
  have hx' : isCell x = true := List.all_eq_true.1 hc x (List.mem_of_getElem? hx)
  cases hr with
  | t x v ht => cases ht <;> first | rfl | (simp [isCell] at hx')
  | _ => first | rfl | (simp [isCell] at hx')

theorem cell_some {w : World} {b o : Nat} {c : Array Value} {ty : TypeId} {fr : Nat × Nat} (h : w.heap[b]? = some (.cells c ty fr)) (ho : o < c.size) : (w.cell? ⟨b, o, none⟩).isSome = true := by
  rw [cell_cells h]; simp [ho]

theorem VRs.splice {γ : G} {g : Look} {xs ys : List AV} {c c' : Array Value} {vs : List Value} {o : Nat} (h : VRs γ g xs c.toList) (h' : VRs γ g ys vs) (hl : o + ys.length ≤ xs.length)
    (hs : c'.size = c.size) (hc : ∀ i, c'[i]? = if o ≤ i ∧ i < o + vs.length then vs[i - o]? else c[i]?) : VRs γ g (splice xs o ys) c'.toList := by
  refine ⟨by rw [splice_length _ _ _ hl]; have := h.1; simp at this ⊢; omega, fun i x v hx hv => ?_⟩
  rw [splice_get _ _ _ hl] at hx
  rw [Array.getElem?_toList, hc i, ← h'.1] at hv
  split at hx
  · rename_i hi; rw [if_pos hi] at hv; exact h'.2 _ _ _ hx hv
  · rename_i hi; rw [if_neg hi] at hv; exact h.2 _ _ _ hx (by simpa using hv)

theorem sim_storeAt {P : Program} {γ : G} {g : Look} {w : World} {a : AV} {u : Value} {cs : List AV} {vs : List Value} {p : Patch} (h : HR γ g w) (ha : VR γ g a u) (hv : VRs γ g cs vs)
    (hc1 : cs.all isCell = true) (hx : storeAt g a cs = some p) : ∃ b o, u = .pointer (some ⟨b, o, none⟩) ∧ GoodU γ g w p ((storeCells ⟨b, o, none⟩ vs).run P w) := by
  have h1c := oneCell_of hv hc1
  unfold storeAt at hx
  split at hx
  · rename_i id off
    split at hx
    · rename_i old hg
      split at hx
      · rename_i hle
        cases hx
        cases ha with
        | box _ _ b hb hcn =>
          obtain ⟨o, ho, hor⟩ := h.obj id b hb
          rw [hg] at ho; cases ho
          obtain ⟨⟨c, ty, fr, k1, k2, k3⟩, k4⟩ := hor
          have hcl := k3.1
          simp at hcl
          have hvl := hv.1
          refine ⟨b, off, rfl, ?_⟩
          have hrun := run_storeCells_cells (P := P) b off vs 0 w (fun j hj => cell_some k1 (by omega)) (fun j hj => frozen_cells k1 k2 (by omega)) h1c
          obtain ⟨c', s1, s2, s3, s4, s5⟩ := setCells_heap b ty fr vs off w c k1 (by omega)
          simp only [Nat.add_zero] at hrun
          have hcur : cur (upd g [(id, .box (splice old off cs))]) id = cur g id := by unfold cur; rw [upd_one, if_pos rfl, hg]
          have hdim : dims (upd g [(id, .box (splice old off cs))]) id = dims g id := by unfold dims; rw [upd_one, if_pos rfl, hg]
          have e0 : Ext γ g γ (upd g [(id, .box (splice old off cs))]) := by
            refine ⟨.refl _, fun i b hb hc' => ⟨hb, ?_⟩, fun i c hc' => ⟨c, ?_, Nat.le_refl _, fun _ => ⟨rfl, rfl, ?_⟩⟩⟩
            all_goals by_cases hi : i = id
            · subst hi; rw [hcur]; exact hc'
            · rw [cur_upd hi]; exact hc'
            · subst hi; rw [hcur]; exact hc'
            · rw [cur_upd hi]; exact hc'
            · subst hi; exact hdim
            · exact dims_upd hi
          obtain ⟨e, hh, f⟩ := sim_set (w' := w.setCells b off vs) h hb k4 hcur hdim s4 s5
            ⟨⟨c', ty, fr, s1, by rw [s2]; exact k2, (k3.splice hv (by omega) s2 s3).mono e0⟩, k4⟩
          exact ⟨_, γ, hrun, e, hh, f⟩
      · cases hx
    · cases hx
  · rename_i id ver i off
    split at hx
    · rename_i s ver' es hg
      split at hx
      · rename_i hver
        split at hx
        · rename_i e he
          split at hx
          · rename_i hle
            split at hx
            · rename_i ts hts
              cases hx
              have hcs := trees_some hts
              subst hcs
              obtain ⟨hvl, hvt⟩ := hv.trees
              cases ha with
              | el _ _ _ _ ad ho hh =>
                have hcu : cur g id = some ver := by rw [cur_arr hg, hver]
                obtain ⟨b, s', n', hb, hd, rfl⟩ := hh hcu
                rw [dims_arr hg] at hd; cases hd
                obtain ⟨o, ho', hor⟩ := h.obj id b hb
                rw [hg] at ho'; cases ho'
                obtain ⟨⟨c, ty, fr, k1, k2, k3, k4, k5, k6, k7⟩, k8⟩ := hor
                rw [nth_eq] at he
                have hil := getElem_lt he
                have hel := k5 e (List.mem_of_getElem? he)
                simp at hle
                have hle2 := mul_lt_of hil (k := off + ts.length) (s := s) (by omega)
                refine ⟨b, i * s + off, rfl, ?_⟩
                have hrun := run_storeCells_cells (P := P) b (i * s + off) vs 0 w (fun j hj => cell_some k1 (by omega)) (fun j hj => frozen_cells k1 k2 (by omega)) h1c
                obtain ⟨c', s1, s2, s3, s4, s5⟩ := setCells_heap b ty fr vs (i * s + off) w c k1 (by omega)
                simp only [Nat.add_zero] at hrun
                rw [setN_eq]
                have hcur : cur (upd g [(id, .arr s ver' false (es.set i (splice e off ts)))]) id = cur g id := by unfold cur; rw [upd_one, if_pos rfl, hg]
                have hdim : dims (upd g [(id, .arr s ver' false (es.set i (splice e off ts)))]) id = dims g id := by unfold dims; rw [upd_one, if_pos rfl, hg]; simp
                obtain ⟨e', hh', f⟩ := sim_set (w' := w.setCells b (i * s + off) vs) h hb (k8 rfl) hcur hdim s4 s5
                  ⟨⟨c', ty, fr, s1, by rw [s2]; exact k2, by rw [s2]; exact k3, by simpa [s2] using k4, fun x hx => by
                      rcases List.mem_or_eq_of_mem_set hx with hx | hx
                      · exact k5 x hx
                      · rw [hx, splice_length _ _ _ (by omega)]; exact hel,
                    fun k j x t v a1 a2 a3 => by
                      rw [s3] at a3
                      rw [List.getElem?_set] at a1
                      by_cases hk : i = k
                      · subst hk
                        rw [if_pos rfl, if_pos hil] at a1
                        cases a1
                        have hj := getElem_lt a2
                        rw [splice_length _ _ _ (by omega)] at hj
                        rw [splice_get _ _ _ (by omega)] at a2
                        split at a2
                        · rename_i hjj
                          rw [if_pos (by omega)] at a3
                          have hv' : vs[j - off]? = some v := by rw [← a3]; congr 1; omega
                          exact ⟨hvt (j - off) t v a2 hv', h1c v (List.mem_of_getElem? hv')⟩
                        · rename_i hjj
                          rw [if_neg (by omega)] at a3
                          exact k6 i j e t v he a2 a3
                      · rw [if_neg hk] at a1
                        have hkl := getElem_lt a1
                        have hxl := k5 x (List.mem_of_getElem? a1)
                        have hj := getElem_lt a2
                        have hout : ¬ (i * s + off ≤ k * s + j ∧ k * s + j < i * s + off + vs.length) := by
                          rcases Nat.lt_or_ge i k with hik | hik
                          · have := mul_lt_of hik (k := off + ts.length) (s := s) (by omega); omega
                          · have hki : k < i := by omega
                            have := mul_lt_of hki (k := j + 1) (s := s) (by omega); omega
                        rw [if_neg hout] at a3
                        exact k6 k j x t v a1 a2 a3,
                    fun hf => by cases hf⟩, fun _ => k8 rfl⟩
                exact ⟨_, γ, hrun, e', hh', f⟩
            · cases hx
          · cases hx
        · cases hx
      · cases hx
    · rename_i s ver' es hg
      split at hx
      · rename_i hver
        split at hx
        · rename_i e he
          split at hx
          · rename_i hle
            cases hx
            have hvl := hv.1
            cases ha with
            | el _ _ _ _ ad ho hh =>
              have hcu : cur g id = some ver := by unfold cur; rw [hg]; simp [hver]
              obtain ⟨b, s', n', hb, hd, rfl⟩ := hh hcu
              have hds : s = s' := by unfold dims at hd; rw [hg] at hd; simp at hd; exact hd.1
              subst hds
              obtain ⟨o, ho', hor⟩ := h.obj id b hb
              rw [hg] at ho'; cases ho'
              obtain ⟨⟨c, ty, fr, k1, k2, k3, k4, k5, k6⟩, k8⟩ := hor
              rw [nth_eq] at he
              have hil := getElem_lt he
              have hel := k5 e (List.mem_of_getElem? he)
              have hle2 := mul_lt_of hil (k := off + cs.length) (s := s) (by omega)
              refine ⟨b, i * s + off, rfl, ?_⟩
              have hrun := run_storeCells_cells (P := P) b (i * s + off) vs 0 w (fun j hj => cell_some k1 (by omega)) (fun j hj => frozen_cells k1 k2 (by omega)) h1c
              obtain ⟨c', s1, s2, s3, s4, s5⟩ := setCells_heap b ty fr vs (i * s + off) w c k1 (by omega)
              simp only [Nat.add_zero] at hrun
              rw [setN_eq]
              have hcur : cur (upd g [(id, .marr s ver' (es.set i (splice e off cs)))]) id = cur g id := by unfold cur; rw [upd_one, if_pos rfl, hg]
              have hdim : dims (upd g [(id, .marr s ver' (es.set i (splice e off cs)))]) id = dims g id := by unfold dims; rw [upd_one, if_pos rfl, hg]; simp
              have e0 : Ext γ g γ (upd g [(id, .marr s ver' (es.set i (splice e off cs)))]) := by
                refine ⟨.refl _, fun i b hb hc' => ⟨hb, ?_⟩, fun i c hc' => ⟨c, ?_, Nat.le_refl _, fun _ => ⟨rfl, rfl, ?_⟩⟩⟩
                all_goals by_cases hi : i = id
                · subst hi; rw [hcur]; exact hc'
                · rw [cur_upd hi]; exact hc'
                · subst hi; rw [hcur]; exact hc'
                · rw [cur_upd hi]; exact hc'
                · subst hi; exact hdim
                · exact dims_upd hi
              obtain ⟨e', hh', f⟩ := sim_set (w' := w.setCells b (i * s + off) vs) h hb k8 hcur hdim s4 s5
                ⟨⟨c', ty, fr, s1, by rw [s2]; exact k2, by rw [s2]; exact k3, by simpa [s2] using k4, fun x hx => by
                    rcases List.mem_or_eq_of_mem_set hx with hx | hx
                    · exact k5 x hx
                    · rw [hx, splice_length _ _ _ (by omega)]; exact hel,
                  fun k j x t v a1 a2 a3 => by
                    refine VR.mono e0 ?_
                    rw [s3] at a3
                    rw [List.getElem?_set] at a1
                    by_cases hk : i = k
                    · subst hk
                      rw [if_pos rfl, if_pos hil] at a1
                      cases a1
                      have hj := getElem_lt a2
                      rw [splice_length _ _ _ (by omega)] at hj
                      rw [splice_get _ _ _ (by omega)] at a2
                      split at a2
                      · rename_i hjj
                        rw [if_pos (by omega)] at a3
                        exact hv.2 (j - off) t v a2 (by rw [← a3]; congr 1; omega)
                      · rename_i hjj
                        rw [if_neg (by omega)] at a3
                        exact k6 i j e t v he a2 a3
                    · rw [if_neg hk] at a1
                      have hkl := getElem_lt a1
                      have hxl := k5 x (List.mem_of_getElem? a1)
                      have hj := getElem_lt a2
                      have hout : ¬ (i * s + off ≤ k * s + j ∧ k * s + j < i * s + off + vs.length) := by
                        rcases Nat.lt_or_ge i k with hik | hik
                        · have := mul_lt_of hik (k := off + cs.length) (s := s) (by omega); omega
                        · have hki : k < i := by omega
                          have := mul_lt_of hki (k := j + 1) (s := s) (by omega); omega
                      rw [if_neg hout] at a3
                      exact k6 k j x t v a1 a2 a3⟩, k8⟩
              exact ⟨_, γ, hrun, e', hh', f⟩
          · cases hx
        · cases hx
      · cases hx
    · cases hx
  · cases hx

end Go.Ab
