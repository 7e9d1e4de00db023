/- Each operation of the evaluator does what the model's does: append, copies of cells, length, bytes. -/
import Derived.Test.YtchkgfmmfdineaaGreatAbOps5
namespace Go.Ab

theorem lens_spec {n : Nat} {es : List (List Tree)} (h : lens n es = true) : ∀ e ∈ es, e.length = n := fun e he =>
  Nat.eq_of_beq_eq_true (List.all_eq_true.1 h e he)

/-- The cells of elements, one behind the other. -/
structure Flat (I : Imm) (n : Nat) (es : List (List Tree)) (vs : List Value) : Prop where
  len : vs.length = es.length * n
  val : ∀ (i j : Nat) e t, es[i]? = some e → e[j]? = some t → ∃ v, vs[i * n + j]? = some v ∧ TR I t v ∧ v.oneCell' = true
  one : ∀ v ∈ vs, v.oneCell' = true

theorem flat_mul {n k : Nat} {es : List (List Tree)} (h : k < es.length * n) : k / n < es.length ∧ k % n < n ∧ k / n * n + k % n = k := by
  have hn : 0 < n := Nat.pos_of_ne_zero fun h0 => by rw [h0] at h; simp at h
  exact ⟨Nat.div_lt_of_lt_mul (by rw [Nat.mul_comm]; exact h), Nat.mod_lt _ hn, by rw [Nat.mul_comm]; exact Nat.div_add_mod k n⟩

theorem Flat.mk' {I : Imm} {n : Nat} {es : List (List Tree)} {vs : List Value} (hn : ∀ e ∈ es, e.length = n) (len : vs.length = es.length * n)
    (val : ∀ (i j : Nat) e t, es[i]? = some e → e[j]? = some t → ∃ v, vs[i * n + j]? = some v ∧ TR I t v ∧ v.oneCell' = true) : Flat I n es vs := by
  refine ⟨len, val, fun v hv => ?_⟩
  obtain ⟨k, hk⟩ := List.getElem?_of_mem hv
  have hkl := getElem_lt hk
  rw [len] at hkl
  obtain ⟨h1, h2, h3⟩ := flat_mul hkl
  have he : es[k / n]? = some es[k / n] := List.getElem?_eq_getElem h1
  have hel := hn _ (List.mem_of_getElem? he)
  have ht : (es[k / n])[k % n]? = some ((es[k / n])[k % n]'(by omega)) := List.getElem?_eq_getElem (by omega)
  obtain ⟨v', h4, h5, h6⟩ := val _ _ _ _ he ht
  rw [h3, hk] at h4
  cases h4; exact h6

theorem Flat.append {I : Imm} {n : Nat} {es fs : List (List Tree)} {vs us : List Value} (hn : ∀ e ∈ es, e.length = n) (hn' : ∀ e ∈ fs, e.length = n) (h : Flat I n es vs) (h' : Flat I n fs us) : Flat I n (es ++ fs) (vs ++ us) := by
  refine .mk' (fun e he => ?_) (by simp [h.len, h'.len, Nat.add_mul]) fun i j e t he ht => ?_
  · rcases List.mem_append.1 he with he | he
    · exact hn e he
    · exact hn' e he
  · by_cases hi : i < es.length
    · rw [List.getElem?_append_left hi] at he
      obtain ⟨v, h1, h2⟩ := h.val i j e t he ht
      exact ⟨v, by rw [List.getElem?_append_left (getElem_lt h1)]; exact h1, h2⟩
    · rw [List.getElem?_append_right (by omega)] at he
      obtain ⟨v, h1, h2⟩ := h'.val (i - es.length) j e t he ht
      refine ⟨v, ?_, h2⟩
      have hm : es.length * n ≤ i * n := Nat.mul_le_mul_right n (by omega)
      rw [List.getElem?_append_right (by rw [h.len]; omega), h.len]
      rw [Nat.sub_mul] at h1
      rw [← h1]; congr 1; omega

theorem elems_cells {γ : G} {g : Look} {w : World} {x : AV} {u : Value} {es : List (List Tree)} {n : Nat} (h : HR γ g w) (hx : elems g x = some es) (hv : VR γ g x u) (hn : ∀ e ∈ es, e.length = n) :
    ∃ a cap vs, u = .slice a es.length cap ∧ es.length ≤ cap ∧ Flat γ.imm n es vs ∧ ∀ (j : Nat) v, vs[j]? = some v → ∃ b o, a = some ⟨b, o, none⟩ ∧ w.cell? ⟨b, o + j, none⟩ = some v := by
  have arr : ∀ (id s ver lo len : Nat) (frz : Bool) (es0 : List (List Tree)) (b : Nat), g id = some (.arr s ver frz es0) → γ.β id = some b → cut es0 lo len = some es →
      ∃ vs, Flat γ.imm n es vs ∧ ∀ (j : Nat) v, vs[j]? = some v → len ≠ 0 ∧ w.cell? ⟨b, lo * s + j, none⟩ = some v := by
    intro id s ver lo len frz es0 b hg hb hc
    obtain ⟨o, ho, hor⟩ := h.obj id b hb
    rw [hg] at ho; cases ho
    obtain ⟨⟨c, ty, fr, h1, h2, h3, h4, h5, h6, h7⟩, _⟩ := hor
    have hlen := cut_length hc
    have hcs := cut_some hc
    have hget : ∀ (i : Nat) e, es[i]? = some e → es0[lo + i]? = some e := fun i e he => by
      have hi : i < len := by have := getElem_lt he; omega
      rw [cut_get hc hi] at he; exact he
    by_cases he : es = []
    · subst he
      exact ⟨[], .mk' hn (by simp) (fun _ _ _ _ hh => by simp at hh), fun j v hj => by simp at hj⟩
    · obtain ⟨e0, he0⟩ := List.exists_mem_of_ne_nil es he
      obtain ⟨i0, hi0⟩ := List.getElem?_of_mem he0
      have hsn : s = n := by rw [← hn e0 he0, h5 e0 (List.mem_of_getElem? (hget i0 e0 hi0))]
      subst hsn
      have hbig : (lo + len) * s ≤ es0.length * s := Nat.mul_le_mul_right s hcs.1
      rw [Nat.add_mul] at hbig
      refine ⟨(c.toList.drop (lo * s)).take (len * s), .mk' hn (by simp [hlen]; omega) (fun i j e t hie hjt => ?_), fun j v hj => ?_⟩
      · have hi : i < len := by have := getElem_lt hie; omega
        have hjl : j < s := by have := getElem_lt hjt; rw [hn e (List.mem_of_getElem? hie)] at this; exact this
        have hlt := mul_lt_of hi (k := j + 1) (s := s) (by omega)
        have hval : c[(lo + i) * s + j]? = some (c[(lo + i) * s + j]'(by rw [Nat.add_mul]; omega)) := Array.getElem?_eq_getElem _
        refine ⟨_, ?_, h6 (lo + i) j e t _ (hget i e hie) hjt hval⟩
        rw [List.getElem?_take_of_lt (by omega), List.getElem?_drop, Array.getElem?_toList, ← hval]
        congr 1; rw [Nat.add_mul]; omega
      · have hjl : j < len * s := by have := getElem_lt hj; simp at this; omega
        rw [List.getElem?_take_of_lt hjl, List.getElem?_drop, Array.getElem?_toList] at hj
        exact ⟨fun h0 => by rw [h0] at hjl; simp at hjl, by rw [cell_cells h1]; exact hj⟩
  cases x with
  | t x =>
    obtain ⟨nl, clip, rfl⟩ : ∃ nl clip, x = .sl nl clip es := by
      cases x <;> simp only [elems, reduceCtorEq, Option.some.injEq] at hx
      subst hx; exact ⟨_, _, rfl⟩
    have hvt := hv.of_tree
    cases hvt with
    | sl _ _ _ a cap s val h0 h1 h2 h3 h4 h5 h6 =>
      by_cases he : es = []
      · subst he
        exact ⟨a, cap, [], rfl, h4, .mk' hn (by simp) (fun _ _ _ _ hh => by simp at hh), fun j v hj => by simp at hj⟩
      · have hnl : nl = false := by
          cases nl with
          | false => rfl
          | true => exact absurd (h0 rfl).2.1 he
        obtain ⟨_, b, o, ha, hc⟩ := h1 hnl
        have ha := ha he
        subst ha
        obtain ⟨e0, he0⟩ := List.exists_mem_of_ne_nil es he
        have hsn : s = n := by rw [← hn e0 he0, h2 e0 he0]
        subst hsn
        refine ⟨_, cap, (List.range (es.length * s)).map fun k => val (k / s) (k % s), rfl, h4, .mk' hn (by simp) (fun i j e t hie hjt => ?_), fun k v hk => ⟨b, o, rfl, ?_⟩⟩
        · have hi := getElem_lt hie
          have hj : j < s := by have := getElem_lt hjt; rw [hn e (List.mem_of_getElem? hie)] at this; exact this
          have hlt := mul_lt_of hi (k := j + 1) (s := s) (by omega)
          refine ⟨val i j, ?_, h3 i j e t hie hjt, h6 i j e t hie hjt⟩
          rw [List.getElem?_map, List.getElem?_range (by omega)]
          have e1 : (i * s + j) / s = i := by rw [Nat.mul_comm, Nat.mul_add_div (by omega), Nat.div_eq_of_lt hj]; rfl
          have e2 : (i * s + j) % s = j := by rw [Nat.mul_comm, Nat.mul_add_mod, Nat.mod_eq_of_lt hj]
          simp [e1, e2]
        · have hkl := getElem_lt hk
          simp at hkl
          rw [List.getElem?_map, List.getElem?_range hkl] at hk
          simp at hk
          subst hk
          obtain ⟨g1, g2, g3⟩ := flat_mul hkl
          have hee : es[k / s]? = some es[k / s] := List.getElem?_eq_getElem g1
          have hel := hn _ (List.mem_of_getElem? hee)
          have htt : (es[k / s])[k % s]? = some ((es[k / s])[k % s]'(by omega)) := List.getElem?_eq_getElem (by omega)
          have := h.imm _ _ _ (hc _ _ _ _ hee htt)
          rw [Nat.add_assoc, g3] at this
          exact this
  | hs id ver =>
    obtain ⟨s, frz, hg⟩ := elems_hs hx
    cases hv with
    | hs _ _ a len cap ho hh =>
      obtain ⟨b, s', hb, hd, rfl, hle, hsz⟩ := hh (cur_arr hg)
      rw [dims_arr hg] at hd; cases hd
      obtain ⟨vs, f1, f2⟩ := arr id s ver 0 es.length frz es b hg hb (cut_all es)
      exact ⟨_, cap, vs, rfl, hle, f1, fun j v hj => ⟨b, 0, rfl, by have := (f2 j v hj).2; simpa using this⟩⟩
  | hsub id ver lo len =>
    obtain ⟨s, frz, es0, hg, hc⟩ := elems_hsub hx
    cases hv with
    | hsub _ _ _ _ a cap ho hh =>
      obtain ⟨b, s', n', hb, hd, hlc, hlo, ha⟩ := hh (cur_arr hg)
      rw [dims_arr hg] at hd; cases hd
      have hl := cut_length hc
      obtain ⟨vs, f1, f2⟩ := arr id s ver lo len frz es0 b hg hb hc
      exact ⟨some a, cap, vs, by rw [hl], by omega, f1, fun j v hj => ⟨b, lo * s, by rw [ha (f2 j v hj).1], (f2 j v hj).2⟩⟩
  | _ => simp [elems] at hx

theorem byteCells_len (s : List Nat) : ∀ e ∈ byteCells s, e.length = 1 := fun e he => by
  unfold byteCells at he
  obtain ⟨b, _, rfl⟩ := List.mem_map.1 he
  rfl

theorem flat_bytes (I : Imm) (s : List Nat) : Flat I 1 (byteCells s) (s.map fun b : Nat => Value.int .u8 (b : Int)) := by
  refine .mk' (byteCells_len s) (by simp [byteCells]) fun i j e t he ht => ?_
  unfold byteCells at he
  rw [List.getElem?_map] at he
  cases hb : s[i]? with
  | none => rw [hb] at he; cases he
  | some b =>
    rw [hb] at he
    cases he
    have hj : j = 0 := by have := getElem_lt ht; simp at this; exact this
    subst hj
    cases ht
    exact ⟨.int .u8 b, by simp [hb], .int _ _, rfl⟩

theorem mkS_bytes {s : List Nat} (h : ∀ b ∈ s, b < 256) : ((mkS s).data.map fun b => Value.int .u8 b.toNat) = (s.map fun b : Nat => Value.int .u8 (b : Int)).toArray := by
  apply Array.ext'
  simp only [mkS, Array.toList_map, List.map_map]
  apply List.map_congr_left
  intro b hb
  simp [UInt8.toNat_ofNat', Nat.mod_eq_of_lt (h b hb)]

/-- What is put behind a slice, as the model reads it. -/
theorem added_cells {P : Program} {γ : G} {g : Look} {w : World} {x : AV} {u : Value} {new : List (List Tree)} {n : Nat} (h : HR γ g w) (hx : added g x = some new) (hv : VR γ g x u) (hn : ∀ e ∈ new, e.length = n) :
    (∀ w' : World, (Builtin.lenOf u).run P w' = .ok new.length w') ∧ ∃ vs, Flat γ.imm n new vs ∧
      ∀ w' : World, (∀ b o, w'.cell? ⟨b, o, none⟩ = w.cell? ⟨b, o, none⟩) → (Builtin.firstCells n new.length u).run P w' = .ok vs.toArray w' := by
  unfold added at hx
  split at hx
  · rename_i s
    cases hx
    obtain ⟨rfl, hb⟩ := hv.of_tree.str_inv
    refine ⟨fun w' => by simp [Builtin.lenOf, mkS_size, byteCells], s.map fun b : Nat => Value.int .u8 (b : Int), ?_, fun w' _ => ?_⟩
    · by_cases h0 : s = []
      · subst h0; exact .mk' hn (by simp [byteCells]) (fun _ _ _ _ hh => by simp [byteCells] at hh)
      · obtain ⟨e, he⟩ := List.exists_mem_of_ne_nil (byteCells s) (by unfold byteCells; simpa using h0)
        have : n = 1 := by rw [← hn e he, byteCells_len s e he]
        subst this
        exact flat_bytes _ s
    · have hl : (byteCells s).length = s.length := by simp [byteCells]
      simp only [Builtin.firstCells, hl, Sem.run_pure]
      rw [mkS_extract, List.take_length, List.drop_zero, mkS_bytes hb]
  · obtain ⟨a, cap, vs, rfl, hle, f1, f2⟩ := elems_cells h hx hv hn
    refine ⟨fun w' => rfl, vs, f1, fun w' hw => ?_⟩
    cases a with
    | none =>
      have : vs = [] := by
        cases vs with
        | nil => rfl
        | cons v vs => obtain ⟨b, o, hh, _⟩ := f2 0 v rfl; cases hh
      subst this
      exact run_firstCells_none w' _ _ _ _
    | some a =>
      refine run_firstCells_some w' n new.length a new.length cap vs f1.len fun j v hj => ?_
      obtain ⟨b, o, ha, hc⟩ := f2 j v hj
      cases ha
      rw [addr_add, hw]; exact hc

/-! ### append -/

theorem small_spec {P : Program} {t : TypeId} {n : Nat} (h : small P t n = true) : ∃ i z, P.info? t = some i ∧ i.bytes ≤ 8192 ∧ n < 4294967296 ∧ i.zero = some z ∧ z.cells.size = i.size := by
  unfold small at h
  split at h
  · rename_i i hi
    simp at h
    obtain ⟨⟨h1, h2⟩, h3⟩ := h
    unfold zeroFits at h3
    split at h3
    · rename_i z hz
      exact ⟨i, z, info_eq hi, h1, h2, hz, by have := Nat.eq_of_beq_eq_true h3; simpa using this⟩
    · cases h3
  · cases h

theorem noInt_spec {P : Program} {t : TypeId} (h : noInt P t = true) : ∃ d, und P t = some d ∧ (∀ k, d ≠ .int k) := by
  unfold noInt at h
  split at h
  · cases h
  · rename_i d h1 hd; exact ⟨d, hd, fun k hk => by subst hk; exact h1 k rfl⟩
  · cases h

theorem grownCap_ge (w : World) (need old : Nat) (e : TypeId) : need ≤ grownCap w need old e := by
  unfold grownCap Question.cut
  exact Nat.le_add_right _ _

theorem run_grow {P : Program} {w : World} {t t' ty elem : TypeId} {n m sLen sCap : Nat} {base : Option Addr} {ux : Value} {i : TypeInfo} {z : Value} {olds news : List Value} (hu : und P t = some (.slice elem))
    (hi : P.info? elem = some i) (hz : i.zero = some z) (hs : i.size = n) (ht' : noInt P t' = true) (hb : i.bytes ≤ 8192) (hneed : sLen + m < 4294967296)
    (hl : ∀ w' : World, (Builtin.lenOf ux).run P w' = .ok m w') (ho : (Builtin.firstCells n sLen (.slice base sLen sCap)).run P w.drew = .ok olds.toArray w.drew)
    (hn : (Builtin.firstCells n m ux).run P w.drew = .ok news.toArray w.drew) (hg : sCap < sLen + m) :
    (Builtin.append_ #[t, t'] ty #[.slice base sLen sCap, ux]).run P w =
      .ok (.slice (some ⟨w.heap.size, 0, none⟩) (sLen + m) (grownCap w (sLen + m) sCap elem))
        (w.drew.alloc (.cells (olds.toArray ++ news.toArray ++ Builtin.zeroCells z.cells (grownCap w (sLen + m) sCap elem - (sLen + m))) elem)) := by
  have hnc := nextslicecap_le hg
  have hnb : Builtin.nextslicecap (sLen + m) sCap * i.bytes ≤ (2 * (sLen + m)) * 8192 := Nat.mul_le_mul hnc hb
  have h1 : ¬ (sLen + m ≤ sCap) := by omega
  have h63 : ¬ (9223372036854775807 < ((sLen : Int) + (m : Int))) := by omega
  have h48 : ¬ (281474976710656 < Builtin.nextslicecap (sLen + m) sCap * i.bytes) := by omega
  obtain ⟨d, hd, hk⟩ := noInt_spec ht'
  subst hs
  simp [Builtin.append_, run_und hu, run_und hd, sizeOf, typeInfo, zeroValue, hi, hz, hl, h1, h63, h48, Question.forced, ho, hn, newRow, grownCap]
  congr 2
  apply Array.ext'
  simp [List.append_assoc]

theorem run_room {P : Program} {w : World} {t t' ty elem : TypeId} {n m sLen sCap : Nat} {base : Option Addr} {ux : Value} {i : TypeInfo} {news : List Value} (hu : und P t = some (.slice elem))
    (hi : P.info? elem = some i) (hs : i.size = n) (ht' : noInt P t' = true) (hl : ∀ w' : World, (Builtin.lenOf ux).run P w' = .ok m w')
    (hn : (Builtin.firstCells n m ux).run P w = .ok news.toArray w) (hg : sLen + m ≤ sCap) :
    (Builtin.append_ #[t, t'] ty #[.slice base sLen sCap, ux]).run P w =
      ((match base with | some a => storeCells (a.add (sLen * n)) news | none => pure ()).run P w).andThen fun _ w' => .ok (.slice base (sLen + m) sCap) w' := by
  obtain ⟨d, hd, hk⟩ := noInt_spec ht'
  subst hs
  cases base with
  | none => simp [Builtin.append_, run_und hu, run_und hd, sizeOf, typeInfo, hi, hl, hg, hn]
  | some a => simp [Builtin.append_, run_und hu, run_und hd, sizeOf, typeInfo, hi, hl, hg, hn]

/-- An object that has moved to a new block. -/
theorem move_block {γ : G} {g : Look} {w w' : World} {id n : Nat} {o : Obj} {X : Go.Obj} (e : Ext γ g (γ.new id w.heap.size n) (upd g [(id, o)])) (h : HR γ g w)
    (hw : w'.heap = w.heap.push X) (ho : OR (γ.new id w.heap.size n) (upd g [(id, o)]) w' id w.heap.size o) (hso : w'.os = w.os ∧ w'.output = w.output := by exact ⟨rfl, rfl⟩) :
    HR (γ.new id w.heap.size n) (upd g [(id, o)]) w' ∧ Fr γ w (γ.new id w.heap.size n) w' := by
  have hold : ∀ b, b < w.heap.size → w'.heap[b]? = w.heap[b]? := fun b hb => by
    rw [hw, Array.getElem?_push]; simp [Nat.ne_of_lt hb]
  refine ⟨⟨fun i b hb => ?_, fun i i' b hb hb' => ?_, fun b i v hv => ?_⟩, ⟨by rw [hw]; simp, fun b hb _ => hold b hb, fun i b hb => ?_, fun b i v hv => .inl hv, hso⟩⟩
  · by_cases hid : i = id
    · subst hid
      simp [G.new] at hb; subst hb
      exact ⟨o, by rw [upd_one, if_pos rfl], ho⟩
    · simp [G.new, hid] at hb
      obtain ⟨x, hx, hor⟩ := h.obj i b hb
      exact ⟨x, by rw [upd_one, if_neg hid]; exact hx, hor.mono e (hold b hor.lt) (by simp [G.new, hid]) (fun _ => rfl)⟩
  · by_cases hid : i = id <;> by_cases hid' : i' = id
    · rw [hid, hid']
    · simp [G.new, hid] at hb; simp [G.new, hid'] at hb'
      subst hb
      have := h.lt hb'; omega
    · simp [G.new, hid'] at hb'; simp [G.new, hid] at hb
      subst hb'
      have := h.lt hb; omega
    · simp [G.new, hid] at hb; simp [G.new, hid'] at hb'
      exact h.inj i i' b hb hb'
  · have hc := h.imm b i v hv
    rw [cell_of_heap (hold b (lt_of_cell hc))]; exact hc
  · by_cases hid : i = id
    · simp [G.new, hid] at hb; exact .inl (by omega)
    · simp [G.new, hid] at hb; exact .inr ⟨i, hb⟩

/-- An object that has been written to where it lies. -/
theorem write_block {γ : G} {g : Look} {w w' : World} {id b : Nat} {o' : Obj} (e : Ext γ g γ (upd g [(id, o')])) (h : HR γ g w) (hb : γ.β id = some b) (himm : ∀ i, γ.imm b i = none)
    (hw : ∀ b', b' ≠ b → w'.heap[b']? = w.heap[b']?) (hsz : w'.heap.size = w.heap.size) (ho : OR γ (upd g [(id, o')]) w' id b o') (hso : w'.os = w.os ∧ w'.output = w.output := by first | exact ⟨rfl, rfl⟩ | exact setCells_same _ _ _ _) : HR γ (upd g [(id, o')]) w' ∧ Fr γ w γ w' := by
  refine ⟨⟨fun i b' hib => ?_, h.inj, fun b' o v hv => ?_⟩, ⟨by omega, fun b' _ hn => hw b' (fun hh => hn id (by rw [hh]; exact hb)), fun i b' hib => .inr ⟨i, hib⟩, fun _ _ _ hv => .inl hv, hso⟩⟩
  · by_cases hi : i = id
    · subst hi
      rw [hb] at hib; cases hib
      exact ⟨o', by rw [upd_one, if_pos rfl], ho⟩
    · obtain ⟨x, hx, hor⟩ := h.obj i b' hib
      have hbb : b' ≠ b := fun hh => hi (h.inj i id b (hh ▸ hib) hb)
      exact ⟨x, by rw [upd_one, if_neg hi]; exact hx, hor.mono e (hw b' hbb) rfl (fun _ => rfl)⟩
  · have hbb : b' ≠ b := fun hh => by rw [hh, himm] at hv; cases hv
    rw [cell_of_heap (hw b' hbb)]; exact h.imm b' o v hv

theorem Flat.cells {γ : G} {n : Nat} {es : List (List Tree)} {vs : List Value} {c : Array Value} (h : Flat γ.imm n es vs) (hn : ∀ e ∈ es, e.length = n) (hc : ∀ k, k < es.length * n → c[k]? = vs[k]?) :
    ∀ (i j : Nat) e t v, es[i]? = some e → e[j]? = some t → c[i * n + j]? = some v → TR γ.imm t v ∧ v.oneCell' = true := by
  intro i j e t v he ht hv
  obtain ⟨v', h1, h2⟩ := h.val i j e t he ht
  have hlt := mul_lt_of (getElem_lt he) (k := j + 1) (s := n) (by have := getElem_lt ht; rw [hn e (List.mem_of_getElem? he)] at this; omega)
  rw [hc _ (by omega), h1] at hv
  cases hv; exact h2

theorem sim_append {P : Program} {γ : G} {g : Look} {w : World} {nid : Nat} {t t' ty : TypeId} {s x v : AV} {us ux : Value} {p : Patch} (h : HR γ g w) (hn : (∃ o, (nid, o) ∈ p) → γ.β nid = none) (hg : (∃ o, (nid, o) ∈ p) → g nid = none)
    (hs : VR γ g s us) (hx : VR γ g x ux) (ha : append P g nid t t' s x = some (.val v, p)) : Good γ g w p v ((Builtin.append_ #[t, t'] ty #[us, ux]).run P w) := by
  unfold append at ha
  split at ha
  · rename_i elem hu
    split at ha
    · rename_i new n hadd hsz hni
      obtain ⟨i, hi, hin⟩ := sizeOf_eq hsz
      split at ha
      · rename_i nl clip es
        have hst := hs.of_tree
        split at ha
        · -- nothing is put behind it
          cases ha
          obtain ⟨hl, vs, hf, hfc⟩ := added_cells (P := P) (n := n) h hadd hx (fun e he => by cases he)
          have hv0 : vs = [] := List.eq_nil_of_length_eq_zero (by rw [hf.len]; simp)
          subst hv0
          cases hst with
          | sl _ _ _ a cap s0 val h0 h1 h2 h3 h4 h5 h6 =>
            rw [run_room (news := []) hu hi hin hni hl (hfc w fun _ _ => rfl) (by simpa using h4)]
            have : ((match a with | some a => storeCells (a.add (es.length * n)) [] | none => pure ()).run P w : Result Unit) = .ok () w := by cases a <;> rfl
            rw [this]
            exact .pure h (.t _ _ (.sl nl clip es a cap s0 val h0 h1 h2 h3 h4 h5 h6))
        · rename_i e new
          split at ha
          · rename_i hh
            obtain ⟨rfl, hln, hhl, hsm, hpos⟩ := hh
            cases ha
            obtain ⟨i', z, hi', hb, hlt, hz, hzs⟩ := small_spec hsm
            rw [hi] at hi'; cases hi'
            have hnew := lens_spec hln
            have hes := headLen_of hst hhl
            obtain ⟨hl, vs, hf, hfc⟩ := added_cells (P := P) (n := n) h hadd hx hnew
            have hlen_new : (e :: new).length ≠ 0 := by simp
            cases hst with
            | sl _ _ _ a cap s0 val h0 h1 h2 h3 h4 h5 h6 =>
              have hcap := h5 rfl
              subst hcap
              obtain ⟨a', cap', olds, hua, hle, hfo, hco⟩ := elems_cells (n := n) h (x := .t (.sl nl true es)) rfl (.t _ _ (.sl nl true es a _ s0 val h0 h1 h2 h3 h4 h5 h6)) hes
              cases hua
              have hro : (Builtin.firstCells n es.length (.slice a es.length es.length)).run P w.drew = .ok olds.toArray w.drew := by
                cases a with
                | none =>
                  have : olds = [] := by
                    cases olds with
                    | nil => rfl
                    | cons v vs => obtain ⟨b, o, hh, _⟩ := hco 0 v rfl; cases hh
                  subst this
                  exact run_firstCells_none _ _ _ _ _
                | some a =>
                  refine run_firstCells_some _ n es.length a _ _ olds hfo.len fun j v hj => ?_
                  obtain ⟨b, o, ha, hc⟩ := hco j v hj
                  cases ha
                  rw [addr_add]; exact hc
              rw [run_grow (olds := olds) (news := vs) (ty := ty) (z := z) hu hi hz hin hni hb hlt hl hro (hfc _ fun _ _ => rfl) (by omega)]
              have hge := grownCap_ge w (es.length + (e :: new).length) es.length elem
              have hall : ∀ x ∈ es ++ e :: new, x.length = n := fun x hx => by
                rcases List.mem_append.1 hx with hx | hx
                · exact hes x hx
                · exact hnew x hx
              have hflat := hfo.append hes hnew hf
              have := new_arr (nid := nid) (s := n) (cap := grownCap w (es.length + (e :: new).length) es.length elem) (es := es ++ e :: new)
                (c := olds.toArray ++ vs.toArray ++ Builtin.zeroCells z.cells (grownCap w (es.length + (e :: new).length) es.length elem - (es.length + (e :: new).length))) (ty := elem) (fr := (0, 0)) (hn ⟨_, .head _⟩) (hg ⟨_, .head _⟩) h
                (w' := w.drew.alloc (.cells (olds.toArray ++ vs.toArray ++ Builtin.zeroCells z.cells (grownCap w (es.length + (e :: new).length) es.length elem - (es.length + (e :: new).length))) elem)) rfl
                (unfrozen_zero _) hall (by rw [List.length_append]; exact hge)
                (by
                  simp only [Array.size_append, List.size_toArray, size_zeroCells, hfo.len, hf.len, hzs, hin]
                  rw [← Nat.add_mul, ← Nat.add_mul]; congr 1; omega)
                (hflat.cells hall fun k hk => by
                  have hk2 : k < (olds ++ vs).length := by rw [hflat.len]; exact hk
                  rw [Array.getElem?_append_left (by simpa using hk2)]
                  simp)
              rw [List.length_append] at this
              exact this
          · cases ha
      · rename_i id ver
        split at ha
        · rename_i s0 ver' es hgid
          split at ha
          · rename_i hh
            obtain ⟨rfl, rfl, hln, hsm, hpos⟩ := hh
            cases ha
            obtain ⟨i', z, hi', hb, hlt, hz, hzs⟩ := small_spec hsm
            rw [hi] at hi'; cases hi'
            have hnew := lens_spec hln
            obtain ⟨hl, vs, hf, hfc⟩ := added_cells (P := P) (n := s0) h hadd hx hnew
            cases hs with
            | hs _ _ a len cap ho hh =>
              obtain ⟨b, s', hbid, hd, rfl, hle, hcs⟩ := hh (cur_arr hgid)
              rw [dims_arr hgid] at hd; cases hd
              obtain ⟨o, ho', hor⟩ := h.obj id b hbid
              rw [hgid] at ho'; cases ho'
              obtain ⟨⟨c, tc, fr, k1, k2, k3, k4, k5, k6, k7⟩, k8⟩ := hor
              have k8 := k8 rfl
              have hcur' : ∀ es', cur (upd g [(id, .arr s0 (ver + 1) false es')]) id = some (ver + 1) := fun es' => by unfold cur; rw [upd_one, if_pos rfl]
              have hdim' : ∀ es', dims (upd g [(id, .arr s0 (ver + 1) false es')]) id = some (s0, es'.length) := fun es' => by unfold dims; rw [upd_one, if_pos rfl]
              have hext : ∀ (γ' : G) es', γ'.imm = γ.imm → (∀ i, i ≠ id → γ'.β i = γ.β i ∧ γ'.sz i = γ.sz i) → Ext γ g γ' (upd g [(id, .arr s0 (ver + 1) false es')]) := fun γ' es' him hsame => by
                refine ⟨by rw [him]; exact .refl _, fun i b hb hc => ?_, fun i c hc => ?_⟩
                · have hne : i ≠ id := fun e => by rw [e, cur_arr hgid] at hc; cases hc
                  exact ⟨by rw [(hsame i hne).1]; exact hb, by rw [cur_upd hne]; exact hc⟩
                · by_cases hi : i = id
                  · subst hi
                    rw [cur_arr hgid] at hc; cases hc
                    exact ⟨ver + 1, hcur' es', by omega, fun hh => by omega⟩
                  · exact ⟨c, by rw [cur_upd hi]; exact hc, Nat.le_refl _, fun _ => ⟨(hsame i hi).1, (hsame i hi).2, dims_upd hi⟩⟩
              have hall : ∀ x ∈ es ++ new, x.length = s0 := fun x hx => by
                rcases List.mem_append.1 hx with hx | hx
                · exact k5 x hx
                · exact hnew x hx
              by_cases hroom : es.length + new.length ≤ cap
              · rw [run_room (news := vs) hu hi hin hni hl (hfc w fun _ _ => rfl) hroom]
                have hspace : es.length * s0 + vs.length ≤ c.size := by
                  rw [hf.len, k3, ← Nat.add_mul]
                  exact Nat.le_trans (Nat.mul_le_mul_right s0 hroom) hcs
                have hst := run_storeCells_cells (P := P) b (es.length * s0) vs 0 w (fun j hj => cell_some k1 (by omega)) (fun j hj => frozen_cells k1 k2 (by omega)) hf.one
                obtain ⟨c', s1, s2, s3, s4, s5⟩ := setCells_heap b tc fr vs (es.length * s0) w c k1 hspace
                have e := hext γ (es ++ new) rfl (fun _ _ => ⟨rfl, rfl⟩)
                obtain ⟨h', f'⟩ := write_block (w' := w.setCells b (es.length * s0) vs) e h hbid k8 s4 s5
                  ⟨⟨c', tc, fr, s1, by rw [s2]; exact k2, by rw [s2]; exact k3, by rw [s2, List.length_append, Nat.add_mul]; rw [hf.len] at hspace; exact hspace, hall,
                    fun i j e t v he ht hv => by
                      have hlt := mul_lt_of (getElem_lt he) (k := j + 1) (s := s0) (by have := getElem_lt ht; rw [hall e (List.mem_of_getElem? he)] at this; omega)
                      rw [s3] at hv
                      by_cases hie : i < es.length
                      · rw [List.getElem?_append_left hie] at he
                        have hlt2 := mul_lt_of hie (k := j + 1) (s := s0) (by have := getElem_lt ht; rw [k5 e (List.mem_of_getElem? he)] at this; omega)
                        rw [if_neg (by omega)] at hv
                        exact k6 i j e t v he ht hv
                      · rw [List.getElem?_append_right (by omega)] at he
                        obtain ⟨v', g1, g2⟩ := hf.val (i - es.length) j e t he ht
                        have hm : es.length * s0 ≤ i * s0 := Nat.mul_le_mul_right s0 (by omega)
                        have hgl := getElem_lt g1
                        rw [Nat.sub_mul] at g1 hgl
                        rw [if_pos (by omega)] at hv
                        have : i * s0 + j - es.length * s0 = i * s0 - es.length * s0 + j := by omega
                        rw [this, g1] at hv
                        cases hv; exact g2,
                    fun hf => by cases hf⟩, fun _ => k8⟩
                refine ⟨.slice (some ⟨b, 0, none⟩) (es.length + new.length) cap, w.setCells b (es.length * s0) vs, γ, ?_, e, h', ?_, f'⟩
                · simp only [addr_add, Nat.zero_add]
                  rw [hst]
                  simp only [Nat.add_zero, Result.andThen_ok]
                · have : es.length + new.length = (es ++ new).length := by simp
                  rw [this]
                  refine .hs id (ver + 1) _ _ cap ⟨ver + 1, hcur' _, Nat.le_refl _⟩ fun _ => ⟨b, s0, hbid, hdim' _, rfl, by simpa using hroom, hcs⟩
              · obtain ⟨a', cap', olds, hua, hle', hfo, hco⟩ := elems_cells (n := s0) h (x := .hs id ver) (es := es) (by simp [elems, hgid]) (VR.hs id ver ⟨b, 0, none⟩ es.length cap ho hh) k5
                cases hua
                have hro : (Builtin.firstCells s0 es.length (.slice (some ⟨b, 0, none⟩) es.length cap)).run P w.drew = .ok olds.toArray w.drew := by
                  refine run_firstCells_some _ s0 es.length _ _ _ olds hfo.len fun j v hj => ?_
                  obtain ⟨b', o', ha, hc⟩ := hco j v hj
                  cases ha
                  rw [addr_add]; exact hc
                rw [run_grow (olds := olds) (news := vs) (ty := ty) (z := z) hu hi hz hin hni hb hlt hl hro (hfc _ fun _ _ => rfl) (by omega)]
                have hge := grownCap_ge w (es.length + new.length) cap elem
                have hflat := hfo.append k5 hnew hf
                generalize hC : olds.toArray ++ vs.toArray ++ Builtin.zeroCells z.cells (grownCap w (es.length + new.length) cap elem - (es.length + new.length)) = C
                have hCs : C.size = grownCap w (es.length + new.length) cap elem * s0 := by
                  rw [← hC]
                  simp only [Array.size_append, List.size_toArray, size_zeroCells, hfo.len, hf.len, hzs, hin]
                  rw [← Nat.add_mul, ← Nat.add_mul]; congr 1; omega
                have e := hext (γ.new id w.heap.size C.size) (es ++ new) rfl (fun i hi => by simp [G.new, hi])
                obtain ⟨h', f'⟩ := move_block (w' := w.drew.alloc (.cells C elem)) (X := .cells C elem) e h rfl
                  ⟨⟨C, elem, (0, 0), by
                      show (w.heap.push (.cells C elem))[w.heap.size]? = _
                      rw [Array.getElem?_push]; simp, unfrozen_zero _, by simp [G.new], by
                      rw [hCs, List.length_append]; exact Nat.mul_le_mul_right s0 hge, hall,
                    hflat.cells hall fun k hk => by
                      have hk2 : k < (olds ++ vs).length := by rw [hflat.len]; exact hk
                      rw [← hC, Array.getElem?_append_left (by simpa using hk2)]
                      simp,
                    fun hf => by cases hf⟩, fun _ o => imm_none_new h o⟩
                refine ⟨_, _, _, rfl, e, h', ?_, f'⟩
                have : es.length + new.length = (es ++ new).length := by simp
                rw [this] at hge ⊢
                refine .hs id (ver + 1) _ _ _ ⟨ver + 1, hcur' _, Nat.le_refl _⟩ fun _ => ⟨w.heap.size, s0, by simp [G.new], hdim' _, rfl, hge, ?_⟩
                simp [G.new, hCs]
          · cases ha
        · cases ha
      · cases ha
    · cases ha
  · cases ha

end Go.Ab
