/- A call: the part of the heap that goes along, and what comes back. -/
import Derived.Test.YtchkgfmmfdineaaGreatAbOps7
namespace Go.Ab

/-- The blocks that were there at first are as they were, and none of them is the evaluator's. -/
def Base (w0 : World) (γ : G) (w : World) : Prop := w0.heap.size ≤ w.heap.size ∧ ∀ b, b < w0.heap.size → w.heap[b]? = w0.heap[b]? ∧ ∀ id, γ.β id ≠ some b

theorem Base.mono {w0 : World} {γ γ' : G} {w w' : World} (h : Base w0 γ w) (f : Fr γ w γ' w') : Base w0 γ' w' := by
  refine ⟨Nat.le_trans h.1 f.size, fun b hb => ⟨?_, fun id hid => ?_⟩⟩
  · rw [f.keep b (by have := h.1; omega) (h.2 b hb).2]; exact (h.2 b hb).1
  · rcases f.rng id b hid with h1 | ⟨i, h1⟩
    · have := h.1; omega
    · exact (h.2 b hb).2 i h1

/-- What stays of the first objects, whatever becomes of their versions. -/
structure Keep (m : Nat) (γ : G) (g : Look) (γ' : G) (g' : Look) : Prop where
  box : ∀ id b, id < m → γ.β id = some b → cur g id = none → γ'.β id = some b ∧ cur g' id = none
  arr : ∀ id, id < m → cur g id ≠ none → cur g' id ≠ none

theorem Ext.keep {γ γ' : G} {g g' : Look} (e : Ext γ g γ' g') (m : Nat) : Keep m γ g γ' g' := by
  refine ⟨fun id b _ hb hc => e.box id b hb hc, fun id _ hc => ?_⟩
  cases h : cur g id with
  | none => exact absurd h hc
  | some c => obtain ⟨c', h1, _⟩ := e.arr id c h; rw [h1]; simp

theorem Keep.trans {m : Nat} {γ₁ γ₂ γ₃ : G} {g₁ g₂ g₃ : Look} (h : Keep m γ₁ g₁ γ₂ g₂) (h' : Keep m γ₂ g₂ γ₃ g₃) : Keep m γ₁ g₁ γ₃ g₃ := by
  refine ⟨fun id b hm hb hc => ?_, fun id hm hc => h'.arr id hm (h.arr id hm hc)⟩
  obtain ⟨h1, h2⟩ := h.box id b hm hb hc
  exact h'.box id b hm h1 h2

/-- How a call ends. -/
def Ends (γ : G) (g : Look) : Out → Ending → Prop
  | .val v, .returned u => VR γ g v u
  | .pan v, .panicked chain => ∃ u, chain = [{ v := u, recovered := false }] ∧ VR γ g v u
  | _, _ => False

/-- What is promised of a call. -/
def CallOK (P : Program) (w0 : World) (f : FuncId) (args : List AV) (h : Heap) (out : Out) (h' : Heap) : Prop :=
  ∀ (γ : G) (w : World) (vs : List Value), HR γ (nth h) w → Base w0 γ w → VRs γ (nth h) args vs →
    Calls P f vs.toArray w fun e w' => ∃ γ', HR γ' (nth h') w' ∧ Fr γ w γ' w' ∧ ImmLe γ.imm γ'.imm ∧ Keep h.length γ (nth h) γ' (nth h') ∧ Ends γ' (nth h') out e

def OracleOK (P : Program) (w0 : World) (ρ : Oracle) : Prop := ∀ f args h out h', ρ f args h = some (out, h') → CallOK P w0 f args h out h'

/-! ### Renumbering -/

theorem mem_place {n : Nat} : ∀ {l : List Nat}, mem n l = true → l[place n l]? = some n
  | [], h => by simp [mem] at h
  | a :: l, h => by
    unfold mem at h
    unfold place
    split at h
    · rename_i hb
      have := Nat.eq_of_beq_eq_true hb
      subst this
      simp
    · rename_i hb
      simp [mem_place h]

theorem mem_iff {n : Nat} : ∀ {l : List Nat}, mem n l = true ↔ n ∈ l
  | [] => by simp [mem]
  | a :: l => by
    unfold mem
    cases hb : Nat.beq a n with
    | true => have := Nat.eq_of_beq_eq_true hb; subst this; simp
    | false =>
      have := Nat.ne_of_beq_eq_false hb
      simp [mem_iff (l := l), Ne.symm this]

theorem reach_nodup {g : Look} : ∀ (n : Nat) (todo acc r : List Nat), reach g n todo acc = some r → acc.Nodup → r.Nodup
  | 0, _, _, _, h, _ => by simp [reach] at h
  | _ + 1, [], acc, r, h, hn => by simp [reach] at h; subst h; exact hn
  | n + 1, id :: todo, acc, r, h, hn => by
    unfold reach at h
    split at h
    · exact reach_nodup n _ _ _ h hn
    · rename_i hm
      split at h
      · refine reach_nodup n _ _ _ h ?_
        rw [List.nodup_append]
        refine ⟨hn, by simp, fun a ha b hb => ?_⟩
        simp at hb
        subst hb
        intro e
        subst e
        have := mem_iff.2 ha
        rw [this] at hm; cases hm
      · cases h

theorem sub1_spec {g : Look} {ids : List Nat} : ∀ {l : List Nat} {h : Heap}, sub1 g ids l = some h → h.length = l.length ∧ ∀ (k id : Nat), l[k]? = some id → ∃ o, g id = some o ∧ h[k]? = some (renO g ids o)
  | [], h, hs => by simp [sub1] at hs; subst hs; exact ⟨rfl, fun k id hk => by simp at hk⟩
  | i :: l, h, hs => by
    unfold sub1 at hs
    split at hs
    · cases hs
    · rename_i o ho
      split at hs
      · cases hs
      · rename_i os hos
        cases hs
        obtain ⟨h1, h2⟩ := sub1_spec hos
        refine ⟨by simp [h1], fun k id hk => ?_⟩
        cases k with
        | zero => simp at hk; subst hk; exact ⟨o, ho, rfl⟩
        | succ k => simpa using h2 k id (by simpa using hk)

/-- The callee's view of where things lie. -/
def G.sub (γ : G) (ids : List Nat) : G :=
  { β := fun k => match ids[k]? with
      | some id => γ.β id
      | none => none
    sz := fun k => γ.sz (ids.getD k 0)
    imm := γ.imm }

theorem cur_renO {g g' : Look} {ids : List Nat} {o : Obj} {id k : Nat} (h : g id = some o) (h' : g' k = some (renO g ids o)) :
    (cur g id = none → cur g' k = none) ∧ (∀ c, cur g id = some c → cur g' k = some 0) ∧ (cur g id ≠ none → dims g' k = dims g id) ∧ (cur g' k ≠ none → cur g id ≠ none) := by
  unfold cur dims
  rw [h, h']
  cases o <;> simp [renO]

theorem ren_VR {γ : G} {g : Look} {ids : List Nat} {h : Heap} (hs : Ab.sub g ids = some h) : ∀ (d : Nat) {x : AV} {u : Value}, VR γ g x u → VR (γ.sub ids) (nth h) (ren g ids d x) u
  | 0, _, u, _ => .unk u
  | d + 1, x, u, hv => by
    obtain ⟨hlen, hspec⟩ := sub1_spec hs
    have look : ∀ {id : Nat}, mem id ids = true → ∃ o, g id = some o ∧ nth h (place id ids) = some (renO g ids o) ∧ ids[place id ids]? = some id := fun {id} hm => by
      have hp := mem_place hm
      obtain ⟨o, h1, h2⟩ := hspec _ _ hp
      exact ⟨o, h1, by rw [nth_eq]; exact h2, hp⟩
    have hβ : ∀ {id : Nat}, ids[place id ids]? = some id → (γ.sub ids).β (place id ids) = γ.β id := fun {id} hp => by simp only [G.sub, hp]
    have hsz : ∀ {id : Nat}, ids[place id ids]? = some id → (γ.sub ids).sz (place id ids) = γ.sz id := fun {id} hp => by simp only [G.sub, List.getD, hp, Option.getD_some]
    cases hv with
    | t x v hh => exact .t x u hh
    | nov => exact .nov
    | unk v => exact .unk _
    | box id off b hb hc =>
      cases hm : mem id ids with
      | false => simp only [ren, hm, cond_false]; exact .unk _
      | true =>
        simp only [ren, hm, cond_true]
        obtain ⟨o, h1, h2, h3⟩ := look hm
        exact .box _ off b (by rw [hβ h3]; exact hb) ((cur_renO h1 h2).1 hc)
    | el id ver i off a ho hh =>
      cases hm : (fresh g id ver && mem id ids) with
      | false => simp only [ren, hm, cond_false]; exact .unk _
      | true =>
        simp only [ren, hm, cond_true]
        simp only [Bool.and_eq_true] at hm
        obtain ⟨hf, hm⟩ := hm
        have hcu := fresh_iff.1 hf
        obtain ⟨o, h1, h2, h3⟩ := look hm
        obtain ⟨_, c2, c3, _⟩ := cur_renO h1 h2
        have hc0 := c2 _ hcu
        refine .el _ 0 i off a ⟨0, hc0, Nat.le_refl _⟩ fun _ => ?_
        obtain ⟨b, s, n, a1, a2, a3⟩ := hh hcu
        exact ⟨b, s, n, by rw [hβ h3]; exact a1, by rw [c3 (by rw [hcu]; simp)]; exact a2, a3⟩
    | rp cs b o val h1 h2 => exact .rp cs b o val h1 h2
    | hs id ver a n cap ho hh =>
      cases hm : (fresh g id ver && mem id ids) with
      | false => simp only [ren, hm, cond_false]; exact .unk _
      | true =>
        simp only [ren, hm, cond_true]
        simp only [Bool.and_eq_true] at hm
        obtain ⟨hf, hm⟩ := hm
        have hcu := fresh_iff.1 hf
        obtain ⟨o, h1, h2, h3⟩ := look hm
        obtain ⟨_, c2, c3, _⟩ := cur_renO h1 h2
        have hc0 := c2 _ hcu
        refine .hs _ 0 a n cap ⟨0, hc0, Nat.le_refl _⟩ fun _ => ?_
        obtain ⟨b, s, a1, a2, a3, a4, a5⟩ := hh hcu
        exact ⟨b, s, by rw [hβ h3]; exact a1, by rw [c3 (by rw [hcu]; simp)]; exact a2, a3, a4, by rw [hsz h3]; exact a5⟩
    | hsub id ver lo len a cap ho hh =>
      cases hm : (fresh g id ver && mem id ids) with
      | false => simp only [ren, hm, cond_false]; exact .unk _
      | true =>
        simp only [ren, hm, cond_true]
        simp only [Bool.and_eq_true] at hm
        obtain ⟨hf, hm⟩ := hm
        have hcu := fresh_iff.1 hf
        obtain ⟨o, h1, h2, h3⟩ := look hm
        obtain ⟨_, c2, c3, _⟩ := cur_renO h1 h2
        have hc0 := c2 _ hcu
        refine .hsub _ 0 lo len a cap ⟨0, hc0, Nat.le_refl _⟩ fun _ => ?_
        obtain ⟨b, s, n, a1, a2, a3, a4, a5⟩ := hh hcu
        exact ⟨b, s, n, by rw [hβ h3]; exact a1, by rw [c3 (by rw [hcu]; simp)]; exact a2, a3, a4, a5⟩
    | agg cs vs hl hh =>
      refine .agg (cs.map (ren g ids d)) vs (by simpa using hl) fun i c v hc hv => ?_
      rw [List.getElem?_map] at hc
      cases hci : cs[i]? with
      | none => rw [hci] at hc; cases hc
      | some c0 => rw [hci] at hc; cases hc; exact ren_VR hs d (hh i c0 v hci hv)
    | fn f as bs us vs hl hl' hh hh' =>
      refine .fn f (as.map (ren g ids d)) (bs.map (ren g ids d)) us vs (by simpa using hl) (by simpa using hl') (fun i c v hc hv => ?_) (fun i c v hc hv => ?_)
      · rw [List.getElem?_map] at hc
        cases hci : as[i]? with
        | none => rw [hci] at hc; cases hc
        | some c0 => rw [hci] at hc; cases hc; exact ren_VR hs d (hh i c0 v hci hv)
      · rw [List.getElem?_map] at hc
        cases hci : bs[i]? with
        | none => rw [hci] at hc; cases hc
        | some c0 => rw [hci] at hc; cases hc; exact ren_VR hs d (hh' i c0 v hci hv)
    | tup cs vs hl hh =>
      refine .tup (cs.map (ren g ids d)) vs (by simpa using hl) fun i c v hc hv => ?_
      rw [List.getElem?_map] at hc
      cases hci : cs[i]? with
      | none => rw [hci] at hc; cases hc
      | some c0 => rw [hci] at hc; cases hc; exact ren_VR hs d (hh i c0 v hci hv)

theorem VRs.map {γ γ' : G} {g g' : Look} {f : AV → AV} (hf : ∀ x u, VR γ g x u → VR γ' g' (f x) u) {xs : List AV} {vs : List Value} (h : VRs γ g xs vs) : VRs γ' g' (xs.map f) vs := by
  refine ⟨by simpa using h.1, fun i x v hx hv => ?_⟩
  rw [List.getElem?_map] at hx
  cases hi : xs[i]? with
  | none => rw [hi] at hx; cases hx
  | some y => rw [hi] at hx; cases hx; exact hf _ _ (h.2 i y v hi hv)

theorem renL_VRs {γ : G} {g : Look} {ids : List Nat} {h : Heap} (hs : Ab.sub g ids = some h) {xs : List AV} {vs : List Value} (hv : VRs γ g xs vs) : VRs (γ.sub ids) (nth h) (renL g ids xs) vs :=
  hv.map fun _ _ hx => ren_VR hs depth hx

theorem renO_OR {γ : G} {g : Look} {w : World} {ids : List Nat} {h : Heap} (hs : Ab.sub g ids = some h) {id k b : Nat} {o : Obj} (hk : ids[k]? = some id) (ho : OR γ g w id b o) :
    OR (γ.sub ids) (nth h) w k b (renO g ids o) := by
  have hsz : (γ.sub ids).sz k = γ.sz id := by simp only [G.sub, List.getD, hk, Option.getD_some]
  cases o with
  | box cs =>
    obtain ⟨⟨c, ty, fr, h1, h2, h3⟩, h4⟩ := ho
    exact ⟨⟨c, ty, fr, h1, h2, renL_VRs hs h3⟩, h4⟩
  | arr s ver frz es =>
    obtain ⟨⟨c, ty, fr, h1, h2, h3, h4, h5, h6, h7⟩, h8⟩ := ho
    exact ⟨⟨c, ty, fr, h1, h2, h3.trans hsz.symm, h4, h5, h6, h7⟩, h8⟩
  | marr s ver es =>
    obtain ⟨⟨c, ty, fr, h1, h2, h3, h4, h5, h6⟩, h8⟩ := ho
    refine ⟨⟨c, ty, fr, h1, h2, h3.trans hsz.symm, by simpa using h4, fun e he => ?_, fun i j e t v he ht hv => ?_⟩, h8⟩
    · obtain ⟨e0, he0, rfl⟩ := List.mem_map.1 he
      simp [renL, h5 e0 he0]
    · rw [List.getElem?_map] at he
      cases hi : es[i]? with
      | none => rw [hi] at he; cases he
      | some e0 =>
        rw [hi] at he; cases he
        unfold renL at ht
        rw [List.getElem?_map] at ht
        cases hj : e0[j]? with
        | none => rw [hj] at ht; cases ht
        | some t0 => rw [hj] at ht; cases ht; exact ren_VR hs depth (h6 i j e0 t0 v hi hj hv)
  | siter s pos => exact ho
  | dead => exact ho

theorem sub_HR {γ : G} {g : Look} {w : World} {ids : List Nat} {h : Heap} (hr : HR γ g w) (hs : Ab.sub g ids = some h) (hn : ids.Nodup) : HR (γ.sub ids) (nth h) w := by
  obtain ⟨hlen, hspec⟩ := sub1_spec hs
  refine ⟨fun k b hb => ?_, fun k k' b hb hb' => ?_, hr.imm⟩
  · cases hk : ids[k]? with
    | none => simp only [G.sub, hk] at hb; cases hb
    | some id =>
      simp only [G.sub, hk] at hb
      obtain ⟨o, ho, hor⟩ := hr.obj id b hb
      obtain ⟨o', ho', hh⟩ := hspec k id hk
      rw [ho] at ho'; cases ho'
      exact ⟨renO g ids o, by rw [nth_eq]; exact hh, renO_OR hs hk hor⟩
  · cases hk : ids[k]? with
    | none => simp only [G.sub, hk] at hb; cases hb
    | some id =>
      cases hk' : ids[k']? with
      | none => simp only [G.sub, hk'] at hb'; cases hb'
      | some id' =>
        simp only [G.sub, hk] at hb
        simp only [G.sub, hk'] at hb'
        have := hr.inj id id' b hb hb'
        subst this
        have h1 := getElem_lt hk
        have h2 := getElem_lt hk'
        rw [List.getElem?_eq_getElem h1] at hk
        rw [List.getElem?_eq_getElem h2] at hk'
        exact (List.getElem_inj hn).1 (by rw [Option.some.inj hk, Option.some.inj hk'])

/-! ### The way back -/

/-- Where things lie behind the call, for the caller. -/
structure Back (y : Way) (γ : G) (γ' : G) (g' : Look) : Prop where
  β : ∀ k b, γ.β k = some b → γ'.β (y.id k) = some b
  none : ∀ k, cur y.g k = none → (∃ b, γ.β k = some b) → cur g' (y.id k) = none
  cur : ∀ k c, cur y.g k = some c → cur g' (y.id k) = some (y.ver k)
  dims : ∀ k c, Ab.cur y.g k = some c → dims g' (y.id k) = Ab.dims y.g k ∧ γ'.sz (y.id k) = γ.sz k
  imm : γ'.imm = γ.imm

theorem back_VR {y : Way} {γ γ' : G} {g' : Look} (hb : Back y γ γ' g') : ∀ (d : Nat) {x : AV} {u : Value}, VR γ y.g x u → VR γ' g' (back y d x) u
  | 0, _, u, _ => .unk u
  | d + 1, x, u, hv => by
    cases hv with
    | t x v hh => exact .t x u (by rw [hb.imm]; exact hh)
    | nov => exact .nov
    | unk v => exact .unk _
    | box k off b hk hc => exact .box _ off b (hb.β k b hk) (hb.none k hc ⟨b, hk⟩)
    | el k ver i off a ho hh =>
      cases hm : fresh y.g k ver with
      | false => simp only [back, hm, cond_false]; exact .unk _
      | true =>
        simp only [back, hm, cond_true]
        have hcu := fresh_iff.1 hm
        have hc := hb.cur k ver hcu
        refine .el _ _ i off a ⟨_, hc, Nat.le_refl _⟩ fun _ => ?_
        obtain ⟨b, s, n, a1, a2, a3⟩ := hh hcu
        exact ⟨b, s, n, hb.β k b a1, by rw [(hb.dims k ver hcu).1]; exact a2, a3⟩
    | rp cs b o val h1 h2 => exact .rp cs b o val (by rw [hb.imm]; exact h1) (by rw [hb.imm]; exact h2)
    | hs k ver a n cap ho hh =>
      cases hm : fresh y.g k ver with
      | false => simp only [back, hm, cond_false]; exact .unk _
      | true =>
        simp only [back, hm, cond_true]
        have hcu := fresh_iff.1 hm
        have hc := hb.cur k ver hcu
        refine .hs _ _ a n cap ⟨_, hc, Nat.le_refl _⟩ fun _ => ?_
        obtain ⟨b, s, a1, a2, a3, a4, a5⟩ := hh hcu
        exact ⟨b, s, hb.β k b a1, by rw [(hb.dims k ver hcu).1]; exact a2, a3, a4, by rw [(hb.dims k ver hcu).2]; exact a5⟩
    | hsub k ver lo len a cap ho hh =>
      cases hm : fresh y.g k ver with
      | false => simp only [back, hm, cond_false]; exact .unk _
      | true =>
        simp only [back, hm, cond_true]
        have hcu := fresh_iff.1 hm
        have hc := hb.cur k ver hcu
        refine .hsub _ _ lo len a cap ⟨_, hc, Nat.le_refl _⟩ fun _ => ?_
        obtain ⟨b, s, n, a1, a2, a3, a4, a5⟩ := hh hcu
        exact ⟨b, s, n, hb.β k b a1, by rw [(hb.dims k ver hcu).1]; exact a2, a3, a4, a5⟩
    | agg cs vs hl hh =>
      refine .agg (cs.map (back y d)) vs (by simpa using hl) fun i c v hc hv => ?_
      rw [List.getElem?_map] at hc
      cases hci : cs[i]? with
      | none => rw [hci] at hc; cases hc
      | some c0 => rw [hci] at hc; cases hc; exact back_VR hb d (hh i c0 v hci hv)
    | fn f as bs us vs hl hl' hh hh' =>
      refine .fn f (as.map (back y d)) (bs.map (back y d)) us vs (by simpa using hl) (by simpa using hl') (fun i c v hc hv => ?_) (fun i c v hc hv => ?_)
      · rw [List.getElem?_map] at hc
        cases hci : as[i]? with
        | none => rw [hci] at hc; cases hc
        | some c0 => rw [hci] at hc; cases hc; exact back_VR hb d (hh i c0 v hci hv)
      · rw [List.getElem?_map] at hc
        cases hci : bs[i]? with
        | none => rw [hci] at hc; cases hc
        | some c0 => rw [hci] at hc; cases hc; exact back_VR hb d (hh' i c0 v hci hv)
    | tup cs vs hl hh =>
      refine .tup (cs.map (back y d)) vs (by simpa using hl) fun i c v hc hv => ?_
      rw [List.getElem?_map] at hc
      cases hci : cs[i]? with
      | none => rw [hci] at hc; cases hc
      | some c0 => rw [hci] at hc; cases hc; exact back_VR hb d (hh i c0 v hci hv)

theorem backO_OR {y : Way} {γ γ' : G} {g' : Look} {w : World} (hb : Back y γ γ' g') {k b : Nat} {o : Obj} (hk : y.g k = some o) (ho : OR γ y.g w k b o) :
    OR γ' g' w (y.id k) b (backO y (y.ver k) o) := by
  cases o with
  | box cs =>
    obtain ⟨⟨c, ty, fr, h1, h2, h3⟩, h4⟩ := ho
    exact ⟨⟨c, ty, fr, h1, h2, h3.map fun _ _ hx => back_VR hb depth hx⟩, by rw [hb.imm]; exact h4⟩
  | arr s ver frz es =>
    obtain ⟨⟨c, ty, fr, h1, h2, h3, h4, h5, h6, h7⟩, h8⟩ := ho
    have hsz := (hb.dims k ver (cur_arr hk)).2
    exact ⟨⟨c, ty, fr, h1, h2, h3.trans hsz.symm, h4, h5, by rw [hb.imm]; exact h6, by rw [hb.imm]; exact h7⟩, by rw [hb.imm]; exact h8⟩
  | marr s ver es =>
    obtain ⟨⟨c, ty, fr, h1, h2, h3, h4, h5, h6⟩, h8⟩ := ho
    have hsz := (hb.dims k ver (by unfold cur; rw [hk])).2
    refine ⟨⟨c, ty, fr, h1, h2, h3.trans hsz.symm, by simpa using h4, fun e he => ?_, fun i j e t v he ht hv => ?_⟩, by rw [hb.imm]; exact h8⟩
    · obtain ⟨e0, he0, rfl⟩ := List.mem_map.1 he
      simp [backL, h5 e0 he0]
    · rw [List.getElem?_map] at he
      cases hi : es[i]? with
      | none => rw [hi] at he; cases he
      | some e0 =>
        rw [hi] at he; cases he
        unfold backL at ht
        rw [List.getElem?_map] at ht
        cases hj : e0[j]? with
        | none => rw [hj] at ht; cases ht
        | some t0 => rw [hj] at ht; cases ht; exact back_VR hb depth (h6 i j e0 t0 v hi hj hv)
  | siter s pos => exact ⟨ho.1, by rw [hb.imm]; exact ho.2⟩
  | dead => exact ho

theorem backAll_mem {y : Way} : ∀ (k : Nat) (os : List Obj) (i : Nat) (o : Obj), (i, o) ∈ backAll y k os ↔ ∃ j x, os[j]? = some x ∧ i = y.id (k + j) ∧ o = backO y (y.ver (k + j)) x
  | k, [], i, o => by simp [backAll]
  | k, x :: os, i, o => by
    simp only [backAll, List.mem_cons, Prod.mk.injEq, backAll_mem (k + 1) os i o]
    constructor
    · rintro (⟨rfl, rfl⟩ | ⟨j, x', h1, h2, h3⟩)
      · exact ⟨0, x, rfl, rfl, rfl⟩
      · exact ⟨j + 1, x', by simpa using h1, by rw [h2]; congr 1; omega, by rw [h3]; congr 2; omega⟩
    · rintro ⟨j, x', h1, h2, h3⟩
      cases j with
      | zero => simp at h1; subst h1; exact .inl ⟨h2, h3⟩
      | succ j => exact .inr ⟨j, x', by simpa using h1, by rw [h2]; congr 1; omega, by rw [h3]; congr 2; omega⟩

theorem versOf_get {g : Look} : ∀ {ids : List Nat} {k id : Nat}, ids[k]? = some id → getN (versOf g ids) k = verOf (g id)
  | [], k, id, h => by simp at h
  | i :: ids, 0, id, h => by simp at h; subst h; rfl
  | i :: ids, k + 1, id, h => by
    have := versOf_get (g := g) (ids := ids) (k := k) (id := id) (by simpa using h)
    simpa [versOf, getN, nth] using this

theorem getN_eq {l : List Nat} {k x : Nat} (h : l[k]? = some x) : getN l k = x := by
  unfold getN; rw [nth_eq, h]; rfl

theorem place_get {n k : Nat} : ∀ {l : List Nat}, l.Nodup → l[k]? = some n → place n l = k ∧ mem n l = true := by
  intro l hn hk
  have hm : mem n l = true := mem_iff.2 (List.mem_of_getElem? hk)
  have hp := mem_place hm
  refine ⟨?_, hm⟩
  have h1 := getElem_lt hk
  have h2 := getElem_lt hp
  rw [List.getElem?_eq_getElem h1] at hk
  rw [List.getElem?_eq_getElem h2] at hp
  exact (List.getElem_inj hn).1 (by rw [Option.some.inj hk, Option.some.inj hp])

/-- Where things lie for the caller, behind the call. -/
def G.back (γ γ' : G) (ids : List Nat) (nid : Nat) (fresh : Nat → Bool) : G :=
  { β := fun i => if fresh i = true then γ'.β (ids.length + (i - nid)) else if mem i ids = true then γ'.β (place i ids) else γ.β i
    sz := fun i => if fresh i = true then γ'.sz (ids.length + (i - nid)) else if mem i ids = true then γ'.sz (place i ids) else γ.sz i
    imm := γ'.imm }

theorem cur_backO {y : Way} {g' : Look} {k : Nat} {o : Obj} {i ver : Nat} (h : y.g k = some o) (h' : g' i = some (backO y ver o)) :
    (cur y.g k = none → cur g' i = none) ∧ (∀ c, cur y.g k = some c → cur g' i = some ver) ∧ (cur y.g k ≠ none → dims g' i = dims y.g k) := by
  unfold cur dims
  rw [h, h']
  cases o <;> simp [backO]

/-- What comes back of a call, in the caller's heap. -/
theorem sim_back {γ γ' : G} {g : Look} {w w' : World} {ids : List Nat} {nid : Nat} {h h' : Heap} (hr : HR γ g w) (hn : ids.Nodup) (hs : Ab.sub g ids = some h)
    (hr' : HR γ' (nth h') w') (hf : Fr (γ.sub ids) w γ' w') (hi : ImmLe γ.imm γ'.imm) (hkeep : Keep h.length (γ.sub ids) (nth h) γ' (nth h'))
    (hnew : ∀ j, ids.length + j < h'.length → γ.β (nid + j) = none ∧ g (nid + j) = none) :
    ∃ γ'', Ext γ g γ'' (upd g (backAll ⟨nth h', ids.length, ids, versOf g ids, nid⟩ 0 h')) ∧ HR γ'' (upd g (backAll ⟨nth h', ids.length, ids, versOf g ids, nid⟩ 0 h')) w' ∧ Fr γ w γ'' w' ∧
      ∀ v u, VR γ' (nth h') v u → VR γ'' (upd g (backAll ⟨nth h', ids.length, ids, versOf g ids, nid⟩ 0 h')) (back ⟨nth h', ids.length, ids, versOf g ids, nid⟩ depth v) u := by
  obtain ⟨hl, hspec⟩ := sub1_spec hs
  generalize hy : (⟨nth h', ids.length, ids, versOf g ids, nid⟩ : Way) = y
  have yg : y.g = nth h' := by rw [← hy]
  have ylo : ∀ k id, ids[k]? = some id → y.id k = id := fun k id hk => by
    have := getElem_lt hk
    rw [← hy]; unfold Way.id
    have hb : Nat.blt k ids.length = true := by rw [Nat.blt_eq]; exact this
    simp only [hb, cond_true]
    exact getN_eq hk
  have yhi : ∀ k, ids.length ≤ k → y.id k = nid + (k - ids.length) := fun k hk => by
    rw [← hy]; unfold Way.id
    have hb : Nat.blt k ids.length = false := by
      cases hb : Nat.blt k ids.length with
      | false => rfl
      | true => rw [Nat.blt_eq] at hb; omega
    simp only [hb, cond_false]
  have yver : ∀ k id, ids[k]? = some id → y.ver k = verOf (g id) := fun k id hk => by
    have := getElem_lt hk
    rw [← hy]; unfold Way.ver
    have hb : Nat.blt k ids.length = true := by rw [Nat.blt_eq]; exact this
    simp only [hb, cond_true]
    exact versOf_get hk
  -- which numbers are new
  let isnew : Nat → Bool := fun i => decide (nid ≤ i ∧ ids.length + (i - nid) < h'.length)
  have hnewi : ∀ i, isnew i = true → γ.β i = none ∧ g i = none ∧ mem i ids = false ∧ y.id (ids.length + (i - nid)) = i := fun i hi => by
    have hi := of_decide_eq_true hi
    obtain ⟨h1, h2⟩ := hnew (i - nid) hi.2
    have : nid + (i - nid) = i := by omega
    rw [this] at h1 h2
    refine ⟨h1, h2, ?_, ?_⟩
    · cases hm : mem i ids with
      | false => rfl
      | true =>
        obtain ⟨o, ho, _⟩ := hspec _ _ (mem_place hm)
        rw [ho] at h2; cases h2
    · rw [yhi _ (by omega)]; omega
  -- every number of the answer's heap is an old one or a new one
  have hcase : ∀ k o, h'[k]? = some o → (∃ id, ids[k]? = some id ∧ y.id k = id ∧ isnew id = false ∧ mem id ids = true ∧ place id ids = k) ∨
      (ids.length ≤ k ∧ isnew (y.id k) = true ∧ ids.length + (y.id k - nid) = k) := fun k o hk => by
    have hk' := getElem_lt hk
    rcases Nat.lt_or_ge k ids.length with hlt | hge
    · have hid : ids[k]? = some ids[k] := List.getElem?_eq_getElem hlt
      refine .inl ⟨ids[k], hid, ylo _ _ hid, ?_, (place_get hn hid).2, (place_get hn hid).1⟩
      cases hx : isnew ids[k] with
      | false => rfl
      | true =>
        have := (hnewi _ hx).2.2.1
        rw [(place_get hn hid).2] at this; cases this
    · have he := yhi k hge
      refine .inr ⟨hge, decide_eq_true ?_, ?_⟩
      · rw [he]; exact ⟨by omega, by have : ids.length + (nid + (k - ids.length) - nid) = k := by omega
                                     rw [this]; exact hk'⟩
      · rw [he]; omega
  have yinj : ∀ k k' o o', h'[k]? = some o → h'[k']? = some o' → y.id k = y.id k' → k = k' := fun k k' o o' hk hk' he => by
    rcases hcase k o hk with ⟨id, a1, a2, a3, a4, a5⟩ | ⟨a1, a2, a3⟩ <;> rcases hcase k' o' hk' with ⟨id', b1, b2, b3, b4, b5⟩ | ⟨b1, b2, b3⟩
    · rw [← a5, ← b5, ← a2, ← b2, he]
    · rw [← he, a2, a3] at b2; cases b2
    · rw [he, b2, b3] at a2; cases a2
    · rw [← a3, ← b3, he]
  have look : ∀ k o, h'[k]? = some o → upd g (backAll y 0 h') (y.id k) = some (backO y (y.ver k) o) := fun k o hk => by
    refine mem_upd (fun o' ho' => ?_) (.inr ⟨_, (backAll_mem 0 h' _ _).2 ⟨k, o, hk, by simp, by simp; rfl⟩⟩)
    obtain ⟨j, x, h1, h2, h3⟩ := (backAll_mem 0 h' _ _).1 ho'
    simp only [Nat.zero_add] at h2 h3
    have := yinj k j o x hk h1 h2
    subst this
    rw [hk] at h1; cases h1
    exact h3
  have other : ∀ i, isnew i = false → mem i ids = false → upd g (backAll y 0 h') i = g i := fun i h1 h2 => by
    refine upd_not_mem fun o ho => ?_
    obtain ⟨j, x, a1, a2, a3⟩ := (backAll_mem 0 h' _ _).1 ho
    simp only [Nat.zero_add] at a2
    rcases hcase j x a1 with ⟨id, b1, b2, b3, b4, b5⟩ | ⟨b1, b2, b3⟩
    · rw [a2, b2, b4] at h2; cases h2
    · rw [a2, b2] at h1; cases h1
  let γ'' := γ.back γ' ids nid isnew
  have βk : ∀ k o, h'[k]? = some o → γ''.β (y.id k) = γ'.β k ∧ γ''.sz (y.id k) = γ'.sz k := fun k o hk => by
    rcases hcase k o hk with ⟨id, b1, b2, b3, b4, b5⟩ | ⟨b1, b2, b3⟩
    · simp [γ'', G.back, b2, b3, b4, b5]
    · simp [γ'', G.back, b2, b3]
  have hobj : ∀ k b, γ'.β k = some b → ∃ o, h'[k]? = some o ∧ OR γ' (nth h') w' k b o := fun k b hk => by
    obtain ⟨o, h1, h2⟩ := hr'.obj k b hk
    exact ⟨o, by rw [← nth_eq]; exact h1, h2⟩
  have hcurk : ∀ k c, cur y.g k = some c → ∃ o, h'[k]? = some o := fun k c hc => by
    rw [yg] at hc
    unfold cur at hc
    cases ho : nth h' k with
    | none => rw [ho] at hc; cases hc
    | some o => exact ⟨o, by rw [← nth_eq]; exact ho⟩
  have hb : Back y γ' γ'' (upd g (backAll y 0 h')) := by
    refine ⟨fun k b hk => ?_, fun k hc ⟨b, hk⟩ => ?_, fun k c hc => ?_, fun k c hc => ?_, rfl⟩
    · obtain ⟨o, ho, _⟩ := hobj k b hk
      rw [(βk k o ho).1]; exact hk
    · obtain ⟨o, ho, _⟩ := hobj k b hk
      exact (cur_backO (by rw [yg, nth_eq]; exact ho) (look k o ho)).1 hc
    · obtain ⟨o, ho⟩ := hcurk k c hc
      exact (cur_backO (by rw [yg, nth_eq]; exact ho) (look k o ho)).2.1 c hc
    · obtain ⟨o, ho⟩ := hcurk k c hc
      exact ⟨(cur_backO (by rw [yg, nth_eq]; exact ho) (look k o ho)).2.2 (by rw [hc]; simp), (βk k o ho).2⟩
  have hsubβ : ∀ {k id b : Nat}, ids[k]? = some id → ((γ.sub ids).β k = some b ↔ γ.β id = some b) := fun {k id b} hk => by simp only [G.sub, hk]
  have hsubr : ∀ k b, (γ.sub ids).β k = some b → ∃ id, ids[k]? = some id ∧ γ.β id = some b := fun k b hk => by
    cases hid : ids[k]? with
    | none => simp only [G.sub, hid] at hk; cases hk
    | some id => exact ⟨id, rfl, by simpa only [G.sub, hid] using hk⟩
  -- a block of the caller's own is none of the callee's
  have hown : ∀ i b, γ.β i = some b → mem i ids = false → ∀ k, (γ.sub ids).β k ≠ some b := fun i b hb hm k hk => by
    obtain ⟨id, h1, h2⟩ := hsubr k b hk
    have := hr.inj i id b hb h2
    subst this
    rw [mem_iff.2 (List.mem_of_getElem? h1)] at hm; cases hm
  have himm : ∀ i b, γ.β i = some b → mem i ids = false → ∀ o, γ'.imm b o = γ.imm b o := fun i b hb hm o => by
    cases hv : γ.imm b o with
    | some v => exact hi _ _ _ hv
    | none =>
      cases hv' : γ'.imm b o with
      | none => rfl
      | some v =>
        rcases hf.immr b o v hv' with h1 | h1 | ⟨k, h1⟩
        · have h1 : γ.imm b o = some v := h1
          rw [hv] at h1; cases h1
        · have := hr.lt hb; omega
        · exact absurd h1 (hown i b hb hm k)
  -- the three kinds of numbers
  have kinds : ∀ i b, γ''.β i = some b → (∃ k o, h'[k]? = some o ∧ y.id k = i ∧ γ'.β k = some b) ∨ (γ.β i = some b ∧ isnew i = false ∧ mem i ids = false) := fun i b hb => by
    cases h1 : isnew i with
    | true =>
      simp only [γ'', G.back, h1, if_true] at hb
      obtain ⟨o, ho, _⟩ := hobj _ _ hb
      exact .inl ⟨_, o, ho, (hnewi i h1).2.2.2, hb⟩
    | false =>
      cases h2 : mem i ids with
      | true =>
        simp only [γ'', G.back, h1, h2, if_true, Bool.false_eq_true, if_false] at hb
        obtain ⟨o, ho, _⟩ := hobj _ _ hb
        exact .inl ⟨_, o, ho, ylo _ _ (mem_place h2), hb⟩
      | false =>
        simp only [γ'', G.back, h1, h2, Bool.false_eq_true, if_false] at hb
        exact .inr ⟨hb, rfl, rfl⟩
  have notnew : ∀ i, (γ.β i ≠ none ∨ g i ≠ none) → isnew i = false := fun i hx => by
    cases h1 : isnew i with
    | false => rfl
    | true => rcases hx with hx | hx
              · exact absurd (hnewi i h1).1 hx
              · exact absurd (hnewi i h1).2.1 hx
  have ext : Ext γ g γ'' (upd g (backAll y 0 h')) := by
    refine ⟨hi, fun i b hib hc => ?_, fun i c hc => ?_⟩
    · have h1 := notnew i (.inl (by rw [hib]; simp))
      cases h2 : mem i ids with
      | false => exact ⟨by simp only [γ'', G.back, h1, h2, Bool.false_eq_true, if_false]; exact hib, by unfold cur; rw [other i h1 h2]; exact hc⟩
      | true =>
        have hp := mem_place h2
        obtain ⟨o, ho, hh⟩ := hspec _ _ hp
        have hlt := getElem_lt hh
        have hh' : nth h (place i ids) = some (renO g ids o) := by rw [nth_eq]; exact hh
        obtain ⟨hbk, c1⟩ := hkeep.box _ b hlt ((hsubβ hp).2 hib) ((cur_renO ho hh').1 hc)
        have e := ylo _ _ hp
        refine ⟨by have := hb.β _ b hbk; rw [e] at this; exact this, ?_⟩
        have := hb.none _ (by rw [yg]; exact c1) ⟨b, hbk⟩
        rw [e] at this; exact this
    · have hgi : g i ≠ none := fun e => by rw [cur_none_of e] at hc; cases hc
      have h1 := notnew i (.inr hgi)
      cases h2 : mem i ids with
      | false =>
        have e1 : γ''.β i = γ.β i := by simp only [γ'', G.back, h1, h2, Bool.false_eq_true, if_false]
        have e2 : γ''.sz i = γ.sz i := by simp only [γ'', G.back, h1, h2, Bool.false_eq_true, if_false]
        exact ⟨c, by unfold cur; rw [other i h1 h2]; exact hc, Nat.le_refl _, fun _ => ⟨e1, e2, by unfold dims; rw [other i h1 h2]⟩⟩
      | true =>
        have hp := mem_place h2
        obtain ⟨o, ho, hh⟩ := hspec _ _ hp
        have hlt := getElem_lt hh
        have hh' : nth h (place i ids) = some (renO g ids o) := by rw [nth_eq]; exact hh
        have c0 := (cur_renO ho hh').2.1 c hc
        have c1 := hkeep.arr _ hlt (by rw [c0]; simp)
        have e := ylo _ _ hp
        cases hc' : cur (nth h') (place i ids) with
        | none => exact absurd hc' c1
        | some c' =>
          have := hb.cur _ c' (by rw [yg]; exact hc')
          rw [e, yver _ _ hp] at this
          have hv : verOf (g i) = c + 1 := by
            unfold cur at hc
            unfold verOf
            split at hc
            · rename_i hg; rw [hg]; cases hc; rfl
            · rename_i hg; rw [hg]; cases hc; rfl
            · cases hc
          rw [hv] at this
          exact ⟨c + 1, this, by omega, fun he => by omega⟩
  refine ⟨γ'', ext, ⟨fun i b hib => ?_, fun i i' b hib hib' => ?_, hr'.imm⟩, ⟨hf.size, fun b hlt hne => ?_, fun i b hib => ?_, fun b o v hv => ?_, hf.same⟩, fun v u hv => back_VR hb depth (by rw [yg]; exact hv)⟩
  · rcases kinds i b hib with ⟨k, o, h1, h2, h3⟩ | ⟨h1, h2, h3⟩
    · obtain ⟨o', ho', hor⟩ := hobj k b h3
      rw [h1] at ho'; cases ho'
      subst h2
      exact ⟨_, look k o h1, backO_OR hb (by rw [yg, nth_eq]; exact h1) (by rw [yg]; exact hor)⟩
    · obtain ⟨o, ho, hor⟩ := hr.obj i b h1
      exact ⟨o, by rw [other i h2 h3]; exact ho, hor.mono ext (hf.keep b hor.lt (hown i b h1 h3)) (by simp only [γ'', G.back, h2, h3, Bool.false_eq_true, if_false]) (himm i b h1 h3)⟩
  · have cross : ∀ i j k, γ.β i = some b → mem i ids = false → γ'.β k = some b → i = j := fun i j k h1 h3 h4 => by
      rcases hf.rng k b h4 with h5 | ⟨k', h5⟩
      · have := hr.lt h1; omega
      · exact absurd h5 (hown i b h1 h3 k')
    rcases kinds i b hib with ⟨k, o, h1, h2, h3⟩ | ⟨h1, h2, h3⟩ <;> rcases kinds i' b hib' with ⟨k', o', h1', h2', h3'⟩ | ⟨h1', h2', h3'⟩
    · have := hr'.inj k k' b h3 h3'
      subst this
      rw [← h2, ← h2']
    · exact (cross i' i k h1' h3' h3).symm
    · exact cross i i' k' h1 h3 h3'
    · exact hr.inj i i' b h1 h1'
  · refine hf.keep b hlt fun k hk => ?_
    obtain ⟨id, h1, h2⟩ := hsubr k b hk
    exact hne id h2
  · rcases kinds i b hib with ⟨k, o, h1, h2, h3⟩ | ⟨h1, h2, h3⟩
    · rcases hf.rng k b h3 with h4 | ⟨k', h4⟩
      · exact .inl h4
      · obtain ⟨id, _, h6⟩ := hsubr k' b h4
        exact .inr ⟨id, h6⟩
    · exact .inr ⟨i, h1⟩
  · rcases hf.immr b o v hv with h1 | h1 | ⟨k, h1⟩
    · exact .inl h1
    · exact .inr (.inl h1)
    · obtain ⟨id, _, h6⟩ := hsubr k b h1
      exact .inr (.inr ⟨id, h6⟩)

end Go.Ab
