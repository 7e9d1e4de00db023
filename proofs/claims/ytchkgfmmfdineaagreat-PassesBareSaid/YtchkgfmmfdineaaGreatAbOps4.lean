/- Each operation of the evaluator does what the model's does: structs, slices, strings, capacity. -/
import Derived.Test.YtchkgfmmfdineaaGreatAbOps3
namespace Go.Ab

/-! ### Literals -/

theorem foldl_set (off : Nat) : ∀ (l : List Value) (k : Nat) (cells : Array Value), off + k + l.length ≤ cells.size →
    ((l.zipIdx k).foldl (fun cs (c, j) => cs.setIfInBounds (off + j) c) cells).size = cells.size ∧
      ∀ i, ((l.zipIdx k).foldl (fun cs (c, j) => cs.setIfInBounds (off + j) c) cells)[i]? = if off + k ≤ i ∧ i < off + k + l.length then l[i - (off + k)]? else cells[i]?
  | [], k, cells, _ => ⟨rfl, fun i => by rw [if_neg (by simp)]; rfl⟩
  | v :: l, k, cells, h => by
    simp only [List.zipIdx_cons, List.foldl_cons]
    simp at h
    obtain ⟨h1, h2⟩ := foldl_set off l (k + 1) (cells.setIfInBounds (off + k) v) (by simp; omega)
    refine ⟨by rw [h1]; simp, fun i => ?_⟩
    rw [h2 i]
    by_cases hi : i = off + k
    · subst hi
      rw [if_neg (by omega), if_pos (by simp)]
      simp [Array.getElem?_setIfInBounds]; omega
    · by_cases hio : off + (k + 1) ≤ i ∧ i < off + (k + 1) + l.length
      · rw [if_pos hio, if_pos (by simp; omega)]
        have : i - (off + k) = i - (off + (k + 1)) + 1 := by omega
        rw [this]; simp
      · rw [if_neg hio, if_neg (by simp; omega)]
        rw [Array.getElem?_setIfInBounds, if_neg (by omega)]

/-- The parts of a literal. -/
def VPs (γ : G) (g : Look) : List (Nat × AV) → List (Nat × Value) → Prop
  | [], [] => True
  | (i, x) :: xs, (j, v) :: vs => i = j ∧ VR γ g x v ∧ VPs γ g xs vs
  | _, _ => False

theorem VPs.mono {γ γ' : G} {g g' : Look} (e : Ext γ g γ' g') : ∀ {xs : List (Nat × AV)} {vs : List (Nat × Value)}, VPs γ g xs vs → VPs γ' g' xs vs
  | [], [], _ => trivial
  | (_, _) :: _, (_, _) :: _, h => ⟨h.1, h.2.1.mono e, VPs.mono e h.2.2⟩
  | [], (_, _) :: _, h => h.elim
  | (_, _) :: _, [], h => h.elim

theorem opdsI_VPs {γ : G} {g : Look} {T : Env} {a : Act} (h : ER γ g T a) : ∀ (l : List (Nat × Operand)), VPs γ g (opdsI T l) (l.map fun (i, x) => (i, a.eval x))
  | [] => trivial
  | (_, x) :: l => ⟨rfl, operand_VR h x, opdsI_VPs h l⟩

theorem opds_VRs {γ : G} {g : Look} {T : Env} {a : Act} (h : ER γ g T a) : ∀ (l : List Operand), VRs γ g (opds T l) (l.map a.eval)
  | [] => .nil
  | x :: l => .cons (operand_VR h x) (opds_VRs h l)

theorem sim_fill {P : Program} {γ : G} {g : Look} {places : List (Nat × Nat)} {pl : Nat → Option (Nat × Nat)} (hpl : ∀ i p, places[i]? = some p → pl i = some p) :
    ∀ {parts : List (Nat × AV)} {ps : List (Nat × Value)} {cells r : List AV} {zs : Array Value}, fillCells P places cells parts = some r → VPs γ g parts ps → VRs γ g cells zs.toList →
      ∃ zs', Instr.fill pl zs ps = some zs' ∧ VRs γ g r zs'.toList
  | [], [], cells, r, zs, h, _, hz => by simp [fillCells] at h; subst h; exact ⟨zs, rfl, hz⟩
  | (i, x) :: parts, (j, v) :: ps, cells, r, zs, h, hp, hz => by
    obtain ⟨rfl, hv, hp⟩ := hp
    unfold fillCells at h
    split at h
    · cases h
    · rename_i off size hpi
      split at h
      · rename_i cs hcs
        split at h
        · rename_i hh
          obtain ⟨hl, hle⟩ := hh
          have hvc := cellsOf_VR hcs hv
          have hcl := hvc.1
          have hzl := hz.1
          simp at hcl hzl
          rw [nth_eq] at hpi
          have hpl' := hpl i _ hpi
          have hle' : off + 0 + v.cells.toList.length ≤ zs.size := by simp; omega
          obtain ⟨f1, f2⟩ := foldl_set off v.cells.toList 0 zs hle'
          have hfold : v.cells.zipIdx.foldl (fun cs (c, j) => cs.setIfInBounds (off + j) c) zs = (v.cells.toList.zipIdx 0).foldl (fun cs (c, j) => cs.setIfInBounds (off + j) c) zs := by
            rw [← Array.foldl_toList, Array.toList_zipIdx]
          have hsp : VRs γ g (splice cells off cs) ((v.cells.toList.zipIdx 0).foldl (fun cs (c, j) => cs.setIfInBounds (off + j) c) zs).toList :=
            hz.splice hvc (by omega) f1 (fun i => by simpa using f2 i)
          obtain ⟨zs', g1, g2⟩ := sim_fill hpl h hp hsp
          refine ⟨zs', ?_, g2⟩
          unfold Instr.fill
          simp only [hpl']
          rw [if_neg (by simp; omega), hfold]
          exact g1
        · cases h
      · cases h
  | [], (_, _) :: _, _, _, _, _, hp, _ => hp.elim
  | (_, _) :: _, [], _, _, _, _, hp, _ => hp.elim

theorem run_places {P : Program} {w : World} : ∀ {fields : List Field} {l : List (Nat × Nat)}, placesOf P fields = some l →
    (fields.mapM (fun f => do pure (f.offset, ← sizeOf f.type) : Field → Sem (Nat × Nat))).run P w = .ok l w
  | [], l, h => by simp [placesOf] at h; subst h; simp
  | f :: fs, l, h => by
    unfold placesOf at h
    split at h
    · cases h
    · rename_i n hn
      split at h
      · cases h
      · rename_i l' hl'
        cases h
        have ih := run_places (w := w) hl'
        simp only [List.mapM_cons, Sem.run_bind, run_size hn, Result.andThen_ok, Sem.run_pure, ih]

theorem sim_build {P : Program} {γ : G} {g : Look} {w : World} {t : TypeId} {parts : List (Nat × AV)} {ps : Array (Nat × Value)} {v : AV} (h : HR γ g w) (hp : VPs γ g parts ps.toList)
    (hx : build P t parts = some v) : Good γ g w [] v ((Instr.build t ps).run P w) := by
  unfold build at hx
  split at hx
  · cases hx
  · rename_i zero hz
    obtain ⟨i, z, hi, hiz, hzv⟩ := zeroCells_VR (γ := γ) (g := g) hz
    split at hx
    · rename_i fields hu
      split at hx
      · rename_i places hpl
        simp only [Option.map_eq_some_iff] at hx
        obtain ⟨r, hr, rfl⟩ := hx
        have hm := run_places (w := w) hpl
        obtain ⟨zs', f1, f2⟩ := sim_fill (pl := (places.toArray[·]?)) (fun i p hh => by simpa using hh) hr hp hzv
        have hm' : (fields.mapM (fun f => do pure (f.offset, ← sizeOf f.type) : Field → Sem (Nat × Nat))).run P w = .ok places.toArray w := by
          rw [Array.mapM_eq_mapM_toList, Sem.run_map, hm]; rfl
        simp only [Instr.build, Sem.run_bind, run_zero hi hiz, Result.andThen_ok, run_und hu, hm', f1, Sem.run_pure]
        have := VR.mkAgg f2
        exact .pure h (by simpa using this)
      · cases hx
    · rename_i n elem hu
      split at hx
      · rename_i size hs
        simp only [Option.map_eq_some_iff] at hx
        obtain ⟨r, hr, rfl⟩ := hx
        obtain ⟨zs', f1, f2⟩ := sim_fill (pl := fun i => some (i * size, size)) (fun i p hh => by
          rw [List.getElem?_map] at hh
          cases hi : (List.range n)[i]? with
          | none => rw [hi] at hh; cases hh
          | some k =>
            rw [hi] at hh; cases hh
            rw [List.getElem?_range (by have := getElem_lt hi; simpa using this)] at hi
            cases hi; rfl) hr hp hzv
        simp only [Instr.build, Sem.run_bind, run_zero hi hiz, Result.andThen_ok, run_und hu, run_size hs, f1, Sem.run_pure]
        have := VR.mkAgg f2
        exact .pure h (by simpa using this)
      · cases hx
    · cases hx

/-! ### Slices' literals -/

/-- Elements, and the cells in which they lie. -/
structure Els (γ : G) (g : Look) (s : Nat) (es : List (List AV)) (c : Array Value) : Prop where
  size : c.size = es.length * s
  len : ∀ e ∈ es, e.length = s
  val : ∀ (i j : Nat) e t v, es[i]? = some e → e[j]? = some t → c[i * s + j]? = some v → VR γ g t v ∧ v.oneCell' = true

theorem treesL_some : ∀ {es : List (List AV)} {ts : List (List Tree)}, treesL es = some ts → es = ts.map (·.map .t)
  | [], ts, h => by simp [treesL] at h; subst h; rfl
  | e :: es, ts, h => by
    unfold treesL at h
    split at h
    · cases h
    · rename_i x hx
      split at h
      · cases h
      · rename_i xs hxs
        cases h
        rw [trees_some hx, treesL_some hxs]; rfl

theorem new_els {γ : G} {g : Look} {w w' : World} {nid s cap : Nat} {es : List (List AV)} {c : Array Value} {ty : TypeId} (hn : γ.β nid = none) (hg : g nid = none) (h : HR γ g w)
    (hw : w'.heap = w.heap.push (.cells c ty)) (hle : es.length ≤ cap) (hsz : c.size = cap * s) (hl : ∀ e ∈ es, e.length = s)
    (hc : ∀ (i j : Nat) e t v, es[i]? = some e → e[j]? = some t → c[i * s + j]? = some v → VR γ g t v ∧ v.oneCell' = true) (hso : w'.os = w.os ∧ w'.output = w.output := by exact ⟨rfl, rfl⟩) :
    Good γ g w [(nid, mkArr s es)] (.hs nid 0) (.ok (.slice (some ⟨w.heap.size, 0, none⟩) es.length cap) w') := by
  unfold mkArr
  split
  · rename_i ts hts
    have := treesL_some hts
    subst this
    have hlen : (ts.map (·.map AV.t)).length = ts.length := by simp
    rw [hlen] at hle ⊢
    refine new_arr hn hg h hw (unfrozen_zero _) (fun e he => ?_) hle hsz (fun i j e t v he ht hv => ?_) hso
    · have := hl (e.map .t) (List.mem_map.2 ⟨e, he, rfl⟩)
      simpa using this
    · have := hc i j (e.map .t) (.t t) v (by simp [he]) (by simp [ht]) hv
      exact ⟨this.1.of_tree, this.2⟩
  · exact new_marr hn hg h hw hl hle hsz (fun i j e t v a1 a2 a3 => (hc i j e t v a1 a2 a3).1) hso

theorem zeroElem_VR {P : Program} {γ : G} {g : Look} {t : TypeId} {cs : List AV} (h : zeroElem P t = some cs) :
    ∃ i z, P.info? t = some i ∧ i.zero = some z ∧ VRs γ g cs z.cells.toList ∧ sizeOf? P t = some cs.length ∧ 0 < cs.length ∧ cs.all isCell = true := by
  unfold zeroElem at h
  split at h
  · rename_i z n hz hn
    split at h
    · rename_i hh
      cases h
      obtain ⟨i, zz, h1, h2, h3⟩ := zeroCells_VR (γ := γ) (g := g) hz
      exact ⟨i, zz, h1, h2, h3, by rw [hn, hh.1], by omega, hh.2.2⟩
    · cases h
  · cases h

theorem els_zero {γ : G} {g : Look} {zero : List AV} {zc : Array Value} (n m : Nat) (hz : VRs γ g zero zc.toList) (h1 : zero.all isCell = true) (hnm : n ≤ m) :
    ∀ (i j : Nat) e t v, (List.replicate n zero)[i]? = some e → e[j]? = some t → ((Array.range (m * zero.length)).map (zc[· % zc.size]!))[i * zero.length + j]? = some v → VR γ g t v ∧ v.oneCell' = true := by
  intro i j e t v he ht hv
  have hi := getElem_lt he
  simp at hi
  rw [List.getElem?_replicate, if_pos hi] at he
  cases he
  have hj := getElem_lt ht
  have hzl := hz.1
  simp at hzl
  have hlt := mul_lt_of (Nat.lt_of_lt_of_le hi hnm) (k := j + 1) (s := zero.length) (by omega)
  rw [Array.getElem?_map, Array.getElem?_range, if_pos (by omega)] at hv
  simp only [Option.map_some, Option.some.injEq] at hv
  have hmod : (i * zero.length + j) % zc.size = j := by
    rw [← hzl, Nat.mul_comm, Nat.mul_add_mod, Nat.mod_eq_of_lt hj]
  rw [hmod, getElem!_pos zc j (by omega)] at hv
  have hvz : zc.toList[j]? = some v := by rw [Array.getElem?_toList, Array.getElem?_eq_getElem (by omega), hv]
  exact ⟨hz.2 j t v ht hvz, oneCell_of hz h1 v (List.mem_of_getElem? hvz)⟩

theorem sim_litElems {γ : G} {g : Look} {zero : List AV} : ∀ {parts : List (Nat × AV)} {ps : List (Nat × Value)} {es r : List (List AV)} {c : Array Value}, litElems.go zero es parts = some r → VPs γ g parts ps →
    Els γ g zero.length es c → ∃ c', Instr.fill (fun i => some (i * zero.length, zero.length)) c ps = some c' ∧ Els γ g zero.length r c' ∧ r.length = es.length
  | [], [], es, r, c, h, _, he => by simp [litElems.go] at h; subst h; exact ⟨c, rfl, he, rfl⟩
  | (i, x) :: parts, (j, v) :: ps, es, r, c, h, hp, he => by
    obtain ⟨rfl, hv, hp⟩ := hp
    unfold litElems.go at h
    split at h
    · rename_i cs hcs
      split at h
      · rename_i hh
        obtain ⟨hi, hl, hic⟩ := hh
        have hvc := cellsOf_VR hcs hv
        have hcl := hvc.1
        simp at hcl
        have hle := mul_lt_of hi (k := zero.length) (s := zero.length) (Nat.le_refl _)
        have hsz := he.size
        obtain ⟨f1, f2⟩ := foldl_set (i * zero.length) v.cells.toList 0 c (by simp; omega)
        have hfold : v.cells.zipIdx.foldl (fun cs (c, j) => cs.setIfInBounds (i * zero.length + j) c) c = (v.cells.toList.zipIdx 0).foldl (fun cs (c, j) => cs.setIfInBounds (i * zero.length + j) c) c := by
          rw [← Array.foldl_toList, Array.toList_zipIdx]
        have hels : Els γ g zero.length (setN es i cs) ((v.cells.toList.zipIdx 0).foldl (fun cs (c, j) => cs.setIfInBounds (i * zero.length + j) c) c) := by
          rw [setN_eq]
          refine ⟨by rw [f1, hsz]; simp, fun e hh => ?_, fun k j e t u a1 a2 a3 => ?_⟩
          · rcases List.mem_or_eq_of_mem_set hh with hh | hh
            · exact he.len e hh
            · rw [hh]; exact hl
          · rw [f2] at a3
            rw [List.getElem?_set] at a1
            by_cases hk : i = k
            · subst hk
              rw [if_pos rfl, if_pos hi] at a1
              cases a1
              have hj := getElem_lt a2
              rw [if_pos (by simp; omega)] at a3
              have hu' : v.cells.toList[j]? = some u := by rw [← a3]; congr 1; omega
              exact ⟨hvc.2 j t u a2 hu', oneCell_of hvc hic u (List.mem_of_getElem? hu')⟩
            · rw [if_neg hk] at a1
              have hkl := getElem_lt a1
              have hel := he.len e (List.mem_of_getElem? a1)
              have hj := getElem_lt a2
              have hout : ¬ (i * zero.length + 0 ≤ k * zero.length + j ∧ k * zero.length + j < i * zero.length + 0 + v.cells.toList.length) := by
                simp only [Nat.add_zero, Array.length_toList]
                rcases Nat.lt_or_ge i k with hik | hik
                · have := mul_lt_of hik (k := zero.length) (s := zero.length) (Nat.le_refl _); omega
                · have hki : k < i := by omega
                  have := mul_lt_of hki (k := j + 1) (s := zero.length) (by omega); omega
              rw [if_neg hout] at a3
              exact he.val k j e t u a1 a2 a3
        obtain ⟨c', g1, g2, g3⟩ := sim_litElems h hp hels
        refine ⟨c', ?_, g2, by rw [g3, setN_eq]; simp⟩
        unfold Instr.fill
        simp only
        rw [if_neg (by simp; omega), hfold]
        exact g1
      · cases h
    · cases h
  | [], (_, _) :: _, _, _, _, _, hp, _ => hp.elim
  | (_, _) :: _, [], _, _, _, _, hp, _ => hp.elim

theorem FrzPatch.append {g : Look} {p q : Patch} (h : FrzPatch g p) (h' : FrzPatch g q) : FrzPatch g (p ++ q) := fun id o ho => by
  rcases List.mem_append.1 ho with ho | ho
  · exact h id o ho
  · exact h' id o ho

theorem purifyAll_frz (g : Look) : ∀ (l : List (Nat × AV)), FrzPatch g (purifyAll g l).2
  | [] => fun _ _ h => by cases h
  | (i, v) :: l => by
    simp only [purifyAll]
    exact (freeze_patch g _).append (purifyAll_frz g l)

theorem sim_purifyAll {γ : G} {g : Look} {w : World} {xs : List (Nat × AV)} {vs : List (Nat × Value)} (h : HR γ g w) (hv : VPs γ g xs vs) :
    ∃ γ', Ext γ g γ' (upd g (purifyAll g xs).2) ∧ HR γ' (upd g (purifyAll g xs).2) w ∧ Fr γ w γ' w ∧ γ'.β = γ.β ∧ VPs γ' (upd g (purifyAll g xs).2) (purifyAll g xs).1 vs := by
  obtain ⟨γ', e, h', f, hb⟩ := sim_freeze h (purifyAll_frz g xs)
  refine ⟨γ', e, h', f, hb, ?_⟩
  have key : ∀ (ys : List (Nat × AV)) (us : List (Nat × Value)), (∀ x ∈ (purifyAll g ys).2, x ∈ (purifyAll g xs).2) → VPs γ g ys us → VPs γ' (upd g (purifyAll g xs).2) (purifyAll g ys).1 us := by
    intro ys
    induction ys with
    | nil => intro us _ hu; cases us with
      | nil => trivial
      | cons u us => exact hu.elim
    | cons y ys ih =>
      obtain ⟨i, y⟩ := y
      intro us hs hu
      cases us with
      | nil => exact hu.elim
      | cons u us =>
        obtain ⟨j, u⟩ := u
        obtain ⟨rfl, hyu, hu⟩ := hu
        simp only [purifyAll] at hs ⊢
        refine ⟨rfl, view_VR h' (fun id hid s ver frz es hg => ?_) (hyu.mono e), ih us (fun x hx => hs x (List.mem_append_right _ hx)) hu⟩
        exact (purifyAll_frz g xs).upd_eq hg ⟨_, hs _ (List.mem_append_left _ (freeze_mem hg hid))⟩
  exact key xs vs (fun _ hx => hx) hv

theorem upd_not_mem {g : Look} {id : Nat} : ∀ {p : Patch}, (∀ o, (id, o) ∉ p) → upd g p id = g id
  | [], _ => rfl
  | (i, o) :: p, h => by
    have hi : id ≠ i := fun e => h o (by rw [e]; simp)
    simp only [upd]
    rw [upd_not_mem (p := p) (fun o' ho' => h o' (List.mem_cons_of_mem _ ho'))]
    have : Nat.beq id i = false := by
      cases hb : Nat.beq id i with
      | true => exact absurd (Nat.eq_of_beq_eq_true hb) hi
      | false => rfl
    simp [this]

theorem FrzPatch.upd_none {g : Look} {p : Patch} (h : FrzPatch g p) {id : Nat} (hg : g id = none) : upd g p id = none := by
  rw [upd_not_mem (fun o ho => by obtain ⟨s, ver, frz, es, h1, _⟩ := h id o ho; rw [hg] at h1; cases h1), hg]

theorem Good.after {γ γ' : G} {g : Look} {w : World} {p q : Patch} {v : AV} {r : Result Value} (e : Ext γ g γ' (upd g p)) (f : Fr γ w γ' w) (h : Good γ' (upd g p) w q v r) : Good γ g w (p ++ q) v r := by
  obtain ⟨u, w', γ'', h1, h2, h3, h4, h5⟩ := h
  refine ⟨u, w', γ'', h1, ?_, ?_, ?_, f.trans h5⟩
  · rw [upd_append]; exact e.trans h2
  · rw [upd_append]; exact h3
  · rw [upd_append]; exact h4

theorem sim_buildSlice {P : Program} {γ : G} {g : Look} {w : World} {nid : Nat} {t : TypeId} {n : Nat} {parts : List (Nat × AV)} {ps : Array (Nat × Value)} {v : AV} {p : Patch} (h : HR γ g w)
    (hn : γ.β nid = none) (hg : g nid = none) (hp : VPs γ g parts ps.toList) (hx : xBuildSlice P g nid t n parts = some (.val v, p)) : Good γ g w p v ((Instr.buildSlice t n ps).run P w) := by
  unfold xBuildSlice at hx
  split at hx
  · rename_i elem hu
    split at hx
    · rename_i zero hz
      obtain ⟨γ', e, h', f, hb, hv'⟩ := sim_purifyAll h hp
      obtain ⟨i, z, hi, hiz, hzv, hsz, hpos, hzc⟩ := zeroElem_VR (γ := γ') (g := upd g (purifyAll g parts).2) hz
      split at hx
      · cases hx
      · rename_i hbig
        split at hx
        · rename_i es hes
          cases hx
          refine .after e f ?_
          have hzl := hzv.1
          simp at hzl
          obtain ⟨c', f1, f2, f3⟩ := sim_litElems (c := (Array.range (n * zero.length)).map (z.cells[· % z.cells.size]!)) hes hv'
            ⟨by simp, fun x hx => by rw [(List.mem_replicate.1 hx).2], els_zero n n hzv hzc (Nat.le_refl _)⟩
          have hlen : es.length = n := by simpa using f3
          simp only [Instr.buildSlice, Sem.run_bind, run_und hu, Result.andThen_ok, run_size hsz]
          rw [if_neg (by omega)]
          have hgood := new_els (ty := elem) (w := w) (nid := nid) (by rw [hb]; exact hn) ((purifyAll_frz g parts).upd_none hg) h' (w' := { w with heap := w.heap.push (.cells c' elem) }) rfl
            (cap := es.length) (Nat.le_refl _) f2.size f2.len f2.val
          rw [hlen] at hgood
          by_cases h0 : n * zero.length = 0
          · have hempty : ∀ F : Nat → Value, (Array.range (n * zero.length)).map F = #[] := fun F => by rw [h0]; simp
            rw [hempty] at f1
            rw [if_pos h0]
            simp only [Sem.run_bind, Sem.run_pure, Result.andThen_ok, hempty, f1, newRow, run_newObj]
            exact hgood
          · rw [if_neg h0]
            simp only [Sem.run_bind, run_zero hi hiz, Sem.run_pure, Result.andThen_ok, f1, newRow, run_newObj]
            exact hgood
        · cases hx
    · cases hx
  · cases hx

theorem sim_makeSlice {P : Program} {γ : G} {g : Look} {w : World} {nid : Nat} {t : TypeId} {l c v : AV} {ul uc : Value} {p : Patch} (h : HR γ g w) (hn : γ.β nid = none) (hg : g nid = none)
    (hl : VR γ g l ul) (hc : VR γ g c uc) (hx : xMakeSlice P nid t l c = some (.val v, p)) : Good γ g w p v ((Instr.makeSlice t ul uc).run P w) := by
  unfold xMakeSlice at hx
  split at hx
  · rename_i elem k1 l k2 c hu
    split at hx
    · rename_i zero hz
      split at hx
      · rename_i hh
        obtain ⟨hlc, hor, hsm⟩ := hh
        cases hx
        have hlt := hl.of_tree
        have hct := hc.of_tree
        cases hlt; cases hct
        obtain ⟨i, z, hi, hiz, hzv, hsz, hpos, hzc⟩ := zeroElem_VR (γ := γ) (g := g) hz
        obtain ⟨i', hi', hsi⟩ := sizeOf_eq hsz
        rw [hi] at hi'; cases hi'
        have hsmall : i.bytes ≤ 8192 ∧ c < 4294967296 := by
          unfold small at hsm
          split at hsm
          · rename_i i2 hi2
            have := info_eq hi2
            rw [hi] at this; cases this
            simp at hsm
            exact hsm.1
          · cases hsm
        have hbytes : i.bytes * c ≤ 8192 * 4294967296 := Nat.mul_le_mul hsmall.1 (by omega)
        have hrun := run_make (P := P) w t elem i z (und_eq hu) hi hiz k1 k2 (Int.ofNat l) (Int.ofNat c) (by simp) (by simpa using hlc) (by
          have : ((i.bytes : Int) * (Int.ofNat c)) = ((i.bytes * c : Nat) : Int) := by simp
          rw [this]; omega) (by simp; omega)
        simp only [Int.ofNat_eq_natCast, Int.toNat_natCast] at hrun
        simp only [Int.ofNat_eq_natCast]
        rw [hrun]
        have hzl := hzv.1
        simp at hzl
        have := new_els (ty := elem) (w := w) (nid := nid) hn hg h (w' := w.alloc (.cells (madeCells z.cells (c * i.size)) elem)) rfl (es := List.replicate l zero) (cap := c) (s := zero.length)
          (by simpa using hlc) (by simp [madeCells, hsi]) (fun e he => by rw [(List.mem_replicate.1 he).2]) (by
            have := els_zero l c hzv hzc hlc
            rw [hsi]
            exact this)
        simpa using this
      · cases hx
    · cases hx
  · cases hx

end Go.Ab
