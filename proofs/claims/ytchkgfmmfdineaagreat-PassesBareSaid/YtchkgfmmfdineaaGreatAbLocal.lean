/- An operation looks at its operands and at the objects that 'foot' lists, and at nothing else. -/
import Derived.Test.YtchkgfmmfdineaaGreatAbFun
namespace Go.Ab

/-- Two looks agree on a list of numbers. -/
def Ag (g g' : Look) (l : List Nat) : Prop := ∀ id ∈ l, g' id = g id

theorem Ag.left {g g' : Look} {l l' : List Nat} (h : Ag g g' (l ++ l')) : Ag g g' l := fun id hid => h id (List.mem_append_left _ hid)
theorem Ag.right {g g' : Look} {l l' : List Nat} (h : Ag g g' (l ++ l')) : Ag g g' l' := fun id hid => h id (List.mem_append_right _ hid)
theorem Ag.one {g g' : Look} {id : Nat} (h : Ag g g' [id]) : g' id = g id := h id (.head _)
theorem Ag.catMap {α : Type} {g g' : Look} {f : α → List Nat} {l : List α} (h : Ag g g' (Ab.catMap f l)) {x : α} (hx : x ∈ l) : Ag g g' (f x) :=
  fun id hid => h id (mem_catMap.2 ⟨x, hx, hid⟩)

theorem catMap_congr {α β : Type} {f f' : α → List β} : ∀ {l : List α}, (∀ x ∈ l, f' x = f x) → catMap f' l = catMap f l
  | [], _ => rfl
  | a :: l, h => by simp only [catMap]; rw [h a (.head _), catMap_congr fun x hx => h x (List.mem_cons_of_mem _ hx)]

theorem upd_ag {id : Nat} : ∀ {p : Patch} {g g' : Look}, g' id = g id → upd g' p id = upd g p id
  | [], g, g', h => h
  | (i, o) :: p, g, g', h => by
    unfold upd
    refine upd_ag ?_
    cases Nat.beq id i with
    | true => rfl
    | false => exact h

theorem fresh_ag {g g' : Look} {id ver : Nat} (h : g' id = g id) : fresh g' id ver = fresh g id ver := by unfold fresh; rw [h]

theorem refs_ag {g g' : Look} : ∀ (d : Nat) (v : AV), Ag g g' (names d v) → refs g' d v = refs g d v
  | 0, v, _ => rfl
  | d + 1, v, h => by
    cases v with
    | el id ver i off => simp only [refs]; rw [fresh_ag h.one]
    | hs id ver => simp only [refs]; rw [fresh_ag h.one]
    | hsub id ver lo len => simp only [refs]; rw [fresh_ag h.one]
    | agg cs => exact catMap_congr fun c hc => refs_ag d c (h.catMap hc)
    | fn f a b =>
      simp only [refs]
      rw [catMap_congr fun c hc => refs_ag d c ((Ag.left h).catMap hc), catMap_congr fun c hc => refs_ag d c ((Ag.right h).catMap hc)]
    | tup vs => exact catMap_congr fun c hc => refs_ag d c (h.catMap hc)
    | _ => rfl

theorem refsL_ag {g g' : Look} {vs : List AV} (h : Ag g g' (namesL vs)) : refsL g' vs = refsL g vs :=
  catMap_congr fun v hv => refs_ag depth v (Ag.catMap h hv)

theorem refsO_ag {g g' : Look} {o : Obj} (h : Ag g g' (namesO o)) : refsO g' o = refsO g o := by
  cases o with
  | box cs => exact refsL_ag h
  | marr s ver es => exact catMap_congr fun e he => refsL_ag (Ag.catMap h he)
  | _ => rfl

theorem ren_ag {g g' : Look} {ids : List Nat} : ∀ (d : Nat) (v : AV), Ag g g' (names d v) → ren g' ids d v = ren g ids d v
  | 0, v, _ => rfl
  | d + 1, v, h => by
    cases v with
    | el id ver i off => simp only [ren]; rw [fresh_ag h.one]
    | hs id ver => simp only [ren]; rw [fresh_ag h.one]
    | hsub id ver lo len => simp only [ren]; rw [fresh_ag h.one]
    | agg cs => simp only [ren]; rw [List.map_congr_left fun c hc => ren_ag d c (Ag.catMap h hc)]
    | fn f a b =>
      simp only [ren]
      rw [List.map_congr_left fun c hc => ren_ag d c ((Ag.left h).catMap hc), List.map_congr_left fun c hc => ren_ag d c ((Ag.right h).catMap hc)]
    | tup vs => simp only [ren]; rw [List.map_congr_left fun c hc => ren_ag d c (Ag.catMap h hc)]
    | _ => rfl

theorem renL_ag {g g' : Look} {ids : List Nat} {vs : List AV} (h : Ag g g' (namesL vs)) : renL g' ids vs = renL g ids vs :=
  List.map_congr_left fun v hv => ren_ag depth v (Ag.catMap h hv)

theorem renO_ag {g g' : Look} {ids : List Nat} {o : Obj} (h : Ag g g' (namesO o)) : renO g' ids o = renO g ids o := by
  cases o with
  | box cs => simp only [renO]; rw [renL_ag h]
  | marr s ver es => simp only [renO]; rw [List.map_congr_left fun e he => renL_ag (Ag.catMap h he)]
  | _ => rfl

theorem reach_ag {g g' : Look} : ∀ (n : Nat) (todo acc r : List Nat), reach g n todo acc = some r → Ag g g' r → Ag g g' (catMap (namesAt g) r) → reach g' n todo acc = some r
  | 0, _, _, _, h, _, _ => by simp [reach] at h
  | _ + 1, [], acc, r, h, _, _ => by simpa [reach] using h
  | n + 1, id :: todo, acc, r, h, h1, h2 => by
    unfold reach at h ⊢
    split at h
    · rename_i hm
      exact reach_ag n _ _ _ h h1 h2
    · rename_i hm
      split at h
      · rename_i o ho
        obtain ⟨t, ht⟩ := reach_prefix _ _ _ _ h
        have hid : id ∈ r := by rw [ht]; simp
        have hn : Ag g g' (namesO o) := by
          have := Ag.catMap h2 hid
          unfold namesAt at this
          rw [ho] at this
          exact this
        rw [h1 id hid, ho]
        simp only
        rw [refsO_ag hn]
        exact reach_ag n _ _ _ h h1 h2
      · cases h

theorem sub1_ag {g g' : Look} {ids : List Nat} : ∀ {l : List Nat} {r : Heap}, sub1 g ids l = some r → Ag g g' l → Ag g g' (catMap (namesAt g) l) → sub1 g' ids l = some r
  | [], r, h, _, _ => h
  | id :: l, r, h, h1, h2 => by
    unfold sub1 at h ⊢
    split at h
    · cases h
    · rename_i o ho
      have hn : Ag g g' (namesO o) := by
        have := Ag.catMap h2 (List.mem_cons_self ..)
        unfold namesAt at this
        rw [ho] at this
        exact this
      rw [h1 id (.head _), ho]
      simp only
      split at h
      · cases h
      · rename_i os hos
        rw [sub1_ag hos (fun i hi => h1 i (List.mem_cons_of_mem _ hi)) (fun i hi => h2 i (by
          obtain ⟨x, hx, hix⟩ := mem_catMap.1 hi
          exact mem_catMap.2 ⟨x, List.mem_cons_of_mem _ hx, hix⟩)), renO_ag hn]
        exact h

theorem versOf_ag {g g' : Look} : ∀ {ids : List Nat}, Ag g g' ids → versOf g' ids = versOf g ids
  | [], _ => rfl
  | id :: ids, h => by
    simp only [versOf]
    rw [h id (.head _), versOf_ag fun i hi => h i (List.mem_cons_of_mem _ hi)]

theorem callIn_ag {ρ : Oracle} {g g' : Look} {frz : Patch} {nid : Nat} {f : FuncId} {args : List AV} {r : Out × Patch} (h : callIn ρ g frz nid f args = some r) (h1 : Ag g g' (namesL args))
    (h2 : Ag g g' (footIn g args)) : callIn ρ g' frz nid f args = some r := by
  unfold callIn at h ⊢
  unfold footIn at h2
  split at h
  · cases h
  · rename_i ids hids
    rw [hids] at h2
    simp only at h2
    rw [refsL_ag h1, reach_ag _ _ _ _ hids h2.left h2.right]
    simp only
    split at h
    · cases h
    · rename_i hh hs
      have : Ab.sub g' ids = some hh := sub1_ag hs h2.left h2.right
      rw [this]
      simp only
      rw [renL_ag h1]
      have himp : ∀ v h', import1 g' frz nid ids v h' = import1 g frz nid ids v h' := fun v h' => by
        unfold import1
        rw [versOf_ag h2.left]
      split at h
      · cases h
      · rename_i v h' hρ
        rw [himp]
        exact h
      · rename_i v h' hρ
        rw [himp]
        exact h

/-! ### Views -/

theorem elems_hs_ag {g g' : Look} {id ver : Nat} (h : g' id = g id) : elems g' (.hs id ver) = elems g (.hs id ver) := by simp only [elems]; rw [h]
theorem elems_hsub_ag {g g' : Look} {id ver lo len : Nat} (h : g' id = g id) : elems g' (.hsub id ver lo len) = elems g (.hsub id ver lo len) := by simp only [elems]; rw [h]

theorem elems_ag {g g' : Look} {x : AV} (h : Ag g g' (names depth x)) : elems g' x = elems g x := by
  cases x with
  | hs id ver => exact elems_hs_ag h.one
  | hsub id ver lo len => exact elems_hsub_ag h.one
  | t x => cases x <;> rfl
  | _ => rfl

theorem view_ag {g g' : Look} {x : AV} (h : Ag g g' (names depth x)) : view g' x = view g x := by
  cases x with
  | hs id ver => simp only [view]; rw [elems_hs_ag h.one]
  | hsub id ver lo len => simp only [view]; rw [elems_hsub_ag h.one]
  | agg cs =>
    simp only [view]
    congr 1
    refine List.map_congr_left fun c hc => ?_
    have hc' := Ag.catMap h hc
    cases c with
    | hs id ver => simp only; rw [elems_hs_ag hc'.one]
    | hsub id ver lo len => simp only; rw [elems_hsub_ag hc'.one]
    | _ => rfl
  | _ => rfl

theorem viewed_ag {g g' : Look} {x : AV} (h : Ag g g' (names depth x)) : viewed g' x = viewed g x := by
  cases x with
  | hs id ver => simp only [viewed]; rw [elems_hs_ag h.one]
  | hsub id ver lo len => simp only [viewed]; rw [elems_hsub_ag h.one]
  | agg cs =>
    refine catMap_congr fun c hc => ?_
    have hc' := Ag.catMap h hc
    cases c with
    | hs id ver => simp only; rw [elems_hs_ag hc'.one]
    | hsub id ver lo len => simp only; rw [elems_hsub_ag hc'.one]
    | _ => rfl
  | _ => rfl

theorem viewed_sub {g : Look} {x : AV} : ∀ id ∈ viewed g x, id ∈ names depth x := by
  intro i hi
  cases x with
  | hs id ver => simp only [viewed] at hi; split at hi <;> simp_all [names, depth]
  | hsub id ver lo len => simp only [viewed] at hi; split at hi <;> simp_all [names, depth]
  | agg cs =>
    obtain ⟨c, hc, hic⟩ := mem_catMap.1 hi
    refine mem_catMap.2 ⟨c, hc, ?_⟩
    cases c with
    | hs id ver => simp only at hic; split at hic <;> simp_all [names]
    | hsub id ver lo len => simp only at hic; split at hic <;> simp_all [names]
    | _ => cases hic
  | _ => cases hi

theorem freeze_ag {g g' : Look} : ∀ {l : List Nat}, Ag g g' l → freeze g' l = freeze g l
  | [], _ => rfl
  | id :: l, h => by
    simp only [freeze]
    rw [h id (.head _), freeze_ag fun i hi => h i (List.mem_cons_of_mem _ hi)]

theorem names_view {g : Look} {x : AV} : ∀ id ∈ names depth (view g x), id ∈ names depth x := by
  intro i hi
  cases x with
  | hs id ver => simp only [view] at hi; split at hi <;> simp_all [names, depth]
  | hsub id ver lo len => simp only [view] at hi; split at hi <;> simp_all [names, depth]
  | agg cs =>
    simp only [view, mkAgg] at hi
    split at hi
    · cases hi
    · obtain ⟨c', hc', hic⟩ := mem_catMap.1 hi
      obtain ⟨c, hc, rfl⟩ := List.mem_map.1 hc'
      refine mem_catMap.2 ⟨c, hc, ?_⟩
      cases c with
      | hs id ver => simp only at hic; split at hic <;> simp_all [names]
      | hsub id ver lo len => simp only at hic; split at hic <;> simp_all [names]
      | _ => exact hic
  | _ => exact hi

theorem namesL_view {g : Look} {vs : List AV} : ∀ id ∈ namesL (vs.map (view g)), id ∈ namesL vs := by
  intro i hi
  obtain ⟨c', hc', hic⟩ := mem_catMap.1 hi
  obtain ⟨c, hc, rfl⟩ := List.mem_map.1 hc'
  exact mem_catMap.2 ⟨c, hc, names_view i hic⟩

theorem callF_ag {C : Cfg} {ρ : Oracle} {g g' : Look} {nid : Nat} {f : FuncId} {args : List AV} {r : Out × Patch} (h : callF C ρ g nid f args = some r) (ha : Ag g g' (footF C g f args)) :
    callF C ρ g' nid f args = some r := by
  unfold callF at h ⊢
  unfold footF at ha
  cases hb : C.byRef f with
  | true =>
    rw [hb] at h ha
    simp only at h ha ⊢
    split at h
    · exact callIn_ag h ha.left ha.right
    · cases h
  | false =>
    rw [hb] at h ha
    simp only at h ha ⊢
    have h1 := ha.left
    have hview : args.map (view g') = args.map (view g) := List.map_congr_left fun x hx => view_ag (Ag.catMap h1 hx)
    have hvd : catMap (viewed g') args = catMap (viewed g) args := catMap_congr fun x hx => viewed_ag (Ag.catMap h1 hx)
    have hfz : freeze g' (catMap (viewed g) args) = freeze g (catMap (viewed g) args) := freeze_ag fun i hi => by
      obtain ⟨x, hx, hix⟩ := mem_catMap.1 hi
      exact h1 i (mem_catMap.2 ⟨x, hx, viewed_sub i hix⟩)
    rw [hview, hvd, hfz]
    have h2 := ha.right
    cases hp : C.prim f (args.map (view g)) with
    | some v => rw [hp] at h; exact h
    | none =>
      rw [hp] at h h2
      simp only at h h2 ⊢
      split at h
      · exact callIn_ag h (fun i hi => upd_ag (h1 i (namesL_view i hi))) (fun i hi => upd_ag (h2 i hi))
      · cases h

theorem opds_T {T T' : Env} : ∀ {l : List Operand}, (∀ x ∈ l, operand T' x = operand T x) → opds T' l = opds T l
  | [], _ => rfl
  | x :: l, h => by simp only [opds]; rw [h x (.head _), opds_T fun y hy => h y (List.mem_cons_of_mem _ hy)]

theorem opdsI_T {T T' : Env} : ∀ {l : List (Nat × Operand)}, (∀ x ∈ l.map (·.2), operand T' x = operand T x) → opdsI T' l = opdsI T l
  | [], _ => rfl
  | (i, x) :: l, h => by
    simp only [opdsI]
    rw [h x (by simp), opdsI_T fun y hy => h y (by simp only [List.map_cons, List.mem_cons]; exact .inr hy)]

theorem bound_T {T T' : Env} {b : Option Operand} (h : ∀ x, b = some x → operand T' x = operand T x) : bound T' b = bound T b := by
  cases b with
  | none => rfl
  | some x => simp only [bound]; rw [h x rfl]

theorem exec1_T {C : Cfg} {ρ : Oracle} {g : Look} {nid : Nat} {T T' : Env} {o : Oper} (h : ∀ x ∈ o.op.operands.toList, operand T' x = operand T x) : exec1 C ρ g nid T' o = exec1 C ρ g nid T o := by
  unfold exec1
  cases hop : o.op <;> rw [hop] at h <;> (try simp only [Op.operands] at h) <;> (try simp only)
  case move x => rw [h x (by simp)]
  case assign x => rw [h x (by simp)]
  case pick c a b => rw [h c (by simp), h a (by simp), h b (by simp)]
  case box e x => rw [h x (by simp)]
  case build t ps => rw [opdsI_T fun x hx => h x (by simpa using hx)]
  case buildSlice t n ps => rw [opdsI_T fun x hx => h x (by simpa using hx)]
  case load t a => rw [h a (by simp)]
  case store t a x => rw [h a (by simp), h x (by simp)]
  case nilCheck x => rw [h x (by simp)]
  case binOp op t x y ty => rw [h x (by simp), h y (by simp)]
  case unOp op t x => rw [h x (by simp)]
  case convert s d x => rw [h x (by simp)]
  case makeFunc fn a b =>
    cases fn with
    | func f => simp only; rw [opds_T fun x hx => h x (by simp; exact .inl (by simpa using hx)), opds_T fun x hx => h x (by simp; exact .inr (by simpa using hx))]
    | _ => rfl
  case makeSlice t l c => rw [h l (by simp), h c (by simp)]
  case slice t x lo hi mx =>
    unfold xSlice
    rw [h x (by simp), bound_T fun y hy => h y (by subst hy; simp), bound_T fun y hy => h y (by subst hy; simp), bound_T fun y hy => h y (by subst hy; simp)]
  case fieldAddr s x f => rw [h x (by simp)]
  case field s x f => rw [h x (by simp)]
  case indexAddr t x i => rw [h x (by simp), h i (by simp)]
  case index t x i => rw [h x (by simp), h i (by simp)]
  case range t x => rw [h x (by simp)]
  case next x b =>
    cases b with
    | true => simp only; rw [h x (by simp)]
    | false => rfl
  case extract t i => rw [h t (by simp)]
  case call c =>
    unfold xCall
    unfold Call.operands at h
    cases hc : c.callee with
    | value f =>
      rw [hc] at h
      simp only at h ⊢
      rw [h f (by simp), opds_T fun x hx => h x (by simp; exact .inr (by simpa using hx))]
    | builtin b =>
      rw [hc] at h
      simp only at h ⊢
      rw [opds_T fun x hx => h x (by simpa using hx)]
    | invoke r m => rfl

/-! ### Each operation -/

theorem loadCells_ag {g g' : Look} {n : Nat} {a : AV} (h : Ag g g' (names depth a)) : loadCells g' n a = loadCells g n a := by
  cases a with
  | box id off => simp only [loadCells]; rw [h.one]
  | el id ver i off => simp only [loadCells]; rw [h.one]
  | _ => rfl

theorem storeAt_ag {g g' : Look} {a : AV} {cs : List AV} (h : Ag g g' (names depth a)) : storeAt g' a cs = storeAt g a cs := by
  cases a with
  | box id off => simp only [storeAt]; rw [h.one]
  | el id ver i off => simp only [storeAt]; rw [h.one]
  | _ => rfl

theorem purify_ag {g g' : Look} {x : AV} (h : Ag g g' (names depth x)) : purify g' x = purify g x := by
  unfold purify
  rw [view_ag h, viewed_ag h, freeze_ag fun i hi => h i (viewed_sub i hi)]

theorem purifyAll_ag {g g' : Look} : ∀ {l : List (Nat × AV)}, Ag g g' (namesL (l.map (·.2))) → purifyAll g' l = purifyAll g l
  | [], _ => rfl
  | (i, v) :: l, h => by
    have h1 : Ag g g' (names depth v) := Ag.catMap (f := names depth) (l := ((i, v) :: l).map (·.2)) h (by simp)
    simp only [purifyAll]
    rw [purifyAll_ag (l := l) fun id hid => h id (by
      obtain ⟨x, hx, hix⟩ := mem_catMap.1 hid
      exact mem_catMap.2 ⟨x, by simp only [List.map_cons, List.mem_cons]; exact .inr hx, hix⟩), view_ag h1, viewed_ag h1, freeze_ag fun i hi => h1 i (viewed_sub i hi)]

theorem lenOf_ag {g g' : Look} {x : AV} (h : Ag g g' (names depth x)) : lenOf g' x = lenOf g x := by
  cases x with
  | hs id ver => simp only [lenOf]; rw [h.one]
  | t x => cases x <;> rfl
  | _ => rfl

theorem added_ag {g g' : Look} {x : AV} (h : Ag g g' (names depth x)) : added g' x = added g x := by
  unfold added
  split
  · rfl
  · exact elems_ag h

theorem slice_ag {P : Program} {g g' : Look} {t : TypeId} {x : AV} {lo hi mx : Option Int} (h : Ag g g' (names depth x)) : slice P g' t x lo hi mx = slice P g t x lo hi mx := by
  unfold slice
  cases und P t with
  | none => rfl
  | some d =>
    cases x with
    | hs id ver => cases d <;> first | rfl | (simp only; rw [h.one])
    | hsub id ver a b => cases d <;> first | rfl | (simp only; rw [h.one])
    | t x => cases d <;> cases x <;> rfl
    | _ => cases d <;> rfl

theorem indexAddr_ag {P : Program} {g g' : Look} {t : TypeId} {x : AV} {i : Int} (h : Ag g g' (names depth x)) : indexAddr P g' t x i = indexAddr P g t x i := by
  unfold indexAddr
  cases und P t with
  | none => rfl
  | some d =>
    cases x with
    | hs id ver => cases d <;> first | rfl | (simp only; rw [h.one])
    | hsub id ver a b => cases d <;> first | rfl | (simp only; rw [h.one])
    | t x => cases d <;> cases x <;> rfl
    | _ => cases d <;> rfl

theorem append_ag {P : Program} {g g' : Look} {nid : Nat} {t t' : TypeId} {s x : AV} (h : Ag g g' (names depth s)) (h' : Ag g g' (names depth x)) : append P g' nid t t' s x = append P g nid t t' s x := by
  unfold append
  rw [added_ag h']
  cases s with
  | hs id ver => simp only [h.one]
  | t x => cases x <;> rfl
  | _ => rfl

theorem convert_ag {P : Program} {g g' : Look} {nid : Nat} {s d : TypeId} {x : AV} (h : Ag g g' (names depth x)) : convert P g' nid s d x = convert P g nid s d x := by
  have e := elems_ag h
  unfold convert
  split
  · rfl
  · rfl
  · rfl
  · rw [e]
  · rfl

theorem exec1_ag {C : Cfg} {ρ : Oracle} {g g' : Look} {nid : Nat} {T : Env} {o : Oper} {r : Out × Patch} (h : exec1 C ρ g nid T o = some r) (ha : Ag g g' (foot C g T o)) :
    exec1 C ρ g' nid T o = some r := by
  unfold exec1 at h ⊢
  unfold foot at ha
  cases hop : o.op <;> rw [hop] at h ha <;> (try simp only at h ha ⊢) <;> try exact h
  case makeFunc fn a b => cases fn <;> exact h
  case buildSlice t n ps =>
    unfold xBuildSlice at h ⊢
    rw [purifyAll_ag ha]
    exact h
  case load t a =>
    unfold load at h ⊢
    simp only [loadCells_ag ha]
    exact h
  case store t a x =>
    have h1 := purify_ag ha.right
    unfold xStore at h ⊢
    have h2 : (match operand T a with
        | .el _ _ _ _ => purify g' (operand T x)
        | _ => (operand T x, [])) = (match operand T a with
        | .el _ _ _ _ => purify g (operand T x)
        | _ => (operand T x, [])) := by rw [h1]
    have h3 : ∀ (q : Patch) cs, storeAt (upd g' q) (operand T a) cs = storeAt (upd g q) (operand T a) cs := fun q cs => storeAt_ag fun i hi => upd_ag (ha.left i hi)
    simp only [h1, h3] at h ⊢
    exact h
  case convert s d x => rw [convert_ag ha]; exact h
  case slice t x lo hi mx =>
    unfold xSlice at h ⊢
    simp only [slice_ag ha]
    exact h
  case indexAddr t x i =>
    unfold xIndexAddr at h ⊢
    simp only [indexAddr_ag ha]
    exact h
  case next x b =>
    cases b with
    | false => exact h
    | true =>
      simp only at h ⊢
      generalize operand T x = v at h ha
      unfold xNext at h ⊢
      cases v with
      | box id off =>
        cases off with
        | zero => simp only at h ⊢; rw [ha.one]; exact h
        | succ n => exact h
      | _ => exact h
  case call c =>
    unfold xCall at h ⊢
    cases hc : c.callee with
    | value f =>
      rw [hc] at h ha
      simp only at h ha ⊢
      generalize operand T f = v at h ha
      cases v with
      | t x =>
        cases x with
        | fn f => exact callF_ag h ha
        | _ => exact h
      | fn f first captured => exact callF_ag h ha
      | _ => exact h
    | builtin b =>
      rw [hc] at h ha
      simp only at h ha ⊢
      unfold xBuiltin at h ⊢
      split at h
      · rename_i t rest hts
        generalize opds T c.args.toList = l at h ha
        unfold xLen at h ⊢
        match l, h, ha with
        | [x], h, ha =>
          have hx : Ag g g' (names depth x) := Ag.catMap (f := names depth) (l := [x]) ha (.head _)
          have e := lenOf_ag hx
          simp only at h ⊢
          split
          · rename_i hu; rw [hu] at h; exact h
          · rename_i hu; rw [hu] at h; exact h
          · rename_i hu; rw [hu] at h; rw [e]; exact h
          · rename_i h1 h2 h3
            split at h
            · rename_i hu; exact absurd hu (h1 _ _)
            · rename_i hu; exact (h3 _ hu rfl).elim
            · rename_i hu; exact (h2 _ hu).elim
            · cases h
        | [], h, _ => exact h
        | _ :: _ :: _, h, _ => exact h
      · rename_i s x hts heq
        rw [heq] at ha
        have hx1 : Ag g g' (names depth s) := Ag.catMap (f := names depth) (l := [s, x]) ha (.head _)
        have hx2 : Ag g g' (names depth x) := Ag.catMap (f := names depth) (l := [s, x]) ha (.tail _ (.head _))
        rw [append_ag hx1 hx2]
        exact h
      · exact h
      · exact h
      · cases h
    | invoke r m => rw [hc] at h; cases h

end Go.Ab
