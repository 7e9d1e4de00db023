/- Regions whose order is drawn: the law. -/
import Derived.Test.YtchkgfmmfdineaaGreatAbDraw2
namespace Go.Ab

/-! ### How many are left -/

def undone : List Bool → Nat
  | [] => 0
  | b :: l => (if b = true then 0 else 1) + undone l

theorem undone_set : ∀ {l : List Bool} {j : Nat}, l[j]? = some false → undone (l.set j true) + 1 = undone l
  | [], j, h => by simp at h
  | b :: l, 0, h => by simp at h; subst h; simp [undone]; omega
  | b :: l, j + 1, h => by
    have := undone_set (l := l) (j := j) (by simpa using h)
    simp only [List.set_cons_succ, undone]
    omega

theorem undone_zero : ∀ {l : List Bool}, undone l = 0 → ∀ (j : Nat), j < l.length → l[j]? = some true
  | [], _, j, h => by simp at h
  | b :: l, h, j, hj => by
    unfold undone at h
    cases b with
    | false => simp at h
    | true =>
      cases j with
      | zero => rfl
      | succ j => simpa using undone_zero (l := l) (by simpa using h) j (by simpa using hj)

theorem undone_replicate : ∀ (n : Nat), undone (List.replicate n false) = n
  | 0 => rfl
  | n + 1 => by simp [List.replicate_succ, undone, undone_replicate n]; omega

/-! ### What an operation names -/

theorem mem_tmpsOf {t : Nat} : ∀ {l : List Operand}, .tmp t ∈ l → t ∈ tmpsOf l
  | [], h => by cases h
  | x :: l, h => by
    rcases List.mem_cons.1 h with h | h
    · subst h; exact .head _
    · have := mem_tmpsOf h
      cases x <;> first | exact List.mem_cons_of_mem _ this | exact this

theorem operand_T {T T' : Env} {x : Operand} (h : ∀ t, x = .tmp t → get T' t = get T t) : operand T' x = operand T x := by
  cases x with
  | tmp t => exact h t rfl
  | _ => rfl

theorem wanted_T {ops : List Oper} {T T' : Env} {o : Oper} (h : ∀ t ∈ guardT ops o, get T' t = get T t) : wanted ops T' o = wanted ops T o := by
  unfold wanted
  unfold guardT at h
  cases hg : o.guard with
  | none => rfl
  | some jw =>
    obtain ⟨j, want⟩ := jw
    rw [hg] at h
    simp only at h ⊢
    cases hj : nth ops j with
    | none => rfl
    | some oj =>
      rw [hj] at h
      simp only at h ⊢
      cases hd : oj.dst with
      | none => rfl
      | some d =>
        rw [hd] at h
        simp only at h ⊢
        rw [h d (.head _)]

theorem apartT_spec {ops : List Oper} {x y : Oper} {d : Nat} (h : apartT ops x y = true) (hd : x.dst = some d) : d ∉ looks ops y ∧ y.dst ≠ some d := by
  unfold apartT at h
  rw [hd] at h
  simp only [Bool.and_eq_true, Bool.not_eq_true'] at h
  refine ⟨fun hm => by rw [mem_iff.2 hm] at h; exact absurd h.1 (by simp), fun hy => ?_⟩
  have h2 := h.2
  rw [hy] at h2
  simp only [Bool.not_eq_true'] at h2
  exact Nat.ne_of_beq_eq_false h2 rfl

/-! ### The state after a part -/

def doneOf (listed : Array Bool) : Nat → Bool := fun i => listed.getD i false

structure DInv (w0 : World) (k : Nat) (A : Array Oper) (l : List Rec) (T0 : Env) (g0 : Look) (γ0 : G) (wi : World) (listed : Array Bool) (γ : G) (a : Act) (w : World) : Prop where
  sz : listed.size = A.size
  hr : HR γ (memD (doneOf listed) 0 l g0) w
  base : Base w0 γ w
  er : ER γ (memD (doneOf listed) 0 l g0) (envD (doneOf listed) 0 A.toList l T0) a
  tsz : k ≤ a.tmps.size
  nd : a.defers = []
  fr : Fr γ0 wi γ w
  ext : Ext γ0 g0 γ (memD (doneOf listed) 0 l g0)
  closed : Closed A.toList (doneOf listed)

section
variable {C : Cfg} {w0 : World} {ρ : Oracle} {A : Array Oper} {l : List Rec} {k : Nat} {T T' : Env} {h h' : Heap} {Q : Exit → Act → World → Prop} {γ0 : G} {wi : World}

theorem sim_drawStep (hρ : OracleOK C.P w0 ρ) (hpr : PrimOK C w0) (tr : Tr C ρ A.toList A.toList l T h T' h') (hst : static A.toList = true) (hcalm : calm (masks A.toList) (quietR (number 0 l)) = true)
    (hdst : dstOK k A.toList = true) {listed : Array Bool} {γ : G} {a : Act} {w : World} (hi : DInv w0 k A l T (nth h) γ0 wi listed γ a w) {j : Nat} (hj : j ∈ Region.ready .any A listed)
    {K : Act → World → Prop} (hK : ∀ γ' a' w', DInv w0 k A l T (nth h) γ0 wi (listed.setIfInBounds j true) γ' a' w' → K a' w') : wpOp C.P A Q j K a w := by
  obtain ⟨hnl, o, ho, hedges⟩ := mem_ready.1 hj
  have hjs : j < A.size := (Array.getElem?_eq_some_iff.1 ho).1
  have hoL : A.toList[j]? = some o := by simpa using ho
  have hjl : j < listed.size := by rw [hi.sz]; exact hjs
  have hlen := tr.length
  have hjr : j < l.length := by rw [hlen]; simpa using hjs
  obtain ⟨r, hr⟩ : ∃ r, l[j]? = some r := ⟨l[j], List.getElem?_eq_getElem hjr⟩
  generalize hD : doneOf listed = D at *
  have hDj : D j = false := by
    rw [← hD]
    unfold doneOf
    simp only [Array.getD_eq_getD_getElem?, Array.getElem?_eq_getElem hjl, Option.getD_some] at hnl ⊢
    exact hnl
  have hedges' : ∀ e ∈ o.after.toList, Region.binds .any e = true → D e.on = true := fun e he hb => by
    rw [← hD]; exact hedges e (by simpa using he) hb
  have hclosed : Closed A.toList D := by rw [← hD]; exact hi.closed
  have hD' : ∀ x, doneOf (listed.setIfInBounds j true) x = (D x || decide (x = j)) := fun x => by
    rw [← hD]
    unfold doneOf
    by_cases hx : x = j
    · subst hx
      simp [Array.getD_eq_getD_getElem?, hjl]
    · have : j ≠ x := fun e => hx e.symm
      simp [Array.getD_eq_getD_getElem?, Array.getElem?_setIfInBounds_ne this, hx]
  -- what the order says of another one
  have early : ∀ x, (getN (masks A.toList) j).testBit x = true → D x = true := fun x hx => before_done hclosed j o hoL hedges' x hx
  have late : ∀ x ox, A.toList[x]? = some ox → (getN (masks A.toList) x).testBit j = true → D x = false := fun x ox hox hx => by
    cases hDx : D x with
    | false => rfl
    | true =>
      have := before_done hclosed x ox hox (hclosed x ox hox hDx) j hx
      rw [hDj] at this; cases this
  have recOf : ∀ x ox, A.toList[x]? = some ox → ∃ rx, l[x]? = some rx := fun x ox hox => by
    have : x < l.length := by rw [hlen]; exact getElem_lt hox
    exact ⟨l[x], List.getElem?_eq_getElem this⟩
  have operOf : ∀ x rx, l[x]? = some rx → ∃ ox, A.toList[x]? = some ox := fun x rx hrx => by
    have : x < A.toList.length := by rw [← hlen]; exact getElem_lt hrx
    exact ⟨A.toList[x], List.getElem?_eq_getElem this⟩
  -- temporaries that the operation looks at
  have agreeT : ∀ t ∈ looks A.toList o, get (envD D 0 A.toList l T) t = get (envD (fun x => decide (x < 0 + j)) 0 A.toList l T) t := fun t ht => by
    refine envD_congr A.toList l 0 T T rfl fun x ox hox _ hdx => ?_
    simp only [Nat.zero_add]
    rcases Nat.lt_trichotomy x j with hlt | heq | hgt
    · rcases static_spec hst hlt hox hoL with hb | ⟨hap, _⟩
      · rw [early x hb]; simp [hlt]
      · exact absurd ht (apartT_spec hap hdx).1
    · subst heq; rw [hDj]; simp
    · rcases static_spec hst hgt hoL hox with hb | ⟨_, hap⟩
      · rw [late x ox hox hb]; simp; omega
      · exact absurd ht (apartT_spec hap hdx).1
  have agreeM : ∀ id ∈ r.reads, memD D 0 l (nth h) id = memD (fun x => decide (x < 0 + j)) 0 l (nth h) id := fun id hid => by
    refine memD_congr l 0 _ _ rfl fun x rx hrx hm => ?_
    simp only [Nat.zero_add]
    obtain ⟨ox, hox⟩ := operOf x rx hrx
    rcases Nat.lt_trichotomy x j with hlt | heq | hgt
    · rcases calm_spec hcalm hlt hrx hr with hb | hf
      · rw [early x hb]; simp [hlt]
      · exact absurd hid (hf.mr id hm)
    · subst heq; rw [hDj]; simp
    · rcases calm_spec hcalm hgt hr hrx with hb | hf
      · rw [late x ox hox hb]; simp; omega
      · exact absurd hm (hf.rm id hid)
  -- the state behind it
  have nextM : memD (doneOf (listed.setIfInBounds j true)) 0 l (nth h) = upd (memD D 0 l (nth h)) r.p := funext fun id =>
    memD_add l 0 _ (Nat.zero_le _) hr hDj hD' fun x rx hrx hlt hDx hm => by
      rw [Nat.zero_add] at hlt hDx
      obtain ⟨ox, hox⟩ := operOf x rx hrx
      rcases calm_spec hcalm hlt hr hrx with hb | hf
      · rw [late x ox hox hb] at hDx; cases hDx
      · exact hf.mm id hm
  have nextT : ∀ t, get (envD (doneOf (listed.setIfInBounds j true)) 0 A.toList l T) t = get (putT (envD D 0 A.toList l T) o.dst r.v) t := fun t => by
    rw [get_putT]
    refine envD_add A.toList l 0 T (Nat.zero_le _) hoL hr hDj hD' fun x ox hox hlt hDx hdt => ?_
    rw [Nat.zero_add] at hlt hDx
    rcases static_spec hst hlt hoL hox with hb | ⟨hap, _⟩
    · rw [late x ox hox hb] at hDx; cases hDx
    · exact (apartT_spec hap hdt).2
  have nextC : Closed A.toList (doneOf (listed.setIfInBounds j true)) := fun x ox hox hx e he hb => by
    rw [hD'] at hx ⊢
    rw [Bool.or_eq_true] at hx ⊢
    rcases hx with hx | hx
    · exact .inl (hclosed x ox hox hx e he hb)
    · have := of_decide_eq_true hx
      subst this
      rw [hoL] at hox; cases hox
      exact .inl (hedges' e he hb)
  have hdj : ∀ d, o.dst = some d → d < a.tmps.size := fun d hd => by
    have key : ∀ {os : List Oper} {n : Nat}, dstOK k os = true → os[n]? = some o → d < k := by
      intro os
      induction os with
      | nil => intro n _ hn; simp at hn
      | cons x os ih =>
        intro n hx hn
        obtain ⟨h1, h2⟩ := dstOK_cons hx
        cases n with
        | zero => simp only [List.getElem?_cons_zero, Option.some.injEq] at hn; subst hn; exact h1 d hd
        | succ n => exact ih h2 (by simpa using hn)
    exact Nat.lt_of_lt_of_le (key hdst hoL) hi.tsz
  have goOn : ∀ u w' γ', Ext γ (memD D 0 l (nth h)) γ' (upd (memD D 0 l (nth h)) r.p) → HR γ' (upd (memD D 0 l (nth h)) r.p) w' → Fr γ w γ' w' → VR γ' (upd (memD D 0 l (nth h)) r.p) r.v u → K (a.put o.dst u) w' := by
    intro u w' γ' e hh f hv
    refine hK γ' _ w' ⟨by simp [hi.sz], by rw [nextM]; exact hh, hi.base.mono f, fun t => ?_, by rw [put_size]; exact hi.tsz, by rw [put_defers]; exact hi.nd, hi.fr.trans f, ?_, nextC⟩
    · rw [nextM, nextT]
      have her := hi.er
      rw [hD] at her
      exact (her.mono e).put hv hdj t
    · rw [nextM]
      have hext := hi.ext
      rw [hD] at hext
      exact hext.trans e
  obtain ⟨n, hn1, hstp, hn3⟩ := Tr_at j 0 tr hoL hr
  have hwT : wanted A.toList (envD D 0 A.toList l T) o = wanted A.toList (envD (fun x => decide (x < 0 + j)) 0 A.toList l T) o :=
    wanted_T fun t ht => agreeT t (List.mem_append_right _ ht)
  have her := hi.er
  have hhr := hi.hr
  rw [hD] at her hhr
  unfold wpOp
  simp only [ho]
  rcases hstp with ⟨hw, hrr⟩ | ⟨hw, hex, hreads⟩
  · rw [wanted_ER her (hwT.trans hw)]
    simp only [Bool.false_eq_true, if_false]
    have hp : r.p = [] := by rw [hrr]
    have hv : r.v = .nov := by rw [hrr]
    refine goOn undef w γ ?_ ?_ (.refl _ _) ?_
    · rw [hp]; exact .refl _ _
    · rw [hp]; exact hhr
    · rw [hv]; exact .nov
  · rw [wanted_ER her (hwT.trans hw)]
    simp only [if_true]
    refine .inl ?_
    have hexD : exec1 C ρ (memD D 0 l (nth h)) n (envD D 0 A.toList l T) o = some (.val r.v, r.p) := by
      rw [exec1_T (T := envD (fun x => decide (x < 0 + j)) 0 A.toList l T) fun x hx => operand_T fun t ht => agreeT t (List.mem_append_left _ (mem_tmpsOf (by rw [← ht]; exact hx)))]
      exact exec1_ag hex fun id hid => agreeM id (by rw [hreads]; exact hid)
    refine sim_exec1 hρ hpr hhr hi.base her hexD (fun i x hni hix => ?_) goOn
    have him : i ∈ r.mods := List.mem_map.2 ⟨(i, x), hix, rfl⟩
    have hg : memD D 0 l (nth h) i = none := by
      have h1 : memD D 0 l (nth h) i = memD (fun _ => false) 0 l (nth h) i := by
        refine memD_congr l 0 _ _ rfl fun y ry hry hm => ?_
        rw [Nat.zero_add]
        obtain ⟨oy, hoy⟩ := operOf y ry hry
        rcases Nat.lt_trichotomy y j with hlt | heq | hgt
        · have := hn3 y hlt ry hry i hm
          omega
        · subst heq; exact hDj
        · rcases calm_spec hcalm hgt hr hry with hb | hf
          · exact late y oy hoy hb
          · exact absurd hm (hf.mm i him)
      rw [h1, memD_none l 0 _ fun _ _ => rfl, nth_eq]
      exact List.getElem?_eq_none (by omega)
    refine ⟨?_, hg⟩
    cases hb : γ.β i with
    | none => rfl
    | some b => obtain ⟨o', ho', _⟩ := hhr.obj i b hb; rw [hg] at ho'; cases ho'

theorem sim_wpAny (hρ : OracleOK C.P w0 ρ) (hpr : PrimOK C w0) (tr : Tr C ρ A.toList A.toList l T h T' h') (hst : static A.toList = true) (hcalm : calm (masks A.toList) (quietR (number 0 l)) = true)
    (hdst : dstOK k A.toList = true) (hQ : ∀ γ' a' w', Inv w0 k γ' h' T' a' w' → Fr γ0 wi γ' w' → Ext γ0 (nth h) γ' (nth h') → Q .normal a' w') :
    ∀ (fuel : Nat) (listed : Array Bool) (γ : G) (a : Act) (w : World), undone listed.toList ≤ fuel → DInv w0 k A l T (nth h) γ0 wi listed γ a w → wpAny C.P .any A Q fuel listed a w := by
  have hall : ∀ (listed : Array Bool) (γ : G) (a : Act) (w : World), DInv w0 k A l T (nth h) γ0 wi listed γ a w → (∀ x, x < A.size → doneOf listed x = true) → Q .normal a w := by
    intro listed γ a w hi hd
    obtain ⟨h1, h2⟩ := Tr_end (D := doneOf listed) 0 tr fun x _ hx => hd x (by simpa using hx)
    have e1 := hi.er; have e2 := hi.hr; have e3 := hi.ext
    rw [h1, h2] at e1; rw [h2] at e2 e3
    exact hQ γ a w ⟨e2, hi.base, e1, hi.tsz, hi.nd⟩ hi.fr e3
  have hempty : ∀ (listed : Array Bool) (γ : G) (a : Act) (w : World), DInv w0 k A l T (nth h) γ0 wi listed γ a w → Region.ready .any A listed = [] → Q .normal a w := by
    intro listed γ a w hi he
    refine hall listed γ a w hi ?_
    intro x
    induction x using Nat.strongRecOn with
    | _ x ih =>
      intro hx
      cases hd : doneOf listed x with
      | true => rfl
      | false =>
        have hxl : x < listed.size := by rw [hi.sz]; exact hx
        have hmem : x ∈ Region.ready .any A listed := by
          refine mem_ready.2 ⟨?_, A[x], Array.getElem?_eq_getElem hx, fun e he hb => ?_⟩
          · unfold doneOf at hd
            simp only [Array.getD_eq_getD_getElem?, Array.getElem?_eq_getElem hxl, Option.getD_some] at hd ⊢
            exact hd
          · have hst' := hst
            unfold static at hst'
            rw [Bool.and_eq_true] at hst'
            have := edgesOK_spec hst'.1 x A[x] (by simp [hx]) e (by simpa using he) hb
            exact ih e.on (by omega) (by omega)
        rw [he] at hmem
        cases hmem
  intro fuel
  induction fuel with
  | zero =>
    intro listed γ a w hu hi
    have hz := undone_zero (Nat.le_zero.1 hu)
    have hd : ∀ x, x < A.size → listed[x]? = some true := fun x hx => by
      have := hz x (by simp [hi.sz, hx])
      simpa using this
    refine ⟨?_, hall listed γ a w hi fun x hx => ?_⟩
    · cases hr : Region.ready .any A listed with
      | nil => rfl
      | cons x xs =>
        have hx : x ∈ Region.ready .any A listed := by rw [hr]; exact .head _
        obtain ⟨h1, o, ho, _⟩ := mem_ready.1 hx
        have hxs : x < A.size := (Array.getElem?_eq_some_iff.1 ho).1
        rw [Array.getD_eq_getD_getElem?, hd x hxs] at h1
        cases h1
    · unfold doneOf
      rw [Array.getD_eq_getD_getElem?, hd x hx]
      rfl
  | succ fuel ih =>
    intro listed γ a w hu hi
    refine ⟨hempty listed γ a w hi, fun j hj => ?_⟩
    refine sim_drawStep hρ hpr tr hst hcalm hdst hi hj fun γ' a' w' hi' => ih _ γ' a' w' ?_ hi'
    obtain ⟨hnl, o, ho, _⟩ := mem_ready.1 hj
    have hjs : j < listed.size := by rw [hi.sz]; exact (Array.getElem?_eq_some_iff.1 ho).1
    have hjf : listed.toList[j]? = some false := by
      simp only [Array.getD_eq_getD_getElem?, Array.getElem?_eq_getElem hjs, Option.getD_some] at hnl
      simp [hjs, hnl]
    have := undone_set hjf
    rw [Array.toList_setIfInBounds]
    omega

end

/-- The law of regions. -/
theorem regionOK {C : Cfg} {w0 : World} (hm : C.P.follows .mixedOrders = true) (hpr : PrimOK C w0) (ρ : Oracle) (hρ : OracleOK C.P w0 ρ) : RegionOK C ρ w0 := by
  intro k m id ops draw st r st' γ a w Q hx hi hp
  unfold region at hx
  split at hx
  · cases hx
  · rename_i hdst
    cases draw with
    | true =>
      simp only at hx
      split at hx
      · rename_i l T h hst hrun
        split at hx
        · rename_i hcalm
          cases hx
          refine wp_region_any hm ?_
          have hi' : DInv w0 k ops l st.T (nth st.h) γ w (Array.replicate ops.size false) γ a { w with drawn := w.drawn + 1 } := by
            have hno : ∀ x, doneOf (Array.replicate ops.size false) x = false := fun x => by
              unfold doneOf
              rw [Array.getD_eq_getD_getElem?, Array.getElem?_replicate]
              split <;> rfl
            have em : memD (doneOf (Array.replicate ops.size false)) 0 l (nth st.h) = nth st.h := memD_none l 0 _ fun x _ => hno x
            have ee : envD (doneOf (Array.replicate ops.size false)) 0 ops.toList l st.T = st.T := envD_none _ l 0 _ fun x _ => hno x
            refine ⟨by simp, ?_, ⟨hi.base.1, fun b hb => hi.base.2 b hb⟩, ?_, hi.sz, hi.nd, ⟨Nat.le_refl _, fun _ _ _ => rfl, fun i b hb => .inr ⟨i, hb⟩, fun _ _ _ hv => .inl hv, rfl, rfl⟩, ?_, fun j o _ hd => ?_⟩
            · rw [em]; exact hi.hr.of_keep fun b _ => rfl
            · rw [em, ee]; exact hi.er
            · rw [em]; exact .refl _ _
            · rw [hno] at hd; cases hd
          refine sim_wpAny hρ hpr (runRec_Tr hrun) hst hcalm hdst (fun γ' a' w' i1 f1 e1 => hp γ' a' w' i1 f1 e1.imm (e1.keep m)) ops.size _ γ a _ ?_ hi'
          rw [Array.toList_replicate, undone_replicate]
          exact Nat.le_refl _
        · cases hx
      · cases hx
    | false =>
      simp only at hx
      split at hx
      · cases hx
      · rename_i T h hrun
        cases hx
        refine wp_region ?_
        rw [List.range_eq_range']
        have := sim_runOps hρ hpr (Q := Q) ops.toList 0 rfl st.T st.h γ a w none T h hrun hi hdst (fun γ' a' w' _ i1 f1 e1 => hp γ' a' w' i1 f1 e1.imm (e1.keep m)) (fun γ' a' w' v u hv => by cases hv)
        simpa using this
      · rename_i v T h hrun
        cases hx
        refine wp_region ?_
        rw [List.range_eq_range']
        have := sim_runOps hρ hpr (Q := Q) ops.toList 0 rfl st.T st.h γ a w (some v) T h hrun hi hdst (fun γ' a' w' hv => by cases hv)
          (fun γ' a' w' v' u hv i1 f1 e1 hu => by cases hv; exact hp γ' a' w' i1 f1 e1.imm (e1.keep m) u hu)
        simpa using this

/-- The evaluator's calls are the model's. -/
theorem callN_sound {C : Cfg} {w0 : World} (hm : C.P.follows .mixedOrders = true) (hpr : PrimOK C w0) (n : Nat) : OracleOK C.P w0 (callN C n) :=
  callN_OK (fun ρ hρ => regionOK hm hpr ρ hρ) n

end Go.Ab
