/- Each operation of the evaluator does what the model's does, continued. -/
import Derived.Test.YtchkgfmmfdineaaGreatAbOps
import Derived.Laws.StructEq
import Derived.Laws.Cover3
namespace Go.Ab

theorem run_storeVar {P : Program} {w : World} {t : TypeId} {n : Nat} {a : Addr} {v : Value} (hn : sizeOf? P t = some n) (hs : v.cells.toList.length = n) :
    (storeVar t a v).run P w = (storeCells a v.cells.toList).run P w := by
  unfold storeVar
  have : v.cells.size = n := by simpa using hs
  simp [run_size hn, this]

theorem sim_store {P : Program} {γ : G} {g : Look} {w : World} {t : TypeId} {a x v : AV} {ua ux : Value} {p : Patch} (h : HR γ g w) (ha : VR γ g a ua) (hv : VR γ g x ux)
    (hx : xStore P g t a x = some (.val v, p)) : v = .nov ∧ GoodU γ g w p ((Instr.storeAt t ua ux).run P w) := by
  unfold xStore at hx
  split at hx
  · rename_i n hn
    dsimp only at hx
    split at hx
    · rename_i cs hcs
      split at hx
      · rename_i hlc
        obtain ⟨hl, hc1⟩ := hlc
        split at hx
        · rename_i p' hp'
          cases hx
          refine ⟨rfl, ?_⟩
          have key : ∀ {γ1 : G} {q : Patch} {x1 : AV}, Ext γ g γ1 (upd g q) → HR γ1 (upd g q) w → Fr γ w γ1 w → VR γ1 (upd g q) x1 ux → cellsOf x1 = some cs → storeAt (upd g q) a cs = some p' →
              GoodU γ g w (q ++ p') ((Instr.storeAt t ua ux).run P w) := by
            intro γ1 q x1 e1 h1 f1 hv1 hcs1 hst
            have hcells := cellsOf_VR hcs1 hv1
            obtain ⟨b, o, rfl, w', γ2, r1, r2, r3, r4⟩ := sim_storeAt (P := P) h1 (ha.mono e1) hcells hc1 hst
            have hlen : ux.cells.toList.length = n := by rw [← hcells.1]; exact hl
            refine ⟨w', γ2, ?_, ?_, ?_, f1.trans r4⟩
            · simp only [Instr.storeAt, Instr.sureAddr, Sem.run_bind, Sem.run_pure, Result.andThen_ok]
              rw [run_storeVar hn hlen]; exact r1
            · rw [upd_append]; exact e1.trans r2
            · rw [upd_append]; exact r3
          split at hcs
          · rename_i i1 i2 i3 i4
            obtain ⟨γ1, e1, h1, f1, _, hv1⟩ := sim_purify h hv
            exact key e1 h1 f1 hv1 hcs hp'
          · rename_i hne
            exact key (q := []) (.refl _ _) h (.refl _ _) hv hcs (by
              cases a <;> first | exact hp' | exact absurd rfl (hne _ _ _ _))
        · cases hx
      · cases hx
    · cases hx
  · cases hx

/-! ### Arithmetic, comparisons -/

theorem sim_nilcheck {P : Program} {γ : G} {g : Look} {w : World} {x v : AV} {u : Value} (hv : VR γ g x u) (hx : nilcheck x = some v) :
    v = x ∧ (match (generalizing := false) u with
      | .pointer none | .nilIface | .nilFunc => runtimePanic .nilDeref
      | .func (.method name) first captured =>
        match (first[0]? : Option Value) with
        | some .nilIface => runtimePanic .nilDeref
        | some (.iface t w) => do
          if (← nilAhead ((← program).types.size + Made.depth) t w name) != some false then
            unsupported (.noEntry "op/nilCheck.the method's receiver behind this interface value is a nil pointer, or cannot be seen to be none, and the arguments act or may panic (ledger 612)")
          pure (.value (.func (.method name) first captured))
        | _ => pure (.value (.func (.method name) first captured))
      | x => pure (.value x) : Sem Next).run P w = .ok (.value u) w := by
  unfold nilcheck at hx
  split at hx
  all_goals first | cases hx; done | skip
  all_goals cases hx
  all_goals refine ⟨rfl, ?_⟩
  · cases hv; rfl
  · cases hv; rfl
  · cases hv; rfl
  · cases hv with
    | t _ _ ht => cases ht; rfl
  · cases hv; rfl

theorem ofSem_some {s : Sem Value} {x : Tree} (h : ofSem s = some x) : ∃ v, s = .pure v ∧ unscal v = some x := by
  unfold ofSem at h
  split at h
  · rename_i v; exact ⟨v, rfl, h⟩
  · cases h

theorem unscal_TR {I : Imm} {v : Value} {x : Tree} (h : unscal v = some x) : TR I x v := by
  unfold unscal at h
  split at h
  · cases h; exact .bool _
  · cases h; exact .int _ _
  · cases h

theorem scal_TR {I : Imm} {v u : Value} {x : Tree} (h : scal x = some v) (hr : TR I x u) : u = v := by
  unfold scal at h
  split at h
  · cases h; cases hr; rfl
  · cases h; cases hr; rfl
  · cases h

theorem sim_unop {P : Program} {γ : G} {g : Look} {w : World} {op : UnOp} {x v : AV} {u : Value} (h : HR γ g w) (hv : VR γ g x u) (hx : unop op x = some v) :
    Good γ g w [] v ((Op.unary op u).run P w) := by
  unfold unop at hx
  split at hx
  · rename_i x'
    split at hx
    · rename_i v' hs
      have := scal_TR hs hv.of_tree
      subst this
      simp only [Option.map_eq_some_iff] at hx
      obtain ⟨y, hy, rfl⟩ := hx
      obtain ⟨r, hr, hur⟩ := ofSem_some hy
      rw [hr]
      exact .pure h (.t _ _ (unscal_TR hur))
    · cases hx
  · cases hx

theorem toList_eq (s : ByteArray) : s.toList = s.data.toList := by
  have key : ∀ (n i : Nat) (r : List UInt8), s.size - i = n → ByteArray.toList.loop s i r = r.reverse ++ s.data.toList.drop i := by
    intro n
    induction n with
    | zero =>
      intro i r h
      unfold ByteArray.toList.loop
      rw [if_neg (by omega), List.drop_of_length_le (by rw [Array.length_toList]; show s.size ≤ i; omega)]; simp
    | succ n ih =>
      intro i r h
      unfold ByteArray.toList.loop
      have hi : i < s.size := by omega
      rw [if_pos hi, ih (i + 1) _ (by omega)]
      have hd : s.data.toList.drop i = s.get! i :: s.data.toList.drop (i + 1) := by
        rw [List.drop_eq_getElem_cons (by rw [Array.length_toList]; exact hi)]
        congr 1
        have : s.get! i = s.data[i]! := rfl
        rw [this]
        rw [Array.getElem_toList]
        exact (getElem!_pos s.data i hi).symm
      rw [hd]; simp
  have := key (s.size - 0) 0 [] rfl
  simpa [ByteArray.toList] using this

def mkS (s : List Nat) : ByteArray := ⟨(s.map UInt8.ofNat).toArray⟩

theorem mkS_toList (s : List Nat) : (mkS s).toList = s.map UInt8.ofNat := by rw [toList_eq]; simp [mkS]

theorem ofNat_inj {a b : Nat} (ha : a < 256) (hb : b < 256) (h : UInt8.ofNat a = UInt8.ofNat b) : a = b := by
  have := congrArg UInt8.toNat h
  simp [UInt8.toNat_ofNat'] at this
  omega

theorem map_inj {x y : List Nat} (hx : ∀ b ∈ x, b < 256) (hy : ∀ b ∈ y, b < 256) (h : x.map UInt8.ofNat = y.map UInt8.ofNat) : x = y := by
  induction x generalizing y with
  | nil => cases y with
    | nil => rfl
    | cons b y => simp at h
  | cons a x ih => cases y with
    | nil => simp at h
    | cons b y =>
      simp only [List.map_cons, List.cons.injEq] at h
      rw [ofNat_inj (hx a (by simp)) (hy b (by simp)) h.1, ih (fun c hc => hx c (by simp [hc])) (fun c hc => hy c (by simp [hc])) h.2]

theorem mkS_beq {x y : List Nat} (hx : ∀ b ∈ x, b < 256) (hy : ∀ b ∈ y, b < 256) : ((mkS x).toList == (mkS y).toList) = beqL x y := by
  rw [mkS_toList, mkS_toList, beqL_eq]
  by_cases h : x = y
  · subst h; simp
  · have : x.map UInt8.ofNat ≠ y.map UInt8.ofNat := fun hh => h (map_inj hx hy hh)
    simp [h, this]

theorem mkS_less : ∀ {x y : List Nat}, (∀ b ∈ x, b < 256) → (∀ b ∈ y, b < 256) → Op.bytesLess (x.map UInt8.ofNat) (y.map UInt8.ofNat) = bytesLess x y
  | x, [], _, _ => by cases x <;> simp [Op.bytesLess, bytesLess]
  | [], b :: y, _, _ => by simp [Op.bytesLess, bytesLess]
  | a :: x, b :: y, hx, hy => by
    have ih := mkS_less (x := x) (y := y) (fun c hc => hx c (by simp [hc])) (fun c hc => hy c (by simp [hc]))
    have ha := hx a (by simp)
    have hb := hy b (by simp)
    simp only [List.map_cons, Op.bytesLess, bytesLess, ih]
    have h1 : decide (UInt8.ofNat a < UInt8.ofNat b) = Nat.blt a b := by
      rw [Bool.eq_iff_iff]
      simp [UInt8.lt_iff_toNat_lt, UInt8.toNat_ofNat', Nat.mod_eq_of_lt ha, Nat.mod_eq_of_lt hb, Nat.blt_eq]
    have h2 : (UInt8.ofNat a == UInt8.ofNat b) = Nat.beq a b := by
      rw [Bool.eq_iff_iff]
      simp only [beq_iff_eq, Nat.beq_eq]
      exact ⟨fun h => ofNat_inj ha hb h, fun h => by rw [h]⟩
    rw [h1, h2]

theorem mkS_append (x y : List Nat) : mkS (x ++ y) = mkS x ++ mkS y := by
  apply ByteArray.ext
  simp [mkS, ByteArray.data_append]

theorem mkS_size (x : List Nat) : (mkS x).size = x.length := by simp [mkS, ByteArray.size]

theorem TR.str_inv {I : Imm} {s : List Nat} {u : Value} (h : TR I (.str s) u) : u = .string (mkS s) ∧ ∀ b ∈ s, b < 256 := by
  cases h with
  | str _ hb => exact ⟨rfl, hb⟩

theorem TR.mkS {I : Imm} {s : List Nat} (h : ∀ b ∈ s, b < 256) : TR I (.str s) (.string (mkS s)) := .str s h

theorem sim_strOp {P : Program} {γ : G} {g : Look} {w : World} {op : BinOp} {a b : List Nat} {x : Tree} {ua ub : Value} (h : HR γ g w) (ha : TR γ.imm (.str a) ua) (hb : TR γ.imm (.str b) ub) (t : TypeId)
    (hx : strOp op a b = some x) : Good γ g w [] (.t x) ((Go.binOp op t ua ub).run P w) := by
  obtain ⟨rfl, ha'⟩ := ha.str_inv
  obtain ⟨rfl, hb'⟩ := hb.str_inv
  have heq := mkS_beq ha' hb'
  have hlt : Op.bytesLess (Ab.mkS a).toList (Ab.mkS b).toList = bytesLess a b := by rw [mkS_toList, mkS_toList, mkS_less ha' hb']
  have hbo : ∀ c : Bool, Good γ g w [] (.t (.bool c)) (.ok (.bool c) w) := fun c => .pure h (.t _ _ (.bool c))
  unfold strOp at hx
  cases op <;> simp only [reduceCtorEq] at hx
  case add =>
    split at hx
    · rename_i hl
      cases hx
      have : ¬ ((((Ab.mkS a).size + (Ab.mkS b).size : Nat) : Int) > IntKind.i64.max) := by
        rw [mkS_size, mkS_size]
        have : IntKind.i64.max = 9223372036854775807 := by decide
        omega
      simp only [Go.binOp, Op.stringOp, if_neg this]
      rw [← mkS_append]
      exact .pure h (.t _ _ (.mkS fun c hc => by rcases List.mem_append.1 hc with hc | hc; exact ha' c hc; exact hb' c hc))
    · cases hx
  all_goals cases hx
  all_goals simp only [Go.binOp, Op.stringOp, heq, hlt]
  all_goals exact hbo _

/-! ### Parts -/

theorem sim_part {P : Program} {γ : G} {g : Look} {w : World} {t : TypeId} {cs : List AV} {vs : List Value} {off : Nat} {x : AV} (hv : VRs γ g cs vs) (hx : part P t cs off = some x) :
    ∃ u, (Go.part t vs.toArray off).run P w = .ok u w ∧ VR γ g x u := by
  unfold part at hx
  split at hx
  · rename_i ha
    split at hx
    · rename_i n hn
      split at hx
      · rename_i l hl
        cases hx
        have hc := cut_some hl
        refine ⟨.agg (vs.toArray.extract off (off + n)), by simp [Go.part, run_isAgg ha, run_size hn], ?_⟩
        have e : vs.toArray.extract off (off + n) = ((vs.drop off).take n).toArray := by
          apply Array.ext'
          simp [List.extract_eq_take_drop]
        rw [e]
        refine .mkAgg ⟨by rw [cut_length hl]; have := hv.1; simp; omega, fun i c v hci hvi => ?_⟩
        have hi : i < n := by have := getElem_lt hci; rw [cut_length hl] at this; exact this
        rw [cut_get hl hi] at hci
        rw [List.getElem?_take_of_lt hi, List.getElem?_drop] at hvi
        exact hv.2 _ _ _ hci hvi
      · cases hx
    · cases hx
  · rename_i ha
    rw [nth_eq] at hx
    have hl := getElem_lt hx
    have hvl : off < vs.length := by rw [← hv.1]; exact hl
    have hvo : vs[off]? = some vs[off] := List.getElem?_eq_getElem hvl
    refine ⟨vs[off], ?_, hv.2 off x _ hx hvo⟩
    simp [Go.part, run_isAgg ha, hvo]
  · cases hx

theorem partT_part {P : Program} {t : TypeId} {cs : List Tree} {off : Nat} {x : Tree} (h : partT P t cs off = some x) : ∃ y, part P t (cs.map .t) off = some y ∧ y = .t x := by
  unfold partT at h
  unfold part
  have trees_map : ∀ l : List Tree, trees (l.map .t) = some l := fun l => by
    induction l with
    | nil => rfl
    | cons a l ih => simp [trees, ih]
  cases ha : agg? P t with
  | none => simp [ha] at h
  | some b =>
    rw [ha] at h
    cases b with
    | true =>
      simp only at h ⊢
      split at h
      · rename_i n hn
        split at h
        · rename_i l hl
          cases h
          have hc := cut_some hl
          have : cut (cs.map AV.t) off n = some (l.map AV.t) := by
            unfold cut
            rw [if_pos (by simpa using hc.1), hc.2]
            simp [List.map_take, List.map_drop]
          rw [this]
          refine ⟨_, rfl, ?_⟩
          unfold mkAgg; rw [trees_map]
        · cases h
      · cases h
    | false =>
      simp only at h ⊢
      rw [nth_eq] at h ⊢
      exact ⟨.t x, by simp [h], rfl⟩

theorem sim_partT {P : Program} {I : Imm} {w : World} {t : TypeId} {cs : List Tree} {vs : List Value} {off : Nat} {x : Tree} (hl : cs.length = vs.length)
    (hv : ∀ (i : Nat) c v, cs[i]? = some c → vs[i]? = some v → TR I c v) (hx : partT P t cs off = some x) :
    ∃ u, (Go.part t vs.toArray off).run P w = .ok u w ∧ TR I x u := by
  obtain ⟨y, hy, rfl⟩ := partT_part hx
  have := sim_part (P := P) (γ := ⟨fun _ => none, fun _ => 0, I⟩) (g := fun _ => none) (w := w) (VRs.of_trees hl hv) hy
  obtain ⟨u, hu, hr⟩ := this
  exact ⟨u, hu, hr.of_tree⟩

/-! ### == -/

theorem TR.agg_inv {I : Imm} {cs : List Tree} {u : Value} (h : TR I (.agg cs) u) :
    ∃ vs : List Value, u = .agg vs.toArray ∧ cs.length = vs.length ∧ ∀ (i : Nat) c v, cs[i]? = some c → vs[i]? = some v → TR I c v := by
  cases h with
  | agg _ vs hl hh => exact ⟨vs, rfl, hl, hh⟩

theorem equal_run {P : Program} {I : Imm} {w : World} : ∀ (d : Nat) (D : Nat) (t : TypeId) (x y : Tree) (b : Bool) (u v : Value), equal P d t x y = some b → d ≤ D → TR I x u → TR I y v →
    (Op.equalIn D t u v).run P w = .ok b w
  | 0, _, _, _, _, _, _, _, h, _, _, _ => by simp [equal] at h
  | d + 1, D, t, x, y, b, u, v, h, hd, hx, hy => by
    obtain ⟨D', rfl⟩ : ∃ D', D = D' + 1 := ⟨D - 1, by omega⟩
    unfold equal at h
    split at h
    · rename_i p q hu
      cases h; cases hx; cases hy
      exact run_equalIn_bool' w D' t p q (und_eq hu)
    · rename_i k' k p k'' q hu
      split at h
      · rename_i hk; subst hk
        cases h; cases hx; cases hy
        exact run_equalIn_int w D' t _ _ p q (und_eq hu)
      · cases h
    · rename_i p q hu
      cases h
      obtain ⟨rfl, hp⟩ := hx.str_inv
      obtain ⟨rfl, hq⟩ := hy.str_inv
      rw [run_equalIn_string w D' t _ _ (und_eq hu), mkS_beq hp hq]
    · rename_i fields xs ys hu
      split at h
      · cases h
      · rename_i hst
        obtain ⟨us, rfl, hul, hur⟩ := hx.agg_inv
        obtain ⟨vs, rfl, hvl, hvr⟩ := hy.agg_inv
        have hf : P.fieldsOf t = fields := by unfold Program.fieldsOf; rw [und_eq hu]
        rw [run_equalIn_struct w D' t _ _ (by rw [hf]; exact und_eq hu) (by simpa using hst), hf]
        clear hu hf
        generalize fields.toList = fs at h
        induction fs with
        | nil => simp [equal.eqFields] at h; subst h; rfl
        | cons f fs ih =>
          unfold equal.eqFields at h
          unfold Op.eqFields
          split at h
          · rename_i hn
            rw [if_neg (by simpa using hn)]
            exact ih h
          · rename_i hn
            rw [if_pos (by simpa using hn)]
            split at h
            · rename_i a c ha hc
              obtain ⟨ua, ra, ta⟩ := sim_partT (P := P) (w := w) hul hur ha
              obtain ⟨uc, rc, tc⟩ := sim_partT (P := P) (w := w) hvl hvr hc
              simp only [Sem.run_bind, ra, rc, Result.andThen_ok]
              split at h
              · rename_i he
                rw [equal_run d D' f.type a c true ua uc he (by omega) ta tc]
                simpa using ih h
              · rename_i he
                cases h
                rw [equal_run d D' f.type a c false ua uc he (by omega) ta tc]
                simp
              · cases h
            · cases h
    · cases h

theorem guarded_eq {P : Program} : ∀ (d D : Nat) (t : TypeId), guarded P d t = false → d ≤ D → P.eqGuardType D t = false
  | 0, _, _, h, _ => by simp [guarded] at h
  | d + 1, D, t, h, hd => by
    obtain ⟨D', rfl⟩ : ∃ D', D = D' + 1 := ⟨D - 1, by omega⟩
    unfold guarded at h
    unfold Program.eqGuardType
    split at h
    · rename_i ms hu
      rw [und_eq hu]; simpa using h
    · rename_i fs hu
      rw [und_eq hu]
      simp only [List.any_eq_false] at h
      simp only [Array.any_eq_false']
      intro f hf
      have hh := h f (by simpa using hf)
      simp only [Bool.and_eq_true, not_and, Bool.not_eq_true] at hh ⊢
      intro hn
      exact guarded_eq d D' f.type (hh hn) (by omega)
    · rename_i n e hu
      rw [und_eq hu]
      exact guarded_eq d D' e h (by omega)
    · rename_i dd h1 h2 h3 hu
      rw [und_eq hu]
      cases dd <;> first | rfl | (exact absurd rfl (h1 _)) | (exact absurd rfl (h2 _)) | (exact absurd rfl (h3 _ _))
    · cases h

theorem depth_ge (P : Program) : 50 ≤ P.depth := by
  have : Made.depth = 100 := rfl
  unfold Program.depth; omega

theorem run_eqGuard_plain {P : Program} {w : World} {op : BinOp} {t : TypeId} {ox oy : Operand} {a b : Value} (h1 : a ≠ .nilIface) (h2 : ∀ x, a ≠ .agg x) :
    (eqGuard op t ox oy a b).run P w = .ok () w := by
  unfold eqGuard
  cases op <;> simp only [Bool.not_true, Bool.not_false, Bool.false_eq_true, if_false, if_true, Sem.run_pure]
  all_goals (first | rfl | skip)
  all_goals (cases a <;> first | rfl | exact absurd rfl h1 | exact absurd rfl (h2 _))

theorem kindOf_shape {γ : G} {g : Look} {x : AV} {u : Value} {k : Nat} {b : Bool} (hx : kindOf x = some (k, b)) (hv : VR γ g x u) :
    (k = 0 ∧ ((b = true ∧ u = .nilFunc) ∨ (b = false ∧ ∃ f a c, u = .func f a c))) ∨ (k = 1 ∧ ((b = true ∧ u = .pointer none) ∨ (b = false ∧ ∃ a, u = .pointer (some a)))) ∨
    (k = 2 ∧ ((b = true ∧ u = .slice none 0 0) ∨ (b = false ∧ ∃ a n c, u = .slice (some a) n c))) := by
  unfold kindOf at hx
  split at hx <;> first | (cases hx; done) | skip
  all_goals cases hx
  · cases hv with | t _ _ ht => cases ht; simp
  · cases hv with | t _ _ ht => cases ht; simp
  · cases hv; simp
  · cases hv with | t _ _ ht => cases ht; simp
  · cases hv; simp
  · cases hv; simp
  · cases hv; simp
  · cases hv with
    | t _ _ ht => cases ht with
      | sl nl clip es a cap s val h0 h1 h2 h3 h4 h5 h6 =>
        cases b with
        | true => obtain ⟨rfl, rfl, rfl⟩ := h0 rfl; simp
        | false => obtain ⟨hne, _⟩ := h1 rfl; cases a with
          | none => exact absurd rfl hne
          | some a => simp
  · cases hv; simp
  · cases hv; simp

theorem sim_nilEq {P : Program} {γ : G} {g : Look} {w : World} {t : TypeId} {x y : AV} {ux uy : Value} {b : Bool} (hx : VR γ g x ux) (hy : VR γ g y uy) (h : nilEq P t x y = some b) :
    (Op.equal t ux uy).run P w = .ok b w ∧ (∀ (op : BinOp) (ox oy : Operand), (eqGuard op t ox oy ux uy).run P w = .ok () w) ∧
      Go.binOp .eql t ux uy = (do pure (.bool (← Op.equal t ux uy))) ∧ Go.binOp .neq t ux uy = (do pure (.bool (!(← Op.equal t ux uy)))) := by
  unfold nilEq at h
  split at h
  · rename_i k a m c n hk ha hc
    have hka := kindOf_shape ha hx
    have hkc := kindOf_shape hc hy
    have hu : (k = 0 → ∃ p q r, P.underlying t = some (.func p q r)) ∧ (k = 1 → ∃ e, P.underlying t = some (.pointer e)) ∧ (k = 2 → ∃ e, P.underlying t = some (.slice e)) := by
      unfold kindT at hk
      split at hk <;> first | (cases hk; done) | skip
      all_goals (rename_i hh; cases hk; have := und_eq hh; refine ⟨?_, ?_, ?_⟩ <;> intro h0 <;> first | (cases h0; done) | exact ⟨_, this⟩ | exact ⟨_, _, _, this⟩)
    have hm : Nat.beq k a = true ∧ Nat.beq k c = true := by
      split at h
      · rename_i hh; simpa using hh
      · rename_i hh; simpa using hh
      · cases h
    obtain ⟨e1, e2⟩ := hm
    have e1 := Nat.eq_of_beq_eq_true e1
    have e2 := Nat.eq_of_beq_eq_true e2
    subst e1; subst e2
    have hmn : (m = true ∧ b = n) ∨ (m = false ∧ n = true ∧ b = false) := by
      split at h
      · cases h; exact .inl ⟨rfl, rfl⟩
      · cases h; exact .inr ⟨rfl, rfl, rfl⟩
      · cases h
    clear h ha hc hk
    rcases hka with ⟨rfl, hka⟩ | ⟨rfl, hka⟩ | ⟨rfl, hka⟩
    · obtain ⟨p, q, r, hu⟩ := hu.1 rfl
      have hkc' : (n = true ∧ uy = .nilFunc) ∨ (n = false ∧ ∃ f a c, uy = .func f a c) := by simpa using hkc
      rcases hka with ⟨rfl, rfl⟩ | ⟨rfl, f, a, c, rfl⟩ <;> rcases hkc' with ⟨rfl, rfl⟩ | ⟨rfl, f', a', c', rfl⟩ <;> simp at hmn <;> subst hmn <;>
        exact ⟨by (show (Op.equalIn (9999 + 1) t _ _).run P w = _); generalize 9999 = d; simp [Op.equalIn, underlying, hu], fun op ox oy => run_eqGuard_plain (by simp) (by simp), rfl, rfl⟩
    · obtain ⟨e, hu⟩ := hu.2.1 rfl
      have hkc' : (n = true ∧ uy = .pointer none) ∨ (n = false ∧ ∃ a, uy = .pointer (some a)) := by simpa using hkc
      rcases hka with ⟨rfl, rfl⟩ | ⟨rfl, a, rfl⟩ <;> rcases hkc' with ⟨rfl, rfl⟩ | ⟨rfl, a', rfl⟩ <;> simp at hmn <;> subst hmn <;>
        exact ⟨by (show (Op.equalIn (9999 + 1) t _ _).run P w = _); generalize 9999 = d; simp [Op.equalIn, underlying, hu], fun op ox oy => run_eqGuard_plain (by simp) (by simp), rfl, rfl⟩
    · obtain ⟨e, hu⟩ := hu.2.2 rfl
      have hkc' : (n = true ∧ uy = .slice none 0 0) ∨ (n = false ∧ ∃ a n c, uy = .slice (some a) n c) := by simpa using hkc
      rcases hka with ⟨rfl, rfl⟩ | ⟨rfl, a, l, c, rfl⟩ <;> rcases hkc' with ⟨rfl, rfl⟩ | ⟨rfl, a', l', c', rfl⟩ <;> simp at hmn <;> subst hmn <;>
        exact ⟨by (show (Op.equalIn (9999 + 1) t _ _).run P w = _); generalize 9999 = d; simp [Op.equalIn, underlying, hu], fun op ox oy => run_eqGuard_plain (by simp) (by simp), rfl, rfl⟩
  · cases h

theorem sim_binop {P : Program} {γ : G} {g : Look} {w : World} {op : BinOp} {t : TypeId} {x y v : AV} {ux uy : Value} (ox oy : Operand) (h : HR γ g w) (hx : VR γ g x ux) (hy : VR γ g y uy)
    (hb : binop P op t x y = some v) : Good γ g w [] v ((do eqGuard op t ox oy ux uy; Go.binOp op t ux uy : Sem Value).run P w) := by
  unfold binop at hb
  split at hb
  · rename_i k a k' b
    have hxt := hx.of_tree
    have hyt := hy.of_tree
    cases hxt; cases hyt
    simp only [Option.map_eq_some_iff] at hb
    obtain ⟨z, hz, rfl⟩ := hb
    obtain ⟨r, hr, hur⟩ := ofSem_some hz
    rw [Sem.run_bind, run_eqGuard_plain (by simp) (by simp), Result.andThen_ok, hr]
    exact .pure h (.t _ _ (unscal_TR hur))
  · rename_i a b
    simp only [Option.map_eq_some_iff] at hb
    obtain ⟨z, hz, rfl⟩ := hb
    have hxt := hx.of_tree
    have := hxt.str_inv
    rw [Sem.run_bind, run_eqGuard_plain (by rw [this.1]; simp) (by rw [this.1]; simp), Result.andThen_ok]
    exact sim_strOp h hxt hy.of_tree t hz
  · rename_i a b
    have hxt := hx.of_tree
    have hyt := hy.of_tree
    cases hxt; cases hyt
    rw [Sem.run_bind, run_eqGuard_plain (by simp) (by simp), Result.andThen_ok]
    split at hb
    · rename_i hu
      cases hb
      have : (Go.binOp .eql t (.bool a) (.bool b)).run P w = .ok (.bool (a == b)) w := by
        (show (do pure (.bool (← Op.equalIn (9999 + 1) t (.bool a) (.bool b))) : Sem Value).run P w = _)
        rw [Sem.run_bind, run_equalIn_bool' w 9999 t a b (und_eq hu)]; rfl
      rw [this]; exact .pure h (.t _ _ (.bool _))
    · rename_i hu
      cases hb
      have : (Go.binOp .neq t (.bool a) (.bool b)).run P w = .ok (.bool !(a == b)) w := by
        (show (do pure (.bool (!(← Op.equalIn (9999 + 1) t (.bool a) (.bool b)))) : Sem Value).run P w = _)
        rw [Sem.run_bind, run_equalIn_bool' w 9999 t a b (und_eq hu)]; rfl
      rw [this]; exact .pure h (.t _ _ (.bool _))
    · cases hb
  · rename_i xs ys
    split at hb
    · cases hb
    · rename_i hgd
      obtain ⟨us, rfl, hul, hur⟩ := hx.of_tree.agg_inv
      obtain ⟨vs, rfl, hvl, hvr⟩ := hy.of_tree.agg_inv
      have hg : P.eqGuardType P.depth t = false := guarded_eq 50 P.depth t (by simpa using hgd) (depth_ge P)
      rw [Sem.run_bind, run_eqGuard_agg w op t ox oy _ _ hg, Result.andThen_ok]
      split at hb
      · simp only [Option.map_eq_some_iff] at hb
        obtain ⟨b, he, rfl⟩ := hb
        rw [run_eql_struct, equal_run 100 10000 t _ _ b _ _ he (by omega) hx.of_tree hy.of_tree]
        exact .pure h (.t _ _ (.bool _))
      · simp only [Option.map_eq_some_iff] at hb
        obtain ⟨b, he, rfl⟩ := hb
        rw [run_neq_struct, equal_run 100 10000 t _ _ b _ _ he (by omega) hx.of_tree hy.of_tree]
        exact .pure h (.t _ _ (.bool _))
      · cases hb
  · split at hb
    · rename_i b hn
      cases hb
      obtain ⟨h1, h2, h3, h4⟩ := sim_nilEq (w := w) hx hy hn
      rw [Sem.run_bind, h2, Result.andThen_ok, h3]
      simp only [Sem.run_bind, h1, Result.andThen_ok, Sem.run_pure]
      exact .pure h (.t _ _ (.bool _))
    · rename_i b hn
      cases hb
      obtain ⟨h1, h2, h3, h4⟩ := sim_nilEq (w := w) hx hy hn
      rw [Sem.run_bind, h2, Result.andThen_ok, h4]
      simp only [Sem.run_bind, h1, Result.andThen_ok, Sem.run_pure]
      exact .pure h (.t _ _ (.bool _))
    · cases hb

end Go.Ab
