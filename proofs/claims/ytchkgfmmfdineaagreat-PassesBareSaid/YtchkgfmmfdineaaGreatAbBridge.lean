/- From what the row says of arguments that can be read as data to the evaluator's trees; and back to what the row asks behind the call. -/
import Derived.Test.YtchkgfmmfdineaaGreatAbData
import Derived.Deep.Slices
import Derived.ChangeStays
import Derived.ChangeSame
import Derived.ChangeOld
import Derived.OpenShut
namespace Go.Ab
open Go.ChangeShapes Go.WideShapes

section
variable {H : Type} {enc : TypeId × Value → H} {P : Program} {w : World}

/-- All cells of a world: what nothing writes to. -/
def immOf (w : World) : Imm := fun b o => w.cell? ⟨b, o, none⟩

/-- Some cells as trees. -/
structure CT (w : World) (ts : List Tree) (cs : List Value) : Prop where
  len : ts.length = cs.length
  val : ∀ (i : Nat) c v, ts[i]? = some c → cs[i]? = some v → TR (immOf w) c v ∧ v.oneCell' = true

theorem CT.nil : CT w [] [] := ⟨rfl, fun i c v h => by simp at h⟩
theorem CT.one {c : Tree} {v : Value} (h : TR (immOf w) c v) (h' : v.oneCell' = true) : CT w [c] [v] :=
  ⟨rfl, fun i c' v' hc hv => by
    cases i with
    | zero => simp at hc hv; subst hc; subst hv; exact ⟨h, h'⟩
    | succ i => simp at hc⟩
theorem CT.append {a b : List Tree} {x y : List Value} (h : CT w a x) (h' : CT w b y) : CT w (a ++ b) (x ++ y) := by
  refine ⟨by simp [h.len, h'.len], fun i c v hc hv => ?_⟩
  by_cases hi : i < a.length
  · rw [List.getElem?_append_left hi] at hc
    rw [List.getElem?_append_left (by rw [← h.len]; exact hi)] at hv
    exact h.val i c v hc hv
  · rw [List.getElem?_append_right (by omega)] at hc
    rw [List.getElem?_append_right (by rw [← h.len]; omega), ← h.len] at hv
    exact h'.val _ c v hc hv

theorem ct_step {a b : List Tree} {cs : List Value} {o n : Nat} (h1 : CT w a ((cs.drop o).take n)) (h2 : CT w b (cs.drop (o + n))) : CT w (a ++ b) (cs.drop o) := by
  have e : cs.drop o = (cs.drop o).take n ++ cs.drop (o + n) := by
    rw [← List.drop_drop, List.take_append_drop]
  rw [e]; exact h1.append h2
theorem ct_end {cs : List Value} {o : Nat} (h : cs.length = o) : CT w [] (cs.drop o) := by
  rw [List.drop_of_length_le (by omega)]; exact .nil

/-- It can be read as data of a type. -/
def Rd (enc : TypeId × Value → H) (P : Program) (w : World) (t : TypeId) (cs : List Value) : Prop := ∃ n x, DataW.trod enc P w 0 (fun _ => true) true n t cs = some x

/-- What can be read of a type is of such a form. -/
def Dec (enc : TypeId × Value → H) (P : Program) (w : World) {α : Type} (t : TypeId) (f : α → List Tree) (ok : α → Prop) : Prop :=
  ∀ cs, Rd enc P w t cs → ∃ a, CT w (f a) cs ∧ ok a

theorem dec_int {t : TypeId} {k : IntKind} (ht : P.underlying t = some (.int k)) : Dec enc P w t (fun n : Int => [.int k n]) (fun n => (Lit.int k n).wf = true) := by
  rintro cs ⟨n, x, h⟩
  cases n with
  | zero => simp [DataW.trod] at h
  | succ n =>
    unfold DataW.trod at h
    rw [ht] at h
    split at h <;> simp_all
    obtain ⟨⟨rfl, h1⟩, _⟩ := h
    exact ⟨_, .one (.int _ _) rfl, h1⟩

theorem dec_bool {t : TypeId} (ht : P.underlying t = some .bool) : Dec enc P w t (fun b : Bool => [.bool b]) (fun _ => True) := by
  rintro cs ⟨n, x, h⟩
  cases n with
  | zero => simp [DataW.trod] at h
  | succ n =>
    unfold DataW.trod at h
    rw [ht] at h
    split at h <;> first | (exfalso; simp_all; done) | skip
    exact ⟨_, .one (.bool _) rfl, trivial⟩

/-- A text's bytes. -/
def StrOK (s : List Nat) : Prop := s.length ≤ maxLen ∧ ∀ b ∈ s, b < 256

theorem dec_str {t : TypeId} (ht : P.underlying t = some .string) : Dec enc P w t (fun s : List Nat => [.str s]) StrOK := by
  rintro cs ⟨n, x, h⟩
  cases n with
  | zero => simp [DataW.trod] at h
  | succ n =>
    unfold DataW.trod at h
    rw [ht] at h
    split at h <;> simp_all
    obtain ⟨h1, _⟩ := h
    rename_i s _
    refine ⟨s.data.toList.map UInt8.toNat, .one (TR.bytes _ _) rfl, ?_, fun b hb => ?_⟩
    · simpa using h1
    · obtain ⟨c, _, rfl⟩ := List.mem_map.1 hb
      exact c.toNat_lt

/-- A slice that came in. -/
structure SlOK {α : Type} (ok : α → Prop) (s : Sl α) : Prop where
  all : ∀ a ∈ s.l, ok a
  len : s.l.length < 9223372036854775808
  nl : s.nl = true → s.l = []
  cl : s.cl = true → s.l = []

theorem cells_get {base : Nat} {a : Addr} {n : Nat} {cs : List Value} (h : w.cells? base a n = some cs) : cs.length = n ∧ ∀ j, j < n → w.cell? (a.add j) = cs[j]? := by
  unfold World.cells? at h
  split at h
  · refine ⟨by have := mapM_some_length h; simpa using this, fun j hj => ?_⟩
    exact mapM_some_get h j j (by simp [hj])
  · cases h

theorem spot_none {a : Addr} {v : Value} (h : w.cell? a = some v) : a = ⟨a.block, a.off, none⟩ := by
  unfold World.cell? at h
  split at h
  · split at h
    · cases h
    · rename_i hs
      obtain ⟨b, o, s⟩ := a
      cases s with
      | none => rfl
      | some x => simp at hs
  · cases h

theorem dec_slice {α : Type} {t e : TypeId} {f : α → List Tree} {ok : α → Prop} {s : Nat} (ht : P.underlying t = some (.slice e)) (hc : P.cellsOf e = s) (hs : 0 < s) (hf : ∀ a, (f a).length = s)
    (D : Dec enc P w e f ok) : Dec enc P w t (fun x : Sl α => [x.t f]) (SlOK ok) := by
  rintro cs ⟨n, x, h⟩
  rcases Deep.open_slice ht h with ⟨rfl, _⟩ | ⟨a, len, cap, m, n', D', Pl, rfl, _, hle, hcap, hm, _, hel⟩
  · refine ⟨⟨true, true, []⟩, .one ?_ rfl, ⟨fun a ha => (by simp at ha), by simp, fun _ => rfl, fun _ => rfl⟩⟩
    exact TR.sl true true [] none 0 0 (fun _ _ => default) (fun _ => ⟨rfl, rfl, rfl⟩) (fun h => by cases h) (fun e he => by simp at he) (fun i j e c he => by simp at he) (by simp) (fun _ => rfl) (fun i j e c he => by simp at he)
  · have hlm : len ≤ m := by rw [hm]; split <;> omega
    have each : ∀ i : Nat, i < len → ∃ b : α, ∃ cs', w.cells? 0 (a.add (i * s)) s = some cs' ∧ CT w (f b) cs' ∧ ok b := fun i hi => by
      obtain ⟨cs', h1, h2⟩ := hel i (by omega)
      rw [hc] at h1
      obtain ⟨b, h3, h4⟩ := D cs' ⟨_, _, h2⟩
      exact ⟨b, cs', h1, h3, h4⟩
    have build : ∀ k, k ≤ len → ∃ l : List α, l.length = k ∧ ∀ i b, l[i]? = some b → ∃ cs', w.cells? 0 (a.add (i * s)) s = some cs' ∧ CT w (f b) cs' ∧ ok b := by
      intro k
      induction k with
      | zero => exact fun _ => ⟨[], rfl, fun i b h => by simp at h⟩
      | succ k ih =>
        intro hk
        obtain ⟨l, h1, h2⟩ := ih (by omega)
        obtain ⟨b, cs', h3⟩ := each k (by omega)
        refine ⟨l ++ [b], by simp [h1], fun i b' hb => ?_⟩
        by_cases hi : i < l.length
        · rw [List.getElem?_append_left hi] at hb; exact h2 i b' hb
        · rw [List.getElem?_append_right (by omega)] at hb
          have : i - l.length = 0 := by
            rcases Nat.eq_zero_or_pos (i - l.length) with h | h
            · exact h
            · rw [List.getElem?_eq_none (by simp; omega)] at hb; cases hb
          rw [this] at hb
          simp at hb; subst hb
          have : i = k := by omega
          subst this
          exact ⟨cs', h3⟩
    obtain ⟨l, hl, hall⟩ := build len (Nat.le_refl _)
    have hval : ∀ (i j : Nat) b c, l[i]? = some b → (f b)[j]? = some c → ∃ v, w.cell? (a.add (i * s + j)) = some v ∧ TR (immOf w) c v ∧ v.oneCell' = true := fun i j b c hb hcj => by
      obtain ⟨cs', h1, h2, _⟩ := hall i b hb
      obtain ⟨h3, h4⟩ := cells_get h1
      have hj : j < s := by rw [← hf b]; exact (List.getElem?_eq_some_iff.1 hcj).1
      have h5 := h4 j hj
      rw [Deep.add_add] at h5
      have h6 : cs'[j]? = some (cs'[j]'(by omega)) := List.getElem?_eq_getElem _
      rw [h6] at h5
      exact ⟨_, h5, h2.val j c _ hcj h6⟩
    refine ⟨⟨false, false, l⟩, .one ?_ rfl, ⟨fun b hb => ?_, ?_, fun h => (by cases h), fun h => (by cases h)⟩⟩
    · have key := TR.sl (I := immOf w) false false (l.map f) (some a) cap s (fun i j => (w.cell? (a.add (i * s + j))).getD default) (fun h => by cases h) (fun _ => ⟨by simp, a.block, a.off, fun hne => ?_, fun i j e c he hj => ?_⟩)
        (fun e he => by obtain ⟨b, _, rfl⟩ := List.mem_map.1 he; exact hf b) (fun i j e c he hj => ?_) (by simp; omega) (fun h => by cases h) (fun i j e c he hj => ?_)
      · simpa [Sl.t, hl] using key
      · obtain ⟨b, hb⟩ : ∃ b, l[0]? = some b := by
          cases l with
          | nil => simp at hne
          | cons b _ => exact ⟨b, rfl⟩
        have hfb : 0 < (f b).length := by rw [hf b]; exact hs
        obtain ⟨v, h1, _⟩ := hval 0 0 b _ hb (List.getElem?_eq_getElem hfb)
        have : a.add (0 * s + 0) = a := by simp [Addr.add]
        rw [this] at h1
        rw [spot_none h1]
      · rw [List.getElem?_map] at he
        obtain ⟨b, hb, rfl⟩ := Option.map_eq_some_iff.1 he
        obtain ⟨v, h1, _⟩ := hval i j b c hb hj
        have hz : a = ⟨a.block, a.off, none⟩ ∨ 0 < i * s + j := by
          rcases Nat.eq_zero_or_pos (i * s + j) with h | h
          · rw [h] at h1
            have : a.add 0 = a := by simp [Addr.add]
            rw [this] at h1
            exact .inl (spot_none h1)
          · exact .inr h
        have e : a.add (i * s + j) = ⟨a.block, a.off + i * s + j, none⟩ := by
          unfold Addr.add
          rcases hz with h | h
          · split
            · rename_i h0
              rw [h]; (first | (simp; done) | (simp; omega))
            · (first | (simp; done) | (simp; omega))
          · rw [if_neg (by omega)]; (first | (simp; done) | (simp; omega))
        show w.cell? ⟨a.block, a.off + i * s + j, none⟩ = _
        rw [← e, h1]; rfl
      · rw [List.getElem?_map] at he
        obtain ⟨b, hb, rfl⟩ := Option.map_eq_some_iff.1 he
        obtain ⟨v, h1, h2, _⟩ := hval i j b c hb hj
        rw [h1]; exact h2
      · rw [List.getElem?_map] at he
        obtain ⟨b, hb, rfl⟩ := Option.map_eq_some_iff.1 he
        obtain ⟨v, h1, _, h2⟩ := hval i j b c hb hj
        rw [h1]; exact h2
    · obtain ⟨i, hi⟩ := List.getElem?_of_mem hb
      obtain ⟨_, _, _, h⟩ := hall i b hi
      exact h
    · have : maxLen = 9223372036854775807 := by decide
      simp only [hl]; omega

/-- A struct's fields, one by one. -/
theorem rd_struct {t : TypeId} {fs : Array Field} {cs : List Value} (ht : P.underlying t = some (.struct fs)) (h : Rd enc P w t cs) :
    cs.length = P.cellsOf t ∧ ∀ (i : Nat) (f : Field), fs[i]? = some f → Rd enc P w f.type ((cs.drop f.offset).take (P.cellsOf f.type)) := by
  obtain ⟨n, x, h⟩ := h
  obtain ⟨xs, m, _, _, h1, h2, h3⟩ := DataW.trod_struct ht h
  refine ⟨h1, fun i f hf => ?_⟩
  have h4 := h3 i f hf
  have hi : i < xs.length := by rw [h2]; exact (Array.getElem?_eq_some_iff.1 hf).1
  rw [List.getElem?_eq_getElem hi] at h4
  exact ⟨_, _, h4⟩

theorem rd_fields {t : TypeId} {l : List (TypeId × Nat)} {cs : List Value} (hfs : ∃ fs, P.underlying t = some (.struct fs) ∧ fs.toList.map (fun f => (f.type, f.offset)) = l) (h : Rd enc P w t cs) :
    cs.length = P.cellsOf t ∧ ∀ x ∈ l, Rd enc P w x.1 ((cs.drop x.2).take (P.cellsOf x.1)) := by
  obtain ⟨fs, ht, rfl⟩ := hfs
  obtain ⟨h1, h2⟩ := rd_struct ht h
  refine ⟨h1, fun x hx => ?_⟩
  obtain ⟨f, hf, rfl⟩ := List.mem_map.1 hx
  obtain ⟨i, hi⟩ := List.getElem?_of_mem hf
  exact h2 i f (by simpa using hi)

/-! ### An argument -/

theorem tr_one {v : Value} {t : Tree} (h : CT w [t] v.cells.toList) (ho : ∀ cs, v ≠ .agg cs) : TR (immOf w) t v := by
  cases v with
  | agg cs => exact (ho cs rfl).elim
  | _ => exact (h.val 0 _ _ rfl rfl).1

theorem tr_agg {cs : Array Value} {ts : List Tree} (h : CT w ts (Value.agg cs).cells.toList) : TR (immOf w) (.agg ts) (.agg cs) := by
  have h' : CT w ts cs.toList := h
  have := TR.agg (I := immOf w) ts cs.toList h'.len fun i c v hc hv => (h'.val i c v hc hv).1
  simpa using this

/-! ### Behind the call -/

theorem rd_of_trod {t : TypeId} {v : Value} {d : DataW H} {ps : List MemPlace} (h : DataW.Trod enc P w 0 (fun _ => true) true t v d ps) : Rd enc P w t v.cells.toList := by
  obtain ⟨n, h⟩ := h; exact ⟨n, _, h⟩

theorem same_of_keep {w' : World} (hk : ∀ b, b < w.heap.size → w'.heap[b]? = w.heap[b]?) {p : MemPlace} (hp : p.block < w.heap.size) : w.sameAt w' p := by
  cases p with
  | cell b o => exact cell_of_heap (hk b hp)
  | map b => exact hk b hp

theorem trodAll_stays {w' : World} {sp : Nat → Bool} {T : TypeId → Prop} (K : Kids P T) (hsz : ∀ {t e : TypeId}, T t → P.underlying t = some (.slice e) → 0 < P.cellsOf e) :
    ∀ {ts : List TypeId} {vs : List Value} {ds : List (DataW H)} {ps : List MemPlace}, (∀ t ∈ ts, T t) → DataW.TrodAll enc P w 0 (fun _ => true) true ts vs ds ps →
      (∀ p ∈ ps, w.sameAt w' p) → (∀ p ∈ ps, sp p.block = true) → DataW.TrodAll enc P w' 0 sp true ts vs ds ps
  | [], [], [], ps, _, h, _, _ => h
  | t :: ts, v :: vs, d :: ds, ps, hT, h, h1, h2 => by
    obtain ⟨p, q, ⟨n, h3⟩, h4, rfl⟩ := h
    refine ⟨p, q, ⟨n, ?_⟩, trodAll_stays K hsz (fun t ht => hT t (List.mem_cons_of_mem _ ht)) h4 (fun x hx => h1 x (List.mem_append_right _ hx)) (fun x hx => h2 x (List.mem_append_right _ hx)), rfl⟩
    exact DataW.trod_stays K hsz (fun h => by cases h) (hT t (List.mem_cons_self ..)) h3 (fun x hx => h1 x (List.mem_append_left _ hx)) (fun x hx => h2 x (List.mem_append_left _ hx))

theorem kept_of_keep {w' : World} (hk : ∀ b, b < w.heap.size → w'.heap[b]? = w.heap[b]?) (hs : w'.os = w.os ∧ w'.output = w.output) (may : MemPlace → Prop) : w.keptBut w' may := by
  refine ⟨hs.1, hs.2, fun i hi => ?_⟩
  rw [hk i hi]
  split
  · rename_i h1 h2
    cases h1.symm.trans h2
    exact ⟨rfl, rfl, rfl, fun _ _ => rfl⟩
  · rename_i h1 h2
    cases h1.symm.trans h2
    exact .inr ⟨rfl, rfl⟩
  · rfl

/-- What the row of a law asks behind the call: true is handed back, and all that was there stays. -/
theorem post_law {f : Func} {s : ChangeSpec} {w' : World} {args : Array Value} {ds gs : List (DataW H)} {before : List MemPlace} {T : TypeId → Prop} {tb : TypeId}
    (hW : DataW.Whole enc P f.params.toList s.vars false w args.toList ds gs before) (hvars : s.vars = []) (K : Kids P T) (hsz : ∀ {t e : TypeId}, T t → P.underlying t = some (.slice e) → 0 < P.cellsOf e)
    (hT : ∀ t ∈ f.params.toList, T t) (hr : f.resultTypes = #[tb]) (hb : P.underlying tb = some .bool)
    (hres : (s.fn H (ds ++ gs)).results = [.lit (.bool true)]) (hargs : (s.fn H (ds ++ gs)).args = ds) (hv : (s.fn H (ds ++ gs)).vars = [])
    (hk : ∀ b, b < w.heap.size → w'.heap[b]? = w.heap[b]?) (hs : w'.os = w.os ∧ w'.output = w.output) : s.post enc P f false true false false w args (.bool true) w' := by
  have hlt := hW.lt
  have hW' := hW
  obtain ⟨p, q, hA, hV, rfl, _, _⟩ := hW'
  refine ⟨ds, gs, p ++ q, [], p, [], hW, ?_, ?_, ?_, kept_of_keep hk hs _, fun h => by cases h⟩
  · rw [hr, hres]
    show DataW.TrodAll enc P w' _ _ _ [tb] [.bool true] [.lit (.bool true)] []
    exact trodAll_mk1 ⟨1, by unfold DataW.trod; simp [hb, Value.cells]⟩
  · rw [hargs]
    exact trodAll_stays K hsz hT hA (fun x hx => same_of_keep hk (hlt x (List.mem_append_left _ hx))) (fun x hx => by simpa using hlt x (List.mem_append_left _ hx))
  · rw [hvars, hv]; rfl

/-- A call of the evaluator's, over data that came in. -/
theorem calls_of_om {C : Cfg} {f : FuncId} {args : List AV} {v : AV} {vs : List Value} (hm : C.P.follows .mixedOrders = true) (hpr : ∀ f x, C.prim f x = none) (h : Om C f args [] = some (.val v, []))
    (hv : ∀ (γ : G) (g : Look), γ.imm = immOf w → VRs γ g args vs) (hb : v = .t (.bool true)) :
    Calls C.P f vs.toArray w fun e w' => e = .returned (.bool true) ∧ (∀ b, b < w.heap.size → w'.heap[b]? = w.heap[b]?) ∧ w'.os = w.os ∧ w'.output = w.output := by
  have ho := om_sound (C := C) (w0 := w) hm (fun f args v h => by rw [hpr] at h; cases h) f args [] _ _ h
  let γ : G := ⟨fun _ => none, fun _ => 0, immOf w⟩
  have hr : HR γ (nth []) w := ⟨fun id b h => (by cases h), fun id id' b h => (by cases h), fun b o v h => h⟩
  have hbase : Base w γ w := ⟨Nat.le_refl _, fun b hb => ⟨rfl, fun id h => (by cases h)⟩⟩
  refine (ho γ w vs hr hbase (hv γ _ rfl)).mono fun e w' hp => ?_
  obtain ⟨γ', h1, h2, h3, h4, h5⟩ := hp
  subst hb
  refine ⟨?_, fun b hb => (hbase.mono h2).2 b hb |>.1, h2.same⟩
  cases e with
  | returned u =>
    have hu : VR γ' (nth []) (.t (.bool true)) u := h5
    cases hu with
    | t _ _ hu => cases hu; rfl
  | panicked c => exact False.elim h5
  | outgrown => exact False.elim h5
end
end Go.Ab
