/- Regions whose order is drawn: whatever the order, the same comes of it. -/
import Derived.Test.YtchkgfmmfdineaaGreatAbLocal
import Derived.Orders
namespace Go.Ab

/-! ### What surely comes before -/

theorem getN_none {l : List Nat} {k : Nat} (h : l.length ≤ k) : getN l k = 0 := by
  unfold getN; rw [nth_eq, List.getElem?_eq_none h]; rfl

theorem getN_take {l : List Nat} {k e : Nat} : getN (l.take k) e = if e < k then getN l e else 0 := by
  unfold getN
  rw [nth_eq, nth_eq, List.getElem?_take]
  split <;> rfl

theorem masksFrom_spec : ∀ (os : List Oper) (acc : List Nat), ∃ t, masksFrom acc os = acc ++ t ∧ t.length = os.length ∧
    ∀ (k : Nat) o, os[k]? = some o → getN (masksFrom acc os) (acc.length + k) = maskOf ((masksFrom acc os).take (acc.length + k)) o.after.toList
  | [], acc => ⟨[], by simp [masksFrom], rfl, fun k o h => by simp at h⟩
  | o :: os, acc => by
    unfold masksFrom
    simp only
    obtain ⟨t, h1, h2, h3⟩ := masksFrom_spec os (acc ++ [maskOf acc o.after.toList])
    refine ⟨maskOf acc o.after.toList :: t, by rw [h1]; simp, by simp [h2], fun k o' hk => ?_⟩
    cases k with
    | zero =>
      simp only [List.getElem?_cons_zero, Option.some.injEq] at hk
      subst hk
      rw [Nat.add_zero, h1, List.append_assoc, List.take_left]
      refine getN_eq ?_
      simp
    | succ k =>
      have := h3 k o' (by simpa using hk)
      rw [List.length_append, List.length_singleton] at this
      have e : acc.length + 1 + k = acc.length + (k + 1) := by omega
      rw [e] at this
      exact this

theorem masks_spec {os : List Oper} {k : Nat} {o : Oper} (h : os[k]? = some o) : getN (masks os) k = maskOf ((masks os).take k) o.after.toList := by
  obtain ⟨_, _, _, h3⟩ := masksFrom_spec os []
  have := h3 k o h
  simpa [masks] using this

theorem maskOf_bit {M : List Nat} {i : Nat} : ∀ {es : List Edge}, (maskOf M es).testBit i = true → ∃ e ∈ es, Region.binds .any e = true ∧ (i = e.on ∨ (getN M e.on).testBit i = true)
  | [], h => by simp [maskOf] at h
  | e :: es, h => by
    unfold maskOf at h
    split at h
    · rename_i hb
      have hor : ∀ a b : Nat, Nat.lor a b = a ||| b := fun _ _ => rfl
      have hsh : Nat.shiftLeft 1 e.on = 1 <<< e.on := rfl
      rw [hor, hor, hsh, Nat.testBit_or, Nat.testBit_or, Bool.or_eq_true, Bool.or_eq_true] at h
      rcases h with (h | h) | h
      · refine ⟨e, .head _, hb, .inl ?_⟩
        rw [Nat.one_shiftLeft] at h
        have := Nat.testBit_two_pow (n := e.on) (m := i)
        rw [this] at h
        exact (of_decide_eq_true h).symm
      · exact ⟨e, .head _, hb, .inr h⟩
      · obtain ⟨e', h1, h2, h3⟩ := maskOf_bit h
        exact ⟨e', List.mem_cons_of_mem _ h1, h2, h3⟩
    · obtain ⟨e', h1, h2, h3⟩ := maskOf_bit h
      exact ⟨e', List.mem_cons_of_mem _ h1, h2, h3⟩

/-- Whatever surely comes before what is done is done. -/
def Closed (ops : List Oper) (D : Nat → Bool) : Prop := ∀ j o, ops[j]? = some o → D j = true → ∀ e ∈ o.after.toList, Region.binds .any e = true → D e.on = true

theorem before_done {ops : List Oper} {D : Nat → Bool} (hc : Closed ops D) : ∀ (j : Nat) (o : Oper), ops[j]? = some o → (∀ e ∈ o.after.toList, Region.binds .any e = true → D e.on = true) →
    ∀ i, (getN (masks ops) j).testBit i = true → D i = true := by
  intro j
  induction j using Nat.strongRecOn with
  | _ j ih =>
    intro o ho hd i hi
    rw [masks_spec ho] at hi
    obtain ⟨e, he, hb, h⟩ := maskOf_bit hi
    have hde := hd e he hb
    rcases h with h | h
    · rw [h]; exact hde
    · rw [getN_take] at h
      split at h
      · rename_i hlt
        cases hoe : ops[e.on]? with
        | none =>
          obtain ⟨t, h1, h2, _⟩ := masksFrom_spec ops []
          have hlen : (masks ops).length = ops.length := by unfold masks; rw [h1]; simpa using h2
          rw [getN_none (by rw [hlen]; exact List.getElem?_eq_none_iff.1 hoe)] at h
          simp at h
        | some oe => exact ih e.on hlt oe hoe (hc e.on oe hoe hde) i h
      · simp at h

/-! ### The checks -/

theorem edgesOK_spec : ∀ {os : List Oper} {i : Nat}, edgesOK i os = true → ∀ (k : Nat) o, os[k]? = some o → ∀ e ∈ o.after.toList, Region.binds .any e = true → e.on < i + k
  | [], i, _, k, o, h => by simp at h
  | o :: os, i, h, k, o', hk => by
    unfold edgesOK at h
    rw [Bool.and_eq_true, List.all_eq_true] at h
    cases k with
    | zero =>
      simp only [List.getElem?_cons_zero, Option.some.injEq] at hk
      subst hk
      intro e he hb
      have := h.1 e he
      rw [hb] at this
      simp only [Bool.not_true, Bool.false_or, Nat.blt_eq] at this
      omega
    | succ k =>
      intro e he hb
      have := edgesOK_spec h.2 k o' (by simpa using hk) e he hb
      omega

theorem staticGo_spec {ops : List Oper} {ms : List Nat} {i : Nat} {a : Oper} : ∀ {os : List Oper} {j : Nat}, staticFrom.go ops ms i a j os = true → ∀ (k : Nat) b, os[k]? = some b →
    (getN ms (j + k)).testBit i = true ∨ (apartT ops a b = true ∧ apartT ops b a = true)
  | [], j, _, k, b, h => by simp at h
  | o :: os, j, h, k, b, hk => by
    unfold staticFrom.go at h
    rw [Bool.and_eq_true, Bool.or_eq_true, Bool.and_eq_true] at h
    cases k with
    | zero =>
      simp only [List.getElem?_cons_zero, Option.some.injEq] at hk
      subst hk
      exact h.1
    | succ k =>
      have := staticGo_spec h.2 k b (by simpa using hk)
      have e : j + 1 + k = j + (k + 1) := by omega
      rw [e] at this
      exact this

theorem staticFrom_spec {ops : List Oper} {ms : List Nat} : ∀ {os : List Oper} {i : Nat}, staticFrom ops ms i os = true → ∀ (k k' : Nat) a b, k < k' → os[k]? = some a → os[k']? = some b →
    (getN ms (i + k')).testBit (i + k) = true ∨ (apartT ops a b = true ∧ apartT ops b a = true)
  | [], i, _, k, k', a, b, _, h, _ => by simp at h
  | o :: os, i, h, k, k', a, b, hlt, hk, hk' => by
    unfold staticFrom at h
    rw [Bool.and_eq_true] at h
    cases k' with
    | zero => omega
    | succ k' =>
      have e : i + 1 + k' = i + (k' + 1) := by omega
      cases k with
      | zero =>
        simp only [List.getElem?_cons_zero, Option.some.injEq] at hk
        subst hk
        have := staticGo_spec h.1 k' b (by simpa using hk')
        rw [e] at this
        exact this
      | succ k =>
        have := staticFrom_spec h.2 k k' a b (by omega) (by simpa using hk) (by simpa using hk')
        have e' : i + 1 + k = i + (k + 1) := by omega
        rw [e, e'] at this
        exact this

theorem static_spec {ops : List Oper} (h : static ops = true) {k k' : Nat} {a b : Oper} (hlt : k < k') (hk : ops[k]? = some a) (hk' : ops[k']? = some b) :
    (getN (masks ops) k').testBit k = true ∨ (apartT ops a b = true ∧ apartT ops b a = true) := by
  unfold static at h
  rw [Bool.and_eq_true] at h
  have := staticFrom_spec h.2 k k' a b hlt hk hk'
  rwa [Nat.zero_add, Nat.zero_add] at this

theorem number_spec : ∀ (l : List Rec) (i : Nat) (a : Rec) (j : Nat), (a, j) ∈ number i l ↔ ∃ k, l[k]? = some a ∧ j = i + k
  | [], i, a, j => by simp [number]
  | x :: l, i, a, j => by
    simp only [number, List.mem_cons, Prod.mk.injEq, number_spec l (i + 1)]
    constructor
    · rintro (⟨rfl, rfl⟩ | ⟨k, h1, h2⟩)
      · exact ⟨0, rfl, rfl⟩
      · exact ⟨k + 1, by simpa using h1, by omega⟩
    · rintro ⟨k, h1, h2⟩
      cases k with
      | zero => simp at h1; exact .inl ⟨h1.symm, h2⟩
      | succ k => exact .inr ⟨k, by simpa using h1, by omega⟩

theorem quietR_number : ∀ (l : List Rec) (i : Nat), quietR (number i l) = (number i l).filter fun x => busy x.1
  | [], i => rfl
  | x :: l, i => by
    simp only [number, quietR, List.filter_cons]
    rw [quietR_number l (i + 1)]
    cases hb : busy x <;> simp

/-- Two of a list, in their order. -/
theorem calm_pair {ms : List Nat} : ∀ {l : List (Rec × Nat)}, calm ms l = true → l.Pairwise fun x y => (getN ms y.2).testBit x.2 = true ∨ clash x.1 y.1 = false
  | [], _ => .nil
  | (a, i) :: l, h => by
    unfold calm at h
    rw [Bool.and_eq_true, List.all_eq_true] at h
    refine .cons (fun y hy => ?_) (calm_pair h.2)
    obtain ⟨b, j⟩ := y
    have := h.1 (b, j) hy
    simpa using this

theorem number_pairwise : ∀ (l : List Rec) (i : Nat), (number i l).Pairwise fun x y => x.2 < y.2
  | [], i => .nil
  | x :: l, i => by
    refine .cons (fun y hy => ?_) (number_pairwise l (i + 1))
    obtain ⟨b, j⟩ := y
    obtain ⟨k, _, h2⟩ := (number_spec l (i + 1) b j).1 hy
    simp only
    omega

theorem pairwise_mem {α : Type} {R : α → α → Prop} {S : α → α → Prop} (hs : ∀ a, ¬ S a a) (hst : ∀ a b, S a b → ¬ S b a) : ∀ {l : List α}, l.Pairwise R → l.Pairwise S → ∀ {x y : α}, x ∈ l → y ∈ l → S x y → R x y
  | [], _, _, _, _, h, _, _ => by cases h
  | a :: l, hR, hS, x, y, hx, hy, h => by
    obtain ⟨r1, r2⟩ := List.pairwise_cons.1 hR
    obtain ⟨s1, s2⟩ := List.pairwise_cons.1 hS
    rcases List.mem_cons.1 hx with ex | hx'
    · rcases List.mem_cons.1 hy with ey | hy'
      · subst ex; subst ey; exact absurd h (hs _)
      · subst ex; exact r1 y hy'
    · rcases List.mem_cons.1 hy with ey | hy'
      · subst ey; exact absurd (s1 x hx') (hst _ _ h)
      · exact pairwise_mem hs hst r2 s2 hx' hy' h

/-- Two records that don't get in each other's way. -/
structure Free (a b : Rec) : Prop where
  mr : ∀ id ∈ a.mods, id ∉ b.reads
  rm : ∀ id ∈ a.reads, id ∉ b.mods
  mm : ∀ id ∈ a.mods, id ∉ b.mods

theorem Free.symm {a b : Rec} (h : Free a b) : Free b a := ⟨fun id h1 h2 => h.rm id h2 h1, fun id h1 h2 => h.mr id h2 h1, fun id h1 h2 => h.mm id h2 h1⟩

theorem apartL_spec {a b : List Nat} (h : apartL a b = true) : ∀ id ∈ a, id ∉ b := fun id hid hb => by
  have := List.all_eq_true.1 h id hid
  rw [mem_iff.2 hb] at this
  cases this

theorem clash_free {a b : Rec} (h : clash a b = false) : Free a b := by
  unfold clash at h
  simp only [Bool.not_eq_false', Bool.and_eq_true] at h
  exact ⟨apartL_spec h.1.1, apartL_spec h.1.2, apartL_spec h.2⟩

theorem busy_free {a b : Rec} (h : busy a = false) : Free a b := by
  unfold busy at h
  simp only [Bool.not_eq_false', Bool.and_eq_true, List.isEmpty_iff] at h
  have hm : a.mods = [] := by unfold Rec.mods; rw [h.2]; rfl
  exact ⟨fun id hid => (by rw [hm] at hid; cases hid), fun id hid => (by rw [h.1] at hid; cases hid), fun id hid => (by rw [hm] at hid; cases hid)⟩

theorem calm_spec {ms : List Nat} {l : List Rec} (h : calm ms (quietR (number 0 l)) = true) {i j : Nat} {a b : Rec} (hlt : i < j) (ha : l[i]? = some a) (hb : l[j]? = some b) :
    (getN ms j).testBit i = true ∨ Free a b := by
  cases hba : busy a with
  | false => exact .inr (busy_free hba)
  | true =>
    cases hbb : busy b with
    | false => exact .inr (busy_free hbb).symm
    | true =>
      have hp := calm_pair h
      rw [quietR_number] at hp
      have hs := (number_pairwise l 0).filter (fun x => busy x.1)
      have h1 : (a, i) ∈ (number 0 l).filter fun x => busy x.1 := List.mem_filter.2 ⟨(number_spec l 0 a i).2 ⟨i, ha, by omega⟩, hba⟩
      have h2 : (b, j) ∈ (number 0 l).filter fun x => busy x.1 := List.mem_filter.2 ⟨(number_spec l 0 b j).2 ⟨j, hb, by omega⟩, hbb⟩
      rcases pairwise_mem (S := fun x y : Rec × Nat => x.2 < y.2) (fun a => Nat.lt_irrefl _) (fun a b h => Nat.lt_asymm h) hp hs h1 h2 hlt with h3 | h3
      · exact .inl h3
      · exact .inr (clash_free h3)

end Go.Ab
