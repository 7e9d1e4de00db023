/- Regions whose order is drawn: the state after a part of the operations. -/
import Derived.Test.YtchkgfmmfdineaaGreatAbDraw
namespace Go.Ab

/-- The temporaries after those of the operations that D names. -/
def envD (D : Nat → Bool) : Nat → List Oper → List Rec → Env → Env
  | i, o :: os, r :: rs, T => envD D (i + 1) os rs (if D i = true then putT T o.dst r.v else T)
  | _, _, _, T => T

def memD (D : Nat → Bool) : Nat → List Rec → Look → Look
  | i, r :: rs, g => memD D (i + 1) rs (if D i = true then upd g r.p else g)
  | _, [], g => g

theorem shift (n k : Nat) : n + 1 + k = n + (k + 1) := by omega

theorem get_putT {T : Env} {d : Option Tmp} {v : AV} {t : Nat} : get (putT T d v) t = if d = some t then v else get T t := by
  cases d with
  | none => simp [putT]
  | some d =>
    simp only [putT, get, Option.some.injEq]
    cases hb : Nat.beq d t with
    | true => have := Nat.eq_of_beq_eq_true hb; simp [this]
    | false => have := Nat.ne_of_beq_eq_false hb; simp [this]

/-- Only those that write to a temporary matter to it. -/
theorem envD_congr {D D' : Nat → Bool} {t : Nat} : ∀ (os : List Oper) (rs : List Rec) (i : Nat) (T T' : Env), get T' t = get T t →
    (∀ (k : Nat) o, os[k]? = some o → k < rs.length → o.dst = some t → D' (i + k) = D (i + k)) → get (envD D' i os rs T') t = get (envD D i os rs T) t
  | [], rs, i, T, T', h, _ => by unfold envD; exact h
  | o :: os, [], i, T, T', h, _ => by unfold envD; exact h
  | o :: os, r :: rs, i, T, T', h, hd => by
    unfold envD
    refine envD_congr os rs (i + 1) _ _ ?_ fun k o' hk hl ho => ?_
    · by_cases hdst : o.dst = some t
      · have := hd 0 o rfl (by simp) hdst
        rw [Nat.add_zero] at this
        rw [this]
        by_cases hD : D i = true
        · rw [if_pos hD, if_pos hD, get_putT, get_putT, if_pos hdst, if_pos hdst]
        · rw [if_neg hD, if_neg hD]; exact h
      · have e1 : ∀ (c : Bool) (T : Env), get (if c = true then putT T o.dst r.v else T) t = get T t := fun c T => by
          cases c
          · rfl
          · simp only [if_true]; rw [get_putT, if_neg hdst]
        rw [e1, e1]; exact h
    · have := hd (k + 1) o' (by simpa using hk) (by simpa using hl) ho
      have e : i + 1 + k = i + (k + 1) := by omega
      rw [e]; exact this

/-- One more, behind which none of those done writes to its temporary. -/
theorem envD_add {D D' : Nat → Bool} {j t : Nat} {oj : Oper} {rj : Rec} : ∀ (os : List Oper) (rs : List Rec) (i : Nat) (T : Env), i ≤ j → os[j - i]? = some oj → rs[j - i]? = some rj →
    D j = false → (∀ x, D' x = (D x || decide (x = j))) → (∀ (k : Nat) o, os[k]? = some o → j < i + k → D (i + k) = true → oj.dst = some t → o.dst ≠ some t) →
    get (envD D' i os rs T) t = if oj.dst = some t then rj.v else get (envD D i os rs T) t
  | [], rs, i, T, _, h, _, _, _, _ => by simp at h
  | o :: os, [], i, T, _, _, h, _, _, _ => by simp at h
  | o :: os, r :: rs, i, T, hij, h1, h2, hD, hD', hno => by
    unfold envD
    by_cases hi : i = j
    · subst hi
      simp only [Nat.sub_self, List.getElem?_cons_zero, Option.some.injEq] at h1 h2
      subst h1; subst h2
      have hDi : D' i = true := by rw [hD']; simp
      have hDj : ¬ (D i = true) := by rw [hD]; simp
      rw [if_pos hDi, if_neg hDj]
      by_cases hdst : o.dst = some t
      · rw [if_pos hdst]
        -- nothing behind writes to it
        have key : ∀ (os : List Oper) (rs : List Rec) (n : Nat) (T : Env), (∀ (k : Nat) o', os[k]? = some o' → D' (n + k) = true → o'.dst ≠ some t) → get (envD D' n os rs T) t = get T t := by
          intro os
          induction os with
          | nil => intro rs n T _; unfold envD; rfl
          | cons x os ih =>
            intro rs n T hh
            cases rs with
            | nil => unfold envD; rfl
            | cons y rs =>
              unfold envD
              rw [ih rs (n + 1) _ fun k o' hk hd => hh (k + 1) o' (by simpa using hk) (by rw [← shift]; exact hd)]
              by_cases hDn : D' n = true
              · rw [if_pos hDn, get_putT, if_neg (hh 0 x rfl hDn)]
              · rw [if_neg hDn]
        rw [key os rs (i + 1) _ fun k o' hk hd => by
          refine hno (k + 1) o' (by simpa using hk) (by omega) ?_ hdst
          rw [hD'] at hd
          have e : i + 1 + k = i + (k + 1) := by omega
          rw [e] at hd
          have : decide (i + (k + 1) = i) = false := by simp
          rw [this, Bool.or_false] at hd
          exact hd]
        rw [get_putT, if_pos hdst]
      · rw [if_neg hdst]
        refine envD_congr os rs (i + 1) _ _ (by rw [get_putT, if_neg hdst]) fun k o' _ _ _ => ?_
        rw [hD']
        have : decide (i + 1 + k = i) = false := by simp; omega
        rw [this, Bool.or_false]
    · have hne : decide (i = j) = false := by simp [hi]
      have hDi : D' i = D i := by rw [hD', hne, Bool.or_false]
      rw [hDi]
      have e : j - i = (j - (i + 1)) + 1 := by omega
      rw [e] at h1 h2
      exact envD_add os rs (i + 1) _ (by omega) (by simpa using h1) (by simpa using h2) hD hD' fun k o' hk hlt hd hdst => hno (k + 1) o' (by simpa using hk) (by omega) (by rw [← shift]; exact hd) hdst

theorem upd_congr {g g' : Look} {p : Patch} {id : Nat} (h : g' id = g id) : upd g' p id = upd g p id := upd_ag h

theorem upd_other {g : Look} {p : Patch} {id : Nat} (h : id ∉ p.map (·.1)) : upd g p id = g id :=
  upd_not_mem fun o ho => h (List.mem_map.2 ⟨(id, o), ho, rfl⟩)

theorem upd_mem {p : Patch} {id : Nat} (h : id ∈ p.map (·.1)) : ∀ (g g' : Look), upd g' p id = upd g p id := by
  induction p with
  | nil => cases h
  | cons x p ih =>
    obtain ⟨i, o⟩ := x
    intro g g'
    unfold upd
    by_cases hm : id ∈ p.map (·.1)
    · exact ih hm _ _
    · rw [upd_other hm, upd_other hm]
      simp only [List.map_cons, List.mem_cons] at h
      have : id = i := h.resolve_right hm
      subst this
      rw [Nat.beq_refl]

theorem memD_congr {D D' : Nat → Bool} {id : Nat} : ∀ (rs : List Rec) (i : Nat) (g g' : Look), g' id = g id → (∀ (k : Nat) r, rs[k]? = some r → id ∈ r.mods → D' (i + k) = D (i + k)) →
    memD D' i rs g' id = memD D i rs g id
  | [], i, g, g', h, _ => by unfold memD; exact h
  | r :: rs, i, g, g', h, hd => by
    unfold memD
    refine memD_congr rs (i + 1) _ _ ?_ fun k r' hk hm => ?_
    · by_cases hm : id ∈ r.mods
      · have := hd 0 r rfl hm
        rw [Nat.add_zero] at this
        rw [this]
        by_cases hD : D i = true
        · rw [if_pos hD, if_pos hD]; exact upd_congr h
        · rw [if_neg hD, if_neg hD]; exact h
      · have e1 : ∀ (c : Bool) (g : Look), (if c = true then upd g r.p else g) id = g id := fun c g => by
          cases c
          · rfl
          · simp only [if_true]; exact upd_other hm
        rw [e1, e1]; exact h
    · have := hd (k + 1) r' (by simpa using hk) hm
      have e : i + 1 + k = i + (k + 1) := by omega
      rw [e]; exact this

theorem memD_add {D D' : Nat → Bool} {j id : Nat} {rj : Rec} : ∀ (rs : List Rec) (i : Nat) (g : Look), i ≤ j → rs[j - i]? = some rj →
    D j = false → (∀ x, D' x = (D x || decide (x = j))) → (∀ (k : Nat) r, rs[k]? = some r → j < i + k → D (i + k) = true → id ∈ rj.mods → id ∉ r.mods) →
    memD D' i rs g id = upd (memD D i rs g) rj.p id
  | [], i, g, _, h, _, _, _ => by simp at h
  | r :: rs, i, g, hij, h2, hD, hD', hno => by
    unfold memD
    by_cases hi : i = j
    · subst hi
      simp only [Nat.sub_self, List.getElem?_cons_zero, Option.some.injEq] at h2
      subst h2
      have hDi : D' i = true := by rw [hD']; simp
      have hDj : ¬ (D i = true) := by rw [hD]; simp
      rw [if_pos hDi, if_neg hDj]
      have hrest : ∀ k, D' (i + 1 + k) = D (i + 1 + k) := fun k => by
        rw [hD']
        have : decide (i + 1 + k = i) = false := by simp; omega
        rw [this, Bool.or_false]
      by_cases hm : id ∈ r.mods
      · have key : ∀ (rs : List Rec) (n : Nat) (g : Look), (∀ (k : Nat) r', rs[k]? = some r' → D' (n + k) = true → id ∉ r'.mods) → memD D' n rs g id = g id := by
          intro rs
          induction rs with
          | nil => intro n g _; unfold memD; rfl
          | cons y rs ih =>
            intro n g hh
            unfold memD
            rw [ih (n + 1) _ fun k r' hk hd => hh (k + 1) r' (by simpa using hk) (by rw [← shift]; exact hd)]
            by_cases hDn : D' n = true
            · rw [if_pos hDn, upd_other (hh 0 y rfl hDn)]
            · rw [if_neg hDn]
        rw [key rs (i + 1) _ fun k r' hk hd => by
          refine hno (k + 1) r' (by simpa using hk) (by omega) ?_ hm
          rw [hrest] at hd
          have e : i + 1 + k = i + (k + 1) := by omega
          rw [← e]; exact hd]
        exact upd_mem hm _ _
      · rw [upd_other hm]
        exact memD_congr rs (i + 1) _ _ (upd_other hm) fun k r' _ _ => hrest k
    · have hne : decide (i = j) = false := by simp [hi]
      have hDi : D' i = D i := by rw [hD', hne, Bool.or_false]
      rw [hDi]
      have e : j - i = (j - (i + 1)) + 1 := by omega
      rw [e] at h2
      exact memD_add rs (i + 1) _ (by omega) (by simpa using h2) hD hD' fun k r' hk hlt hd hm => hno (k + 1) r' (by simpa using hk) (by omega) (by rw [← shift]; exact hd) hm

/-! ### The run in the text's order -/

/-- One operation of it. -/
def Stp (C : Cfg) (ρ : Oracle) (ops : List Oper) (o : Oper) (r : Rec) (T : Env) (g : Look) (n : Nat) : Prop :=
  (wanted ops T o = some false ∧ r = ⟨[], .nov, []⟩) ∨ (wanted ops T o = some true ∧ exec1 C ρ g n T o = some (.val r.v, r.p) ∧ r.reads = foot C g T o)

inductive Tr (C : Cfg) (ρ : Oracle) (ops : List Oper) : List Oper → List Rec → Env → Heap → Env → Heap → Prop
  | nil (T : Env) (h : Heap) : Tr C ρ ops [] [] T h T h
  | cons {o : Oper} {os : List Oper} {r : Rec} {rs : List Rec} {T : Env} {h : Heap} {T' : Env} {h' : Heap} (hs : Stp C ρ ops o r T (nth h) h.length) (hg : gapless h.length r.p = true)
      (hr : Tr C ρ ops os rs (putT T o.dst r.v) (patch h r.p) T' h') : Tr C ρ ops (o :: os) (r :: rs) T h T' h'

theorem runRec_Tr {C : Cfg} {ρ : Oracle} {ops : List Oper} : ∀ {os : List Oper} {T : Env} {h : Heap} {l : List Rec} {T' : Env} {h' : Heap}, runRec C ρ ops os T h = some (l, T', h') → Tr C ρ ops os l T h T' h'
  | [], T, h, l, T', h', hx => by
    simp only [runRec, Option.some.injEq, Prod.mk.injEq] at hx
    obtain ⟨rfl, rfl, rfl⟩ := hx
    exact .nil T h
  | o :: os, T, h, l, T', h', hx => by
    unfold runRec at hx
    split at hx
    · cases hx
    · rename_i hw
      split at hx
      · cases hx
      · rename_i l1 T1 h1 hr
        cases hx
        exact .cons (.inl ⟨hw, rfl⟩) rfl (runRec_Tr hr)
    · rename_i hw
      split at hx
      · cases hx
      · cases hx
      · rename_i v p he
        split at hx
        · cases hx
        · rename_i hg
          split at hx
          · cases hx
          · rename_i l1 T1 h1 hr
            cases hx
            exact .cons (.inr ⟨hw, he, rfl⟩) hg (runRec_Tr hr)

theorem put1_length : ∀ (h : Heap) (n : Nat) (o : Obj), n ≤ h.length → (put1 h n o).length = if n = h.length then h.length + 1 else h.length
  | [], 0, o, _ => rfl
  | [], n + 1, o, h => by simp at h
  | a :: h, 0, o, _ => by simp [put1]
  | a :: h, n + 1, o, hle => by
    simp only [List.length_cons, Nat.add_le_add_iff_right] at hle
    simp only [put1, List.length_cons, put1_length h n o hle]
    by_cases he : n = h.length <;> simp [he]

theorem gapless_spec : ∀ {p : Patch} {h : Heap}, gapless h.length p = true → (∀ i, nth (patch h p) i = upd (nth h) p i) ∧ h.length ≤ (patch h p).length ∧ ∀ id o, (id, o) ∈ p → id < (patch h p).length
  | [], h, _ => ⟨fun _ => rfl, Nat.le_refl _, fun _ _ hm => by cases hm⟩
  | (id, o) :: p, h, hg => by
    have hle : id ≤ h.length := by
      unfold gapless at hg
      split at hg
      · rename_i hb; rw [Nat.blt_eq] at hb; omega
      · split at hg
        · rename_i hb; have := Nat.eq_of_beq_eq_true hb; omega
        · cases hg
    have hlen := put1_length h id o hle
    have hg' : gapless (put1 h id o).length p = true := by
      unfold gapless at hg
      split at hg
      · rename_i hb
        rw [Nat.blt_eq] at hb
        rw [hlen, if_neg (by omega)]; exact hg
      · split at hg
        · rename_i hb
          have := Nat.eq_of_beq_eq_true hb
          rw [hlen, if_pos this]; exact hg
        · cases hg
    obtain ⟨h1, h2, h3⟩ := gapless_spec hg'
    have hll : h.length ≤ (put1 h id o).length := by rw [hlen]; split <;> omega
    refine ⟨fun i => ?_, Nat.le_trans hll h2, fun i x hm => ?_⟩
    · unfold patch upd
      rw [h1]
      refine upd_congr ?_
      rw [nth_put1]
      cases hb : Nat.beq i id with
      | true => have := Nat.eq_of_beq_eq_true hb; rw [if_pos this]
      | false =>
        have := Nat.ne_of_beq_eq_false hb
        rw [if_neg this]
        simp only
        cases hn : nth h i with
        | some x => rfl
        | none =>
          simp only
          rw [nth_eq, List.getElem?_eq_none_iff] at hn
          rw [if_neg (by omega)]
    · rcases List.mem_cons.1 hm with hm | hm
      · cases hm
        have : id < (put1 h id o).length := by rw [hlen]; split <;> omega
        exact Nat.lt_of_lt_of_le this h2
      · exact h3 i x hm

theorem Tr.length {C : Cfg} {ρ : Oracle} {ops os : List Oper} {rs : List Rec} {T T' : Env} {h h' : Heap} (t : Tr C ρ ops os rs T h T' h') : rs.length = os.length := by
  induction t with
  | nil => rfl
  | cons _ _ _ ih => simp [ih]

theorem envD_none {D : Nat → Bool} : ∀ (os : List Oper) (rs : List Rec) (i : Nat) (T : Env), (∀ x, i ≤ x → D x = false) → envD D i os rs T = T
  | [], rs, i, T, _ => by unfold envD; rfl
  | o :: os, [], i, T, _ => by unfold envD; rfl
  | o :: os, r :: rs, i, T, h => by
    unfold envD
    rw [if_neg (by rw [h i (Nat.le_refl _)]; simp)]
    exact envD_none os rs (i + 1) T fun x hx => h x (by omega)

theorem memD_none {D : Nat → Bool} : ∀ (rs : List Rec) (i : Nat) (g : Look), (∀ x, i ≤ x → D x = false) → memD D i rs g = g
  | [], i, g, _ => rfl
  | r :: rs, i, g, h => by
    unfold memD
    rw [if_neg (by rw [h i (Nat.le_refl _)]; simp)]
    exact memD_none rs (i + 1) g fun x hx => h x (by omega)

theorem Tr_at {C : Cfg} {ρ : Oracle} {ops : List Oper} : ∀ (j i : Nat) {os : List Oper} {rs : List Rec} {T T' : Env} {h h' : Heap} {o : Oper} {r : Rec}, Tr C ρ ops os rs T h T' h' → os[j]? = some o → rs[j]? = some r →
    ∃ n, h.length ≤ n ∧ Stp C ρ ops o r (envD (fun x => decide (x < i + j)) i os rs T) (memD (fun x => decide (x < i + j)) i rs (nth h)) n ∧
      ∀ j', j' < j → ∀ r', rs[j']? = some r' → ∀ id ∈ r'.mods, id < n
  | 0, i, _, _, T, T', h, h', o, r, .cons hs hg hr, ho, hr' => by
    simp only [List.getElem?_cons_zero, Option.some.injEq] at ho hr'
    subst ho; subst hr'
    refine ⟨h.length, Nat.le_refl _, ?_, fun j' hj => by omega⟩
    rw [envD_none _ _ _ _ (fun x hx => by simp; omega), memD_none _ _ _ (fun x hx => by simp; omega)]
    exact hs
  | j + 1, i, _, _, T, T', h, h', o, r, .cons (o := o0) (os := os) (r := r0) (rs := rs) hs hg hr, ho, hr' => by
    obtain ⟨n, h1, h2, h3⟩ := Tr_at j (i + 1) hr (by simpa using ho) (by simpa using hr')
    obtain ⟨g1, g2, g3⟩ := gapless_spec hg
    refine ⟨n, Nat.le_trans g2 h1, ?_, fun j' hj r' hj' id hid => ?_⟩
    · have e : i + 1 + j = i + (j + 1) := by omega
      rw [e] at h2
      unfold envD memD
      rw [if_pos (by simp), if_pos (by simp)]
      have hl : nth (patch h r0.p) = upd (nth h) r0.p := funext g1
      rw [← hl]
      exact h2
    · cases j' with
      | zero =>
        simp only [List.getElem?_cons_zero, Option.some.injEq] at hj'
        subst hj'
        obtain ⟨⟨i', x⟩, hx, rfl⟩ := List.mem_map.1 hid
        exact Nat.lt_of_lt_of_le (g3 i' x hx) h1
      | succ j' => exact h3 j' (by omega) r' (by simpa using hj') id hid

theorem Tr_end {C : Cfg} {ρ : Oracle} {ops : List Oper} {D : Nat → Bool} : ∀ {os : List Oper} {rs : List Rec} {T T' : Env} {h h' : Heap} (i : Nat), Tr C ρ ops os rs T h T' h' → (∀ x, i ≤ x → x < i + os.length → D x = true) →
    envD D i os rs T = T' ∧ memD D i rs (nth h) = nth h'
  | _, _, T, _, h, _, i, .nil _ _, _ => ⟨by unfold envD; rfl, by unfold memD; rfl⟩
  | _, _, T, T', h, h', i, .cons (r := r) hs hg hr, hD => by
    unfold envD memD
    rw [if_pos (hD i (Nat.le_refl _) (by simp)), if_pos (hD i (Nat.le_refl _) (by simp))]
    obtain ⟨g1, _, _⟩ := gapless_spec hg
    have hl : nth (patch h r.p) = upd (nth h) r.p := funext g1
    rw [← hl]
    exact Tr_end (i + 1) hr fun x h1 h2 => hD x (by omega) (by simp; omega)

end Go.Ab
