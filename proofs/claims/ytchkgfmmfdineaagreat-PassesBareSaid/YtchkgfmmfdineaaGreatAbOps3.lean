/- Each operation of the evaluator does what the model's does: addresses, parts, literals. -/
import Derived.Test.YtchkgfmmfdineaaGreatAbOps2
namespace Go.Ab

/-! ### Addresses -/

theorem sim_addOff {γ : G} {g : Look} {x v : AV} {u : Value} {n : Nat} (hv : VR γ g x u) (hx : addOff n x = some v) :
    ∃ a, u = .pointer (some a) ∧ VR γ g v (.pointer (some (a.add n))) := by
  unfold addOff at hx
  split at hx
  · cases hx
    cases hv with
    | box _ _ b hb hc => exact ⟨_, rfl, by rw [addr_add]; exact .box _ _ b hb hc⟩
  · cases hx
    cases hv with
    | el _ _ _ _ a ho hh =>
      refine ⟨_, rfl, .el _ _ _ _ _ ho fun hc => ?_⟩
      obtain ⟨b, s, m, h1, h2, rfl⟩ := hh hc
      exact ⟨b, s, m, h1, h2, by rw [addr_add, Nat.add_assoc]⟩
  · split at hx
    · rename_i cs hn
      cases hx
      cases hv with
      | rp _ b o val h1 h2 =>
        refine ⟨_, rfl, ?_⟩
        rw [addr_add]
        refine .rp (cs.drop n) b (o + n) (fun j => val (n + j)) (fun j c hc => ?_) (fun j c hc => ?_)
        · rw [List.getElem?_drop] at hc
          rw [Nat.add_assoc]; exact h1 _ _ hc
        · rw [List.getElem?_drop] at hc; exact h2 _ _ hc
    · cases hx
  · cases hx

theorem retO_val {o : Option AV} {v : AV} {p : Patch} (h : retO o = some (.val v, p)) : o = some v ∧ p = [] := by
  unfold retO at h
  split at h
  · cases h; exact ⟨rfl, rfl⟩
  · cases h

theorem retO_pan {o : Option AV} {v : AV} {p : Patch} : retO o ≠ some (.pan v, p) := by
  unfold retO
  split <;> simp

theorem sim_fieldAddr {P : Program} {γ : G} {g : Look} {w : World} {s : TypeId} {x v : AV} {u : Value} {f : Nat} {p : Patch} (h : HR γ g w) (hv : VR γ g x u)
    (hx : xFieldAddr P s x f = some (.val v, p)) : Good γ g w p v ((Instr.fieldAt s u f).run P w) := by
  unfold xFieldAddr at hx
  split at hx
  · rename_i fields hu
    split at hx
    · rename_i fd hfd
      split at hx
      · rename_i n hn
        replace hx := retO_val hx
        obtain ⟨hx, rfl⟩ := hx
        obtain ⟨a, rfl, hr⟩ := sim_addOff hv hx
        rw [nth_eq] at hfd
        have hfd' : fields[f]? = some fd := by simpa using hfd
        simp only [Instr.fieldAt, Sem.run_bind, run_und hu, Result.andThen_ok, hfd', Instr.sureAddr, Sem.run_pure, fieldPlace, run_size hn]
        simp only [if_false, Sem.run_pure, Result.andThen_ok, show ¬ (n + 1 = 0) from by omega]
        exact .pure h hr
      · cases hx
    · cases hx
  · cases hx

theorem sim_field {P : Program} {γ : G} {g : Look} {w : World} {s : TypeId} {x v : AV} {u : Value} {f : Nat} {p : Patch} (h : HR γ g w) (hv : VR γ g x u)
    (hx : xField P s x f = some (.val v, p)) : Good γ g w p v ((Instr.field s u f).run P w) := by
  unfold xField at hx
  split at hx
  · rename_i fields hu
    split at hx
    · rename_i fd hfd
      split at hx
      · rename_i cs hcs
        replace hx := retO_val hx
        obtain ⟨hx, rfl⟩ := hx
        obtain ⟨vs, rfl, hvs⟩ := aggCells_VR hcs hv
        obtain ⟨r, hr, hrv⟩ := sim_part (P := P) (w := w) hvs hx
        rw [nth_eq] at hfd
        have hfd' : fields[f]? = some fd := by simpa using hfd
        simp only [Instr.field, Sem.run_bind, run_und hu, Result.andThen_ok, hfd', asAgg, Sem.run_pure, hr]
        exact .pure h hrv
      · cases hx
    · cases hx
  · cases hx

theorem idx_some {α : Type} {l : List α} {i : Int} {x : α} (h : idx l i = some x) : ∃ n : Nat, i = n ∧ l[n]? = some x := by
  unfold idx at h
  split at h
  · rename_i n; exact ⟨n, rfl, by rw [← nth_eq]; exact h⟩
  · cases h

theorem sim_indexAddr {P : Program} {γ : G} {g : Look} {w : World} {t : TypeId} {x i v : AV} {u ui : Value} {p : Patch} (h : HR γ g w) (hv : VR γ g x u) (hi : VR γ g i ui)
    (hx : xIndexAddr P g t x i = some (.val v, p)) : Good γ g w p v ((Instr.indexAt t u ui).run P w) := by
  unfold xIndexAddr at hx
  split at hx
  · rename_i k n
    replace hx := retO_val hx
    obtain ⟨hx, rfl⟩ := hx
    have hit := hi.of_tree
    cases hit
    have key : ∀ (base : Option Addr) (len : Nat) (elem : TypeId) (s : Nat) (a : Addr), und P t = some (.slice elem) → sizeOf? P elem = some s → (∃ cap, u = .slice (some a) len cap) →
        0 ≤ n → n < len → VR γ g v (.pointer (some (a.add (n.toNat * s)))) → Good γ g w [] v ((Instr.indexAt t u (.int k n)).run P w) := by
      intro base len elem s a hu hs hua h0 hl hr
      obtain ⟨cap, rfl⟩ := hua
      simp only [Instr.indexAt, asIntOf, Sem.run_bind, Sem.run_pure, Result.andThen_ok, run_und hu, Bool.and_false]
      rw [if_pos ⟨h0, hl⟩]
      simp only [Sem.run_bind, run_size hs, Result.andThen_ok, Sem.run_pure]
      exact .pure h hr
    unfold indexAddr at hx
    split at hx
    · rename_i elem nl clip es hu
      split at hx
      · rename_i s e hs he
        split at hx
        · rename_i hel
          cases hx
          obtain ⟨m, rfl, hm⟩ := idx_some he
          have hvt := hv.of_tree
          cases hvt with
          | sl _ _ _ a cap s' val h0 h1 h2 h3 h4 h5 h6 =>
            have hne : es ≠ [] := fun hh => by rw [hh] at hm; simp at hm
            have hnl : nl = false := by
              cases nl with
              | false => rfl
              | true => exact absurd (h0 rfl).2.1 hne
            obtain ⟨_, b, o, ha, hc⟩ := h1 hnl
            have ha := ha hne
            subst ha
            have hs' : s' = s := by rw [← h2 e (List.mem_of_getElem? hm)]; exact hel
            subst hs'
            refine key none es.length elem s' ⟨b, o, none⟩ hu hs ⟨_, rfl⟩ (by omega) (by have := getElem_lt hm; omega) ?_
            rw [addr_add]
            simp only [Int.toNat_natCast]
            exact .rp e b (o + m * s') (val m) (fun j c hjc => hc m j e c hm hjc) (fun j c hjc => h3 m j e c hm hjc)
        · cases hx
      · cases hx
    · rename_i elem id ver hu
      have hgood : ∀ (s0 ver' len : Nat), cur g id = some ver' → dims g id = some (s0, len) → ∀ s, sizeOf? P elem = some s → (if ver = ver' ∧ s0 = s ∧ 0 ≤ n ∧ n < len then some (AV.el id ver n.toNat 0) else none) = some v →
          Good γ g w [] v ((Instr.indexAt t u (.int k n)).run P w) := by
        intro s0 ver' len hcu hdi s hs hx
        split at hx
        · rename_i hh
          obtain ⟨rfl, rfl, h0, hl⟩ := hh
          cases hx
          cases hv with
          | hs _ _ a m cap ho hh =>
            obtain ⟨b, s', hb, hd, rfl, hle, hsz⟩ := hh hcu
            rw [hdi] at hd; cases hd
            refine key none len elem s0 ⟨b, 0, none⟩ hu hs ⟨_, rfl⟩ h0 hl ?_
            rw [addr_add]
            exact .el id ver n.toNat 0 _ ho fun _ => ⟨b, s0, len, hb, hdi, by simp⟩
        · cases hx
      split at hx
      · rename_i s0 ver' frz es s hg hs
        exact hgood s0 ver' es.length (cur_arr hg) (dims_arr hg) s hs hx
      · rename_i s0 ver' es s hg hs
        exact hgood s0 ver' es.length (by unfold cur; rw [hg]) (by unfold dims; rw [hg]) s hs hx
      · cases hx
    · rename_i elem id ver lo len hu
      split at hx
      · rename_i s0 ver' frz es s hg hs
        split at hx
        · rename_i hh
          obtain ⟨rfl, rfl, h0, hl, hle⟩ := hh
          cases hx
          cases hv with
          | hsub _ _ _ _ a cap ho hh =>
            obtain ⟨b, s', n', hb, hd, hc, hlo, ha⟩ := hh (cur_arr hg)
            rw [dims_arr hg] at hd; cases hd
            have ha := ha (by omega)
            subst ha
            refine key none len elem s0 ⟨b, lo * s0, none⟩ hu hs ⟨_, rfl⟩ h0 hl ?_
            rw [addr_add]
            exact .el id ver (lo + n.toNat) 0 _ ho fun _ => ⟨b, s0, _, hb, dims_arr hg, by rw [Nat.add_mul]; simp⟩
        · cases hx
      · cases hx
    · rename_i m elem x' hu
      split at hx
      · rename_i s hs
        split at hx
        · rename_i hh
          obtain ⟨a, rfl, hr⟩ := sim_addOff hv hx
          simp only [Instr.indexAt, asIntOf, Sem.run_bind, Sem.run_pure, Result.andThen_ok, run_und hu, Instr.sureAddr]
          rw [if_pos hh]
          simp only [Sem.run_bind, run_size hs, Result.andThen_ok, Sem.run_pure]
          exact .pure h hr
        · cases hx
      · cases hx
    · cases hx
  · cases hx

theorem sim_index {P : Program} {γ : G} {g : Look} {w : World} {t : TypeId} {x i v : AV} {u ui : Value} {p : Patch} (h : HR γ g w) (hv : VR γ g x u) (hi : VR γ g i ui)
    (hx : xIndex P t x i = some (.val v, p)) : Good γ g w p v ((Instr.index t u ui).run P w) := by
  unfold xIndex at hx
  split at hx
  · rename_i k n
    replace hx := retO_val hx
    obtain ⟨hx, rfl⟩ := hx
    have hit := hi.of_tree
    cases hit
    unfold index at hx
    split at hx
    · rename_i s hu
      split at hx
      · rename_i b hb
        cases hx
        obtain ⟨m, rfl, hm⟩ := idx_some hb
        obtain ⟨rfl, hbs⟩ := hv.of_tree.str_inv
        have hml := getElem_lt hm
        have hget : (mkS s)[m]? = some (UInt8.ofNat b) := by
          have : m < (mkS s).size := by rw [mkS_size]; exact hml
          rw [getElem?_pos (mkS s) m this]
          have e : s[m] = b := by rw [List.getElem?_eq_getElem hml] at hm; exact Option.some.inj hm
          have : (mkS s)[m] = (s.map UInt8.ofNat)[m]'(by simpa using hml) := rfl
          rw [this, List.getElem_map, e]
        have hb8 : b < 256 := hbs b (List.mem_of_getElem? hm)
        simp only [Instr.index, asIntOf, Sem.run_bind, Sem.run_pure, Result.andThen_ok, run_und hu]
        rw [if_pos (by omega)]
        simp only [Int.toNat_natCast, hget, Sem.run_pure]
        have : (UInt8.ofNat b).toNat = b := by simp [UInt8.toNat_ofNat', Nat.mod_eq_of_lt hb8]
        rw [this]
        exact .pure h (.t _ _ (.int _ _))
      · cases hx
    · rename_i m elem x' hu
      split at hx
      · rename_i s hs
        split at hx
        · rename_i cs hcs
          split at hx
          · rename_i hh
            obtain ⟨vs, rfl, hvs⟩ := aggCells_VR hcs hv
            obtain ⟨r, hr, hrv⟩ := sim_part (P := P) (w := w) hvs hx
            simp only [Instr.index, asIntOf, Sem.run_bind, Sem.run_pure, Result.andThen_ok, run_und hu]
            rw [if_pos hh]
            simp only [Sem.run_bind, run_size hs, Result.andThen_ok, hr]
            exact .pure h hrv
          · cases hx
        · cases hx
      · cases hx
    · cases hx
  · cases hx

theorem sim_extract {P : Program} {γ : G} {g : Look} {w : World} {x v : AV} {u : Value} {i : Nat} {p : Patch} (h : HR γ g w) (hv : VR γ g x u)
    (hx : xExtract x i = some (.val v, p)) : Good γ g w p v ((Instr.extract u i).run P w) := by
  unfold xExtract at hx
  split at hx
  · rename_i vs
    replace hx := retO_val hx
    obtain ⟨hx, rfl⟩ := hx
    rw [nth_eq] at hx
    cases hv with
    | tup _ us hl hh =>
      have hil := getElem_lt hx
      have hu : us[i]? = some (us[i]'(by omega)) := List.getElem?_eq_getElem (by omega)
      have hu' : us.toArray[i]? = some (us[i]'(by omega)) := by simp
      simp only [Instr.extract, hu', Sem.run_pure]
      exact .pure h (hh i v _ hx hu)
  · cases hx

end Go.Ab
