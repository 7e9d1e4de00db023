/- Each operation of the evaluator does what the model's does: slice expressions, strings, capacity. -/
import Derived.Test.YtchkgfmmfdineaaGreatAbOps4
namespace Go.Ab

/-! ### Slice expressions -/

def BO (b : Option Int) (u : Option Value) : Prop := (b = none ∧ u = none) ∨ ∃ k n, b = some n ∧ u = some (.int k n)

theorem bound_BO {γ : G} {g : Look} {T : Env} {a : Act} (h : ER γ g T a) {x : Option Operand} {b : Option Int} (hb : bound T x = some b) : BO b (x.map a.eval) := by
  unfold bound at hb
  cases x with
  | none => cases hb; exact .inl ⟨rfl, rfl⟩
  | some x =>
    simp only at hb
    split at hb
    · rename_i k n ho
      cases hb
      have := operand_VR h x
      rw [ho] at this
      have := this.of_tree
      generalize he : a.eval x = u at this
      cases this
      exact .inr ⟨k, n, rfl, by simp [he]⟩
    · cases hb

theorem run_sliceBound {P : Program} {w : World} {k : IntKind} {i : Int} {y : Nat} {c : BoundsCode} (h : 0 ≤ i ∧ i ≤ y) : (Instr.sliceBound (.int k i) y c).run P w = .ok i.toNat w := by
  simp only [Instr.sliceBound, asIntOf, Sem.run_bind, Sem.run_pure, Result.andThen_ok]
  rw [if_pos h]
  rfl

theorem run_sliceBounds {P : Program} {w : World} {iss : Bool} {len cap : Nat} {lo hi mx : Option Int} {ul uh um : Option Value} (hlo : BO lo ul) (hhi : BO hi uh) (hmx : BO mx um)
    (hlc : len ≤ cap) (hm : ∀ m, mx = some m → hi = some m ∧ 0 ≤ m ∧ m ≤ cap) (h1 : 0 ≤ lo.getD 0) (h2 : lo.getD 0 ≤ hi.getD len) (h3 : hi.getD len ≤ len) :
    (Instr.sliceBounds iss len cap ul uh um).run P w = .ok ((lo.getD 0).toNat, (hi.getD len).toNat, (mx.getD cap).toNat) w := by
  unfold Instr.sliceBounds
  rcases hmx with ⟨rfl, rfl⟩ | ⟨km, m, rfl, rfl⟩
  · simp only [Sem.run_bind, Sem.run_pure, Result.andThen_ok]
    rcases hhi with ⟨rfl, rfl⟩ | ⟨kh, hh, rfl, rfl⟩
    · rcases hlo with ⟨rfl, rfl⟩ | ⟨kl, l, rfl, rfl⟩
      · simp
      · simp at h1 h2 ⊢
        rw [run_sliceBound ⟨h1, h2⟩]; simp
    · simp at h1 h2 h3 ⊢
      rw [run_sliceBound ⟨by omega, by omega⟩]
      simp only [Result.andThen_ok]
      rcases hlo with ⟨rfl, rfl⟩ | ⟨kl, l, rfl, rfl⟩
      · simp
      · simp at h1 h2 ⊢
        rw [run_sliceBound ⟨h1, by omega⟩]; simp
  · obtain ⟨hh, h0, hc⟩ := hm m rfl
    subst hh
    simp at h1 h2 h3
    rcases hhi with ⟨hh, _⟩ | ⟨kh, hh, he, rfl⟩
    · cases hh
    · cases he
      simp only [Sem.run_bind]
      rw [run_sliceBound ⟨h0, hc⟩]
      simp only [Result.andThen_ok]
      rw [run_sliceBound ⟨h0, by omega⟩]
      simp only [Result.andThen_ok]
      rcases hlo with ⟨rfl, rfl⟩ | ⟨kl, l, rfl, rfl⟩
      · simp
      · simp at h1 h2 ⊢
        rw [run_sliceBound ⟨h1, by omega⟩]; simp

theorem mkS_extract (s : List Nat) (l h : Nat) : (mkS s).extract l h = mkS ((s.take h).drop l) := by
  apply ByteArray.ext
  simp [mkS, ByteArray.data_extract, List.extract_eq_take_drop, List.map_take, List.map_drop, List.drop_take]

theorem drop_take_get {α : Type} (es : List α) (l h i : Nat) (x : α) (hx : ((es.take h).drop l)[i]? = some x) : es[l + i]? = some x := by
  rw [List.getElem?_drop] at hx
  have hi := getElem_lt hx
  simp at hi
  rw [List.getElem?_take_of_lt (by omega)] at hx
  exact hx

theorem headLen_of {I : Imm} {nl clip : Bool} {es : List (List Tree)} {u : Value} {n : Nat} (h : TR I (.sl nl clip es) u) (hh : headLen n es = true) : ∀ e ∈ es, e.length = n := by
  cases h with
  | sl _ _ _ a cap s val h0 h1 h2 h3 h4 h5 h6 =>
    cases es with
    | nil => intro e he; cases he
    | cons e0 es =>
      simp only [headLen] at hh
      have hn := Nat.eq_of_beq_eq_true hh
      have hs := h2 e0 (by simp)
      intro e he
      rw [h2 e he, ← hs, hn]

theorem sim_slice {P : Program} {γ : G} {g : Look} {w : World} {t : TypeId} {x v : AV} {u : Value} {lo hi mx : Option Int} {ul uh um : Option Value} (h : HR γ g w) (hv : VR γ g x u)
    (hlo : BO lo ul) (hhi : BO hi uh) (hmx : BO mx um) (hx : slice P g t x lo hi mx = some v) : Good γ g w [] v ((Instr.sliceAt t u ul uh um).run P w) := by
  unfold slice at hx
  split at hx
  · rename_i s hu
    dsimp only at hx
    split at hx
    · rename_i hh
      obtain ⟨hm, h1, h2, h3⟩ := hh
      cases hx
      obtain ⟨rfl, hb⟩ := hv.of_tree.str_inv
      have hmn : mx = none := by simpa using hm
      subst hmn
      have hum : um = none := by rcases hmx with ⟨_, hh⟩ | ⟨_, _, hh, _⟩; exact hh; cases hh
      subst hum
      have hrun := run_sliceBounds (P := P) (w := w) (iss := false) (len := s.length) (cap := s.length) hlo hhi (.inl ⟨rfl, rfl⟩) (Nat.le_refl _) (fun m hm => by cases hm) h1 h2 h3
      simp only [Instr.sliceAt, Instr.slice, Sem.run_bind, run_und hu, Result.andThen_ok, Option.isSome_none, Bool.false_eq_true, if_false, mkS_size, hrun, Sem.run_pure]
      rw [mkS_extract]
      exact .pure h (.t _ _ (.mkS fun b hbm => hb b (List.mem_of_mem_take (List.mem_of_mem_drop hbm))))
    · cases hx
  · rename_i elem nl clip es hu
    split at hx
    · rename_i n hn
      dsimp only at hx
      split at hx
      · rename_i hh
        obtain ⟨h1, h2, h3, hhl⟩ := hh
        have hlen := headLen_of hv.of_tree hhl
        have hvt := hv.of_tree
        cases hvt with
        | sl _ _ _ a cap s val g0 g1 g2 g3 g4 g5 g6 =>
          have hm : ∀ m, mx = some m → m = hi.getD es.length → m ≤ cap ∧ 0 ≤ m := fun m _ hmm => by omega
          have hes : ∀ e ∈ es, s = n := fun e he => by rw [← g2 e he]; exact hlen e he
          -- the new slice, whatever its capacity
          have key : ∀ (clip' : Bool) (m : Nat), (hi.getD es.length).toNat ≤ m → m ≤ cap → (clip' = true → m - (lo.getD 0).toNat = (hi.getD es.length).toNat - (lo.getD 0).toNat) →
              TR γ.imm (.sl nl clip' ((es.take (hi.getD es.length).toNat).drop (lo.getD 0).toNat))
                (.slice (if m = (lo.getD 0).toNat then a else a.map (·.add ((lo.getD 0).toNat * n))) ((hi.getD es.length).toNat - (lo.getD 0).toNat) (m - (lo.getD 0).toNat)) := by
            intro clip' m hhm hmc hcl
            have hl' : ((es.take (hi.getD es.length).toNat).drop (lo.getD 0).toNat).length = (hi.getD es.length).toNat - (lo.getD 0).toNat := by simp; omega
            rw [← hl']
            refine .sl nl clip' _ _ (m - (lo.getD 0).toNat) s (fun i j => val ((lo.getD 0).toNat + i) j) (fun hnl => ?_) (fun hnl => ?_) (fun e he => ?_) (fun i j e c he hc => ?_) (by rw [hl']; omega) (fun hc => by rw [hl']; exact hcl hc) (fun i j e c he hc => g6 _ j e c (drop_take_get es _ _ i e he) hc)
            · obtain ⟨ha, he, hc⟩ := g0 hnl
              subst ha; subst he; subst hc
              refine ⟨by split <;> rfl, by simp, by omega⟩
            · obtain ⟨hne, b, o, ha, hc⟩ := g1 hnl
              refine ⟨?_, b, o + (lo.getD 0).toNat * s, fun hee => ?_, fun i j e c he hcc => ?_⟩
              · split
                · exact hne
                · cases a with
                  | none => exact absurd rfl hne
                  | some a => simp
              · have hpos : 0 < ((es.take (hi.getD es.length).toNat).drop (lo.getD 0).toNat).length := List.length_pos_iff.2 hee
                rw [hl'] at hpos
                have hene : es ≠ [] := fun hh => by rw [hh] at hee; simp at hee
                rw [if_neg (by omega), ha hene]
                obtain ⟨e0, he0⟩ := List.exists_mem_of_ne_nil es hene
                rw [← hes e0 he0]
                simp [addr_add]
              · have := hc _ j e c (drop_take_get es _ _ i e he) hcc
                rw [Nat.add_mul] at this
                rw [← this]; congr 1; omega
            · exact g2 e (List.mem_of_mem_take (List.mem_of_mem_drop he))
            · exact g3 _ j e c (drop_take_get es _ _ i e he) hc
          split at hx
          · cases hx
            have hum : um = none := by rcases hmx with ⟨_, hh⟩ | ⟨_, _, hh, _⟩; exact hh; cases hh
            subst hum
            have hrun := run_sliceBounds (P := P) (w := w) (iss := true) (len := es.length) (cap := cap) hlo hhi (.inl ⟨rfl, rfl⟩) g4 (fun m hm => by cases hm) h1 h2 h3
            simp only [Instr.sliceAt, Instr.slice, Sem.run_bind, run_und hu, Result.andThen_ok, hrun, run_size hn, Sem.run_pure, Option.getD_none, Int.toNat_natCast]
            refine .pure h (.t _ _ (key _ cap (by omega) (Nat.le_refl _) fun hc => ?_))
            simp only [Bool.and_eq_true, beq_iff_eq] at hc
            have := g5 hc.1
            omega
          · rename_i m
            split at hx
            · rename_i hmh
              cases hx
              obtain ⟨hmh, hsome⟩ := hmh
              subst hmh
              obtain ⟨hmc, hm0⟩ := hm _ rfl rfl
              have hhs : hi = some (hi.getD es.length) := by
                cases hi with
                | none => cases hsome
                | some hv => rfl
              have hrun := run_sliceBounds (P := P) (w := w) (iss := true) (len := es.length) (cap := cap) hlo hhi hmx g4 (fun m hm => by cases hm; exact ⟨hhs, hm0, hmc⟩) h1 h2 h3
              simp only [Instr.sliceAt, Instr.slice, Sem.run_bind, run_und hu, Result.andThen_ok, hrun, run_size hn, Sem.run_pure, Option.getD_some]
              exact .pure h (.t _ _ (key true (hi.getD es.length).toNat (Nat.le_refl _) (by omega) fun _ => rfl))
            · cases hx
      · cases hx
    · cases hx
  · rename_i elem id ver hu
    split at hx
    · rename_i s ver' frz es n hg hn
      dsimp only at hx
      split at hx
      · rename_i hh
        obtain ⟨rfl, rfl, h1, h2, h3⟩ := hh
        cases hv with
        | hs _ _ a len cap ho hh =>
          obtain ⟨b, s', hb, hd, rfl, hle, hsz⟩ := hh (cur_arr hg)
          rw [dims_arr hg] at hd; cases hd
          split at hx
          · cases hx
            have hum : um = none := by rcases hmx with ⟨_, hh⟩ | ⟨_, _, hh, _⟩; exact hh; cases hh
            subst hum
            have hrun := run_sliceBounds (P := P) (w := w) (iss := true) (len := es.length) (cap := cap) hlo hhi (.inl ⟨rfl, rfl⟩) hle (fun m hm => by cases hm) h1 h2 h3
            simp only [Instr.sliceAt, Instr.slice, Sem.run_bind, run_und hu, Result.andThen_ok, hrun, run_size hn, Sem.run_pure, Option.getD_none, Int.toNat_natCast]
            refine .pure h ?_
            split
            · rename_i hcl
              exact .hsub id ver _ _ _ _ ho fun _ => ⟨b, s, es.length, hb, dims_arr hg, by omega, by omega, fun hne => by omega⟩
            · simp only [Option.map_some]
              exact .hsub id ver _ _ _ _ ho fun _ => ⟨b, s, es.length, hb, dims_arr hg, by omega, by omega, fun hne => by rw [addr_add]; simp⟩
          · rename_i m
            split at hx
            · rename_i hmh
              cases hx
              obtain ⟨rfl, hhl, hsome⟩ := hmh
              have hhs : hi = some (hi.getD es.length) := by
                cases hi with
                | none => cases hsome
                | some hv => rfl
              have hrun := run_sliceBounds (P := P) (w := w) (iss := true) (len := es.length) (cap := cap) hlo hhi hmx hle (fun m hm => by cases hm; exact ⟨hhs, by omega, by omega⟩) h1 h2 h3
              simp only [Instr.sliceAt, Instr.slice, Sem.run_bind, run_und hu, Result.andThen_ok, hrun, run_size hn, Sem.run_pure, Option.getD_some]
              refine .pure h (.t _ _ ?_)
              rw [if_pos (by omega)]
              have e1 : (hi.getD es.length).toNat - (lo.getD 0).toNat = ([] : List (List Tree)).length := by simp; omega
              rw [e1]
              exact .sl false true [] (some _) _ 0 (fun _ _ => undef) (fun hh => by cases hh) (fun _ => ⟨by simp, 0, 0, fun hh => absurd rfl hh, fun _ _ _ _ he => by simp at he⟩) (fun _ he => by cases he)
                (fun _ _ _ _ he => by simp at he) (Nat.zero_le _) (fun _ => rfl) (fun _ _ _ _ he => by simp at he)
            · cases hx
      · cases hx
    · cases hx
  · rename_i elem id ver lo0 len hu
    split at hx
    · rename_i s ver' frz es n hg hn
      dsimp only at hx
      split at hx
      · rename_i hh
        obtain ⟨rfl, rfl, hle0, h1, h2, h3, hm⟩ := hh
        cases hx
        have hmn : mx = none := by simpa using hm
        subst hmn
        have hum : um = none := by rcases hmx with ⟨_, hh⟩ | ⟨_, _, hh, _⟩; exact hh; cases hh
        subst hum
        cases hv with
        | hsub _ _ _ _ a cap ho hh =>
          obtain ⟨b, s', n', hb, hd, hlc, hlo', ha⟩ := hh (cur_arr hg)
          rw [dims_arr hg] at hd; cases hd
          have hrun := run_sliceBounds (P := P) (w := w) (iss := true) (len := len) (cap := cap) hlo hhi (.inl ⟨rfl, rfl⟩) hlc (fun m hm => by cases hm) h1 h2 h3
          simp only [Instr.sliceAt, Instr.slice, Sem.run_bind, run_und hu, Result.andThen_ok, hrun, run_size hn, Sem.run_pure, Option.getD_none, Int.toNat_natCast]
          refine .pure h ?_
          split
          · rename_i hcl
            exact .hsub id ver _ _ _ _ ho fun _ => ⟨b, s, es.length, hb, dims_arr hg, by omega, by omega, fun hne => by omega⟩
          · simp only [Option.map_some]
            refine .hsub id ver _ _ _ _ ho fun _ => ⟨b, s, es.length, hb, dims_arr hg, by omega, by omega, fun hne => ?_⟩
            rw [ha (by omega), addr_add, Nat.add_mul]
      · cases hx
    · cases hx
  · cases hx

end Go.Ab
