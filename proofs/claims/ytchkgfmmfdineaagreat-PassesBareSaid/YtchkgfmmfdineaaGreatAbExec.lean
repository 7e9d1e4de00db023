/- Code: what the evaluator says of it the model does. The law of regions is put in as a premise here, and proved behind. -/
import Derived.Test.YtchkgfmmfdineaaGreatAbRun
import Derived.Scope
namespace Go.Ab

/-! ### The heap in its canonical form -/

theorem upto_eq : ∀ (n : Nat) (acc : List Nat), upto n acc = List.range n ++ acc
  | 0, acc => by simp [upto]
  | n + 1, acc => by rw [upto, upto_eq n, List.range_succ]; simp

theorem reach_prefix {g : Look} : ∀ (n : Nat) (todo acc r : List Nat), reach g n todo acc = some r → ∃ t, r = acc ++ t
  | 0, _, _, _, h => by simp [reach] at h
  | _ + 1, [], acc, r, h => by simp [reach] at h; exact ⟨[], by simp [h]⟩
  | n + 1, id :: todo, acc, r, h => by
    unfold reach at h
    split at h
    · exact reach_prefix n _ _ _ h
    · split at h
      · obtain ⟨t, ht⟩ := reach_prefix n _ _ _ h
        exact ⟨id :: t, by rw [ht]; simp⟩
      · cases h

theorem Base.sub {w0 w : World} {γ : G} (hb : Base w0 γ w) (ids : List Nat) : Base w0 (γ.sub ids) w :=
  ⟨hb.1, fun b hlt => ⟨(hb.2 b hlt).1, fun k hk => by
    cases hid : ids[k]? with
    | none => simp only [G.sub, hid] at hk; cases hk
    | some id => exact (hb.2 b hlt).2 id (by simpa only [G.sub, hid] using hk)⟩⟩

theorem Fr.sub (γ : G) (w : World) (ids : List Nat) : Fr γ w (γ.sub ids) w :=
  ⟨Nat.le_refl _, fun _ _ _ => rfl, fun k b hk => by
    cases hid : ids[k]? with
    | none => simp only [G.sub, hid] at hk; cases hk
    | some id => exact .inr ⟨id, by simpa only [G.sub, hid] using hk⟩, fun _ _ _ h => .inl h, rfl, rfl⟩

theorem sim_canon {γ : G} {h h' : Heap} {w : World} {m : Nat} {xs ys : List AV} (hr : HR γ (nth h) w) (hx : canon h m xs = some (ys, h')) :
    ∃ ids, HR (γ.sub ids) (nth h') w ∧ Keep m γ (nth h) (γ.sub ids) (nth h') ∧ ys = renL (nth h) ids xs ∧ ∀ x u, VR γ (nth h) x u → VR (γ.sub ids) (nth h') (ren (nth h) ids depth x) u := by
  unfold canon at hx
  dsimp only at hx
  split at hx
  · cases hx
  · rename_i ids hids
    have hnod := reach_nodup _ _ _ _ hids (by rw [upto_eq]; simp [List.nodup_range])
    obtain ⟨t, ht⟩ := reach_prefix _ _ _ _ hids
    rw [upto_eq, List.append_nil] at ht
    split at hx
    · cases hx
    · rename_i h1 hs
      cases hx
      have hget : ∀ k, k < m → ids[k]? = some k := fun k hk => by
        rw [ht, List.getElem?_append_left (by simpa using hk)]; simp [hk]
      obtain ⟨_, hspec⟩ := sub1_spec hs
      refine ⟨ids, sub_HR hr hs hnod, ⟨fun id b hm hb hc => ?_, fun id hm hc => ?_⟩, rfl, fun x u hv => ren_VR hs depth hv⟩
      · have hi := hget id hm
        obtain ⟨o, ho, hh⟩ := hspec _ _ hi
        exact ⟨by simp only [G.sub, hi]; exact hb, (cur_renO ho (by rw [nth_eq]; exact hh : nth h' id = _)).1 hc⟩
      · have hi := hget id hm
        obtain ⟨o, ho, hh⟩ := hspec _ _ hi
        cases hcc : cur (nth h) id with
        | none => exact absurd hcc hc
        | some c => rw [(cur_renO ho (by rw [nth_eq]; exact hh : nth h' id = _)).2.1 c hcc]; simp

theorem get_zip {f : Nat → AV} (t : Nat) : ∀ (ks : List Nat), get (ks.zip (ks.map f)) t = f t ∨ get (ks.zip (ks.map f)) t = .unk
  | [] => .inr rfl
  | k :: ks => by
    simp only [List.map_cons, List.zip_cons_cons, get]
    cases hb : Nat.beq k t with
    | true => have := Nat.eq_of_beq_eq_true hb; subst this; exact .inl rfl
    | false => exact get_zip t ks

/-! ### What is said of code -/

def Post (w0 : World) (k m : Nat) (γ : G) (g : Look) (w : World) (r : Ex) (st' : St) (Q : Exit → Act → World → Prop) : Prop :=
  ∀ γ' a' w', Inv w0 k γ' st'.h st'.T a' w' → Fr γ w γ' w' → ImmLe γ.imm γ'.imm → Keep m γ g γ' (nth st'.h) → match r with
    | .normal => Q .normal a' w'
    | .exit id => Q (.exit id) a' w'
    | .ret => Q .ret a' w'
    | .pan v => ∀ u, VR γ' (nth st'.h) v u → Q (.panic [{ v := u, recovered := false }]) a' w'

theorem Post.after {w0 : World} {k m : Nat} {γ γ1 : G} {g g1 : Look} {w w1 : World} {r : Ex} {st' : St} {Q : Exit → Act → World → Prop} (h : Post w0 k m γ g w r st' Q)
    (f : Fr γ w γ1 w1) (i : ImmLe γ.imm γ1.imm) (kp : Keep m γ g γ1 g1) : Post w0 k m γ1 g1 w1 r st' Q :=
  fun γ' a' w' h1 h2 h3 h4 => h γ' a' w' h1 (f.trans h2) (i.trans h3) (kp.trans h4)

theorem Keep.refl (m : Nat) (γ : G) (g : Look) : Keep m γ g γ g := ⟨fun _ _ _ h h' => ⟨h, h'⟩, fun _ _ h => h⟩

theorem exists_least {p : Nat → Prop} (h : ∃ n, p n) : ∃ n, p n ∧ ∀ m, p m → n ≤ m := by
  obtain ⟨n, hn⟩ := h
  induction n using Nat.strongRecOn with
  | _ n ih =>
    by_cases hh : ∃ m, m < n ∧ p m
    · obtain ⟨m, hm, hp⟩ := hh; exact ih m hm hp
    · exact ⟨n, hn, fun m hm => Nat.le_of_not_lt fun hlt => hh ⟨m, hlt, hm⟩⟩

/-- The law of regions. -/
def RegionOK (C : Cfg) (ρ : Oracle) (w0 : World) : Prop :=
  ∀ (k m : Nat) (id : Nat) (ops : Array Oper) (draw : Bool) (st : St) (r : Ex) (st' : St) (γ : G) (a : Act) (w : World) (Q : Exit → Act → World → Prop),
    region C ρ k ops.toList draw st = some (r, st') → Inv w0 k γ st.h st.T a w → Post w0 k m γ (nth st.h) w r st' Q → (Code.region id ops draw).wp C.P Q a w

theorem sim_tidy {w0 : World} {k m : Nat} {keep : Option (List Nat)} {st st' : St} {γ : G} {a : Act} {w : World} (hx : tidy m keep st = some st') (hi : Inv w0 k γ st.h st.T a w) :
    ∃ γ', Inv w0 k γ' st'.h st'.T a w ∧ Fr γ w γ' w ∧ ImmLe γ.imm γ'.imm ∧ Keep m γ (nth st.h) γ' (nth st'.h) := by
  unfold tidy at hx
  split at hx
  · cases hx; exact ⟨γ, hi, .refl _ _, .refl _, .refl _ _ _⟩
  · rename_i ks
    split at hx
    · rename_i vs h hc
      cases hx
      obtain ⟨ids, h1, h2, h3, h4⟩ := sim_canon hi.hr hc
      refine ⟨γ.sub ids, ⟨h1, hi.base.sub ids, fun t => ?_, hi.sz, hi.nd⟩, .sub _ _ _, .refl _, h2⟩
      simp only
      rw [h3]
      unfold renL
      rw [List.map_map]
      rcases get_zip (f := ren (nth st.h) ids depth ∘ get st.T) t ks with h5 | h5
      · rw [h5]; exact h4 _ _ (hi.er t)
      · rw [h5]; exact .unk _
    · cases hx

theorem sim_exec {C : Cfg} {w0 : World} {ρ : Oracle} (hreg : RegionOK C ρ w0) (n m k : Nat) (keep : Nat → Option (List Nat)) :
    ∀ (c : Code) (st : St) (r : Ex) (st' : St) (γ : G) (a : Act) (w : World) (Q : Exit → Act → World → Prop),
      exec C ρ n m k keep c st = some (r, st') → Inv w0 k γ st.h st.T a w → Post w0 k m γ (nth st.h) w r st' Q → c.wp C.P Q a w := by
  intro c
  induction c with
  | skip =>
    intro st r st' γ a w Q hx hi hp
    simp only [exec, Option.some.injEq, Prod.mk.injEq] at hx
    obtain ⟨rfl, rfl⟩ := hx
    exact wp_skip (hp γ a w hi (.refl _ _) (.refl _) (.refl _ _ _))
  | region id ops draw =>
    intro st r st' γ a w Q hx hi hp
    exact hreg k m id ops draw st r st' γ a w Q hx hi hp
  | seq x y ihx ihy =>
    intro st r st' γ a w Q hx hi hp
    unfold exec at hx
    split at hx
    · rename_i st1 h1
      refine wp_seq (ihx st .normal st1 γ a w _ h1 hi fun γ1 a1 w1 i1 f1 m1 k1 => ?_)
      exact ihy st1 r st' γ1 a1 w1 Q hx i1 (hp.after f1 m1 k1)
    · rename_i r1 hne
      refine wp_seq (ihx st r st' γ a w _ hx hi fun γ1 a1 w1 i1 f1 m1 k1 => ?_)
      have := hp γ1 a1 w1 i1 f1 m1 k1
      cases r with
      | normal => exact absurd hx (hne st')
      | exit id => exact this
      | ret => exact this
      | pan v => exact this
  | cond c x y ihx ihy =>
    intro st r st' γ a w Q hx hi hp
    unfold exec at hx
    have hc := operand_VR hi.er c
    split at hx
    · rename_i hop
      rw [hop] at hc
      have : a.eval c = .bool true := by
        generalize a.eval c = cv at hc
        cases hc with
        | t _ _ ht => cases ht; rfl
      exact wp_cond_true this (ihx st r st' γ a w Q hx hi hp)
    · rename_i hop
      rw [hop] at hc
      have : a.eval c = .bool false := by
        generalize a.eval c = cv at hc
        cases hc with
        | t _ _ ht => cases ht; rfl
      exact wp_cond_false this (ihy st r st' γ a w Q hx hi hp)
    · cases hx
  | block id b ih =>
    intro st r st' γ a w Q hx hi hp
    unfold exec at hx
    split at hx
    · rename_i id' st1 h1
      refine wp_block (ih st (.exit id') st1 γ a w _ h1 hi fun γ1 a1 w1 i1 f1 m1 k1 => ?_)
      simp only [Exit.inBlock]
      split at hx
      · rename_i he
        cases hx
        rw [if_pos he]
        exact hp γ1 a1 w1 i1 f1 m1 k1
      · rename_i he
        cases hx
        rw [if_neg he]
        exact hp γ1 a1 w1 i1 f1 m1 k1
    · rename_i r1 hne
      refine wp_block (ih st r st' γ a w _ hx hi fun γ1 a1 w1 i1 f1 m1 k1 => ?_)
      have := hp γ1 a1 w1 i1 f1 m1 k1
      cases r with
      | normal => exact this
      | exit id => exact absurd hx (hne id st')
      | ret => exact this
      | pan v => exact this
  | loop b ih =>
    intro st r st' γ a w Q hx hi hp
    unfold exec at hx
    have hgen : ∃ ks, iter (tidy m ks) (exec C ρ n m k keep b) n st = some (r, st') := ⟨_, hx⟩
    obtain ⟨ks, hx⟩ := hgen
    let R : Nat → Act → World → Prop := fun f a w => ∃ st2 γ2, iter (tidy m ks) (exec C ρ n m k keep b) f st2 = some (r, st') ∧ Inv w0 k γ2 st2.h st2.T a w ∧ Post w0 k m γ2 (nth st2.h) w r st' Q
    have hR : R n a w := ⟨st, γ, hx, hi, hp⟩
    let μ : Act → World → Nat := fun a w => open Classical in if h : ∃ f, R f a w then Classical.choose (exists_least h) else 0
    have hμ : ∀ a w f, R f a w → R (μ a w) a w ∧ μ a w ≤ f := fun a w f h => by
      have hex : ∃ f, R f a w := ⟨f, h⟩
      have hs := Classical.choose_spec (exists_least hex)
      have he : μ a w = Classical.choose (exists_least hex) := dif_pos hex
      rw [he]
      exact ⟨hs.1, hs.2 f h⟩
    refine wp_loop (fun a w => ∃ f, R f a w) μ ⟨n, hR⟩ fun a w ⟨f0, hf0⟩ => ?_
    obtain ⟨⟨st2, γ2, h1, h2, h3⟩, _⟩ := hμ a w f0 hf0
    cases hf : μ a w with
    | zero => rw [hf] at h1; simp [iter] at h1
    | succ f =>
      rw [hf] at h1
      unfold iter at h1
      split at h1
      · cases h1
      · rename_i st3 htidy
        obtain ⟨γ3, i3, f3, m3, k3⟩ := sim_tidy htidy h2
        have h4 := h3.after f3 m3 k3
        split at h1
        · rename_i st4 hb
          refine ih st3 .normal st4 γ3 a w _ hb i3 fun γ5 a5 w5 i5 f5 m5 k5 => ?_
          have hR5 : R f a5 w5 := ⟨st4, γ5, h1, i5, h4.after f5 m5 k5⟩
          exact ⟨⟨f, hR5⟩, Nat.lt_succ_of_le (hμ a5 w5 f hR5).2⟩
        · rename_i r1 hne
          refine ih st3 r st' γ3 a w _ h1 i3 fun γ5 a5 w5 i5 f5 m5 k5 => ?_
          have := h4 γ5 a5 w5 i5 f5 m5 k5
          cases r with
          | normal => exact absurd h1 (hne st')
          | exit id => exact this
          | ret => exact this
          | pan v => exact this
  | rangeFunc f ps x y ihx ihy => intro st r st' γ a w Q hx; simp [exec] at hx
  | exit id =>
    intro st r st' γ a w Q hx hi hp
    simp only [exec, Option.some.injEq, Prod.mk.injEq] at hx
    obtain ⟨rfl, rfl⟩ := hx
    exact wp_exit (hp γ a w hi (.refl _ _) (.refl _) (.refl _ _ _))
  | scope b ih =>
    intro st r st' γ a w Q hx hi hp
    unfold exec at hx
    refine wp_scope_straight (ih st r st' γ a w _ hx hi fun γ1 a1 w1 i1 f1 m1 k1 => ?_)
    have := hp γ1 a1 w1 i1 f1 m1 k1
    cases r with
    | normal => exact this
    | exit id => exact this
    | ret => exact this
    | pan v => exact this
  | label l =>
    intro st r st' γ a w Q hx hi hp
    simp only [exec, Option.some.injEq, Prod.mk.injEq] at hx
    obtain ⟨rfl, rfl⟩ := hx
    exact wp_label (hp γ a w hi (.refl _ _) (.refl _) (.refl _ _ _))
  | goto l => intro st r st' γ a w Q hx; simp [exec] at hx
  | ret =>
    intro st r st' γ a w Q hx hi hp
    simp only [exec, Option.some.injEq, Prod.mk.injEq] at hx
    obtain ⟨rfl, rfl⟩ := hx
    exact wp_ret (hp γ a w hi (.refl _ _) (.refl _) (.refl _ _ _))
  | refuse s => intro st r st' γ a w Q hx; simp [exec] at hx

end Go.Ab
