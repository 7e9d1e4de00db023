/- The statement 'PassesAlike', in its second form: whatever the templates, the two patterns, the fact and the bindings, where they are together of bulk at most 1048576: true is handed back, and each argument reads as it did. -/
import Derived.Test.YtchkgfmmfdineaaGreatRows
import Derived.WalkKit
import Derived.ProofKit
import Derived.OpenShut
import Derived.JoinedCond
import Derived.Test.YtchkgfmmfdineaaGreatG06
namespace Go.Proofs.YtchkgfmmfdineaaGreat.passesAlike
open Go.ChangeShapes Go.WideShapes Go.ChangeAt Go.RowKit Go.Ab
set_option linter.unusedVariables false
set_option maxRecDepth 100000

theorem own : ownKnob Tryz.prog.godebug = none := by kernel_rfl

def slicesB (P : Program) : Bool := (List.range P.types.size).all fun t => match P.underlying t with | some (.slice e) => decide (0 < P.cellsOf e) | _ => true

theorem slices_pos {t e : TypeId} (ht : t < Tryz.prog.types.size) (hu : Tryz.prog.underlying t = some (.slice e)) : 0 < Tryz.prog.cellsOf e := by
  have h : slicesB Tryz.prog = true := by kernel_rfl
  have := List.all_eq_true.1 h t (List.mem_range.2 ht)
  rw [hu] at this
  simpa using this

theorem kids : Kids Tryz.prog (· < Tryz.prog.types.size) := kids_rows (by kernel_rfl) (by kernel_rfl)

theorem r64 {n : Int} (h : (Lit.int .i64 n).wf = true) : R64 n := by
  have : -9223372036854775808 ≤ n ∧ n ≤ 9223372036854775807 := by simpa [Lit.wf, IntKind.min, IntKind.max, IntKind.signed, IntKind.bits] using h
  unfold R64; omega
theorem vok {x : Val} (h : U.Val.okU 1048576 x) : VOK x := ⟨r64 h.2.1, by have := h.2.2.1; omega⟩
theorem xok {x : Sl Ab.Node} (h : U.SlOK 1048576 (U.Node.okU 1048576) x) : XOK x :=
  ⟨h.nl, by have := h.len; omega, fun y hy => by have := (h.all y hy).2.2.2.1.len; omega, fun y hy => vok (h.all y hy).2.1⟩
theorem tok {x : Test} (h : U.Test.okU 1048576 x) : TOK x := ⟨xok h.2.1, xok h.2.2.1, by have := h.2.2.2.1.len; omega⟩
theorem sok {x : STest} (h : U.STest.okU 1048576 x) : SOK x := ⟨by have := h.2.1.len; omega, fun y hy => tok (h.2.1.all y hy)⟩
theorem pok {ts : Sl Tpl} {p : Pat} {f : Fact} {vars : Sl Bind} (h0 : U.SlOK 1048576 (U.Tpl.okU 1048576) ts) (h1 : U.Pat.okU 1048576 p) (h2 : U.Fact.okU 1048576 f) (h3 : U.SlOK 1048576 (U.Bind.okU 1048576) vars) : PassOK ts p f vars :=
  { hts := by have := h0.len; omega
    htsl := fun t ht => by have := (h0.all t ht).2.len; omega
    hsl := by have := h1.2.2.1.len; omega
    htests := fun s hs => sok (h1.2.2.1.all s hs)
    hfv := fun v hv => vok (h2.2.2.all v hv)
    hvl := by have := h3.len; omega
    hvv := fun b hb => vok (h3.all b hb).2
    hvn := h3.nl }

theorem contract (H : Type) (enc : TypeId × Value → H) (W : World) (base : Nat) (args : Array Value) (ds gs : List (DataW H)) (before : List MemPlace)
    (hval : ∀ (j : Nat) t v, Tryz.f4.params[j]? = some t → args[j]? = some v → Value.okWide Tryz.prog W .any base t v)
    (hW : DataW.Whole enc Tryz.prog Tryz.f4.params.toList Rows.passesAlikeSpec.vars false W args.toList ds gs before)
    (hk : Rows.uptoSmall H (ds ++ gs) = true) (hsh : W.ShapedOpen Tryz.prog) :
    Calls Tryz.prog 4 args W fun e W' => ∃ v, e = .returned v ∧ Rows.passesAlikeSpec.post enc Tryz.prog Tryz.f4 false true false false W args v W' := by
  have hW' := hW
  obtain ⟨p, q, hA0, hV, rfl, hfz, hnd⟩ := hW
  have hA : DataW.TrodAll enc Tryz.prog W 0 (fun _ => true) true Tryz.f4.params.toList args.toList ds p := hA0
  rw [Tryz.params4] at hA hval
  obtain ⟨v0, vs0, d0, ds0, p0, q0, hargs, rfl, rfl, h0, r0⟩ := trodAll_cons hA
  obtain ⟨v1, vs1, d1, ds1, p1, q1, rfl, rfl, rfl, h1, r1⟩ := trodAll_cons r0
  obtain ⟨v2, vs2, d2, ds2, p2, q2, rfl, rfl, rfl, h2, r2⟩ := trodAll_cons r1
  obtain ⟨v3, vs3, d3, ds3, p3, q3, rfl, rfl, rfl, h3, r3⟩ := trodAll_cons r2
  obtain ⟨v4, vs4, d4, ds4, p4, q4, rfl, rfl, rfl, h4, r4⟩ := trodAll_cons r3
  obtain ⟨rfl, rfl, rfl⟩ := trodAll_nil r4
  obtain rfl : args = #[v0, v1, v2, v3, v4] := by cases args; simp_all
  obtain ⟨rfl, rfl⟩ := trodVars_none hV
  have hb : Rows.uptoBulkAll ([d0, d1, d2, d3, d4] ++ ([] : List (DataW H))) ≤ 1048576 := of_decide_eq_true hk
  simp only [List.append_nil, Rows.uptoBulkAll] at hb
  obtain ⟨ts, c0, k0⟩ := U.dec_22 (N := 1048576) _ (U.rd_of_trod h0 (by omega))
  obtain ⟨pt, c1, k1⟩ := U.dec_27 (N := 1048576) _ (U.rd_of_trod h1 (by omega))
  obtain ⟨qt, c2, k2⟩ := U.dec_27 (N := 1048576) _ (U.rd_of_trod h2 (by omega))
  obtain ⟨f, c3, k3⟩ := U.dec_30 (N := 1048576) _ (U.rd_of_trod h3 (by omega))
  obtain ⟨vars, c4, k4⟩ := U.dec_31 (N := 1048576) _ (U.rd_of_trod h4 (by omega))
  obtain ⟨a0, l0, m0, rfl⟩ := okWide_slice Tryz.underlying22 (hval 0 22 v0 rfl rfl)
  obtain ⟨cs1, rfl, _⟩ := okWide_struct Tryz.underlying27 (hval 1 27 v1 rfl rfl)
  obtain ⟨cs2, rfl, _⟩ := okWide_struct Tryz.underlying27 (hval 2 27 v2 rfl rfl)
  obtain ⟨cs3, rfl, _⟩ := okWide_struct Tryz.underlying30 (hval 3 30 v3 rfl rfl)
  obtain ⟨a4, l4, m4, rfl⟩ := okWide_slice Tryz.underlying31 (hval 4 31 v4 rfl rfl)
  have om := alikeL_ok ts pt qt f vars ⟨pok k0 k1 k3 k4, pok k0 k2 k3 k4, by have := k3.2.2.len; omega, by have := k1.1.1; omega⟩
  refine (calls_of_omP (C := CC) (w := W) (vs := [.slice a0 l0 m0, .agg cs1, .agg cs2, .agg cs3, .slice a4 l4 m4]) (by kernel_rfl) (primOK hsh) om (fun γ g hγ => ?_) rfl).mono fun e W' ⟨he, hk, hs⟩ => ⟨_, he, ?_⟩
  · refine .cons (.t _ _ ?_) (.cons (.t _ _ ?_) (.cons (.t _ _ ?_) (.cons (.t _ _ ?_) (.cons (.t _ _ ?_) .nil)))) <;> rw [hγ]
    · exact tr_one c0 (by simp)
    · exact tr_agg c1
    · exact tr_agg c2
    · exact tr_agg c3
    · exact tr_one c4 (by simp)
  · exact post_law (T := (· < Tryz.prog.types.size)) (tb := 4) hW' rfl kids slices_pos (by rw [Tryz.params4]; decide +kernel) (by kernel_rfl) Tryz.underlying4 rfl rfl rfl hk hs

theorem lifted (os : Os) (started : os.Started) (H : Type) (enc : TypeId × Value → H) (F : Stop.Interp) :
    ReturnsInHanded {} Tryz.checked os 4 .any ((Rows.OpenSpec.upto Rows.passesAlikeSpec).pre6 enc Tryz.prog Tryz.f4 Rows.passesAlikeUptoRow.domain false) (((Rows.OpenSpec.upto Rows.passesAlikeSpec).at F).post enc Tryz.prog Tryz.f4 false true false false) := by
  refine returnsInHanded_of_calls own started (by kernel_rfl)
    (OpenSpec.witness (enc := enc) (C := Tryz.checked) (s := Rows.OpenSpec.upto Rows.passesAlikeSpec) (k := Rows.uptoSmall) rfl false
      ⟨#[], #[.slice none 0 0, .agg #[.string ⟨#[]⟩, .string ⟨#[]⟩, .slice none 0 0, .int .i64 0, .int .i64 0], .agg #[.string ⟨#[]⟩, .string ⟨#[]⟩, .slice none 0 0, .int .i64 0, .int .i64 0], .agg #[.int .i64 0, .int .i64 0, .slice none 0 0], .slice none 0 0], []⟩ 8 (by kernel_rfl) (by kernel_rfl) (by kernel_rfl)
      (x := ([.nil, .agg [.lit (.string []), .lit (.string []), .nil, .agg [.lit (.int .i64 0), .lit (.int .i64 0)]], .agg [.lit (.string []), .lit (.string []), .nil, .agg [.lit (.int .i64 0), .lit (.int .i64 0)]], .agg [.lit (.int .i64 0), .lit (.int .i64 0), .nil], .nil], [], [])) (by kernel_rfl) rfl (by kernel_rfl)) ?_
  intro w tape i _ shaped _ fits reads holds
  obtain ⟨_, _, _, fn', found, _, _, _, _, hval⟩ := fits
  obtain rfl : fn' = Tryz.f4 := Option.some.inj (found.symm.trans Tryz.func4)
  obtain ⟨ds, gs, before, whole, conds, small⟩ := (OpenSpec.pre_some (k := Rows.uptoSmall) rfl Rows.passesAlikeUptoRow.domain false _ _).1 reads.1
  have whole' := DataW.Whole.of_heap (w' := w.forCall tape i) (by rfl) whole
  refine (contract H enc (w.forCall tape i) w.heap.size i.args ds gs before hval whole' small shaped).mono fun e W' ⟨v, he, post⟩ => ?_
  subst he
  exact ChangeSpec.post_blind post

theorem over : Rows.passesAlikeUptoRow.holds Tryz.pinned (Rows.OpenSpec.upto Rows.passesAlikeSpec) :=
  OpenClaim.holds_of_cond 4 Tryz.f4 rfl rfl rfl rfl rfl rfl rfl ⟨rfl, rfl, rfl, rfl, rfl⟩ rfl rfl rfl rfl rfl (by kernel_rfl) Tryz.func4 (by kernel_rfl)
    (of_decide_eq_true (by kernel_rfl)) (by unfold Func.isWrapper; first | (rw [if_pos (by decide +kernel)]; kernel_rfl) | (rw [if_neg (by decide +kernel)]; exact ⟨rfl, rfl⟩))
    (fun os started H enc _ F => lifted os started H enc F)

theorem proved : Rows.PassesAlikeUptoSaid := over
#print axioms proved
end Go.Proofs.YtchkgfmmfdineaaGreat.passesAlike
