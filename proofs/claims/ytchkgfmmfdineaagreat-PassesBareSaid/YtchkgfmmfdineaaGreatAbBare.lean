/- The statement 'PassesBare': whatever the templates, the pattern, the fact and the bindings: true is handed back, and each argument reads as it did. No condition. -/
import Derived.Test.YtchkgfmmfdineaaGreatRows
import Derived.WalkKit
import Derived.ProofKit
import Derived.OpenShut
import Derived.Test.YtchkgfmmfdineaaGreatAbP6
import Derived.Test.YtchkgfmmfdineaaGreatAbDec1
namespace Go.Proofs.YtchkgfmmfdineaaGreat.passesBare
open Go.ChangeShapes Go.WideShapes Go.ChangeAt Go.RowKit Go.Ab
set_option linter.unusedVariables false
set_option maxRecDepth 100000

theorem own : ownKnob Tryz.prog.godebug = none := by kernel_rfl

def slicesB (P : Program) : Bool := (List.range P.types.size).all fun t => match P.underlying t with | some (.slice e) => decide (0 < P.cellsOf e) | _ => true

theorem slices_pos {t e : TypeId} (ht : t < Tryz.prog.types.size) (hu : Tryz.prog.underlying t = some (.slice e)) : 0 < Tryz.prog.cellsOf e := by
  have h : slicesB Tryz.prog = true := by kernel_rfl
  have := List.all_eq_true.1 h t (List.mem_range.2 ht)
  rw [hu] at this
  simpa using this

theorem kids : Kids Tryz.prog (· < Tryz.prog.types.size) := kids_rows (by kernel_rfl) (by kernel_rfl)

theorem contract (H : Type) (enc : TypeId × Value → H) (W : World) (base : Nat) (args : Array Value) (ds gs : List (DataW H)) (before : List MemPlace)
    (hval : ∀ (j : Nat) t v, Tryz.f3.params[j]? = some t → args[j]? = some v → Value.okWide Tryz.prog W .any base t v)
    (hW : DataW.Whole enc Tryz.prog Tryz.f3.params.toList Rows.passesBareSpec.vars false W args.toList ds gs before) :
    Calls Tryz.prog 3 args W fun e W' => ∃ v, e = .returned v ∧ Rows.passesBareSpec.post enc Tryz.prog Tryz.f3 false true false false W args v W' := by
  have hW' := hW
  obtain ⟨p, q, hA0, hV, rfl, hfz, hnd⟩ := hW
  have hA : DataW.TrodAll enc Tryz.prog W 0 (fun _ => true) true Tryz.f3.params.toList args.toList ds p := hA0
  rw [Tryz.params3] at hA hval
  obtain ⟨v0, vs0, d0, ds0, p0, q0, hargs, rfl, rfl, h0, r0⟩ := trodAll_cons hA
  obtain ⟨v1, vs1, d1, ds1, p1, q1, rfl, rfl, rfl, h1, r1⟩ := trodAll_cons r0
  obtain ⟨v2, vs2, d2, ds2, p2, q2, rfl, rfl, rfl, h2, r2⟩ := trodAll_cons r1
  obtain ⟨v3, vs3, d3, ds3, p3, q3, rfl, rfl, rfl, h3, r3⟩ := trodAll_cons r2
  obtain ⟨rfl, rfl, rfl⟩ := trodAll_nil r3
  obtain rfl : args = #[v0, v1, v2, v3] := by cases args; simp_all
  obtain ⟨rfl, rfl⟩ := trodVars_none hV
  obtain ⟨ts, c0, k0⟩ := dec_22 _ (rd_of_trod h0)
  obtain ⟨pt, c1, k1⟩ := dec_27 _ (rd_of_trod h1)
  obtain ⟨f, c2, k2⟩ := dec_30 _ (rd_of_trod h2)
  obtain ⟨vars, c3, k3⟩ := dec_31 _ (rd_of_trod h3)
  obtain ⟨a0, l0, m0, rfl⟩ := okWide_slice Tryz.underlying22 (hval 0 22 v0 rfl rfl)
  obtain ⟨cs1, rfl, _⟩ := okWide_struct Tryz.underlying27 (hval 1 27 v1 rfl rfl)
  obtain ⟨cs2, rfl, _⟩ := okWide_struct Tryz.underlying30 (hval 2 30 v2 rfl rfl)
  obtain ⟨a3, l3, m3, rfl⟩ := okWide_slice Tryz.underlying31 (hval 3 31 v3 rfl rfl)
  have om := bare_ok ts pt f vars
    { hts := k0.len, hslots := k1.2.2.1.len, hf := k2.2.2.len, hvars := k3.len, hnil := k3.nl,
      htests := fun s hs => ⟨(k1.2.2.1.all s hs).2.1.len, fun x hx => ⟨((k1.2.2.1.all s hs).2.1.all x hx).2.1.len, ((k1.2.2.1.all s hs).2.1.all x hx).2.2.1.len⟩⟩ }
  refine (calls_of_om (C := CC) (w := W) (vs := [.slice a0 l0 m0, .agg cs1, .agg cs2, .slice a3 l3 m3]) (by kernel_rfl) (fun _ _ => rfl) om (fun γ g hγ => ?_) rfl).mono fun e W' ⟨he, hk, hs⟩ => ⟨_, he, ?_⟩
  · refine .cons (.t _ _ ?_) (.cons (.t _ _ ?_) (.cons (.t _ _ ?_) (.cons (.t _ _ ?_) .nil))) <;> rw [hγ]
    · exact tr_one c0 (by simp)
    · exact tr_agg c1
    · exact tr_agg c2
    · exact tr_one c3 (by simp)
  · exact post_law (T := (· < Tryz.prog.types.size)) (tb := 4) hW' rfl kids slices_pos (by rw [Tryz.params3]; decide +kernel) (by kernel_rfl) Tryz.underlying4 rfl rfl rfl hk hs

theorem lifted (os : Os) (started : os.Started) (H : Type) (enc : TypeId × Value → H) :
    ReturnsInHanded {} Tryz.checked os 3 .any (Rows.passesBareSpec.pre6 enc Tryz.prog Tryz.f3 Rows.passesBareRow.domain false) (Rows.passesBareSpec.post enc Tryz.prog Tryz.f3 false true false false) := by
  refine returnsInHanded_of_change (C := Tryz.checked) own started (by kernel_rfl) Tryz.func3
    (ChangeSpec.witness6 (enc := enc) (C := Tryz.checked) false
      ⟨#[], #[.slice none 0 0, .agg #[.string ⟨#[]⟩, .string ⟨#[]⟩, .slice none 0 0, .int .i64 0, .int .i64 0], .agg #[.int .i64 0, .int .i64 0, .slice none 0 0], .slice none 0 0], []⟩ 8 (by kernel_rfl) (by kernel_rfl) (by kernel_rfl) (by kernel_rfl)) ?_
  intro W base args ds gs before hval hW _ _
  exact contract H enc W base args ds gs before hval hW

theorem proved : Rows.PassesBareSaid :=
  OpenClaim.holds_of_wide 3 Tryz.f3 rfl rfl rfl rfl rfl rfl rfl ⟨rfl, rfl, rfl, rfl, rfl⟩ rfl rfl rfl rfl rfl (by kernel_rfl) Tryz.func3 (by kernel_rfl)
    (of_decide_eq_true (by kernel_rfl)) (by unfold Func.isWrapper; first | (rw [if_pos (by decide +kernel)]; kernel_rfl) | (rw [if_neg (by decide +kernel)]; exact ⟨rfl, rfl⟩))
    (fun os started H enc _ => lifted os started H enc)
#print axioms proved
end Go.Proofs.YtchkgfmmfdineaaGreat.passesBare
