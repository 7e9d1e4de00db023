/- Layer 2 (value): truths and sums of any many values. -/
import Derived.Test.YtchkgfmmfdineaaGreatG02
namespace Go.Ab
open Go.Proofs
set_option maxRecDepth 100000
set_option maxHeartbeats 4000000
set_option linter.unusedSimpArgs false
set_option linter.unusedVariables false


theorem all_run (l : List Val) (nl cl : Bool) (hl : l.length < 9223372036854775808) (hr : ∀ v ∈ l, VOK v) : ∃ x : Val, Om CC 55 [.t (.sl nl cl (l.map Val.c))] [] = some (.val (.t (.agg [.int .u8 x.k, .int .i64 x.n, .str x.s])), []) ∧ VOK x := by
  refine call_ex (F := fun x : Val => .t (.agg [.int .u8 x.k, .int .i64 x.n, .str x.s])) fun_55 rfl ?_
  (have F_ : _ ∧ _ ∧ _ ∧ _ ∧ _ ∧ _ ∧ _ ∧ _ ∧ _ ∧ _ ∧ _ ∧ _ ∧ _ ∧ _ ∧ _ ∧ _ ∧ _ ∧ _ ∧ _ ∧ _ ∧ _ ∧ _ ∧ _ ∧ _ ∧ _ ∧ _ ∧ _ ∧ _ ∧ _ ∧ _ ∧ _ ∧ _ ∧ _ ∧ _ ∧ _ ∧ _ ∧ _ ∧ _ ∧ _ ∧ _ ∧ _ ∧ _ ∧ _ ∧ _ ∧ _ ∧ _ ∧ _ ∧ _ ∧ _ ∧ _ ∧ _ ∧ _ := ⟨und_2, size_2, agg_2, zero_2, zel_2, small_2, und_3, size_3, agg_3, zero_3, zel_3, small_3, und_4, size_4, agg_4, zero_4, zel_4, small_4, noInt_4, und_5, size_5, agg_5, zero_5, zel_5, small_5, und_9, size_9, agg_9, zero_9, zel_9, small_9, noInt_9, und_28, size_28, agg_28, zero_28, zel_28, small_28, noInt_28, fa_45_0, fd_45_0, fa_45_1, fd_45_1, fa_45_2, fd_45_2, bld_45, size_45, agg_45, zero_45, zel_45, small_45, noInt_45⟩; show W CC 0 25 (keepsOf 55) _ ⟨[(0, _)], []⟩ _)
  (have x0_ := @truthV_ok; have x1_ := @hb_75; (repeat' (first | with_reducible apply fol | with_reducible refine aRW ?_ | with_reducible refine aRR ?_ | with_reducible refine aRs ?_ | ((with_reducible first | apply RW_gdn | apply RR_gdn | apply RW_gd | apply RR_gd) <;> intro hg <;> first | (cases hg; done) | skip) | with_reducible refine aE1 ?_ | with_reducible refine aE2 ?_ | with_reducible refine aOn ?_ | ((with_reducible refine aCd ?_ ?_) <;> intro hv <;> first | (cases hv; done) | skip) | fail)); all_goals clear x0_ x1_)
  refine W_rounds (α := Nat × Val) (fun a => ⟨[(2, .box 0 0), (3, .box 1 0), (7, .t (.sl nl cl (l.map Val.c))), (8, .t (.int .i64 l.length)), (9, .t (.int .i64 a.1))], [.box (Zero.c.map .t), .box (a.2.c.map .t)]⟩)
    (fun a => l.length - a.1) (fun a => a.1 ≤ l.length ∧ VOK a.2) (0, TruthV true) (by kernel_rfl) ⟨Nat.zero_le _, truthV_p _⟩ ?_
  rintro ⟨i, out⟩ ⟨hi, ho⟩
  try dsimp only at hi ho
  by_cases hi' : i < l.length
  · have hw : IntKind.i64.wrap ((i : Int) + 1) = ((i + 1 : Nat) : Int) := by rw [wrap64] <;> omega
    have he : l[i]? = some l[i] := List.getElem?_eq_getElem hi'
    have hd : decide ((i : Int) < l.length) = true := by simpa using hi'
    have hok := hr l[i] (List.getElem_mem hi')
    generalize l[i] = v at he hok
    clear hr
    simp only [Zero]
    (have x0_ := @truthV_ok; have x1_ := @hb_75; have x2_ := @val_eql'; (repeat' (first | with_reducible apply fol | with_reducible refine aRW ?_ | with_reducible refine aRR ?_ | with_reducible refine aRs ?_ | ((with_reducible first | apply RW_gdn | apply RR_gdn | apply RW_gd | apply RR_gd) <;> intro hg <;> first | (cases hg; done) | skip) | with_reducible refine aE1 ?_ | with_reducible refine aE2 ?_ | with_reducible refine aOn ?_ | ((with_reducible refine aCd ?_ ?_) <;> intro hv <;> first | (cases hv; done) | skip) | fail)); all_goals clear x0_ x1_ x2_)
    all_goals first
      | (((with_reducible apply ends_ret); (focus (simp only [CC_P, results, resultsOf, resultOf, get, load, loadCells, nth, cut, mkAgg, trees, res_55, List.length_cons, List.length_nil, List.take, List.drop, Nat.zero_add, Nat.reduceAdd, Nat.reduceLeDiff, if_true, *]; exact rfl)); (focus (first | exact finish_tree' _ _ _ _ | exact finish_tup2 _ _ _ _ _ | exact finish_tup3 _ _ _ _ _ _))); exact ⟨⟨_, _, _⟩, ⟨rfl, rfl⟩, hok⟩)
      | (refine again_normal (i + 1, ⟨_, _, _⟩) (by first | omega | (dsimp only; omega)) ⟨by first | omega | (dsimp only; omega), ?_⟩ (by (simp only [loopKeep, firstRegion, keepsOf, tidy, canon, reach, refsL, refs, refsO, catMap, depth, renL, ren, renO, sub, sub1, upto, mem, place, fresh, cond_true, get, nth, List.map, List.zip_cons_cons, List.zip_nil_right, List.take, List.append_nil, List.nil_append, List.cons_append, beq_dec, decide_true, decide_false, Nat.reduceEqDiff, Val.c] <;> exact rfl)); first | exact ho | exact VOK_0)
  · have hd : decide ((i : Int) < l.length) = false := by simpa using hi'
    simp only [Zero]
    ((repeat' (first | with_reducible apply fol | with_reducible refine aRW ?_ | with_reducible refine aRR ?_ | with_reducible refine aRs ?_ | ((with_reducible first | apply RW_gdn | apply RR_gdn | apply RW_gd | apply RR_gd) <;> intro hg <;> first | (cases hg; done) | skip) | with_reducible refine aE1 ?_ | with_reducible refine aE2 ?_ | with_reducible refine aOn ?_ | ((with_reducible refine aCd ?_ ?_) <;> intro hv <;> first | (cases hv; done) | skip) | fail)))
    ((with_reducible apply ends_ret); (focus (simp only [CC_P, results, resultsOf, resultOf, get, load, loadCells, nth, cut, mkAgg, trees, res_55, List.length_cons, List.length_nil, List.take, List.drop, Nat.zero_add, Nat.reduceAdd, Nat.reduceLeDiff, if_true, *]; exact rfl)); (focus (first | exact finish_tree' _ _ _ _ | exact finish_tup2 _ _ _ _ _ | exact finish_tup3 _ _ _ _ _ _)))
    exact ⟨⟨_, _, _⟩, ⟨rfl, rfl⟩, ho⟩

theorem small45 (n : Nat) (h : n < 4294967296) : small Tryz.prog 45 n = true := by rw [small_45]; simp [h]

theorem any_run (l : List Val) (nl cl : Bool) (hl : l.length < 4294967295) (hr : ∀ v ∈ l, VOK v) : ∃ x : Val, Om CC 57 [.t (.sl nl cl (l.map Val.c))] [] = some (.val (.t (.agg [.int .u8 x.k, .int .i64 x.n, .str x.s])), []) ∧ VOK x := by
  refine call_ex (F := fun x : Val => .t (.agg [.int .u8 x.k, .int .i64 x.n, .str x.s])) fun_57 rfl ?_
  (have F_ : _ ∧ _ ∧ _ ∧ _ ∧ _ ∧ _ ∧ _ ∧ _ ∧ _ ∧ _ ∧ _ ∧ _ ∧ _ ∧ _ ∧ _ ∧ _ ∧ _ ∧ _ ∧ _ ∧ _ ∧ _ ∧ _ ∧ _ ∧ _ ∧ _ ∧ _ ∧ _ ∧ _ ∧ _ ∧ _ ∧ _ ∧ _ ∧ _ ∧ _ ∧ _ ∧ _ ∧ _ ∧ _ ∧ _ ∧ _ ∧ _ ∧ _ ∧ _ ∧ _ ∧ _ := ⟨und_2, size_2, agg_2, zero_2, zel_2, small_2, und_3, size_3, agg_3, zero_3, zel_3, small_3, und_5, size_5, agg_5, zero_5, zel_5, small_5, und_9, size_9, agg_9, zero_9, zel_9, small_9, noInt_9, und_28, size_28, agg_28, zero_28, zel_28, small_28, noInt_28, fa_45_0, fd_45_0, fa_45_1, fd_45_1, fa_45_2, fd_45_2, bld_45, size_45, agg_45, zero_45, zel_45, small_45, noInt_45⟩; show W CC 0 21 (keepsOf 57) _ ⟨[(0, _)], []⟩ _)
  ((repeat' (first | with_reducible apply fol | with_reducible refine aRW ?_ | with_reducible refine aRR ?_ | with_reducible refine aRs ?_ | ((with_reducible first | apply RW_gdn | apply RR_gdn | apply RW_gd | apply RR_gd) <;> intro hg <;> first | (cases hg; done) | skip) | with_reducible refine aE1 ?_ | with_reducible refine aE2 ?_ | with_reducible refine aOn ?_ | ((with_reducible refine aCd ?_ ?_) <;> intro hv <;> first | (cases hv; done) | skip) | fail)))
  refine W_rounds (α := Nat × Bool × List Val) (fun a => ⟨[(2, .box 0 0), (3, match a.2.1 with | true => .hs 1 0 | false => .t (.sl true true [])), (6, .t (.sl nl cl (l.map Val.c))), (7, .t (.int .i64 l.length)), (8, .t (.int .i64 a.1))],
      match a.2.1 with | true => [.box (Zero.c.map .t), .arr 3 0 false (a.2.2.map Val.c)] | false => [.box (Zero.c.map .t)]⟩)
    (fun a => l.length - a.1) (fun a => a.1 ≤ l.length ∧ a.2.2.length = a.1 ∧ (a.2.1 = false → a.2.2 = []) ∧ ∀ v ∈ a.2.2, VOK v) (0, false, []) (by kernel_rfl) ⟨Nat.zero_le _, rfl, fun _ => rfl, fun v hv => by cases hv⟩ ?_
  rintro ⟨i, st, out⟩ ⟨hi, ho, hn, hor⟩
  try dsimp only at hi ho hn hor
  have hle : lens 3 (out.map Val.c) = true := lens_map Val.c 3 (fun a => rfl) out
  by_cases hi' : i < l.length
  · have hw : IntKind.i64.wrap ((i : Int) + 1) = ((i + 1 : Nat) : Int) := by rw [wrap64] <;> omega
    have he : l[i]? = some l[i] := List.getElem?_eq_getElem hi'
    have hd : decide ((i : Int) < l.length) = true := by simpa using hi'
    have hsm : decide (i + 1 < 4294967296) = true := by simp; omega
    have hs1 : True := trivial
    generalize l[i] = v at he
    cases st with
    | true =>
      simp only [Zero]
      clear hr hn
      (have x0_ := @notV_ok; have x1_ := @hb_76; (repeat' (first | with_reducible apply fol | with_reducible refine aRW ?_ | with_reducible refine aRR ?_ | with_reducible refine aRs ?_ | ((with_reducible first | apply RW_gdn | apply RR_gdn | apply RW_gd | apply RR_gd) <;> intro hg <;> first | (cases hg; done) | skip) | with_reducible refine aE1 ?_ | with_reducible refine aE2 ?_ | with_reducible refine aOn ?_ | ((with_reducible refine aCd ?_ ?_) <;> intro hv <;> first | (cases hv; done) | skip) | fail)); all_goals clear x0_ x1_)
      refine again_normal (i + 1, true, out ++ [NotV v]) (by first | omega | (dsimp only; omega)) ⟨by first | omega | (dsimp only; omega), by simp [ho], fun h => (by cases h), fun x hx => ?_⟩ (by (simp only [loopKeep, firstRegion, keepsOf, tidy, canon, reach, refsL, refs, refsO, catMap, depth, renL, ren, renO, sub, sub1, upto, mem, place, fresh, cond_true, get, nth, List.map, List.zip_cons_cons, List.zip_nil_right, List.take, List.append_nil, List.nil_append, List.cons_append, Bool.and_true, beq_dec, decide_true, decide_false, Nat.reduceEqDiff, Val.c, List.map_append] <;> exact rfl))
      rcases List.mem_append.1 hx with h | h
      · exact hor x h
      · rw [List.mem_singleton.1 h]; exact notV_p _
    | false =>
      have h0 := hn rfl
      subst h0
      simp only [Zero]
      clear hr hor hn
      (have x0_ := @notV_ok; have x1_ := @hb_76; (repeat' (first | with_reducible apply fol | with_reducible refine aRW ?_ | with_reducible refine aRR ?_ | with_reducible refine aRs ?_ | ((with_reducible first | apply RW_gdn | apply RR_gdn | apply RW_gd | apply RR_gd) <;> intro hg <;> first | (cases hg; done) | skip) | with_reducible refine aE1 ?_ | with_reducible refine aE2 ?_ | with_reducible refine aOn ?_ | ((with_reducible refine aCd ?_ ?_) <;> intro hv <;> first | (cases hv; done) | skip) | fail)); all_goals clear x0_ x1_)
      refine again_normal (i + 1, true, [NotV v]) (by first | omega | (dsimp only; omega)) ⟨by first | omega | (dsimp only; omega), ?_, fun h => (by cases h), fun x hx => ?_⟩ (by (simp only [loopKeep, firstRegion, keepsOf, tidy, canon, reach, refsL, refs, refsO, catMap, depth, renL, ren, renO, sub, sub1, upto, mem, place, fresh, cond_true, get, nth, List.map, List.zip_cons_cons, List.zip_nil_right, List.take, List.append_nil, List.nil_append, List.cons_append, Bool.and_true, beq_dec, decide_true, decide_false, Nat.reduceEqDiff, Val.c] <;> exact rfl))
      · simp at ho ⊢; omega
      · rw [List.mem_singleton.1 hx]; exact notV_p _
  · have hd : decide ((i : Int) < l.length) = false := by simpa using hi'
    cases st with
    | true =>
      obtain ⟨x, hx, hxo⟩ := all_run out false false (by omega) hor
      simp only [Zero]
      clear hr hor
      (have x0_ := @hb_55; have x1_ := @notV_ok; have x2_ := @hb_76; (repeat' (first | with_reducible apply fol | with_reducible refine aRW ?_ | with_reducible refine aRR ?_ | with_reducible refine aRs ?_ | ((with_reducible first | apply RW_gdn | apply RR_gdn | apply RW_gd | apply RR_gd) <;> intro hg <;> first | (cases hg; done) | skip) | with_reducible refine aE1 ?_ | with_reducible refine aE2 ?_ | with_reducible refine aOn ?_ | ((with_reducible refine aCd ?_ ?_) <;> intro hv <;> first | (cases hv; done) | skip) | fail)); all_goals clear x0_ x1_ x2_)
      ((with_reducible apply ends_ret); (focus (simp only [CC_P, results, resultsOf, resultOf, get, load, loadCells, nth, cut, mkAgg, trees, res_57, List.length_cons, List.length_nil, List.take, List.drop, Nat.zero_add, Nat.reduceAdd, Nat.reduceLeDiff, if_true, *]; exact rfl)); (focus (first | exact finish_tree' _ _ _ _ | exact finish_tup2 _ _ _ _ _ | exact finish_tup3 _ _ _ _ _ _)))
      exact ⟨⟨_, _, _⟩, ⟨rfl, rfl⟩, notV_p _⟩
    | false =>
      obtain ⟨x, hx, hxo⟩ := all_run [] true true (by simp) (fun v hv => by cases hv)
      simp only [List.map_nil] at hx
      simp only [Zero]
      clear hr hor
      (have x0_ := @hb_55; have x1_ := @notV_ok; have x2_ := @hb_76; (repeat' (first | with_reducible apply fol | with_reducible refine aRW ?_ | with_reducible refine aRR ?_ | with_reducible refine aRs ?_ | ((with_reducible first | apply RW_gdn | apply RR_gdn | apply RW_gd | apply RR_gd) <;> intro hg <;> first | (cases hg; done) | skip) | with_reducible refine aE1 ?_ | with_reducible refine aE2 ?_ | with_reducible refine aOn ?_ | ((with_reducible refine aCd ?_ ?_) <;> intro hv <;> first | (cases hv; done) | skip) | fail)); all_goals clear x0_ x1_ x2_)
      ((with_reducible apply ends_ret); (focus (simp only [CC_P, results, resultsOf, resultOf, get, load, loadCells, nth, cut, mkAgg, trees, res_57, List.length_cons, List.length_nil, List.take, List.drop, Nat.zero_add, Nat.reduceAdd, Nat.reduceLeDiff, if_true, *]; exact rfl)); (focus (first | exact finish_tree' _ _ _ _ | exact finish_tup2 _ _ _ _ _ | exact finish_tup3 _ _ _ _ _ _)))
      exact ⟨⟨_, _, _⟩, ⟨rfl, rfl⟩, notV_p _⟩

end Go.Ab
/- Layer 2 (value): sums. -/
namespace Go.Ab
open Go.Proofs
set_option maxRecDepth 100000
set_option maxHeartbeats 4000000
set_option linter.unusedSimpArgs false
set_option linter.unusedVariables false

theorem decV_run (v : Val) : ∃ x : Val × Int, Om CC 195 [.t (.agg [.int .u8 v.k, .int .i64 v.n, .str v.s])] [] = some (.val (.tup [.t (.agg [.int .u8 x.1.k, .int .i64 x.1.n, .str x.1.s]), .t (.int .i64 x.2)]), []) ∧ (R64 v.n → R64 x.1.n) := by
  refine call_ex (F := fun x : Val × Int => .tup [.t (.agg [.int .u8 x.1.k, .int .i64 x.1.n, .str x.1.s]), .t (.int .i64 x.2)]) fun_195 rfl ?_
  (have F_ : _ ∧ _ ∧ _ ∧ _ ∧ _ ∧ _ ∧ _ ∧ _ ∧ _ ∧ _ ∧ _ ∧ _ ∧ _ ∧ _ ∧ _ ∧ _ ∧ _ ∧ _ ∧ _ ∧ _ ∧ _ ∧ _ ∧ _ ∧ _ ∧ _ ∧ _ ∧ _ ∧ _ ∧ _ ∧ _ ∧ _ ∧ _ ∧ _ ∧ _ ∧ _ ∧ _ ∧ _ ∧ _ := ⟨und_2, size_2, agg_2, zero_2, zel_2, small_2, und_5, size_5, agg_5, zero_5, zel_5, small_5, und_9, size_9, agg_9, zero_9, zel_9, small_9, noInt_9, fa_45_0, fd_45_0, fa_45_1, fd_45_1, fa_45_2, fd_45_2, bld_45, size_45, agg_45, zero_45, zel_45, small_45, noInt_45, und_80, size_80, agg_80, zero_80, zel_80, small_80⟩; show W CC 0 22 (keepsOf 195) _ ⟨[(0, _)], []⟩ _)
  (have x0_ := @nScale_ok; have x1_ := @hb_206; (repeat' (first | with_reducible apply fol | with_reducible refine aRW ?_ | with_reducible refine aRR ?_ | with_reducible refine aRs ?_ | ((with_reducible first | apply RW_gdn | apply RR_gdn | apply RW_gd | apply RR_gd) <;> intro hg <;> first | (cases hg; done) | skip) | with_reducible refine aE1 ?_ | with_reducible refine aE2 ?_ | with_reducible refine aOn ?_ | ((with_reducible refine aCd ?_ ?_) <;> intro hv <;> first | (cases hv; done) | skip) | fail)); all_goals clear x0_ x1_)
  all_goals (((with_reducible apply ends_ret); (focus (simp only [CC_P, results, resultsOf, resultOf, get, load, loadCells, nth, cut, mkAgg, trees, res_195, List.length_cons, List.length_nil, List.take, List.drop, Nat.zero_add, Nat.reduceAdd, Nat.reduceLeDiff, if_true, *]; exact rfl)); (focus (first | exact finish_tree' _ _ _ _ | exact finish_tup2 _ _ _ _ _ | exact finish_tup3 _ _ _ _ _ _))))
  all_goals exact ⟨(⟨_, _, _⟩, _), ⟨rfl, rfl⟩, by first | exact fun _ => R64_0 | exact fun h => h | exact fun _ => nScale_r _⟩
noncomputable def DecV (v : Val) : Val × Int := (decV_run v).choose
theorem decV_ok (v : Val) : Om CC 195 [.t (.agg [.int .u8 v.k, .int .i64 v.n, .str v.s])] [] = some (.val (.tup [.t (.agg [.int .u8 (DecV v).1.k, .int .i64 (DecV v).1.n, .str (DecV v).1.s]), .t (.int .i64 (DecV v).2)]), []) := (decV_run v).choose_spec.1
theorem decV_p (v : Val) : R64 v.n → R64 (DecV v).1.n := (decV_run v).choose_spec.2

theorem alike_run (l : List Val) (nl cl : Bool) (hl : l.length < 4294967295) (hr : ∀ v ∈ l, R64 v.n) : ∃ x : Bool × Bool × List Val × Bool × Int, Om CC 173 [.t (.sl nl cl (l.map Val.c))] [] =
      some (.val (.tup [.t (.sl x.1 x.2.1 (x.2.2.1.map Val.c)), .t (.bool x.2.2.2.1), .t (.int .i64 x.2.2.2.2)]), []) ∧
      (x.2.2.2.1 = false → x.2.2.2.2 = 0 → x.2.2.1.length = l.length) ∧ ∀ v ∈ x.2.2.1, VOK v := by
  refine call_ex (F := fun x : Bool × Bool × List Val × Bool × Int => .tup [.t (.sl x.1 x.2.1 (x.2.2.1.map Val.c)), .t (.bool x.2.2.2.1), .t (.int .i64 x.2.2.2.2)]) fun_173 rfl ?_
  (have F_ : _ ∧ _ ∧ _ ∧ _ ∧ _ ∧ _ ∧ _ ∧ _ ∧ _ ∧ _ ∧ _ ∧ _ ∧ _ ∧ _ ∧ _ ∧ _ ∧ _ ∧ _ ∧ _ ∧ _ ∧ _ ∧ _ ∧ _ ∧ _ ∧ _ ∧ _ ∧ _ ∧ _ ∧ _ ∧ _ ∧ _ ∧ _ ∧ _ ∧ _ ∧ _ ∧ _ ∧ _ ∧ _ ∧ _ ∧ _ ∧ _ ∧ _ ∧ _ ∧ _ ∧ _ ∧ _ ∧ _ ∧ _ ∧ _ ∧ _ ∧ _ ∧ _ ∧ _ ∧ _ ∧ _ ∧ _ ∧ _ ∧ _ := ⟨und_2, size_2, agg_2, zero_2, zel_2, small_2, und_3, size_3, agg_3, zero_3, zel_3, small_3, und_4, size_4, agg_4, zero_4, zel_4, small_4, noInt_4, und_5, size_5, agg_5, zero_5, zel_5, small_5, und_9, size_9, agg_9, zero_9, zel_9, small_9, noInt_9, und_28, size_28, agg_28, zero_28, zel_28, small_28, noInt_28, fa_45_0, fd_45_0, fa_45_1, fd_45_1, fa_45_2, fd_45_2, bld_45, size_45, agg_45, zero_45, zel_45, small_45, noInt_45, und_80, size_80, agg_80, zero_80, zel_80, small_80⟩; show W CC 0 61 (keepsOf 173) _ ⟨[(0, _)], []⟩ _)
  ((repeat' (first | with_reducible apply fol | with_reducible refine aRW ?_ | with_reducible refine aRR ?_ | with_reducible refine aRs ?_ | ((with_reducible first | apply RW_gdn | apply RR_gdn | apply RW_gd | apply RR_gd) <;> intro hg <;> first | (cases hg; done) | skip) | with_reducible refine aE1 ?_ | with_reducible refine aE2 ?_ | with_reducible refine aOn ?_ | ((with_reducible refine aCd ?_ ?_) <;> intro hv <;> first | (cases hv; done) | skip) | fail)))
  refine W.mono (Q := fun e st => (e = .exit 0 ∧ ∃ (b : Bool) (k : Int), get st.T 0 = .t (.sl nl cl (l.map Val.c)) ∧ get st.T 2 = .t (.sl true true []) ∧ get st.T 3 = .t (.bool b) ∧ get st.T 5 = .t (.int .u8 k) ∧ st.h = []) ∨
      (e = .ret ∧ get st.T 2 = .t (.sl true true []) ∧ get st.T 3 = .t (.bool false) ∧ get st.T 4 = .t (.int .i64 8))) ?_ ?_
  · refine W_rounds (α := Nat × Bool × Int) (fun a => ⟨[(0, .t (.sl nl cl (l.map Val.c))), (2, .t (.sl true true [])), (3, .t (.bool a.2.1)), (5, .t (.int .u8 a.2.2)), (10, .t (.sl nl cl (l.map Val.c))), (11, .t (.int .i64 l.length)), (12, .t (.int .i64 a.1))], []⟩)
      (fun a => l.length - a.1) (fun a => a.1 ≤ l.length) (0, false, 1) (by kernel_rfl) (Nat.zero_le _) ?_
    rintro ⟨i, b, k⟩ hi
    try dsimp only at hi
    by_cases hi' : i < l.length
    · have hw : IntKind.i64.wrap ((i : Int) + 1) = ((i + 1 : Nat) : Int) := by rw [wrap64] <;> omega
      have he : l[i]? = some l[i] := List.getElem?_eq_getElem hi'
      have hd : decide ((i : Int) < l.length) = true := by simpa using hi'
      have hok := hr l[i] (List.getElem_mem hi')
      generalize l[i] = v at he hok
      clear hr
      (have x0_ := @isNum_ok; have x1_ := @hb_167; (repeat' (first | with_reducible apply fol | with_reducible refine aRW ?_ | with_reducible refine aRR ?_ | with_reducible refine aRs ?_ | ((with_reducible first | apply RW_gdn | apply RR_gdn | apply RW_gd | apply RR_gd) <;> intro hg <;> first | (cases hg; done) | skip) | with_reducible refine aE1 ?_ | with_reducible refine aE2 ?_ | with_reducible refine aOn ?_ | ((with_reducible refine aCd ?_ ?_) <;> intro hv <;> first | (cases hv; done) | skip) | fail)); all_goals clear x0_ x1_)
      all_goals first
        | exact .inr ⟨rfl, rfl, rfl, rfl⟩
        | (refine again_normal (i + 1, _, _) (by first | omega | (dsimp only; omega)) (by first | omega | (dsimp only; omega)) (by (simp only [loopKeep, firstRegion, keepsOf, tidy, canon, reach, refsL, refs, catMap, depth, renL, ren, sub, sub1, upto, mem, place, fresh, get, List.map, List.zip_cons_cons, List.zip_nil_right, List.take, List.append_nil, beq_dec] <;> exact rfl)))
    · have hd : decide ((i : Int) < l.length) = false := by simpa using hi'
      ((repeat' (first | with_reducible apply fol | with_reducible refine aRW ?_ | with_reducible refine aRR ?_ | with_reducible refine aRs ?_ | ((with_reducible first | apply RW_gdn | apply RR_gdn | apply RW_gd | apply RR_gd) <;> intro hg <;> first | (cases hg; done) | skip) | with_reducible refine aE1 ?_ | with_reducible refine aE2 ?_ | with_reducible refine aOn ?_ | ((with_reducible refine aCd ?_ ?_) <;> intro hv <;> first | (cases hv; done) | skip) | fail)))
      exact .inl ⟨rfl, _, _, rfl, rfl, rfl, rfl, rfl⟩
  rintro e ⟨T, h⟩ hq
  rcases hq with ⟨rfl, b, k, g0, g2, g3, g5, gh⟩ | ⟨rfl, g2, g3, g4⟩
  · dsimp only at g0 g2 g3 g5 gh
    subst gh
    ((repeat' (first | with_reducible apply fol | with_reducible refine aRW ?_ | with_reducible refine aRR ?_ | with_reducible refine aRs ?_ | ((with_reducible first | apply RW_gdn | apply RR_gdn | apply RW_gd | apply RR_gd) <;> intro hg <;> first | (cases hg; done) | skip) | with_reducible refine aE1 ?_ | with_reducible refine aE2 ?_ | with_reducible refine aOn ?_ | ((with_reducible refine aCd ?_ ?_) <;> intro hv <;> first | (cases hv; done) | skip) | fail)))
    · ((with_reducible apply ends_ret); (focus (simp only [CC_P, results, resultsOf, resultOf, get, res_173, *]; exact rfl)); (focus (simp only [finish, thaw_173, exports, viewedO, viewed, view, freeze, patch, catMap, canon, reach, refsL, refs, depth, renL, ren, sub, sub1, upto, nth, List.map, List.take, List.length_nil, List.append_nil] <;> exact rfl)))
      exact ⟨(_, _, [], _, _), ⟨rfl, rfl⟩, fun h => (by cases h), fun v hv => (by cases hv)⟩
    refine W_rounds (α := Nat × Bool × List Val) (fun a => ⟨[(2, match a.2.1 with | true => .hs 0 0 | false => .t (.sl true true [])), (5, .t (.int .u8 k)), (36, .t (.sl nl cl (l.map Val.c))), (37, .t (.int .i64 l.length)), (38, .t (.int .i64 a.1))],
        match a.2.1 with | true => [.arr 3 0 false (a.2.2.map Val.c)] | false => []⟩)
      (fun a => l.length - a.1) (fun a => a.1 ≤ l.length ∧ a.2.2.length = a.1 ∧ (a.2.1 = false → a.2.2 = []) ∧ ∀ v ∈ a.2.2, VOK v) (0, false, []) (by (simp only [loopKeep, firstRegion, keepsOf, tidy, canon, reach, refsL, refs, catMap, depth, renL, ren, sub, sub1, upto, mem, place, fresh, get, nth, List.map, List.zip_cons_cons, List.zip_nil_right, List.take, List.append_nil, g2, g5] <;> exact rfl)) ⟨Nat.zero_le _, rfl, fun _ => rfl, fun v hv => (by cases hv)⟩ ?_
    clear g0 g2 g3 g5
    rintro ⟨i, st, out⟩ ⟨hi, ho, hn, hor⟩
    try dsimp only at hi ho hn hor
    have hle : lens 3 (out.map Val.c) = true := lens_map Val.c 3 (fun a => rfl) out
    by_cases hi' : i < l.length
    · have hw : IntKind.i64.wrap ((i : Int) + 1) = ((i + 1 : Nat) : Int) := by rw [wrap64] <;> omega
      have he : l[i]? = some l[i] := List.getElem?_eq_getElem hi'
      have hd : decide ((i : Int) < l.length) = true := by simpa using hi'
      have hsm : decide (i + 1 < 4294967296) = true := by simp; omega
      have hok := hr l[i] (List.getElem_mem hi')
      generalize l[i] = v at he hok
      have hdk := decV_p v hok
      cases st with
      | true =>
        clear hr hn
        (have x0_ := @decV_ok; have x1_ := @hb_195; (repeat' (first | with_reducible apply fol | with_reducible refine aRW ?_ | with_reducible refine aRR ?_ | with_reducible refine aRs ?_ | ((with_reducible first | apply RW_gdn | apply RR_gdn | apply RW_gd | apply RR_gd) <;> intro hg <;> first | (cases hg; done) | skip) | with_reducible refine aE1 ?_ | with_reducible refine aE2 ?_ | with_reducible refine aOn ?_ | ((with_reducible refine aCd ?_ ?_) <;> intro hv <;> first | (cases hv; done) | skip) | fail)); all_goals clear x0_ x1_)
        all_goals first
          | (((with_reducible apply ends_ret); (focus (simp only [CC_P, results, resultsOf, resultOf, get, res_173, *]; exact rfl)); (focus (simp only [finish, thaw_173, exports, viewedO, viewed, view, freeze, patch, catMap, canon, reach, refsL, refs, depth, renL, ren, sub, sub1, upto, List.map, List.take, List.length_nil, List.append_nil] <;> exact rfl))); exact ⟨(_, _, [], _, _), ⟨rfl, rfl⟩, fun _ h0 => (by rw [h0] at hv; cases hv), fun v hv => (by cases hv)⟩)
          | (refine again_normal (i + 1, true, out ++ [⟨_, _, _⟩]) (by first | omega | (dsimp only; omega)) ⟨by first | omega | (dsimp only; omega), by simp [ho], fun h => (by cases h), fun x hx => ?_⟩ (by (simp only [loopKeep, firstRegion, keepsOf, tidy, canon, reach, refsL, refs, refsO, catMap, depth, renL, ren, renO, sub, sub1, upto, mem, place, fresh, cond_true, get, nth, List.map, List.zip_cons_cons, List.zip_nil_right, List.take, List.append_nil, List.nil_append, Bool.and_true, beq_dec, decide_true, Val.c, List.map_append] <;> exact rfl))
             rcases List.mem_append.1 hx with h | h
             · exact hor x h
             · rw [List.mem_singleton.1 h]; first | exact VOK_lit _ hdk | exact VOK_lit _ hok)
      | false =>
        have h0 := hn rfl
        subst h0
        clear hr hor hn
        simp at ho
        subst ho
        (have x0_ := @decV_ok; have x1_ := @hb_195; (repeat' (first | with_reducible apply fol | with_reducible refine aRW ?_ | with_reducible refine aRR ?_ | with_reducible refine aRs ?_ | ((with_reducible first | apply RW_gdn | apply RR_gdn | apply RW_gd | apply RR_gd) <;> intro hg <;> first | (cases hg; done) | skip) | with_reducible refine aE1 ?_ | with_reducible refine aE2 ?_ | with_reducible refine aOn ?_ | ((with_reducible refine aCd ?_ ?_) <;> intro hv <;> first | (cases hv; done) | skip) | fail)); all_goals clear x0_ x1_)
        all_goals first
          | (((with_reducible apply ends_ret); (focus (simp only [CC_P, results, resultsOf, resultOf, get, res_173, *]; exact rfl)); (focus (simp only [finish, thaw_173, exports, viewedO, viewed, view, freeze, patch, catMap, canon, reach, refsL, refs, depth, renL, ren, sub, sub1, upto, List.map, List.take, List.length_nil, List.append_nil] <;> exact rfl))); exact ⟨(_, _, [], _, _), ⟨rfl, rfl⟩, fun _ h0 => (by rw [h0] at hv; cases hv), fun v hv => (by cases hv)⟩)
          | (refine again_normal (1, true, [⟨_, _, _⟩]) (by first | omega | (dsimp only; omega)) ⟨by first | omega | (dsimp only; omega), by simp, fun h => (by cases h), fun x hx => ?_⟩ (by (simp only [loopKeep, firstRegion, keepsOf, tidy, canon, reach, refsL, refs, refsO, catMap, depth, renL, ren, renO, sub, sub1, upto, mem, place, fresh, cond_true, get, nth, List.map, List.zip_cons_cons, List.zip_nil_right, List.take, List.append_nil, List.nil_append, Bool.and_true, beq_dec, decide_true, Val.c] <;> exact rfl))
             rw [List.mem_singleton.1 hx]; first | exact VOK_lit _ hdk | exact VOK_lit _ hok)
    · have hd : decide ((i : Int) < l.length) = false := by simpa using hi'
      cases st with
      | true =>
        ((repeat' (first | with_reducible apply fol | with_reducible refine aRW ?_ | with_reducible refine aRR ?_ | with_reducible refine aRs ?_ | ((with_reducible first | apply RW_gdn | apply RR_gdn | apply RW_gd | apply RR_gd) <;> intro hg <;> first | (cases hg; done) | skip) | with_reducible refine aE1 ?_ | with_reducible refine aE2 ?_ | with_reducible refine aOn ?_ | ((with_reducible refine aCd ?_ ?_) <;> intro hv <;> first | (cases hv; done) | skip) | fail)))
        ((with_reducible apply ends_ret); (focus (simp only [CC_P, results, resultsOf, resultOf, get, res_173, *]; exact rfl)); (focus (simp only [finish, thaw_173, exports, viewedO, viewed, view, elems, freeze, patch, catMap, canon, reach, refsL, refs, depth, renL, ren, sub, sub1, upto, nth, List.map, List.take, List.length_nil, List.append_nil, if_true] <;> exact rfl)))
        exact ⟨(_, _, out, _, _), ⟨rfl, rfl⟩, fun _ _ => (by dsimp only; omega), hor⟩
      | false =>
        have h0 := hn rfl
        subst h0
        simp at ho
        ((repeat' (first | with_reducible apply fol | with_reducible refine aRW ?_ | with_reducible refine aRR ?_ | with_reducible refine aRs ?_ | ((with_reducible first | apply RW_gdn | apply RR_gdn | apply RW_gd | apply RR_gd) <;> intro hg <;> first | (cases hg; done) | skip) | with_reducible refine aE1 ?_ | with_reducible refine aE2 ?_ | with_reducible refine aOn ?_ | ((with_reducible refine aCd ?_ ?_) <;> intro hv <;> first | (cases hv; done) | skip) | fail)))
        ((with_reducible apply ends_ret); (focus (simp only [CC_P, results, resultsOf, resultOf, get, res_173, *]; exact rfl)); (focus (simp only [finish, thaw_173, exports, viewedO, viewed, view, freeze, patch, catMap, canon, reach, refsL, refs, depth, renL, ren, sub, sub1, upto, nth, List.map, List.take, List.length_nil, List.append_nil] <;> exact rfl)))
        exact ⟨(_, _, [], _, _), ⟨rfl, rfl⟩, fun _ _ => (by simp; omega), fun v hv => (by cases hv)⟩
  · dsimp only at g2 g3 g4
    ((repeat' (first | with_reducible apply fol | with_reducible refine aRW ?_ | with_reducible refine aRR ?_ | with_reducible refine aRs ?_ | ((with_reducible first | apply RW_gdn | apply RR_gdn | apply RW_gd | apply RR_gd) <;> intro hg <;> first | (cases hg; done) | skip) | with_reducible refine aE1 ?_ | with_reducible refine aE2 ?_ | with_reducible refine aOn ?_ | ((with_reducible refine aCd ?_ ?_) <;> intro hv <;> first | (cases hv; done) | skip) | fail)))
    ((with_reducible apply ends_ret); (focus (simp only [CC_P, results, resultsOf, resultOf, res_173, *]; exact rfl)); (focus (simp only [finish, thaw_173, exports, viewedO, viewed, view, freeze, patch, catMap, canon, reach, refsL, refs, depth, renL, ren, sub, sub1, upto, List.map, List.take, List.length_nil, List.append_nil] <;> exact rfl)))
    exact ⟨(_, _, [], _, _), ⟨rfl, rfl⟩, fun _ h0 => (by cases h0), fun v hv => (by cases hv)⟩

theorem doS_run (n e : Int) (nl cl : Bool) (v : Val) (l : List Val) (hn : R64 n) : ∃ x : Val × Int, Om CC 174 [.t (.int .i64 n), .t (.int .i64 e), .box 0 0] [.box [.t (.sl nl cl ([.int .u8 v.k, .int .i64 v.n, .str v.s] :: l.map Val.c))]] =
    some (.val (.tup [.t (.agg [.int .u8 x.1.k, .int .i64 x.1.n, .str x.1.s]), .t (.int .i64 x.2)]), [.box [.t (.sl nl cl ([.int .u8 v.k, .int .i64 v.n, .str v.s] :: l.map Val.c))]]) ∧ VOK x.1 := by
  refine call_exh (F := fun x : Val × Int => .tup [.t (.agg [.int .u8 x.1.k, .int .i64 x.1.n, .str x.1.s]), .t (.int .i64 x.2)]) fun_174 rfl ?_
  (have F_ : _ ∧ _ ∧ _ ∧ _ ∧ _ ∧ _ ∧ _ ∧ _ ∧ _ ∧ _ ∧ _ ∧ _ ∧ _ ∧ _ ∧ _ ∧ _ ∧ _ ∧ _ ∧ _ ∧ _ ∧ _ ∧ _ ∧ _ ∧ _ ∧ _ ∧ _ ∧ _ ∧ _ ∧ _ ∧ _ ∧ _ ∧ _ ∧ _ ∧ _ ∧ _ ∧ _ ∧ _ ∧ _ ∧ _ ∧ _ ∧ _ ∧ _ ∧ _ ∧ _ ∧ _ := ⟨und_2, size_2, agg_2, zero_2, zel_2, small_2, und_5, size_5, agg_5, zero_5, zel_5, small_5, und_9, size_9, agg_9, zero_9, zel_9, small_9, noInt_9, und_28, size_28, agg_28, zero_28, zel_28, small_28, noInt_28, fa_45_0, fd_45_0, fa_45_1, fd_45_1, fa_45_2, fd_45_2, bld_45, size_45, agg_45, zero_45, zel_45, small_45, noInt_45, und_80, size_80, agg_80, zero_80, zel_80, small_80⟩; show W CC 1 17 (keepsOf 174) _ ⟨[(0, _), (1, _), (2, _)], [_]⟩ _)
  (have x0_ := @idx_zero; (repeat' (first | with_reducible apply fol | with_reducible refine aRW ?_ | with_reducible refine aRR ?_ | with_reducible refine aRs ?_ | ((with_reducible first | apply RW_gdn | apply RR_gdn | apply RW_gd | apply RR_gd) <;> intro hg <;> first | (cases hg; done) | skip) | with_reducible refine aE1 ?_ | with_reducible refine aE2 ?_ | with_reducible refine aOn ?_ | ((with_reducible refine aCd ?_ ?_) <;> intro hv <;> first | (cases hv; done) | skip) | fail)); all_goals clear x0_)
  all_goals (((with_reducible apply ends_ret); (focus (simp only [CC_P, results, resultsOf, resultOf, get, load, loadCells, nth, cut, mkAgg, trees, res_174, List.length_cons, List.length_nil, List.take, List.drop, Nat.zero_add, Nat.reduceAdd, Nat.reduceLeDiff, if_true, *]; exact rfl)); (focus (simp only [finish, thaw_174, exports, viewedO, viewed, view, freeze, patch, catMap, canon, reach, refsL, refs, refsO, depth, renL, ren, renO, sub, sub1, upto, nth, List.map, List.take, List.length_cons, List.length_nil, List.append_nil, Nat.zero_add] <;> exact rfl))))
  all_goals first | exact ⟨(⟨0, 0, []⟩, _), ⟨rfl, rfl⟩, VOK_0⟩ | exact ⟨(⟨v.k, n, []⟩, 0), ⟨rfl, rfl⟩, VOK_lit _ hn⟩
open Classical in
noncomputable def DoS (n e : Int) (nl cl : Bool) (v : Val) (l : List Val) : Val × Int := if hn : R64 n then (doS_run n e nl cl v l hn).choose else (Zero, 0)
theorem doS_ok (n e : Int) (nl cl : Bool) (k m : Int) (s : List Nat) (l : List Val) (hn : R64 n) : Om CC 174 [.t (.int .i64 n), .t (.int .i64 e), .box 0 0] [.box [.t (.sl nl cl ([.int .u8 k, .int .i64 m, .str s] :: l.map Val.c))]] =
    some (.val (.tup [.t (.agg [.int .u8 (DoS n e nl cl ⟨k, m, s⟩ l).1.k, .int .i64 (DoS n e nl cl ⟨k, m, s⟩ l).1.n, .str (DoS n e nl cl ⟨k, m, s⟩ l).1.s]), .t (.int .i64 (DoS n e nl cl ⟨k, m, s⟩ l).2)]), [.box [.t (.sl nl cl ([.int .u8 k, .int .i64 m, .str s] :: l.map Val.c))]]) := by
  unfold DoS; rw [dif_pos hn]; exact (doS_run n e nl cl ⟨k, m, s⟩ l hn).choose_spec.1
theorem doS_p (n e : Int) (nl cl : Bool) (v : Val) (l : List Val) : VOK (DoS n e nl cl v l).1 := by
  unfold DoS; split
  · rename_i h; exact (doS_run n e nl cl v l h).choose_spec.2
  · exact VOK_0

theorem idx_one {α : Type} (a b : α) (l : List α) : idx (a :: b :: l) 1 = some b := rfl

theorem do_run (f g : Nat) (hbf : hasBody Tryz.prog f = true) (hbfp : f ≠ 101) (hbg : hasBody Tryz.prog g = true) (hbgp : g ≠ 101) (F G : Int → Int → Int × Int)
    (hf : ∀ x y, R64 x → R64 y → Om CC f [.t (.int .i64 x), .t (.int .i64 y)] [] = some (.val (.tup [.t (.int .i64 (F x y).1), .t (.int .i64 (F x y).2)]), []))
    (hg : ∀ x y, R64 x → R64 y → Om CC g [.t (.int .i64 x), .t (.int .i64 y)] [] = some (.val (.tup [.t (.int .i64 (G x y).1), .t (.int .i64 (G x y).2)]), []))
    (hfr : ∀ x y, R64 (F x y).1) (hgr : ∀ x y, R64 (G x y).1) (a b : Val) (ha : R64 a.n) (hb : R64 b.n) :
    ∃ x : Val × Int, Om CC 143 [.t (.agg [.int .u8 a.k, .int .i64 a.n, .str a.s]), .t (.agg [.int .u8 b.k, .int .i64 b.n, .str b.s]), .t (.fn f), .t (.fn g)] [] =
      some (.val (.tup [.t (.agg [.int .u8 x.1.k, .int .i64 x.1.n, .str x.1.s]), .t (.int .i64 x.2)]), []) ∧ VOK x.1 := by
  refine call_ex (F := fun x : Val × Int => .tup [.t (.agg [.int .u8 x.1.k, .int .i64 x.1.n, .str x.1.s]), .t (.int .i64 x.2)]) fun_143 rfl ?_
  (have F_ : _ ∧ _ ∧ _ ∧ _ ∧ _ ∧ _ ∧ _ ∧ _ ∧ _ ∧ _ ∧ _ ∧ _ ∧ _ ∧ _ ∧ _ ∧ _ ∧ _ ∧ _ ∧ _ ∧ _ ∧ _ ∧ _ ∧ _ ∧ _ ∧ _ ∧ _ ∧ _ ∧ _ ∧ _ ∧ _ ∧ _ ∧ _ ∧ _ ∧ _ ∧ _ ∧ _ ∧ _ ∧ _ ∧ _ ∧ _ ∧ _ ∧ _ ∧ _ ∧ _ ∧ _ ∧ _ ∧ _ ∧ _ ∧ _ ∧ _ ∧ _ := ⟨und_2, size_2, agg_2, zero_2, zel_2, small_2, und_5, size_5, agg_5, zero_5, zel_5, small_5, und_9, size_9, agg_9, zero_9, zel_9, small_9, noInt_9, und_28, size_28, agg_28, zero_28, zel_28, small_28, noInt_28, fa_45_0, fd_45_0, fa_45_1, fd_45_1, fa_45_2, fd_45_2, bld_45, size_45, agg_45, zero_45, zel_45, small_45, noInt_45, und_80, size_80, agg_80, zero_80, zel_80, small_80, size_231, agg_231, zero_231, zel_231, small_231, noInt_231⟩; show W CC 0 54 (keepsOf 143) _ ⟨[(0, _), (1, _), (2, _), (3, _)], []⟩ _)
  obtain ⟨⟨anl, acl, out, null, e⟩, hal, hlen, hok⟩ := alike_run [a, b] false false (by simp) (fun v hv => by
    rcases List.mem_cons.1 hv with rfl | hv
    · exact ha
    · rw [List.mem_singleton.1 hv]; exact hb)
  dsimp only at hal hlen hok
  simp only [List.map_cons, List.map_nil, Val.c] at hal
  clear ha hb
  cases null with
  | true =>
    clear hf hg hfr hgr hlen hok
    (have x0_ := @hb_173; (repeat' (first | with_reducible apply fol | with_reducible refine aRW ?_ | with_reducible refine aRR ?_ | with_reducible refine aRs ?_ | ((with_reducible first | apply RW_gdn | apply RR_gdn | apply RW_gd | apply RR_gd) <;> intro hg <;> first | (cases hg; done) | skip) | with_reducible refine aE1 ?_ | with_reducible refine aE2 ?_ | with_reducible refine aOn ?_ | ((with_reducible refine aCd ?_ ?_) <;> intro hv <;> first | (cases hv; done) | skip) | fail)); all_goals clear x0_)
    all_goals (((with_reducible apply ends_ret); (focus (simp only [CC_P, results, resultsOf, resultOf, get, load, loadCells, nth, cut, mkAgg, trees, res_143, List.length_cons, List.length_nil, List.take, List.drop, Nat.zero_add, Nat.reduceAdd, Nat.reduceLeDiff, if_true, *]; exact rfl)); (focus (first | exact finish_tree' _ _ _ _ | exact finish_tup2 _ _ _ _ _ | exact finish_tup3 _ _ _ _ _ _))))
    all_goals exact ⟨(⟨0, 0, []⟩, _), ⟨rfl, rfl⟩, VOK_0⟩
  | false =>
    by_cases he : e = 0
    · subst he
      have h2 := hlen rfl rfl
      obtain ⟨x, y, rfl⟩ : ∃ x y, out = [x, y] := by
        match out, h2 with
        | [x, y], _ => exact ⟨x, y, rfl⟩
      have hx : R64 x.n := (hok x (by simp)).1
      have hy : R64 y.n := (hok y (by simp)).1
      simp only [List.map_cons, List.map_nil, Val.c] at hal
      have hf' := hf x.n y.n hx hy
      have hg' := hg x.n y.n hx hy
      have hs1 : ∀ (n e : Int) (nl cl : Bool) (hn : R64 n), Om CC 174 [.t (.int .i64 n), .t (.int .i64 e), .box 0 0] [.box [.t (.sl nl cl [[.int .u8 x.k, .int .i64 x.n, .str x.s], [.int .u8 y.k, .int .i64 y.n, .str y.s]])]] = _ := fun n e nl cl hn => doS_ok n e nl cl x.k x.n x.s [y] hn
      have hf1 := hs1 _ (F x.n y.n).2 anl acl (hfr x.n y.n)
      have hg1 := hs1 _ (G x.n y.n).2 anl acl (hgr x.n y.n)
      simp only [List.map_cons, List.map_nil, Val.c] at hf1 hg1
      clear hf hg hlen hok hs1 hfr hgr hx hy h2
      (have x0_ := @hb_173; have x1_ := @idx_zero; have x2_ := @idx_one; have x3_ := @hb_174; (repeat' (first | with_reducible apply fol | with_reducible refine aRW ?_ | with_reducible refine aRR ?_ | with_reducible refine aRs ?_ | ((with_reducible first | apply RW_gdn | apply RR_gdn | apply RW_gd | apply RR_gd) <;> intro hg <;> first | (cases hg; done) | skip) | with_reducible refine aE1 ?_ | with_reducible refine aE2 ?_ | with_reducible refine aOn ?_ | ((with_reducible refine aCd ?_ ?_) <;> intro hv <;> first | (cases hv; done) | skip) | fail)); all_goals clear x0_ x1_ x2_ x3_)
      all_goals (((with_reducible apply ends_ret); (focus (simp only [CC_P, results, resultsOf, resultOf, get, load, loadCells, nth, cut, mkAgg, trees, res_143, List.length_cons, List.length_nil, List.take, List.drop, Nat.zero_add, Nat.reduceAdd, Nat.reduceLeDiff, if_true, *]; exact rfl)); (focus (first | exact finish_tree' _ _ _ _ | exact finish_tup2 _ _ _ _ _ | exact finish_tup3 _ _ _ _ _ _))))
      all_goals exact ⟨(⟨_, _, _⟩, _), ⟨rfl, rfl⟩, doS_p _ _ _ _ _ _⟩
    · have hne : (e != 0) = true := by simpa using he
      clear hf hg hfr hgr hlen hok
      (have x0_ := @hb_173; (repeat' (first | with_reducible apply fol | with_reducible refine aRW ?_ | with_reducible refine aRR ?_ | with_reducible refine aRs ?_ | ((with_reducible first | apply RW_gdn | apply RR_gdn | apply RW_gd | apply RR_gd) <;> intro hg <;> first | (cases hg; done) | skip) | with_reducible refine aE1 ?_ | with_reducible refine aE2 ?_ | with_reducible refine aOn ?_ | ((with_reducible refine aCd ?_ ?_) <;> intro hv <;> first | (cases hv; done) | skip) | fail)); all_goals clear x0_)
      all_goals (((with_reducible apply ends_ret); (focus (simp only [CC_P, results, resultsOf, resultOf, get, load, loadCells, nth, cut, mkAgg, trees, res_143, List.length_cons, List.length_nil, List.take, List.drop, Nat.zero_add, Nat.reduceAdd, Nat.reduceLeDiff, if_true, *]; exact rfl)); (focus (first | exact finish_tree' _ _ _ _ | exact finish_tup2 _ _ _ _ _ | exact finish_tup3 _ _ _ _ _ _))))
      all_goals exact ⟨(⟨0, 0, []⟩, _), ⟨rfl, rfl⟩, VOK_0⟩

end Go.Ab
/- Layer 2 (value): sums, and the least and the most. -/
namespace Go.Ab
open Go.Proofs
set_option maxRecDepth 100000
set_option maxHeartbeats 4000000
set_option linter.unusedSimpArgs false
set_option linter.unusedVariables false

theorem doAdd_ex (a b : Val) (ha : R64 a.n) (hb : R64 b.n) : ∃ x : Val × Int, Om CC 143 [.t (.agg [.int .u8 a.k, .int .i64 a.n, .str a.s]), .t (.agg [.int .u8 b.k, .int .i64 b.n, .str b.s]), .t (.fn 144), .t (.fn 144)] [] = some (.val (.tup [.t (.agg [.int .u8 (x).1.k, .int .i64 (x).1.n, .str (x).1.s]), .t (.int .i64 (x).2)]), []) ∧ VOK x.1 :=
  do_run _ _ hb_144 (by decide) hb_144 (by decide) NAdd NAdd (fun x y _ hy => nAdd_ok x y) (fun x y _ hy => nAdd_ok x y) nAdd_r nAdd_r a b ha hb
open Classical in
noncomputable def DoAdd (a b : Val) : Val × Int := if h : R64 a.n ∧ R64 b.n then (doAdd_ex a b h.1 h.2).choose else (Zero, 0)
theorem doAdd_ok (k n : Int) (s : List Nat) (k' n' : Int) (s' : List Nat) (h : R64 n) (h' : R64 n') : Om CC 143 [.t (.agg [.int .u8 k, .int .i64 n, .str s]), .t (.agg [.int .u8 k', .int .i64 n', .str s']), .t (.fn 144), .t (.fn 144)] [] = some (.val (.tup [.t (.agg [.int .u8 (DoAdd ⟨k, n, s⟩ ⟨k', n', s'⟩).1.k, .int .i64 (DoAdd ⟨k, n, s⟩ ⟨k', n', s'⟩).1.n, .str (DoAdd ⟨k, n, s⟩ ⟨k', n', s'⟩).1.s]), .t (.int .i64 (DoAdd ⟨k, n, s⟩ ⟨k', n', s'⟩).2)]), []) := by
  unfold DoAdd
  have hh : R64 (⟨k, n, s⟩ : Val).n ∧ R64 (⟨k', n', s'⟩ : Val).n := ⟨h, h'⟩
  rw [dif_pos hh]; exact (doAdd_ex ⟨k, n, s⟩ ⟨k', n', s'⟩ h h').choose_spec.1
theorem doAdd_p (a b : Val) : VOK (DoAdd a b).1 := by
  unfold DoAdd; split
  · rename_i h; exact (doAdd_ex a b h.1 h.2).choose_spec.2
  · exact VOK_0

theorem vAdd_run (a b : Val) (ha : R64 a.n) (hb : R64 b.n) : ∃ x : Val × Int, Om CC 105 [.t (.agg [.int .u8 a.k, .int .i64 a.n, .str a.s]), .t (.agg [.int .u8 b.k, .int .i64 b.n, .str b.s])] [] = some (.val (.tup [.t (.agg [.int .u8 (x).1.k, .int .i64 (x).1.n, .str (x).1.s]), .t (.int .i64 (x).2)]), []) ∧ VOK x.1 := by
  refine call_ex (F := fun x : Val × Int => .tup [.t (.agg [.int .u8 x.1.k, .int .i64 x.1.n, .str x.1.s]), .t (.int .i64 x.2)]) fun_105 rfl ?_
  (have F_ : _ ∧ _ ∧ _ ∧ _ ∧ _ ∧ _ ∧ _ ∧ _ ∧ _ ∧ _ ∧ _ ∧ _ ∧ _ ∧ _ ∧ _ ∧ _ ∧ _ ∧ _ ∧ _ ∧ _ ∧ _ ∧ _ ∧ _ ∧ _ ∧ _ ∧ _ ∧ _ ∧ _ ∧ _ ∧ _ ∧ _ ∧ _ ∧ _ ∧ _ ∧ _ ∧ _ ∧ _ ∧ _ := ⟨und_2, size_2, agg_2, zero_2, zel_2, small_2, und_5, size_5, agg_5, zero_5, zel_5, small_5, und_9, size_9, agg_9, zero_9, zel_9, small_9, noInt_9, fa_45_0, fd_45_0, fa_45_1, fd_45_1, fa_45_2, fd_45_2, bld_45, size_45, agg_45, zero_45, zel_45, small_45, noInt_45, size_231, agg_231, zero_231, zel_231, small_231, noInt_231⟩; show W CC 0 11 (keepsOf 105) _ ⟨[(0, _), (1, _)], []⟩ _)
  (have x0_ := @doAdd_ok; have x1_ := @hb_143; (repeat' (first | with_reducible apply fol | with_reducible refine aRW ?_ | with_reducible refine aRR ?_ | with_reducible refine aRs ?_ | ((with_reducible first | apply RW_gdn | apply RR_gdn | apply RW_gd | apply RR_gd) <;> intro hg <;> first | (cases hg; done) | skip) | with_reducible refine aE1 ?_ | with_reducible refine aE2 ?_ | with_reducible refine aOn ?_ | ((with_reducible refine aCd ?_ ?_) <;> intro hv <;> first | (cases hv; done) | skip) | fail)); all_goals clear x0_ x1_)
  all_goals (((with_reducible apply ends_ret); (focus (simp only [CC_P, results, resultsOf, resultOf, get, load, loadCells, nth, cut, mkAgg, trees, res_105, List.length_cons, List.length_nil, List.take, List.drop, Nat.zero_add, Nat.reduceAdd, Nat.reduceLeDiff, if_true, *]; exact rfl)); (focus (first | exact finish_tree' _ _ _ _ | exact finish_tup2 _ _ _ _ _ | exact finish_tup3 _ _ _ _ _ _))))
  all_goals exact ⟨DoAdd a b, ⟨rfl, rfl⟩, doAdd_p a b⟩
open Classical in
noncomputable def VAdd (a b : Val) : Val × Int := if h : R64 a.n ∧ R64 b.n then (vAdd_run a b h.1 h.2).choose else (Zero, 0)
theorem vAdd_ok (k n : Int) (s : List Nat) (k' n' : Int) (s' : List Nat) (h : R64 n) (h' : R64 n') : Om CC 105 [.t (.agg [.int .u8 k, .int .i64 n, .str s]), .t (.agg [.int .u8 k', .int .i64 n', .str s'])] [] = some (.val (.tup [.t (.agg [.int .u8 (VAdd ⟨k, n, s⟩ ⟨k', n', s'⟩).1.k, .int .i64 (VAdd ⟨k, n, s⟩ ⟨k', n', s'⟩).1.n, .str (VAdd ⟨k, n, s⟩ ⟨k', n', s'⟩).1.s]), .t (.int .i64 (VAdd ⟨k, n, s⟩ ⟨k', n', s'⟩).2)]), []) := by
  unfold VAdd
  have hh : R64 (⟨k, n, s⟩ : Val).n ∧ R64 (⟨k', n', s'⟩ : Val).n := ⟨h, h'⟩
  rw [dif_pos hh]; exact (vAdd_run ⟨k, n, s⟩ ⟨k', n', s'⟩ h h').choose_spec.1
theorem vAdd_p (a b : Val) : VOK (VAdd a b).1 := by
  unfold VAdd; split
  · rename_i h; exact (vAdd_run a b h.1 h.2).choose_spec.2
  · exact VOK_0

theorem doSub_ex (a b : Val) (ha : R64 a.n) (hb : R64 b.n) : ∃ x : Val × Int, Om CC 143 [.t (.agg [.int .u8 a.k, .int .i64 a.n, .str a.s]), .t (.agg [.int .u8 b.k, .int .i64 b.n, .str b.s]), .t (.fn 145), .t (.fn 145)] [] = some (.val (.tup [.t (.agg [.int .u8 (x).1.k, .int .i64 (x).1.n, .str (x).1.s]), .t (.int .i64 (x).2)]), []) ∧ VOK x.1 :=
  do_run _ _ hb_145 (by decide) hb_145 (by decide) NSub NSub (fun x y _ hy => nSub_ok x y) (fun x y _ hy => nSub_ok x y) nSub_r nSub_r a b ha hb
open Classical in
noncomputable def DoSub (a b : Val) : Val × Int := if h : R64 a.n ∧ R64 b.n then (doSub_ex a b h.1 h.2).choose else (Zero, 0)
theorem doSub_ok (k n : Int) (s : List Nat) (k' n' : Int) (s' : List Nat) (h : R64 n) (h' : R64 n') : Om CC 143 [.t (.agg [.int .u8 k, .int .i64 n, .str s]), .t (.agg [.int .u8 k', .int .i64 n', .str s']), .t (.fn 145), .t (.fn 145)] [] = some (.val (.tup [.t (.agg [.int .u8 (DoSub ⟨k, n, s⟩ ⟨k', n', s'⟩).1.k, .int .i64 (DoSub ⟨k, n, s⟩ ⟨k', n', s'⟩).1.n, .str (DoSub ⟨k, n, s⟩ ⟨k', n', s'⟩).1.s]), .t (.int .i64 (DoSub ⟨k, n, s⟩ ⟨k', n', s'⟩).2)]), []) := by
  unfold DoSub
  have hh : R64 (⟨k, n, s⟩ : Val).n ∧ R64 (⟨k', n', s'⟩ : Val).n := ⟨h, h'⟩
  rw [dif_pos hh]; exact (doSub_ex ⟨k, n, s⟩ ⟨k', n', s'⟩ h h').choose_spec.1
theorem doSub_p (a b : Val) : VOK (DoSub a b).1 := by
  unfold DoSub; split
  · rename_i h; exact (doSub_ex a b h.1 h.2).choose_spec.2
  · exact VOK_0

theorem vSub_run (a b : Val) (ha : R64 a.n) (hb : R64 b.n) : ∃ x : Val × Int, Om CC 106 [.t (.agg [.int .u8 a.k, .int .i64 a.n, .str a.s]), .t (.agg [.int .u8 b.k, .int .i64 b.n, .str b.s])] [] = some (.val (.tup [.t (.agg [.int .u8 (x).1.k, .int .i64 (x).1.n, .str (x).1.s]), .t (.int .i64 (x).2)]), []) ∧ VOK x.1 := by
  refine call_ex (F := fun x : Val × Int => .tup [.t (.agg [.int .u8 x.1.k, .int .i64 x.1.n, .str x.1.s]), .t (.int .i64 x.2)]) fun_106 rfl ?_
  (have F_ : _ ∧ _ ∧ _ ∧ _ ∧ _ ∧ _ ∧ _ ∧ _ ∧ _ ∧ _ ∧ _ ∧ _ ∧ _ ∧ _ ∧ _ ∧ _ ∧ _ ∧ _ ∧ _ ∧ _ ∧ _ ∧ _ ∧ _ ∧ _ ∧ _ ∧ _ ∧ _ ∧ _ ∧ _ ∧ _ ∧ _ ∧ _ ∧ _ ∧ _ ∧ _ ∧ _ ∧ _ ∧ _ := ⟨und_2, size_2, agg_2, zero_2, zel_2, small_2, und_5, size_5, agg_5, zero_5, zel_5, small_5, und_9, size_9, agg_9, zero_9, zel_9, small_9, noInt_9, fa_45_0, fd_45_0, fa_45_1, fd_45_1, fa_45_2, fd_45_2, bld_45, size_45, agg_45, zero_45, zel_45, small_45, noInt_45, size_231, agg_231, zero_231, zel_231, small_231, noInt_231⟩; show W CC 0 11 (keepsOf 106) _ ⟨[(0, _), (1, _)], []⟩ _)
  (have x0_ := @doSub_ok; have x1_ := @hb_143; (repeat' (first | with_reducible apply fol | with_reducible refine aRW ?_ | with_reducible refine aRR ?_ | with_reducible refine aRs ?_ | ((with_reducible first | apply RW_gdn | apply RR_gdn | apply RW_gd | apply RR_gd) <;> intro hg <;> first | (cases hg; done) | skip) | with_reducible refine aE1 ?_ | with_reducible refine aE2 ?_ | with_reducible refine aOn ?_ | ((with_reducible refine aCd ?_ ?_) <;> intro hv <;> first | (cases hv; done) | skip) | fail)); all_goals clear x0_ x1_)
  all_goals (((with_reducible apply ends_ret); (focus (simp only [CC_P, results, resultsOf, resultOf, get, load, loadCells, nth, cut, mkAgg, trees, res_106, List.length_cons, List.length_nil, List.take, List.drop, Nat.zero_add, Nat.reduceAdd, Nat.reduceLeDiff, if_true, *]; exact rfl)); (focus (first | exact finish_tree' _ _ _ _ | exact finish_tup2 _ _ _ _ _ | exact finish_tup3 _ _ _ _ _ _))))
  all_goals exact ⟨DoSub a b, ⟨rfl, rfl⟩, doSub_p a b⟩
open Classical in
noncomputable def VSub (a b : Val) : Val × Int := if h : R64 a.n ∧ R64 b.n then (vSub_run a b h.1 h.2).choose else (Zero, 0)
theorem vSub_ok (k n : Int) (s : List Nat) (k' n' : Int) (s' : List Nat) (h : R64 n) (h' : R64 n') : Om CC 106 [.t (.agg [.int .u8 k, .int .i64 n, .str s]), .t (.agg [.int .u8 k', .int .i64 n', .str s'])] [] = some (.val (.tup [.t (.agg [.int .u8 (VSub ⟨k, n, s⟩ ⟨k', n', s'⟩).1.k, .int .i64 (VSub ⟨k, n, s⟩ ⟨k', n', s'⟩).1.n, .str (VSub ⟨k, n, s⟩ ⟨k', n', s'⟩).1.s]), .t (.int .i64 (VSub ⟨k, n, s⟩ ⟨k', n', s'⟩).2)]), []) := by
  unfold VSub
  have hh : R64 (⟨k, n, s⟩ : Val).n ∧ R64 (⟨k', n', s'⟩ : Val).n := ⟨h, h'⟩
  rw [dif_pos hh]; exact (vSub_run ⟨k, n, s⟩ ⟨k', n', s'⟩ h h').choose_spec.1
theorem vSub_p (a b : Val) : VOK (VSub a b).1 := by
  unfold VSub; split
  · rename_i h; exact (vSub_run a b h.1 h.2).choose_spec.2
  · exact VOK_0

theorem doMul_ex (a b : Val) (ha : R64 a.n) (hb : R64 b.n) : ∃ x : Val × Int, Om CC 143 [.t (.agg [.int .u8 a.k, .int .i64 a.n, .str a.s]), .t (.agg [.int .u8 b.k, .int .i64 b.n, .str b.s]), .t (.fn 146), .t (.fn 147)] [] = some (.val (.tup [.t (.agg [.int .u8 (x).1.k, .int .i64 (x).1.n, .str (x).1.s]), .t (.int .i64 (x).2)]), []) ∧ VOK x.1 :=
  do_run _ _ hb_146 (by decide) hb_147 (by decide) NMul NMulDec (fun x y _ hy => nMul_ok x y) (fun x y _ hy => nMulDec_ok x y) nMul_r nMulDec_r a b ha hb
open Classical in
noncomputable def DoMul (a b : Val) : Val × Int := if h : R64 a.n ∧ R64 b.n then (doMul_ex a b h.1 h.2).choose else (Zero, 0)
theorem doMul_ok (k n : Int) (s : List Nat) (k' n' : Int) (s' : List Nat) (h : R64 n) (h' : R64 n') : Om CC 143 [.t (.agg [.int .u8 k, .int .i64 n, .str s]), .t (.agg [.int .u8 k', .int .i64 n', .str s']), .t (.fn 146), .t (.fn 147)] [] = some (.val (.tup [.t (.agg [.int .u8 (DoMul ⟨k, n, s⟩ ⟨k', n', s'⟩).1.k, .int .i64 (DoMul ⟨k, n, s⟩ ⟨k', n', s'⟩).1.n, .str (DoMul ⟨k, n, s⟩ ⟨k', n', s'⟩).1.s]), .t (.int .i64 (DoMul ⟨k, n, s⟩ ⟨k', n', s'⟩).2)]), []) := by
  unfold DoMul
  have hh : R64 (⟨k, n, s⟩ : Val).n ∧ R64 (⟨k', n', s'⟩ : Val).n := ⟨h, h'⟩
  rw [dif_pos hh]; exact (doMul_ex ⟨k, n, s⟩ ⟨k', n', s'⟩ h h').choose_spec.1
theorem doMul_p (a b : Val) : VOK (DoMul a b).1 := by
  unfold DoMul; split
  · rename_i h; exact (doMul_ex a b h.1 h.2).choose_spec.2
  · exact VOK_0

theorem vMul_run (a b : Val) (ha : R64 a.n) (hb : R64 b.n) : ∃ x : Val × Int, Om CC 107 [.t (.agg [.int .u8 a.k, .int .i64 a.n, .str a.s]), .t (.agg [.int .u8 b.k, .int .i64 b.n, .str b.s])] [] = some (.val (.tup [.t (.agg [.int .u8 (x).1.k, .int .i64 (x).1.n, .str (x).1.s]), .t (.int .i64 (x).2)]), []) ∧ VOK x.1 := by
  refine call_ex (F := fun x : Val × Int => .tup [.t (.agg [.int .u8 x.1.k, .int .i64 x.1.n, .str x.1.s]), .t (.int .i64 x.2)]) fun_107 rfl ?_
  (have F_ : _ ∧ _ ∧ _ ∧ _ ∧ _ ∧ _ ∧ _ ∧ _ ∧ _ ∧ _ ∧ _ ∧ _ ∧ _ ∧ _ ∧ _ ∧ _ ∧ _ ∧ _ ∧ _ ∧ _ ∧ _ ∧ _ ∧ _ ∧ _ ∧ _ ∧ _ ∧ _ ∧ _ ∧ _ ∧ _ ∧ _ ∧ _ ∧ _ ∧ _ ∧ _ ∧ _ ∧ _ ∧ _ := ⟨und_2, size_2, agg_2, zero_2, zel_2, small_2, und_5, size_5, agg_5, zero_5, zel_5, small_5, und_9, size_9, agg_9, zero_9, zel_9, small_9, noInt_9, fa_45_0, fd_45_0, fa_45_1, fd_45_1, fa_45_2, fd_45_2, bld_45, size_45, agg_45, zero_45, zel_45, small_45, noInt_45, size_231, agg_231, zero_231, zel_231, small_231, noInt_231⟩; show W CC 0 11 (keepsOf 107) _ ⟨[(0, _), (1, _)], []⟩ _)
  (have x0_ := @doMul_ok; have x1_ := @hb_143; (repeat' (first | with_reducible apply fol | with_reducible refine aRW ?_ | with_reducible refine aRR ?_ | with_reducible refine aRs ?_ | ((with_reducible first | apply RW_gdn | apply RR_gdn | apply RW_gd | apply RR_gd) <;> intro hg <;> first | (cases hg; done) | skip) | with_reducible refine aE1 ?_ | with_reducible refine aE2 ?_ | with_reducible refine aOn ?_ | ((with_reducible refine aCd ?_ ?_) <;> intro hv <;> first | (cases hv; done) | skip) | fail)); all_goals clear x0_ x1_)
  all_goals (((with_reducible apply ends_ret); (focus (simp only [CC_P, results, resultsOf, resultOf, get, load, loadCells, nth, cut, mkAgg, trees, res_107, List.length_cons, List.length_nil, List.take, List.drop, Nat.zero_add, Nat.reduceAdd, Nat.reduceLeDiff, if_true, *]; exact rfl)); (focus (first | exact finish_tree' _ _ _ _ | exact finish_tup2 _ _ _ _ _ | exact finish_tup3 _ _ _ _ _ _))))
  all_goals exact ⟨DoMul a b, ⟨rfl, rfl⟩, doMul_p a b⟩
open Classical in
noncomputable def VMul (a b : Val) : Val × Int := if h : R64 a.n ∧ R64 b.n then (vMul_run a b h.1 h.2).choose else (Zero, 0)
theorem vMul_ok (k n : Int) (s : List Nat) (k' n' : Int) (s' : List Nat) (h : R64 n) (h' : R64 n') : Om CC 107 [.t (.agg [.int .u8 k, .int .i64 n, .str s]), .t (.agg [.int .u8 k', .int .i64 n', .str s'])] [] = some (.val (.tup [.t (.agg [.int .u8 (VMul ⟨k, n, s⟩ ⟨k', n', s'⟩).1.k, .int .i64 (VMul ⟨k, n, s⟩ ⟨k', n', s'⟩).1.n, .str (VMul ⟨k, n, s⟩ ⟨k', n', s'⟩).1.s]), .t (.int .i64 (VMul ⟨k, n, s⟩ ⟨k', n', s'⟩).2)]), []) := by
  unfold VMul
  have hh : R64 (⟨k, n, s⟩ : Val).n ∧ R64 (⟨k', n', s'⟩ : Val).n := ⟨h, h'⟩
  rw [dif_pos hh]; exact (vMul_run ⟨k, n, s⟩ ⟨k', n', s'⟩ h h').choose_spec.1
theorem vMul_p (a b : Val) : VOK (VMul a b).1 := by
  unfold VMul; split
  · rename_i h; exact (vMul_run a b h.1 h.2).choose_spec.2
  · exact VOK_0

theorem doDiv_ex (a b : Val) (ha : R64 a.n) (hb : R64 b.n) : ∃ x : Val × Int, Om CC 143 [.t (.agg [.int .u8 a.k, .int .i64 a.n, .str a.s]), .t (.agg [.int .u8 b.k, .int .i64 b.n, .str b.s]), .t (.fn 148), .t (.fn 149)] [] = some (.val (.tup [.t (.agg [.int .u8 (x).1.k, .int .i64 (x).1.n, .str (x).1.s]), .t (.int .i64 (x).2)]), []) ∧ VOK x.1 :=
  do_run _ _ hb_148 (by decide) hb_149 (by decide) NQuo NDivDec (fun x y _ hy => nQuo_ok x y hy) (fun x y _ hy => nDivDec_ok x y) nQuo_r nDivDec_r a b ha hb
open Classical in
noncomputable def DoDiv (a b : Val) : Val × Int := if h : R64 a.n ∧ R64 b.n then (doDiv_ex a b h.1 h.2).choose else (Zero, 0)
theorem doDiv_ok (k n : Int) (s : List Nat) (k' n' : Int) (s' : List Nat) (h : R64 n) (h' : R64 n') : Om CC 143 [.t (.agg [.int .u8 k, .int .i64 n, .str s]), .t (.agg [.int .u8 k', .int .i64 n', .str s']), .t (.fn 148), .t (.fn 149)] [] = some (.val (.tup [.t (.agg [.int .u8 (DoDiv ⟨k, n, s⟩ ⟨k', n', s'⟩).1.k, .int .i64 (DoDiv ⟨k, n, s⟩ ⟨k', n', s'⟩).1.n, .str (DoDiv ⟨k, n, s⟩ ⟨k', n', s'⟩).1.s]), .t (.int .i64 (DoDiv ⟨k, n, s⟩ ⟨k', n', s'⟩).2)]), []) := by
  unfold DoDiv
  have hh : R64 (⟨k, n, s⟩ : Val).n ∧ R64 (⟨k', n', s'⟩ : Val).n := ⟨h, h'⟩
  rw [dif_pos hh]; exact (doDiv_ex ⟨k, n, s⟩ ⟨k', n', s'⟩ h h').choose_spec.1
theorem doDiv_p (a b : Val) : VOK (DoDiv a b).1 := by
  unfold DoDiv; split
  · rename_i h; exact (doDiv_ex a b h.1 h.2).choose_spec.2
  · exact VOK_0

theorem vDiv_run (a b : Val) (ha : R64 a.n) (hb : R64 b.n) : ∃ x : Val × Int, Om CC 108 [.t (.agg [.int .u8 a.k, .int .i64 a.n, .str a.s]), .t (.agg [.int .u8 b.k, .int .i64 b.n, .str b.s])] [] = some (.val (.tup [.t (.agg [.int .u8 (x).1.k, .int .i64 (x).1.n, .str (x).1.s]), .t (.int .i64 (x).2)]), []) ∧ VOK x.1 := by
  refine call_ex (F := fun x : Val × Int => .tup [.t (.agg [.int .u8 x.1.k, .int .i64 x.1.n, .str x.1.s]), .t (.int .i64 x.2)]) fun_108 rfl ?_
  (have F_ : _ ∧ _ ∧ _ ∧ _ ∧ _ ∧ _ ∧ _ ∧ _ ∧ _ ∧ _ ∧ _ ∧ _ ∧ _ ∧ _ ∧ _ ∧ _ ∧ _ ∧ _ ∧ _ ∧ _ ∧ _ ∧ _ ∧ _ ∧ _ ∧ _ ∧ _ ∧ _ ∧ _ ∧ _ ∧ _ ∧ _ ∧ _ ∧ _ ∧ _ ∧ _ ∧ _ ∧ _ ∧ _ := ⟨und_2, size_2, agg_2, zero_2, zel_2, small_2, und_5, size_5, agg_5, zero_5, zel_5, small_5, und_9, size_9, agg_9, zero_9, zel_9, small_9, noInt_9, fa_45_0, fd_45_0, fa_45_1, fd_45_1, fa_45_2, fd_45_2, bld_45, size_45, agg_45, zero_45, zel_45, small_45, noInt_45, size_231, agg_231, zero_231, zel_231, small_231, noInt_231⟩; show W CC 0 11 (keepsOf 108) _ ⟨[(0, _), (1, _)], []⟩ _)
  (have x0_ := @doDiv_ok; have x1_ := @hb_143; (repeat' (first | with_reducible apply fol | with_reducible refine aRW ?_ | with_reducible refine aRR ?_ | with_reducible refine aRs ?_ | ((with_reducible first | apply RW_gdn | apply RR_gdn | apply RW_gd | apply RR_gd) <;> intro hg <;> first | (cases hg; done) | skip) | with_reducible refine aE1 ?_ | with_reducible refine aE2 ?_ | with_reducible refine aOn ?_ | ((with_reducible refine aCd ?_ ?_) <;> intro hv <;> first | (cases hv; done) | skip) | fail)); all_goals clear x0_ x1_)
  all_goals (((with_reducible apply ends_ret); (focus (simp only [CC_P, results, resultsOf, resultOf, get, load, loadCells, nth, cut, mkAgg, trees, res_108, List.length_cons, List.length_nil, List.take, List.drop, Nat.zero_add, Nat.reduceAdd, Nat.reduceLeDiff, if_true, *]; exact rfl)); (focus (first | exact finish_tree' _ _ _ _ | exact finish_tup2 _ _ _ _ _ | exact finish_tup3 _ _ _ _ _ _))))
  all_goals exact ⟨DoDiv a b, ⟨rfl, rfl⟩, doDiv_p a b⟩
open Classical in
noncomputable def VDiv (a b : Val) : Val × Int := if h : R64 a.n ∧ R64 b.n then (vDiv_run a b h.1 h.2).choose else (Zero, 0)
theorem vDiv_ok (k n : Int) (s : List Nat) (k' n' : Int) (s' : List Nat) (h : R64 n) (h' : R64 n') : Om CC 108 [.t (.agg [.int .u8 k, .int .i64 n, .str s]), .t (.agg [.int .u8 k', .int .i64 n', .str s'])] [] = some (.val (.tup [.t (.agg [.int .u8 (VDiv ⟨k, n, s⟩ ⟨k', n', s'⟩).1.k, .int .i64 (VDiv ⟨k, n, s⟩ ⟨k', n', s'⟩).1.n, .str (VDiv ⟨k, n, s⟩ ⟨k', n', s'⟩).1.s]), .t (.int .i64 (VDiv ⟨k, n, s⟩ ⟨k', n', s'⟩).2)]), []) := by
  unfold VDiv
  have hh : R64 (⟨k, n, s⟩ : Val).n ∧ R64 (⟨k', n', s'⟩ : Val).n := ⟨h, h'⟩
  rw [dif_pos hh]; exact (vDiv_run ⟨k, n, s⟩ ⟨k', n', s'⟩ h h').choose_spec.1
theorem vDiv_p (a b : Val) : VOK (VDiv a b).1 := by
  unfold VDiv; split
  · rename_i h; exact (vDiv_run a b h.1 h.2).choose_spec.2
  · exact VOK_0

theorem vNeg_run (a : Val) (ha : R64 a.n) : ∃ x : Val × Int, Om CC 112 [.t (.agg [.int .u8 a.k, .int .i64 a.n, .str a.s])] [] = some (.val (.tup [.t (.agg [.int .u8 (x).1.k, .int .i64 (x).1.n, .str (x).1.s]), .t (.int .i64 (x).2)]), []) ∧ VOK x.1 := by
  refine call_ex (F := fun x : Val × Int => .tup [.t (.agg [.int .u8 x.1.k, .int .i64 x.1.n, .str x.1.s]), .t (.int .i64 x.2)]) fun_112 rfl ?_
  (have F_ : _ ∧ _ ∧ _ ∧ _ ∧ _ ∧ _ ∧ _ ∧ _ ∧ _ ∧ _ ∧ _ ∧ _ ∧ _ ∧ _ ∧ _ ∧ _ ∧ _ ∧ _ ∧ _ ∧ _ ∧ _ ∧ _ ∧ _ ∧ _ ∧ _ ∧ _ ∧ _ ∧ _ ∧ _ ∧ _ ∧ _ ∧ _ := ⟨und_2, size_2, agg_2, zero_2, zel_2, small_2, und_5, size_5, agg_5, zero_5, zel_5, small_5, und_9, size_9, agg_9, zero_9, zel_9, small_9, noInt_9, fa_45_0, fd_45_0, fa_45_1, fd_45_1, fa_45_2, fd_45_2, bld_45, size_45, agg_45, zero_45, zel_45, small_45, noInt_45⟩; show W CC 0 13 (keepsOf 112) _ ⟨[(0, _)], []⟩ _)
  (have x0_ := @vSub_ok; have x1_ := @R64_0; have x2_ := @hb_106; (repeat' (first | with_reducible apply fol | with_reducible refine aRW ?_ | with_reducible refine aRR ?_ | with_reducible refine aRs ?_ | ((with_reducible first | apply RW_gdn | apply RR_gdn | apply RW_gd | apply RR_gd) <;> intro hg <;> first | (cases hg; done) | skip) | with_reducible refine aE1 ?_ | with_reducible refine aE2 ?_ | with_reducible refine aOn ?_ | ((with_reducible refine aCd ?_ ?_) <;> intro hv <;> first | (cases hv; done) | skip) | fail)); all_goals clear x0_ x1_ x2_)
  all_goals (((with_reducible apply ends_ret); (focus (simp only [CC_P, results, resultsOf, resultOf, get, load, loadCells, nth, cut, mkAgg, trees, res_112, List.length_cons, List.length_nil, List.take, List.drop, Nat.zero_add, Nat.reduceAdd, Nat.reduceLeDiff, if_true, *]; exact rfl)); (focus (first | exact finish_tree' _ _ _ _ | exact finish_tup2 _ _ _ _ _ | exact finish_tup3 _ _ _ _ _ _))))
  all_goals exact ⟨VSub ⟨_, _, _⟩ a, ⟨rfl, rfl⟩, vSub_p _ a⟩
open Classical in
noncomputable def VNeg (a : Val) : Val × Int := if h : R64 a.n then (vNeg_run a h).choose else (Zero, 0)
theorem vNeg_ok (k n : Int) (s : List Nat) (h : R64 n) : Om CC 112 [.t (.agg [.int .u8 k, .int .i64 n, .str s])] [] = some (.val (.tup [.t (.agg [.int .u8 (VNeg ⟨k, n, s⟩).1.k, .int .i64 (VNeg ⟨k, n, s⟩).1.n, .str (VNeg ⟨k, n, s⟩).1.s]), .t (.int .i64 (VNeg ⟨k, n, s⟩).2)]), []) := by
  unfold VNeg
  have hh : R64 (⟨k, n, s⟩ : Val).n := h
  rw [dif_pos hh]; exact (vNeg_run ⟨k, n, s⟩ h).choose_spec.1
theorem vNeg_p (a : Val) : VOK (VNeg a).1 := by
  unfold VNeg; split
  · rename_i h; exact (vNeg_run a h).choose_spec.2
  · exact VOK_0

theorem first_run (c : Int) (l : List Val) (nl cl : Bool) (hl : l.length < 4294967295) (hr : ∀ v ∈ l, R64 v.n) : ∃ x : Val × Int, Om CC 150 [.t (.int .i64 c), .t (.sl nl cl (l.map Val.c))] [] = some (.val (.tup [.t (.agg [.int .u8 (x).1.k, .int .i64 (x).1.n, .str (x).1.s]), .t (.int .i64 (x).2)]), []) ∧ VOK x.1 := by
  refine call_ex (F := fun x : Val × Int => .tup [.t (.agg [.int .u8 x.1.k, .int .i64 x.1.n, .str x.1.s]), .t (.int .i64 x.2)]) fun_150 rfl ?_
  (have F_ : _ ∧ _ ∧ _ ∧ _ ∧ _ ∧ _ ∧ _ ∧ _ ∧ _ ∧ _ ∧ _ ∧ _ ∧ _ ∧ _ ∧ _ ∧ _ ∧ _ ∧ _ ∧ _ ∧ _ ∧ _ ∧ _ ∧ _ ∧ _ ∧ _ ∧ _ ∧ _ ∧ _ ∧ _ ∧ _ ∧ _ ∧ _ ∧ _ ∧ _ ∧ _ ∧ _ ∧ _ ∧ _ ∧ _ ∧ _ ∧ _ ∧ _ ∧ _ ∧ _ ∧ _ ∧ _ ∧ _ ∧ _ ∧ _ ∧ _ ∧ _ := ⟨und_2, size_2, agg_2, zero_2, zel_2, small_2, und_3, size_3, agg_3, zero_3, zel_3, small_3, und_5, size_5, agg_5, zero_5, zel_5, small_5, und_9, size_9, agg_9, zero_9, zel_9, small_9, noInt_9, und_28, size_28, agg_28, zero_28, zel_28, small_28, noInt_28, fa_45_0, fd_45_0, fa_45_1, fd_45_1, fa_45_2, fd_45_2, bld_45, size_45, agg_45, zero_45, zel_45, small_45, noInt_45, und_80, size_80, agg_80, zero_80, zel_80, small_80⟩; show W CC 0 49 (keepsOf 150) _ ⟨[(0, _), (1, _)], []⟩ _)
  obtain ⟨⟨anl, acl, out, null, e⟩, hal, hlen, hok⟩ := alike_run l nl cl hl hr
  dsimp only at hal hlen hok
  clear hr
  cases null with
  | true =>
    clear hlen hok
    (have x0_ := @hb_173; (repeat' (first | with_reducible apply fol | with_reducible refine aRW ?_ | with_reducible refine aRR ?_ | with_reducible refine aRs ?_ | ((with_reducible first | apply RW_gdn | apply RR_gdn | apply RW_gd | apply RR_gd) <;> intro hg <;> first | (cases hg; done) | skip) | with_reducible refine aE1 ?_ | with_reducible refine aE2 ?_ | with_reducible refine aOn ?_ | ((with_reducible refine aCd ?_ ?_) <;> intro hv <;> first | (cases hv; done) | skip) | fail)); all_goals clear x0_)
    all_goals (((with_reducible apply ends_ret); (focus (simp only [CC_P, results, resultsOf, resultOf, get, load, loadCells, nth, cut, mkAgg, trees, res_150, List.length_cons, List.length_nil, List.take, List.drop, Nat.zero_add, Nat.reduceAdd, Nat.reduceLeDiff, if_true, *]; exact rfl)); (focus (first | exact finish_tree' _ _ _ _ | exact finish_tup2 _ _ _ _ _ | exact finish_tup3 _ _ _ _ _ _))))
    all_goals exact ⟨(⟨0, 0, []⟩, _), ⟨rfl, rfl⟩, VOK_0⟩
  | false =>
    by_cases he : e = 0
    · subst he
      have h2 := hlen rfl rfl
      clear hlen
      cases out with
      | nil =>
        simp only [List.map_nil] at hal
        clear hok h2
        (have x0_ := @hb_173; (repeat' (first | with_reducible apply fol | with_reducible refine aRW ?_ | with_reducible refine aRR ?_ | with_reducible refine aRs ?_ | ((with_reducible first | apply RW_gdn | apply RR_gdn | apply RW_gd | apply RR_gd) <;> intro hg <;> first | (cases hg; done) | skip) | with_reducible refine aE1 ?_ | with_reducible refine aE2 ?_ | with_reducible refine aOn ?_ | ((with_reducible refine aCd ?_ ?_) <;> intro hv <;> first | (cases hv; done) | skip) | fail)); all_goals clear x0_)
        all_goals (((with_reducible apply ends_ret); (focus (simp only [CC_P, results, resultsOf, resultOf, get, load, loadCells, nth, cut, mkAgg, trees, res_150, List.length_cons, List.length_nil, List.take, List.drop, Nat.zero_add, Nat.reduceAdd, Nat.reduceLeDiff, if_true, *]; exact rfl)); (focus (first | exact finish_tree' _ _ _ _ | exact finish_tup2 _ _ _ _ _ | exact finish_tup3 _ _ _ _ _ _))))
        all_goals exact ⟨(⟨0, 0, []⟩, _), ⟨rfl, rfl⟩, VOK_0⟩
      | cons v0 rest =>
        have hlr : rest.length + 1 < 4294967295 := by simp at h2; omega
        have hne : (((rest.length + 1 : Nat) : Int) == 0) = false := by simp; omega
        have h0 := hok v0 (by simp)
        clear h2
        simp only [List.map_cons] at hal
        (have x0_ := @hb_173; have x1_ := @idx_zero; (repeat' (first | with_reducible apply fol | with_reducible refine aRW ?_ | with_reducible refine aRR ?_ | with_reducible refine aRs ?_ | ((with_reducible first | apply RW_gdn | apply RR_gdn | apply RW_gd | apply RR_gd) <;> intro hg <;> first | (cases hg; done) | skip) | with_reducible refine aE1 ?_ | with_reducible refine aE2 ?_ | with_reducible refine aOn ?_ | ((with_reducible refine aCd ?_ ?_) <;> intro hv <;> first | (cases hv; done) | skip) | fail)); all_goals clear x0_ x1_)
        refine W_rounds (α := Nat × Val) (fun a => ⟨[(0, .t (.int .i64 c)), (4, .box 0 0), (9, .box 1 0), (33, .t (.sl anl acl ((v0 :: rest).map Val.c))), (34, .t (.int .i64 (rest.length + 1 : Nat))), (35, .t (.int .i64 a.1))], [.box (Zero.c.map .t), .box (a.2.c.map .t)]⟩)
          (fun a => rest.length + 1 - a.1) (fun a => a.1 ≤ rest.length + 1 ∧ VOK a.2) (0, v0) (by kernel_rfl) ⟨Nat.zero_le _, h0⟩ ?_
        clear hal hne h0
        rintro ⟨i, o⟩ ⟨hi, ho⟩
        try dsimp only at hi ho
        by_cases hi' : i < rest.length + 1
        · have hw : IntKind.i64.wrap ((i : Int) + 1) = ((i + 1 : Nat) : Int) := by rw [wrap64] <;> omega
          have hi2 : i < (v0 :: rest).length := by simpa using hi'
          have he : (v0 :: rest)[i]? = some (v0 :: rest)[i] := List.getElem?_eq_getElem hi2
          have hd : decide ((i : Int) < ((rest.length + 1 : Nat) : Int)) = true := by simp; omega
          have hv0 := hok (v0 :: rest)[i] (List.getElem_mem hi2)
          generalize (v0 :: rest)[i] = v at he hv0
          generalize hL : v0 :: rest = L at *
          clear hok
          simp only [Zero]
          (have x0_ := @cmpI64_ok; have x1_ := @hb_179; (repeat' (first | with_reducible apply fol | with_reducible refine aRW ?_ | with_reducible refine aRR ?_ | with_reducible refine aRs ?_ | ((with_reducible first | apply RW_gdn | apply RR_gdn | apply RW_gd | apply RR_gd) <;> intro hg <;> first | (cases hg; done) | skip) | with_reducible refine aE1 ?_ | with_reducible refine aE2 ?_ | with_reducible refine aOn ?_ | ((with_reducible refine aCd ?_ ?_) <;> intro hv <;> first | (cases hv; done) | skip) | fail)); all_goals clear x0_ x1_)
          all_goals (refine again_normal (i + 1, ⟨_, _, _⟩) (by first | omega | (dsimp only; omega)) ⟨by first | omega | (dsimp only; omega), ?_⟩ (by (simp only [loopKeep, firstRegion, keepsOf, tidy, canon, reach, refsL, refs, refsO, catMap, depth, renL, ren, renO, sub, sub1, upto, mem, place, fresh, cond_true, get, nth, List.map, List.zip_cons_cons, List.zip_nil_right, List.take, List.append_nil, List.nil_append, List.cons_append, beq_dec, decide_true, decide_false, Nat.reduceEqDiff, Val.c] <;> exact rfl)); first | exact hv0 | exact ho)
        · have hd : decide ((i : Int) < ((rest.length + 1 : Nat) : Int)) = false := by simp; omega
          simp only [Zero]
          clear hok
          ((repeat' (first | with_reducible apply fol | with_reducible refine aRW ?_ | with_reducible refine aRR ?_ | with_reducible refine aRs ?_ | ((with_reducible first | apply RW_gdn | apply RR_gdn | apply RW_gd | apply RR_gd) <;> intro hg <;> first | (cases hg; done) | skip) | with_reducible refine aE1 ?_ | with_reducible refine aE2 ?_ | with_reducible refine aOn ?_ | ((with_reducible refine aCd ?_ ?_) <;> intro hv <;> first | (cases hv; done) | skip) | fail)))
          ((with_reducible apply ends_ret); (focus (simp only [CC_P, results, resultsOf, resultOf, get, load, loadCells, nth, cut, mkAgg, trees, res_150, List.length_cons, List.length_nil, List.take, List.drop, Nat.zero_add, Nat.reduceAdd, Nat.reduceLeDiff, if_true, *]; exact rfl)); (focus (first | exact finish_tree' _ _ _ _ | exact finish_tup2 _ _ _ _ _ | exact finish_tup3 _ _ _ _ _ _)))
          exact ⟨(o, 0), ⟨rfl, rfl⟩, ho⟩
    · have hne : (e != 0) = true := by simpa using he
      clear hlen hok
      (have x0_ := @hb_173; (repeat' (first | with_reducible apply fol | with_reducible refine aRW ?_ | with_reducible refine aRR ?_ | with_reducible refine aRs ?_ | ((with_reducible first | apply RW_gdn | apply RR_gdn | apply RW_gd | apply RR_gd) <;> intro hg <;> first | (cases hg; done) | skip) | with_reducible refine aE1 ?_ | with_reducible refine aE2 ?_ | with_reducible refine aOn ?_ | ((with_reducible refine aCd ?_ ?_) <;> intro hv <;> first | (cases hv; done) | skip) | fail)); all_goals clear x0_)
      all_goals (((with_reducible apply ends_ret); (focus (simp only [CC_P, results, resultsOf, resultOf, get, load, loadCells, nth, cut, mkAgg, trees, res_150, List.length_cons, List.length_nil, List.take, List.drop, Nat.zero_add, Nat.reduceAdd, Nat.reduceLeDiff, if_true, *]; exact rfl)); (focus (first | exact finish_tree' _ _ _ _ | exact finish_tup2 _ _ _ _ _ | exact finish_tup3 _ _ _ _ _ _))))
      all_goals exact ⟨(⟨0, 0, []⟩, _), ⟨rfl, rfl⟩, VOK_0⟩

theorem vLeast_run (l : List Val) (nl cl : Bool) (hl : l.length < 4294967295) (hr : ∀ v ∈ l, R64 v.n) : ∃ x : Val × Int, Om CC 114 [.t (.sl nl cl (l.map Val.c))] [] = some (.val (.tup [.t (.agg [.int .u8 (x).1.k, .int .i64 (x).1.n, .str (x).1.s]), .t (.int .i64 (x).2)]), []) ∧ VOK x.1 := by
  refine call_ex (F := fun x : Val × Int => .tup [.t (.agg [.int .u8 x.1.k, .int .i64 x.1.n, .str x.1.s]), .t (.int .i64 x.2)]) fun_114 rfl ?_
  (have F_ : _ ∧ _ ∧ _ ∧ _ ∧ _ ∧ _ ∧ _ ∧ _ ∧ _ ∧ _ ∧ _ ∧ _ ∧ _ ∧ _ ∧ _ ∧ _ ∧ _ ∧ _ ∧ _ ∧ _ ∧ _ ∧ _ ∧ _ ∧ _ ∧ _ ∧ _ ∧ _ ∧ _ ∧ _ ∧ _ ∧ _ ∧ _ ∧ _ ∧ _ ∧ _ ∧ _ ∧ _ ∧ _ ∧ _ ∧ _ ∧ _ ∧ _ ∧ _ ∧ _ ∧ _ := ⟨und_2, size_2, agg_2, zero_2, zel_2, small_2, und_3, size_3, agg_3, zero_3, zel_3, small_3, und_5, size_5, agg_5, zero_5, zel_5, small_5, und_9, size_9, agg_9, zero_9, zel_9, small_9, noInt_9, und_28, size_28, agg_28, zero_28, zel_28, small_28, noInt_28, fa_45_0, fd_45_0, fa_45_1, fd_45_1, fa_45_2, fd_45_2, bld_45, size_45, agg_45, zero_45, zel_45, small_45, noInt_45⟩; show W CC 0 8 (keepsOf 114) _ ⟨[(0, _)], []⟩ _)
  obtain ⟨x, hx, hp⟩ := first_run (-1) l nl cl hl hr
  clear hr
  (have x0_ := @hb_150; (repeat' (first | with_reducible apply fol | with_reducible refine aRW ?_ | with_reducible refine aRR ?_ | with_reducible refine aRs ?_ | ((with_reducible first | apply RW_gdn | apply RR_gdn | apply RW_gd | apply RR_gd) <;> intro hg <;> first | (cases hg; done) | skip) | with_reducible refine aE1 ?_ | with_reducible refine aE2 ?_ | with_reducible refine aOn ?_ | ((with_reducible refine aCd ?_ ?_) <;> intro hv <;> first | (cases hv; done) | skip) | fail)); all_goals clear x0_)
  all_goals (((with_reducible apply ends_ret); (focus (simp only [CC_P, results, resultsOf, resultOf, get, load, loadCells, nth, cut, mkAgg, trees, res_114, List.length_cons, List.length_nil, List.take, List.drop, Nat.zero_add, Nat.reduceAdd, Nat.reduceLeDiff, if_true, *]; exact rfl)); (focus (first | exact finish_tree' _ _ _ _ | exact finish_tup2 _ _ _ _ _ | exact finish_tup3 _ _ _ _ _ _))))
  all_goals exact ⟨x, ⟨rfl, rfl⟩, hp⟩

theorem vMost_run (l : List Val) (nl cl : Bool) (hl : l.length < 4294967295) (hr : ∀ v ∈ l, R64 v.n) : ∃ x : Val × Int, Om CC 116 [.t (.sl nl cl (l.map Val.c))] [] = some (.val (.tup [.t (.agg [.int .u8 (x).1.k, .int .i64 (x).1.n, .str (x).1.s]), .t (.int .i64 (x).2)]), []) ∧ VOK x.1 := by
  refine call_ex (F := fun x : Val × Int => .tup [.t (.agg [.int .u8 x.1.k, .int .i64 x.1.n, .str x.1.s]), .t (.int .i64 x.2)]) fun_116 rfl ?_
  (have F_ : _ ∧ _ ∧ _ ∧ _ ∧ _ ∧ _ ∧ _ ∧ _ ∧ _ ∧ _ ∧ _ ∧ _ ∧ _ ∧ _ ∧ _ ∧ _ ∧ _ ∧ _ ∧ _ ∧ _ ∧ _ ∧ _ ∧ _ ∧ _ ∧ _ ∧ _ ∧ _ ∧ _ ∧ _ ∧ _ ∧ _ ∧ _ ∧ _ ∧ _ ∧ _ ∧ _ ∧ _ ∧ _ ∧ _ ∧ _ ∧ _ ∧ _ ∧ _ ∧ _ ∧ _ := ⟨und_2, size_2, agg_2, zero_2, zel_2, small_2, und_3, size_3, agg_3, zero_3, zel_3, small_3, und_5, size_5, agg_5, zero_5, zel_5, small_5, und_9, size_9, agg_9, zero_9, zel_9, small_9, noInt_9, und_28, size_28, agg_28, zero_28, zel_28, small_28, noInt_28, fa_45_0, fd_45_0, fa_45_1, fd_45_1, fa_45_2, fd_45_2, bld_45, size_45, agg_45, zero_45, zel_45, small_45, noInt_45⟩; show W CC 0 8 (keepsOf 116) _ ⟨[(0, _)], []⟩ _)
  obtain ⟨x, hx, hp⟩ := first_run 1 l nl cl hl hr
  clear hr
  (have x0_ := @hb_150; (repeat' (first | with_reducible apply fol | with_reducible refine aRW ?_ | with_reducible refine aRR ?_ | with_reducible refine aRs ?_ | ((with_reducible first | apply RW_gdn | apply RR_gdn | apply RW_gd | apply RR_gd) <;> intro hg <;> first | (cases hg; done) | skip) | with_reducible refine aE1 ?_ | with_reducible refine aE2 ?_ | with_reducible refine aOn ?_ | ((with_reducible refine aCd ?_ ?_) <;> intro hv <;> first | (cases hv; done) | skip) | fail)); all_goals clear x0_)
  all_goals (((with_reducible apply ends_ret); (focus (simp only [CC_P, results, resultsOf, resultOf, get, load, loadCells, nth, cut, mkAgg, trees, res_116, List.length_cons, List.length_nil, List.take, List.drop, Nat.zero_add, Nat.reduceAdd, Nat.reduceLeDiff, if_true, *]; exact rfl)); (focus (first | exact finish_tree' _ _ _ _ | exact finish_tup2 _ _ _ _ _ | exact finish_tup3 _ _ _ _ _ _))))
  all_goals exact ⟨x, ⟨rfl, rfl⟩, hp⟩

end Go.Ab
/- Layer 10 (eval): answers, and what is asked of a node's expressions. -/
namespace Go.Ab
open Go.Proofs
set_option maxRecDepth 100000
set_option maxHeartbeats 4000000
set_option linter.unusedSimpArgs false
set_option linter.unusedVariables false

/-- A value, or an error. -/
structure Ans where
  v : Val
  e : Int
def Ans.c (a : Ans) : List Tree := [.int .u8 a.v.k, .int .i64 a.v.n, .str a.v.s, .int .i64 a.e]
def AZero : Ans := ⟨Zero, 0⟩

theorem told_run (v : Val) (e : Int) : ∃ x : Ans, Om CC 111 [.t (.agg [.int .u8 v.k, .int .i64 v.n, .str v.s]), .t (.int .i64 e)] [] = some (.val (.t (.agg [.int .u8 x.v.k, .int .i64 x.v.n, .str x.v.s, .int .i64 x.e])), []) ∧ (VOK v → VOK x.v) := by
  refine call_ex (F := fun x : Ans => .t (.agg [.int .u8 x.v.k, .int .i64 x.v.n, .str x.v.s, .int .i64 x.e])) fun_111 rfl ?_
  (have F_ : _ ∧ _ ∧ _ ∧ _ ∧ _ ∧ _ ∧ _ ∧ _ ∧ _ ∧ _ ∧ _ ∧ _ ∧ _ ∧ _ ∧ _ ∧ _ ∧ _ ∧ _ ∧ _ ∧ _ ∧ _ ∧ _ ∧ _ ∧ _ ∧ _ ∧ _ ∧ _ ∧ _ ∧ _ ∧ _ ∧ _ ∧ _ ∧ _ ∧ _ ∧ _ ∧ _ ∧ _ ∧ _ ∧ _ ∧ _ ∧ _ ∧ _ ∧ _ ∧ _ ∧ _ ∧ _ ∧ _ ∧ _ ∧ _ := ⟨und_2, size_2, agg_2, zero_2, zel_2, small_2, und_5, size_5, agg_5, zero_5, zel_5, small_5, und_9, size_9, agg_9, zero_9, zel_9, small_9, noInt_9, fa_45_0, fd_45_0, fa_45_1, fd_45_1, fa_45_2, fd_45_2, bld_45, size_45, agg_45, zero_45, zel_45, small_45, noInt_45, und_80, size_80, agg_80, zero_80, zel_80, small_80, fa_155_0, fd_155_0, fa_155_1, fd_155_1, bld_155, size_155, agg_155, zero_155, zel_155, small_155, noInt_155⟩; show W CC 0 11 (keepsOf 111) _ ⟨[(0, _), (1, _)], []⟩ _)
  ((repeat' (first | with_reducible apply fol | with_reducible refine aRW ?_ | with_reducible refine aRR ?_ | with_reducible refine aRs ?_ | ((with_reducible first | apply RW_gdn | apply RR_gdn | apply RW_gd | apply RR_gd) <;> intro hg <;> first | (cases hg; done) | skip) | with_reducible refine aE1 ?_ | with_reducible refine aE2 ?_ | with_reducible refine aOn ?_ | ((with_reducible refine aCd ?_ ?_) <;> intro hv <;> first | (cases hv; done) | skip) | fail)))
  all_goals (((with_reducible apply ends_ret); (focus (simp only [CC_P, results, resultsOf, resultOf, get, load, loadCells, nth, cut, mkAgg, trees, res_111, List.length_cons, List.length_nil, List.take, List.drop, Nat.zero_add, Nat.reduceAdd, Nat.reduceLeDiff, if_true, *]; exact rfl)); (focus (first | exact finish_tree' _ _ _ _ | exact finish_tup2 _ _ _ _ _ | exact finish_tup3 _ _ _ _ _ _))))
  all_goals (refine ⟨⟨⟨_, _, _⟩, _⟩, ⟨rfl, rfl⟩, ?_⟩; first | exact fun _ => VOK_0 | exact fun h => h)
noncomputable def Told (v : Val) (e : Int) : Ans := (told_run v e).choose
theorem told_ok (v : Val) (e : Int) : Om CC 111 [.t (.agg [.int .u8 v.k, .int .i64 v.n, .str v.s]), .t (.int .i64 e)] [] = some (.val (.t (.agg [.int .u8 (Told v e).v.k, .int .i64 (Told v e).v.n, .str (Told v e).v.s, .int .i64 (Told v e).e])), []) := (told_run v e).choose_spec.1
theorem told_p (v : Val) (e : Int) : VOK v → VOK (Told v e).v := (told_run v e).choose_spec.2

theorem fail_run (e : Int) : ∃ x : Ans, Om CC 90 [.t (.int .i64 e)] [] = some (.val (.t (.agg [.int .u8 x.v.k, .int .i64 x.v.n, .str x.v.s, .int .i64 x.e])), []) ∧ (VOK x.v) := by
  refine call_ex (F := fun x : Ans => .t (.agg [.int .u8 x.v.k, .int .i64 x.v.n, .str x.v.s, .int .i64 x.e])) fun_90 rfl ?_
  (have F_ : _ ∧ _ ∧ _ ∧ _ ∧ _ ∧ _ ∧ _ ∧ _ ∧ _ ∧ _ ∧ _ ∧ _ ∧ _ ∧ _ ∧ _ ∧ _ ∧ _ ∧ _ ∧ _ ∧ _ ∧ _ ∧ _ ∧ _ ∧ _ ∧ _ ∧ _ ∧ _ ∧ _ ∧ _ ∧ _ ∧ _ ∧ _ ∧ _ ∧ _ ∧ _ ∧ _ ∧ _ ∧ _ ∧ _ ∧ _ ∧ _ ∧ _ ∧ _ ∧ _ ∧ _ ∧ _ ∧ _ ∧ _ ∧ _ := ⟨und_2, size_2, agg_2, zero_2, zel_2, small_2, und_5, size_5, agg_5, zero_5, zel_5, small_5, und_9, size_9, agg_9, zero_9, zel_9, small_9, noInt_9, fa_45_0, fd_45_0, fa_45_1, fd_45_1, fa_45_2, fd_45_2, bld_45, size_45, agg_45, zero_45, zel_45, small_45, noInt_45, und_80, size_80, agg_80, zero_80, zel_80, small_80, fa_155_0, fd_155_0, fa_155_1, fd_155_1, bld_155, size_155, agg_155, zero_155, zel_155, small_155, noInt_155⟩; show W CC 0 5 (keepsOf 90) _ ⟨[(0, _)], []⟩ _)
  ((repeat' (first | with_reducible apply fol | with_reducible refine aRW ?_ | with_reducible refine aRR ?_ | with_reducible refine aRs ?_ | ((with_reducible first | apply RW_gdn | apply RR_gdn | apply RW_gd | apply RR_gd) <;> intro hg <;> first | (cases hg; done) | skip) | with_reducible refine aE1 ?_ | with_reducible refine aE2 ?_ | with_reducible refine aOn ?_ | ((with_reducible refine aCd ?_ ?_) <;> intro hv <;> first | (cases hv; done) | skip) | fail)))
  all_goals (((with_reducible apply ends_ret); (focus (simp only [CC_P, results, resultsOf, resultOf, get, load, loadCells, nth, cut, mkAgg, trees, res_90, List.length_cons, List.length_nil, List.take, List.drop, Nat.zero_add, Nat.reduceAdd, Nat.reduceLeDiff, if_true, *]; exact rfl)); (focus (first | exact finish_tree' _ _ _ _ | exact finish_tup2 _ _ _ _ _ | exact finish_tup3 _ _ _ _ _ _))))
  all_goals (refine ⟨⟨⟨_, _, _⟩, _⟩, ⟨rfl, rfl⟩, ?_⟩; exact VOK_0)
noncomputable def Fail (e : Int) : Ans := (fail_run e).choose
theorem fail_ok (e : Int) : Om CC 90 [.t (.int .i64 e)] [] = some (.val (.t (.agg [.int .u8 (Fail e).v.k, .int .i64 (Fail e).v.n, .str (Fail e).v.s, .int .i64 (Fail e).e])), []) := (fail_run e).choose_spec.1
theorem fail_p (e : Int) : VOK (Fail e).v := (fail_run e).choose_spec.2

theorem held_run (v : Val) : ∃ x : Ans, Om CC 89 [.t (.agg [.int .u8 v.k, .int .i64 v.n, .str v.s])] [] = some (.val (.t (.agg [.int .u8 x.v.k, .int .i64 x.v.n, .str x.v.s, .int .i64 x.e])), []) ∧ (VOK v → VOK x.v) := by
  refine call_ex (F := fun x : Ans => .t (.agg [.int .u8 x.v.k, .int .i64 x.v.n, .str x.v.s, .int .i64 x.e])) fun_89 rfl ?_
  (have F_ : _ ∧ _ ∧ _ ∧ _ ∧ _ ∧ _ ∧ _ ∧ _ ∧ _ ∧ _ ∧ _ ∧ _ ∧ _ ∧ _ ∧ _ ∧ _ ∧ _ ∧ _ ∧ _ ∧ _ ∧ _ ∧ _ ∧ _ ∧ _ ∧ _ ∧ _ ∧ _ ∧ _ ∧ _ ∧ _ ∧ _ ∧ _ ∧ _ ∧ _ ∧ _ ∧ _ ∧ _ ∧ _ ∧ _ ∧ _ ∧ _ ∧ _ ∧ _ ∧ _ ∧ _ ∧ _ ∧ _ ∧ _ ∧ _ ∧ _ ∧ _ ∧ _ ∧ _ ∧ _ ∧ _ ∧ _ := ⟨und_2, size_2, agg_2, zero_2, zel_2, small_2, und_4, size_4, agg_4, zero_4, zel_4, small_4, noInt_4, und_5, size_5, agg_5, zero_5, zel_5, small_5, und_9, size_9, agg_9, zero_9, zel_9, small_9, noInt_9, fa_45_0, fd_45_0, fa_45_1, fd_45_1, fa_45_2, fd_45_2, bld_45, size_45, agg_45, zero_45, zel_45, small_45, noInt_45, und_80, size_80, agg_80, zero_80, zel_80, small_80, fa_155_0, fd_155_0, fa_155_1, fd_155_1, bld_155, size_155, agg_155, zero_155, zel_155, small_155, noInt_155⟩; show W CC 0 9 (keepsOf 89) _ ⟨[(0, _)], []⟩ _)
  (have x0_ := @mayV_ok; have x1_ := @fail_ok; have x2_ := @hb_131; have x3_ := @hb_90; (repeat' (first | with_reducible apply fol | with_reducible refine aRW ?_ | with_reducible refine aRR ?_ | with_reducible refine aRs ?_ | ((with_reducible first | apply RW_gdn | apply RR_gdn | apply RW_gd | apply RR_gd) <;> intro hg <;> first | (cases hg; done) | skip) | with_reducible refine aE1 ?_ | with_reducible refine aE2 ?_ | with_reducible refine aOn ?_ | ((with_reducible refine aCd ?_ ?_) <;> intro hv <;> first | (cases hv; done) | skip) | fail)); all_goals clear x0_ x1_ x2_ x3_)
  all_goals (((with_reducible apply ends_ret); (focus (simp only [CC_P, results, resultsOf, resultOf, get, load, loadCells, nth, cut, mkAgg, trees, res_89, List.length_cons, List.length_nil, List.take, List.drop, Nat.zero_add, Nat.reduceAdd, Nat.reduceLeDiff, if_true, *]; exact rfl)); (focus (first | exact finish_tree' _ _ _ _ | exact finish_tup2 _ _ _ _ _ | exact finish_tup3 _ _ _ _ _ _))))
  all_goals (refine ⟨⟨⟨_, _, _⟩, _⟩, ⟨rfl, rfl⟩, ?_⟩; first | exact fun _ => fail_p _ | exact fun h => h)
noncomputable def Held (v : Val) : Ans := (held_run v).choose
theorem held_ok (v : Val) : Om CC 89 [.t (.agg [.int .u8 v.k, .int .i64 v.n, .str v.s])] [] = some (.val (.t (.agg [.int .u8 (Held v).v.k, .int .i64 (Held v).v.n, .str (Held v).v.s, .int .i64 (Held v).e])), []) := (held_run v).choose_spec.1
theorem held_p (v : Val) : VOK v → VOK (Held v).v := (held_run v).choose_spec.2

def AOK (a : Ans) : Prop := VOK a.v
def getA (kl : List Ans) (i : Nat) : Ans := kl.getD i AZero
theorem getA_p {kl : List Ans} (h : ∀ a ∈ kl, AOK a) (i : Nat) : VOK (getA kl i).v := by
  unfold getA
  rw [List.getD_eq_getElem?_getD]
  cases hi : kl[i]? with
  | none => exact VOK_0
  | some a => exact h a (List.mem_of_getElem? hi)

theorem get_ok' (nl cl nl2 cl2 : Bool) (kl : List Ans) (ns : List (List Tree)) (i : Nat) : Om CC 132 [.t (.agg [.sl nl cl (kl.map Ans.c), .sl nl2 cl2 ns]), .t (.int .i64 (i : Int))] [] = some (.val (.t (.agg [.int .u8 (getA kl i).v.k, .int .i64 (getA kl i).v.n, .str (getA kl i).v.s, .int .i64 (getA kl i).e])), []) := by
  refine call_eq fun_132 rfl ?_
  (have F_ : _ ∧ _ ∧ _ ∧ _ ∧ _ ∧ _ ∧ _ ∧ _ ∧ _ ∧ _ ∧ _ ∧ _ ∧ _ ∧ _ ∧ _ ∧ _ ∧ _ ∧ _ ∧ _ ∧ _ ∧ _ ∧ _ ∧ _ ∧ _ ∧ _ ∧ _ ∧ _ ∧ _ ∧ _ ∧ _ ∧ _ ∧ _ ∧ _ ∧ _ ∧ _ ∧ _ ∧ _ ∧ _ ∧ _ ∧ _ ∧ _ ∧ _ ∧ _ ∧ _ ∧ _ ∧ _ ∧ _ ∧ _ ∧ _ ∧ _ ∧ _ ∧ _ ∧ _ ∧ _ ∧ _ ∧ _ ∧ _ ∧ _ ∧ _ ∧ _ ∧ _ ∧ _ ∧ _ ∧ _ ∧ _ ∧ _ ∧ _ ∧ _ ∧ _ ∧ _ ∧ _ ∧ _ ∧ _ ∧ _ ∧ _ ∧ _ ∧ _ ∧ _ ∧ _ ∧ _ ∧ _ ∧ _ ∧ _ ∧ _ ∧ _ ∧ _ ∧ _ := ⟨und_2, size_2, agg_2, zero_2, zel_2, small_2, und_3, size_3, agg_3, zero_3, zel_3, small_3, und_4, size_4, agg_4, zero_4, zel_4, small_4, noInt_4, und_5, size_5, agg_5, zero_5, zel_5, small_5, und_9, size_9, agg_9, zero_9, zel_9, small_9, noInt_9, fa_45_0, fd_45_0, fa_45_1, fd_45_1, fa_45_2, fd_45_2, bld_45, size_45, agg_45, zero_45, zel_45, small_45, noInt_45, und_80, size_80, agg_80, zero_80, zel_80, small_80, und_153, size_153, agg_153, zero_153, zel_153, small_153, noInt_153, fa_155_0, fd_155_0, fa_155_1, fd_155_1, bld_155, size_155, agg_155, zero_155, zel_155, small_155, noInt_155, und_156, size_156, agg_156, zero_156, zel_156, small_156, noInt_156, fa_158_0, fd_158_0, fa_158_1, fd_158_1, bld_158, size_158, agg_158, zero_158, zel_158, small_158, noInt_158⟩; show W CC 0 16 (keepsOf 132) _ ⟨[(0, _), (1, _)], []⟩ _)
  by_cases hi : i < kl.length
  · have hd : decide ((i : Int) ≥ kl.length) = false := by simp; omega
    have he : kl[i]? = some kl[i] := List.getElem?_eq_getElem hi
    have hg : getA kl i = kl[i] := by unfold getA; rw [List.getD_eq_getElem?_getD, he]; rfl
    rw [hg]
    generalize kl[i] = a at he
    (have x0_ := @Ans.c.eq_1; (repeat' (first | with_reducible apply fol | with_reducible refine aRW ?_ | with_reducible refine aRR ?_ | with_reducible refine aRs ?_ | ((with_reducible first | apply RW_gdn | apply RR_gdn | apply RW_gd | apply RR_gd) <;> intro hg <;> first | (cases hg; done) | skip) | with_reducible refine aE1 ?_ | with_reducible refine aE2 ?_ | with_reducible refine aOn ?_ | ((with_reducible refine aCd ?_ ?_) <;> intro hv <;> first | (cases hv; done) | skip) | fail)); all_goals clear x0_)
    ((with_reducible apply Ends'_ret); (focus (simp only [CC_P, results, resultsOf, resultOf, get, load, loadCells, nth, cut, mkAgg, trees, res_132, List.length_cons, List.length_nil, List.take, List.drop, Nat.zero_add, Nat.reduceAdd, Nat.reduceLeDiff, if_true, *]; exact rfl)); (focus (first | exact finish_tree' _ _ _ _ | exact finish_tup2 _ _ _ _ _ | exact finish_tup3 _ _ _ _ _ _ | kernel_rfl)))
    · rfl
    · rfl
  · have hd : decide ((i : Int) ≥ kl.length) = true := by simp; omega
    have hg : getA kl i = AZero := by unfold getA; rw [List.getD_eq_getElem?_getD, List.getElem?_eq_none (by omega)]; rfl
    rw [hg]
    (have x0_ := @Ans.c.eq_1; (repeat' (first | with_reducible apply fol | with_reducible refine aRW ?_ | with_reducible refine aRR ?_ | with_reducible refine aRs ?_ | ((with_reducible first | apply RW_gdn | apply RR_gdn | apply RW_gd | apply RR_gd) <;> intro hg <;> first | (cases hg; done) | skip) | with_reducible refine aE1 ?_ | with_reducible refine aE2 ?_ | with_reducible refine aOn ?_ | ((with_reducible refine aCd ?_ ?_) <;> intro hv <;> first | (cases hv; done) | skip) | fail)); all_goals clear x0_)
    ((with_reducible apply Ends'_ret); (focus (simp only [CC_P, results, resultsOf, resultOf, get, load, loadCells, nth, cut, mkAgg, trees, res_132, List.length_cons, List.length_nil, List.take, List.drop, Nat.zero_add, Nat.reduceAdd, Nat.reduceLeDiff, if_true, *]; exact rfl)); (focus (first | exact finish_tree' _ _ _ _ | exact finish_tup2 _ _ _ _ _ | exact finish_tup3 _ _ _ _ _ _ | kernel_rfl)))
    · rfl
    · rfl

theorem truth_run (nl cl nl2 cl2 : Bool) (kl : List Ans) (ns : List (List Tree)) (i : Nat) (hk : ∀ a ∈ kl, AOK a) : ∃ x : Ans, Om CC 92 [.t (.agg [.sl nl cl (kl.map Ans.c), .sl nl2 cl2 ns]), .t (.int .i64 (i : Int))] [] = some (.val (.t (.agg [.int .u8 x.v.k, .int .i64 x.v.n, .str x.v.s, .int .i64 x.e])), []) ∧ VOK x.v := by
  refine call_ex (F := fun x : Ans => .t (.agg [.int .u8 x.v.k, .int .i64 x.v.n, .str x.v.s, .int .i64 x.e])) fun_92 rfl ?_
  (have F_ : _ ∧ _ ∧ _ ∧ _ ∧ _ ∧ _ ∧ _ ∧ _ ∧ _ ∧ _ ∧ _ ∧ _ ∧ _ ∧ _ ∧ _ ∧ _ ∧ _ ∧ _ ∧ _ ∧ _ ∧ _ ∧ _ ∧ _ ∧ _ ∧ _ ∧ _ ∧ _ ∧ _ ∧ _ ∧ _ ∧ _ ∧ _ ∧ _ ∧ _ ∧ _ ∧ _ ∧ _ ∧ _ ∧ _ ∧ _ ∧ _ ∧ _ ∧ _ ∧ _ ∧ _ ∧ _ ∧ _ ∧ _ ∧ _ ∧ _ ∧ _ ∧ _ ∧ _ ∧ _ ∧ _ ∧ _ ∧ _ ∧ _ ∧ _ ∧ _ ∧ _ ∧ _ ∧ _ ∧ _ ∧ _ ∧ _ ∧ _ ∧ _ ∧ _ ∧ _ ∧ _ ∧ _ ∧ _ ∧ _ ∧ _ ∧ _ ∧ _ ∧ _ ∧ _ ∧ _ ∧ _ ∧ _ ∧ _ ∧ _ ∧ _ ∧ _ ∧ _ := ⟨und_2, size_2, agg_2, zero_2, zel_2, small_2, und_3, size_3, agg_3, zero_3, zel_3, small_3, und_4, size_4, agg_4, zero_4, zel_4, small_4, noInt_4, und_5, size_5, agg_5, zero_5, zel_5, small_5, und_9, size_9, agg_9, zero_9, zel_9, small_9, noInt_9, fa_45_0, fd_45_0, fa_45_1, fd_45_1, fa_45_2, fd_45_2, bld_45, size_45, agg_45, zero_45, zel_45, small_45, noInt_45, und_80, size_80, agg_80, zero_80, zel_80, small_80, und_153, size_153, agg_153, zero_153, zel_153, small_153, noInt_153, fa_155_0, fd_155_0, fa_155_1, fd_155_1, bld_155, size_155, agg_155, zero_155, zel_155, small_155, noInt_155, und_156, size_156, agg_156, zero_156, zel_156, small_156, noInt_156, fa_158_0, fd_158_0, fa_158_1, fd_158_1, bld_158, size_158, agg_158, zero_158, zel_158, small_158, noInt_158⟩; show W CC 0 26 (keepsOf 92) _ ⟨[(0, _), (1, _)], []⟩ _)
  have hg := get_ok' nl cl nl2 cl2 kl ns i
  have hp := getA_p hk i
  clear hk
  (have x0_ := @fail_ok; have x1_ := @hb_132; have x2_ := @hb_90; (repeat' (first | with_reducible apply fol | with_reducible refine aRW ?_ | with_reducible refine aRR ?_ | with_reducible refine aRs ?_ | ((with_reducible first | apply RW_gdn | apply RR_gdn | apply RW_gd | apply RR_gd) <;> intro hg <;> first | (cases hg; done) | skip) | with_reducible refine aE1 ?_ | with_reducible refine aE2 ?_ | with_reducible refine aOn ?_ | ((with_reducible refine aCd ?_ ?_) <;> intro hv <;> first | (cases hv; done) | skip) | fail)); all_goals clear x0_ x1_ x2_)
  all_goals (((with_reducible apply ends_ret); (focus (simp only [CC_P, results, resultsOf, resultOf, get, load, loadCells, nth, cut, mkAgg, trees, res_92, List.length_cons, List.length_nil, List.take, List.drop, Nat.zero_add, Nat.reduceAdd, Nat.reduceLeDiff, if_true, *]; exact rfl)); (focus (first | exact finish_tree' _ _ _ _ | exact finish_tup2 _ _ _ _ _ | exact finish_tup3 _ _ _ _ _ _))))
  all_goals first | exact ⟨getA kl i, ⟨rfl, rfl⟩, hp⟩ | exact ⟨Fail 8, ⟨rfl, rfl⟩, fail_p _⟩

theorem isNull_run (l : List Val) (nl cl : Bool) (hl : l.length < 9223372036854775808) : ∃ x : Bool, Om CC 136 [.t (.sl nl cl (l.map Val.c))] [] = some (.val (.t (.bool x)), []) ∧ True := by
  refine call_ex (F := fun x : Bool => .t (.bool x)) fun_136 rfl ?_
  (have F_ : _ ∧ _ ∧ _ ∧ _ ∧ _ ∧ _ ∧ _ ∧ _ ∧ _ ∧ _ ∧ _ ∧ _ ∧ _ ∧ _ ∧ _ ∧ _ ∧ _ ∧ _ ∧ _ ∧ _ ∧ _ ∧ _ ∧ _ ∧ _ ∧ _ ∧ _ ∧ _ ∧ _ ∧ _ ∧ _ ∧ _ ∧ _ ∧ _ ∧ _ ∧ _ ∧ _ ∧ _ ∧ _ ∧ _ ∧ _ ∧ _ ∧ _ ∧ _ ∧ _ ∧ _ := ⟨und_2, size_2, agg_2, zero_2, zel_2, small_2, und_3, size_3, agg_3, zero_3, zel_3, small_3, und_5, size_5, agg_5, zero_5, zel_5, small_5, und_9, size_9, agg_9, zero_9, zel_9, small_9, noInt_9, und_28, size_28, agg_28, zero_28, zel_28, small_28, noInt_28, fa_45_0, fd_45_0, fa_45_1, fd_45_1, fa_45_2, fd_45_2, bld_45, size_45, agg_45, zero_45, zel_45, small_45, noInt_45⟩; show W CC 0 15 (keepsOf 136) _ ⟨[(0, _)], []⟩ _)
  ((repeat' (first | with_reducible apply fol | with_reducible refine aRW ?_ | with_reducible refine aRR ?_ | with_reducible refine aRs ?_ | ((with_reducible first | apply RW_gdn | apply RR_gdn | apply RW_gd | apply RR_gd) <;> intro hg <;> first | (cases hg; done) | skip) | with_reducible refine aE1 ?_ | with_reducible refine aE2 ?_ | with_reducible refine aOn ?_ | ((with_reducible refine aCd ?_ ?_) <;> intro hv <;> first | (cases hv; done) | skip) | fail)))
  refine W_rounds (α := Nat) (fun i => ⟨[(5, .t (.sl nl cl (l.map Val.c))), (6, .t (.int .i64 l.length)), (7, .t (.int .i64 i))], []⟩) (fun i => l.length - i) (fun i => i ≤ l.length) 0 (by kernel_rfl) (Nat.zero_le _) ?_
  intro i hi
  by_cases hi' : i < l.length
  · have hw : IntKind.i64.wrap ((i : Int) + 1) = ((i + 1 : Nat) : Int) := by rw [wrap64] <;> omega
    have he : l[i]? = some l[i] := List.getElem?_eq_getElem hi'
    have hd : decide ((i : Int) < l.length) = true := by simpa using hi'
    generalize l[i] = v at he
    ((repeat' (first | with_reducible apply fol | with_reducible refine aRW ?_ | with_reducible refine aRR ?_ | with_reducible refine aRs ?_ | ((with_reducible first | apply RW_gdn | apply RR_gdn | apply RW_gd | apply RR_gd) <;> intro hg <;> first | (cases hg; done) | skip) | with_reducible refine aE1 ?_ | with_reducible refine aE2 ?_ | with_reducible refine aOn ?_ | ((with_reducible refine aCd ?_ ?_) <;> intro hv <;> first | (cases hv; done) | skip) | fail)))
    all_goals first
      | (((with_reducible apply ends_ret); (focus (simp only [CC_P, results, resultsOf, resultOf, get, res_136, *]; exact rfl)); (focus (first | exact finish_tree' _ _ _ _ | exact finish_tup2 _ _ _ _ _ | exact finish_tup3 _ _ _ _ _ _))); exact ⟨_, ⟨rfl, rfl⟩, trivial⟩)
      | exact again_normal (i + 1) (by omega) (by omega) (by kernel_rfl)
  · have hd : decide ((i : Int) < l.length) = false := by simpa using hi'
    ((repeat' (first | with_reducible apply fol | with_reducible refine aRW ?_ | with_reducible refine aRR ?_ | with_reducible refine aRs ?_ | ((with_reducible first | apply RW_gdn | apply RR_gdn | apply RW_gd | apply RR_gd) <;> intro hg <;> first | (cases hg; done) | skip) | with_reducible refine aE1 ?_ | with_reducible refine aE2 ?_ | with_reducible refine aOn ?_ | ((with_reducible refine aCd ?_ ?_) <;> intro hv <;> first | (cases hv; done) | skip) | fail)))
    ((with_reducible apply ends_ret); (focus (simp only [CC_P, results, resultsOf, resultOf, get, res_136, *]; exact rfl)); (focus (first | exact finish_tree' _ _ _ _ | exact finish_tup2 _ _ _ _ _ | exact finish_tup3 _ _ _ _ _ _)))
    exact ⟨_, ⟨rfl, rfl⟩, trivial⟩

theorem fits_run (a b : Int) (l : List Val) (nl cl : Bool) (hl : l.length < 9223372036854775808) : ∃ x : Bool, Om CC 138 [.t (.int .u8 a), .t (.int .u8 b), .t (.sl nl cl (l.map Val.c))] [] = some (.val (.t (.bool x)), []) ∧ True := by
  refine call_ex (F := fun x : Bool => .t (.bool x)) fun_138 rfl ?_
  (have F_ : _ ∧ _ ∧ _ ∧ _ ∧ _ ∧ _ ∧ _ ∧ _ ∧ _ ∧ _ ∧ _ ∧ _ ∧ _ ∧ _ ∧ _ ∧ _ ∧ _ ∧ _ ∧ _ ∧ _ ∧ _ ∧ _ ∧ _ ∧ _ ∧ _ ∧ _ ∧ _ ∧ _ ∧ _ ∧ _ ∧ _ ∧ _ ∧ _ ∧ _ ∧ _ ∧ _ ∧ _ ∧ _ ∧ _ ∧ _ ∧ _ ∧ _ ∧ _ ∧ _ ∧ _ := ⟨und_2, size_2, agg_2, zero_2, zel_2, small_2, und_3, size_3, agg_3, zero_3, zel_3, small_3, und_5, size_5, agg_5, zero_5, zel_5, small_5, und_9, size_9, agg_9, zero_9, zel_9, small_9, noInt_9, und_28, size_28, agg_28, zero_28, zel_28, small_28, noInt_28, fa_45_0, fd_45_0, fa_45_1, fd_45_1, fa_45_2, fd_45_2, bld_45, size_45, agg_45, zero_45, zel_45, small_45, noInt_45⟩; show W CC 0 31 (keepsOf 138) _ ⟨[(0, _), (1, _), (2, _)], []⟩ _)
  ((repeat' (first | with_reducible apply fol | with_reducible refine aRW ?_ | with_reducible refine aRR ?_ | with_reducible refine aRs ?_ | ((with_reducible first | apply RW_gdn | apply RR_gdn | apply RW_gd | apply RR_gd) <;> intro hg <;> first | (cases hg; done) | skip) | with_reducible refine aE1 ?_ | with_reducible refine aE2 ?_ | with_reducible refine aOn ?_ | ((with_reducible refine aCd ?_ ?_) <;> intro hv <;> first | (cases hv; done) | skip) | fail)))
  refine W_rounds (α := Nat) (fun i => ⟨[(0, .t (.int .u8 a)), (1, .t (.int .u8 b)), (9, .t (.sl nl cl (l.map Val.c))), (10, .t (.int .i64 l.length)), (11, .t (.int .i64 i))], []⟩) (fun i => l.length - i) (fun i => i ≤ l.length) 0 (by kernel_rfl) (Nat.zero_le _) ?_
  intro i hi
  by_cases hi' : i < l.length
  · have hw : IntKind.i64.wrap ((i : Int) + 1) = ((i + 1 : Nat) : Int) := by rw [wrap64] <;> omega
    have he : l[i]? = some l[i] := List.getElem?_eq_getElem hi'
    have hd : decide ((i : Int) < l.length) = true := by simpa using hi'
    generalize l[i] = v at he
    ((repeat' (first | with_reducible apply fol | with_reducible refine aRW ?_ | with_reducible refine aRR ?_ | with_reducible refine aRs ?_ | ((with_reducible first | apply RW_gdn | apply RR_gdn | apply RW_gd | apply RR_gd) <;> intro hg <;> first | (cases hg; done) | skip) | with_reducible refine aE1 ?_ | with_reducible refine aE2 ?_ | with_reducible refine aOn ?_ | ((with_reducible refine aCd ?_ ?_) <;> intro hv <;> first | (cases hv; done) | skip) | fail)))
    all_goals first
      | (((with_reducible apply ends_ret); (focus (simp only [CC_P, results, resultsOf, resultOf, get, res_138, *]; exact rfl)); (focus (first | exact finish_tree' _ _ _ _ | exact finish_tup2 _ _ _ _ _ | exact finish_tup3 _ _ _ _ _ _))); exact ⟨_, ⟨rfl, rfl⟩, trivial⟩)
      | exact again_normal (i + 1) (by omega) (by omega) (by kernel_rfl)
  · have hd : decide ((i : Int) < l.length) = false := by simpa using hi'
    ((repeat' (first | with_reducible apply fol | with_reducible refine aRW ?_ | with_reducible refine aRR ?_ | with_reducible refine aRs ?_ | ((with_reducible first | apply RW_gdn | apply RR_gdn | apply RW_gd | apply RR_gd) <;> intro hg <;> first | (cases hg; done) | skip) | with_reducible refine aE1 ?_ | with_reducible refine aE2 ?_ | with_reducible refine aOn ?_ | ((with_reducible refine aCd ?_ ?_) <;> intro hv <;> first | (cases hv; done) | skip) | fail)))
    ((with_reducible apply ends_ret); (focus (simp only [CC_P, results, resultsOf, resultOf, get, res_138, *]; exact rfl)); (focus (first | exact finish_tree' _ _ _ _ | exact finish_tup2 _ _ _ _ _ | exact finish_tup3 _ _ _ _ _ _)))
    exact ⟨_, ⟨rfl, rfl⟩, trivial⟩

theorem choice_run (nl cl nl2 cl2 : Bool) (kl : List Ans) (ns : List (List Tree)) (hk : ∀ a ∈ kl, AOK a) : ∃ x : Ans, Om CC 122 [.t (.agg [.sl nl cl (kl.map Ans.c), .sl nl2 cl2 ns])] [] = some (.val (.t (.agg [.int .u8 x.v.k, .int .i64 x.v.n, .str x.v.s, .int .i64 x.e])), []) ∧ VOK x.v := by
  refine call_ex (F := fun x : Ans => .t (.agg [.int .u8 x.v.k, .int .i64 x.v.n, .str x.v.s, .int .i64 x.e])) fun_122 rfl ?_
  (have F_ : _ ∧ _ ∧ _ ∧ _ ∧ _ ∧ _ ∧ _ ∧ _ ∧ _ ∧ _ ∧ _ ∧ _ ∧ _ ∧ _ ∧ _ ∧ _ ∧ _ ∧ _ ∧ _ ∧ _ ∧ _ ∧ _ ∧ _ ∧ _ ∧ _ ∧ _ ∧ _ ∧ _ ∧ _ ∧ _ ∧ _ ∧ _ ∧ _ ∧ _ ∧ _ ∧ _ ∧ _ ∧ _ ∧ _ ∧ _ ∧ _ ∧ _ ∧ _ ∧ _ ∧ _ ∧ _ ∧ _ ∧ _ ∧ _ ∧ _ ∧ _ ∧ _ ∧ _ ∧ _ ∧ _ ∧ _ ∧ _ ∧ _ ∧ _ ∧ _ ∧ _ ∧ _ ∧ _ ∧ _ ∧ _ ∧ _ ∧ _ ∧ _ ∧ _ ∧ _ ∧ _ ∧ _ ∧ _ ∧ _ ∧ _ ∧ _ ∧ _ ∧ _ ∧ _ ∧ _ ∧ _ ∧ _ ∧ _ ∧ _ ∧ _ ∧ _ ∧ _ := ⟨und_2, size_2, agg_2, zero_2, zel_2, small_2, und_3, size_3, agg_3, zero_3, zel_3, small_3, und_4, size_4, agg_4, zero_4, zel_4, small_4, noInt_4, und_5, size_5, agg_5, zero_5, zel_5, small_5, und_9, size_9, agg_9, zero_9, zel_9, small_9, noInt_9, fa_45_0, fd_45_0, fa_45_1, fd_45_1, fa_45_2, fd_45_2, bld_45, size_45, agg_45, zero_45, zel_45, small_45, noInt_45, und_80, size_80, agg_80, zero_80, zel_80, small_80, und_153, size_153, agg_153, zero_153, zel_153, small_153, noInt_153, fa_155_0, fd_155_0, fa_155_1, fd_155_1, bld_155, size_155, agg_155, zero_155, zel_155, small_155, noInt_155, und_156, size_156, agg_156, zero_156, zel_156, small_156, noInt_156, fa_158_0, fd_158_0, fa_158_1, fd_158_1, bld_158, size_158, agg_158, zero_158, zel_158, small_158, noInt_158⟩; show W CC 0 26 (keepsOf 122) _ ⟨[(0, _)], []⟩ _)
  obtain ⟨t, ht, htp⟩ := truth_run nl cl nl2 cl2 kl ns 0 hk
  have g1 := get_ok' nl cl nl2 cl2 kl ns 1
  have g2 := get_ok' nl cl nl2 cl2 kl ns 2
  have p1 := getA_p hk 1
  have p2 := getA_p hk 2
  clear hk
  simp only [Int.cast_ofNat_Int] at ht g1 g2
  have ht : Om CC 92 [.t (.agg [.sl nl cl (kl.map Ans.c), .sl nl2 cl2 ns]), .t (.int .i64 0)] [] = _ := ht
  have g1 : Om CC 132 [.t (.agg [.sl nl cl (kl.map Ans.c), .sl nl2 cl2 ns]), .t (.int .i64 1)] [] = _ := g1
  have g2 : Om CC 132 [.t (.agg [.sl nl cl (kl.map Ans.c), .sl nl2 cl2 ns]), .t (.int .i64 2)] [] = _ := g2
  (have x0_ := @hb_132; have x1_ := @hb_92; (repeat' (first | with_reducible apply fol | with_reducible refine aRW ?_ | with_reducible refine aRR ?_ | with_reducible refine aRs ?_ | ((with_reducible first | apply RW_gdn | apply RR_gdn | apply RW_gd | apply RR_gd) <;> intro hg <;> first | (cases hg; done) | skip) | with_reducible refine aE1 ?_ | with_reducible refine aE2 ?_ | with_reducible refine aOn ?_ | ((with_reducible refine aCd ?_ ?_) <;> intro hv <;> first | (cases hv; done) | skip) | fail)); all_goals clear x0_ x1_)
  all_goals (((with_reducible apply ends_ret); (focus (simp only [CC_P, results, resultsOf, resultOf, get, load, loadCells, nth, cut, mkAgg, trees, res_122, List.length_cons, List.length_nil, List.take, List.drop, Nat.zero_add, Nat.reduceAdd, Nat.reduceLeDiff, if_true, *]; exact rfl)); (focus (first | exact finish_tree' _ _ _ _ | exact finish_tup2 _ _ _ _ _ | exact finish_tup3 _ _ _ _ _ _))))
  all_goals first | exact ⟨t, ⟨rfl, rfl⟩, htp⟩ | exact ⟨getA kl 1, ⟨rfl, rfl⟩, p1⟩ | exact ⟨getA kl 2, ⟨rfl, rfl⟩, p2⟩

end Go.Ab
/- Layer 10 (eval): the first expressions of a node, from the left. -/
namespace Go.Ab
open Go.Proofs
set_option maxRecDepth 100000
set_option maxHeartbeats 4000000
set_option linter.unusedSimpArgs false
set_option linter.unusedVariables false

theorem left0_run (f : Nat) (hb : hasBody Tryz.prog f = true) (hbp : f ≠ 101) (nl cl nl2 cl2 : Bool) (kl : List Ans) (ns : List (List Tree)) (n : Nat) (hn : n < 4294967295) (hk : ∀ a ∈ kl, AOK a)
    (hdo : ∀ (l : List Val) (x y : Bool), l.length = n → (∀ v ∈ l, VOK v) → ∃ a : Ans, Om CC f [.t (.sl x y (l.map Val.c))] [] = some (.val (.t (.agg [.int .u8 a.v.k, .int .i64 a.v.n, .str a.v.s, .int .i64 a.e])), []) ∧ AOK a) :
    ∃ x : Ans, Om CC 109 [.t (.agg [.sl nl cl (kl.map Ans.c), .sl nl2 cl2 ns]), .t (.int .i64 (n : Int)), .t (.fn f)] [] = some (.val (.t (.agg [.int .u8 x.v.k, .int .i64 x.v.n, .str x.v.s, .int .i64 x.e])), []) ∧ AOK x := by
  refine call_exh (F := fun x : Ans => .t (.agg [.int .u8 x.v.k, .int .i64 x.v.n, .str x.v.s, .int .i64 x.e])) fun_109 rfl ?_
  (have F_ : _ ∧ _ ∧ _ ∧ _ ∧ _ ∧ _ ∧ _ ∧ _ ∧ _ ∧ _ ∧ _ ∧ _ ∧ _ ∧ _ ∧ _ ∧ _ ∧ _ ∧ _ ∧ _ ∧ _ ∧ _ ∧ _ ∧ _ ∧ _ ∧ _ ∧ _ ∧ _ ∧ _ ∧ _ ∧ _ ∧ _ ∧ _ ∧ _ ∧ _ ∧ _ ∧ _ ∧ _ ∧ _ ∧ _ ∧ _ ∧ _ ∧ _ ∧ _ ∧ _ ∧ _ ∧ _ ∧ _ ∧ _ ∧ _ ∧ _ ∧ _ ∧ _ ∧ _ ∧ _ ∧ _ ∧ _ ∧ _ ∧ _ ∧ _ ∧ _ ∧ _ ∧ _ ∧ _ ∧ _ ∧ _ ∧ _ ∧ _ ∧ _ ∧ _ ∧ _ ∧ _ ∧ _ ∧ _ ∧ _ ∧ _ ∧ _ ∧ _ ∧ _ ∧ _ ∧ _ ∧ _ ∧ _ ∧ _ ∧ _ ∧ _ ∧ _ ∧ _ ∧ _ ∧ _ ∧ _ ∧ _ ∧ _ ∧ _ ∧ _ ∧ _ ∧ _ ∧ _ ∧ _ ∧ _ ∧ _ := ⟨und_2, size_2, agg_2, zero_2, zel_2, small_2, und_3, size_3, agg_3, zero_3, zel_3, small_3, und_4, size_4, agg_4, zero_4, zel_4, small_4, noInt_4, und_5, size_5, agg_5, zero_5, zel_5, small_5, und_9, size_9, agg_9, zero_9, zel_9, small_9, noInt_9, und_28, size_28, agg_28, zero_28, zel_28, small_28, noInt_28, fa_45_0, fd_45_0, fa_45_1, fd_45_1, fa_45_2, fd_45_2, bld_45, size_45, agg_45, zero_45, zel_45, small_45, noInt_45, und_80, size_80, agg_80, zero_80, zel_80, small_80, und_153, size_153, agg_153, zero_153, zel_153, small_153, noInt_153, fa_155_0, fd_155_0, fa_155_1, fd_155_1, bld_155, size_155, agg_155, zero_155, zel_155, small_155, noInt_155, und_156, size_156, agg_156, zero_156, zel_156, small_156, noInt_156, fa_158_0, fd_158_0, fa_158_1, fd_158_1, bld_158, size_158, agg_158, zero_158, zel_158, small_158, noInt_158, size_190, agg_190, zero_190, zel_190, small_190, noInt_190⟩; show W CC 0 30 (keepsOf 109) _ ⟨[(0, _), (1, _), (2, _)], []⟩ _)
  ((repeat' (first | with_reducible apply fol | with_reducible refine aRW ?_ | with_reducible refine aRR ?_ | with_reducible refine aRs ?_ | ((with_reducible first | apply RW_gdn | apply RR_gdn | apply RW_gd | apply RR_gd) <;> intro hg <;> first | (cases hg; done) | skip) | with_reducible refine aE1 ?_ | with_reducible refine aE2 ?_ | with_reducible refine aOn ?_ | ((with_reducible refine aCd ?_ ?_) <;> intro hv <;> first | (cases hv; done) | skip) | fail)))
  refine W_rounds (α := Nat × Bool × List Val) (fun a => ⟨[(2, .t (.fn f)), (3, .box 0 0), (6, .box 1 0), (7, match a.2.1 with | true => .hs 2 0 | false => .t (.sl true true [])), (10, .t (.int .i64 (n : Int))), (11, .t (.int .i64 a.1))],
      match a.2.1 with | true => [.box [.t (.sl nl cl (kl.map Ans.c)), .t (.sl nl2 cl2 ns)], .box (AZero.c.map .t), .arr 3 0 false (a.2.2.map Val.c)] | false => [.box [.t (.sl nl cl (kl.map Ans.c)), .t (.sl nl2 cl2 ns)], .box (AZero.c.map .t)]⟩)
    (fun a => n - a.1) (fun a => a.1 ≤ n ∧ a.2.2.length = a.1 ∧ (a.2.1 = false → a.2.2 = []) ∧ ∀ v ∈ a.2.2, VOK v) (0, false, []) (by kernel_rfl) ⟨Nat.zero_le _, rfl, fun _ => rfl, fun v hv => (by cases hv)⟩ ?_
  rintro ⟨i, st, out⟩ ⟨hi, ho, hno, hor⟩
  try dsimp only at hi ho hno hor
  have hle : lens 3 (out.map Val.c) = true := lens_map Val.c 3 (fun a => rfl) out
  simp only [AZero, Zero, Ans.c, List.map_cons, List.map_nil]
  by_cases hi' : i < n
  · have hw : IntKind.i64.wrap ((i : Int) + 1) = ((i + 1 : Nat) : Int) := by rw [wrap64] <;> omega
    have hd : decide ((i : Int) < (n : Int)) = true := by simpa using hi'
    have hsm : decide (i + 1 < 4294967296) = true := by simp; omega
    have hg := get_ok' nl cl nl2 cl2 kl ns i
    have hp := getA_p hk i
    generalize getA kl i = g at hg hp
    clear hk hdo
    cases st with
    | true =>
      clear hno
      (have x0_ := @hb_132; (repeat' (first | with_reducible apply fol | with_reducible refine aRW ?_ | with_reducible refine aRR ?_ | with_reducible refine aRs ?_ | ((with_reducible first | apply RW_gdn | apply RR_gdn | apply RW_gd | apply RR_gd) <;> intro hg <;> first | (cases hg; done) | skip) | with_reducible refine aE1 ?_ | with_reducible refine aE2 ?_ | with_reducible refine aOn ?_ | ((with_reducible refine aCd ?_ ?_) <;> intro hv <;> first | (cases hv; done) | skip) | fail)); all_goals clear x0_)
      · ((with_reducible apply ends_ret); (focus (simp only [CC_P, results, resultsOf, resultOf, get, load, loadCells, nth, cut, mkAgg, trees, res_109, List.length_cons, List.length_nil, List.take, List.drop, Nat.zero_add, Nat.reduceAdd, Nat.reduceLeDiff, if_true, *]; exact rfl)); (focus (simp only [finish, thaw_109, exports, viewedO, viewed, view, freeze, patch, catMap, canon, reach, refsL, refs, depth, renL, ren, sub, sub1, upto, List.map, List.take, List.length_nil, List.append_nil] <;> exact rfl)))
        exact ⟨g, ⟨rfl, rfl⟩, hp⟩
      · refine again_normal (i + 1, true, out ++ [g.v]) (by first | omega | (dsimp only; omega)) ⟨by first | omega | (dsimp only; omega), by simp [ho], fun h => (by cases h), fun x hx => ?_⟩ (by (simp only [loopKeep, firstRegion, keepsOf, tidy, canon, reach, refsL, refs, refsO, catMap, depth, renL, ren, renO, sub, sub1, upto, mem, place, fresh, cond_true, get, nth, List.map, List.zip_cons_cons, List.zip_nil_right, List.take, List.append_nil, List.nil_append, List.cons_append, Bool.and_true, beq_dec, decide_true, decide_false, Nat.reduceEqDiff, Val.c, List.map_append] <;> exact rfl))
        rcases List.mem_append.1 hx with h | h
        · exact hor x h
        · rw [List.mem_singleton.1 h]; exact hp
    | false =>
      have h0 := hno rfl
      subst h0
      simp at ho
      subst ho
      clear hno hor
      (have x0_ := @hb_132; (repeat' (first | with_reducible apply fol | with_reducible refine aRW ?_ | with_reducible refine aRR ?_ | with_reducible refine aRs ?_ | ((with_reducible first | apply RW_gdn | apply RR_gdn | apply RW_gd | apply RR_gd) <;> intro hg <;> first | (cases hg; done) | skip) | with_reducible refine aE1 ?_ | with_reducible refine aE2 ?_ | with_reducible refine aOn ?_ | ((with_reducible refine aCd ?_ ?_) <;> intro hv <;> first | (cases hv; done) | skip) | fail)); all_goals clear x0_)
      · ((with_reducible apply ends_ret); (focus (simp only [CC_P, results, resultsOf, resultOf, get, load, loadCells, nth, cut, mkAgg, trees, res_109, List.length_cons, List.length_nil, List.take, List.drop, Nat.zero_add, Nat.reduceAdd, Nat.reduceLeDiff, if_true, *]; exact rfl)); (focus (simp only [finish, thaw_109, exports, viewedO, viewed, view, freeze, patch, catMap, canon, reach, refsL, refs, depth, renL, ren, sub, sub1, upto, List.map, List.take, List.length_nil, List.append_nil] <;> exact rfl)))
        exact ⟨g, ⟨rfl, rfl⟩, hp⟩
      · refine again_normal (1, true, [g.v]) (by first | omega | (dsimp only; omega)) ⟨by first | omega | (dsimp only; omega), by simp, fun h => (by cases h), fun x hx => ?_⟩ (by (simp only [loopKeep, firstRegion, keepsOf, tidy, canon, reach, refsL, refs, refsO, catMap, depth, renL, ren, renO, sub, sub1, upto, mem, place, fresh, cond_true, get, nth, List.map, List.zip_cons_cons, List.zip_nil_right, List.take, List.append_nil, List.nil_append, List.cons_append, Bool.and_true, beq_dec, decide_true, decide_false, Nat.reduceEqDiff, Val.c] <;> exact rfl))
        rw [List.mem_singleton.1 hx]; exact hp
  · have hd : decide ((i : Int) < (n : Int)) = false := by simpa using hi'
    cases st with
    | true =>
      obtain ⟨a, ha, hap⟩ := hdo out false false (by omega) hor
      clear hdo hor hk hno
      ((repeat' (first | with_reducible apply fol | with_reducible refine aRW ?_ | with_reducible refine aRR ?_ | with_reducible refine aRs ?_ | ((with_reducible first | apply RW_gdn | apply RR_gdn | apply RW_gd | apply RR_gd) <;> intro hg <;> first | (cases hg; done) | skip) | with_reducible refine aE1 ?_ | with_reducible refine aE2 ?_ | with_reducible refine aOn ?_ | ((with_reducible refine aCd ?_ ?_) <;> intro hv <;> first | (cases hv; done) | skip) | fail)))
      ((with_reducible apply ends_ret); (focus (simp only [CC_P, results, resultsOf, resultOf, get, load, loadCells, nth, cut, mkAgg, trees, res_109, List.length_cons, List.length_nil, List.take, List.drop, Nat.zero_add, Nat.reduceAdd, Nat.reduceLeDiff, if_true, *]; exact rfl)); (focus (simp only [finish, thaw_109, exports, viewedO, viewed, view, freeze, patch, catMap, canon, reach, refsL, refs, depth, renL, ren, sub, sub1, upto, List.map, List.take, List.length_nil, List.append_nil] <;> exact rfl)))
      exact ⟨a, ⟨rfl, rfl⟩, hap⟩
    | false =>
      have h0 := hno rfl
      subst h0
      obtain ⟨a, ha, hap⟩ := hdo [] true true (by omega) (fun v hv => (by cases hv))
      simp only [List.map_nil] at ha
      clear hdo hor hk hno
      ((repeat' (first | with_reducible apply fol | with_reducible refine aRW ?_ | with_reducible refine aRR ?_ | with_reducible refine aRs ?_ | ((with_reducible first | apply RW_gdn | apply RR_gdn | apply RW_gd | apply RR_gd) <;> intro hg <;> first | (cases hg; done) | skip) | with_reducible refine aE1 ?_ | with_reducible refine aE2 ?_ | with_reducible refine aOn ?_ | ((with_reducible refine aCd ?_ ?_) <;> intro hv <;> first | (cases hv; done) | skip) | fail)))
      ((with_reducible apply ends_ret); (focus (simp only [CC_P, results, resultsOf, resultOf, get, load, loadCells, nth, cut, mkAgg, trees, res_109, List.length_cons, List.length_nil, List.take, List.drop, Nat.zero_add, Nat.reduceAdd, Nat.reduceLeDiff, if_true, *]; exact rfl)); (focus (simp only [finish, thaw_109, exports, viewedO, viewed, view, freeze, patch, catMap, canon, reach, refsL, refs, depth, renL, ren, sub, sub1, upto, List.map, List.take, List.length_nil, List.append_nil] <;> exact rfl)))
      exact ⟨a, ⟨rfl, rfl⟩, hap⟩

theorem left1_run (f : Nat) (hb : hasBody Tryz.prog f = true) (hbp : f ≠ 101) (w00 : Tree) (nl cl nl2 cl2 : Bool) (kl : List Ans) (ns : List (List Tree)) (n : Nat) (hn : n < 4294967295) (hk : ∀ a ∈ kl, AOK a)
    (hdo : ∀ (l : List Val) (x y : Bool), l.length = n → (∀ v ∈ l, VOK v) → ∃ a : Ans, Om CC f [.t (.sl x y (l.map Val.c)), .box 0 0] [.box [.t w00]] = some (.val (.t (.agg [.int .u8 a.v.k, .int .i64 a.v.n, .str a.v.s, .int .i64 a.e])), [.box [.t w00]]) ∧ AOK a) :
    ∃ x : Ans, Om CC 109 [.t (.agg [.sl nl cl (kl.map Ans.c), .sl nl2 cl2 ns]), .t (.int .i64 (n : Int)), .fn f [] [.box 0 0]] [.box [.t w00]] = some (.val (.t (.agg [.int .u8 x.v.k, .int .i64 x.v.n, .str x.v.s, .int .i64 x.e])), [.box [.t w00]]) ∧ AOK x := by
  refine call_exh (F := fun x : Ans => .t (.agg [.int .u8 x.v.k, .int .i64 x.v.n, .str x.v.s, .int .i64 x.e])) fun_109 rfl ?_
  (have F_ : _ ∧ _ ∧ _ ∧ _ ∧ _ ∧ _ ∧ _ ∧ _ ∧ _ ∧ _ ∧ _ ∧ _ ∧ _ ∧ _ ∧ _ ∧ _ ∧ _ ∧ _ ∧ _ ∧ _ ∧ _ ∧ _ ∧ _ ∧ _ ∧ _ ∧ _ ∧ _ ∧ _ ∧ _ ∧ _ ∧ _ ∧ _ ∧ _ ∧ _ ∧ _ ∧ _ ∧ _ ∧ _ ∧ _ ∧ _ ∧ _ ∧ _ ∧ _ ∧ _ ∧ _ ∧ _ ∧ _ ∧ _ ∧ _ ∧ _ ∧ _ ∧ _ ∧ _ ∧ _ ∧ _ ∧ _ ∧ _ ∧ _ ∧ _ ∧ _ ∧ _ ∧ _ ∧ _ ∧ _ ∧ _ ∧ _ ∧ _ ∧ _ ∧ _ ∧ _ ∧ _ ∧ _ ∧ _ ∧ _ ∧ _ ∧ _ ∧ _ ∧ _ ∧ _ ∧ _ ∧ _ ∧ _ ∧ _ ∧ _ ∧ _ ∧ _ ∧ _ ∧ _ ∧ _ ∧ _ ∧ _ ∧ _ ∧ _ ∧ _ ∧ _ ∧ _ ∧ _ ∧ _ ∧ _ ∧ _ := ⟨und_2, size_2, agg_2, zero_2, zel_2, small_2, und_3, size_3, agg_3, zero_3, zel_3, small_3, und_4, size_4, agg_4, zero_4, zel_4, small_4, noInt_4, und_5, size_5, agg_5, zero_5, zel_5, small_5, und_9, size_9, agg_9, zero_9, zel_9, small_9, noInt_9, und_28, size_28, agg_28, zero_28, zel_28, small_28, noInt_28, fa_45_0, fd_45_0, fa_45_1, fd_45_1, fa_45_2, fd_45_2, bld_45, size_45, agg_45, zero_45, zel_45, small_45, noInt_45, und_80, size_80, agg_80, zero_80, zel_80, small_80, und_153, size_153, agg_153, zero_153, zel_153, small_153, noInt_153, fa_155_0, fd_155_0, fa_155_1, fd_155_1, bld_155, size_155, agg_155, zero_155, zel_155, small_155, noInt_155, und_156, size_156, agg_156, zero_156, zel_156, small_156, noInt_156, fa_158_0, fd_158_0, fa_158_1, fd_158_1, bld_158, size_158, agg_158, zero_158, zel_158, small_158, noInt_158, size_190, agg_190, zero_190, zel_190, small_190, noInt_190⟩; show W CC 1 30 (keepsOf 109) _ ⟨[(0, _), (1, _), (2, _)], [_]⟩ _)
  ((repeat' (first | with_reducible apply fol | with_reducible refine aRW ?_ | with_reducible refine aRR ?_ | with_reducible refine aRs ?_ | ((with_reducible first | apply RW_gdn | apply RR_gdn | apply RW_gd | apply RR_gd) <;> intro hg <;> first | (cases hg; done) | skip) | with_reducible refine aE1 ?_ | with_reducible refine aE2 ?_ | with_reducible refine aOn ?_ | ((with_reducible refine aCd ?_ ?_) <;> intro hv <;> first | (cases hv; done) | skip) | fail)))
  refine W_rounds (α := Nat × Bool × List Val) (fun a => ⟨[(2, .fn f [] [.box 0 0]), (3, .box 1 0), (6, .box 2 0), (7, match a.2.1 with | true => .hs 3 0 | false => .t (.sl true true [])), (10, .t (.int .i64 (n : Int))), (11, .t (.int .i64 a.1))],
      match a.2.1 with | true => [.box [.t w00], .box [.t (.sl nl cl (kl.map Ans.c)), .t (.sl nl2 cl2 ns)], .box (AZero.c.map .t), .arr 3 0 false (a.2.2.map Val.c)] | false => [.box [.t w00], .box [.t (.sl nl cl (kl.map Ans.c)), .t (.sl nl2 cl2 ns)], .box (AZero.c.map .t)]⟩)
    (fun a => n - a.1) (fun a => a.1 ≤ n ∧ a.2.2.length = a.1 ∧ (a.2.1 = false → a.2.2 = []) ∧ ∀ v ∈ a.2.2, VOK v) (0, false, []) (by kernel_rfl) ⟨Nat.zero_le _, rfl, fun _ => rfl, fun v hv => (by cases hv)⟩ ?_
  rintro ⟨i, st, out⟩ ⟨hi, ho, hno, hor⟩
  try dsimp only at hi ho hno hor
  have hle : lens 3 (out.map Val.c) = true := lens_map Val.c 3 (fun a => rfl) out
  simp only [AZero, Zero, Ans.c, List.map_cons, List.map_nil]
  by_cases hi' : i < n
  · have hw : IntKind.i64.wrap ((i : Int) + 1) = ((i + 1 : Nat) : Int) := by rw [wrap64] <;> omega
    have hd : decide ((i : Int) < (n : Int)) = true := by simpa using hi'
    have hsm : decide (i + 1 < 4294967296) = true := by simp; omega
    have hg := get_ok' nl cl nl2 cl2 kl ns i
    have hp := getA_p hk i
    generalize getA kl i = g at hg hp
    clear hk hdo
    cases st with
    | true =>
      clear hno
      (have x0_ := @hb_132; (repeat' (first | with_reducible apply fol | with_reducible refine aRW ?_ | with_reducible refine aRR ?_ | with_reducible refine aRs ?_ | ((with_reducible first | apply RW_gdn | apply RR_gdn | apply RW_gd | apply RR_gd) <;> intro hg <;> first | (cases hg; done) | skip) | with_reducible refine aE1 ?_ | with_reducible refine aE2 ?_ | with_reducible refine aOn ?_ | ((with_reducible refine aCd ?_ ?_) <;> intro hv <;> first | (cases hv; done) | skip) | fail)); all_goals clear x0_)
      · ((with_reducible apply ends_ret); (focus (simp only [CC_P, results, resultsOf, resultOf, get, load, loadCells, nth, cut, mkAgg, trees, res_109, List.length_cons, List.length_nil, List.take, List.drop, Nat.zero_add, Nat.reduceAdd, Nat.reduceLeDiff, if_true, *]; exact rfl)); (focus (simp only [finish, thaw_109, exports, viewedO, viewed, view, freeze, patch, catMap, canon, reach, refsL, refs, refsO, depth, renL, ren, renO, sub, sub1, upto, nth, List.map, List.take, List.length_cons, List.length_nil, List.append_nil, Nat.zero_add] <;> exact rfl)))
        exact ⟨g, ⟨rfl, rfl⟩, hp⟩
      · refine again_normal (i + 1, true, out ++ [g.v]) (by first | omega | (dsimp only; omega)) ⟨by first | omega | (dsimp only; omega), by simp [ho], fun h => (by cases h), fun x hx => ?_⟩ (by (simp only [loopKeep, firstRegion, keepsOf, tidy, canon, reach, refsL, refs, refsO, catMap, depth, renL, ren, renO, sub, sub1, upto, mem, place, fresh, cond_true, get, nth, List.map, List.zip_cons_cons, List.zip_nil_right, List.take, List.append_nil, List.nil_append, List.cons_append, Bool.and_true, beq_dec, decide_true, decide_false, Nat.reduceEqDiff, Val.c, List.map_append] <;> exact rfl))
        rcases List.mem_append.1 hx with h | h
        · exact hor x h
        · rw [List.mem_singleton.1 h]; exact hp
    | false =>
      have h0 := hno rfl
      subst h0
      simp at ho
      subst ho
      clear hno hor
      (have x0_ := @hb_132; (repeat' (first | with_reducible apply fol | with_reducible refine aRW ?_ | with_reducible refine aRR ?_ | with_reducible refine aRs ?_ | ((with_reducible first | apply RW_gdn | apply RR_gdn | apply RW_gd | apply RR_gd) <;> intro hg <;> first | (cases hg; done) | skip) | with_reducible refine aE1 ?_ | with_reducible refine aE2 ?_ | with_reducible refine aOn ?_ | ((with_reducible refine aCd ?_ ?_) <;> intro hv <;> first | (cases hv; done) | skip) | fail)); all_goals clear x0_)
      · ((with_reducible apply ends_ret); (focus (simp only [CC_P, results, resultsOf, resultOf, get, load, loadCells, nth, cut, mkAgg, trees, res_109, List.length_cons, List.length_nil, List.take, List.drop, Nat.zero_add, Nat.reduceAdd, Nat.reduceLeDiff, if_true, *]; exact rfl)); (focus (simp only [finish, thaw_109, exports, viewedO, viewed, view, freeze, patch, catMap, canon, reach, refsL, refs, refsO, depth, renL, ren, renO, sub, sub1, upto, nth, List.map, List.take, List.length_cons, List.length_nil, List.append_nil, Nat.zero_add] <;> exact rfl)))
        exact ⟨g, ⟨rfl, rfl⟩, hp⟩
      · refine again_normal (1, true, [g.v]) (by first | omega | (dsimp only; omega)) ⟨by first | omega | (dsimp only; omega), by simp, fun h => (by cases h), fun x hx => ?_⟩ (by (simp only [loopKeep, firstRegion, keepsOf, tidy, canon, reach, refsL, refs, refsO, catMap, depth, renL, ren, renO, sub, sub1, upto, mem, place, fresh, cond_true, get, nth, List.map, List.zip_cons_cons, List.zip_nil_right, List.take, List.append_nil, List.nil_append, List.cons_append, Bool.and_true, beq_dec, decide_true, decide_false, Nat.reduceEqDiff, Val.c] <;> exact rfl))
        rw [List.mem_singleton.1 hx]; exact hp
  · have hd : decide ((i : Int) < (n : Int)) = false := by simpa using hi'
    cases st with
    | true =>
      obtain ⟨a, ha, hap⟩ := hdo out false false (by omega) hor
      clear hdo hor hk hno
      ((repeat' (first | with_reducible apply fol | with_reducible refine aRW ?_ | with_reducible refine aRR ?_ | with_reducible refine aRs ?_ | ((with_reducible first | apply RW_gdn | apply RR_gdn | apply RW_gd | apply RR_gd) <;> intro hg <;> first | (cases hg; done) | skip) | with_reducible refine aE1 ?_ | with_reducible refine aE2 ?_ | with_reducible refine aOn ?_ | ((with_reducible refine aCd ?_ ?_) <;> intro hv <;> first | (cases hv; done) | skip) | fail)))
      ((with_reducible apply ends_ret); (focus (simp only [CC_P, results, resultsOf, resultOf, get, load, loadCells, nth, cut, mkAgg, trees, res_109, List.length_cons, List.length_nil, List.take, List.drop, Nat.zero_add, Nat.reduceAdd, Nat.reduceLeDiff, if_true, *]; exact rfl)); (focus (simp only [finish, thaw_109, exports, viewedO, viewed, view, freeze, patch, catMap, canon, reach, refsL, refs, refsO, depth, renL, ren, renO, sub, sub1, upto, nth, List.map, List.take, List.length_cons, List.length_nil, List.append_nil, Nat.zero_add] <;> exact rfl)))
      exact ⟨a, ⟨rfl, rfl⟩, hap⟩
    | false =>
      have h0 := hno rfl
      subst h0
      obtain ⟨a, ha, hap⟩ := hdo [] true true (by omega) (fun v hv => (by cases hv))
      simp only [List.map_nil] at ha
      clear hdo hor hk hno
      ((repeat' (first | with_reducible apply fol | with_reducible refine aRW ?_ | with_reducible refine aRR ?_ | with_reducible refine aRs ?_ | ((with_reducible first | apply RW_gdn | apply RR_gdn | apply RW_gd | apply RR_gd) <;> intro hg <;> first | (cases hg; done) | skip) | with_reducible refine aE1 ?_ | with_reducible refine aE2 ?_ | with_reducible refine aOn ?_ | ((with_reducible refine aCd ?_ ?_) <;> intro hv <;> first | (cases hv; done) | skip) | fail)))
      ((with_reducible apply ends_ret); (focus (simp only [CC_P, results, resultsOf, resultOf, get, load, loadCells, nth, cut, mkAgg, trees, res_109, List.length_cons, List.length_nil, List.take, List.drop, Nat.zero_add, Nat.reduceAdd, Nat.reduceLeDiff, if_true, *]; exact rfl)); (focus (simp only [finish, thaw_109, exports, viewedO, viewed, view, freeze, patch, catMap, canon, reach, refsL, refs, refsO, depth, renL, ren, renO, sub, sub1, upto, nth, List.map, List.take, List.length_cons, List.length_nil, List.append_nil, Nat.zero_add] <;> exact rfl)))
      exact ⟨a, ⟨rfl, rfl⟩, hap⟩

theorem left2_run (f : Nat) (hb : hasBody Tryz.prog f = true) (hbp : f ≠ 101) (w00 w10 : Tree) (nl cl nl2 cl2 : Bool) (kl : List Ans) (ns : List (List Tree)) (n : Nat) (hn : n < 4294967295) (hk : ∀ a ∈ kl, AOK a)
    (hdo : ∀ (l : List Val) (x y : Bool), l.length = n → (∀ v ∈ l, VOK v) → ∃ a : Ans, Om CC f [.t (.sl x y (l.map Val.c)), .box 0 0, .box 1 0] [.box [.t w00], .box [.t w10]] = some (.val (.t (.agg [.int .u8 a.v.k, .int .i64 a.v.n, .str a.v.s, .int .i64 a.e])), [.box [.t w00], .box [.t w10]]) ∧ AOK a) :
    ∃ x : Ans, Om CC 109 [.t (.agg [.sl nl cl (kl.map Ans.c), .sl nl2 cl2 ns]), .t (.int .i64 (n : Int)), .fn f [] [.box 0 0, .box 1 0]] [.box [.t w00], .box [.t w10]] = some (.val (.t (.agg [.int .u8 x.v.k, .int .i64 x.v.n, .str x.v.s, .int .i64 x.e])), [.box [.t w00], .box [.t w10]]) ∧ AOK x := by
  refine call_exh (F := fun x : Ans => .t (.agg [.int .u8 x.v.k, .int .i64 x.v.n, .str x.v.s, .int .i64 x.e])) fun_109 rfl ?_
  (have F_ : _ ∧ _ ∧ _ ∧ _ ∧ _ ∧ _ ∧ _ ∧ _ ∧ _ ∧ _ ∧ _ ∧ _ ∧ _ ∧ _ ∧ _ ∧ _ ∧ _ ∧ _ ∧ _ ∧ _ ∧ _ ∧ _ ∧ _ ∧ _ ∧ _ ∧ _ ∧ _ ∧ _ ∧ _ ∧ _ ∧ _ ∧ _ ∧ _ ∧ _ ∧ _ ∧ _ ∧ _ ∧ _ ∧ _ ∧ _ ∧ _ ∧ _ ∧ _ ∧ _ ∧ _ ∧ _ ∧ _ ∧ _ ∧ _ ∧ _ ∧ _ ∧ _ ∧ _ ∧ _ ∧ _ ∧ _ ∧ _ ∧ _ ∧ _ ∧ _ ∧ _ ∧ _ ∧ _ ∧ _ ∧ _ ∧ _ ∧ _ ∧ _ ∧ _ ∧ _ ∧ _ ∧ _ ∧ _ ∧ _ ∧ _ ∧ _ ∧ _ ∧ _ ∧ _ ∧ _ ∧ _ ∧ _ ∧ _ ∧ _ ∧ _ ∧ _ ∧ _ ∧ _ ∧ _ ∧ _ ∧ _ ∧ _ ∧ _ ∧ _ ∧ _ ∧ _ ∧ _ ∧ _ ∧ _ ∧ _ := ⟨und_2, size_2, agg_2, zero_2, zel_2, small_2, und_3, size_3, agg_3, zero_3, zel_3, small_3, und_4, size_4, agg_4, zero_4, zel_4, small_4, noInt_4, und_5, size_5, agg_5, zero_5, zel_5, small_5, und_9, size_9, agg_9, zero_9, zel_9, small_9, noInt_9, und_28, size_28, agg_28, zero_28, zel_28, small_28, noInt_28, fa_45_0, fd_45_0, fa_45_1, fd_45_1, fa_45_2, fd_45_2, bld_45, size_45, agg_45, zero_45, zel_45, small_45, noInt_45, und_80, size_80, agg_80, zero_80, zel_80, small_80, und_153, size_153, agg_153, zero_153, zel_153, small_153, noInt_153, fa_155_0, fd_155_0, fa_155_1, fd_155_1, bld_155, size_155, agg_155, zero_155, zel_155, small_155, noInt_155, und_156, size_156, agg_156, zero_156, zel_156, small_156, noInt_156, fa_158_0, fd_158_0, fa_158_1, fd_158_1, bld_158, size_158, agg_158, zero_158, zel_158, small_158, noInt_158, size_190, agg_190, zero_190, zel_190, small_190, noInt_190⟩; show W CC 2 30 (keepsOf 109) _ ⟨[(0, _), (1, _), (2, _)], [_, _]⟩ _)
  ((repeat' (first | with_reducible apply fol | with_reducible refine aRW ?_ | with_reducible refine aRR ?_ | with_reducible refine aRs ?_ | ((with_reducible first | apply RW_gdn | apply RR_gdn | apply RW_gd | apply RR_gd) <;> intro hg <;> first | (cases hg; done) | skip) | with_reducible refine aE1 ?_ | with_reducible refine aE2 ?_ | with_reducible refine aOn ?_ | ((with_reducible refine aCd ?_ ?_) <;> intro hv <;> first | (cases hv; done) | skip) | fail)))
  refine W_rounds (α := Nat × Bool × List Val) (fun a => ⟨[(2, .fn f [] [.box 0 0, .box 1 0]), (3, .box 2 0), (6, .box 3 0), (7, match a.2.1 with | true => .hs 4 0 | false => .t (.sl true true [])), (10, .t (.int .i64 (n : Int))), (11, .t (.int .i64 a.1))],
      match a.2.1 with | true => [.box [.t w00], .box [.t w10], .box [.t (.sl nl cl (kl.map Ans.c)), .t (.sl nl2 cl2 ns)], .box (AZero.c.map .t), .arr 3 0 false (a.2.2.map Val.c)] | false => [.box [.t w00], .box [.t w10], .box [.t (.sl nl cl (kl.map Ans.c)), .t (.sl nl2 cl2 ns)], .box (AZero.c.map .t)]⟩)
    (fun a => n - a.1) (fun a => a.1 ≤ n ∧ a.2.2.length = a.1 ∧ (a.2.1 = false → a.2.2 = []) ∧ ∀ v ∈ a.2.2, VOK v) (0, false, []) (by kernel_rfl) ⟨Nat.zero_le _, rfl, fun _ => rfl, fun v hv => (by cases hv)⟩ ?_
  rintro ⟨i, st, out⟩ ⟨hi, ho, hno, hor⟩
  try dsimp only at hi ho hno hor
  have hle : lens 3 (out.map Val.c) = true := lens_map Val.c 3 (fun a => rfl) out
  simp only [AZero, Zero, Ans.c, List.map_cons, List.map_nil]
  by_cases hi' : i < n
  · have hw : IntKind.i64.wrap ((i : Int) + 1) = ((i + 1 : Nat) : Int) := by rw [wrap64] <;> omega
    have hd : decide ((i : Int) < (n : Int)) = true := by simpa using hi'
    have hsm : decide (i + 1 < 4294967296) = true := by simp; omega
    have hg := get_ok' nl cl nl2 cl2 kl ns i
    have hp := getA_p hk i
    generalize getA kl i = g at hg hp
    clear hk hdo
    cases st with
    | true =>
      clear hno
      (have x0_ := @hb_132; (repeat' (first | with_reducible apply fol | with_reducible refine aRW ?_ | with_reducible refine aRR ?_ | with_reducible refine aRs ?_ | ((with_reducible first | apply RW_gdn | apply RR_gdn | apply RW_gd | apply RR_gd) <;> intro hg <;> first | (cases hg; done) | skip) | with_reducible refine aE1 ?_ | with_reducible refine aE2 ?_ | with_reducible refine aOn ?_ | ((with_reducible refine aCd ?_ ?_) <;> intro hv <;> first | (cases hv; done) | skip) | fail)); all_goals clear x0_)
      · ((with_reducible apply ends_ret); (focus (simp only [CC_P, results, resultsOf, resultOf, get, load, loadCells, nth, cut, mkAgg, trees, res_109, List.length_cons, List.length_nil, List.take, List.drop, Nat.zero_add, Nat.reduceAdd, Nat.reduceLeDiff, if_true, *]; exact rfl)); (focus (simp only [finish, thaw_109, exports, viewedO, viewed, view, freeze, patch, catMap, canon, reach, refsL, refs, refsO, depth, renL, ren, renO, sub, sub1, upto, nth, List.map, List.take, List.length_cons, List.length_nil, List.append_nil, Nat.reduceAdd, Nat.zero_add] <;> exact rfl)))
        exact ⟨g, ⟨rfl, rfl⟩, hp⟩
      · refine again_normal (i + 1, true, out ++ [g.v]) (by first | omega | (dsimp only; omega)) ⟨by first | omega | (dsimp only; omega), by simp [ho], fun h => (by cases h), fun x hx => ?_⟩ (by (simp only [loopKeep, firstRegion, keepsOf, tidy, canon, reach, refsL, refs, refsO, catMap, depth, renL, ren, renO, sub, sub1, upto, mem, place, fresh, cond_true, get, nth, List.map, List.zip_cons_cons, List.zip_nil_right, List.take, List.append_nil, List.nil_append, List.cons_append, Bool.and_true, beq_dec, decide_true, decide_false, Nat.reduceEqDiff, Val.c, List.map_append] <;> exact rfl))
        rcases List.mem_append.1 hx with h | h
        · exact hor x h
        · rw [List.mem_singleton.1 h]; exact hp
    | false =>
      have h0 := hno rfl
      subst h0
      simp at ho
      subst ho
      clear hno hor
      (have x0_ := @hb_132; (repeat' (first | with_reducible apply fol | with_reducible refine aRW ?_ | with_reducible refine aRR ?_ | with_reducible refine aRs ?_ | ((with_reducible first | apply RW_gdn | apply RR_gdn | apply RW_gd | apply RR_gd) <;> intro hg <;> first | (cases hg; done) | skip) | with_reducible refine aE1 ?_ | with_reducible refine aE2 ?_ | with_reducible refine aOn ?_ | ((with_reducible refine aCd ?_ ?_) <;> intro hv <;> first | (cases hv; done) | skip) | fail)); all_goals clear x0_)
      · ((with_reducible apply ends_ret); (focus (simp only [CC_P, results, resultsOf, resultOf, get, load, loadCells, nth, cut, mkAgg, trees, res_109, List.length_cons, List.length_nil, List.take, List.drop, Nat.zero_add, Nat.reduceAdd, Nat.reduceLeDiff, if_true, *]; exact rfl)); (focus (simp only [finish, thaw_109, exports, viewedO, viewed, view, freeze, patch, catMap, canon, reach, refsL, refs, refsO, depth, renL, ren, renO, sub, sub1, upto, nth, List.map, List.take, List.length_cons, List.length_nil, List.append_nil, Nat.reduceAdd, Nat.zero_add] <;> exact rfl)))
        exact ⟨g, ⟨rfl, rfl⟩, hp⟩
      · refine again_normal (1, true, [g.v]) (by first | omega | (dsimp only; omega)) ⟨by first | omega | (dsimp only; omega), by simp, fun h => (by cases h), fun x hx => ?_⟩ (by (simp only [loopKeep, firstRegion, keepsOf, tidy, canon, reach, refsL, refs, refsO, catMap, depth, renL, ren, renO, sub, sub1, upto, mem, place, fresh, cond_true, get, nth, List.map, List.zip_cons_cons, List.zip_nil_right, List.take, List.append_nil, List.nil_append, List.cons_append, Bool.and_true, beq_dec, decide_true, decide_false, Nat.reduceEqDiff, Val.c] <;> exact rfl))
        rw [List.mem_singleton.1 hx]; exact hp
  · have hd : decide ((i : Int) < (n : Int)) = false := by simpa using hi'
    cases st with
    | true =>
      obtain ⟨a, ha, hap⟩ := hdo out false false (by omega) hor
      clear hdo hor hk hno
      ((repeat' (first | with_reducible apply fol | with_reducible refine aRW ?_ | with_reducible refine aRR ?_ | with_reducible refine aRs ?_ | ((with_reducible first | apply RW_gdn | apply RR_gdn | apply RW_gd | apply RR_gd) <;> intro hg <;> first | (cases hg; done) | skip) | with_reducible refine aE1 ?_ | with_reducible refine aE2 ?_ | with_reducible refine aOn ?_ | ((with_reducible refine aCd ?_ ?_) <;> intro hv <;> first | (cases hv; done) | skip) | fail)))
      ((with_reducible apply ends_ret); (focus (simp only [CC_P, results, resultsOf, resultOf, get, load, loadCells, nth, cut, mkAgg, trees, res_109, List.length_cons, List.length_nil, List.take, List.drop, Nat.zero_add, Nat.reduceAdd, Nat.reduceLeDiff, if_true, *]; exact rfl)); (focus (simp only [finish, thaw_109, exports, viewedO, viewed, view, freeze, patch, catMap, canon, reach, refsL, refs, refsO, depth, renL, ren, renO, sub, sub1, upto, nth, List.map, List.take, List.length_cons, List.length_nil, List.append_nil, Nat.reduceAdd, Nat.zero_add] <;> exact rfl)))
      exact ⟨a, ⟨rfl, rfl⟩, hap⟩
    | false =>
      have h0 := hno rfl
      subst h0
      obtain ⟨a, ha, hap⟩ := hdo [] true true (by omega) (fun v hv => (by cases hv))
      simp only [List.map_nil] at ha
      clear hdo hor hk hno
      ((repeat' (first | with_reducible apply fol | with_reducible refine aRW ?_ | with_reducible refine aRR ?_ | with_reducible refine aRs ?_ | ((with_reducible first | apply RW_gdn | apply RR_gdn | apply RW_gd | apply RR_gd) <;> intro hg <;> first | (cases hg; done) | skip) | with_reducible refine aE1 ?_ | with_reducible refine aE2 ?_ | with_reducible refine aOn ?_ | ((with_reducible refine aCd ?_ ?_) <;> intro hv <;> first | (cases hv; done) | skip) | fail)))
      ((with_reducible apply ends_ret); (focus (simp only [CC_P, results, resultsOf, resultOf, get, load, loadCells, nth, cut, mkAgg, trees, res_109, List.length_cons, List.length_nil, List.take, List.drop, Nat.zero_add, Nat.reduceAdd, Nat.reduceLeDiff, if_true, *]; exact rfl)); (focus (simp only [finish, thaw_109, exports, viewedO, viewed, view, freeze, patch, catMap, canon, reach, refsL, refs, refsO, depth, renL, ren, renO, sub, sub1, upto, nth, List.map, List.take, List.length_cons, List.length_nil, List.append_nil, Nat.reduceAdd, Nat.zero_add] <;> exact rfl)))
      exact ⟨a, ⟨rfl, rfl⟩, hap⟩

theorem left3_run (f : Nat) (hb : hasBody Tryz.prog f = true) (hbp : f ≠ 101) (w00 w01 w10 : Tree) (nl cl nl2 cl2 : Bool) (kl : List Ans) (ns : List (List Tree)) (n : Nat) (hn : n < 4294967295) (hk : ∀ a ∈ kl, AOK a)
    (hdo : ∀ (l : List Val) (x y : Bool), l.length = n → (∀ v ∈ l, VOK v) → ∃ a : Ans, Om CC f [.t (.sl x y (l.map Val.c)), .box 0 0, .box 1 0] [.box [.t w00, .t w01], .box [.t w10]] = some (.val (.t (.agg [.int .u8 a.v.k, .int .i64 a.v.n, .str a.v.s, .int .i64 a.e])), [.box [.t w00, .t w01], .box [.t w10]]) ∧ AOK a) :
    ∃ x : Ans, Om CC 109 [.t (.agg [.sl nl cl (kl.map Ans.c), .sl nl2 cl2 ns]), .t (.int .i64 (n : Int)), .fn f [] [.box 0 0, .box 1 0]] [.box [.t w00, .t w01], .box [.t w10]] = some (.val (.t (.agg [.int .u8 x.v.k, .int .i64 x.v.n, .str x.v.s, .int .i64 x.e])), [.box [.t w00, .t w01], .box [.t w10]]) ∧ AOK x := by
  refine call_exh (F := fun x : Ans => .t (.agg [.int .u8 x.v.k, .int .i64 x.v.n, .str x.v.s, .int .i64 x.e])) fun_109 rfl ?_
  (have F_ : _ ∧ _ ∧ _ ∧ _ ∧ _ ∧ _ ∧ _ ∧ _ ∧ _ ∧ _ ∧ _ ∧ _ ∧ _ ∧ _ ∧ _ ∧ _ ∧ _ ∧ _ ∧ _ ∧ _ ∧ _ ∧ _ ∧ _ ∧ _ ∧ _ ∧ _ ∧ _ ∧ _ ∧ _ ∧ _ ∧ _ ∧ _ ∧ _ ∧ _ ∧ _ ∧ _ ∧ _ ∧ _ ∧ _ ∧ _ ∧ _ ∧ _ ∧ _ ∧ _ ∧ _ ∧ _ ∧ _ ∧ _ ∧ _ ∧ _ ∧ _ ∧ _ ∧ _ ∧ _ ∧ _ ∧ _ ∧ _ ∧ _ ∧ _ ∧ _ ∧ _ ∧ _ ∧ _ ∧ _ ∧ _ ∧ _ ∧ _ ∧ _ ∧ _ ∧ _ ∧ _ ∧ _ ∧ _ ∧ _ ∧ _ ∧ _ ∧ _ ∧ _ ∧ _ ∧ _ ∧ _ ∧ _ ∧ _ ∧ _ ∧ _ ∧ _ ∧ _ ∧ _ ∧ _ ∧ _ ∧ _ ∧ _ ∧ _ ∧ _ ∧ _ ∧ _ ∧ _ ∧ _ ∧ _ ∧ _ := ⟨und_2, size_2, agg_2, zero_2, zel_2, small_2, und_3, size_3, agg_3, zero_3, zel_3, small_3, und_4, size_4, agg_4, zero_4, zel_4, small_4, noInt_4, und_5, size_5, agg_5, zero_5, zel_5, small_5, und_9, size_9, agg_9, zero_9, zel_9, small_9, noInt_9, und_28, size_28, agg_28, zero_28, zel_28, small_28, noInt_28, fa_45_0, fd_45_0, fa_45_1, fd_45_1, fa_45_2, fd_45_2, bld_45, size_45, agg_45, zero_45, zel_45, small_45, noInt_45, und_80, size_80, agg_80, zero_80, zel_80, small_80, und_153, size_153, agg_153, zero_153, zel_153, small_153, noInt_153, fa_155_0, fd_155_0, fa_155_1, fd_155_1, bld_155, size_155, agg_155, zero_155, zel_155, small_155, noInt_155, und_156, size_156, agg_156, zero_156, zel_156, small_156, noInt_156, fa_158_0, fd_158_0, fa_158_1, fd_158_1, bld_158, size_158, agg_158, zero_158, zel_158, small_158, noInt_158, size_190, agg_190, zero_190, zel_190, small_190, noInt_190⟩; show W CC 2 30 (keepsOf 109) _ ⟨[(0, _), (1, _), (2, _)], [_, _]⟩ _)
  ((repeat' (first | with_reducible apply fol | with_reducible refine aRW ?_ | with_reducible refine aRR ?_ | with_reducible refine aRs ?_ | ((with_reducible first | apply RW_gdn | apply RR_gdn | apply RW_gd | apply RR_gd) <;> intro hg <;> first | (cases hg; done) | skip) | with_reducible refine aE1 ?_ | with_reducible refine aE2 ?_ | with_reducible refine aOn ?_ | ((with_reducible refine aCd ?_ ?_) <;> intro hv <;> first | (cases hv; done) | skip) | fail)))
  refine W_rounds (α := Nat × Bool × List Val) (fun a => ⟨[(2, .fn f [] [.box 0 0, .box 1 0]), (3, .box 2 0), (6, .box 3 0), (7, match a.2.1 with | true => .hs 4 0 | false => .t (.sl true true [])), (10, .t (.int .i64 (n : Int))), (11, .t (.int .i64 a.1))],
      match a.2.1 with | true => [.box [.t w00, .t w01], .box [.t w10], .box [.t (.sl nl cl (kl.map Ans.c)), .t (.sl nl2 cl2 ns)], .box (AZero.c.map .t), .arr 3 0 false (a.2.2.map Val.c)] | false => [.box [.t w00, .t w01], .box [.t w10], .box [.t (.sl nl cl (kl.map Ans.c)), .t (.sl nl2 cl2 ns)], .box (AZero.c.map .t)]⟩)
    (fun a => n - a.1) (fun a => a.1 ≤ n ∧ a.2.2.length = a.1 ∧ (a.2.1 = false → a.2.2 = []) ∧ ∀ v ∈ a.2.2, VOK v) (0, false, []) (by kernel_rfl) ⟨Nat.zero_le _, rfl, fun _ => rfl, fun v hv => (by cases hv)⟩ ?_
  rintro ⟨i, st, out⟩ ⟨hi, ho, hno, hor⟩
  try dsimp only at hi ho hno hor
  have hle : lens 3 (out.map Val.c) = true := lens_map Val.c 3 (fun a => rfl) out
  simp only [AZero, Zero, Ans.c, List.map_cons, List.map_nil]
  by_cases hi' : i < n
  · have hw : IntKind.i64.wrap ((i : Int) + 1) = ((i + 1 : Nat) : Int) := by rw [wrap64] <;> omega
    have hd : decide ((i : Int) < (n : Int)) = true := by simpa using hi'
    have hsm : decide (i + 1 < 4294967296) = true := by simp; omega
    have hg := get_ok' nl cl nl2 cl2 kl ns i
    have hp := getA_p hk i
    generalize getA kl i = g at hg hp
    clear hk hdo
    cases st with
    | true =>
      clear hno
      (have x0_ := @hb_132; (repeat' (first | with_reducible apply fol | with_reducible refine aRW ?_ | with_reducible refine aRR ?_ | with_reducible refine aRs ?_ | ((with_reducible first | apply RW_gdn | apply RR_gdn | apply RW_gd | apply RR_gd) <;> intro hg <;> first | (cases hg; done) | skip) | with_reducible refine aE1 ?_ | with_reducible refine aE2 ?_ | with_reducible refine aOn ?_ | ((with_reducible refine aCd ?_ ?_) <;> intro hv <;> first | (cases hv; done) | skip) | fail)); all_goals clear x0_)
      · ((with_reducible apply ends_ret); (focus (simp only [CC_P, results, resultsOf, resultOf, get, load, loadCells, nth, cut, mkAgg, trees, res_109, List.length_cons, List.length_nil, List.take, List.drop, Nat.zero_add, Nat.reduceAdd, Nat.reduceLeDiff, if_true, *]; exact rfl)); (focus (simp only [finish, thaw_109, exports, viewedO, viewed, view, freeze, patch, catMap, canon, reach, refsL, refs, refsO, depth, renL, ren, renO, sub, sub1, upto, nth, List.map, List.take, List.length_cons, List.length_nil, List.append_nil, Nat.reduceAdd, Nat.zero_add] <;> exact rfl)))
        exact ⟨g, ⟨rfl, rfl⟩, hp⟩
      · refine again_normal (i + 1, true, out ++ [g.v]) (by first | omega | (dsimp only; omega)) ⟨by first | omega | (dsimp only; omega), by simp [ho], fun h => (by cases h), fun x hx => ?_⟩ (by (simp only [loopKeep, firstRegion, keepsOf, tidy, canon, reach, refsL, refs, refsO, catMap, depth, renL, ren, renO, sub, sub1, upto, mem, place, fresh, cond_true, get, nth, List.map, List.zip_cons_cons, List.zip_nil_right, List.take, List.append_nil, List.nil_append, List.cons_append, Bool.and_true, beq_dec, decide_true, decide_false, Nat.reduceEqDiff, Val.c, List.map_append] <;> exact rfl))
        rcases List.mem_append.1 hx with h | h
        · exact hor x h
        · rw [List.mem_singleton.1 h]; exact hp
    | false =>
      have h0 := hno rfl
      subst h0
      simp at ho
      subst ho
      clear hno hor
      (have x0_ := @hb_132; (repeat' (first | with_reducible apply fol | with_reducible refine aRW ?_ | with_reducible refine aRR ?_ | with_reducible refine aRs ?_ | ((with_reducible first | apply RW_gdn | apply RR_gdn | apply RW_gd | apply RR_gd) <;> intro hg <;> first | (cases hg; done) | skip) | with_reducible refine aE1 ?_ | with_reducible refine aE2 ?_ | with_reducible refine aOn ?_ | ((with_reducible refine aCd ?_ ?_) <;> intro hv <;> first | (cases hv; done) | skip) | fail)); all_goals clear x0_)
      · ((with_reducible apply ends_ret); (focus (simp only [CC_P, results, resultsOf, resultOf, get, load, loadCells, nth, cut, mkAgg, trees, res_109, List.length_cons, List.length_nil, List.take, List.drop, Nat.zero_add, Nat.reduceAdd, Nat.reduceLeDiff, if_true, *]; exact rfl)); (focus (simp only [finish, thaw_109, exports, viewedO, viewed, view, freeze, patch, catMap, canon, reach, refsL, refs, refsO, depth, renL, ren, renO, sub, sub1, upto, nth, List.map, List.take, List.length_cons, List.length_nil, List.append_nil, Nat.reduceAdd, Nat.zero_add] <;> exact rfl)))
        exact ⟨g, ⟨rfl, rfl⟩, hp⟩
      · refine again_normal (1, true, [g.v]) (by first | omega | (dsimp only; omega)) ⟨by first | omega | (dsimp only; omega), by simp, fun h => (by cases h), fun x hx => ?_⟩ (by (simp only [loopKeep, firstRegion, keepsOf, tidy, canon, reach, refsL, refs, refsO, catMap, depth, renL, ren, renO, sub, sub1, upto, mem, place, fresh, cond_true, get, nth, List.map, List.zip_cons_cons, List.zip_nil_right, List.take, List.append_nil, List.nil_append, List.cons_append, Bool.and_true, beq_dec, decide_true, decide_false, Nat.reduceEqDiff, Val.c] <;> exact rfl))
        rw [List.mem_singleton.1 hx]; exact hp
  · have hd : decide ((i : Int) < (n : Int)) = false := by simpa using hi'
    cases st with
    | true =>
      obtain ⟨a, ha, hap⟩ := hdo out false false (by omega) hor
      clear hdo hor hk hno
      ((repeat' (first | with_reducible apply fol | with_reducible refine aRW ?_ | with_reducible refine aRR ?_ | with_reducible refine aRs ?_ | ((with_reducible first | apply RW_gdn | apply RR_gdn | apply RW_gd | apply RR_gd) <;> intro hg <;> first | (cases hg; done) | skip) | with_reducible refine aE1 ?_ | with_reducible refine aE2 ?_ | with_reducible refine aOn ?_ | ((with_reducible refine aCd ?_ ?_) <;> intro hv <;> first | (cases hv; done) | skip) | fail)))
      ((with_reducible apply ends_ret); (focus (simp only [CC_P, results, resultsOf, resultOf, get, load, loadCells, nth, cut, mkAgg, trees, res_109, List.length_cons, List.length_nil, List.take, List.drop, Nat.zero_add, Nat.reduceAdd, Nat.reduceLeDiff, if_true, *]; exact rfl)); (focus (simp only [finish, thaw_109, exports, viewedO, viewed, view, freeze, patch, catMap, canon, reach, refsL, refs, refsO, depth, renL, ren, renO, sub, sub1, upto, nth, List.map, List.take, List.length_cons, List.length_nil, List.append_nil, Nat.reduceAdd, Nat.zero_add] <;> exact rfl)))
      exact ⟨a, ⟨rfl, rfl⟩, hap⟩
    | false =>
      have h0 := hno rfl
      subst h0
      obtain ⟨a, ha, hap⟩ := hdo [] true true (by omega) (fun v hv => (by cases hv))
      simp only [List.map_nil] at ha
      clear hdo hor hk hno
      ((repeat' (first | with_reducible apply fol | with_reducible refine aRW ?_ | with_reducible refine aRR ?_ | with_reducible refine aRs ?_ | ((with_reducible first | apply RW_gdn | apply RR_gdn | apply RW_gd | apply RR_gd) <;> intro hg <;> first | (cases hg; done) | skip) | with_reducible refine aE1 ?_ | with_reducible refine aE2 ?_ | with_reducible refine aOn ?_ | ((with_reducible refine aCd ?_ ?_) <;> intro hv <;> first | (cases hv; done) | skip) | fail)))
      ((with_reducible apply ends_ret); (focus (simp only [CC_P, results, resultsOf, resultOf, get, load, loadCells, nth, cut, mkAgg, trees, res_109, List.length_cons, List.length_nil, List.take, List.drop, Nat.zero_add, Nat.reduceAdd, Nat.reduceLeDiff, if_true, *]; exact rfl)); (focus (simp only [finish, thaw_109, exports, viewedO, viewed, view, freeze, patch, catMap, canon, reach, refsL, refs, refsO, depth, renL, ren, renO, sub, sub1, upto, nth, List.map, List.take, List.length_cons, List.length_nil, List.append_nil, Nat.reduceAdd, Nat.zero_add] <;> exact rfl)))
      exact ⟨a, ⟨rfl, rfl⟩, hap⟩

end Go.Ab
/- Layer 10 (eval): what a node's expressions are asked, one by one. -/
namespace Go.Ab
open Go.Proofs
set_option maxRecDepth 100000
set_option maxHeartbeats 4000000
set_option linter.unusedSimpArgs false
set_option linter.unusedVariables false

def boolC (b : Bool) : List Tree := [.bool b]

theorem both_run (f : Nat) (hb : hasBody Tryz.prog f = true) (hbp : f ≠ 101) (F : Val → Val → Val) (hF : ∀ a b, VOK a → VOK b → Om CC f [.t (.sl false false [[.int .u8 a.k, .int .i64 a.n, .str a.s], [.int .u8 b.k, .int .i64 b.n, .str b.s]])] [] = some (.val (.t (.agg [.int .u8 (F a b).k, .int .i64 (F a b).n, .str (F a b).s])), []))
    (hFp : ∀ a b, VOK a → VOK b → VOK (F a b)) (e : Int) (nl cl nl2 cl2 : Bool) (kl : List Ans) (nb : List Bool) (hk : ∀ a ∈ kl, AOK a) :
    ∃ x : Ans, Om CC 91 [.t (.agg [.sl nl cl (kl.map Ans.c), .sl nl2 cl2 (nb.map boolC)]), .t (.int .i64 e), .t (.fn f)] [] = some (.val (.t (.agg [.int .u8 x.v.k, .int .i64 x.v.n, .str x.v.s, .int .i64 x.e])), []) ∧ AOK x := by
  refine call_ex (F := fun x : Ans => .t (.agg [.int .u8 x.v.k, .int .i64 x.v.n, .str x.v.s, .int .i64 x.e])) fun_91 rfl ?_
  (have F_ : _ ∧ _ ∧ _ ∧ _ ∧ _ ∧ _ ∧ _ ∧ _ ∧ _ ∧ _ ∧ _ ∧ _ ∧ _ ∧ _ ∧ _ ∧ _ ∧ _ ∧ _ ∧ _ ∧ _ ∧ _ ∧ _ ∧ _ ∧ _ ∧ _ ∧ _ ∧ _ ∧ _ ∧ _ ∧ _ ∧ _ ∧ _ ∧ _ ∧ _ ∧ _ ∧ _ ∧ _ ∧ _ ∧ _ ∧ _ ∧ _ ∧ _ ∧ _ ∧ _ ∧ _ ∧ _ ∧ _ ∧ _ ∧ _ ∧ _ ∧ _ ∧ _ ∧ _ ∧ _ ∧ _ ∧ _ ∧ _ ∧ _ ∧ _ ∧ _ ∧ _ ∧ _ ∧ _ ∧ _ ∧ _ ∧ _ ∧ _ ∧ _ ∧ _ ∧ _ ∧ _ ∧ _ ∧ _ ∧ _ ∧ _ ∧ _ ∧ _ ∧ _ ∧ _ ∧ _ ∧ _ ∧ _ ∧ _ ∧ _ ∧ _ ∧ _ ∧ _ ∧ _ ∧ _ ∧ _ ∧ _ ∧ _ ∧ _ ∧ _ ∧ _ ∧ _ ∧ _ ∧ _ ∧ _ ∧ _ := ⟨und_2, size_2, agg_2, zero_2, zel_2, small_2, und_3, size_3, agg_3, zero_3, zel_3, small_3, und_4, size_4, agg_4, zero_4, zel_4, small_4, noInt_4, und_5, size_5, agg_5, zero_5, zel_5, small_5, und_9, size_9, agg_9, zero_9, zel_9, small_9, noInt_9, und_28, size_28, agg_28, zero_28, zel_28, small_28, noInt_28, fa_45_0, fd_45_0, fa_45_1, fd_45_1, fa_45_2, fd_45_2, bld_45, size_45, agg_45, zero_45, zel_45, small_45, noInt_45, und_80, size_80, agg_80, zero_80, zel_80, small_80, size_138, agg_138, zero_138, zel_138, small_138, noInt_138, und_153, size_153, agg_153, zero_153, zel_153, small_153, noInt_153, fa_155_0, fd_155_0, fa_155_1, fd_155_1, bld_155, size_155, agg_155, zero_155, zel_155, small_155, noInt_155, und_156, size_156, agg_156, zero_156, zel_156, small_156, noInt_156, fa_158_0, fd_158_0, fa_158_1, fd_158_1, bld_158, size_158, agg_158, zero_158, zel_158, small_158, noInt_158⟩; show W CC 0 42 (keepsOf 91) _ ⟨[(0, _), (1, _), (2, _)], []⟩ _)
  obtain ⟨t, ht, htp⟩ := truth_run nl cl nl2 cl2 kl (nb.map boolC) 0 hk
  obtain ⟨u, hu, hup⟩ := truth_run nl cl nl2 cl2 kl (nb.map boolC) 1 hk
  have ht : Om CC 92 [.t (.agg [.sl nl cl (kl.map Ans.c), .sl nl2 cl2 (nb.map boolC)]), .t (.int .i64 0)] [] = _ := ht
  have hu : Om CC 92 [.t (.agg [.sl nl cl (kl.map Ans.c), .sl nl2 cl2 (nb.map boolC)]), .t (.int .i64 1)] [] = _ := hu
  have hf := hF t.v u.v htp hup
  have hfp := hFp t.v u.v htp hup
  clear hk hF hFp
  (have x0_ := @hb_92; (repeat' (first | with_reducible apply fol | with_reducible refine aRW ?_ | with_reducible refine aRR ?_ | with_reducible refine aRs ?_ | ((with_reducible first | apply RW_gdn | apply RR_gdn | apply RW_gd | apply RR_gd) <;> intro hg <;> first | (cases hg; done) | skip) | with_reducible refine aE1 ?_ | with_reducible refine aE2 ?_ | with_reducible refine aOn ?_ | ((with_reducible refine aCd ?_ ?_) <;> intro hv <;> first | (cases hv; done) | skip) | fail)); all_goals clear x0_)
  all_goals (((with_reducible apply ends_ret); (focus (simp only [CC_P, results, resultsOf, resultOf, get, load, loadCells, nth, cut, mkAgg, trees, res_91, List.length_cons, List.length_nil, List.take, List.drop, Nat.zero_add, Nat.reduceAdd, Nat.reduceLeDiff, if_true, *]; exact rfl)); (focus (first | exact finish_tree' _ _ _ _ | exact finish_tup2 _ _ _ _ _ | exact finish_tup3 _ _ _ _ _ _))))
  all_goals first | exact ⟨t, ⟨rfl, rfl⟩, htp⟩ | exact ⟨u, ⟨rfl, rfl⟩, hup⟩ | exact ⟨⟨F t.v u.v, 0⟩, ⟨rfl, rfl⟩, hfp⟩

theorem nul_run (i : Nat) (k : Tree) (nl2 cl2 : Bool) (nb : List Bool) : ∃ r : Bool, Om CC 135 [.t (.int .i64 (i : Int)), .box 0 0] [.box [.t k, .t (.sl nl2 cl2 (nb.map boolC))]] = some (.val (.t (.bool r)), [.box [.t k, .t (.sl nl2 cl2 (nb.map boolC))]]) ∧ True := by
  refine call_exh (F := fun x : Bool => .t (.bool x)) fun_135 rfl ?_
  (have F_ : _ ∧ _ ∧ _ ∧ _ ∧ _ ∧ _ ∧ _ ∧ _ ∧ _ ∧ _ ∧ _ ∧ _ ∧ _ ∧ _ ∧ _ ∧ _ ∧ _ ∧ _ ∧ _ ∧ _ ∧ _ ∧ _ ∧ _ ∧ _ ∧ _ ∧ _ ∧ _ ∧ _ ∧ _ ∧ _ ∧ _ ∧ _ ∧ _ ∧ _ ∧ _ ∧ _ ∧ _ ∧ _ ∧ _ ∧ _ ∧ _ ∧ _ ∧ _ ∧ _ ∧ _ ∧ _ ∧ _ ∧ _ ∧ _ ∧ _ ∧ _ ∧ _ ∧ _ ∧ _ ∧ _ ∧ _ ∧ _ ∧ _ ∧ _ ∧ _ ∧ _ ∧ _ ∧ _ ∧ _ ∧ _ ∧ _ ∧ _ ∧ _ ∧ _ ∧ _ ∧ _ ∧ _ ∧ _ ∧ _ ∧ _ ∧ _ ∧ _ ∧ _ ∧ _ ∧ _ ∧ _ ∧ _ ∧ _ ∧ _ ∧ _ ∧ _ ∧ _ := ⟨und_2, size_2, agg_2, zero_2, zel_2, small_2, und_3, size_3, agg_3, zero_3, zel_3, small_3, und_4, size_4, agg_4, zero_4, zel_4, small_4, noInt_4, und_5, size_5, agg_5, zero_5, zel_5, small_5, und_9, size_9, agg_9, zero_9, zel_9, small_9, noInt_9, fa_45_0, fd_45_0, fa_45_1, fd_45_1, fa_45_2, fd_45_2, bld_45, size_45, agg_45, zero_45, zel_45, small_45, noInt_45, und_80, size_80, agg_80, zero_80, zel_80, small_80, und_153, size_153, agg_153, zero_153, zel_153, small_153, noInt_153, fa_155_0, fd_155_0, fa_155_1, fd_155_1, bld_155, size_155, agg_155, zero_155, zel_155, small_155, noInt_155, und_156, size_156, agg_156, zero_156, zel_156, small_156, noInt_156, fa_158_0, fd_158_0, fa_158_1, fd_158_1, bld_158, size_158, agg_158, zero_158, zel_158, small_158, noInt_158⟩; show W CC 1 16 (keepsOf 135) _ ⟨[(0, _), (1, _)], [_]⟩ _)
  by_cases hi : i < nb.length
  · have hd : decide ((i : Int) < nb.length) = true := by simpa using hi
    have he : nb[i]? = some nb[i] := List.getElem?_eq_getElem hi
    (have x0_ := @boolC.eq_1; (repeat' (first | with_reducible apply fol | with_reducible refine aRW ?_ | with_reducible refine aRR ?_ | with_reducible refine aRs ?_ | ((with_reducible first | apply RW_gdn | apply RR_gdn | apply RW_gd | apply RR_gd) <;> intro hg <;> first | (cases hg; done) | skip) | with_reducible refine aE1 ?_ | with_reducible refine aE2 ?_ | with_reducible refine aOn ?_ | ((with_reducible refine aCd ?_ ?_) <;> intro hv <;> first | (cases hv; done) | skip) | fail)); all_goals clear x0_)
    all_goals (((with_reducible apply ends_ret); (focus (simp only [CC_P, results, resultsOf, resultOf, get, res_135, *]; exact rfl)); (focus (simp only [finish, thaw_135, exports, viewedO, viewed, view, freeze, patch, catMap, canon, reach, refsL, refs, refsO, depth, renL, ren, renO, sub, sub1, upto, nth, List.map, List.take, List.length_cons, List.length_nil, List.append_nil, Nat.zero_add] <;> exact rfl))))
    all_goals exact ⟨_, ⟨rfl, rfl⟩, trivial⟩
  · have hd : decide ((i : Int) < nb.length) = false := by simpa using hi
    (have x0_ := @boolC.eq_1; (repeat' (first | with_reducible apply fol | with_reducible refine aRW ?_ | with_reducible refine aRR ?_ | with_reducible refine aRs ?_ | ((with_reducible first | apply RW_gdn | apply RR_gdn | apply RW_gd | apply RR_gd) <;> intro hg <;> first | (cases hg; done) | skip) | with_reducible refine aE1 ?_ | with_reducible refine aE2 ?_ | with_reducible refine aOn ?_ | ((with_reducible refine aCd ?_ ?_) <;> intro hv <;> first | (cases hv; done) | skip) | fail)); all_goals clear x0_)
    all_goals (((with_reducible apply ends_ret); (focus (simp only [CC_P, results, resultsOf, resultOf, get, res_135, *]; exact rfl)); (focus (simp only [finish, thaw_135, exports, viewedO, viewed, view, freeze, patch, catMap, canon, reach, refsL, refs, refsO, depth, renL, ren, renO, sub, sub1, upto, nth, List.map, List.take, List.length_cons, List.length_nil, List.append_nil, Nat.zero_add] <;> exact rfl))))
    all_goals exact ⟨_, ⟨rfl, rfl⟩, trivial⟩

theorem eqS_run (a b : Val) (x y sm : Bool) (k : Tree) (nl2 cl2 : Bool) (nb : List Bool) (ha : VOK a) (hb : VOK b) :
    ∃ x' : Ans, Om CC 133 [.t (.sl x y [[.int .u8 a.k, .int .i64 a.n, .str a.s], [.int .u8 b.k, .int .i64 b.n, .str b.s]]), .box 0 0, .box 1 0] [.box [.t k, .t (.sl nl2 cl2 (nb.map boolC))], .box [.t (.bool sm)]] =
      some (.val (.t (.agg [.int .u8 x'.v.k, .int .i64 x'.v.n, .str x'.v.s, .int .i64 x'.e])), [.box [.t k, .t (.sl nl2 cl2 (nb.map boolC))], .box [.t (.bool sm)]]) ∧ AOK x' := by
  refine call_exh (F := fun x : Ans => .t (.agg [.int .u8 x.v.k, .int .i64 x.v.n, .str x.v.s, .int .i64 x.e])) fun_133 rfl ?_
  (have F_ : _ ∧ _ ∧ _ ∧ _ ∧ _ ∧ _ ∧ _ ∧ _ ∧ _ ∧ _ ∧ _ ∧ _ ∧ _ ∧ _ ∧ _ ∧ _ ∧ _ ∧ _ ∧ _ ∧ _ ∧ _ ∧ _ ∧ _ ∧ _ ∧ _ ∧ _ ∧ _ ∧ _ ∧ _ ∧ _ ∧ _ ∧ _ ∧ _ ∧ _ ∧ _ ∧ _ ∧ _ ∧ _ ∧ _ ∧ _ ∧ _ ∧ _ ∧ _ ∧ _ ∧ _ ∧ _ ∧ _ ∧ _ ∧ _ ∧ _ ∧ _ ∧ _ ∧ _ ∧ _ ∧ _ ∧ _ ∧ _ ∧ _ ∧ _ ∧ _ ∧ _ ∧ _ ∧ _ ∧ _ ∧ _ ∧ _ ∧ _ ∧ _ ∧ _ := ⟨und_2, size_2, agg_2, zero_2, zel_2, small_2, und_3, size_3, agg_3, zero_3, zel_3, small_3, und_4, size_4, agg_4, zero_4, zel_4, small_4, noInt_4, und_5, size_5, agg_5, zero_5, zel_5, small_5, und_9, size_9, agg_9, zero_9, zel_9, small_9, noInt_9, und_28, size_28, agg_28, zero_28, zel_28, small_28, noInt_28, fa_45_0, fd_45_0, fa_45_1, fd_45_1, fa_45_2, fd_45_2, bld_45, size_45, agg_45, zero_45, zel_45, small_45, noInt_45, und_80, size_80, agg_80, zero_80, zel_80, small_80, fa_155_0, fd_155_0, fa_155_1, fd_155_1, bld_155, size_155, agg_155, zero_155, zel_155, small_155, noInt_155⟩; show W CC 2 53 (keepsOf 133) _ ⟨[(0, _), (1, _), (2, _)], [_, _]⟩ _)
  obtain ⟨r0, h0, _⟩ := nul_run 0 k nl2 cl2 nb
  obtain ⟨r1, h1, _⟩ := nul_run 1 k nl2 cl2 nb
  have h0 : Om CC 135 [.t (.int .i64 0), .box 0 0] _ = _ := h0
  have h1 : Om CC 135 [.t (.int .i64 1), .box 0 0] _ = _ := h1
  obtain ⟨z, hz, _⟩ := isNull_run [a, b] x y (by simp)
  simp only [List.map_cons, List.map_nil, Val.c] at hz
  clear ha hb
  (have x0_ := @compareV_ok; have x1_ := @truthV_ok; have x2_ := @fail_ok; have x3_ := @idx_zero; have x4_ := @idx_one; have x5_ := @hb_135; have x6_ := @hb_134; have x7_ := @hb_75; have x8_ := @hb_136; have x9_ := @hb_90; (repeat' (first | with_reducible apply fol | with_reducible refine aRW ?_ | with_reducible refine aRR ?_ | with_reducible refine aRs ?_ | ((with_reducible first | apply RW_gdn | apply RR_gdn | apply RW_gd | apply RR_gd) <;> intro hg <;> first | (cases hg; done) | skip) | with_reducible refine aE1 ?_ | with_reducible refine aE2 ?_ | with_reducible refine aOn ?_ | ((with_reducible refine aCd ?_ ?_) <;> intro hv <;> first | (cases hv; done) | skip) | fail)); all_goals clear x0_ x1_ x2_ x3_ x4_ x5_ x6_ x7_ x8_ x9_)
  all_goals (((with_reducible apply ends_ret); (focus (simp only [CC_P, results, resultsOf, resultOf, get, load, loadCells, nth, cut, mkAgg, trees, res_133, List.length_cons, List.length_nil, List.take, List.drop, Nat.zero_add, Nat.reduceAdd, Nat.reduceLeDiff, if_true, *]; exact rfl)); (focus (simp only [finish, thaw_133, exports, viewedO, viewed, view, freeze, patch, catMap, canon, reach, refsL, refs, refsO, depth, renL, ren, renO, sub, sub1, upto, nth, List.map, List.take, List.length_cons, List.length_nil, List.append_nil, Nat.reduceAdd, Nat.zero_add] <;> exact rfl))))
  all_goals first | exact ⟨⟨TruthV _, 0⟩, ⟨rfl, rfl⟩, truthV_p _⟩ | exact ⟨AZero, ⟨rfl, rfl⟩, VOK_0⟩ | exact ⟨Fail 8, ⟨rfl, rfl⟩, fail_p _⟩

theorem kEqual_run (nl cl nl2 cl2 : Bool) (kl : List Ans) (nb : List Bool) (hk : ∀ a ∈ kl, AOK a) (sm : Bool) : ∃ x : Ans, Om CC 93 [.t (.agg [.sl nl cl (kl.map Ans.c), .sl nl2 cl2 (nb.map boolC)]), .t (.bool sm)] [] = some (.val (.t (.agg [.int .u8 x.v.k, .int .i64 x.v.n, .str x.v.s, .int .i64 x.e])), []) ∧ AOK x := by
  refine call_ex (F := fun x : Ans => .t (.agg [.int .u8 x.v.k, .int .i64 x.v.n, .str x.v.s, .int .i64 x.e])) fun_93 rfl ?_
  (have F_ : _ ∧ _ ∧ _ ∧ _ ∧ _ ∧ _ ∧ _ ∧ _ ∧ _ ∧ _ ∧ _ ∧ _ ∧ _ ∧ _ ∧ _ ∧ _ ∧ _ ∧ _ ∧ _ ∧ _ ∧ _ ∧ _ ∧ _ ∧ _ ∧ _ ∧ _ ∧ _ ∧ _ ∧ _ ∧ _ ∧ _ ∧ _ ∧ _ ∧ _ ∧ _ ∧ _ ∧ _ ∧ _ ∧ _ ∧ _ ∧ _ ∧ _ ∧ _ ∧ _ ∧ _ ∧ _ ∧ _ ∧ _ ∧ _ ∧ _ ∧ _ ∧ _ ∧ _ ∧ _ ∧ _ ∧ _ ∧ _ ∧ _ ∧ _ ∧ _ ∧ _ ∧ _ ∧ _ ∧ _ ∧ _ ∧ _ ∧ _ ∧ _ ∧ _ ∧ _ ∧ _ ∧ _ ∧ _ ∧ _ ∧ _ ∧ _ ∧ _ ∧ _ ∧ _ ∧ _ ∧ _ ∧ _ ∧ _ ∧ _ ∧ _ ∧ _ ∧ _ ∧ _ ∧ _ ∧ _ ∧ _ ∧ _ ∧ _ := ⟨und_2, size_2, agg_2, zero_2, zel_2, small_2, und_3, size_3, agg_3, zero_3, zel_3, small_3, und_4, size_4, agg_4, zero_4, zel_4, small_4, noInt_4, und_5, size_5, agg_5, zero_5, zel_5, small_5, und_9, size_9, agg_9, zero_9, zel_9, small_9, noInt_9, fa_45_0, fd_45_0, fa_45_1, fd_45_1, fa_45_2, fd_45_2, bld_45, size_45, agg_45, zero_45, zel_45, small_45, noInt_45, und_80, size_80, agg_80, zero_80, zel_80, small_80, und_153, size_153, agg_153, zero_153, zel_153, small_153, noInt_153, fa_155_0, fd_155_0, fa_155_1, fd_155_1, bld_155, size_155, agg_155, zero_155, zel_155, small_155, noInt_155, und_156, size_156, agg_156, zero_156, zel_156, small_156, noInt_156, fa_158_0, fd_158_0, fa_158_1, fd_158_1, bld_158, size_158, agg_158, zero_158, zel_158, small_158, noInt_158, size_190, agg_190, zero_190, zel_190, small_190, noInt_190⟩; show W CC 0 8 (keepsOf 93) _ ⟨[(0, _), (1, _)], []⟩ _)
  obtain ⟨t, ht, htp⟩ := left3_run 133 hb_133 (by decide) (.sl nl cl (kl.map Ans.c)) (.sl nl2 cl2 (nb.map boolC)) (.bool sm) nl cl nl2 cl2 kl (nb.map boolC) 2 (by decide) hk (fun l x y hl hv => by
    match l, hl, hv with
    | [a, b], _, hv =>
      obtain ⟨r, hr, hrp⟩ := eqS_run a b x y sm (.sl nl cl (kl.map Ans.c)) nl2 cl2 nb (hv a (by simp)) (hv b (by simp))
      exact ⟨r, hr, hrp⟩)
  have ht : Om CC 109 [.t (.agg [.sl nl cl (kl.map Ans.c), .sl nl2 cl2 (nb.map boolC)]), .t (.int .i64 2), .fn 133 [] [.box 0 0, .box 1 0]] _ = _ := ht
  clear hk
  (have x0_ := @hb_109; (repeat' (first | with_reducible apply fol | with_reducible refine aRW ?_ | with_reducible refine aRR ?_ | with_reducible refine aRs ?_ | ((with_reducible first | apply RW_gdn | apply RR_gdn | apply RW_gd | apply RR_gd) <;> intro hg <;> first | (cases hg; done) | skip) | with_reducible refine aE1 ?_ | with_reducible refine aE2 ?_ | with_reducible refine aOn ?_ | ((with_reducible refine aCd ?_ ?_) <;> intro hv <;> first | (cases hv; done) | skip) | fail)); all_goals clear x0_)
  all_goals (((with_reducible apply ends_ret); (focus (simp only [CC_P, results, resultsOf, resultOf, get, load, loadCells, nth, cut, mkAgg, trees, res_93, List.length_cons, List.length_nil, List.take, List.drop, Nat.zero_add, Nat.reduceAdd, Nat.reduceLeDiff, if_true, *]; exact rfl)); (focus (first | exact finish_tree' _ _ _ _ | exact finish_tup2 _ _ _ _ _ | exact finish_tup3 _ _ _ _ _ _))))
  all_goals exact ⟨t, ⟨rfl, rfl⟩, htp⟩

end Go.Ab
/- Layer 10 (eval): comparisons, and what is done with values of one kind. -/
namespace Go.Ab
open Go.Proofs
set_option maxRecDepth 100000
set_option maxHeartbeats 4000000
set_option linter.unusedSimpArgs false
set_option linter.unusedVariables false

theorem cmpT1_run (c : Int) : ∃ x : Bool, Om CC 95 [.t (.int .i64 c)] [] = some (.val (.t (.bool x)), []) ∧ (True) := by
  refine call_ex (F := fun x : Bool => .t (.bool x)) fun_95 rfl ?_
  (have F_ : _ ∧ _ ∧ _ ∧ _ ∧ _ ∧ _ := ⟨und_3, size_3, agg_3, zero_3, zel_3, small_3⟩; show W CC 0 5 (keepsOf 95) _ ⟨[(0, _)], []⟩ _)
  ((repeat' (first | with_reducible apply fol | with_reducible refine aRW ?_ | with_reducible refine aRR ?_ | with_reducible refine aRs ?_ | ((with_reducible first | apply RW_gdn | apply RR_gdn | apply RW_gd | apply RR_gd) <;> intro hg <;> first | (cases hg; done) | skip) | with_reducible refine aE1 ?_ | with_reducible refine aE2 ?_ | with_reducible refine aOn ?_ | ((with_reducible refine aCd ?_ ?_) <;> intro hv <;> first | (cases hv; done) | skip) | fail)))
  all_goals (((with_reducible apply ends_ret); (focus (simp only [CC_P, results, resultsOf, resultOf, get, res_95, *]; exact rfl)); (focus (first | exact finish_tree' _ _ _ _ | exact finish_tup2 _ _ _ _ _ | exact finish_tup3 _ _ _ _ _ _))))
  all_goals exact ⟨_, ⟨rfl, rfl⟩, by trivial⟩
noncomputable def CmpT1 (c : Int) : Bool := (cmpT1_run c).choose
theorem cmpT1_ok (c : Int) : Om CC 95 [.t (.int .i64 c)] [] = some (.val (.t (.bool (CmpT1 c))), []) := (cmpT1_run c).choose_spec.1

theorem cmpT2_run (c : Int) : ∃ x : Bool, Om CC 96 [.t (.int .i64 c)] [] = some (.val (.t (.bool x)), []) ∧ (True) := by
  refine call_ex (F := fun x : Bool => .t (.bool x)) fun_96 rfl ?_
  (have F_ : _ ∧ _ ∧ _ ∧ _ ∧ _ ∧ _ := ⟨und_3, size_3, agg_3, zero_3, zel_3, small_3⟩; show W CC 0 5 (keepsOf 96) _ ⟨[(0, _)], []⟩ _)
  ((repeat' (first | with_reducible apply fol | with_reducible refine aRW ?_ | with_reducible refine aRR ?_ | with_reducible refine aRs ?_ | ((with_reducible first | apply RW_gdn | apply RR_gdn | apply RW_gd | apply RR_gd) <;> intro hg <;> first | (cases hg; done) | skip) | with_reducible refine aE1 ?_ | with_reducible refine aE2 ?_ | with_reducible refine aOn ?_ | ((with_reducible refine aCd ?_ ?_) <;> intro hv <;> first | (cases hv; done) | skip) | fail)))
  all_goals (((with_reducible apply ends_ret); (focus (simp only [CC_P, results, resultsOf, resultOf, get, res_96, *]; exact rfl)); (focus (first | exact finish_tree' _ _ _ _ | exact finish_tup2 _ _ _ _ _ | exact finish_tup3 _ _ _ _ _ _))))
  all_goals exact ⟨_, ⟨rfl, rfl⟩, by trivial⟩
noncomputable def CmpT2 (c : Int) : Bool := (cmpT2_run c).choose
theorem cmpT2_ok (c : Int) : Om CC 96 [.t (.int .i64 c)] [] = some (.val (.t (.bool (CmpT2 c))), []) := (cmpT2_run c).choose_spec.1

theorem cmpT3_run (c : Int) : ∃ x : Bool, Om CC 97 [.t (.int .i64 c)] [] = some (.val (.t (.bool x)), []) ∧ (True) := by
  refine call_ex (F := fun x : Bool => .t (.bool x)) fun_97 rfl ?_
  (have F_ : _ ∧ _ ∧ _ ∧ _ ∧ _ ∧ _ := ⟨und_3, size_3, agg_3, zero_3, zel_3, small_3⟩; show W CC 0 5 (keepsOf 97) _ ⟨[(0, _)], []⟩ _)
  ((repeat' (first | with_reducible apply fol | with_reducible refine aRW ?_ | with_reducible refine aRR ?_ | with_reducible refine aRs ?_ | ((with_reducible first | apply RW_gdn | apply RR_gdn | apply RW_gd | apply RR_gd) <;> intro hg <;> first | (cases hg; done) | skip) | with_reducible refine aE1 ?_ | with_reducible refine aE2 ?_ | with_reducible refine aOn ?_ | ((with_reducible refine aCd ?_ ?_) <;> intro hv <;> first | (cases hv; done) | skip) | fail)))
  all_goals (((with_reducible apply ends_ret); (focus (simp only [CC_P, results, resultsOf, resultOf, get, res_97, *]; exact rfl)); (focus (first | exact finish_tree' _ _ _ _ | exact finish_tup2 _ _ _ _ _ | exact finish_tup3 _ _ _ _ _ _))))
  all_goals exact ⟨_, ⟨rfl, rfl⟩, by trivial⟩
noncomputable def CmpT3 (c : Int) : Bool := (cmpT3_run c).choose
theorem cmpT3_ok (c : Int) : Om CC 97 [.t (.int .i64 c)] [] = some (.val (.t (.bool (CmpT3 c))), []) := (cmpT3_run c).choose_spec.1

theorem cmpT4_run (c : Int) : ∃ x : Bool, Om CC 98 [.t (.int .i64 c)] [] = some (.val (.t (.bool x)), []) ∧ (True) := by
  refine call_ex (F := fun x : Bool => .t (.bool x)) fun_98 rfl ?_
  (have F_ : _ ∧ _ ∧ _ ∧ _ ∧ _ ∧ _ := ⟨und_3, size_3, agg_3, zero_3, zel_3, small_3⟩; show W CC 0 5 (keepsOf 98) _ ⟨[(0, _)], []⟩ _)
  ((repeat' (first | with_reducible apply fol | with_reducible refine aRW ?_ | with_reducible refine aRR ?_ | with_reducible refine aRs ?_ | ((with_reducible first | apply RW_gdn | apply RR_gdn | apply RW_gd | apply RR_gd) <;> intro hg <;> first | (cases hg; done) | skip) | with_reducible refine aE1 ?_ | with_reducible refine aE2 ?_ | with_reducible refine aOn ?_ | ((with_reducible refine aCd ?_ ?_) <;> intro hv <;> first | (cases hv; done) | skip) | fail)))
  all_goals (((with_reducible apply ends_ret); (focus (simp only [CC_P, results, resultsOf, resultOf, get, res_98, *]; exact rfl)); (focus (first | exact finish_tree' _ _ _ _ | exact finish_tup2 _ _ _ _ _ | exact finish_tup3 _ _ _ _ _ _))))
  all_goals exact ⟨_, ⟨rfl, rfl⟩, by trivial⟩
noncomputable def CmpT4 (c : Int) : Bool := (cmpT4_run c).choose
theorem cmpT4_ok (c : Int) : Om CC 98 [.t (.int .i64 c)] [] = some (.val (.t (.bool (CmpT4 c))), []) := (cmpT4_run c).choose_spec.1

theorem ordS_run (g : Nat) (hg : hasBody Tryz.prog g = true) (hgp : g ≠ 101) (G : Int → Bool) (hG : ∀ c, Om CC g [.t (.int .i64 c)] [] = some (.val (.t (.bool (G c))), [])) (a b : Val) (x y : Bool) :
    ∃ x' : Ans, Om CC 137 [.t (.sl x y [[.int .u8 a.k, .int .i64 a.n, .str a.s], [.int .u8 b.k, .int .i64 b.n, .str b.s]]), .box 0 0] [.box [.t (.fn g)]] = some (.val (.t (.agg [.int .u8 x'.v.k, .int .i64 x'.v.n, .str x'.v.s, .int .i64 x'.e])), [.box [.t (.fn g)]]) ∧ AOK x' := by
  refine call_exh (F := fun x : Ans => .t (.agg [.int .u8 x.v.k, .int .i64 x.v.n, .str x.v.s, .int .i64 x.e])) fun_137 rfl ?_
  (have F_ : _ ∧ _ ∧ _ ∧ _ ∧ _ ∧ _ ∧ _ ∧ _ ∧ _ ∧ _ ∧ _ ∧ _ ∧ _ ∧ _ ∧ _ ∧ _ ∧ _ ∧ _ ∧ _ ∧ _ ∧ _ ∧ _ ∧ _ ∧ _ ∧ _ ∧ _ ∧ _ ∧ _ ∧ _ ∧ _ ∧ _ ∧ _ ∧ _ ∧ _ ∧ _ ∧ _ ∧ _ ∧ _ ∧ _ ∧ _ ∧ _ ∧ _ ∧ _ ∧ _ ∧ _ ∧ _ ∧ _ ∧ _ ∧ _ ∧ _ ∧ _ ∧ _ ∧ _ ∧ _ ∧ _ ∧ _ ∧ _ ∧ _ ∧ _ ∧ _ ∧ _ ∧ _ ∧ _ ∧ _ ∧ _ ∧ _ ∧ _ ∧ _ ∧ _ ∧ _ ∧ _ ∧ _ ∧ _ ∧ _ ∧ _ := ⟨und_2, size_2, agg_2, zero_2, zel_2, small_2, und_3, size_3, agg_3, zero_3, zel_3, small_3, und_4, size_4, agg_4, zero_4, zel_4, small_4, noInt_4, und_5, size_5, agg_5, zero_5, zel_5, small_5, und_9, size_9, agg_9, zero_9, zel_9, small_9, noInt_9, und_28, size_28, agg_28, zero_28, zel_28, small_28, noInt_28, fa_45_0, fd_45_0, fa_45_1, fd_45_1, fa_45_2, fd_45_2, bld_45, size_45, agg_45, zero_45, zel_45, small_45, noInt_45, und_80, size_80, agg_80, zero_80, zel_80, small_80, fa_155_0, fd_155_0, fa_155_1, fd_155_1, bld_155, size_155, agg_155, zero_155, zel_155, small_155, noInt_155, size_187, agg_187, zero_187, zel_187, small_187, noInt_187⟩; show W CC 1 35 (keepsOf 137) _ ⟨[(0, _), (1, _)], [_]⟩ _)
  obtain ⟨z, hz, _⟩ := isNull_run [a, b] x y (by simp)
  obtain ⟨f1, hf1, _⟩ := fits_run 1 2 [a, b] x y (by simp)
  obtain ⟨f2, hf2, _⟩ := fits_run 3 3 [a, b] x y (by simp)
  simp only [List.map_cons, List.map_nil, Val.c] at hz hf1 hf2
  (have x0_ := @compareV_ok; have x1_ := @truthV_ok; have x2_ := @fail_ok; have x3_ := @idx_zero; have x4_ := @idx_one; have x5_ := @hb_134; have x6_ := @hb_75; have x7_ := @hb_136; have x8_ := @hb_138; have x9_ := @hb_90; (repeat' (first | with_reducible apply fol | with_reducible refine aRW ?_ | with_reducible refine aRR ?_ | with_reducible refine aRs ?_ | ((with_reducible first | apply RW_gdn | apply RR_gdn | apply RW_gd | apply RR_gd) <;> intro hg <;> first | (cases hg; done) | skip) | with_reducible refine aE1 ?_ | with_reducible refine aE2 ?_ | with_reducible refine aOn ?_ | ((with_reducible refine aCd ?_ ?_) <;> intro hv <;> first | (cases hv; done) | skip) | fail)); all_goals clear x0_ x1_ x2_ x3_ x4_ x5_ x6_ x7_ x8_ x9_)
  all_goals (((with_reducible apply ends_ret); (focus (simp only [CC_P, results, resultsOf, resultOf, get, load, loadCells, nth, cut, mkAgg, trees, res_137, List.length_cons, List.length_nil, List.take, List.drop, Nat.zero_add, Nat.reduceAdd, Nat.reduceLeDiff, if_true, *]; exact rfl)); (focus (simp only [finish, thaw_137, exports, viewedO, viewed, view, freeze, patch, catMap, canon, reach, refsL, refs, refsO, depth, renL, ren, renO, sub, sub1, upto, nth, List.map, List.take, List.length_cons, List.length_nil, List.append_nil, Nat.zero_add] <;> exact rfl))))
  all_goals first | exact ⟨⟨TruthV _, 0⟩, ⟨rfl, rfl⟩, truthV_p _⟩ | exact ⟨AZero, ⟨rfl, rfl⟩, VOK_0⟩ | exact ⟨Fail 8, ⟨rfl, rfl⟩, fail_p _⟩

theorem order_run (g : Nat) (hg : hasBody Tryz.prog g = true) (hgp : g ≠ 101) (G : Int → Bool) (hG : ∀ c, Om CC g [.t (.int .i64 c)] [] = some (.val (.t (.bool (G c))), [])) (nl cl nl2 cl2 : Bool) (kl : List Ans) (nb : List Bool) (hk : ∀ a ∈ kl, AOK a) :
    ∃ x : Ans, Om CC 94 [.t (.agg [.sl nl cl (kl.map Ans.c), .sl nl2 cl2 (nb.map boolC)]), .t (.fn g)] [] = some (.val (.t (.agg [.int .u8 x.v.k, .int .i64 x.v.n, .str x.v.s, .int .i64 x.e])), []) ∧ AOK x := by
  refine call_ex (F := fun x : Ans => .t (.agg [.int .u8 x.v.k, .int .i64 x.v.n, .str x.v.s, .int .i64 x.e])) fun_94 rfl ?_
  (have F_ : _ ∧ _ ∧ _ ∧ _ ∧ _ ∧ _ ∧ _ ∧ _ ∧ _ ∧ _ ∧ _ ∧ _ ∧ _ ∧ _ ∧ _ ∧ _ ∧ _ ∧ _ ∧ _ ∧ _ ∧ _ ∧ _ ∧ _ ∧ _ ∧ _ ∧ _ ∧ _ ∧ _ ∧ _ ∧ _ ∧ _ ∧ _ ∧ _ ∧ _ ∧ _ ∧ _ ∧ _ ∧ _ ∧ _ ∧ _ ∧ _ ∧ _ ∧ _ ∧ _ ∧ _ ∧ _ ∧ _ ∧ _ ∧ _ ∧ _ ∧ _ ∧ _ ∧ _ ∧ _ ∧ _ ∧ _ ∧ _ ∧ _ ∧ _ ∧ _ ∧ _ ∧ _ ∧ _ ∧ _ ∧ _ ∧ _ ∧ _ ∧ _ ∧ _ ∧ _ ∧ _ ∧ _ ∧ _ ∧ _ ∧ _ ∧ _ ∧ _ ∧ _ ∧ _ ∧ _ ∧ _ ∧ _ ∧ _ ∧ _ ∧ _ ∧ _ ∧ _ ∧ _ ∧ _ ∧ _ ∧ _ ∧ _ ∧ _ ∧ _ ∧ _ ∧ _ ∧ _ ∧ _ ∧ _ := ⟨und_2, size_2, agg_2, zero_2, zel_2, small_2, und_3, size_3, agg_3, zero_3, zel_3, small_3, und_4, size_4, agg_4, zero_4, zel_4, small_4, noInt_4, und_5, size_5, agg_5, zero_5, zel_5, small_5, und_9, size_9, agg_9, zero_9, zel_9, small_9, noInt_9, fa_45_0, fd_45_0, fa_45_1, fd_45_1, fa_45_2, fd_45_2, bld_45, size_45, agg_45, zero_45, zel_45, small_45, noInt_45, und_80, size_80, agg_80, zero_80, zel_80, small_80, und_153, size_153, agg_153, zero_153, zel_153, small_153, noInt_153, fa_155_0, fd_155_0, fa_155_1, fd_155_1, bld_155, size_155, agg_155, zero_155, zel_155, small_155, noInt_155, und_156, size_156, agg_156, zero_156, zel_156, small_156, noInt_156, fa_158_0, fd_158_0, fa_158_1, fd_158_1, bld_158, size_158, agg_158, zero_158, zel_158, small_158, noInt_158, size_187, agg_187, zero_187, zel_187, small_187, noInt_187, size_190, agg_190, zero_190, zel_190, small_190, noInt_190⟩; show W CC 0 8 (keepsOf 94) _ ⟨[(0, _), (1, _)], []⟩ _)
  obtain ⟨t, ht, htp⟩ := left1_run 137 hb_137 (by decide) (.fn g) nl cl nl2 cl2 kl (nb.map boolC) 2 (by decide) hk (fun l x y hl hv => by
    match l, hl, hv with
    | [a, b], _, hv => exact ordS_run g hg hgp G hG a b x y)
  have ht : Om CC 109 [.t (.agg [.sl nl cl (kl.map Ans.c), .sl nl2 cl2 (nb.map boolC)]), .t (.int .i64 2), .fn 137 [] [.box 0 0]] _ = _ := ht
  clear hk hG
  (have x0_ := @hb_109; (repeat' (first | with_reducible apply fol | with_reducible refine aRW ?_ | with_reducible refine aRR ?_ | with_reducible refine aRs ?_ | ((with_reducible first | apply RW_gdn | apply RR_gdn | apply RW_gd | apply RR_gd) <;> intro hg <;> first | (cases hg; done) | skip) | with_reducible refine aE1 ?_ | with_reducible refine aE2 ?_ | with_reducible refine aOn ?_ | ((with_reducible refine aCd ?_ ?_) <;> intro hv <;> first | (cases hv; done) | skip) | fail)); all_goals clear x0_)
  all_goals (((with_reducible apply ends_ret); (focus (simp only [CC_P, results, resultsOf, resultOf, get, load, loadCells, nth, cut, mkAgg, trees, res_94, List.length_cons, List.length_nil, List.take, List.drop, Nat.zero_add, Nat.reduceAdd, Nat.reduceLeDiff, if_true, *]; exact rfl)); (focus (first | exact finish_tree' _ _ _ _ | exact finish_tup2 _ _ _ _ _ | exact finish_tup3 _ _ _ _ _ _))))
  all_goals exact ⟨t, ⟨rfl, rfl⟩, htp⟩

theorem onlyS_run (g : Nat) (hg : hasBody Tryz.prog g = true) (hgp : g ≠ 101) (kind : Int) (l : List Val) (hl : l.length < 9223372036854775808) (x y : Bool) (r : Ans) (hr : Om CC g [.t (.sl x y (l.map Val.c))] [] = some (.val (.t (.agg [.int .u8 r.v.k, .int .i64 r.v.n, .str r.v.s, .int .i64 r.e])), [])) (hrp : AOK r) :
    ∃ x' : Ans, Om CC 139 [.t (.sl x y (l.map Val.c)), .box 0 0, .box 1 0] [.box [.t (.int .u8 kind)], .box [.t (.fn g)]] = some (.val (.t (.agg [.int .u8 x'.v.k, .int .i64 x'.v.n, .str x'.v.s, .int .i64 x'.e])), [.box [.t (.int .u8 kind)], .box [.t (.fn g)]]) ∧ AOK x' := by
  refine call_exh (F := fun x : Ans => .t (.agg [.int .u8 x.v.k, .int .i64 x.v.n, .str x.v.s, .int .i64 x.e])) fun_139 rfl ?_
  (have F_ : _ ∧ _ ∧ _ ∧ _ ∧ _ ∧ _ ∧ _ ∧ _ ∧ _ ∧ _ ∧ _ ∧ _ ∧ _ ∧ _ ∧ _ ∧ _ ∧ _ ∧ _ ∧ _ ∧ _ ∧ _ ∧ _ ∧ _ ∧ _ ∧ _ ∧ _ ∧ _ ∧ _ ∧ _ ∧ _ ∧ _ ∧ _ ∧ _ ∧ _ ∧ _ ∧ _ ∧ _ ∧ _ ∧ _ ∧ _ ∧ _ ∧ _ ∧ _ ∧ _ ∧ _ ∧ _ ∧ _ ∧ _ ∧ _ ∧ _ ∧ _ ∧ _ ∧ _ ∧ _ ∧ _ ∧ _ ∧ _ ∧ _ ∧ _ ∧ _ ∧ _ ∧ _ ∧ _ ∧ _ ∧ _ ∧ _ ∧ _ ∧ _ ∧ _ := ⟨und_2, size_2, agg_2, zero_2, zel_2, small_2, und_4, size_4, agg_4, zero_4, zel_4, small_4, noInt_4, und_5, size_5, agg_5, zero_5, zel_5, small_5, und_9, size_9, agg_9, zero_9, zel_9, small_9, noInt_9, und_28, size_28, agg_28, zero_28, zel_28, small_28, noInt_28, fa_45_0, fd_45_0, fa_45_1, fd_45_1, fa_45_2, fd_45_2, bld_45, size_45, agg_45, zero_45, zel_45, small_45, noInt_45, und_80, size_80, agg_80, zero_80, zel_80, small_80, fa_155_0, fd_155_0, fa_155_1, fd_155_1, bld_155, size_155, agg_155, zero_155, zel_155, small_155, noInt_155, size_190, agg_190, zero_190, zel_190, small_190, noInt_190⟩; show W CC 2 19 (keepsOf 139) _ ⟨[(0, _), (1, _), (2, _)], [_, _]⟩ _)
  obtain ⟨z, hz, _⟩ := isNull_run l x y hl
  obtain ⟨f1, hf1, _⟩ := fits_run kind kind l x y hl
  (have x0_ := @fail_ok; have x1_ := @hb_136; have x2_ := @hb_138; have x3_ := @hb_90; (repeat' (first | with_reducible apply fol | with_reducible refine aRW ?_ | with_reducible refine aRR ?_ | with_reducible refine aRs ?_ | ((with_reducible first | apply RW_gdn | apply RR_gdn | apply RW_gd | apply RR_gd) <;> intro hg <;> first | (cases hg; done) | skip) | with_reducible refine aE1 ?_ | with_reducible refine aE2 ?_ | with_reducible refine aOn ?_ | ((with_reducible refine aCd ?_ ?_) <;> intro hv <;> first | (cases hv; done) | skip) | fail)); all_goals clear x0_ x1_ x2_ x3_)
  all_goals (((with_reducible apply ends_ret); (focus (simp only [CC_P, results, resultsOf, resultOf, get, load, loadCells, nth, cut, mkAgg, trees, res_139, List.length_cons, List.length_nil, List.take, List.drop, Nat.zero_add, Nat.reduceAdd, Nat.reduceLeDiff, if_true, *]; exact rfl)); (focus (simp only [finish, thaw_139, exports, viewedO, viewed, view, freeze, patch, catMap, canon, reach, refsL, refs, refsO, depth, renL, ren, renO, sub, sub1, upto, nth, List.map, List.take, List.length_cons, List.length_nil, List.append_nil, Nat.reduceAdd, Nat.zero_add] <;> exact rfl))))
  all_goals first | exact ⟨r, ⟨rfl, rfl⟩, hrp⟩ | exact ⟨AZero, ⟨rfl, rfl⟩, VOK_0⟩ | exact ⟨Fail 8, ⟨rfl, rfl⟩, fail_p _⟩

theorem only_run (g : Nat) (hg : hasBody Tryz.prog g = true) (hgp : g ≠ 101) (kind : Int) (n : Nat) (hn : n < 4294967295) (hG : ∀ (l : List Val) (x y : Bool), l.length = n → (∀ v ∈ l, VOK v) → ∃ r : Ans, Om CC g [.t (.sl x y (l.map Val.c))] [] = some (.val (.t (.agg [.int .u8 r.v.k, .int .i64 r.v.n, .str r.v.s, .int .i64 r.e])), []) ∧ AOK r) (nl cl nl2 cl2 : Bool) (kl : List Ans) (nb : List Bool) (hk : ∀ a ∈ kl, AOK a) :
    ∃ x : Ans, Om CC 99 [.t (.agg [.sl nl cl (kl.map Ans.c), .sl nl2 cl2 (nb.map boolC)]), .t (.int .i64 (n : Int)), .t (.int .u8 kind), .t (.fn g)] [] = some (.val (.t (.agg [.int .u8 x.v.k, .int .i64 x.v.n, .str x.v.s, .int .i64 x.e])), []) ∧ AOK x := by
  refine call_ex (F := fun x : Ans => .t (.agg [.int .u8 x.v.k, .int .i64 x.v.n, .str x.v.s, .int .i64 x.e])) fun_99 rfl ?_
  (have F_ : _ ∧ _ ∧ _ ∧ _ ∧ _ ∧ _ ∧ _ ∧ _ ∧ _ ∧ _ ∧ _ ∧ _ ∧ _ ∧ _ ∧ _ ∧ _ ∧ _ ∧ _ ∧ _ ∧ _ ∧ _ ∧ _ ∧ _ ∧ _ ∧ _ ∧ _ ∧ _ ∧ _ ∧ _ ∧ _ ∧ _ ∧ _ ∧ _ ∧ _ ∧ _ ∧ _ ∧ _ ∧ _ ∧ _ ∧ _ ∧ _ ∧ _ ∧ _ ∧ _ ∧ _ ∧ _ ∧ _ ∧ _ ∧ _ ∧ _ ∧ _ ∧ _ ∧ _ ∧ _ ∧ _ ∧ _ ∧ _ ∧ _ ∧ _ ∧ _ ∧ _ ∧ _ ∧ _ ∧ _ ∧ _ ∧ _ ∧ _ ∧ _ ∧ _ ∧ _ ∧ _ ∧ _ ∧ _ ∧ _ ∧ _ ∧ _ ∧ _ ∧ _ ∧ _ ∧ _ ∧ _ ∧ _ ∧ _ ∧ _ ∧ _ ∧ _ ∧ _ ∧ _ ∧ _ ∧ _ ∧ _ ∧ _ ∧ _ := ⟨und_2, size_2, agg_2, zero_2, zel_2, small_2, und_3, size_3, agg_3, zero_3, zel_3, small_3, und_4, size_4, agg_4, zero_4, zel_4, small_4, noInt_4, und_5, size_5, agg_5, zero_5, zel_5, small_5, und_9, size_9, agg_9, zero_9, zel_9, small_9, noInt_9, fa_45_0, fd_45_0, fa_45_1, fd_45_1, fa_45_2, fd_45_2, bld_45, size_45, agg_45, zero_45, zel_45, small_45, noInt_45, und_80, size_80, agg_80, zero_80, zel_80, small_80, und_153, size_153, agg_153, zero_153, zel_153, small_153, noInt_153, fa_155_0, fd_155_0, fa_155_1, fd_155_1, bld_155, size_155, agg_155, zero_155, zel_155, small_155, noInt_155, und_156, size_156, agg_156, zero_156, zel_156, small_156, noInt_156, fa_158_0, fd_158_0, fa_158_1, fd_158_1, bld_158, size_158, agg_158, zero_158, zel_158, small_158, noInt_158, size_190, agg_190, zero_190, zel_190, small_190, noInt_190⟩; show W CC 0 13 (keepsOf 99) _ ⟨[(0, _), (1, _), (2, _), (3, _)], []⟩ _)
  obtain ⟨t, ht, htp⟩ := left2_run 139 hb_139 (by decide) (.int .u8 kind) (.fn g) nl cl nl2 cl2 kl (nb.map boolC) n hn hk (fun l x y hl hv => by
    obtain ⟨r, hr, hrp⟩ := hG l x y hl hv
    exact onlyS_run g hg hgp kind l (by omega) x y r hr hrp)
  clear hk hG
  (have x0_ := @hb_109; (repeat' (first | with_reducible apply fol | with_reducible refine aRW ?_ | with_reducible refine aRR ?_ | with_reducible refine aRs ?_ | ((with_reducible first | apply RW_gdn | apply RR_gdn | apply RW_gd | apply RR_gd) <;> intro hg <;> first | (cases hg; done) | skip) | with_reducible refine aE1 ?_ | with_reducible refine aE2 ?_ | with_reducible refine aOn ?_ | ((with_reducible refine aCd ?_ ?_) <;> intro hv <;> first | (cases hv; done) | skip) | fail)); all_goals clear x0_)
  all_goals (((with_reducible apply ends_ret); (focus (simp only [CC_P, results, resultsOf, resultOf, get, load, loadCells, nth, cut, mkAgg, trees, res_99, List.length_cons, List.length_nil, List.take, List.drop, Nat.zero_add, Nat.reduceAdd, Nat.reduceLeDiff, if_true, *]; exact rfl)); (focus (first | exact finish_tree' _ _ _ _ | exact finish_tup2 _ _ _ _ _ | exact finish_tup3 _ _ _ _ _ _))))
  all_goals exact ⟨t, ⟨rfl, rfl⟩, htp⟩

theorem twoS_run (g : Nat) (hg : hasBody Tryz.prog g = true) (hgp : g ≠ 101) (a b : Val) (x y : Bool) (r : Val × Int) (hr : Om CC g [.t (.agg [.int .u8 a.k, .int .i64 a.n, .str a.s]), .t (.agg [.int .u8 b.k, .int .i64 b.n, .str b.s])] [] = some (.val (.tup [.t (.agg [.int .u8 r.1.k, .int .i64 r.1.n, .str r.1.s]), .t (.int .i64 r.2)]), [])) (hrp : VOK r.1) :
    ∃ x' : Ans, Om CC 142 [.t (.sl x y [[.int .u8 a.k, .int .i64 a.n, .str a.s], [.int .u8 b.k, .int .i64 b.n, .str b.s]]), .box 0 0] [.box [.t (.fn g)]] = some (.val (.t (.agg [.int .u8 x'.v.k, .int .i64 x'.v.n, .str x'.v.s, .int .i64 x'.e])), [.box [.t (.fn g)]]) ∧ AOK x' := by
  refine call_exh (F := fun x : Ans => .t (.agg [.int .u8 x.v.k, .int .i64 x.v.n, .str x.v.s, .int .i64 x.e])) fun_142 rfl ?_
  (have F_ : _ ∧ _ ∧ _ ∧ _ ∧ _ ∧ _ ∧ _ ∧ _ ∧ _ ∧ _ ∧ _ ∧ _ ∧ _ ∧ _ ∧ _ ∧ _ ∧ _ ∧ _ ∧ _ ∧ _ ∧ _ ∧ _ ∧ _ ∧ _ ∧ _ ∧ _ ∧ _ ∧ _ ∧ _ ∧ _ ∧ _ ∧ _ ∧ _ ∧ _ ∧ _ ∧ _ ∧ _ ∧ _ ∧ _ ∧ _ ∧ _ ∧ _ ∧ _ ∧ _ ∧ _ ∧ _ ∧ _ ∧ _ ∧ _ ∧ _ ∧ _ ∧ _ ∧ _ ∧ _ ∧ _ ∧ _ ∧ _ ∧ _ ∧ _ ∧ _ ∧ _ ∧ _ := ⟨und_2, size_2, agg_2, zero_2, zel_2, small_2, und_5, size_5, agg_5, zero_5, zel_5, small_5, und_9, size_9, agg_9, zero_9, zel_9, small_9, noInt_9, und_28, size_28, agg_28, zero_28, zel_28, small_28, noInt_28, fa_45_0, fd_45_0, fa_45_1, fd_45_1, fa_45_2, fd_45_2, bld_45, size_45, agg_45, zero_45, zel_45, small_45, noInt_45, und_80, size_80, agg_80, zero_80, zel_80, small_80, fa_155_0, fd_155_0, fa_155_1, fd_155_1, bld_155, size_155, agg_155, zero_155, zel_155, small_155, noInt_155, size_192, agg_192, zero_192, zel_192, small_192, noInt_192⟩; show W CC 1 15 (keepsOf 142) _ ⟨[(0, _), (1, _)], [_]⟩ _)
  (have x0_ := @told_ok; have x1_ := @idx_zero; have x2_ := @idx_one; have x3_ := @hb_111; (repeat' (first | with_reducible apply fol | with_reducible refine aRW ?_ | with_reducible refine aRR ?_ | with_reducible refine aRs ?_ | ((with_reducible first | apply RW_gdn | apply RR_gdn | apply RW_gd | apply RR_gd) <;> intro hg <;> first | (cases hg; done) | skip) | with_reducible refine aE1 ?_ | with_reducible refine aE2 ?_ | with_reducible refine aOn ?_ | ((with_reducible refine aCd ?_ ?_) <;> intro hv <;> first | (cases hv; done) | skip) | fail)); all_goals clear x0_ x1_ x2_ x3_)
  all_goals (((with_reducible apply ends_ret); (focus (simp only [CC_P, results, resultsOf, resultOf, get, load, loadCells, nth, cut, mkAgg, trees, res_142, List.length_cons, List.length_nil, List.take, List.drop, Nat.zero_add, Nat.reduceAdd, Nat.reduceLeDiff, if_true, *]; exact rfl)); (focus (simp only [finish, thaw_142, exports, viewedO, viewed, view, freeze, patch, catMap, canon, reach, refsL, refs, refsO, depth, renL, ren, renO, sub, sub1, upto, nth, List.map, List.take, List.length_cons, List.length_nil, List.append_nil, Nat.zero_add] <;> exact rfl))))
  all_goals exact ⟨Told r.1 r.2, ⟨rfl, rfl⟩, told_p _ _ hrp⟩

theorem two_run (g : Nat) (hg : hasBody Tryz.prog g = true) (hgp : g ≠ 101) (hG : ∀ a b : Val, VOK a → VOK b → ∃ r : Val × Int, Om CC g [.t (.agg [.int .u8 a.k, .int .i64 a.n, .str a.s]), .t (.agg [.int .u8 b.k, .int .i64 b.n, .str b.s])] [] = some (.val (.tup [.t (.agg [.int .u8 r.1.k, .int .i64 r.1.n, .str r.1.s]), .t (.int .i64 r.2)]), []) ∧ VOK r.1) (nl cl nl2 cl2 : Bool) (kl : List Ans) (nb : List Bool) (hk : ∀ a ∈ kl, AOK a) :
    ∃ x : Ans, Om CC 104 [.t (.agg [.sl nl cl (kl.map Ans.c), .sl nl2 cl2 (nb.map boolC)]), .t (.fn g)] [] = some (.val (.t (.agg [.int .u8 x.v.k, .int .i64 x.v.n, .str x.v.s, .int .i64 x.e])), []) ∧ AOK x := by
  refine call_ex (F := fun x : Ans => .t (.agg [.int .u8 x.v.k, .int .i64 x.v.n, .str x.v.s, .int .i64 x.e])) fun_104 rfl ?_
  (have F_ : _ ∧ _ ∧ _ ∧ _ ∧ _ ∧ _ ∧ _ ∧ _ ∧ _ ∧ _ ∧ _ ∧ _ ∧ _ ∧ _ ∧ _ ∧ _ ∧ _ ∧ _ ∧ _ ∧ _ ∧ _ ∧ _ ∧ _ ∧ _ ∧ _ ∧ _ ∧ _ ∧ _ ∧ _ ∧ _ ∧ _ ∧ _ ∧ _ ∧ _ ∧ _ ∧ _ ∧ _ ∧ _ ∧ _ ∧ _ ∧ _ ∧ _ ∧ _ ∧ _ ∧ _ ∧ _ ∧ _ ∧ _ ∧ _ ∧ _ ∧ _ ∧ _ ∧ _ ∧ _ ∧ _ ∧ _ ∧ _ ∧ _ ∧ _ ∧ _ ∧ _ ∧ _ ∧ _ ∧ _ ∧ _ ∧ _ ∧ _ ∧ _ ∧ _ ∧ _ ∧ _ ∧ _ ∧ _ ∧ _ ∧ _ ∧ _ ∧ _ ∧ _ ∧ _ ∧ _ ∧ _ ∧ _ ∧ _ ∧ _ ∧ _ ∧ _ ∧ _ ∧ _ ∧ _ ∧ _ ∧ _ ∧ _ ∧ _ ∧ _ ∧ _ ∧ _ ∧ _ ∧ _ ∧ _ := ⟨und_2, size_2, agg_2, zero_2, zel_2, small_2, und_3, size_3, agg_3, zero_3, zel_3, small_3, und_4, size_4, agg_4, zero_4, zel_4, small_4, noInt_4, und_5, size_5, agg_5, zero_5, zel_5, small_5, und_9, size_9, agg_9, zero_9, zel_9, small_9, noInt_9, fa_45_0, fd_45_0, fa_45_1, fd_45_1, fa_45_2, fd_45_2, bld_45, size_45, agg_45, zero_45, zel_45, small_45, noInt_45, und_80, size_80, agg_80, zero_80, zel_80, small_80, und_153, size_153, agg_153, zero_153, zel_153, small_153, noInt_153, fa_155_0, fd_155_0, fa_155_1, fd_155_1, bld_155, size_155, agg_155, zero_155, zel_155, small_155, noInt_155, und_156, size_156, agg_156, zero_156, zel_156, small_156, noInt_156, fa_158_0, fd_158_0, fa_158_1, fd_158_1, bld_158, size_158, agg_158, zero_158, zel_158, small_158, noInt_158, size_190, agg_190, zero_190, zel_190, small_190, noInt_190, size_192, agg_192, zero_192, zel_192, small_192, noInt_192⟩; show W CC 0 8 (keepsOf 104) _ ⟨[(0, _), (1, _)], []⟩ _)
  obtain ⟨t, ht, htp⟩ := left1_run 142 hb_142 (by decide) (.fn g) nl cl nl2 cl2 kl (nb.map boolC) 2 (by decide) hk (fun l x y hl hv => by
    match l, hl, hv with
    | [a, b], _, hv =>
      obtain ⟨r, hr, hrp⟩ := hG a b (hv a (by simp)) (hv b (by simp))
      exact twoS_run g hg hgp a b x y r hr hrp)
  have ht : Om CC 109 [.t (.agg [.sl nl cl (kl.map Ans.c), .sl nl2 cl2 (nb.map boolC)]), .t (.int .i64 2), .fn 142 [] [.box 0 0]] _ = _ := ht
  clear hk hG
  (have x0_ := @hb_109; (repeat' (first | with_reducible apply fol | with_reducible refine aRW ?_ | with_reducible refine aRR ?_ | with_reducible refine aRs ?_ | ((with_reducible first | apply RW_gdn | apply RR_gdn | apply RW_gd | apply RR_gd) <;> intro hg <;> first | (cases hg; done) | skip) | with_reducible refine aE1 ?_ | with_reducible refine aE2 ?_ | with_reducible refine aOn ?_ | ((with_reducible refine aCd ?_ ?_) <;> intro hv <;> first | (cases hv; done) | skip) | fail)); all_goals clear x0_)
  all_goals (((with_reducible apply ends_ret); (focus (simp only [CC_P, results, resultsOf, resultOf, get, load, loadCells, nth, cut, mkAgg, trees, res_104, List.length_cons, List.length_nil, List.take, List.drop, Nat.zero_add, Nat.reduceAdd, Nat.reduceLeDiff, if_true, *]; exact rfl)); (focus (first | exact finish_tree' _ _ _ _ | exact finish_tup2 _ _ _ _ _ | exact finish_tup3 _ _ _ _ _ _))))
  all_goals exact ⟨t, ⟨rfl, rfl⟩, htp⟩

end Go.Ab
/- Layer 10 (eval): what is done with values. -/
namespace Go.Ab
open Go.Proofs
set_option maxRecDepth 100000
set_option maxHeartbeats 4000000
set_option linter.unusedSimpArgs false
set_option linter.unusedVariables false

theorem numberV_run (n : Int) : ∃ x : Val, Om CC 120 [.t (.int .i64 n)] [] = some (.val (.t (.agg [.int .u8 x.k, .int .i64 x.n, .str x.s])), []) ∧ (R64 n → VOK x) := by
  refine call_ex (F := fun x : Val => .t (.agg [.int .u8 x.k, .int .i64 x.n, .str x.s])) fun_120 rfl ?_
  (have F_ : _ ∧ _ ∧ _ ∧ _ ∧ _ ∧ _ ∧ _ ∧ _ ∧ _ ∧ _ ∧ _ ∧ _ ∧ _ ∧ _ ∧ _ ∧ _ ∧ _ ∧ _ ∧ _ ∧ _ ∧ _ ∧ _ ∧ _ ∧ _ ∧ _ ∧ _ ∧ _ ∧ _ ∧ _ ∧ _ ∧ _ ∧ _ := ⟨und_2, size_2, agg_2, zero_2, zel_2, small_2, und_5, size_5, agg_5, zero_5, zel_5, small_5, und_9, size_9, agg_9, zero_9, zel_9, small_9, noInt_9, fa_45_0, fd_45_0, fa_45_1, fd_45_1, fa_45_2, fd_45_2, bld_45, size_45, agg_45, zero_45, zel_45, small_45, noInt_45⟩; show W CC 0 5 (keepsOf 120) _ ⟨[(0, _)], []⟩ _)
  ((repeat' (first | with_reducible apply fol | with_reducible refine aRW ?_ | with_reducible refine aRR ?_ | with_reducible refine aRs ?_ | ((with_reducible first | apply RW_gdn | apply RR_gdn | apply RW_gd | apply RR_gd) <;> intro hg <;> first | (cases hg; done) | skip) | with_reducible refine aE1 ?_ | with_reducible refine aE2 ?_ | with_reducible refine aOn ?_ | ((with_reducible refine aCd ?_ ?_) <;> intro hv <;> first | (cases hv; done) | skip) | fail)))
  all_goals (((with_reducible apply ends_ret); (focus (simp only [CC_P, results, resultsOf, resultOf, get, load, loadCells, nth, cut, mkAgg, trees, res_120, List.length_cons, List.length_nil, List.take, List.drop, Nat.zero_add, Nat.reduceAdd, Nat.reduceLeDiff, if_true, *]; exact rfl)); (focus (first | exact finish_tree' _ _ _ _ | exact finish_tup2 _ _ _ _ _ | exact finish_tup3 _ _ _ _ _ _))))
  all_goals exact ⟨⟨_, _, _⟩, ⟨rfl, rfl⟩, by exact fun h => VOK_lit _ h⟩
noncomputable def NumberV (n : Int) : Val := (numberV_run n).choose
theorem numberV_ok (n : Int) : Om CC 120 [.t (.int .i64 n)] [] = some (.val (.t (.agg [.int .u8 (NumberV n).k, .int .i64 (NumberV n).n, .str (NumberV n).s])), []) := (numberV_run n).choose_spec.1
theorem numberV_p (n : Int) : R64 n → VOK (NumberV n) := (numberV_run n).choose_spec.2

theorem abs_run (a : Val) (x y : Bool) (ha : VOK a) : ∃ r : Ans, Om CC 117 [.t (.sl x y [[.int .u8 a.k, .int .i64 a.n, .str a.s]])] [] = some (.val (.t (.agg [.int .u8 r.v.k, .int .i64 r.v.n, .str r.v.s, .int .i64 r.e])), []) ∧ AOK r := by
  refine call_ex (F := fun x : Ans => .t (.agg [.int .u8 x.v.k, .int .i64 x.v.n, .str x.v.s, .int .i64 x.e])) fun_117 rfl ?_
  (have F_ : _ ∧ _ ∧ _ ∧ _ ∧ _ ∧ _ ∧ _ ∧ _ ∧ _ ∧ _ ∧ _ ∧ _ ∧ _ ∧ _ ∧ _ ∧ _ ∧ _ ∧ _ ∧ _ ∧ _ ∧ _ ∧ _ ∧ _ ∧ _ ∧ _ ∧ _ ∧ _ ∧ _ ∧ _ ∧ _ ∧ _ ∧ _ ∧ _ ∧ _ ∧ _ ∧ _ ∧ _ ∧ _ ∧ _ ∧ _ ∧ _ ∧ _ ∧ _ ∧ _ ∧ _ ∧ _ ∧ _ ∧ _ ∧ _ ∧ _ ∧ _ ∧ _ ∧ _ ∧ _ ∧ _ ∧ _ ∧ _ ∧ _ ∧ _ ∧ _ ∧ _ ∧ _ ∧ _ := ⟨und_2, size_2, agg_2, zero_2, zel_2, small_2, und_4, size_4, agg_4, zero_4, zel_4, small_4, noInt_4, und_5, size_5, agg_5, zero_5, zel_5, small_5, und_9, size_9, agg_9, zero_9, zel_9, small_9, noInt_9, und_28, size_28, agg_28, zero_28, zel_28, small_28, noInt_28, fa_45_0, fd_45_0, fa_45_1, fd_45_1, fa_45_2, fd_45_2, bld_45, size_45, agg_45, zero_45, zel_45, small_45, noInt_45, und_80, size_80, agg_80, zero_80, zel_80, small_80, fa_155_0, fd_155_0, fa_155_1, fd_155_1, bld_155, size_155, agg_155, zero_155, zel_155, small_155, noInt_155⟩; show W CC 0 25 (keepsOf 117) _ ⟨[(0, _)], []⟩ _)
  obtain ⟨f1, hf1, _⟩ := fits_run 1 2 [a] x y (by simp)
  simp only [List.map_cons, List.map_nil, Val.c] at hf1
  have hn := ha.1
  (have x0_ := @fail_ok; have x1_ := @told_ok; have x2_ := @vNeg_ok; have x3_ := @idx_zero; have x4_ := @hb_138; have x5_ := @hb_90; have x6_ := @hb_111; have x7_ := @hb_112; (repeat' (first | with_reducible apply fol | with_reducible refine aRW ?_ | with_reducible refine aRR ?_ | with_reducible refine aRs ?_ | ((with_reducible first | apply RW_gdn | apply RR_gdn | apply RW_gd | apply RR_gd) <;> intro hg <;> first | (cases hg; done) | skip) | with_reducible refine aE1 ?_ | with_reducible refine aE2 ?_ | with_reducible refine aOn ?_ | ((with_reducible refine aCd ?_ ?_) <;> intro hv <;> first | (cases hv; done) | skip) | fail)); all_goals clear x0_ x1_ x2_ x3_ x4_ x5_ x6_ x7_)
  all_goals (((with_reducible apply ends_ret); (focus (simp only [CC_P, results, resultsOf, resultOf, get, load, loadCells, nth, cut, mkAgg, trees, res_117, List.length_cons, List.length_nil, List.take, List.drop, Nat.zero_add, Nat.reduceAdd, Nat.reduceLeDiff, if_true, *]; exact rfl)); (focus (first | exact finish_tree' _ _ _ _ | exact finish_tup2 _ _ _ _ _ | exact finish_tup3 _ _ _ _ _ _))))
  all_goals first | exact ⟨⟨a, 0⟩, ⟨rfl, rfl⟩, ha⟩ | exact ⟨Told (VNeg a).1 (VNeg a).2, ⟨rfl, rfl⟩, told_p _ _ (vNeg_p a)⟩ | exact ⟨Fail 8, ⟨rfl, rfl⟩, fail_p _⟩

theorem modE_run (a b : Val) (x y : Bool) (hb : R64 b.n) : ∃ r : Ans, Om CC 118 [.t (.sl x y [[.int .u8 a.k, .int .i64 a.n, .str a.s], [.int .u8 b.k, .int .i64 b.n, .str b.s]])] [] = some (.val (.t (.agg [.int .u8 r.v.k, .int .i64 r.v.n, .str r.v.s, .int .i64 r.e])), []) ∧ AOK r := by
  refine call_ex (F := fun x : Ans => .t (.agg [.int .u8 x.v.k, .int .i64 x.v.n, .str x.v.s, .int .i64 x.e])) fun_118 rfl ?_
  (have F_ : _ ∧ _ ∧ _ ∧ _ ∧ _ ∧ _ ∧ _ ∧ _ ∧ _ ∧ _ ∧ _ ∧ _ ∧ _ ∧ _ ∧ _ ∧ _ ∧ _ ∧ _ ∧ _ ∧ _ ∧ _ ∧ _ ∧ _ ∧ _ ∧ _ ∧ _ ∧ _ ∧ _ ∧ _ ∧ _ ∧ _ ∧ _ ∧ _ ∧ _ ∧ _ ∧ _ ∧ _ ∧ _ ∧ _ ∧ _ ∧ _ ∧ _ ∧ _ ∧ _ ∧ _ ∧ _ ∧ _ ∧ _ ∧ _ ∧ _ ∧ _ ∧ _ ∧ _ ∧ _ ∧ _ ∧ _ := ⟨und_2, size_2, agg_2, zero_2, zel_2, small_2, und_5, size_5, agg_5, zero_5, zel_5, small_5, und_9, size_9, agg_9, zero_9, zel_9, small_9, noInt_9, und_28, size_28, agg_28, zero_28, zel_28, small_28, noInt_28, fa_45_0, fd_45_0, fa_45_1, fd_45_1, fa_45_2, fd_45_2, bld_45, size_45, agg_45, zero_45, zel_45, small_45, noInt_45, und_80, size_80, agg_80, zero_80, zel_80, small_80, fa_155_0, fd_155_0, fa_155_1, fd_155_1, bld_155, size_155, agg_155, zero_155, zel_155, small_155, noInt_155⟩; show W CC 0 21 (keepsOf 118) _ ⟨[(0, _)], []⟩ _)
  have hm := nMod_ok a.n b.n hb
  (have x0_ := @told_ok; have x1_ := @numberV_ok; have x2_ := @idx_zero; have x3_ := @idx_one; have x4_ := @hb_151; have x5_ := @hb_111; have x6_ := @hb_120; (repeat' (first | with_reducible apply fol | with_reducible refine aRW ?_ | with_reducible refine aRR ?_ | with_reducible refine aRs ?_ | ((with_reducible first | apply RW_gdn | apply RR_gdn | apply RW_gd | apply RR_gd) <;> intro hg <;> first | (cases hg; done) | skip) | with_reducible refine aE1 ?_ | with_reducible refine aE2 ?_ | with_reducible refine aOn ?_ | ((with_reducible refine aCd ?_ ?_) <;> intro hv <;> first | (cases hv; done) | skip) | fail)); all_goals clear x0_ x1_ x2_ x3_ x4_ x5_ x6_)
  all_goals (((with_reducible apply ends_ret); (focus (simp only [CC_P, results, resultsOf, resultOf, get, load, loadCells, nth, cut, mkAgg, trees, res_118, List.length_cons, List.length_nil, List.take, List.drop, Nat.zero_add, Nat.reduceAdd, Nat.reduceLeDiff, if_true, *]; exact rfl)); (focus (first | exact finish_tree' _ _ _ _ | exact finish_tup2 _ _ _ _ _ | exact finish_tup3 _ _ _ _ _ _))))
  all_goals exact ⟨Told (NumberV (NMod a.n b.n).1) (NMod a.n b.n).2, ⟨rfl, rfl⟩, told_p _ _ (numberV_p _ (nMod_r _ _))⟩

theorem oNeg_run (a : Val) (x y : Bool) (hn : R64 a.n) : ∃ r : Ans, Om CC 110 [.t (.sl x y [[.int .u8 a.k, .int .i64 a.n, .str a.s]])] [] = some (.val (.t (.agg [.int .u8 r.v.k, .int .i64 r.v.n, .str r.v.s, .int .i64 r.e])), []) ∧ AOK r := by
  refine call_ex (F := fun x : Ans => .t (.agg [.int .u8 x.v.k, .int .i64 x.v.n, .str x.v.s, .int .i64 x.e])) fun_110 rfl ?_
  (have F_ : _ ∧ _ ∧ _ ∧ _ ∧ _ ∧ _ ∧ _ ∧ _ ∧ _ ∧ _ ∧ _ ∧ _ ∧ _ ∧ _ ∧ _ ∧ _ ∧ _ ∧ _ ∧ _ ∧ _ ∧ _ ∧ _ ∧ _ ∧ _ ∧ _ ∧ _ ∧ _ ∧ _ ∧ _ ∧ _ ∧ _ ∧ _ ∧ _ ∧ _ ∧ _ ∧ _ ∧ _ ∧ _ ∧ _ ∧ _ ∧ _ ∧ _ ∧ _ ∧ _ ∧ _ ∧ _ ∧ _ ∧ _ ∧ _ ∧ _ ∧ _ ∧ _ ∧ _ ∧ _ ∧ _ ∧ _ := ⟨und_2, size_2, agg_2, zero_2, zel_2, small_2, und_5, size_5, agg_5, zero_5, zel_5, small_5, und_9, size_9, agg_9, zero_9, zel_9, small_9, noInt_9, und_28, size_28, agg_28, zero_28, zel_28, small_28, noInt_28, fa_45_0, fd_45_0, fa_45_1, fd_45_1, fa_45_2, fd_45_2, bld_45, size_45, agg_45, zero_45, zel_45, small_45, noInt_45, und_80, size_80, agg_80, zero_80, zel_80, small_80, fa_155_0, fd_155_0, fa_155_1, fd_155_1, bld_155, size_155, agg_155, zero_155, zel_155, small_155, noInt_155⟩; show W CC 0 10 (keepsOf 110) _ ⟨[(0, _)], []⟩ _)
  (have x0_ := @told_ok; have x1_ := @vNeg_ok; have x2_ := @idx_zero; have x3_ := @hb_111; have x4_ := @hb_112; (repeat' (first | with_reducible apply fol | with_reducible refine aRW ?_ | with_reducible refine aRR ?_ | with_reducible refine aRs ?_ | ((with_reducible first | apply RW_gdn | apply RR_gdn | apply RW_gd | apply RR_gd) <;> intro hg <;> first | (cases hg; done) | skip) | with_reducible refine aE1 ?_ | with_reducible refine aE2 ?_ | with_reducible refine aOn ?_ | ((with_reducible refine aCd ?_ ?_) <;> intro hv <;> first | (cases hv; done) | skip) | fail)); all_goals clear x0_ x1_ x2_ x3_ x4_)
  all_goals (((with_reducible apply ends_ret); (focus (simp only [CC_P, results, resultsOf, resultOf, get, load, loadCells, nth, cut, mkAgg, trees, res_110, List.length_cons, List.length_nil, List.take, List.drop, Nat.zero_add, Nat.reduceAdd, Nat.reduceLeDiff, if_true, *]; exact rfl)); (focus (first | exact finish_tree' _ _ _ _ | exact finish_tup2 _ _ _ _ _ | exact finish_tup3 _ _ _ _ _ _))))
  all_goals exact ⟨Told (VNeg a).1 (VNeg a).2, ⟨rfl, rfl⟩, told_p _ _ (vNeg_p a)⟩

theorem oLen_run (a : Val) (x y : Bool) (ha : VOK a) : ∃ r : Ans, Om CC 119 [.t (.sl x y [[.int .u8 a.k, .int .i64 a.n, .str a.s]])] [] = some (.val (.t (.agg [.int .u8 r.v.k, .int .i64 r.v.n, .str r.v.s, .int .i64 r.e])), []) ∧ AOK r := by
  refine call_ex (F := fun x : Ans => .t (.agg [.int .u8 x.v.k, .int .i64 x.v.n, .str x.v.s, .int .i64 x.e])) fun_119 rfl ?_
  (have F_ : _ ∧ _ ∧ _ ∧ _ ∧ _ ∧ _ ∧ _ ∧ _ ∧ _ ∧ _ ∧ _ ∧ _ ∧ _ ∧ _ ∧ _ ∧ _ ∧ _ ∧ _ ∧ _ ∧ _ ∧ _ ∧ _ ∧ _ ∧ _ ∧ _ ∧ _ ∧ _ ∧ _ ∧ _ ∧ _ ∧ _ ∧ _ ∧ _ ∧ _ ∧ _ ∧ _ ∧ _ ∧ _ ∧ _ ∧ _ ∧ _ ∧ _ ∧ _ ∧ _ ∧ _ ∧ _ ∧ _ ∧ _ ∧ _ ∧ _ ∧ _ ∧ _ ∧ _ ∧ _ ∧ _ ∧ _ := ⟨und_2, size_2, agg_2, zero_2, zel_2, small_2, und_5, size_5, agg_5, zero_5, zel_5, small_5, und_9, size_9, agg_9, zero_9, zel_9, small_9, noInt_9, und_28, size_28, agg_28, zero_28, zel_28, small_28, noInt_28, fa_45_0, fd_45_0, fa_45_1, fd_45_1, fa_45_2, fd_45_2, bld_45, size_45, agg_45, zero_45, zel_45, small_45, noInt_45, und_80, size_80, agg_80, zero_80, zel_80, small_80, fa_155_0, fd_155_0, fa_155_1, fd_155_1, bld_155, size_155, agg_155, zero_155, zel_155, small_155, noInt_155⟩; show W CC 0 10 (keepsOf 119) _ ⟨[(0, _)], []⟩ _)
  have hl : R64 (a.s.length : Int) := by have := ha.2; unfold R64; omega
  (have x0_ := @numberV_ok; have x1_ := @idx_zero; have x2_ := @hb_120; (repeat' (first | with_reducible apply fol | with_reducible refine aRW ?_ | with_reducible refine aRR ?_ | with_reducible refine aRs ?_ | ((with_reducible first | apply RW_gdn | apply RR_gdn | apply RW_gd | apply RR_gd) <;> intro hg <;> first | (cases hg; done) | skip) | with_reducible refine aE1 ?_ | with_reducible refine aE2 ?_ | with_reducible refine aOn ?_ | ((with_reducible refine aCd ?_ ?_) <;> intro hv <;> first | (cases hv; done) | skip) | fail)); all_goals clear x0_ x1_ x2_)
  all_goals (((with_reducible apply ends_ret); (focus (simp only [CC_P, results, resultsOf, resultOf, get, load, loadCells, nth, cut, mkAgg, trees, res_119, List.length_cons, List.length_nil, List.take, List.drop, Nat.zero_add, Nat.reduceAdd, Nat.reduceLeDiff, if_true, *]; exact rfl)); (focus (first | exact finish_tree' _ _ _ _ | exact finish_tup2 _ _ _ _ _ | exact finish_tup3 _ _ _ _ _ _))))
  all_goals exact ⟨⟨NumberV a.s.length, 0⟩, ⟨rfl, rfl⟩, numberV_p _ hl⟩

theorem oLeast_run (l : List Val) (x y : Bool) (hl : l.length < 4294967295) (hr : ∀ v ∈ l, VOK v) : ∃ r : Ans, Om CC 113 [.t (.sl x y (l.map Val.c))] [] = some (.val (.t (.agg [.int .u8 r.v.k, .int .i64 r.v.n, .str r.v.s, .int .i64 r.e])), []) ∧ AOK r := by
  refine call_ex (F := fun x : Ans => .t (.agg [.int .u8 x.v.k, .int .i64 x.v.n, .str x.v.s, .int .i64 x.e])) fun_113 rfl ?_
  (have F_ : _ ∧ _ ∧ _ ∧ _ ∧ _ ∧ _ ∧ _ ∧ _ ∧ _ ∧ _ ∧ _ ∧ _ ∧ _ ∧ _ ∧ _ ∧ _ ∧ _ ∧ _ ∧ _ ∧ _ ∧ _ ∧ _ ∧ _ ∧ _ ∧ _ ∧ _ ∧ _ ∧ _ ∧ _ ∧ _ ∧ _ ∧ _ ∧ _ ∧ _ ∧ _ ∧ _ ∧ _ ∧ _ ∧ _ ∧ _ ∧ _ ∧ _ ∧ _ ∧ _ ∧ _ ∧ _ ∧ _ ∧ _ ∧ _ ∧ _ ∧ _ ∧ _ ∧ _ ∧ _ ∧ _ ∧ _ := ⟨und_2, size_2, agg_2, zero_2, zel_2, small_2, und_5, size_5, agg_5, zero_5, zel_5, small_5, und_9, size_9, agg_9, zero_9, zel_9, small_9, noInt_9, und_28, size_28, agg_28, zero_28, zel_28, small_28, noInt_28, fa_45_0, fd_45_0, fa_45_1, fd_45_1, fa_45_2, fd_45_2, bld_45, size_45, agg_45, zero_45, zel_45, small_45, noInt_45, und_80, size_80, agg_80, zero_80, zel_80, small_80, fa_155_0, fd_155_0, fa_155_1, fd_155_1, bld_155, size_155, agg_155, zero_155, zel_155, small_155, noInt_155⟩; show W CC 0 8 (keepsOf 113) _ ⟨[(0, _)], []⟩ _)
  obtain ⟨z, hz, hzp⟩ := vLeast_run l x y hl (fun v hv => (hr v hv).1)
  clear hr
  (have x0_ := @told_ok; have x1_ := @hb_111; have x2_ := @hb_114; (repeat' (first | with_reducible apply fol | with_reducible refine aRW ?_ | with_reducible refine aRR ?_ | with_reducible refine aRs ?_ | ((with_reducible first | apply RW_gdn | apply RR_gdn | apply RW_gd | apply RR_gd) <;> intro hg <;> first | (cases hg; done) | skip) | with_reducible refine aE1 ?_ | with_reducible refine aE2 ?_ | with_reducible refine aOn ?_ | ((with_reducible refine aCd ?_ ?_) <;> intro hv <;> first | (cases hv; done) | skip) | fail)); all_goals clear x0_ x1_ x2_)
  all_goals (((with_reducible apply ends_ret); (focus (simp only [CC_P, results, resultsOf, resultOf, get, load, loadCells, nth, cut, mkAgg, trees, res_113, List.length_cons, List.length_nil, List.take, List.drop, Nat.zero_add, Nat.reduceAdd, Nat.reduceLeDiff, if_true, *]; exact rfl)); (focus (first | exact finish_tree' _ _ _ _ | exact finish_tup2 _ _ _ _ _ | exact finish_tup3 _ _ _ _ _ _))))
  all_goals exact ⟨Told z.1 z.2, ⟨rfl, rfl⟩, told_p _ _ hzp⟩

theorem oMost_run (l : List Val) (x y : Bool) (hl : l.length < 4294967295) (hr : ∀ v ∈ l, VOK v) : ∃ r : Ans, Om CC 115 [.t (.sl x y (l.map Val.c))] [] = some (.val (.t (.agg [.int .u8 r.v.k, .int .i64 r.v.n, .str r.v.s, .int .i64 r.e])), []) ∧ AOK r := by
  refine call_ex (F := fun x : Ans => .t (.agg [.int .u8 x.v.k, .int .i64 x.v.n, .str x.v.s, .int .i64 x.e])) fun_115 rfl ?_
  (have F_ : _ ∧ _ ∧ _ ∧ _ ∧ _ ∧ _ ∧ _ ∧ _ ∧ _ ∧ _ ∧ _ ∧ _ ∧ _ ∧ _ ∧ _ ∧ _ ∧ _ ∧ _ ∧ _ ∧ _ ∧ _ ∧ _ ∧ _ ∧ _ ∧ _ ∧ _ ∧ _ ∧ _ ∧ _ ∧ _ ∧ _ ∧ _ ∧ _ ∧ _ ∧ _ ∧ _ ∧ _ ∧ _ ∧ _ ∧ _ ∧ _ ∧ _ ∧ _ ∧ _ ∧ _ ∧ _ ∧ _ ∧ _ ∧ _ ∧ _ ∧ _ ∧ _ ∧ _ ∧ _ ∧ _ ∧ _ := ⟨und_2, size_2, agg_2, zero_2, zel_2, small_2, und_5, size_5, agg_5, zero_5, zel_5, small_5, und_9, size_9, agg_9, zero_9, zel_9, small_9, noInt_9, und_28, size_28, agg_28, zero_28, zel_28, small_28, noInt_28, fa_45_0, fd_45_0, fa_45_1, fd_45_1, fa_45_2, fd_45_2, bld_45, size_45, agg_45, zero_45, zel_45, small_45, noInt_45, und_80, size_80, agg_80, zero_80, zel_80, small_80, fa_155_0, fd_155_0, fa_155_1, fd_155_1, bld_155, size_155, agg_155, zero_155, zel_155, small_155, noInt_155⟩; show W CC 0 8 (keepsOf 115) _ ⟨[(0, _)], []⟩ _)
  obtain ⟨z, hz, hzp⟩ := vMost_run l x y hl (fun v hv => (hr v hv).1)
  clear hr
  (have x0_ := @told_ok; have x1_ := @hb_111; have x2_ := @hb_116; (repeat' (first | with_reducible apply fol | with_reducible refine aRW ?_ | with_reducible refine aRR ?_ | with_reducible refine aRs ?_ | ((with_reducible first | apply RW_gdn | apply RR_gdn | apply RW_gd | apply RR_gd) <;> intro hg <;> first | (cases hg; done) | skip) | with_reducible refine aE1 ?_ | with_reducible refine aE2 ?_ | with_reducible refine aOn ?_ | ((with_reducible refine aCd ?_ ?_) <;> intro hv <;> first | (cases hv; done) | skip) | fail)); all_goals clear x0_ x1_ x2_)
  all_goals (((with_reducible apply ends_ret); (focus (simp only [CC_P, results, resultsOf, resultOf, get, load, loadCells, nth, cut, mkAgg, trees, res_115, List.length_cons, List.length_nil, List.take, List.drop, Nat.zero_add, Nat.reduceAdd, Nat.reduceLeDiff, if_true, *]; exact rfl)); (focus (first | exact finish_tree' _ _ _ _ | exact finish_tup2 _ _ _ _ _ | exact finish_tup3 _ _ _ _ _ _))))
  all_goals exact ⟨Told z.1 z.2, ⟨rfl, rfl⟩, told_p _ _ hzp⟩

theorem str_prefix (g : Look) (s : List Nat) (n : Nat) (h : n ≤ s.length) : slice Tryz.prog g 9 (.t (.str s)) none (some (n : Int)) none = some (.t (.str (s.take n))) := by
  unfold slice
  rw [und_9]
  simp
  omega

theorem hasPrefL_run (a b : List Nat) : ∃ r : Bool, Om CC 141 [.t (.str a), .t (.str b)] [] = some (.val (.t (.bool r)), []) ∧ True := by
  refine call_ex (F := fun x : Bool => .t (.bool x)) fun_141 rfl ?_
  (have F_ : _ ∧ _ ∧ _ ∧ _ ∧ _ ∧ _ ∧ _ ∧ _ ∧ _ ∧ _ ∧ _ ∧ _ ∧ _ := ⟨und_3, size_3, agg_3, zero_3, zel_3, small_3, und_9, size_9, agg_9, zero_9, zel_9, small_9, noInt_9⟩; show W CC 0 18 (keepsOf 141) _ ⟨[(0, _), (1, _)], []⟩ _)
  by_cases h : b.length ≤ a.length
  · have hd : decide ((a.length : Int) ≥ b.length) = true := by simpa using h
    have hs := fun g => str_prefix g a b.length h
    repeat' (first | with_reducible apply once_normal | with_reducible apply once_exit | with_reducible apply once_ret | with_reducible apply once_pan | with_reducible apply thenW_normal | with_reducible apply thenW_ret | with_reducible apply thenW_exit | with_reducible apply thenW_pan | with_reducible apply outOf_normal | with_reducible apply outOf_eq | (refine outOf_ne (by kernel_rfl) ?_) | with_reducible apply outOf_ret | with_reducible apply outOf_pan | with_reducible apply again_exit | with_reducible apply again_ret | with_reducible apply again_pan | with_reducible apply W_seq | with_reducible apply W_block | with_reducible apply W_scope | with_reducible apply W_skip | with_reducible apply W_ret | with_reducible apply W_exit | with_reducible apply W_label | ((with_reducible apply W_RW); (focus kernel_rfl)) | ((with_reducible apply W_RR); (focus kernel_rfl); (focus kernel_rfl)) | with_reducible apply RW_some | with_reducible apply RR_cons | ((with_reducible apply RR_some); (refine ⟨by kernel_rfl, ?_⟩)) | ((with_reducible refine RW_gdn (fun hg => ?_) (fun hg => ?_)) <;> first | (cases hg; done) | skip) | ((with_reducible refine RR_gdn (fun hg => ?_) (fun hg => ?_)) <;> first | (cases hg; done) | skip) | ((with_reducible refine RW_gd (fun hg => ?_) (fun hg => ?_)) <;> first | (cases hg; done) | skip) | ((with_reducible refine RR_gd (fun hg => ?_) (fun hg => ?_)) <;> first | (cases hg; done) | skip) | ((with_reducible apply RW_eq); (focus (simp only [xSlice, bound, Int.ofNat_eq_natCast, wanted, exec1, xPick, xCall, xBuiltin, xLen, operand, opds, get, putT, ret, retO, lit, lit1, patch, nth, CC_P, int_geq, str_eql, beq_self_eq_true, runOps_cons, runOps_nil, gdL_true, *]; exact rfl))) | ((with_reducible apply RR_eq); (focus (simp only [*]; exact rfl))) | ((refine W_cond (by (simp only [operand, lit, lit1, *]; exact rfl)) (fun hv => ?_) (fun hv => ?_)) <;> first | (cases hv; done) | skip))
    all_goals (((with_reducible apply ends_ret); (focus (simp only [CC_P, results, resultsOf, resultOf, get, res_141, *]; exact rfl)); (focus (first | exact finish_tree' _ _ _ _ | exact finish_tup2 _ _ _ _ _ | exact finish_tup3 _ _ _ _ _ _))))
    all_goals exact ⟨_, ⟨rfl, rfl⟩, trivial⟩
  · have hd : decide ((a.length : Int) ≥ b.length) = false := by simp; omega
    ((repeat' (first | with_reducible apply fol | with_reducible refine aRW ?_ | with_reducible refine aRR ?_ | with_reducible refine aRs ?_ | ((with_reducible first | apply RW_gdn | apply RR_gdn | apply RW_gd | apply RR_gd) <;> intro hg <;> first | (cases hg; done) | skip) | with_reducible refine aE1 ?_ | with_reducible refine aE2 ?_ | with_reducible refine aOn ?_ | ((with_reducible refine aCd ?_ ?_) <;> intro hv <;> first | (cases hv; done) | skip) | fail)))
    all_goals (((with_reducible apply ends_ret); (focus (simp only [CC_P, results, resultsOf, resultOf, get, res_141, *]; exact rfl)); (focus (first | exact finish_tree' _ _ _ _ | exact finish_tup2 _ _ _ _ _ | exact finish_tup3 _ _ _ _ _ _))))
    all_goals exact ⟨_, ⟨rfl, rfl⟩, trivial⟩
noncomputable def HasPrefL (a b : List Nat) : Bool := (hasPrefL_run a b).choose
theorem hasPrefL_ok (a b : List Nat) : Om CC 141 [.t (.str a), .t (.str b)] [] = some (.val (.t (.bool (HasPrefL a b))), []) := (hasPrefL_run a b).choose_spec.1

theorem hasPref_run (a : List Nat) (b : List Nat) : ∃ x : Bool, Om CC 103 [.t (.str a), .t (.str b)] [] = some (.val (.t (.bool x)), []) ∧ (True) := by
  refine call_ex (F := fun x : Bool => .t (.bool x)) fun_103 rfl ?_
  (have F_ : _ ∧ _ ∧ _ ∧ _ ∧ _ ∧ _ ∧ _ := ⟨und_9, size_9, agg_9, zero_9, zel_9, small_9, noInt_9⟩; show W CC 0 8 (keepsOf 103) _ ⟨[(0, _), (1, _)], []⟩ _)
  (have x0_ := @hasPrefL_ok; have x1_ := @hb_141; (repeat' (first | with_reducible apply fol | with_reducible refine aRW ?_ | with_reducible refine aRR ?_ | with_reducible refine aRs ?_ | ((with_reducible first | apply RW_gdn | apply RR_gdn | apply RW_gd | apply RR_gd) <;> intro hg <;> first | (cases hg; done) | skip) | with_reducible refine aE1 ?_ | with_reducible refine aE2 ?_ | with_reducible refine aOn ?_ | ((with_reducible refine aCd ?_ ?_) <;> intro hv <;> first | (cases hv; done) | skip) | fail)); all_goals clear x0_ x1_)
  all_goals (((with_reducible apply ends_ret); (focus (simp only [CC_P, results, resultsOf, resultOf, get, res_103, *]; exact rfl)); (focus (first | exact finish_tree' _ _ _ _ | exact finish_tup2 _ _ _ _ _ | exact finish_tup3 _ _ _ _ _ _))))
  all_goals exact ⟨_, ⟨rfl, rfl⟩, by trivial⟩
noncomputable def HasPref (a : List Nat) (b : List Nat) : Bool := (hasPref_run a b).choose
theorem hasPref_ok (a : List Nat) (b : List Nat) : Om CC 103 [.t (.str a), .t (.str b)] [] = some (.val (.t (.bool (HasPref a b))), []) := (hasPref_run a b).choose_spec.1

theorem tHead_run (a b : Val) (x y : Bool) : ∃ r : Ans, Om CC 102 [.t (.sl x y [[.int .u8 a.k, .int .i64 a.n, .str a.s], [.int .u8 b.k, .int .i64 b.n, .str b.s]])] [] = some (.val (.t (.agg [.int .u8 r.v.k, .int .i64 r.v.n, .str r.v.s, .int .i64 r.e])), []) ∧ AOK r := by
  refine call_ex (F := fun x : Ans => .t (.agg [.int .u8 x.v.k, .int .i64 x.v.n, .str x.v.s, .int .i64 x.e])) fun_102 rfl ?_
  (have F_ : _ ∧ _ ∧ _ ∧ _ ∧ _ ∧ _ ∧ _ ∧ _ ∧ _ ∧ _ ∧ _ ∧ _ ∧ _ ∧ _ ∧ _ ∧ _ ∧ _ ∧ _ ∧ _ ∧ _ ∧ _ ∧ _ ∧ _ ∧ _ ∧ _ ∧ _ ∧ _ ∧ _ ∧ _ ∧ _ ∧ _ ∧ _ ∧ _ ∧ _ ∧ _ ∧ _ ∧ _ ∧ _ ∧ _ ∧ _ ∧ _ ∧ _ ∧ _ ∧ _ ∧ _ ∧ _ ∧ _ ∧ _ ∧ _ ∧ _ ∧ _ ∧ _ ∧ _ ∧ _ ∧ _ ∧ _ ∧ _ ∧ _ ∧ _ ∧ _ ∧ _ ∧ _ ∧ _ := ⟨und_2, size_2, agg_2, zero_2, zel_2, small_2, und_4, size_4, agg_4, zero_4, zel_4, small_4, noInt_4, und_5, size_5, agg_5, zero_5, zel_5, small_5, und_9, size_9, agg_9, zero_9, zel_9, small_9, noInt_9, und_28, size_28, agg_28, zero_28, zel_28, small_28, noInt_28, fa_45_0, fd_45_0, fa_45_1, fd_45_1, fa_45_2, fd_45_2, bld_45, size_45, agg_45, zero_45, zel_45, small_45, noInt_45, und_80, size_80, agg_80, zero_80, zel_80, small_80, fa_155_0, fd_155_0, fa_155_1, fd_155_1, bld_155, size_155, agg_155, zero_155, zel_155, small_155, noInt_155⟩; show W CC 0 14 (keepsOf 102) _ ⟨[(0, _)], []⟩ _)
  (have x0_ := @hasPref_ok; have x1_ := @truthV_ok; have x2_ := @idx_zero; have x3_ := @idx_one; have x4_ := @hb_103; have x5_ := @hb_75; (repeat' (first | with_reducible apply fol | with_reducible refine aRW ?_ | with_reducible refine aRR ?_ | with_reducible refine aRs ?_ | ((with_reducible first | apply RW_gdn | apply RR_gdn | apply RW_gd | apply RR_gd) <;> intro hg <;> first | (cases hg; done) | skip) | with_reducible refine aE1 ?_ | with_reducible refine aE2 ?_ | with_reducible refine aOn ?_ | ((with_reducible refine aCd ?_ ?_) <;> intro hv <;> first | (cases hv; done) | skip) | fail)); all_goals clear x0_ x1_ x2_ x3_ x4_ x5_)
  all_goals (((with_reducible apply ends_ret); (focus (simp only [CC_P, results, resultsOf, resultOf, get, load, loadCells, nth, cut, mkAgg, trees, res_102, List.length_cons, List.length_nil, List.take, List.drop, Nat.zero_add, Nat.reduceAdd, Nat.reduceLeDiff, if_true, *]; exact rfl)); (focus (first | exact finish_tree' _ _ _ _ | exact finish_tup2 _ _ _ _ _ | exact finish_tup3 _ _ _ _ _ _))))
  all_goals exact ⟨⟨TruthV (HasPref a.s b.s), 0⟩, ⟨rfl, rfl⟩, truthV_p _⟩

end Go.Ab
/- Layer 10 (eval): a node without expressions: its answer does not hang on its place. -/
namespace Go.Ab
open Go.Proofs
set_option maxRecDepth 100000
set_option maxHeartbeats 4000000
set_option linter.unusedSimpArgs false
set_option linter.unusedVariables false

/-- The value of the first variable of a name. -/
noncomputable def varA (name : List Nat) (l : List Bind) : Ans :=
  match l.findIdx? (fun b => beqL b.name name) with
  | some i => Held ((l.map Bind.v).getD i Zero)
  | none => Fail 11

theorem varA_hit {name : List Nat} {l : List Bind} {i : Nat} (hi : i < l.length) (h : beqL l[i].name name = true) (hn : ∀ j (hj : j < l.length), j < i → beqL l[j].name name = false) : varA name l = Held l[i].v := by
  have : l.findIdx? (fun t => beqL t.name name) = some i := by
    rw [List.findIdx?_eq_some_iff_getElem]
    exact ⟨hi, h, fun j hj => by simp [hn j (by omega) hj]⟩
  unfold varA
  rw [this]
  simp [List.getD, hi]

theorem varA_none {name : List Nat} {l : List Bind} (hn : ∀ j (hj : j < l.length), beqL l[j].name name = false) : varA name l = Fail 11 := by
  have : l.findIdx? (fun t => beqL t.name name) = none := by
    rw [List.findIdx?_eq_none_iff]
    intro x hx
    obtain ⟨j, hj, rfl⟩ := List.getElem_of_mem hx
    exact hn j hj
  unfold varA
  rw [this]

noncomputable def leafA (op : Int) (v : Val) (name : List Nat) (self : Val) (l : List Bind) : Ans × Bool :=
  if op = 1 then (Held v, true) else if op = 3 then (Held self, true) else if op = 2 then (varA name l, true) else (AZero, false)

theorem leaf_ok (op : Int) (v : Val) (name : List Nat) (kids line col : Tree) (self : Val) (nl cl : Bool) (l : List Bind) (hl : l.length < 9223372036854775808) :
    Om CC 70 [.t (.agg [.int .u8 op, .int .u8 v.k, .int .i64 v.n, .str v.s, .str name, kids, line, col]), .t (.agg [.int .u8 self.k, .int .i64 self.n, .str self.s]), .t (.sl nl cl (l.map Bind.c))] [] = some (.val (.tup [.t (.agg [.int .u8 (leafA op v name self l).1.v.k, .int .i64 (leafA op v name self l).1.v.n, .str (leafA op v name self l).1.v.s, .int .i64 (leafA op v name self l).1.e]), .t (.bool (leafA op v name self l).2)]), []) := by
  refine call_eq fun_70 rfl ?_
  (have F_ : _ ∧ _ ∧ _ ∧ _ ∧ _ ∧ _ ∧ _ ∧ _ ∧ _ ∧ _ ∧ _ ∧ _ ∧ _ ∧ _ ∧ _ ∧ _ ∧ _ ∧ _ ∧ _ ∧ _ ∧ _ ∧ _ ∧ _ ∧ _ ∧ _ ∧ _ ∧ _ ∧ _ ∧ _ ∧ _ ∧ _ ∧ _ ∧ _ ∧ _ ∧ _ ∧ _ ∧ _ ∧ _ ∧ _ ∧ _ ∧ _ ∧ _ ∧ _ ∧ _ ∧ _ ∧ _ ∧ _ ∧ _ ∧ _ ∧ _ ∧ _ ∧ _ ∧ _ ∧ _ ∧ _ ∧ _ ∧ _ ∧ _ ∧ _ ∧ _ ∧ _ ∧ _ ∧ _ ∧ _ ∧ _ ∧ _ ∧ _ ∧ _ ∧ _ ∧ _ ∧ _ ∧ _ ∧ _ ∧ _ ∧ _ ∧ _ ∧ _ ∧ _ ∧ _ ∧ _ ∧ _ ∧ _ ∧ _ ∧ _ ∧ _ ∧ _ ∧ _ ∧ _ ∧ _ ∧ _ ∧ _ ∧ _ ∧ _ ∧ _ ∧ _ ∧ _ ∧ _ ∧ _ ∧ _ ∧ _ ∧ _ ∧ _ ∧ _ ∧ _ ∧ _ ∧ _ ∧ _ ∧ _ := ⟨und_2, size_2, agg_2, zero_2, zel_2, small_2, und_3, size_3, agg_3, zero_3, zel_3, small_3, und_5, size_5, agg_5, zero_5, zel_5, small_5, und_9, size_9, agg_9, zero_9, zel_9, small_9, noInt_9, fa_25_0, fd_25_0, fa_25_1, fd_25_1, bld_25, size_25, agg_25, zero_25, zel_25, small_25, noInt_25, und_31, size_31, agg_31, zero_31, zel_31, small_31, noInt_31, fa_45_0, fd_45_0, fa_45_1, fd_45_1, fa_45_2, fd_45_2, bld_45, size_45, agg_45, zero_45, zel_45, small_45, noInt_45, fa_47_0, fd_47_0, fa_47_1, fd_47_1, bld_47, size_47, agg_47, zero_47, zel_47, small_47, noInt_47, und_71, size_71, agg_71, zero_71, zel_71, small_71, noInt_71, fa_75_0, fd_75_0, fa_75_1, fd_75_1, fa_75_2, fd_75_2, fa_75_3, fd_75_3, fa_75_4, fd_75_4, bld_75, size_75, agg_75, zero_75, zel_75, small_75, noInt_75, und_80, size_80, agg_80, zero_80, zel_80, small_80, fa_155_0, fd_155_0, fa_155_1, fd_155_1, bld_155, size_155, agg_155, zero_155, zel_155, small_155, noInt_155⟩; show W CC 0 40 (keepsOf 70) _ ⟨[(0, _), (1, _), (2, _)], []⟩ _)
  by_cases h1 : op = 1
  · subst h1
    (have x0_ := @held_ok; have x1_ := @hb_89; (repeat' (first | with_reducible apply fol | with_reducible refine aRW ?_ | with_reducible refine aRR ?_ | with_reducible refine aRs ?_ | ((with_reducible first | apply RW_gdn | apply RR_gdn | apply RW_gd | apply RR_gd) <;> intro hg <;> first | (cases hg; done) | skip) | with_reducible refine aE1 ?_ | with_reducible refine aE2 ?_ | with_reducible refine aOn ?_ | ((with_reducible refine aCd ?_ ?_) <;> intro hv <;> first | (cases hv; done) | skip) | fail)); all_goals clear x0_ x1_)
    ((with_reducible apply Ends'_ret); (focus (simp only [CC_P, results, resultsOf, resultOf, get, load, loadCells, nth, cut, mkAgg, trees, res_70, List.length_cons, List.length_nil, List.take, List.drop, Nat.zero_add, Nat.reduceAdd, Nat.reduceLeDiff, if_true, *]; exact rfl)); (focus (first | exact finish_tree' _ _ _ _ | exact finish_tup2 _ _ _ _ _ | exact finish_tup3 _ _ _ _ _ _ | kernel_rfl)))
    · rfl
    · rfl
  · have e1 : (op == 1) = false := by simpa using h1
    by_cases h3 : op = 3
    · subst h3
      (have x0_ := @held_ok; have x1_ := @hb_89; (repeat' (first | with_reducible apply fol | with_reducible refine aRW ?_ | with_reducible refine aRR ?_ | with_reducible refine aRs ?_ | ((with_reducible first | apply RW_gdn | apply RR_gdn | apply RW_gd | apply RR_gd) <;> intro hg <;> first | (cases hg; done) | skip) | with_reducible refine aE1 ?_ | with_reducible refine aE2 ?_ | with_reducible refine aOn ?_ | ((with_reducible refine aCd ?_ ?_) <;> intro hv <;> first | (cases hv; done) | skip) | fail)); all_goals clear x0_ x1_)
      ((with_reducible apply Ends'_ret); (focus (simp only [CC_P, results, resultsOf, resultOf, get, load, loadCells, nth, cut, mkAgg, trees, res_70, List.length_cons, List.length_nil, List.take, List.drop, Nat.zero_add, Nat.reduceAdd, Nat.reduceLeDiff, if_true, *]; exact rfl)); (focus (first | exact finish_tree' _ _ _ _ | exact finish_tup2 _ _ _ _ _ | exact finish_tup3 _ _ _ _ _ _ | kernel_rfl)))
      · rfl
      · rfl
    · have e3 : (op == 3) = false := by simpa using h3
      by_cases h2 : op = 2
      · subst h2
        have hL : leafA 2 v name self l = (varA name l, true) := by simp [leafA]
        rw [hL]
        clear h1 h3
        ((repeat' (first | with_reducible apply fol | with_reducible refine aRW ?_ | with_reducible refine aRR ?_ | with_reducible refine aRs ?_ | ((with_reducible first | apply RW_gdn | apply RR_gdn | apply RW_gd | apply RR_gd) <;> intro hg <;> first | (cases hg; done) | skip) | with_reducible refine aE1 ?_ | with_reducible refine aE2 ?_ | with_reducible refine aOn ?_ | ((with_reducible refine aCd ?_ ?_) <;> intro hv <;> first | (cases hv; done) | skip) | fail)))
        refine W_rounds (α := Nat) (fun i => ⟨[(3, .box 0 0), (6, .box 1 0), (23, .t (.sl nl cl (l.map Bind.c))), (24, .t (.int .i64 l.length)), (25, .t (.int .i64 i))], [.box [.t (.int .u8 2), .t (.int .u8 v.k), .t (.int .i64 v.n), .t (.str v.s), .t (.str name), .t kids, .t line, .t col], .box (AZero.c.map .t)]⟩) (fun i => l.length - i)
          (fun i => i ≤ l.length ∧ ∀ j (hj : j < l.length), j < i → beqL l[j].name name = false) 0 (by kernel_rfl) ⟨Nat.zero_le _, fun j _ hj => by omega⟩ ?_
        rintro i ⟨hi, hn⟩
        simp only [AZero, Zero, Ans.c, List.map_cons, List.map_nil]
        by_cases hi' : i < l.length
        · have hw : IntKind.i64.wrap ((i : Int) + 1) = ((i + 1 : Nat) : Int) := by rw [wrap64] <;> omega
          have he : l[i]? = some l[i] := List.getElem?_eq_getElem hi'
          have hd : decide ((i : Int) < l.length) = true := by simpa using hi'
          cases hb : beqL l[i].name name with
          | true =>
            rw [varA_hit hi' hb hn]
            clear hn
            (have x0_ := @held_ok; have x1_ := @hb_89; (repeat' (first | with_reducible apply fol | with_reducible refine aRW ?_ | with_reducible refine aRR ?_ | with_reducible refine aRs ?_ | ((with_reducible first | apply RW_gdn | apply RR_gdn | apply RW_gd | apply RR_gd) <;> intro hg <;> first | (cases hg; done) | skip) | with_reducible refine aE1 ?_ | with_reducible refine aE2 ?_ | with_reducible refine aOn ?_ | ((with_reducible refine aCd ?_ ?_) <;> intro hv <;> first | (cases hv; done) | skip) | fail)); all_goals clear x0_ x1_)
            ((with_reducible apply Ends'_ret); (focus (simp only [CC_P, results, resultsOf, resultOf, get, load, loadCells, nth, cut, mkAgg, trees, res_70, List.length_cons, List.length_nil, List.take, List.drop, Nat.zero_add, Nat.reduceAdd, Nat.reduceLeDiff, if_true, *]; exact rfl)); (focus (first | exact finish_tree' _ _ _ _ | exact finish_tup2 _ _ _ _ _ | exact finish_tup3 _ _ _ _ _ _ | kernel_rfl)))
            · rfl
            · rfl
          | false =>
            have hn' : ∀ j (hj : j < l.length), j < i + 1 → beqL l[j].name name = false := fun j hj hji => by
              rcases Nat.lt_or_ge j i with h | h
              · exact hn j hj h
              · obtain rfl : j = i := by omega
                exact hb
            clear hn
            ((repeat' (first | with_reducible apply fol | with_reducible refine aRW ?_ | with_reducible refine aRR ?_ | with_reducible refine aRs ?_ | ((with_reducible first | apply RW_gdn | apply RR_gdn | apply RW_gd | apply RR_gd) <;> intro hg <;> first | (cases hg; done) | skip) | with_reducible refine aE1 ?_ | with_reducible refine aE2 ?_ | with_reducible refine aOn ?_ | ((with_reducible refine aCd ?_ ?_) <;> intro hv <;> first | (cases hv; done) | skip) | fail)))
            refine again_normal (i + 1) (by omega) ⟨by omega, hn'⟩ (by (simp only [loopKeep, firstRegion, keepsOf, tidy, canon, reach, refsL, refs, refsO, catMap, depth, renL, ren, renO, sub, sub1, upto, mem, place, fresh, cond_true, get, nth, List.map, List.zip_cons_cons, List.zip_nil_right, List.take, List.append_nil, List.nil_append, List.cons_append, beq_dec, decide_true, decide_false, Nat.reduceEqDiff] <;> exact rfl))
        · have hd : decide ((i : Int) < l.length) = false := by simpa using hi'
          rw [varA_none fun j hj => hn j hj (by omega)]
          clear hn
          (have x0_ := @fail_ok; have x1_ := @hb_90; (repeat' (first | with_reducible apply fol | with_reducible refine aRW ?_ | with_reducible refine aRR ?_ | with_reducible refine aRs ?_ | ((with_reducible first | apply RW_gdn | apply RR_gdn | apply RW_gd | apply RR_gd) <;> intro hg <;> first | (cases hg; done) | skip) | with_reducible refine aE1 ?_ | with_reducible refine aE2 ?_ | with_reducible refine aOn ?_ | ((with_reducible refine aCd ?_ ?_) <;> intro hv <;> first | (cases hv; done) | skip) | fail)); all_goals clear x0_ x1_)
          ((with_reducible apply Ends'_ret); (focus (simp only [CC_P, results, resultsOf, resultOf, get, load, loadCells, nth, cut, mkAgg, trees, res_70, List.length_cons, List.length_nil, List.take, List.drop, Nat.zero_add, Nat.reduceAdd, Nat.reduceLeDiff, if_true, *]; exact rfl)); (focus (first | exact finish_tree' _ _ _ _ | exact finish_tup2 _ _ _ _ _ | exact finish_tup3 _ _ _ _ _ _ | kernel_rfl)))
          · rfl
          · rfl
      · have e2 : (op == 2) = false := by simpa using h2
        have hL : leafA op v name self l = (AZero, false) := by simp [leafA, h1, h2, h3]
        rw [hL]
        ((repeat' (first | with_reducible apply fol | with_reducible refine aRW ?_ | with_reducible refine aRR ?_ | with_reducible refine aRs ?_ | ((with_reducible first | apply RW_gdn | apply RR_gdn | apply RW_gd | apply RR_gd) <;> intro hg <;> first | (cases hg; done) | skip) | with_reducible refine aE1 ?_ | with_reducible refine aE2 ?_ | with_reducible refine aOn ?_ | ((with_reducible refine aCd ?_ ?_) <;> intro hv <;> first | (cases hv; done) | skip) | fail)))
        ((with_reducible apply Ends'_ret); (focus (simp only [CC_P, results, resultsOf, resultOf, get, load, loadCells, nth, cut, mkAgg, trees, res_70, List.length_cons, List.length_nil, List.take, List.drop, Nat.zero_add, Nat.reduceAdd, Nat.reduceLeDiff, if_true, *]; exact rfl)); (focus (first | exact finish_tree' _ _ _ _ | exact finish_tup2 _ _ _ _ _ | exact finish_tup3 _ _ _ _ _ _ | kernel_rfl)))
        · rfl
        · rfl

end Go.Ab
