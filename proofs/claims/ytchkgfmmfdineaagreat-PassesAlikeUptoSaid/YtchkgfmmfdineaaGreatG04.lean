/- Layer 10 (eval): a text in capital letters. -/
import Derived.Test.YtchkgfmmfdineaaGreatG03
namespace Go.Ab
open Go.Proofs
set_option maxRecDepth 100000
set_option maxHeartbeats 4000000
set_option linter.unusedSimpArgs false
set_option linter.unusedVariables false

def u8C (n : Int) : List Tree := [.int .u8 n]
theorem bytesOf_map : ∀ bs : List Int, bytesOf (bs.map u8C) = some (bs.map fun n => n.toNat % 256)
  | [] => rfl
  | b :: bs => by
    have h := bytesOf_map bs
    show (match bytesOf (bs.map u8C) with | some bs => some (b.toNat % 256 :: bs) | none => none) = _
    rw [h]; rfl

theorem upper_run (a : Val) (x y : Bool) (ha : VOK a) : ∃ r : Ans, Om CC 121 [.t (.sl x y [[.int .u8 a.k, .int .i64 a.n, .str a.s]])] [] = some (.val (.t (.agg [.int .u8 r.v.k, .int .i64 r.v.n, .str r.v.s, .int .i64 r.e])), []) ∧ AOK r := by
  refine call_ex (F := fun x : Ans => .t (.agg [.int .u8 x.v.k, .int .i64 x.v.n, .str x.v.s, .int .i64 x.e])) fun_121 rfl ?_
  (have F_ : _ ∧ _ ∧ _ ∧ _ ∧ _ ∧ _ ∧ _ ∧ _ ∧ _ ∧ _ ∧ _ ∧ _ ∧ _ ∧ _ ∧ _ ∧ _ ∧ _ ∧ _ ∧ _ ∧ _ ∧ _ ∧ _ ∧ _ ∧ _ ∧ _ ∧ _ ∧ _ ∧ _ ∧ _ ∧ _ ∧ _ ∧ _ ∧ _ ∧ _ ∧ _ ∧ _ ∧ _ ∧ _ ∧ _ ∧ _ ∧ _ ∧ _ ∧ _ ∧ _ ∧ _ ∧ _ ∧ _ ∧ _ ∧ _ ∧ _ ∧ _ ∧ _ ∧ _ ∧ _ ∧ _ ∧ _ ∧ _ ∧ _ ∧ _ ∧ _ ∧ _ ∧ _ ∧ _ ∧ _ ∧ _ ∧ _ ∧ _ ∧ _ ∧ _ := ⟨und_2, size_2, agg_2, zero_2, zel_2, small_2, und_3, size_3, agg_3, zero_3, zel_3, small_3, und_5, size_5, agg_5, zero_5, zel_5, small_5, und_9, size_9, agg_9, zero_9, zel_9, small_9, noInt_9, und_28, size_28, agg_28, zero_28, zel_28, small_28, noInt_28, fa_45_0, fd_45_0, fa_45_1, fd_45_1, fa_45_2, fd_45_2, bld_45, size_45, agg_45, zero_45, zel_45, small_45, noInt_45, und_80, size_80, agg_80, zero_80, zel_80, small_80, und_131, size_131, agg_131, zero_131, zel_131, small_131, noInt_131, fa_155_0, fd_155_0, fa_155_1, fd_155_1, bld_155, size_155, agg_155, zero_155, zel_155, small_155, noInt_155⟩; show W CC 0 35 (keepsOf 121) _ ⟨[(0, _)], []⟩ _)
  have hs : a.s.length < 4294967281 := ha.2
  clear ha
  (have x0_ := @idx_zero; (repeat' (first | with_reducible apply fol | with_reducible refine aRW ?_ | with_reducible refine aRR ?_ | with_reducible refine aRs ?_ | ((with_reducible first | apply RW_gdn | apply RR_gdn | apply RW_gd | apply RR_gd) <;> intro hg <;> first | (cases hg; done) | skip) | with_reducible refine aE1 ?_ | with_reducible refine aE2 ?_ | with_reducible refine aOn ?_ | ((with_reducible refine aCd ?_ ?_) <;> intro hv <;> first | (cases hv; done) | skip) | fail)); all_goals clear x0_)
  refine W_rounds (α := Nat × List Int) (fun q => ⟨[(2, .box 0 0), (3, .hs 1 0), (11, .hs 1 0), (12, .t (.int .i64 a.s.length)), (13, .t (.int .i64 q.1))], [.box (AZero.c.map .t), .arr 1 0 false (q.2.map u8C)]⟩)
    (fun q => a.s.length - q.1) (fun q => q.1 ≤ a.s.length ∧ q.2.length = a.s.length) (0, a.s.map Int.ofNat) ?_ ⟨Nat.zero_le _, by simp⟩ ?_
  · (simp only [loopKeep, firstRegion, keepsOf, tidy, canon, reach, refsL, refs, refsO, catMap, depth, renL, ren, renO, sub, sub1, upto, mem, place, fresh, cond_true, get, nth, List.map, List.zip_cons_cons, List.zip_nil_right, List.take, List.append_nil, List.nil_append, List.cons_append, Bool.and_true, beq_dec, decide_true, decide_false, Nat.reduceEqDiff, AZero, Zero, Ans.c, byteCells, List.length_map, List.map_map, Function.comp_def, u8C, Int.ofNat_eq_natCast] <;> exact rfl)
  rintro ⟨i, bs⟩ ⟨hi, hl⟩
  try dsimp only at hi hl
  simp only [AZero, Zero, Ans.c, List.map_cons, List.map_nil]
  by_cases hi' : i < a.s.length
  · have hw : IntKind.i64.wrap ((i : Int) + 1) = ((i + 1 : Nat) : Int) := by rw [wrap64] <;> omega
    have hd : decide ((i : Int) < a.s.length) = true := by simpa using hi'
    have hi0 : (0 : Int) ≤ (i : Int) := by omega
    have hi2 : (i : Int) < (a.s.length : Int) := by omega
    have he : nth (bs.map u8C) i = some [.int .u8 (bs[i]'(by omega))] := by rw [nth_eq]; simp [u8C, hl, hi']
    generalize bs[i]'(by omega) = b at he
    repeat' (first | with_reducible apply once_normal | with_reducible apply once_exit | with_reducible apply once_ret | with_reducible apply once_pan | with_reducible apply thenW_normal | with_reducible apply thenW_ret | with_reducible apply thenW_exit | with_reducible apply thenW_pan | with_reducible apply outOf_normal | with_reducible apply outOf_eq | (refine outOf_ne (by kernel_rfl) ?_) | with_reducible apply outOf_ret | with_reducible apply outOf_pan | with_reducible apply again_exit | with_reducible apply again_ret | with_reducible apply again_pan | with_reducible apply W_seq | with_reducible apply W_block | with_reducible apply W_scope | with_reducible apply W_skip | with_reducible apply W_ret | with_reducible apply W_exit | with_reducible apply W_label | ((with_reducible apply W_RW); (focus kernel_rfl)) | ((with_reducible apply W_RR); (focus kernel_rfl); (focus kernel_rfl)) | with_reducible apply RW_some | with_reducible apply RR_cons | ((with_reducible apply RR_some); (refine ⟨by kernel_rfl, ?_⟩)) | ((with_reducible refine RW_gdn (fun hg => ?_) (fun hg => ?_)) <;> first | (cases hg; done) | skip) | ((with_reducible refine RR_gdn (fun hg => ?_) (fun hg => ?_)) <;> first | (cases hg; done) | skip) | ((with_reducible refine RW_gd (fun hg => ?_) (fun hg => ?_)) <;> first | (cases hg; done) | skip) | ((with_reducible refine RR_gd (fun hg => ?_) (fun hg => ?_)) <;> first | (cases hg; done) | skip) | ((with_reducible apply RW_eq); (focus (simp only [purify, view, viewed, freeze, Int.toNat_natCast, beq_true, decide_true, List.length_map, wanted, exec1, xPick, xStore, xIndexAddr, cellsOf, operand, get, putT, ret, retO, lit, lit1, patch, put1, load, loadCells, cut, trees, nth, indexAddr, storeAt, upd, splice, isCell, CC_P, int_add, int_sub, int_lss, int_leq, int_geq, beq_self_eq_true, Nat.zero_add, List.map_cons, List.map_nil, List.length_cons, List.length_nil, List.take, List.drop, List.all_cons, List.all_nil, List.nil_append, List.append_nil, Bool.and_self, if_true, Nat.reduceLeDiff, and_self, runOps_cons, runOps_nil, gdL_true, gdL_false, *]; exact rfl))) | ((with_reducible apply RR_eq); (focus (simp only [*]; exact rfl))) | ((refine W_cond (by (simp only [operand, get, lit, lit1, *]; exact rfl)) (fun hv => ?_) (fun hv => ?_)) <;> first | (cases hv; done) | skip))
    · refine again_normal (i + 1, bs.set i (IntKind.u8.wrap (IntKind.u8.wrap (b - 97) + 65))) (by first | omega | (dsimp only; omega)) ⟨by first | omega | (dsimp only; omega), by simp [hl]⟩ (by (simp only [loopKeep, firstRegion, keepsOf, tidy, canon, reach, refsL, refs, refsO, catMap, depth, renL, ren, renO, sub, sub1, upto, mem, place, fresh, cond_true, get, nth, List.map, List.zip_cons_cons, List.zip_nil_right, List.take, List.append_nil, List.nil_append, List.cons_append, Bool.and_true, beq_dec, decide_true, decide_false, Nat.reduceEqDiff, setN_eq, List.map_set, u8C] <;> exact rfl))
    all_goals refine again_normal (i + 1, bs) (by first | omega | (dsimp only; omega)) ⟨by first | omega | (dsimp only; omega), hl⟩ (by (simp only [loopKeep, firstRegion, keepsOf, tidy, canon, reach, refsL, refs, refsO, catMap, depth, renL, ren, renO, sub, sub1, upto, mem, place, fresh, cond_true, get, nth, List.map, List.zip_cons_cons, List.zip_nil_right, List.take, List.append_nil, List.nil_append, List.cons_append, Bool.and_true, beq_dec, decide_true, decide_false, Nat.reduceEqDiff] <;> exact rfl))
  · have hd : decide ((i : Int) < a.s.length) = false := by simpa using hi'
    have hbo := bytesOf_map bs
    ((repeat' (first | with_reducible apply fol | with_reducible refine aRW ?_ | with_reducible refine aRR ?_ | with_reducible refine aRs ?_ | ((with_reducible first | apply RW_gdn | apply RR_gdn | apply RW_gd | apply RR_gd) <;> intro hg <;> first | (cases hg; done) | skip) | with_reducible refine aE1 ?_ | with_reducible refine aE2 ?_ | with_reducible refine aOn ?_ | ((with_reducible refine aCd ?_ ?_) <;> intro hv <;> first | (cases hv; done) | skip) | fail)))
    ((with_reducible apply ends_ret); (focus (simp only [CC_P, results, resultsOf, resultOf, get, load, loadCells, nth, cut, mkAgg, trees, res_121, List.length_cons, List.length_nil, List.take, List.drop, Nat.zero_add, Nat.reduceAdd, Nat.reduceLeDiff, if_true, *]; exact rfl)); (focus (first | exact finish_tree' _ _ _ _ | exact finish_tup2 _ _ _ _ _ | exact finish_tup3 _ _ _ _ _ _)))
    refine ⟨⟨⟨3, 0, bs.map fun n => n.toNat % 256⟩, 0⟩, ⟨rfl, rfl⟩, R64_0, ?_⟩
    simp; omega

end Go.Ab
/- Layer 10 (eval): what nodes with expressions make: truths, others. -/
namespace Go.Ab
open Go.Proofs
set_option maxRecDepth 100000
set_option maxHeartbeats 4000000
set_option linter.unusedSimpArgs false
set_option linter.unusedVariables false

theorem tHas_run (a b : Val) (x y : Bool) (ha : VOK a) : ∃ r : Ans, Om CC 100 [.t (.sl x y [[.int .u8 a.k, .int .i64 a.n, .str a.s], [.int .u8 b.k, .int .i64 b.n, .str b.s]])] [] = some (.val (.t (.agg [.int .u8 r.v.k, .int .i64 r.v.n, .str r.v.s, .int .i64 r.e])), []) ∧ AOK r := by
  refine call_ex (F := fun x : Ans => .t (.agg [.int .u8 x.v.k, .int .i64 x.v.n, .str x.v.s, .int .i64 x.e])) fun_100 rfl ?_
  (have F_ : _ ∧ _ ∧ _ ∧ _ ∧ _ ∧ _ ∧ _ ∧ _ ∧ _ ∧ _ ∧ _ ∧ _ ∧ _ ∧ _ ∧ _ ∧ _ ∧ _ ∧ _ ∧ _ ∧ _ ∧ _ ∧ _ ∧ _ ∧ _ ∧ _ ∧ _ ∧ _ ∧ _ ∧ _ ∧ _ ∧ _ ∧ _ ∧ _ ∧ _ ∧ _ ∧ _ ∧ _ ∧ _ ∧ _ ∧ _ ∧ _ ∧ _ ∧ _ ∧ _ ∧ _ ∧ _ ∧ _ ∧ _ ∧ _ ∧ _ ∧ _ ∧ _ ∧ _ ∧ _ ∧ _ ∧ _ ∧ _ ∧ _ ∧ _ ∧ _ ∧ _ ∧ _ ∧ _ := ⟨und_2, size_2, agg_2, zero_2, zel_2, small_2, und_4, size_4, agg_4, zero_4, zel_4, small_4, noInt_4, und_5, size_5, agg_5, zero_5, zel_5, small_5, und_9, size_9, agg_9, zero_9, zel_9, small_9, noInt_9, und_28, size_28, agg_28, zero_28, zel_28, small_28, noInt_28, fa_45_0, fd_45_0, fa_45_1, fd_45_1, fa_45_2, fd_45_2, bld_45, size_45, agg_45, zero_45, zel_45, small_45, noInt_45, und_80, size_80, agg_80, zero_80, zel_80, small_80, fa_155_0, fd_155_0, fa_155_1, fd_155_1, bld_155, size_155, agg_155, zero_155, zel_155, small_155, noInt_155⟩; show W CC 0 14 (keepsOf 100) _ ⟨[(0, _)], []⟩ _)
  have hs : a.s.length < 4294967281 := ha.2
  have hh := CC_has a.s b.s hs
  clear ha
  (have x0_ := @truthV_ok; have x1_ := @idx_zero; have x2_ := @idx_one; have x3_ := @hb_101; have x4_ := @hb_75; (repeat' (first | with_reducible apply fol | with_reducible refine aRW ?_ | with_reducible refine aRR ?_ | with_reducible refine aRs ?_ | ((with_reducible first | apply RW_gdn | apply RR_gdn | apply RW_gd | apply RR_gd) <;> intro hg <;> first | (cases hg; done) | skip) | with_reducible refine aE1 ?_ | with_reducible refine aE2 ?_ | with_reducible refine aOn ?_ | ((with_reducible refine aCd ?_ ?_) <;> intro hv <;> first | (cases hv; done) | skip) | fail)); all_goals clear x0_ x1_ x2_ x3_ x4_)
  all_goals (((with_reducible apply ends_ret); (focus (simp only [CC_P, results, resultsOf, resultOf, get, load, loadCells, nth, cut, mkAgg, trees, res_100, List.length_cons, List.length_nil, List.take, List.drop, Nat.zero_add, Nat.reduceAdd, Nat.reduceLeDiff, if_true, *]; exact rfl)); (focus (first | exact finish_tree' _ _ _ _ | exact finish_tup2 _ _ _ _ _ | exact finish_tup3 _ _ _ _ _ _))))
  all_goals exact ⟨⟨TruthV _, 0⟩, ⟨rfl, rfl⟩, truthV_p _⟩

theorem all2_ex (a b : Val) (ha : VOK a) (hb : VOK b) : ∃ x : Val, Om CC 55 [.t (.sl false false [[.int .u8 a.k, .int .i64 a.n, .str a.s], [.int .u8 b.k, .int .i64 b.n, .str b.s]])] [] = some (.val (.t (.agg [.int .u8 x.k, .int .i64 x.n, .str x.s])), []) ∧ VOK x :=
  all_run [a, b] false false (by simp) (by simp [ha, hb])
open Classical in
noncomputable def All2 (a b : Val) : Val := if h : VOK a ∧ VOK b then (all2_ex a b h.1 h.2).choose else Zero
theorem all2_ok (a b : Val) (ha : VOK a) (hb : VOK b) : Om CC 55 [.t (.sl false false [[.int .u8 a.k, .int .i64 a.n, .str a.s], [.int .u8 b.k, .int .i64 b.n, .str b.s]])] [] = some (.val (.t (.agg [.int .u8 (All2 a b).k, .int .i64 (All2 a b).n, .str (All2 a b).s])), []) := by
  unfold All2; rw [dif_pos ⟨ha, hb⟩]; exact (all2_ex a b ha hb).choose_spec.1
theorem all2_p (a b : Val) (ha : VOK a) (hb : VOK b) : VOK (All2 a b) := by
  unfold All2; rw [dif_pos ⟨ha, hb⟩]; exact (all2_ex a b ha hb).choose_spec.2
theorem any2_ex (a b : Val) (ha : VOK a) (hb : VOK b) : ∃ x : Val, Om CC 57 [.t (.sl false false [[.int .u8 a.k, .int .i64 a.n, .str a.s], [.int .u8 b.k, .int .i64 b.n, .str b.s]])] [] = some (.val (.t (.agg [.int .u8 x.k, .int .i64 x.n, .str x.s])), []) ∧ VOK x :=
  any_run [a, b] false false (by simp) (by simp [ha, hb])
open Classical in
noncomputable def Any2 (a b : Val) : Val := if h : VOK a ∧ VOK b then (any2_ex a b h.1 h.2).choose else Zero
theorem any2_ok (a b : Val) (ha : VOK a) (hb : VOK b) : Om CC 57 [.t (.sl false false [[.int .u8 a.k, .int .i64 a.n, .str a.s], [.int .u8 b.k, .int .i64 b.n, .str b.s]])] [] = some (.val (.t (.agg [.int .u8 (Any2 a b).k, .int .i64 (Any2 a b).n, .str (Any2 a b).s])), []) := by
  unfold Any2; rw [dif_pos ⟨ha, hb⟩]; exact (any2_ex a b ha hb).choose_spec.1
theorem any2_p (a b : Val) (ha : VOK a) (hb : VOK b) : VOK (Any2 a b) := by
  unfold Any2; rw [dif_pos ⟨ha, hb⟩]; exact (any2_ex a b ha hb).choose_spec.2

theorem truths_run (op : Int) (nl cl nl2 cl2 : Bool) (kl : List Ans) (nb : List Bool) (hk : ∀ a ∈ kl, AOK a) :
    ∃ x : Ans × Bool, Om CC 71 [.t (.int .u8 op), .t (.agg [.sl nl cl (kl.map Ans.c), .sl nl2 cl2 (nb.map boolC)])] [] = some (.val (.tup [.t (.agg [.int .u8 x.1.v.k, .int .i64 x.1.v.n, .str x.1.v.s, .int .i64 x.1.e]), .t (.bool x.2)]), []) ∧ AOK x.1 := by
  refine call_ex (F := fun x : Ans × Bool => .tup [.t (.agg [.int .u8 x.1.v.k, .int .i64 x.1.v.n, .str x.1.v.s, .int .i64 x.1.e]), .t (.bool x.2)]) fun_71 rfl ?_
  (have F_ : _ ∧ _ ∧ _ ∧ _ ∧ _ ∧ _ ∧ _ ∧ _ ∧ _ ∧ _ ∧ _ ∧ _ ∧ _ ∧ _ ∧ _ ∧ _ ∧ _ ∧ _ ∧ _ ∧ _ ∧ _ ∧ _ ∧ _ ∧ _ ∧ _ ∧ _ ∧ _ ∧ _ ∧ _ ∧ _ ∧ _ ∧ _ ∧ _ ∧ _ ∧ _ ∧ _ ∧ _ ∧ _ ∧ _ ∧ _ ∧ _ ∧ _ ∧ _ ∧ _ ∧ _ ∧ _ ∧ _ ∧ _ ∧ _ ∧ _ ∧ _ ∧ _ ∧ _ ∧ _ ∧ _ ∧ _ ∧ _ ∧ _ ∧ _ ∧ _ ∧ _ ∧ _ ∧ _ ∧ _ ∧ _ ∧ _ ∧ _ ∧ _ ∧ _ ∧ _ ∧ _ ∧ _ ∧ _ ∧ _ ∧ _ ∧ _ ∧ _ ∧ _ ∧ _ ∧ _ ∧ _ ∧ _ ∧ _ ∧ _ ∧ _ ∧ _ ∧ _ ∧ _ ∧ _ ∧ _ ∧ _ ∧ _ ∧ _ ∧ _ ∧ _ ∧ _ ∧ _ ∧ _ ∧ _ ∧ _ ∧ _ ∧ _ ∧ _ ∧ _ ∧ _ := ⟨und_2, size_2, agg_2, zero_2, zel_2, small_2, und_3, size_3, agg_3, zero_3, zel_3, small_3, und_4, size_4, agg_4, zero_4, zel_4, small_4, noInt_4, und_5, size_5, agg_5, zero_5, zel_5, small_5, und_9, size_9, agg_9, zero_9, zel_9, small_9, noInt_9, fa_45_0, fd_45_0, fa_45_1, fd_45_1, fa_45_2, fd_45_2, bld_45, size_45, agg_45, zero_45, zel_45, small_45, noInt_45, und_80, size_80, agg_80, zero_80, zel_80, small_80, size_138, agg_138, zero_138, zel_138, small_138, noInt_138, und_153, size_153, agg_153, zero_153, zel_153, small_153, noInt_153, fa_155_0, fd_155_0, fa_155_1, fd_155_1, bld_155, size_155, agg_155, zero_155, zel_155, small_155, noInt_155, und_156, size_156, agg_156, zero_156, zel_156, small_156, noInt_156, fa_158_0, fd_158_0, fa_158_1, fd_158_1, bld_158, size_158, agg_158, zero_158, zel_158, small_158, noInt_158, size_187, agg_187, zero_187, zel_187, small_187, noInt_187, size_190, agg_190, zero_190, zel_190, small_190, noInt_190⟩; show W CC 0 59 (keepsOf 71) _ ⟨[(0, _), (1, _)], []⟩ _)
  obtain ⟨b0, hb0, pb0⟩ := both_run 55 hb_55 (by decide) All2 all2_ok all2_p 0 nl cl nl2 cl2 kl nb hk
  obtain ⟨b1, hb1, pb1⟩ := both_run 57 hb_57 (by decide) Any2 any2_ok any2_p 1 nl cl nl2 cl2 kl nb hk
  obtain ⟨t0, ht0, pt0⟩ := truth_run nl cl nl2 cl2 kl (nb.map boolC) 0 hk
  have ht0 : Om CC 92 [.t (.agg [.sl nl cl (kl.map Ans.c), .sl nl2 cl2 (nb.map boolC)]), .t (.int .i64 0)] [] = _ := ht0
  obtain ⟨e1, he1, pe1⟩ := kEqual_run nl cl nl2 cl2 kl nb hk true
  obtain ⟨e0, he0, pe0⟩ := kEqual_run nl cl nl2 cl2 kl nb hk false
  obtain ⟨o1, ho1, po1⟩ := order_run 95 hb_95 (by decide) CmpT1 cmpT1_ok nl cl nl2 cl2 kl nb hk
  obtain ⟨o2, ho2, po2⟩ := order_run 96 hb_96 (by decide) CmpT2 cmpT2_ok nl cl nl2 cl2 kl nb hk
  obtain ⟨o3, ho3, po3⟩ := order_run 97 hb_97 (by decide) CmpT3 cmpT3_ok nl cl nl2 cl2 kl nb hk
  obtain ⟨o4, ho4, po4⟩ := order_run 98 hb_98 (by decide) CmpT4 cmpT4_ok nl cl nl2 cl2 kl nb hk
  obtain ⟨s5, hs5, ps5⟩ := only_run 100 hb_100 (by decide) 3 2 (by decide) (fun l x y hl hv => by
    match l, hl, hv with
    | [a, b], _, hv => exact tHas_run a b x y (hv a (by simp))) nl cl nl2 cl2 kl nb hk
  have hs5 : Om CC 99 [.t (.agg [.sl nl cl (kl.map Ans.c), .sl nl2 cl2 (nb.map boolC)]), .t (.int .i64 2), .t (.int .u8 3), .t (.fn 100)] [] = _ := hs5
  obtain ⟨s6, hs6, ps6⟩ := only_run 102 hb_102 (by decide) 3 2 (by decide) (fun l x y hl hv => by
    match l, hl, hv with
    | [a, b], _, hv => exact tHead_run a b x y) nl cl nl2 cl2 kl nb hk
  have hs6 : Om CC 99 [.t (.agg [.sl nl cl (kl.map Ans.c), .sl nl2 cl2 (nb.map boolC)]), .t (.int .i64 2), .t (.int .u8 3), .t (.fn 102)] [] = _ := hs6
  have pn := notV_p t0.v
  clear hk
  (have x0_ := @notV_ok; have x1_ := @hb_91; have x2_ := @hb_92; have x3_ := @hb_93; have x4_ := @hb_94; have x5_ := @hb_99; have x6_ := @hb_76; (repeat' (first | with_reducible apply fol | with_reducible refine aRW ?_ | with_reducible refine aRR ?_ | with_reducible refine aRs ?_ | ((with_reducible first | apply RW_gdn | apply RR_gdn | apply RW_gd | apply RR_gd) <;> intro hg <;> first | (cases hg; done) | skip) | with_reducible refine aE1 ?_ | with_reducible refine aE2 ?_ | with_reducible refine aOn ?_ | ((with_reducible refine aCd ?_ ?_) <;> intro hv <;> first | (cases hv; done) | skip) | fail)); all_goals clear x0_ x1_ x2_ x3_ x4_ x5_ x6_)
  all_goals (((with_reducible apply ends_ret); (focus (simp only [CC_P, results, resultsOf, resultOf, get, load, loadCells, nth, cut, mkAgg, trees, res_71, List.length_cons, List.length_nil, List.take, List.drop, Nat.zero_add, Nat.reduceAdd, Nat.reduceLeDiff, if_true, *]; exact rfl)); (focus (first | exact finish_tree' _ _ _ _ | exact finish_tup2 _ _ _ _ _ | exact finish_tup3 _ _ _ _ _ _))))
  all_goals first | exact ⟨(b0, true), ⟨rfl, rfl⟩, pb0⟩ | exact ⟨(b1, true), ⟨rfl, rfl⟩, pb1⟩ | exact ⟨(⟨NotV t0.v, 0⟩, true), ⟨rfl, rfl⟩, pn⟩ | exact ⟨(⟨NotV t0.v, t0.e⟩, true), ⟨rfl, rfl⟩, pn⟩ | exact ⟨(t0, true), ⟨rfl, rfl⟩, pt0⟩ | exact ⟨(e1, true), ⟨rfl, rfl⟩, pe1⟩ | exact ⟨(e0, true), ⟨rfl, rfl⟩, pe0⟩ | exact ⟨(o1, true), ⟨rfl, rfl⟩, po1⟩ | exact ⟨(o2, true), ⟨rfl, rfl⟩, po2⟩ | exact ⟨(o3, true), ⟨rfl, rfl⟩, po3⟩ | exact ⟨(o4, true), ⟨rfl, rfl⟩, po4⟩ | exact ⟨(s5, true), ⟨rfl, rfl⟩, ps5⟩ | exact ⟨(s6, true), ⟨rfl, rfl⟩, ps6⟩ | exact ⟨(AZero, false), ⟨rfl, rfl⟩, VOK_0⟩

theorem others_run (op : Int) (nl cl nl2 cl2 : Bool) (kl : List Ans) (nb : List Bool) (hk : ∀ a ∈ kl, AOK a) (hl : kl.length < 4294967295) :
    ∃ x : Ans, Om CC 72 [.t (.int .u8 op), .t (.agg [.sl nl cl (kl.map Ans.c), .sl nl2 cl2 (nb.map boolC)])] [] = some (.val (.t (.agg [.int .u8 x.v.k, .int .i64 x.v.n, .str x.v.s, .int .i64 x.e])), []) ∧ AOK x := by
  refine call_ex (F := fun x : Ans => .t (.agg [.int .u8 x.v.k, .int .i64 x.v.n, .str x.v.s, .int .i64 x.e])) fun_72 rfl ?_
  (have F_ : _ ∧ _ ∧ _ ∧ _ ∧ _ ∧ _ ∧ _ ∧ _ ∧ _ ∧ _ ∧ _ ∧ _ ∧ _ ∧ _ ∧ _ ∧ _ ∧ _ ∧ _ ∧ _ ∧ _ ∧ _ ∧ _ ∧ _ ∧ _ ∧ _ ∧ _ ∧ _ ∧ _ ∧ _ ∧ _ ∧ _ ∧ _ ∧ _ ∧ _ ∧ _ ∧ _ ∧ _ ∧ _ ∧ _ ∧ _ ∧ _ ∧ _ ∧ _ ∧ _ ∧ _ ∧ _ ∧ _ ∧ _ ∧ _ ∧ _ ∧ _ ∧ _ ∧ _ ∧ _ ∧ _ ∧ _ ∧ _ ∧ _ ∧ _ ∧ _ ∧ _ ∧ _ ∧ _ ∧ _ ∧ _ ∧ _ ∧ _ ∧ _ ∧ _ ∧ _ ∧ _ ∧ _ ∧ _ ∧ _ ∧ _ ∧ _ ∧ _ ∧ _ ∧ _ ∧ _ ∧ _ ∧ _ ∧ _ ∧ _ ∧ _ ∧ _ ∧ _ ∧ _ ∧ _ ∧ _ ∧ _ ∧ _ ∧ _ ∧ _ ∧ _ ∧ _ ∧ _ ∧ _ ∧ _ := ⟨und_2, size_2, agg_2, zero_2, zel_2, small_2, und_3, size_3, agg_3, zero_3, zel_3, small_3, und_4, size_4, agg_4, zero_4, zel_4, small_4, noInt_4, und_5, size_5, agg_5, zero_5, zel_5, small_5, und_9, size_9, agg_9, zero_9, zel_9, small_9, noInt_9, fa_45_0, fd_45_0, fa_45_1, fd_45_1, fa_45_2, fd_45_2, bld_45, size_45, agg_45, zero_45, zel_45, small_45, noInt_45, und_80, size_80, agg_80, zero_80, zel_80, small_80, und_153, size_153, agg_153, zero_153, zel_153, small_153, noInt_153, fa_155_0, fd_155_0, fa_155_1, fd_155_1, bld_155, size_155, agg_155, zero_155, zel_155, small_155, noInt_155, und_156, size_156, agg_156, zero_156, zel_156, small_156, noInt_156, fa_158_0, fd_158_0, fa_158_1, fd_158_1, bld_158, size_158, agg_158, zero_158, zel_158, small_158, noInt_158, size_190, agg_190, zero_190, zel_190, small_190, noInt_190, size_192, agg_192, zero_192, zel_192, small_192, noInt_192⟩; show W CC 0 61 (keepsOf 72) _ ⟨[(0, _), (1, _)], []⟩ _)
  obtain ⟨a1, h1, p1⟩ := two_run 105 hb_105 (by decide) (fun a b ha hb => vAdd_run a b ha.1 hb.1) nl cl nl2 cl2 kl nb hk
  obtain ⟨a2, h2, p2⟩ := two_run 106 hb_106 (by decide) (fun a b ha hb => vSub_run a b ha.1 hb.1) nl cl nl2 cl2 kl nb hk
  obtain ⟨a3, h3, p3⟩ := two_run 107 hb_107 (by decide) (fun a b ha hb => vMul_run a b ha.1 hb.1) nl cl nl2 cl2 kl nb hk
  obtain ⟨a4, h4, p4⟩ := two_run 108 hb_108 (by decide) (fun a b ha hb => vDiv_run a b ha.1 hb.1) nl cl nl2 cl2 kl nb hk
  obtain ⟨a5, h5, p5⟩ := left0_run 110 hb_110 (by decide) nl cl nl2 cl2 kl (nb.map boolC) 1 (by decide) hk (fun l x y hl hv => by
    match l, hl, hv with
    | [a], _, hv => exact oNeg_run a x y (hv a (by simp)).1)
  have h5 : Om CC 109 [.t (.agg [.sl nl cl (kl.map Ans.c), .sl nl2 cl2 (nb.map boolC)]), .t (.int .i64 1), .t (.fn 110)] [] = _ := h5
  obtain ⟨a6, h6, p6⟩ := left0_run 113 hb_113 (by decide) nl cl nl2 cl2 kl (nb.map boolC) kl.length hl hk (fun l x y hl' hv => oLeast_run l x y (by omega) hv)
  obtain ⟨a7, h7, p7⟩ := left0_run 115 hb_115 (by decide) nl cl nl2 cl2 kl (nb.map boolC) kl.length hl hk (fun l x y hl' hv => oMost_run l x y (by omega) hv)
  obtain ⟨a8, h8, p8⟩ := left0_run 117 hb_117 (by decide) nl cl nl2 cl2 kl (nb.map boolC) 1 (by decide) hk (fun l x y hl hv => by
    match l, hl, hv with
    | [a], _, hv => exact abs_run a x y (hv a (by simp)))
  have h8 : Om CC 109 [.t (.agg [.sl nl cl (kl.map Ans.c), .sl nl2 cl2 (nb.map boolC)]), .t (.int .i64 1), .t (.fn 117)] [] = _ := h8
  obtain ⟨a9, h9, p9⟩ := only_run 118 hb_118 (by decide) 1 2 (by decide) (fun l x y hl hv => by
    match l, hl, hv with
    | [a, b], _, hv => exact modE_run a b x y (hv b (by simp)).1) nl cl nl2 cl2 kl nb hk
  have h9 : Om CC 99 [.t (.agg [.sl nl cl (kl.map Ans.c), .sl nl2 cl2 (nb.map boolC)]), .t (.int .i64 2), .t (.int .u8 1), .t (.fn 118)] [] = _ := h9
  obtain ⟨a10, h10, p10⟩ := only_run 119 hb_119 (by decide) 3 1 (by decide) (fun l x y hl hv => by
    match l, hl, hv with
    | [a], _, hv => exact oLen_run a x y (hv a (by simp))) nl cl nl2 cl2 kl nb hk
  have h10 : Om CC 99 [.t (.agg [.sl nl cl (kl.map Ans.c), .sl nl2 cl2 (nb.map boolC)]), .t (.int .i64 1), .t (.int .u8 3), .t (.fn 119)] [] = _ := h10
  obtain ⟨a11, h11, p11⟩ := only_run 121 hb_121 (by decide) 3 1 (by decide) (fun l x y hl hv => by
    match l, hl, hv with
    | [a], _, hv => exact upper_run a x y (hv a (by simp))) nl cl nl2 cl2 kl nb hk
  have h11 : Om CC 99 [.t (.agg [.sl nl cl (kl.map Ans.c), .sl nl2 cl2 (nb.map boolC)]), .t (.int .i64 1), .t (.int .u8 3), .t (.fn 121)] [] = _ := h11
  obtain ⟨a12, h12, p12⟩ := choice_run nl cl nl2 cl2 kl (nb.map boolC) hk
  clear hk
  (have x0_ := @fail_ok; have x1_ := @hb_104; have x2_ := @hb_109; have x3_ := @hb_99; have x4_ := @hb_122; have x5_ := @hb_90; (repeat' (first | with_reducible apply fol | with_reducible refine aRW ?_ | with_reducible refine aRR ?_ | with_reducible refine aRs ?_ | ((with_reducible first | apply RW_gdn | apply RR_gdn | apply RW_gd | apply RR_gd) <;> intro hg <;> first | (cases hg; done) | skip) | with_reducible refine aE1 ?_ | with_reducible refine aE2 ?_ | with_reducible refine aOn ?_ | ((with_reducible refine aCd ?_ ?_) <;> intro hv <;> first | (cases hv; done) | skip) | fail)); all_goals clear x0_ x1_ x2_ x3_ x4_ x5_)
  all_goals (((with_reducible apply ends_ret); (focus (simp only [CC_P, results, resultsOf, resultOf, get, load, loadCells, nth, cut, mkAgg, trees, res_72, List.length_cons, List.length_nil, List.take, List.drop, Nat.zero_add, Nat.reduceAdd, Nat.reduceLeDiff, if_true, *]; exact rfl)); (focus (first | exact finish_tree' _ _ _ _ | exact finish_tup2 _ _ _ _ _ | exact finish_tup3 _ _ _ _ _ _))))
  all_goals first | exact ⟨a1, ⟨rfl, rfl⟩, p1⟩ | exact ⟨a2, ⟨rfl, rfl⟩, p2⟩ | exact ⟨a3, ⟨rfl, rfl⟩, p3⟩ | exact ⟨a4, ⟨rfl, rfl⟩, p4⟩ | exact ⟨a5, ⟨rfl, rfl⟩, p5⟩ | exact ⟨a6, ⟨rfl, rfl⟩, p6⟩ | exact ⟨a7, ⟨rfl, rfl⟩, p7⟩ | exact ⟨a8, ⟨rfl, rfl⟩, p8⟩ | exact ⟨a9, ⟨rfl, rfl⟩, p9⟩ | exact ⟨a10, ⟨rfl, rfl⟩, p10⟩ | exact ⟨a11, ⟨rfl, rfl⟩, p11⟩ | exact ⟨a12, ⟨rfl, rfl⟩, p12⟩ | exact ⟨Fail 2, ⟨rfl, rfl⟩, fail_p _⟩

end Go.Ab
/- Layer 10 (eval): an expression's value: a function of the nodes without their places. -/
namespace Go.Ab
open Go.Proofs
set_option maxRecDepth 100000
set_option maxHeartbeats 8000000
set_option linter.unusedSimpArgs false
set_option linter.unusedVariables false

open Classical in
noncomputable def Truths (op : Int) (kl : List Ans) (nb : List Bool) : Ans × Bool :=
  if h : ∀ a ∈ kl, AOK a then (truths_run op kl.isEmpty kl.isEmpty kl.isEmpty kl.isEmpty kl nb h).choose else (AZero, false)
open Classical in
noncomputable def Others (op : Int) (kl : List Ans) (nb : List Bool) : Ans :=
  if h : (∀ a ∈ kl, AOK a) ∧ kl.length < 4294967295 then (others_run op kl.isEmpty kl.isEmpty kl.isEmpty kl.isEmpty kl nb h.1 h.2).choose else AZero
theorem truths_ok (op : Int) (kl : List Ans) (nb : List Bool) (b : Bool) (hb : kl.isEmpty = b) (h : ∀ a ∈ kl, AOK a) :
    Om CC 71 [.t (.int .u8 op), .t (.agg [.sl b b (kl.map Ans.c), .sl b b (nb.map boolC)])] [] = some (.val (.tup [.t (.agg [.int .u8 (Truths op kl nb).1.v.k, .int .i64 (Truths op kl nb).1.v.n, .str (Truths op kl nb).1.v.s, .int .i64 (Truths op kl nb).1.e]), .t (.bool (Truths op kl nb).2)]), []) := by
  subst hb; unfold Truths; rw [dif_pos h]; exact (truths_run op _ _ _ _ kl nb h).choose_spec.1
theorem truths_p (op : Int) (kl : List Ans) (nb : List Bool) : AOK (Truths op kl nb).1 := by
  unfold Truths; split
  · rename_i h; exact (truths_run op _ _ _ _ kl nb h).choose_spec.2
  · exact VOK_0
theorem others_ok (op : Int) (kl : List Ans) (nb : List Bool) (b : Bool) (hb : kl.isEmpty = b) (h : ∀ a ∈ kl, AOK a) (hl : kl.length < 4294967295) :
    Om CC 72 [.t (.int .u8 op), .t (.agg [.sl b b (kl.map Ans.c), .sl b b (nb.map boolC)])] [] = some (.val (.t (.agg [.int .u8 (Others op kl nb).v.k, .int .i64 (Others op kl nb).v.n, .str (Others op kl nb).v.s, .int .i64 (Others op kl nb).e])), []) := by
  subst hb; unfold Others; rw [dif_pos ⟨h, hl⟩]; exact (others_run op _ _ _ _ kl nb h hl).choose_spec.1
theorem others_p (op : Int) (kl : List Ans) (nb : List Bool) : AOK (Others op kl nb) := by
  unfold Others; split
  · rename_i h; exact (others_run op _ _ _ _ kl nb h.1 h.2).choose_spec.2
  · exact VOK_0

theorem varA_p (name : List Nat) (l : List Bind) (h : ∀ b ∈ l, VOK b.v) : AOK (varA name l) := by
  unfold varA
  split
  · rename_i i hi
    refine held_p _ ?_
    rw [List.getD_eq_getElem?_getD]
    cases hi' : (l.map Bind.v)[i]? with
    | none => exact VOK_0
    | some v =>
      obtain ⟨b, hb, rfl⟩ := List.mem_map.1 (List.mem_of_getElem? hi')
      exact h b hb
  · exact fail_p _
theorem leafA_p (op : Int) (v : Val) (name : List Nat) (self : Val) (l : List Bind) (hv : VOK v) (hs : VOK self) (h : ∀ b ∈ l, VOK b.v) : AOK (leafA op v name self l).1 := by
  unfold leafA
  split
  · exact held_p _ hv
  split
  · exact held_p _ hs
  split
  · exact varA_p _ _ h
  · exact VOK_0

/-- A node without its place, and without what tells nil from empty. -/
structure SNode where
  op : Int
  v : Val
  name : List Nat
  kids : List Int
def Node.s (x : Node) : SNode := ⟨x.op, x.v, x.name, x.kids.l⟩
def SNode.nul (x : SNode) : Bool := x.op == 1 && x.v.k == 0
/-- One of a node's expressions: what it has come to, and whether it is the literal null. -/
noncomputable def kidA (al : List Ans) (ns : List SNode) (at_ : Int) : Ans × Bool :=
  if at_ < 0 ∨ at_ ≥ al.length then (AZero, false) else (getA al at_.toNat, match ns[at_.toNat]? with
    | some x => x.nul
    | none => false)
noncomputable def nodeA (al : List Ans) (ns : List SNode) (x : SNode) (self : Val) (vars : List Bind) : Ans :=
  if (leafA x.op x.v x.name self vars).2 then (leafA x.op x.v x.name self vars).1
  else if (Truths x.op (x.kids.map fun k => (kidA al ns k).1) (x.kids.map fun k => (kidA al ns k).2)).2 then (Truths x.op (x.kids.map fun k => (kidA al ns k).1) (x.kids.map fun k => (kidA al ns k).2)).1
  else Others x.op (x.kids.map fun k => (kidA al ns k).1) (x.kids.map fun k => (kidA al ns k).2)
/-- The answers of the first nodes. -/
noncomputable def evalN (ns : List SNode) (self : Val) (vars : List Bind) : Nat → List Ans
  | 0 => []
  | i + 1 => evalN ns self vars i ++ [match ns[i]? with
    | some x => nodeA (evalN ns self vars i) ns x self vars
    | none => AZero]
noncomputable def lastA (l : List Ans) : Ans := l.getLast?.getD AZero
noncomputable def EvalA (ns : List SNode) (self : Val) (vars : List Bind) : Ans := lastA (evalN ns self vars ns.length)

theorem evalN_length (ns : List SNode) (self : Val) (vars : List Bind) : ∀ i, (evalN ns self vars i).length = i
  | 0 => rfl
  | i + 1 => by simp [evalN, evalN_length ns self vars i]

theorem kidA_p (al : List Ans) (ns : List SNode) (k : Int) (h : ∀ a ∈ al, AOK a) : AOK (kidA al ns k).1 := by
  unfold kidA; split
  · exact VOK_0
  · exact getA_p h _
theorem nodeA_p (al : List Ans) (ns : List SNode) (x : SNode) (self : Val) (vars : List Bind) (hx : VOK x.v) (hs : VOK self) (hv : ∀ b ∈ vars, VOK b.v) : AOK (nodeA al ns x self vars) := by
  unfold nodeA
  split
  · exact leafA_p _ _ _ _ _ hx hs hv
  split
  · exact truths_p _ _ _
  · exact others_p _ _ _
theorem evalN_p (ns : List SNode) (self : Val) (vars : List Bind) (hn : ∀ x ∈ ns, VOK x.v) (hs : VOK self) (hv : ∀ b ∈ vars, VOK b.v) : ∀ i, ∀ a ∈ evalN ns self vars i, AOK a
  | 0, a, h => by cases h
  | i + 1, a, h => by
    rcases List.mem_append.1 h with h | h
    · exact evalN_p ns self vars hn hs hv i a h
    · rw [List.mem_singleton.1 h]
      cases hx : ns[i]? with
      | none => exact VOK_0
      | some x => exact nodeA_p _ _ _ _ _ (hn x (List.mem_of_getElem? hx)) hs hv
theorem lastA_p (l : List Ans) (h : ∀ a ∈ l, AOK a) : AOK (lastA l) := by
  unfold lastA
  cases hl : l.getLast? with
  | none => exact VOK_0
  | some a => exact h a (List.mem_of_getLast? hl)
theorem lastA_snoc (l : List Ans) (a : Ans) : lastA (l ++ [a]) = a := by simp [lastA]

theorem treesL_rep (ts : List Tree) : ∀ n, treesL (List.replicate n (ts.map AV.t)) = some (List.replicate n ts)
  | 0 => rfl
  | n + 1 => by
    have h : ∀ l : List Tree, trees (l.map AV.t) = some l := fun l => by
      induction l with
      | nil => rfl
      | cons a l ih => simp [trees, ih]
    simp only [List.replicate_succ, treesL, h, treesL_rep ts n]
theorem mkArr_rep (ts : List Tree) (s n : Nat) : mkArr s (List.replicate n (ts.map AV.t)) = .arr s 0 false (List.replicate n ts) := by
  unfold mkArr; rw [treesL_rep]

def ksAV (st : Bool) : AV × AV := match st with | true => (.hs 6 0, .hs 7 0) | false => (.t (.sl true true []), .t (.sl true true []))
theorem evalV_ok (T : Sl Node) (self : Val) (vnl vcl : Bool) (vars : List Bind) (hT : T.l.length < 4294967295) (hK : ∀ x ∈ T.l, x.kids.l.length < 4294967295) (hvl : vars.length < 9223372036854775808)
    (hnv : ∀ x ∈ T.l, VOK x.v) (hsv : VOK self) (hvv : ∀ b ∈ vars, VOK b.v) :
    Om CC 52 [.t (.sl T.nl T.cl (T.l.map Node.c)), .t (.agg [.int .u8 self.k, .int .i64 self.n, .str self.s]), .t (.sl vnl vcl (vars.map Bind.c))] [] =
      some (.val (.tup [.t (.agg [.int .u8 (EvalA (T.l.map Node.s) self vars).v.k, .int .i64 (EvalA (T.l.map Node.s) self vars).v.n, .str (EvalA (T.l.map Node.s) self vars).v.s]), .t (.int .i64 (EvalA (T.l.map Node.s) self vars).e)]), []) := by
  refine call_eq fun_52 rfl ?_
  (have F_ : _ ∧ _ ∧ _ ∧ _ ∧ _ ∧ _ ∧ _ ∧ _ ∧ _ ∧ _ ∧ _ ∧ _ ∧ _ ∧ _ ∧ _ ∧ _ ∧ _ ∧ _ ∧ _ ∧ _ ∧ _ ∧ _ ∧ _ ∧ _ ∧ _ ∧ _ ∧ _ ∧ _ ∧ _ ∧ _ ∧ _ ∧ _ ∧ _ ∧ _ ∧ _ ∧ _ ∧ _ ∧ _ ∧ _ ∧ _ ∧ _ ∧ _ ∧ _ ∧ _ ∧ _ ∧ _ ∧ _ ∧ _ ∧ _ ∧ _ ∧ _ ∧ _ ∧ _ ∧ _ ∧ _ ∧ _ ∧ _ ∧ _ ∧ _ ∧ _ ∧ _ ∧ _ ∧ _ ∧ _ ∧ _ ∧ _ ∧ _ ∧ _ ∧ _ ∧ _ ∧ _ ∧ _ ∧ _ ∧ _ ∧ _ ∧ _ ∧ _ ∧ _ ∧ _ ∧ _ ∧ _ ∧ _ ∧ _ ∧ _ ∧ _ ∧ _ ∧ _ ∧ _ ∧ _ ∧ _ ∧ _ ∧ _ ∧ _ ∧ _ ∧ _ ∧ _ ∧ _ ∧ _ ∧ _ ∧ _ ∧ _ ∧ _ ∧ _ ∧ _ ∧ _ ∧ _ ∧ _ ∧ _ ∧ _ ∧ _ ∧ _ ∧ _ ∧ _ ∧ _ ∧ _ ∧ _ ∧ _ ∧ _ ∧ _ ∧ _ ∧ _ ∧ _ ∧ _ ∧ _ ∧ _ ∧ _ ∧ _ ∧ _ ∧ _ ∧ _ ∧ _ ∧ _ ∧ _ ∧ _ ∧ _ ∧ _ ∧ _ ∧ _ ∧ _ ∧ _ ∧ _ ∧ _ ∧ _ ∧ _ ∧ _ ∧ _ ∧ _ := ⟨und_2, size_2, agg_2, zero_2, zel_2, small_2, und_3, size_3, agg_3, zero_3, zel_3, small_3, und_4, size_4, agg_4, zero_4, zel_4, small_4, noInt_4, und_5, size_5, agg_5, zero_5, zel_5, small_5, und_9, size_9, agg_9, zero_9, zel_9, small_9, noInt_9, fa_25_0, fd_25_0, fa_25_1, fd_25_1, bld_25, size_25, agg_25, zero_25, zel_25, small_25, noInt_25, und_31, size_31, agg_31, zero_31, zel_31, small_31, noInt_31, fa_45_0, fd_45_0, fa_45_1, fd_45_1, fa_45_2, fd_45_2, bld_45, size_45, agg_45, zero_45, zel_45, small_45, noInt_45, fa_47_0, fd_47_0, fa_47_1, fd_47_1, bld_47, size_47, agg_47, zero_47, zel_47, small_47, noInt_47, und_70, size_70, agg_70, zero_70, zel_70, small_70, noInt_70, und_71, size_71, agg_71, zero_71, zel_71, small_71, noInt_71, fa_75_0, fd_75_0, fa_75_1, fd_75_1, fa_75_2, fd_75_2, fa_75_3, fd_75_3, fa_75_4, fd_75_4, bld_75, size_75, agg_75, zero_75, zel_75, small_75, noInt_75, und_80, size_80, agg_80, zero_80, zel_80, small_80, und_153, size_153, agg_153, zero_153, zel_153, small_153, noInt_153, fa_155_0, fd_155_0, fa_155_1, fd_155_1, bld_155, size_155, agg_155, zero_155, zel_155, small_155, noInt_155, und_156, size_156, agg_156, zero_156, zel_156, small_156, noInt_156, fa_158_0, fd_158_0, fa_158_1, fd_158_1, bld_158, size_158, agg_158, zero_158, zel_158, small_158, noInt_158⟩; show W CC 0 114 (keepsOf 52) _ ⟨[(0, _), (1, _), (2, _)], []⟩ _)
  have hmk : decide (T.l.length < 4294967296) = true := by simp; omega
  have hrep := mkArr_rep AZero.c 4 T.l.length
  simp only [AZero, Zero, Ans.c, List.map_cons, List.map_nil] at hrep
  have hev := evalN_p (T.l.map Node.s) self vars (fun x hx => by obtain ⟨y, hy, rfl⟩ := List.mem_map.1 hx; exact hnv y hy) hsv hvv
  repeat' (first | with_reducible apply once_normal | with_reducible apply once_exit | with_reducible apply once_ret | with_reducible apply once_pan | with_reducible apply thenW_normal | with_reducible apply thenW_ret | with_reducible apply thenW_exit | with_reducible apply thenW_pan | with_reducible apply outOf_normal | with_reducible apply outOf_eq | (refine outOf_ne (by kernel_rfl) ?_) | with_reducible apply outOf_ret | with_reducible apply outOf_pan | with_reducible apply again_exit | with_reducible apply again_ret | with_reducible apply again_pan | with_reducible apply W_seq | with_reducible apply W_block | with_reducible apply W_scope | with_reducible apply W_skip | with_reducible apply W_ret | with_reducible apply W_exit | with_reducible apply W_label | ((with_reducible apply W_RW); (focus kernel_rfl)) | ((with_reducible apply W_RR); (focus kernel_rfl); (focus kernel_rfl)) | with_reducible apply RW_some | with_reducible apply RR_cons | ((with_reducible apply RR_some); (refine ⟨by kernel_rfl, ?_⟩)) | ((with_reducible refine RW_gdn (fun hg => ?_) (fun hg => ?_)) <;> first | (cases hg; done) | skip) | ((with_reducible refine RR_gdn (fun hg => ?_) (fun hg => ?_)) <;> first | (cases hg; done) | skip) | ((with_reducible refine RW_gd (fun hg => ?_) (fun hg => ?_)) <;> first | (cases hg; done) | skip) | ((with_reducible refine RR_gd (fun hg => ?_) (fun hg => ?_)) <;> first | (cases hg; done) | skip) | ((with_reducible apply RW_eq); (focus (simp only [xMakeSlice, Nat.le_refl, true_or, Int.ofNat_eq_natCast, List.length_map, wanted, exec1, xAlloc, xBox, xCall, xBuiltin, xLen, cellsOf, operand, opds, get, putT, ret, lit, lit1, patch, put1, lenOf, CC_P, Nat.zero_add, List.map_cons, List.map_nil, List.length_cons, List.length_nil, Bool.and_self, if_true, Nat.reduceAdd, and_self, runOps_cons, runOps_nil, gdL_true, *]; exact rfl))) | ((with_reducible apply RR_eq); (focus (simp only [*]; exact rfl))) | ((refine W_cond (by (simp only [operand, lit, lit1, *]; exact rfl)) (fun hv => ?_) (fun hv => ?_)) <;> first | (cases hv; done) | skip))
  refine W_rounds (α := Nat × List Ans × Ans) (fun a => ⟨[(0, .t (.sl T.nl T.cl (T.l.map Node.c))), (2, .t (.sl vnl vcl (vars.map Bind.c))), (4, .box 0 0), (6, .box 1 0), (8, .hs 2 0), (9, .box 3 0), (20, .t (.sl T.nl T.cl (T.l.map Node.c))), (21, .t (.int .i64 T.l.length)), (22, .t (.int .i64 a.1))],
      [.box [.t (.int .u8 self.k), .t (.int .i64 self.n), .t (.str self.s)], .box (Zero.c.map .t), .arr 4 0 false (a.2.1.map Ans.c), .box (a.2.2.c.map .t)]⟩)
    (fun a => T.l.length - a.1) (fun a => a.1 ≤ T.l.length ∧ a.2.1 = evalN (T.l.map Node.s) self vars a.1 ++ List.replicate (T.l.length - a.1) AZero ∧ a.2.2 = lastA (evalN (T.l.map Node.s) self vars a.1))
    (0, List.replicate T.l.length AZero, AZero) (by (simp only [loopKeep, firstRegion, keepsOf, tidy, canon, reach, refsL, refs, refsO, catMap, depth, renL, ren, renO, sub, sub1, upto, mem, place, fresh, cond_true, get, nth, List.map, List.zip_cons_cons, List.zip_nil_right, List.take, List.append_nil, List.nil_append, List.cons_append, Bool.and_true, beq_dec, decide_true, decide_false, Nat.reduceEqDiff, Val.c, AZero, Zero, Ans.c, List.map_replicate] <;> exact rfl)) ⟨Nat.zero_le _, by simp [evalN], rfl⟩ ?_
  rintro ⟨i, all, last⟩ ⟨hi, hall, hlast⟩
  try dsimp only at hi hall hlast
  simp only [Zero, List.map_cons, List.map_nil, Val.c]
  have hall' : all.length = T.l.length := by rw [hall]; simp [evalN_length]; omega
  by_cases hi' : i < T.l.length
  · have hw : IntKind.i64.wrap ((i : Int) + 1) = ((i + 1 : Nat) : Int) := by rw [wrap64] <;> omega
    have he : T.l[i]? = some T.l[i] := List.getElem?_eq_getElem hi'
    have hd : decide ((i : Int) < T.l.length) = true := by simpa using hi'
    have hkl := hK T.l[i] (List.getElem_mem hi')
    have hns : (T.l.map Node.s)[i]? = some T.l[i].s := by rw [List.getElem?_map, he]; rfl
    have hnx := hnv T.l[i] (List.getElem_mem hi')
    generalize T.l[i] = x at he hkl hns hnx
    clear hmk hrep
    have hall2 : Hid _ := ⟨hall⟩
    have hlast2 : Hid _ := ⟨hlast⟩
    clear hall hlast
    ((repeat' (first | with_reducible apply fol | with_reducible refine aRW ?_ | with_reducible refine aRR ?_ | with_reducible refine aRs ?_ | ((with_reducible first | apply RW_gdn | apply RR_gdn | apply RW_gd | apply RR_gd) <;> intro hg <;> first | (cases hg; done) | skip) | with_reducible refine aE1 ?_ | with_reducible refine aE2 ?_ | with_reducible refine aOn ?_ | ((with_reducible refine aCd ?_ ?_) <;> intro hv <;> first | (cases hv; done) | skip) | fail)))
    refine W_rounds (α := Nat × Bool × List Ans × List Bool) (fun a => ⟨[(0, .t (.sl T.nl T.cl (T.l.map Node.c))), (2, .t (.sl vnl vcl (vars.map Bind.c))), (4, .box 0 0), (6, .box 1 0), (8, .hs 2 0), (9, .box 3 0), (10, .t (.int .i64 (i : Int))), (11, .box 4 0), (12, .box 5 0), (20, .t (.sl T.nl T.cl (T.l.map Node.c))), (21, .t (.int .i64 T.l.length)), (22, .t (.int .i64 i)), (28, .t (.sl x.kids.nl x.kids.cl (x.kids.l.map intC))), (29, .t (.int .i64 x.kids.l.length)), (30, .t (.int .i64 a.1))],
      match a.2.1 with
      | true => [.box [.t (.int .u8 self.k), .t (.int .i64 self.n), .t (.str self.s)], .box (Zero.c.map .t), .arr 4 0 false (all.map Ans.c), .box (last.c.map .t), .box ((Node.c x).map .t), .box [.hs 6 0, .hs 7 0], .arr 4 0 false (a.2.2.1.map Ans.c), .arr 1 0 false (a.2.2.2.map boolC)]
      | false => [.box [.t (.int .u8 self.k), .t (.int .i64 self.n), .t (.str self.s)], .box (Zero.c.map .t), .arr 4 0 false (all.map Ans.c), .box (last.c.map .t), .box ((Node.c x).map .t), .box [.t (.sl true true []), .t (.sl true true [])]]⟩)
      (fun a => x.kids.l.length - a.1) (fun a => a.1 ≤ x.kids.l.length ∧ a.2.1 = decide (0 < a.1) ∧ a.2.2.1 = (x.kids.l.take a.1).map (fun k => (kidA (evalN (T.l.map Node.s) self vars i) (T.l.map Node.s) k).1) ∧ a.2.2.2 = (x.kids.l.take a.1).map (fun k => (kidA (evalN (T.l.map Node.s) self vars i) (T.l.map Node.s) k).2))
      (0, false, [], []) (by (simp only [loopKeep, firstRegion, keepsOf, tidy, canon, reach, refsL, refs, refsO, catMap, depth, renL, ren, renO, sub, sub1, upto, mem, place, fresh, cond_true, get, nth, List.map, List.zip_cons_cons, List.zip_nil_right, List.take, List.append_nil, List.nil_append, List.cons_append, Bool.and_true, beq_dec, decide_true, decide_false, Nat.reduceEqDiff, Sl.t, Val.c, Node.c, Zero, Ans.c] <;> exact rfl)) ⟨Nat.zero_le _, rfl, rfl, rfl⟩ ?_
    rintro ⟨j, st, kl, nb⟩ ⟨hj, hst, hkls, hnbs⟩
    try dsimp only at hj hst hkls hnbs
    simp only [Zero, List.map_cons, List.map_nil, Val.c]
    by_cases hj' : j < x.kids.l.length
    · have hwj : IntKind.i64.wrap ((j : Int) + 1) = ((j + 1 : Nat) : Int) := by rw [wrap64] <;> omega
      have hej : x.kids.l[j]? = some x.kids.l[j] := List.getElem?_eq_getElem hj'
      have hdj : decide ((j : Int) < x.kids.l.length) = true := by simpa using hj'
      have htk : x.kids.l.take (j + 1) = x.kids.l.take j ++ [x.kids.l[j]] := by rw [List.take_add_one, hej]; rfl
      have hklen : kl.length = j := by rw [hkls]; simp; omega
      have hnlen : nb.length = j := by rw [hnbs]; simp; omega
      have hle : lens 4 (kl.map Ans.c) = true := lens_map Ans.c 4 (fun a => rfl) kl
      have hle2 : lens 1 (nb.map boolC) = true := lens_map boolC 1 (fun a => rfl) nb
      have hsm : decide (j + 1 < 4294967296) = true := by simp; omega
      generalize x.kids.l[j] = k at hej htk
      have hq : ∀ q : Ans × Bool, kidA (evalN (T.l.map Node.s) self vars i) (T.l.map Node.s) k = q → (kl ++ [q.1] = (x.kids.l.take (j + 1)).map (fun k => (kidA (evalN (T.l.map Node.s) self vars i) (T.l.map Node.s) k).1)) ∧ (nb ++ [q.2] = (x.kids.l.take (j + 1)).map (fun k => (kidA (evalN (T.l.map Node.s) self vars i) (T.l.map Node.s) k).2)) := fun q hq => by
        rw [htk, hkls, hnbs]; simp [hq]
      clear hkls hnbs htk
      have hev2 : Hid _ := ⟨hev⟩
      clear hev
      cases hk0 : decide (k < 0) with
      | true =>
        have hq2 : Hid _ := ⟨hq (AZero, false) (by unfold kidA; rw [if_pos]; exact .inl (by simpa using hk0))⟩
        clear hq hns
        cases st with
        | true =>
          clear hst
          ((repeat' (first | with_reducible apply fol | with_reducible refine aRW ?_ | with_reducible refine aRR ?_ | with_reducible refine aRs ?_ | ((with_reducible first | apply RW_gdn | apply RR_gdn | apply RW_gd | apply RR_gd) <;> intro hg <;> first | (cases hg; done) | skip) | with_reducible refine aE1 ?_ | with_reducible refine aE2 ?_ | with_reducible refine aOn ?_ | ((with_reducible refine aCd ?_ ?_) <;> intro hv <;> first | (cases hv; done) | skip) | fail)))
          refine again_normal (j + 1, true, kl ++ [AZero], nb ++ [false]) (by first | omega | (dsimp only; omega)) ⟨by first | omega | (dsimp only; omega), by simp, hq2.h.1, hq2.h.2⟩ (by (simp only [loopKeep, firstRegion, keepsOf, tidy, canon, reach, refsL, refs, refsO, catMap, depth, renL, ren, renO, sub, sub1, upto, mem, place, fresh, cond_true, get, nth, List.map, List.zip_cons_cons, List.zip_nil_right, List.take, List.append_nil, List.nil_append, List.cons_append, Bool.and_true, beq_dec, decide_true, decide_false, Nat.reduceEqDiff, Nat.beq, Sl.t, Node.c, List.map_append, boolC, AZero, Zero, Ans.c, ] <;> exact rfl))
        | false =>
          have hj0 : j = 0 := by simpa using hst
          subst hj0
          obtain rfl : kl = [] := List.length_eq_zero_iff.1 hklen
          obtain rfl : nb = [] := List.length_eq_zero_iff.1 hnlen
          have hej : x.kids.l[0]? = some _ := hej
          clear hst hklen hnlen hle hle2 hsm
          ((repeat' (first | with_reducible apply fol | with_reducible refine aRW ?_ | with_reducible refine aRR ?_ | with_reducible refine aRs ?_ | ((with_reducible first | apply RW_gdn | apply RR_gdn | apply RW_gd | apply RR_gd) <;> intro hg <;> first | (cases hg; done) | skip) | with_reducible refine aE1 ?_ | with_reducible refine aE2 ?_ | with_reducible refine aOn ?_ | ((with_reducible refine aCd ?_ ?_) <;> intro hv <;> first | (cases hv; done) | skip) | fail)))
          refine again_normal (1, true, [AZero], [false]) (by first | omega | (dsimp only; omega)) ⟨by first | omega | (dsimp only; omega), rfl, hq2.h.1, hq2.h.2⟩ (by (simp only [loopKeep, firstRegion, keepsOf, tidy, canon, reach, refsL, refs, refsO, catMap, depth, renL, ren, renO, sub, sub1, upto, mem, place, fresh, cond_true, get, nth, List.map, List.zip_cons_cons, List.zip_nil_right, List.take, List.append_nil, List.nil_append, List.cons_append, Bool.and_true, beq_dec, decide_true, decide_false, Nat.reduceEqDiff, Nat.beq, Sl.t, Node.c, boolC, AZero, Zero, Ans.c, ] <;> exact rfl))
      | false =>
        cases hk1 : decide (k ≥ (i : Int)) with
        | true =>
          have hq2 : Hid _ := ⟨hq (AZero, false) (by unfold kidA; rw [if_pos]; exact .inr (by rw [evalN_length]; simpa using hk1))⟩
          clear hq hns
          cases st with
          | true =>
            clear hst
            ((repeat' (first | with_reducible apply fol | with_reducible refine aRW ?_ | with_reducible refine aRR ?_ | with_reducible refine aRs ?_ | ((with_reducible first | apply RW_gdn | apply RR_gdn | apply RW_gd | apply RR_gd) <;> intro hg <;> first | (cases hg; done) | skip) | with_reducible refine aE1 ?_ | with_reducible refine aE2 ?_ | with_reducible refine aOn ?_ | ((with_reducible refine aCd ?_ ?_) <;> intro hv <;> first | (cases hv; done) | skip) | fail)))
            refine again_normal (j + 1, true, kl ++ [AZero], nb ++ [false]) (by first | omega | (dsimp only; omega)) ⟨by first | omega | (dsimp only; omega), by simp, hq2.h.1, hq2.h.2⟩ (by (simp only [loopKeep, firstRegion, keepsOf, tidy, canon, reach, refsL, refs, refsO, catMap, depth, renL, ren, renO, sub, sub1, upto, mem, place, fresh, cond_true, get, nth, List.map, List.zip_cons_cons, List.zip_nil_right, List.take, List.append_nil, List.nil_append, List.cons_append, Bool.and_true, beq_dec, decide_true, decide_false, Nat.reduceEqDiff, Nat.beq, Sl.t, Node.c, List.map_append, boolC, AZero, Zero, Ans.c, ] <;> exact rfl))
          | false =>
            have hj0 : j = 0 := by simpa using hst
            subst hj0
            obtain rfl : kl = [] := List.length_eq_zero_iff.1 hklen
            obtain rfl : nb = [] := List.length_eq_zero_iff.1 hnlen
            have hej : x.kids.l[0]? = some _ := hej
            clear hst hklen hnlen hle hle2 hsm
            ((repeat' (first | with_reducible apply fol | with_reducible refine aRW ?_ | with_reducible refine aRR ?_ | with_reducible refine aRs ?_ | ((with_reducible first | apply RW_gdn | apply RR_gdn | apply RW_gd | apply RR_gd) <;> intro hg <;> first | (cases hg; done) | skip) | with_reducible refine aE1 ?_ | with_reducible refine aE2 ?_ | with_reducible refine aOn ?_ | ((with_reducible refine aCd ?_ ?_) <;> intro hv <;> first | (cases hv; done) | skip) | fail)))
            refine again_normal (1, true, [AZero], [false]) (by first | omega | (dsimp only; omega)) ⟨by first | omega | (dsimp only; omega), rfl, hq2.h.1, hq2.h.2⟩ (by (simp only [loopKeep, firstRegion, keepsOf, tidy, canon, reach, refsL, refs, refsO, catMap, depth, renL, ren, renO, sub, sub1, upto, mem, place, fresh, cond_true, get, nth, List.map, List.zip_cons_cons, List.zip_nil_right, List.take, List.append_nil, List.nil_append, List.cons_append, Bool.and_true, beq_dec, decide_true, decide_false, Nat.reduceEqDiff, Nat.beq, Sl.t, Node.c, boolC, AZero, Zero, Ans.c, ] <;> exact rfl))
        | false =>
          have h0k : 0 ≤ k := by simpa using hk0
          obtain ⟨q, rfl⟩ := Int.eq_ofNat_of_zero_le h0k
          have hqi : q < i := by have : ¬ ((q : Int) ≥ i) := by simpa using hk1
                                 omega
          have hqT : q < T.l.length := by omega
          have heq : T.l[q]? = some T.l[q] := List.getElem?_eq_getElem hqT
          have hnq : (T.l.map Node.s)[q]? = some T.l[q].s := by rw [List.getElem?_map, heq]; rfl
          have hga : all[q]? = some (getA (evalN (T.l.map Node.s) self vars i) q) := by
            rw [hall2.h, List.getElem?_append_left (by rw [evalN_length]; exact hqi)]
            unfold getA
            rw [List.getD_eq_getElem?_getD, List.getElem?_eq_getElem (by rw [evalN_length]; exact hqi)]; rfl
          have hkid : kidA (evalN (T.l.map Node.s) self vars i) (T.l.map Node.s) (q : Int) = (getA (evalN (T.l.map Node.s) self vars i) q, T.l[q].s.nul) := by
            unfold kidA
            rw [if_neg (by rw [evalN_length]; omega)]
            simp only [Int.toNat_natCast, hnq]
          generalize T.l[q] = y at heq hkid
          have hq2 := hq _ hkid
          generalize getA (evalN (T.l.map Node.s) self vars i) q = ga at hga hq2
          have hqT2 : (q : Int) < (T.l.length : Int) := by omega
          have hnth : nth (all.map Ans.c) q = some ga.c := by rw [nth_eq, List.getElem?_map, hga]; rfl
          obtain ⟨⟨gk, gn, gs⟩, ge⟩ := ga
          simp only [Ans.c] at hnth
          clear hq hns hnq hkid
          have hnull : y.s.nul = (y.op == 1 && y.v.k == 0) := rfl
          rw [hnull] at hq2
          clear hnull
          cases hop : y.op == 1 with
          | true =>
            rw [hop, Bool.true_and] at hq2
            have hq2 : Hid _ := ⟨hq2⟩
            cases st with
            | true =>
              clear hst
              ((repeat' (first | with_reducible apply fol | with_reducible refine aRW ?_ | with_reducible refine aRR ?_ | with_reducible refine aRs ?_ | ((with_reducible first | apply RW_gdn | apply RR_gdn | apply RW_gd | apply RR_gd) <;> intro hg <;> first | (cases hg; done) | skip) | with_reducible refine aE1 ?_ | with_reducible refine aE2 ?_ | with_reducible refine aOn ?_ | ((with_reducible refine aCd ?_ ?_) <;> intro hv <;> first | (cases hv; done) | skip) | fail)))
              refine again_normal (j + 1, true, kl ++ [⟨⟨gk, gn, gs⟩, ge⟩], nb ++ [y.v.k == 0]) (by first | omega | (dsimp only; omega)) ⟨by first | omega | (dsimp only; omega), by simp, hq2.h.1, hq2.h.2⟩ (by (simp only [loopKeep, firstRegion, keepsOf, tidy, canon, reach, refsL, refs, refsO, catMap, depth, renL, ren, renO, sub, sub1, upto, mem, place, fresh, cond_true, get, nth, List.map, List.zip_cons_cons, List.zip_nil_right, List.take, List.append_nil, List.nil_append, List.cons_append, Bool.and_true, beq_dec, decide_true, decide_false, Nat.reduceEqDiff, Nat.beq, Sl.t, Node.c, List.map_append, boolC, Ans.c, ] <;> exact rfl))
            | false =>
              have hj0 : j = 0 := by simpa using hst
              subst hj0
              obtain rfl : kl = [] := List.length_eq_zero_iff.1 hklen
              obtain rfl : nb = [] := List.length_eq_zero_iff.1 hnlen
              have hej : x.kids.l[0]? = some _ := hej
              clear hst hklen hnlen hle hle2 hsm
              ((repeat' (first | with_reducible apply fol | with_reducible refine aRW ?_ | with_reducible refine aRR ?_ | with_reducible refine aRs ?_ | ((with_reducible first | apply RW_gdn | apply RR_gdn | apply RW_gd | apply RR_gd) <;> intro hg <;> first | (cases hg; done) | skip) | with_reducible refine aE1 ?_ | with_reducible refine aE2 ?_ | with_reducible refine aOn ?_ | ((with_reducible refine aCd ?_ ?_) <;> intro hv <;> first | (cases hv; done) | skip) | fail)))
              refine again_normal (1, true, [⟨⟨gk, gn, gs⟩, ge⟩], [y.v.k == 0]) (by first | omega | (dsimp only; omega)) ⟨by first | omega | (dsimp only; omega), rfl, hq2.h.1, hq2.h.2⟩ (by (simp only [loopKeep, firstRegion, keepsOf, tidy, canon, reach, refsL, refs, refsO, catMap, depth, renL, ren, renO, sub, sub1, upto, mem, place, fresh, cond_true, get, nth, List.map, List.zip_cons_cons, List.zip_nil_right, List.take, List.append_nil, List.nil_append, List.cons_append, Bool.and_true, beq_dec, decide_true, decide_false, Nat.reduceEqDiff, Nat.beq, Sl.t, Node.c, boolC, Ans.c, ] <;> exact rfl))
          | false =>
            rw [hop, Bool.false_and] at hq2
            have hq2 : Hid _ := ⟨hq2⟩
            cases st with
            | true =>
              clear hst
              ((repeat' (first | with_reducible apply fol | with_reducible refine aRW ?_ | with_reducible refine aRR ?_ | with_reducible refine aRs ?_ | ((with_reducible first | apply RW_gdn | apply RR_gdn | apply RW_gd | apply RR_gd) <;> intro hg <;> first | (cases hg; done) | skip) | with_reducible refine aE1 ?_ | with_reducible refine aE2 ?_ | with_reducible refine aOn ?_ | ((with_reducible refine aCd ?_ ?_) <;> intro hv <;> first | (cases hv; done) | skip) | fail)))
              refine again_normal (j + 1, true, kl ++ [⟨⟨gk, gn, gs⟩, ge⟩], nb ++ [false]) (by first | omega | (dsimp only; omega)) ⟨by first | omega | (dsimp only; omega), by simp, hq2.h.1, hq2.h.2⟩ (by (simp only [loopKeep, firstRegion, keepsOf, tidy, canon, reach, refsL, refs, refsO, catMap, depth, renL, ren, renO, sub, sub1, upto, mem, place, fresh, cond_true, get, nth, List.map, List.zip_cons_cons, List.zip_nil_right, List.take, List.append_nil, List.nil_append, List.cons_append, Bool.and_true, beq_dec, decide_true, decide_false, Nat.reduceEqDiff, Nat.beq, Sl.t, Node.c, List.map_append, boolC, Ans.c, ] <;> exact rfl))
            | false =>
              have hj0 : j = 0 := by simpa using hst
              subst hj0
              obtain rfl : kl = [] := List.length_eq_zero_iff.1 hklen
              obtain rfl : nb = [] := List.length_eq_zero_iff.1 hnlen
              have hej : x.kids.l[0]? = some _ := hej
              clear hst hklen hnlen hle hle2 hsm
              ((repeat' (first | with_reducible apply fol | with_reducible refine aRW ?_ | with_reducible refine aRR ?_ | with_reducible refine aRs ?_ | ((with_reducible first | apply RW_gdn | apply RR_gdn | apply RW_gd | apply RR_gd) <;> intro hg <;> first | (cases hg; done) | skip) | with_reducible refine aE1 ?_ | with_reducible refine aE2 ?_ | with_reducible refine aOn ?_ | ((with_reducible refine aCd ?_ ?_) <;> intro hv <;> first | (cases hv; done) | skip) | fail)))
              refine again_normal (1, true, [⟨⟨gk, gn, gs⟩, ge⟩], [false]) (by first | omega | (dsimp only; omega)) ⟨by first | omega | (dsimp only; omega), rfl, hq2.h.1, hq2.h.2⟩ (by (simp only [loopKeep, firstRegion, keepsOf, tidy, canon, reach, refsL, refs, refsO, catMap, depth, renL, ren, renO, sub, sub1, upto, mem, place, fresh, cond_true, get, nth, List.map, List.zip_cons_cons, List.zip_nil_right, List.take, List.append_nil, List.nil_append, List.cons_append, Bool.and_true, beq_dec, decide_true, decide_false, Nat.reduceEqDiff, Nat.beq, Sl.t, Node.c, boolC, Ans.c, ] <;> exact rfl))
    · have hdj : decide ((j : Int) < x.kids.l.length) = false := by simpa using hj'
      have hjl : j = x.kids.l.length := by omega
      have hi2 : (i : Int) < (T.l.length : Int) := by omega
      have hi0 : (0 : Int) ≤ (i : Int) := by omega
      have hnthi : nth (all.map Ans.c) i = some AZero.c := by
        rw [nth_eq, List.getElem?_map, hall2.h, List.getElem?_append_right (by rw [evalN_length]; exact Nat.le_refl _), evalN_length, Nat.sub_self]
        have hr : T.l.length - i = (T.l.length - (i + 1)) + 1 := by omega
        rw [hr, List.replicate_succ]; rfl
      simp only [AZero, Zero, Ans.c] at hnthi
      have hlf := leaf_ok x.op x.v x.name (.sl x.kids.nl x.kids.cl (x.kids.l.map intC)) (.int .i64 x.line) (.int .i64 x.col) self vnl vcl vars hvl
      have hklp : ∀ a ∈ kl, AOK a := by
        rw [hkls]; intro a ha
        obtain ⟨k, _, rfl⟩ := List.mem_map.1 ha
        exact kidA_p _ _ _ (hev i)
      have hkl2 : kl.length < 4294967295 := by rw [hkls]; simp; omega
      have hklen : kl.length = j := by rw [hkls]; simp; omega
      have hnode : nodeA (evalN (T.l.map Node.s) self vars i) (T.l.map Node.s) x.s self vars = if (leafA x.op x.v x.name self vars).2 then (leafA x.op x.v x.name self vars).1 else if (Truths x.op kl nb).2 then (Truths x.op kl nb).1 else Others x.op kl nb := by
        rw [hjl, List.take_length] at hkls hnbs
        unfold nodeA; rw [hkls, hnbs]; rfl
      have hstep : ∀ a, nodeA (evalN (T.l.map Node.s) self vars i) (T.l.map Node.s) x.s self vars = a → all.set i a = evalN (T.l.map Node.s) self vars (i + 1) ++ List.replicate (T.l.length - (i + 1)) AZero ∧ a = lastA (evalN (T.l.map Node.s) self vars (i + 1)) := fun a ha => by
        have he1 : evalN (T.l.map Node.s) self vars (i + 1) = evalN (T.l.map Node.s) self vars i ++ [a] := by rw [evalN, hns]; simp only [ha]
        rw [he1]
        refine ⟨?_, (lastA_snoc _ _).symm⟩
        rw [hall2.h, List.set_append_right _ _ (by rw [evalN_length]; exact Nat.le_refl _), evalN_length, Nat.sub_self]
        have hr : T.l.length - i = (T.l.length - (i + 1)) + 1 := by omega
        rw [hr, List.replicate_succ, List.set_cons_zero, List.append_assoc]; rfl
      have hnb0' : j = 0 → nb = [] := fun h => by rw [hnbs, h]; rfl
      have hev2 : Hid _ := ⟨hev⟩
      clear hkls hnbs hev hns hjl
      cases st with
      | true =>
        have hemp : kl.isEmpty = false := by
          cases kl with
          | nil => simp at hst hklen; omega
          | cons a l => rfl
        clear hst hklen hnb0'
        have htr := truths_ok x.op kl nb false hemp hklp
        have hot := others_ok x.op kl nb false hemp hklp hkl2
        clear hklp hkl2 hemp
        generalize leafA x.op x.v x.name self vars = lf at hlf hnode
        generalize Truths x.op kl nb = tr at htr hnode
        generalize Others x.op kl nb = ot at hot hnode
        obtain ⟨⟨⟨lk, ln, ls⟩, le⟩, lb⟩ := lf
        obtain ⟨⟨⟨tk, tn, tS⟩, te⟩, tb⟩ := tr
        obtain ⟨⟨ok, on, os⟩, oe⟩ := ot
        have hstep2 : Hid _ := ⟨hstep⟩
        have hnode2 : Hid _ := ⟨hnode⟩
        clear hstep hnode
        simp only [] at htr hot
        cases lb with
        | true =>
          have hfin := hstep2.h ⟨⟨lk, ln, ls⟩, le⟩ (by rw [hnode2.h]; rfl)
          repeat' (first | with_reducible apply once_normal | with_reducible apply once_exit | with_reducible apply once_ret | with_reducible apply once_pan | with_reducible apply thenW_normal | with_reducible apply thenW_ret | with_reducible apply thenW_exit | with_reducible apply thenW_pan | with_reducible apply outOf_normal | with_reducible apply outOf_eq | (refine outOf_ne (by kernel_rfl) ?_) | with_reducible apply outOf_ret | with_reducible apply outOf_pan | with_reducible apply again_exit | with_reducible apply again_ret | with_reducible apply again_pan | with_reducible apply W_seq | with_reducible apply W_block | with_reducible apply W_scope | with_reducible apply W_skip | with_reducible apply W_ret | with_reducible apply W_exit | with_reducible apply W_label | ((with_reducible apply W_RW); (focus kernel_rfl)) | ((with_reducible apply W_RR); (focus kernel_rfl); (focus kernel_rfl)) | with_reducible apply RW_some | with_reducible apply RR_cons | ((with_reducible apply RR_some); (refine ⟨by kernel_rfl, ?_⟩)) | ((with_reducible refine RW_gdn (fun hg => ?_) (fun hg => ?_)) <;> first | (cases hg; done) | skip) | ((with_reducible refine RR_gdn (fun hg => ?_) (fun hg => ?_)) <;> first | (cases hg; done) | skip) | ((with_reducible refine RW_gd (fun hg => ?_) (fun hg => ?_)) <;> first | (cases hg; done) | skip) | ((with_reducible refine RR_gd (fun hg => ?_) (fun hg => ?_)) <;> first | (cases hg; done) | skip) | ((with_reducible apply RW_eq); (focus (simp only [callF, callIn, reach, refsL, refs, catMap, depth, sub, sub1, renL, ren, mem, place, fresh, import1, plain, plainT, view, viewed, freeze, CC_byRef, CC_prim, ne_eq, not_false_eq_true, cond_false, List.all_cons, List.all_nil, view, viewed, freeze, catMap, isCell, Ans.c, hb_70, wanted, exec1, xAlloc, xCall, xStore, xExtract, cellsOf, operand, opds, get, putT, ret, retO, lit, lit1, patch, put1, load, loadCells, cut, mkAgg, trees, nth, storeAt, upd, splice, isCell, CC_P, int_add, int_lss, not_bool, Nat.zero_add, List.map_cons, List.map_nil, List.length_cons, List.length_nil, List.take, List.drop, List.all_cons, List.all_nil, List.nil_append, List.append_nil, Bool.not_true, Bool.and_self, if_true, Nat.reduceAdd, Nat.reduceLeDiff, Nat.reduceEqDiff, Sl.t, Node.c, and_self, runOps_cons, runOps_nil, gdL_true, *]; exact rfl))) | ((with_reducible apply RR_eq); (focus (simp only [depth, view, viewed, freeze, blt_dec, Nat.reduceLT, List.all_cons, List.all_nil, view, viewed, freeze, isCell, blt_dec, purify, Int.toNat_natCast, decide_true, List.length_map, wanted, exec1, xStore, xIndexAddr, cellsOf, operand, get, putT, ret, retO, patch, put1, load, loadCells, cut, mkAgg, trees, nth, indexAddr, storeAt, upd, splice, isCell, CC_P, Nat.zero_add, List.map_cons, List.map_nil, List.length_cons, List.length_nil, List.take, List.drop, List.all_cons, List.all_nil, List.nil_append, List.append_nil, Bool.and_self, if_true, Nat.reduceAdd, Nat.reduceLeDiff, and_self, runRec_cons, runRec_nil, consR_some, gapless, foot, names, depth, gdR_true, *]; exact rfl))) | ((refine W_cond (by (simp only [operand, get, lit, lit1, *]; exact rfl)) (fun hv => ?_) (fun hv => ?_)) <;> first | (cases hv; done) | skip))
          refine again_normal (i + 1, all.set i ⟨⟨lk, ln, ls⟩, le⟩, ⟨⟨lk, ln, ls⟩, le⟩) (by first | omega | (dsimp only; omega)) ⟨by first | omega | (dsimp only; omega), hfin.1, hfin.2⟩ (by (simp only [loopKeep, firstRegion, keepsOf, tidy, canon, reach, refsL, refs, refsO, catMap, depth, renL, ren, renO, sub, sub1, upto, mem, place, fresh, cond_true, get, nth, List.map, List.zip_cons_cons, List.zip_nil_right, List.take, List.append_nil, List.nil_append, List.cons_append, Bool.and_true, beq_dec, decide_true, decide_false, Nat.reduceEqDiff, setN_eq, List.map_set, Ans.c] <;> exact rfl))
        | false =>
          cases tb with
          | true =>
            have hfin := hstep2.h ⟨⟨tk, tn, tS⟩, te⟩ (by rw [hnode2.h]; rfl)
            repeat' (first | with_reducible apply once_normal | with_reducible apply once_exit | with_reducible apply once_ret | with_reducible apply once_pan | with_reducible apply thenW_normal | with_reducible apply thenW_ret | with_reducible apply thenW_exit | with_reducible apply thenW_pan | with_reducible apply outOf_normal | with_reducible apply outOf_eq | (refine outOf_ne (by kernel_rfl) ?_) | with_reducible apply outOf_ret | with_reducible apply outOf_pan | with_reducible apply again_exit | with_reducible apply again_ret | with_reducible apply again_pan | with_reducible apply W_seq | with_reducible apply W_block | with_reducible apply W_scope | with_reducible apply W_skip | with_reducible apply W_ret | with_reducible apply W_exit | with_reducible apply W_label | ((with_reducible apply W_RW); (focus kernel_rfl)) | ((with_reducible apply W_RR); (focus kernel_rfl); (focus kernel_rfl)) | with_reducible apply RW_some | with_reducible apply RR_cons | ((with_reducible apply RR_some); (refine ⟨by kernel_rfl, ?_⟩)) | ((with_reducible refine RW_gdn (fun hg => ?_) (fun hg => ?_)) <;> first | (cases hg; done) | skip) | ((with_reducible refine RR_gdn (fun hg => ?_) (fun hg => ?_)) <;> first | (cases hg; done) | skip) | ((with_reducible refine RW_gd (fun hg => ?_) (fun hg => ?_)) <;> first | (cases hg; done) | skip) | ((with_reducible refine RR_gd (fun hg => ?_) (fun hg => ?_)) <;> first | (cases hg; done) | skip) | ((with_reducible apply RW_eq); (focus (simp only [callF, callIn, reach, refsL, refs, catMap, depth, sub, sub1, renL, ren, mem, place, fresh, import1, plain, plainT, view, viewed, freeze, CC_byRef, CC_prim, ne_eq, not_false_eq_true, cond_false, elems, elems, List.all_cons, List.all_nil, view, viewed, freeze, catMap, isCell, Ans.c, hb_70, hb_71, wanted, exec1, xAlloc, xCall, xStore, xExtract, cellsOf, operand, opds, get, putT, ret, retO, lit, lit1, patch, put1, load, loadCells, cut, addOff, mkAgg, trees, nth, storeAt, upd, splice, isCell, CC_P, int_add, int_lss, not_bool, Nat.zero_add, Nat.add_zero, List.map_cons, List.map_nil, List.length_cons, List.length_nil, List.take, List.drop, List.all_cons, List.all_nil, List.cons_append, List.nil_append, List.append_nil, Bool.not_true, Bool.not_false, Bool.and_self, if_true, Nat.reduceAdd, Nat.reduceLeDiff, Nat.reduceEqDiff, Sl.t, Node.c, and_self, runOps_cons, runOps_nil, gdL_true, *]; exact rfl))) | ((with_reducible apply RR_eq); (focus (simp only [depth, view, viewed, freeze, blt_dec, Nat.reduceLT, List.all_cons, List.all_nil, view, viewed, freeze, isCell, blt_dec, purify, Int.toNat_natCast, decide_true, List.length_map, wanted, exec1, xStore, xIndexAddr, cellsOf, operand, get, putT, ret, retO, patch, put1, load, loadCells, cut, mkAgg, trees, nth, indexAddr, storeAt, upd, splice, isCell, CC_P, Nat.zero_add, List.map_cons, List.map_nil, List.length_cons, List.length_nil, List.take, List.drop, List.all_cons, List.all_nil, List.nil_append, List.append_nil, Bool.and_self, if_true, Nat.reduceAdd, Nat.reduceLeDiff, and_self, runRec_cons, runRec_nil, consR_some, gapless, foot, names, depth, gdR_true, *]; exact rfl))) | ((refine W_cond (by (simp only [operand, get, lit, lit1, *]; exact rfl)) (fun hv => ?_) (fun hv => ?_)) <;> first | (cases hv; done) | skip))
            refine again_normal (i + 1, all.set i ⟨⟨tk, tn, tS⟩, te⟩, ⟨⟨tk, tn, tS⟩, te⟩) (by first | omega | (dsimp only; omega)) ⟨by first | omega | (dsimp only; omega), hfin.1, hfin.2⟩ (by (simp only [loopKeep, firstRegion, keepsOf, tidy, canon, reach, refsL, refs, refsO, catMap, depth, renL, ren, renO, sub, sub1, upto, mem, place, fresh, cond_true, get, nth, List.map, List.zip_cons_cons, List.zip_nil_right, List.take, List.append_nil, List.nil_append, List.cons_append, Bool.and_true, beq_dec, decide_true, decide_false, Nat.reduceEqDiff, setN_eq, List.map_set, Ans.c] <;> exact rfl))
          | false =>
            have hfin := hstep2.h ⟨⟨ok, on, os⟩, oe⟩ (by rw [hnode2.h]; rfl)
            repeat' (first | with_reducible apply once_normal | with_reducible apply once_exit | with_reducible apply once_ret | with_reducible apply once_pan | with_reducible apply thenW_normal | with_reducible apply thenW_ret | with_reducible apply thenW_exit | with_reducible apply thenW_pan | with_reducible apply outOf_normal | with_reducible apply outOf_eq | (refine outOf_ne (by kernel_rfl) ?_) | with_reducible apply outOf_ret | with_reducible apply outOf_pan | with_reducible apply again_exit | with_reducible apply again_ret | with_reducible apply again_pan | with_reducible apply W_seq | with_reducible apply W_block | with_reducible apply W_scope | with_reducible apply W_skip | with_reducible apply W_ret | with_reducible apply W_exit | with_reducible apply W_label | ((with_reducible apply W_RW); (focus kernel_rfl)) | ((with_reducible apply W_RR); (focus kernel_rfl); (focus kernel_rfl)) | with_reducible apply RW_some | with_reducible apply RR_cons | ((with_reducible apply RR_some); (refine ⟨by kernel_rfl, ?_⟩)) | ((with_reducible refine RW_gdn (fun hg => ?_) (fun hg => ?_)) <;> first | (cases hg; done) | skip) | ((with_reducible refine RR_gdn (fun hg => ?_) (fun hg => ?_)) <;> first | (cases hg; done) | skip) | ((with_reducible refine RW_gd (fun hg => ?_) (fun hg => ?_)) <;> first | (cases hg; done) | skip) | ((with_reducible refine RR_gd (fun hg => ?_) (fun hg => ?_)) <;> first | (cases hg; done) | skip) | ((with_reducible apply RW_eq); (focus (simp only [callF, callIn, reach, refsL, refs, catMap, depth, sub, sub1, renL, ren, mem, place, fresh, import1, plain, plainT, view, viewed, freeze, CC_byRef, CC_prim, ne_eq, not_false_eq_true, cond_false, elems, elems, List.all_cons, List.all_nil, view, viewed, freeze, catMap, isCell, Ans.c, hb_70, hb_71, hb_72, wanted, exec1, xAlloc, xCall, xStore, xExtract, cellsOf, operand, opds, get, putT, ret, retO, lit, lit1, patch, put1, load, loadCells, cut, addOff, mkAgg, trees, nth, storeAt, upd, splice, isCell, CC_P, int_add, int_lss, not_bool, Nat.zero_add, Nat.add_zero, List.map_cons, List.map_nil, List.length_cons, List.length_nil, List.take, List.drop, List.all_cons, List.all_nil, List.cons_append, List.nil_append, List.append_nil, Bool.not_false, Bool.and_self, if_true, Nat.reduceAdd, Nat.reduceLeDiff, Nat.reduceEqDiff, Sl.t, Node.c, and_self, runOps_cons, runOps_nil, gdL_true, *]; exact rfl))) | ((with_reducible apply RR_eq); (focus (simp only [depth, view, viewed, freeze, blt_dec, Nat.reduceLT, List.all_cons, List.all_nil, view, viewed, freeze, isCell, blt_dec, purify, Int.toNat_natCast, decide_true, List.length_map, wanted, exec1, xStore, xIndexAddr, cellsOf, operand, get, putT, ret, retO, patch, put1, load, loadCells, cut, mkAgg, trees, nth, indexAddr, storeAt, upd, splice, isCell, CC_P, Nat.zero_add, List.map_cons, List.map_nil, List.length_cons, List.length_nil, List.take, List.drop, List.all_cons, List.all_nil, List.nil_append, List.append_nil, Bool.and_self, if_true, Nat.reduceAdd, Nat.reduceLeDiff, and_self, runRec_cons, runRec_nil, consR_some, gapless, foot, names, depth, gdR_true, *]; exact rfl))) | ((refine W_cond (by (simp only [operand, get, lit, lit1, *]; exact rfl)) (fun hv => ?_) (fun hv => ?_)) <;> first | (cases hv; done) | skip))
            refine again_normal (i + 1, all.set i ⟨⟨ok, on, os⟩, oe⟩, ⟨⟨ok, on, os⟩, oe⟩) (by first | omega | (dsimp only; omega)) ⟨by first | omega | (dsimp only; omega), hfin.1, hfin.2⟩ (by (simp only [loopKeep, firstRegion, keepsOf, tidy, canon, reach, refsL, refs, refsO, catMap, depth, renL, ren, renO, sub, sub1, upto, mem, place, fresh, cond_true, get, nth, List.map, List.zip_cons_cons, List.zip_nil_right, List.take, List.append_nil, List.nil_append, List.cons_append, Bool.and_true, beq_dec, decide_true, decide_false, Nat.reduceEqDiff, setN_eq, List.map_set, Ans.c] <;> exact rfl))
      | false =>
        have hj0 : j = 0 := by simpa using hst
        have hkl0 : kl = [] := List.length_eq_zero_iff.1 (by omega)
        subst hkl0
        have hnb0 : nb = [] := hnb0' hj0
        subst hnb0
        have hemp : ([] : List Ans).isEmpty = true := rfl
        clear hst hklen hnb0' hj0
        have htr := truths_ok x.op ([] : List Ans) ([] : List Bool) true hemp hklp
        have hot := others_ok x.op ([] : List Ans) ([] : List Bool) true hemp hklp hkl2
        clear hklp hkl2 hemp
        generalize leafA x.op x.v x.name self vars = lf at hlf hnode
        generalize Truths x.op ([] : List Ans) ([] : List Bool) = tr at htr hnode
        generalize Others x.op ([] : List Ans) ([] : List Bool) = ot at hot hnode
        obtain ⟨⟨⟨lk, ln, ls⟩, le⟩, lb⟩ := lf
        obtain ⟨⟨⟨tk, tn, tS⟩, te⟩, tb⟩ := tr
        obtain ⟨⟨ok, on, os⟩, oe⟩ := ot
        have hstep2 : Hid _ := ⟨hstep⟩
        have hnode2 : Hid _ := ⟨hnode⟩
        clear hstep hnode
        simp only [List.map_nil] at htr hot
        cases lb with
        | true =>
          have hfin := hstep2.h ⟨⟨lk, ln, ls⟩, le⟩ (by rw [hnode2.h]; rfl)
          repeat' (first | with_reducible apply once_normal | with_reducible apply once_exit | with_reducible apply once_ret | with_reducible apply once_pan | with_reducible apply thenW_normal | with_reducible apply thenW_ret | with_reducible apply thenW_exit | with_reducible apply thenW_pan | with_reducible apply outOf_normal | with_reducible apply outOf_eq | (refine outOf_ne (by kernel_rfl) ?_) | with_reducible apply outOf_ret | with_reducible apply outOf_pan | with_reducible apply again_exit | with_reducible apply again_ret | with_reducible apply again_pan | with_reducible apply W_seq | with_reducible apply W_block | with_reducible apply W_scope | with_reducible apply W_skip | with_reducible apply W_ret | with_reducible apply W_exit | with_reducible apply W_label | ((with_reducible apply W_RW); (focus kernel_rfl)) | ((with_reducible apply W_RR); (focus kernel_rfl); (focus kernel_rfl)) | with_reducible apply RW_some | with_reducible apply RR_cons | ((with_reducible apply RR_some); (refine ⟨by kernel_rfl, ?_⟩)) | ((with_reducible refine RW_gdn (fun hg => ?_) (fun hg => ?_)) <;> first | (cases hg; done) | skip) | ((with_reducible refine RR_gdn (fun hg => ?_) (fun hg => ?_)) <;> first | (cases hg; done) | skip) | ((with_reducible refine RW_gd (fun hg => ?_) (fun hg => ?_)) <;> first | (cases hg; done) | skip) | ((with_reducible refine RR_gd (fun hg => ?_) (fun hg => ?_)) <;> first | (cases hg; done) | skip) | ((with_reducible apply RW_eq); (focus (simp only [callF, callIn, reach, refsL, refs, catMap, depth, sub, sub1, renL, ren, mem, place, fresh, import1, plain, plainT, view, viewed, freeze, CC_byRef, CC_prim, ne_eq, not_false_eq_true, cond_false, List.all_cons, List.all_nil, view, viewed, freeze, catMap, isCell, Ans.c, hb_70, wanted, exec1, xAlloc, xCall, xStore, xExtract, cellsOf, operand, opds, get, putT, ret, retO, lit, lit1, patch, put1, load, loadCells, cut, mkAgg, trees, nth, storeAt, upd, splice, isCell, CC_P, int_add, int_lss, not_bool, Nat.zero_add, List.map_cons, List.map_nil, List.length_cons, List.length_nil, List.take, List.drop, List.all_cons, List.all_nil, List.nil_append, List.append_nil, Bool.not_true, Bool.and_self, if_true, Nat.reduceAdd, Nat.reduceLeDiff, Nat.reduceEqDiff, Sl.t, Node.c, and_self, runOps_cons, runOps_nil, gdL_true, *]; exact rfl))) | ((with_reducible apply RR_eq); (focus (simp only [depth, view, viewed, freeze, blt_dec, Nat.reduceLT, List.all_cons, List.all_nil, view, viewed, freeze, isCell, blt_dec, purify, Int.toNat_natCast, decide_true, List.length_map, wanted, exec1, xStore, xIndexAddr, cellsOf, operand, get, putT, ret, retO, patch, put1, load, loadCells, cut, mkAgg, trees, nth, indexAddr, storeAt, upd, splice, isCell, CC_P, Nat.zero_add, List.map_cons, List.map_nil, List.length_cons, List.length_nil, List.take, List.drop, List.all_cons, List.all_nil, List.nil_append, List.append_nil, Bool.and_self, if_true, Nat.reduceAdd, Nat.reduceLeDiff, and_self, runRec_cons, runRec_nil, consR_some, gapless, foot, names, depth, gdR_true, *]; exact rfl))) | ((refine W_cond (by (simp only [operand, get, lit, lit1, *]; exact rfl)) (fun hv => ?_) (fun hv => ?_)) <;> first | (cases hv; done) | skip))
          refine again_normal (i + 1, all.set i ⟨⟨lk, ln, ls⟩, le⟩, ⟨⟨lk, ln, ls⟩, le⟩) (by first | omega | (dsimp only; omega)) ⟨by first | omega | (dsimp only; omega), hfin.1, hfin.2⟩ (by (simp only [loopKeep, firstRegion, keepsOf, tidy, canon, reach, refsL, refs, refsO, catMap, depth, renL, ren, renO, sub, sub1, upto, mem, place, fresh, cond_true, get, nth, List.map, List.zip_cons_cons, List.zip_nil_right, List.take, List.append_nil, List.nil_append, List.cons_append, Bool.and_true, beq_dec, decide_true, decide_false, Nat.reduceEqDiff, setN_eq, List.map_set, Ans.c] <;> exact rfl))
        | false =>
          cases tb with
          | true =>
            have hfin := hstep2.h ⟨⟨tk, tn, tS⟩, te⟩ (by rw [hnode2.h]; rfl)
            repeat' (first | with_reducible apply once_normal | with_reducible apply once_exit | with_reducible apply once_ret | with_reducible apply once_pan | with_reducible apply thenW_normal | with_reducible apply thenW_ret | with_reducible apply thenW_exit | with_reducible apply thenW_pan | with_reducible apply outOf_normal | with_reducible apply outOf_eq | (refine outOf_ne (by kernel_rfl) ?_) | with_reducible apply outOf_ret | with_reducible apply outOf_pan | with_reducible apply again_exit | with_reducible apply again_ret | with_reducible apply again_pan | with_reducible apply W_seq | with_reducible apply W_block | with_reducible apply W_scope | with_reducible apply W_skip | with_reducible apply W_ret | with_reducible apply W_exit | with_reducible apply W_label | ((with_reducible apply W_RW); (focus kernel_rfl)) | ((with_reducible apply W_RR); (focus kernel_rfl); (focus kernel_rfl)) | with_reducible apply RW_some | with_reducible apply RR_cons | ((with_reducible apply RR_some); (refine ⟨by kernel_rfl, ?_⟩)) | ((with_reducible refine RW_gdn (fun hg => ?_) (fun hg => ?_)) <;> first | (cases hg; done) | skip) | ((with_reducible refine RR_gdn (fun hg => ?_) (fun hg => ?_)) <;> first | (cases hg; done) | skip) | ((with_reducible refine RW_gd (fun hg => ?_) (fun hg => ?_)) <;> first | (cases hg; done) | skip) | ((with_reducible refine RR_gd (fun hg => ?_) (fun hg => ?_)) <;> first | (cases hg; done) | skip) | ((with_reducible apply RW_eq); (focus (simp only [callF, callIn, reach, refsL, refs, catMap, depth, sub, sub1, renL, ren, mem, place, fresh, import1, plain, plainT, view, viewed, freeze, CC_byRef, CC_prim, ne_eq, not_false_eq_true, cond_false, List.all_cons, List.all_nil, view, viewed, freeze, catMap, isCell, Ans.c, hb_70, hb_71, wanted, exec1, xAlloc, xCall, xStore, xExtract, cellsOf, operand, opds, get, putT, ret, retO, lit, lit1, patch, put1, load, loadCells, cut, addOff, mkAgg, trees, nth, storeAt, upd, splice, isCell, CC_P, int_add, int_lss, not_bool, Nat.zero_add, Nat.add_zero, List.map_cons, List.map_nil, List.length_cons, List.length_nil, List.take, List.drop, List.all_cons, List.all_nil, List.nil_append, List.append_nil, Bool.not_true, Bool.not_false, Bool.and_self, if_true, Nat.reduceAdd, Nat.reduceLeDiff, Nat.reduceEqDiff, Sl.t, Node.c, and_self, runOps_cons, runOps_nil, gdL_true, *]; exact rfl))) | ((with_reducible apply RR_eq); (focus (simp only [depth, view, viewed, freeze, blt_dec, Nat.reduceLT, List.all_cons, List.all_nil, view, viewed, freeze, isCell, blt_dec, purify, Int.toNat_natCast, decide_true, List.length_map, wanted, exec1, xStore, xIndexAddr, cellsOf, operand, get, putT, ret, retO, patch, put1, load, loadCells, cut, mkAgg, trees, nth, indexAddr, storeAt, upd, splice, isCell, CC_P, Nat.zero_add, List.map_cons, List.map_nil, List.length_cons, List.length_nil, List.take, List.drop, List.all_cons, List.all_nil, List.nil_append, List.append_nil, Bool.and_self, if_true, Nat.reduceAdd, Nat.reduceLeDiff, and_self, runRec_cons, runRec_nil, consR_some, gapless, foot, names, depth, gdR_true, *]; exact rfl))) | ((refine W_cond (by (simp only [operand, get, lit, lit1, *]; exact rfl)) (fun hv => ?_) (fun hv => ?_)) <;> first | (cases hv; done) | skip))
            refine again_normal (i + 1, all.set i ⟨⟨tk, tn, tS⟩, te⟩, ⟨⟨tk, tn, tS⟩, te⟩) (by first | omega | (dsimp only; omega)) ⟨by first | omega | (dsimp only; omega), hfin.1, hfin.2⟩ (by (simp only [loopKeep, firstRegion, keepsOf, tidy, canon, reach, refsL, refs, refsO, catMap, depth, renL, ren, renO, sub, sub1, upto, mem, place, fresh, cond_true, get, nth, List.map, List.zip_cons_cons, List.zip_nil_right, List.take, List.append_nil, List.nil_append, List.cons_append, Bool.and_true, beq_dec, decide_true, decide_false, Nat.reduceEqDiff, setN_eq, List.map_set, Ans.c] <;> exact rfl))
          | false =>
            have hfin := hstep2.h ⟨⟨ok, on, os⟩, oe⟩ (by rw [hnode2.h]; rfl)
            repeat' (first | with_reducible apply once_normal | with_reducible apply once_exit | with_reducible apply once_ret | with_reducible apply once_pan | with_reducible apply thenW_normal | with_reducible apply thenW_ret | with_reducible apply thenW_exit | with_reducible apply thenW_pan | with_reducible apply outOf_normal | with_reducible apply outOf_eq | (refine outOf_ne (by kernel_rfl) ?_) | with_reducible apply outOf_ret | with_reducible apply outOf_pan | with_reducible apply again_exit | with_reducible apply again_ret | with_reducible apply again_pan | with_reducible apply W_seq | with_reducible apply W_block | with_reducible apply W_scope | with_reducible apply W_skip | with_reducible apply W_ret | with_reducible apply W_exit | with_reducible apply W_label | ((with_reducible apply W_RW); (focus kernel_rfl)) | ((with_reducible apply W_RR); (focus kernel_rfl); (focus kernel_rfl)) | with_reducible apply RW_some | with_reducible apply RR_cons | ((with_reducible apply RR_some); (refine ⟨by kernel_rfl, ?_⟩)) | ((with_reducible refine RW_gdn (fun hg => ?_) (fun hg => ?_)) <;> first | (cases hg; done) | skip) | ((with_reducible refine RR_gdn (fun hg => ?_) (fun hg => ?_)) <;> first | (cases hg; done) | skip) | ((with_reducible refine RW_gd (fun hg => ?_) (fun hg => ?_)) <;> first | (cases hg; done) | skip) | ((with_reducible refine RR_gd (fun hg => ?_) (fun hg => ?_)) <;> first | (cases hg; done) | skip) | ((with_reducible apply RW_eq); (focus (simp only [callF, callIn, reach, refsL, refs, catMap, depth, sub, sub1, renL, ren, mem, place, fresh, import1, plain, plainT, view, viewed, freeze, CC_byRef, CC_prim, ne_eq, not_false_eq_true, cond_false, List.all_cons, List.all_nil, view, viewed, freeze, catMap, isCell, Ans.c, hb_70, hb_71, hb_72, wanted, exec1, xAlloc, xCall, xStore, xExtract, cellsOf, operand, opds, get, putT, ret, retO, lit, lit1, patch, put1, load, loadCells, cut, addOff, mkAgg, trees, nth, storeAt, upd, splice, isCell, CC_P, int_add, int_lss, not_bool, Nat.zero_add, Nat.add_zero, List.map_cons, List.map_nil, List.length_cons, List.length_nil, List.take, List.drop, List.all_cons, List.all_nil, List.nil_append, List.append_nil, Bool.not_false, Bool.and_self, if_true, Nat.reduceAdd, Nat.reduceLeDiff, Nat.reduceEqDiff, Sl.t, Node.c, and_self, runOps_cons, runOps_nil, gdL_true, *]; exact rfl))) | ((with_reducible apply RR_eq); (focus (simp only [depth, view, viewed, freeze, blt_dec, Nat.reduceLT, List.all_cons, List.all_nil, view, viewed, freeze, isCell, blt_dec, purify, Int.toNat_natCast, decide_true, List.length_map, wanted, exec1, xStore, xIndexAddr, cellsOf, operand, get, putT, ret, retO, patch, put1, load, loadCells, cut, mkAgg, trees, nth, indexAddr, storeAt, upd, splice, isCell, CC_P, Nat.zero_add, List.map_cons, List.map_nil, List.length_cons, List.length_nil, List.take, List.drop, List.all_cons, List.all_nil, List.nil_append, List.append_nil, Bool.and_self, if_true, Nat.reduceAdd, Nat.reduceLeDiff, and_self, runRec_cons, runRec_nil, consR_some, gapless, foot, names, depth, gdR_true, *]; exact rfl))) | ((refine W_cond (by (simp only [operand, get, lit, lit1, *]; exact rfl)) (fun hv => ?_) (fun hv => ?_)) <;> first | (cases hv; done) | skip))
            refine again_normal (i + 1, all.set i ⟨⟨ok, on, os⟩, oe⟩, ⟨⟨ok, on, os⟩, oe⟩) (by first | omega | (dsimp only; omega)) ⟨by first | omega | (dsimp only; omega), hfin.1, hfin.2⟩ (by (simp only [loopKeep, firstRegion, keepsOf, tidy, canon, reach, refsL, refs, refsO, catMap, depth, renL, ren, renO, sub, sub1, upto, mem, place, fresh, cond_true, get, nth, List.map, List.zip_cons_cons, List.zip_nil_right, List.take, List.append_nil, List.nil_append, List.cons_append, Bool.and_true, beq_dec, decide_true, decide_false, Nat.reduceEqDiff, setN_eq, List.map_set, Ans.c] <;> exact rfl))
  · have hd : decide ((i : Int) < T.l.length) = false := by simpa using hi'
    have hil : i = T.l.length := by omega
    have hE : EvalA (T.l.map Node.s) self vars = last := by unfold EvalA; rw [List.length_map, ← hil]; exact hlast.symm
    rw [hE]
    clear hall hlast hev hE hil
    obtain ⟨⟨lk, ln, ls⟩, le⟩ := last
    (have x0_ := @Ans.c.eq_1; (repeat' (first | with_reducible apply fol | with_reducible refine aRW ?_ | with_reducible refine aRR ?_ | with_reducible refine aRs ?_ | ((with_reducible first | apply RW_gdn | apply RR_gdn | apply RW_gd | apply RR_gd) <;> intro hg <;> first | (cases hg; done) | skip) | with_reducible refine aE1 ?_ | with_reducible refine aE2 ?_ | with_reducible refine aOn ?_ | ((with_reducible refine aCd ?_ ?_) <;> intro hv <;> first | (cases hv; done) | skip) | fail)); all_goals clear x0_)
    ((with_reducible apply Ends'_ret); (focus (simp only [CC_P, results, resultsOf, resultOf, get, load, loadCells, nth, cut, mkAgg, trees, res_52, List.length_cons, List.length_nil, List.take, List.drop, Nat.zero_add, Nat.reduceAdd, Nat.reduceLeDiff, if_true, *]; exact rfl)); (focus (first | exact finish_tree' _ _ _ _ | exact finish_tup2 _ _ _ _ _ | exact finish_tup3 _ _ _ _ _ _ | kernel_rfl)))
    · rfl
    · rfl

end Go.Ab
/- Layers 10, 11: Passes; the tests' signs and parts; truth, both, not. -/
namespace Go.Ab
open Go.Proofs
set_option maxRecDepth 100000
set_option maxHeartbeats 4000000
set_option linter.unusedSimpArgs false
set_option linter.unusedVariables false

/-- Does a value pass? -/
def PassV (a : Ans) : Bool := (a.e == 0) && ((a.v.k == 4) && (a.v.n == 1))
theorem passes_ok (a : Ans) : Om CC 27 [.t (.agg [.int .u8 a.v.k, .int .i64 a.v.n, .str a.v.s]), .t (.int .i64 a.e)] [] = some (.val (.t (.bool (PassV a))), []) := by
  refine call_eq fun_27 rfl ?_
  (have F_ : _ ∧ _ ∧ _ ∧ _ ∧ _ ∧ _ ∧ _ ∧ _ ∧ _ ∧ _ ∧ _ ∧ _ ∧ _ ∧ _ ∧ _ ∧ _ ∧ _ ∧ _ ∧ _ ∧ _ ∧ _ ∧ _ ∧ _ ∧ _ ∧ _ ∧ _ ∧ _ ∧ _ ∧ _ ∧ _ ∧ _ ∧ _ ∧ _ ∧ _ ∧ _ ∧ _ ∧ _ ∧ _ := ⟨und_2, size_2, agg_2, zero_2, zel_2, small_2, und_5, size_5, agg_5, zero_5, zel_5, small_5, und_9, size_9, agg_9, zero_9, zel_9, small_9, noInt_9, fa_45_0, fd_45_0, fa_45_1, fd_45_1, fa_45_2, fd_45_2, bld_45, size_45, agg_45, zero_45, zel_45, small_45, noInt_45, und_80, size_80, agg_80, zero_80, zel_80, small_80⟩; show W CC 0 17 (keepsOf 27) _ ⟨[(0, _), (1, _)], []⟩ _)
  unfold PassV
  cases h1 : a.e == 0 <;> cases h2 : a.v.k == 4 <;> cases h3 : a.v.n == 1
  all_goals ((repeat' (first | with_reducible apply fol | with_reducible refine aRW ?_ | with_reducible refine aRR ?_ | with_reducible refine aRs ?_ | ((with_reducible first | apply RW_gdn | apply RR_gdn | apply RW_gd | apply RR_gd) <;> intro hg <;> first | (cases hg; done) | skip) | with_reducible refine aE1 ?_ | with_reducible refine aE2 ?_ | with_reducible refine aOn ?_ | ((with_reducible refine aCd ?_ ?_) <;> intro hv <;> first | (cases hv; done) | skip) | fail)))
  all_goals (((with_reducible apply Ends'_ret); (focus (simp only [CC_P, results, resultsOf, resultOf, get, res_27, *]; exact rfl)); (focus (first | exact finish_tree' _ _ _ _ | exact finish_tup2 _ _ _ _ _ | exact finish_tup3 _ _ _ _ _ _ | kernel_rfl))))
  all_goals rfl

theorem truthU_run (a : Ans) : ∃ x : Ans, Om CC 74 [.t (.agg [.int .u8 a.v.k, .int .i64 a.v.n, .str a.v.s, .int .i64 a.e])] [] = some (.val (.t (.agg [.int .u8 x.v.k, .int .i64 x.v.n, .str x.v.s, .int .i64 x.e])), []) ∧ (AOK a → AOK x) := by
  refine call_ex (F := fun x : Ans => .t (.agg [.int .u8 x.v.k, .int .i64 x.v.n, .str x.v.s, .int .i64 x.e])) fun_74 rfl ?_
  (have F_ : _ ∧ _ ∧ _ ∧ _ ∧ _ ∧ _ ∧ _ ∧ _ ∧ _ ∧ _ ∧ _ ∧ _ ∧ _ ∧ _ ∧ _ ∧ _ ∧ _ ∧ _ ∧ _ ∧ _ ∧ _ ∧ _ ∧ _ ∧ _ ∧ _ ∧ _ ∧ _ ∧ _ ∧ _ ∧ _ ∧ _ ∧ _ ∧ _ ∧ _ ∧ _ ∧ _ ∧ _ ∧ _ ∧ _ ∧ _ ∧ _ ∧ _ ∧ _ ∧ _ ∧ _ ∧ _ ∧ _ ∧ _ ∧ _ := ⟨und_2, size_2, agg_2, zero_2, zel_2, small_2, und_5, size_5, agg_5, zero_5, zel_5, small_5, und_9, size_9, agg_9, zero_9, zel_9, small_9, noInt_9, fa_45_0, fd_45_0, fa_45_1, fd_45_1, fa_45_2, fd_45_2, bld_45, size_45, agg_45, zero_45, zel_45, small_45, noInt_45, und_80, size_80, agg_80, zero_80, zel_80, small_80, fa_111_0, fd_111_0, fa_111_1, fd_111_1, bld_111, size_111, agg_111, zero_111, zel_111, small_111, noInt_111⟩; show W CC 0 20 (keepsOf 74) _ ⟨[(0, _)], []⟩ _)
  obtain ⟨⟨k, n, s⟩, e⟩ := a
  ((repeat' (first | with_reducible apply fol | with_reducible refine aRW ?_ | with_reducible refine aRR ?_ | with_reducible refine aRs ?_ | ((with_reducible first | apply RW_gdn | apply RR_gdn | apply RW_gd | apply RR_gd) <;> intro hg <;> first | (cases hg; done) | skip) | with_reducible refine aE1 ?_ | with_reducible refine aE2 ?_ | with_reducible refine aOn ?_ | ((with_reducible refine aCd ?_ ?_) <;> intro hv <;> first | (cases hv; done) | skip) | fail)))
  all_goals (((with_reducible apply ends_ret); (focus (simp only [CC_P, results, resultsOf, resultOf, get, load, loadCells, nth, cut, mkAgg, trees, res_74, List.length_cons, List.length_nil, List.take, List.drop, Nat.zero_add, Nat.reduceAdd, Nat.reduceLeDiff, if_true, *]; exact rfl)); (focus (first | exact finish_tree' _ _ _ _ | exact finish_tup2 _ _ _ _ _ | exact finish_tup3 _ _ _ _ _ _))))
  all_goals first | exact ⟨⟨⟨k, n, s⟩, e⟩, ⟨rfl, rfl⟩, fun h => h⟩ | exact ⟨⟨Zero, 8⟩, ⟨rfl, rfl⟩, fun _ => VOK_0⟩
noncomputable def TruthU (a : Ans) : Ans := (truthU_run a).choose
theorem truthU_ok (k n : Int) (s : List Nat) (e : Int) : Om CC 74 [.t (.agg [.int .u8 k, .int .i64 n, .str s, .int .i64 e])] [] = some (.val (.t (.agg [.int .u8 (TruthU ⟨⟨k, n, s⟩, e⟩).v.k, .int .i64 (TruthU ⟨⟨k, n, s⟩, e⟩).v.n, .str (TruthU ⟨⟨k, n, s⟩, e⟩).v.s, .int .i64 (TruthU ⟨⟨k, n, s⟩, e⟩).e])), []) := (truthU_run ⟨⟨k, n, s⟩, e⟩).choose_spec.1
theorem truthU_p (a : Ans) : AOK a → AOK (TruthU a) := (truthU_run a).choose_spec.2

theorem notU_run (a : Ans) : ∃ x : Ans, Om CC 56 [.t (.agg [.int .u8 a.v.k, .int .i64 a.v.n, .str a.v.s, .int .i64 a.e])] [] = some (.val (.t (.agg [.int .u8 x.v.k, .int .i64 x.v.n, .str x.v.s, .int .i64 x.e])), []) ∧ (AOK a → AOK x) := by
  refine call_ex (F := fun x : Ans => .t (.agg [.int .u8 x.v.k, .int .i64 x.v.n, .str x.v.s, .int .i64 x.e])) fun_56 rfl ?_
  (have F_ : _ ∧ _ ∧ _ ∧ _ ∧ _ ∧ _ ∧ _ ∧ _ ∧ _ ∧ _ ∧ _ ∧ _ ∧ _ ∧ _ ∧ _ ∧ _ ∧ _ ∧ _ ∧ _ ∧ _ ∧ _ ∧ _ ∧ _ ∧ _ ∧ _ ∧ _ ∧ _ ∧ _ ∧ _ ∧ _ ∧ _ ∧ _ ∧ _ ∧ _ ∧ _ ∧ _ ∧ _ ∧ _ ∧ _ ∧ _ ∧ _ ∧ _ ∧ _ ∧ _ ∧ _ ∧ _ ∧ _ ∧ _ ∧ _ := ⟨und_2, size_2, agg_2, zero_2, zel_2, small_2, und_5, size_5, agg_5, zero_5, zel_5, small_5, und_9, size_9, agg_9, zero_9, zel_9, small_9, noInt_9, fa_45_0, fd_45_0, fa_45_1, fd_45_1, fa_45_2, fd_45_2, bld_45, size_45, agg_45, zero_45, zel_45, small_45, noInt_45, und_80, size_80, agg_80, zero_80, zel_80, small_80, fa_111_0, fd_111_0, fa_111_1, fd_111_1, bld_111, size_111, agg_111, zero_111, zel_111, small_111, noInt_111⟩; show W CC 0 13 (keepsOf 56) _ ⟨[(0, _)], []⟩ _)
  obtain ⟨⟨k, n, s⟩, e⟩ := a
  have ht := truthU_ok k n s e
  have hp := truthU_p ⟨⟨k, n, s⟩, e⟩
  have pn := notV_p (TruthU ⟨⟨k, n, s⟩, e⟩).v
  generalize TruthU ⟨⟨k, n, s⟩, e⟩ = t at ht hp pn
  have hp2 : Hid _ := ⟨hp⟩
  have pn2 : Hid _ := ⟨pn⟩
  clear hp pn
  (have x0_ := @notV_ok; have x1_ := @hb_74; have x2_ := @hb_76; (repeat' (first | with_reducible apply fol | with_reducible refine aRW ?_ | with_reducible refine aRR ?_ | with_reducible refine aRs ?_ | ((with_reducible first | apply RW_gdn | apply RR_gdn | apply RW_gd | apply RR_gd) <;> intro hg <;> first | (cases hg; done) | skip) | with_reducible refine aE1 ?_ | with_reducible refine aE2 ?_ | with_reducible refine aOn ?_ | ((with_reducible refine aCd ?_ ?_) <;> intro hv <;> first | (cases hv; done) | skip) | fail)); all_goals clear x0_ x1_ x2_)
  all_goals (((with_reducible apply ends_ret); (focus (simp only [CC_P, results, resultsOf, resultOf, get, load, loadCells, nth, cut, mkAgg, trees, res_56, List.length_cons, List.length_nil, List.take, List.drop, Nat.zero_add, Nat.reduceAdd, Nat.reduceLeDiff, if_true, *]; exact rfl)); (focus (first | exact finish_tree' _ _ _ _ | exact finish_tup2 _ _ _ _ _ | exact finish_tup3 _ _ _ _ _ _))))
  all_goals first | exact ⟨t, ⟨rfl, rfl⟩, hp2.h⟩ | exact ⟨⟨NotV t.v, t.e⟩, ⟨rfl, rfl⟩, fun _ => pn2.h⟩ | exact ⟨⟨NotV t.v, 0⟩, ⟨rfl, rfl⟩, fun _ => pn2.h⟩
noncomputable def NotU (a : Ans) : Ans := (notU_run a).choose
theorem notU_ok (k n : Int) (s : List Nat) (e : Int) : Om CC 56 [.t (.agg [.int .u8 k, .int .i64 n, .str s, .int .i64 e])] [] = some (.val (.t (.agg [.int .u8 (NotU ⟨⟨k, n, s⟩, e⟩).v.k, .int .i64 (NotU ⟨⟨k, n, s⟩, e⟩).v.n, .str (NotU ⟨⟨k, n, s⟩, e⟩).v.s, .int .i64 (NotU ⟨⟨k, n, s⟩, e⟩).e])), []) := (notU_run ⟨⟨k, n, s⟩, e⟩).choose_spec.1
theorem notU_p (a : Ans) : AOK a → AOK (NotU a) := (notU_run a).choose_spec.2

theorem bothU_run (f : Nat) (hb : hasBody Tryz.prog f = true) (hbp : f ≠ 101) (F : Val → Val → Val) (hF : ∀ a b, VOK a → VOK b → Om CC f [.t (.sl false false [[.int .u8 a.k, .int .i64 a.n, .str a.s], [.int .u8 b.k, .int .i64 b.n, .str b.s]])] [] = some (.val (.t (.agg [.int .u8 (F a b).k, .int .i64 (F a b).n, .str (F a b).s])), []))
    (hFp : ∀ a b, VOK a → VOK b → VOK (F a b)) (a b : Ans) (ends : Bool) (ha : AOK a) (hb' : AOK b) :
    ∃ x : Ans, Om CC 54 [.t (.agg [.int .u8 a.v.k, .int .i64 a.v.n, .str a.v.s, .int .i64 a.e]), .t (.agg [.int .u8 b.v.k, .int .i64 b.v.n, .str b.v.s, .int .i64 b.e]), .t (.bool ends), .t (.fn f)] [] = some (.val (.t (.agg [.int .u8 x.v.k, .int .i64 x.v.n, .str x.v.s, .int .i64 x.e])), []) ∧ AOK x := by
  refine call_ex (F := fun x : Ans => .t (.agg [.int .u8 x.v.k, .int .i64 x.v.n, .str x.v.s, .int .i64 x.e])) fun_54 rfl ?_
  (have F_ : _ ∧ _ ∧ _ ∧ _ ∧ _ ∧ _ ∧ _ ∧ _ ∧ _ ∧ _ ∧ _ ∧ _ ∧ _ ∧ _ ∧ _ ∧ _ ∧ _ ∧ _ ∧ _ ∧ _ ∧ _ ∧ _ ∧ _ ∧ _ ∧ _ ∧ _ ∧ _ ∧ _ ∧ _ ∧ _ ∧ _ ∧ _ ∧ _ ∧ _ ∧ _ ∧ _ ∧ _ ∧ _ ∧ _ ∧ _ ∧ _ ∧ _ ∧ _ ∧ _ ∧ _ ∧ _ ∧ _ ∧ _ ∧ _ ∧ _ ∧ _ ∧ _ ∧ _ ∧ _ ∧ _ ∧ _ ∧ _ ∧ _ ∧ _ ∧ _ ∧ _ ∧ _ ∧ _ ∧ _ ∧ _ ∧ _ ∧ _ ∧ _ ∧ _ := ⟨und_2, size_2, agg_2, zero_2, zel_2, small_2, und_4, size_4, agg_4, zero_4, zel_4, small_4, noInt_4, und_5, size_5, agg_5, zero_5, zel_5, small_5, und_9, size_9, agg_9, zero_9, zel_9, small_9, noInt_9, und_28, size_28, agg_28, zero_28, zel_28, small_28, noInt_28, fa_45_0, fd_45_0, fa_45_1, fd_45_1, fa_45_2, fd_45_2, bld_45, size_45, agg_45, zero_45, zel_45, small_45, noInt_45, und_80, size_80, agg_80, zero_80, zel_80, small_80, fa_111_0, fd_111_0, fa_111_1, fd_111_1, bld_111, size_111, agg_111, zero_111, zel_111, small_111, noInt_111, size_138, agg_138, zero_138, zel_138, small_138, noInt_138⟩; show W CC 0 38 (keepsOf 54) _ ⟨[(0, _), (1, _), (2, _), (3, _)], []⟩ _)
  obtain ⟨⟨k, n, s⟩, e⟩ := a
  obtain ⟨⟨k', n', s'⟩, e'⟩ := b
  have ht := truthU_ok k n s e
  have ht' := truthU_ok k' n' s' e'
  have hp := truthU_p ⟨⟨k, n, s⟩, e⟩ ha
  have hp' := truthU_p ⟨⟨k', n', s'⟩, e'⟩ hb'
  generalize TruthU ⟨⟨k, n, s⟩, e⟩ = t at ht hp
  generalize TruthU ⟨⟨k', n', s'⟩, e'⟩ = u at ht' hp'
  have hf := hF t.v u.v hp hp'
  have hfp := hFp t.v u.v hp hp'
  clear hF hFp ha hb'
  obtain ⟨⟨tk, tn, ts⟩, te⟩ := t
  obtain ⟨⟨uk, un, us⟩, ue⟩ := u
  (have x0_ := @truthV_ok; have x1_ := @val_eql'; have x2_ := @hb_74; have x3_ := @hb_75; (repeat' (first | with_reducible apply fol | with_reducible refine aRW ?_ | with_reducible refine aRR ?_ | with_reducible refine aRs ?_ | ((with_reducible first | apply RW_gdn | apply RR_gdn | apply RW_gd | apply RR_gd) <;> intro hg <;> first | (cases hg; done) | skip) | with_reducible refine aE1 ?_ | with_reducible refine aE2 ?_ | with_reducible refine aOn ?_ | ((with_reducible refine aCd ?_ ?_) <;> intro hv <;> first | (cases hv; done) | skip) | fail)); all_goals clear x0_ x1_ x2_ x3_)
  all_goals (((with_reducible apply ends_ret); (focus (simp only [CC_P, results, resultsOf, resultOf, get, load, loadCells, nth, cut, mkAgg, trees, res_54, List.length_cons, List.length_nil, List.take, List.drop, Nat.zero_add, Nat.reduceAdd, Nat.reduceLeDiff, if_true, *]; exact rfl)); (focus (first | exact finish_tree' _ _ _ _ | exact finish_tup2 _ _ _ _ _ | exact finish_tup3 _ _ _ _ _ _))))
  all_goals first | exact ⟨⟨⟨tk, tn, ts⟩, te⟩, ⟨rfl, rfl⟩, hp⟩ | exact ⟨⟨⟨uk, un, us⟩, ue⟩, ⟨rfl, rfl⟩, hp'⟩ | exact ⟨⟨F ⟨tk, tn, ts⟩ ⟨uk, un, us⟩, 0⟩, ⟨rfl, rfl⟩, hfp⟩
open Classical in
noncomputable def BothAll (a b : Ans) : Ans := if h : AOK a ∧ AOK b then (bothU_run 55 hb_55 (by decide) All2 all2_ok all2_p a b false h.1 h.2).choose else AZero
theorem bothAll_ok (a b : Ans) (ha : AOK a) (hb : AOK b) : Om CC 54 [.t (.agg [.int .u8 a.v.k, .int .i64 a.v.n, .str a.v.s, .int .i64 a.e]), .t (.agg [.int .u8 b.v.k, .int .i64 b.v.n, .str b.v.s, .int .i64 b.e]), .t (.bool false), .t (.fn 55)] [] = some (.val (.t (.agg [.int .u8 (BothAll a b).v.k, .int .i64 (BothAll a b).v.n, .str (BothAll a b).v.s, .int .i64 (BothAll a b).e])), []) := by
  unfold BothAll; rw [dif_pos ⟨ha, hb⟩]; exact (bothU_run 55 hb_55 (by decide) All2 all2_ok all2_p a b false ha hb).choose_spec.1
theorem bothAll_p (a b : Ans) : AOK (BothAll a b) := by
  unfold BothAll; split
  · rename_i h; exact (bothU_run 55 hb_55 (by decide) All2 all2_ok all2_p a b false h.1 h.2).choose_spec.2
  · exact VOK_0
open Classical in
noncomputable def BothAny (a b : Ans) : Ans := if h : AOK a ∧ AOK b then (bothU_run 57 hb_57 (by decide) Any2 any2_ok any2_p a b true h.1 h.2).choose else AZero
theorem bothAny_ok (a b : Ans) (ha : AOK a) (hb : AOK b) : Om CC 54 [.t (.agg [.int .u8 a.v.k, .int .i64 a.v.n, .str a.v.s, .int .i64 a.e]), .t (.agg [.int .u8 b.v.k, .int .i64 b.v.n, .str b.v.s, .int .i64 b.e]), .t (.bool true), .t (.fn 57)] [] = some (.val (.t (.agg [.int .u8 (BothAny a b).v.k, .int .i64 (BothAny a b).v.n, .str (BothAny a b).v.s, .int .i64 (BothAny a b).e])), []) := by
  unfold BothAny; rw [dif_pos ⟨ha, hb⟩]; exact (bothU_run 57 hb_57 (by decide) Any2 any2_ok any2_p a b true ha hb).choose_spec.1
theorem bothAny_p (a b : Ans) : AOK (BothAny a b) := by
  unfold BothAny; split
  · rename_i h; exact (bothU_run 57 hb_57 (by decide) Any2 any2_ok any2_p a b true h.1 h.2).choose_spec.2
  · exact VOK_0

end Go.Ab
/- Layer 11 (unary): the signs, a test's parts; a comparison with self as an expression. -/
namespace Go.Ab
open Go.Proofs
set_option maxRecDepth 100000
set_option maxHeartbeats 4000000
set_option linter.unusedSimpArgs false
set_option linter.unusedVariables false

theorem cloneN_nil (cl : Bool) (es : List (List Tree)) : Om CC 73 [.t (.sl true cl es)] [] = some (.val (.t (.sl true true [])), []) := by
  refine call_eq fun_73 rfl ?_
  (have F_ : _ ∧ _ ∧ _ ∧ _ ∧ _ ∧ _ ∧ _ ∧ _ ∧ _ ∧ _ ∧ _ ∧ _ ∧ _ ∧ _ ∧ _ ∧ _ ∧ _ ∧ _ ∧ _ ∧ _ ∧ _ ∧ _ ∧ _ ∧ _ ∧ _ ∧ _ ∧ _ ∧ _ ∧ _ ∧ _ ∧ _ ∧ _ ∧ _ ∧ _ ∧ _ ∧ _ ∧ _ ∧ _ ∧ _ ∧ _ ∧ _ ∧ _ ∧ _ ∧ _ ∧ _ ∧ _ ∧ _ ∧ _ ∧ _ ∧ _ ∧ _ ∧ _ ∧ _ ∧ _ ∧ _ ∧ _ ∧ _ ∧ _ ∧ _ ∧ _ ∧ _ ∧ _ ∧ _ ∧ _ ∧ _ ∧ _ ∧ _ ∧ _ ∧ _ ∧ _ ∧ _ ∧ _ ∧ _ ∧ _ ∧ _ ∧ _ ∧ _ ∧ _ ∧ _ ∧ _ := ⟨und_2, size_2, agg_2, zero_2, zel_2, small_2, und_3, size_3, agg_3, zero_3, zel_3, small_3, und_5, size_5, agg_5, zero_5, zel_5, small_5, und_9, size_9, agg_9, zero_9, zel_9, small_9, noInt_9, fa_25_0, fd_25_0, fa_25_1, fd_25_1, bld_25, size_25, agg_25, zero_25, zel_25, small_25, noInt_25, fa_45_0, fd_45_0, fa_45_1, fd_45_1, fa_45_2, fd_45_2, bld_45, size_45, agg_45, zero_45, zel_45, small_45, noInt_45, und_70, size_70, agg_70, zero_70, zel_70, small_70, noInt_70, und_71, size_71, agg_71, zero_71, zel_71, small_71, noInt_71, fa_75_0, fd_75_0, fa_75_1, fd_75_1, fa_75_2, fd_75_2, fa_75_3, fd_75_3, fa_75_4, fd_75_4, bld_75, size_75, agg_75, zero_75, zel_75, small_75, noInt_75⟩; show W CC 0 8 (keepsOf 73) _ ⟨[(0, _)], []⟩ _)
  repeat (first | with_reducible apply once_normal | with_reducible apply once_exit | with_reducible apply once_ret | with_reducible apply once_pan | with_reducible apply thenW_normal | with_reducible apply thenW_ret | with_reducible apply thenW_exit | with_reducible apply thenW_pan | with_reducible apply outOf_normal | with_reducible apply outOf_eq | (refine outOf_ne (by kernel_rfl) ?_) | with_reducible apply outOf_ret | with_reducible apply outOf_pan | with_reducible apply again_exit | with_reducible apply again_ret | with_reducible apply again_pan | with_reducible apply W_seq | with_reducible apply W_block | with_reducible apply W_scope | with_reducible apply W_skip | with_reducible apply W_ret | with_reducible apply W_exit | with_reducible apply W_label | ((with_reducible apply W_run); (focus kernel_rfl); (focus (simp only [runOps, wanted, exec1, operand, get, putT, ret, retO, lit, lit1, patch, CC_P, Nat.beq, Bool.and_self, nilEq, kindT, kindOf, binop, und_70]; exact rfl))))
  refine W_cond (v := true) (by (simp only [operand, get])) (fun hv => ?_) (fun hv => ?_)
  · repeat (first | with_reducible apply once_normal | with_reducible apply once_exit | with_reducible apply once_ret | with_reducible apply once_pan | with_reducible apply thenW_normal | with_reducible apply thenW_ret | with_reducible apply thenW_exit | with_reducible apply thenW_pan | with_reducible apply outOf_normal | with_reducible apply outOf_eq | (refine outOf_ne (by kernel_rfl) ?_) | with_reducible apply outOf_ret | with_reducible apply outOf_pan | with_reducible apply again_exit | with_reducible apply again_ret | with_reducible apply again_pan | with_reducible apply W_seq | with_reducible apply W_block | with_reducible apply W_scope | with_reducible apply W_skip | with_reducible apply W_ret | with_reducible apply W_exit | with_reducible apply W_label | ((with_reducible apply W_run); (focus kernel_rfl); (focus (simp only [runOps, wanted, exec1, operand, putT, ret, lit, lit1, patch]; exact rfl))))
    exact ⟨.t (.sl true true []), by kernel_rfl, by kernel_rfl⟩
  · cases hv

theorem cloneN_ok (cl : Bool) (l : List Node) (hl : l.length < 4294967296) : Om CC 73 [.t (.sl false cl (l.map Node.c))] [] = some (.val (.hs 0 0), [.arr 8 0 false (l.map Node.c)]) := by
  refine call_eq fun_73 rfl ?_
  (have F_ : _ ∧ _ ∧ _ ∧ _ ∧ _ ∧ _ ∧ _ ∧ _ ∧ _ ∧ _ ∧ _ ∧ _ ∧ _ ∧ _ ∧ _ ∧ _ ∧ _ ∧ _ ∧ _ ∧ _ ∧ _ ∧ _ ∧ _ ∧ _ ∧ _ ∧ _ ∧ _ ∧ _ ∧ _ ∧ _ ∧ _ ∧ _ ∧ _ ∧ _ ∧ _ ∧ _ ∧ _ ∧ _ ∧ _ ∧ _ ∧ _ ∧ _ ∧ _ ∧ _ ∧ _ ∧ _ ∧ _ ∧ _ ∧ _ ∧ _ ∧ _ ∧ _ ∧ _ ∧ _ ∧ _ ∧ _ ∧ _ ∧ _ ∧ _ ∧ _ ∧ _ ∧ _ ∧ _ ∧ _ ∧ _ ∧ _ ∧ _ ∧ _ ∧ _ ∧ _ ∧ _ ∧ _ ∧ _ ∧ _ ∧ _ ∧ _ ∧ _ ∧ _ ∧ _ ∧ _ := ⟨und_2, size_2, agg_2, zero_2, zel_2, small_2, und_3, size_3, agg_3, zero_3, zel_3, small_3, und_5, size_5, agg_5, zero_5, zel_5, small_5, und_9, size_9, agg_9, zero_9, zel_9, small_9, noInt_9, fa_25_0, fd_25_0, fa_25_1, fd_25_1, bld_25, size_25, agg_25, zero_25, zel_25, small_25, noInt_25, fa_45_0, fd_45_0, fa_45_1, fd_45_1, fa_45_2, fd_45_2, bld_45, size_45, agg_45, zero_45, zel_45, small_45, noInt_45, und_70, size_70, agg_70, zero_70, zel_70, small_70, noInt_70, und_71, size_71, agg_71, zero_71, zel_71, small_71, noInt_71, fa_75_0, fd_75_0, fa_75_1, fd_75_1, fa_75_2, fd_75_2, fa_75_3, fd_75_3, fa_75_4, fd_75_4, bld_75, size_75, agg_75, zero_75, zel_75, small_75, noInt_75⟩; show W CC 0 8 (keepsOf 73) _ ⟨[(0, _)], []⟩ _)
  repeat (first | with_reducible apply once_normal | with_reducible apply once_exit | with_reducible apply once_ret | with_reducible apply once_pan | with_reducible apply thenW_normal | with_reducible apply thenW_ret | with_reducible apply thenW_exit | with_reducible apply thenW_pan | with_reducible apply outOf_normal | with_reducible apply outOf_eq | (refine outOf_ne (by kernel_rfl) ?_) | with_reducible apply outOf_ret | with_reducible apply outOf_pan | with_reducible apply again_exit | with_reducible apply again_ret | with_reducible apply again_pan | with_reducible apply W_seq | with_reducible apply W_block | with_reducible apply W_scope | with_reducible apply W_skip | with_reducible apply W_ret | with_reducible apply W_exit | with_reducible apply W_label | ((with_reducible apply W_run); (focus kernel_rfl); (focus (simp only [runOps, wanted, exec1, operand, get, putT, ret, retO, lit, lit1, patch, CC_P, Nat.beq, Bool.and_self, nilEq, kindT, kindOf, binop, und_70]; exact rfl))))
  refine W_cond (v := false) (by (simp only [operand, get])) (fun hv => ?_) (fun hv => ?_)
  · cases hv
  · have hle : lens 8 (l.map Node.c) = true := lens_map Node.c 8 (fun a => rfl) l
    repeat (first | with_reducible apply once_normal | with_reducible apply once_exit | with_reducible apply once_ret | with_reducible apply once_pan | with_reducible apply thenW_normal | with_reducible apply thenW_ret | with_reducible apply thenW_exit | with_reducible apply thenW_pan | with_reducible apply outOf_normal | with_reducible apply outOf_eq | (refine outOf_ne (by kernel_rfl) ?_) | with_reducible apply outOf_ret | with_reducible apply outOf_pan | with_reducible apply again_exit | with_reducible apply again_ret | with_reducible apply again_pan | with_reducible apply W_seq | with_reducible apply W_block | with_reducible apply W_scope | with_reducible apply W_skip | with_reducible apply W_ret | with_reducible apply W_exit | with_reducible apply W_label | ((with_reducible apply W_run); (focus kernel_rfl); (focus (simp only [decide_true, List.length_map, runOps, wanted, exec1, xCall, xBuiltin, operand, opds, opdsI, get, putT, ret, patch, put1, nth, CC_P, Nat.zero_add, List.length_cons, List.length_nil, List.nil_append, Bool.and_self, if_false, Nat.reduceAdd, true_and, xBuildSlice, purifyAll, litElems, litElems.go, mkArr, treesL, append, added, elems, hle, hl, List.replicate, List.nil_append, Nat.not_lt_zero, Nat.zero_mul, decide_true, und_70, noInt_70, size_75, zel_75, small_75]; exact rfl))))
    exact ⟨.hs 0 1, by kernel_rfl, by kernel_rfl⟩

/-- What is compared, as nodes. -/
def askedN (op : Int) (l : List Node) : List Node := l ++ [⟨3, Zero, [], ⟨true, true, []⟩, 0, 0⟩, ⟨op, Zero, [], ⟨false, false, [(l.length : Int), (l.length : Int) - 1]⟩, 0, 0⟩]

theorem asked_ok (op : Int) (nl cl : Bool) (l : List Node) (ha : nl = true → l = []) (hl : l.length < 4294967000) :
    Om CC 53 [.t (.int .u8 op), .t (.sl nl cl (l.map Node.c))] [] = some (.val (.t (.sl false false ((askedN op l).map Node.c))), []) := by
  refine call_eq fun_53 rfl ?_
  (have F_ : _ ∧ _ ∧ _ ∧ _ ∧ _ ∧ _ ∧ _ ∧ _ ∧ _ ∧ _ ∧ _ ∧ _ ∧ _ ∧ _ ∧ _ ∧ _ ∧ _ ∧ _ ∧ _ ∧ _ ∧ _ ∧ _ ∧ _ ∧ _ ∧ _ ∧ _ ∧ _ ∧ _ ∧ _ ∧ _ ∧ _ ∧ _ ∧ _ ∧ _ ∧ _ ∧ _ ∧ _ ∧ _ ∧ _ ∧ _ ∧ _ ∧ _ ∧ _ ∧ _ ∧ _ ∧ _ ∧ _ ∧ _ ∧ _ ∧ _ ∧ _ ∧ _ ∧ _ ∧ _ ∧ _ ∧ _ ∧ _ ∧ _ ∧ _ ∧ _ ∧ _ ∧ _ ∧ _ ∧ _ ∧ _ ∧ _ ∧ _ ∧ _ ∧ _ ∧ _ ∧ _ ∧ _ ∧ _ ∧ _ ∧ _ ∧ _ ∧ _ ∧ _ ∧ _ ∧ _ := ⟨und_2, size_2, agg_2, zero_2, zel_2, small_2, und_3, size_3, agg_3, zero_3, zel_3, small_3, und_5, size_5, agg_5, zero_5, zel_5, small_5, und_9, size_9, agg_9, zero_9, zel_9, small_9, noInt_9, fa_25_0, fd_25_0, fa_25_1, fd_25_1, bld_25, size_25, agg_25, zero_25, zel_25, small_25, noInt_25, fa_45_0, fd_45_0, fa_45_1, fd_45_1, fa_45_2, fd_45_2, bld_45, size_45, agg_45, zero_45, zel_45, small_45, noInt_45, und_70, size_70, agg_70, zero_70, zel_70, small_70, noInt_70, und_71, size_71, agg_71, zero_71, zel_71, small_71, noInt_71, fa_75_0, fd_75_0, fa_75_1, fd_75_1, fa_75_2, fd_75_2, fa_75_3, fd_75_3, fa_75_4, fd_75_4, bld_75, size_75, agg_75, zero_75, zel_75, small_75, noInt_75⟩; show W CC 0 23 (keepsOf 53) _ ⟨[(0, _), (1, _)], []⟩ _)
  have hw : IntKind.i64.wrap ((l.length : Int) - 1) = (l.length : Int) - 1 := by rw [wrap64] <;> omega
  have hle : lens 8 (l.map Node.c) = true := lens_map Node.c 8 (fun a => rfl) l
  have hs1 : decide (l.length + 1 < 4294967296) = true := by simp; omega
  have hs2 : decide (l.length + 1 + 1 < 4294967296) = true := by simp; omega
  have hh : headLen 8 (l.map Node.c) = true := by cases l <;> rfl
  cases nl with
  | true =>
    obtain rfl := ha rfl
    have hc := cloneN_nil cl []
    have hw0 : IntKind.i64.wrap (((0 : Nat) : Int) - 1) = ((0 : Nat) : Int) - 1 := by decide
    clear hle hs1 hs2 hh ha hl
    (have x0_ := @hb_73; (repeat' (first | with_reducible apply fol | with_reducible refine aRW ?_ | with_reducible refine aRR ?_ | with_reducible refine aRs ?_ | ((with_reducible first | apply RW_gdn | apply RR_gdn | apply RW_gd | apply RR_gd) <;> intro hg <;> first | (cases hg; done) | skip) | with_reducible refine aE1 ?_ | with_reducible refine aE2 ?_ | with_reducible refine aOn ?_ | ((with_reducible refine aCd ?_ ?_) <;> intro hv <;> first | (cases hv; done) | skip) | fail)); all_goals clear x0_)
    ((with_reducible apply Ends'_ret); (focus (simp only [CC_P, results, resultsOf, resultOf, get, res_53, *]; exact rfl)); (focus (simp only [finish, thaw_53, exports, viewedO, viewed, view, elems, freeze, patch, put1, catMap, canon, reach, refsL, refs, depth, renL, ren, sub, sub1, upto, nth, List.map, List.take, List.length_nil, List.append_nil, if_true] <;> exact rfl)))
    · rfl
    · rfl
  | false =>
    have hc := cloneN_ok cl l (by omega)
    clear ha hl
    (have x0_ := @Nat.sub_self; have x1_ := @List.length_append.{0}; have x2_ := @hb_73; (repeat' (first | with_reducible apply fol | with_reducible refine aRW ?_ | with_reducible refine aRR ?_ | with_reducible refine aRs ?_ | ((with_reducible first | apply RW_gdn | apply RR_gdn | apply RW_gd | apply RR_gd) <;> intro hg <;> first | (cases hg; done) | skip) | with_reducible refine aE1 ?_ | with_reducible refine aE2 ?_ | with_reducible refine aOn ?_ | ((with_reducible refine aCd ?_ ?_) <;> intro hv <;> first | (cases hv; done) | skip) | fail)); all_goals clear x0_ x1_ x2_)
    ((with_reducible apply Ends'_ret); (focus (simp only [CC_P, results, resultsOf, resultOf, get, res_53, *]; exact rfl)); (focus (simp only [finish, thaw_53, exports, viewedO, viewed, view, elems, freeze, patch, put1, catMap, canon, reach, refsL, refs, depth, renL, ren, sub, sub1, upto, nth, List.map, List.take, List.length_nil, List.append_nil, if_true] <;> exact rfl)))
    · simp only [askedN, List.map_append, List.append_assoc]; rfl
    · rfl

end Go.Ab
/- Layer 11 (unary): a test's comparisons. -/
namespace Go.Ab
open Go.Proofs
set_option maxRecDepth 100000
set_option maxHeartbeats 4000000
set_option linter.unusedSimpArgs false
set_option linter.unusedVariables false

theorem signs_ok : Om CC 69 [] [] = some (.val (.t (.agg [.str [61], .int .u8 2, .int .u8 7, .str [60], .int .u8 3, .int .u8 9, .str [60, 61], .int .u8 4, .int .u8 10, .str [62], .int .u8 5, .int .u8 11, .str [62, 61], .int .u8 6, .int .u8 12])), []) :=
  om_of_callN (n := 3) (by kernel_rfl)

theorem sgn0 : index Tryz.prog 151 (.t (.agg [.str [61], .int .u8 2, .int .u8 7, .str [60], .int .u8 3, .int .u8 9, .str [60, 61], .int .u8 4, .int .u8 10, .str [62], .int .u8 5, .int .u8 11, .str [62, 61], .int .u8 6, .int .u8 12])) 0 = some (.t (.agg [.str [61], .int .u8 2, .int .u8 7])) := by kernel_rfl
theorem sgn1 : index Tryz.prog 151 (.t (.agg [.str [61], .int .u8 2, .int .u8 7, .str [60], .int .u8 3, .int .u8 9, .str [60, 61], .int .u8 4, .int .u8 10, .str [62], .int .u8 5, .int .u8 11, .str [62, 61], .int .u8 6, .int .u8 12])) 1 = some (.t (.agg [.str [60], .int .u8 3, .int .u8 9])) := by kernel_rfl
theorem sgn2 : index Tryz.prog 151 (.t (.agg [.str [61], .int .u8 2, .int .u8 7, .str [60], .int .u8 3, .int .u8 9, .str [60, 61], .int .u8 4, .int .u8 10, .str [62], .int .u8 5, .int .u8 11, .str [62, 61], .int .u8 6, .int .u8 12])) 2 = some (.t (.agg [.str [60, 61], .int .u8 4, .int .u8 10])) := by kernel_rfl
theorem sgn3 : index Tryz.prog 151 (.t (.agg [.str [61], .int .u8 2, .int .u8 7, .str [60], .int .u8 3, .int .u8 9, .str [60, 61], .int .u8 4, .int .u8 10, .str [62], .int .u8 5, .int .u8 11, .str [62, 61], .int .u8 6, .int .u8 12])) 3 = some (.t (.agg [.str [62], .int .u8 5, .int .u8 11])) := by kernel_rfl
theorem sgn4 : index Tryz.prog 151 (.t (.agg [.str [61], .int .u8 2, .int .u8 7, .str [60], .int .u8 3, .int .u8 9, .str [60, 61], .int .u8 4, .int .u8 10, .str [62], .int .u8 5, .int .u8 11, .str [62, 61], .int .u8 6, .int .u8 12])) 4 = some (.t (.agg [.str [62, 61], .int .u8 6, .int .u8 12])) := by kernel_rfl

def signOf (op : Int) : Option Int := if op = 2 then some 7 else if op = 3 then some 9 else if op = 4 then some 10 else if op = 5 then some 11 else if op = 6 then some 12 else none
/-- A test's comparisons: ops, and expressions. -/
def partsL (x : Test) : List (Int × Sl Node) :=
  if x.op = 7 then [(if x.low then 11 else 12, x.a), (if x.high then 9 else 10, x.b)] else match signOf x.op with
    | some s => [(s, x.a)]
    | none => []
def opsT (l : List (Int × Sl Node)) : Tree := match l with
  | [] => .sl true true []
  | l => .sl false false (l.map fun p => [.int .u8 p.1])
def exprsT (l : List (Int × Sl Node)) : Tree := match l with
  | [] => .sl true true []
  | l => .sl false false (l.map fun p => [p.2.t Node.c])

theorem parts_ok (x : Test) : Om CC 51 [.t (.agg x.c)] [] = some (.val (.tup [.t (opsT (partsL x)), .t (exprsT (partsL x))]), []) := by
  refine call_eq fun_51 rfl ?_
  (have F_ : _ ∧ _ ∧ _ ∧ _ ∧ _ ∧ _ ∧ _ ∧ _ ∧ _ ∧ _ ∧ _ ∧ _ ∧ _ ∧ _ ∧ _ ∧ _ ∧ _ ∧ _ ∧ _ ∧ _ ∧ _ ∧ _ ∧ _ ∧ _ ∧ _ ∧ _ ∧ _ ∧ _ ∧ _ ∧ _ ∧ _ ∧ _ ∧ _ ∧ _ ∧ _ ∧ _ ∧ _ ∧ _ ∧ _ ∧ _ ∧ _ ∧ _ ∧ _ ∧ _ ∧ _ ∧ _ ∧ _ ∧ _ ∧ _ ∧ _ ∧ _ ∧ _ ∧ _ ∧ _ ∧ _ ∧ _ ∧ _ ∧ _ ∧ _ ∧ _ ∧ _ ∧ _ ∧ _ ∧ _ ∧ _ ∧ _ ∧ _ ∧ _ ∧ _ ∧ _ ∧ _ ∧ _ ∧ _ ∧ _ ∧ _ ∧ _ ∧ _ ∧ _ ∧ _ ∧ _ ∧ _ ∧ _ ∧ _ ∧ _ ∧ _ ∧ _ ∧ _ ∧ _ ∧ _ ∧ _ ∧ _ ∧ _ ∧ _ ∧ _ ∧ _ ∧ _ ∧ _ ∧ _ ∧ _ ∧ _ ∧ _ ∧ _ ∧ _ ∧ _ ∧ _ ∧ _ ∧ _ ∧ _ ∧ _ ∧ _ ∧ _ ∧ _ ∧ _ ∧ _ ∧ _ ∧ _ ∧ _ ∧ _ ∧ _ ∧ _ ∧ _ ∧ _ ∧ _ ∧ _ ∧ _ ∧ _ ∧ _ ∧ _ ∧ _ ∧ _ ∧ _ ∧ _ ∧ _ ∧ _ ∧ _ ∧ _ ∧ _ ∧ _ ∧ _ ∧ _ ∧ _ ∧ _ := ⟨und_2, size_2, agg_2, zero_2, zel_2, small_2, und_3, size_3, agg_3, zero_3, zel_3, small_3, und_4, size_4, agg_4, zero_4, zel_4, small_4, noInt_4, und_5, size_5, agg_5, zero_5, zel_5, small_5, und_9, size_9, agg_9, zero_9, zel_9, small_9, noInt_9, fa_25_0, fd_25_0, fa_25_1, fd_25_1, bld_25, size_25, agg_25, zero_25, zel_25, small_25, noInt_25, fa_45_0, fd_45_0, fa_45_1, fd_45_1, fa_45_2, fd_45_2, bld_45, size_45, agg_45, zero_45, zel_45, small_45, noInt_45, und_70, size_70, agg_70, zero_70, zel_70, small_70, noInt_70, und_71, size_71, agg_71, zero_71, zel_71, small_71, noInt_71, fa_73_0, fd_73_0, fa_73_1, fd_73_1, fa_73_2, fd_73_2, fa_73_3, fd_73_3, fa_73_4, fd_73_4, fa_73_5, fd_73_5, fa_73_6, fd_73_6, bld_73, size_73, agg_73, zero_73, zel_73, small_73, noInt_73, fa_75_0, fd_75_0, fa_75_1, fd_75_1, fa_75_2, fd_75_2, fa_75_3, fd_75_3, fa_75_4, fd_75_4, bld_75, size_75, agg_75, zero_75, zel_75, small_75, noInt_75, und_131, size_131, agg_131, zero_131, zel_131, small_131, noInt_131, und_132, size_132, agg_132, zero_132, zel_132, small_132, noInt_132, fa_150_0, fd_150_0, fa_150_1, fd_150_1, fa_150_2, fd_150_2, bld_150, size_150, agg_150, zero_150, zel_150, small_150, noInt_150, und_151, size_151, agg_151, zero_151, zel_151, small_151, noInt_151⟩; show W CC 0 39 (keepsOf 51) _ ⟨[(0, _)], []⟩ _)
  obtain ⟨op, ⟨anl, acl, al⟩, ⟨bnl, bcl, bl⟩, low, high, kids, line, col⟩ := x
  have hs := signs_ok
  by_cases h7 : op = 7
  · have e7 : (op == 7) = true := by simp [h7]
    cases low <;> cases high
    all_goals (simp only [partsL, h7, if_true, Bool.false_eq_true, if_false, opsT, exprsT, List.map_cons, List.map_nil, Sl.t]; clear h7)
    all_goals ((repeat' (first | with_reducible apply fol | with_reducible refine aRW ?_ | with_reducible refine aRR ?_ | with_reducible refine aRs ?_ | ((with_reducible first | apply RW_gdn | apply RR_gdn | apply RW_gd | apply RR_gd) <;> intro hg <;> first | (cases hg; done) | skip) | with_reducible refine aE1 ?_ | with_reducible refine aE2 ?_ | with_reducible refine aOn ?_ | ((with_reducible refine aCd ?_ ?_) <;> intro hv <;> first | (cases hv; done) | skip) | fail)))
    all_goals (((with_reducible apply Ends'_ret); (focus (simp only [CC_P, results, resultsOf, resultOf, get, res_51, *]; exact rfl)); (focus (simp only [finish, thaw_51, exports, viewedO, viewed, view, elems, freeze, patch, put1, catMap, canon, reach, refsL, refs, depth, renL, ren, sub, sub1, upto, nth, List.map, List.take, List.length_nil, List.append_nil, List.nil_append, List.cons_append, if_true] <;> exact rfl))))
    all_goals rfl
  · have e7 : (op == 7) = false := by simpa using h7
    have w0 : IntKind.i64.wrap (0 + 1) = 1 := by decide
    have w1 : IntKind.i64.wrap (1 + 1) = 2 := by decide
    have w2 : IntKind.i64.wrap (2 + 1) = 3 := by decide
    have w3 : IntKind.i64.wrap (3 + 1) = 4 := by decide
    have w4 : IntKind.i64.wrap (4 + 1) = 5 := by decide
    have d0 : decide ((0 : Int) < 5) = true := by decide
    have d1 : decide ((1 : Int) < 5) = true := by decide
    have d2 : decide ((2 : Int) < 5) = true := by decide
    have d3 : decide ((3 : Int) < 5) = true := by decide
    have d4 : decide ((4 : Int) < 5) = true := by decide
    have d5 : decide ((5 : Int) < 5) = false := by decide
    by_cases h2 : op = 2
    · have e2 : ((2 : Int) == op) = true := by simp [h2]
      have hp : partsL ⟨op, ⟨anl, acl, al⟩, ⟨bnl, bcl, bl⟩, low, high, kids, line, col⟩ = [(7, ⟨anl, acl, al⟩)] := by simp [partsL, signOf, h2]
      rw [hp]
      simp only [opsT, exprsT, List.map_cons, List.map_nil, Sl.t]
      clear hp h7 h2
      (have x0_ := @hb_69; (repeat' (first | with_reducible apply fol | with_reducible refine aRW ?_ | with_reducible refine aRR ?_ | with_reducible refine aRs ?_ | ((with_reducible first | apply RW_gdn | apply RR_gdn | apply RW_gd | apply RR_gd) <;> intro hg <;> first | (cases hg; done) | skip) | with_reducible refine aE1 ?_ | with_reducible refine aE2 ?_ | with_reducible refine aOn ?_ | ((with_reducible refine aCd ?_ ?_) <;> intro hv <;> first | (cases hv; done) | skip) | fail)); all_goals clear x0_)
      ((with_reducible apply W_unroll); (focus (simp only [loopKeep, firstRegion, keepsOf, tidy, canon, reach, refsL, refs, refsO, catMap, depth, renL, ren, renO, sub, sub1, upto, mem, place, fresh, cond_true, get, nth, List.map, List.zip_cons_cons, List.zip_nil_right, List.take, List.append_nil, List.nil_append, beq_dec, decide_true, Nat.zero_add] <;> exact rfl)))
      (have x0_ := @sgn0; have x1_ := @sgn1; have x2_ := @sgn2; have x3_ := @sgn3; have x4_ := @sgn4; (repeat' (first | with_reducible apply fol | with_reducible refine aRW ?_ | with_reducible refine aRR ?_ | with_reducible refine aRs ?_ | ((with_reducible first | apply RW_gdn | apply RR_gdn | apply RW_gd | apply RR_gd) <;> intro hg <;> first | (cases hg; done) | skip) | with_reducible refine aE1 ?_ | with_reducible refine aE2 ?_ | with_reducible refine aOn ?_ | ((with_reducible refine aCd ?_ ?_) <;> intro hv <;> first | (cases hv; done) | skip) | fail)); all_goals clear x0_ x1_ x2_ x3_ x4_)
      ((with_reducible apply Ends'_ret); (focus (simp only [CC_P, results, resultsOf, resultOf, get, res_51, *]; exact rfl)); (focus (simp only [finish, thaw_51, exports, viewedO, viewed, view, elems, freeze, patch, put1, catMap, canon, reach, refsL, refs, depth, renL, ren, sub, sub1, upto, nth, List.map, List.take, List.length_nil, List.append_nil, List.nil_append, List.cons_append, if_true] <;> exact rfl)))
      · rfl
      · rfl
    · have e2 : ((2 : Int) == op) = false := by simp; omega
      by_cases h3 : op = 3
      · have e3 : ((3 : Int) == op) = true := by simp [h3]
        have hp : partsL ⟨op, ⟨anl, acl, al⟩, ⟨bnl, bcl, bl⟩, low, high, kids, line, col⟩ = [(9, ⟨anl, acl, al⟩)] := by simp [partsL, signOf, h3]
        rw [hp]
        simp only [opsT, exprsT, List.map_cons, List.map_nil, Sl.t]
        clear hp h7 h2 h3
        (have x0_ := @hb_69; (repeat' (first | with_reducible apply fol | with_reducible refine aRW ?_ | with_reducible refine aRR ?_ | with_reducible refine aRs ?_ | ((with_reducible first | apply RW_gdn | apply RR_gdn | apply RW_gd | apply RR_gd) <;> intro hg <;> first | (cases hg; done) | skip) | with_reducible refine aE1 ?_ | with_reducible refine aE2 ?_ | with_reducible refine aOn ?_ | ((with_reducible refine aCd ?_ ?_) <;> intro hv <;> first | (cases hv; done) | skip) | fail)); all_goals clear x0_)
        ((with_reducible apply W_unroll); (focus (simp only [loopKeep, firstRegion, keepsOf, tidy, canon, reach, refsL, refs, refsO, catMap, depth, renL, ren, renO, sub, sub1, upto, mem, place, fresh, cond_true, get, nth, List.map, List.zip_cons_cons, List.zip_nil_right, List.take, List.append_nil, List.nil_append, beq_dec, decide_true, Nat.zero_add] <;> exact rfl)))
        (have x0_ := @sgn0; have x1_ := @sgn1; have x2_ := @sgn2; have x3_ := @sgn3; have x4_ := @sgn4; (repeat' (first | with_reducible apply fol | with_reducible refine aRW ?_ | with_reducible refine aRR ?_ | with_reducible refine aRs ?_ | ((with_reducible first | apply RW_gdn | apply RR_gdn | apply RW_gd | apply RR_gd) <;> intro hg <;> first | (cases hg; done) | skip) | with_reducible refine aE1 ?_ | with_reducible refine aE2 ?_ | with_reducible refine aOn ?_ | ((with_reducible refine aCd ?_ ?_) <;> intro hv <;> first | (cases hv; done) | skip) | fail)); all_goals clear x0_ x1_ x2_ x3_ x4_)
        ((with_reducible apply W_unroll); (focus (simp only [loopKeep, firstRegion, keepsOf, tidy, canon, reach, refsL, refs, refsO, catMap, depth, renL, ren, renO, sub, sub1, upto, mem, place, fresh, cond_true, get, nth, List.map, List.zip_cons_cons, List.zip_nil_right, List.take, List.append_nil, List.nil_append, beq_dec, decide_true, Nat.zero_add] <;> exact rfl)))
        (have x0_ := @sgn0; have x1_ := @sgn1; have x2_ := @sgn2; have x3_ := @sgn3; have x4_ := @sgn4; (repeat' (first | with_reducible apply fol | with_reducible refine aRW ?_ | with_reducible refine aRR ?_ | with_reducible refine aRs ?_ | ((with_reducible first | apply RW_gdn | apply RR_gdn | apply RW_gd | apply RR_gd) <;> intro hg <;> first | (cases hg; done) | skip) | with_reducible refine aE1 ?_ | with_reducible refine aE2 ?_ | with_reducible refine aOn ?_ | ((with_reducible refine aCd ?_ ?_) <;> intro hv <;> first | (cases hv; done) | skip) | fail)); all_goals clear x0_ x1_ x2_ x3_ x4_)
        ((with_reducible apply Ends'_ret); (focus (simp only [CC_P, results, resultsOf, resultOf, get, res_51, *]; exact rfl)); (focus (simp only [finish, thaw_51, exports, viewedO, viewed, view, elems, freeze, patch, put1, catMap, canon, reach, refsL, refs, depth, renL, ren, sub, sub1, upto, nth, List.map, List.take, List.length_nil, List.append_nil, List.nil_append, List.cons_append, if_true] <;> exact rfl)))
        · rfl
        · rfl
      · have e3 : ((3 : Int) == op) = false := by simp; omega
        by_cases h4 : op = 4
        · have e4 : ((4 : Int) == op) = true := by simp [h4]
          have hp : partsL ⟨op, ⟨anl, acl, al⟩, ⟨bnl, bcl, bl⟩, low, high, kids, line, col⟩ = [(10, ⟨anl, acl, al⟩)] := by simp [partsL, signOf, h4]
          rw [hp]
          simp only [opsT, exprsT, List.map_cons, List.map_nil, Sl.t]
          clear hp h7 h2 h3 h4
          (have x0_ := @hb_69; (repeat' (first | with_reducible apply fol | with_reducible refine aRW ?_ | with_reducible refine aRR ?_ | with_reducible refine aRs ?_ | ((with_reducible first | apply RW_gdn | apply RR_gdn | apply RW_gd | apply RR_gd) <;> intro hg <;> first | (cases hg; done) | skip) | with_reducible refine aE1 ?_ | with_reducible refine aE2 ?_ | with_reducible refine aOn ?_ | ((with_reducible refine aCd ?_ ?_) <;> intro hv <;> first | (cases hv; done) | skip) | fail)); all_goals clear x0_)
          ((with_reducible apply W_unroll); (focus (simp only [loopKeep, firstRegion, keepsOf, tidy, canon, reach, refsL, refs, refsO, catMap, depth, renL, ren, renO, sub, sub1, upto, mem, place, fresh, cond_true, get, nth, List.map, List.zip_cons_cons, List.zip_nil_right, List.take, List.append_nil, List.nil_append, beq_dec, decide_true, Nat.zero_add] <;> exact rfl)))
          (have x0_ := @sgn0; have x1_ := @sgn1; have x2_ := @sgn2; have x3_ := @sgn3; have x4_ := @sgn4; (repeat' (first | with_reducible apply fol | with_reducible refine aRW ?_ | with_reducible refine aRR ?_ | with_reducible refine aRs ?_ | ((with_reducible first | apply RW_gdn | apply RR_gdn | apply RW_gd | apply RR_gd) <;> intro hg <;> first | (cases hg; done) | skip) | with_reducible refine aE1 ?_ | with_reducible refine aE2 ?_ | with_reducible refine aOn ?_ | ((with_reducible refine aCd ?_ ?_) <;> intro hv <;> first | (cases hv; done) | skip) | fail)); all_goals clear x0_ x1_ x2_ x3_ x4_)
          ((with_reducible apply W_unroll); (focus (simp only [loopKeep, firstRegion, keepsOf, tidy, canon, reach, refsL, refs, refsO, catMap, depth, renL, ren, renO, sub, sub1, upto, mem, place, fresh, cond_true, get, nth, List.map, List.zip_cons_cons, List.zip_nil_right, List.take, List.append_nil, List.nil_append, beq_dec, decide_true, Nat.zero_add] <;> exact rfl)))
          (have x0_ := @sgn0; have x1_ := @sgn1; have x2_ := @sgn2; have x3_ := @sgn3; have x4_ := @sgn4; (repeat' (first | with_reducible apply fol | with_reducible refine aRW ?_ | with_reducible refine aRR ?_ | with_reducible refine aRs ?_ | ((with_reducible first | apply RW_gdn | apply RR_gdn | apply RW_gd | apply RR_gd) <;> intro hg <;> first | (cases hg; done) | skip) | with_reducible refine aE1 ?_ | with_reducible refine aE2 ?_ | with_reducible refine aOn ?_ | ((with_reducible refine aCd ?_ ?_) <;> intro hv <;> first | (cases hv; done) | skip) | fail)); all_goals clear x0_ x1_ x2_ x3_ x4_)
          ((with_reducible apply W_unroll); (focus (simp only [loopKeep, firstRegion, keepsOf, tidy, canon, reach, refsL, refs, refsO, catMap, depth, renL, ren, renO, sub, sub1, upto, mem, place, fresh, cond_true, get, nth, List.map, List.zip_cons_cons, List.zip_nil_right, List.take, List.append_nil, List.nil_append, beq_dec, decide_true, Nat.zero_add] <;> exact rfl)))
          (have x0_ := @sgn0; have x1_ := @sgn1; have x2_ := @sgn2; have x3_ := @sgn3; have x4_ := @sgn4; (repeat' (first | with_reducible apply fol | with_reducible refine aRW ?_ | with_reducible refine aRR ?_ | with_reducible refine aRs ?_ | ((with_reducible first | apply RW_gdn | apply RR_gdn | apply RW_gd | apply RR_gd) <;> intro hg <;> first | (cases hg; done) | skip) | with_reducible refine aE1 ?_ | with_reducible refine aE2 ?_ | with_reducible refine aOn ?_ | ((with_reducible refine aCd ?_ ?_) <;> intro hv <;> first | (cases hv; done) | skip) | fail)); all_goals clear x0_ x1_ x2_ x3_ x4_)
          ((with_reducible apply Ends'_ret); (focus (simp only [CC_P, results, resultsOf, resultOf, get, res_51, *]; exact rfl)); (focus (simp only [finish, thaw_51, exports, viewedO, viewed, view, elems, freeze, patch, put1, catMap, canon, reach, refsL, refs, depth, renL, ren, sub, sub1, upto, nth, List.map, List.take, List.length_nil, List.append_nil, List.nil_append, List.cons_append, if_true] <;> exact rfl)))
          · rfl
          · rfl
        · have e4 : ((4 : Int) == op) = false := by simp; omega
          by_cases h5 : op = 5
          · have e5 : ((5 : Int) == op) = true := by simp [h5]
            have hp : partsL ⟨op, ⟨anl, acl, al⟩, ⟨bnl, bcl, bl⟩, low, high, kids, line, col⟩ = [(11, ⟨anl, acl, al⟩)] := by simp [partsL, signOf, h5]
            rw [hp]
            simp only [opsT, exprsT, List.map_cons, List.map_nil, Sl.t]
            clear hp h7 h2 h3 h4 h5
            (have x0_ := @hb_69; (repeat' (first | with_reducible apply fol | with_reducible refine aRW ?_ | with_reducible refine aRR ?_ | with_reducible refine aRs ?_ | ((with_reducible first | apply RW_gdn | apply RR_gdn | apply RW_gd | apply RR_gd) <;> intro hg <;> first | (cases hg; done) | skip) | with_reducible refine aE1 ?_ | with_reducible refine aE2 ?_ | with_reducible refine aOn ?_ | ((with_reducible refine aCd ?_ ?_) <;> intro hv <;> first | (cases hv; done) | skip) | fail)); all_goals clear x0_)
            ((with_reducible apply W_unroll); (focus (simp only [loopKeep, firstRegion, keepsOf, tidy, canon, reach, refsL, refs, refsO, catMap, depth, renL, ren, renO, sub, sub1, upto, mem, place, fresh, cond_true, get, nth, List.map, List.zip_cons_cons, List.zip_nil_right, List.take, List.append_nil, List.nil_append, beq_dec, decide_true, Nat.zero_add] <;> exact rfl)))
            (have x0_ := @sgn0; have x1_ := @sgn1; have x2_ := @sgn2; have x3_ := @sgn3; have x4_ := @sgn4; (repeat' (first | with_reducible apply fol | with_reducible refine aRW ?_ | with_reducible refine aRR ?_ | with_reducible refine aRs ?_ | ((with_reducible first | apply RW_gdn | apply RR_gdn | apply RW_gd | apply RR_gd) <;> intro hg <;> first | (cases hg; done) | skip) | with_reducible refine aE1 ?_ | with_reducible refine aE2 ?_ | with_reducible refine aOn ?_ | ((with_reducible refine aCd ?_ ?_) <;> intro hv <;> first | (cases hv; done) | skip) | fail)); all_goals clear x0_ x1_ x2_ x3_ x4_)
            ((with_reducible apply W_unroll); (focus (simp only [loopKeep, firstRegion, keepsOf, tidy, canon, reach, refsL, refs, refsO, catMap, depth, renL, ren, renO, sub, sub1, upto, mem, place, fresh, cond_true, get, nth, List.map, List.zip_cons_cons, List.zip_nil_right, List.take, List.append_nil, List.nil_append, beq_dec, decide_true, Nat.zero_add] <;> exact rfl)))
            (have x0_ := @sgn0; have x1_ := @sgn1; have x2_ := @sgn2; have x3_ := @sgn3; have x4_ := @sgn4; (repeat' (first | with_reducible apply fol | with_reducible refine aRW ?_ | with_reducible refine aRR ?_ | with_reducible refine aRs ?_ | ((with_reducible first | apply RW_gdn | apply RR_gdn | apply RW_gd | apply RR_gd) <;> intro hg <;> first | (cases hg; done) | skip) | with_reducible refine aE1 ?_ | with_reducible refine aE2 ?_ | with_reducible refine aOn ?_ | ((with_reducible refine aCd ?_ ?_) <;> intro hv <;> first | (cases hv; done) | skip) | fail)); all_goals clear x0_ x1_ x2_ x3_ x4_)
            ((with_reducible apply W_unroll); (focus (simp only [loopKeep, firstRegion, keepsOf, tidy, canon, reach, refsL, refs, refsO, catMap, depth, renL, ren, renO, sub, sub1, upto, mem, place, fresh, cond_true, get, nth, List.map, List.zip_cons_cons, List.zip_nil_right, List.take, List.append_nil, List.nil_append, beq_dec, decide_true, Nat.zero_add] <;> exact rfl)))
            (have x0_ := @sgn0; have x1_ := @sgn1; have x2_ := @sgn2; have x3_ := @sgn3; have x4_ := @sgn4; (repeat' (first | with_reducible apply fol | with_reducible refine aRW ?_ | with_reducible refine aRR ?_ | with_reducible refine aRs ?_ | ((with_reducible first | apply RW_gdn | apply RR_gdn | apply RW_gd | apply RR_gd) <;> intro hg <;> first | (cases hg; done) | skip) | with_reducible refine aE1 ?_ | with_reducible refine aE2 ?_ | with_reducible refine aOn ?_ | ((with_reducible refine aCd ?_ ?_) <;> intro hv <;> first | (cases hv; done) | skip) | fail)); all_goals clear x0_ x1_ x2_ x3_ x4_)
            ((with_reducible apply W_unroll); (focus (simp only [loopKeep, firstRegion, keepsOf, tidy, canon, reach, refsL, refs, refsO, catMap, depth, renL, ren, renO, sub, sub1, upto, mem, place, fresh, cond_true, get, nth, List.map, List.zip_cons_cons, List.zip_nil_right, List.take, List.append_nil, List.nil_append, beq_dec, decide_true, Nat.zero_add] <;> exact rfl)))
            (have x0_ := @sgn0; have x1_ := @sgn1; have x2_ := @sgn2; have x3_ := @sgn3; have x4_ := @sgn4; (repeat' (first | with_reducible apply fol | with_reducible refine aRW ?_ | with_reducible refine aRR ?_ | with_reducible refine aRs ?_ | ((with_reducible first | apply RW_gdn | apply RR_gdn | apply RW_gd | apply RR_gd) <;> intro hg <;> first | (cases hg; done) | skip) | with_reducible refine aE1 ?_ | with_reducible refine aE2 ?_ | with_reducible refine aOn ?_ | ((with_reducible refine aCd ?_ ?_) <;> intro hv <;> first | (cases hv; done) | skip) | fail)); all_goals clear x0_ x1_ x2_ x3_ x4_)
            ((with_reducible apply Ends'_ret); (focus (simp only [CC_P, results, resultsOf, resultOf, get, res_51, *]; exact rfl)); (focus (simp only [finish, thaw_51, exports, viewedO, viewed, view, elems, freeze, patch, put1, catMap, canon, reach, refsL, refs, depth, renL, ren, sub, sub1, upto, nth, List.map, List.take, List.length_nil, List.append_nil, List.nil_append, List.cons_append, if_true] <;> exact rfl)))
            · rfl
            · rfl
          · have e5 : ((5 : Int) == op) = false := by simp; omega
            by_cases h6 : op = 6
            · have e6 : ((6 : Int) == op) = true := by simp [h6]
              have hp : partsL ⟨op, ⟨anl, acl, al⟩, ⟨bnl, bcl, bl⟩, low, high, kids, line, col⟩ = [(12, ⟨anl, acl, al⟩)] := by simp [partsL, signOf, h6]
              rw [hp]
              simp only [opsT, exprsT, List.map_cons, List.map_nil, Sl.t]
              clear hp h7 h2 h3 h4 h5 h6
              (have x0_ := @hb_69; (repeat' (first | with_reducible apply fol | with_reducible refine aRW ?_ | with_reducible refine aRR ?_ | with_reducible refine aRs ?_ | ((with_reducible first | apply RW_gdn | apply RR_gdn | apply RW_gd | apply RR_gd) <;> intro hg <;> first | (cases hg; done) | skip) | with_reducible refine aE1 ?_ | with_reducible refine aE2 ?_ | with_reducible refine aOn ?_ | ((with_reducible refine aCd ?_ ?_) <;> intro hv <;> first | (cases hv; done) | skip) | fail)); all_goals clear x0_)
              ((with_reducible apply W_unroll); (focus (simp only [loopKeep, firstRegion, keepsOf, tidy, canon, reach, refsL, refs, refsO, catMap, depth, renL, ren, renO, sub, sub1, upto, mem, place, fresh, cond_true, get, nth, List.map, List.zip_cons_cons, List.zip_nil_right, List.take, List.append_nil, List.nil_append, beq_dec, decide_true, Nat.zero_add] <;> exact rfl)))
              (have x0_ := @sgn0; have x1_ := @sgn1; have x2_ := @sgn2; have x3_ := @sgn3; have x4_ := @sgn4; (repeat' (first | with_reducible apply fol | with_reducible refine aRW ?_ | with_reducible refine aRR ?_ | with_reducible refine aRs ?_ | ((with_reducible first | apply RW_gdn | apply RR_gdn | apply RW_gd | apply RR_gd) <;> intro hg <;> first | (cases hg; done) | skip) | with_reducible refine aE1 ?_ | with_reducible refine aE2 ?_ | with_reducible refine aOn ?_ | ((with_reducible refine aCd ?_ ?_) <;> intro hv <;> first | (cases hv; done) | skip) | fail)); all_goals clear x0_ x1_ x2_ x3_ x4_)
              ((with_reducible apply W_unroll); (focus (simp only [loopKeep, firstRegion, keepsOf, tidy, canon, reach, refsL, refs, refsO, catMap, depth, renL, ren, renO, sub, sub1, upto, mem, place, fresh, cond_true, get, nth, List.map, List.zip_cons_cons, List.zip_nil_right, List.take, List.append_nil, List.nil_append, beq_dec, decide_true, Nat.zero_add] <;> exact rfl)))
              (have x0_ := @sgn0; have x1_ := @sgn1; have x2_ := @sgn2; have x3_ := @sgn3; have x4_ := @sgn4; (repeat' (first | with_reducible apply fol | with_reducible refine aRW ?_ | with_reducible refine aRR ?_ | with_reducible refine aRs ?_ | ((with_reducible first | apply RW_gdn | apply RR_gdn | apply RW_gd | apply RR_gd) <;> intro hg <;> first | (cases hg; done) | skip) | with_reducible refine aE1 ?_ | with_reducible refine aE2 ?_ | with_reducible refine aOn ?_ | ((with_reducible refine aCd ?_ ?_) <;> intro hv <;> first | (cases hv; done) | skip) | fail)); all_goals clear x0_ x1_ x2_ x3_ x4_)
              ((with_reducible apply W_unroll); (focus (simp only [loopKeep, firstRegion, keepsOf, tidy, canon, reach, refsL, refs, refsO, catMap, depth, renL, ren, renO, sub, sub1, upto, mem, place, fresh, cond_true, get, nth, List.map, List.zip_cons_cons, List.zip_nil_right, List.take, List.append_nil, List.nil_append, beq_dec, decide_true, Nat.zero_add] <;> exact rfl)))
              (have x0_ := @sgn0; have x1_ := @sgn1; have x2_ := @sgn2; have x3_ := @sgn3; have x4_ := @sgn4; (repeat' (first | with_reducible apply fol | with_reducible refine aRW ?_ | with_reducible refine aRR ?_ | with_reducible refine aRs ?_ | ((with_reducible first | apply RW_gdn | apply RR_gdn | apply RW_gd | apply RR_gd) <;> intro hg <;> first | (cases hg; done) | skip) | with_reducible refine aE1 ?_ | with_reducible refine aE2 ?_ | with_reducible refine aOn ?_ | ((with_reducible refine aCd ?_ ?_) <;> intro hv <;> first | (cases hv; done) | skip) | fail)); all_goals clear x0_ x1_ x2_ x3_ x4_)
              ((with_reducible apply W_unroll); (focus (simp only [loopKeep, firstRegion, keepsOf, tidy, canon, reach, refsL, refs, refsO, catMap, depth, renL, ren, renO, sub, sub1, upto, mem, place, fresh, cond_true, get, nth, List.map, List.zip_cons_cons, List.zip_nil_right, List.take, List.append_nil, List.nil_append, beq_dec, decide_true, Nat.zero_add] <;> exact rfl)))
              (have x0_ := @sgn0; have x1_ := @sgn1; have x2_ := @sgn2; have x3_ := @sgn3; have x4_ := @sgn4; (repeat' (first | with_reducible apply fol | with_reducible refine aRW ?_ | with_reducible refine aRR ?_ | with_reducible refine aRs ?_ | ((with_reducible first | apply RW_gdn | apply RR_gdn | apply RW_gd | apply RR_gd) <;> intro hg <;> first | (cases hg; done) | skip) | with_reducible refine aE1 ?_ | with_reducible refine aE2 ?_ | with_reducible refine aOn ?_ | ((with_reducible refine aCd ?_ ?_) <;> intro hv <;> first | (cases hv; done) | skip) | fail)); all_goals clear x0_ x1_ x2_ x3_ x4_)
              ((with_reducible apply W_unroll); (focus (simp only [loopKeep, firstRegion, keepsOf, tidy, canon, reach, refsL, refs, refsO, catMap, depth, renL, ren, renO, sub, sub1, upto, mem, place, fresh, cond_true, get, nth, List.map, List.zip_cons_cons, List.zip_nil_right, List.take, List.append_nil, List.nil_append, beq_dec, decide_true, Nat.zero_add] <;> exact rfl)))
              (have x0_ := @sgn0; have x1_ := @sgn1; have x2_ := @sgn2; have x3_ := @sgn3; have x4_ := @sgn4; (repeat' (first | with_reducible apply fol | with_reducible refine aRW ?_ | with_reducible refine aRR ?_ | with_reducible refine aRs ?_ | ((with_reducible first | apply RW_gdn | apply RR_gdn | apply RW_gd | apply RR_gd) <;> intro hg <;> first | (cases hg; done) | skip) | with_reducible refine aE1 ?_ | with_reducible refine aE2 ?_ | with_reducible refine aOn ?_ | ((with_reducible refine aCd ?_ ?_) <;> intro hv <;> first | (cases hv; done) | skip) | fail)); all_goals clear x0_ x1_ x2_ x3_ x4_)
              ((with_reducible apply Ends'_ret); (focus (simp only [CC_P, results, resultsOf, resultOf, get, res_51, *]; exact rfl)); (focus (simp only [finish, thaw_51, exports, viewedO, viewed, view, elems, freeze, patch, put1, catMap, canon, reach, refsL, refs, depth, renL, ren, sub, sub1, upto, nth, List.map, List.take, List.length_nil, List.append_nil, List.nil_append, List.cons_append, if_true] <;> exact rfl)))
              · rfl
              · rfl
            · have e6 : ((6 : Int) == op) = false := by simp; omega
              have hp : partsL ⟨op, ⟨anl, acl, al⟩, ⟨bnl, bcl, bl⟩, low, high, kids, line, col⟩ = [] := by simp [partsL, signOf, h7, h2, h3, h4, h5, h6]
              rw [hp]
              simp only [opsT, exprsT]
              clear hp h7 h2 h3 h4 h5 h6
              (have x0_ := @hb_69; (repeat' (first | with_reducible apply fol | with_reducible refine aRW ?_ | with_reducible refine aRR ?_ | with_reducible refine aRs ?_ | ((with_reducible first | apply RW_gdn | apply RR_gdn | apply RW_gd | apply RR_gd) <;> intro hg <;> first | (cases hg; done) | skip) | with_reducible refine aE1 ?_ | with_reducible refine aE2 ?_ | with_reducible refine aOn ?_ | ((with_reducible refine aCd ?_ ?_) <;> intro hv <;> first | (cases hv; done) | skip) | fail)); all_goals clear x0_)
              ((with_reducible apply W_unroll); (focus (simp only [loopKeep, firstRegion, keepsOf, tidy, canon, reach, refsL, refs, refsO, catMap, depth, renL, ren, renO, sub, sub1, upto, mem, place, fresh, cond_true, get, nth, List.map, List.zip_cons_cons, List.zip_nil_right, List.take, List.append_nil, List.nil_append, beq_dec, decide_true, Nat.zero_add] <;> exact rfl)))
              (have x0_ := @sgn0; have x1_ := @sgn1; have x2_ := @sgn2; have x3_ := @sgn3; have x4_ := @sgn4; (repeat' (first | with_reducible apply fol | with_reducible refine aRW ?_ | with_reducible refine aRR ?_ | with_reducible refine aRs ?_ | ((with_reducible first | apply RW_gdn | apply RR_gdn | apply RW_gd | apply RR_gd) <;> intro hg <;> first | (cases hg; done) | skip) | with_reducible refine aE1 ?_ | with_reducible refine aE2 ?_ | with_reducible refine aOn ?_ | ((with_reducible refine aCd ?_ ?_) <;> intro hv <;> first | (cases hv; done) | skip) | fail)); all_goals clear x0_ x1_ x2_ x3_ x4_)
              ((with_reducible apply W_unroll); (focus (simp only [loopKeep, firstRegion, keepsOf, tidy, canon, reach, refsL, refs, refsO, catMap, depth, renL, ren, renO, sub, sub1, upto, mem, place, fresh, cond_true, get, nth, List.map, List.zip_cons_cons, List.zip_nil_right, List.take, List.append_nil, List.nil_append, beq_dec, decide_true, Nat.zero_add] <;> exact rfl)))
              (have x0_ := @sgn0; have x1_ := @sgn1; have x2_ := @sgn2; have x3_ := @sgn3; have x4_ := @sgn4; (repeat' (first | with_reducible apply fol | with_reducible refine aRW ?_ | with_reducible refine aRR ?_ | with_reducible refine aRs ?_ | ((with_reducible first | apply RW_gdn | apply RR_gdn | apply RW_gd | apply RR_gd) <;> intro hg <;> first | (cases hg; done) | skip) | with_reducible refine aE1 ?_ | with_reducible refine aE2 ?_ | with_reducible refine aOn ?_ | ((with_reducible refine aCd ?_ ?_) <;> intro hv <;> first | (cases hv; done) | skip) | fail)); all_goals clear x0_ x1_ x2_ x3_ x4_)
              ((with_reducible apply W_unroll); (focus (simp only [loopKeep, firstRegion, keepsOf, tidy, canon, reach, refsL, refs, refsO, catMap, depth, renL, ren, renO, sub, sub1, upto, mem, place, fresh, cond_true, get, nth, List.map, List.zip_cons_cons, List.zip_nil_right, List.take, List.append_nil, List.nil_append, beq_dec, decide_true, Nat.zero_add] <;> exact rfl)))
              (have x0_ := @sgn0; have x1_ := @sgn1; have x2_ := @sgn2; have x3_ := @sgn3; have x4_ := @sgn4; (repeat' (first | with_reducible apply fol | with_reducible refine aRW ?_ | with_reducible refine aRR ?_ | with_reducible refine aRs ?_ | ((with_reducible first | apply RW_gdn | apply RR_gdn | apply RW_gd | apply RR_gd) <;> intro hg <;> first | (cases hg; done) | skip) | with_reducible refine aE1 ?_ | with_reducible refine aE2 ?_ | with_reducible refine aOn ?_ | ((with_reducible refine aCd ?_ ?_) <;> intro hv <;> first | (cases hv; done) | skip) | fail)); all_goals clear x0_ x1_ x2_ x3_ x4_)
              ((with_reducible apply W_unroll); (focus (simp only [loopKeep, firstRegion, keepsOf, tidy, canon, reach, refsL, refs, refsO, catMap, depth, renL, ren, renO, sub, sub1, upto, mem, place, fresh, cond_true, get, nth, List.map, List.zip_cons_cons, List.zip_nil_right, List.take, List.append_nil, List.nil_append, beq_dec, decide_true, Nat.zero_add] <;> exact rfl)))
              (have x0_ := @sgn0; have x1_ := @sgn1; have x2_ := @sgn2; have x3_ := @sgn3; have x4_ := @sgn4; (repeat' (first | with_reducible apply fol | with_reducible refine aRW ?_ | with_reducible refine aRR ?_ | with_reducible refine aRs ?_ | ((with_reducible first | apply RW_gdn | apply RR_gdn | apply RW_gd | apply RR_gd) <;> intro hg <;> first | (cases hg; done) | skip) | with_reducible refine aE1 ?_ | with_reducible refine aE2 ?_ | with_reducible refine aOn ?_ | ((with_reducible refine aCd ?_ ?_) <;> intro hv <;> first | (cases hv; done) | skip) | fail)); all_goals clear x0_ x1_ x2_ x3_ x4_)
              ((with_reducible apply W_unroll); (focus (simp only [loopKeep, firstRegion, keepsOf, tidy, canon, reach, refsL, refs, refsO, catMap, depth, renL, ren, renO, sub, sub1, upto, mem, place, fresh, cond_true, get, nth, List.map, List.zip_cons_cons, List.zip_nil_right, List.take, List.append_nil, List.nil_append, beq_dec, decide_true, Nat.zero_add] <;> exact rfl)))
              (have x0_ := @sgn0; have x1_ := @sgn1; have x2_ := @sgn2; have x3_ := @sgn3; have x4_ := @sgn4; (repeat' (first | with_reducible apply fol | with_reducible refine aRW ?_ | with_reducible refine aRR ?_ | with_reducible refine aRs ?_ | ((with_reducible first | apply RW_gdn | apply RR_gdn | apply RW_gd | apply RR_gd) <;> intro hg <;> first | (cases hg; done) | skip) | with_reducible refine aE1 ?_ | with_reducible refine aE2 ?_ | with_reducible refine aOn ?_ | ((with_reducible refine aCd ?_ ?_) <;> intro hv <;> first | (cases hv; done) | skip) | fail)); all_goals clear x0_ x1_ x2_ x3_ x4_)
              ((with_reducible apply W_unroll); (focus (simp only [loopKeep, firstRegion, keepsOf, tidy, canon, reach, refsL, refs, refsO, catMap, depth, renL, ren, renO, sub, sub1, upto, mem, place, fresh, cond_true, get, nth, List.map, List.zip_cons_cons, List.zip_nil_right, List.take, List.append_nil, List.nil_append, beq_dec, decide_true, Nat.zero_add] <;> exact rfl)))
              (have x0_ := @sgn0; have x1_ := @sgn1; have x2_ := @sgn2; have x3_ := @sgn3; have x4_ := @sgn4; (repeat' (first | with_reducible apply fol | with_reducible refine aRW ?_ | with_reducible refine aRR ?_ | with_reducible refine aRs ?_ | ((with_reducible first | apply RW_gdn | apply RR_gdn | apply RW_gd | apply RR_gd) <;> intro hg <;> first | (cases hg; done) | skip) | with_reducible refine aE1 ?_ | with_reducible refine aE2 ?_ | with_reducible refine aOn ?_ | ((with_reducible refine aCd ?_ ?_) <;> intro hv <;> first | (cases hv; done) | skip) | fail)); all_goals clear x0_ x1_ x2_ x3_ x4_)
              ((with_reducible apply Ends'_ret); (focus (simp only [CC_P, results, resultsOf, resultOf, get, res_51, *]; exact rfl)); (focus (simp only [finish, thaw_51, exports, viewedO, viewed, view, freeze, patch, catMap, canon, reach, refsL, refs, depth, renL, ren, sub, sub1, upto, List.map, List.take, List.length_nil, List.append_nil] <;> exact rfl)))
              · rfl
              · rfl

end Go.Ab
/- Layer 11 (unary): a test that is a variable alone. -/
namespace Go.Ab
open Go.Proofs
set_option maxRecDepth 100000
set_option maxHeartbeats 4000000
set_option linter.unusedSimpArgs false
set_option linter.unusedVariables false

/-- The variable that tests are, if they are one alone. -/
def varOf (t : List Test) : List Nat × Bool :=
  match t with
  | [x] => if x.op = 2 then (match x.a.l with
    | [n] => if n.op = 2 then (n.name, true) else ([], false)
    | _ => ([], false)) else ([], false)
  | _ => ([], false)

theorem var_ok (nl cl : Bool) (t : List Test) : Om CC 18 [.t (.sl nl cl (t.map Test.c))] [] = some (.val (.tup [.t (.str (varOf t).1), .t (.bool (varOf t).2)]), []) := by
  refine call_eq fun_18 rfl ?_
  (have F_ : _ ∧ _ ∧ _ ∧ _ ∧ _ ∧ _ ∧ _ ∧ _ ∧ _ ∧ _ ∧ _ ∧ _ ∧ _ ∧ _ ∧ _ ∧ _ ∧ _ ∧ _ ∧ _ ∧ _ ∧ _ ∧ _ ∧ _ ∧ _ ∧ _ ∧ _ ∧ _ ∧ _ ∧ _ ∧ _ ∧ _ ∧ _ ∧ _ ∧ _ ∧ _ ∧ _ ∧ _ ∧ _ ∧ _ ∧ _ ∧ _ ∧ _ ∧ _ ∧ _ ∧ _ ∧ _ ∧ _ ∧ _ ∧ _ ∧ _ ∧ _ ∧ _ ∧ _ ∧ _ ∧ _ ∧ _ ∧ _ ∧ _ ∧ _ ∧ _ ∧ _ ∧ _ ∧ _ ∧ _ ∧ _ ∧ _ ∧ _ ∧ _ ∧ _ ∧ _ ∧ _ ∧ _ ∧ _ ∧ _ ∧ _ ∧ _ ∧ _ ∧ _ ∧ _ ∧ _ ∧ _ ∧ _ ∧ _ ∧ _ ∧ _ ∧ _ ∧ _ ∧ _ ∧ _ ∧ _ ∧ _ ∧ _ ∧ _ ∧ _ ∧ _ ∧ _ ∧ _ ∧ _ ∧ _ ∧ _ ∧ _ ∧ _ ∧ _ ∧ _ ∧ _ ∧ _ ∧ _ ∧ _ ∧ _ ∧ _ ∧ _ ∧ _ ∧ _ ∧ _ ∧ _ := ⟨und_2, size_2, agg_2, zero_2, zel_2, small_2, und_3, size_3, agg_3, zero_3, zel_3, small_3, und_4, size_4, agg_4, zero_4, zel_4, small_4, noInt_4, und_5, size_5, agg_5, zero_5, zel_5, small_5, und_9, size_9, agg_9, zero_9, zel_9, small_9, noInt_9, fa_25_0, fd_25_0, fa_25_1, fd_25_1, bld_25, size_25, agg_25, zero_25, zel_25, small_25, noInt_25, fa_45_0, fd_45_0, fa_45_1, fd_45_1, fa_45_2, fd_45_2, bld_45, size_45, agg_45, zero_45, zel_45, small_45, noInt_45, und_50, size_50, agg_50, zero_50, zel_50, small_50, noInt_50, und_70, size_70, agg_70, zero_70, zel_70, small_70, noInt_70, und_71, size_71, agg_71, zero_71, zel_71, small_71, noInt_71, fa_73_0, fd_73_0, fa_73_1, fd_73_1, fa_73_2, fd_73_2, fa_73_3, fd_73_3, fa_73_4, fd_73_4, fa_73_5, fd_73_5, fa_73_6, fd_73_6, bld_73, size_73, agg_73, zero_73, zel_73, small_73, noInt_73, fa_75_0, fd_75_0, fa_75_1, fd_75_1, fa_75_2, fd_75_2, fa_75_3, fd_75_3, fa_75_4, fd_75_4, bld_75, size_75, agg_75, zero_75, zel_75, small_75, noInt_75⟩; show W CC 0 39 (keepsOf 18) _ ⟨[(0, _)], []⟩ _)
  match t with
  | [] =>
    ((repeat' (first | with_reducible apply fol | with_reducible refine aRW ?_ | with_reducible refine aRR ?_ | with_reducible refine aRs ?_ | ((with_reducible first | apply RW_gdn | apply RR_gdn | apply RW_gd | apply RR_gd) <;> intro hg <;> first | (cases hg; done) | skip) | with_reducible refine aE1 ?_ | with_reducible refine aE2 ?_ | with_reducible refine aOn ?_ | ((with_reducible refine aCd ?_ ?_) <;> intro hv <;> first | (cases hv; done) | skip) | fail)))
    ((with_reducible apply Ends'_ret); (focus (simp only [CC_P, results, resultsOf, resultOf, get, res_18, *]; exact rfl)); (focus (first | exact finish_tree' _ _ _ _ | exact finish_tup2 _ _ _ _ _ | exact finish_tup3 _ _ _ _ _ _ | kernel_rfl)))
    · rfl
    · rfl
  | x :: y :: r =>
    have hl : (((r.length + 1 + 1 : Nat) : Int) != 1) = true := by simp; omega
    ((repeat' (first | with_reducible apply fol | with_reducible refine aRW ?_ | with_reducible refine aRR ?_ | with_reducible refine aRs ?_ | ((with_reducible first | apply RW_gdn | apply RR_gdn | apply RW_gd | apply RR_gd) <;> intro hg <;> first | (cases hg; done) | skip) | with_reducible refine aE1 ?_ | with_reducible refine aE2 ?_ | with_reducible refine aOn ?_ | ((with_reducible refine aCd ?_ ?_) <;> intro hv <;> first | (cases hv; done) | skip) | fail)))
    ((with_reducible apply Ends'_ret); (focus (simp only [CC_P, results, resultsOf, resultOf, get, res_18, *]; exact rfl)); (focus (first | exact finish_tree' _ _ _ _ | exact finish_tup2 _ _ _ _ _ | exact finish_tup3 _ _ _ _ _ _ | kernel_rfl)))
    · rfl
    · rfl
  | [x] =>
    by_cases h1 : x.op = 2
    · have e1 : (x.op != 2) = false := by simpa using h1
      obtain ⟨op, ⟨anl, acl, al⟩, b, lo, hi, kids, line, col⟩ := x
      dsimp only at h1 e1
      subst h1
      match al with
      | [] =>
        (have x0_ := @idx_zero; (repeat' (first | with_reducible apply fol | with_reducible refine aRW ?_ | with_reducible refine aRR ?_ | with_reducible refine aRs ?_ | ((with_reducible first | apply RW_gdn | apply RR_gdn | apply RW_gd | apply RR_gd) <;> intro hg <;> first | (cases hg; done) | skip) | with_reducible refine aE1 ?_ | with_reducible refine aE2 ?_ | with_reducible refine aOn ?_ | ((with_reducible refine aCd ?_ ?_) <;> intro hv <;> first | (cases hv; done) | skip) | fail)); all_goals clear x0_)
        ((with_reducible apply Ends'_ret); (focus (simp only [CC_P, results, resultsOf, resultOf, get, res_18, *]; exact rfl)); (focus (first | exact finish_tree' _ _ _ _ | exact finish_tup2 _ _ _ _ _ | exact finish_tup3 _ _ _ _ _ _ | kernel_rfl)))
        · rfl
        · rfl
      | n :: n' :: r =>
        have hl : (((r.length + 1 + 1 : Nat) : Int) != 1) = true := by simp; omega
        (have x0_ := @idx_zero; (repeat' (first | with_reducible apply fol | with_reducible refine aRW ?_ | with_reducible refine aRR ?_ | with_reducible refine aRs ?_ | ((with_reducible first | apply RW_gdn | apply RR_gdn | apply RW_gd | apply RR_gd) <;> intro hg <;> first | (cases hg; done) | skip) | with_reducible refine aE1 ?_ | with_reducible refine aE2 ?_ | with_reducible refine aOn ?_ | ((with_reducible refine aCd ?_ ?_) <;> intro hv <;> first | (cases hv; done) | skip) | fail)); all_goals clear x0_)
        ((with_reducible apply Ends'_ret); (focus (simp only [CC_P, results, resultsOf, resultOf, get, res_18, *]; exact rfl)); (focus (first | exact finish_tree' _ _ _ _ | exact finish_tup2 _ _ _ _ _ | exact finish_tup3 _ _ _ _ _ _ | kernel_rfl)))
        · rfl
        · rfl
      | [n] =>
        by_cases h2 : n.op = 2
        · have e2 : (n.op != 2) = false := by simpa using h2
          (have x0_ := @idx_zero; (repeat' (first | with_reducible apply fol | with_reducible refine aRW ?_ | with_reducible refine aRR ?_ | with_reducible refine aRs ?_ | ((with_reducible first | apply RW_gdn | apply RR_gdn | apply RW_gd | apply RR_gd) <;> intro hg <;> first | (cases hg; done) | skip) | with_reducible refine aE1 ?_ | with_reducible refine aE2 ?_ | with_reducible refine aOn ?_ | ((with_reducible refine aCd ?_ ?_) <;> intro hv <;> first | (cases hv; done) | skip) | fail)); all_goals clear x0_)
          ((with_reducible apply Ends'_ret); (focus (simp only [CC_P, results, resultsOf, resultOf, get, res_18, *]; exact rfl)); (focus (first | exact finish_tree' _ _ _ _ | exact finish_tup2 _ _ _ _ _ | exact finish_tup3 _ _ _ _ _ _ | kernel_rfl)))
          · simp [varOf, h2]
          · rfl
        · have e2 : (n.op != 2) = true := by simpa using h2
          (have x0_ := @idx_zero; (repeat' (first | with_reducible apply fol | with_reducible refine aRW ?_ | with_reducible refine aRR ?_ | with_reducible refine aRs ?_ | ((with_reducible first | apply RW_gdn | apply RR_gdn | apply RW_gd | apply RR_gd) <;> intro hg <;> first | (cases hg; done) | skip) | with_reducible refine aE1 ?_ | with_reducible refine aE2 ?_ | with_reducible refine aOn ?_ | ((with_reducible refine aCd ?_ ?_) <;> intro hv <;> first | (cases hv; done) | skip) | fail)); all_goals clear x0_)
          ((with_reducible apply Ends'_ret); (focus (simp only [CC_P, results, resultsOf, resultOf, get, res_18, *]; exact rfl)); (focus (first | exact finish_tree' _ _ _ _ | exact finish_tup2 _ _ _ _ _ | exact finish_tup3 _ _ _ _ _ _ | kernel_rfl)))
          · simp [varOf, h2]
          · rfl
    · have e1 : (x.op != 2) = true := by simpa using h1
      (have x0_ := @idx_zero; (repeat' (first | with_reducible apply fol | with_reducible refine aRW ?_ | with_reducible refine aRR ?_ | with_reducible refine aRs ?_ | ((with_reducible first | apply RW_gdn | apply RR_gdn | apply RW_gd | apply RR_gd) <;> intro hg <;> first | (cases hg; done) | skip) | with_reducible refine aE1 ?_ | with_reducible refine aE2 ?_ | with_reducible refine aOn ?_ | ((with_reducible refine aCd ?_ ?_) <;> intro hv <;> first | (cases hv; done) | skip) | fail)); all_goals clear x0_)
      ((with_reducible apply Ends'_ret); (focus (simp only [CC_P, results, resultsOf, resultOf, get, res_18, *]; exact rfl)); (focus (first | exact finish_tree' _ _ _ _ | exact finish_tup2 _ _ _ _ _ | exact finish_tup3 _ _ _ _ _ _ | kernel_rfl)))
      · simp [varOf, h1]
      · rfl

end Go.Ab
/- Layer 18 (passes): the value of a variable. -/
namespace Go.Ab
open Go.Proofs
set_option maxRecDepth 100000
set_option maxHeartbeats 4000000
set_option linter.unusedSimpArgs false
set_option linter.unusedVariables false

theorem isB_ok (b : Bind) (name : List Nat) : Om CC 26 [.t (.agg [.str b.name, .int .u8 b.v.k, .int .i64 b.v.n, .str b.v.s]), .box 0 0] [.box [.t (.str name)]] = some (.val (.t (.bool (beqL b.name name))), [.box [.t (.str name)]]) := by
  refine call_eq fun_26 rfl ?_
  (have F_ : _ ∧ _ ∧ _ ∧ _ ∧ _ ∧ _ ∧ _ ∧ _ ∧ _ ∧ _ ∧ _ ∧ _ ∧ _ ∧ _ ∧ _ ∧ _ ∧ _ ∧ _ ∧ _ ∧ _ ∧ _ ∧ _ ∧ _ ∧ _ ∧ _ ∧ _ ∧ _ ∧ _ ∧ _ ∧ _ ∧ _ ∧ _ ∧ _ ∧ _ ∧ _ ∧ _ ∧ _ ∧ _ ∧ _ ∧ _ ∧ _ ∧ _ ∧ _ := ⟨und_2, size_2, agg_2, zero_2, zel_2, small_2, und_5, size_5, agg_5, zero_5, zel_5, small_5, und_9, size_9, agg_9, zero_9, zel_9, small_9, noInt_9, fa_45_0, fd_45_0, fa_45_1, fd_45_1, fa_45_2, fd_45_2, bld_45, size_45, agg_45, zero_45, zel_45, small_45, noInt_45, fa_47_0, fd_47_0, fa_47_1, fd_47_1, bld_47, size_47, agg_47, zero_47, zel_47, small_47, noInt_47⟩; show W CC 1 8 (keepsOf 26) _ ⟨[(0, _), (1, _)], [_]⟩ _)
  repeat (first | with_reducible apply once_normal | with_reducible apply once_exit | with_reducible apply once_ret | with_reducible apply once_pan | with_reducible apply thenW_normal | with_reducible apply thenW_ret | with_reducible apply thenW_exit | with_reducible apply thenW_pan | with_reducible apply outOf_normal | with_reducible apply outOf_eq | (refine outOf_ne (by kernel_rfl) ?_) | with_reducible apply outOf_ret | with_reducible apply outOf_pan | with_reducible apply again_exit | with_reducible apply again_ret | with_reducible apply again_pan | with_reducible apply W_seq | with_reducible apply W_block | with_reducible apply W_scope | with_reducible apply W_skip | with_reducible apply W_ret | with_reducible apply W_exit | with_reducible apply W_label | ((with_reducible apply W_run); (focus kernel_rfl); (focus (simp only [runOps, wanted, exec1, xBox, cellsOf, operand, get, putT, ret, retO, lit, lit1, patch, put1, load, loadCells, cut, addOff, nth, CC_P, str_eql, Nat.zero_add, Nat.add_zero, List.map_cons, List.map_nil, List.length_cons, List.length_nil, List.take, List.drop, if_true, Nat.reduceAdd, Nat.reduceLeDiff, agg_9, fa_47_0]; exact rfl))))
  exact ⟨.t (.bool (beqL b.name name)), by kernel_rfl, by kernel_rfl⟩

/-- The place of the first variable of a name; -1: there is none. -/
def bindAt (name : List Nat) (l : List Bind) : Int :=
  match l.findIdx? (fun b => beqL b.name name) with
  | some i => i
  | none => -1
theorem bindAt_hit {name : List Nat} {l : List Bind} {i : Nat} (hi : i < l.length) (h : beqL l[i].name name = true) (hn : ∀ j (hj : j < l.length), j < i → beqL l[j].name name = false) : l.findIdx? (fun b => beqL b.name name) = some i := by
  rw [List.findIdx?_eq_some_iff_getElem]
  exact ⟨hi, h, fun j hj => by simp [hn j (by omega) hj]⟩
theorem bindAt_none {name : List Nat} {l : List Bind} (hn : ∀ j (hj : j < l.length), beqL l[j].name name = false) : l.findIdx? (fun b => beqL b.name name) = none := by
  rw [List.findIdx?_eq_none_iff]
  intro x hx
  obtain ⟨j, hj, rfl⟩ := List.getElem_of_mem hx
  exact hn j hj

theorem indexB_ok (nl cl : Bool) (l : List Bind) (name : List Nat) (hl : l.length < 9223372036854775808) :
    Om CC 25 [.t (.sl nl cl (l.map Bind.c)), .fn 26 [] [.box 0 0]] [.box [.t (.str name)]] = some (.val (.t (.int .i64 (bindAt name l))), [.box [.t (.str name)]]) := by
  refine call_eq fun_25 rfl ?_
  (have F_ : _ ∧ _ ∧ _ ∧ _ ∧ _ ∧ _ ∧ _ ∧ _ ∧ _ ∧ _ ∧ _ ∧ _ ∧ _ ∧ _ ∧ _ ∧ _ ∧ _ ∧ _ ∧ _ ∧ _ ∧ _ ∧ _ ∧ _ ∧ _ ∧ _ ∧ _ ∧ _ ∧ _ ∧ _ ∧ _ ∧ _ ∧ _ ∧ _ ∧ _ ∧ _ ∧ _ ∧ _ ∧ _ ∧ _ ∧ _ ∧ _ ∧ _ ∧ _ ∧ _ ∧ _ ∧ _ ∧ _ ∧ _ ∧ _ ∧ _ ∧ _ ∧ _ ∧ _ ∧ _ ∧ _ ∧ _ ∧ _ ∧ _ ∧ _ ∧ _ ∧ _ ∧ _ := ⟨und_2, size_2, agg_2, zero_2, zel_2, small_2, und_3, size_3, agg_3, zero_3, zel_3, small_3, und_5, size_5, agg_5, zero_5, zel_5, small_5, und_9, size_9, agg_9, zero_9, zel_9, small_9, noInt_9, und_31, size_31, agg_31, zero_31, zel_31, small_31, noInt_31, fa_45_0, fd_45_0, fa_45_1, fd_45_1, fa_45_2, fd_45_2, bld_45, size_45, agg_45, zero_45, zel_45, small_45, noInt_45, fa_47_0, fd_47_0, fa_47_1, fd_47_1, bld_47, size_47, agg_47, zero_47, zel_47, small_47, noInt_47, size_91, agg_91, zero_91, zel_91, small_91, noInt_91⟩; show W CC 1 19 (keepsOf 25) _ ⟨[(0, _), (1, _)], [_]⟩ _)
  ((repeat' (first | with_reducible apply fol | with_reducible refine aRW ?_ | with_reducible refine aRR ?_ | with_reducible refine aRs ?_ | ((with_reducible first | apply RW_gdn | apply RR_gdn | apply RW_gd | apply RR_gd) <;> intro hg <;> first | (cases hg; done) | skip) | with_reducible refine aE1 ?_ | with_reducible refine aE2 ?_ | with_reducible refine aOn ?_ | ((with_reducible refine aCd ?_ ?_) <;> intro hv <;> first | (cases hv; done) | skip) | fail)))
  refine W_rounds (α := Nat) (fun i => ⟨[(0, .t (.sl nl cl (l.map Bind.c))), (1, .fn 26 [] [.box 0 0]), (7, .t (.int .i64 l.length)), (8, .t (.int .i64 i))], [.box [.t (.str name)]]⟩) (fun i => l.length - i)
    (fun i => i ≤ l.length ∧ ∀ j (hj : j < l.length), j < i → beqL l[j].name name = false) 0 (by kernel_rfl) ⟨Nat.zero_le _, fun j _ hj => by omega⟩ ?_
  rintro i ⟨hi, hn⟩
  by_cases hi' : i < l.length
  · have hw : IntKind.i64.wrap ((i : Int) + 1) = ((i + 1 : Nat) : Int) := by rw [wrap64] <;> omega
    have he : l[i]? = some l[i] := List.getElem?_eq_getElem hi'
    have hd : decide ((i : Int) < l.length) = true := by simpa using hi'
    cases hb : beqL l[i].name name with
    | true =>
      have hr : bindAt name l = i := by unfold bindAt; rw [bindAt_hit hi' hb hn]
      rw [hr]
      clear hn hr
      (have x0_ := @isB_ok; have x1_ := @hb_26; (repeat' (first | with_reducible apply fol | with_reducible refine aRW ?_ | with_reducible refine aRR ?_ | with_reducible refine aRs ?_ | ((with_reducible first | apply RW_gdn | apply RR_gdn | apply RW_gd | apply RR_gd) <;> intro hg <;> first | (cases hg; done) | skip) | with_reducible refine aE1 ?_ | with_reducible refine aE2 ?_ | with_reducible refine aOn ?_ | ((with_reducible refine aCd ?_ ?_) <;> intro hv <;> first | (cases hv; done) | skip) | fail)); all_goals clear x0_ x1_)
      exact ⟨.t (.int .i64 i), by kernel_rfl, by kernel_rfl⟩
    | false =>
      have hn' : ∀ j (hj : j < l.length), j < i + 1 → beqL l[j].name name = false := fun j hj hji => by
        rcases Nat.lt_or_ge j i with h | h
        · exact hn j hj h
        · obtain rfl : j = i := by omega
          exact hb
      clear hn
      (have x0_ := @isB_ok; have x1_ := @hb_26; (repeat' (first | with_reducible apply fol | with_reducible refine aRW ?_ | with_reducible refine aRR ?_ | with_reducible refine aRs ?_ | ((with_reducible first | apply RW_gdn | apply RR_gdn | apply RW_gd | apply RR_gd) <;> intro hg <;> first | (cases hg; done) | skip) | with_reducible refine aE1 ?_ | with_reducible refine aE2 ?_ | with_reducible refine aOn ?_ | ((with_reducible refine aCd ?_ ?_) <;> intro hv <;> first | (cases hv; done) | skip) | fail)); all_goals clear x0_ x1_)
      refine again_normal (i + 1) (by omega) ⟨by omega, hn'⟩ (by (simp only [loopKeep, firstRegion, keepsOf, tidy, canon, reach, refsL, refs, refsO, catMap, depth, renL, ren, renO, sub, sub1, upto, mem, place, fresh, cond_true, get, nth, List.map, List.zip_cons_cons, List.zip_nil_right, List.take, List.append_nil, List.nil_append, beq_dec, decide_true] <;> exact rfl))
  · have hd : decide ((i : Int) < l.length) = false := by simpa using hi'
    have hr : bindAt name l = -1 := by unfold bindAt; rw [bindAt_none fun j hj => hn j hj (by omega)]
    rw [hr]
    clear hn hr
    ((repeat' (first | with_reducible apply fol | with_reducible refine aRW ?_ | with_reducible refine aRR ?_ | with_reducible refine aRs ?_ | ((with_reducible first | apply RW_gdn | apply RR_gdn | apply RW_gd | apply RR_gd) <;> intro hg <;> first | (cases hg; done) | skip) | with_reducible refine aE1 ?_ | with_reducible refine aE2 ?_ | with_reducible refine aOn ?_ | ((with_reducible refine aCd ?_ ?_) <;> intro hv <;> first | (cases hv; done) | skip) | fail)))
    exact ⟨.t (.int .i64 (-1)), by kernel_rfl, by kernel_rfl⟩

/-- A variable's value. -/
def boundA (name : List Nat) (l : List Bind) : Val × Bool :=
  match l.findIdx? (fun b => beqL b.name name) with
  | some i => (match l[i]? with | some b => (b.v, true) | none => (Zero, false))
  | none => (Zero, false)

theorem bound_ok (nl cl : Bool) (l : List Bind) (name : List Nat) (hl : l.length < 9223372036854775808) :
    Om CC 19 [.t (.sl nl cl (l.map Bind.c)), .t (.str name)] [] = some (.val (.tup [.t (.agg [.int .u8 (boundA name l).1.k, .int .i64 (boundA name l).1.n, .str (boundA name l).1.s]), .t (.bool (boundA name l).2)]), []) := by
  refine call_eq fun_19 rfl ?_
  (have F_ : _ ∧ _ ∧ _ ∧ _ ∧ _ ∧ _ ∧ _ ∧ _ ∧ _ ∧ _ ∧ _ ∧ _ ∧ _ ∧ _ ∧ _ ∧ _ ∧ _ ∧ _ ∧ _ ∧ _ ∧ _ ∧ _ ∧ _ ∧ _ ∧ _ ∧ _ ∧ _ ∧ _ ∧ _ ∧ _ ∧ _ ∧ _ ∧ _ ∧ _ ∧ _ ∧ _ ∧ _ ∧ _ ∧ _ ∧ _ ∧ _ ∧ _ ∧ _ ∧ _ ∧ _ ∧ _ ∧ _ ∧ _ ∧ _ ∧ _ ∧ _ ∧ _ ∧ _ ∧ _ ∧ _ ∧ _ ∧ _ ∧ _ ∧ _ ∧ _ ∧ _ ∧ _ := ⟨und_2, size_2, agg_2, zero_2, zel_2, small_2, und_3, size_3, agg_3, zero_3, zel_3, small_3, und_5, size_5, agg_5, zero_5, zel_5, small_5, und_9, size_9, agg_9, zero_9, zel_9, small_9, noInt_9, und_31, size_31, agg_31, zero_31, zel_31, small_31, noInt_31, fa_45_0, fd_45_0, fa_45_1, fd_45_1, fa_45_2, fd_45_2, bld_45, size_45, agg_45, zero_45, zel_45, small_45, noInt_45, fa_47_0, fd_47_0, fa_47_1, fd_47_1, bld_47, size_47, agg_47, zero_47, zel_47, small_47, noInt_47, size_91, agg_91, zero_91, zel_91, small_91, noInt_91⟩; show W CC 0 18 (keepsOf 19) _ ⟨[(0, _), (1, _)], []⟩ _)
  have hc := indexB_ok nl cl l name hl
  cases hf : l.findIdx? (fun b => beqL b.name name) with
  | none =>
    have h1 : bindAt name l = -1 := by unfold bindAt; rw [hf]
    have h2 : boundA name l = (Zero, false) := by unfold boundA; rw [hf]
    rw [h2]
    rw [h1] at hc
    clear h1 h2 hf
    (have x0_ := @hb_25; (repeat' (first | with_reducible apply fol | with_reducible refine aRW ?_ | with_reducible refine aRR ?_ | with_reducible refine aRs ?_ | ((with_reducible first | apply RW_gdn | apply RR_gdn | apply RW_gd | apply RR_gd) <;> intro hg <;> first | (cases hg; done) | skip) | with_reducible refine aE1 ?_ | with_reducible refine aE2 ?_ | with_reducible refine aOn ?_ | ((with_reducible refine aCd ?_ ?_) <;> intro hv <;> first | (cases hv; done) | skip) | fail)); all_goals clear x0_)
    ((with_reducible apply Ends'_ret); (focus (simp only [CC_P, results, resultsOf, resultOf, get, load, loadCells, nth, cut, mkAgg, trees, res_19, List.length_cons, List.length_nil, List.take, List.drop, Nat.zero_add, Nat.reduceAdd, Nat.reduceLeDiff, if_true, *]; exact rfl)); (focus (first | exact finish_tree' _ _ _ _ | exact finish_tup2 _ _ _ _ _ | exact finish_tup3 _ _ _ _ _ _ | kernel_rfl)))
    · rfl
    · rfl
  | some i =>
    have hi : i < l.length := by
      rw [List.findIdx?_eq_some_iff_getElem] at hf
      exact hf.1
    have he : l[i]? = some l[i] := List.getElem?_eq_getElem hi
    have h1 : bindAt name l = (i : Int) := by unfold bindAt; rw [hf]
    have h2 : boundA name l = (l[i].v, true) := by unfold boundA; rw [hf]; simp only [he]
    have hd : decide ((i : Int) < 0) = false := by simp
    rw [h2]
    rw [h1] at hc
    clear h1 h2 hf
    generalize l[i] = b at he
    (have x0_ := @hb_25; (repeat' (first | with_reducible apply fol | with_reducible refine aRW ?_ | with_reducible refine aRR ?_ | with_reducible refine aRs ?_ | ((with_reducible first | apply RW_gdn | apply RR_gdn | apply RW_gd | apply RR_gd) <;> intro hg <;> first | (cases hg; done) | skip) | with_reducible refine aE1 ?_ | with_reducible refine aE2 ?_ | with_reducible refine aOn ?_ | ((with_reducible refine aCd ?_ ?_) <;> intro hv <;> first | (cases hv; done) | skip) | fail)); all_goals clear x0_)
    ((with_reducible apply Ends'_ret); (focus (simp only [CC_P, results, resultsOf, resultOf, get, load, loadCells, nth, cut, mkAgg, trees, res_19, List.length_cons, List.length_nil, List.take, List.drop, Nat.zero_add, Nat.reduceAdd, Nat.reduceLeDiff, if_true, *]; exact rfl)); (focus (first | exact finish_tree' _ _ _ _ | exact finish_tup2 _ _ _ _ _ | exact finish_tup3 _ _ _ _ _ _ | kernel_rfl)))
    · rfl
    · rfl

end Go.Ab
/- Layer 18 (passes): a slot of a fact by its name. -/
namespace Go.Ab
open Go.Proofs
set_option maxRecDepth 100000
set_option maxHeartbeats 4000000
set_option linter.unusedSimpArgs false
set_option linter.unusedVariables false

/-- A fact's value at a slot of its template. -/
def atA (t : Tpl) (f : Fact) (name : List Nat) : Val × Bool :=
  match t.slots.l.findIdx? (fun s => beqL s.name name) with
  | some i => (match f.s.l[i]? with | some v => (v, true) | none => (Zero, false))
  | none => (Zero, false)
theorem slot_hit {name : List Nat} {l : List Slot} {i : Nat} (hi : i < l.length) (h : beqL l[i].name name = true) (hn : ∀ j (hj : j < l.length), j < i → beqL l[j].name name = false) : l.findIdx? (fun b => beqL b.name name) = some i := by
  rw [List.findIdx?_eq_some_iff_getElem]
  exact ⟨hi, h, fun j hj => by simp [hn j (by omega) hj]⟩
theorem slot_none {name : List Nat} {l : List Slot} (hn : ∀ j (hj : j < l.length), beqL l[j].name name = false) : l.findIdx? (fun b => beqL b.name name) = none := by
  rw [List.findIdx?_eq_none_iff]
  intro x hx
  obtain ⟨j, hj, rfl⟩ := List.getElem_of_mem hx
  exact hn j hj

theorem at_ok (t : Tpl) (f : Fact) (name : List Nat) (hl : t.slots.l.length < 9223372036854775808) :
    Om CC 17 [.t (.agg t.c), .t (.agg f.c), .t (.str name)] [] = some (.val (.tup [.t (.agg [.int .u8 (atA t f name).1.k, .int .i64 (atA t f name).1.n, .str (atA t f name).1.s]), .t (.bool (atA t f name).2)]), []) := by
  refine call_eq fun_17 rfl ?_
  obtain ⟨tn, ⟨snl, scl, l⟩⟩ := t
  obtain ⟨id, tp, ⟨fnl, fcl, fl⟩⟩ := f
  dsimp only at hl
  (have F_ : _ ∧ _ ∧ _ ∧ _ ∧ _ ∧ _ ∧ _ ∧ _ ∧ _ ∧ _ ∧ _ ∧ _ ∧ _ ∧ _ ∧ _ ∧ _ ∧ _ ∧ _ ∧ _ ∧ _ ∧ _ ∧ _ ∧ _ ∧ _ ∧ _ ∧ _ ∧ _ ∧ _ ∧ _ ∧ _ ∧ _ ∧ _ ∧ _ ∧ _ ∧ _ ∧ _ ∧ _ ∧ _ ∧ _ ∧ _ ∧ _ ∧ _ ∧ _ ∧ _ ∧ _ ∧ _ ∧ _ ∧ _ ∧ _ ∧ _ ∧ _ ∧ _ ∧ _ ∧ _ ∧ _ ∧ _ ∧ _ ∧ _ ∧ _ ∧ _ ∧ _ ∧ _ ∧ _ ∧ _ ∧ _ ∧ _ ∧ _ ∧ _ ∧ _ ∧ _ ∧ _ ∧ _ ∧ _ ∧ _ ∧ _ ∧ _ ∧ _ ∧ _ ∧ _ ∧ _ ∧ _ ∧ _ ∧ _ ∧ _ ∧ _ ∧ _ ∧ _ := ⟨und_2, size_2, agg_2, zero_2, zel_2, small_2, und_3, size_3, agg_3, zero_3, zel_3, small_3, und_5, size_5, agg_5, zero_5, zel_5, small_5, und_9, size_9, agg_9, zero_9, zel_9, small_9, noInt_9, und_28, size_28, agg_28, zero_28, zel_28, small_28, noInt_28, fa_30_0, fd_30_0, fa_30_1, fd_30_1, fa_30_2, fd_30_2, bld_30, size_30, agg_30, zero_30, zel_30, small_30, noInt_30, und_37, size_37, agg_37, zero_37, zel_37, small_37, noInt_37, fa_39_0, fd_39_0, fa_39_1, fd_39_1, bld_39, size_39, agg_39, zero_39, zel_39, small_39, noInt_39, fa_45_0, fd_45_0, fa_45_1, fd_45_1, fa_45_2, fd_45_2, bld_45, size_45, agg_45, zero_45, zel_45, small_45, noInt_45, fa_54_0, fd_54_0, fa_54_1, fd_54_1, bld_54, size_54, agg_54, zero_54, zel_54, small_54, noInt_54⟩; show W CC 0 37 (keepsOf 17) _ ⟨[(0, _), (1, _), (2, _)], []⟩ _)
  ((repeat' (first | with_reducible apply fol | with_reducible refine aRW ?_ | with_reducible refine aRR ?_ | with_reducible refine aRs ?_ | ((with_reducible first | apply RW_gdn | apply RR_gdn | apply RW_gd | apply RR_gd) <;> intro hg <;> first | (cases hg; done) | skip) | with_reducible refine aE1 ?_ | with_reducible refine aE2 ?_ | with_reducible refine aOn ?_ | ((with_reducible refine aCd ?_ ?_) <;> intro hv <;> first | (cases hv; done) | skip) | fail)))
  refine W_rounds (α := Nat) (fun i => ⟨[(2, .t (.str name)), (4, .box 0 0), (6, .box 1 0), (11, .t (.sl snl scl (l.map Slot.c))), (12, .t (.int .i64 l.length)), (13, .t (.int .i64 i))], [.box [.t (.int .i64 id), .t (.int .i64 tp), .t (.sl fnl fcl (fl.map Val.c))], .box [.t (.int .u8 0), .t (.int .i64 0), .t (.str [])]]⟩) (fun i => l.length - i)
    (fun i => i ≤ l.length ∧ ∀ j (hj : j < l.length), j < i → beqL l[j].name name = false) 0 (by kernel_rfl) ⟨Nat.zero_le _, fun j _ hj => by omega⟩ ?_
  rintro i ⟨hi, hn⟩
  by_cases hi' : i < l.length
  · have hw : IntKind.i64.wrap ((i : Int) + 1) = ((i + 1 : Nat) : Int) := by rw [wrap64] <;> omega
    have he : l[i]? = some l[i] := List.getElem?_eq_getElem hi'
    have hd : decide ((i : Int) < l.length) = true := by simpa using hi'
    cases hb : beqL l[i].name name with
    | true =>
      have hf := slot_hit hi' hb hn
      clear hn
      by_cases hj : i < fl.length
      · have he2 : fl[i]? = some fl[i] := List.getElem?_eq_getElem hj
        have hd2 : decide ((i : Int) < fl.length) = true := by simpa using hj
        have hr : atA ⟨tn, ⟨snl, scl, l⟩⟩ ⟨id, tp, ⟨fnl, fcl, fl⟩⟩ name = (fl[i], true) := by unfold atA; simp only [hf, he2]
        rw [hr]
        clear hr hf
        generalize l[i] = b at *
        generalize fl[i] = v at *
        ((repeat' (first | with_reducible apply fol | with_reducible refine aRW ?_ | with_reducible refine aRR ?_ | with_reducible refine aRs ?_ | ((with_reducible first | apply RW_gdn | apply RR_gdn | apply RW_gd | apply RR_gd) <;> intro hg <;> first | (cases hg; done) | skip) | with_reducible refine aE1 ?_ | with_reducible refine aE2 ?_ | with_reducible refine aOn ?_ | ((with_reducible refine aCd ?_ ?_) <;> intro hv <;> first | (cases hv; done) | skip) | fail)))
        ((with_reducible apply Ends'_ret); (focus (simp only [CC_P, results, resultsOf, resultOf, get, load, loadCells, nth, cut, mkAgg, trees, res_17, List.length_cons, List.length_nil, List.take, List.drop, Nat.zero_add, Nat.reduceAdd, Nat.reduceLeDiff, if_true, *]; exact rfl)); (focus (first | exact finish_tree' _ _ _ _ | exact finish_tup2 _ _ _ _ _ | exact finish_tup3 _ _ _ _ _ _ | kernel_rfl)))
        · rfl
        · rfl
      · have he2 : fl[i]? = none := List.getElem?_eq_none (by omega)
        have hd2 : decide ((i : Int) < fl.length) = false := by simpa using hj
        have hr : atA ⟨tn, ⟨snl, scl, l⟩⟩ ⟨id, tp, ⟨fnl, fcl, fl⟩⟩ name = (Zero, false) := by unfold atA; simp only [hf, he2]
        rw [hr]
        clear hr hf
        generalize l[i] = b at *
        ((repeat' (first | with_reducible apply fol | with_reducible refine aRW ?_ | with_reducible refine aRR ?_ | with_reducible refine aRs ?_ | ((with_reducible first | apply RW_gdn | apply RR_gdn | apply RW_gd | apply RR_gd) <;> intro hg <;> first | (cases hg; done) | skip) | with_reducible refine aE1 ?_ | with_reducible refine aE2 ?_ | with_reducible refine aOn ?_ | ((with_reducible refine aCd ?_ ?_) <;> intro hv <;> first | (cases hv; done) | skip) | fail)))
        ((with_reducible apply Ends'_ret); (focus (simp only [CC_P, results, resultsOf, resultOf, get, load, loadCells, nth, cut, mkAgg, trees, res_17, List.length_cons, List.length_nil, List.take, List.drop, Nat.zero_add, Nat.reduceAdd, Nat.reduceLeDiff, if_true, *]; exact rfl)); (focus (first | exact finish_tree' _ _ _ _ | exact finish_tup2 _ _ _ _ _ | exact finish_tup3 _ _ _ _ _ _ | kernel_rfl)))
        · rfl
        · rfl
    | false =>
      have hn' : ∀ j (hj : j < l.length), j < i + 1 → beqL l[j].name name = false := fun j hj hji => by
        rcases Nat.lt_or_ge j i with h | h
        · exact hn j hj h
        · obtain rfl : j = i := by omega
          exact hb
      clear hn
      ((repeat' (first | with_reducible apply fol | with_reducible refine aRW ?_ | with_reducible refine aRR ?_ | with_reducible refine aRs ?_ | ((with_reducible first | apply RW_gdn | apply RR_gdn | apply RW_gd | apply RR_gd) <;> intro hg <;> first | (cases hg; done) | skip) | with_reducible refine aE1 ?_ | with_reducible refine aE2 ?_ | with_reducible refine aOn ?_ | ((with_reducible refine aCd ?_ ?_) <;> intro hv <;> first | (cases hv; done) | skip) | fail)))
      refine again_normal (i + 1) (by omega) ⟨by omega, hn'⟩ (by (simp only [loopKeep, firstRegion, keepsOf, tidy, canon, reach, refsL, refs, refsO, catMap, depth, renL, ren, renO, sub, sub1, upto, mem, place, fresh, cond_true, get, nth, List.map, List.zip_cons_cons, List.zip_nil_right, List.take, List.append_nil, List.nil_append, List.cons_append, beq_dec, decide_true, decide_false, Nat.reduceEqDiff] <;> exact rfl))
  · have hd : decide ((i : Int) < l.length) = false := by simpa using hi'
    have hr : atA ⟨tn, ⟨snl, scl, l⟩⟩ ⟨id, tp, ⟨fnl, fcl, fl⟩⟩ name = (Zero, false) := by unfold atA; simp only [slot_none fun j hj => hn j hj (by omega)]
    rw [hr]
    clear hn hr
    ((repeat' (first | with_reducible apply fol | with_reducible refine aRW ?_ | with_reducible refine aRR ?_ | with_reducible refine aRs ?_ | ((with_reducible first | apply RW_gdn | apply RR_gdn | apply RW_gd | apply RR_gd) <;> intro hg <;> first | (cases hg; done) | skip) | with_reducible refine aE1 ?_ | with_reducible refine aE2 ?_ | with_reducible refine aOn ?_ | ((with_reducible refine aCd ?_ ?_) <;> intro hv <;> first | (cases hv; done) | skip) | fail)))
    ((with_reducible apply Ends'_ret); (focus (simp only [CC_P, results, resultsOf, resultOf, get, load, loadCells, nth, cut, mkAgg, trees, res_17, List.length_cons, List.length_nil, List.take, List.drop, Nat.zero_add, Nat.reduceAdd, Nat.reduceLeDiff, if_true, *]; exact rfl)); (focus (first | exact finish_tree' _ _ _ _ | exact finish_tup2 _ _ _ _ _ | exact finish_tup3 _ _ _ _ _ _ | kernel_rfl)))
    · rfl
    · rfl

end Go.Ab
/- Layer 19 (equality): lists of places in tests. -/
namespace Go.Ab
open Go.Proofs
set_option maxRecDepth 100000
set_option maxHeartbeats 4000000
set_option linter.unusedSimpArgs false
set_option linter.unusedVariables false

def eqI (l r : List Int) : Bool := decide (l = r)
theorem eqI_all {l r : List Int} (h : l.length = r.length) (hn : ∀ j (hj : j < l.length) (hj2 : j < r.length), l[j] = r[j]) : eqI l r = true := by
  simp only [eqI, decide_eq_true_eq]
  exact List.ext_getElem h fun j h1 h2 => hn j h1 h2
theorem eqI_not {l r : List Int} {i : Nat} (hi : i < l.length) (hj : i < r.length) (h : l[i] ≠ r[i]) : eqI l r = false := by
  simp only [eqI, decide_eq_false_iff_not]
  rintro rfl
  exact h rfl
theorem eqI_len {l r : List Int} (h : l.length ≠ r.length) : eqI l r = false := by
  simp only [eqI, decide_eq_false_iff_not]
  rintro rfl
  exact h rfl

theorem equalI_ok (nl cl nl2 cl2 : Bool) (l r : List Int) (hl : l.length < 9223372036854775808) :
    Om CC 31 [.t (.sl nl cl (l.map intC)), .t (.sl nl2 cl2 (r.map intC))] [] = some (.val (.t (.bool (eqI l r))), []) := by
  refine call_eq fun_31 rfl ?_
  (have F_ : _ ∧ _ ∧ _ ∧ _ ∧ _ ∧ _ ∧ _ ∧ _ ∧ _ ∧ _ ∧ _ ∧ _ ∧ _ := ⟨und_3, size_3, agg_3, zero_3, zel_3, small_3, und_71, size_71, agg_71, zero_71, zel_71, small_71, noInt_71⟩; show W CC 0 26 (keepsOf 31) _ ⟨[(0, _), (1, _)], []⟩ _)
  by_cases hlen : l.length = r.length
  · have hlen' : r.length = l.length := hlen.symm
    clear hlen
    ((repeat' (first | with_reducible apply fol | with_reducible refine aRW ?_ | with_reducible refine aRR ?_ | with_reducible refine aRs ?_ | ((with_reducible first | apply RW_gdn | apply RR_gdn | apply RW_gd | apply RR_gd) <;> intro hg <;> first | (cases hg; done) | skip) | with_reducible refine aE1 ?_ | with_reducible refine aE2 ?_ | with_reducible refine aOn ?_ | ((with_reducible refine aCd ?_ ?_) <;> intro hv <;> first | (cases hv; done) | skip) | fail)))
    refine W_rounds (α := Nat) (fun i => ⟨[(0, .t (.sl nl cl (l.map intC))), (1, .t (.sl nl2 cl2 (r.map intC))), (12, .t (.int .i64 l.length)), (13, .t (.int .i64 i))], []⟩) (fun i => l.length - i)
      (fun i => i ≤ l.length ∧ ∀ j (hj : j < l.length) (hj2 : j < r.length), j < i → l[j] = r[j]) 0 (by kernel_rfl) ⟨Nat.zero_le _, fun j _ _ hj => by omega⟩ ?_
    rintro i ⟨hi, hn⟩
    by_cases hi' : i < l.length
    · have hw : IntKind.i64.wrap ((i : Int) + 1) = ((i + 1 : Nat) : Int) := by rw [wrap64] <;> omega
      have hj' : i < r.length := hlen'.symm ▸ hi'
      have he : l[i]? = some l[i] := List.getElem?_eq_getElem hi'
      have he2 : r[i]? = some r[i] := List.getElem?_eq_getElem hj'
      have hd : decide ((i : Int) < l.length) = true := by simpa using hi'
      by_cases hb : l[i] = r[i]
      · have hb' : (l[i] != r[i]) = false := by simpa using hb
        have hn' : ∀ j (hj : j < l.length) (hj2 : j < r.length), j < i + 1 → l[j] = r[j] := fun j hj hj2 hji => by
          rcases Nat.lt_or_ge j i with h | h
          · exact hn j hj hj2 h
          · obtain rfl : j = i := by omega
            exact hb
        clear hn hb
        ((repeat' (first | with_reducible apply fol | with_reducible refine aRW ?_ | with_reducible refine aRR ?_ | with_reducible refine aRs ?_ | ((with_reducible first | apply RW_gdn | apply RR_gdn | apply RW_gd | apply RR_gd) <;> intro hg <;> first | (cases hg; done) | skip) | with_reducible refine aE1 ?_ | with_reducible refine aE2 ?_ | with_reducible refine aOn ?_ | ((with_reducible refine aCd ?_ ?_) <;> intro hv <;> first | (cases hv; done) | skip) | fail)))
        refine again_normal (i + 1) (by omega) ⟨by omega, hn'⟩ (by (simp only [loopKeep, firstRegion, keepsOf, tidy, canon, reach, refsL, refs, catMap, depth, renL, ren, sub, sub1, upto, mem, place, fresh, get, nth, List.map, List.zip_cons_cons, List.zip_nil_right, List.take, List.append_nil] <;> exact rfl))
      · have hb' : (l[i] != r[i]) = true := by simpa using hb
        have hr : eqI l r = false := eqI_not hi' hj' hb
        rw [hr]
        clear hn hr hb
        ((repeat' (first | with_reducible apply fol | with_reducible refine aRW ?_ | with_reducible refine aRR ?_ | with_reducible refine aRs ?_ | ((with_reducible first | apply RW_gdn | apply RR_gdn | apply RW_gd | apply RR_gd) <;> intro hg <;> first | (cases hg; done) | skip) | with_reducible refine aE1 ?_ | with_reducible refine aE2 ?_ | with_reducible refine aOn ?_ | ((with_reducible refine aCd ?_ ?_) <;> intro hv <;> first | (cases hv; done) | skip) | fail)))
        exact ⟨.t (.bool false), by kernel_rfl, by kernel_rfl⟩
    · have hd : decide ((i : Int) < l.length) = false := by simpa using hi'
      have hr : eqI l r = true := eqI_all hlen'.symm fun j hj hj2 => hn j hj hj2 (by omega)
      rw [hr]
      clear hn hr
      ((repeat' (first | with_reducible apply fol | with_reducible refine aRW ?_ | with_reducible refine aRR ?_ | with_reducible refine aRs ?_ | ((with_reducible first | apply RW_gdn | apply RR_gdn | apply RW_gd | apply RR_gd) <;> intro hg <;> first | (cases hg; done) | skip) | with_reducible refine aE1 ?_ | with_reducible refine aE2 ?_ | with_reducible refine aOn ?_ | ((with_reducible refine aCd ?_ ?_) <;> intro hv <;> first | (cases hv; done) | skip) | fail)))
      exact ⟨.t (.bool true), by kernel_rfl, by kernel_rfl⟩
  · have h0 : (((l.length : Nat) : Int) != (r.length : Int)) = true := by
      rw [bne_iff_ne]
      omega
    rw [eqI_len hlen]
    clear hlen
    ((repeat' (first | with_reducible apply fol | with_reducible refine aRW ?_ | with_reducible refine aRR ?_ | with_reducible refine aRs ?_ | ((with_reducible first | apply RW_gdn | apply RR_gdn | apply RW_gd | apply RR_gd) <;> intro hg <;> first | (cases hg; done) | skip) | with_reducible refine aE1 ?_ | with_reducible refine aE2 ?_ | with_reducible refine aOn ?_ | ((with_reducible refine aCd ?_ ?_) <;> intro hv <;> first | (cases hv; done) | skip) | fail)))
    exact ⟨.t (.bool false), by kernel_rfl, by kernel_rfl⟩

end Go.Ab
/- Layer 20 (equality): nodes but for their places. -/
namespace Go.Ab
open Go.Proofs
set_option maxRecDepth 100000
set_option maxHeartbeats 4000000
set_option linter.unusedSimpArgs false
set_option linter.unusedVariables false

def sameN (a b : Node) : Bool := (a.op == b.op) && (decide (a.v = b.v) && (beqL a.name b.name && eqI a.kids.l b.kids.l))
theorem val_eql (k n : Int) (s : List Nat) (k' n' : Int) (s' : List Nat) : binop Tryz.prog .eql 45 (.t (.agg [.int .u8 k, .int .i64 n, .str s])) (.t (.agg [.int .u8 k', .int .i64 n', .str s'])) = some (.t (.bool (decide ((⟨k, n, s⟩ : Val) = ⟨k', n', s'⟩)))) := by
  show binop Tryz.prog .eql 45 (.t (.agg (Val.c ⟨k, n, s⟩))) (.t (.agg (Val.c ⟨k', n', s'⟩))) = _
  rw [agg_eql _ _ _ _ grd_45, val_eq 98]; rfl

theorem sameN_ok (a b : Node) (hk : a.kids.l.length < 9223372036854775808) :
    Om CC 41 [.t (.agg a.c), .t (.agg b.c)] [] = some (.val (.t (.bool (sameN a b))), []) := by
  refine call_eq fun_41 rfl ?_
  obtain ⟨op, ⟨k, n, s⟩, name, ⟨nl, cl, kids⟩, line, col⟩ := a
  obtain ⟨op', ⟨k', n', s'⟩, name', ⟨nl', cl', kids'⟩, line', col'⟩ := b
  dsimp only at hk
  have hq := equalI_ok nl cl nl' cl' kids kids' hk
  have hx := val_eql k n s k' n' s'
  simp only [sameN]
  generalize decide ((⟨k, n, s⟩ : Val) = ⟨k', n', s'⟩) = e2 at *
  generalize eqI kids kids' = e4 at *
  cases e1 : (op == op') with
  | false =>
    (have F_ : _ ∧ _ ∧ _ ∧ _ ∧ _ ∧ _ ∧ _ ∧ _ ∧ _ ∧ _ ∧ _ ∧ _ ∧ _ ∧ _ ∧ _ ∧ _ ∧ _ ∧ _ ∧ _ ∧ _ ∧ _ ∧ _ ∧ _ ∧ _ ∧ _ ∧ _ ∧ _ ∧ _ ∧ _ ∧ _ ∧ _ ∧ _ ∧ _ ∧ _ ∧ _ ∧ _ ∧ _ ∧ _ ∧ _ ∧ _ ∧ _ ∧ _ ∧ _ ∧ _ ∧ _ ∧ _ ∧ _ ∧ _ ∧ _ ∧ _ ∧ _ ∧ _ ∧ _ ∧ _ ∧ _ ∧ _ ∧ _ ∧ _ ∧ _ ∧ _ ∧ _ ∧ _ ∧ _ ∧ _ ∧ _ ∧ _ ∧ _ ∧ _ ∧ _ ∧ _ ∧ _ ∧ _ ∧ _ := ⟨und_2, size_2, agg_2, zero_2, zel_2, small_2, und_3, size_3, agg_3, zero_3, zel_3, small_3, und_5, size_5, agg_5, zero_5, zel_5, small_5, und_9, size_9, agg_9, zero_9, zel_9, small_9, noInt_9, fa_25_0, fd_25_0, fa_25_1, fd_25_1, bld_25, size_25, agg_25, zero_25, zel_25, small_25, noInt_25, fa_45_0, fd_45_0, fa_45_1, fd_45_1, fa_45_2, fd_45_2, bld_45, size_45, agg_45, zero_45, zel_45, small_45, noInt_45, und_71, size_71, agg_71, zero_71, zel_71, small_71, noInt_71, fa_75_0, fd_75_0, fa_75_1, fd_75_1, fa_75_2, fd_75_2, fa_75_3, fd_75_3, fa_75_4, fd_75_4, bld_75, size_75, agg_75, zero_75, zel_75, small_75, noInt_75⟩; show W CC 0 31 (keepsOf 41) _ ⟨[(0, _), (1, _)], []⟩ _)
    ((repeat' (first | with_reducible apply fol | with_reducible refine aRW ?_ | with_reducible refine aRR ?_ | with_reducible refine aRs ?_ | ((with_reducible first | apply RW_gdn | apply RR_gdn | apply RW_gd | apply RR_gd) <;> intro hg <;> first | (cases hg; done) | skip) | with_reducible refine aE1 ?_ | with_reducible refine aE2 ?_ | with_reducible refine aOn ?_ | ((with_reducible refine aCd ?_ ?_) <;> intro hv <;> first | (cases hv; done) | skip) | fail)))
    exact ⟨.t (.bool false), by kernel_rfl, by kernel_rfl⟩
  | true =>
    cases e2 with
    | false =>
      (have F_ : _ ∧ _ ∧ _ ∧ _ ∧ _ ∧ _ ∧ _ ∧ _ ∧ _ ∧ _ ∧ _ ∧ _ ∧ _ ∧ _ ∧ _ ∧ _ ∧ _ ∧ _ ∧ _ ∧ _ ∧ _ ∧ _ ∧ _ ∧ _ ∧ _ ∧ _ ∧ _ ∧ _ ∧ _ ∧ _ ∧ _ ∧ _ ∧ _ ∧ _ ∧ _ ∧ _ ∧ _ ∧ _ ∧ _ ∧ _ ∧ _ ∧ _ ∧ _ ∧ _ ∧ _ ∧ _ ∧ _ ∧ _ ∧ _ ∧ _ ∧ _ ∧ _ ∧ _ ∧ _ ∧ _ ∧ _ ∧ _ ∧ _ ∧ _ ∧ _ ∧ _ ∧ _ ∧ _ ∧ _ ∧ _ ∧ _ ∧ _ ∧ _ ∧ _ ∧ _ ∧ _ ∧ _ ∧ _ := ⟨und_2, size_2, agg_2, zero_2, zel_2, small_2, und_3, size_3, agg_3, zero_3, zel_3, small_3, und_5, size_5, agg_5, zero_5, zel_5, small_5, und_9, size_9, agg_9, zero_9, zel_9, small_9, noInt_9, fa_25_0, fd_25_0, fa_25_1, fd_25_1, bld_25, size_25, agg_25, zero_25, zel_25, small_25, noInt_25, fa_45_0, fd_45_0, fa_45_1, fd_45_1, fa_45_2, fd_45_2, bld_45, size_45, agg_45, zero_45, zel_45, small_45, noInt_45, und_71, size_71, agg_71, zero_71, zel_71, small_71, noInt_71, fa_75_0, fd_75_0, fa_75_1, fd_75_1, fa_75_2, fd_75_2, fa_75_3, fd_75_3, fa_75_4, fd_75_4, bld_75, size_75, agg_75, zero_75, zel_75, small_75, noInt_75⟩; show W CC 0 31 (keepsOf 41) _ ⟨[(0, _), (1, _)], []⟩ _)
      ((repeat' (first | with_reducible apply fol | with_reducible refine aRW ?_ | with_reducible refine aRR ?_ | with_reducible refine aRs ?_ | ((with_reducible first | apply RW_gdn | apply RR_gdn | apply RW_gd | apply RR_gd) <;> intro hg <;> first | (cases hg; done) | skip) | with_reducible refine aE1 ?_ | with_reducible refine aE2 ?_ | with_reducible refine aOn ?_ | ((with_reducible refine aCd ?_ ?_) <;> intro hv <;> first | (cases hv; done) | skip) | fail)))
      exact ⟨.t (.bool false), by kernel_rfl, by kernel_rfl⟩
    | true =>
      cases e3 : beqL name name' with
      | false =>
        (have F_ : _ ∧ _ ∧ _ ∧ _ ∧ _ ∧ _ ∧ _ ∧ _ ∧ _ ∧ _ ∧ _ ∧ _ ∧ _ ∧ _ ∧ _ ∧ _ ∧ _ ∧ _ ∧ _ ∧ _ ∧ _ ∧ _ ∧ _ ∧ _ ∧ _ ∧ _ ∧ _ ∧ _ ∧ _ ∧ _ ∧ _ ∧ _ ∧ _ ∧ _ ∧ _ ∧ _ ∧ _ ∧ _ ∧ _ ∧ _ ∧ _ ∧ _ ∧ _ ∧ _ ∧ _ ∧ _ ∧ _ ∧ _ ∧ _ ∧ _ ∧ _ ∧ _ ∧ _ ∧ _ ∧ _ ∧ _ ∧ _ ∧ _ ∧ _ ∧ _ ∧ _ ∧ _ ∧ _ ∧ _ ∧ _ ∧ _ ∧ _ ∧ _ ∧ _ ∧ _ ∧ _ ∧ _ ∧ _ := ⟨und_2, size_2, agg_2, zero_2, zel_2, small_2, und_3, size_3, agg_3, zero_3, zel_3, small_3, und_5, size_5, agg_5, zero_5, zel_5, small_5, und_9, size_9, agg_9, zero_9, zel_9, small_9, noInt_9, fa_25_0, fd_25_0, fa_25_1, fd_25_1, bld_25, size_25, agg_25, zero_25, zel_25, small_25, noInt_25, fa_45_0, fd_45_0, fa_45_1, fd_45_1, fa_45_2, fd_45_2, bld_45, size_45, agg_45, zero_45, zel_45, small_45, noInt_45, und_71, size_71, agg_71, zero_71, zel_71, small_71, noInt_71, fa_75_0, fd_75_0, fa_75_1, fd_75_1, fa_75_2, fd_75_2, fa_75_3, fd_75_3, fa_75_4, fd_75_4, bld_75, size_75, agg_75, zero_75, zel_75, small_75, noInt_75⟩; show W CC 0 31 (keepsOf 41) _ ⟨[(0, _), (1, _)], []⟩ _)
        ((repeat' (first | with_reducible apply fol | with_reducible refine aRW ?_ | with_reducible refine aRR ?_ | with_reducible refine aRs ?_ | ((with_reducible first | apply RW_gdn | apply RR_gdn | apply RW_gd | apply RR_gd) <;> intro hg <;> first | (cases hg; done) | skip) | with_reducible refine aE1 ?_ | with_reducible refine aE2 ?_ | with_reducible refine aOn ?_ | ((with_reducible refine aCd ?_ ?_) <;> intro hv <;> first | (cases hv; done) | skip) | fail)))
        exact ⟨.t (.bool false), by kernel_rfl, by kernel_rfl⟩
      | true =>
        (have F_ : _ ∧ _ ∧ _ ∧ _ ∧ _ ∧ _ ∧ _ ∧ _ ∧ _ ∧ _ ∧ _ ∧ _ ∧ _ ∧ _ ∧ _ ∧ _ ∧ _ ∧ _ ∧ _ ∧ _ ∧ _ ∧ _ ∧ _ ∧ _ ∧ _ ∧ _ ∧ _ ∧ _ ∧ _ ∧ _ ∧ _ ∧ _ ∧ _ ∧ _ ∧ _ ∧ _ ∧ _ ∧ _ ∧ _ ∧ _ ∧ _ ∧ _ ∧ _ ∧ _ ∧ _ ∧ _ ∧ _ ∧ _ ∧ _ ∧ _ ∧ _ ∧ _ ∧ _ ∧ _ ∧ _ ∧ _ ∧ _ ∧ _ ∧ _ ∧ _ ∧ _ ∧ _ ∧ _ ∧ _ ∧ _ ∧ _ ∧ _ ∧ _ ∧ _ ∧ _ ∧ _ ∧ _ ∧ _ := ⟨und_2, size_2, agg_2, zero_2, zel_2, small_2, und_3, size_3, agg_3, zero_3, zel_3, small_3, und_5, size_5, agg_5, zero_5, zel_5, small_5, und_9, size_9, agg_9, zero_9, zel_9, small_9, noInt_9, fa_25_0, fd_25_0, fa_25_1, fd_25_1, bld_25, size_25, agg_25, zero_25, zel_25, small_25, noInt_25, fa_45_0, fd_45_0, fa_45_1, fd_45_1, fa_45_2, fd_45_2, bld_45, size_45, agg_45, zero_45, zel_45, small_45, noInt_45, und_71, size_71, agg_71, zero_71, zel_71, small_71, noInt_71, fa_75_0, fd_75_0, fa_75_1, fd_75_1, fa_75_2, fd_75_2, fa_75_3, fd_75_3, fa_75_4, fd_75_4, bld_75, size_75, agg_75, zero_75, zel_75, small_75, noInt_75⟩; show W CC 0 31 (keepsOf 41) _ ⟨[(0, _), (1, _)], []⟩ _)
        (have x0_ := @hb_31; (repeat' (first | with_reducible apply fol | with_reducible refine aRW ?_ | with_reducible refine aRR ?_ | with_reducible refine aRs ?_ | ((with_reducible first | apply RW_gdn | apply RR_gdn | apply RW_gd | apply RR_gd) <;> intro hg <;> first | (cases hg; done) | skip) | with_reducible refine aE1 ?_ | with_reducible refine aE2 ?_ | with_reducible refine aOn ?_ | ((with_reducible refine aCd ?_ ?_) <;> intro hv <;> first | (cases hv; done) | skip) | fail)); all_goals clear x0_)
        exact ⟨.t (.bool e4), by kernel_rfl, by kernel_rfl⟩

end Go.Ab
/- Layer 21 (equality): lists of nodes. -/
namespace Go.Ab
open Go.Proofs
set_option maxRecDepth 100000
set_option maxHeartbeats 4000000
set_option linter.unusedSimpArgs false
set_option linter.unusedVariables false

def eqBy {α : Type} (f : α → α → Bool) : List α → List α → Bool
  | [], [] => true
  | a :: l, b :: r => f a b && eqBy f l r
  | _, _ => false
theorem eqBy_all {α : Type} {f : α → α → Bool} : ∀ {l r : List α} (_ : r.length = l.length) (_ : ∀ j (hj : j < l.length) (hj2 : j < r.length), f l[j] r[j] = true), eqBy f l r = true
  | [], [], _, _ => rfl
  | a :: l, b :: r, h, hn => by
    have h0 := hn 0 (by simp) (by simp)
    have h1 := eqBy_all (l := l) (r := r) (by simpa using h) fun j hj hj2 => by
      have := hn (j + 1) (by simp; omega) (by simp; omega)
      simpa using this
    simp only [List.getElem_cons_zero] at h0
    simp [eqBy, h0, h1]
  | [], _ :: _, h, _ => by simp at h
  | _ :: _, [], h, _ => by simp at h
theorem eqBy_not {α : Type} {f : α → α → Bool} : ∀ {l r : List α} {i : Nat} (hi : i < l.length) (hj : i < r.length) (_ : f l[i] r[i] = false), eqBy f l r = false
  | a :: l, b :: r, 0, _, _, h => by
    simp only [List.getElem_cons_zero] at h
    simp [eqBy, h]
  | a :: l, b :: r, i + 1, hi, hj, h => by
    simp only [List.getElem_cons_succ] at h
    simp [eqBy, eqBy_not (by simpa using hi) (by simpa using hj) h]
theorem eqBy_len {α : Type} {f : α → α → Bool} : ∀ {l r : List α} (_ : l.length ≠ r.length), eqBy f l r = false
  | [], [], h => by simp at h
  | a :: l, b :: r, h => by simp [eqBy, eqBy_len (f := f) (l := l) (r := r) (by simpa using h)]
  | [], _ :: _, _ => rfl
  | _ :: _, [], _ => rfl

theorem equalN_ok (nl cl nl2 cl2 : Bool) (l r : List Node) (hl : l.length < 9223372036854775808) (hk : ∀ x ∈ l, x.kids.l.length < 9223372036854775808) :
    Om CC 40 [.t (.sl nl cl (l.map Node.c)), .t (.sl nl2 cl2 (r.map Node.c)), .t (.fn 41)] [] = some (.val (.t (.bool (eqBy sameN l r))), []) := by
  refine call_eq fun_40 rfl ?_
  (have F_ : _ ∧ _ ∧ _ ∧ _ ∧ _ ∧ _ ∧ _ ∧ _ ∧ _ ∧ _ ∧ _ ∧ _ ∧ _ ∧ _ ∧ _ ∧ _ ∧ _ ∧ _ ∧ _ ∧ _ ∧ _ ∧ _ ∧ _ ∧ _ ∧ _ ∧ _ ∧ _ ∧ _ ∧ _ ∧ _ ∧ _ ∧ _ ∧ _ ∧ _ ∧ _ ∧ _ ∧ _ ∧ _ ∧ _ ∧ _ ∧ _ ∧ _ ∧ _ ∧ _ ∧ _ ∧ _ ∧ _ ∧ _ ∧ _ ∧ _ ∧ _ ∧ _ ∧ _ ∧ _ ∧ _ ∧ _ ∧ _ ∧ _ ∧ _ ∧ _ ∧ _ ∧ _ ∧ _ ∧ _ ∧ _ ∧ _ ∧ _ ∧ _ ∧ _ ∧ _ ∧ _ ∧ _ ∧ _ ∧ _ ∧ _ ∧ _ ∧ _ ∧ _ ∧ _ ∧ _ ∧ _ ∧ _ ∧ _ ∧ _ ∧ _ ∧ _ ∧ _ ∧ _ ∧ _ ∧ _ ∧ _ ∧ _ ∧ _ := ⟨und_2, size_2, agg_2, zero_2, zel_2, small_2, und_3, size_3, agg_3, zero_3, zel_3, small_3, und_4, size_4, agg_4, zero_4, zel_4, small_4, noInt_4, und_5, size_5, agg_5, zero_5, zel_5, small_5, und_9, size_9, agg_9, zero_9, zel_9, small_9, noInt_9, fa_25_0, fd_25_0, fa_25_1, fd_25_1, bld_25, size_25, agg_25, zero_25, zel_25, small_25, noInt_25, fa_45_0, fd_45_0, fa_45_1, fd_45_1, fa_45_2, fd_45_2, bld_45, size_45, agg_45, zero_45, zel_45, small_45, noInt_45, und_70, size_70, agg_70, zero_70, zel_70, small_70, noInt_70, und_71, size_71, agg_71, zero_71, zel_71, small_71, noInt_71, fa_75_0, fd_75_0, fa_75_1, fd_75_1, fa_75_2, fd_75_2, fa_75_3, fd_75_3, fa_75_4, fd_75_4, bld_75, size_75, agg_75, zero_75, zel_75, small_75, noInt_75, size_115, agg_115, zero_115, zel_115, small_115, noInt_115⟩; show W CC 0 32 (keepsOf 40) _ ⟨[(0, _), (1, _), (2, _)], []⟩ _)
  by_cases hlen : l.length = r.length
  · have hlen' : r.length = l.length := hlen.symm
    clear hlen
    ((repeat' (first | with_reducible apply fol | with_reducible refine aRW ?_ | with_reducible refine aRR ?_ | with_reducible refine aRs ?_ | ((with_reducible first | apply RW_gdn | apply RR_gdn | apply RW_gd | apply RR_gd) <;> intro hg <;> first | (cases hg; done) | skip) | with_reducible refine aE1 ?_ | with_reducible refine aE2 ?_ | with_reducible refine aOn ?_ | ((with_reducible refine aCd ?_ ?_) <;> intro hv <;> first | (cases hv; done) | skip) | fail)))
    refine W_rounds (α := Nat) (fun i => ⟨[(1, .t (.sl nl2 cl2 (r.map Node.c))), (2, .t (.fn 41)), (15, .t (.sl nl cl (l.map Node.c))), (16, .t (.int .i64 l.length)), (17, .t (.int .i64 i))], []⟩) (fun i => l.length - i)
      (fun i => i ≤ l.length ∧ ∀ j (hj : j < l.length) (hj2 : j < r.length), j < i → sameN l[j] r[j] = true) 0 (by kernel_rfl) ⟨Nat.zero_le _, fun j _ _ hj => by omega⟩ ?_
    rintro i ⟨hi, hn⟩
    by_cases hi' : i < l.length
    · have hw : IntKind.i64.wrap ((i : Int) + 1) = ((i + 1 : Nat) : Int) := by rw [wrap64] <;> omega
      have hj' : i < r.length := hlen'.symm ▸ hi'
      have he : l[i]? = some l[i] := List.getElem?_eq_getElem hi'
      have he2 : r[i]? = some r[i] := List.getElem?_eq_getElem hj'
      have hd : decide ((i : Int) < l.length) = true := by simpa using hi'
      have hc := sameN_ok l[i] r[i] (hk _ (List.getElem_mem hi'))
      cases hb : sameN l[i] r[i] with
      | true =>
        have hn' : ∀ j (hj : j < l.length) (hj2 : j < r.length), j < i + 1 → sameN l[j] r[j] = true := fun j hj hj2 hji => by
          rcases Nat.lt_or_ge j i with h | h
          · exact hn j hj hj2 h
          · obtain rfl : j = i := by omega
            exact hb
        rw [hb] at hc
        simp only [Node.c, Sl.t] at hc
        clear hn hb hk
        generalize l[i] = a at *
        generalize r[i] = b at *
        (have x0_ := @hb_41; (repeat' (first | with_reducible apply fol | with_reducible refine aRW ?_ | with_reducible refine aRR ?_ | with_reducible refine aRs ?_ | ((with_reducible first | apply RW_gdn | apply RR_gdn | apply RW_gd | apply RR_gd) <;> intro hg <;> first | (cases hg; done) | skip) | with_reducible refine aE1 ?_ | with_reducible refine aE2 ?_ | with_reducible refine aOn ?_ | ((with_reducible refine aCd ?_ ?_) <;> intro hv <;> first | (cases hv; done) | skip) | fail)); all_goals clear x0_)
        refine again_normal (i + 1) (by omega) ⟨by omega, hn'⟩ (by (simp only [loopKeep, firstRegion, keepsOf, tidy, canon, reach, refsL, refs, catMap, depth, renL, ren, sub, sub1, upto, mem, place, fresh, get, List.map, List.zip_cons_cons, List.zip_nil_right, List.take, List.append_nil, beq_dec] <;> exact rfl))
      | false =>
        have hr : eqBy sameN l r = false := eqBy_not hi' hj' hb
        rw [hr]
        rw [hb] at hc
        simp only [Node.c, Sl.t] at hc
        clear hn hr hb hk
        generalize l[i] = a at *
        generalize r[i] = b at *
        (have x0_ := @hb_41; (repeat' (first | with_reducible apply fol | with_reducible refine aRW ?_ | with_reducible refine aRR ?_ | with_reducible refine aRs ?_ | ((with_reducible first | apply RW_gdn | apply RR_gdn | apply RW_gd | apply RR_gd) <;> intro hg <;> first | (cases hg; done) | skip) | with_reducible refine aE1 ?_ | with_reducible refine aE2 ?_ | with_reducible refine aOn ?_ | ((with_reducible refine aCd ?_ ?_) <;> intro hv <;> first | (cases hv; done) | skip) | fail)); all_goals clear x0_)
        exact ⟨.t (.bool false), by kernel_rfl, by kernel_rfl⟩
    · have hd : decide ((i : Int) < l.length) = false := by simpa using hi'
      have hr : eqBy sameN l r = true := eqBy_all hlen' fun j hj hj2 => hn j hj hj2 (by omega)
      rw [hr]
      clear hn hr hk
      ((repeat' (first | with_reducible apply fol | with_reducible refine aRW ?_ | with_reducible refine aRR ?_ | with_reducible refine aRs ?_ | ((with_reducible first | apply RW_gdn | apply RR_gdn | apply RW_gd | apply RR_gd) <;> intro hg <;> first | (cases hg; done) | skip) | with_reducible refine aE1 ?_ | with_reducible refine aE2 ?_ | with_reducible refine aOn ?_ | ((with_reducible refine aCd ?_ ?_) <;> intro hv <;> first | (cases hv; done) | skip) | fail)))
      exact ⟨.t (.bool true), by kernel_rfl, by kernel_rfl⟩
  · have h0 : (((l.length : Nat) : Int) != (r.length : Int)) = true := by
      rw [bne_iff_ne]
      omega
    rw [eqBy_len hlen]
    clear hlen hk
    ((repeat' (first | with_reducible apply fol | with_reducible refine aRW ?_ | with_reducible refine aRR ?_ | with_reducible refine aRs ?_ | ((with_reducible first | apply RW_gdn | apply RR_gdn | apply RW_gd | apply RR_gd) <;> intro hg <;> first | (cases hg; done) | skip) | with_reducible refine aE1 ?_ | with_reducible refine aE2 ?_ | with_reducible refine aOn ?_ | ((with_reducible refine aCd ?_ ?_) <;> intro hv <;> first | (cases hv; done) | skip) | fail)))
    exact ⟨.t (.bool false), by kernel_rfl, by kernel_rfl⟩

theorem sameX_ok (nl cl nl2 cl2 : Bool) (l r : List Node) (hl : l.length < 9223372036854775808) (hk : ∀ x ∈ l, x.kids.l.length < 9223372036854775808) :
    Om CC 32 [.t (.sl nl cl (l.map Node.c)), .t (.sl nl2 cl2 (r.map Node.c))] [] = some (.val (.t (.bool (eqBy sameN l r))), []) := by
  refine call_eq fun_32 rfl ?_
  have hc := equalN_ok nl cl nl2 cl2 l r hl hk
  generalize eqBy sameN l r = e at *
  clear hk
  (have F_ : _ ∧ _ ∧ _ ∧ _ ∧ _ ∧ _ ∧ _ ∧ _ ∧ _ ∧ _ ∧ _ ∧ _ ∧ _ ∧ _ ∧ _ ∧ _ ∧ _ ∧ _ ∧ _ ∧ _ ∧ _ ∧ _ ∧ _ ∧ _ ∧ _ ∧ _ ∧ _ ∧ _ ∧ _ ∧ _ ∧ _ ∧ _ ∧ _ ∧ _ ∧ _ ∧ _ ∧ _ ∧ _ ∧ _ ∧ _ ∧ _ ∧ _ ∧ _ ∧ _ ∧ _ ∧ _ ∧ _ ∧ _ ∧ _ ∧ _ ∧ _ ∧ _ ∧ _ ∧ _ ∧ _ ∧ _ ∧ _ ∧ _ ∧ _ ∧ _ ∧ _ ∧ _ ∧ _ ∧ _ ∧ _ ∧ _ ∧ _ ∧ _ ∧ _ ∧ _ ∧ _ ∧ _ ∧ _ ∧ _ ∧ _ ∧ _ ∧ _ ∧ _ ∧ _ ∧ _ ∧ _ ∧ _ ∧ _ ∧ _ ∧ _ ∧ _ := ⟨und_2, size_2, agg_2, zero_2, zel_2, small_2, und_3, size_3, agg_3, zero_3, zel_3, small_3, und_5, size_5, agg_5, zero_5, zel_5, small_5, und_9, size_9, agg_9, zero_9, zel_9, small_9, noInt_9, fa_25_0, fd_25_0, fa_25_1, fd_25_1, bld_25, size_25, agg_25, zero_25, zel_25, small_25, noInt_25, fa_45_0, fd_45_0, fa_45_1, fd_45_1, fa_45_2, fd_45_2, bld_45, size_45, agg_45, zero_45, zel_45, small_45, noInt_45, und_70, size_70, agg_70, zero_70, zel_70, small_70, noInt_70, und_71, size_71, agg_71, zero_71, zel_71, small_71, noInt_71, fa_75_0, fd_75_0, fa_75_1, fd_75_1, fa_75_2, fd_75_2, fa_75_3, fd_75_3, fa_75_4, fd_75_4, bld_75, size_75, agg_75, zero_75, zel_75, small_75, noInt_75, size_115, agg_115, zero_115, zel_115, small_115, noInt_115⟩; show W CC 0 8 (keepsOf 32) _ ⟨[(0, _), (1, _)], []⟩ _)
  (have x0_ := @hb_40; (repeat' (first | with_reducible apply fol | with_reducible refine aRW ?_ | with_reducible refine aRR ?_ | with_reducible refine aRs ?_ | ((with_reducible first | apply RW_gdn | apply RR_gdn | apply RW_gd | apply RR_gd) <;> intro hg <;> first | (cases hg; done) | skip) | with_reducible refine aE1 ?_ | with_reducible refine aE2 ?_ | with_reducible refine aOn ?_ | ((with_reducible refine aCd ?_ ?_) <;> intro hv <;> first | (cases hv; done) | skip) | fail)); all_goals clear x0_)
  exact ⟨.t (.bool e), by kernel_rfl, by kernel_rfl⟩

end Go.Ab
/- Layer 22 (equality): tests but for their places. -/
namespace Go.Ab
open Go.Proofs
set_option maxRecDepth 100000
set_option maxHeartbeats 4000000
set_option linter.unusedSimpArgs false
set_option linter.unusedVariables false

def sameT (a b : Test) : Bool := (a.op == b.op) && ((a.low == b.low) && ((a.high == b.high) && (eqI a.kids.l b.kids.l && (eqBy sameN a.a.l b.a.l && eqBy sameN a.b.l b.b.l))))
def TLen (a : Test) : Prop := a.kids.l.length < 9223372036854775808 ∧ (a.a.l.length < 9223372036854775808 ∧ ∀ x ∈ a.a.l, x.kids.l.length < 9223372036854775808) ∧ (a.b.l.length < 9223372036854775808 ∧ ∀ x ∈ a.b.l, x.kids.l.length < 9223372036854775808)

theorem sameT_ok (a b : Test) (hk : TLen a) :
    Om CC 30 [.t (.agg a.c), .t (.agg b.c)] [] = some (.val (.t (.bool (sameT a b))), []) := by
  refine call_eq fun_30 rfl ?_
  obtain ⟨op, ⟨anl, acl, al⟩, ⟨bnl, bcl, bl⟩, lo, hi1, ⟨nl, cl, kids⟩, line, col⟩ := a
  obtain ⟨op', ⟨anl', acl', al'⟩, ⟨bnl', bcl', bl'⟩, lo', hi1', ⟨nl', cl', kids'⟩, line', col'⟩ := b
  obtain ⟨h1, ⟨h2, h3⟩, ⟨h4, h5⟩⟩ := hk
  dsimp only at h1 h2 h3 h4 h5
  have hi := equalI_ok nl cl nl' cl' kids kids' h1
  have hx := sameX_ok anl acl anl' acl' al al' h2 h3
  have hy := sameX_ok bnl bcl bnl' bcl' bl bl' h4 h5
  clear h1 h2 h3 h4 h5
  simp only [sameT]
  generalize eqI kids kids' = ei at *
  generalize eqBy sameN al al' = ex at *
  generalize eqBy sameN bl bl' = ey at *
  cases e1 : (op == op') with
  | false =>
    (have F_ : _ ∧ _ ∧ _ ∧ _ ∧ _ ∧ _ ∧ _ ∧ _ ∧ _ ∧ _ ∧ _ ∧ _ ∧ _ ∧ _ ∧ _ ∧ _ ∧ _ ∧ _ ∧ _ ∧ _ ∧ _ ∧ _ ∧ _ ∧ _ ∧ _ ∧ _ ∧ _ ∧ _ ∧ _ ∧ _ ∧ _ ∧ _ ∧ _ ∧ _ ∧ _ ∧ _ ∧ _ ∧ _ ∧ _ ∧ _ ∧ _ ∧ _ ∧ _ ∧ _ ∧ _ ∧ _ ∧ _ ∧ _ ∧ _ ∧ _ ∧ _ ∧ _ ∧ _ ∧ _ ∧ _ ∧ _ ∧ _ ∧ _ ∧ _ ∧ _ ∧ _ ∧ _ ∧ _ ∧ _ ∧ _ ∧ _ ∧ _ ∧ _ ∧ _ ∧ _ ∧ _ ∧ _ ∧ _ ∧ _ ∧ _ ∧ _ ∧ _ ∧ _ ∧ _ ∧ _ ∧ _ ∧ _ ∧ _ ∧ _ ∧ _ ∧ _ ∧ _ ∧ _ ∧ _ ∧ _ ∧ _ ∧ _ ∧ _ ∧ _ ∧ _ ∧ _ ∧ _ ∧ _ ∧ _ ∧ _ ∧ _ ∧ _ ∧ _ ∧ _ ∧ _ ∧ _ ∧ _ ∧ _ := ⟨und_2, size_2, agg_2, zero_2, zel_2, small_2, und_3, size_3, agg_3, zero_3, zel_3, small_3, und_4, size_4, agg_4, zero_4, zel_4, small_4, noInt_4, und_5, size_5, agg_5, zero_5, zel_5, small_5, und_9, size_9, agg_9, zero_9, zel_9, small_9, noInt_9, fa_25_0, fd_25_0, fa_25_1, fd_25_1, bld_25, size_25, agg_25, zero_25, zel_25, small_25, noInt_25, fa_45_0, fd_45_0, fa_45_1, fd_45_1, fa_45_2, fd_45_2, bld_45, size_45, agg_45, zero_45, zel_45, small_45, noInt_45, und_70, size_70, agg_70, zero_70, zel_70, small_70, noInt_70, und_71, size_71, agg_71, zero_71, zel_71, small_71, noInt_71, fa_73_0, fd_73_0, fa_73_1, fd_73_1, fa_73_2, fd_73_2, fa_73_3, fd_73_3, fa_73_4, fd_73_4, fa_73_5, fd_73_5, fa_73_6, fd_73_6, bld_73, size_73, agg_73, zero_73, zel_73, small_73, noInt_73, fa_75_0, fd_75_0, fa_75_1, fd_75_1, fa_75_2, fd_75_2, fa_75_3, fd_75_3, fa_75_4, fd_75_4, bld_75, size_75, agg_75, zero_75, zel_75, small_75, noInt_75⟩; show W CC 0 45 (keepsOf 30) _ ⟨[(0, _), (1, _)], []⟩ _)
    ((repeat' (first | with_reducible apply fol | with_reducible refine aRW ?_ | with_reducible refine aRR ?_ | with_reducible refine aRs ?_ | ((with_reducible first | apply RW_gdn | apply RR_gdn | apply RW_gd | apply RR_gd) <;> intro hg <;> first | (cases hg; done) | skip) | with_reducible refine aE1 ?_ | with_reducible refine aE2 ?_ | with_reducible refine aOn ?_ | ((with_reducible refine aCd ?_ ?_) <;> intro hv <;> first | (cases hv; done) | skip) | fail)))
    exact ⟨.t (.bool false), by kernel_rfl, by kernel_rfl⟩
  | true =>
    cases e2 : (lo == lo') with
    | false =>
      (have F_ : _ ∧ _ ∧ _ ∧ _ ∧ _ ∧ _ ∧ _ ∧ _ ∧ _ ∧ _ ∧ _ ∧ _ ∧ _ ∧ _ ∧ _ ∧ _ ∧ _ ∧ _ ∧ _ ∧ _ ∧ _ ∧ _ ∧ _ ∧ _ ∧ _ ∧ _ ∧ _ ∧ _ ∧ _ ∧ _ ∧ _ ∧ _ ∧ _ ∧ _ ∧ _ ∧ _ ∧ _ ∧ _ ∧ _ ∧ _ ∧ _ ∧ _ ∧ _ ∧ _ ∧ _ ∧ _ ∧ _ ∧ _ ∧ _ ∧ _ ∧ _ ∧ _ ∧ _ ∧ _ ∧ _ ∧ _ ∧ _ ∧ _ ∧ _ ∧ _ ∧ _ ∧ _ ∧ _ ∧ _ ∧ _ ∧ _ ∧ _ ∧ _ ∧ _ ∧ _ ∧ _ ∧ _ ∧ _ ∧ _ ∧ _ ∧ _ ∧ _ ∧ _ ∧ _ ∧ _ ∧ _ ∧ _ ∧ _ ∧ _ ∧ _ ∧ _ ∧ _ ∧ _ ∧ _ ∧ _ ∧ _ ∧ _ ∧ _ ∧ _ ∧ _ ∧ _ ∧ _ ∧ _ ∧ _ ∧ _ ∧ _ ∧ _ ∧ _ ∧ _ ∧ _ ∧ _ ∧ _ ∧ _ := ⟨und_2, size_2, agg_2, zero_2, zel_2, small_2, und_3, size_3, agg_3, zero_3, zel_3, small_3, und_4, size_4, agg_4, zero_4, zel_4, small_4, noInt_4, und_5, size_5, agg_5, zero_5, zel_5, small_5, und_9, size_9, agg_9, zero_9, zel_9, small_9, noInt_9, fa_25_0, fd_25_0, fa_25_1, fd_25_1, bld_25, size_25, agg_25, zero_25, zel_25, small_25, noInt_25, fa_45_0, fd_45_0, fa_45_1, fd_45_1, fa_45_2, fd_45_2, bld_45, size_45, agg_45, zero_45, zel_45, small_45, noInt_45, und_70, size_70, agg_70, zero_70, zel_70, small_70, noInt_70, und_71, size_71, agg_71, zero_71, zel_71, small_71, noInt_71, fa_73_0, fd_73_0, fa_73_1, fd_73_1, fa_73_2, fd_73_2, fa_73_3, fd_73_3, fa_73_4, fd_73_4, fa_73_5, fd_73_5, fa_73_6, fd_73_6, bld_73, size_73, agg_73, zero_73, zel_73, small_73, noInt_73, fa_75_0, fd_75_0, fa_75_1, fd_75_1, fa_75_2, fd_75_2, fa_75_3, fd_75_3, fa_75_4, fd_75_4, bld_75, size_75, agg_75, zero_75, zel_75, small_75, noInt_75⟩; show W CC 0 45 (keepsOf 30) _ ⟨[(0, _), (1, _)], []⟩ _)
      ((repeat' (first | with_reducible apply fol | with_reducible refine aRW ?_ | with_reducible refine aRR ?_ | with_reducible refine aRs ?_ | ((with_reducible first | apply RW_gdn | apply RR_gdn | apply RW_gd | apply RR_gd) <;> intro hg <;> first | (cases hg; done) | skip) | with_reducible refine aE1 ?_ | with_reducible refine aE2 ?_ | with_reducible refine aOn ?_ | ((with_reducible refine aCd ?_ ?_) <;> intro hv <;> first | (cases hv; done) | skip) | fail)))
      exact ⟨.t (.bool false), by kernel_rfl, by kernel_rfl⟩
    | true =>
      cases e3 : (hi1 == hi1') with
      | false =>
        (have F_ : _ ∧ _ ∧ _ ∧ _ ∧ _ ∧ _ ∧ _ ∧ _ ∧ _ ∧ _ ∧ _ ∧ _ ∧ _ ∧ _ ∧ _ ∧ _ ∧ _ ∧ _ ∧ _ ∧ _ ∧ _ ∧ _ ∧ _ ∧ _ ∧ _ ∧ _ ∧ _ ∧ _ ∧ _ ∧ _ ∧ _ ∧ _ ∧ _ ∧ _ ∧ _ ∧ _ ∧ _ ∧ _ ∧ _ ∧ _ ∧ _ ∧ _ ∧ _ ∧ _ ∧ _ ∧ _ ∧ _ ∧ _ ∧ _ ∧ _ ∧ _ ∧ _ ∧ _ ∧ _ ∧ _ ∧ _ ∧ _ ∧ _ ∧ _ ∧ _ ∧ _ ∧ _ ∧ _ ∧ _ ∧ _ ∧ _ ∧ _ ∧ _ ∧ _ ∧ _ ∧ _ ∧ _ ∧ _ ∧ _ ∧ _ ∧ _ ∧ _ ∧ _ ∧ _ ∧ _ ∧ _ ∧ _ ∧ _ ∧ _ ∧ _ ∧ _ ∧ _ ∧ _ ∧ _ ∧ _ ∧ _ ∧ _ ∧ _ ∧ _ ∧ _ ∧ _ ∧ _ ∧ _ ∧ _ ∧ _ ∧ _ ∧ _ ∧ _ ∧ _ ∧ _ ∧ _ ∧ _ ∧ _ := ⟨und_2, size_2, agg_2, zero_2, zel_2, small_2, und_3, size_3, agg_3, zero_3, zel_3, small_3, und_4, size_4, agg_4, zero_4, zel_4, small_4, noInt_4, und_5, size_5, agg_5, zero_5, zel_5, small_5, und_9, size_9, agg_9, zero_9, zel_9, small_9, noInt_9, fa_25_0, fd_25_0, fa_25_1, fd_25_1, bld_25, size_25, agg_25, zero_25, zel_25, small_25, noInt_25, fa_45_0, fd_45_0, fa_45_1, fd_45_1, fa_45_2, fd_45_2, bld_45, size_45, agg_45, zero_45, zel_45, small_45, noInt_45, und_70, size_70, agg_70, zero_70, zel_70, small_70, noInt_70, und_71, size_71, agg_71, zero_71, zel_71, small_71, noInt_71, fa_73_0, fd_73_0, fa_73_1, fd_73_1, fa_73_2, fd_73_2, fa_73_3, fd_73_3, fa_73_4, fd_73_4, fa_73_5, fd_73_5, fa_73_6, fd_73_6, bld_73, size_73, agg_73, zero_73, zel_73, small_73, noInt_73, fa_75_0, fd_75_0, fa_75_1, fd_75_1, fa_75_2, fd_75_2, fa_75_3, fd_75_3, fa_75_4, fd_75_4, bld_75, size_75, agg_75, zero_75, zel_75, small_75, noInt_75⟩; show W CC 0 45 (keepsOf 30) _ ⟨[(0, _), (1, _)], []⟩ _)
        ((repeat' (first | with_reducible apply fol | with_reducible refine aRW ?_ | with_reducible refine aRR ?_ | with_reducible refine aRs ?_ | ((with_reducible first | apply RW_gdn | apply RR_gdn | apply RW_gd | apply RR_gd) <;> intro hg <;> first | (cases hg; done) | skip) | with_reducible refine aE1 ?_ | with_reducible refine aE2 ?_ | with_reducible refine aOn ?_ | ((with_reducible refine aCd ?_ ?_) <;> intro hv <;> first | (cases hv; done) | skip) | fail)))
        exact ⟨.t (.bool false), by kernel_rfl, by kernel_rfl⟩
      | true =>
        cases ei with
        | false =>
          (have F_ : _ ∧ _ ∧ _ ∧ _ ∧ _ ∧ _ ∧ _ ∧ _ ∧ _ ∧ _ ∧ _ ∧ _ ∧ _ ∧ _ ∧ _ ∧ _ ∧ _ ∧ _ ∧ _ ∧ _ ∧ _ ∧ _ ∧ _ ∧ _ ∧ _ ∧ _ ∧ _ ∧ _ ∧ _ ∧ _ ∧ _ ∧ _ ∧ _ ∧ _ ∧ _ ∧ _ ∧ _ ∧ _ ∧ _ ∧ _ ∧ _ ∧ _ ∧ _ ∧ _ ∧ _ ∧ _ ∧ _ ∧ _ ∧ _ ∧ _ ∧ _ ∧ _ ∧ _ ∧ _ ∧ _ ∧ _ ∧ _ ∧ _ ∧ _ ∧ _ ∧ _ ∧ _ ∧ _ ∧ _ ∧ _ ∧ _ ∧ _ ∧ _ ∧ _ ∧ _ ∧ _ ∧ _ ∧ _ ∧ _ ∧ _ ∧ _ ∧ _ ∧ _ ∧ _ ∧ _ ∧ _ ∧ _ ∧ _ ∧ _ ∧ _ ∧ _ ∧ _ ∧ _ ∧ _ ∧ _ ∧ _ ∧ _ ∧ _ ∧ _ ∧ _ ∧ _ ∧ _ ∧ _ ∧ _ ∧ _ ∧ _ ∧ _ ∧ _ ∧ _ ∧ _ ∧ _ ∧ _ ∧ _ := ⟨und_2, size_2, agg_2, zero_2, zel_2, small_2, und_3, size_3, agg_3, zero_3, zel_3, small_3, und_4, size_4, agg_4, zero_4, zel_4, small_4, noInt_4, und_5, size_5, agg_5, zero_5, zel_5, small_5, und_9, size_9, agg_9, zero_9, zel_9, small_9, noInt_9, fa_25_0, fd_25_0, fa_25_1, fd_25_1, bld_25, size_25, agg_25, zero_25, zel_25, small_25, noInt_25, fa_45_0, fd_45_0, fa_45_1, fd_45_1, fa_45_2, fd_45_2, bld_45, size_45, agg_45, zero_45, zel_45, small_45, noInt_45, und_70, size_70, agg_70, zero_70, zel_70, small_70, noInt_70, und_71, size_71, agg_71, zero_71, zel_71, small_71, noInt_71, fa_73_0, fd_73_0, fa_73_1, fd_73_1, fa_73_2, fd_73_2, fa_73_3, fd_73_3, fa_73_4, fd_73_4, fa_73_5, fd_73_5, fa_73_6, fd_73_6, bld_73, size_73, agg_73, zero_73, zel_73, small_73, noInt_73, fa_75_0, fd_75_0, fa_75_1, fd_75_1, fa_75_2, fd_75_2, fa_75_3, fd_75_3, fa_75_4, fd_75_4, bld_75, size_75, agg_75, zero_75, zel_75, small_75, noInt_75⟩; show W CC 0 45 (keepsOf 30) _ ⟨[(0, _), (1, _)], []⟩ _)
          (have x0_ := @hb_31; have x1_ := @hb_32; (repeat' (first | with_reducible apply fol | with_reducible refine aRW ?_ | with_reducible refine aRR ?_ | with_reducible refine aRs ?_ | ((with_reducible first | apply RW_gdn | apply RR_gdn | apply RW_gd | apply RR_gd) <;> intro hg <;> first | (cases hg; done) | skip) | with_reducible refine aE1 ?_ | with_reducible refine aE2 ?_ | with_reducible refine aOn ?_ | ((with_reducible refine aCd ?_ ?_) <;> intro hv <;> first | (cases hv; done) | skip) | fail)); all_goals clear x0_ x1_)
          exact ⟨.t (.bool false), by kernel_rfl, by kernel_rfl⟩
        | true =>
          cases ex with
          | false =>
            (have F_ : _ ∧ _ ∧ _ ∧ _ ∧ _ ∧ _ ∧ _ ∧ _ ∧ _ ∧ _ ∧ _ ∧ _ ∧ _ ∧ _ ∧ _ ∧ _ ∧ _ ∧ _ ∧ _ ∧ _ ∧ _ ∧ _ ∧ _ ∧ _ ∧ _ ∧ _ ∧ _ ∧ _ ∧ _ ∧ _ ∧ _ ∧ _ ∧ _ ∧ _ ∧ _ ∧ _ ∧ _ ∧ _ ∧ _ ∧ _ ∧ _ ∧ _ ∧ _ ∧ _ ∧ _ ∧ _ ∧ _ ∧ _ ∧ _ ∧ _ ∧ _ ∧ _ ∧ _ ∧ _ ∧ _ ∧ _ ∧ _ ∧ _ ∧ _ ∧ _ ∧ _ ∧ _ ∧ _ ∧ _ ∧ _ ∧ _ ∧ _ ∧ _ ∧ _ ∧ _ ∧ _ ∧ _ ∧ _ ∧ _ ∧ _ ∧ _ ∧ _ ∧ _ ∧ _ ∧ _ ∧ _ ∧ _ ∧ _ ∧ _ ∧ _ ∧ _ ∧ _ ∧ _ ∧ _ ∧ _ ∧ _ ∧ _ ∧ _ ∧ _ ∧ _ ∧ _ ∧ _ ∧ _ ∧ _ ∧ _ ∧ _ ∧ _ ∧ _ ∧ _ ∧ _ ∧ _ ∧ _ ∧ _ := ⟨und_2, size_2, agg_2, zero_2, zel_2, small_2, und_3, size_3, agg_3, zero_3, zel_3, small_3, und_4, size_4, agg_4, zero_4, zel_4, small_4, noInt_4, und_5, size_5, agg_5, zero_5, zel_5, small_5, und_9, size_9, agg_9, zero_9, zel_9, small_9, noInt_9, fa_25_0, fd_25_0, fa_25_1, fd_25_1, bld_25, size_25, agg_25, zero_25, zel_25, small_25, noInt_25, fa_45_0, fd_45_0, fa_45_1, fd_45_1, fa_45_2, fd_45_2, bld_45, size_45, agg_45, zero_45, zel_45, small_45, noInt_45, und_70, size_70, agg_70, zero_70, zel_70, small_70, noInt_70, und_71, size_71, agg_71, zero_71, zel_71, small_71, noInt_71, fa_73_0, fd_73_0, fa_73_1, fd_73_1, fa_73_2, fd_73_2, fa_73_3, fd_73_3, fa_73_4, fd_73_4, fa_73_5, fd_73_5, fa_73_6, fd_73_6, bld_73, size_73, agg_73, zero_73, zel_73, small_73, noInt_73, fa_75_0, fd_75_0, fa_75_1, fd_75_1, fa_75_2, fd_75_2, fa_75_3, fd_75_3, fa_75_4, fd_75_4, bld_75, size_75, agg_75, zero_75, zel_75, small_75, noInt_75⟩; show W CC 0 45 (keepsOf 30) _ ⟨[(0, _), (1, _)], []⟩ _)
            (have x0_ := @hb_31; have x1_ := @hb_32; (repeat' (first | with_reducible apply fol | with_reducible refine aRW ?_ | with_reducible refine aRR ?_ | with_reducible refine aRs ?_ | ((with_reducible first | apply RW_gdn | apply RR_gdn | apply RW_gd | apply RR_gd) <;> intro hg <;> first | (cases hg; done) | skip) | with_reducible refine aE1 ?_ | with_reducible refine aE2 ?_ | with_reducible refine aOn ?_ | ((with_reducible refine aCd ?_ ?_) <;> intro hv <;> first | (cases hv; done) | skip) | fail)); all_goals clear x0_ x1_)
            exact ⟨.t (.bool false), by kernel_rfl, by kernel_rfl⟩
          | true =>
            (have F_ : _ ∧ _ ∧ _ ∧ _ ∧ _ ∧ _ ∧ _ ∧ _ ∧ _ ∧ _ ∧ _ ∧ _ ∧ _ ∧ _ ∧ _ ∧ _ ∧ _ ∧ _ ∧ _ ∧ _ ∧ _ ∧ _ ∧ _ ∧ _ ∧ _ ∧ _ ∧ _ ∧ _ ∧ _ ∧ _ ∧ _ ∧ _ ∧ _ ∧ _ ∧ _ ∧ _ ∧ _ ∧ _ ∧ _ ∧ _ ∧ _ ∧ _ ∧ _ ∧ _ ∧ _ ∧ _ ∧ _ ∧ _ ∧ _ ∧ _ ∧ _ ∧ _ ∧ _ ∧ _ ∧ _ ∧ _ ∧ _ ∧ _ ∧ _ ∧ _ ∧ _ ∧ _ ∧ _ ∧ _ ∧ _ ∧ _ ∧ _ ∧ _ ∧ _ ∧ _ ∧ _ ∧ _ ∧ _ ∧ _ ∧ _ ∧ _ ∧ _ ∧ _ ∧ _ ∧ _ ∧ _ ∧ _ ∧ _ ∧ _ ∧ _ ∧ _ ∧ _ ∧ _ ∧ _ ∧ _ ∧ _ ∧ _ ∧ _ ∧ _ ∧ _ ∧ _ ∧ _ ∧ _ ∧ _ ∧ _ ∧ _ ∧ _ ∧ _ ∧ _ ∧ _ ∧ _ ∧ _ ∧ _ := ⟨und_2, size_2, agg_2, zero_2, zel_2, small_2, und_3, size_3, agg_3, zero_3, zel_3, small_3, und_4, size_4, agg_4, zero_4, zel_4, small_4, noInt_4, und_5, size_5, agg_5, zero_5, zel_5, small_5, und_9, size_9, agg_9, zero_9, zel_9, small_9, noInt_9, fa_25_0, fd_25_0, fa_25_1, fd_25_1, bld_25, size_25, agg_25, zero_25, zel_25, small_25, noInt_25, fa_45_0, fd_45_0, fa_45_1, fd_45_1, fa_45_2, fd_45_2, bld_45, size_45, agg_45, zero_45, zel_45, small_45, noInt_45, und_70, size_70, agg_70, zero_70, zel_70, small_70, noInt_70, und_71, size_71, agg_71, zero_71, zel_71, small_71, noInt_71, fa_73_0, fd_73_0, fa_73_1, fd_73_1, fa_73_2, fd_73_2, fa_73_3, fd_73_3, fa_73_4, fd_73_4, fa_73_5, fd_73_5, fa_73_6, fd_73_6, bld_73, size_73, agg_73, zero_73, zel_73, small_73, noInt_73, fa_75_0, fd_75_0, fa_75_1, fd_75_1, fa_75_2, fd_75_2, fa_75_3, fd_75_3, fa_75_4, fd_75_4, bld_75, size_75, agg_75, zero_75, zel_75, small_75, noInt_75⟩; show W CC 0 45 (keepsOf 30) _ ⟨[(0, _), (1, _)], []⟩ _)
            (have x0_ := @hb_31; have x1_ := @hb_32; (repeat' (first | with_reducible apply fol | with_reducible refine aRW ?_ | with_reducible refine aRR ?_ | with_reducible refine aRs ?_ | ((with_reducible first | apply RW_gdn | apply RR_gdn | apply RW_gd | apply RR_gd) <;> intro hg <;> first | (cases hg; done) | skip) | with_reducible refine aE1 ?_ | with_reducible refine aE2 ?_ | with_reducible refine aOn ?_ | ((with_reducible refine aCd ?_ ?_) <;> intro hv <;> first | (cases hv; done) | skip) | fail)); all_goals clear x0_ x1_)
            exact ⟨.t (.bool ey), by kernel_rfl, by kernel_rfl⟩

end Go.Ab
/- Layer 23 (equality): lists of tests. -/
namespace Go.Ab
open Go.Proofs
set_option maxRecDepth 100000
set_option maxHeartbeats 4000000
set_option linter.unusedSimpArgs false
set_option linter.unusedVariables false

theorem equalT_ok (nl cl nl2 cl2 : Bool) (l r : List Test) (hl : l.length < 9223372036854775808) (hk : ∀ x ∈ l, TLen x) :
    Om CC 29 [.t (.sl nl cl (l.map Test.c)), .t (.sl nl2 cl2 (r.map Test.c)), .t (.fn 30)] [] = some (.val (.t (.bool (eqBy sameT l r))), []) := by
  refine call_eq fun_29 rfl ?_
  (have F_ : _ ∧ _ ∧ _ ∧ _ ∧ _ ∧ _ ∧ _ ∧ _ ∧ _ ∧ _ ∧ _ ∧ _ ∧ _ ∧ _ ∧ _ ∧ _ ∧ _ ∧ _ ∧ _ ∧ _ ∧ _ ∧ _ ∧ _ ∧ _ ∧ _ ∧ _ ∧ _ ∧ _ ∧ _ ∧ _ ∧ _ ∧ _ ∧ _ ∧ _ ∧ _ ∧ _ ∧ _ ∧ _ ∧ _ ∧ _ ∧ _ ∧ _ ∧ _ ∧ _ ∧ _ ∧ _ ∧ _ ∧ _ ∧ _ ∧ _ ∧ _ ∧ _ ∧ _ ∧ _ ∧ _ ∧ _ ∧ _ ∧ _ ∧ _ ∧ _ ∧ _ ∧ _ ∧ _ ∧ _ ∧ _ ∧ _ ∧ _ ∧ _ ∧ _ ∧ _ ∧ _ ∧ _ ∧ _ ∧ _ ∧ _ ∧ _ ∧ _ ∧ _ ∧ _ ∧ _ ∧ _ ∧ _ ∧ _ ∧ _ ∧ _ ∧ _ ∧ _ ∧ _ ∧ _ ∧ _ ∧ _ ∧ _ ∧ _ ∧ _ ∧ _ ∧ _ ∧ _ ∧ _ ∧ _ ∧ _ ∧ _ ∧ _ ∧ _ ∧ _ ∧ _ ∧ _ ∧ _ ∧ _ ∧ _ ∧ _ ∧ _ ∧ _ ∧ _ ∧ _ ∧ _ ∧ _ ∧ _ ∧ _ ∧ _ ∧ _ ∧ _ := ⟨und_2, size_2, agg_2, zero_2, zel_2, small_2, und_3, size_3, agg_3, zero_3, zel_3, small_3, und_4, size_4, agg_4, zero_4, zel_4, small_4, noInt_4, und_5, size_5, agg_5, zero_5, zel_5, small_5, und_9, size_9, agg_9, zero_9, zel_9, small_9, noInt_9, fa_25_0, fd_25_0, fa_25_1, fd_25_1, bld_25, size_25, agg_25, zero_25, zel_25, small_25, noInt_25, fa_45_0, fd_45_0, fa_45_1, fd_45_1, fa_45_2, fd_45_2, bld_45, size_45, agg_45, zero_45, zel_45, small_45, noInt_45, und_50, size_50, agg_50, zero_50, zel_50, small_50, noInt_50, und_70, size_70, agg_70, zero_70, zel_70, small_70, noInt_70, und_71, size_71, agg_71, zero_71, zel_71, small_71, noInt_71, fa_73_0, fd_73_0, fa_73_1, fd_73_1, fa_73_2, fd_73_2, fa_73_3, fd_73_3, fa_73_4, fd_73_4, fa_73_5, fd_73_5, fa_73_6, fd_73_6, bld_73, size_73, agg_73, zero_73, zel_73, small_73, noInt_73, fa_75_0, fd_75_0, fa_75_1, fd_75_1, fa_75_2, fd_75_2, fa_75_3, fd_75_3, fa_75_4, fd_75_4, bld_75, size_75, agg_75, zero_75, zel_75, small_75, noInt_75, size_98, agg_98, zero_98, zel_98, small_98, noInt_98⟩; show W CC 0 32 (keepsOf 29) _ ⟨[(0, _), (1, _), (2, _)], []⟩ _)
  by_cases hlen : l.length = r.length
  · have hlen' : r.length = l.length := hlen.symm
    clear hlen
    ((repeat' (first | with_reducible apply fol | with_reducible refine aRW ?_ | with_reducible refine aRR ?_ | with_reducible refine aRs ?_ | ((with_reducible first | apply RW_gdn | apply RR_gdn | apply RW_gd | apply RR_gd) <;> intro hg <;> first | (cases hg; done) | skip) | with_reducible refine aE1 ?_ | with_reducible refine aE2 ?_ | with_reducible refine aOn ?_ | ((with_reducible refine aCd ?_ ?_) <;> intro hv <;> first | (cases hv; done) | skip) | fail)))
    refine W_rounds (α := Nat) (fun i => ⟨[(1, .t (.sl nl2 cl2 (r.map Test.c))), (2, .t (.fn 30)), (15, .t (.sl nl cl (l.map Test.c))), (16, .t (.int .i64 l.length)), (17, .t (.int .i64 i))], []⟩) (fun i => l.length - i)
      (fun i => i ≤ l.length ∧ ∀ j (hj : j < l.length) (hj2 : j < r.length), j < i → sameT l[j] r[j] = true) 0 (by kernel_rfl) ⟨Nat.zero_le _, fun j _ _ hj => by omega⟩ ?_
    rintro i ⟨hi, hn⟩
    by_cases hi' : i < l.length
    · have hw : IntKind.i64.wrap ((i : Int) + 1) = ((i + 1 : Nat) : Int) := by rw [wrap64] <;> omega
      have hj' : i < r.length := hlen'.symm ▸ hi'
      have he : l[i]? = some l[i] := List.getElem?_eq_getElem hi'
      have he2 : r[i]? = some r[i] := List.getElem?_eq_getElem hj'
      have hd : decide ((i : Int) < l.length) = true := by simpa using hi'
      have hc := sameT_ok l[i] r[i] (hk _ (List.getElem_mem hi'))
      cases hb : sameT l[i] r[i] with
      | true =>
        have hn' : ∀ j (hj : j < l.length) (hj2 : j < r.length), j < i + 1 → sameT l[j] r[j] = true := fun j hj hj2 hji => by
          rcases Nat.lt_or_ge j i with h | h
          · exact hn j hj hj2 h
          · obtain rfl : j = i := by omega
            exact hb
        rw [hb] at hc
        simp only [Test.c, Sl.t] at hc
        clear hn hb hk
        generalize l[i] = a at *
        generalize r[i] = b at *
        (have x0_ := @hb_30; (repeat' (first | with_reducible apply fol | with_reducible refine aRW ?_ | with_reducible refine aRR ?_ | with_reducible refine aRs ?_ | ((with_reducible first | apply RW_gdn | apply RR_gdn | apply RW_gd | apply RR_gd) <;> intro hg <;> first | (cases hg; done) | skip) | with_reducible refine aE1 ?_ | with_reducible refine aE2 ?_ | with_reducible refine aOn ?_ | ((with_reducible refine aCd ?_ ?_) <;> intro hv <;> first | (cases hv; done) | skip) | fail)); all_goals clear x0_)
        refine again_normal (i + 1) (by omega) ⟨by omega, hn'⟩ (by (simp only [loopKeep, firstRegion, keepsOf, tidy, canon, reach, refsL, refs, catMap, depth, renL, ren, sub, sub1, upto, mem, place, fresh, get, List.map, List.zip_cons_cons, List.zip_nil_right, List.take, List.append_nil, beq_dec] <;> exact rfl))
      | false =>
        have hr : eqBy sameT l r = false := eqBy_not hi' hj' hb
        rw [hr]
        rw [hb] at hc
        simp only [Test.c, Sl.t] at hc
        clear hn hr hb hk
        generalize l[i] = a at *
        generalize r[i] = b at *
        (have x0_ := @hb_30; (repeat' (first | with_reducible apply fol | with_reducible refine aRW ?_ | with_reducible refine aRR ?_ | with_reducible refine aRs ?_ | ((with_reducible first | apply RW_gdn | apply RR_gdn | apply RW_gd | apply RR_gd) <;> intro hg <;> first | (cases hg; done) | skip) | with_reducible refine aE1 ?_ | with_reducible refine aE2 ?_ | with_reducible refine aOn ?_ | ((with_reducible refine aCd ?_ ?_) <;> intro hv <;> first | (cases hv; done) | skip) | fail)); all_goals clear x0_)
        exact ⟨.t (.bool false), by kernel_rfl, by kernel_rfl⟩
    · have hd : decide ((i : Int) < l.length) = false := by simpa using hi'
      have hr : eqBy sameT l r = true := eqBy_all hlen' fun j hj hj2 => hn j hj hj2 (by omega)
      rw [hr]
      clear hn hr hk
      ((repeat' (first | with_reducible apply fol | with_reducible refine aRW ?_ | with_reducible refine aRR ?_ | with_reducible refine aRs ?_ | ((with_reducible first | apply RW_gdn | apply RR_gdn | apply RW_gd | apply RR_gd) <;> intro hg <;> first | (cases hg; done) | skip) | with_reducible refine aE1 ?_ | with_reducible refine aE2 ?_ | with_reducible refine aOn ?_ | ((with_reducible refine aCd ?_ ?_) <;> intro hv <;> first | (cases hv; done) | skip) | fail)))
      exact ⟨.t (.bool true), by kernel_rfl, by kernel_rfl⟩
  · have h0 : (((l.length : Nat) : Int) != (r.length : Int)) = true := by
      rw [bne_iff_ne]
      omega
    rw [eqBy_len hlen]
    clear hlen hk
    ((repeat' (first | with_reducible apply fol | with_reducible refine aRW ?_ | with_reducible refine aRR ?_ | with_reducible refine aRs ?_ | ((with_reducible first | apply RW_gdn | apply RR_gdn | apply RW_gd | apply RR_gd) <;> intro hg <;> first | (cases hg; done) | skip) | with_reducible refine aE1 ?_ | with_reducible refine aE2 ?_ | with_reducible refine aOn ?_ | ((with_reducible refine aCd ?_ ?_) <;> intro hv <;> first | (cases hv; done) | skip) | fail)))
    exact ⟨.t (.bool false), by kernel_rfl, by kernel_rfl⟩

theorem sameTs_ok (nl cl nl2 cl2 : Bool) (l r : List Test) (hl : l.length < 9223372036854775808) (hk : ∀ x ∈ l, TLen x) :
    Om CC 23 [.t (.sl nl cl (l.map Test.c)), .t (.sl nl2 cl2 (r.map Test.c))] [] = some (.val (.t (.bool (eqBy sameT l r))), []) := by
  refine call_eq fun_23 rfl ?_
  have hc := equalT_ok nl cl nl2 cl2 l r hl hk
  generalize eqBy sameT l r = e at *
  clear hk
  (have F_ : _ ∧ _ ∧ _ ∧ _ ∧ _ ∧ _ ∧ _ ∧ _ ∧ _ ∧ _ ∧ _ ∧ _ ∧ _ ∧ _ ∧ _ ∧ _ ∧ _ ∧ _ ∧ _ ∧ _ ∧ _ ∧ _ ∧ _ ∧ _ ∧ _ ∧ _ ∧ _ ∧ _ ∧ _ ∧ _ ∧ _ ∧ _ ∧ _ ∧ _ ∧ _ ∧ _ ∧ _ ∧ _ ∧ _ ∧ _ ∧ _ ∧ _ ∧ _ ∧ _ ∧ _ ∧ _ ∧ _ ∧ _ ∧ _ ∧ _ ∧ _ ∧ _ ∧ _ ∧ _ ∧ _ ∧ _ ∧ _ ∧ _ ∧ _ ∧ _ ∧ _ ∧ _ ∧ _ ∧ _ ∧ _ ∧ _ ∧ _ ∧ _ ∧ _ ∧ _ ∧ _ ∧ _ ∧ _ ∧ _ ∧ _ ∧ _ ∧ _ ∧ _ ∧ _ ∧ _ ∧ _ ∧ _ ∧ _ ∧ _ ∧ _ ∧ _ ∧ _ ∧ _ ∧ _ ∧ _ ∧ _ ∧ _ ∧ _ ∧ _ ∧ _ ∧ _ ∧ _ ∧ _ ∧ _ ∧ _ ∧ _ ∧ _ ∧ _ ∧ _ ∧ _ ∧ _ ∧ _ ∧ _ ∧ _ ∧ _ ∧ _ ∧ _ ∧ _ ∧ _ ∧ _ ∧ _ ∧ _ ∧ _ ∧ _ ∧ _ ∧ _ := ⟨und_2, size_2, agg_2, zero_2, zel_2, small_2, und_3, size_3, agg_3, zero_3, zel_3, small_3, und_4, size_4, agg_4, zero_4, zel_4, small_4, noInt_4, und_5, size_5, agg_5, zero_5, zel_5, small_5, und_9, size_9, agg_9, zero_9, zel_9, small_9, noInt_9, fa_25_0, fd_25_0, fa_25_1, fd_25_1, bld_25, size_25, agg_25, zero_25, zel_25, small_25, noInt_25, fa_45_0, fd_45_0, fa_45_1, fd_45_1, fa_45_2, fd_45_2, bld_45, size_45, agg_45, zero_45, zel_45, small_45, noInt_45, und_50, size_50, agg_50, zero_50, zel_50, small_50, noInt_50, und_70, size_70, agg_70, zero_70, zel_70, small_70, noInt_70, und_71, size_71, agg_71, zero_71, zel_71, small_71, noInt_71, fa_73_0, fd_73_0, fa_73_1, fd_73_1, fa_73_2, fd_73_2, fa_73_3, fd_73_3, fa_73_4, fd_73_4, fa_73_5, fd_73_5, fa_73_6, fd_73_6, bld_73, size_73, agg_73, zero_73, zel_73, small_73, noInt_73, fa_75_0, fd_75_0, fa_75_1, fd_75_1, fa_75_2, fd_75_2, fa_75_3, fd_75_3, fa_75_4, fd_75_4, bld_75, size_75, agg_75, zero_75, zel_75, small_75, noInt_75, size_98, agg_98, zero_98, zel_98, small_98, noInt_98⟩; show W CC 0 8 (keepsOf 23) _ ⟨[(0, _), (1, _)], []⟩ _)
  (have x0_ := @hb_29; (repeat' (first | with_reducible apply fol | with_reducible refine aRW ?_ | with_reducible refine aRR ?_ | with_reducible refine aRs ?_ | ((with_reducible first | apply RW_gdn | apply RR_gdn | apply RW_gd | apply RR_gd) <;> intro hg <;> first | (cases hg; done) | skip) | with_reducible refine aE1 ?_ | with_reducible refine aE2 ?_ | with_reducible refine aOn ?_ | ((with_reducible refine aCd ?_ ?_) <;> intro hv <;> first | (cases hv; done) | skip) | fail)); all_goals clear x0_)
  exact ⟨.t (.bool e), by kernel_rfl, by kernel_rfl⟩

end Go.Ab
