/- The functions by which layer 18's reference measures a pattern: they answer. -/
import Derived.Test.YtchkgfmmfdineaaGreatG02
import Derived.Test.YtchkgfmmfdineaaGreatG05
import Derived.Test.YtchkgfmmfdineaaGreatG01
import Derived.Deep.Slices
import Derived.ChangeStays
import Derived.ChangeSame
import Derived.ChangeOld
import Derived.OpenShut
import Derived.Test.YtchkgfmmfdineaaGreatRows
import Derived.Shelf.Strings.Search1
import Derived.Shelf.Strings.Search2
import Derived.Shelf.Strings.Search3
import Derived.Shelf.LaysM
import Derived.Shelf.Strings.Shaped
import Derived.Test.YtchkgfmmfdineaaGreatProg
import Derived.ChangeAgain
namespace Go.Ab
open Go.Proofs
set_option maxRecDepth 100000
set_option linter.unusedSimpArgs false
theorem size_ok (t : Sl Test) (hl : t.l.length < 9223372036854775808) (hx : ∀ x ∈ t.l, x.a.l.length < 9223372036854775808 ∧ x.b.l.length < 9223372036854775808) :
    ∃ n, Om CC 11 [.t (t.t Test.c)] [] = some (.val (.t (.int .i64 n)), []) := by
  have key := call_of_W (C := CC) (args := [.t (t.t Test.c)]) (h := []) (R := fun o h' => ∃ b, o = .val (.t (.int .i64 b)) ∧ h' = []) fun_11 rfl ?_
  · obtain ⟨o, h', h1, b, rfl, rfl⟩ := key
    exact ⟨b, h1⟩
  show W CC 0 116 (keepsOf 11) _ ⟨[(0, _)], []⟩ _
  repeat (first | with_reducible apply once_normal | with_reducible apply once_exit | with_reducible apply once_ret | with_reducible apply once_pan | with_reducible apply thenW_normal | with_reducible apply thenW_ret | with_reducible apply thenW_exit | with_reducible apply thenW_pan | with_reducible apply outOf_normal | with_reducible apply outOf_eq | (refine outOf_ne (by kernel_rfl) ?_) | with_reducible apply outOf_ret | with_reducible apply outOf_pan | with_reducible apply again_exit | with_reducible apply again_ret | with_reducible apply again_pan | with_reducible apply W_seq | with_reducible apply W_block | with_reducible apply W_scope | with_reducible apply W_skip | with_reducible apply W_ret | with_reducible apply W_exit | with_reducible apply W_label | ((with_reducible apply W_run); (focus kernel_rfl); (focus (simp only [Int.ofNat_eq_natCast, List.length_map, runOps, wanted, exec1, xCall, xBuiltin, xLen, operand, opds, get, putT, ret, lit, lit1, patch, lenOf, CC_P, Sl.t, und_50]; exact rfl))))
  refine W_rounds (α := Nat × Int) (fun a => ⟨[(0, .t (t.t Test.c)), (3, .t (.int .i64 a.2)), (4, .t (.int .i64 a.1))], []⟩)
    (fun a => t.l.length - a.1) (fun a => a.1 ≤ t.l.length) (0, ?_) ?_ (Nat.zero_le _) ?_
  rotate_left
  · (simp only [loopKeep, firstRegion, keepsOf, tidy, canon, reach, refsL, refs, catMap, depth, renL, ren, sub, sub1, upto, mem, place, fresh, get, nth, List.map, List.zip_cons_cons, List.zip_nil_right, List.take, List.append_nil, Sl.t] <;> exact rfl)
  rintro ⟨i, n⟩ hi
  try dsimp only at hi
  repeat (first | with_reducible apply once_normal | with_reducible apply once_exit | with_reducible apply once_ret | with_reducible apply once_pan | with_reducible apply thenW_normal | with_reducible apply thenW_ret | with_reducible apply thenW_exit | with_reducible apply thenW_pan | with_reducible apply outOf_normal | with_reducible apply outOf_eq | (refine outOf_ne (by kernel_rfl) ?_) | with_reducible apply outOf_ret | with_reducible apply outOf_pan | with_reducible apply again_exit | with_reducible apply again_ret | with_reducible apply again_pan | with_reducible apply W_seq | with_reducible apply W_block | with_reducible apply W_scope | with_reducible apply W_skip | with_reducible apply W_ret | with_reducible apply W_exit | with_reducible apply W_label | ((with_reducible apply W_run); (focus kernel_rfl); (focus (simp only [Int.ofNat_eq_natCast, List.length_map, runOps, wanted, exec1, xCall, xBuiltin, xLen, operand, opds, get, putT, ret, retO, patch, lenOf, CC_P, int_lss, Sl.t, und_50]; exact rfl))))
  refine W_cond (v := decide ((i : Int) < t.l.length)) (by (simp only [operand, get])) (fun hv => ?_) (fun hv => ?_)
  · have hi' : i < t.l.length := by simpa using hv
    have hw : IntKind.i64.wrap ((i : Int) + 1) = ((i + 1 : Nat) : Int) := by rw [wrap64] <;> omega
    have he : t.l[i]? = some t.l[i] := List.getElem?_eq_getElem hi'
    have hh := hx t.l[i] (List.getElem_mem hi')
    generalize t.l[i] = x at he hh
    repeat (first | with_reducible apply once_normal | with_reducible apply once_exit | with_reducible apply once_ret | with_reducible apply once_pan | with_reducible apply thenW_normal | with_reducible apply thenW_ret | with_reducible apply thenW_exit | with_reducible apply thenW_pan | with_reducible apply outOf_normal | with_reducible apply outOf_eq | (refine outOf_ne (by kernel_rfl) ?_) | with_reducible apply outOf_ret | with_reducible apply outOf_pan | with_reducible apply again_exit | with_reducible apply again_ret | with_reducible apply again_pan | with_reducible apply W_seq | with_reducible apply W_block | with_reducible apply W_scope | with_reducible apply W_skip | with_reducible apply W_ret | with_reducible apply W_exit | with_reducible apply W_label | ((with_reducible apply W_run); (focus kernel_rfl); (focus (simp only [Int.ofNat_eq_natCast, List.length_map, List.getElem?_map, Option.map_some, runOps, wanted, exec1, xCall, xBuiltin, xLen, xIndexAddr, operand, opds, get, putT, ret, retO, lit, lit1, patch, load, loadCells, cut, addOff, lenOf, indexAddr, CC_P, i64_add, idx_nat, Nat.zero_add, List.map_cons, List.map_nil, List.length_cons, List.length_nil, List.take, List.drop, if_true, Nat.reduceAdd, Nat.reduceLeDiff, Sl.t, Test.c, he, und_50, und_71, agg_71, fa_73_5, size_73]; exact rfl))))
    refine W_rounds (α := Nat × Int) (fun a => ⟨[(0, .t (t.t Test.c)), (3, .t (.int .i64 a.2)), (4, .t (.int .i64 i)), (5, .t (.int .i64 a.1))], []⟩)
      (fun a => x.a.l.length - a.1) (fun a => a.1 ≤ x.a.l.length) (0, ?_) ?_ (Nat.zero_le _) ?_
    rotate_left
    · (simp only [loopKeep, firstRegion, keepsOf, tidy, canon, reach, refsL, refs, catMap, depth, renL, ren, sub, sub1, upto, mem, place, fresh, get, nth, List.map, List.zip_cons_cons, List.zip_nil_right, List.take, List.append_nil, Sl.t] <;> exact rfl)

    rintro ⟨j, n⟩ hj
    try dsimp only at hj
    repeat (first | with_reducible apply once_normal | with_reducible apply once_exit | with_reducible apply once_ret | with_reducible apply once_pan | with_reducible apply thenW_normal | with_reducible apply thenW_ret | with_reducible apply thenW_exit | with_reducible apply thenW_pan | with_reducible apply outOf_normal | with_reducible apply outOf_eq | (refine outOf_ne (by kernel_rfl) ?_) | with_reducible apply outOf_ret | with_reducible apply outOf_pan | with_reducible apply again_exit | with_reducible apply again_ret | with_reducible apply again_pan | with_reducible apply W_seq | with_reducible apply W_block | with_reducible apply W_scope | with_reducible apply W_skip | with_reducible apply W_ret | with_reducible apply W_exit | with_reducible apply W_label | ((with_reducible apply W_run); (focus kernel_rfl); (focus (simp only [Int.ofNat_eq_natCast, List.length_map, List.getElem?_map, Option.map_some, runOps, wanted, exec1, xCall, xBuiltin, xLen, xIndexAddr, operand, opds, get, putT, ret, retO, patch, load, loadCells, cut, addOff, lenOf, indexAddr, CC_P, int_lss, idx_nat, Nat.zero_add, List.map_cons, List.map_nil, List.length_cons, List.length_nil, List.take, List.drop, if_true, Nat.reduceAdd, Nat.reduceLeDiff, Sl.t, Test.c, he, und_50, und_70, agg_70, fa_73_1, size_73]; exact rfl))))
    refine W_cond (v := decide ((j : Int) < x.a.l.length)) (by (simp only [operand, get])) (fun hv => ?_) (fun hv => ?_)
    · have hj' : j < x.a.l.length := by simpa using hv
      have hwj : IntKind.i64.wrap ((j : Int) + 1) = ((j + 1 : Nat) : Int) := by rw [wrap64] <;> omega
      have hej : x.a.l[j]? = some x.a.l[j] := List.getElem?_eq_getElem hj'
      repeat (first | with_reducible apply once_normal | with_reducible apply once_exit | with_reducible apply once_ret | with_reducible apply once_pan | with_reducible apply thenW_normal | with_reducible apply thenW_ret | with_reducible apply thenW_exit | with_reducible apply thenW_pan | with_reducible apply outOf_normal | with_reducible apply outOf_eq | (refine outOf_ne (by kernel_rfl) ?_) | with_reducible apply outOf_ret | with_reducible apply outOf_pan | with_reducible apply again_exit | with_reducible apply again_ret | with_reducible apply again_pan | with_reducible apply W_seq | with_reducible apply W_block | with_reducible apply W_scope | with_reducible apply W_skip | with_reducible apply W_ret | with_reducible apply W_exit | with_reducible apply W_label | ((with_reducible apply W_run); (focus kernel_rfl); (focus (simp only [if_true]; exact rfl))))
      ((with_reducible apply W_drawn); (focus kernel_rfl); (focus kernel_rfl); (focus (simp only [Int.ofNat_eq_natCast, List.length_map, List.getElem?_map, Option.map_some, wanted, exec1, xCall, xBuiltin, xLen, xIndexAddr, operand, opds, get, putT, ret, retO, lit, lit1, patch, load, loadCells, cut, addOff, lenOf, indexAddr, CC_P, i64_add, idx_nat, Nat.zero_add, List.map_cons, List.map_nil, List.length_cons, List.length_nil, List.take, List.drop, if_true, Nat.reduceAdd, Nat.reduceLeDiff, Sl.t, Node.c, Test.c, runRec, gapless, foot, he, hej, und_9, agg_9, fa_45_2, und_50, und_70, agg_70, und_71, agg_71, fa_73_1, size_73, fa_75_1, fa_75_2, fa_75_3, size_75]; exact rfl)); (focus kernel_rfl))
      repeat (first | with_reducible apply once_normal | with_reducible apply once_exit | with_reducible apply once_ret | with_reducible apply once_pan | with_reducible apply thenW_normal | with_reducible apply thenW_ret | with_reducible apply thenW_exit | with_reducible apply thenW_pan | with_reducible apply outOf_normal | with_reducible apply outOf_eq | (refine outOf_ne (by kernel_rfl) ?_) | with_reducible apply outOf_ret | with_reducible apply outOf_pan | with_reducible apply again_exit | with_reducible apply again_ret | with_reducible apply again_pan | with_reducible apply W_seq | with_reducible apply W_block | with_reducible apply W_scope | with_reducible apply W_skip | with_reducible apply W_ret | with_reducible apply W_exit | with_reducible apply W_label | ((with_reducible apply W_run); (focus kernel_rfl); (focus (simp only [runOps, wanted, exec1, operand, get, putT, ret, retO, lit, lit1, patch, CC_P, i64_add, hwj]; exact rfl))))
      refine again_normal (j + 1, ?_) (by dsimp only; omega) (by dsimp only; omega) ?_
      rotate_left
      · (simp only [loopKeep, firstRegion, keepsOf, tidy, canon, reach, refsL, refs, catMap, depth, renL, ren, sub, sub1, upto, mem, place, fresh, get, nth, List.map, List.zip_cons_cons, List.zip_nil_right, List.take, List.append_nil, Sl.t] <;> exact rfl)
    clear hv
    repeat (first | with_reducible apply once_normal | with_reducible apply once_exit | with_reducible apply once_ret | with_reducible apply once_pan | with_reducible apply thenW_normal | with_reducible apply thenW_ret | with_reducible apply thenW_exit | with_reducible apply thenW_pan | with_reducible apply outOf_normal | with_reducible apply outOf_eq | (refine outOf_ne (by kernel_rfl) ?_) | with_reducible apply outOf_ret | with_reducible apply outOf_pan | with_reducible apply again_exit | with_reducible apply again_ret | with_reducible apply again_pan | with_reducible apply W_seq | with_reducible apply W_block | with_reducible apply W_scope | with_reducible apply W_skip | with_reducible apply W_ret | with_reducible apply W_exit | with_reducible apply W_label | ((with_reducible apply W_run); (focus kernel_rfl); (focus (simp only [runOps, wanted, exec1, operand, putT, ret, lit, lit1, patch]; exact rfl))))
    refine W_rounds (α := Nat × Int) (fun a => ⟨[(0, .t (t.t Test.c)), (3, .t (.int .i64 a.2)), (4, .t (.int .i64 i)), (6, .t (.int .i64 a.1))], []⟩)
      (fun a => x.b.l.length - a.1) (fun a => a.1 ≤ x.b.l.length) (0, ?_) ?_ (Nat.zero_le _) ?_
    rotate_left
    · (simp only [loopKeep, firstRegion, keepsOf, tidy, canon, reach, refsL, refs, catMap, depth, renL, ren, sub, sub1, upto, mem, place, fresh, get, nth, List.map, List.zip_cons_cons, List.zip_nil_right, List.take, List.append_nil, Sl.t] <;> exact rfl)
    clear hj
    rintro ⟨j, n⟩ hj
    try dsimp only at hj
    repeat (first | with_reducible apply once_normal | with_reducible apply once_exit | with_reducible apply once_ret | with_reducible apply once_pan | with_reducible apply thenW_normal | with_reducible apply thenW_ret | with_reducible apply thenW_exit | with_reducible apply thenW_pan | with_reducible apply outOf_normal | with_reducible apply outOf_eq | (refine outOf_ne (by kernel_rfl) ?_) | with_reducible apply outOf_ret | with_reducible apply outOf_pan | with_reducible apply again_exit | with_reducible apply again_ret | with_reducible apply again_pan | with_reducible apply W_seq | with_reducible apply W_block | with_reducible apply W_scope | with_reducible apply W_skip | with_reducible apply W_ret | with_reducible apply W_exit | with_reducible apply W_label | ((with_reducible apply W_run); (focus kernel_rfl); (focus (simp only [Int.ofNat_eq_natCast, List.length_map, List.getElem?_map, Option.map_some, runOps, wanted, exec1, xCall, xBuiltin, xLen, xIndexAddr, operand, opds, get, putT, ret, retO, patch, load, loadCells, cut, addOff, lenOf, indexAddr, CC_P, int_lss, idx_nat, Nat.zero_add, List.map_cons, List.map_nil, List.length_cons, List.length_nil, List.take, List.drop, if_true, Nat.reduceAdd, Nat.reduceLeDiff, Sl.t, Test.c, he, und_50, und_70, agg_70, fa_73_2, size_73]; exact rfl))))
    refine W_cond (v := decide ((j : Int) < x.b.l.length)) (by (simp only [operand, get])) (fun hv => ?_) (fun hv => ?_)
    · have hj' : j < x.b.l.length := by simpa using hv
      have hwj : IntKind.i64.wrap ((j : Int) + 1) = ((j + 1 : Nat) : Int) := by rw [wrap64] <;> omega
      have hej : x.b.l[j]? = some x.b.l[j] := List.getElem?_eq_getElem hj'
      repeat (first | with_reducible apply once_normal | with_reducible apply once_exit | with_reducible apply once_ret | with_reducible apply once_pan | with_reducible apply thenW_normal | with_reducible apply thenW_ret | with_reducible apply thenW_exit | with_reducible apply thenW_pan | with_reducible apply outOf_normal | with_reducible apply outOf_eq | (refine outOf_ne (by kernel_rfl) ?_) | with_reducible apply outOf_ret | with_reducible apply outOf_pan | with_reducible apply again_exit | with_reducible apply again_ret | with_reducible apply again_pan | with_reducible apply W_seq | with_reducible apply W_block | with_reducible apply W_scope | with_reducible apply W_skip | with_reducible apply W_ret | with_reducible apply W_exit | with_reducible apply W_label | ((with_reducible apply W_run); (focus kernel_rfl); (focus (simp only [if_true]; exact rfl))))
      ((with_reducible apply W_drawn); (focus kernel_rfl); (focus kernel_rfl); (focus (simp only [Int.ofNat_eq_natCast, List.length_map, List.getElem?_map, Option.map_some, wanted, exec1, xCall, xBuiltin, xLen, xIndexAddr, operand, opds, get, putT, ret, retO, lit, lit1, patch, load, loadCells, cut, addOff, lenOf, indexAddr, CC_P, i64_add, idx_nat, Nat.zero_add, List.map_cons, List.map_nil, List.length_cons, List.length_nil, List.take, List.drop, if_true, Nat.reduceAdd, Nat.reduceLeDiff, Sl.t, Node.c, Test.c, runRec, gapless, foot, he, hej, und_9, agg_9, fa_45_2, und_50, und_70, agg_70, und_71, agg_71, fa_73_2, size_73, fa_75_1, fa_75_2, fa_75_3, size_75]; exact rfl)); (focus kernel_rfl))
      repeat (first | with_reducible apply once_normal | with_reducible apply once_exit | with_reducible apply once_ret | with_reducible apply once_pan | with_reducible apply thenW_normal | with_reducible apply thenW_ret | with_reducible apply thenW_exit | with_reducible apply thenW_pan | with_reducible apply outOf_normal | with_reducible apply outOf_eq | (refine outOf_ne (by kernel_rfl) ?_) | with_reducible apply outOf_ret | with_reducible apply outOf_pan | with_reducible apply again_exit | with_reducible apply again_ret | with_reducible apply again_pan | with_reducible apply W_seq | with_reducible apply W_block | with_reducible apply W_scope | with_reducible apply W_skip | with_reducible apply W_ret | with_reducible apply W_exit | with_reducible apply W_label | ((with_reducible apply W_run); (focus kernel_rfl); (focus (simp only [runOps, wanted, exec1, operand, get, putT, ret, retO, lit, lit1, patch, CC_P, i64_add, hwj]; exact rfl))))
      refine again_normal (j + 1, ?_) (by dsimp only; omega) (by dsimp only; omega) ?_
      rotate_left
      · (simp only [loopKeep, firstRegion, keepsOf, tidy, canon, reach, refsL, refs, catMap, depth, renL, ren, sub, sub1, upto, mem, place, fresh, get, nth, List.map, List.zip_cons_cons, List.zip_nil_right, List.take, List.append_nil, Sl.t] <;> exact rfl)
    repeat (first | with_reducible apply once_normal | with_reducible apply once_exit | with_reducible apply once_ret | with_reducible apply once_pan | with_reducible apply thenW_normal | with_reducible apply thenW_ret | with_reducible apply thenW_exit | with_reducible apply thenW_pan | with_reducible apply outOf_normal | with_reducible apply outOf_eq | (refine outOf_ne (by kernel_rfl) ?_) | with_reducible apply outOf_ret | with_reducible apply outOf_pan | with_reducible apply again_exit | with_reducible apply again_ret | with_reducible apply again_pan | with_reducible apply W_seq | with_reducible apply W_block | with_reducible apply W_scope | with_reducible apply W_skip | with_reducible apply W_ret | with_reducible apply W_exit | with_reducible apply W_label | ((with_reducible apply W_run); (focus kernel_rfl); (focus (simp only [runOps, wanted, exec1, operand, get, putT, ret, retO, lit, lit1, patch, CC_P, i64_add, hw]; exact rfl))))
    refine again_normal (i + 1, ?_) (by dsimp only; omega) (by dsimp only; omega) ?_
    rotate_left
    · (simp only [loopKeep, firstRegion, keepsOf, tidy, canon, reach, refsL, refs, catMap, depth, renL, ren, sub, sub1, upto, mem, place, fresh, get, nth, List.map, List.zip_cons_cons, List.zip_nil_right, List.take, List.append_nil, Sl.t] <;> exact rfl)
  repeat (first | with_reducible apply once_normal | with_reducible apply once_exit | with_reducible apply once_ret | with_reducible apply once_pan | with_reducible apply thenW_normal | with_reducible apply thenW_ret | with_reducible apply thenW_exit | with_reducible apply thenW_pan | with_reducible apply outOf_normal | with_reducible apply outOf_eq | (refine outOf_ne (by kernel_rfl) ?_) | with_reducible apply outOf_ret | with_reducible apply outOf_pan | with_reducible apply again_exit | with_reducible apply again_ret | with_reducible apply again_pan | with_reducible apply W_seq | with_reducible apply W_block | with_reducible apply W_scope | with_reducible apply W_skip | with_reducible apply W_ret | with_reducible apply W_exit | with_reducible apply W_label | ((with_reducible apply W_run); (focus kernel_rfl); (focus (simp only [runOps, wanted, exec1, operand, get, putT, ret, patch]; exact rfl))))
  exact ⟨.t (.int .i64 n), by kernel_rfl, .t (.int .i64 n), [], by kernel_rfl, n, rfl, rfl⟩

theorem Great_ok (p : Pat) (hl : p.slots.l.length < 9223372036854775808) (hx : ∀ s ∈ p.slots.l, s.test.l.length < 9223372036854775808 ∧ ∀ x ∈ s.test.l, x.a.l.length < 9223372036854775808 ∧ x.b.l.length < 9223372036854775808) :
    ∃ b, Om CC 6 [.t (.agg p.c)] [] = some (.val (.t (.bool b)), []) ∧ (b = false → p.slots.l.length ≤ 8) := by
  have key := call_of_W (C := CC) (args := [.t (.agg p.c)]) (h := []) (R := fun o h' => ∃ b, (o = .val (.t (.bool b)) ∧ h' = []) ∧ (b = false → p.slots.l.length ≤ 8)) fun_6 rfl ?_
  · obtain ⟨o, h', h1, b, ⟨rfl, rfl⟩, h2⟩ := key
    exact ⟨b, h1, h2⟩
  show W CC 0 29 (keepsOf 6) _ ⟨[(0, _)], []⟩ _
  repeat (first | with_reducible apply once_normal | with_reducible apply once_exit | with_reducible apply once_ret | with_reducible apply once_pan | with_reducible apply thenW_normal | with_reducible apply thenW_ret | with_reducible apply thenW_exit | with_reducible apply thenW_pan | with_reducible apply outOf_normal | with_reducible apply outOf_eq | (refine outOf_ne (by kernel_rfl) ?_) | with_reducible apply outOf_ret | with_reducible apply outOf_pan | with_reducible apply again_exit | with_reducible apply again_ret | with_reducible apply again_pan | with_reducible apply W_seq | with_reducible apply W_block | with_reducible apply W_scope | with_reducible apply W_skip | with_reducible apply W_ret | with_reducible apply W_exit | with_reducible apply W_label | ((with_reducible apply W_run); (focus kernel_rfl); (focus (simp only [runOps, wanted, exec1, xBox, cellsOf, operand, get, putT, ret, lit, lit1, patch, put1, List.map_cons, List.map_nil, List.length_nil, Sl.t, Pat.c]; exact rfl))))
  refine W_rounds (α := Nat × Int) (fun a => ⟨[(1, .box 0 0), (3, .t (.int .i64 a.2)), (4, .t (.int .i64 a.1))], [.box (p.c.map .t)]⟩)
    (fun a => p.slots.l.length - a.1) (fun a => a.1 ≤ p.slots.l.length) (0, 0) (by kernel_rfl) (Nat.zero_le _) ?_
  rintro ⟨i, n⟩ hi
  try dsimp only at hi
  repeat (first | with_reducible apply once_normal | with_reducible apply once_exit | with_reducible apply once_ret | with_reducible apply once_pan | with_reducible apply thenW_normal | with_reducible apply thenW_ret | with_reducible apply thenW_exit | with_reducible apply thenW_pan | with_reducible apply outOf_normal | with_reducible apply outOf_eq | (refine outOf_ne (by kernel_rfl) ?_) | with_reducible apply outOf_ret | with_reducible apply outOf_pan | with_reducible apply again_exit | with_reducible apply again_ret | with_reducible apply again_pan | with_reducible apply W_seq | with_reducible apply W_block | with_reducible apply W_scope | with_reducible apply W_skip | with_reducible apply W_ret | with_reducible apply W_exit | with_reducible apply W_label | ((with_reducible apply W_run); (focus kernel_rfl); (focus (simp only [Int.ofNat_eq_natCast, List.length_map, runOps, wanted, exec1, xCall, xBuiltin, xLen, operand, opds, get, putT, ret, retO, patch, load, loadCells, cut, addOff, nth, lenOf, CC_P, int_lss, Nat.zero_add, List.map_cons, List.map_nil, List.length_cons, List.length_nil, List.take, List.drop, if_true, Nat.reduceAdd, Nat.reduceLeDiff, Sl.t, Pat.c, und_23, agg_23, fa_27_2]; exact rfl))))
  refine W_cond (v := decide ((i : Int) < p.slots.l.length)) (by (simp only [operand, get])) (fun hv => ?_) (fun hv => ?_)
  · have hi' : i < p.slots.l.length := by simpa using hv
    have hw : IntKind.i64.wrap ((i : Int) + 1) = ((i + 1 : Nat) : Int) := by rw [wrap64] <;> omega
    have he : p.slots.l[i]? = some p.slots.l[i] := List.getElem?_eq_getElem hi'
    have hh := hx p.slots.l[i] (List.getElem_mem hi')
    generalize p.slots.l[i] = x at he hh
    obtain ⟨k, hk⟩ := size_ok x.test hh.1 hh.2
    simp only [Sl.t] at hk
    repeat (first | with_reducible apply once_normal | with_reducible apply once_exit | with_reducible apply once_ret | with_reducible apply once_pan | with_reducible apply thenW_normal | with_reducible apply thenW_ret | with_reducible apply thenW_exit | with_reducible apply thenW_pan | with_reducible apply outOf_normal | with_reducible apply outOf_eq | (refine outOf_ne (by kernel_rfl) ?_) | with_reducible apply outOf_ret | with_reducible apply outOf_pan | with_reducible apply again_exit | with_reducible apply again_ret | with_reducible apply again_pan | with_reducible apply W_seq | with_reducible apply W_block | with_reducible apply W_scope | with_reducible apply W_skip | with_reducible apply W_ret | with_reducible apply W_exit | with_reducible apply W_label | ((with_reducible apply W_run); (focus kernel_rfl); (focus (simp only [List.getElem?_map, Option.map_some, runOps, wanted, exec1, xCall, xIndexAddr, operand, opds, get, putT, ret, retO, lit, lit1, patch, load, loadCells, cut, addOff, nth, indexAddr, upd, CC_P, i64_add, idx_nat, Nat.zero_add, List.map_cons, List.map_nil, List.length_cons, List.length_nil, List.take, List.drop, List.append_nil, if_true, Nat.reduceAdd, Nat.reduceLeDiff, Nat.reduceEqDiff, Sl.t, STest.c, he, hw, callF, callIn, reach, refsL, refs, catMap, depth, sub, sub1, renL, ren, mem, place, fresh, import1, plain, plainT, view, viewed, freeze, CC_byRef, CC_prim, ne_eq, not_false_eq_true, cond_false, hk, hb_11, und_23, agg_23, fa_27_2, agg_50, fa_52_1, size_52]; exact rfl))))
    repeat (first | with_reducible apply once_normal | with_reducible apply once_exit | with_reducible apply once_ret | with_reducible apply once_pan | with_reducible apply thenW_normal | with_reducible apply thenW_ret | with_reducible apply thenW_exit | with_reducible apply thenW_pan | with_reducible apply outOf_normal | with_reducible apply outOf_eq | (refine outOf_ne (by kernel_rfl) ?_) | with_reducible apply outOf_ret | with_reducible apply outOf_pan | with_reducible apply again_exit | with_reducible apply again_ret | with_reducible apply again_pan | with_reducible apply W_seq | with_reducible apply W_block | with_reducible apply W_scope | with_reducible apply W_skip | with_reducible apply W_ret | with_reducible apply W_exit | with_reducible apply W_label | ((with_reducible apply W_run); (focus kernel_rfl); (focus (simp only [if_true]; exact rfl))))
    refine again_normal (i + 1, ?_) (by dsimp only; omega) (by dsimp only; omega) ?_
    rotate_left
    · (simp only [loopKeep, firstRegion, keepsOf, tidy, canon, reach, refsL, refs, refsO, catMap, depth, renL, ren, renO, sub, sub1, upto, mem, place, fresh, cond_true, get, nth, List.map, List.zip_cons_cons, List.zip_nil_right, List.take, List.append_nil, List.nil_append, beq_dec, decide_true, Sl.t, Pat.c] <;> exact rfl)
  repeat (first | with_reducible apply once_normal | with_reducible apply once_exit | with_reducible apply once_ret | with_reducible apply once_pan | with_reducible apply thenW_normal | with_reducible apply thenW_ret | with_reducible apply thenW_exit | with_reducible apply thenW_pan | with_reducible apply outOf_normal | with_reducible apply outOf_eq | (refine outOf_ne (by kernel_rfl) ?_) | with_reducible apply outOf_ret | with_reducible apply outOf_pan | with_reducible apply again_exit | with_reducible apply again_ret | with_reducible apply again_pan | with_reducible apply W_seq | with_reducible apply W_block | with_reducible apply W_scope | with_reducible apply W_skip | with_reducible apply W_ret | with_reducible apply W_exit | with_reducible apply W_label | ((with_reducible apply W_run); (focus kernel_rfl); (focus (simp only [beq_false, Int.ofNat_eq_natCast, List.length_map, runOps, wanted, exec1, xPick, xCall, xBuiltin, xLen, operand, opds, get, putT, ret, retO, lit, lit1, patch, load, loadCells, cut, addOff, nth, lenOf, CC_P, int_gtr, Nat.zero_add, List.length_cons, List.length_nil, List.take, List.drop, if_true, Nat.reduceAdd, Nat.reduceLeDiff, und_23, agg_23, fa_27_2]; exact rfl))))
  rcases Bool.eq_false_or_eq_true (decide ((p.slots.l.length : Int) > 8)) with hb | hb
  · repeat (first | with_reducible apply once_normal | with_reducible apply once_exit | with_reducible apply once_ret | with_reducible apply once_pan | with_reducible apply thenW_normal | with_reducible apply thenW_ret | with_reducible apply thenW_exit | with_reducible apply thenW_pan | with_reducible apply outOf_normal | with_reducible apply outOf_eq | (refine outOf_ne (by kernel_rfl) ?_) | with_reducible apply outOf_ret | with_reducible apply outOf_pan | with_reducible apply again_exit | with_reducible apply again_ret | with_reducible apply again_pan | with_reducible apply W_seq | with_reducible apply W_block | with_reducible apply W_scope | with_reducible apply W_skip | with_reducible apply W_ret | with_reducible apply W_exit | with_reducible apply W_label | ((with_reducible apply W_run); (focus kernel_rfl); (focus (simp only [beq_false, Int.ofNat_eq_natCast, List.length_map, runOps, wanted, exec1, xPick, xCall, xBuiltin, xLen, operand, opds, get, putT, ret, retO, lit, lit1, patch, load, loadCells, cut, addOff, nth, lenOf, CC_P, int_gtr, Nat.zero_add, List.length_cons, List.length_nil, List.take, List.drop, Bool.not_true, if_true, Nat.reduceAdd, Nat.reduceLeDiff, hb, und_23, agg_23, fa_27_2]; exact rfl))))
    exact ⟨.t (.bool true), by kernel_rfl, .t (.bool true), [], by kernel_rfl, true, ⟨rfl, rfl⟩, fun h => by cases h⟩
  · repeat (first | with_reducible apply once_normal | with_reducible apply once_exit | with_reducible apply once_ret | with_reducible apply once_pan | with_reducible apply thenW_normal | with_reducible apply thenW_ret | with_reducible apply thenW_exit | with_reducible apply thenW_pan | with_reducible apply outOf_normal | with_reducible apply outOf_eq | (refine outOf_ne (by kernel_rfl) ?_) | with_reducible apply outOf_ret | with_reducible apply outOf_pan | with_reducible apply again_exit | with_reducible apply again_ret | with_reducible apply again_pan | with_reducible apply W_seq | with_reducible apply W_block | with_reducible apply W_scope | with_reducible apply W_skip | with_reducible apply W_ret | with_reducible apply W_exit | with_reducible apply W_label | ((with_reducible apply W_run); (focus kernel_rfl); (focus (simp only [Int.ofNat_eq_natCast, List.length_map, runOps, wanted, exec1, xPick, xCall, xBuiltin, xLen, operand, opds, get, putT, ret, retO, lit, lit1, patch, load, loadCells, cut, addOff, nth, lenOf, CC_P, int_gtr, beq_self_eq_true, Nat.zero_add, List.length_cons, List.length_nil, List.take, List.drop, if_true, Nat.reduceAdd, Nat.reduceLeDiff, hb, und_23, agg_23, fa_27_2]; exact rfl))))
    exact ⟨.t (.bool (decide (n > 1500))), by kernel_rfl, .t (.bool (decide (n > 1500))), [], by kernel_rfl, _, ⟨rfl, rfl⟩, fun _ => by simp at hb; omega⟩
end Go.Ab
/- A pattern of the examples, by the kernel. -/
namespace Go.Ab
open Go.Proofs
set_option maxRecDepth 1000000
theorem pat1_run : callN CC 2000 13 [.t (.str [97, 40, 120, 58, 32, 63, 110, 44, 32, 121, 58, 32, 62, 32, 63, 110, 41])] [] = some (.val (.t (.agg [.str [], .str [97], .sl false false [[.str [120], .sl false false [[.int .u8 (2), .sl false false [[.int .u8 (2), .int .u8 (0), .int .i64 (0), .str [], .str [110], .sl true true [], .int .i64 (1), .int .i64 (18)]], .sl true true [], .bool false, .bool false, .sl true true [], .int .i64 (1), .int .i64 (18)]], .int .i64 (1), .int .i64 (15)], [.str [121], .sl false false [[.int .u8 (5), .sl false false [[.int .u8 (2), .int .u8 (0), .int .i64 (0), .str [], .str [110], .sl true true [], .int .i64 (1), .int .i64 (27)]], .sl true true [], .bool false, .bool false, .sl true true [], .int .i64 (1), .int .i64 (25)]], .int .i64 (1), .int .i64 (22)]], .int .i64 (1), .int .i64 (13)])), []) := by
  kernel_rfl
end Go.Ab
/- A pattern of the examples, by the kernel. -/
namespace Go.Ab
open Go.Proofs
set_option maxRecDepth 1000000
theorem pat2_run : callN CC 2000 13 [.t (.str [97, 40, 120, 58, 32, 63, 110, 44, 32, 121, 58, 32, 63, 110, 41])] [] = some (.val (.t (.agg [.str [], .str [97], .sl false false [[.str [120], .sl false false [[.int .u8 (2), .sl false false [[.int .u8 (2), .int .u8 (0), .int .i64 (0), .str [], .str [110], .sl true true [], .int .i64 (1), .int .i64 (18)]], .sl true true [], .bool false, .bool false, .sl true true [], .int .i64 (1), .int .i64 (18)]], .int .i64 (1), .int .i64 (15)], [.str [121], .sl false false [[.int .u8 (2), .sl false false [[.int .u8 (2), .int .u8 (0), .int .i64 (0), .str [], .str [110], .sl true true [], .int .i64 (1), .int .i64 (25)]], .sl true true [], .bool false, .bool false, .sl true true [], .int .i64 (1), .int .i64 (25)]], .int .i64 (1), .int .i64 (22)]], .int .i64 (1), .int .i64 (13)])), []) := by
  kernel_rfl
end Go.Ab
/- A pattern of the examples, by the kernel. -/
namespace Go.Ab
open Go.Proofs
set_option maxRecDepth 1000000
theorem pat3_run : callN CC 2000 13 [.t (.str [97, 40, 120, 58, 32, 63, 110, 41])] [] = some (.val (.t (.agg [.str [], .str [97], .sl false false [[.str [120], .sl false false [[.int .u8 (2), .sl false false [[.int .u8 (2), .int .u8 (0), .int .i64 (0), .str [], .str [110], .sl true true [], .int .i64 (1), .int .i64 (18)]], .sl true true [], .bool false, .bool false, .sl true true [], .int .i64 (1), .int .i64 (18)]], .int .i64 (1), .int .i64 (15)]], .int .i64 (1), .int .i64 (13)])), []) := by
  kernel_rfl
end Go.Ab
/- The examples hold. -/
namespace Go.Ab
open Go.Proofs
set_option maxRecDepth 1000000
/-- The patterns of the examples. -/
def patTbl : Oracle := fun f args h => match f, args, h with
  | 13, [.t (.str s)], [] =>
    match beqL s [97, 40, 120, 58, 32, 63, 110, 44, 32, 121, 58, 32, 62, 32, 63, 110, 41] with
    | true => some (.val (.t (.agg [.str [], .str [97], .sl false false [[.str [120], .sl false false [[.int .u8 (2), .sl false false [[.int .u8 (2), .int .u8 (0), .int .i64 (0), .str [], .str [110], .sl true true [], .int .i64 (1), .int .i64 (18)]], .sl true true [], .bool false, .bool false, .sl true true [], .int .i64 (1), .int .i64 (18)]], .int .i64 (1), .int .i64 (15)], [.str [121], .sl false false [[.int .u8 (5), .sl false false [[.int .u8 (2), .int .u8 (0), .int .i64 (0), .str [], .str [110], .sl true true [], .int .i64 (1), .int .i64 (27)]], .sl true true [], .bool false, .bool false, .sl true true [], .int .i64 (1), .int .i64 (25)]], .int .i64 (1), .int .i64 (22)]], .int .i64 (1), .int .i64 (13)])), [])
    | false =>
    match beqL s [97, 40, 120, 58, 32, 63, 110, 44, 32, 121, 58, 32, 63, 110, 41] with
    | true => some (.val (.t (.agg [.str [], .str [97], .sl false false [[.str [120], .sl false false [[.int .u8 (2), .sl false false [[.int .u8 (2), .int .u8 (0), .int .i64 (0), .str [], .str [110], .sl true true [], .int .i64 (1), .int .i64 (18)]], .sl true true [], .bool false, .bool false, .sl true true [], .int .i64 (1), .int .i64 (18)]], .int .i64 (1), .int .i64 (15)], [.str [121], .sl false false [[.int .u8 (2), .sl false false [[.int .u8 (2), .int .u8 (0), .int .i64 (0), .str [], .str [110], .sl true true [], .int .i64 (1), .int .i64 (25)]], .sl true true [], .bool false, .bool false, .sl true true [], .int .i64 (1), .int .i64 (25)]], .int .i64 (1), .int .i64 (22)]], .int .i64 (1), .int .i64 (13)])), [])
    | false =>
    match beqL s [97, 40, 120, 58, 32, 63, 110, 41] with
    | true => some (.val (.t (.agg [.str [], .str [97], .sl false false [[.str [120], .sl false false [[.int .u8 (2), .sl false false [[.int .u8 (2), .int .u8 (0), .int .i64 (0), .str [], .str [110], .sl true true [], .int .i64 (1), .int .i64 (18)]], .sl true true [], .bool false, .bool false, .sl true true [], .int .i64 (1), .int .i64 (18)]], .int .i64 (1), .int .i64 (15)]], .int .i64 (1), .int .i64 (13)])), [])
    | false =>
      none
  | _, _, _ => none

theorem patTbl_ok (f : FuncId) (args : List AV) (h : Heap) (r : Out × Heap) (hx : patTbl f args h = some r) : Om CC f args h = some r := by
  unfold patTbl at hx
  split at hx
  · rename_i s
    split at hx
    · rename_i hb
      rw [beqL_eq, decide_eq_true_eq] at hb
      cases hx; subst hb; exact om_of_callN pat1_run
    · split at hx
      · rename_i hb
        rw [beqL_eq, decide_eq_true_eq] at hb
        cases hx; subst hb; exact om_of_callN pat2_run
      · split at hx
        · rename_i hb
          rw [beqL_eq, decide_eq_true_eq] at hb
          cases hx; subst hb; exact om_of_callN pat3_run
        · cases hx
  · cases hx

theorem known_run : callK CC patTbl 2000 7 [] [] = some (.val (.t (.bool true)), []) := by
  kernel_rfl

theorem known_ok : Om CC 7 [] [] = some (.val (.t (.bool true)), []) := om_of_callK patTbl_ok known_run
end Go.Ab
/- Layer 18's statement: patterns that are alike. -/
namespace Go.Ab
open Go.Proofs
set_option maxRecDepth 100000
set_option maxHeartbeats 4000000
set_option linter.unusedSimpArgs false
set_option linter.unusedVariables false


theorem passP_all (ts : Sl Tpl) (p : Pat) (f : Fact) (vars : Sl Bind) (hp : PassOK ts p f vars) :
    ∃ a, Om CC 8 [.t (ts.t Tpl.c), .t (.agg p.c), .t (.agg f.c), .t (vars.t Bind.c)] [] = some (.val (passF a), []) ∧ passE (passP ts.l p f vars.l) a := by
  cases hf : ts.l.findIdx? (fun t => beqL t.name p.t) with
  | none =>
    have hn : tplAt p.t ts.l = -1 := by unfold tplAt; rw [hf]
    refine ⟨_, passP_not ts p f vars hp.hts (.inl (by omega)), ?_⟩
    unfold passP; rw [hf]; rfl
  | some i =>
    have hn : tplAt p.t ts.l = (i : Int) := by unfold tplAt; rw [hf]
    by_cases h : f.tp = (i : Int)
    · have hi : i < ts.l.length := by
        rw [List.findIdx?_eq_some_iff_getElem] at hf
        exact hf.1
      have ht : ts.l[i]? = some ts.l[i] := List.getElem?_eq_getElem hi
      obtain ⟨a, h1, h2⟩ := passP_run ts p f vars hp i ts.l[i] hn ht h
      refine ⟨a, h1, ?_⟩
      unfold passP; rw [hf]; simp only [h, if_true, ht]; exact h2
    · refine ⟨_, passP_not ts p f vars hp.hts (.inr (by rw [hn]; exact h)), ?_⟩
      unfold passP; rw [hf]; simp only [h, if_false]; rfl

theorem stepS_len {t : Tpl} {f : Fact} {slot : List Nat} {ts : List STst} {out o : List Bind} (h : stepS t f slot ts out = some o) : o.length ≤ out.length + 1 := by
  unfold stepS at h
  split at h
  · cases h
  split at h
  · split at h
    · cases h; simp
    · split at h
      · cases h; omega
      · cases h
  · split at h
    · cases h; omega
    · cases h
theorem passS_len {t : Tpl} {f : Fact} : ∀ {ss : List (List Nat × List STst)} {out o : List Bind}, passS t f ss out = some o → o.length ≤ out.length + ss.length
  | [], out, o, h => by cases h; simp
  | s :: r, out, o, h => by
    simp only [passS] at h
    cases hs : stepS t f s.1 s.2 out with
    | none => rw [hs] at h; cases h
    | some x =>
      rw [hs] at h
      have h1 := stepS_len hs
      have h2 := passS_len h
      simp only [List.length_cons]; omega
theorem passP_len {ts : List Tpl} {p : Pat} {f : Fact} {vars o : List Bind} (h : passP ts p f vars = some o) : o.length ≤ vars.length + p.slots.l.length := by
  unfold passP at h
  split at h
  · split at h
    · split at h
      · have := passS_len h
        simpa using this
      · cases h
    · cases h
  · cases h

/-- What Pass tells: the list, and whether it passes. -/
theorem pass_at (ts : Sl Tpl) (p : Pat) (f : Fact) (vars : Sl Bind) (hp : PassOK ts p f vars) :
    ∃ nl cl, Om CC 8 [.t (ts.t Tpl.c), .t (.agg p.c), .t (.agg f.c), .t (vars.t Bind.c)] [] = some (.val (.tup [.t (.sl nl cl (((passP ts.l p f vars.l).getD []).map Bind.c)), .t (.bool (passP ts.l p f vars.l).isSome)]), []) := by
  obtain ⟨⟨nl, cl, l, is⟩, h1, h2⟩ := passP_all ts p f vars hp
  refine ⟨nl, cl, ?_⟩
  rw [h1]
  cases h : passP ts.l p f vars.l with
  | none =>
    rw [h] at h2
    cases h2; rfl
  | some o =>
    rw [h] at h2
    cases h2; rfl

theorem SLen_of {x : STest} (h : SOK x) : SLen x := by
  refine ⟨by have := h.len; omega, fun y hy => ?_⟩
  have hy := h.all y hy
  refine ⟨by have := hy.kids; omega, ⟨by have := hy.a.len; omega, fun z hz => by have := hy.a.kids z hz; omega⟩, ⟨by have := hy.b.len; omega, fun z hz => by have := hy.b.kids z hz; omega⟩⟩
theorem alikeP_comm (p q : Pat) : alikeP p q = alikeP q p := by
  have h1 := alikeP_iff p q
  have h2 := alikeP_iff q p
  have h3 : alikeP p q = true ↔ alikeP q p = true := h1.trans (Iff.trans ⟨fun h => ⟨h.1.symm, h.2.symm⟩, fun h => ⟨h.1.symm, h.2.symm⟩⟩ h2.symm)
  cases h4 : alikeP p q <;> cases h5 : alikeP q p <;> simp_all
/-- The same pattern of another name, at another place. -/
def Pat.other (p : Pat) : Pat := { p with name := p.name ++ [122], line := 77, col := 7 }
theorem alikeP_other (p : Pat) : alikeP p p.other = true := by rw [alikeP_iff]; exact ⟨rfl, rfl⟩
theorem alikeP_other2 (p q : Pat) : alikeP p.other q = alikeP p q := rfl
theorem passP_other (ts : List Tpl) (p : Pat) (f : Fact) (vars : List Bind) : passP ts p.other f vars = passP ts p f vars := rfl
theorem passP_alike (ts : List Tpl) (p q : Pat) (f : Fact) (vars : List Bind) (h : alikeP p q = true) : passP ts q f vars = passP ts p f vars := by
  obtain ⟨h1, h2⟩ := (alikeP_iff p q).1 h
  unfold passP
  rw [h1, h2]

/-- What is asked of the data. -/
structure AlikeOK (ts : Sl Tpl) (p q : Pat) (f : Fact) (vars : Sl Bind) : Prop where
  hp : PassOK ts p f vars
  hq : PassOK ts q f vars
  hf : f.s.l.length < 9223372036854775808
  hn : p.name.length < 2000000000

theorem test_len {p : Pat} (h : ∀ s ∈ p.slots.l, SOK s) : ∀ s ∈ p.slots.l, s.test.l.length < 9223372036854775808 ∧ ∀ x ∈ s.test.l, x.a.l.length < 9223372036854775808 ∧ x.b.l.length < 9223372036854775808 := fun s hs => by
  have h1 := h s hs
  exact ⟨by have := h1.len; omega, fun x hx => ⟨by have := (h1.all x hx).a.len; omega, by have := (h1.all x hx).b.len; omega⟩⟩

theorem u122 : UInt8.toNat 122 = 122 := rfl
theorem str_add (t : TypeId) (x : List Nat) (h : x.length < 2000000000) : binop Tryz.prog .add t (.t (.str x)) (.t (.str [122])) = some (.t (.str (x ++ [122]))) := by
  have h2 : x.length + 1 < 4611686018427387904 := by omega
  show Option.map AV.t (strOp .add x [122]) = _
  unfold strOp
  simp only [List.length_cons, List.length_nil, Nat.zero_add, h2, if_true]; rfl

theorem alikeL_ok (ts : Sl Tpl) (p q : Pat) (f : Fact) (vars : Sl Bind) (hw : AlikeOK ts p q f vars) :
    Om CC 4 [.t (ts.t Tpl.c), .t (.agg p.c), .t (.agg q.c), .t (.agg f.c), .t (vars.t Bind.c)] [] = some (.val (.t (.bool true)), []) := by
  refine call_eq fun_4 rfl ?_
  have hpo : PassOK ts p.other f vars := ⟨hw.hp.hts, hw.hp.htsl, hw.hp.hsl, hw.hp.htests, hw.hp.hfv, hw.hp.hvl, hw.hp.hvv, hw.hp.hvn⟩
  obtain ⟨b1, g1, _⟩ := great_ok ts f vars hw.hp.hts hw.hf (by have := hw.hp.hvl; omega)
  obtain ⟨b2, g2, _⟩ := Great_ok p (by have := hw.hp.hsl; omega) (test_len hw.hp.htests)
  obtain ⟨b3, g3, _⟩ := Great_ok q (by have := hw.hq.hsl; omega) (test_len hw.hq.htests)
  have hk := known_ok
  have h1 := alike_ok p q (by have := hw.hp.hsl; omega) (fun x hx => SLen_of (hw.hp.htests x hx))
  have h2 := alike_ok q p (by have := hw.hq.hsl; omega) (fun x hx => SLen_of (hw.hq.htests x hx))
  have h3 := alike_ok p p.other (by have := hw.hp.hsl; omega) (fun x hx => SLen_of (hw.hp.htests x hx))
  have h4 := alike_ok p.other q (by have := hw.hp.hsl; show p.slots.l.length < _; omega) (fun x hx => SLen_of (hw.hp.htests x hx))
  rw [alikeP_comm q p] at h2
  rw [alikeP_other] at h3
  rw [alikeP_other2] at h4
  obtain ⟨an, ac, ha⟩ := pass_at ts p f vars hw.hp
  obtain ⟨bn, bc, hb⟩ := pass_at ts p.other f vars hpo
  obtain ⟨cn, cc, hc⟩ := pass_at ts q f vars hw.hq
  rw [passP_other] at hb
  have hlen : ((passP ts.l p f vars.l).getD []).length < 9223372036854775808 := by
    cases h : passP ts.l p f vars.l with
    | none => simp
    | some o => have := passP_len h; have h1 := hw.hp.hsl; have h2 := hw.hp.hvl; simp only [Option.getD_some]; omega
  have hc2 : alikeP p q = true → passP ts.l q f vars.l = passP ts.l p f vars.l := passP_alike _ _ _ _ _
  have s1 := same_self ((passP ts.l p f vars.l).getD []) an ac bn bc hlen
  have s2 : Hid _ := ⟨same_self ((passP ts.l p f vars.l).getD []) an ac cn cc hlen⟩
  have hadd := str_add 9 p.name hw.hn
  generalize (passP ts.l p f vars.l) = R at *
  generalize (passP ts.l q f vars.l) = R2 at *
  generalize hlike : alikeP p q = like at *
  clear hlike hpo hlen hw
  obtain ⟨tnl, tcl, tl⟩ := ts
  obtain ⟨pn, pt, ⟨snl, scl, sl⟩, line, col⟩ := p
  obtain ⟨qn, qt, ⟨qsnl, qscl, qsl⟩, qline, qcol⟩ := q
  obtain ⟨fid, ftp, ⟨fnl, fcl, fl⟩⟩ := f
  obtain ⟨vnl, vcl, vl⟩ := vars
  simp only [Pat.c, Fact.c, Pat.other, Sl.t] at g1 g2 g3 h1 h2 h3 h4 ha hb hc s1 hadd
  have hc3 : Hid _ := ⟨hc2⟩
  clear hc2
  cases b1 with
  | true =>
    (have F_ : _ ∧ _ ∧ _ ∧ _ ∧ _ ∧ _ ∧ _ ∧ _ ∧ _ ∧ _ ∧ _ ∧ _ ∧ _ ∧ _ ∧ _ ∧ _ ∧ _ ∧ _ ∧ _ ∧ _ ∧ _ ∧ _ ∧ _ ∧ _ ∧ _ ∧ _ ∧ _ ∧ _ ∧ _ ∧ _ ∧ _ ∧ _ ∧ _ ∧ _ ∧ _ ∧ _ ∧ _ ∧ _ ∧ _ ∧ _ ∧ _ ∧ _ ∧ _ ∧ _ ∧ _ ∧ _ ∧ _ ∧ _ ∧ _ ∧ _ ∧ _ ∧ _ ∧ _ ∧ _ ∧ _ ∧ _ ∧ _ ∧ _ ∧ _ ∧ _ ∧ _ ∧ _ ∧ _ ∧ _ ∧ _ ∧ _ ∧ _ ∧ _ ∧ _ ∧ _ ∧ _ ∧ _ ∧ _ ∧ _ ∧ _ ∧ _ ∧ _ ∧ _ ∧ _ ∧ _ ∧ _ ∧ _ ∧ _ ∧ _ ∧ _ ∧ _ ∧ _ ∧ _ ∧ _ ∧ _ ∧ _ ∧ _ ∧ _ ∧ _ ∧ _ ∧ _ ∧ _ ∧ _ ∧ _ ∧ _ ∧ _ ∧ _ ∧ _ ∧ _ ∧ _ ∧ _ ∧ _ ∧ _ ∧ _ ∧ _ ∧ _ ∧ _ ∧ _ ∧ _ ∧ _ ∧ _ ∧ _ ∧ _ ∧ _ ∧ _ ∧ _ ∧ _ ∧ _ ∧ _ ∧ _ ∧ _ ∧ _ ∧ _ ∧ _ ∧ _ ∧ _ ∧ _ ∧ _ ∧ _ ∧ _ ∧ _ ∧ _ ∧ _ ∧ _ ∧ _ ∧ _ ∧ _ ∧ _ ∧ _ ∧ _ ∧ _ ∧ _ ∧ _ ∧ _ ∧ _ ∧ _ ∧ _ ∧ _ ∧ _ ∧ _ ∧ _ ∧ _ ∧ _ ∧ _ ∧ _ ∧ _ ∧ _ ∧ _ ∧ _ ∧ _ ∧ _ ∧ _ ∧ _ ∧ _ ∧ _ ∧ _ ∧ _ ∧ _ ∧ _ ∧ _ ∧ _ ∧ _ ∧ _ ∧ _ ∧ _ ∧ _ ∧ _ ∧ _ ∧ _ ∧ _ ∧ _ ∧ _ ∧ _ ∧ _ ∧ _ ∧ _ ∧ _ ∧ _ ∧ _ ∧ _ ∧ _ ∧ _ ∧ _ ∧ _ ∧ _ ∧ _ ∧ _ ∧ _ ∧ _ ∧ _ ∧ _ ∧ _ ∧ _ ∧ _ ∧ _ ∧ _ ∧ _ ∧ _ ∧ _ ∧ _ ∧ _ ∧ _ ∧ _ ∧ _ ∧ _ ∧ _ ∧ _ ∧ _ ∧ _ := ⟨und_2, size_2, agg_2, zero_2, zel_2, small_2, und_3, size_3, agg_3, zero_3, zel_3, small_3, und_4, size_4, agg_4, zero_4, zel_4, small_4, noInt_4, und_5, size_5, agg_5, zero_5, zel_5, small_5, und_9, size_9, agg_9, zero_9, zel_9, small_9, noInt_9, und_22, size_22, agg_22, zero_22, zel_22, small_22, noInt_22, und_23, size_23, agg_23, zero_23, zel_23, small_23, noInt_23, fa_25_0, fd_25_0, fa_25_1, fd_25_1, bld_25, size_25, agg_25, zero_25, zel_25, small_25, noInt_25, fa_27_0, fd_27_0, fa_27_1, fd_27_1, fa_27_2, fd_27_2, fa_27_3, fd_27_3, bld_27, size_27, agg_27, zero_27, zel_27, small_27, noInt_27, und_28, size_28, agg_28, zero_28, zel_28, small_28, noInt_28, fa_30_0, fd_30_0, fa_30_1, fd_30_1, fa_30_2, fd_30_2, bld_30, size_30, agg_30, zero_30, zel_30, small_30, noInt_30, und_31, size_31, agg_31, zero_31, zel_31, small_31, noInt_31, und_37, size_37, agg_37, zero_37, zel_37, small_37, noInt_37, fa_39_0, fd_39_0, fa_39_1, fd_39_1, bld_39, size_39, agg_39, zero_39, zel_39, small_39, noInt_39, fa_45_0, fd_45_0, fa_45_1, fd_45_1, fa_45_2, fd_45_2, bld_45, size_45, agg_45, zero_45, zel_45, small_45, noInt_45, fa_47_0, fd_47_0, fa_47_1, fd_47_1, bld_47, size_47, agg_47, zero_47, zel_47, small_47, noInt_47, und_50, size_50, agg_50, zero_50, zel_50, small_50, noInt_50, fa_52_0, fd_52_0, fa_52_1, fd_52_1, fa_52_2, fd_52_2, bld_52, size_52, agg_52, zero_52, zel_52, small_52, noInt_52, fa_54_0, fd_54_0, fa_54_1, fd_54_1, bld_54, size_54, agg_54, zero_54, zel_54, small_54, noInt_54, und_70, size_70, agg_70, zero_70, zel_70, small_70, noInt_70, und_71, size_71, agg_71, zero_71, zel_71, small_71, noInt_71, fa_73_0, fd_73_0, fa_73_1, fd_73_1, fa_73_2, fd_73_2, fa_73_3, fd_73_3, fa_73_4, fd_73_4, fa_73_5, fd_73_5, fa_73_6, fd_73_6, bld_73, size_73, agg_73, zero_73, zel_73, small_73, noInt_73, fa_75_0, fd_75_0, fa_75_1, fd_75_1, fa_75_2, fd_75_2, fa_75_3, fd_75_3, fa_75_4, fd_75_4, bld_75, size_75, agg_75, zero_75, zel_75, small_75, noInt_75⟩; show W CC 0 108 (keepsOf 4) _ ⟨[(0, _), (1, _), (2, _), (3, _), (4, _)], []⟩ _)
    (have x0_ := @u122; have x1_ := @hb_5; have x2_ := @hb_6; have x3_ := @hb_7; have x4_ := @hb_8; have x5_ := @hb_9; have x6_ := @hb_10; (repeat' (first | with_reducible apply fol | with_reducible refine aRW ?_ | with_reducible refine aRR ?_ | with_reducible refine aRs ?_ | ((with_reducible first | apply RW_gdn | apply RR_gdn | apply RW_gd | apply RR_gd) <;> intro hg <;> first | (cases hg; done) | skip) | with_reducible refine aE1 ?_ | with_reducible refine aE2 ?_ | with_reducible refine aOn ?_ | ((with_reducible refine aCd ?_ ?_) <;> intro hv <;> first | (cases hv; done) | skip) | fail)); all_goals clear x0_ x1_ x2_ x3_ x4_ x5_ x6_)
    exact ⟨.t (.bool true), by kernel_rfl, by kernel_rfl⟩
  | false =>
  cases b2 with
  | true =>
    (have F_ : _ ∧ _ ∧ _ ∧ _ ∧ _ ∧ _ ∧ _ ∧ _ ∧ _ ∧ _ ∧ _ ∧ _ ∧ _ ∧ _ ∧ _ ∧ _ ∧ _ ∧ _ ∧ _ ∧ _ ∧ _ ∧ _ ∧ _ ∧ _ ∧ _ ∧ _ ∧ _ ∧ _ ∧ _ ∧ _ ∧ _ ∧ _ ∧ _ ∧ _ ∧ _ ∧ _ ∧ _ ∧ _ ∧ _ ∧ _ ∧ _ ∧ _ ∧ _ ∧ _ ∧ _ ∧ _ ∧ _ ∧ _ ∧ _ ∧ _ ∧ _ ∧ _ ∧ _ ∧ _ ∧ _ ∧ _ ∧ _ ∧ _ ∧ _ ∧ _ ∧ _ ∧ _ ∧ _ ∧ _ ∧ _ ∧ _ ∧ _ ∧ _ ∧ _ ∧ _ ∧ _ ∧ _ ∧ _ ∧ _ ∧ _ ∧ _ ∧ _ ∧ _ ∧ _ ∧ _ ∧ _ ∧ _ ∧ _ ∧ _ ∧ _ ∧ _ ∧ _ ∧ _ ∧ _ ∧ _ ∧ _ ∧ _ ∧ _ ∧ _ ∧ _ ∧ _ ∧ _ ∧ _ ∧ _ ∧ _ ∧ _ ∧ _ ∧ _ ∧ _ ∧ _ ∧ _ ∧ _ ∧ _ ∧ _ ∧ _ ∧ _ ∧ _ ∧ _ ∧ _ ∧ _ ∧ _ ∧ _ ∧ _ ∧ _ ∧ _ ∧ _ ∧ _ ∧ _ ∧ _ ∧ _ ∧ _ ∧ _ ∧ _ ∧ _ ∧ _ ∧ _ ∧ _ ∧ _ ∧ _ ∧ _ ∧ _ ∧ _ ∧ _ ∧ _ ∧ _ ∧ _ ∧ _ ∧ _ ∧ _ ∧ _ ∧ _ ∧ _ ∧ _ ∧ _ ∧ _ ∧ _ ∧ _ ∧ _ ∧ _ ∧ _ ∧ _ ∧ _ ∧ _ ∧ _ ∧ _ ∧ _ ∧ _ ∧ _ ∧ _ ∧ _ ∧ _ ∧ _ ∧ _ ∧ _ ∧ _ ∧ _ ∧ _ ∧ _ ∧ _ ∧ _ ∧ _ ∧ _ ∧ _ ∧ _ ∧ _ ∧ _ ∧ _ ∧ _ ∧ _ ∧ _ ∧ _ ∧ _ ∧ _ ∧ _ ∧ _ ∧ _ ∧ _ ∧ _ ∧ _ ∧ _ ∧ _ ∧ _ ∧ _ ∧ _ ∧ _ ∧ _ ∧ _ ∧ _ ∧ _ ∧ _ ∧ _ ∧ _ ∧ _ ∧ _ ∧ _ ∧ _ ∧ _ ∧ _ ∧ _ ∧ _ ∧ _ ∧ _ ∧ _ ∧ _ ∧ _ ∧ _ ∧ _ ∧ _ ∧ _ := ⟨und_2, size_2, agg_2, zero_2, zel_2, small_2, und_3, size_3, agg_3, zero_3, zel_3, small_3, und_4, size_4, agg_4, zero_4, zel_4, small_4, noInt_4, und_5, size_5, agg_5, zero_5, zel_5, small_5, und_9, size_9, agg_9, zero_9, zel_9, small_9, noInt_9, und_22, size_22, agg_22, zero_22, zel_22, small_22, noInt_22, und_23, size_23, agg_23, zero_23, zel_23, small_23, noInt_23, fa_25_0, fd_25_0, fa_25_1, fd_25_1, bld_25, size_25, agg_25, zero_25, zel_25, small_25, noInt_25, fa_27_0, fd_27_0, fa_27_1, fd_27_1, fa_27_2, fd_27_2, fa_27_3, fd_27_3, bld_27, size_27, agg_27, zero_27, zel_27, small_27, noInt_27, und_28, size_28, agg_28, zero_28, zel_28, small_28, noInt_28, fa_30_0, fd_30_0, fa_30_1, fd_30_1, fa_30_2, fd_30_2, bld_30, size_30, agg_30, zero_30, zel_30, small_30, noInt_30, und_31, size_31, agg_31, zero_31, zel_31, small_31, noInt_31, und_37, size_37, agg_37, zero_37, zel_37, small_37, noInt_37, fa_39_0, fd_39_0, fa_39_1, fd_39_1, bld_39, size_39, agg_39, zero_39, zel_39, small_39, noInt_39, fa_45_0, fd_45_0, fa_45_1, fd_45_1, fa_45_2, fd_45_2, bld_45, size_45, agg_45, zero_45, zel_45, small_45, noInt_45, fa_47_0, fd_47_0, fa_47_1, fd_47_1, bld_47, size_47, agg_47, zero_47, zel_47, small_47, noInt_47, und_50, size_50, agg_50, zero_50, zel_50, small_50, noInt_50, fa_52_0, fd_52_0, fa_52_1, fd_52_1, fa_52_2, fd_52_2, bld_52, size_52, agg_52, zero_52, zel_52, small_52, noInt_52, fa_54_0, fd_54_0, fa_54_1, fd_54_1, bld_54, size_54, agg_54, zero_54, zel_54, small_54, noInt_54, und_70, size_70, agg_70, zero_70, zel_70, small_70, noInt_70, und_71, size_71, agg_71, zero_71, zel_71, small_71, noInt_71, fa_73_0, fd_73_0, fa_73_1, fd_73_1, fa_73_2, fd_73_2, fa_73_3, fd_73_3, fa_73_4, fd_73_4, fa_73_5, fd_73_5, fa_73_6, fd_73_6, bld_73, size_73, agg_73, zero_73, zel_73, small_73, noInt_73, fa_75_0, fd_75_0, fa_75_1, fd_75_1, fa_75_2, fd_75_2, fa_75_3, fd_75_3, fa_75_4, fd_75_4, bld_75, size_75, agg_75, zero_75, zel_75, small_75, noInt_75⟩; show W CC 0 108 (keepsOf 4) _ ⟨[(0, _), (1, _), (2, _), (3, _), (4, _)], []⟩ _)
    (have x0_ := @u122; have x1_ := @hb_5; have x2_ := @hb_6; have x3_ := @hb_7; have x4_ := @hb_8; have x5_ := @hb_9; have x6_ := @hb_10; (repeat' (first | with_reducible apply fol | with_reducible refine aRW ?_ | with_reducible refine aRR ?_ | with_reducible refine aRs ?_ | ((with_reducible first | apply RW_gdn | apply RR_gdn | apply RW_gd | apply RR_gd) <;> intro hg <;> first | (cases hg; done) | skip) | with_reducible refine aE1 ?_ | with_reducible refine aE2 ?_ | with_reducible refine aOn ?_ | ((with_reducible refine aCd ?_ ?_) <;> intro hv <;> first | (cases hv; done) | skip) | fail)); all_goals clear x0_ x1_ x2_ x3_ x4_ x5_ x6_)
    exact ⟨.t (.bool true), by kernel_rfl, by kernel_rfl⟩
  | false =>
  cases b3 with
  | true =>
    (have F_ : _ ∧ _ ∧ _ ∧ _ ∧ _ ∧ _ ∧ _ ∧ _ ∧ _ ∧ _ ∧ _ ∧ _ ∧ _ ∧ _ ∧ _ ∧ _ ∧ _ ∧ _ ∧ _ ∧ _ ∧ _ ∧ _ ∧ _ ∧ _ ∧ _ ∧ _ ∧ _ ∧ _ ∧ _ ∧ _ ∧ _ ∧ _ ∧ _ ∧ _ ∧ _ ∧ _ ∧ _ ∧ _ ∧ _ ∧ _ ∧ _ ∧ _ ∧ _ ∧ _ ∧ _ ∧ _ ∧ _ ∧ _ ∧ _ ∧ _ ∧ _ ∧ _ ∧ _ ∧ _ ∧ _ ∧ _ ∧ _ ∧ _ ∧ _ ∧ _ ∧ _ ∧ _ ∧ _ ∧ _ ∧ _ ∧ _ ∧ _ ∧ _ ∧ _ ∧ _ ∧ _ ∧ _ ∧ _ ∧ _ ∧ _ ∧ _ ∧ _ ∧ _ ∧ _ ∧ _ ∧ _ ∧ _ ∧ _ ∧ _ ∧ _ ∧ _ ∧ _ ∧ _ ∧ _ ∧ _ ∧ _ ∧ _ ∧ _ ∧ _ ∧ _ ∧ _ ∧ _ ∧ _ ∧ _ ∧ _ ∧ _ ∧ _ ∧ _ ∧ _ ∧ _ ∧ _ ∧ _ ∧ _ ∧ _ ∧ _ ∧ _ ∧ _ ∧ _ ∧ _ ∧ _ ∧ _ ∧ _ ∧ _ ∧ _ ∧ _ ∧ _ ∧ _ ∧ _ ∧ _ ∧ _ ∧ _ ∧ _ ∧ _ ∧ _ ∧ _ ∧ _ ∧ _ ∧ _ ∧ _ ∧ _ ∧ _ ∧ _ ∧ _ ∧ _ ∧ _ ∧ _ ∧ _ ∧ _ ∧ _ ∧ _ ∧ _ ∧ _ ∧ _ ∧ _ ∧ _ ∧ _ ∧ _ ∧ _ ∧ _ ∧ _ ∧ _ ∧ _ ∧ _ ∧ _ ∧ _ ∧ _ ∧ _ ∧ _ ∧ _ ∧ _ ∧ _ ∧ _ ∧ _ ∧ _ ∧ _ ∧ _ ∧ _ ∧ _ ∧ _ ∧ _ ∧ _ ∧ _ ∧ _ ∧ _ ∧ _ ∧ _ ∧ _ ∧ _ ∧ _ ∧ _ ∧ _ ∧ _ ∧ _ ∧ _ ∧ _ ∧ _ ∧ _ ∧ _ ∧ _ ∧ _ ∧ _ ∧ _ ∧ _ ∧ _ ∧ _ ∧ _ ∧ _ ∧ _ ∧ _ ∧ _ ∧ _ ∧ _ ∧ _ ∧ _ ∧ _ ∧ _ ∧ _ ∧ _ ∧ _ ∧ _ ∧ _ ∧ _ ∧ _ ∧ _ ∧ _ ∧ _ ∧ _ ∧ _ ∧ _ := ⟨und_2, size_2, agg_2, zero_2, zel_2, small_2, und_3, size_3, agg_3, zero_3, zel_3, small_3, und_4, size_4, agg_4, zero_4, zel_4, small_4, noInt_4, und_5, size_5, agg_5, zero_5, zel_5, small_5, und_9, size_9, agg_9, zero_9, zel_9, small_9, noInt_9, und_22, size_22, agg_22, zero_22, zel_22, small_22, noInt_22, und_23, size_23, agg_23, zero_23, zel_23, small_23, noInt_23, fa_25_0, fd_25_0, fa_25_1, fd_25_1, bld_25, size_25, agg_25, zero_25, zel_25, small_25, noInt_25, fa_27_0, fd_27_0, fa_27_1, fd_27_1, fa_27_2, fd_27_2, fa_27_3, fd_27_3, bld_27, size_27, agg_27, zero_27, zel_27, small_27, noInt_27, und_28, size_28, agg_28, zero_28, zel_28, small_28, noInt_28, fa_30_0, fd_30_0, fa_30_1, fd_30_1, fa_30_2, fd_30_2, bld_30, size_30, agg_30, zero_30, zel_30, small_30, noInt_30, und_31, size_31, agg_31, zero_31, zel_31, small_31, noInt_31, und_37, size_37, agg_37, zero_37, zel_37, small_37, noInt_37, fa_39_0, fd_39_0, fa_39_1, fd_39_1, bld_39, size_39, agg_39, zero_39, zel_39, small_39, noInt_39, fa_45_0, fd_45_0, fa_45_1, fd_45_1, fa_45_2, fd_45_2, bld_45, size_45, agg_45, zero_45, zel_45, small_45, noInt_45, fa_47_0, fd_47_0, fa_47_1, fd_47_1, bld_47, size_47, agg_47, zero_47, zel_47, small_47, noInt_47, und_50, size_50, agg_50, zero_50, zel_50, small_50, noInt_50, fa_52_0, fd_52_0, fa_52_1, fd_52_1, fa_52_2, fd_52_2, bld_52, size_52, agg_52, zero_52, zel_52, small_52, noInt_52, fa_54_0, fd_54_0, fa_54_1, fd_54_1, bld_54, size_54, agg_54, zero_54, zel_54, small_54, noInt_54, und_70, size_70, agg_70, zero_70, zel_70, small_70, noInt_70, und_71, size_71, agg_71, zero_71, zel_71, small_71, noInt_71, fa_73_0, fd_73_0, fa_73_1, fd_73_1, fa_73_2, fd_73_2, fa_73_3, fd_73_3, fa_73_4, fd_73_4, fa_73_5, fd_73_5, fa_73_6, fd_73_6, bld_73, size_73, agg_73, zero_73, zel_73, small_73, noInt_73, fa_75_0, fd_75_0, fa_75_1, fd_75_1, fa_75_2, fd_75_2, fa_75_3, fd_75_3, fa_75_4, fd_75_4, bld_75, size_75, agg_75, zero_75, zel_75, small_75, noInt_75⟩; show W CC 0 108 (keepsOf 4) _ ⟨[(0, _), (1, _), (2, _), (3, _), (4, _)], []⟩ _)
    (have x0_ := @u122; have x1_ := @hb_5; have x2_ := @hb_6; have x3_ := @hb_7; have x4_ := @hb_8; have x5_ := @hb_9; have x6_ := @hb_10; (repeat' (first | with_reducible apply fol | with_reducible refine aRW ?_ | with_reducible refine aRR ?_ | with_reducible refine aRs ?_ | ((with_reducible first | apply RW_gdn | apply RR_gdn | apply RW_gd | apply RR_gd) <;> intro hg <;> first | (cases hg; done) | skip) | with_reducible refine aE1 ?_ | with_reducible refine aE2 ?_ | with_reducible refine aOn ?_ | ((with_reducible refine aCd ?_ ?_) <;> intro hv <;> first | (cases hv; done) | skip) | fail)); all_goals clear x0_ x1_ x2_ x3_ x4_ x5_ x6_)
    exact ⟨.t (.bool true), by kernel_rfl, by kernel_rfl⟩
  | false =>
  cases like with
  | false =>
    generalize Option.isSome R = is at *
    generalize Option.getD R [] = lst at *
    (have F_ : _ ∧ _ ∧ _ ∧ _ ∧ _ ∧ _ ∧ _ ∧ _ ∧ _ ∧ _ ∧ _ ∧ _ ∧ _ ∧ _ ∧ _ ∧ _ ∧ _ ∧ _ ∧ _ ∧ _ ∧ _ ∧ _ ∧ _ ∧ _ ∧ _ ∧ _ ∧ _ ∧ _ ∧ _ ∧ _ ∧ _ ∧ _ ∧ _ ∧ _ ∧ _ ∧ _ ∧ _ ∧ _ ∧ _ ∧ _ ∧ _ ∧ _ ∧ _ ∧ _ ∧ _ ∧ _ ∧ _ ∧ _ ∧ _ ∧ _ ∧ _ ∧ _ ∧ _ ∧ _ ∧ _ ∧ _ ∧ _ ∧ _ ∧ _ ∧ _ ∧ _ ∧ _ ∧ _ ∧ _ ∧ _ ∧ _ ∧ _ ∧ _ ∧ _ ∧ _ ∧ _ ∧ _ ∧ _ ∧ _ ∧ _ ∧ _ ∧ _ ∧ _ ∧ _ ∧ _ ∧ _ ∧ _ ∧ _ ∧ _ ∧ _ ∧ _ ∧ _ ∧ _ ∧ _ ∧ _ ∧ _ ∧ _ ∧ _ ∧ _ ∧ _ ∧ _ ∧ _ ∧ _ ∧ _ ∧ _ ∧ _ ∧ _ ∧ _ ∧ _ ∧ _ ∧ _ ∧ _ ∧ _ ∧ _ ∧ _ ∧ _ ∧ _ ∧ _ ∧ _ ∧ _ ∧ _ ∧ _ ∧ _ ∧ _ ∧ _ ∧ _ ∧ _ ∧ _ ∧ _ ∧ _ ∧ _ ∧ _ ∧ _ ∧ _ ∧ _ ∧ _ ∧ _ ∧ _ ∧ _ ∧ _ ∧ _ ∧ _ ∧ _ ∧ _ ∧ _ ∧ _ ∧ _ ∧ _ ∧ _ ∧ _ ∧ _ ∧ _ ∧ _ ∧ _ ∧ _ ∧ _ ∧ _ ∧ _ ∧ _ ∧ _ ∧ _ ∧ _ ∧ _ ∧ _ ∧ _ ∧ _ ∧ _ ∧ _ ∧ _ ∧ _ ∧ _ ∧ _ ∧ _ ∧ _ ∧ _ ∧ _ ∧ _ ∧ _ ∧ _ ∧ _ ∧ _ ∧ _ ∧ _ ∧ _ ∧ _ ∧ _ ∧ _ ∧ _ ∧ _ ∧ _ ∧ _ ∧ _ ∧ _ ∧ _ ∧ _ ∧ _ ∧ _ ∧ _ ∧ _ ∧ _ ∧ _ ∧ _ ∧ _ ∧ _ ∧ _ ∧ _ ∧ _ ∧ _ ∧ _ ∧ _ ∧ _ ∧ _ ∧ _ ∧ _ ∧ _ ∧ _ ∧ _ ∧ _ ∧ _ ∧ _ ∧ _ ∧ _ ∧ _ ∧ _ ∧ _ ∧ _ ∧ _ ∧ _ ∧ _ := ⟨und_2, size_2, agg_2, zero_2, zel_2, small_2, und_3, size_3, agg_3, zero_3, zel_3, small_3, und_4, size_4, agg_4, zero_4, zel_4, small_4, noInt_4, und_5, size_5, agg_5, zero_5, zel_5, small_5, und_9, size_9, agg_9, zero_9, zel_9, small_9, noInt_9, und_22, size_22, agg_22, zero_22, zel_22, small_22, noInt_22, und_23, size_23, agg_23, zero_23, zel_23, small_23, noInt_23, fa_25_0, fd_25_0, fa_25_1, fd_25_1, bld_25, size_25, agg_25, zero_25, zel_25, small_25, noInt_25, fa_27_0, fd_27_0, fa_27_1, fd_27_1, fa_27_2, fd_27_2, fa_27_3, fd_27_3, bld_27, size_27, agg_27, zero_27, zel_27, small_27, noInt_27, und_28, size_28, agg_28, zero_28, zel_28, small_28, noInt_28, fa_30_0, fd_30_0, fa_30_1, fd_30_1, fa_30_2, fd_30_2, bld_30, size_30, agg_30, zero_30, zel_30, small_30, noInt_30, und_31, size_31, agg_31, zero_31, zel_31, small_31, noInt_31, und_37, size_37, agg_37, zero_37, zel_37, small_37, noInt_37, fa_39_0, fd_39_0, fa_39_1, fd_39_1, bld_39, size_39, agg_39, zero_39, zel_39, small_39, noInt_39, fa_45_0, fd_45_0, fa_45_1, fd_45_1, fa_45_2, fd_45_2, bld_45, size_45, agg_45, zero_45, zel_45, small_45, noInt_45, fa_47_0, fd_47_0, fa_47_1, fd_47_1, bld_47, size_47, agg_47, zero_47, zel_47, small_47, noInt_47, und_50, size_50, agg_50, zero_50, zel_50, small_50, noInt_50, fa_52_0, fd_52_0, fa_52_1, fd_52_1, fa_52_2, fd_52_2, bld_52, size_52, agg_52, zero_52, zel_52, small_52, noInt_52, fa_54_0, fd_54_0, fa_54_1, fd_54_1, bld_54, size_54, agg_54, zero_54, zel_54, small_54, noInt_54, und_70, size_70, agg_70, zero_70, zel_70, small_70, noInt_70, und_71, size_71, agg_71, zero_71, zel_71, small_71, noInt_71, fa_73_0, fd_73_0, fa_73_1, fd_73_1, fa_73_2, fd_73_2, fa_73_3, fd_73_3, fa_73_4, fd_73_4, fa_73_5, fd_73_5, fa_73_6, fd_73_6, bld_73, size_73, agg_73, zero_73, zel_73, small_73, noInt_73, fa_75_0, fd_75_0, fa_75_1, fd_75_1, fa_75_2, fd_75_2, fa_75_3, fd_75_3, fa_75_4, fd_75_4, bld_75, size_75, agg_75, zero_75, zel_75, small_75, noInt_75⟩; show W CC 0 108 (keepsOf 4) _ ⟨[(0, _), (1, _), (2, _), (3, _), (4, _)], []⟩ _)
    cases is
    all_goals (have x0_ := @u122; have x1_ := @hb_5; have x2_ := @hb_6; have x3_ := @hb_7; have x4_ := @hb_8; have x5_ := @hb_9; have x6_ := @hb_10; (repeat' (first | with_reducible apply fol | with_reducible refine aRW ?_ | with_reducible refine aRR ?_ | with_reducible refine aRs ?_ | ((with_reducible first | apply RW_gdn | apply RR_gdn | apply RW_gd | apply RR_gd) <;> intro hg <;> first | (cases hg; done) | skip) | with_reducible refine aE1 ?_ | with_reducible refine aE2 ?_ | with_reducible refine aOn ?_ | ((with_reducible refine aCd ?_ ?_) <;> intro hv <;> first | (cases hv; done) | skip) | fail)); all_goals clear x0_ x1_ x2_ x3_ x4_ x5_ x6_)
    all_goals exact ⟨.t (.bool true), by kernel_rfl, by kernel_rfl⟩
  | true =>
    have hR := hc3.h rfl
    rw [hR] at hc
    have s3 := s2.h
    clear hR hc3 s2
    generalize Option.isSome R = is at *
    generalize Option.getD R [] = lst at *
    (have F_ : _ ∧ _ ∧ _ ∧ _ ∧ _ ∧ _ ∧ _ ∧ _ ∧ _ ∧ _ ∧ _ ∧ _ ∧ _ ∧ _ ∧ _ ∧ _ ∧ _ ∧ _ ∧ _ ∧ _ ∧ _ ∧ _ ∧ _ ∧ _ ∧ _ ∧ _ ∧ _ ∧ _ ∧ _ ∧ _ ∧ _ ∧ _ ∧ _ ∧ _ ∧ _ ∧ _ ∧ _ ∧ _ ∧ _ ∧ _ ∧ _ ∧ _ ∧ _ ∧ _ ∧ _ ∧ _ ∧ _ ∧ _ ∧ _ ∧ _ ∧ _ ∧ _ ∧ _ ∧ _ ∧ _ ∧ _ ∧ _ ∧ _ ∧ _ ∧ _ ∧ _ ∧ _ ∧ _ ∧ _ ∧ _ ∧ _ ∧ _ ∧ _ ∧ _ ∧ _ ∧ _ ∧ _ ∧ _ ∧ _ ∧ _ ∧ _ ∧ _ ∧ _ ∧ _ ∧ _ ∧ _ ∧ _ ∧ _ ∧ _ ∧ _ ∧ _ ∧ _ ∧ _ ∧ _ ∧ _ ∧ _ ∧ _ ∧ _ ∧ _ ∧ _ ∧ _ ∧ _ ∧ _ ∧ _ ∧ _ ∧ _ ∧ _ ∧ _ ∧ _ ∧ _ ∧ _ ∧ _ ∧ _ ∧ _ ∧ _ ∧ _ ∧ _ ∧ _ ∧ _ ∧ _ ∧ _ ∧ _ ∧ _ ∧ _ ∧ _ ∧ _ ∧ _ ∧ _ ∧ _ ∧ _ ∧ _ ∧ _ ∧ _ ∧ _ ∧ _ ∧ _ ∧ _ ∧ _ ∧ _ ∧ _ ∧ _ ∧ _ ∧ _ ∧ _ ∧ _ ∧ _ ∧ _ ∧ _ ∧ _ ∧ _ ∧ _ ∧ _ ∧ _ ∧ _ ∧ _ ∧ _ ∧ _ ∧ _ ∧ _ ∧ _ ∧ _ ∧ _ ∧ _ ∧ _ ∧ _ ∧ _ ∧ _ ∧ _ ∧ _ ∧ _ ∧ _ ∧ _ ∧ _ ∧ _ ∧ _ ∧ _ ∧ _ ∧ _ ∧ _ ∧ _ ∧ _ ∧ _ ∧ _ ∧ _ ∧ _ ∧ _ ∧ _ ∧ _ ∧ _ ∧ _ ∧ _ ∧ _ ∧ _ ∧ _ ∧ _ ∧ _ ∧ _ ∧ _ ∧ _ ∧ _ ∧ _ ∧ _ ∧ _ ∧ _ ∧ _ ∧ _ ∧ _ ∧ _ ∧ _ ∧ _ ∧ _ ∧ _ ∧ _ ∧ _ ∧ _ ∧ _ ∧ _ ∧ _ ∧ _ ∧ _ ∧ _ ∧ _ ∧ _ ∧ _ ∧ _ ∧ _ ∧ _ ∧ _ ∧ _ := ⟨und_2, size_2, agg_2, zero_2, zel_2, small_2, und_3, size_3, agg_3, zero_3, zel_3, small_3, und_4, size_4, agg_4, zero_4, zel_4, small_4, noInt_4, und_5, size_5, agg_5, zero_5, zel_5, small_5, und_9, size_9, agg_9, zero_9, zel_9, small_9, noInt_9, und_22, size_22, agg_22, zero_22, zel_22, small_22, noInt_22, und_23, size_23, agg_23, zero_23, zel_23, small_23, noInt_23, fa_25_0, fd_25_0, fa_25_1, fd_25_1, bld_25, size_25, agg_25, zero_25, zel_25, small_25, noInt_25, fa_27_0, fd_27_0, fa_27_1, fd_27_1, fa_27_2, fd_27_2, fa_27_3, fd_27_3, bld_27, size_27, agg_27, zero_27, zel_27, small_27, noInt_27, und_28, size_28, agg_28, zero_28, zel_28, small_28, noInt_28, fa_30_0, fd_30_0, fa_30_1, fd_30_1, fa_30_2, fd_30_2, bld_30, size_30, agg_30, zero_30, zel_30, small_30, noInt_30, und_31, size_31, agg_31, zero_31, zel_31, small_31, noInt_31, und_37, size_37, agg_37, zero_37, zel_37, small_37, noInt_37, fa_39_0, fd_39_0, fa_39_1, fd_39_1, bld_39, size_39, agg_39, zero_39, zel_39, small_39, noInt_39, fa_45_0, fd_45_0, fa_45_1, fd_45_1, fa_45_2, fd_45_2, bld_45, size_45, agg_45, zero_45, zel_45, small_45, noInt_45, fa_47_0, fd_47_0, fa_47_1, fd_47_1, bld_47, size_47, agg_47, zero_47, zel_47, small_47, noInt_47, und_50, size_50, agg_50, zero_50, zel_50, small_50, noInt_50, fa_52_0, fd_52_0, fa_52_1, fd_52_1, fa_52_2, fd_52_2, bld_52, size_52, agg_52, zero_52, zel_52, small_52, noInt_52, fa_54_0, fd_54_0, fa_54_1, fd_54_1, bld_54, size_54, agg_54, zero_54, zel_54, small_54, noInt_54, und_70, size_70, agg_70, zero_70, zel_70, small_70, noInt_70, und_71, size_71, agg_71, zero_71, zel_71, small_71, noInt_71, fa_73_0, fd_73_0, fa_73_1, fd_73_1, fa_73_2, fd_73_2, fa_73_3, fd_73_3, fa_73_4, fd_73_4, fa_73_5, fd_73_5, fa_73_6, fd_73_6, bld_73, size_73, agg_73, zero_73, zel_73, small_73, noInt_73, fa_75_0, fd_75_0, fa_75_1, fd_75_1, fa_75_2, fd_75_2, fa_75_3, fd_75_3, fa_75_4, fd_75_4, bld_75, size_75, agg_75, zero_75, zel_75, small_75, noInt_75⟩; show W CC 0 108 (keepsOf 4) _ ⟨[(0, _), (1, _), (2, _), (3, _), (4, _)], []⟩ _)
    cases is
    all_goals (have x0_ := @u122; have x1_ := @hb_5; have x2_ := @hb_6; have x3_ := @hb_7; have x4_ := @hb_8; have x5_ := @hb_9; have x6_ := @hb_10; (repeat' (first | with_reducible apply fol | with_reducible refine aRW ?_ | with_reducible refine aRR ?_ | with_reducible refine aRs ?_ | ((with_reducible first | apply RW_gdn | apply RR_gdn | apply RW_gd | apply RR_gd) <;> intro hg <;> first | (cases hg; done) | skip) | with_reducible refine aE1 ?_ | with_reducible refine aE2 ?_ | with_reducible refine aOn ?_ | ((with_reducible refine aCd ?_ ?_) <;> intro hv <;> first | (cases hv; done) | skip) | fail)); all_goals clear x0_ x1_ x2_ x3_ x4_ x5_ x6_)
    all_goals exact ⟨.t (.bool true), by kernel_rfl, by kernel_rfl⟩
end Go.Ab
/- From what the row says of arguments that can be read as data to the evaluator's trees; and back to what the row asks behind the call. -/
namespace Go.Ab
open Go.ChangeShapes Go.WideShapes

section
variable {H : Type} {enc : TypeId × Value → H} {P : Program} {w : World}

/-- All cells of a world: what nothing writes to. -/
def immOf (w : World) : Imm := fun b o => w.cell? ⟨b, o, none⟩

/-- Some cells as trees. -/
structure CT (w : World) (ts : List Tree) (cs : List Value) : Prop where
  len : ts.length = cs.length
  val : ∀ (i : Nat) c v, ts[i]? = some c → cs[i]? = some v → TR (immOf w) c v ∧ v.oneCell' = true

theorem CT.nil : CT w [] [] := ⟨rfl, fun i c v h => by simp at h⟩
theorem CT.one {c : Tree} {v : Value} (h : TR (immOf w) c v) (h' : v.oneCell' = true) : CT w [c] [v] :=
  ⟨rfl, fun i c' v' hc hv => by
    cases i with
    | zero => simp at hc hv; subst hc; subst hv; exact ⟨h, h'⟩
    | succ i => simp at hc⟩
theorem CT.append {a b : List Tree} {x y : List Value} (h : CT w a x) (h' : CT w b y) : CT w (a ++ b) (x ++ y) := by
  refine ⟨by simp [h.len, h'.len], fun i c v hc hv => ?_⟩
  by_cases hi : i < a.length
  · rw [List.getElem?_append_left hi] at hc
    rw [List.getElem?_append_left (by rw [← h.len]; exact hi)] at hv
    exact h.val i c v hc hv
  · rw [List.getElem?_append_right (by omega)] at hc
    rw [List.getElem?_append_right (by rw [← h.len]; omega), ← h.len] at hv
    exact h'.val _ c v hc hv

theorem ct_step {a b : List Tree} {cs : List Value} {o n : Nat} (h1 : CT w a ((cs.drop o).take n)) (h2 : CT w b (cs.drop (o + n))) : CT w (a ++ b) (cs.drop o) := by
  have e : cs.drop o = (cs.drop o).take n ++ cs.drop (o + n) := by
    rw [← List.drop_drop, List.take_append_drop]
  rw [e]; exact h1.append h2
theorem ct_end {cs : List Value} {o : Nat} (h : cs.length = o) : CT w [] (cs.drop o) := by
  rw [List.drop_of_length_le (by omega)]; exact .nil

/-- It can be read as data of a type. -/
def Rd (enc : TypeId × Value → H) (P : Program) (w : World) (t : TypeId) (cs : List Value) : Prop := ∃ n x, DataW.trod enc P w 0 (fun _ => true) true n t cs = some x

/-- What can be read of a type is of such a form. -/
def Dec (enc : TypeId × Value → H) (P : Program) (w : World) {α : Type} (t : TypeId) (f : α → List Tree) (ok : α → Prop) : Prop :=
  ∀ cs, Rd enc P w t cs → ∃ a, CT w (f a) cs ∧ ok a

theorem dec_int {t : TypeId} {k : IntKind} (ht : P.underlying t = some (.int k)) : Dec enc P w t (fun n : Int => [.int k n]) (fun n => (Lit.int k n).wf = true) := by
  rintro cs ⟨n, x, h⟩
  cases n with
  | zero => simp [DataW.trod] at h
  | succ n =>
    unfold DataW.trod at h
    rw [ht] at h
    split at h <;> simp_all
    obtain ⟨⟨rfl, h1⟩, _⟩ := h
    exact ⟨_, .one (.int _ _) rfl, h1⟩

theorem dec_bool {t : TypeId} (ht : P.underlying t = some .bool) : Dec enc P w t (fun b : Bool => [.bool b]) (fun _ => True) := by
  rintro cs ⟨n, x, h⟩
  cases n with
  | zero => simp [DataW.trod] at h
  | succ n =>
    unfold DataW.trod at h
    rw [ht] at h
    split at h <;> first | (exfalso; simp_all; done) | skip
    exact ⟨_, .one (.bool _) rfl, trivial⟩

/-- A text's bytes. -/
def StrOK (s : List Nat) : Prop := s.length ≤ maxLen ∧ ∀ b ∈ s, b < 256

theorem dec_str {t : TypeId} (ht : P.underlying t = some .string) : Dec enc P w t (fun s : List Nat => [.str s]) StrOK := by
  rintro cs ⟨n, x, h⟩
  cases n with
  | zero => simp [DataW.trod] at h
  | succ n =>
    unfold DataW.trod at h
    rw [ht] at h
    split at h <;> simp_all
    obtain ⟨h1, _⟩ := h
    rename_i s _
    refine ⟨s.data.toList.map UInt8.toNat, .one (TR.bytes _ _) rfl, ?_, fun b hb => ?_⟩
    · simpa using h1
    · obtain ⟨c, _, rfl⟩ := List.mem_map.1 hb
      exact c.toNat_lt

/-- A slice that came in. -/
structure SlOK {α : Type} (ok : α → Prop) (s : Sl α) : Prop where
  all : ∀ a ∈ s.l, ok a
  len : s.l.length < 9223372036854775808
  nl : s.nl = true → s.l = []
  cl : s.cl = true → s.l = []

theorem cells_get {base : Nat} {a : Addr} {n : Nat} {cs : List Value} (h : w.cells? base a n = some cs) : cs.length = n ∧ ∀ j, j < n → w.cell? (a.add j) = cs[j]? := by
  unfold World.cells? at h
  split at h
  · refine ⟨by have := mapM_some_length h; simpa using this, fun j hj => ?_⟩
    exact mapM_some_get h j j (by simp [hj])
  · cases h

theorem spot_none {a : Addr} {v : Value} (h : w.cell? a = some v) : a = ⟨a.block, a.off, none⟩ := by
  unfold World.cell? at h
  split at h
  · split at h
    · cases h
    · rename_i hs
      obtain ⟨b, o, s⟩ := a
      cases s with
      | none => rfl
      | some x => simp at hs
  · cases h

theorem dec_slice {α : Type} {t e : TypeId} {f : α → List Tree} {ok : α → Prop} {s : Nat} (ht : P.underlying t = some (.slice e)) (hc : P.cellsOf e = s) (hs : 0 < s) (hf : ∀ a, (f a).length = s)
    (D : Dec enc P w e f ok) : Dec enc P w t (fun x : Sl α => [x.t f]) (SlOK ok) := by
  rintro cs ⟨n, x, h⟩
  rcases Deep.open_slice ht h with ⟨rfl, _⟩ | ⟨a, len, cap, m, n', D', Pl, rfl, _, hle, hcap, hm, _, hel⟩
  · refine ⟨⟨true, true, []⟩, .one ?_ rfl, ⟨fun a ha => (by simp at ha), by simp, fun _ => rfl, fun _ => rfl⟩⟩
    exact TR.sl true true [] none 0 0 (fun _ _ => default) (fun _ => ⟨rfl, rfl, rfl⟩) (fun h => by cases h) (fun e he => by simp at he) (fun i j e c he => by simp at he) (by simp) (fun _ => rfl) (fun i j e c he => by simp at he)
  · have hlm : len ≤ m := by rw [hm]; split <;> omega
    have each : ∀ i : Nat, i < len → ∃ b : α, ∃ cs', w.cells? 0 (a.add (i * s)) s = some cs' ∧ CT w (f b) cs' ∧ ok b := fun i hi => by
      obtain ⟨cs', h1, h2⟩ := hel i (by omega)
      rw [hc] at h1
      obtain ⟨b, h3, h4⟩ := D cs' ⟨_, _, h2⟩
      exact ⟨b, cs', h1, h3, h4⟩
    have build : ∀ k, k ≤ len → ∃ l : List α, l.length = k ∧ ∀ i b, l[i]? = some b → ∃ cs', w.cells? 0 (a.add (i * s)) s = some cs' ∧ CT w (f b) cs' ∧ ok b := by
      intro k
      induction k with
      | zero => exact fun _ => ⟨[], rfl, fun i b h => by simp at h⟩
      | succ k ih =>
        intro hk
        obtain ⟨l, h1, h2⟩ := ih (by omega)
        obtain ⟨b, cs', h3⟩ := each k (by omega)
        refine ⟨l ++ [b], by simp [h1], fun i b' hb => ?_⟩
        by_cases hi : i < l.length
        · rw [List.getElem?_append_left hi] at hb; exact h2 i b' hb
        · rw [List.getElem?_append_right (by omega)] at hb
          have : i - l.length = 0 := by
            rcases Nat.eq_zero_or_pos (i - l.length) with h | h
            · exact h
            · rw [List.getElem?_eq_none (by simp; omega)] at hb; cases hb
          rw [this] at hb
          simp at hb; subst hb
          have : i = k := by omega
          subst this
          exact ⟨cs', h3⟩
    obtain ⟨l, hl, hall⟩ := build len (Nat.le_refl _)
    have hval : ∀ (i j : Nat) b c, l[i]? = some b → (f b)[j]? = some c → ∃ v, w.cell? (a.add (i * s + j)) = some v ∧ TR (immOf w) c v ∧ v.oneCell' = true := fun i j b c hb hcj => by
      obtain ⟨cs', h1, h2, _⟩ := hall i b hb
      obtain ⟨h3, h4⟩ := cells_get h1
      have hj : j < s := by rw [← hf b]; exact (List.getElem?_eq_some_iff.1 hcj).1
      have h5 := h4 j hj
      rw [Deep.add_add] at h5
      have h6 : cs'[j]? = some (cs'[j]'(by omega)) := List.getElem?_eq_getElem _
      rw [h6] at h5
      exact ⟨_, h5, h2.val j c _ hcj h6⟩
    refine ⟨⟨false, false, l⟩, .one ?_ rfl, ⟨fun b hb => ?_, ?_, fun h => (by cases h), fun h => (by cases h)⟩⟩
    · have key := TR.sl (I := immOf w) false false (l.map f) (some a) cap s (fun i j => (w.cell? (a.add (i * s + j))).getD default) (fun h => by cases h) (fun _ => ⟨by simp, a.block, a.off, fun hne => ?_, fun i j e c he hj => ?_⟩)
        (fun e he => by obtain ⟨b, _, rfl⟩ := List.mem_map.1 he; exact hf b) (fun i j e c he hj => ?_) (by simp; omega) (fun h => by cases h) (fun i j e c he hj => ?_)
      · simpa [Sl.t, hl] using key
      · obtain ⟨b, hb⟩ : ∃ b, l[0]? = some b := by
          cases l with
          | nil => simp at hne
          | cons b _ => exact ⟨b, rfl⟩
        have hfb : 0 < (f b).length := by rw [hf b]; exact hs
        obtain ⟨v, h1, _⟩ := hval 0 0 b _ hb (List.getElem?_eq_getElem hfb)
        have : a.add (0 * s + 0) = a := by simp [Addr.add]
        rw [this] at h1
        rw [spot_none h1]
      · rw [List.getElem?_map] at he
        obtain ⟨b, hb, rfl⟩ := Option.map_eq_some_iff.1 he
        obtain ⟨v, h1, _⟩ := hval i j b c hb hj
        have hz : a = ⟨a.block, a.off, none⟩ ∨ 0 < i * s + j := by
          rcases Nat.eq_zero_or_pos (i * s + j) with h | h
          · rw [h] at h1
            have : a.add 0 = a := by simp [Addr.add]
            rw [this] at h1
            exact .inl (spot_none h1)
          · exact .inr h
        have e : a.add (i * s + j) = ⟨a.block, a.off + i * s + j, none⟩ := by
          unfold Addr.add
          rcases hz with h | h
          · split
            · rename_i h0
              rw [h]; (first | (simp; done) | (simp; omega))
            · (first | (simp; done) | (simp; omega))
          · rw [if_neg (by omega)]; (first | (simp; done) | (simp; omega))
        show w.cell? ⟨a.block, a.off + i * s + j, none⟩ = _
        rw [← e, h1]; rfl
      · rw [List.getElem?_map] at he
        obtain ⟨b, hb, rfl⟩ := Option.map_eq_some_iff.1 he
        obtain ⟨v, h1, h2, _⟩ := hval i j b c hb hj
        rw [h1]; exact h2
      · rw [List.getElem?_map] at he
        obtain ⟨b, hb, rfl⟩ := Option.map_eq_some_iff.1 he
        obtain ⟨v, h1, _, h2⟩ := hval i j b c hb hj
        rw [h1]; exact h2
    · obtain ⟨i, hi⟩ := List.getElem?_of_mem hb
      obtain ⟨_, _, _, h⟩ := hall i b hi
      exact h
    · have : maxLen = 9223372036854775807 := by decide
      simp only [hl]; omega

/-- A struct's fields, one by one. -/
theorem rd_struct {t : TypeId} {fs : Array Field} {cs : List Value} (ht : P.underlying t = some (.struct fs)) (h : Rd enc P w t cs) :
    cs.length = P.cellsOf t ∧ ∀ (i : Nat) (f : Field), fs[i]? = some f → Rd enc P w f.type ((cs.drop f.offset).take (P.cellsOf f.type)) := by
  obtain ⟨n, x, h⟩ := h
  obtain ⟨xs, m, _, _, h1, h2, h3⟩ := DataW.trod_struct ht h
  refine ⟨h1, fun i f hf => ?_⟩
  have h4 := h3 i f hf
  have hi : i < xs.length := by rw [h2]; exact (Array.getElem?_eq_some_iff.1 hf).1
  rw [List.getElem?_eq_getElem hi] at h4
  exact ⟨_, _, h4⟩

theorem rd_fields {t : TypeId} {l : List (TypeId × Nat)} {cs : List Value} (hfs : ∃ fs, P.underlying t = some (.struct fs) ∧ fs.toList.map (fun f => (f.type, f.offset)) = l) (h : Rd enc P w t cs) :
    cs.length = P.cellsOf t ∧ ∀ x ∈ l, Rd enc P w x.1 ((cs.drop x.2).take (P.cellsOf x.1)) := by
  obtain ⟨fs, ht, rfl⟩ := hfs
  obtain ⟨h1, h2⟩ := rd_struct ht h
  refine ⟨h1, fun x hx => ?_⟩
  obtain ⟨f, hf, rfl⟩ := List.mem_map.1 hx
  obtain ⟨i, hi⟩ := List.getElem?_of_mem hf
  exact h2 i f (by simpa using hi)

/-! ### An argument -/

theorem tr_one {v : Value} {t : Tree} (h : CT w [t] v.cells.toList) (ho : ∀ cs, v ≠ .agg cs) : TR (immOf w) t v := by
  cases v with
  | agg cs => exact (ho cs rfl).elim
  | _ => exact (h.val 0 _ _ rfl rfl).1

theorem tr_agg {cs : Array Value} {ts : List Tree} (h : CT w ts (Value.agg cs).cells.toList) : TR (immOf w) (.agg ts) (.agg cs) := by
  have h' : CT w ts cs.toList := h
  have := TR.agg (I := immOf w) ts cs.toList h'.len fun i c v hc hv => (h'.val i c v hc hv).1
  simpa using this

/-! ### Behind the call -/

theorem rd_of_trod {t : TypeId} {v : Value} {d : DataW H} {ps : List MemPlace} (h : DataW.Trod enc P w 0 (fun _ => true) true t v d ps) : Rd enc P w t v.cells.toList := by
  obtain ⟨n, h⟩ := h; exact ⟨n, _, h⟩

theorem same_of_keep {w' : World} (hk : ∀ b, b < w.heap.size → w'.heap[b]? = w.heap[b]?) {p : MemPlace} (hp : p.block < w.heap.size) : w.sameAt w' p := by
  cases p with
  | cell b o => exact cell_of_heap (hk b hp)
  | map b => exact hk b hp

theorem trodAll_stays {w' : World} {sp : Nat → Bool} {T : TypeId → Prop} (K : Kids P T) (hsz : ∀ {t e : TypeId}, T t → P.underlying t = some (.slice e) → 0 < P.cellsOf e) :
    ∀ {ts : List TypeId} {vs : List Value} {ds : List (DataW H)} {ps : List MemPlace}, (∀ t ∈ ts, T t) → DataW.TrodAll enc P w 0 (fun _ => true) true ts vs ds ps →
      (∀ p ∈ ps, w.sameAt w' p) → (∀ p ∈ ps, sp p.block = true) → DataW.TrodAll enc P w' 0 sp true ts vs ds ps
  | [], [], [], ps, _, h, _, _ => h
  | t :: ts, v :: vs, d :: ds, ps, hT, h, h1, h2 => by
    obtain ⟨p, q, ⟨n, h3⟩, h4, rfl⟩ := h
    refine ⟨p, q, ⟨n, ?_⟩, trodAll_stays K hsz (fun t ht => hT t (List.mem_cons_of_mem _ ht)) h4 (fun x hx => h1 x (List.mem_append_right _ hx)) (fun x hx => h2 x (List.mem_append_right _ hx)), rfl⟩
    exact DataW.trod_stays K hsz (fun h => by cases h) (hT t (List.mem_cons_self ..)) h3 (fun x hx => h1 x (List.mem_append_left _ hx)) (fun x hx => h2 x (List.mem_append_left _ hx))

theorem kept_of_keep {w' : World} (hk : ∀ b, b < w.heap.size → w'.heap[b]? = w.heap[b]?) (hs : w'.os = w.os ∧ w'.output = w.output) (may : MemPlace → Prop) : w.keptBut w' may := by
  refine ⟨hs.1, hs.2, fun i hi => ?_⟩
  rw [hk i hi]
  split
  · rename_i h1 h2
    cases h1.symm.trans h2
    exact ⟨rfl, rfl, rfl, fun _ _ => rfl⟩
  · rename_i h1 h2
    cases h1.symm.trans h2
    exact .inr ⟨rfl, rfl⟩
  · rfl

/-- What the row of a law asks behind the call: true is handed back, and all that was there stays. -/
theorem post_law {f : Func} {s : ChangeSpec} {w' : World} {args : Array Value} {ds gs : List (DataW H)} {before : List MemPlace} {T : TypeId → Prop} {tb : TypeId}
    (hW : DataW.Whole enc P f.params.toList s.vars false w args.toList ds gs before) (hvars : s.vars = []) (K : Kids P T) (hsz : ∀ {t e : TypeId}, T t → P.underlying t = some (.slice e) → 0 < P.cellsOf e)
    (hT : ∀ t ∈ f.params.toList, T t) (hr : f.resultTypes = #[tb]) (hb : P.underlying tb = some .bool)
    (hres : (s.fn H (ds ++ gs)).results = [.lit (.bool true)]) (hargs : (s.fn H (ds ++ gs)).args = ds) (hv : (s.fn H (ds ++ gs)).vars = [])
    (hk : ∀ b, b < w.heap.size → w'.heap[b]? = w.heap[b]?) (hs : w'.os = w.os ∧ w'.output = w.output) : s.post enc P f false true false false w args (.bool true) w' := by
  have hlt := hW.lt
  have hW' := hW
  obtain ⟨p, q, hA, hV, rfl, _, _⟩ := hW'
  refine ⟨ds, gs, p ++ q, [], p, [], hW, ?_, ?_, ?_, kept_of_keep hk hs _, fun h => by cases h⟩
  · rw [hr, hres]
    show DataW.TrodAll enc P w' _ _ _ [tb] [.bool true] [.lit (.bool true)] []
    exact trodAll_mk1 ⟨1, by unfold DataW.trod; simp [hb, Value.cells]⟩
  · rw [hargs]
    exact trodAll_stays K hsz hT hA (fun x hx => same_of_keep hk (hlt x (List.mem_append_left _ hx))) (fun x hx => by simpa using hlt x (List.mem_append_left _ hx))
  · rw [hvars, hv]; rfl

/-- A call of the evaluator's, over data that came in. -/
theorem calls_of_om {C : Cfg} {f : FuncId} {args : List AV} {v : AV} {vs : List Value} (hm : C.P.follows .mixedOrders = true) (hpr : ∀ f x, C.prim f x = none) (h : Om C f args [] = some (.val v, []))
    (hv : ∀ (γ : G) (g : Look), γ.imm = immOf w → VRs γ g args vs) (hb : v = .t (.bool true)) :
    Calls C.P f vs.toArray w fun e w' => e = .returned (.bool true) ∧ (∀ b, b < w.heap.size → w'.heap[b]? = w.heap[b]?) ∧ w'.os = w.os ∧ w'.output = w.output := by
  have ho := om_sound (C := C) (w0 := w) hm (fun f args v h => by rw [hpr] at h; cases h) f args [] _ _ h
  let γ : G := ⟨fun _ => none, fun _ => 0, immOf w⟩
  have hr : HR γ (nth []) w := ⟨fun id b h => (by cases h), fun id id' b h => (by cases h), fun b o v h => h⟩
  have hbase : Base w γ w := ⟨Nat.le_refl _, fun b hb => ⟨rfl, fun id h => (by cases h)⟩⟩
  refine (ho γ w vs hr hbase (hv γ _ rfl)).mono fun e w' hp => ?_
  obtain ⟨γ', h1, h2, h3, h4, h5⟩ := hp
  subst hb
  refine ⟨?_, fun b hb => (hbase.mono h2).2 b hb |>.1, h2.same⟩
  cases e with
  | returned u =>
    have hu : VR γ' (nth []) (.t (.bool true)) u := h5
    cases hu with
    | t _ _ hu => cases hu; rfl
  | panicked c => exact False.elim h5
  | outgrown => exact False.elim h5
end
end Go.Ab
/- Readings of a bulk that is bounded: as what the row says of arguments is turned into the evaluator's trees, lengths stay below the bound. -/
namespace Go.Ab.U
open Go.Ab Go.ChangeShapes Go.WideShapes
open Go.Proofs.YtchkgfmmfdineaaGreat.Rows (uptoBulk uptoBulkAll)

section
variable {H : Type} {enc : TypeId × Value → H} {P : Program} {w : World} {N : Nat}

theorem one_le (d : DataW H) : 1 ≤ uptoBulk d := by
  cases d with
  | lit l => cases l <;> simp [uptoBulk]
  | _ => simp [uptoBulk]
theorem mem_le {d : DataW H} : ∀ {l : List (DataW H)}, d ∈ l → uptoBulk d ≤ uptoBulkAll l
  | x :: r, h => by
    simp only [uptoBulkAll]
    rcases List.mem_cons.1 h with rfl | h
    · omega
    · have := mem_le h; omega
theorem len_le : ∀ l : List (DataW H), l.length ≤ uptoBulkAll l
  | [] => by simp [uptoBulkAll]
  | x :: r => by have := one_le x; have := len_le r; simp only [uptoBulkAll, List.length_cons]; omega

/-- It can be read as data of a type, of at most that bulk. -/
def Rd (enc : TypeId × Value → H) (P : Program) (w : World) (N : Nat) (t : TypeId) (cs : List Value) : Prop := ∃ n d ps, DataW.trod enc P w 0 (fun _ => true) true n t cs = some (d, ps) ∧ uptoBulk d ≤ N
def Dec (enc : TypeId × Value → H) (P : Program) (w : World) (N : Nat) {α : Type} (t : TypeId) (f : α → List Tree) (ok : α → Prop) : Prop :=
  ∀ cs, Rd enc P w N t cs → ∃ a, CT w (f a) cs ∧ ok a

theorem dec_int {t : TypeId} {k : IntKind} (ht : P.underlying t = some (.int k)) : Dec enc P w N t (fun n : Int => [.int k n]) (fun n => (Lit.int k n).wf = true) := by
  rintro cs ⟨n, d, ps, h, _⟩
  exact Ab.dec_int ht cs ⟨n, _, h⟩
theorem dec_bool {t : TypeId} (ht : P.underlying t = some .bool) : Dec enc P w N t (fun b : Bool => [.bool b]) (fun _ => True) := by
  rintro cs ⟨n, d, ps, h, _⟩
  exact Ab.dec_bool ht cs ⟨n, _, h⟩

/-- A text's bytes. -/
def StrOK (N : Nat) (s : List Nat) : Prop := s.length < N ∧ ∀ b ∈ s, b < 256

theorem dec_str {t : TypeId} (ht : P.underlying t = some .string) : Dec enc P w N t (fun s : List Nat => [.str s]) (StrOK N) := by
  rintro cs ⟨n, d, ps, h, hb⟩
  cases n with
  | zero => simp [DataW.trod] at h
  | succ n =>
    unfold DataW.trod at h
    rw [ht] at h
    split at h <;> simp_all
    obtain ⟨h1, h2, _⟩ := h
    subst h2
    rename_i s _
    refine ⟨s.data.toList.map UInt8.toNat, .one (TR.bytes _ _) rfl, ?_, fun b hb => ?_⟩
    · simp only [uptoBulk] at hb
      simp only [List.length_map]; omega
    · obtain ⟨c, _, rfl⟩ := List.mem_map.1 hb
      exact c.toNat_lt

/-- A slice that came in. -/
structure SlOK (N : Nat) {α : Type} (ok : α → Prop) (s : Sl α) : Prop where
  all : ∀ a ∈ s.l, ok a
  len : s.l.length < N
  nl : s.nl = true → s.l = []

theorem dec_slice {α : Type} {t e : TypeId} {f : α → List Tree} {ok : α → Prop} {s : Nat} (ht : P.underlying t = some (.slice e)) (hc : P.cellsOf e = s) (hs : 0 < s) (hf : ∀ a, (f a).length = s)
    (D : Dec enc P w N e f ok) : Dec enc P w N t (fun x : Sl α => [x.t f]) (SlOK N ok) := by
  rintro cs ⟨n, d, ps, h, hb⟩
  rcases Deep.open_slice ht h with ⟨rfl, hx⟩ | ⟨a, len, cap, m, n', D', Pl, rfl, _, hle, hcap, hm, hx, hel⟩
  · refine ⟨⟨true, true, []⟩, .one ?_ rfl, ⟨fun a ha => (by simp at ha), by have := one_le d; simp; omega, fun _ => rfl⟩⟩
    exact TR.sl true true [] none 0 0 (fun _ _ => default) (fun _ => ⟨rfl, rfl, rfl⟩) (fun h => by cases h) (fun e he => by simp at he) (fun i j e c he => by simp at he) (by simp) (fun _ => rfl) (fun i j e c he => by simp at he)
  · have hlm : len ≤ m := by rw [hm]; split <;> omega
    have hd : d = .slice ((List.range len).map D') ((List.range (m - len)).map fun j => D' (len + j)) := congrArg Prod.fst hx
    rw [hd] at hb
    simp only [uptoBulk] at hb
    have hb1 : len ≤ uptoBulkAll ((List.range len).map D') := by
      have := len_le ((List.range len).map D')
      simpa using this
    have hb2 : ∀ i, i < len → uptoBulk (D' i) ≤ N := fun i hi => by
      have := mem_le (d := D' i) (l := (List.range len).map D') (List.mem_map.2 ⟨i, List.mem_range.2 hi, rfl⟩)
      omega
    have each : ∀ i : Nat, i < len → ∃ b : α, ∃ cs', w.cells? 0 (a.add (i * s)) s = some cs' ∧ CT w (f b) cs' ∧ ok b := fun i hi => by
      obtain ⟨cs', h1, h2⟩ := hel i (by omega)
      rw [hc] at h1
      obtain ⟨b, h3, h4⟩ := D cs' ⟨_, _, _, h2, hb2 i hi⟩
      exact ⟨b, cs', h1, h3, h4⟩
    have build : ∀ k, k ≤ len → ∃ l : List α, l.length = k ∧ ∀ i b, l[i]? = some b → ∃ cs', w.cells? 0 (a.add (i * s)) s = some cs' ∧ CT w (f b) cs' ∧ ok b := by
      intro k
      induction k with
      | zero => exact fun _ => ⟨[], rfl, fun i b h => by simp at h⟩
      | succ k ih =>
        intro hk
        obtain ⟨l, h1, h2⟩ := ih (by omega)
        obtain ⟨b, cs', h3⟩ := each k (by omega)
        refine ⟨l ++ [b], by simp [h1], fun i b' hb => ?_⟩
        by_cases hi : i < l.length
        · rw [List.getElem?_append_left hi] at hb; exact h2 i b' hb
        · rw [List.getElem?_append_right (by omega)] at hb
          have : i - l.length = 0 := by
            rcases Nat.eq_zero_or_pos (i - l.length) with h | h
            · exact h
            · rw [List.getElem?_eq_none (by simp; omega)] at hb; cases hb
          rw [this] at hb
          simp at hb; subst hb
          have : i = k := by omega
          subst this
          exact ⟨cs', h3⟩
    obtain ⟨l, hl, hall⟩ := build len (Nat.le_refl _)
    have hval : ∀ (i j : Nat) b c, l[i]? = some b → (f b)[j]? = some c → ∃ v, w.cell? (a.add (i * s + j)) = some v ∧ TR (immOf w) c v ∧ v.oneCell' = true := fun i j b c hb hcj => by
      obtain ⟨cs', h1, h2, _⟩ := hall i b hb
      obtain ⟨h3, h4⟩ := cells_get h1
      have hj : j < s := by rw [← hf b]; exact (List.getElem?_eq_some_iff.1 hcj).1
      have h5 := h4 j hj
      rw [Deep.add_add] at h5
      have h6 : cs'[j]? = some (cs'[j]'(by omega)) := List.getElem?_eq_getElem _
      rw [h6] at h5
      exact ⟨_, h5, h2.val j c _ hcj h6⟩
    refine ⟨⟨false, false, l⟩, .one ?_ rfl, ⟨fun b hb => ?_, ?_, fun h => (by cases h)⟩⟩
    · have key := TR.sl (I := immOf w) false false (l.map f) (some a) cap s (fun i j => (w.cell? (a.add (i * s + j))).getD default) (fun h => by cases h) (fun _ => ⟨by simp, a.block, a.off, fun hne => ?_, fun i j e c he hj => ?_⟩)
        (fun e he => by obtain ⟨b, _, rfl⟩ := List.mem_map.1 he; exact hf b) (fun i j e c he hj => ?_) (by simp; omega) (fun h => by cases h) (fun i j e c he hj => ?_)
      · simpa [Sl.t, hl] using key
      · obtain ⟨b, hb⟩ : ∃ b, l[0]? = some b := by
          cases l with
          | nil => simp at hne
          | cons b _ => exact ⟨b, rfl⟩
        have hfb : 0 < (f b).length := by rw [hf b]; exact hs
        obtain ⟨v, h1, _⟩ := hval 0 0 b _ hb (List.getElem?_eq_getElem hfb)
        have : a.add (0 * s + 0) = a := by simp [Addr.add]
        rw [this] at h1
        rw [spot_none h1]
      · rw [List.getElem?_map] at he
        obtain ⟨b, hb, rfl⟩ := Option.map_eq_some_iff.1 he
        obtain ⟨v, h1, _⟩ := hval i j b c hb hj
        have hz : a = ⟨a.block, a.off, none⟩ ∨ 0 < i * s + j := by
          rcases Nat.eq_zero_or_pos (i * s + j) with h | h
          · rw [h] at h1
            have : a.add 0 = a := by simp [Addr.add]
            rw [this] at h1
            exact .inl (spot_none h1)
          · exact .inr h
        have e : a.add (i * s + j) = ⟨a.block, a.off + i * s + j, none⟩ := by
          unfold Addr.add
          rcases hz with h | h
          · split
            · rename_i h0
              rw [h]; (first | (simp; done) | (simp; omega))
            · (first | (simp; done) | (simp; omega))
          · rw [if_neg (by omega)]; (first | (simp; done) | (simp; omega))
        show w.cell? ⟨a.block, a.off + i * s + j, none⟩ = _
        rw [← e, h1]; rfl
      · rw [List.getElem?_map] at he
        obtain ⟨b, hb, rfl⟩ := Option.map_eq_some_iff.1 he
        obtain ⟨v, h1, h2, _⟩ := hval i j b c hb hj
        rw [h1]; exact h2
      · rw [List.getElem?_map] at he
        obtain ⟨b, hb, rfl⟩ := Option.map_eq_some_iff.1 he
        obtain ⟨v, h1, _, h2⟩ := hval i j b c hb hj
        rw [h1]; exact h2
    · obtain ⟨i, hi⟩ := List.getElem?_of_mem hb
      obtain ⟨_, _, _, h⟩ := hall i b hi
      exact h
    · simp only [hl]; omega

/-- A struct's fields, one by one. -/
theorem rd_struct {t : TypeId} {fs : Array Field} {cs : List Value} (ht : P.underlying t = some (.struct fs)) (h : Rd enc P w N t cs) :
    cs.length = P.cellsOf t ∧ ∀ (i : Nat) (f : Field), fs[i]? = some f → Rd enc P w N f.type ((cs.drop f.offset).take (P.cellsOf f.type)) := by
  obtain ⟨n, d, ps, h, hb⟩ := h
  obtain ⟨xs, m, _, hx, h1, h2, h3⟩ := DataW.trod_struct ht h
  have hd : d = .agg (xs.map (·.1)) := congrArg Prod.fst hx
  rw [hd] at hb
  simp only [uptoBulk] at hb
  refine ⟨h1, fun i f hf => ?_⟩
  have h4 := h3 i f hf
  have hi : i < xs.length := by rw [h2]; exact (Array.getElem?_eq_some_iff.1 hf).1
  rw [List.getElem?_eq_getElem hi] at h4
  refine ⟨_, xs[i].1, xs[i].2, h4, ?_⟩
  have := mem_le (d := xs[i].1) (l := xs.map (·.1)) (List.mem_map.2 ⟨xs[i], List.getElem_mem hi, rfl⟩)
  omega
theorem rd_fields {t : TypeId} {l : List (TypeId × Nat)} {cs : List Value} (hfs : ∃ fs, P.underlying t = some (.struct fs) ∧ fs.toList.map (fun f => (f.type, f.offset)) = l) (h : Rd enc P w N t cs) :
    cs.length = P.cellsOf t ∧ ∀ x ∈ l, Rd enc P w N x.1 ((cs.drop x.2).take (P.cellsOf x.1)) := by
  obtain ⟨fs, ht, rfl⟩ := hfs
  obtain ⟨h1, h2⟩ := rd_struct ht h
  refine ⟨h1, fun x hx => ?_⟩
  obtain ⟨f, hf, rfl⟩ := List.mem_map.1 hx
  obtain ⟨i, hi⟩ := List.getElem?_of_mem hf
  exact h2 i f (by simpa using hi)
theorem rd_of_trod {t : TypeId} {v : Value} {d : DataW H} {ps : List MemPlace} (h : DataW.Trod enc P w 0 (fun _ => true) true t v d ps) (hb : uptoBulk d ≤ N) : Rd enc P w N t v.cells.toList := by
  obtain ⟨n, h⟩ := h; exact ⟨n, d, ps, h, hb⟩
end
end Go.Ab.U
/- What the seat's types read as. -/
namespace Go.Ab
open Go.Proofs Go.ChangeShapes Go.WideShapes
set_option maxRecDepth 100000

def intOK (n : Int) : Prop := (Lit.int .i64 n).wf = true
def placeOK (p : Int × Int) : Prop := (Lit.int .i64 p.1).wf = true ∧ (Lit.int .i64 p.2).wf = true
def placeC (p : Int × Int) : List Tree := [.int .i64 p.1, .int .i64 p.2]

theorem cells_2 : Tryz.prog.cellsOf 2 = 1 := by kernel_rfl
theorem cells_3 : Tryz.prog.cellsOf 3 = 1 := by kernel_rfl
theorem cells_4 : Tryz.prog.cellsOf 4 = 1 := by kernel_rfl
theorem cells_5 : Tryz.prog.cellsOf 5 = 1 := by kernel_rfl
theorem cells_9 : Tryz.prog.cellsOf 9 = 1 := by kernel_rfl
theorem cells_22 : Tryz.prog.cellsOf 22 = 1 := by kernel_rfl
theorem cells_23 : Tryz.prog.cellsOf 23 = 1 := by kernel_rfl
theorem cells_25 : Tryz.prog.cellsOf 25 = 2 := by kernel_rfl
theorem cells_27 : Tryz.prog.cellsOf 27 = 5 := by kernel_rfl
theorem cells_28 : Tryz.prog.cellsOf 28 = 1 := by kernel_rfl
theorem cells_30 : Tryz.prog.cellsOf 30 = 3 := by kernel_rfl
theorem cells_31 : Tryz.prog.cellsOf 31 = 1 := by kernel_rfl
theorem cells_37 : Tryz.prog.cellsOf 37 = 1 := by kernel_rfl
theorem cells_39 : Tryz.prog.cellsOf 39 = 2 := by kernel_rfl
theorem cells_45 : Tryz.prog.cellsOf 45 = 3 := by kernel_rfl
theorem cells_47 : Tryz.prog.cellsOf 47 = 4 := by kernel_rfl
theorem cells_50 : Tryz.prog.cellsOf 50 = 1 := by kernel_rfl
theorem cells_52 : Tryz.prog.cellsOf 52 = 4 := by kernel_rfl
theorem cells_54 : Tryz.prog.cellsOf 54 = 2 := by kernel_rfl
theorem cells_70 : Tryz.prog.cellsOf 70 = 1 := by kernel_rfl
theorem cells_71 : Tryz.prog.cellsOf 71 = 1 := by kernel_rfl
theorem cells_73 : Tryz.prog.cellsOf 73 = 8 := by kernel_rfl
theorem cells_75 : Tryz.prog.cellsOf 75 = 8 := by kernel_rfl
theorem flds_25 : ∃ fs, Tryz.prog.underlying 25 = some (.struct fs) ∧ fs.toList.map (fun f => (f.type, f.offset)) = [(3, 0), (3, 1)] := ⟨_, Tryz.underlying25, by kernel_rfl⟩
theorem flds_45 : ∃ fs, Tryz.prog.underlying 45 = some (.struct fs) ∧ fs.toList.map (fun f => (f.type, f.offset)) = [(5, 0), (2, 1), (9, 2)] := ⟨_, Tryz.underlying45, by kernel_rfl⟩
theorem flds_54 : ∃ fs, Tryz.prog.underlying 54 = some (.struct fs) ∧ fs.toList.map (fun f => (f.type, f.offset)) = [(9, 0), (5, 1)] := ⟨_, Tryz.underlying54, by kernel_rfl⟩
theorem flds_39 : ∃ fs, Tryz.prog.underlying 39 = some (.struct fs) ∧ fs.toList.map (fun f => (f.type, f.offset)) = [(9, 0), (37, 1)] := ⟨_, Tryz.underlying39, by kernel_rfl⟩
theorem flds_30 : ∃ fs, Tryz.prog.underlying 30 = some (.struct fs) ∧ fs.toList.map (fun f => (f.type, f.offset)) = [(3, 0), (3, 1), (28, 2)] := ⟨_, Tryz.underlying30, by kernel_rfl⟩
theorem flds_47 : ∃ fs, Tryz.prog.underlying 47 = some (.struct fs) ∧ fs.toList.map (fun f => (f.type, f.offset)) = [(9, 0), (45, 1)] := ⟨_, Tryz.underlying47, by kernel_rfl⟩
theorem flds_75 : ∃ fs, Tryz.prog.underlying 75 = some (.struct fs) ∧ fs.toList.map (fun f => (f.type, f.offset)) = [(5, 0), (45, 1), (9, 4), (71, 5), (25, 6)] := ⟨_, Tryz.underlying75, by kernel_rfl⟩
theorem flds_73 : ∃ fs, Tryz.prog.underlying 73 = some (.struct fs) ∧ fs.toList.map (fun f => (f.type, f.offset)) = [(5, 0), (70, 1), (70, 2), (4, 3), (4, 4), (71, 5), (25, 6)] := ⟨_, Tryz.underlying73, by kernel_rfl⟩
theorem flds_52 : ∃ fs, Tryz.prog.underlying 52 = some (.struct fs) ∧ fs.toList.map (fun f => (f.type, f.offset)) = [(9, 0), (50, 1), (25, 2)] := ⟨_, Tryz.underlying52, by kernel_rfl⟩
theorem flds_27 : ∃ fs, Tryz.prog.underlying 27 = some (.struct fs) ∧ fs.toList.map (fun f => (f.type, f.offset)) = [(9, 0), (9, 1), (23, 2), (25, 3)] := ⟨_, Tryz.underlying27, by kernel_rfl⟩

section
variable {H : Type} {enc : TypeId × Value → H} {w : World}
def Val.ok (x : Val) : Prop := (Lit.int .u8 x.k).wf = true ∧ (Lit.int .i64 x.n).wf = true ∧ StrOK x.s
theorem dec_45 : Dec enc Tryz.prog w 45 Val.c Val.ok := by
  intro cs h
  obtain ⟨hl, hf⟩ := rd_fields flds_45 h
  have h0 : Rd enc Tryz.prog w 5 ((cs.drop 0).take 1) := by have := hf (5, 0) (by simp); simp only [cells_5] at this; exact this
  obtain ⟨a0, c0, k0⟩ := dec_int (k := .u8) Tryz.underlying5 _ h0
  have h1 : Rd enc Tryz.prog w 2 ((cs.drop 1).take 1) := by have := hf (2, 1) (by simp); simp only [cells_2] at this; exact this
  obtain ⟨a1, c1, k1⟩ := dec_int (k := .i64) Tryz.underlying2 _ h1
  have h2 : Rd enc Tryz.prog w 9 ((cs.drop 2).take 1) := by have := hf (9, 2) (by simp); simp only [cells_9] at this; exact this
  obtain ⟨a2, c2, k2⟩ := dec_str Tryz.underlying9 _ h2
  rw [cells_45] at hl
  refine ⟨⟨a0, a1, a2⟩, ?_, ⟨k0, k1, k2⟩⟩
  exact ct_step c0 (ct_step c1 (ct_step c2 (ct_end hl)))

def Slot.ok (x : Slot) : Prop := StrOK x.name ∧ (Lit.int .u8 x.kind).wf = true
theorem dec_54 : Dec enc Tryz.prog w 54 Slot.c Slot.ok := by
  intro cs h
  obtain ⟨hl, hf⟩ := rd_fields flds_54 h
  have h0 : Rd enc Tryz.prog w 9 ((cs.drop 0).take 1) := by have := hf (9, 0) (by simp); simp only [cells_9] at this; exact this
  obtain ⟨a0, c0, k0⟩ := dec_str Tryz.underlying9 _ h0
  have h1 : Rd enc Tryz.prog w 5 ((cs.drop 1).take 1) := by have := hf (5, 1) (by simp); simp only [cells_5] at this; exact this
  obtain ⟨a1, c1, k1⟩ := dec_int (k := .u8) Tryz.underlying5 _ h1
  rw [cells_54] at hl
  refine ⟨⟨a0, a1⟩, ?_, ⟨k0, k1⟩⟩
  exact ct_step c0 (ct_step c1 (ct_end hl))

theorem dec_37 : Dec enc Tryz.prog w 37 (fun x : Sl Slot => [x.t Slot.c]) (SlOK Slot.ok) := dec_slice Tryz.underlying37 cells_54 (by decide) (fun _ => rfl) dec_54

def Tpl.ok (x : Tpl) : Prop := StrOK x.name ∧ SlOK Slot.ok x.slots
theorem dec_39 : Dec enc Tryz.prog w 39 Tpl.c Tpl.ok := by
  intro cs h
  obtain ⟨hl, hf⟩ := rd_fields flds_39 h
  have h0 : Rd enc Tryz.prog w 9 ((cs.drop 0).take 1) := by have := hf (9, 0) (by simp); simp only [cells_9] at this; exact this
  obtain ⟨a0, c0, k0⟩ := dec_str Tryz.underlying9 _ h0
  have h1 : Rd enc Tryz.prog w 37 ((cs.drop 1).take 1) := by have := hf (37, 1) (by simp); simp only [cells_37] at this; exact this
  obtain ⟨a1, c1, k1⟩ := dec_37 _ h1
  rw [cells_39] at hl
  refine ⟨⟨a0, a1⟩, ?_, ⟨k0, k1⟩⟩
  exact ct_step c0 (ct_step c1 (ct_end hl))

theorem dec_28 : Dec enc Tryz.prog w 28 (fun x : Sl Val => [x.t Val.c]) (SlOK Val.ok) := dec_slice Tryz.underlying28 cells_45 (by decide) (fun _ => rfl) dec_45

def Fact.ok (x : Fact) : Prop := (Lit.int .i64 x.id).wf = true ∧ (Lit.int .i64 x.tp).wf = true ∧ SlOK Val.ok x.s
theorem dec_30 : Dec enc Tryz.prog w 30 Fact.c Fact.ok := by
  intro cs h
  obtain ⟨hl, hf⟩ := rd_fields flds_30 h
  have h0 : Rd enc Tryz.prog w 3 ((cs.drop 0).take 1) := by have := hf (3, 0) (by simp); simp only [cells_3] at this; exact this
  obtain ⟨a0, c0, k0⟩ := dec_int (k := .i64) Tryz.underlying3 _ h0
  have h1 : Rd enc Tryz.prog w 3 ((cs.drop 1).take 1) := by have := hf (3, 1) (by simp); simp only [cells_3] at this; exact this
  obtain ⟨a1, c1, k1⟩ := dec_int (k := .i64) Tryz.underlying3 _ h1
  have h2 : Rd enc Tryz.prog w 28 ((cs.drop 2).take 1) := by have := hf (28, 2) (by simp); simp only [cells_28] at this; exact this
  obtain ⟨a2, c2, k2⟩ := dec_28 _ h2
  rw [cells_30] at hl
  refine ⟨⟨a0, a1, a2⟩, ?_, ⟨k0, k1, k2⟩⟩
  exact ct_step c0 (ct_step c1 (ct_step c2 (ct_end hl)))

def Bind.ok (x : Bind) : Prop := StrOK x.name ∧ Val.ok x.v
theorem dec_47 : Dec enc Tryz.prog w 47 Bind.c Bind.ok := by
  intro cs h
  obtain ⟨hl, hf⟩ := rd_fields flds_47 h
  have h0 : Rd enc Tryz.prog w 9 ((cs.drop 0).take 1) := by have := hf (9, 0) (by simp); simp only [cells_9] at this; exact this
  obtain ⟨a0, c0, k0⟩ := dec_str Tryz.underlying9 _ h0
  have h1 : Rd enc Tryz.prog w 45 ((cs.drop 1).take 3) := by have := hf (45, 1) (by simp); simp only [cells_45] at this; exact this
  obtain ⟨a1, c1, k1⟩ := dec_45 _ h1
  rw [cells_47] at hl
  refine ⟨⟨a0, a1⟩, ?_, ⟨k0, k1⟩⟩
  exact ct_step c0 (ct_step c1 (ct_end hl))

theorem dec_25 : Dec enc Tryz.prog w 25 placeC placeOK := by
  intro cs h
  obtain ⟨hl, hf⟩ := rd_fields flds_25 h
  have h0 : Rd enc Tryz.prog w 3 ((cs.drop 0).take 1) := by have := hf (3, 0) (by simp); simp only [cells_3] at this; exact this
  obtain ⟨a0, c0, k0⟩ := dec_int (k := .i64) Tryz.underlying3 _ h0
  have h1 : Rd enc Tryz.prog w 3 ((cs.drop 1).take 1) := by have := hf (3, 1) (by simp); simp only [cells_3] at this; exact this
  obtain ⟨a1, c1, k1⟩ := dec_int (k := .i64) Tryz.underlying3 _ h1
  rw [cells_25] at hl
  refine ⟨(a0, a1), ?_, ⟨k0, k1⟩⟩
  exact ct_step c0 (ct_step c1 (ct_end hl))

theorem dec_71 : Dec enc Tryz.prog w 71 (fun x : Sl Int => [x.t intC]) (SlOK intOK) := dec_slice Tryz.underlying71 cells_3 (by decide) (fun _ => rfl) (dec_int Tryz.underlying3)

def Node.ok (x : Node) : Prop := (Lit.int .u8 x.op).wf = true ∧ Val.ok x.v ∧ StrOK x.name ∧ SlOK intOK x.kids ∧ placeOK (x.line, x.col)
theorem dec_75 : Dec enc Tryz.prog w 75 Node.c Node.ok := by
  intro cs h
  obtain ⟨hl, hf⟩ := rd_fields flds_75 h
  have h0 : Rd enc Tryz.prog w 5 ((cs.drop 0).take 1) := by have := hf (5, 0) (by simp); simp only [cells_5] at this; exact this
  obtain ⟨a0, c0, k0⟩ := dec_int (k := .u8) Tryz.underlying5 _ h0
  have h1 : Rd enc Tryz.prog w 45 ((cs.drop 1).take 3) := by have := hf (45, 1) (by simp); simp only [cells_45] at this; exact this
  obtain ⟨a1, c1, k1⟩ := dec_45 _ h1
  have h2 : Rd enc Tryz.prog w 9 ((cs.drop 4).take 1) := by have := hf (9, 4) (by simp); simp only [cells_9] at this; exact this
  obtain ⟨a2, c2, k2⟩ := dec_str Tryz.underlying9 _ h2
  have h3 : Rd enc Tryz.prog w 71 ((cs.drop 5).take 1) := by have := hf (71, 5) (by simp); simp only [cells_71] at this; exact this
  obtain ⟨a3, c3, k3⟩ := dec_71 _ h3
  have h4 : Rd enc Tryz.prog w 25 ((cs.drop 6).take 2) := by have := hf (25, 6) (by simp); simp only [cells_25] at this; exact this
  obtain ⟨a4, c4, k4⟩ := dec_25 _ h4
  rw [cells_75] at hl
  refine ⟨⟨a0, a1, a2, a3, a4.1, a4.2⟩, ?_, ⟨k0, k1, k2, k3, k4⟩⟩
  exact ct_step c0 (ct_step c1 (ct_step c2 (ct_step c3 (ct_step c4 (ct_end hl)))))

theorem dec_70 : Dec enc Tryz.prog w 70 (fun x : Sl Node => [x.t Node.c]) (SlOK Node.ok) := dec_slice Tryz.underlying70 cells_75 (by decide) (fun _ => rfl) dec_75

def Test.ok (x : Test) : Prop := (Lit.int .u8 x.op).wf = true ∧ SlOK Node.ok x.a ∧ SlOK Node.ok x.b ∧ SlOK intOK x.kids ∧ placeOK (x.line, x.col)
theorem dec_73 : Dec enc Tryz.prog w 73 Test.c Test.ok := by
  intro cs h
  obtain ⟨hl, hf⟩ := rd_fields flds_73 h
  have h0 : Rd enc Tryz.prog w 5 ((cs.drop 0).take 1) := by have := hf (5, 0) (by simp); simp only [cells_5] at this; exact this
  obtain ⟨a0, c0, k0⟩ := dec_int (k := .u8) Tryz.underlying5 _ h0
  have h1 : Rd enc Tryz.prog w 70 ((cs.drop 1).take 1) := by have := hf (70, 1) (by simp); simp only [cells_70] at this; exact this
  obtain ⟨a1, c1, k1⟩ := dec_70 _ h1
  have h2 : Rd enc Tryz.prog w 70 ((cs.drop 2).take 1) := by have := hf (70, 2) (by simp); simp only [cells_70] at this; exact this
  obtain ⟨a2, c2, k2⟩ := dec_70 _ h2
  have h3 : Rd enc Tryz.prog w 4 ((cs.drop 3).take 1) := by have := hf (4, 3) (by simp); simp only [cells_4] at this; exact this
  obtain ⟨a3, c3, k3⟩ := dec_bool Tryz.underlying4 _ h3
  have h4 : Rd enc Tryz.prog w 4 ((cs.drop 4).take 1) := by have := hf (4, 4) (by simp); simp only [cells_4] at this; exact this
  obtain ⟨a4, c4, k4⟩ := dec_bool Tryz.underlying4 _ h4
  have h5 : Rd enc Tryz.prog w 71 ((cs.drop 5).take 1) := by have := hf (71, 5) (by simp); simp only [cells_71] at this; exact this
  obtain ⟨a5, c5, k5⟩ := dec_71 _ h5
  have h6 : Rd enc Tryz.prog w 25 ((cs.drop 6).take 2) := by have := hf (25, 6) (by simp); simp only [cells_25] at this; exact this
  obtain ⟨a6, c6, k6⟩ := dec_25 _ h6
  rw [cells_73] at hl
  refine ⟨⟨a0, a1, a2, a3, a4, a5, a6.1, a6.2⟩, ?_, ⟨k0, k1, k2, k5, k6⟩⟩
  exact ct_step c0 (ct_step c1 (ct_step c2 (ct_step c3 (ct_step c4 (ct_step c5 (ct_step c6 (ct_end hl)))))))

theorem dec_50 : Dec enc Tryz.prog w 50 (fun x : Sl Test => [x.t Test.c]) (SlOK Test.ok) := dec_slice Tryz.underlying50 cells_73 (by decide) (fun _ => rfl) dec_73

def STest.ok (x : STest) : Prop := StrOK x.slot ∧ SlOK Test.ok x.test ∧ placeOK (x.line, x.col)
theorem dec_52 : Dec enc Tryz.prog w 52 STest.c STest.ok := by
  intro cs h
  obtain ⟨hl, hf⟩ := rd_fields flds_52 h
  have h0 : Rd enc Tryz.prog w 9 ((cs.drop 0).take 1) := by have := hf (9, 0) (by simp); simp only [cells_9] at this; exact this
  obtain ⟨a0, c0, k0⟩ := dec_str Tryz.underlying9 _ h0
  have h1 : Rd enc Tryz.prog w 50 ((cs.drop 1).take 1) := by have := hf (50, 1) (by simp); simp only [cells_50] at this; exact this
  obtain ⟨a1, c1, k1⟩ := dec_50 _ h1
  have h2 : Rd enc Tryz.prog w 25 ((cs.drop 2).take 2) := by have := hf (25, 2) (by simp); simp only [cells_25] at this; exact this
  obtain ⟨a2, c2, k2⟩ := dec_25 _ h2
  rw [cells_52] at hl
  refine ⟨⟨a0, a1, a2.1, a2.2⟩, ?_, ⟨k0, k1, k2⟩⟩
  exact ct_step c0 (ct_step c1 (ct_step c2 (ct_end hl)))

theorem dec_23 : Dec enc Tryz.prog w 23 (fun x : Sl STest => [x.t STest.c]) (SlOK STest.ok) := dec_slice Tryz.underlying23 cells_52 (by decide) (fun _ => rfl) dec_52

def Pat.ok (x : Pat) : Prop := StrOK x.name ∧ StrOK x.t ∧ SlOK STest.ok x.slots ∧ placeOK (x.line, x.col)
theorem dec_27 : Dec enc Tryz.prog w 27 Pat.c Pat.ok := by
  intro cs h
  obtain ⟨hl, hf⟩ := rd_fields flds_27 h
  have h0 : Rd enc Tryz.prog w 9 ((cs.drop 0).take 1) := by have := hf (9, 0) (by simp); simp only [cells_9] at this; exact this
  obtain ⟨a0, c0, k0⟩ := dec_str Tryz.underlying9 _ h0
  have h1 : Rd enc Tryz.prog w 9 ((cs.drop 1).take 1) := by have := hf (9, 1) (by simp); simp only [cells_9] at this; exact this
  obtain ⟨a1, c1, k1⟩ := dec_str Tryz.underlying9 _ h1
  have h2 : Rd enc Tryz.prog w 23 ((cs.drop 2).take 1) := by have := hf (23, 2) (by simp); simp only [cells_23] at this; exact this
  obtain ⟨a2, c2, k2⟩ := dec_23 _ h2
  have h3 : Rd enc Tryz.prog w 25 ((cs.drop 3).take 2) := by have := hf (25, 3) (by simp); simp only [cells_25] at this; exact this
  obtain ⟨a3, c3, k3⟩ := dec_25 _ h3
  rw [cells_27] at hl
  refine ⟨⟨a0, a1, a2, a3.1, a3.2⟩, ?_, ⟨k0, k1, k2, k3⟩⟩
  exact ct_step c0 (ct_step c1 (ct_step c2 (ct_step c3 (ct_end hl))))

theorem dec_22 : Dec enc Tryz.prog w 22 (fun x : Sl Tpl => [x.t Tpl.c]) (SlOK Tpl.ok) := dec_slice Tryz.underlying22 cells_39 (by decide) (fun _ => rfl) dec_39

theorem dec_31 : Dec enc Tryz.prog w 31 (fun x : Sl Bind => [x.t Bind.c]) (SlOK Bind.ok) := dec_slice Tryz.underlying31 cells_47 (by decide) (fun _ => rfl) dec_47

end
end Go.Ab
/- What the seat's types read as. -/
namespace Go.Ab.U
open Go.Proofs Go.ChangeShapes Go.WideShapes
set_option maxRecDepth 100000



section
variable {H : Type} {enc : TypeId × Value → H} {w : World} {N : Nat}
def Val.okU (N : Nat) (x : Val) : Prop := (Lit.int .u8 x.k).wf = true ∧ (Lit.int .i64 x.n).wf = true ∧ StrOK N x.s
theorem dec_45 : Dec enc Tryz.prog w N 45 Val.c (Val.okU N) := by
  intro cs h
  obtain ⟨hl, hf⟩ := rd_fields flds_45 h
  have h0 : Rd enc Tryz.prog w N 5 ((cs.drop 0).take 1) := by have := hf (5, 0) (by simp); simp only [cells_5] at this; exact this
  obtain ⟨a0, c0, k0⟩ := dec_int (k := .u8) Tryz.underlying5 _ h0
  have h1 : Rd enc Tryz.prog w N 2 ((cs.drop 1).take 1) := by have := hf (2, 1) (by simp); simp only [cells_2] at this; exact this
  obtain ⟨a1, c1, k1⟩ := dec_int (k := .i64) Tryz.underlying2 _ h1
  have h2 : Rd enc Tryz.prog w N 9 ((cs.drop 2).take 1) := by have := hf (9, 2) (by simp); simp only [cells_9] at this; exact this
  obtain ⟨a2, c2, k2⟩ := dec_str Tryz.underlying9 _ h2
  rw [cells_45] at hl
  refine ⟨⟨a0, a1, a2⟩, ?_, ⟨k0, k1, k2⟩⟩
  exact ct_step c0 (ct_step c1 (ct_step c2 (ct_end hl)))

def Slot.okU (N : Nat) (x : Slot) : Prop := StrOK N x.name ∧ (Lit.int .u8 x.kind).wf = true
theorem dec_54 : Dec enc Tryz.prog w N 54 Slot.c (Slot.okU N) := by
  intro cs h
  obtain ⟨hl, hf⟩ := rd_fields flds_54 h
  have h0 : Rd enc Tryz.prog w N 9 ((cs.drop 0).take 1) := by have := hf (9, 0) (by simp); simp only [cells_9] at this; exact this
  obtain ⟨a0, c0, k0⟩ := dec_str Tryz.underlying9 _ h0
  have h1 : Rd enc Tryz.prog w N 5 ((cs.drop 1).take 1) := by have := hf (5, 1) (by simp); simp only [cells_5] at this; exact this
  obtain ⟨a1, c1, k1⟩ := dec_int (k := .u8) Tryz.underlying5 _ h1
  rw [cells_54] at hl
  refine ⟨⟨a0, a1⟩, ?_, ⟨k0, k1⟩⟩
  exact ct_step c0 (ct_step c1 (ct_end hl))

theorem dec_37 : Dec enc Tryz.prog w N 37 (fun x : Sl Slot => [x.t Slot.c]) (SlOK N (Slot.okU N)) := dec_slice Tryz.underlying37 cells_54 (by decide) (fun _ => rfl) dec_54

def Tpl.okU (N : Nat) (x : Tpl) : Prop := StrOK N x.name ∧ SlOK N (Slot.okU N) x.slots
theorem dec_39 : Dec enc Tryz.prog w N 39 Tpl.c (Tpl.okU N) := by
  intro cs h
  obtain ⟨hl, hf⟩ := rd_fields flds_39 h
  have h0 : Rd enc Tryz.prog w N 9 ((cs.drop 0).take 1) := by have := hf (9, 0) (by simp); simp only [cells_9] at this; exact this
  obtain ⟨a0, c0, k0⟩ := dec_str Tryz.underlying9 _ h0
  have h1 : Rd enc Tryz.prog w N 37 ((cs.drop 1).take 1) := by have := hf (37, 1) (by simp); simp only [cells_37] at this; exact this
  obtain ⟨a1, c1, k1⟩ := dec_37 _ h1
  rw [cells_39] at hl
  refine ⟨⟨a0, a1⟩, ?_, ⟨k0, k1⟩⟩
  exact ct_step c0 (ct_step c1 (ct_end hl))

theorem dec_28 : Dec enc Tryz.prog w N 28 (fun x : Sl Val => [x.t Val.c]) (SlOK N (Val.okU N)) := dec_slice Tryz.underlying28 cells_45 (by decide) (fun _ => rfl) dec_45

def Fact.okU (N : Nat) (x : Fact) : Prop := (Lit.int .i64 x.id).wf = true ∧ (Lit.int .i64 x.tp).wf = true ∧ SlOK N (Val.okU N) x.s
theorem dec_30 : Dec enc Tryz.prog w N 30 Fact.c (Fact.okU N) := by
  intro cs h
  obtain ⟨hl, hf⟩ := rd_fields flds_30 h
  have h0 : Rd enc Tryz.prog w N 3 ((cs.drop 0).take 1) := by have := hf (3, 0) (by simp); simp only [cells_3] at this; exact this
  obtain ⟨a0, c0, k0⟩ := dec_int (k := .i64) Tryz.underlying3 _ h0
  have h1 : Rd enc Tryz.prog w N 3 ((cs.drop 1).take 1) := by have := hf (3, 1) (by simp); simp only [cells_3] at this; exact this
  obtain ⟨a1, c1, k1⟩ := dec_int (k := .i64) Tryz.underlying3 _ h1
  have h2 : Rd enc Tryz.prog w N 28 ((cs.drop 2).take 1) := by have := hf (28, 2) (by simp); simp only [cells_28] at this; exact this
  obtain ⟨a2, c2, k2⟩ := dec_28 _ h2
  rw [cells_30] at hl
  refine ⟨⟨a0, a1, a2⟩, ?_, ⟨k0, k1, k2⟩⟩
  exact ct_step c0 (ct_step c1 (ct_step c2 (ct_end hl)))

def Bind.okU (N : Nat) (x : Bind) : Prop := StrOK N x.name ∧ Val.okU N x.v
theorem dec_47 : Dec enc Tryz.prog w N 47 Bind.c (Bind.okU N) := by
  intro cs h
  obtain ⟨hl, hf⟩ := rd_fields flds_47 h
  have h0 : Rd enc Tryz.prog w N 9 ((cs.drop 0).take 1) := by have := hf (9, 0) (by simp); simp only [cells_9] at this; exact this
  obtain ⟨a0, c0, k0⟩ := dec_str Tryz.underlying9 _ h0
  have h1 : Rd enc Tryz.prog w N 45 ((cs.drop 1).take 3) := by have := hf (45, 1) (by simp); simp only [cells_45] at this; exact this
  obtain ⟨a1, c1, k1⟩ := dec_45 _ h1
  rw [cells_47] at hl
  refine ⟨⟨a0, a1⟩, ?_, ⟨k0, k1⟩⟩
  exact ct_step c0 (ct_step c1 (ct_end hl))

theorem dec_25 : Dec enc Tryz.prog w N 25 placeC placeOK := by
  intro cs h
  obtain ⟨hl, hf⟩ := rd_fields flds_25 h
  have h0 : Rd enc Tryz.prog w N 3 ((cs.drop 0).take 1) := by have := hf (3, 0) (by simp); simp only [cells_3] at this; exact this
  obtain ⟨a0, c0, k0⟩ := dec_int (k := .i64) Tryz.underlying3 _ h0
  have h1 : Rd enc Tryz.prog w N 3 ((cs.drop 1).take 1) := by have := hf (3, 1) (by simp); simp only [cells_3] at this; exact this
  obtain ⟨a1, c1, k1⟩ := dec_int (k := .i64) Tryz.underlying3 _ h1
  rw [cells_25] at hl
  refine ⟨(a0, a1), ?_, ⟨k0, k1⟩⟩
  exact ct_step c0 (ct_step c1 (ct_end hl))

theorem dec_71 : Dec enc Tryz.prog w N 71 (fun x : Sl Int => [x.t intC]) (SlOK N intOK) := dec_slice Tryz.underlying71 cells_3 (by decide) (fun _ => rfl) (dec_int Tryz.underlying3)

def Node.okU (N : Nat) (x : Node) : Prop := (Lit.int .u8 x.op).wf = true ∧ Val.okU N x.v ∧ StrOK N x.name ∧ SlOK N intOK x.kids ∧ placeOK (x.line, x.col)
theorem dec_75 : Dec enc Tryz.prog w N 75 Node.c (Node.okU N) := by
  intro cs h
  obtain ⟨hl, hf⟩ := rd_fields flds_75 h
  have h0 : Rd enc Tryz.prog w N 5 ((cs.drop 0).take 1) := by have := hf (5, 0) (by simp); simp only [cells_5] at this; exact this
  obtain ⟨a0, c0, k0⟩ := dec_int (k := .u8) Tryz.underlying5 _ h0
  have h1 : Rd enc Tryz.prog w N 45 ((cs.drop 1).take 3) := by have := hf (45, 1) (by simp); simp only [cells_45] at this; exact this
  obtain ⟨a1, c1, k1⟩ := dec_45 _ h1
  have h2 : Rd enc Tryz.prog w N 9 ((cs.drop 4).take 1) := by have := hf (9, 4) (by simp); simp only [cells_9] at this; exact this
  obtain ⟨a2, c2, k2⟩ := dec_str Tryz.underlying9 _ h2
  have h3 : Rd enc Tryz.prog w N 71 ((cs.drop 5).take 1) := by have := hf (71, 5) (by simp); simp only [cells_71] at this; exact this
  obtain ⟨a3, c3, k3⟩ := dec_71 _ h3
  have h4 : Rd enc Tryz.prog w N 25 ((cs.drop 6).take 2) := by have := hf (25, 6) (by simp); simp only [cells_25] at this; exact this
  obtain ⟨a4, c4, k4⟩ := dec_25 _ h4
  rw [cells_75] at hl
  refine ⟨⟨a0, a1, a2, a3, a4.1, a4.2⟩, ?_, ⟨k0, k1, k2, k3, k4⟩⟩
  exact ct_step c0 (ct_step c1 (ct_step c2 (ct_step c3 (ct_step c4 (ct_end hl)))))

theorem dec_70 : Dec enc Tryz.prog w N 70 (fun x : Sl Node => [x.t Node.c]) (SlOK N (Node.okU N)) := dec_slice Tryz.underlying70 cells_75 (by decide) (fun _ => rfl) dec_75

def Test.okU (N : Nat) (x : Test) : Prop := (Lit.int .u8 x.op).wf = true ∧ SlOK N (Node.okU N) x.a ∧ SlOK N (Node.okU N) x.b ∧ SlOK N intOK x.kids ∧ placeOK (x.line, x.col)
theorem dec_73 : Dec enc Tryz.prog w N 73 Test.c (Test.okU N) := by
  intro cs h
  obtain ⟨hl, hf⟩ := rd_fields flds_73 h
  have h0 : Rd enc Tryz.prog w N 5 ((cs.drop 0).take 1) := by have := hf (5, 0) (by simp); simp only [cells_5] at this; exact this
  obtain ⟨a0, c0, k0⟩ := dec_int (k := .u8) Tryz.underlying5 _ h0
  have h1 : Rd enc Tryz.prog w N 70 ((cs.drop 1).take 1) := by have := hf (70, 1) (by simp); simp only [cells_70] at this; exact this
  obtain ⟨a1, c1, k1⟩ := dec_70 _ h1
  have h2 : Rd enc Tryz.prog w N 70 ((cs.drop 2).take 1) := by have := hf (70, 2) (by simp); simp only [cells_70] at this; exact this
  obtain ⟨a2, c2, k2⟩ := dec_70 _ h2
  have h3 : Rd enc Tryz.prog w N 4 ((cs.drop 3).take 1) := by have := hf (4, 3) (by simp); simp only [cells_4] at this; exact this
  obtain ⟨a3, c3, k3⟩ := dec_bool Tryz.underlying4 _ h3
  have h4 : Rd enc Tryz.prog w N 4 ((cs.drop 4).take 1) := by have := hf (4, 4) (by simp); simp only [cells_4] at this; exact this
  obtain ⟨a4, c4, k4⟩ := dec_bool Tryz.underlying4 _ h4
  have h5 : Rd enc Tryz.prog w N 71 ((cs.drop 5).take 1) := by have := hf (71, 5) (by simp); simp only [cells_71] at this; exact this
  obtain ⟨a5, c5, k5⟩ := dec_71 _ h5
  have h6 : Rd enc Tryz.prog w N 25 ((cs.drop 6).take 2) := by have := hf (25, 6) (by simp); simp only [cells_25] at this; exact this
  obtain ⟨a6, c6, k6⟩ := dec_25 _ h6
  rw [cells_73] at hl
  refine ⟨⟨a0, a1, a2, a3, a4, a5, a6.1, a6.2⟩, ?_, ⟨k0, k1, k2, k5, k6⟩⟩
  exact ct_step c0 (ct_step c1 (ct_step c2 (ct_step c3 (ct_step c4 (ct_step c5 (ct_step c6 (ct_end hl)))))))

theorem dec_50 : Dec enc Tryz.prog w N 50 (fun x : Sl Test => [x.t Test.c]) (SlOK N (Test.okU N)) := dec_slice Tryz.underlying50 cells_73 (by decide) (fun _ => rfl) dec_73

def STest.okU (N : Nat) (x : STest) : Prop := StrOK N x.slot ∧ SlOK N (Test.okU N) x.test ∧ placeOK (x.line, x.col)
theorem dec_52 : Dec enc Tryz.prog w N 52 STest.c (STest.okU N) := by
  intro cs h
  obtain ⟨hl, hf⟩ := rd_fields flds_52 h
  have h0 : Rd enc Tryz.prog w N 9 ((cs.drop 0).take 1) := by have := hf (9, 0) (by simp); simp only [cells_9] at this; exact this
  obtain ⟨a0, c0, k0⟩ := dec_str Tryz.underlying9 _ h0
  have h1 : Rd enc Tryz.prog w N 50 ((cs.drop 1).take 1) := by have := hf (50, 1) (by simp); simp only [cells_50] at this; exact this
  obtain ⟨a1, c1, k1⟩ := dec_50 _ h1
  have h2 : Rd enc Tryz.prog w N 25 ((cs.drop 2).take 2) := by have := hf (25, 2) (by simp); simp only [cells_25] at this; exact this
  obtain ⟨a2, c2, k2⟩ := dec_25 _ h2
  rw [cells_52] at hl
  refine ⟨⟨a0, a1, a2.1, a2.2⟩, ?_, ⟨k0, k1, k2⟩⟩
  exact ct_step c0 (ct_step c1 (ct_step c2 (ct_end hl)))

theorem dec_23 : Dec enc Tryz.prog w N 23 (fun x : Sl STest => [x.t STest.c]) (SlOK N (STest.okU N)) := dec_slice Tryz.underlying23 cells_52 (by decide) (fun _ => rfl) dec_52

def Pat.okU (N : Nat) (x : Pat) : Prop := StrOK N x.name ∧ StrOK N x.t ∧ SlOK N (STest.okU N) x.slots ∧ placeOK (x.line, x.col)
theorem dec_27 : Dec enc Tryz.prog w N 27 Pat.c (Pat.okU N) := by
  intro cs h
  obtain ⟨hl, hf⟩ := rd_fields flds_27 h
  have h0 : Rd enc Tryz.prog w N 9 ((cs.drop 0).take 1) := by have := hf (9, 0) (by simp); simp only [cells_9] at this; exact this
  obtain ⟨a0, c0, k0⟩ := dec_str Tryz.underlying9 _ h0
  have h1 : Rd enc Tryz.prog w N 9 ((cs.drop 1).take 1) := by have := hf (9, 1) (by simp); simp only [cells_9] at this; exact this
  obtain ⟨a1, c1, k1⟩ := dec_str Tryz.underlying9 _ h1
  have h2 : Rd enc Tryz.prog w N 23 ((cs.drop 2).take 1) := by have := hf (23, 2) (by simp); simp only [cells_23] at this; exact this
  obtain ⟨a2, c2, k2⟩ := dec_23 _ h2
  have h3 : Rd enc Tryz.prog w N 25 ((cs.drop 3).take 2) := by have := hf (25, 3) (by simp); simp only [cells_25] at this; exact this
  obtain ⟨a3, c3, k3⟩ := dec_25 _ h3
  rw [cells_27] at hl
  refine ⟨⟨a0, a1, a2, a3.1, a3.2⟩, ?_, ⟨k0, k1, k2, k3⟩⟩
  exact ct_step c0 (ct_step c1 (ct_step c2 (ct_step c3 (ct_end hl))))

theorem dec_22 : Dec enc Tryz.prog w N 22 (fun x : Sl Tpl => [x.t Tpl.c]) (SlOK N (Tpl.okU N)) := dec_slice Tryz.underlying22 cells_39 (by decide) (fun _ => rfl) dec_39

theorem dec_31 : Dec enc Tryz.prog w N 31 (fun x : Sl Bind => [x.t Bind.c]) (SlOK N (Bind.okU N)) := dec_slice Tryz.underlying31 cells_47 (by decide) (fun _ => rfl) dec_47

end
end Go.Ab.U
/- The library's contract of strings.Contains at this program (laid by the kit's lay-shelf.mjs and lay-plain.mjs). -/
namespace Go.Proofs
open Go.Shelf
def Tryz.laysM144_ren : Go.Shelf.Ren := ⟨fun | 144 => 101 | 143 => 140 | 219 => 172 | 217 => 191 | 225 => 192 | 224 => 193 | 267 => 194 | 266 => 204 | 314 => 205 | n => n, fun | 9 => 9 | 4 => 4 | 3 => 3 | 5 => 5 | 46 => 252 | 146 => 261 | 51 => 260 | n => n, fun | 1 => 0 | n => n⟩
theorem Tryz.laysM144 : Go.Proofs.LaysM.n144 Tryz.prog Tryz.laysM144_ren := {
  mixed := by kernel_rfl
  f143 := Tryz.func140.trans (congrArg some (by kernel_rfl))
  f144 := Tryz.func101.trans (congrArg some (by kernel_rfl))
  f217 := Tryz.func191.trans (congrArg some (by kernel_rfl))
  f219 := Tryz.func172.trans (congrArg some (by kernel_rfl))
  f224 := Tryz.func193.trans (congrArg some (by kernel_rfl))
  f225 := Tryz.func192.trans (congrArg some (by kernel_rfl))
  f266 := Tryz.func204.trans (congrArg some (by kernel_rfl))
  f267 := Tryz.func194.trans (congrArg some (by kernel_rfl))
  f314 := Tryz.func205.trans (congrArg some (by kernel_rfl))
  t3 := Tryz.underlying3
  a3 := Tryz.isAgg3
  z3 := Tryz.sizeOf3
  v3 := Tryz.zeroValue3
  t4 := Tryz.underlying4
  a4 := Tryz.isAgg4
  z4 := Tryz.sizeOf4
  v4 := Tryz.zeroValue4
  t5 := Tryz.underlying5
  a5 := Tryz.isAgg5
  z5 := Tryz.sizeOf5
  v5 := Tryz.zeroValue5
  t9 := Tryz.underlying9
  a9 := Tryz.isAgg9
  z9 := Tryz.sizeOf9
  v9 := Tryz.zeroValue9
  t46 := Tryz.underlying252
  a46 := Tryz.isAgg252
  z46 := Tryz.sizeOf252
  v46 := Tryz.zeroValue252
  t51 := Tryz.underlying260
  a51 := Tryz.isAgg260
  z51 := Tryz.sizeOf260
  v51 := Tryz.zeroValue260
  t146 := Tryz.underlying261
  a146 := Tryz.isAgg261
  z146 := Tryz.sizeOf261
  v146 := Tryz.zeroValue261
  g1 := by kernel_rfl
  i3 := by kernel_rfl
  i4 := by kernel_rfl
  i5 := by kernel_rfl
  i9 := by kernel_rfl
  i46 := by kernel_rfl
  i51 := by kernel_rfl
  i146 := by kernel_rfl
  m1 := by kernel_rfl
  s1_3 := fun w h => Go.Proofs.cell_of_shapedOpen_int (zero := #[.int .i64 0]) (t := 3) h (of_decide_eq_true (by kernel_rfl)) (by kernel_rfl) rfl (by kernel_rfl) (by kernel_rfl) Tryz.underlying3 }
open Go.RowKit Go.Lib in
theorem Tryz.strings_Contains_shaped (s sub : ByteArray) (w : World) (h : w.ShapedOpen Tryz.prog) (hs : s.size < 4294967281) :
    Calls Tryz.prog 101 #[.string s, .string sub] w fun e w' => e = .returned (.bool (Lib.contains s.data.toList sub.data.toList)) ∧ w' = w := Any.strings_Contains_shaped Tryz.laysM144 s sub w h hs
end Go.Proofs
/- A call of the evaluator's where some functions are given by the library's contracts: what is asked of them is there. -/
namespace Go.Ab
open Go.Proofs

theorem shaped_of_base {P : Program} {w0 w : World} {γ : G} (h : w0.ShapedOpen P) (hb : Base w0 γ w) : w.ShapedOpen P := by
  have hk : w0.keptBut { w with os := w0.os, output := w0.output } (fun _ => False) :=
    kept_of_keep (w := w0) (w' := { w with os := w0.os, output := w0.output }) (fun b hb' => (hb.2 b hb').1) ⟨rfl, rfl⟩ _
  have h2 : World.ShapedOpen P { w with os := w0.os, output := w0.output } := h.keptBut hk (fun p hp => hp.elim)
  exact h2.of_heap rfl

/-- A call of the evaluator's, over data that came in. -/
theorem calls_of_omP {w : World} {C : Cfg} {f : FuncId} {args : List AV} {v : AV} {vs : List Value} (hm : C.P.follows .mixedOrders = true) (hpr : PrimOK C w) (h : Om C f args [] = some (.val v, []))
    (hv : ∀ (γ : G) (g : Look), γ.imm = immOf w → VRs γ g args vs) (hb : v = .t (.bool true)) :
    Calls C.P f vs.toArray w fun e w' => e = .returned (.bool true) ∧ (∀ b, b < w.heap.size → w'.heap[b]? = w.heap[b]?) ∧ w'.os = w.os ∧ w'.output = w.output := by
  have ho := om_sound (C := C) (w0 := w) hm hpr f args [] _ _ h
  let γ : G := ⟨fun _ => none, fun _ => 0, immOf w⟩
  have hr : HR γ (nth []) w := ⟨fun id b h => (by cases h), fun id id' b h => (by cases h), fun b o v h => h⟩
  have hbase : Base w γ w := ⟨Nat.le_refl _, fun b hb => ⟨rfl, fun id h => (by cases h)⟩⟩
  refine (ho γ w vs hr hbase (hv γ _ rfl)).mono fun e w' hp => ?_
  obtain ⟨γ', h1, h2, h3, h4, h5⟩ := hp
  subst hb
  refine ⟨?_, fun b hb => (hbase.mono h2).2 b hb |>.1, h2.same⟩
  cases e with
  | returned u =>
    have hu : VR γ' (nth []) (.t (.bool true)) u := h5
    cases hu with
    | t _ _ hu => cases hu; rfl
  | panicked c => exact False.elim h5
  | outgrown => exact False.elim h5

theorem prims_inv {f : FuncId} {args : List AV} {v : AV} (h : CC.prim f args = some v) :
    f = 101 ∧ ∃ s sub : List Nat, args = [.t (.str s), .t (.str sub)] ∧ s.length < 4294967281 ∧ v = .t (.bool (Lib.contains (s.map UInt8.ofNat) (sub.map UInt8.ofNat))) := by
  change prims f args = some v at h
  unfold prims at h
  split at h
  · rename_i s sub hf
    split at h
    · rename_i hl
      have h := Option.some.inj h
      exact ⟨Nat.eq_of_beq_eq_true hf, s, sub, rfl, hl, h.symm⟩
    · cases h
  · cases h

theorem primOK {w0 : World} (h0 : w0.ShapedOpen Tryz.prog) : PrimOK CC w0 := by
  intro f args v hp _ γ g w vs hr hb hvs
  obtain ⟨rfl, s, sub, rfl, hl, rfl⟩ := prims_inv hp
  obtain ⟨v1, vs1, rfl, h1, hvs1⟩ := hvs.cases_cons
  obtain ⟨v2, vs2, rfl, h2, hvs2⟩ := hvs1.cases_cons
  obtain rfl := hvs2.nil_inv
  cases h1 with
  | t _ _ h1 =>
  cases h2 with
  | t _ _ h2 =>
  cases h1
  cases h2
  have hs := shaped_of_base h0 hb
  refine (Tryz.strings_Contains_shaped ⟨(s.map UInt8.ofNat).toArray⟩ ⟨(sub.map UInt8.ofNat).toArray⟩ w hs (by simpa [ByteArray.size] using hl)).mono fun e w' ⟨he, hw⟩ => ?_
  subst hw
  exact ⟨_, he, .t _ _ (.bool _), ⟨rfl, rfl⟩, Nat.le_refl _, fun _ _ => rfl⟩
end Go.Ab
