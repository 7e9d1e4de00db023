/- Facts of the program: its types, fields, functions; what lives at the loops of its functions. -/
import Derived.Test.YtchkgfmmfdineaaGreatAbData
import Derived.Test.YtchkgfmmfdineaaGreatProg
namespace Go.Ab
open Go.Proofs
set_option maxRecDepth 100000

def keepsOf : Nat → Nat → Option (List Nat)
  | 3, 7 => some [0, 3, 5, 6, 9, 10, 11, 32, 33]
  | 5, 3 => some [0, 2, 4, 7, 12, 13]
  | 5, 8 => some [2, 4, 7, 28, 29]
  | 5, 13 => some [2, 4, 7, 43, 44]
  | 6, 3 => some [1, 3, 4]
  | 8, 6 => some [0, 6, 10, 11, 34, 35, 36]
  | 9, 4 => some [0, 1, 5]
  | 11, 3 => some [0, 3, 4]
  | 11, 7 => some [0, 3, 4, 5]
  | 11, 11 => some [0, 3, 4, 6]
  | 14, 2 => some [0, 1, 7, 8]
  | _, _ => none

noncomputable def CC : Cfg := { P := Tryz.prog, byRef := fun _ => false, thaw := fun f => Nat.beq f 16 || Nat.beq f 73, keep := keepsOf, prim := fun _ _ => none }
theorem CC_P : CC.P = Tryz.prog := rfl
theorem CC_byRef (f : FuncId) : CC.byRef f = false := rfl
theorem CC_prim (f : FuncId) (x : List AV) : CC.prim f x = none := rfl
theorem und_2 : und Tryz.prog 2 = some (.int .i64) := by kernel_rfl
theorem size_2 : sizeOf? Tryz.prog 2 = some 1 := by kernel_rfl
theorem agg_2 : agg? Tryz.prog 2 = some false := by kernel_rfl
theorem zero_2 : zeroCells Tryz.prog 2 = some [.t (.int .i64 (0))] := by kernel_rfl
theorem zel_2 : zeroElem Tryz.prog 2 = some [.t (.int .i64 (0))] := by kernel_rfl
theorem small_2 (n : Nat) : small Tryz.prog 2 n = (true && decide (n < 4294967296) && true) := by kernel_rfl
theorem und_3 : und Tryz.prog 3 = some (.int .i64) := by kernel_rfl
theorem size_3 : sizeOf? Tryz.prog 3 = some 1 := by kernel_rfl
theorem agg_3 : agg? Tryz.prog 3 = some false := by kernel_rfl
theorem zero_3 : zeroCells Tryz.prog 3 = some [.t (.int .i64 (0))] := by kernel_rfl
theorem zel_3 : zeroElem Tryz.prog 3 = some [.t (.int .i64 (0))] := by kernel_rfl
theorem small_3 (n : Nat) : small Tryz.prog 3 n = (true && decide (n < 4294967296) && true) := by kernel_rfl
theorem und_4 : und Tryz.prog 4 = some .bool := by kernel_rfl
theorem size_4 : sizeOf? Tryz.prog 4 = some 1 := by kernel_rfl
theorem agg_4 : agg? Tryz.prog 4 = some false := by kernel_rfl
theorem zero_4 : zeroCells Tryz.prog 4 = some [.t (.bool false)] := by kernel_rfl
theorem zel_4 : zeroElem Tryz.prog 4 = some [.t (.bool false)] := by kernel_rfl
theorem small_4 (n : Nat) : small Tryz.prog 4 n = (true && decide (n < 4294967296) && true) := by kernel_rfl
theorem noInt_4 : noInt Tryz.prog 4 = true := by kernel_rfl
theorem und_5 : und Tryz.prog 5 = some (.int .u8) := by kernel_rfl
theorem size_5 : sizeOf? Tryz.prog 5 = some 1 := by kernel_rfl
theorem agg_5 : agg? Tryz.prog 5 = some false := by kernel_rfl
theorem zero_5 : zeroCells Tryz.prog 5 = some [.t (.int .u8 (0))] := by kernel_rfl
theorem zel_5 : zeroElem Tryz.prog 5 = some [.t (.int .u8 (0))] := by kernel_rfl
theorem small_5 (n : Nat) : small Tryz.prog 5 n = (true && decide (n < 4294967296) && true) := by kernel_rfl
theorem und_9 : und Tryz.prog 9 = some .string := by kernel_rfl
theorem size_9 : sizeOf? Tryz.prog 9 = some 1 := by kernel_rfl
theorem agg_9 : agg? Tryz.prog 9 = some false := by kernel_rfl
theorem zero_9 : zeroCells Tryz.prog 9 = some [.t (.str [])] := by kernel_rfl
theorem zel_9 : zeroElem Tryz.prog 9 = some [.t (.str [])] := by kernel_rfl
theorem small_9 (n : Nat) : small Tryz.prog 9 n = (true && decide (n < 4294967296) && true) := by kernel_rfl
theorem noInt_9 : noInt Tryz.prog 9 = true := by kernel_rfl
theorem und_22 : und Tryz.prog 22 = some (.slice 39) := by kernel_rfl
theorem size_22 : sizeOf? Tryz.prog 22 = some 1 := by kernel_rfl
theorem agg_22 : agg? Tryz.prog 22 = some false := by kernel_rfl
theorem zero_22 : zeroCells Tryz.prog 22 = some [.t (.sl true true [])] := by kernel_rfl
theorem zel_22 : zeroElem Tryz.prog 22 = some [.t (.sl true true [])] := by kernel_rfl
theorem small_22 (n : Nat) : small Tryz.prog 22 n = (true && decide (n < 4294967296) && true) := by kernel_rfl
theorem noInt_22 : noInt Tryz.prog 22 = true := by kernel_rfl
theorem und_23 : und Tryz.prog 23 = some (.slice 52) := by kernel_rfl
theorem size_23 : sizeOf? Tryz.prog 23 = some 1 := by kernel_rfl
theorem agg_23 : agg? Tryz.prog 23 = some false := by kernel_rfl
theorem zero_23 : zeroCells Tryz.prog 23 = some [.t (.sl true true [])] := by kernel_rfl
theorem zel_23 : zeroElem Tryz.prog 23 = some [.t (.sl true true [])] := by kernel_rfl
theorem small_23 (n : Nat) : small Tryz.prog 23 n = (true && decide (n < 4294967296) && true) := by kernel_rfl
theorem noInt_23 : noInt Tryz.prog 23 = true := by kernel_rfl
theorem fa_25_0 (x : AV) : xFieldAddr Tryz.prog 25 x 0 = retO (addOff 0 x) := by kernel_rfl
theorem fd_25_0 (x : AV) : xField Tryz.prog 25 x 0 = match aggCells x with | some cs => retO (part Tryz.prog 3 cs 0) | none => none := by kernel_rfl
theorem fa_25_1 (x : AV) : xFieldAddr Tryz.prog 25 x 1 = retO (addOff 1 x) := by kernel_rfl
theorem fd_25_1 (x : AV) : xField Tryz.prog 25 x 1 = match aggCells x with | some cs => retO (part Tryz.prog 3 cs 1) | none => none := by kernel_rfl
theorem eqs_25 (d : Nat) (xs ys : List Tree) : equal Tryz.prog (d + 1) 25 (.agg xs) (.agg ys) = eqStep Tryz.prog (equal Tryz.prog d) 3 0 xs ys (eqStep Tryz.prog (equal Tryz.prog d) 3 1 xs ys (some true)) := by kernel_rfl
theorem grd_25 : guarded Tryz.prog 50 25 = false := by kernel_rfl
theorem bld_25 (ps : List (Nat × AV)) : build Tryz.prog 25 ps = (fillCells Tryz.prog [(0, 1), (1, 1)] [.t (.int .i64 (0)), .t (.int .i64 (0))] ps).map mkAgg := by kernel_rfl
theorem size_25 : sizeOf? Tryz.prog 25 = some 2 := by kernel_rfl
theorem agg_25 : agg? Tryz.prog 25 = some true := by kernel_rfl
theorem zero_25 : zeroCells Tryz.prog 25 = some [.t (.int .i64 (0)), .t (.int .i64 (0))] := by kernel_rfl
theorem zel_25 : zeroElem Tryz.prog 25 = some [.t (.int .i64 (0)), .t (.int .i64 (0))] := by kernel_rfl
theorem small_25 (n : Nat) : small Tryz.prog 25 n = (true && decide (n < 4294967296) && true) := by kernel_rfl
theorem noInt_25 : noInt Tryz.prog 25 = true := by kernel_rfl
theorem fa_27_0 (x : AV) : xFieldAddr Tryz.prog 27 x 0 = retO (addOff 0 x) := by kernel_rfl
theorem fd_27_0 (x : AV) : xField Tryz.prog 27 x 0 = match aggCells x with | some cs => retO (part Tryz.prog 9 cs 0) | none => none := by kernel_rfl
theorem fa_27_1 (x : AV) : xFieldAddr Tryz.prog 27 x 1 = retO (addOff 1 x) := by kernel_rfl
theorem fd_27_1 (x : AV) : xField Tryz.prog 27 x 1 = match aggCells x with | some cs => retO (part Tryz.prog 9 cs 1) | none => none := by kernel_rfl
theorem fa_27_2 (x : AV) : xFieldAddr Tryz.prog 27 x 2 = retO (addOff 2 x) := by kernel_rfl
theorem fd_27_2 (x : AV) : xField Tryz.prog 27 x 2 = match aggCells x with | some cs => retO (part Tryz.prog 23 cs 2) | none => none := by kernel_rfl
theorem fa_27_3 (x : AV) : xFieldAddr Tryz.prog 27 x 3 = retO (addOff 3 x) := by kernel_rfl
theorem fd_27_3 (x : AV) : xField Tryz.prog 27 x 3 = match aggCells x with | some cs => retO (part Tryz.prog 25 cs 3) | none => none := by kernel_rfl
theorem eqs_27 (d : Nat) (xs ys : List Tree) : equal Tryz.prog (d + 1) 27 (.agg xs) (.agg ys) = eqStep Tryz.prog (equal Tryz.prog d) 9 0 xs ys (eqStep Tryz.prog (equal Tryz.prog d) 9 1 xs ys (eqStep Tryz.prog (equal Tryz.prog d) 23 2 xs ys (eqStep Tryz.prog (equal Tryz.prog d) 25 3 xs ys (some true)))) := by kernel_rfl
theorem grd_27 : guarded Tryz.prog 50 27 = false := by kernel_rfl
theorem bld_27 (ps : List (Nat × AV)) : build Tryz.prog 27 ps = (fillCells Tryz.prog [(0, 1), (1, 1), (2, 1), (3, 2)] [.t (.str []), .t (.str []), .t (.sl true true []), .t (.int .i64 (0)), .t (.int .i64 (0))] ps).map mkAgg := by kernel_rfl
theorem size_27 : sizeOf? Tryz.prog 27 = some 5 := by kernel_rfl
theorem agg_27 : agg? Tryz.prog 27 = some true := by kernel_rfl
theorem zero_27 : zeroCells Tryz.prog 27 = some [.t (.str []), .t (.str []), .t (.sl true true []), .t (.int .i64 (0)), .t (.int .i64 (0))] := by kernel_rfl
theorem zel_27 : zeroElem Tryz.prog 27 = some [.t (.str []), .t (.str []), .t (.sl true true []), .t (.int .i64 (0)), .t (.int .i64 (0))] := by kernel_rfl
theorem small_27 (n : Nat) : small Tryz.prog 27 n = (true && decide (n < 4294967296) && true) := by kernel_rfl
theorem noInt_27 : noInt Tryz.prog 27 = true := by kernel_rfl
theorem und_28 : und Tryz.prog 28 = some (.slice 45) := by kernel_rfl
theorem size_28 : sizeOf? Tryz.prog 28 = some 1 := by kernel_rfl
theorem agg_28 : agg? Tryz.prog 28 = some false := by kernel_rfl
theorem zero_28 : zeroCells Tryz.prog 28 = some [.t (.sl true true [])] := by kernel_rfl
theorem zel_28 : zeroElem Tryz.prog 28 = some [.t (.sl true true [])] := by kernel_rfl
theorem small_28 (n : Nat) : small Tryz.prog 28 n = (true && decide (n < 4294967296) && true) := by kernel_rfl
theorem noInt_28 : noInt Tryz.prog 28 = true := by kernel_rfl
theorem fa_30_0 (x : AV) : xFieldAddr Tryz.prog 30 x 0 = retO (addOff 0 x) := by kernel_rfl
theorem fd_30_0 (x : AV) : xField Tryz.prog 30 x 0 = match aggCells x with | some cs => retO (part Tryz.prog 3 cs 0) | none => none := by kernel_rfl
theorem fa_30_1 (x : AV) : xFieldAddr Tryz.prog 30 x 1 = retO (addOff 1 x) := by kernel_rfl
theorem fd_30_1 (x : AV) : xField Tryz.prog 30 x 1 = match aggCells x with | some cs => retO (part Tryz.prog 3 cs 1) | none => none := by kernel_rfl
theorem fa_30_2 (x : AV) : xFieldAddr Tryz.prog 30 x 2 = retO (addOff 2 x) := by kernel_rfl
theorem fd_30_2 (x : AV) : xField Tryz.prog 30 x 2 = match aggCells x with | some cs => retO (part Tryz.prog 28 cs 2) | none => none := by kernel_rfl
theorem eqs_30 (d : Nat) (xs ys : List Tree) : equal Tryz.prog (d + 1) 30 (.agg xs) (.agg ys) = eqStep Tryz.prog (equal Tryz.prog d) 3 0 xs ys (eqStep Tryz.prog (equal Tryz.prog d) 3 1 xs ys (eqStep Tryz.prog (equal Tryz.prog d) 28 2 xs ys (some true))) := by kernel_rfl
theorem grd_30 : guarded Tryz.prog 50 30 = false := by kernel_rfl
theorem bld_30 (ps : List (Nat × AV)) : build Tryz.prog 30 ps = (fillCells Tryz.prog [(0, 1), (1, 1), (2, 1)] [.t (.int .i64 (0)), .t (.int .i64 (0)), .t (.sl true true [])] ps).map mkAgg := by kernel_rfl
theorem size_30 : sizeOf? Tryz.prog 30 = some 3 := by kernel_rfl
theorem agg_30 : agg? Tryz.prog 30 = some true := by kernel_rfl
theorem zero_30 : zeroCells Tryz.prog 30 = some [.t (.int .i64 (0)), .t (.int .i64 (0)), .t (.sl true true [])] := by kernel_rfl
theorem zel_30 : zeroElem Tryz.prog 30 = some [.t (.int .i64 (0)), .t (.int .i64 (0)), .t (.sl true true [])] := by kernel_rfl
theorem small_30 (n : Nat) : small Tryz.prog 30 n = (true && decide (n < 4294967296) && true) := by kernel_rfl
theorem noInt_30 : noInt Tryz.prog 30 = true := by kernel_rfl
theorem und_31 : und Tryz.prog 31 = some (.slice 47) := by kernel_rfl
theorem size_31 : sizeOf? Tryz.prog 31 = some 1 := by kernel_rfl
theorem agg_31 : agg? Tryz.prog 31 = some false := by kernel_rfl
theorem zero_31 : zeroCells Tryz.prog 31 = some [.t (.sl true true [])] := by kernel_rfl
theorem zel_31 : zeroElem Tryz.prog 31 = some [.t (.sl true true [])] := by kernel_rfl
theorem small_31 (n : Nat) : small Tryz.prog 31 n = (true && decide (n < 4294967296) && true) := by kernel_rfl
theorem noInt_31 : noInt Tryz.prog 31 = true := by kernel_rfl
theorem und_37 : und Tryz.prog 37 = some (.slice 54) := by kernel_rfl
theorem size_37 : sizeOf? Tryz.prog 37 = some 1 := by kernel_rfl
theorem agg_37 : agg? Tryz.prog 37 = some false := by kernel_rfl
theorem zero_37 : zeroCells Tryz.prog 37 = some [.t (.sl true true [])] := by kernel_rfl
theorem zel_37 : zeroElem Tryz.prog 37 = some [.t (.sl true true [])] := by kernel_rfl
theorem small_37 (n : Nat) : small Tryz.prog 37 n = (true && decide (n < 4294967296) && true) := by kernel_rfl
theorem noInt_37 : noInt Tryz.prog 37 = true := by kernel_rfl
theorem fa_39_0 (x : AV) : xFieldAddr Tryz.prog 39 x 0 = retO (addOff 0 x) := by kernel_rfl
theorem fd_39_0 (x : AV) : xField Tryz.prog 39 x 0 = match aggCells x with | some cs => retO (part Tryz.prog 9 cs 0) | none => none := by kernel_rfl
theorem fa_39_1 (x : AV) : xFieldAddr Tryz.prog 39 x 1 = retO (addOff 1 x) := by kernel_rfl
theorem fd_39_1 (x : AV) : xField Tryz.prog 39 x 1 = match aggCells x with | some cs => retO (part Tryz.prog 37 cs 1) | none => none := by kernel_rfl
theorem eqs_39 (d : Nat) (xs ys : List Tree) : equal Tryz.prog (d + 1) 39 (.agg xs) (.agg ys) = eqStep Tryz.prog (equal Tryz.prog d) 9 0 xs ys (eqStep Tryz.prog (equal Tryz.prog d) 37 1 xs ys (some true)) := by kernel_rfl
theorem grd_39 : guarded Tryz.prog 50 39 = false := by kernel_rfl
theorem bld_39 (ps : List (Nat × AV)) : build Tryz.prog 39 ps = (fillCells Tryz.prog [(0, 1), (1, 1)] [.t (.str []), .t (.sl true true [])] ps).map mkAgg := by kernel_rfl
theorem size_39 : sizeOf? Tryz.prog 39 = some 2 := by kernel_rfl
theorem agg_39 : agg? Tryz.prog 39 = some true := by kernel_rfl
theorem zero_39 : zeroCells Tryz.prog 39 = some [.t (.str []), .t (.sl true true [])] := by kernel_rfl
theorem zel_39 : zeroElem Tryz.prog 39 = some [.t (.str []), .t (.sl true true [])] := by kernel_rfl
theorem small_39 (n : Nat) : small Tryz.prog 39 n = (true && decide (n < 4294967296) && true) := by kernel_rfl
theorem noInt_39 : noInt Tryz.prog 39 = true := by kernel_rfl
theorem fa_45_0 (x : AV) : xFieldAddr Tryz.prog 45 x 0 = retO (addOff 0 x) := by kernel_rfl
theorem fd_45_0 (x : AV) : xField Tryz.prog 45 x 0 = match aggCells x with | some cs => retO (part Tryz.prog 5 cs 0) | none => none := by kernel_rfl
theorem fa_45_1 (x : AV) : xFieldAddr Tryz.prog 45 x 1 = retO (addOff 1 x) := by kernel_rfl
theorem fd_45_1 (x : AV) : xField Tryz.prog 45 x 1 = match aggCells x with | some cs => retO (part Tryz.prog 2 cs 1) | none => none := by kernel_rfl
theorem fa_45_2 (x : AV) : xFieldAddr Tryz.prog 45 x 2 = retO (addOff 2 x) := by kernel_rfl
theorem fd_45_2 (x : AV) : xField Tryz.prog 45 x 2 = match aggCells x with | some cs => retO (part Tryz.prog 9 cs 2) | none => none := by kernel_rfl
theorem eqs_45 (d : Nat) (xs ys : List Tree) : equal Tryz.prog (d + 1) 45 (.agg xs) (.agg ys) = eqStep Tryz.prog (equal Tryz.prog d) 5 0 xs ys (eqStep Tryz.prog (equal Tryz.prog d) 2 1 xs ys (eqStep Tryz.prog (equal Tryz.prog d) 9 2 xs ys (some true))) := by kernel_rfl
theorem grd_45 : guarded Tryz.prog 50 45 = false := by kernel_rfl
theorem bld_45 (ps : List (Nat × AV)) : build Tryz.prog 45 ps = (fillCells Tryz.prog [(0, 1), (1, 1), (2, 1)] [.t (.int .u8 (0)), .t (.int .i64 (0)), .t (.str [])] ps).map mkAgg := by kernel_rfl
theorem size_45 : sizeOf? Tryz.prog 45 = some 3 := by kernel_rfl
theorem agg_45 : agg? Tryz.prog 45 = some true := by kernel_rfl
theorem zero_45 : zeroCells Tryz.prog 45 = some [.t (.int .u8 (0)), .t (.int .i64 (0)), .t (.str [])] := by kernel_rfl
theorem zel_45 : zeroElem Tryz.prog 45 = some [.t (.int .u8 (0)), .t (.int .i64 (0)), .t (.str [])] := by kernel_rfl
theorem small_45 (n : Nat) : small Tryz.prog 45 n = (true && decide (n < 4294967296) && true) := by kernel_rfl
theorem noInt_45 : noInt Tryz.prog 45 = true := by kernel_rfl
theorem fa_47_0 (x : AV) : xFieldAddr Tryz.prog 47 x 0 = retO (addOff 0 x) := by kernel_rfl
theorem fd_47_0 (x : AV) : xField Tryz.prog 47 x 0 = match aggCells x with | some cs => retO (part Tryz.prog 9 cs 0) | none => none := by kernel_rfl
theorem fa_47_1 (x : AV) : xFieldAddr Tryz.prog 47 x 1 = retO (addOff 1 x) := by kernel_rfl
theorem fd_47_1 (x : AV) : xField Tryz.prog 47 x 1 = match aggCells x with | some cs => retO (part Tryz.prog 45 cs 1) | none => none := by kernel_rfl
theorem eqs_47 (d : Nat) (xs ys : List Tree) : equal Tryz.prog (d + 1) 47 (.agg xs) (.agg ys) = eqStep Tryz.prog (equal Tryz.prog d) 9 0 xs ys (eqStep Tryz.prog (equal Tryz.prog d) 45 1 xs ys (some true)) := by kernel_rfl
theorem grd_47 : guarded Tryz.prog 50 47 = false := by kernel_rfl
theorem bld_47 (ps : List (Nat × AV)) : build Tryz.prog 47 ps = (fillCells Tryz.prog [(0, 1), (1, 3)] [.t (.str []), .t (.int .u8 (0)), .t (.int .i64 (0)), .t (.str [])] ps).map mkAgg := by kernel_rfl
theorem size_47 : sizeOf? Tryz.prog 47 = some 4 := by kernel_rfl
theorem agg_47 : agg? Tryz.prog 47 = some true := by kernel_rfl
theorem zero_47 : zeroCells Tryz.prog 47 = some [.t (.str []), .t (.int .u8 (0)), .t (.int .i64 (0)), .t (.str [])] := by kernel_rfl
theorem zel_47 : zeroElem Tryz.prog 47 = some [.t (.str []), .t (.int .u8 (0)), .t (.int .i64 (0)), .t (.str [])] := by kernel_rfl
theorem small_47 (n : Nat) : small Tryz.prog 47 n = (true && decide (n < 4294967296) && true) := by kernel_rfl
theorem noInt_47 : noInt Tryz.prog 47 = true := by kernel_rfl
theorem und_50 : und Tryz.prog 50 = some (.slice 73) := by kernel_rfl
theorem size_50 : sizeOf? Tryz.prog 50 = some 1 := by kernel_rfl
theorem agg_50 : agg? Tryz.prog 50 = some false := by kernel_rfl
theorem zero_50 : zeroCells Tryz.prog 50 = some [.t (.sl true true [])] := by kernel_rfl
theorem zel_50 : zeroElem Tryz.prog 50 = some [.t (.sl true true [])] := by kernel_rfl
theorem small_50 (n : Nat) : small Tryz.prog 50 n = (true && decide (n < 4294967296) && true) := by kernel_rfl
theorem noInt_50 : noInt Tryz.prog 50 = true := by kernel_rfl
theorem fa_52_0 (x : AV) : xFieldAddr Tryz.prog 52 x 0 = retO (addOff 0 x) := by kernel_rfl
theorem fd_52_0 (x : AV) : xField Tryz.prog 52 x 0 = match aggCells x with | some cs => retO (part Tryz.prog 9 cs 0) | none => none := by kernel_rfl
theorem fa_52_1 (x : AV) : xFieldAddr Tryz.prog 52 x 1 = retO (addOff 1 x) := by kernel_rfl
theorem fd_52_1 (x : AV) : xField Tryz.prog 52 x 1 = match aggCells x with | some cs => retO (part Tryz.prog 50 cs 1) | none => none := by kernel_rfl
theorem fa_52_2 (x : AV) : xFieldAddr Tryz.prog 52 x 2 = retO (addOff 2 x) := by kernel_rfl
theorem fd_52_2 (x : AV) : xField Tryz.prog 52 x 2 = match aggCells x with | some cs => retO (part Tryz.prog 25 cs 2) | none => none := by kernel_rfl
theorem eqs_52 (d : Nat) (xs ys : List Tree) : equal Tryz.prog (d + 1) 52 (.agg xs) (.agg ys) = eqStep Tryz.prog (equal Tryz.prog d) 9 0 xs ys (eqStep Tryz.prog (equal Tryz.prog d) 50 1 xs ys (eqStep Tryz.prog (equal Tryz.prog d) 25 2 xs ys (some true))) := by kernel_rfl
theorem grd_52 : guarded Tryz.prog 50 52 = false := by kernel_rfl
theorem bld_52 (ps : List (Nat × AV)) : build Tryz.prog 52 ps = (fillCells Tryz.prog [(0, 1), (1, 1), (2, 2)] [.t (.str []), .t (.sl true true []), .t (.int .i64 (0)), .t (.int .i64 (0))] ps).map mkAgg := by kernel_rfl
theorem size_52 : sizeOf? Tryz.prog 52 = some 4 := by kernel_rfl
theorem agg_52 : agg? Tryz.prog 52 = some true := by kernel_rfl
theorem zero_52 : zeroCells Tryz.prog 52 = some [.t (.str []), .t (.sl true true []), .t (.int .i64 (0)), .t (.int .i64 (0))] := by kernel_rfl
theorem zel_52 : zeroElem Tryz.prog 52 = some [.t (.str []), .t (.sl true true []), .t (.int .i64 (0)), .t (.int .i64 (0))] := by kernel_rfl
theorem small_52 (n : Nat) : small Tryz.prog 52 n = (true && decide (n < 4294967296) && true) := by kernel_rfl
theorem noInt_52 : noInt Tryz.prog 52 = true := by kernel_rfl
theorem fa_54_0 (x : AV) : xFieldAddr Tryz.prog 54 x 0 = retO (addOff 0 x) := by kernel_rfl
theorem fd_54_0 (x : AV) : xField Tryz.prog 54 x 0 = match aggCells x with | some cs => retO (part Tryz.prog 9 cs 0) | none => none := by kernel_rfl
theorem fa_54_1 (x : AV) : xFieldAddr Tryz.prog 54 x 1 = retO (addOff 1 x) := by kernel_rfl
theorem fd_54_1 (x : AV) : xField Tryz.prog 54 x 1 = match aggCells x with | some cs => retO (part Tryz.prog 5 cs 1) | none => none := by kernel_rfl
theorem eqs_54 (d : Nat) (xs ys : List Tree) : equal Tryz.prog (d + 1) 54 (.agg xs) (.agg ys) = eqStep Tryz.prog (equal Tryz.prog d) 9 0 xs ys (eqStep Tryz.prog (equal Tryz.prog d) 5 1 xs ys (some true)) := by kernel_rfl
theorem grd_54 : guarded Tryz.prog 50 54 = false := by kernel_rfl
theorem bld_54 (ps : List (Nat × AV)) : build Tryz.prog 54 ps = (fillCells Tryz.prog [(0, 1), (1, 1)] [.t (.str []), .t (.int .u8 (0))] ps).map mkAgg := by kernel_rfl
theorem size_54 : sizeOf? Tryz.prog 54 = some 2 := by kernel_rfl
theorem agg_54 : agg? Tryz.prog 54 = some true := by kernel_rfl
theorem zero_54 : zeroCells Tryz.prog 54 = some [.t (.str []), .t (.int .u8 (0))] := by kernel_rfl
theorem zel_54 : zeroElem Tryz.prog 54 = some [.t (.str []), .t (.int .u8 (0))] := by kernel_rfl
theorem small_54 (n : Nat) : small Tryz.prog 54 n = (true && decide (n < 4294967296) && true) := by kernel_rfl
theorem noInt_54 : noInt Tryz.prog 54 = true := by kernel_rfl
theorem size_58 : sizeOf? Tryz.prog 58 = some 1 := by kernel_rfl
theorem agg_58 : agg? Tryz.prog 58 = some false := by kernel_rfl
theorem zero_58 : zeroCells Tryz.prog 58 = some [.t (.nilfn)] := by kernel_rfl
theorem zel_58 : zeroElem Tryz.prog 58 = some [.t (.nilfn)] := by kernel_rfl
theorem small_58 (n : Nat) : small Tryz.prog 58 n = (true && decide (n < 4294967296) && true) := by kernel_rfl
theorem noInt_58 : noInt Tryz.prog 58 = true := by kernel_rfl
theorem und_70 : und Tryz.prog 70 = some (.slice 75) := by kernel_rfl
theorem size_70 : sizeOf? Tryz.prog 70 = some 1 := by kernel_rfl
theorem agg_70 : agg? Tryz.prog 70 = some false := by kernel_rfl
theorem zero_70 : zeroCells Tryz.prog 70 = some [.t (.sl true true [])] := by kernel_rfl
theorem zel_70 : zeroElem Tryz.prog 70 = some [.t (.sl true true [])] := by kernel_rfl
theorem small_70 (n : Nat) : small Tryz.prog 70 n = (true && decide (n < 4294967296) && true) := by kernel_rfl
theorem noInt_70 : noInt Tryz.prog 70 = true := by kernel_rfl
theorem und_71 : und Tryz.prog 71 = some (.slice 3) := by kernel_rfl
theorem size_71 : sizeOf? Tryz.prog 71 = some 1 := by kernel_rfl
theorem agg_71 : agg? Tryz.prog 71 = some false := by kernel_rfl
theorem zero_71 : zeroCells Tryz.prog 71 = some [.t (.sl true true [])] := by kernel_rfl
theorem zel_71 : zeroElem Tryz.prog 71 = some [.t (.sl true true [])] := by kernel_rfl
theorem small_71 (n : Nat) : small Tryz.prog 71 n = (true && decide (n < 4294967296) && true) := by kernel_rfl
theorem noInt_71 : noInt Tryz.prog 71 = true := by kernel_rfl
theorem fa_73_0 (x : AV) : xFieldAddr Tryz.prog 73 x 0 = retO (addOff 0 x) := by kernel_rfl
theorem fd_73_0 (x : AV) : xField Tryz.prog 73 x 0 = match aggCells x with | some cs => retO (part Tryz.prog 5 cs 0) | none => none := by kernel_rfl
theorem fa_73_1 (x : AV) : xFieldAddr Tryz.prog 73 x 1 = retO (addOff 1 x) := by kernel_rfl
theorem fd_73_1 (x : AV) : xField Tryz.prog 73 x 1 = match aggCells x with | some cs => retO (part Tryz.prog 70 cs 1) | none => none := by kernel_rfl
theorem fa_73_2 (x : AV) : xFieldAddr Tryz.prog 73 x 2 = retO (addOff 2 x) := by kernel_rfl
theorem fd_73_2 (x : AV) : xField Tryz.prog 73 x 2 = match aggCells x with | some cs => retO (part Tryz.prog 70 cs 2) | none => none := by kernel_rfl
theorem fa_73_3 (x : AV) : xFieldAddr Tryz.prog 73 x 3 = retO (addOff 3 x) := by kernel_rfl
theorem fd_73_3 (x : AV) : xField Tryz.prog 73 x 3 = match aggCells x with | some cs => retO (part Tryz.prog 4 cs 3) | none => none := by kernel_rfl
theorem fa_73_4 (x : AV) : xFieldAddr Tryz.prog 73 x 4 = retO (addOff 4 x) := by kernel_rfl
theorem fd_73_4 (x : AV) : xField Tryz.prog 73 x 4 = match aggCells x with | some cs => retO (part Tryz.prog 4 cs 4) | none => none := by kernel_rfl
theorem fa_73_5 (x : AV) : xFieldAddr Tryz.prog 73 x 5 = retO (addOff 5 x) := by kernel_rfl
theorem fd_73_5 (x : AV) : xField Tryz.prog 73 x 5 = match aggCells x with | some cs => retO (part Tryz.prog 71 cs 5) | none => none := by kernel_rfl
theorem fa_73_6 (x : AV) : xFieldAddr Tryz.prog 73 x 6 = retO (addOff 6 x) := by kernel_rfl
theorem fd_73_6 (x : AV) : xField Tryz.prog 73 x 6 = match aggCells x with | some cs => retO (part Tryz.prog 25 cs 6) | none => none := by kernel_rfl
theorem eqs_73 (d : Nat) (xs ys : List Tree) : equal Tryz.prog (d + 1) 73 (.agg xs) (.agg ys) = eqStep Tryz.prog (equal Tryz.prog d) 5 0 xs ys (eqStep Tryz.prog (equal Tryz.prog d) 70 1 xs ys (eqStep Tryz.prog (equal Tryz.prog d) 70 2 xs ys (eqStep Tryz.prog (equal Tryz.prog d) 4 3 xs ys (eqStep Tryz.prog (equal Tryz.prog d) 4 4 xs ys (eqStep Tryz.prog (equal Tryz.prog d) 71 5 xs ys (eqStep Tryz.prog (equal Tryz.prog d) 25 6 xs ys (some true))))))) := by kernel_rfl
theorem grd_73 : guarded Tryz.prog 50 73 = false := by kernel_rfl
theorem bld_73 (ps : List (Nat × AV)) : build Tryz.prog 73 ps = (fillCells Tryz.prog [(0, 1), (1, 1), (2, 1), (3, 1), (4, 1), (5, 1), (6, 2)] [.t (.int .u8 (0)), .t (.sl true true []), .t (.sl true true []), .t (.bool false), .t (.bool false), .t (.sl true true []), .t (.int .i64 (0)), .t (.int .i64 (0))] ps).map mkAgg := by kernel_rfl
theorem size_73 : sizeOf? Tryz.prog 73 = some 8 := by kernel_rfl
theorem agg_73 : agg? Tryz.prog 73 = some true := by kernel_rfl
theorem zero_73 : zeroCells Tryz.prog 73 = some [.t (.int .u8 (0)), .t (.sl true true []), .t (.sl true true []), .t (.bool false), .t (.bool false), .t (.sl true true []), .t (.int .i64 (0)), .t (.int .i64 (0))] := by kernel_rfl
theorem zel_73 : zeroElem Tryz.prog 73 = some [.t (.int .u8 (0)), .t (.sl true true []), .t (.sl true true []), .t (.bool false), .t (.bool false), .t (.sl true true []), .t (.int .i64 (0)), .t (.int .i64 (0))] := by kernel_rfl
theorem small_73 (n : Nat) : small Tryz.prog 73 n = (true && decide (n < 4294967296) && true) := by kernel_rfl
theorem noInt_73 : noInt Tryz.prog 73 = true := by kernel_rfl
theorem fa_75_0 (x : AV) : xFieldAddr Tryz.prog 75 x 0 = retO (addOff 0 x) := by kernel_rfl
theorem fd_75_0 (x : AV) : xField Tryz.prog 75 x 0 = match aggCells x with | some cs => retO (part Tryz.prog 5 cs 0) | none => none := by kernel_rfl
theorem fa_75_1 (x : AV) : xFieldAddr Tryz.prog 75 x 1 = retO (addOff 1 x) := by kernel_rfl
theorem fd_75_1 (x : AV) : xField Tryz.prog 75 x 1 = match aggCells x with | some cs => retO (part Tryz.prog 45 cs 1) | none => none := by kernel_rfl
theorem fa_75_2 (x : AV) : xFieldAddr Tryz.prog 75 x 2 = retO (addOff 4 x) := by kernel_rfl
theorem fd_75_2 (x : AV) : xField Tryz.prog 75 x 2 = match aggCells x with | some cs => retO (part Tryz.prog 9 cs 4) | none => none := by kernel_rfl
theorem fa_75_3 (x : AV) : xFieldAddr Tryz.prog 75 x 3 = retO (addOff 5 x) := by kernel_rfl
theorem fd_75_3 (x : AV) : xField Tryz.prog 75 x 3 = match aggCells x with | some cs => retO (part Tryz.prog 71 cs 5) | none => none := by kernel_rfl
theorem fa_75_4 (x : AV) : xFieldAddr Tryz.prog 75 x 4 = retO (addOff 6 x) := by kernel_rfl
theorem fd_75_4 (x : AV) : xField Tryz.prog 75 x 4 = match aggCells x with | some cs => retO (part Tryz.prog 25 cs 6) | none => none := by kernel_rfl
theorem eqs_75 (d : Nat) (xs ys : List Tree) : equal Tryz.prog (d + 1) 75 (.agg xs) (.agg ys) = eqStep Tryz.prog (equal Tryz.prog d) 5 0 xs ys (eqStep Tryz.prog (equal Tryz.prog d) 45 1 xs ys (eqStep Tryz.prog (equal Tryz.prog d) 9 4 xs ys (eqStep Tryz.prog (equal Tryz.prog d) 71 5 xs ys (eqStep Tryz.prog (equal Tryz.prog d) 25 6 xs ys (some true))))) := by kernel_rfl
theorem grd_75 : guarded Tryz.prog 50 75 = false := by kernel_rfl
theorem bld_75 (ps : List (Nat × AV)) : build Tryz.prog 75 ps = (fillCells Tryz.prog [(0, 1), (1, 3), (4, 1), (5, 1), (6, 2)] [.t (.int .u8 (0)), .t (.int .u8 (0)), .t (.int .i64 (0)), .t (.str []), .t (.str []), .t (.sl true true []), .t (.int .i64 (0)), .t (.int .i64 (0))] ps).map mkAgg := by kernel_rfl
theorem size_75 : sizeOf? Tryz.prog 75 = some 8 := by kernel_rfl
theorem agg_75 : agg? Tryz.prog 75 = some true := by kernel_rfl
theorem zero_75 : zeroCells Tryz.prog 75 = some [.t (.int .u8 (0)), .t (.int .u8 (0)), .t (.int .i64 (0)), .t (.str []), .t (.str []), .t (.sl true true []), .t (.int .i64 (0)), .t (.int .i64 (0))] := by kernel_rfl
theorem zel_75 : zeroElem Tryz.prog 75 = some [.t (.int .u8 (0)), .t (.int .u8 (0)), .t (.int .i64 (0)), .t (.str []), .t (.str []), .t (.sl true true []), .t (.int .i64 (0)), .t (.int .i64 (0))] := by kernel_rfl
theorem small_75 (n : Nat) : small Tryz.prog 75 n = (true && decide (n < 4294967296) && true) := by kernel_rfl
theorem noInt_75 : noInt Tryz.prog 75 = true := by kernel_rfl
theorem und_76 : und Tryz.prog 76 = some (.slice 25) := by kernel_rfl
theorem size_76 : sizeOf? Tryz.prog 76 = some 1 := by kernel_rfl
theorem agg_76 : agg? Tryz.prog 76 = some false := by kernel_rfl
theorem zero_76 : zeroCells Tryz.prog 76 = some [.t (.sl true true [])] := by kernel_rfl
theorem zel_76 : zeroElem Tryz.prog 76 = some [.t (.sl true true [])] := by kernel_rfl
theorem small_76 (n : Nat) : small Tryz.prog 76 n = (true && decide (n < 4294967296) && true) := by kernel_rfl
theorem noInt_76 : noInt Tryz.prog 76 = true := by kernel_rfl
theorem und_77 : und Tryz.prog 77 = some (.slice 86) := by kernel_rfl
theorem size_77 : sizeOf? Tryz.prog 77 = some 1 := by kernel_rfl
theorem agg_77 : agg? Tryz.prog 77 = some false := by kernel_rfl
theorem zero_77 : zeroCells Tryz.prog 77 = some [.t (.sl true true [])] := by kernel_rfl
theorem zel_77 : zeroElem Tryz.prog 77 = some [.t (.sl true true [])] := by kernel_rfl
theorem small_77 (n : Nat) : small Tryz.prog 77 n = (true && decide (n < 4294967296) && true) := by kernel_rfl
theorem noInt_77 : noInt Tryz.prog 77 = true := by kernel_rfl
theorem fa_79_0 (x : AV) : xFieldAddr Tryz.prog 79 x 0 = retO (addOff 0 x) := by kernel_rfl
theorem fd_79_0 (x : AV) : xField Tryz.prog 79 x 0 = match aggCells x with | some cs => retO (part Tryz.prog 22 cs 0) | none => none := by kernel_rfl
theorem fa_79_1 (x : AV) : xFieldAddr Tryz.prog 79 x 1 = retO (addOff 1 x) := by kernel_rfl
theorem fd_79_1 (x : AV) : xField Tryz.prog 79 x 1 = match aggCells x with | some cs => retO (part Tryz.prog 76 cs 1) | none => none := by kernel_rfl
theorem fa_79_2 (x : AV) : xFieldAddr Tryz.prog 79 x 2 = retO (addOff 2 x) := by kernel_rfl
theorem fd_79_2 (x : AV) : xField Tryz.prog 79 x 2 = match aggCells x with | some cs => retO (part Tryz.prog 77 cs 2) | none => none := by kernel_rfl
theorem eqs_79 (d : Nat) (xs ys : List Tree) : equal Tryz.prog (d + 1) 79 (.agg xs) (.agg ys) = eqStep Tryz.prog (equal Tryz.prog d) 22 0 xs ys (eqStep Tryz.prog (equal Tryz.prog d) 76 1 xs ys (eqStep Tryz.prog (equal Tryz.prog d) 77 2 xs ys (some true))) := by kernel_rfl
theorem grd_79 : guarded Tryz.prog 50 79 = false := by kernel_rfl
theorem bld_79 (ps : List (Nat × AV)) : build Tryz.prog 79 ps = (fillCells Tryz.prog [(0, 1), (1, 1), (2, 1)] [.t (.sl true true []), .t (.sl true true []), .t (.sl true true [])] ps).map mkAgg := by kernel_rfl
theorem size_79 : sizeOf? Tryz.prog 79 = some 3 := by kernel_rfl
theorem agg_79 : agg? Tryz.prog 79 = some true := by kernel_rfl
theorem zero_79 : zeroCells Tryz.prog 79 = some [.t (.sl true true []), .t (.sl true true []), .t (.sl true true [])] := by kernel_rfl
theorem zel_79 : zeroElem Tryz.prog 79 = some [.t (.sl true true []), .t (.sl true true []), .t (.sl true true [])] := by kernel_rfl
theorem small_79 (n : Nat) : small Tryz.prog 79 n = (true && decide (n < 4294967296) && true) := by kernel_rfl
theorem noInt_79 : noInt Tryz.prog 79 = true := by kernel_rfl
theorem und_80 : und Tryz.prog 80 = some (.int .i64) := by kernel_rfl
theorem size_80 : sizeOf? Tryz.prog 80 = some 1 := by kernel_rfl
theorem agg_80 : agg? Tryz.prog 80 = some false := by kernel_rfl
theorem zero_80 : zeroCells Tryz.prog 80 = some [.t (.int .i64 (0))] := by kernel_rfl
theorem zel_80 : zeroElem Tryz.prog 80 = some [.t (.int .i64 (0))] := by kernel_rfl
theorem small_80 (n : Nat) : small Tryz.prog 80 n = (true && decide (n < 4294967296) && true) := by kernel_rfl
theorem und_83 : und Tryz.prog 83 = some (.slice 89) := by kernel_rfl
theorem size_83 : sizeOf? Tryz.prog 83 = some 1 := by kernel_rfl
theorem agg_83 : agg? Tryz.prog 83 = some false := by kernel_rfl
theorem zero_83 : zeroCells Tryz.prog 83 = some [.t (.sl true true [])] := by kernel_rfl
theorem zel_83 : zeroElem Tryz.prog 83 = some [.t (.sl true true [])] := by kernel_rfl
theorem small_83 (n : Nat) : small Tryz.prog 83 n = (true && decide (n < 4294967296) && true) := by kernel_rfl
theorem noInt_83 : noInt Tryz.prog 83 = true := by kernel_rfl
theorem und_84 : und Tryz.prog 84 = some (.slice 129) := by kernel_rfl
theorem size_84 : sizeOf? Tryz.prog 84 = some 1 := by kernel_rfl
theorem agg_84 : agg? Tryz.prog 84 = some false := by kernel_rfl
theorem zero_84 : zeroCells Tryz.prog 84 = some [.t (.sl true true [])] := by kernel_rfl
theorem zel_84 : zeroElem Tryz.prog 84 = some [.t (.sl true true [])] := by kernel_rfl
theorem small_84 (n : Nat) : small Tryz.prog 84 n = (true && decide (n < 4294967296) && true) := by kernel_rfl
theorem noInt_84 : noInt Tryz.prog 84 = true := by kernel_rfl
theorem fa_86_0 (x : AV) : xFieldAddr Tryz.prog 86 x 0 = retO (addOff 0 x) := by kernel_rfl
theorem fd_86_0 (x : AV) : xField Tryz.prog 86 x 0 = match aggCells x with | some cs => retO (part Tryz.prog 9 cs 0) | none => none := by kernel_rfl
theorem fa_86_1 (x : AV) : xFieldAddr Tryz.prog 86 x 1 = retO (addOff 1 x) := by kernel_rfl
theorem fd_86_1 (x : AV) : xField Tryz.prog 86 x 1 = match aggCells x with | some cs => retO (part Tryz.prog 3 cs 1) | none => none := by kernel_rfl
theorem fa_86_2 (x : AV) : xFieldAddr Tryz.prog 86 x 2 = retO (addOff 2 x) := by kernel_rfl
theorem fd_86_2 (x : AV) : xField Tryz.prog 86 x 2 = match aggCells x with | some cs => retO (part Tryz.prog 83 cs 2) | none => none := by kernel_rfl
theorem fa_86_3 (x : AV) : xFieldAddr Tryz.prog 86 x 3 = retO (addOff 3 x) := by kernel_rfl
theorem fd_86_3 (x : AV) : xField Tryz.prog 86 x 3 = match aggCells x with | some cs => retO (part Tryz.prog 84 cs 3) | none => none := by kernel_rfl
theorem fa_86_4 (x : AV) : xFieldAddr Tryz.prog 86 x 4 = retO (addOff 4 x) := by kernel_rfl
theorem fd_86_4 (x : AV) : xField Tryz.prog 86 x 4 = match aggCells x with | some cs => retO (part Tryz.prog 25 cs 4) | none => none := by kernel_rfl
theorem eqs_86 (d : Nat) (xs ys : List Tree) : equal Tryz.prog (d + 1) 86 (.agg xs) (.agg ys) = eqStep Tryz.prog (equal Tryz.prog d) 9 0 xs ys (eqStep Tryz.prog (equal Tryz.prog d) 3 1 xs ys (eqStep Tryz.prog (equal Tryz.prog d) 83 2 xs ys (eqStep Tryz.prog (equal Tryz.prog d) 84 3 xs ys (eqStep Tryz.prog (equal Tryz.prog d) 25 4 xs ys (some true))))) := by kernel_rfl
theorem grd_86 : guarded Tryz.prog 50 86 = false := by kernel_rfl
theorem bld_86 (ps : List (Nat × AV)) : build Tryz.prog 86 ps = (fillCells Tryz.prog [(0, 1), (1, 1), (2, 1), (3, 1), (4, 2)] [.t (.str []), .t (.int .i64 (0)), .t (.sl true true []), .t (.sl true true []), .t (.int .i64 (0)), .t (.int .i64 (0))] ps).map mkAgg := by kernel_rfl
theorem size_86 : sizeOf? Tryz.prog 86 = some 6 := by kernel_rfl
theorem agg_86 : agg? Tryz.prog 86 = some true := by kernel_rfl
theorem zero_86 : zeroCells Tryz.prog 86 = some [.t (.str []), .t (.int .i64 (0)), .t (.sl true true []), .t (.sl true true []), .t (.int .i64 (0)), .t (.int .i64 (0))] := by kernel_rfl
theorem zel_86 : zeroElem Tryz.prog 86 = some [.t (.str []), .t (.int .i64 (0)), .t (.sl true true []), .t (.sl true true []), .t (.int .i64 (0)), .t (.int .i64 (0))] := by kernel_rfl
theorem small_86 (n : Nat) : small Tryz.prog 86 n = (true && decide (n < 4294967296) && true) := by kernel_rfl
theorem noInt_86 : noInt Tryz.prog 86 = true := by kernel_rfl
theorem und_87 : und Tryz.prog 87 = some (.slice 27) := by kernel_rfl
theorem size_87 : sizeOf? Tryz.prog 87 = some 1 := by kernel_rfl
theorem agg_87 : agg? Tryz.prog 87 = some false := by kernel_rfl
theorem zero_87 : zeroCells Tryz.prog 87 = some [.t (.sl true true [])] := by kernel_rfl
theorem zel_87 : zeroElem Tryz.prog 87 = some [.t (.sl true true [])] := by kernel_rfl
theorem small_87 (n : Nat) : small Tryz.prog 87 n = (true && decide (n < 4294967296) && true) := by kernel_rfl
theorem noInt_87 : noInt Tryz.prog 87 = true := by kernel_rfl
theorem fa_89_0 (x : AV) : xFieldAddr Tryz.prog 89 x 0 = retO (addOff 0 x) := by kernel_rfl
theorem fd_89_0 (x : AV) : xField Tryz.prog 89 x 0 = match aggCells x with | some cs => retO (part Tryz.prog 5 cs 0) | none => none := by kernel_rfl
theorem fa_89_1 (x : AV) : xFieldAddr Tryz.prog 89 x 1 = retO (addOff 1 x) := by kernel_rfl
theorem fd_89_1 (x : AV) : xField Tryz.prog 89 x 1 = match aggCells x with | some cs => retO (part Tryz.prog 87 cs 1) | none => none := by kernel_rfl
theorem fa_89_2 (x : AV) : xFieldAddr Tryz.prog 89 x 2 = retO (addOff 2 x) := by kernel_rfl
theorem fd_89_2 (x : AV) : xField Tryz.prog 89 x 2 = match aggCells x with | some cs => retO (part Tryz.prog 70 cs 2) | none => none := by kernel_rfl
theorem fa_89_3 (x : AV) : xFieldAddr Tryz.prog 89 x 3 = retO (addOff 3 x) := by kernel_rfl
theorem fd_89_3 (x : AV) : xField Tryz.prog 89 x 3 = match aggCells x with | some cs => retO (part Tryz.prog 25 cs 3) | none => none := by kernel_rfl
theorem eqs_89 (d : Nat) (xs ys : List Tree) : equal Tryz.prog (d + 1) 89 (.agg xs) (.agg ys) = eqStep Tryz.prog (equal Tryz.prog d) 5 0 xs ys (eqStep Tryz.prog (equal Tryz.prog d) 87 1 xs ys (eqStep Tryz.prog (equal Tryz.prog d) 70 2 xs ys (eqStep Tryz.prog (equal Tryz.prog d) 25 3 xs ys (some true)))) := by kernel_rfl
theorem grd_89 : guarded Tryz.prog 50 89 = false := by kernel_rfl
theorem bld_89 (ps : List (Nat × AV)) : build Tryz.prog 89 ps = (fillCells Tryz.prog [(0, 1), (1, 1), (2, 1), (3, 2)] [.t (.int .u8 (0)), .t (.sl true true []), .t (.sl true true []), .t (.int .i64 (0)), .t (.int .i64 (0))] ps).map mkAgg := by kernel_rfl
theorem size_89 : sizeOf? Tryz.prog 89 = some 5 := by kernel_rfl
theorem agg_89 : agg? Tryz.prog 89 = some true := by kernel_rfl
theorem zero_89 : zeroCells Tryz.prog 89 = some [.t (.int .u8 (0)), .t (.sl true true []), .t (.sl true true []), .t (.int .i64 (0)), .t (.int .i64 (0))] := by kernel_rfl
theorem zel_89 : zeroElem Tryz.prog 89 = some [.t (.int .u8 (0)), .t (.sl true true []), .t (.sl true true []), .t (.int .i64 (0)), .t (.int .i64 (0))] := by kernel_rfl
theorem small_89 (n : Nat) : small Tryz.prog 89 n = (true && decide (n < 4294967296) && true) := by kernel_rfl
theorem noInt_89 : noInt Tryz.prog 89 = true := by kernel_rfl
theorem und_127 : und Tryz.prog 127 = some (.slice 180) := by kernel_rfl
theorem size_127 : sizeOf? Tryz.prog 127 = some 1 := by kernel_rfl
theorem agg_127 : agg? Tryz.prog 127 = some false := by kernel_rfl
theorem zero_127 : zeroCells Tryz.prog 127 = some [.t (.sl true true [])] := by kernel_rfl
theorem zel_127 : zeroElem Tryz.prog 127 = some [.t (.sl true true [])] := by kernel_rfl
theorem small_127 (n : Nat) : small Tryz.prog 127 n = (true && decide (n < 4294967296) && true) := by kernel_rfl
theorem noInt_127 : noInt Tryz.prog 127 = true := by kernel_rfl
theorem fa_129_0 (x : AV) : xFieldAddr Tryz.prog 129 x 0 = retO (addOff 0 x) := by kernel_rfl
theorem fd_129_0 (x : AV) : xField Tryz.prog 129 x 0 = match aggCells x with | some cs => retO (part Tryz.prog 5 cs 0) | none => none := by kernel_rfl
theorem fa_129_1 (x : AV) : xFieldAddr Tryz.prog 129 x 1 = retO (addOff 1 x) := by kernel_rfl
theorem fd_129_1 (x : AV) : xField Tryz.prog 129 x 1 = match aggCells x with | some cs => retO (part Tryz.prog 9 cs 1) | none => none := by kernel_rfl
theorem fa_129_2 (x : AV) : xFieldAddr Tryz.prog 129 x 2 = retO (addOff 2 x) := by kernel_rfl
theorem fd_129_2 (x : AV) : xField Tryz.prog 129 x 2 = match aggCells x with | some cs => retO (part Tryz.prog 127 cs 2) | none => none := by kernel_rfl
theorem fa_129_3 (x : AV) : xFieldAddr Tryz.prog 129 x 3 = retO (addOff 3 x) := by kernel_rfl
theorem fd_129_3 (x : AV) : xField Tryz.prog 129 x 3 = match aggCells x with | some cs => retO (part Tryz.prog 25 cs 3) | none => none := by kernel_rfl
theorem eqs_129 (d : Nat) (xs ys : List Tree) : equal Tryz.prog (d + 1) 129 (.agg xs) (.agg ys) = eqStep Tryz.prog (equal Tryz.prog d) 5 0 xs ys (eqStep Tryz.prog (equal Tryz.prog d) 9 1 xs ys (eqStep Tryz.prog (equal Tryz.prog d) 127 2 xs ys (eqStep Tryz.prog (equal Tryz.prog d) 25 3 xs ys (some true)))) := by kernel_rfl
theorem grd_129 : guarded Tryz.prog 50 129 = false := by kernel_rfl
theorem bld_129 (ps : List (Nat × AV)) : build Tryz.prog 129 ps = (fillCells Tryz.prog [(0, 1), (1, 1), (2, 1), (3, 2)] [.t (.int .u8 (0)), .t (.str []), .t (.sl true true []), .t (.int .i64 (0)), .t (.int .i64 (0))] ps).map mkAgg := by kernel_rfl
theorem size_129 : sizeOf? Tryz.prog 129 = some 5 := by kernel_rfl
theorem agg_129 : agg? Tryz.prog 129 = some true := by kernel_rfl
theorem zero_129 : zeroCells Tryz.prog 129 = some [.t (.int .u8 (0)), .t (.str []), .t (.sl true true []), .t (.int .i64 (0)), .t (.int .i64 (0))] := by kernel_rfl
theorem zel_129 : zeroElem Tryz.prog 129 = some [.t (.int .u8 (0)), .t (.str []), .t (.sl true true []), .t (.int .i64 (0)), .t (.int .i64 (0))] := by kernel_rfl
theorem small_129 (n : Nat) : small Tryz.prog 129 n = (true && decide (n < 4294967296) && true) := by kernel_rfl
theorem noInt_129 : noInt Tryz.prog 129 = true := by kernel_rfl
theorem fa_180_0 (x : AV) : xFieldAddr Tryz.prog 180 x 0 = retO (addOff 0 x) := by kernel_rfl
theorem fd_180_0 (x : AV) : xField Tryz.prog 180 x 0 = match aggCells x with | some cs => retO (part Tryz.prog 9 cs 0) | none => none := by kernel_rfl
theorem fa_180_1 (x : AV) : xFieldAddr Tryz.prog 180 x 1 = retO (addOff 1 x) := by kernel_rfl
theorem fd_180_1 (x : AV) : xField Tryz.prog 180 x 1 = match aggCells x with | some cs => retO (part Tryz.prog 70 cs 1) | none => none := by kernel_rfl
theorem fa_180_2 (x : AV) : xFieldAddr Tryz.prog 180 x 2 = retO (addOff 2 x) := by kernel_rfl
theorem fd_180_2 (x : AV) : xField Tryz.prog 180 x 2 = match aggCells x with | some cs => retO (part Tryz.prog 25 cs 2) | none => none := by kernel_rfl
theorem eqs_180 (d : Nat) (xs ys : List Tree) : equal Tryz.prog (d + 1) 180 (.agg xs) (.agg ys) = eqStep Tryz.prog (equal Tryz.prog d) 9 0 xs ys (eqStep Tryz.prog (equal Tryz.prog d) 70 1 xs ys (eqStep Tryz.prog (equal Tryz.prog d) 25 2 xs ys (some true))) := by kernel_rfl
theorem grd_180 : guarded Tryz.prog 50 180 = false := by kernel_rfl
theorem bld_180 (ps : List (Nat × AV)) : build Tryz.prog 180 ps = (fillCells Tryz.prog [(0, 1), (1, 1), (2, 2)] [.t (.str []), .t (.sl true true []), .t (.int .i64 (0)), .t (.int .i64 (0))] ps).map mkAgg := by kernel_rfl
theorem size_180 : sizeOf? Tryz.prog 180 = some 4 := by kernel_rfl
theorem agg_180 : agg? Tryz.prog 180 = some true := by kernel_rfl
theorem zero_180 : zeroCells Tryz.prog 180 = some [.t (.str []), .t (.sl true true []), .t (.int .i64 (0)), .t (.int .i64 (0))] := by kernel_rfl
theorem zel_180 : zeroElem Tryz.prog 180 = some [.t (.str []), .t (.sl true true []), .t (.int .i64 (0)), .t (.int .i64 (0))] := by kernel_rfl
theorem small_180 (n : Nat) : small Tryz.prog 180 n = (true && decide (n < 4294967296) && true) := by kernel_rfl
theorem noInt_180 : noInt Tryz.prog 180 = true := by kernel_rfl
theorem fun_3 : nth Tryz.prog.funcs.toList 3 = some Tryz.f3 := by rw [nth_eq]; simp [Tryz.func3]
theorem hb_3 : hasBody Tryz.prog 3 = true := by kernel_rfl
theorem fun_5 : nth Tryz.prog.funcs.toList 5 = some Tryz.f5 := by rw [nth_eq]; simp [Tryz.func5]
theorem hb_5 : hasBody Tryz.prog 5 = true := by kernel_rfl
theorem fun_6 : nth Tryz.prog.funcs.toList 6 = some Tryz.f6 := by rw [nth_eq]; simp [Tryz.func6]
theorem hb_6 : hasBody Tryz.prog 6 = true := by kernel_rfl
theorem fun_7 : nth Tryz.prog.funcs.toList 7 = some Tryz.f7 := by rw [nth_eq]; simp [Tryz.func7]
theorem hb_7 : hasBody Tryz.prog 7 = true := by kernel_rfl
theorem fun_8 : nth Tryz.prog.funcs.toList 8 = some Tryz.f8 := by rw [nth_eq]; simp [Tryz.func8]
theorem hb_8 : hasBody Tryz.prog 8 = true := by kernel_rfl
theorem fun_9 : nth Tryz.prog.funcs.toList 9 = some Tryz.f9 := by rw [nth_eq]; simp [Tryz.func9]
theorem hb_9 : hasBody Tryz.prog 9 = true := by kernel_rfl
theorem fun_11 : nth Tryz.prog.funcs.toList 11 = some Tryz.f11 := by rw [nth_eq]; simp [Tryz.func11]
theorem hb_11 : hasBody Tryz.prog 11 = true := by kernel_rfl
theorem fun_13 : nth Tryz.prog.funcs.toList 13 = some Tryz.f13 := by rw [nth_eq]; simp [Tryz.func13]
theorem hb_13 : hasBody Tryz.prog 13 = true := by kernel_rfl
theorem fun_14 : nth Tryz.prog.funcs.toList 14 = some Tryz.f14 := by rw [nth_eq]; simp [Tryz.func14]
theorem hb_14 : hasBody Tryz.prog 14 = true := by kernel_rfl
theorem fun_15 : nth Tryz.prog.funcs.toList 15 = some Tryz.f15 := by rw [nth_eq]; simp [Tryz.func15]
theorem hb_15 : hasBody Tryz.prog 15 = true := by kernel_rfl
theorem fun_16 : nth Tryz.prog.funcs.toList 16 = some Tryz.f16 := by rw [nth_eq]; simp [Tryz.func16]
theorem hb_16 : hasBody Tryz.prog 16 = true := by kernel_rfl
end Go.Ab
