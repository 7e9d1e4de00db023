/- Facts of the program: its types, fields, functions; what lives at the loops of its functions. -/
import Derived.Test.YtchkgfmmfdineaaGreatG01
import Derived.Test.YtchkgfmmfdineaaGreatProg
import Derived.Lib.IndexMore
import Derived.Lib.RuneCount
namespace Go.Ab
open Go.Proofs
set_option maxRecDepth 100000

def keepsOf : Nat → Nat → Option (List Nat)
  | 3, 7 => some [0, 3, 5, 6, 9, 10, 11, 32, 33]
  | 5, 3 => some [0, 2, 4, 7, 12, 13]
  | 5, 8 => some [2, 4, 7, 28, 29]
  | 5, 13 => some [2, 4, 7, 43, 44]
  | 6, 3 => some [1, 3, 4]
  | 8, 6 => some [0, 6, 10, 11, 34, 35, 36]
  | 9, 4 => some [0, 1, 5]
  | 11, 3 => some [0, 3, 4]
  | 11, 7 => some [0, 3, 4, 5]
  | 11, 11 => some [0, 3, 4, 6]
  | 14, 2 => some [0, 1, 7, 8]
  | 17, 2 => some [2, 4, 6, 11, 12, 13]
  | 21, 4 => some [1, 2, 15, 16, 17]
  | 25, 2 => some [0, 1, 7, 8]
  | 28, 4 => some [2, 4, 6, 8, 9, 13, 14, 15]
  | 29, 4 => some [1, 2, 15, 16, 17]
  | 31, 4 => some [0, 1, 12, 13]
  | 39, 3 => some [1, 3, 4, 6, 8, 9, 22, 23, 24]
  | 39, 9 => some [3, 4, 6, 8, 9]
  | 39, 14 => some [3, 4, 6, 8, 9, 12, 13, 14, 61, 62]
  | 39, 30 => some [8, 18, 127, 128, 129]
  | 40, 4 => some [1, 2, 15, 16, 17]
  | 51, 9 => some [1, 23, 24]
  | 52, 4 => some [0, 2, 4, 6, 8, 9, 20, 21, 22]
  | 52, 8 => some [0, 2, 4, 6, 8, 9, 10, 11, 12, 20, 21, 22, 28, 29, 30]
  | 55, 3 => some [2, 3, 7, 8, 9]
  | 57, 3 => some [2, 3, 6, 7, 8]
  | 70, 8 => some [3, 6, 23, 24, 25]
  | 109, 3 => some [2, 3, 6, 7, 10, 11]
  | 121, 3 => some [2, 3, 11, 12, 13]
  | 136, 2 => some [5, 6, 7]
  | 138, 2 => some [0, 1, 9, 10, 11]
  | 150, 6 => some [0, 4, 9, 33, 34, 35]
  | 169, 3 => some [3, 6, 7, 8]
  | 173, 3 => some [0, 2, 3, 5, 10, 11, 12]
  | 173, 13 => some [2, 5, 36, 37, 38]
  | 197, 17 => some [2, 8, 9, 10, 11, 13, 14, 15, 16]
  | 197, 24 => some [2, 8, 9, 10, 14, 15, 16, 17, 18]
  | 217, 2 => some [1, 2, 10]
  | _, _ => none

/-- The functions that are not gone through: their answers are the library's contracts'. -/
def prims (f : FuncId) (x : List AV) : Option AV :=
  match Nat.beq f 101, x with
  | true, [.t (.str s), .t (.str sub)] => if s.length < 4294967281 then some (.t (.bool (Lib.contains (s.map UInt8.ofNat) (sub.map UInt8.ofNat)))) else none
  | _, _ => none

noncomputable def CC : Cfg := { P := Tryz.prog, byRef := fun _ => false, thaw := fun f => Nat.beq f 16 || Nat.beq f 73, keep := keepsOf, prim := prims }
theorem CC_P : CC.P = Tryz.prog := rfl
theorem CC_byRef (f : FuncId) : CC.byRef f = false := rfl
theorem CC_prim (f : FuncId) (x : List AV) (h : f ≠ 101) : CC.prim f x = none := by
  show prims f x = none
  unfold prims
  cases hb : Nat.beq f 101 with
  | true => exact absurd (Nat.eq_of_beq_eq_true hb) h
  | false => rfl
theorem CC_has (s sub : List Nat) (h : s.length < 4294967281) : CC.prim 101 [.t (.str s), .t (.str sub)] = some (.t (.bool (Lib.contains (s.map UInt8.ofNat) (sub.map UInt8.ofNat)))) := if_pos h
theorem und_2 : und Tryz.prog 2 = some (.int .i64) := by kernel_rfl
theorem size_2 : sizeOf? Tryz.prog 2 = some 1 := by kernel_rfl
theorem agg_2 : agg? Tryz.prog 2 = some false := by kernel_rfl
theorem zero_2 : zeroCells Tryz.prog 2 = some [.t (.int .i64 (0))] := by kernel_rfl
theorem zel_2 : zeroElem Tryz.prog 2 = some [.t (.int .i64 (0))] := by kernel_rfl
theorem small_2 (n : Nat) : small Tryz.prog 2 n = (true && decide (n < 4294967296) && true) := by kernel_rfl
theorem und_3 : und Tryz.prog 3 = some (.int .i64) := by kernel_rfl
theorem size_3 : sizeOf? Tryz.prog 3 = some 1 := by kernel_rfl
theorem agg_3 : agg? Tryz.prog 3 = some false := by kernel_rfl
theorem zero_3 : zeroCells Tryz.prog 3 = some [.t (.int .i64 (0))] := by kernel_rfl
theorem zel_3 : zeroElem Tryz.prog 3 = some [.t (.int .i64 (0))] := by kernel_rfl
theorem small_3 (n : Nat) : small Tryz.prog 3 n = (true && decide (n < 4294967296) && true) := by kernel_rfl
theorem und_4 : und Tryz.prog 4 = some .bool := by kernel_rfl
theorem size_4 : sizeOf? Tryz.prog 4 = some 1 := by kernel_rfl
theorem agg_4 : agg? Tryz.prog 4 = some false := by kernel_rfl
theorem zero_4 : zeroCells Tryz.prog 4 = some [.t (.bool false)] := by kernel_rfl
theorem zel_4 : zeroElem Tryz.prog 4 = some [.t (.bool false)] := by kernel_rfl
theorem small_4 (n : Nat) : small Tryz.prog 4 n = (true && decide (n < 4294967296) && true) := by kernel_rfl
theorem noInt_4 : noInt Tryz.prog 4 = true := by kernel_rfl
theorem und_5 : und Tryz.prog 5 = some (.int .u8) := by kernel_rfl
theorem size_5 : sizeOf? Tryz.prog 5 = some 1 := by kernel_rfl
theorem agg_5 : agg? Tryz.prog 5 = some false := by kernel_rfl
theorem zero_5 : zeroCells Tryz.prog 5 = some [.t (.int .u8 (0))] := by kernel_rfl
theorem zel_5 : zeroElem Tryz.prog 5 = some [.t (.int .u8 (0))] := by kernel_rfl
theorem small_5 (n : Nat) : small Tryz.prog 5 n = (true && decide (n < 4294967296) && true) := by kernel_rfl
theorem und_9 : und Tryz.prog 9 = some .string := by kernel_rfl
theorem size_9 : sizeOf? Tryz.prog 9 = some 1 := by kernel_rfl
theorem agg_9 : agg? Tryz.prog 9 = some false := by kernel_rfl
theorem zero_9 : zeroCells Tryz.prog 9 = some [.t (.str [])] := by kernel_rfl
theorem zel_9 : zeroElem Tryz.prog 9 = some [.t (.str [])] := by kernel_rfl
theorem small_9 (n : Nat) : small Tryz.prog 9 n = (true && decide (n < 4294967296) && true) := by kernel_rfl
theorem noInt_9 : noInt Tryz.prog 9 = true := by kernel_rfl
theorem und_21 : und Tryz.prog 21 = some (.int .i32) := by kernel_rfl
theorem size_21 : sizeOf? Tryz.prog 21 = some 1 := by kernel_rfl
theorem agg_21 : agg? Tryz.prog 21 = some false := by kernel_rfl
theorem zero_21 : zeroCells Tryz.prog 21 = some [.t (.int .i32 (0))] := by kernel_rfl
theorem zel_21 : zeroElem Tryz.prog 21 = some [.t (.int .i32 (0))] := by kernel_rfl
theorem small_21 (n : Nat) : small Tryz.prog 21 n = (true && decide (n < 4294967296) && true) := by kernel_rfl
theorem und_22 : und Tryz.prog 22 = some (.slice 39) := by kernel_rfl
theorem size_22 : sizeOf? Tryz.prog 22 = some 1 := by kernel_rfl
theorem agg_22 : agg? Tryz.prog 22 = some false := by kernel_rfl
theorem zero_22 : zeroCells Tryz.prog 22 = some [.t (.sl true true [])] := by kernel_rfl
theorem zel_22 : zeroElem Tryz.prog 22 = some [.t (.sl true true [])] := by kernel_rfl
theorem small_22 (n : Nat) : small Tryz.prog 22 n = (true && decide (n < 4294967296) && true) := by kernel_rfl
theorem noInt_22 : noInt Tryz.prog 22 = true := by kernel_rfl
theorem und_23 : und Tryz.prog 23 = some (.slice 52) := by kernel_rfl
theorem size_23 : sizeOf? Tryz.prog 23 = some 1 := by kernel_rfl
theorem agg_23 : agg? Tryz.prog 23 = some false := by kernel_rfl
theorem zero_23 : zeroCells Tryz.prog 23 = some [.t (.sl true true [])] := by kernel_rfl
theorem zel_23 : zeroElem Tryz.prog 23 = some [.t (.sl true true [])] := by kernel_rfl
theorem small_23 (n : Nat) : small Tryz.prog 23 n = (true && decide (n < 4294967296) && true) := by kernel_rfl
theorem noInt_23 : noInt Tryz.prog 23 = true := by kernel_rfl
theorem fa_25_0 (x : AV) : xFieldAddr Tryz.prog 25 x 0 = retO (addOff 0 x) := by kernel_rfl
theorem fd_25_0 (x : AV) : xField Tryz.prog 25 x 0 = match aggCells x with | some cs => retO (part Tryz.prog 3 cs 0) | none => none := by kernel_rfl
theorem fa_25_1 (x : AV) : xFieldAddr Tryz.prog 25 x 1 = retO (addOff 1 x) := by kernel_rfl
theorem fd_25_1 (x : AV) : xField Tryz.prog 25 x 1 = match aggCells x with | some cs => retO (part Tryz.prog 3 cs 1) | none => none := by kernel_rfl
theorem bld_25 (ps : List (Nat × AV)) : build Tryz.prog 25 ps = (fillCells Tryz.prog [(0, 1), (1, 1)] [.t (.int .i64 (0)), .t (.int .i64 (0))] ps).map mkAgg := by kernel_rfl
theorem size_25 : sizeOf? Tryz.prog 25 = some 2 := by kernel_rfl
theorem agg_25 : agg? Tryz.prog 25 = some true := by kernel_rfl
theorem zero_25 : zeroCells Tryz.prog 25 = some [.t (.int .i64 (0)), .t (.int .i64 (0))] := by kernel_rfl
theorem zel_25 : zeroElem Tryz.prog 25 = some [.t (.int .i64 (0)), .t (.int .i64 (0))] := by kernel_rfl
theorem small_25 (n : Nat) : small Tryz.prog 25 n = (true && decide (n < 4294967296) && true) := by kernel_rfl
theorem noInt_25 : noInt Tryz.prog 25 = true := by kernel_rfl
theorem fa_27_0 (x : AV) : xFieldAddr Tryz.prog 27 x 0 = retO (addOff 0 x) := by kernel_rfl
theorem fd_27_0 (x : AV) : xField Tryz.prog 27 x 0 = match aggCells x with | some cs => retO (part Tryz.prog 9 cs 0) | none => none := by kernel_rfl
theorem fa_27_1 (x : AV) : xFieldAddr Tryz.prog 27 x 1 = retO (addOff 1 x) := by kernel_rfl
theorem fd_27_1 (x : AV) : xField Tryz.prog 27 x 1 = match aggCells x with | some cs => retO (part Tryz.prog 9 cs 1) | none => none := by kernel_rfl
theorem fa_27_2 (x : AV) : xFieldAddr Tryz.prog 27 x 2 = retO (addOff 2 x) := by kernel_rfl
theorem fd_27_2 (x : AV) : xField Tryz.prog 27 x 2 = match aggCells x with | some cs => retO (part Tryz.prog 23 cs 2) | none => none := by kernel_rfl
theorem fa_27_3 (x : AV) : xFieldAddr Tryz.prog 27 x 3 = retO (addOff 3 x) := by kernel_rfl
theorem fd_27_3 (x : AV) : xField Tryz.prog 27 x 3 = match aggCells x with | some cs => retO (part Tryz.prog 25 cs 3) | none => none := by kernel_rfl
theorem bld_27 (ps : List (Nat × AV)) : build Tryz.prog 27 ps = (fillCells Tryz.prog [(0, 1), (1, 1), (2, 1), (3, 2)] [.t (.str []), .t (.str []), .t (.sl true true []), .t (.int .i64 (0)), .t (.int .i64 (0))] ps).map mkAgg := by kernel_rfl
theorem size_27 : sizeOf? Tryz.prog 27 = some 5 := by kernel_rfl
theorem agg_27 : agg? Tryz.prog 27 = some true := by kernel_rfl
theorem zero_27 : zeroCells Tryz.prog 27 = some [.t (.str []), .t (.str []), .t (.sl true true []), .t (.int .i64 (0)), .t (.int .i64 (0))] := by kernel_rfl
theorem zel_27 : zeroElem Tryz.prog 27 = some [.t (.str []), .t (.str []), .t (.sl true true []), .t (.int .i64 (0)), .t (.int .i64 (0))] := by kernel_rfl
theorem small_27 (n : Nat) : small Tryz.prog 27 n = (true && decide (n < 4294967296) && true) := by kernel_rfl
theorem noInt_27 : noInt Tryz.prog 27 = true := by kernel_rfl
theorem und_28 : und Tryz.prog 28 = some (.slice 45) := by kernel_rfl
theorem size_28 : sizeOf? Tryz.prog 28 = some 1 := by kernel_rfl
theorem agg_28 : agg? Tryz.prog 28 = some false := by kernel_rfl
theorem zero_28 : zeroCells Tryz.prog 28 = some [.t (.sl true true [])] := by kernel_rfl
theorem zel_28 : zeroElem Tryz.prog 28 = some [.t (.sl true true [])] := by kernel_rfl
theorem small_28 (n : Nat) : small Tryz.prog 28 n = (true && decide (n < 4294967296) && true) := by kernel_rfl
theorem noInt_28 : noInt Tryz.prog 28 = true := by kernel_rfl
theorem fa_30_0 (x : AV) : xFieldAddr Tryz.prog 30 x 0 = retO (addOff 0 x) := by kernel_rfl
theorem fd_30_0 (x : AV) : xField Tryz.prog 30 x 0 = match aggCells x with | some cs => retO (part Tryz.prog 3 cs 0) | none => none := by kernel_rfl
theorem fa_30_1 (x : AV) : xFieldAddr Tryz.prog 30 x 1 = retO (addOff 1 x) := by kernel_rfl
theorem fd_30_1 (x : AV) : xField Tryz.prog 30 x 1 = match aggCells x with | some cs => retO (part Tryz.prog 3 cs 1) | none => none := by kernel_rfl
theorem fa_30_2 (x : AV) : xFieldAddr Tryz.prog 30 x 2 = retO (addOff 2 x) := by kernel_rfl
theorem fd_30_2 (x : AV) : xField Tryz.prog 30 x 2 = match aggCells x with | some cs => retO (part Tryz.prog 28 cs 2) | none => none := by kernel_rfl
theorem bld_30 (ps : List (Nat × AV)) : build Tryz.prog 30 ps = (fillCells Tryz.prog [(0, 1), (1, 1), (2, 1)] [.t (.int .i64 (0)), .t (.int .i64 (0)), .t (.sl true true [])] ps).map mkAgg := by kernel_rfl
theorem size_30 : sizeOf? Tryz.prog 30 = some 3 := by kernel_rfl
theorem agg_30 : agg? Tryz.prog 30 = some true := by kernel_rfl
theorem zero_30 : zeroCells Tryz.prog 30 = some [.t (.int .i64 (0)), .t (.int .i64 (0)), .t (.sl true true [])] := by kernel_rfl
theorem zel_30 : zeroElem Tryz.prog 30 = some [.t (.int .i64 (0)), .t (.int .i64 (0)), .t (.sl true true [])] := by kernel_rfl
theorem small_30 (n : Nat) : small Tryz.prog 30 n = (true && decide (n < 4294967296) && true) := by kernel_rfl
theorem noInt_30 : noInt Tryz.prog 30 = true := by kernel_rfl
theorem und_31 : und Tryz.prog 31 = some (.slice 47) := by kernel_rfl
theorem size_31 : sizeOf? Tryz.prog 31 = some 1 := by kernel_rfl
theorem agg_31 : agg? Tryz.prog 31 = some false := by kernel_rfl
theorem zero_31 : zeroCells Tryz.prog 31 = some [.t (.sl true true [])] := by kernel_rfl
theorem zel_31 : zeroElem Tryz.prog 31 = some [.t (.sl true true [])] := by kernel_rfl
theorem small_31 (n : Nat) : small Tryz.prog 31 n = (true && decide (n < 4294967296) && true) := by kernel_rfl
theorem noInt_31 : noInt Tryz.prog 31 = true := by kernel_rfl
theorem und_37 : und Tryz.prog 37 = some (.slice 54) := by kernel_rfl
theorem size_37 : sizeOf? Tryz.prog 37 = some 1 := by kernel_rfl
theorem agg_37 : agg? Tryz.prog 37 = some false := by kernel_rfl
theorem zero_37 : zeroCells Tryz.prog 37 = some [.t (.sl true true [])] := by kernel_rfl
theorem zel_37 : zeroElem Tryz.prog 37 = some [.t (.sl true true [])] := by kernel_rfl
theorem small_37 (n : Nat) : small Tryz.prog 37 n = (true && decide (n < 4294967296) && true) := by kernel_rfl
theorem noInt_37 : noInt Tryz.prog 37 = true := by kernel_rfl
theorem fa_39_0 (x : AV) : xFieldAddr Tryz.prog 39 x 0 = retO (addOff 0 x) := by kernel_rfl
theorem fd_39_0 (x : AV) : xField Tryz.prog 39 x 0 = match aggCells x with | some cs => retO (part Tryz.prog 9 cs 0) | none => none := by kernel_rfl
theorem fa_39_1 (x : AV) : xFieldAddr Tryz.prog 39 x 1 = retO (addOff 1 x) := by kernel_rfl
theorem fd_39_1 (x : AV) : xField Tryz.prog 39 x 1 = match aggCells x with | some cs => retO (part Tryz.prog 37 cs 1) | none => none := by kernel_rfl
theorem bld_39 (ps : List (Nat × AV)) : build Tryz.prog 39 ps = (fillCells Tryz.prog [(0, 1), (1, 1)] [.t (.str []), .t (.sl true true [])] ps).map mkAgg := by kernel_rfl
theorem size_39 : sizeOf? Tryz.prog 39 = some 2 := by kernel_rfl
theorem agg_39 : agg? Tryz.prog 39 = some true := by kernel_rfl
theorem zero_39 : zeroCells Tryz.prog 39 = some [.t (.str []), .t (.sl true true [])] := by kernel_rfl
theorem zel_39 : zeroElem Tryz.prog 39 = some [.t (.str []), .t (.sl true true [])] := by kernel_rfl
theorem small_39 (n : Nat) : small Tryz.prog 39 n = (true && decide (n < 4294967296) && true) := by kernel_rfl
theorem noInt_39 : noInt Tryz.prog 39 = true := by kernel_rfl
theorem fa_45_0 (x : AV) : xFieldAddr Tryz.prog 45 x 0 = retO (addOff 0 x) := by kernel_rfl
theorem fd_45_0 (x : AV) : xField Tryz.prog 45 x 0 = match aggCells x with | some cs => retO (part Tryz.prog 5 cs 0) | none => none := by kernel_rfl
theorem fa_45_1 (x : AV) : xFieldAddr Tryz.prog 45 x 1 = retO (addOff 1 x) := by kernel_rfl
theorem fd_45_1 (x : AV) : xField Tryz.prog 45 x 1 = match aggCells x with | some cs => retO (part Tryz.prog 2 cs 1) | none => none := by kernel_rfl
theorem fa_45_2 (x : AV) : xFieldAddr Tryz.prog 45 x 2 = retO (addOff 2 x) := by kernel_rfl
theorem fd_45_2 (x : AV) : xField Tryz.prog 45 x 2 = match aggCells x with | some cs => retO (part Tryz.prog 9 cs 2) | none => none := by kernel_rfl
theorem eqs_45 (d : Nat) (xs ys : List Tree) : equal Tryz.prog (d + 1) 45 (.agg xs) (.agg ys) = eqStep Tryz.prog (equal Tryz.prog d) 5 0 xs ys (eqStep Tryz.prog (equal Tryz.prog d) 2 1 xs ys (eqStep Tryz.prog (equal Tryz.prog d) 9 2 xs ys (some true))) := by kernel_rfl
theorem grd_45 : guarded Tryz.prog 50 45 = false := by kernel_rfl
theorem bld_45 (ps : List (Nat × AV)) : build Tryz.prog 45 ps = (fillCells Tryz.prog [(0, 1), (1, 1), (2, 1)] [.t (.int .u8 (0)), .t (.int .i64 (0)), .t (.str [])] ps).map mkAgg := by kernel_rfl
theorem size_45 : sizeOf? Tryz.prog 45 = some 3 := by kernel_rfl
theorem agg_45 : agg? Tryz.prog 45 = some true := by kernel_rfl
theorem zero_45 : zeroCells Tryz.prog 45 = some [.t (.int .u8 (0)), .t (.int .i64 (0)), .t (.str [])] := by kernel_rfl
theorem zel_45 : zeroElem Tryz.prog 45 = some [.t (.int .u8 (0)), .t (.int .i64 (0)), .t (.str [])] := by kernel_rfl
theorem small_45 (n : Nat) : small Tryz.prog 45 n = (true && decide (n < 4294967296) && true) := by kernel_rfl
theorem noInt_45 : noInt Tryz.prog 45 = true := by kernel_rfl
theorem fa_47_0 (x : AV) : xFieldAddr Tryz.prog 47 x 0 = retO (addOff 0 x) := by kernel_rfl
theorem fd_47_0 (x : AV) : xField Tryz.prog 47 x 0 = match aggCells x with | some cs => retO (part Tryz.prog 9 cs 0) | none => none := by kernel_rfl
theorem fa_47_1 (x : AV) : xFieldAddr Tryz.prog 47 x 1 = retO (addOff 1 x) := by kernel_rfl
theorem fd_47_1 (x : AV) : xField Tryz.prog 47 x 1 = match aggCells x with | some cs => retO (part Tryz.prog 45 cs 1) | none => none := by kernel_rfl
theorem eqs_47 (d : Nat) (xs ys : List Tree) : equal Tryz.prog (d + 1) 47 (.agg xs) (.agg ys) = eqStep Tryz.prog (equal Tryz.prog d) 9 0 xs ys (eqStep Tryz.prog (equal Tryz.prog d) 45 1 xs ys (some true)) := by kernel_rfl
theorem grd_47 : guarded Tryz.prog 50 47 = false := by kernel_rfl
theorem bld_47 (ps : List (Nat × AV)) : build Tryz.prog 47 ps = (fillCells Tryz.prog [(0, 1), (1, 3)] [.t (.str []), .t (.int .u8 (0)), .t (.int .i64 (0)), .t (.str [])] ps).map mkAgg := by kernel_rfl
theorem size_47 : sizeOf? Tryz.prog 47 = some 4 := by kernel_rfl
theorem agg_47 : agg? Tryz.prog 47 = some true := by kernel_rfl
theorem zero_47 : zeroCells Tryz.prog 47 = some [.t (.str []), .t (.int .u8 (0)), .t (.int .i64 (0)), .t (.str [])] := by kernel_rfl
theorem zel_47 : zeroElem Tryz.prog 47 = some [.t (.str []), .t (.int .u8 (0)), .t (.int .i64 (0)), .t (.str [])] := by kernel_rfl
theorem small_47 (n : Nat) : small Tryz.prog 47 n = (true && decide (n < 4294967296) && true) := by kernel_rfl
theorem noInt_47 : noInt Tryz.prog 47 = true := by kernel_rfl
theorem und_50 : und Tryz.prog 50 = some (.slice 73) := by kernel_rfl
theorem size_50 : sizeOf? Tryz.prog 50 = some 1 := by kernel_rfl
theorem agg_50 : agg? Tryz.prog 50 = some false := by kernel_rfl
theorem zero_50 : zeroCells Tryz.prog 50 = some [.t (.sl true true [])] := by kernel_rfl
theorem zel_50 : zeroElem Tryz.prog 50 = some [.t (.sl true true [])] := by kernel_rfl
theorem small_50 (n : Nat) : small Tryz.prog 50 n = (true && decide (n < 4294967296) && true) := by kernel_rfl
theorem noInt_50 : noInt Tryz.prog 50 = true := by kernel_rfl
theorem fa_52_0 (x : AV) : xFieldAddr Tryz.prog 52 x 0 = retO (addOff 0 x) := by kernel_rfl
theorem fd_52_0 (x : AV) : xField Tryz.prog 52 x 0 = match aggCells x with | some cs => retO (part Tryz.prog 9 cs 0) | none => none := by kernel_rfl
theorem fa_52_1 (x : AV) : xFieldAddr Tryz.prog 52 x 1 = retO (addOff 1 x) := by kernel_rfl
theorem fd_52_1 (x : AV) : xField Tryz.prog 52 x 1 = match aggCells x with | some cs => retO (part Tryz.prog 50 cs 1) | none => none := by kernel_rfl
theorem fa_52_2 (x : AV) : xFieldAddr Tryz.prog 52 x 2 = retO (addOff 2 x) := by kernel_rfl
theorem fd_52_2 (x : AV) : xField Tryz.prog 52 x 2 = match aggCells x with | some cs => retO (part Tryz.prog 25 cs 2) | none => none := by kernel_rfl
theorem bld_52 (ps : List (Nat × AV)) : build Tryz.prog 52 ps = (fillCells Tryz.prog [(0, 1), (1, 1), (2, 2)] [.t (.str []), .t (.sl true true []), .t (.int .i64 (0)), .t (.int .i64 (0))] ps).map mkAgg := by kernel_rfl
theorem size_52 : sizeOf? Tryz.prog 52 = some 4 := by kernel_rfl
theorem agg_52 : agg? Tryz.prog 52 = some true := by kernel_rfl
theorem zero_52 : zeroCells Tryz.prog 52 = some [.t (.str []), .t (.sl true true []), .t (.int .i64 (0)), .t (.int .i64 (0))] := by kernel_rfl
theorem zel_52 : zeroElem Tryz.prog 52 = some [.t (.str []), .t (.sl true true []), .t (.int .i64 (0)), .t (.int .i64 (0))] := by kernel_rfl
theorem small_52 (n : Nat) : small Tryz.prog 52 n = (true && decide (n < 4294967296) && true) := by kernel_rfl
theorem noInt_52 : noInt Tryz.prog 52 = true := by kernel_rfl
theorem fa_54_0 (x : AV) : xFieldAddr Tryz.prog 54 x 0 = retO (addOff 0 x) := by kernel_rfl
theorem fd_54_0 (x : AV) : xField Tryz.prog 54 x 0 = match aggCells x with | some cs => retO (part Tryz.prog 9 cs 0) | none => none := by kernel_rfl
theorem fa_54_1 (x : AV) : xFieldAddr Tryz.prog 54 x 1 = retO (addOff 1 x) := by kernel_rfl
theorem fd_54_1 (x : AV) : xField Tryz.prog 54 x 1 = match aggCells x with | some cs => retO (part Tryz.prog 5 cs 1) | none => none := by kernel_rfl
theorem bld_54 (ps : List (Nat × AV)) : build Tryz.prog 54 ps = (fillCells Tryz.prog [(0, 1), (1, 1)] [.t (.str []), .t (.int .u8 (0))] ps).map mkAgg := by kernel_rfl
theorem size_54 : sizeOf? Tryz.prog 54 = some 2 := by kernel_rfl
theorem agg_54 : agg? Tryz.prog 54 = some true := by kernel_rfl
theorem zero_54 : zeroCells Tryz.prog 54 = some [.t (.str []), .t (.int .u8 (0))] := by kernel_rfl
theorem zel_54 : zeroElem Tryz.prog 54 = some [.t (.str []), .t (.int .u8 (0))] := by kernel_rfl
theorem small_54 (n : Nat) : small Tryz.prog 54 n = (true && decide (n < 4294967296) && true) := by kernel_rfl
theorem noInt_54 : noInt Tryz.prog 54 = true := by kernel_rfl
theorem size_58 : sizeOf? Tryz.prog 58 = some 1 := by kernel_rfl
theorem agg_58 : agg? Tryz.prog 58 = some false := by kernel_rfl
theorem zero_58 : zeroCells Tryz.prog 58 = some [.t (.nilfn)] := by kernel_rfl
theorem zel_58 : zeroElem Tryz.prog 58 = some [.t (.nilfn)] := by kernel_rfl
theorem small_58 (n : Nat) : small Tryz.prog 58 n = (true && decide (n < 4294967296) && true) := by kernel_rfl
theorem noInt_58 : noInt Tryz.prog 58 = true := by kernel_rfl
theorem size_68 : sizeOf? Tryz.prog 68 = some 1 := by kernel_rfl
theorem agg_68 : agg? Tryz.prog 68 = some false := by kernel_rfl
theorem zero_68 : zeroCells Tryz.prog 68 = some [.t (.nilfn)] := by kernel_rfl
theorem zel_68 : zeroElem Tryz.prog 68 = some [.t (.nilfn)] := by kernel_rfl
theorem small_68 (n : Nat) : small Tryz.prog 68 n = (true && decide (n < 4294967296) && true) := by kernel_rfl
theorem noInt_68 : noInt Tryz.prog 68 = true := by kernel_rfl
theorem und_70 : und Tryz.prog 70 = some (.slice 75) := by kernel_rfl
theorem size_70 : sizeOf? Tryz.prog 70 = some 1 := by kernel_rfl
theorem agg_70 : agg? Tryz.prog 70 = some false := by kernel_rfl
theorem zero_70 : zeroCells Tryz.prog 70 = some [.t (.sl true true [])] := by kernel_rfl
theorem zel_70 : zeroElem Tryz.prog 70 = some [.t (.sl true true [])] := by kernel_rfl
theorem small_70 (n : Nat) : small Tryz.prog 70 n = (true && decide (n < 4294967296) && true) := by kernel_rfl
theorem noInt_70 : noInt Tryz.prog 70 = true := by kernel_rfl
theorem und_71 : und Tryz.prog 71 = some (.slice 3) := by kernel_rfl
theorem size_71 : sizeOf? Tryz.prog 71 = some 1 := by kernel_rfl
theorem agg_71 : agg? Tryz.prog 71 = some false := by kernel_rfl
theorem zero_71 : zeroCells Tryz.prog 71 = some [.t (.sl true true [])] := by kernel_rfl
theorem zel_71 : zeroElem Tryz.prog 71 = some [.t (.sl true true [])] := by kernel_rfl
theorem small_71 (n : Nat) : small Tryz.prog 71 n = (true && decide (n < 4294967296) && true) := by kernel_rfl
theorem noInt_71 : noInt Tryz.prog 71 = true := by kernel_rfl
theorem fa_73_0 (x : AV) : xFieldAddr Tryz.prog 73 x 0 = retO (addOff 0 x) := by kernel_rfl
theorem fd_73_0 (x : AV) : xField Tryz.prog 73 x 0 = match aggCells x with | some cs => retO (part Tryz.prog 5 cs 0) | none => none := by kernel_rfl
theorem fa_73_1 (x : AV) : xFieldAddr Tryz.prog 73 x 1 = retO (addOff 1 x) := by kernel_rfl
theorem fd_73_1 (x : AV) : xField Tryz.prog 73 x 1 = match aggCells x with | some cs => retO (part Tryz.prog 70 cs 1) | none => none := by kernel_rfl
theorem fa_73_2 (x : AV) : xFieldAddr Tryz.prog 73 x 2 = retO (addOff 2 x) := by kernel_rfl
theorem fd_73_2 (x : AV) : xField Tryz.prog 73 x 2 = match aggCells x with | some cs => retO (part Tryz.prog 70 cs 2) | none => none := by kernel_rfl
theorem fa_73_3 (x : AV) : xFieldAddr Tryz.prog 73 x 3 = retO (addOff 3 x) := by kernel_rfl
theorem fd_73_3 (x : AV) : xField Tryz.prog 73 x 3 = match aggCells x with | some cs => retO (part Tryz.prog 4 cs 3) | none => none := by kernel_rfl
theorem fa_73_4 (x : AV) : xFieldAddr Tryz.prog 73 x 4 = retO (addOff 4 x) := by kernel_rfl
theorem fd_73_4 (x : AV) : xField Tryz.prog 73 x 4 = match aggCells x with | some cs => retO (part Tryz.prog 4 cs 4) | none => none := by kernel_rfl
theorem fa_73_5 (x : AV) : xFieldAddr Tryz.prog 73 x 5 = retO (addOff 5 x) := by kernel_rfl
theorem fd_73_5 (x : AV) : xField Tryz.prog 73 x 5 = match aggCells x with | some cs => retO (part Tryz.prog 71 cs 5) | none => none := by kernel_rfl
theorem fa_73_6 (x : AV) : xFieldAddr Tryz.prog 73 x 6 = retO (addOff 6 x) := by kernel_rfl
theorem fd_73_6 (x : AV) : xField Tryz.prog 73 x 6 = match aggCells x with | some cs => retO (part Tryz.prog 25 cs 6) | none => none := by kernel_rfl
theorem bld_73 (ps : List (Nat × AV)) : build Tryz.prog 73 ps = (fillCells Tryz.prog [(0, 1), (1, 1), (2, 1), (3, 1), (4, 1), (5, 1), (6, 2)] [.t (.int .u8 (0)), .t (.sl true true []), .t (.sl true true []), .t (.bool false), .t (.bool false), .t (.sl true true []), .t (.int .i64 (0)), .t (.int .i64 (0))] ps).map mkAgg := by kernel_rfl
theorem size_73 : sizeOf? Tryz.prog 73 = some 8 := by kernel_rfl
theorem agg_73 : agg? Tryz.prog 73 = some true := by kernel_rfl
theorem zero_73 : zeroCells Tryz.prog 73 = some [.t (.int .u8 (0)), .t (.sl true true []), .t (.sl true true []), .t (.bool false), .t (.bool false), .t (.sl true true []), .t (.int .i64 (0)), .t (.int .i64 (0))] := by kernel_rfl
theorem zel_73 : zeroElem Tryz.prog 73 = some [.t (.int .u8 (0)), .t (.sl true true []), .t (.sl true true []), .t (.bool false), .t (.bool false), .t (.sl true true []), .t (.int .i64 (0)), .t (.int .i64 (0))] := by kernel_rfl
theorem small_73 (n : Nat) : small Tryz.prog 73 n = (true && decide (n < 4294967296) && true) := by kernel_rfl
theorem noInt_73 : noInt Tryz.prog 73 = true := by kernel_rfl
theorem fa_75_0 (x : AV) : xFieldAddr Tryz.prog 75 x 0 = retO (addOff 0 x) := by kernel_rfl
theorem fd_75_0 (x : AV) : xField Tryz.prog 75 x 0 = match aggCells x with | some cs => retO (part Tryz.prog 5 cs 0) | none => none := by kernel_rfl
theorem fa_75_1 (x : AV) : xFieldAddr Tryz.prog 75 x 1 = retO (addOff 1 x) := by kernel_rfl
theorem fd_75_1 (x : AV) : xField Tryz.prog 75 x 1 = match aggCells x with | some cs => retO (part Tryz.prog 45 cs 1) | none => none := by kernel_rfl
theorem fa_75_2 (x : AV) : xFieldAddr Tryz.prog 75 x 2 = retO (addOff 4 x) := by kernel_rfl
theorem fd_75_2 (x : AV) : xField Tryz.prog 75 x 2 = match aggCells x with | some cs => retO (part Tryz.prog 9 cs 4) | none => none := by kernel_rfl
theorem fa_75_3 (x : AV) : xFieldAddr Tryz.prog 75 x 3 = retO (addOff 5 x) := by kernel_rfl
theorem fd_75_3 (x : AV) : xField Tryz.prog 75 x 3 = match aggCells x with | some cs => retO (part Tryz.prog 71 cs 5) | none => none := by kernel_rfl
theorem fa_75_4 (x : AV) : xFieldAddr Tryz.prog 75 x 4 = retO (addOff 6 x) := by kernel_rfl
theorem fd_75_4 (x : AV) : xField Tryz.prog 75 x 4 = match aggCells x with | some cs => retO (part Tryz.prog 25 cs 6) | none => none := by kernel_rfl
theorem bld_75 (ps : List (Nat × AV)) : build Tryz.prog 75 ps = (fillCells Tryz.prog [(0, 1), (1, 3), (4, 1), (5, 1), (6, 2)] [.t (.int .u8 (0)), .t (.int .u8 (0)), .t (.int .i64 (0)), .t (.str []), .t (.str []), .t (.sl true true []), .t (.int .i64 (0)), .t (.int .i64 (0))] ps).map mkAgg := by kernel_rfl
theorem size_75 : sizeOf? Tryz.prog 75 = some 8 := by kernel_rfl
theorem agg_75 : agg? Tryz.prog 75 = some true := by kernel_rfl
theorem zero_75 : zeroCells Tryz.prog 75 = some [.t (.int .u8 (0)), .t (.int .u8 (0)), .t (.int .i64 (0)), .t (.str []), .t (.str []), .t (.sl true true []), .t (.int .i64 (0)), .t (.int .i64 (0))] := by kernel_rfl
theorem zel_75 : zeroElem Tryz.prog 75 = some [.t (.int .u8 (0)), .t (.int .u8 (0)), .t (.int .i64 (0)), .t (.str []), .t (.str []), .t (.sl true true []), .t (.int .i64 (0)), .t (.int .i64 (0))] := by kernel_rfl
theorem small_75 (n : Nat) : small Tryz.prog 75 n = (true && decide (n < 4294967296) && true) := by kernel_rfl
theorem noInt_75 : noInt Tryz.prog 75 = true := by kernel_rfl
theorem und_80 : und Tryz.prog 80 = some (.int .i64) := by kernel_rfl
theorem size_80 : sizeOf? Tryz.prog 80 = some 1 := by kernel_rfl
theorem agg_80 : agg? Tryz.prog 80 = some false := by kernel_rfl
theorem zero_80 : zeroCells Tryz.prog 80 = some [.t (.int .i64 (0))] := by kernel_rfl
theorem zel_80 : zeroElem Tryz.prog 80 = some [.t (.int .i64 (0))] := by kernel_rfl
theorem small_80 (n : Nat) : small Tryz.prog 80 n = (true && decide (n < 4294967296) && true) := by kernel_rfl
theorem size_91 : sizeOf? Tryz.prog 91 = some 1 := by kernel_rfl
theorem agg_91 : agg? Tryz.prog 91 = some false := by kernel_rfl
theorem zero_91 : zeroCells Tryz.prog 91 = some [.t (.nilfn)] := by kernel_rfl
theorem zel_91 : zeroElem Tryz.prog 91 = some [.t (.nilfn)] := by kernel_rfl
theorem small_91 (n : Nat) : small Tryz.prog 91 n = (true && decide (n < 4294967296) && true) := by kernel_rfl
theorem noInt_91 : noInt Tryz.prog 91 = true := by kernel_rfl
theorem size_98 : sizeOf? Tryz.prog 98 = some 1 := by kernel_rfl
theorem agg_98 : agg? Tryz.prog 98 = some false := by kernel_rfl
theorem zero_98 : zeroCells Tryz.prog 98 = some [.t (.nilfn)] := by kernel_rfl
theorem zel_98 : zeroElem Tryz.prog 98 = some [.t (.nilfn)] := by kernel_rfl
theorem small_98 (n : Nat) : small Tryz.prog 98 n = (true && decide (n < 4294967296) && true) := by kernel_rfl
theorem noInt_98 : noInt Tryz.prog 98 = true := by kernel_rfl
theorem fa_111_0 (x : AV) : xFieldAddr Tryz.prog 111 x 0 = retO (addOff 0 x) := by kernel_rfl
theorem fd_111_0 (x : AV) : xField Tryz.prog 111 x 0 = match aggCells x with | some cs => retO (part Tryz.prog 45 cs 0) | none => none := by kernel_rfl
theorem fa_111_1 (x : AV) : xFieldAddr Tryz.prog 111 x 1 = retO (addOff 3 x) := by kernel_rfl
theorem fd_111_1 (x : AV) : xField Tryz.prog 111 x 1 = match aggCells x with | some cs => retO (part Tryz.prog 80 cs 3) | none => none := by kernel_rfl
theorem bld_111 (ps : List (Nat × AV)) : build Tryz.prog 111 ps = (fillCells Tryz.prog [(0, 3), (3, 1)] [.t (.int .u8 (0)), .t (.int .i64 (0)), .t (.str []), .t (.int .i64 (0))] ps).map mkAgg := by kernel_rfl
theorem size_111 : sizeOf? Tryz.prog 111 = some 4 := by kernel_rfl
theorem agg_111 : agg? Tryz.prog 111 = some true := by kernel_rfl
theorem zero_111 : zeroCells Tryz.prog 111 = some [.t (.int .u8 (0)), .t (.int .i64 (0)), .t (.str []), .t (.int .i64 (0))] := by kernel_rfl
theorem zel_111 : zeroElem Tryz.prog 111 = some [.t (.int .u8 (0)), .t (.int .i64 (0)), .t (.str []), .t (.int .i64 (0))] := by kernel_rfl
theorem small_111 (n : Nat) : small Tryz.prog 111 n = (true && decide (n < 4294967296) && true) := by kernel_rfl
theorem noInt_111 : noInt Tryz.prog 111 = true := by kernel_rfl
theorem und_112 : und Tryz.prog 112 = some (.slice 111) := by kernel_rfl
theorem size_112 : sizeOf? Tryz.prog 112 = some 1 := by kernel_rfl
theorem agg_112 : agg? Tryz.prog 112 = some false := by kernel_rfl
theorem zero_112 : zeroCells Tryz.prog 112 = some [.t (.sl true true [])] := by kernel_rfl
theorem zel_112 : zeroElem Tryz.prog 112 = some [.t (.sl true true [])] := by kernel_rfl
theorem small_112 (n : Nat) : small Tryz.prog 112 n = (true && decide (n < 4294967296) && true) := by kernel_rfl
theorem noInt_112 : noInt Tryz.prog 112 = true := by kernel_rfl
theorem size_115 : sizeOf? Tryz.prog 115 = some 1 := by kernel_rfl
theorem agg_115 : agg? Tryz.prog 115 = some false := by kernel_rfl
theorem zero_115 : zeroCells Tryz.prog 115 = some [.t (.nilfn)] := by kernel_rfl
theorem zel_115 : zeroElem Tryz.prog 115 = some [.t (.nilfn)] := by kernel_rfl
theorem small_115 (n : Nat) : small Tryz.prog 115 n = (true && decide (n < 4294967296) && true) := by kernel_rfl
theorem noInt_115 : noInt Tryz.prog 115 = true := by kernel_rfl
theorem und_131 : und Tryz.prog 131 = some (.slice 5) := by kernel_rfl
theorem size_131 : sizeOf? Tryz.prog 131 = some 1 := by kernel_rfl
theorem agg_131 : agg? Tryz.prog 131 = some false := by kernel_rfl
theorem zero_131 : zeroCells Tryz.prog 131 = some [.t (.sl true true [])] := by kernel_rfl
theorem zel_131 : zeroElem Tryz.prog 131 = some [.t (.sl true true [])] := by kernel_rfl
theorem small_131 (n : Nat) : small Tryz.prog 131 n = (true && decide (n < 4294967296) && true) := by kernel_rfl
theorem noInt_131 : noInt Tryz.prog 131 = true := by kernel_rfl
theorem und_132 : und Tryz.prog 132 = some (.slice 70) := by kernel_rfl
theorem size_132 : sizeOf? Tryz.prog 132 = some 1 := by kernel_rfl
theorem agg_132 : agg? Tryz.prog 132 = some false := by kernel_rfl
theorem zero_132 : zeroCells Tryz.prog 132 = some [.t (.sl true true [])] := by kernel_rfl
theorem zel_132 : zeroElem Tryz.prog 132 = some [.t (.sl true true [])] := by kernel_rfl
theorem small_132 (n : Nat) : small Tryz.prog 132 n = (true && decide (n < 4294967296) && true) := by kernel_rfl
theorem noInt_132 : noInt Tryz.prog 132 = true := by kernel_rfl
theorem size_138 : sizeOf? Tryz.prog 138 = some 1 := by kernel_rfl
theorem agg_138 : agg? Tryz.prog 138 = some false := by kernel_rfl
theorem zero_138 : zeroCells Tryz.prog 138 = some [.t (.nilfn)] := by kernel_rfl
theorem zel_138 : zeroElem Tryz.prog 138 = some [.t (.nilfn)] := by kernel_rfl
theorem small_138 (n : Nat) : small Tryz.prog 138 n = (true && decide (n < 4294967296) && true) := by kernel_rfl
theorem noInt_138 : noInt Tryz.prog 138 = true := by kernel_rfl
theorem fa_150_0 (x : AV) : xFieldAddr Tryz.prog 150 x 0 = retO (addOff 0 x) := by kernel_rfl
theorem fd_150_0 (x : AV) : xField Tryz.prog 150 x 0 = match aggCells x with | some cs => retO (part Tryz.prog 9 cs 0) | none => none := by kernel_rfl
theorem fa_150_1 (x : AV) : xFieldAddr Tryz.prog 150 x 1 = retO (addOff 1 x) := by kernel_rfl
theorem fd_150_1 (x : AV) : xField Tryz.prog 150 x 1 = match aggCells x with | some cs => retO (part Tryz.prog 5 cs 1) | none => none := by kernel_rfl
theorem fa_150_2 (x : AV) : xFieldAddr Tryz.prog 150 x 2 = retO (addOff 2 x) := by kernel_rfl
theorem fd_150_2 (x : AV) : xField Tryz.prog 150 x 2 = match aggCells x with | some cs => retO (part Tryz.prog 5 cs 2) | none => none := by kernel_rfl
theorem bld_150 (ps : List (Nat × AV)) : build Tryz.prog 150 ps = (fillCells Tryz.prog [(0, 1), (1, 1), (2, 1)] [.t (.str []), .t (.int .u8 (0)), .t (.int .u8 (0))] ps).map mkAgg := by kernel_rfl
theorem size_150 : sizeOf? Tryz.prog 150 = some 3 := by kernel_rfl
theorem agg_150 : agg? Tryz.prog 150 = some true := by kernel_rfl
theorem zero_150 : zeroCells Tryz.prog 150 = some [.t (.str []), .t (.int .u8 (0)), .t (.int .u8 (0))] := by kernel_rfl
theorem zel_150 : zeroElem Tryz.prog 150 = some [.t (.str []), .t (.int .u8 (0)), .t (.int .u8 (0))] := by kernel_rfl
theorem small_150 (n : Nat) : small Tryz.prog 150 n = (true && decide (n < 4294967296) && true) := by kernel_rfl
theorem noInt_150 : noInt Tryz.prog 150 = true := by kernel_rfl
theorem und_151 : und Tryz.prog 151 = some (.array 5 150) := by kernel_rfl
theorem size_151 : sizeOf? Tryz.prog 151 = some 15 := by kernel_rfl
theorem agg_151 : agg? Tryz.prog 151 = some true := by kernel_rfl
theorem zero_151 : zeroCells Tryz.prog 151 = some [.t (.str []), .t (.int .u8 (0)), .t (.int .u8 (0)), .t (.str []), .t (.int .u8 (0)), .t (.int .u8 (0)), .t (.str []), .t (.int .u8 (0)), .t (.int .u8 (0)), .t (.str []), .t (.int .u8 (0)), .t (.int .u8 (0)), .t (.str []), .t (.int .u8 (0)), .t (.int .u8 (0))] := by kernel_rfl
theorem zel_151 : zeroElem Tryz.prog 151 = some [.t (.str []), .t (.int .u8 (0)), .t (.int .u8 (0)), .t (.str []), .t (.int .u8 (0)), .t (.int .u8 (0)), .t (.str []), .t (.int .u8 (0)), .t (.int .u8 (0)), .t (.str []), .t (.int .u8 (0)), .t (.int .u8 (0)), .t (.str []), .t (.int .u8 (0)), .t (.int .u8 (0))] := by kernel_rfl
theorem small_151 (n : Nat) : small Tryz.prog 151 n = (true && decide (n < 4294967296) && true) := by kernel_rfl
theorem noInt_151 : noInt Tryz.prog 151 = true := by kernel_rfl
theorem und_153 : und Tryz.prog 153 = some (.slice 155) := by kernel_rfl
theorem size_153 : sizeOf? Tryz.prog 153 = some 1 := by kernel_rfl
theorem agg_153 : agg? Tryz.prog 153 = some false := by kernel_rfl
theorem zero_153 : zeroCells Tryz.prog 153 = some [.t (.sl true true [])] := by kernel_rfl
theorem zel_153 : zeroElem Tryz.prog 153 = some [.t (.sl true true [])] := by kernel_rfl
theorem small_153 (n : Nat) : small Tryz.prog 153 n = (true && decide (n < 4294967296) && true) := by kernel_rfl
theorem noInt_153 : noInt Tryz.prog 153 = true := by kernel_rfl
theorem fa_155_0 (x : AV) : xFieldAddr Tryz.prog 155 x 0 = retO (addOff 0 x) := by kernel_rfl
theorem fd_155_0 (x : AV) : xField Tryz.prog 155 x 0 = match aggCells x with | some cs => retO (part Tryz.prog 45 cs 0) | none => none := by kernel_rfl
theorem fa_155_1 (x : AV) : xFieldAddr Tryz.prog 155 x 1 = retO (addOff 3 x) := by kernel_rfl
theorem fd_155_1 (x : AV) : xField Tryz.prog 155 x 1 = match aggCells x with | some cs => retO (part Tryz.prog 80 cs 3) | none => none := by kernel_rfl
theorem bld_155 (ps : List (Nat × AV)) : build Tryz.prog 155 ps = (fillCells Tryz.prog [(0, 3), (3, 1)] [.t (.int .u8 (0)), .t (.int .i64 (0)), .t (.str []), .t (.int .i64 (0))] ps).map mkAgg := by kernel_rfl
theorem size_155 : sizeOf? Tryz.prog 155 = some 4 := by kernel_rfl
theorem agg_155 : agg? Tryz.prog 155 = some true := by kernel_rfl
theorem zero_155 : zeroCells Tryz.prog 155 = some [.t (.int .u8 (0)), .t (.int .i64 (0)), .t (.str []), .t (.int .i64 (0))] := by kernel_rfl
theorem zel_155 : zeroElem Tryz.prog 155 = some [.t (.int .u8 (0)), .t (.int .i64 (0)), .t (.str []), .t (.int .i64 (0))] := by kernel_rfl
theorem small_155 (n : Nat) : small Tryz.prog 155 n = (true && decide (n < 4294967296) && true) := by kernel_rfl
theorem noInt_155 : noInt Tryz.prog 155 = true := by kernel_rfl
theorem und_156 : und Tryz.prog 156 = some (.slice 4) := by kernel_rfl
theorem size_156 : sizeOf? Tryz.prog 156 = some 1 := by kernel_rfl
theorem agg_156 : agg? Tryz.prog 156 = some false := by kernel_rfl
theorem zero_156 : zeroCells Tryz.prog 156 = some [.t (.sl true true [])] := by kernel_rfl
theorem zel_156 : zeroElem Tryz.prog 156 = some [.t (.sl true true [])] := by kernel_rfl
theorem small_156 (n : Nat) : small Tryz.prog 156 n = (true && decide (n < 4294967296) && true) := by kernel_rfl
theorem noInt_156 : noInt Tryz.prog 156 = true := by kernel_rfl
theorem fa_158_0 (x : AV) : xFieldAddr Tryz.prog 158 x 0 = retO (addOff 0 x) := by kernel_rfl
theorem fd_158_0 (x : AV) : xField Tryz.prog 158 x 0 = match aggCells x with | some cs => retO (part Tryz.prog 153 cs 0) | none => none := by kernel_rfl
theorem fa_158_1 (x : AV) : xFieldAddr Tryz.prog 158 x 1 = retO (addOff 1 x) := by kernel_rfl
theorem fd_158_1 (x : AV) : xField Tryz.prog 158 x 1 = match aggCells x with | some cs => retO (part Tryz.prog 156 cs 1) | none => none := by kernel_rfl
theorem bld_158 (ps : List (Nat × AV)) : build Tryz.prog 158 ps = (fillCells Tryz.prog [(0, 1), (1, 1)] [.t (.sl true true []), .t (.sl true true [])] ps).map mkAgg := by kernel_rfl
theorem size_158 : sizeOf? Tryz.prog 158 = some 2 := by kernel_rfl
theorem agg_158 : agg? Tryz.prog 158 = some true := by kernel_rfl
theorem zero_158 : zeroCells Tryz.prog 158 = some [.t (.sl true true []), .t (.sl true true [])] := by kernel_rfl
theorem zel_158 : zeroElem Tryz.prog 158 = some [.t (.sl true true []), .t (.sl true true [])] := by kernel_rfl
theorem small_158 (n : Nat) : small Tryz.prog 158 n = (true && decide (n < 4294967296) && true) := by kernel_rfl
theorem noInt_158 : noInt Tryz.prog 158 = true := by kernel_rfl
theorem size_187 : sizeOf? Tryz.prog 187 = some 1 := by kernel_rfl
theorem agg_187 : agg? Tryz.prog 187 = some false := by kernel_rfl
theorem zero_187 : zeroCells Tryz.prog 187 = some [.t (.nilfn)] := by kernel_rfl
theorem zel_187 : zeroElem Tryz.prog 187 = some [.t (.nilfn)] := by kernel_rfl
theorem small_187 (n : Nat) : small Tryz.prog 187 n = (true && decide (n < 4294967296) && true) := by kernel_rfl
theorem noInt_187 : noInt Tryz.prog 187 = true := by kernel_rfl
theorem size_190 : sizeOf? Tryz.prog 190 = some 1 := by kernel_rfl
theorem agg_190 : agg? Tryz.prog 190 = some false := by kernel_rfl
theorem zero_190 : zeroCells Tryz.prog 190 = some [.t (.nilfn)] := by kernel_rfl
theorem zel_190 : zeroElem Tryz.prog 190 = some [.t (.nilfn)] := by kernel_rfl
theorem small_190 (n : Nat) : small Tryz.prog 190 n = (true && decide (n < 4294967296) && true) := by kernel_rfl
theorem noInt_190 : noInt Tryz.prog 190 = true := by kernel_rfl
theorem size_192 : sizeOf? Tryz.prog 192 = some 1 := by kernel_rfl
theorem agg_192 : agg? Tryz.prog 192 = some false := by kernel_rfl
theorem zero_192 : zeroCells Tryz.prog 192 = some [.t (.nilfn)] := by kernel_rfl
theorem zel_192 : zeroElem Tryz.prog 192 = some [.t (.nilfn)] := by kernel_rfl
theorem small_192 (n : Nat) : small Tryz.prog 192 n = (true && decide (n < 4294967296) && true) := by kernel_rfl
theorem noInt_192 : noInt Tryz.prog 192 = true := by kernel_rfl
theorem und_225 : und Tryz.prog 225 = some (.int .u64) := by kernel_rfl
theorem size_225 : sizeOf? Tryz.prog 225 = some 1 := by kernel_rfl
theorem agg_225 : agg? Tryz.prog 225 = some false := by kernel_rfl
theorem zero_225 : zeroCells Tryz.prog 225 = some [.t (.int .u64 (0))] := by kernel_rfl
theorem zel_225 : zeroElem Tryz.prog 225 = some [.t (.int .u64 (0))] := by kernel_rfl
theorem small_225 (n : Nat) : small Tryz.prog 225 n = (true && decide (n < 4294967296) && true) := by kernel_rfl
theorem size_231 : sizeOf? Tryz.prog 231 = some 1 := by kernel_rfl
theorem agg_231 : agg? Tryz.prog 231 = some false := by kernel_rfl
theorem zero_231 : zeroCells Tryz.prog 231 = some [.t (.nilfn)] := by kernel_rfl
theorem zel_231 : zeroElem Tryz.prog 231 = some [.t (.nilfn)] := by kernel_rfl
theorem small_231 (n : Nat) : small Tryz.prog 231 n = (true && decide (n < 4294967296) && true) := by kernel_rfl
theorem noInt_231 : noInt Tryz.prog 231 = true := by kernel_rfl
theorem size_248 : sizeOf? Tryz.prog 248 = some 1 := by kernel_rfl
theorem agg_248 : agg? Tryz.prog 248 = some false := by kernel_rfl
theorem zero_248 : zeroCells Tryz.prog 248 = some [.t (.nilfn)] := by kernel_rfl
theorem zel_248 : zeroElem Tryz.prog 248 = some [.t (.nilfn)] := by kernel_rfl
theorem small_248 (n : Nat) : small Tryz.prog 248 n = (true && decide (n < 4294967296) && true) := by kernel_rfl
theorem noInt_248 : noInt Tryz.prog 248 = true := by kernel_rfl
theorem und_252 : und Tryz.prog 252 = some (.int .u64) := by kernel_rfl
theorem size_252 : sizeOf? Tryz.prog 252 = some 1 := by kernel_rfl
theorem agg_252 : agg? Tryz.prog 252 = some false := by kernel_rfl
theorem zero_252 : zeroCells Tryz.prog 252 = some [.t (.int .u64 (0))] := by kernel_rfl
theorem zel_252 : zeroElem Tryz.prog 252 = some [.t (.int .u64 (0))] := by kernel_rfl
theorem small_252 (n : Nat) : small Tryz.prog 252 n = (true && decide (n < 4294967296) && true) := by kernel_rfl
theorem size_265 : sizeOf? Tryz.prog 265 = some 1 := by kernel_rfl
theorem agg_265 : agg? Tryz.prog 265 = some false := by kernel_rfl
theorem zero_265 : zeroCells Tryz.prog 265 = some [.t (.nilifc)] := by kernel_rfl
theorem zel_265 : zeroElem Tryz.prog 265 = some [.t (.nilifc)] := by kernel_rfl
theorem small_265 (n : Nat) : small Tryz.prog 265 n = (true && decide (n < 4294967296) && true) := by kernel_rfl
theorem noInt_265 : noInt Tryz.prog 265 = true := by kernel_rfl
theorem fun_4 : nth Tryz.prog.funcs.toList 4 = some Tryz.f4 := by rw [nth_eq]; simp [Tryz.func4]
theorem fun_5 : nth Tryz.prog.funcs.toList 5 = some Tryz.f5 := by rw [nth_eq]; simp [Tryz.func5]
theorem hb_5 : hasBody Tryz.prog 5 = true := by kernel_rfl
theorem fun_6 : nth Tryz.prog.funcs.toList 6 = some Tryz.f6 := by rw [nth_eq]; simp [Tryz.func6]
theorem hb_6 : hasBody Tryz.prog 6 = true := by kernel_rfl
theorem hb_7 : hasBody Tryz.prog 7 = true := by kernel_rfl
theorem fun_8 : nth Tryz.prog.funcs.toList 8 = some Tryz.f8 := by rw [nth_eq]; simp [Tryz.func8]
theorem hb_8 : hasBody Tryz.prog 8 = true := by kernel_rfl
theorem res_8 : Tryz.f8.results.toList = [.tmp 8, .tmp 9] := by kernel_rfl
theorem fun_9 : nth Tryz.prog.funcs.toList 9 = some Tryz.f9 := by rw [nth_eq]; simp [Tryz.func9]
theorem hb_9 : hasBody Tryz.prog 9 = true := by kernel_rfl
theorem fun_10 : nth Tryz.prog.funcs.toList 10 = some Tryz.f10 := by rw [nth_eq]; simp [Tryz.func10]
theorem hb_10 : hasBody Tryz.prog 10 = true := by kernel_rfl
theorem fun_11 : nth Tryz.prog.funcs.toList 11 = some Tryz.f11 := by rw [nth_eq]; simp [Tryz.func11]
theorem hb_11 : hasBody Tryz.prog 11 = true := by kernel_rfl
theorem fun_14 : nth Tryz.prog.funcs.toList 14 = some Tryz.f14 := by rw [nth_eq]; simp [Tryz.func14]
theorem hb_14 : hasBody Tryz.prog 14 = true := by kernel_rfl
theorem fun_15 : nth Tryz.prog.funcs.toList 15 = some Tryz.f15 := by rw [nth_eq]; simp [Tryz.func15]
theorem hb_15 : hasBody Tryz.prog 15 = true := by kernel_rfl
theorem fun_16 : nth Tryz.prog.funcs.toList 16 = some Tryz.f16 := by rw [nth_eq]; simp [Tryz.func16]
theorem hb_16 : hasBody Tryz.prog 16 = true := by kernel_rfl
theorem fun_17 : nth Tryz.prog.funcs.toList 17 = some Tryz.f17 := by rw [nth_eq]; simp [Tryz.func17]
theorem hb_17 : hasBody Tryz.prog 17 = true := by kernel_rfl
theorem res_17 : Tryz.f17.results.toList = [.cell 6 45, .tmp 7] := by kernel_rfl
theorem fun_18 : nth Tryz.prog.funcs.toList 18 = some Tryz.f18 := by rw [nth_eq]; simp [Tryz.func18]
theorem hb_18 : hasBody Tryz.prog 18 = true := by kernel_rfl
theorem res_18 : Tryz.f18.results.toList = [.tmp 2, .tmp 3] := by kernel_rfl
theorem fun_19 : nth Tryz.prog.funcs.toList 19 = some Tryz.f19 := by rw [nth_eq]; simp [Tryz.func19]
theorem hb_19 : hasBody Tryz.prog 19 = true := by kernel_rfl
theorem res_19 : Tryz.f19.results.toList = [.cell 4 45, .tmp 5] := by kernel_rfl
theorem fun_20 : nth Tryz.prog.funcs.toList 20 = some Tryz.f20 := by rw [nth_eq]; simp [Tryz.func20]
theorem hb_20 : hasBody Tryz.prog 20 = true := by kernel_rfl
theorem fun_21 : nth Tryz.prog.funcs.toList 21 = some Tryz.f21 := by rw [nth_eq]; simp [Tryz.func21]
theorem hb_21 : hasBody Tryz.prog 21 = true := by kernel_rfl
theorem fun_22 : nth Tryz.prog.funcs.toList 22 = some Tryz.f22 := by rw [nth_eq]; simp [Tryz.func22]
theorem hb_22 : hasBody Tryz.prog 22 = true := by kernel_rfl
theorem fun_23 : nth Tryz.prog.funcs.toList 23 = some Tryz.f23 := by rw [nth_eq]; simp [Tryz.func23]
theorem hb_23 : hasBody Tryz.prog 23 = true := by kernel_rfl
theorem fun_25 : nth Tryz.prog.funcs.toList 25 = some Tryz.f25 := by rw [nth_eq]; simp [Tryz.func25]
theorem hb_25 : hasBody Tryz.prog 25 = true := by kernel_rfl
theorem fun_26 : nth Tryz.prog.funcs.toList 26 = some Tryz.f26 := by rw [nth_eq]; simp [Tryz.func26]
theorem hb_26 : hasBody Tryz.prog 26 = true := by kernel_rfl
theorem fun_27 : nth Tryz.prog.funcs.toList 27 = some Tryz.f27 := by rw [nth_eq]; simp [Tryz.func27]
theorem hb_27 : hasBody Tryz.prog 27 = true := by kernel_rfl
theorem res_27 : Tryz.f27.results.toList = [.tmp 4] := by kernel_rfl
theorem fun_28 : nth Tryz.prog.funcs.toList 28 = some Tryz.f28 := by rw [nth_eq]; simp [Tryz.func28]
theorem hb_28 : hasBody Tryz.prog 28 = true := by kernel_rfl
theorem res_28 : Tryz.f28.results.toList = [.cell 6 45, .tmp 7] := by kernel_rfl
theorem fun_29 : nth Tryz.prog.funcs.toList 29 = some Tryz.f29 := by rw [nth_eq]; simp [Tryz.func29]
theorem hb_29 : hasBody Tryz.prog 29 = true := by kernel_rfl
theorem fun_30 : nth Tryz.prog.funcs.toList 30 = some Tryz.f30 := by rw [nth_eq]; simp [Tryz.func30]
theorem hb_30 : hasBody Tryz.prog 30 = true := by kernel_rfl
theorem fun_31 : nth Tryz.prog.funcs.toList 31 = some Tryz.f31 := by rw [nth_eq]; simp [Tryz.func31]
theorem hb_31 : hasBody Tryz.prog 31 = true := by kernel_rfl
theorem fun_32 : nth Tryz.prog.funcs.toList 32 = some Tryz.f32 := by rw [nth_eq]; simp [Tryz.func32]
theorem hb_32 : hasBody Tryz.prog 32 = true := by kernel_rfl
theorem fun_39 : nth Tryz.prog.funcs.toList 39 = some Tryz.f39 := by rw [nth_eq]; simp [Tryz.func39]
theorem hb_39 : hasBody Tryz.prog 39 = true := by kernel_rfl
theorem res_39 : Tryz.f39.results.toList = [.cell 8 111] := by kernel_rfl
theorem fun_40 : nth Tryz.prog.funcs.toList 40 = some Tryz.f40 := by rw [nth_eq]; simp [Tryz.func40]
theorem hb_40 : hasBody Tryz.prog 40 = true := by kernel_rfl
theorem fun_41 : nth Tryz.prog.funcs.toList 41 = some Tryz.f41 := by rw [nth_eq]; simp [Tryz.func41]
theorem hb_41 : hasBody Tryz.prog 41 = true := by kernel_rfl
theorem fun_51 : nth Tryz.prog.funcs.toList 51 = some Tryz.f51 := by rw [nth_eq]; simp [Tryz.func51]
theorem hb_51 : hasBody Tryz.prog 51 = true := by kernel_rfl
theorem res_51 : Tryz.f51.results.toList = [.tmp 2, .tmp 3] := by kernel_rfl
theorem fun_52 : nth Tryz.prog.funcs.toList 52 = some Tryz.f52 := by rw [nth_eq]; simp [Tryz.func52]
theorem hb_52 : hasBody Tryz.prog 52 = true := by kernel_rfl
theorem res_52 : Tryz.f52.results.toList = [.cell 6 45, .tmp 7] := by kernel_rfl
theorem fun_53 : nth Tryz.prog.funcs.toList 53 = some Tryz.f53 := by rw [nth_eq]; simp [Tryz.func53]
theorem hb_53 : hasBody Tryz.prog 53 = true := by kernel_rfl
theorem res_53 : Tryz.f53.results.toList = [.tmp 4] := by kernel_rfl
theorem fun_54 : nth Tryz.prog.funcs.toList 54 = some Tryz.f54 := by rw [nth_eq]; simp [Tryz.func54]
theorem hb_54 : hasBody Tryz.prog 54 = true := by kernel_rfl
theorem res_54 : Tryz.f54.results.toList = [.cell 8 111] := by kernel_rfl
theorem fun_55 : nth Tryz.prog.funcs.toList 55 = some Tryz.f55 := by rw [nth_eq]; simp [Tryz.func55]
theorem hb_55 : hasBody Tryz.prog 55 = true := by kernel_rfl
theorem res_55 : Tryz.f55.results.toList = [.cell 2 45] := by kernel_rfl
theorem fun_56 : nth Tryz.prog.funcs.toList 56 = some Tryz.f56 := by rw [nth_eq]; simp [Tryz.func56]
theorem hb_56 : hasBody Tryz.prog 56 = true := by kernel_rfl
theorem res_56 : Tryz.f56.results.toList = [.cell 2 111] := by kernel_rfl
theorem fun_57 : nth Tryz.prog.funcs.toList 57 = some Tryz.f57 := by rw [nth_eq]; simp [Tryz.func57]
theorem hb_57 : hasBody Tryz.prog 57 = true := by kernel_rfl
theorem res_57 : Tryz.f57.results.toList = [.cell 2 45] := by kernel_rfl
theorem hb_69 : hasBody Tryz.prog 69 = true := by kernel_rfl
theorem fun_70 : nth Tryz.prog.funcs.toList 70 = some Tryz.f70 := by rw [nth_eq]; simp [Tryz.func70]
theorem hb_70 : hasBody Tryz.prog 70 = true := by kernel_rfl
theorem res_70 : Tryz.f70.results.toList = [.cell 6 155, .tmp 7] := by kernel_rfl
theorem fun_71 : nth Tryz.prog.funcs.toList 71 = some Tryz.f71 := by rw [nth_eq]; simp [Tryz.func71]
theorem hb_71 : hasBody Tryz.prog 71 = true := by kernel_rfl
theorem res_71 : Tryz.f71.results.toList = [.cell 4 155, .tmp 5] := by kernel_rfl
theorem fun_72 : nth Tryz.prog.funcs.toList 72 = some Tryz.f72 := by rw [nth_eq]; simp [Tryz.func72]
theorem hb_72 : hasBody Tryz.prog 72 = true := by kernel_rfl
theorem res_72 : Tryz.f72.results.toList = [.cell 4 155] := by kernel_rfl
theorem fun_73 : nth Tryz.prog.funcs.toList 73 = some Tryz.f73 := by rw [nth_eq]; simp [Tryz.func73]
theorem hb_73 : hasBody Tryz.prog 73 = true := by kernel_rfl
theorem fun_74 : nth Tryz.prog.funcs.toList 74 = some Tryz.f74 := by rw [nth_eq]; simp [Tryz.func74]
theorem hb_74 : hasBody Tryz.prog 74 = true := by kernel_rfl
theorem res_74 : Tryz.f74.results.toList = [.cell 2 111] := by kernel_rfl
theorem fun_75 : nth Tryz.prog.funcs.toList 75 = some Tryz.f75 := by rw [nth_eq]; simp [Tryz.func75]
theorem hb_75 : hasBody Tryz.prog 75 = true := by kernel_rfl
theorem res_75 : Tryz.f75.results.toList = [.cell 2 45] := by kernel_rfl
theorem fun_76 : nth Tryz.prog.funcs.toList 76 = some Tryz.f76 := by rw [nth_eq]; simp [Tryz.func76]
theorem hb_76 : hasBody Tryz.prog 76 = true := by kernel_rfl
theorem res_76 : Tryz.f76.results.toList = [.cell 2 45] := by kernel_rfl
theorem fun_89 : nth Tryz.prog.funcs.toList 89 = some Tryz.f89 := by rw [nth_eq]; simp [Tryz.func89]
theorem hb_89 : hasBody Tryz.prog 89 = true := by kernel_rfl
theorem res_89 : Tryz.f89.results.toList = [.cell 2 155] := by kernel_rfl
theorem fun_90 : nth Tryz.prog.funcs.toList 90 = some Tryz.f90 := by rw [nth_eq]; simp [Tryz.func90]
theorem hb_90 : hasBody Tryz.prog 90 = true := by kernel_rfl
theorem res_90 : Tryz.f90.results.toList = [.cell 2 155] := by kernel_rfl
theorem fun_91 : nth Tryz.prog.funcs.toList 91 = some Tryz.f91 := by rw [nth_eq]; simp [Tryz.func91]
theorem hb_91 : hasBody Tryz.prog 91 = true := by kernel_rfl
theorem res_91 : Tryz.f91.results.toList = [.cell 6 155] := by kernel_rfl
theorem fun_92 : nth Tryz.prog.funcs.toList 92 = some Tryz.f92 := by rw [nth_eq]; simp [Tryz.func92]
theorem hb_92 : hasBody Tryz.prog 92 = true := by kernel_rfl
theorem res_92 : Tryz.f92.results.toList = [.cell 4 155] := by kernel_rfl
theorem fun_93 : nth Tryz.prog.funcs.toList 93 = some Tryz.f93 := by rw [nth_eq]; simp [Tryz.func93]
theorem hb_93 : hasBody Tryz.prog 93 = true := by kernel_rfl
theorem res_93 : Tryz.f93.results.toList = [.cell 4 155] := by kernel_rfl
theorem fun_94 : nth Tryz.prog.funcs.toList 94 = some Tryz.f94 := by rw [nth_eq]; simp [Tryz.func94]
theorem hb_94 : hasBody Tryz.prog 94 = true := by kernel_rfl
theorem res_94 : Tryz.f94.results.toList = [.cell 4 155] := by kernel_rfl
theorem fun_95 : nth Tryz.prog.funcs.toList 95 = some Tryz.f95 := by rw [nth_eq]; simp [Tryz.func95]
theorem hb_95 : hasBody Tryz.prog 95 = true := by kernel_rfl
theorem res_95 : Tryz.f95.results.toList = [.tmp 2] := by kernel_rfl
theorem fun_96 : nth Tryz.prog.funcs.toList 96 = some Tryz.f96 := by rw [nth_eq]; simp [Tryz.func96]
theorem hb_96 : hasBody Tryz.prog 96 = true := by kernel_rfl
theorem res_96 : Tryz.f96.results.toList = [.tmp 2] := by kernel_rfl
theorem fun_97 : nth Tryz.prog.funcs.toList 97 = some Tryz.f97 := by rw [nth_eq]; simp [Tryz.func97]
theorem hb_97 : hasBody Tryz.prog 97 = true := by kernel_rfl
theorem res_97 : Tryz.f97.results.toList = [.tmp 2] := by kernel_rfl
theorem fun_98 : nth Tryz.prog.funcs.toList 98 = some Tryz.f98 := by rw [nth_eq]; simp [Tryz.func98]
theorem hb_98 : hasBody Tryz.prog 98 = true := by kernel_rfl
theorem res_98 : Tryz.f98.results.toList = [.tmp 2] := by kernel_rfl
theorem fun_99 : nth Tryz.prog.funcs.toList 99 = some Tryz.f99 := by rw [nth_eq]; simp [Tryz.func99]
theorem hb_99 : hasBody Tryz.prog 99 = true := by kernel_rfl
theorem res_99 : Tryz.f99.results.toList = [.cell 8 155] := by kernel_rfl
theorem fun_100 : nth Tryz.prog.funcs.toList 100 = some Tryz.f100 := by rw [nth_eq]; simp [Tryz.func100]
theorem hb_100 : hasBody Tryz.prog 100 = true := by kernel_rfl
theorem res_100 : Tryz.f100.results.toList = [.cell 2 155] := by kernel_rfl
theorem hb_101 : hasBody Tryz.prog 101 = true := by kernel_rfl
theorem fun_102 : nth Tryz.prog.funcs.toList 102 = some Tryz.f102 := by rw [nth_eq]; simp [Tryz.func102]
theorem hb_102 : hasBody Tryz.prog 102 = true := by kernel_rfl
theorem res_102 : Tryz.f102.results.toList = [.cell 2 155] := by kernel_rfl
theorem fun_103 : nth Tryz.prog.funcs.toList 103 = some Tryz.f103 := by rw [nth_eq]; simp [Tryz.func103]
theorem hb_103 : hasBody Tryz.prog 103 = true := by kernel_rfl
theorem res_103 : Tryz.f103.results.toList = [.tmp 4] := by kernel_rfl
theorem fun_104 : nth Tryz.prog.funcs.toList 104 = some Tryz.f104 := by rw [nth_eq]; simp [Tryz.func104]
theorem hb_104 : hasBody Tryz.prog 104 = true := by kernel_rfl
theorem res_104 : Tryz.f104.results.toList = [.cell 4 155] := by kernel_rfl
theorem fun_105 : nth Tryz.prog.funcs.toList 105 = some Tryz.f105 := by rw [nth_eq]; simp [Tryz.func105]
theorem hb_105 : hasBody Tryz.prog 105 = true := by kernel_rfl
theorem res_105 : Tryz.f105.results.toList = [.cell 4 45, .tmp 5] := by kernel_rfl
theorem fun_106 : nth Tryz.prog.funcs.toList 106 = some Tryz.f106 := by rw [nth_eq]; simp [Tryz.func106]
theorem hb_106 : hasBody Tryz.prog 106 = true := by kernel_rfl
theorem res_106 : Tryz.f106.results.toList = [.cell 4 45, .tmp 5] := by kernel_rfl
theorem fun_107 : nth Tryz.prog.funcs.toList 107 = some Tryz.f107 := by rw [nth_eq]; simp [Tryz.func107]
theorem hb_107 : hasBody Tryz.prog 107 = true := by kernel_rfl
theorem res_107 : Tryz.f107.results.toList = [.cell 4 45, .tmp 5] := by kernel_rfl
theorem fun_108 : nth Tryz.prog.funcs.toList 108 = some Tryz.f108 := by rw [nth_eq]; simp [Tryz.func108]
theorem hb_108 : hasBody Tryz.prog 108 = true := by kernel_rfl
theorem res_108 : Tryz.f108.results.toList = [.cell 4 45, .tmp 5] := by kernel_rfl
theorem fun_109 : nth Tryz.prog.funcs.toList 109 = some Tryz.f109 := by rw [nth_eq]; simp [Tryz.func109]
theorem hb_109 : hasBody Tryz.prog 109 = true := by kernel_rfl
theorem res_109 : Tryz.f109.results.toList = [.cell 6 155] := by kernel_rfl
theorem fun_110 : nth Tryz.prog.funcs.toList 110 = some Tryz.f110 := by rw [nth_eq]; simp [Tryz.func110]
theorem hb_110 : hasBody Tryz.prog 110 = true := by kernel_rfl
theorem res_110 : Tryz.f110.results.toList = [.cell 2 155] := by kernel_rfl
theorem fun_111 : nth Tryz.prog.funcs.toList 111 = some Tryz.f111 := by rw [nth_eq]; simp [Tryz.func111]
theorem hb_111 : hasBody Tryz.prog 111 = true := by kernel_rfl
theorem res_111 : Tryz.f111.results.toList = [.cell 4 155] := by kernel_rfl
theorem fun_112 : nth Tryz.prog.funcs.toList 112 = some Tryz.f112 := by rw [nth_eq]; simp [Tryz.func112]
theorem hb_112 : hasBody Tryz.prog 112 = true := by kernel_rfl
theorem res_112 : Tryz.f112.results.toList = [.cell 2 45, .tmp 3] := by kernel_rfl
theorem fun_113 : nth Tryz.prog.funcs.toList 113 = some Tryz.f113 := by rw [nth_eq]; simp [Tryz.func113]
theorem hb_113 : hasBody Tryz.prog 113 = true := by kernel_rfl
theorem res_113 : Tryz.f113.results.toList = [.cell 2 155] := by kernel_rfl
theorem fun_114 : nth Tryz.prog.funcs.toList 114 = some Tryz.f114 := by rw [nth_eq]; simp [Tryz.func114]
theorem hb_114 : hasBody Tryz.prog 114 = true := by kernel_rfl
theorem res_114 : Tryz.f114.results.toList = [.cell 2 45, .tmp 3] := by kernel_rfl
theorem fun_115 : nth Tryz.prog.funcs.toList 115 = some Tryz.f115 := by rw [nth_eq]; simp [Tryz.func115]
theorem hb_115 : hasBody Tryz.prog 115 = true := by kernel_rfl
theorem res_115 : Tryz.f115.results.toList = [.cell 2 155] := by kernel_rfl
theorem fun_116 : nth Tryz.prog.funcs.toList 116 = some Tryz.f116 := by rw [nth_eq]; simp [Tryz.func116]
theorem hb_116 : hasBody Tryz.prog 116 = true := by kernel_rfl
theorem res_116 : Tryz.f116.results.toList = [.cell 2 45, .tmp 3] := by kernel_rfl
theorem fun_117 : nth Tryz.prog.funcs.toList 117 = some Tryz.f117 := by rw [nth_eq]; simp [Tryz.func117]
theorem hb_117 : hasBody Tryz.prog 117 = true := by kernel_rfl
theorem res_117 : Tryz.f117.results.toList = [.cell 2 155] := by kernel_rfl
theorem fun_118 : nth Tryz.prog.funcs.toList 118 = some Tryz.f118 := by rw [nth_eq]; simp [Tryz.func118]
theorem hb_118 : hasBody Tryz.prog 118 = true := by kernel_rfl
theorem res_118 : Tryz.f118.results.toList = [.cell 2 155] := by kernel_rfl
theorem fun_119 : nth Tryz.prog.funcs.toList 119 = some Tryz.f119 := by rw [nth_eq]; simp [Tryz.func119]
theorem hb_119 : hasBody Tryz.prog 119 = true := by kernel_rfl
theorem res_119 : Tryz.f119.results.toList = [.cell 2 155] := by kernel_rfl
theorem fun_120 : nth Tryz.prog.funcs.toList 120 = some Tryz.f120 := by rw [nth_eq]; simp [Tryz.func120]
theorem hb_120 : hasBody Tryz.prog 120 = true := by kernel_rfl
theorem res_120 : Tryz.f120.results.toList = [.cell 2 45] := by kernel_rfl
theorem fun_121 : nth Tryz.prog.funcs.toList 121 = some Tryz.f121 := by rw [nth_eq]; simp [Tryz.func121]
theorem hb_121 : hasBody Tryz.prog 121 = true := by kernel_rfl
theorem res_121 : Tryz.f121.results.toList = [.cell 2 155] := by kernel_rfl
theorem fun_122 : nth Tryz.prog.funcs.toList 122 = some Tryz.f122 := by rw [nth_eq]; simp [Tryz.func122]
theorem hb_122 : hasBody Tryz.prog 122 = true := by kernel_rfl
theorem res_122 : Tryz.f122.results.toList = [.cell 2 155] := by kernel_rfl
theorem fun_131 : nth Tryz.prog.funcs.toList 131 = some Tryz.f131 := by rw [nth_eq]; simp [Tryz.func131]
theorem hb_131 : hasBody Tryz.prog 131 = true := by kernel_rfl
theorem res_131 : Tryz.f131.results.toList = [.tmp 2] := by kernel_rfl
theorem fun_132 : nth Tryz.prog.funcs.toList 132 = some Tryz.f132 := by rw [nth_eq]; simp [Tryz.func132]
theorem hb_132 : hasBody Tryz.prog 132 = true := by kernel_rfl
theorem res_132 : Tryz.f132.results.toList = [.cell 4 155] := by kernel_rfl
theorem fun_133 : nth Tryz.prog.funcs.toList 133 = some Tryz.f133 := by rw [nth_eq]; simp [Tryz.func133]
theorem hb_133 : hasBody Tryz.prog 133 = true := by kernel_rfl
theorem res_133 : Tryz.f133.results.toList = [.cell 4 155] := by kernel_rfl
theorem fun_134 : nth Tryz.prog.funcs.toList 134 = some Tryz.f134 := by rw [nth_eq]; simp [Tryz.func134]
theorem hb_134 : hasBody Tryz.prog 134 = true := by kernel_rfl
theorem res_134 : Tryz.f134.results.toList = [.tmp 4, .tmp 5] := by kernel_rfl
theorem fun_135 : nth Tryz.prog.funcs.toList 135 = some Tryz.f135 := by rw [nth_eq]; simp [Tryz.func135]
theorem hb_135 : hasBody Tryz.prog 135 = true := by kernel_rfl
theorem res_135 : Tryz.f135.results.toList = [.tmp 3] := by kernel_rfl
theorem fun_136 : nth Tryz.prog.funcs.toList 136 = some Tryz.f136 := by rw [nth_eq]; simp [Tryz.func136]
theorem hb_136 : hasBody Tryz.prog 136 = true := by kernel_rfl
theorem res_136 : Tryz.f136.results.toList = [.tmp 2] := by kernel_rfl
theorem fun_137 : nth Tryz.prog.funcs.toList 137 = some Tryz.f137 := by rw [nth_eq]; simp [Tryz.func137]
theorem hb_137 : hasBody Tryz.prog 137 = true := by kernel_rfl
theorem res_137 : Tryz.f137.results.toList = [.cell 3 155] := by kernel_rfl
theorem fun_138 : nth Tryz.prog.funcs.toList 138 = some Tryz.f138 := by rw [nth_eq]; simp [Tryz.func138]
theorem hb_138 : hasBody Tryz.prog 138 = true := by kernel_rfl
theorem res_138 : Tryz.f138.results.toList = [.tmp 6] := by kernel_rfl
theorem fun_139 : nth Tryz.prog.funcs.toList 139 = some Tryz.f139 := by rw [nth_eq]; simp [Tryz.func139]
theorem hb_139 : hasBody Tryz.prog 139 = true := by kernel_rfl
theorem res_139 : Tryz.f139.results.toList = [.cell 4 155] := by kernel_rfl
theorem fun_141 : nth Tryz.prog.funcs.toList 141 = some Tryz.f141 := by rw [nth_eq]; simp [Tryz.func141]
theorem hb_141 : hasBody Tryz.prog 141 = true := by kernel_rfl
theorem res_141 : Tryz.f141.results.toList = [.tmp 4] := by kernel_rfl
theorem fun_142 : nth Tryz.prog.funcs.toList 142 = some Tryz.f142 := by rw [nth_eq]; simp [Tryz.func142]
theorem hb_142 : hasBody Tryz.prog 142 = true := by kernel_rfl
theorem res_142 : Tryz.f142.results.toList = [.cell 3 155] := by kernel_rfl
theorem fun_143 : nth Tryz.prog.funcs.toList 143 = some Tryz.f143 := by rw [nth_eq]; simp [Tryz.func143]
theorem hb_143 : hasBody Tryz.prog 143 = true := by kernel_rfl
theorem res_143 : Tryz.f143.results.toList = [.cell 8 45, .tmp 9] := by kernel_rfl
theorem fun_144 : nth Tryz.prog.funcs.toList 144 = some Tryz.f144 := by rw [nth_eq]; simp [Tryz.func144]
theorem hb_144 : hasBody Tryz.prog 144 = true := by kernel_rfl
theorem res_144 : Tryz.f144.results.toList = [.tmp 4, .tmp 5] := by kernel_rfl
theorem fun_145 : nth Tryz.prog.funcs.toList 145 = some Tryz.f145 := by rw [nth_eq]; simp [Tryz.func145]
theorem hb_145 : hasBody Tryz.prog 145 = true := by kernel_rfl
theorem res_145 : Tryz.f145.results.toList = [.tmp 4, .tmp 5] := by kernel_rfl
theorem fun_146 : nth Tryz.prog.funcs.toList 146 = some Tryz.f146 := by rw [nth_eq]; simp [Tryz.func146]
theorem hb_146 : hasBody Tryz.prog 146 = true := by kernel_rfl
theorem res_146 : Tryz.f146.results.toList = [.tmp 4, .tmp 5] := by kernel_rfl
theorem fun_147 : nth Tryz.prog.funcs.toList 147 = some Tryz.f147 := by rw [nth_eq]; simp [Tryz.func147]
theorem hb_147 : hasBody Tryz.prog 147 = true := by kernel_rfl
theorem res_147 : Tryz.f147.results.toList = [.tmp 4, .tmp 5] := by kernel_rfl
theorem fun_148 : nth Tryz.prog.funcs.toList 148 = some Tryz.f148 := by rw [nth_eq]; simp [Tryz.func148]
theorem hb_148 : hasBody Tryz.prog 148 = true := by kernel_rfl
theorem res_148 : Tryz.f148.results.toList = [.tmp 4, .tmp 5] := by kernel_rfl
theorem fun_149 : nth Tryz.prog.funcs.toList 149 = some Tryz.f149 := by rw [nth_eq]; simp [Tryz.func149]
theorem hb_149 : hasBody Tryz.prog 149 = true := by kernel_rfl
theorem res_149 : Tryz.f149.results.toList = [.tmp 4, .tmp 5] := by kernel_rfl
theorem fun_150 : nth Tryz.prog.funcs.toList 150 = some Tryz.f150 := by rw [nth_eq]; simp [Tryz.func150]
theorem hb_150 : hasBody Tryz.prog 150 = true := by kernel_rfl
theorem res_150 : Tryz.f150.results.toList = [.cell 4 45, .tmp 5] := by kernel_rfl
theorem fun_151 : nth Tryz.prog.funcs.toList 151 = some Tryz.f151 := by rw [nth_eq]; simp [Tryz.func151]
theorem hb_151 : hasBody Tryz.prog 151 = true := by kernel_rfl
theorem res_151 : Tryz.f151.results.toList = [.tmp 4, .tmp 5] := by kernel_rfl
theorem fun_165 : nth Tryz.prog.funcs.toList 165 = some Tryz.f165 := by rw [nth_eq]; simp [Tryz.func165]
theorem hb_165 : hasBody Tryz.prog 165 = true := by kernel_rfl
theorem res_165 : Tryz.f165.results.toList = [.tmp 2] := by kernel_rfl
theorem fun_166 : nth Tryz.prog.funcs.toList 166 = some Tryz.f166 := by rw [nth_eq]; simp [Tryz.func166]
theorem hb_166 : hasBody Tryz.prog 166 = true := by kernel_rfl
theorem res_166 : Tryz.f166.results.toList = [.tmp 2] := by kernel_rfl
theorem fun_167 : nth Tryz.prog.funcs.toList 167 = some Tryz.f167 := by rw [nth_eq]; simp [Tryz.func167]
theorem hb_167 : hasBody Tryz.prog 167 = true := by kernel_rfl
theorem res_167 : Tryz.f167.results.toList = [.tmp 2] := by kernel_rfl
theorem fun_168 : nth Tryz.prog.funcs.toList 168 = some Tryz.f168 := by rw [nth_eq]; simp [Tryz.func168]
theorem hb_168 : hasBody Tryz.prog 168 = true := by kernel_rfl
theorem res_168 : Tryz.f168.results.toList = [.tmp 2, .tmp 3, .tmp 4] := by kernel_rfl
theorem fun_169 : nth Tryz.prog.funcs.toList 169 = some Tryz.f169 := by rw [nth_eq]; simp [Tryz.func169]
theorem hb_169 : hasBody Tryz.prog 169 = true := by kernel_rfl
theorem res_169 : Tryz.f169.results.toList = [.tmp 2] := by kernel_rfl
theorem fun_170 : nth Tryz.prog.funcs.toList 170 = some Tryz.f170 := by rw [nth_eq]; simp [Tryz.func170]
theorem hb_170 : hasBody Tryz.prog 170 = true := by kernel_rfl
theorem res_170 : Tryz.f170.results.toList = [.tmp 4] := by kernel_rfl
theorem fun_171 : nth Tryz.prog.funcs.toList 171 = some Tryz.f171 := by rw [nth_eq]; simp [Tryz.func171]
theorem hb_171 : hasBody Tryz.prog 171 = true := by kernel_rfl
theorem res_171 : Tryz.f171.results.toList = [.tmp 4] := by kernel_rfl
theorem fun_173 : nth Tryz.prog.funcs.toList 173 = some Tryz.f173 := by rw [nth_eq]; simp [Tryz.func173]
theorem hb_173 : hasBody Tryz.prog 173 = true := by kernel_rfl
theorem res_173 : Tryz.f173.results.toList = [.tmp 2, .tmp 3, .tmp 4] := by kernel_rfl
theorem fun_174 : nth Tryz.prog.funcs.toList 174 = some Tryz.f174 := by rw [nth_eq]; simp [Tryz.func174]
theorem hb_174 : hasBody Tryz.prog 174 = true := by kernel_rfl
theorem res_174 : Tryz.f174.results.toList = [.cell 5 45, .tmp 6] := by kernel_rfl
theorem fun_175 : nth Tryz.prog.funcs.toList 175 = some Tryz.f175 := by rw [nth_eq]; simp [Tryz.func175]
theorem hb_175 : hasBody Tryz.prog 175 = true := by kernel_rfl
theorem res_175 : Tryz.f175.results.toList = [.tmp 4, .tmp 5] := by kernel_rfl
theorem fun_176 : nth Tryz.prog.funcs.toList 176 = some Tryz.f176 := by rw [nth_eq]; simp [Tryz.func176]
theorem hb_176 : hasBody Tryz.prog 176 = true := by kernel_rfl
theorem res_176 : Tryz.f176.results.toList = [.tmp 2] := by kernel_rfl
theorem fun_177 : nth Tryz.prog.funcs.toList 177 = some Tryz.f177 := by rw [nth_eq]; simp [Tryz.func177]
theorem hb_177 : hasBody Tryz.prog 177 = true := by kernel_rfl
theorem res_177 : Tryz.f177.results.toList = [.tmp 6, .tmp 7] := by kernel_rfl
theorem fun_178 : nth Tryz.prog.funcs.toList 178 = some Tryz.f178 := by rw [nth_eq]; simp [Tryz.func178]
theorem hb_178 : hasBody Tryz.prog 178 = true := by kernel_rfl
theorem res_178 : Tryz.f178.results.toList = [.tmp 6, .tmp 7] := by kernel_rfl
theorem fun_179 : nth Tryz.prog.funcs.toList 179 = some Tryz.f179 := by rw [nth_eq]; simp [Tryz.func179]
theorem hb_179 : hasBody Tryz.prog 179 = true := by kernel_rfl
theorem res_179 : Tryz.f179.results.toList = [.tmp 4] := by kernel_rfl
theorem fun_185 : nth Tryz.prog.funcs.toList 185 = some Tryz.f185 := by rw [nth_eq]; simp [Tryz.func185]
theorem hb_185 : hasBody Tryz.prog 185 = true := by kernel_rfl
theorem res_185 : Tryz.f185.results.toList = [.tmp 4] := by kernel_rfl
theorem fun_186 : nth Tryz.prog.funcs.toList 186 = some Tryz.f186 := by rw [nth_eq]; simp [Tryz.func186]
theorem hb_186 : hasBody Tryz.prog 186 = true := by kernel_rfl
theorem res_186 : Tryz.f186.results.toList = [.tmp 2] := by kernel_rfl
theorem fun_187 : nth Tryz.prog.funcs.toList 187 = some Tryz.f187 := by rw [nth_eq]; simp [Tryz.func187]
theorem hb_187 : hasBody Tryz.prog 187 = true := by kernel_rfl
theorem res_187 : Tryz.f187.results.toList = [.tmp 2] := by kernel_rfl
theorem fun_188 : nth Tryz.prog.funcs.toList 188 = some Tryz.f188 := by rw [nth_eq]; simp [Tryz.func188]
theorem hb_188 : hasBody Tryz.prog 188 = true := by kernel_rfl
theorem res_188 : Tryz.f188.results.toList = [.tmp 2] := by kernel_rfl
theorem fun_189 : nth Tryz.prog.funcs.toList 189 = some Tryz.f189 := by rw [nth_eq]; simp [Tryz.func189]
theorem hb_189 : hasBody Tryz.prog 189 = true := by kernel_rfl
theorem res_189 : Tryz.f189.results.toList = [.tmp 4] := by kernel_rfl
theorem fun_190 : nth Tryz.prog.funcs.toList 190 = some Tryz.f190 := by rw [nth_eq]; simp [Tryz.func190]
theorem hb_190 : hasBody Tryz.prog 190 = true := by kernel_rfl
theorem res_190 : Tryz.f190.results.toList = [.tmp 4] := by kernel_rfl
theorem fun_195 : nth Tryz.prog.funcs.toList 195 = some Tryz.f195 := by rw [nth_eq]; simp [Tryz.func195]
theorem hb_195 : hasBody Tryz.prog 195 = true := by kernel_rfl
theorem res_195 : Tryz.f195.results.toList = [.cell 2 45, .tmp 3] := by kernel_rfl
theorem fun_196 : nth Tryz.prog.funcs.toList 196 = some Tryz.f196 := by rw [nth_eq]; simp [Tryz.func196]
theorem hb_196 : hasBody Tryz.prog 196 = true := by kernel_rfl
theorem res_196 : Tryz.f196.results.toList = [.tmp 7, .tmp 8] := by kernel_rfl
theorem fun_197 : nth Tryz.prog.funcs.toList 197 = some Tryz.f197 := by rw [nth_eq]; simp [Tryz.func197]
theorem hb_197 : hasBody Tryz.prog 197 = true := by kernel_rfl
theorem res_197 : Tryz.f197.results.toList = [.tmp 6, .tmp 7] := by kernel_rfl
theorem fun_198 : nth Tryz.prog.funcs.toList 198 = some Tryz.f198 := by rw [nth_eq]; simp [Tryz.func198]
theorem hb_198 : hasBody Tryz.prog 198 = true := by kernel_rfl
theorem res_198 : Tryz.f198.results.toList = [.tmp 2] := by kernel_rfl
theorem fun_201 : nth Tryz.prog.funcs.toList 201 = some Tryz.f201 := by rw [nth_eq]; simp [Tryz.func201]
theorem hb_201 : hasBody Tryz.prog 201 = true := by kernel_rfl
theorem res_201 : Tryz.f201.results.toList = [.tmp 4] := by kernel_rfl
theorem fun_202 : nth Tryz.prog.funcs.toList 202 = some Tryz.f202 := by rw [nth_eq]; simp [Tryz.func202]
theorem hb_202 : hasBody Tryz.prog 202 = true := by kernel_rfl
theorem res_202 : Tryz.f202.results.toList = [.tmp 2] := by kernel_rfl
theorem fun_203 : nth Tryz.prog.funcs.toList 203 = some Tryz.f203 := by rw [nth_eq]; simp [Tryz.func203]
theorem hb_203 : hasBody Tryz.prog 203 = true := by kernel_rfl
theorem res_203 : Tryz.f203.results.toList = [.tmp 2] := by kernel_rfl
theorem fun_206 : nth Tryz.prog.funcs.toList 206 = some Tryz.f206 := by rw [nth_eq]; simp [Tryz.func206]
theorem hb_206 : hasBody Tryz.prog 206 = true := by kernel_rfl
theorem res_206 : Tryz.f206.results.toList = [.tmp 2, .tmp 3] := by kernel_rfl
theorem fun_207 : nth Tryz.prog.funcs.toList 207 = some Tryz.f207 := by rw [nth_eq]; simp [Tryz.func207]
theorem hb_207 : hasBody Tryz.prog 207 = true := by kernel_rfl
theorem res_207 : Tryz.f207.results.toList = [.tmp 2] := by kernel_rfl
theorem fun_217 : nth Tryz.prog.funcs.toList 217 = some Tryz.f217 := by rw [nth_eq]; simp [Tryz.func217]
theorem hb_217 : hasBody Tryz.prog 217 = true := by kernel_rfl
theorem res_217 : Tryz.f217.results.toList = [.tmp 6] := by kernel_rfl
theorem fun_218 : nth Tryz.prog.funcs.toList 218 = some Tryz.f218 := by rw [nth_eq]; simp [Tryz.func218]
theorem hb_218 : hasBody Tryz.prog 218 = true := by kernel_rfl
theorem res_218 : Tryz.f218.results.toList = [.tmp 2] := by kernel_rfl
theorem thaw_8 : CC.thaw 8 = false := by kernel_rfl
theorem thaw_51 : CC.thaw 51 = false := by kernel_rfl
theorem thaw_53 : CC.thaw 53 = false := by kernel_rfl
theorem thaw_109 : CC.thaw 109 = false := by kernel_rfl
theorem thaw_133 : CC.thaw 133 = false := by kernel_rfl
theorem thaw_135 : CC.thaw 135 = false := by kernel_rfl
theorem thaw_137 : CC.thaw 137 = false := by kernel_rfl
theorem thaw_139 : CC.thaw 139 = false := by kernel_rfl
theorem thaw_142 : CC.thaw 142 = false := by kernel_rfl
theorem thaw_173 : CC.thaw 173 = false := by kernel_rfl
theorem thaw_174 : CC.thaw 174 = false := by kernel_rfl
theorem thaw_196 : CC.thaw 196 = false := by kernel_rfl
end Go.Ab
/- Rules by which a region is gone through where a guard's truth is open. -/
namespace Go.Ab

/-- What a region's run comes to. -/
def RW (x : Option (Option AV × Env × Heap)) (Q : Env → Heap → Prop) : Prop := ∃ T h, x = some (none, T, h) ∧ Q T h
def RR (x : Option (List Rec × Env × Heap)) (Q : List Rec → Env → Heap → Prop) : Prop := ∃ l T h, x = some (l, T, h) ∧ Q l T h

/-- The first operation, once it is told whether it is carried out. -/
def gdL (b : Option Bool) (C : Cfg) (ρ : Oracle) (ops : List Oper) (o : Oper) (rest : List Oper) (T : Env) (h : Heap) : Option (Option AV × Env × Heap) :=
  match b with
  | none => none
  | some false => runOps C ρ ops rest (putT T o.dst .nov) h
  | some true => match exec1 C ρ (nth h) h.length T o with
      | none => none
      | some (.pan v, p) => some (some v, T, patch h p)
      | some (.val v, p) => runOps C ρ ops rest (putT T o.dst v) (patch h p)

theorem runOps_cons (C : Cfg) (ρ : Oracle) (ops : List Oper) (o : Oper) (rest : List Oper) (T : Env) (h : Heap) :
    runOps C ρ ops (o :: rest) T h = gdL (wanted ops T o) C ρ ops o rest T h := by
  rw [runOps]; unfold gdL; rfl
theorem gdL_true (C : Cfg) (ρ : Oracle) (ops : List Oper) (o : Oper) (rest : List Oper) (T : Env) (h : Heap) : gdL (some true) C ρ ops o rest T h = match exec1 C ρ (nth h) h.length T o with
      | none => none
      | some (.pan v, p) => some (some v, T, patch h p)
      | some (.val v, p) => runOps C ρ ops rest (putT T o.dst v) (patch h p) := rfl
theorem gdL_false (C : Cfg) (ρ : Oracle) (ops : List Oper) (o : Oper) (rest : List Oper) (T : Env) (h : Heap) : gdL (some false) C ρ ops o rest T h = runOps C ρ ops rest (putT T o.dst .nov) h := rfl

/-- What a record is put ahead of. -/
def consR (r : Rec) (x : Option (List Rec × Env × Heap)) : Option (List Rec × Env × Heap) :=
  match x with
  | none => none
  | some (l, T, h) => some (r :: l, T, h)

def gdR (b : Option Bool) (C : Cfg) (ρ : Oracle) (ops : List Oper) (o : Oper) (rest : List Oper) (T : Env) (h : Heap) : Option (List Rec × Env × Heap) :=
  match b with
  | none => none
  | some false => consR ⟨[], .nov, []⟩ (runRec C ρ ops rest (putT T o.dst .nov) h)
  | some true => match exec1 C ρ (nth h) h.length T o with
      | none => none
      | some (.pan _, _) => none
      | some (.val v, p) => match gapless h.length p with
        | false => none
        | true => consR ⟨foot C (nth h) T o, v, p⟩ (runRec C ρ ops rest (putT T o.dst v) (patch h p))

theorem runRec_cons (C : Cfg) (ρ : Oracle) (ops : List Oper) (o : Oper) (rest : List Oper) (T : Env) (h : Heap) :
    runRec C ρ ops (o :: rest) T h = gdR (wanted ops T o) C ρ ops o rest T h := by
  rw [runRec]; unfold gdR consR; rfl
theorem gdR_true (C : Cfg) (ρ : Oracle) (ops : List Oper) (o : Oper) (rest : List Oper) (T : Env) (h : Heap) : gdR (some true) C ρ ops o rest T h = match exec1 C ρ (nth h) h.length T o with
      | none => none
      | some (.pan _, _) => none
      | some (.val v, p) => match gapless h.length p with
        | false => none
        | true => consR ⟨foot C (nth h) T o, v, p⟩ (runRec C ρ ops rest (putT T o.dst v) (patch h p)) := rfl
theorem gdR_false (C : Cfg) (ρ : Oracle) (ops : List Oper) (o : Oper) (rest : List Oper) (T : Env) (h : Heap) : gdR (some false) C ρ ops o rest T h = consR ⟨[], .nov, []⟩ (runRec C ρ ops rest (putT T o.dst .nov) h) := rfl
theorem consR_some (r : Rec) (l : List Rec) (T : Env) (h : Heap) : consR r (some (l, T, h)) = some (r :: l, T, h) := rfl

theorem RW_eq {x y : Option (Option AV × Env × Heap)} {Q : Env → Heap → Prop} (h : x = y) (hq : RW y Q) : RW x Q := h ▸ hq
theorem RW_some {T : Env} {h : Heap} {Q : Env → Heap → Prop} (hq : Q T h) : RW (some (none, T, h)) Q := ⟨T, h, rfl, hq⟩
theorem RW_gd {b : Bool} {C : Cfg} {ρ : Oracle} {ops : List Oper} {o : Oper} {rest : List Oper} {T : Env} {h : Heap} {Q : Env → Heap → Prop}
    (h1 : b = true → RW (match exec1 C ρ (nth h) h.length T o with
      | none => none
      | some (.pan v, p) => some (some v, T, patch h p)
      | some (.val v, p) => runOps C ρ ops rest (putT T o.dst v) (patch h p)) Q) (h2 : b = false → RW (runOps C ρ ops rest (putT T o.dst .nov) h) Q) : RW (gdL (some b) C ρ ops o rest T h) Q := by
  cases b with
  | true => exact h1 rfl
  | false => exact h2 rfl
theorem RW_gdn {b : Bool} {C : Cfg} {ρ : Oracle} {ops : List Oper} {o : Oper} {rest : List Oper} {T : Env} {h : Heap} {Q : Env → Heap → Prop}
    (h1 : b = false → RW (match exec1 C ρ (nth h) h.length T o with
      | none => none
      | some (.pan v, p) => some (some v, T, patch h p)
      | some (.val v, p) => runOps C ρ ops rest (putT T o.dst v) (patch h p)) Q) (h2 : b = true → RW (runOps C ρ ops rest (putT T o.dst .nov) h) Q) : RW (gdL (some !b) C ρ ops o rest T h) Q := by
  cases b with
  | true => exact h2 rfl
  | false => exact h1 rfl
theorem RR_eq {x y : Option (List Rec × Env × Heap)} {Q : List Rec → Env → Heap → Prop} (h : x = y) (hq : RR y Q) : RR x Q := h ▸ hq
theorem RR_some {l : List Rec} {T : Env} {h : Heap} {Q : List Rec → Env → Heap → Prop} (hq : Q l T h) : RR (some (l, T, h)) Q := ⟨l, T, h, rfl, hq⟩
theorem RR_gd {b : Bool} {C : Cfg} {ρ : Oracle} {ops : List Oper} {o : Oper} {rest : List Oper} {T : Env} {h : Heap} {Q : List Rec → Env → Heap → Prop}
    (h1 : b = true → RR (match exec1 C ρ (nth h) h.length T o with
      | none => none
      | some (.pan _, _) => none
      | some (.val v, p) => match gapless h.length p with
        | false => none
        | true => consR ⟨foot C (nth h) T o, v, p⟩ (runRec C ρ ops rest (putT T o.dst v) (patch h p))) Q) (h2 : b = false → RR (consR ⟨[], .nov, []⟩ (runRec C ρ ops rest (putT T o.dst .nov) h)) Q) : RR (gdR (some b) C ρ ops o rest T h) Q := by
  cases b with
  | true => exact h1 rfl
  | false => exact h2 rfl
theorem RR_gdn {b : Bool} {C : Cfg} {ρ : Oracle} {ops : List Oper} {o : Oper} {rest : List Oper} {T : Env} {h : Heap} {Q : List Rec → Env → Heap → Prop}
    (h1 : b = false → RR (match exec1 C ρ (nth h) h.length T o with
      | none => none
      | some (.pan _, _) => none
      | some (.val v, p) => match gapless h.length p with
        | false => none
        | true => consR ⟨foot C (nth h) T o, v, p⟩ (runRec C ρ ops rest (putT T o.dst v) (patch h p))) Q) (h2 : b = true → RR (consR ⟨[], .nov, []⟩ (runRec C ρ ops rest (putT T o.dst .nov) h)) Q) : RR (gdR (some !b) C ρ ops o rest T h) Q := by
  cases b with
  | true => exact h2 rfl
  | false => exact h1 rfl
theorem RR_cons {r : Rec} {x : Option (List Rec × Env × Heap)} {Q : List Rec → Env → Heap → Prop} (h : RR x fun l T h => Q (r :: l) T h) : RR (consR r x) Q := by
  obtain ⟨l, T, h', rfl, h2⟩ := h; exact ⟨_, _, _, rfl, h2⟩

section
variable {C : Cfg} {m k : Nat} {keep : Nat → Option (List Nat)} {st : St} {Q : Ex → St → Prop}
theorem W_RW {id : Nat} {ops : Array Oper} (hd : dstOK k ops.toList = true) (hr : RW (runOps C (Om C) ops.toList ops.toList st.T st.h) fun T h => Q .normal ⟨T, h⟩) :
    W C m k keep (.region id ops false) st Q := by
  obtain ⟨T, h, h1, h2⟩ := hr; exact W_run hd h1 h2
theorem W_RR {id : Nat} {ops : Array Oper} (hs : static ops.toList = true) (hd : dstOK k ops.toList = true)
    (hr : RR (runRec C (Om C) ops.toList ops.toList st.T st.h) fun l T h => calm (masks ops.toList) (quietR (number 0 l)) = true ∧ Q .normal ⟨T, h⟩) :
    W C m k keep (.region id ops true) st Q := by
  obtain ⟨l, T, h, h1, h2, h3⟩ := hr; exact W_drawn hs hd h1 h2 h3
/-- An open truth. -/
theorem W_if {c : Operand} {a b : Code} {x : AV} {v : Bool} (hx : operand st.T c = x) (h : x = .t (.bool v)) (h1 : v = true → W C m k keep a st Q) (h2 : v = false → W C m k keep b st Q) :
    W C m k keep (.cond c a b) st Q := W_cond (hx.trans h) h1 h2
end
section
variable {C : Cfg} {m k : Nat} {keep : Nat → Option (List Nat)} {st : St} {Q : Ex → St → Prop} {b : Code}
/-- Behind one round of a loop: the loop again. -/
def onceW (C : Cfg) (m k : Nat) (keep : Nat → Option (List Nat)) (b : Code) (Q : Ex → St → Prop) : Ex → St → Prop
  | .normal, st => W C m k keep (.loop b) st Q
  | e, st => Q e st
/-- A loop's first round by itself. -/
theorem W_unroll {st1 : St} (h0 : tidy m (loopKeep keep b) st = some st1) (h : W C m k keep b st1 (onceW C m k keep b Q)) : W C m k keep (.loop b) st Q := by
  obtain ⟨n, e, st2, h2, h3⟩ := h
  cases e with
  | normal =>
    obtain ⟨n', e', st4, h6, h7⟩ := h3
    simp only [exec] at h6
    refine ⟨max n n' + 1, e', st4, ?_, h7⟩
    simp only [exec]
    show iter (tidy m (loopKeep keep b)) _ _ _ = _
    unfold iter
    rw [h0]
    dsimp only
    rw [exec_mono (by omega) h2]
    dsimp only
    obtain ⟨L, s1, s2⟩ := fin_iter (body := fun ρ n st => exec C ρ n m k keep b st) (gc := tidy m (loopKeep keep b)) (fun st => fin_exec C m k keep b st) n' st2 (Om C) n' _ h6
    exact s2 (Om C) (max n n' + 1) (max n n') (by omega) (by omega) s1
  | exit id =>
    refine ⟨n + 1, _, st2, ?_, h3⟩
    simp only [exec]
    show iter (tidy m (loopKeep keep b)) _ _ _ = _
    unfold iter
    rw [h0]
    dsimp only
    rw [exec_mono (by omega) h2]
  | ret =>
    refine ⟨n + 1, _, st2, ?_, h3⟩
    simp only [exec]
    show iter (tidy m (loopKeep keep b)) _ _ _ = _
    unfold iter
    rw [h0]
    dsimp only
    rw [exec_mono (by omega) h2]
  | pan v =>
    refine ⟨n + 1, _, st2, ?_, h3⟩
    simp only [exec]
    show iter (tidy m (loopKeep keep b)) _ _ _ = _
    unfold iter
    rw [h0]
    dsimp only
    rw [exec_mono (by omega) h2]
theorem once_normal (h : W C m k keep (.loop b) st Q) : onceW C m k keep b Q .normal st := h
theorem once_exit {id : Nat} (h : Q (.exit id) st) : onceW C m k keep b Q (.exit id) st := h
theorem once_ret (h : Q .ret st) : onceW C m k keep b Q .ret st := h
theorem once_pan {v : AV} (h : Q (.pan v) st) : onceW C m k keep b Q (.pan v) st := h
end
/-- A fact that simp is not to use. -/
structure Hid (p : Prop) : Prop where
  h : p
theorem runOps_nil (C : Cfg) (ρ : Oracle) (ops : List Oper) (T : Env) (h : Heap) : runOps C ρ ops [] T h = some (none, T, h) := by rw [runOps]
theorem runRec_nil (C : Cfg) (ρ : Oracle) (ops : List Oper) (T : Env) (h : Heap) : runRec C ρ ops [] T h = some ([], T, h) := by rw [runRec]

theorem ends_ret {C : Cfg} {f : FuncId} {fn : Func} {m : Nat} {R : Out → Heap → Prop} {st : St} {v v' : AV} {h' : Heap} (h1 : results C.P fn st = some v) (h2 : finish C f m v st.h = some (v', h')) (h3 : R (.val v') h') : ends C f fn m R .ret st :=
  ⟨v, h1, v', h', h2, h3⟩
theorem ends_normal {C : Cfg} {f : FuncId} {fn : Func} {m : Nat} {R : Out → Heap → Prop} {st : St} {v v' : AV} {h' : Heap} (h1 : results C.P fn st = some v) (h2 : finish C f m v st.h = some (v', h')) (h3 : R (.val v') h') : ends C f fn m R .normal st :=
  ⟨v, h1, v', h', h2, h3⟩
theorem Ends'_ret {C : Cfg} {f : FuncId} {fn : Func} {m : Nat} {st : St} {v w v' : AV} {h h' : Heap} (h1 : results C.P fn st = some v) (h2 : finish C f m v st.h = some (w, h)) (h3 : w = v') (h4 : h = h') : Ends' C f fn m v' h' .ret st :=
  ⟨v, h1, by rw [h2, h3, h4]⟩
theorem finish_tup2 (C : Cfg) (f : FuncId) (x y : Tree) (h : Heap) : finish C f 0 (.tup [.t x, .t y]) h = some (.tup [.t x, .t y], []) := by
  unfold finish; cases C.thaw f <;> rfl
theorem finish_tup3 (C : Cfg) (f : FuncId) (x y z : Tree) (h : Heap) : finish C f 0 (.tup [.t x, .t y, .t z]) h = some (.tup [.t x, .t y, .t z], []) := by
  unfold finish; cases C.thaw f <;> rfl
theorem call_ex {C : Cfg} {f : FuncId} {fn : Func} {c : Code} {args : List AV} {h : Heap} {α : Type} {F : α → AV} {P : α → Prop} (hf : nth C.P.funcs.toList f = some fn) (hb : fn.body = some c)
    (hw : W C h.length fn.ntmps (C.keep f) c ⟨argsT 0 args, h⟩ (ends C f fn h.length fun o h' => ∃ a, (o = .val (F a) ∧ h' = []) ∧ P a)) : ∃ a, Om C f args h = some (.val (F a), []) ∧ P a := by
  obtain ⟨o, h', h1, a, ⟨rfl, rfl⟩, h2⟩ := call_of_W hf hb hw
  exact ⟨a, h1, h2⟩

theorem call_exh {C : Cfg} {f : FuncId} {fn : Func} {c : Code} {args : List AV} {h hr : Heap} {α : Type} {F : α → AV} {P : α → Prop} (hf : nth C.P.funcs.toList f = some fn) (hb : fn.body = some c)
    (hw : W C h.length fn.ntmps (C.keep f) c ⟨argsT 0 args, h⟩ (ends C f fn h.length fun o h' => ∃ a, (o = .val (F a) ∧ h' = hr) ∧ P a)) : ∃ a, Om C f args h = some (.val (F a), hr) ∧ P a := by
  obtain ⟨o, h', h1, a, ⟨rfl, rfl⟩, h2⟩ := call_of_W hf hb hw
  exact ⟨a, h1, h2⟩

theorem b00 : decide (0 < 0) = false := rfl
theorem b01 : decide (0 < 1) = true := rfl
theorem b02 : decide (0 < 2) = true := rfl
theorem b03 : decide (0 < 3) = true := rfl
theorem b04 : decide (0 < 4) = true := rfl
theorem b10 : decide (1 < 0) = false := rfl
theorem b11 : decide (1 < 1) = false := rfl
theorem b12 : decide (1 < 2) = true := rfl
theorem b13 : decide (1 < 3) = true := rfl
theorem b14 : decide (1 < 4) = true := rfl
theorem b20 : decide (2 < 0) = false := rfl
theorem b21 : decide (2 < 1) = false := rfl
theorem b22 : decide (2 < 2) = false := rfl
theorem b23 : decide (2 < 3) = true := rfl
theorem b24 : decide (2 < 4) = true := rfl
theorem b30 : decide (3 < 0) = false := rfl
theorem b31 : decide (3 < 1) = false := rfl
theorem b32 : decide (3 < 2) = false := rfl
theorem b33 : decide (3 < 3) = false := rfl
theorem b34 : decide (3 < 4) = true := rfl
theorem b40 : decide (4 < 0) = false := rfl
theorem b41 : decide (4 < 1) = false := rfl
theorem b42 : decide (4 < 2) = false := rfl
theorem b43 : decide (4 < 3) = false := rfl
theorem b44 : decide (4 < 4) = false := rfl

/-! ### Numbers of any kind -/
section
variable (P : Program) (t : TypeId) (k k' : IntKind) (a b : Int)
theorem int_add : binop P .add t (.t (.int k a)) (.t (.int k b)) = some (.t (.int k (k.wrap (a + b)))) := by simp [binop, Go.binOp, Op.intArith, ofSem_pure, unscal]
theorem int_sub : binop P .sub t (.t (.int k a)) (.t (.int k b)) = some (.t (.int k (k.wrap (a - b)))) := by simp [binop, Go.binOp, Op.intArith, ofSem_pure, unscal]
theorem int_mul : binop P .mul t (.t (.int k a)) (.t (.int k b)) = some (.t (.int k (k.wrap (a * b)))) := by simp [binop, Go.binOp, Op.intArith, ofSem_pure, unscal]
theorem int_quo (h : b ≠ 0) : binop P .quo t (.t (.int k a)) (.t (.int k b)) = some (.t (.int k (k.wrap (a.tdiv b)))) := by simp [binop, Go.binOp, Op.intDiv, ofSem_pure, unscal, h]
theorem int_rem (h : b ≠ 0) : binop P .rem t (.t (.int k a)) (.t (.int k b)) = some (.t (.int k (a.tmod b))) := by simp [binop, Go.binOp, Op.intDiv, ofSem_pure, unscal, h]
/-- Bits of two numbers. -/
def bitsTo (op : BinOp) (k : IntKind) (a b : Int) : Int := match op with
  | .and => k.wrap (BitVec.ofInt k.bits a &&& BitVec.ofInt k.bits b).toNat
  | .or => k.wrap (BitVec.ofInt k.bits a ||| BitVec.ofInt k.bits b).toNat
  | .xor => k.wrap (BitVec.ofInt k.bits a ^^^ BitVec.ofInt k.bits b).toNat
  | _ => k.wrap (BitVec.ofInt k.bits a &&& ~~~ BitVec.ofInt k.bits b).toNat
theorem int_and : binop P .and t (.t (.int k a)) (.t (.int k b)) = some (.t (.int k (bitsTo .and k a b))) := by simp [binop, Go.binOp, Op.intBits, ofSem_pure, unscal, bitsTo]
theorem int_or : binop P .or t (.t (.int k a)) (.t (.int k b)) = some (.t (.int k (bitsTo .or k a b))) := by simp [binop, Go.binOp, Op.intBits, ofSem_pure, unscal, bitsTo]
theorem int_xor : binop P .xor t (.t (.int k a)) (.t (.int k b)) = some (.t (.int k (bitsTo .xor k a b))) := by simp [binop, Go.binOp, Op.intBits, ofSem_pure, unscal, bitsTo]
theorem int_shl (h : 0 ≤ b) : binop P .shl t (.t (.int k a)) (.t (.int k' b)) = some (.t (.int k (k.wrap (a * 2 ^ min b.toNat k.bits)))) := by
  simp [binop, Go.binOp, Op.shift, ofSem_pure, unscal, Int.not_lt.2 h]
theorem int_shr (h : 0 ≤ b) : binop P .shr t (.t (.int k a)) (.t (.int k' b)) = some (.t (.int k (a.fdiv (2 ^ min b.toNat k.bits)))) := by
  simp [binop, Go.binOp, Op.shift, ofSem_pure, unscal, Int.not_lt.2 h]
theorem u64_shr (n : Nat) (hn : n < 64) : binop P .shr t (.t (.int .u64 a)) (.t (.int k' (n : Int))) = some (.t (.int .u64 (a / 2 ^ n))) := by
  rw [int_shr P t .u64 k' a n (by omega)]
  have h1 : min (n : Int).toNat IntKind.u64.bits = n := by simp [IntKind.bits]; omega
  rw [h1, Int.fdiv_eq_ediv_of_nonneg _ (Int.pow_nonneg (by decide))]
theorem u64_shr32 : binop P .shr t (.t (.int .u64 a)) (.t (.int k' 32)) = some (.t (.int .u64 (a / 4294967296))) := u64_shr P t k' a 32 (by decide)
theorem u64_shr16 : binop P .shr t (.t (.int .u64 a)) (.t (.int k' 16)) = some (.t (.int .u64 (a / 65536))) := u64_shr P t k' a 16 (by decide)
theorem u64_shr8 : binop P .shr t (.t (.int .u64 a)) (.t (.int k' 8)) = some (.t (.int .u64 (a / 256))) := u64_shr P t k' a 8 (by decide)
theorem int_neg : unop .neg (.t (.int k a)) = some (.t (.int k (k.wrap (0 - a)))) := by simp [unop, scal, Op.unary, Op.intArith, ofSem_pure, unscal]
theorem str_lss (x y : List Nat) : binop P .lss t (.t (.str x)) (.t (.str y)) = some (.t (.bool (bytesLess x y))) := rfl
theorem str_gtr (x y : List Nat) : binop P .gtr t (.t (.str x)) (.t (.str y)) = some (.t (.bool !(bytesLess x y || beqL x y))) := rfl
theorem str_leq (x y : List Nat) : binop P .leq t (.t (.str x)) (.t (.str y)) = some (.t (.bool (bytesLess x y || beqL x y))) := rfl
theorem str_geq (x y : List Nat) : binop P .geq t (.t (.str x)) (.t (.str y)) = some (.t (.bool !(bytesLess x y))) := rfl
end

/-- A number of 64 bits without a sign. -/
def U64 (n : Int) : Prop := 0 ≤ n ∧ n < 18446744073709551616
theorem wrap_u64 (x : Int) : IntKind.u64.wrap x = x % 18446744073709551616 := by simp [IntKind.wrap, IntKind.signed, IntKind.bits]
theorem U64_wrap (x : Int) : U64 (IntKind.u64.wrap x) := by rw [wrap_u64]; unfold U64; omega

/-- A number of 64 bits. -/
def R64 (n : Int) : Prop := -9223372036854775808 ≤ n ∧ n < 9223372036854775808
theorem R64_wrap (x : Int) : R64 (IntKind.i64.wrap x) := by
  simp only [R64, IntKind.wrap, IntKind.signed, IntKind.bits, Bool.true_and]
  split <;> rename_i h1 <;> simp at h1 <;> omega
theorem R64_lit : R64 0 ∧ R64 1 := by simp [R64]

/-! ### The walk -/

/-- What is to be shown follows from another thing. -/
class Fol (p : Prop) (q : outParam Prop) : Prop where
  h : q → p
theorem fol {p q : Prop} [s : Fol p q] (h : q) : p := s.h h
class Fol2 (p : Prop) (q r : outParam Prop) : Prop where
  h : q → r → p
theorem fol2 {p q r : Prop} [s : Fol2 p q r] (h : q) (h' : r) : p := s.h h h'

section
variable {C : Cfg} {m k : Nat} {keep : Nat → Option (List Nat)} {st : St} {Q : Ex → St → Prop} {a b : Code} {id : Nat} {v : AV}
instance : Fol (onceW C m k keep b Q .normal st) (W C m k keep (.loop b) st Q) := ⟨once_normal⟩
instance : Fol (onceW C m k keep b Q (.exit id) st) (Q (.exit id) st) := ⟨once_exit⟩
instance : Fol (onceW C m k keep b Q .ret st) (Q .ret st) := ⟨once_ret⟩
instance : Fol (onceW C m k keep b Q (.pan v) st) (Q (.pan v) st) := ⟨once_pan⟩
instance : Fol (thenW C m k keep b Q .normal st) (W C m k keep b st Q) := ⟨thenW_normal⟩
instance : Fol (thenW C m k keep b Q (.exit id) st) (Q (.exit id) st) := ⟨thenW_exit⟩
instance : Fol (thenW C m k keep b Q .ret st) (Q .ret st) := ⟨thenW_ret⟩
instance : Fol (thenW C m k keep b Q (.pan v) st) (Q (.pan v) st) := ⟨thenW_pan⟩
instance : Fol (outOf id Q .normal st) (Q .normal st) := ⟨outOf_normal⟩
instance : Fol (outOf id Q (.exit id) st) (Q .normal st) := ⟨outOf_eq⟩
instance : Fol (outOf id Q .ret st) (Q .ret st) := ⟨outOf_ret⟩
instance : Fol (outOf id Q (.pan v) st) (Q (.pan v) st) := ⟨outOf_pan⟩
instance : Fol (W C m k keep (.seq a b) st Q) (W C m k keep a st (thenW C m k keep b Q)) := ⟨W_seq⟩
instance : Fol (W C m k keep (.block id b) st Q) (W C m k keep b st (outOf id Q)) := ⟨W_block⟩
instance : Fol (W C m k keep (.scope b) st Q) (W C m k keep b st Q) := ⟨W_scope⟩
instance : Fol (W C m k keep .skip st Q) (Q .normal st) := ⟨W_skip⟩
instance : Fol (W C m k keep .ret st Q) (Q .ret st) := ⟨W_ret⟩
instance : Fol (W C m k keep (.exit id) st Q) (Q (.exit id) st) := ⟨W_exit⟩
instance : Fol (W C m k keep (.label id) st Q) (Q .normal st) := ⟨W_label⟩
section
variable {α : Type} {ks : Option (List Nat)} {S : α → St} {μ : α → Nat} {P : α → Prop} {a : α}
instance : Fol (again m ks S μ P a Q (.exit id) st) (Q (.exit id) st) := ⟨again_exit⟩
instance : Fol (again m ks S μ P a Q .ret st) (Q .ret st) := ⟨again_ret⟩
instance : Fol (again m ks S μ P a Q (.pan v) st) (Q (.pan v) st) := ⟨again_pan⟩
end
theorem aRW {ops : Array Oper} (hr : RW (runOps C (Om C) ops.toList ops.toList st.T st.h) fun T h => Q .normal ⟨T, h⟩) (hd : dstOK k ops.toList = true := by kernel_rfl) :
    W C m k keep (.region id ops false) st Q := W_RW hd hr
theorem aRR {ops : Array Oper} (hr : RR (runRec C (Om C) ops.toList ops.toList st.T st.h) fun l T h => calm (masks ops.toList) (quietR (number 0 l)) = true ∧ Q .normal ⟨T, h⟩)
    (hs : static ops.toList = true := by kernel_rfl) (hd : dstOK k ops.toList = true := by kernel_rfl) : W C m k keep (.region id ops true) st Q := W_RR hs hd hr
theorem aCd {c : Operand} {v : Bool} (h1 : v = true → W C m k keep a st Q) (h2 : v = false → W C m k keep b st Q) (h : operand st.T c = .t (.bool v) := by (simp only [operand, Ab.get, lit, lit1, Nat.beq, *]; exact rfl)) :
    W C m k keep (.cond c a b) st Q := W_cond h h1 h2
theorem aOn {id' : Nat} (h : Q (.exit id') st) (hn : Nat.beq id' id = false := by kernel_rfl) : outOf id Q (.exit id') st := outOf_ne hn h
end
section
variable {b : Bool} {C : Cfg} {ρ : Oracle} {ops : List Oper} {o : Oper} {rest : List Oper} {T : Env} {h : Heap}
instance {Q : Env → Heap → Prop} : Fol (RW (some (none, T, h)) Q) (Q T h) := ⟨RW_some⟩
instance {Q : List Rec → Env → Heap → Prop} {r : Rec} {x : Option (List Rec × Env × Heap)} : Fol (RR (consR r x) Q) (RR x fun l T h => Q (r :: l) T h) := ⟨RR_cons⟩
theorem aE1 {x y : Option (Option AV × Env × Heap)} {Q : Env → Heap → Prop} (hq : RW y Q) (h : x = y := by (simp only [beq_true, beq_false, Bool.true_beq, Bool.false_beq, decide_true, decide_false, Int.ofNat_eq_natCast, List.length_map, List.getElem?_map, Option.map_some, wanted, exec1, xPick, xAlloc, xBox, xCall, xBuiltin, xLen, xStore, xExtract, xIndexAddr, xIndex, cellsOf, operand, opds, opdsI, get, putT, ret, retO, lit, lit1, patch, put1, load, loadCells, cut, addOff, mkAgg, trees, nth, lenOf, indexAddr, storeAt, upd, splice, isCell, nilcheck, CC_P, bool_eql, bool_neq, i64_add, i64_sub, i64_mul, u64_shr32, u64_shr16, u64_shr8, convert, int_add, int_sub, int_mul, int_and, int_or, int_xor, int_neg, str_lss, str_gtr, str_leq, str_geq, maxmin, int_lss, int_leq, int_gtr, int_geq, int_eql, int_neq, str_eql, str_neq, not_bool, idx_nat, Nat.beq, beq_self_eq_true, Nat.zero_add, Nat.add_zero, List.toList_toArray, List.map_cons, List.map_nil, List.length_cons, List.length_nil, List.take, List.drop, List.all_cons, List.all_nil, List.cons_append, List.nil_append, List.append_nil, Bool.and_true, Bool.true_and, Bool.not_true, Bool.not_false, Bool.and_self, if_true, if_false, reduceIte, Nat.reduceAdd, Nat.reduceLeDiff, Nat.reduceEqDiff, Sl.t, Val.c, Slot.c, Tpl.c, Fact.c, Bind.c, Node.c, Test.c, STest.c, Pat.c, intC, and_self, true_and, and_true, b00, b01, b02, b03, b04, b10, b11, b12, b13, b14, b20, b21, b22, b23, b24, b30, b31, b32, b33, b34, b40, b41, b42, b43, b44, callF, callIn, reach, refsL, refs, refsO, catMap, depth, sub, sub1, renL, ren, renO, mem, place, fresh, import1, plain, plainT, back, backL, backO, backAll, Way.id, Way.ver, versOf, verOf, getN, view, viewed, freeze, CC_byRef, CC_prim, ne_eq, not_false_eq_true, cond_true, cond_false, blt_dec, Option.getD_some, elems, fillCells, xBuildSlice, purifyAll, litElems, litElems.go, mkArr, treesL, setN, List.replicate, Nat.mul_one, Nat.reduceMul, Nat.reduceLT, append, added, lens, headLen, runOps_cons, runOps_nil, gdL_true, gdL_false, Int.toNat_natCast, bne_self_eq_false, true_or, Nat.reduceLT, F_, *]; exact rfl)) : RW x Q := h ▸ hq
theorem aE2 {x y : Option (List Rec × Env × Heap)} {Q : List Rec → Env → Heap → Prop} (hq : RR y Q) (h : x = y := by (simp only [beq_true, beq_false, Bool.true_beq, Bool.false_beq, decide_true, decide_false, Int.ofNat_eq_natCast, List.length_map, List.getElem?_map, Option.map_some, wanted, exec1, xPick, xAlloc, xBox, xCall, xBuiltin, xLen, xStore, xExtract, xIndexAddr, xIndex, cellsOf, operand, opds, opdsI, get, putT, ret, retO, lit, lit1, patch, put1, load, loadCells, cut, addOff, mkAgg, trees, nth, lenOf, indexAddr, storeAt, upd, splice, isCell, nilcheck, CC_P, bool_eql, bool_neq, i64_add, i64_sub, i64_mul, u64_shr32, u64_shr16, u64_shr8, convert, int_add, int_sub, int_mul, int_and, int_or, int_xor, int_neg, str_lss, str_gtr, str_leq, str_geq, maxmin, int_lss, int_leq, int_gtr, int_geq, int_eql, int_neq, str_eql, str_neq, not_bool, idx_nat, Nat.beq, beq_self_eq_true, Nat.zero_add, Nat.add_zero, List.toList_toArray, List.map_cons, List.map_nil, List.length_cons, List.length_nil, List.take, List.drop, List.all_cons, List.all_nil, List.cons_append, List.nil_append, List.append_nil, Bool.and_true, Bool.true_and, Bool.not_true, Bool.not_false, Bool.and_self, if_true, if_false, reduceIte, Nat.reduceAdd, Nat.reduceLeDiff, Nat.reduceEqDiff, Sl.t, Val.c, Slot.c, Tpl.c, Fact.c, Bind.c, Node.c, Test.c, STest.c, Pat.c, intC, and_self, true_and, and_true, b00, b01, b02, b03, b04, b10, b11, b12, b13, b14, b20, b21, b22, b23, b24, b30, b31, b32, b33, b34, b40, b41, b42, b43, b44, callF, callIn, reach, refsL, refs, refsO, catMap, depth, sub, sub1, renL, ren, renO, mem, place, fresh, import1, plain, plainT, back, backL, backO, backAll, Way.id, Way.ver, versOf, verOf, getN, view, viewed, freeze, CC_byRef, CC_prim, ne_eq, not_false_eq_true, cond_true, cond_false, blt_dec, Option.getD_some, elems, fillCells, xBuildSlice, purifyAll, litElems, litElems.go, mkArr, treesL, setN, List.replicate, Nat.mul_one, Nat.reduceMul, Nat.reduceLT, append, added, lens, headLen, runRec_cons, runRec_nil, consR_some, gapless, foot, footF, names, namesL, gdR_true, gdR_false, Int.toNat_natCast, bne_self_eq_false, true_or, Nat.reduceLT, F_, *]; exact rfl)) : RR x Q := h ▸ hq
theorem aRs {l : List Rec} {T : Env} {h : Heap} {A B : List Rec → Env → Heap → Prop} (hq : B l T h) (hc : A l T h := by kernel_rfl) : RR (some (l, T, h)) fun l T h => A l T h ∧ B l T h := RR_some ⟨hc, hq⟩
end
end Go.Ab
/- Layer 1 (num), and Go's own product and quotient of 128 bits: each function answers. -/
namespace Go.Ab
open Go.Proofs
set_option maxRecDepth 100000
set_option maxHeartbeats 4000000
set_option linter.unusedSimpArgs false
set_option linter.unusedVariables false
theorem size_run (n : Int) : ∃ u : Int, Om CC 176 [.t (.int .i64 n)] [] = some (.val (.t (.int .u64 u)), []) ∧ U64 u ∧ (R64 n → n ≠ 0 → u ≠ 0) := by
  refine call_ex (F := fun u : Int => .t (.int .u64 u)) fun_176 rfl ?_
  (have F_ : _ ∧ _ ∧ _ ∧ _ ∧ _ ∧ _ ∧ _ ∧ _ ∧ _ ∧ _ ∧ _ ∧ _ := ⟨und_2, size_2, agg_2, zero_2, zel_2, small_2, und_225, size_225, agg_225, zero_225, zel_225, small_225⟩; show W CC 0 10 (keepsOf 176) _ ⟨[(0, _)], []⟩ _)
  ((repeat' (first | with_reducible apply fol | with_reducible refine aRW ?_ | with_reducible refine aRR ?_ | with_reducible refine aRs ?_ | ((with_reducible first | apply RW_gdn | apply RR_gdn | apply RW_gd | apply RR_gd) <;> intro hg <;> first | (cases hg; done) | skip) | with_reducible refine aE1 ?_ | with_reducible refine aE2 ?_ | with_reducible refine aOn ?_ | ((with_reducible refine aCd ?_ ?_) <;> intro hv <;> first | (cases hv; done) | skip) | fail)))
  · ((with_reducible apply ends_ret); (focus (simp only [CC_P, results, resultsOf, resultOf, get, res_176, *]; exact rfl)); (focus (first | exact finish_tree' _ _ _ _ | exact finish_tup2 _ _ _ _ _ | exact finish_tup3 _ _ _ _ _ _)))
    refine ⟨_, ⟨rfl, rfl⟩, U64_wrap _, fun h h0 => ?_⟩
    simp only [wrap_u64, R64] at *
    omega
  · ((with_reducible apply ends_ret); (focus (simp only [CC_P, results, resultsOf, resultOf, get, res_176, *]; exact rfl)); (focus (first | exact finish_tree' _ _ _ _ | exact finish_tup2 _ _ _ _ _ | exact finish_tup3 _ _ _ _ _ _)))
    refine ⟨_, ⟨rfl, rfl⟩, U64_wrap _, fun h h0 => ?_⟩
    simp only [wrap_u64, R64] at *
    omega
noncomputable def Size (n : Int) : Int := (size_run n).choose
theorem size_ok' (n : Int) : Om CC 176 [.t (.int .i64 n)] [] = some (.val (.t (.int .u64 (Size n))), []) := (size_run n).choose_spec.1
theorem size_u (n : Int) : U64 (Size n) := (size_run n).choose_spec.2.1
theorem size_ne {n : Int} (h : R64 n) (h0 : n ≠ 0) : Size n ≠ 0 := (size_run n).choose_spec.2.2 h h0

theorem signed_run (neg : Bool) (hi : Int) (lo : Int) : ∃ x : Int × Int, Om CC 177 [.t (.bool neg), .t (.int .u64 hi), .t (.int .u64 lo)] [] = some (.val (.tup [.t (.int .i64 x.1), .t (.int .i64 x.2)]), []) ∧ R64 x.1 := by
  refine call_ex (F := fun x : Int × Int => .tup [.t (.int .i64 x.1), .t (.int .i64 x.2)]) fun_177 rfl ?_
  (have F_ : _ ∧ _ ∧ _ ∧ _ ∧ _ ∧ _ ∧ _ ∧ _ ∧ _ ∧ _ ∧ _ ∧ _ ∧ _ ∧ _ ∧ _ ∧ _ ∧ _ ∧ _ ∧ _ := ⟨und_2, size_2, agg_2, zero_2, zel_2, small_2, und_4, size_4, agg_4, zero_4, zel_4, small_4, noInt_4, und_225, size_225, agg_225, zero_225, zel_225, small_225⟩; show W CC 0 30 (keepsOf 177) _ ⟨[(0, _), (1, _), (2, _)], []⟩ _)
  ((repeat' (first | with_reducible apply fol | with_reducible refine aRW ?_ | with_reducible refine aRR ?_ | with_reducible refine aRs ?_ | ((with_reducible first | apply RW_gdn | apply RR_gdn | apply RW_gd | apply RR_gd) <;> intro hg <;> first | (cases hg; done) | skip) | with_reducible refine aE1 ?_ | with_reducible refine aE2 ?_ | with_reducible refine aOn ?_ | ((with_reducible refine aCd ?_ ?_) <;> intro hv <;> first | (cases hv; done) | skip) | fail)))
  all_goals (((with_reducible apply ends_ret); (focus (simp only [CC_P, results, resultsOf, resultOf, get, res_177, *]; exact rfl)); (focus (first | exact finish_tree' _ _ _ _ | exact finish_tup2 _ _ _ _ _ | exact finish_tup3 _ _ _ _ _ _))))
  all_goals exact ⟨(_, _), ⟨rfl, rfl⟩, by first | exact R64_wrap _ | (simp only [R64]; decide)⟩
noncomputable def Signed (neg : Bool) (hi : Int) (lo : Int) : Int × Int := (signed_run neg hi lo).choose
theorem signed_ok (neg : Bool) (hi : Int) (lo : Int) : Om CC 177 [.t (.bool neg), .t (.int .u64 hi), .t (.int .u64 lo)] [] = some (.val (.tup [.t (.int .i64 (Signed neg hi lo).1), .t (.int .i64 (Signed neg hi lo).2)]), []) := (signed_run neg hi lo).choose_spec.1
theorem signed_r (neg : Bool) (hi : Int) (lo : Int) : R64 (Signed neg hi lo).1 := (signed_run neg hi lo).choose_spec.2

theorem nAdd_run (a : Int) (b : Int) : ∃ x : Int × Int, Om CC 144 [.t (.int .i64 a), .t (.int .i64 b)] [] = some (.val (.tup [.t (.int .i64 x.1), .t (.int .i64 x.2)]), []) ∧ R64 x.1 := by
  refine call_ex (F := fun x : Int × Int => .tup [.t (.int .i64 x.1), .t (.int .i64 x.2)]) fun_144 rfl ?_
  (have F_ : _ ∧ _ ∧ _ ∧ _ ∧ _ ∧ _ ∧ _ ∧ _ ∧ _ ∧ _ ∧ _ ∧ _ ∧ _ := ⟨und_2, size_2, agg_2, zero_2, zel_2, small_2, und_4, size_4, agg_4, zero_4, zel_4, small_4, noInt_4⟩; show W CC 0 23 (keepsOf 144) _ ⟨[(0, _), (1, _)], []⟩ _)
  ((repeat' (first | with_reducible apply fol | with_reducible refine aRW ?_ | with_reducible refine aRR ?_ | with_reducible refine aRs ?_ | ((with_reducible first | apply RW_gdn | apply RR_gdn | apply RW_gd | apply RR_gd) <;> intro hg <;> first | (cases hg; done) | skip) | with_reducible refine aE1 ?_ | with_reducible refine aE2 ?_ | with_reducible refine aOn ?_ | ((with_reducible refine aCd ?_ ?_) <;> intro hv <;> first | (cases hv; done) | skip) | fail)))
  all_goals (((with_reducible apply ends_ret); (focus (simp only [CC_P, results, resultsOf, resultOf, get, res_144, *]; exact rfl)); (focus (first | exact finish_tree' _ _ _ _ | exact finish_tup2 _ _ _ _ _ | exact finish_tup3 _ _ _ _ _ _))))
  all_goals exact ⟨(_, _), ⟨rfl, rfl⟩, by first | exact R64_wrap _ | (simp only [R64]; decide)⟩
noncomputable def NAdd (a : Int) (b : Int) : Int × Int := (nAdd_run a b).choose
theorem nAdd_ok (a : Int) (b : Int) : Om CC 144 [.t (.int .i64 a), .t (.int .i64 b)] [] = some (.val (.tup [.t (.int .i64 (NAdd a b).1), .t (.int .i64 (NAdd a b).2)]), []) := (nAdd_run a b).choose_spec.1
theorem nAdd_r (a : Int) (b : Int) : R64 (NAdd a b).1 := (nAdd_run a b).choose_spec.2

theorem nSub_run (a : Int) (b : Int) : ∃ x : Int × Int, Om CC 145 [.t (.int .i64 a), .t (.int .i64 b)] [] = some (.val (.tup [.t (.int .i64 x.1), .t (.int .i64 x.2)]), []) ∧ R64 x.1 := by
  refine call_ex (F := fun x : Int × Int => .tup [.t (.int .i64 x.1), .t (.int .i64 x.2)]) fun_145 rfl ?_
  (have F_ : _ ∧ _ ∧ _ ∧ _ ∧ _ ∧ _ ∧ _ ∧ _ ∧ _ ∧ _ ∧ _ ∧ _ ∧ _ := ⟨und_2, size_2, agg_2, zero_2, zel_2, small_2, und_4, size_4, agg_4, zero_4, zel_4, small_4, noInt_4⟩; show W CC 0 23 (keepsOf 145) _ ⟨[(0, _), (1, _)], []⟩ _)
  ((repeat' (first | with_reducible apply fol | with_reducible refine aRW ?_ | with_reducible refine aRR ?_ | with_reducible refine aRs ?_ | ((with_reducible first | apply RW_gdn | apply RR_gdn | apply RW_gd | apply RR_gd) <;> intro hg <;> first | (cases hg; done) | skip) | with_reducible refine aE1 ?_ | with_reducible refine aE2 ?_ | with_reducible refine aOn ?_ | ((with_reducible refine aCd ?_ ?_) <;> intro hv <;> first | (cases hv; done) | skip) | fail)))
  all_goals (((with_reducible apply ends_ret); (focus (simp only [CC_P, results, resultsOf, resultOf, get, res_145, *]; exact rfl)); (focus (first | exact finish_tree' _ _ _ _ | exact finish_tup2 _ _ _ _ _ | exact finish_tup3 _ _ _ _ _ _))))
  all_goals exact ⟨(_, _), ⟨rfl, rfl⟩, by first | exact R64_wrap _ | (simp only [R64]; decide)⟩
noncomputable def NSub (a : Int) (b : Int) : Int × Int := (nSub_run a b).choose
theorem nSub_ok (a : Int) (b : Int) : Om CC 145 [.t (.int .i64 a), .t (.int .i64 b)] [] = some (.val (.tup [.t (.int .i64 (NSub a b).1), .t (.int .i64 (NSub a b).2)]), []) := (nSub_run a b).choose_spec.1
theorem nSub_r (a : Int) (b : Int) : R64 (NSub a b).1 := (nSub_run a b).choose_spec.2

theorem mul64_run (a b : Int) : ∃ x : Int × Int, Om CC 175 [.t (.int .u64 a), .t (.int .u64 b)] [] = some (.val (.tup [.t (.int .u64 x.1), .t (.int .u64 x.2)]), []) ∧ U64 x.1 ∧ U64 x.2 := by
  refine call_ex (F := fun x : Int × Int => .tup [.t (.int .u64 x.1), .t (.int .u64 x.2)]) fun_175 rfl ?_
  (have F_ : _ ∧ _ ∧ _ ∧ _ ∧ _ ∧ _ := ⟨und_225, size_225, agg_225, zero_225, zel_225, small_225⟩; show W CC 0 51 (keepsOf 175) _ ⟨[(0, _), (1, _)], []⟩ _)
  repeat' (first | with_reducible apply once_normal | with_reducible apply once_exit | with_reducible apply once_ret | with_reducible apply once_pan | with_reducible apply thenW_normal | with_reducible apply thenW_ret | with_reducible apply thenW_exit | with_reducible apply thenW_pan | with_reducible apply outOf_normal | with_reducible apply outOf_eq | (refine outOf_ne (by kernel_rfl) ?_) | with_reducible apply outOf_ret | with_reducible apply outOf_pan | with_reducible apply again_exit | with_reducible apply again_ret | with_reducible apply again_pan | with_reducible apply W_seq | with_reducible apply W_block | with_reducible apply W_scope | with_reducible apply W_skip | with_reducible apply W_ret | with_reducible apply W_exit | with_reducible apply W_label | ((with_reducible apply W_RW); (focus kernel_rfl)) | ((with_reducible apply W_RR); (focus kernel_rfl); (focus kernel_rfl)) | with_reducible apply RW_some | with_reducible apply RR_cons | ((with_reducible apply RR_some); (refine ⟨by kernel_rfl, ?_⟩)) | ((with_reducible refine RW_gdn (fun hg => ?_) (fun hg => ?_)) <;> first | (cases hg; done) | skip) | ((with_reducible refine RR_gdn (fun hg => ?_) (fun hg => ?_)) <;> first | (cases hg; done) | skip) | ((with_reducible refine RW_gd (fun hg => ?_) (fun hg => ?_)) <;> first | (cases hg; done) | skip) | ((with_reducible refine RR_gd (fun hg => ?_) (fun hg => ?_)) <;> first | (cases hg; done) | skip) | ((with_reducible apply RW_eq); (focus (simp only [int_shr _ _ _ _ _ _ (by decide : (0 : Int) ≤ 32), wanted, exec1, operand, get, putT, ret, retO, lit, lit1, patch, CC_P, int_add, int_mul, int_and, runOps_cons, runOps_nil, gdL_true, *]; exact rfl))) | ((with_reducible apply RR_eq); (focus (simp only [*]; exact rfl))) | ((refine W_cond (by (simp only [operand, lit, lit1, *]; exact rfl)) (fun hv => ?_) (fun hv => ?_)) <;> first | (cases hv; done) | skip))
  all_goals (((with_reducible apply ends_ret); (focus (simp only [CC_P, results, resultsOf, resultOf, get, res_175, *]; exact rfl)); (focus (first | exact finish_tree' _ _ _ _ | exact finish_tup2 _ _ _ _ _ | exact finish_tup3 _ _ _ _ _ _))))
  all_goals exact ⟨(_, _), ⟨rfl, rfl⟩, U64_wrap _, U64_wrap _⟩
noncomputable def Mul64 (a b : Int) : Int × Int := (mul64_run a b).choose
theorem mul64_ok (a b : Int) : Om CC 175 [.t (.int .u64 a), .t (.int .u64 b)] [] = some (.val (.tup [.t (.int .u64 (Mul64 a b).1), .t (.int .u64 (Mul64 a b).2)]), []) := (mul64_run a b).choose_spec.1
theorem mul64_u (a b : Int) : U64 (Mul64 a b).1 ∧ U64 (Mul64 a b).2 := (mul64_run a b).choose_spec.2

theorem nMul_run (a : Int) (b : Int) : ∃ x : Int × Int, Om CC 146 [.t (.int .i64 a), .t (.int .i64 b)] [] = some (.val (.tup [.t (.int .i64 x.1), .t (.int .i64 x.2)]), []) ∧ R64 x.1 := by
  refine call_ex (F := fun x : Int × Int => .tup [.t (.int .i64 x.1), .t (.int .i64 x.2)]) fun_146 rfl ?_
  (have F_ : _ ∧ _ ∧ _ ∧ _ ∧ _ ∧ _ ∧ _ ∧ _ ∧ _ ∧ _ ∧ _ ∧ _ ∧ _ ∧ _ ∧ _ ∧ _ ∧ _ ∧ _ ∧ _ := ⟨und_2, size_2, agg_2, zero_2, zel_2, small_2, und_4, size_4, agg_4, zero_4, zel_4, small_4, noInt_4, und_225, size_225, agg_225, zero_225, zel_225, small_225⟩; show W CC 0 26 (keepsOf 146) _ ⟨[(0, _), (1, _)], []⟩ _)
  (have x0_ := @size_ok'; have x1_ := @signed_ok; have x2_ := @mul64_ok; have x3_ := @hb_176; have x4_ := @hb_177; have x5_ := @hb_175; (repeat' (first | with_reducible apply fol | with_reducible refine aRW ?_ | with_reducible refine aRR ?_ | with_reducible refine aRs ?_ | ((with_reducible first | apply RW_gdn | apply RR_gdn | apply RW_gd | apply RR_gd) <;> intro hg <;> first | (cases hg; done) | skip) | with_reducible refine aE1 ?_ | with_reducible refine aE2 ?_ | with_reducible refine aOn ?_ | ((with_reducible refine aCd ?_ ?_) <;> intro hv <;> first | (cases hv; done) | skip) | fail)); all_goals clear x0_ x1_ x2_ x3_ x4_ x5_)
  all_goals (((with_reducible apply ends_ret); (focus (simp only [CC_P, results, resultsOf, resultOf, get, res_146, *]; exact rfl)); (focus (first | exact finish_tree' _ _ _ _ | exact finish_tup2 _ _ _ _ _ | exact finish_tup3 _ _ _ _ _ _))))
  all_goals exact ⟨(_, _), ⟨rfl, rfl⟩, by first | exact R64_wrap _ | exact signed_r _ _ _ | (simp only [R64]; decide)⟩
noncomputable def NMul (a : Int) (b : Int) : Int × Int := (nMul_run a b).choose
theorem nMul_ok (a : Int) (b : Int) : Om CC 146 [.t (.int .i64 a), .t (.int .i64 b)] [] = some (.val (.tup [.t (.int .i64 (NMul a b).1), .t (.int .i64 (NMul a b).2)]), []) := (nMul_run a b).choose_spec.1
theorem nMul_r (a : Int) (b : Int) : R64 (NMul a b).1 := (nMul_run a b).choose_spec.2

theorem nQuo_run (a b : Int) (hb : R64 b) : ∃ x : Int × Int, Om CC 148 [.t (.int .i64 a), .t (.int .i64 b)] [] = some (.val (.tup [.t (.int .i64 x.1), .t (.int .i64 x.2)]), []) ∧ R64 x.1 := by
  refine call_ex (F := fun x : Int × Int => .tup [.t (.int .i64 x.1), .t (.int .i64 x.2)]) fun_148 rfl ?_
  (have F_ : _ ∧ _ ∧ _ ∧ _ ∧ _ ∧ _ ∧ _ ∧ _ ∧ _ ∧ _ ∧ _ ∧ _ ∧ _ ∧ _ ∧ _ ∧ _ ∧ _ ∧ _ ∧ _ := ⟨und_2, size_2, agg_2, zero_2, zel_2, small_2, und_4, size_4, agg_4, zero_4, zel_4, small_4, noInt_4, und_225, size_225, agg_225, zero_225, zel_225, small_225⟩; show W CC 0 21 (keepsOf 148) _ ⟨[(0, _), (1, _)], []⟩ _)
  by_cases h0 : b = 0
  · subst h0
    (have x0_ := @size_ok'; have x1_ := @signed_ok; have x2_ := @mul64_ok; have x3_ := @hb_176; have x4_ := @hb_177; have x5_ := @hb_175; (repeat' (first | with_reducible apply fol | with_reducible refine aRW ?_ | with_reducible refine aRR ?_ | with_reducible refine aRs ?_ | ((with_reducible first | apply RW_gdn | apply RR_gdn | apply RW_gd | apply RR_gd) <;> intro hg <;> first | (cases hg; done) | skip) | with_reducible refine aE1 ?_ | with_reducible refine aE2 ?_ | with_reducible refine aOn ?_ | ((with_reducible refine aCd ?_ ?_) <;> intro hv <;> first | (cases hv; done) | skip) | fail)); all_goals clear x0_ x1_ x2_ x3_ x4_ x5_)
    all_goals (((with_reducible apply ends_ret); (focus (simp only [CC_P, results, resultsOf, resultOf, get, res_148, *]; exact rfl)); (focus (first | exact finish_tree' _ _ _ _ | exact finish_tup2 _ _ _ _ _ | exact finish_tup3 _ _ _ _ _ _))))
    all_goals exact ⟨(_, _), ⟨rfl, rfl⟩, by first | exact signed_r _ _ _ | (simp only [R64]; decide)⟩
  · have hn := size_ne hb h0
    have hq : (b == 0) = false := by simpa using h0
    repeat' (first | with_reducible apply once_normal | with_reducible apply once_exit | with_reducible apply once_ret | with_reducible apply once_pan | with_reducible apply thenW_normal | with_reducible apply thenW_ret | with_reducible apply thenW_exit | with_reducible apply thenW_pan | with_reducible apply outOf_normal | with_reducible apply outOf_eq | (refine outOf_ne (by kernel_rfl) ?_) | with_reducible apply outOf_ret | with_reducible apply outOf_pan | with_reducible apply again_exit | with_reducible apply again_ret | with_reducible apply again_pan | with_reducible apply W_seq | with_reducible apply W_block | with_reducible apply W_scope | with_reducible apply W_skip | with_reducible apply W_ret | with_reducible apply W_exit | with_reducible apply W_label | ((with_reducible apply W_RW); (focus kernel_rfl)) | ((with_reducible apply W_RR); (focus kernel_rfl); (focus kernel_rfl)) | with_reducible apply RW_some | with_reducible apply RR_cons | ((with_reducible apply RR_some); (refine ⟨by kernel_rfl, ?_⟩)) | ((with_reducible refine RW_gdn (fun hg => ?_) (fun hg => ?_)) <;> first | (cases hg; done) | skip) | ((with_reducible refine RR_gdn (fun hg => ?_) (fun hg => ?_)) <;> first | (cases hg; done) | skip) | ((with_reducible refine RW_gd (fun hg => ?_) (fun hg => ?_)) <;> first | (cases hg; done) | skip) | ((with_reducible refine RR_gd (fun hg => ?_) (fun hg => ?_)) <;> first | (cases hg; done) | skip) | ((with_reducible apply RW_eq); (focus (simp only [callF, callIn, reach, refsL, refs, catMap, depth, sub, sub1, renL, ren, mem, place, fresh, import1, plain, plainT, view, viewed, freeze, CC_byRef, CC_prim, ne_eq, not_false_eq_true, cond_false, size_ok', signed_ok, hb_176, hb_177, int_quo _ _ _ _ _ hn, wanted, exec1, xCall, xExtract, operand, opds, get, putT, ret, retO, lit, lit1, patch, nth, upd, CC_P, bool_neq, int_lss, int_eql, List.map_cons, List.map_nil, List.all_cons, List.all_nil, List.append_nil, Bool.and_self, Nat.reduceEqDiff, runOps_cons, runOps_nil, gdL_true, *]; exact rfl))) | ((with_reducible apply RR_eq); (focus (simp only [*]; exact rfl))) | ((refine W_cond (by (simp only [operand, get, lit, lit1, *]; exact rfl)) (fun hv => ?_) (fun hv => ?_)) <;> first | (cases hv; done) | skip))
    all_goals (((with_reducible apply ends_ret); (focus (simp only [CC_P, results, resultsOf, resultOf, get, res_148, *]; exact rfl)); (focus (first | exact finish_tree' _ _ _ _ | exact finish_tup2 _ _ _ _ _ | exact finish_tup3 _ _ _ _ _ _))))
    all_goals exact ⟨(_, _), ⟨rfl, rfl⟩, by first | exact signed_r _ _ _ | (simp only [R64]; decide)⟩
theorem nMod_run (a b : Int) (hb : R64 b) : ∃ x : Int × Int, Om CC 151 [.t (.int .i64 a), .t (.int .i64 b)] [] = some (.val (.tup [.t (.int .i64 x.1), .t (.int .i64 x.2)]), []) ∧ R64 x.1 := by
  refine call_ex (F := fun x : Int × Int => .tup [.t (.int .i64 x.1), .t (.int .i64 x.2)]) fun_151 rfl ?_
  (have F_ : _ ∧ _ ∧ _ ∧ _ ∧ _ ∧ _ ∧ _ ∧ _ ∧ _ ∧ _ ∧ _ ∧ _ ∧ _ ∧ _ ∧ _ ∧ _ ∧ _ ∧ _ ∧ _ := ⟨und_2, size_2, agg_2, zero_2, zel_2, small_2, und_4, size_4, agg_4, zero_4, zel_4, small_4, noInt_4, und_225, size_225, agg_225, zero_225, zel_225, small_225⟩; show W CC 0 18 (keepsOf 151) _ ⟨[(0, _), (1, _)], []⟩ _)
  by_cases h0 : b = 0
  · subst h0
    (have x0_ := @size_ok'; have x1_ := @signed_ok; have x2_ := @mul64_ok; have x3_ := @hb_176; have x4_ := @hb_177; have x5_ := @hb_175; (repeat' (first | with_reducible apply fol | with_reducible refine aRW ?_ | with_reducible refine aRR ?_ | with_reducible refine aRs ?_ | ((with_reducible first | apply RW_gdn | apply RR_gdn | apply RW_gd | apply RR_gd) <;> intro hg <;> first | (cases hg; done) | skip) | with_reducible refine aE1 ?_ | with_reducible refine aE2 ?_ | with_reducible refine aOn ?_ | ((with_reducible refine aCd ?_ ?_) <;> intro hv <;> first | (cases hv; done) | skip) | fail)); all_goals clear x0_ x1_ x2_ x3_ x4_ x5_)
    all_goals (((with_reducible apply ends_ret); (focus (simp only [CC_P, results, resultsOf, resultOf, get, res_151, *]; exact rfl)); (focus (first | exact finish_tree' _ _ _ _ | exact finish_tup2 _ _ _ _ _ | exact finish_tup3 _ _ _ _ _ _))))
    all_goals exact ⟨(_, _), ⟨rfl, rfl⟩, by first | exact signed_r _ _ _ | (simp only [R64]; decide)⟩
  · have hn := size_ne hb h0
    have hq : (b == 0) = false := by simpa using h0
    repeat' (first | with_reducible apply once_normal | with_reducible apply once_exit | with_reducible apply once_ret | with_reducible apply once_pan | with_reducible apply thenW_normal | with_reducible apply thenW_ret | with_reducible apply thenW_exit | with_reducible apply thenW_pan | with_reducible apply outOf_normal | with_reducible apply outOf_eq | (refine outOf_ne (by kernel_rfl) ?_) | with_reducible apply outOf_ret | with_reducible apply outOf_pan | with_reducible apply again_exit | with_reducible apply again_ret | with_reducible apply again_pan | with_reducible apply W_seq | with_reducible apply W_block | with_reducible apply W_scope | with_reducible apply W_skip | with_reducible apply W_ret | with_reducible apply W_exit | with_reducible apply W_label | ((with_reducible apply W_RW); (focus kernel_rfl)) | ((with_reducible apply W_RR); (focus kernel_rfl); (focus kernel_rfl)) | with_reducible apply RW_some | with_reducible apply RR_cons | ((with_reducible apply RR_some); (refine ⟨by kernel_rfl, ?_⟩)) | ((with_reducible refine RW_gdn (fun hg => ?_) (fun hg => ?_)) <;> first | (cases hg; done) | skip) | ((with_reducible refine RR_gdn (fun hg => ?_) (fun hg => ?_)) <;> first | (cases hg; done) | skip) | ((with_reducible refine RW_gd (fun hg => ?_) (fun hg => ?_)) <;> first | (cases hg; done) | skip) | ((with_reducible refine RR_gd (fun hg => ?_) (fun hg => ?_)) <;> first | (cases hg; done) | skip) | ((with_reducible apply RW_eq); (focus (simp only [callF, callIn, reach, refsL, refs, catMap, depth, sub, sub1, renL, ren, mem, place, fresh, import1, plain, plainT, view, viewed, freeze, CC_byRef, CC_prim, ne_eq, not_false_eq_true, cond_false, size_ok', signed_ok, hb_176, hb_177, int_rem _ _ _ _ _ hn, wanted, exec1, xCall, xExtract, operand, opds, get, putT, ret, retO, lit, lit1, patch, nth, upd, CC_P, int_lss, int_eql, List.map_cons, List.map_nil, List.all_cons, List.all_nil, List.append_nil, Bool.and_self, Nat.reduceEqDiff, runOps_cons, runOps_nil, gdL_true, *]; exact rfl))) | ((with_reducible apply RR_eq); (focus (simp only [*]; exact rfl))) | ((refine W_cond (by (simp only [operand, get, lit, lit1, *]; exact rfl)) (fun hv => ?_) (fun hv => ?_)) <;> first | (cases hv; done) | skip))
    all_goals (((with_reducible apply ends_ret); (focus (simp only [CC_P, results, resultsOf, resultOf, get, res_151, *]; exact rfl)); (focus (first | exact finish_tree' _ _ _ _ | exact finish_tup2 _ _ _ _ _ | exact finish_tup3 _ _ _ _ _ _))))
    all_goals exact ⟨(_, _), ⟨rfl, rfl⟩, by first | exact signed_r _ _ _ | (simp only [R64]; decide)⟩
open Classical in
noncomputable def NQuo (a b : Int) : Int × Int := if h : R64 b then (nQuo_run a b h).choose else (0, 0)
theorem nQuo_ok (a b : Int) (h : R64 b) : Om CC 148 [.t (.int .i64 a), .t (.int .i64 b)] [] = some (.val (.tup [.t (.int .i64 (NQuo a b).1), .t (.int .i64 (NQuo a b).2)]), []) := by
  unfold NQuo; rw [dif_pos h]; exact (nQuo_run a b h).choose_spec.1
theorem nQuo_r (a b : Int) : R64 (NQuo a b).1 := by
  unfold NQuo; split
  · rename_i h; exact (nQuo_run a b h).choose_spec.2
  · simp [R64]

open Classical in
noncomputable def NMod (a b : Int) : Int × Int := if h : R64 b then (nMod_run a b h).choose else (0, 0)
theorem nMod_ok (a b : Int) (h : R64 b) : Om CC 151 [.t (.int .i64 a), .t (.int .i64 b)] [] = some (.val (.tup [.t (.int .i64 (NMod a b).1), .t (.int .i64 (NMod a b).2)]), []) := by
  unfold NMod; rw [dif_pos h]; exact (nMod_run a b h).choose_spec.1
theorem nMod_r (a b : Int) : R64 (NMod a b).1 := by
  unfold NMod; split
  · rename_i h; exact (nMod_run a b h).choose_spec.2
  · simp [R64]

theorem nScale_run (a : Int) : ∃ x : Int × Int, Om CC 206 [.t (.int .i64 a)] [] = some (.val (.tup [.t (.int .i64 x.1), .t (.int .i64 x.2)]), []) ∧ R64 x.1 := by
  refine call_ex (F := fun x : Int × Int => .tup [.t (.int .i64 x.1), .t (.int .i64 x.2)]) fun_206 rfl ?_
  (have F_ : _ ∧ _ ∧ _ ∧ _ ∧ _ ∧ _ := ⟨und_2, size_2, agg_2, zero_2, zel_2, small_2⟩; show W CC 0 8 (keepsOf 206) _ ⟨[(0, _)], []⟩ _)
  (have x0_ := @nMul_ok; have x1_ := @hb_146; (repeat' (first | with_reducible apply fol | with_reducible refine aRW ?_ | with_reducible refine aRR ?_ | with_reducible refine aRs ?_ | ((with_reducible first | apply RW_gdn | apply RR_gdn | apply RW_gd | apply RR_gd) <;> intro hg <;> first | (cases hg; done) | skip) | with_reducible refine aE1 ?_ | with_reducible refine aE2 ?_ | with_reducible refine aOn ?_ | ((with_reducible refine aCd ?_ ?_) <;> intro hv <;> first | (cases hv; done) | skip) | fail)); all_goals clear x0_ x1_)
  all_goals (((with_reducible apply ends_ret); (focus (simp only [CC_P, results, resultsOf, resultOf, get, res_206, *]; exact rfl)); (focus (first | exact finish_tree' _ _ _ _ | exact finish_tup2 _ _ _ _ _ | exact finish_tup3 _ _ _ _ _ _))))
  all_goals exact ⟨(_, _), ⟨rfl, rfl⟩, nMul_r _ _⟩
noncomputable def NScale (a : Int) : Int × Int := (nScale_run a).choose
theorem nScale_ok (a : Int) : Om CC 206 [.t (.int .i64 a)] [] = some (.val (.tup [.t (.int .i64 (NScale a).1), .t (.int .i64 (NScale a).2)]), []) := (nScale_run a).choose_spec.1
theorem nScale_r (a : Int) : R64 (NScale a).1 := (nScale_run a).choose_spec.2

end Go.Ab
/- Go's quotient of 128 bits. -/
namespace Go.Ab
open Go.Proofs
set_option maxRecDepth 100000
set_option maxHeartbeats 4000000
set_option linter.unusedSimpArgs false
set_option linter.unusedVariables false

def lenTbl : List Nat := [0, 1, 2, 2, 3, 3, 3, 3, 4, 4, 4, 4, 4, 4, 4, 4, 5, 5, 5, 5, 5, 5, 5, 5, 5, 5, 5, 5, 5, 5, 5, 5, 6, 6, 6, 6, 6, 6, 6, 6, 6, 6, 6, 6, 6, 6, 6, 6, 6, 6, 6, 6, 6, 6, 6, 6, 6, 6, 6, 6, 6, 6, 6, 6, 7, 7, 7, 7, 7, 7, 7, 7, 7, 7, 7, 7, 7, 7, 7, 7, 7, 7, 7, 7, 7, 7, 7, 7, 7, 7, 7, 7, 7, 7, 7, 7, 7, 7, 7, 7, 7, 7, 7, 7, 7, 7, 7, 7, 7, 7, 7, 7, 7, 7, 7, 7, 7, 7, 7, 7, 7, 7, 7, 7, 7, 7, 7, 7, 8, 8, 8, 8, 8, 8, 8, 8, 8, 8, 8, 8, 8, 8, 8, 8, 8, 8, 8, 8, 8, 8, 8, 8, 8, 8, 8, 8, 8, 8, 8, 8, 8, 8, 8, 8, 8, 8, 8, 8, 8, 8, 8, 8, 8, 8, 8, 8, 8, 8, 8, 8, 8, 8, 8, 8, 8, 8, 8, 8, 8, 8, 8, 8, 8, 8, 8, 8, 8, 8, 8, 8, 8, 8, 8, 8, 8, 8, 8, 8, 8, 8, 8, 8, 8, 8, 8, 8, 8, 8, 8, 8, 8, 8, 8, 8, 8, 8, 8, 8, 8, 8, 8, 8, 8, 8, 8, 8, 8, 8, 8, 8, 8, 8, 8, 8, 8, 8, 8, 8, 8, 8, 8, 8, 8, 8, 8, 8]

theorem lenTbl_all : ((List.range 256).all fun b => match nth lenTbl b with
    | some m => decide (m ≤ 8) && decide (b < 2 ^ m) && (b == 0 || decide (2 ^ m ≤ 2 * b))
    | none => false) = true := by kernel_rfl

theorem idx_tbl {S : List Nat} {z : Int} (hS : S = lenTbl) (h0 : 0 ≤ z) (h1 : z < 256) : index Tryz.prog 9 (.t (.str S)) z = some (.t (.int .u8 (((nth lenTbl z.toNat).getD 0 : Nat) : Int))) := by
  subst hS
  obtain ⟨b, rfl⟩ := Int.eq_ofNat_of_zero_le h0
  have h := List.all_eq_true.1 lenTbl_all b (List.mem_range.2 (by omega))
  unfold index
  rw [und_9]
  simp only [idx]
  cases hn : nth lenTbl b with
  | none => rw [hn] at h; cases h
  | some m => simp [hn, idx]

theorem tbl_val {z : Int} (h0 : 0 ≤ z) (h1 : z < 256) : ∃ m : Nat, (nth lenTbl z.toNat).getD 0 = m ∧ m ≤ 8 ∧ z < ((2 ^ m : Nat) : Int) ∧ (z ≠ 0 → ((2 ^ m : Nat) : Int) ≤ 2 * z) := by
  obtain ⟨b, rfl⟩ := Int.eq_ofNat_of_zero_le h0
  have h := List.all_eq_true.1 lenTbl_all b (List.mem_range.2 (by omega))
  cases hn : nth lenTbl b with
  | none => rw [hn] at h; cases h
  | some m =>
    rw [hn] at h
    simp only [Bool.and_eq_true, decide_eq_true_eq, Bool.or_eq_true, beq_iff_eq] at h
    refine ⟨m, by simp [hn], h.1.1, by omega, fun hb => ?_⟩
    rcases h.2 with h2 | h2
    · omega
    · omega

theorem U8_wrap (x : Int) : 0 ≤ IntKind.u8.wrap x ∧ IntKind.u8.wrap x < 256 := by
  simp only [IntKind.wrap, IntKind.signed, IntKind.bits, Bool.false_and]
  simp; omega
theorem u8_in {x : Int} (h0 : 0 ≤ x) (h1 : x < 256) : IntKind.u8.wrap x = x := by
  simp only [IntKind.wrap, IntKind.signed, IntKind.bits, Bool.false_and]
  simp; omega

theorem len_fin (x z c : Int) (K : Nat) (hc : c = K) (hK : K ≤ 56) (hz : z = x / ((2 ^ K : Nat) : Int)) (z0 : 0 ≤ z) (z1 : z < 256) (hx0 : 0 ≤ x) (hnz : x ≠ 0 → z ≠ 0) :
    ∃ a : Int, (Out.val (AV.t (.int .i64 (IntKind.i64.wrap (c + IntKind.i64.wrap (((nth lenTbl z.toNat).getD 0 : Nat) : Int))))) = Out.val (.t (.int .i64 a)) ∧ ([] : Heap) = []) ∧
      ∃ m : Nat, a = m ∧ m ≤ 64 ∧ x < ((2 ^ m : Nat) : Int) ∧ (x ≠ 0 → ((2 ^ m : Nat) : Int) ≤ 2 * x) := by
  subst hc
  obtain ⟨m, hm, h8, hz1, hz2⟩ := tbl_val z0 z1
  rw [hm, wrap64 (x := (m : Int)) (by omega) (by omega), wrap64 (by omega) (by omega)]
  refine ⟨((K + m : Nat) : Int), ⟨by congr 4, rfl⟩, K + m, rfl, by omega, ?_, fun h => ?_⟩
  · rw [Nat.pow_add]
    have hp : (0 : Int) < ((2 ^ K : Nat) : Int) := by
      have := Nat.pow_pos (n := K) (show 0 < 2 by decide); omega
    have h1 : x < ((2 ^ K : Nat) : Int) * (z + 1) := by rw [hz, Int.mul_add, Int.mul_one]; exact Int.lt_mul_ediv_self_add hp
    have h2 : ((2 ^ K : Nat) : Int) * (z + 1) ≤ ((2 ^ K : Nat) : Int) * ((2 ^ m : Nat) : Int) := Int.mul_le_mul_of_nonneg_left (by omega) (by omega)
    push_cast at *
    omega
  · rw [Nat.pow_add]
    have hp : (0 : Int) ≤ ((2 ^ K : Nat) : Int) := Int.natCast_nonneg _
    have h1 : ((2 ^ K : Nat) : Int) * z ≤ x := by rw [hz]; exact Int.mul_ediv_self_le (by have := Nat.pow_pos (n := K) (show 0 < 2 by decide); omega)
    have h2 : ((2 ^ K : Nat) : Int) * ((2 ^ m : Nat) : Int) ≤ ((2 ^ K : Nat) : Int) * (2 * z) := Int.mul_le_mul_of_nonneg_left (hz2 (hnz h)) hp
    have h3 : ((2 ^ K : Nat) : Int) * (2 * z) = 2 * (((2 ^ K : Nat) : Int) * z) := by rw [Int.mul_left_comm]
    push_cast at *
    omega

theorem len64_run (x : Int) (hx : U64 x) : ∃ n : Int, Om CC 218 [.t (.int .u64 x)] [] = some (.val (.t (.int .i64 n)), []) ∧ ∃ m : Nat, n = m ∧ m ≤ 64 ∧ x < ((2 ^ m : Nat) : Int) ∧ (x ≠ 0 → ((2 ^ m : Nat) : Int) ≤ 2 * x) := by
  refine call_ex (F := fun u : Int => .t (.int .i64 u)) fun_218 rfl ?_
  (have F_ : _ ∧ _ ∧ _ ∧ _ ∧ _ ∧ _ ∧ _ ∧ _ ∧ _ ∧ _ ∧ _ ∧ _ ∧ _ ∧ _ ∧ _ ∧ _ ∧ _ ∧ _ ∧ _ ∧ _ ∧ _ ∧ _ ∧ _ ∧ _ ∧ _ := ⟨und_3, size_3, agg_3, zero_3, zel_3, small_3, und_5, size_5, agg_5, zero_5, zel_5, small_5, und_9, size_9, agg_9, zero_9, zel_9, small_9, noInt_9, und_225, size_225, agg_225, zero_225, zel_225, small_225⟩; show W CC 0 25 (keepsOf 218) _ ⟨[(0, _)], []⟩ _)
  have e1 : IntKind.i64.wrap (32 + 16) = 48 := by decide
  have e2 : IntKind.i64.wrap (0 + 16) = 16 := by decide
  have e3 : IntKind.i64.wrap (48 + 8) = 56 := by decide
  have e4 : IntKind.i64.wrap (16 + 8) = 24 := by decide
  have e5 : IntKind.i64.wrap (32 + 8) = 40 := by decide
  have e6 : IntKind.i64.wrap (0 + 8) = 8 := by decide
  unfold U64 at hx
  ((repeat' (first | with_reducible apply fol | with_reducible refine aRW ?_ | with_reducible refine aRR ?_ | with_reducible refine aRs ?_ | ((with_reducible first | apply RW_gdn | apply RR_gdn | apply RW_gd | apply RR_gd) <;> intro hg <;> first | (cases hg; done) | skip) | with_reducible refine aE1 ?_ | with_reducible refine aE2 ?_ | with_reducible refine aOn ?_ | ((with_reducible refine aCd ?_ ?_) <;> intro hv <;> first | (cases hv; done) | skip) | fail)))
  all_goals simp only [decide_eq_true_eq, decide_eq_false_iff_not] at *
  all_goals (
    rw [idx_tbl]
    rotate_left
    · kernel_rfl
    · exact (U8_wrap _).1
    · exact (U8_wrap _).2
    ((repeat' (first | with_reducible apply fol | with_reducible refine aRW ?_ | with_reducible refine aRR ?_ | with_reducible refine aRs ?_ | ((with_reducible first | apply RW_gdn | apply RR_gdn | apply RW_gd | apply RR_gd) <;> intro hg <;> first | (cases hg; done) | skip) | with_reducible refine aE1 ?_ | with_reducible refine aE2 ?_ | with_reducible refine aOn ?_ | ((with_reducible refine aCd ?_ ?_) <;> intro hv <;> first | (cases hv; done) | skip) | fail)))
    ((with_reducible apply ends_ret); (focus (simp only [CC_P, results, resultsOf, resultOf, get, res_218, *]; exact rfl)); (focus (first | exact finish_tree' _ _ _ _ | exact finish_tup2 _ _ _ _ _ | exact finish_tup3 _ _ _ _ _ _)))
    rw [u8_in (by omega) (by omega)]
    first
    | exact len_fin x _ _ 56 (by decide) (by decide) (by omega) (by omega) (by omega) hx.1 (by omega)
    | exact len_fin x _ _ 48 (by decide) (by decide) (by omega) (by omega) (by omega) hx.1 (by omega)
    | exact len_fin x _ _ 40 (by decide) (by decide) (by omega) (by omega) (by omega) hx.1 (by omega)
    | exact len_fin x _ _ 32 (by decide) (by decide) (by omega) (by omega) (by omega) hx.1 (by omega)
    | exact len_fin x _ _ 24 (by decide) (by decide) (by omega) (by omega) (by omega) hx.1 (by omega)
    | exact len_fin x _ _ 16 (by decide) (by decide) (by omega) (by omega) (by omega) hx.1 (by omega)
    | exact len_fin x _ _ 8 (by decide) (by decide) (by omega) (by omega) (by omega) hx.1 (by omega)
    | exact len_fin x _ _ 0 (by decide) (by decide) (by omega) (by omega) (by omega) hx.1 (by omega))
theorem len64_ex (x : Int) (hx : U64 x) : ∃ m : Nat, Om CC 218 [.t (.int .u64 x)] [] = some (.val (.t (.int .i64 (m : Int))), []) ∧ m ≤ 64 ∧ x < ((2 ^ m : Nat) : Int) ∧ (x ≠ 0 → ((2 ^ m : Nat) : Int) ≤ 2 * x) := by
  obtain ⟨n, h1, m, rfl, h2⟩ := len64_run x hx
  exact ⟨m, h1, h2⟩

theorem lz64_run (x : Int) (hx : U64 x) : ∃ s : Nat, Om CC 207 [.t (.int .u64 x)] [] = some (.val (.t (.int .i64 (s : Int))), []) ∧ s ≤ 64 ∧
    (x ≠ 0 → 9223372036854775808 ≤ x * ((2 ^ s : Nat) : Int) ∧ x * ((2 ^ s : Nat) : Int) < 18446744073709551616) := by
  obtain ⟨m, hm, h1, h2, h3⟩ := len64_ex x hx
  refine call_ex (F := fun s : Nat => .t (.int .i64 (s : Int))) fun_207 rfl ?_
  (have F_ : _ ∧ _ ∧ _ ∧ _ ∧ _ ∧ _ ∧ _ ∧ _ ∧ _ ∧ _ ∧ _ ∧ _ := ⟨und_3, size_3, agg_3, zero_3, zel_3, small_3, und_225, size_225, agg_225, zero_225, zel_225, small_225⟩; show W CC 0 6 (keepsOf 207) _ ⟨[(0, _)], []⟩ _)
  have hw : IntKind.i64.wrap (64 - (m : Int)) = ((64 - m : Nat) : Int) := by rw [wrap64] <;> omega
  (have x0_ := @hb_218; (repeat' (first | with_reducible apply fol | with_reducible refine aRW ?_ | with_reducible refine aRR ?_ | with_reducible refine aRs ?_ | ((with_reducible first | apply RW_gdn | apply RR_gdn | apply RW_gd | apply RR_gd) <;> intro hg <;> first | (cases hg; done) | skip) | with_reducible refine aE1 ?_ | with_reducible refine aE2 ?_ | with_reducible refine aOn ?_ | ((with_reducible refine aCd ?_ ?_) <;> intro hv <;> first | (cases hv; done) | skip) | fail)); all_goals clear x0_)
  ((with_reducible apply ends_ret); (focus (simp only [CC_P, results, resultsOf, resultOf, get, res_207, *]; exact rfl)); (focus (first | exact finish_tree' _ _ _ _ | exact finish_tup2 _ _ _ _ _ | exact finish_tup3 _ _ _ _ _ _)))
  refine ⟨64 - m, ⟨rfl, rfl⟩, by omega, fun h0 => ?_⟩
  have hp : ((2 ^ m : Nat) : Int) * ((2 ^ (64 - m) : Nat) : Int) = 18446744073709551616 := by
    have : 2 ^ m * 2 ^ (64 - m) = 18446744073709551616 := by rw [← Nat.pow_add, show m + (64 - m) = 64 by omega]
    rw [← Int.natCast_mul, this]; rfl
  have hq : (0 : Int) < ((2 ^ (64 - m) : Nat) : Int) := by
    have := Nat.pow_pos (n := 64 - m) (show 0 < 2 by decide); omega
  have h4 := Int.mul_le_mul_of_nonneg_right (h3 h0) (Int.le_of_lt hq)
  have h5 := Int.mul_lt_mul_of_pos_right h2 hq
  rw [hp] at h4 h5
  rw [Int.mul_assoc] at h4
  omega
/-- How far a loop of the quotient may still go. -/
def leftTo (r : Int) : Nat := if r < 4294967296 then (4294967296 - r).toNat else 4294967297

theorem leftTo_step {r y : Int} (hr : 0 ≤ r) (hy : 1 ≤ y) (hy2 : y < 4294967296) (h : IntKind.u64.wrap (r + y) < 4294967296) (hu : r < 18446744073709551616) : leftTo (IntKind.u64.wrap (r + y)) < leftTo r := by
  rw [wrap_u64] at *
  unfold leftTo
  rw [if_pos h]
  split <;> omega

set_option maxHeartbeats 8000000
theorem div64_run (hi lo y : Int) (h1 : U64 hi) (h2 : U64 lo) (h3 : U64 y) (h4 : hi < y) : ∃ x : Int × Int, Om CC 197 [.t (.int .u64 hi), .t (.int .u64 lo), .t (.int .u64 y)] [] = some (.val (.tup [.t (.int .u64 x.1), .t (.int .u64 x.2)]), []) ∧ True := by
  refine call_ex (F := fun x : Int × Int => .tup [.t (.int .u64 x.1), .t (.int .u64 x.2)]) fun_197 rfl ?_
  (have F_ : _ ∧ _ ∧ _ ∧ _ ∧ _ ∧ _ ∧ _ ∧ _ ∧ _ ∧ _ ∧ _ ∧ _ ∧ _ ∧ _ ∧ _ ∧ _ ∧ _ ∧ _ ∧ _ ∧ _ ∧ _ ∧ _ ∧ _ ∧ _ := ⟨und_3, size_3, agg_3, zero_3, zel_3, small_3, und_225, size_225, agg_225, zero_225, zel_225, small_225, und_252, size_252, agg_252, zero_252, zel_252, small_252, size_265, agg_265, zero_265, zel_265, small_265, noInt_265⟩; show W CC 0 135 (keepsOf 197) _ ⟨[(0, _), (1, _), (2, _)], []⟩ _)
  obtain ⟨s, hs, hs1, hs2⟩ := lz64_run y h3
  have hy0 : y ≠ 0 := by unfold U64 at *; omega
  have hb1 : (y == 0) = false := by simpa using hy0
  have hb2 : decide (y ≤ hi) = false := by simpa using h4
  have hws : IntKind.u64.wrap (s : Int) = s := by rw [wrap_u64]; omega
  have hs0 : (0 : Int) ≤ s := by omega
  have h64 : 0 ≤ IntKind.u64.wrap (64 - (s : Int)) := (U64_wrap _).1
  have hY : IntKind.u64.wrap (y * 2 ^ min ((s : Int)).toNat IntKind.u64.bits) = y * ((2 ^ s : Nat) : Int) := by
    have : min ((s : Int)).toNat IntKind.u64.bits = s := by simp [IntKind.bits]; omega
    rw [this, wrap_u64]
    have := hs2 hy0
    push_cast at *
    omega
  obtain ⟨hy1, hy2⟩ := hs2 hy0
  generalize y * ((2 ^ s : Nat) : Int) = Y at hY hy1 hy2
  have hyn : Y / 4294967296 ≠ 0 := by omega
  cases hz : (hi == 0) with
  | true =>
    repeat' (first | with_reducible apply once_normal | with_reducible apply once_exit | with_reducible apply once_ret | with_reducible apply once_pan | with_reducible apply thenW_normal | with_reducible apply thenW_ret | with_reducible apply thenW_exit | with_reducible apply thenW_pan | with_reducible apply outOf_normal | with_reducible apply outOf_eq | (refine outOf_ne (by kernel_rfl) ?_) | with_reducible apply outOf_ret | with_reducible apply outOf_pan | with_reducible apply again_exit | with_reducible apply again_ret | with_reducible apply again_pan | with_reducible apply W_seq | with_reducible apply W_block | with_reducible apply W_scope | with_reducible apply W_skip | with_reducible apply W_ret | with_reducible apply W_exit | with_reducible apply W_label | ((with_reducible apply W_RW); (focus kernel_rfl)) | ((with_reducible apply W_RR); (focus kernel_rfl); (focus kernel_rfl)) | with_reducible apply RW_some | with_reducible apply RR_cons | ((with_reducible apply RR_some); (refine ⟨by kernel_rfl, ?_⟩)) | ((with_reducible refine RW_gdn (fun hg => ?_) (fun hg => ?_)) <;> first | (cases hg; done) | skip) | ((with_reducible refine RR_gdn (fun hg => ?_) (fun hg => ?_)) <;> first | (cases hg; done) | skip) | ((with_reducible refine RW_gd (fun hg => ?_) (fun hg => ?_)) <;> first | (cases hg; done) | skip) | ((with_reducible refine RR_gd (fun hg => ?_) (fun hg => ?_)) <;> first | (cases hg; done) | skip) | ((with_reducible apply RW_eq); (focus (simp only [wanted, exec1, operand, get, putT, ret, retO, lit, lit1, patch, CC_P, int_leq, int_eql, runOps_cons, runOps_nil, gdL_true, *]; exact rfl))) | ((with_reducible apply RR_eq); (focus (simp only [int_quo _ _ _ _ _ hy0, int_rem _ _ _ _ _ hy0, wanted, exec1, operand, get, putT, ret, retO, patch, CC_P, runRec_cons, runRec_nil, consR_some, gapless, foot, gdR_true, *]; exact rfl))) | ((refine W_cond (by (simp only [operand, get, lit, lit1, *]; exact rfl)) (fun hv => ?_) (fun hv => ?_)) <;> first | (cases hv; done) | skip))
    all_goals (((with_reducible apply ends_ret); (focus (simp only [CC_P, results, resultsOf, resultOf, get, res_197, *]; exact rfl)); (focus (first | exact finish_tree' _ _ _ _ | exact finish_tup2 _ _ _ _ _ | exact finish_tup3 _ _ _ _ _ _))))
    all_goals exact ⟨(_, _), ⟨rfl, rfl⟩, trivial⟩
  | false =>
    repeat' (first | with_reducible apply once_normal | with_reducible apply once_exit | with_reducible apply once_ret | with_reducible apply once_pan | with_reducible apply thenW_normal | with_reducible apply thenW_ret | with_reducible apply thenW_exit | with_reducible apply thenW_pan | with_reducible apply outOf_normal | with_reducible apply outOf_eq | (refine outOf_ne (by kernel_rfl) ?_) | with_reducible apply outOf_ret | with_reducible apply outOf_pan | with_reducible apply again_exit | with_reducible apply again_ret | with_reducible apply again_pan | with_reducible apply W_seq | with_reducible apply W_block | with_reducible apply W_scope | with_reducible apply W_skip | with_reducible apply W_ret | with_reducible apply W_exit | with_reducible apply W_label | ((with_reducible apply W_RW); (focus kernel_rfl)) | ((with_reducible apply W_RR); (focus kernel_rfl); (focus kernel_rfl)) | with_reducible apply RW_some | with_reducible apply RR_cons | ((with_reducible apply RR_some); (refine ⟨by kernel_rfl, ?_⟩)) | ((with_reducible refine RW_gdn (fun hg => ?_) (fun hg => ?_)) <;> first | (cases hg; done) | skip) | ((with_reducible refine RR_gdn (fun hg => ?_) (fun hg => ?_)) <;> first | (cases hg; done) | skip) | ((with_reducible refine RW_gd (fun hg => ?_) (fun hg => ?_)) <;> first | (cases hg; done) | skip) | ((with_reducible refine RR_gd (fun hg => ?_) (fun hg => ?_)) <;> first | (cases hg; done) | skip) | ((with_reducible apply RW_eq); (focus (simp only [callF, callIn, reach, refsL, refs, catMap, depth, sub, sub1, renL, ren, mem, place, fresh, import1, plain, plainT, view, viewed, freeze, CC_byRef, CC_prim, ne_eq, not_false_eq_true, cond_false, hb_207, int_shl _ _ _ _ _ _ hs0, int_shr _ _ _ _ _ _ h64, int_quo _ _ _ _ _ hyn, wanted, exec1, xCall, operand, opds, get, putT, ret, retO, lit, lit1, patch, nth, upd, CC_P, u64_shr32, convert, int_sub, int_mul, int_and, int_or, int_leq, int_eql, List.map_cons, List.map_nil, List.append_nil, Bool.and_self, Nat.reduceEqDiff, runOps_cons, runOps_nil, gdL_true, *]; exact rfl))) | ((with_reducible apply RR_eq); (focus (simp only [*]; exact rfl))) | ((refine W_cond (by (simp only [operand, get, lit, lit1, *]; exact rfl)) (fun hv => ?_) (fun hv => ?_)) <;> first | (cases hv; done) | skip))
    generalize bitsTo .and .u64 Y 4294967295 = A
    generalize IntKind.u64.wrap (lo * 2 ^ min ((s : Int)).toNat IntKind.u64.bits) = L
    generalize bitsTo .and .u64 L 4294967295 = D
    generalize hB : bitsTo .or .u64 _ _ = B
    have hr0 : U64 (IntKind.u64.wrap (B - IntKind.u64.wrap (IntKind.u64.wrap (B.tdiv (Y / 4294967296)) * (Y / 4294967296)))) := U64_wrap _
    generalize IntKind.u64.wrap (B - IntKind.u64.wrap (IntKind.u64.wrap (B.tdiv (Y / 4294967296)) * (Y / 4294967296))) = r0 at *
    generalize IntKind.u64.wrap (B.tdiv (Y / 4294967296)) = q0 at *
    refine W.mono (Q := fun e st => e = .exit 0 ∧ ∃ q : Int, get st.T 2 = .t (.int .u64 Y) ∧ get st.T 8 = .t (.int .u64 s) ∧ get st.T 9 = .t (.int .u64 (Y / 4294967296)) ∧ get st.T 10 = .t (.int .u64 A) ∧ get st.T 11 = .t (.int .u64 B) ∧
      get st.T 13 = .t (.int .u64 (L / 4294967296)) ∧ get st.T 14 = .t (.int .u64 D) ∧ get st.T 15 = .t (.int .u64 q) ∧ st.h = []) ?_ ?_
    · refine W_rounds (α := Int × Int) (fun a => ⟨[(2, .t (.int .u64 Y)), (8, .t (.int .u64 s)), (9, .t (.int .u64 (Y / 4294967296))), (10, .t (.int .u64 A)), (11, .t (.int .u64 B)), (13, .t (.int .u64 (L / 4294967296))), (14, .t (.int .u64 D)), (15, .t (.int .u64 a.1)), (16, .t (.int .u64 a.2))], []⟩)
        (fun a => leftTo a.2) (fun a => U64 a.2) (q0, r0) (by kernel_rfl) hr0 ?_
      rintro ⟨q, r⟩ hr
      try dsimp only at hr
      ((repeat' (first | with_reducible apply fol | with_reducible refine aRW ?_ | with_reducible refine aRR ?_ | with_reducible refine aRs ?_ | ((with_reducible first | apply RW_gdn | apply RR_gdn | apply RW_gd | apply RR_gd) <;> intro hg <;> first | (cases hg; done) | skip) | with_reducible refine aE1 ?_ | with_reducible refine aE2 ?_ | with_reducible refine aOn ?_ | ((with_reducible refine aCd ?_ ?_) <;> intro hv <;> first | (cases hv; done) | skip) | fail)))
      all_goals first
        | exact ⟨rfl, _, rfl, rfl, rfl, rfl, rfl, rfl, rfl, rfl, rfl⟩
        | exact again_normal (IntKind.u64.wrap (q - 1), IntKind.u64.wrap (r + Y / 4294967296)) (leftTo_step hr.1 (by omega) (by omega) (by simpa using hv) hr.2) (U64_wrap _) (by kernel_rfl)
    rintro e ⟨T, h⟩ ⟨rfl, q1, g2, g8, g9, g10, g11, g13, g14, g15, gh⟩
    dsimp only at g2 g8 g9 g10 g11 g13 g14 g15 gh
    subst gh
    repeat' (first | with_reducible apply once_normal | with_reducible apply once_exit | with_reducible apply once_ret | with_reducible apply once_pan | with_reducible apply thenW_normal | with_reducible apply thenW_ret | with_reducible apply thenW_exit | with_reducible apply thenW_pan | with_reducible apply outOf_normal | with_reducible apply outOf_eq | (refine outOf_ne (by kernel_rfl) ?_) | with_reducible apply outOf_ret | with_reducible apply outOf_pan | with_reducible apply again_exit | with_reducible apply again_ret | with_reducible apply again_pan | with_reducible apply W_seq | with_reducible apply W_block | with_reducible apply W_scope | with_reducible apply W_skip | with_reducible apply W_ret | with_reducible apply W_exit | with_reducible apply W_label | ((with_reducible apply W_RW); (focus kernel_rfl)) | ((with_reducible apply W_RR); (focus kernel_rfl); (focus kernel_rfl)) | with_reducible apply RW_some | with_reducible apply RR_cons | ((with_reducible apply RR_some); (refine ⟨by kernel_rfl, ?_⟩)) | ((with_reducible refine RW_gdn (fun hg => ?_) (fun hg => ?_)) <;> first | (cases hg; done) | skip) | ((with_reducible refine RR_gdn (fun hg => ?_) (fun hg => ?_)) <;> first | (cases hg; done) | skip) | ((with_reducible refine RW_gd (fun hg => ?_) (fun hg => ?_)) <;> first | (cases hg; done) | skip) | ((with_reducible refine RR_gd (fun hg => ?_) (fun hg => ?_)) <;> first | (cases hg; done) | skip) | ((with_reducible apply RW_eq); (focus (simp only [int_quo _ _ _ _ _ hyn, wanted, exec1, operand, get, putT, ret, retO, lit, lit1, patch, CC_P, int_add, int_sub, int_mul, runOps_cons, runOps_nil, gdL_true, *]; exact rfl))) | ((with_reducible apply RR_eq); (focus (simp only [*]; exact rfl))) | ((refine W_cond (by (simp only [operand, lit, lit1, *]; exact rfl)) (fun hv => ?_) (fun hv => ?_)) <;> first | (cases hv; done) | skip))
    generalize hU : IntKind.u64.wrap (IntKind.u64.wrap (IntKind.u64.wrap (B * 4294967296) + L / 4294967296) - IntKind.u64.wrap (q1 * Y)) = U
    have hr1 : U64 (IntKind.u64.wrap (U - IntKind.u64.wrap (IntKind.u64.wrap (U.tdiv (Y / 4294967296)) * (Y / 4294967296)))) := U64_wrap _
    generalize IntKind.u64.wrap (U - IntKind.u64.wrap (IntKind.u64.wrap (U.tdiv (Y / 4294967296)) * (Y / 4294967296))) = r1 at *
    generalize IntKind.u64.wrap (U.tdiv (Y / 4294967296)) = q2 at *
    refine W.mono (Q := fun e st => e = .exit 2 ∧ ∃ q : Int, get st.T 2 = .t (.int .u64 Y) ∧ get st.T 8 = .t (.int .u64 s) ∧ get st.T 14 = .t (.int .u64 D) ∧ get st.T 15 = .t (.int .u64 q1) ∧ get st.T 17 = .t (.int .u64 U) ∧ get st.T 18 = .t (.int .u64 q) ∧ st.h = []) ?_ ?_
    · refine W_rounds (α := Int × Int) (fun a => ⟨[(2, .t (.int .u64 Y)), (8, .t (.int .u64 s)), (9, .t (.int .u64 (Y / 4294967296))), (10, .t (.int .u64 A)), (14, .t (.int .u64 D)), (15, .t (.int .u64 q1)), (16, .t (.int .u64 a.2)), (17, .t (.int .u64 U)), (18, .t (.int .u64 a.1))], []⟩)
        (fun a => leftTo a.2) (fun a => U64 a.2) (q2, r1) (by (simp only [loopKeep, firstRegion, keepsOf, tidy, canon, reach, refsL, refs, catMap, depth, renL, ren, sub, sub1, upto, mem, place, fresh, get, nth, List.map, List.zip_cons_cons, List.zip_nil_right, List.take, List.append_nil, g2, g8, g9, g10, g14, g15] <;> exact rfl)) hr1 ?_
      rintro ⟨q, r⟩ hr
      try dsimp only at hr
      ((repeat' (first | with_reducible apply fol | with_reducible refine aRW ?_ | with_reducible refine aRR ?_ | with_reducible refine aRs ?_ | ((with_reducible first | apply RW_gdn | apply RR_gdn | apply RW_gd | apply RR_gd) <;> intro hg <;> first | (cases hg; done) | skip) | with_reducible refine aE1 ?_ | with_reducible refine aE2 ?_ | with_reducible refine aOn ?_ | ((with_reducible refine aCd ?_ ?_) <;> intro hv <;> first | (cases hv; done) | skip) | fail)))
      all_goals first
        | exact ⟨rfl, _, rfl, rfl, rfl, rfl, rfl, rfl, rfl⟩
        | exact again_normal (IntKind.u64.wrap (q - 1), IntKind.u64.wrap (r + Y / 4294967296)) (leftTo_step hr.1 (by omega) (by omega) (by simpa using hv) hr.2) (U64_wrap _) (by kernel_rfl)
    rintro e ⟨T', h⟩ ⟨rfl, q3, f2, f8, f14, f15, f17, f18, fh⟩
    dsimp only at f2 f8 f14 f15 f17 f18 fh
    subst fh
    clear g2 g8 g9 g10 g11 g13 g14 g15
    repeat' (first | with_reducible apply once_normal | with_reducible apply once_exit | with_reducible apply once_ret | with_reducible apply once_pan | with_reducible apply thenW_normal | with_reducible apply thenW_ret | with_reducible apply thenW_exit | with_reducible apply thenW_pan | with_reducible apply outOf_normal | with_reducible apply outOf_eq | (refine outOf_ne (by kernel_rfl) ?_) | with_reducible apply outOf_ret | with_reducible apply outOf_pan | with_reducible apply again_exit | with_reducible apply again_ret | with_reducible apply again_pan | with_reducible apply W_seq | with_reducible apply W_block | with_reducible apply W_scope | with_reducible apply W_skip | with_reducible apply W_ret | with_reducible apply W_exit | with_reducible apply W_label | ((with_reducible apply W_RW); (focus kernel_rfl)) | ((with_reducible apply W_RR); (focus kernel_rfl); (focus kernel_rfl)) | with_reducible apply RW_some | with_reducible apply RR_cons | ((with_reducible apply RR_some); (refine ⟨by kernel_rfl, ?_⟩)) | ((with_reducible refine RW_gdn (fun hg => ?_) (fun hg => ?_)) <;> first | (cases hg; done) | skip) | ((with_reducible refine RR_gdn (fun hg => ?_) (fun hg => ?_)) <;> first | (cases hg; done) | skip) | ((with_reducible refine RW_gd (fun hg => ?_) (fun hg => ?_)) <;> first | (cases hg; done) | skip) | ((with_reducible refine RR_gd (fun hg => ?_) (fun hg => ?_)) <;> first | (cases hg; done) | skip) | ((with_reducible apply RW_eq); (focus (simp only [int_shr _ _ _ _ _ _ hs0, wanted, exec1, operand, get, putT, ret, retO, lit, lit1, patch, CC_P, int_add, int_sub, int_mul, runOps_cons, runOps_nil, gdL_true, *]; exact rfl))) | ((with_reducible apply RR_eq); (focus (simp only [*]; exact rfl))) | ((refine W_cond (by (simp only [operand, lit, lit1, *]; exact rfl)) (fun hv => ?_) (fun hv => ?_)) <;> first | (cases hv; done) | skip))
    ((with_reducible apply ends_ret); (focus (simp only [CC_P, results, resultsOf, resultOf, get, res_197, *]; exact rfl)); (focus (first | exact finish_tree' _ _ _ _ | exact finish_tup2 _ _ _ _ _ | exact finish_tup3 _ _ _ _ _ _)))
    exact ⟨(_, _), ⟨rfl, rfl⟩, trivial⟩
end Go.Ab
/- Layer 1 (num): products and quotients of decimals. -/
namespace Go.Ab
open Go.Proofs
set_option maxRecDepth 100000
set_option maxHeartbeats 4000000
set_option linter.unusedSimpArgs false
set_option linter.unusedVariables false
open Classical in
noncomputable def Div64 (hi lo y : Int) : Int × Int := if h : U64 hi ∧ U64 lo ∧ U64 y ∧ hi < y then (div64_run hi lo y h.1 h.2.1 h.2.2.1 h.2.2.2).choose else (0, 0)
theorem div64_ok (hi lo y : Int) (h : U64 hi ∧ U64 lo ∧ U64 y ∧ hi < y) : Om CC 197 [.t (.int .u64 hi), .t (.int .u64 lo), .t (.int .u64 y)] [] = some (.val (.tup [.t (.int .u64 (Div64 hi lo y).1), .t (.int .u64 (Div64 hi lo y).2)]), []) := by
  unfold Div64; rw [dif_pos h]; exact (div64_run hi lo y h.1 h.2.1 h.2.2.1 h.2.2.2).choose_spec.1

theorem overS_run (hi lo a b d : Int) : ∃ x : Int × Int, Om CC 196 [.t (.int .u64 hi), .t (.int .u64 lo), .box 0 0, .box 1 0, .box 2 0] [.box [.t (.int .i64 a)], .box [.t (.int .i64 b)], .box [.t (.int .i64 d)]] =
    some (.val (.tup [.t (.int .i64 x.1), .t (.int .i64 x.2)]), [.box [.t (.int .i64 a)], .box [.t (.int .i64 b)], .box [.t (.int .i64 d)]]) ∧ R64 x.1 := by
  refine call_exh (F := fun x : Int × Int => .tup [.t (.int .i64 x.1), .t (.int .i64 x.2)]) fun_196 rfl ?_
  (have F_ : _ ∧ _ ∧ _ ∧ _ ∧ _ ∧ _ ∧ _ ∧ _ ∧ _ ∧ _ ∧ _ ∧ _ ∧ _ ∧ _ ∧ _ ∧ _ ∧ _ ∧ _ ∧ _ := ⟨und_2, size_2, agg_2, zero_2, zel_2, small_2, und_4, size_4, agg_4, zero_4, zel_4, small_4, noInt_4, und_225, size_225, agg_225, zero_225, zel_225, small_225⟩; show W CC 3 22 (keepsOf 196) _ ⟨[(0, _), (1, _), (2, _), (3, _), (4, _)], [_, _, _]⟩ _)
  (have x0_ := @signed_ok; have x1_ := @hb_177; (repeat' (first | with_reducible apply fol | with_reducible refine aRW ?_ | with_reducible refine aRR ?_ | with_reducible refine aRs ?_ | ((with_reducible first | apply RW_gdn | apply RR_gdn | apply RW_gd | apply RR_gd) <;> intro hg <;> first | (cases hg; done) | skip) | with_reducible refine aE1 ?_ | with_reducible refine aE2 ?_ | with_reducible refine aOn ?_ | ((with_reducible refine aCd ?_ ?_) <;> intro hv <;> first | (cases hv; done) | skip) | fail)); all_goals clear x0_ x1_)
  ((with_reducible apply ends_ret); (focus (simp only [CC_P, results, resultsOf, resultOf, get, res_196, *]; exact rfl)); (focus (simp only [finish, thaw_196, exports, viewedO, viewed, view, freeze, patch, catMap, canon, reach, refsL, refs, refsO, depth, renL, ren, renO, sub, sub1, upto, nth, List.map, List.take, List.length_cons, List.length_nil, List.append_nil, Nat.reduceAdd, Nat.zero_add] <;> exact rfl)))
  exact ⟨(_, _), ⟨rfl, rfl⟩, signed_r _ _ _⟩
noncomputable def OverS (hi lo a b d : Int) : Int × Int := (overS_run hi lo a b d).choose
theorem overS_ok (hi lo a b d : Int) : Om CC 196 [.t (.int .u64 hi), .t (.int .u64 lo), .box 0 0, .box 1 0, .box 2 0] [.box [.t (.int .i64 a)], .box [.t (.int .i64 b)], .box [.t (.int .i64 d)]] =
    some (.val (.tup [.t (.int .i64 (OverS hi lo a b d).1), .t (.int .i64 (OverS hi lo a b d).2)]), [.box [.t (.int .i64 a)], .box [.t (.int .i64 b)], .box [.t (.int .i64 d)]]) := (overS_run hi lo a b d).choose_spec.1
theorem overS_r (hi lo a b d : Int) : R64 (OverS hi lo a b d).1 := (overS_run hi lo a b d).choose_spec.2

theorem over_run (a b d : Int) : ∃ x : Int × Int, Om CC 178 [.t (.int .i64 a), .t (.int .i64 b), .t (.int .i64 d)] [] = some (.val (.tup [.t (.int .i64 x.1), .t (.int .i64 x.2)]), []) ∧ R64 x.1 := by
  refine call_ex (F := fun x : Int × Int => .tup [.t (.int .i64 x.1), .t (.int .i64 x.2)]) fun_178 rfl ?_
  (have F_ : _ ∧ _ ∧ _ ∧ _ ∧ _ ∧ _ ∧ _ ∧ _ ∧ _ ∧ _ ∧ _ ∧ _ := ⟨und_2, size_2, agg_2, zero_2, zel_2, small_2, und_225, size_225, agg_225, zero_225, zel_225, small_225⟩; show W CC 0 61 (keepsOf 178) _ ⟨[(0, _), (1, _), (2, _)], []⟩ _)
  have hu := mul64_u (Size a) (Size b)
  have hd := size_u d
  by_cases hlt : (Mul64 (Size a) (Size b)).1 < Size d
  · have hge : decide ((Mul64 (Size a) (Size b)).1 ≥ Size d) = false := by simpa using hlt
    have hdiv := div64_ok (Mul64 (Size a) (Size b)).1 (Mul64 (Size a) (Size b)).2 (Size d) ⟨hu.1, hu.2, hd, hlt⟩
    clear hu hd
    (have x0_ := @size_ok'; have x1_ := @mul64_ok; have x2_ := @overS_ok; have x3_ := @hb_176; have x4_ := @hb_175; have x5_ := @hb_197; have x6_ := @hb_196; (repeat' (first | with_reducible apply fol | with_reducible refine aRW ?_ | with_reducible refine aRR ?_ | with_reducible refine aRs ?_ | ((with_reducible first | apply RW_gdn | apply RR_gdn | apply RW_gd | apply RR_gd) <;> intro hg <;> first | (cases hg; done) | skip) | with_reducible refine aE1 ?_ | with_reducible refine aE2 ?_ | with_reducible refine aOn ?_ | ((with_reducible refine aCd ?_ ?_) <;> intro hv <;> first | (cases hv; done) | skip) | fail)); all_goals clear x0_ x1_ x2_ x3_ x4_ x5_ x6_)
    all_goals (((with_reducible apply ends_ret); (focus (simp only [CC_P, results, resultsOf, resultOf, get, res_178, *]; exact rfl)); (focus (first | exact finish_tree' _ _ _ _ | exact finish_tup2 _ _ _ _ _ | exact finish_tup3 _ _ _ _ _ _))))
    all_goals exact ⟨(_, _), ⟨rfl, rfl⟩, by first | exact overS_r _ _ _ _ _ | (simp only [R64]; decide)⟩
  · have hge : decide ((Mul64 (Size a) (Size b)).1 ≥ Size d) = true := by simpa using hlt
    clear hu hd
    (have x0_ := @size_ok'; have x1_ := @mul64_ok; have x2_ := @hb_176; have x3_ := @hb_175; (repeat' (first | with_reducible apply fol | with_reducible refine aRW ?_ | with_reducible refine aRR ?_ | with_reducible refine aRs ?_ | ((with_reducible first | apply RW_gdn | apply RR_gdn | apply RW_gd | apply RR_gd) <;> intro hg <;> first | (cases hg; done) | skip) | with_reducible refine aE1 ?_ | with_reducible refine aE2 ?_ | with_reducible refine aOn ?_ | ((with_reducible refine aCd ?_ ?_) <;> intro hv <;> first | (cases hv; done) | skip) | fail)); all_goals clear x0_ x1_ x2_ x3_)
    all_goals (((with_reducible apply ends_ret); (focus (simp only [CC_P, results, resultsOf, resultOf, get, res_178, *]; exact rfl)); (focus (first | exact finish_tree' _ _ _ _ | exact finish_tup2 _ _ _ _ _ | exact finish_tup3 _ _ _ _ _ _))))
    all_goals exact ⟨(_, _), ⟨rfl, rfl⟩, by first | exact overS_r _ _ _ _ _ | (simp only [R64]; decide)⟩
noncomputable def Over (a b d : Int) : Int × Int := (over_run a b d).choose
theorem over_ok (a b d : Int) : Om CC 178 [.t (.int .i64 a), .t (.int .i64 b), .t (.int .i64 d)] [] = some (.val (.tup [.t (.int .i64 (Over a b d).1), .t (.int .i64 (Over a b d).2)]), []) := (over_run a b d).choose_spec.1
theorem over_r (a b d : Int) : R64 (Over a b d).1 := (over_run a b d).choose_spec.2

theorem nMulDec_run (a b : Int) : ∃ x : Int × Int, Om CC 147 [.t (.int .i64 a), .t (.int .i64 b)] [] = some (.val (.tup [.t (.int .i64 x.1), .t (.int .i64 x.2)]), []) ∧ R64 x.1 := by
  refine call_ex (F := fun x : Int × Int => .tup [.t (.int .i64 x.1), .t (.int .i64 x.2)]) fun_147 rfl ?_
  (have F_ : _ ∧ _ ∧ _ ∧ _ ∧ _ ∧ _ := ⟨und_2, size_2, agg_2, zero_2, zel_2, small_2⟩; show W CC 0 11 (keepsOf 147) _ ⟨[(0, _), (1, _)], []⟩ _)
  (have x0_ := @over_ok; have x1_ := @hb_178; (repeat' (first | with_reducible apply fol | with_reducible refine aRW ?_ | with_reducible refine aRR ?_ | with_reducible refine aRs ?_ | ((with_reducible first | apply RW_gdn | apply RR_gdn | apply RW_gd | apply RR_gd) <;> intro hg <;> first | (cases hg; done) | skip) | with_reducible refine aE1 ?_ | with_reducible refine aE2 ?_ | with_reducible refine aOn ?_ | ((with_reducible refine aCd ?_ ?_) <;> intro hv <;> first | (cases hv; done) | skip) | fail)); all_goals clear x0_ x1_)
  all_goals (((with_reducible apply ends_ret); (focus (simp only [CC_P, results, resultsOf, resultOf, get, res_147, *]; exact rfl)); (focus (first | exact finish_tree' _ _ _ _ | exact finish_tup2 _ _ _ _ _ | exact finish_tup3 _ _ _ _ _ _))))
  all_goals exact ⟨(_, _), ⟨rfl, rfl⟩, by first | exact over_r _ _ _ | (simp only [R64]; decide)⟩
noncomputable def NMulDec (a b : Int) : Int × Int := (nMulDec_run a b).choose
theorem nMulDec_ok (a b : Int) : Om CC 147 [.t (.int .i64 a), .t (.int .i64 b)] [] = some (.val (.tup [.t (.int .i64 (NMulDec a b).1), .t (.int .i64 (NMulDec a b).2)]), []) := (nMulDec_run a b).choose_spec.1
theorem nMulDec_r (a b : Int) : R64 (NMulDec a b).1 := (nMulDec_run a b).choose_spec.2

theorem nDivDec_run (a b : Int) : ∃ x : Int × Int, Om CC 149 [.t (.int .i64 a), .t (.int .i64 b)] [] = some (.val (.tup [.t (.int .i64 x.1), .t (.int .i64 x.2)]), []) ∧ R64 x.1 := by
  refine call_ex (F := fun x : Int × Int => .tup [.t (.int .i64 x.1), .t (.int .i64 x.2)]) fun_149 rfl ?_
  (have F_ : _ ∧ _ ∧ _ ∧ _ ∧ _ ∧ _ := ⟨und_2, size_2, agg_2, zero_2, zel_2, small_2⟩; show W CC 0 13 (keepsOf 149) _ ⟨[(0, _), (1, _)], []⟩ _)
  (have x0_ := @over_ok; have x1_ := @hb_178; (repeat' (first | with_reducible apply fol | with_reducible refine aRW ?_ | with_reducible refine aRR ?_ | with_reducible refine aRs ?_ | ((with_reducible first | apply RW_gdn | apply RR_gdn | apply RW_gd | apply RR_gd) <;> intro hg <;> first | (cases hg; done) | skip) | with_reducible refine aE1 ?_ | with_reducible refine aE2 ?_ | with_reducible refine aOn ?_ | ((with_reducible refine aCd ?_ ?_) <;> intro hv <;> first | (cases hv; done) | skip) | fail)); all_goals clear x0_ x1_)
  all_goals (((with_reducible apply ends_ret); (focus (simp only [CC_P, results, resultsOf, resultOf, get, res_149, *]; exact rfl)); (focus (first | exact finish_tree' _ _ _ _ | exact finish_tup2 _ _ _ _ _ | exact finish_tup3 _ _ _ _ _ _))))
  all_goals exact ⟨(_, _), ⟨rfl, rfl⟩, by first | exact over_r _ _ _ | (simp only [R64]; decide)⟩
noncomputable def NDivDec (a b : Int) : Int × Int := (nDivDec_run a b).choose
theorem nDivDec_ok (a b : Int) : Om CC 149 [.t (.int .i64 a), .t (.int .i64 b)] [] = some (.val (.tup [.t (.int .i64 (NDivDec a b).1), .t (.int .i64 (NDivDec a b).2)]), []) := (nDivDec_run a b).choose_spec.1
theorem nDivDec_r (a b : Int) : R64 (NDivDec a b).1 := (nDivDec_run a b).choose_spec.2

end Go.Ab
/- Equality of values and bindings; the closure by which a template is found. -/
namespace Go.Ab
open Go.Proofs
set_option maxRecDepth 100000
set_option linter.unusedSimpArgs false

theorem val_eq (d : Nat) (v w : Val) : equal Tryz.prog (d + 1 + 1) 45 (.agg v.c) (.agg w.c) = some (decide (v = w)) := by
  simp only [Val.c, eqs_45, eqStep, partT, agg_5, agg_2, agg_9, nth, eq_int _ _ _ _ _ _ und_5, eq_int _ _ _ _ _ _ und_2, eq_str _ _ _ _ _ und_9, stepB, Bool.and_true]
  congr 1
  obtain ⟨k, n, s⟩ := v
  obtain ⟨k', n', s'⟩ := w
  simp only [beqL_eq, Val.mk.injEq]
  by_cases h1 : k = k' <;> by_cases h2 : n = n' <;> by_cases h3 : s = s' <;> simp [h1, h2, h3]

theorem bind_eq (d : Nat) (v w : Bind) : equal Tryz.prog (d + 1 + 1 + 1) 47 (.agg v.c) (.agg w.c) = some (decide (v = w)) := by
  have h := val_eq d v.v w.v
  simp only [Val.c] at h
  simp only [Bind.c, Val.c, eqs_47, eqStep, partT, agg_9, agg_45, size_45, nth, eq_str _ _ _ _ _ und_9, cut, List.length_cons, List.length_nil, Nat.reduceAdd, Nat.reduceLeDiff, if_true, List.drop, List.take, h, stepB, Bool.and_true]
  congr 1
  obtain ⟨k, n⟩ := v
  obtain ⟨k', n'⟩ := w
  simp only [beqL_eq, Bind.mk.injEq]
  by_cases h1 : k = k' <;> by_cases h2 : n = n' <;> simp [h1, h2]

theorem bind_neq (v w : Bind) : binop Tryz.prog .neq 47 (.t (.agg v.c)) (.t (.agg w.c)) = some (.t (.bool (!decide (v = w)))) := by
  rw [agg_neq _ _ _ _ grd_47, bind_eq 97]; rfl

theorem isT_ok (t : Tpl) (p : Pat) : Om CC 15 [.t (.agg t.c), .box 0 0] [.box (p.c.map .t)] = some (.val (.t (.bool (beqL t.name p.t))), [.box (p.c.map .t)]) := by
  refine call_eq fun_15 rfl ?_
  show W CC 1 9 (keepsOf 15) _ ⟨[(0, _), (1, _)], [_]⟩ _
  repeat (first | with_reducible apply once_normal | with_reducible apply once_exit | with_reducible apply once_ret | with_reducible apply once_pan | with_reducible apply thenW_normal | with_reducible apply thenW_ret | with_reducible apply thenW_exit | with_reducible apply thenW_pan | with_reducible apply outOf_normal | with_reducible apply outOf_eq | (refine outOf_ne (by kernel_rfl) ?_) | with_reducible apply outOf_ret | with_reducible apply outOf_pan | with_reducible apply again_exit | with_reducible apply again_ret | with_reducible apply again_pan | with_reducible apply W_seq | with_reducible apply W_block | with_reducible apply W_scope | with_reducible apply W_skip | with_reducible apply W_ret | with_reducible apply W_exit | with_reducible apply W_label | ((with_reducible apply W_run); (focus kernel_rfl); (focus (simp only [runOps, wanted, exec1, xBox, cellsOf, operand, get, putT, ret, retO, lit, lit1, patch, put1, load, loadCells, cut, addOff, nth, CC_P, str_eql, Nat.zero_add, Nat.add_zero, List.map_cons, List.map_nil, List.length_cons, List.length_nil, List.take, List.drop, if_true, Nat.reduceAdd, Nat.reduceLeDiff, Sl.t, Tpl.c, Pat.c, agg_9, fa_27_1, fa_39_0]; exact rfl))))
  exact ⟨.t (.bool (beqL t.name p.t)), by kernel_rfl, by kernel_rfl⟩

theorem same_self (l : List Bind) (n1 c1 n2 c2 : Bool) (hl : l.length < 9223372036854775808) : Om CC 9 [.t (.sl n1 c1 (l.map Bind.c)), .t (.sl n2 c2 (l.map Bind.c))] [] = some (.val (.t (.bool true)), []) := by
  refine call_eq fun_9 rfl ?_
  show W CC 0 26 (keepsOf 9) _ ⟨[(0, _), (1, _)], []⟩ _
  repeat (first | with_reducible apply once_normal | with_reducible apply once_exit | with_reducible apply once_ret | with_reducible apply once_pan | with_reducible apply thenW_normal | with_reducible apply thenW_ret | with_reducible apply thenW_exit | with_reducible apply thenW_pan | with_reducible apply outOf_normal | with_reducible apply outOf_eq | (refine outOf_ne (by kernel_rfl) ?_) | with_reducible apply outOf_ret | with_reducible apply outOf_pan | with_reducible apply again_exit | with_reducible apply again_ret | with_reducible apply again_pan | with_reducible apply W_seq | with_reducible apply W_block | with_reducible apply W_scope | with_reducible apply W_skip | with_reducible apply W_ret | with_reducible apply W_exit | with_reducible apply W_label | ((with_reducible apply W_run); (focus kernel_rfl); (focus (simp only [Int.ofNat_eq_natCast, List.length_map, runOps, wanted, exec1, xCall, xBuiltin, xLen, operand, opds, get, putT, ret, retO, lit, lit1, patch, lenOf, CC_P, int_neq, und_31]; exact rfl))))
  refine W_cond (v := ((l.length : Int) != l.length)) (by (simp only [operand, get])) (fun hv => ?_) (fun hv => ?_)
  · simp at hv
  clear hv
  repeat (first | with_reducible apply once_normal | with_reducible apply once_exit | with_reducible apply once_ret | with_reducible apply once_pan | with_reducible apply thenW_normal | with_reducible apply thenW_ret | with_reducible apply thenW_exit | with_reducible apply thenW_pan | with_reducible apply outOf_normal | with_reducible apply outOf_eq | (refine outOf_ne (by kernel_rfl) ?_) | with_reducible apply outOf_ret | with_reducible apply outOf_pan | with_reducible apply again_exit | with_reducible apply again_ret | with_reducible apply again_pan | with_reducible apply W_seq | with_reducible apply W_block | with_reducible apply W_scope | with_reducible apply W_skip | with_reducible apply W_ret | with_reducible apply W_exit | with_reducible apply W_label | ((with_reducible apply W_run); (focus kernel_rfl); (focus (simp only [runOps, wanted, exec1, operand, putT, ret, lit, lit1, patch]; exact rfl))))
  refine W_rounds (α := Nat) (fun i => ⟨[(0, .t (.sl n1 c1 (l.map Bind.c))), (1, .t (.sl n2 c2 (l.map Bind.c))), (5, .t (.int .i64 i))], []⟩) (fun i => l.length - i) (fun i => i ≤ l.length) 0 (by kernel_rfl) (Nat.zero_le _) ?_
  intro i hi
  try dsimp only at hi
  repeat (first | with_reducible apply once_normal | with_reducible apply once_exit | with_reducible apply once_ret | with_reducible apply once_pan | with_reducible apply thenW_normal | with_reducible apply thenW_ret | with_reducible apply thenW_exit | with_reducible apply thenW_pan | with_reducible apply outOf_normal | with_reducible apply outOf_eq | (refine outOf_ne (by kernel_rfl) ?_) | with_reducible apply outOf_ret | with_reducible apply outOf_pan | with_reducible apply again_exit | with_reducible apply again_ret | with_reducible apply again_pan | with_reducible apply W_seq | with_reducible apply W_block | with_reducible apply W_scope | with_reducible apply W_skip | with_reducible apply W_ret | with_reducible apply W_exit | with_reducible apply W_label | ((with_reducible apply W_run); (focus kernel_rfl); (focus (simp only [Int.ofNat_eq_natCast, List.length_map, runOps, wanted, exec1, xCall, xBuiltin, xLen, operand, opds, get, putT, ret, retO, patch, lenOf, CC_P, int_lss, und_31]; exact rfl))))
  refine W_cond (v := decide ((i : Int) < l.length)) (by (simp only [operand, get])) (fun hv => ?_) (fun hv => ?_)
  · have hi' : i < l.length := by simpa using hv
    have hw : IntKind.i64.wrap ((i : Int) + 1) = ((i + 1 : Nat) : Int) := by rw [wrap64] <;> omega
    have he : l[i]? = some l[i] := List.getElem?_eq_getElem hi'
    have hb : binop Tryz.prog .neq 47 (.t (.agg l[i].c)) (.t (.agg l[i].c)) = some (.t (.bool false)) := by rw [bind_neq]; simp
    simp only [Bind.c, Val.c] at hb
    repeat (first | with_reducible apply once_normal | with_reducible apply once_exit | with_reducible apply once_ret | with_reducible apply once_pan | with_reducible apply thenW_normal | with_reducible apply thenW_ret | with_reducible apply thenW_exit | with_reducible apply thenW_pan | with_reducible apply outOf_normal | with_reducible apply outOf_eq | (refine outOf_ne (by kernel_rfl) ?_) | with_reducible apply outOf_ret | with_reducible apply outOf_pan | with_reducible apply again_exit | with_reducible apply again_ret | with_reducible apply again_pan | with_reducible apply W_seq | with_reducible apply W_block | with_reducible apply W_scope | with_reducible apply W_skip | with_reducible apply W_ret | with_reducible apply W_exit | with_reducible apply W_label | ((with_reducible apply W_run); (focus kernel_rfl); (focus (simp only [if_true]; exact rfl))))
    ((with_reducible apply W_drawn); (focus kernel_rfl); (focus kernel_rfl); (focus (simp only [List.getElem?_map, Option.map_some, wanted, exec1, xIndexAddr, operand, get, putT, ret, retO, patch, load, loadCells, cut, mkAgg, trees, indexAddr, CC_P, idx_nat, Nat.zero_add, List.map_cons, List.map_nil, List.length_cons, List.length_nil, List.take, List.drop, if_true, Nat.reduceAdd, Nat.reduceLeDiff, Val.c, Bind.c, runRec, gapless, foot, he, hb, und_31, size_47, agg_47]; exact rfl)); (focus kernel_rfl))
    repeat (first | with_reducible apply once_normal | with_reducible apply once_exit | with_reducible apply once_ret | with_reducible apply once_pan | with_reducible apply thenW_normal | with_reducible apply thenW_ret | with_reducible apply thenW_exit | with_reducible apply thenW_pan | with_reducible apply outOf_normal | with_reducible apply outOf_eq | (refine outOf_ne (by kernel_rfl) ?_) | with_reducible apply outOf_ret | with_reducible apply outOf_pan | with_reducible apply again_exit | with_reducible apply again_ret | with_reducible apply again_pan | with_reducible apply W_seq | with_reducible apply W_block | with_reducible apply W_scope | with_reducible apply W_skip | with_reducible apply W_ret | with_reducible apply W_exit | with_reducible apply W_label | ((with_reducible apply W_run); (focus kernel_rfl); (focus (simp only [if_true]; exact rfl))))
    refine W_cond (v := false) (by (simp only [operand, get])) (fun hv => ?_) (fun hv => ?_)
    · cases hv
    repeat (first | with_reducible apply once_normal | with_reducible apply once_exit | with_reducible apply once_ret | with_reducible apply once_pan | with_reducible apply thenW_normal | with_reducible apply thenW_ret | with_reducible apply thenW_exit | with_reducible apply thenW_pan | with_reducible apply outOf_normal | with_reducible apply outOf_eq | (refine outOf_ne (by kernel_rfl) ?_) | with_reducible apply outOf_ret | with_reducible apply outOf_pan | with_reducible apply again_exit | with_reducible apply again_ret | with_reducible apply again_pan | with_reducible apply W_seq | with_reducible apply W_block | with_reducible apply W_scope | with_reducible apply W_skip | with_reducible apply W_ret | with_reducible apply W_exit | with_reducible apply W_label | ((with_reducible apply W_run); (focus kernel_rfl); (focus (simp only [runOps, wanted, exec1, operand, get, putT, ret, retO, lit, lit1, patch, CC_P, i64_add, hw]; exact rfl))))
    refine again_normal (i + 1) (by omega) (by omega) (by kernel_rfl)
  · repeat (first | with_reducible apply once_normal | with_reducible apply once_exit | with_reducible apply once_ret | with_reducible apply once_pan | with_reducible apply thenW_normal | with_reducible apply thenW_ret | with_reducible apply thenW_exit | with_reducible apply thenW_pan | with_reducible apply outOf_normal | with_reducible apply outOf_eq | (refine outOf_ne (by kernel_rfl) ?_) | with_reducible apply outOf_ret | with_reducible apply outOf_pan | with_reducible apply again_exit | with_reducible apply again_ret | with_reducible apply again_pan | with_reducible apply W_seq | with_reducible apply W_block | with_reducible apply W_scope | with_reducible apply W_skip | with_reducible apply W_ret | with_reducible apply W_exit | with_reducible apply W_label | ((with_reducible apply W_run); (focus kernel_rfl); (focus (simp only [runOps, wanted, exec1, operand, putT, ret, lit, lit1, patch]; exact rfl))))
    exact ⟨.t (.bool true), by kernel_rfl, by kernel_rfl⟩
end Go.Ab
/- Layer 2 (value): each function answers. -/
namespace Go.Ab
open Go.Proofs
set_option maxRecDepth 100000
set_option maxHeartbeats 4000000
set_option linter.unusedSimpArgs false
set_option linter.unusedVariables false
theorem R64_0 : R64 0 := by simp only [R64]; decide
theorem R64_1 : R64 1 := by simp only [R64]; decide
/-- A value whose number and text are of a size that may be. -/
def VOK (v : Val) : Prop := R64 v.n ∧ v.s.length < 4294967281
theorem VOK_lit {n : Int} (k : Int) (h : R64 n) : VOK ⟨k, n, []⟩ := ⟨h, by simp⟩
def Zero : Val := ⟨0, 0, []⟩
theorem VOK_0 : VOK Zero := VOK_lit 0 R64_0

theorem nanU64_run (a : Int) : ∃ x : Bool, Om CC 188 [.t (.int .u64 a)] [] = some (.val (.t (.bool x)), []) ∧ (True) := by
  refine call_ex (F := fun x : Bool => .t (.bool x)) fun_188 rfl ?_
  (have F_ : _ ∧ _ ∧ _ ∧ _ ∧ _ ∧ _ := ⟨und_225, size_225, agg_225, zero_225, zel_225, small_225⟩; show W CC 0 6 (keepsOf 188) _ ⟨[(0, _)], []⟩ _)
  ((repeat' (first | with_reducible apply fol | with_reducible refine aRW ?_ | with_reducible refine aRR ?_ | with_reducible refine aRs ?_ | ((with_reducible first | apply RW_gdn | apply RR_gdn | apply RW_gd | apply RR_gd) <;> intro hg <;> first | (cases hg; done) | skip) | with_reducible refine aE1 ?_ | with_reducible refine aE2 ?_ | with_reducible refine aOn ?_ | ((with_reducible refine aCd ?_ ?_) <;> intro hv <;> first | (cases hv; done) | skip) | fail)))
  all_goals (((with_reducible apply ends_ret); (focus (simp only [CC_P, results, resultsOf, resultOf, get, res_188, *]; exact rfl)); (focus (first | exact finish_tree' _ _ _ _ | exact finish_tup2 _ _ _ _ _ | exact finish_tup3 _ _ _ _ _ _))))
  all_goals exact ⟨_, ⟨rfl, rfl⟩, by trivial⟩
noncomputable def NanU64 (a : Int) : Bool := (nanU64_run a).choose
theorem nanU64_ok (a : Int) : Om CC 188 [.t (.int .u64 a)] [] = some (.val (.t (.bool (NanU64 a))), []) := (nanU64_run a).choose_spec.1

theorem cmpU64_run (a : Int) (b : Int) : ∃ x : Int, Om CC 170 [.t (.int .u64 a), .t (.int .u64 b)] [] = some (.val (.t (.int .i64 x)), []) ∧ (True) := by
  refine call_ex (F := fun x : Int => .t (.int .i64 x)) fun_170 rfl ?_
  (have F_ : _ ∧ _ ∧ _ ∧ _ ∧ _ ∧ _ := ⟨und_225, size_225, agg_225, zero_225, zel_225, small_225⟩; show W CC 0 20 (keepsOf 170) _ ⟨[(0, _), (1, _)], []⟩ _)
  (have x0_ := @nanU64_ok; have x1_ := @hb_188; (repeat' (first | with_reducible apply fol | with_reducible refine aRW ?_ | with_reducible refine aRR ?_ | with_reducible refine aRs ?_ | ((with_reducible first | apply RW_gdn | apply RR_gdn | apply RW_gd | apply RR_gd) <;> intro hg <;> first | (cases hg; done) | skip) | with_reducible refine aE1 ?_ | with_reducible refine aE2 ?_ | with_reducible refine aOn ?_ | ((with_reducible refine aCd ?_ ?_) <;> intro hv <;> first | (cases hv; done) | skip) | fail)); all_goals clear x0_ x1_)
  all_goals (((with_reducible apply ends_ret); (focus (simp only [CC_P, results, resultsOf, resultOf, get, res_170, *]; exact rfl)); (focus (first | exact finish_tree' _ _ _ _ | exact finish_tup2 _ _ _ _ _ | exact finish_tup3 _ _ _ _ _ _))))
  all_goals exact ⟨_, ⟨rfl, rfl⟩, by trivial⟩
noncomputable def CmpU64 (a : Int) (b : Int) : Int := (cmpU64_run a b).choose
theorem cmpU64_ok (a : Int) (b : Int) : Om CC 170 [.t (.int .u64 a), .t (.int .u64 b)] [] = some (.val (.t (.int .i64 (CmpU64 a b))), []) := (cmpU64_run a b).choose_spec.1

theorem nanI64_run (a : Int) : ∃ x : Bool, Om CC 198 [.t (.int .i64 a)] [] = some (.val (.t (.bool x)), []) ∧ (True) := by
  refine call_ex (F := fun x : Bool => .t (.bool x)) fun_198 rfl ?_
  (have F_ : _ ∧ _ ∧ _ ∧ _ ∧ _ ∧ _ := ⟨und_2, size_2, agg_2, zero_2, zel_2, small_2⟩; show W CC 0 6 (keepsOf 198) _ ⟨[(0, _)], []⟩ _)
  ((repeat' (first | with_reducible apply fol | with_reducible refine aRW ?_ | with_reducible refine aRR ?_ | with_reducible refine aRs ?_ | ((with_reducible first | apply RW_gdn | apply RR_gdn | apply RW_gd | apply RR_gd) <;> intro hg <;> first | (cases hg; done) | skip) | with_reducible refine aE1 ?_ | with_reducible refine aE2 ?_ | with_reducible refine aOn ?_ | ((with_reducible refine aCd ?_ ?_) <;> intro hv <;> first | (cases hv; done) | skip) | fail)))
  all_goals (((with_reducible apply ends_ret); (focus (simp only [CC_P, results, resultsOf, resultOf, get, res_198, *]; exact rfl)); (focus (first | exact finish_tree' _ _ _ _ | exact finish_tup2 _ _ _ _ _ | exact finish_tup3 _ _ _ _ _ _))))
  all_goals exact ⟨_, ⟨rfl, rfl⟩, by trivial⟩
noncomputable def NanI64 (a : Int) : Bool := (nanI64_run a).choose
theorem nanI64_ok (a : Int) : Om CC 198 [.t (.int .i64 a)] [] = some (.val (.t (.bool (NanI64 a))), []) := (nanI64_run a).choose_spec.1

theorem cmpI64_run (a : Int) (b : Int) : ∃ x : Int, Om CC 179 [.t (.int .i64 a), .t (.int .i64 b)] [] = some (.val (.t (.int .i64 x)), []) ∧ (True) := by
  refine call_ex (F := fun x : Int => .t (.int .i64 x)) fun_179 rfl ?_
  (have F_ : _ ∧ _ ∧ _ ∧ _ ∧ _ ∧ _ := ⟨und_2, size_2, agg_2, zero_2, zel_2, small_2⟩; show W CC 0 20 (keepsOf 179) _ ⟨[(0, _), (1, _)], []⟩ _)
  (have x0_ := @nanI64_ok; have x1_ := @hb_198; (repeat' (first | with_reducible apply fol | with_reducible refine aRW ?_ | with_reducible refine aRR ?_ | with_reducible refine aRs ?_ | ((with_reducible first | apply RW_gdn | apply RR_gdn | apply RW_gd | apply RR_gd) <;> intro hg <;> first | (cases hg; done) | skip) | with_reducible refine aE1 ?_ | with_reducible refine aE2 ?_ | with_reducible refine aOn ?_ | ((with_reducible refine aCd ?_ ?_) <;> intro hv <;> first | (cases hv; done) | skip) | fail)); all_goals clear x0_ x1_)
  all_goals (((with_reducible apply ends_ret); (focus (simp only [CC_P, results, resultsOf, resultOf, get, res_179, *]; exact rfl)); (focus (first | exact finish_tree' _ _ _ _ | exact finish_tup2 _ _ _ _ _ | exact finish_tup3 _ _ _ _ _ _))))
  all_goals exact ⟨_, ⟨rfl, rfl⟩, by trivial⟩
noncomputable def CmpI64 (a : Int) (b : Int) : Int := (cmpI64_run a b).choose
theorem cmpI64_ok (a : Int) (b : Int) : Om CC 179 [.t (.int .i64 a), .t (.int .i64 b)] [] = some (.val (.t (.int .i64 (CmpI64 a b))), []) := (cmpI64_run a b).choose_spec.1

theorem nanU8_run (a : Int) : ∃ x : Bool, Om CC 202 [.t (.int .u8 a)] [] = some (.val (.t (.bool x)), []) ∧ (True) := by
  refine call_ex (F := fun x : Bool => .t (.bool x)) fun_202 rfl ?_
  (have F_ : _ ∧ _ ∧ _ ∧ _ ∧ _ ∧ _ := ⟨und_5, size_5, agg_5, zero_5, zel_5, small_5⟩; show W CC 0 6 (keepsOf 202) _ ⟨[(0, _)], []⟩ _)
  ((repeat' (first | with_reducible apply fol | with_reducible refine aRW ?_ | with_reducible refine aRR ?_ | with_reducible refine aRs ?_ | ((with_reducible first | apply RW_gdn | apply RR_gdn | apply RW_gd | apply RR_gd) <;> intro hg <;> first | (cases hg; done) | skip) | with_reducible refine aE1 ?_ | with_reducible refine aE2 ?_ | with_reducible refine aOn ?_ | ((with_reducible refine aCd ?_ ?_) <;> intro hv <;> first | (cases hv; done) | skip) | fail)))
  all_goals (((with_reducible apply ends_ret); (focus (simp only [CC_P, results, resultsOf, resultOf, get, res_202, *]; exact rfl)); (focus (first | exact finish_tree' _ _ _ _ | exact finish_tup2 _ _ _ _ _ | exact finish_tup3 _ _ _ _ _ _))))
  all_goals exact ⟨_, ⟨rfl, rfl⟩, by trivial⟩
noncomputable def NanU8 (a : Int) : Bool := (nanU8_run a).choose
theorem nanU8_ok (a : Int) : Om CC 202 [.t (.int .u8 a)] [] = some (.val (.t (.bool (NanU8 a))), []) := (nanU8_run a).choose_spec.1

theorem cmpU8_run (a : Int) (b : Int) : ∃ x : Int, Om CC 189 [.t (.int .u8 a), .t (.int .u8 b)] [] = some (.val (.t (.int .i64 x)), []) ∧ (True) := by
  refine call_ex (F := fun x : Int => .t (.int .i64 x)) fun_189 rfl ?_
  (have F_ : _ ∧ _ ∧ _ ∧ _ ∧ _ ∧ _ := ⟨und_5, size_5, agg_5, zero_5, zel_5, small_5⟩; show W CC 0 20 (keepsOf 189) _ ⟨[(0, _), (1, _)], []⟩ _)
  (have x0_ := @nanU8_ok; have x1_ := @hb_202; (repeat' (first | with_reducible apply fol | with_reducible refine aRW ?_ | with_reducible refine aRR ?_ | with_reducible refine aRs ?_ | ((with_reducible first | apply RW_gdn | apply RR_gdn | apply RW_gd | apply RR_gd) <;> intro hg <;> first | (cases hg; done) | skip) | with_reducible refine aE1 ?_ | with_reducible refine aE2 ?_ | with_reducible refine aOn ?_ | ((with_reducible refine aCd ?_ ?_) <;> intro hv <;> first | (cases hv; done) | skip) | fail)); all_goals clear x0_ x1_)
  all_goals (((with_reducible apply ends_ret); (focus (simp only [CC_P, results, resultsOf, resultOf, get, res_189, *]; exact rfl)); (focus (first | exact finish_tree' _ _ _ _ | exact finish_tup2 _ _ _ _ _ | exact finish_tup3 _ _ _ _ _ _))))
  all_goals exact ⟨_, ⟨rfl, rfl⟩, by trivial⟩
noncomputable def CmpU8 (a : Int) (b : Int) : Int := (cmpU8_run a b).choose
theorem cmpU8_ok (a : Int) (b : Int) : Om CC 189 [.t (.int .u8 a), .t (.int .u8 b)] [] = some (.val (.t (.int .i64 (CmpU8 a b))), []) := (cmpU8_run a b).choose_spec.1

theorem nanStr_run (a : List Nat) : ∃ x : Bool, Om CC 203 [.t (.str a)] [] = some (.val (.t (.bool x)), []) ∧ (True) := by
  refine call_ex (F := fun x : Bool => .t (.bool x)) fun_203 rfl ?_
  (have F_ : _ ∧ _ ∧ _ ∧ _ ∧ _ ∧ _ ∧ _ := ⟨und_9, size_9, agg_9, zero_9, zel_9, small_9, noInt_9⟩; show W CC 0 6 (keepsOf 203) _ ⟨[(0, _)], []⟩ _)
  ((repeat' (first | with_reducible apply fol | with_reducible refine aRW ?_ | with_reducible refine aRR ?_ | with_reducible refine aRs ?_ | ((with_reducible first | apply RW_gdn | apply RR_gdn | apply RW_gd | apply RR_gd) <;> intro hg <;> first | (cases hg; done) | skip) | with_reducible refine aE1 ?_ | with_reducible refine aE2 ?_ | with_reducible refine aOn ?_ | ((with_reducible refine aCd ?_ ?_) <;> intro hv <;> first | (cases hv; done) | skip) | fail)))
  all_goals (((with_reducible apply ends_ret); (focus (simp only [CC_P, results, resultsOf, resultOf, get, res_203, *]; exact rfl)); (focus (first | exact finish_tree' _ _ _ _ | exact finish_tup2 _ _ _ _ _ | exact finish_tup3 _ _ _ _ _ _))))
  all_goals exact ⟨_, ⟨rfl, rfl⟩, by trivial⟩
noncomputable def NanStr (a : List Nat) : Bool := (nanStr_run a).choose
theorem nanStr_ok (a : List Nat) : Om CC 203 [.t (.str a)] [] = some (.val (.t (.bool (NanStr a))), []) := (nanStr_run a).choose_spec.1

theorem cmpStr_run (a : List Nat) (b : List Nat) : ∃ x : Int, Om CC 190 [.t (.str a), .t (.str b)] [] = some (.val (.t (.int .i64 x)), []) ∧ (True) := by
  refine call_ex (F := fun x : Int => .t (.int .i64 x)) fun_190 rfl ?_
  (have F_ : _ ∧ _ ∧ _ ∧ _ ∧ _ ∧ _ ∧ _ := ⟨und_9, size_9, agg_9, zero_9, zel_9, small_9, noInt_9⟩; show W CC 0 20 (keepsOf 190) _ ⟨[(0, _), (1, _)], []⟩ _)
  (have x0_ := @nanStr_ok; have x1_ := @hb_203; (repeat' (first | with_reducible apply fol | with_reducible refine aRW ?_ | with_reducible refine aRR ?_ | with_reducible refine aRs ?_ | ((with_reducible first | apply RW_gdn | apply RR_gdn | apply RW_gd | apply RR_gd) <;> intro hg <;> first | (cases hg; done) | skip) | with_reducible refine aE1 ?_ | with_reducible refine aE2 ?_ | with_reducible refine aOn ?_ | ((with_reducible refine aCd ?_ ?_) <;> intro hv <;> first | (cases hv; done) | skip) | fail)); all_goals clear x0_ x1_)
  all_goals (((with_reducible apply ends_ret); (focus (simp only [CC_P, results, resultsOf, resultOf, get, res_190, *]; exact rfl)); (focus (first | exact finish_tree' _ _ _ _ | exact finish_tup2 _ _ _ _ _ | exact finish_tup3 _ _ _ _ _ _))))
  all_goals exact ⟨_, ⟨rfl, rfl⟩, by trivial⟩
noncomputable def CmpStr (a : List Nat) (b : List Nat) : Int := (cmpStr_run a b).choose
theorem cmpStr_ok (a : List Nat) (b : List Nat) : Om CC 190 [.t (.str a), .t (.str b)] [] = some (.val (.t (.int .i64 (CmpStr a b))), []) := (cmpStr_run a b).choose_spec.1

theorem cmpOr_run (l : List Int) (nl cl : Bool) (hl : l.length < 9223372036854775808) : ∃ x : Int, Om CC 169 [.t (.sl nl cl (l.map intC))] [] = some (.val (.t (.int .i64 x)), []) ∧ True := by
  refine call_ex (F := fun x : Int => .t (.int .i64 x)) fun_169 rfl ?_
  (have F_ : _ ∧ _ ∧ _ ∧ _ ∧ _ ∧ _ ∧ _ ∧ _ ∧ _ ∧ _ ∧ _ ∧ _ ∧ _ := ⟨und_3, size_3, agg_3, zero_3, zel_3, small_3, und_71, size_71, agg_71, zero_71, zel_71, small_71, noInt_71⟩; show W CC 0 18 (keepsOf 169) _ ⟨[(0, _)], []⟩ _)
  ((repeat' (first | with_reducible apply fol | with_reducible refine aRW ?_ | with_reducible refine aRR ?_ | with_reducible refine aRs ?_ | ((with_reducible first | apply RW_gdn | apply RR_gdn | apply RW_gd | apply RR_gd) <;> intro hg <;> first | (cases hg; done) | skip) | with_reducible refine aE1 ?_ | with_reducible refine aE2 ?_ | with_reducible refine aOn ?_ | ((with_reducible refine aCd ?_ ?_) <;> intro hv <;> first | (cases hv; done) | skip) | fail)))
  refine W_rounds (α := Nat) (fun i => ⟨[(3, .t (.int .i64 0)), (6, .t (.sl nl cl (l.map intC))), (7, .t (.int .i64 l.length)), (8, .t (.int .i64 i))], []⟩) (fun i => l.length - i) (fun i => i ≤ l.length) 0 (by kernel_rfl) (Nat.zero_le _) ?_
  intro i hi
  by_cases hi' : i < l.length
  · have hw : IntKind.i64.wrap ((i : Int) + 1) = ((i + 1 : Nat) : Int) := by rw [wrap64] <;> omega
    have he : l[i]? = some l[i] := List.getElem?_eq_getElem hi'
    have hd : decide ((i : Int) < l.length) = true := by simpa using hi'
    ((repeat' (first | with_reducible apply fol | with_reducible refine aRW ?_ | with_reducible refine aRR ?_ | with_reducible refine aRs ?_ | ((with_reducible first | apply RW_gdn | apply RR_gdn | apply RW_gd | apply RR_gd) <;> intro hg <;> first | (cases hg; done) | skip) | with_reducible refine aE1 ?_ | with_reducible refine aE2 ?_ | with_reducible refine aOn ?_ | ((with_reducible refine aCd ?_ ?_) <;> intro hv <;> first | (cases hv; done) | skip) | fail)))
    all_goals first
      | (((with_reducible apply ends_ret); (focus (simp only [CC_P, results, resultsOf, resultOf, get, res_169, *]; exact rfl)); (focus (first | exact finish_tree' _ _ _ _ | exact finish_tup2 _ _ _ _ _ | exact finish_tup3 _ _ _ _ _ _))); exact ⟨_, ⟨rfl, rfl⟩, trivial⟩)
      | exact again_normal (i + 1) (by omega) (by omega) (by kernel_rfl)
  · have hd : decide ((i : Int) < l.length) = false := by simpa using hi'
    ((repeat' (first | with_reducible apply fol | with_reducible refine aRW ?_ | with_reducible refine aRR ?_ | with_reducible refine aRs ?_ | ((with_reducible first | apply RW_gdn | apply RR_gdn | apply RW_gd | apply RR_gd) <;> intro hg <;> first | (cases hg; done) | skip) | with_reducible refine aE1 ?_ | with_reducible refine aE2 ?_ | with_reducible refine aOn ?_ | ((with_reducible refine aCd ?_ ?_) <;> intro hv <;> first | (cases hv; done) | skip) | fail)))
    ((with_reducible apply ends_ret); (focus (simp only [CC_P, results, resultsOf, resultOf, get, res_169, *]; exact rfl)); (focus (first | exact finish_tree' _ _ _ _ | exact finish_tup2 _ _ _ _ _ | exact finish_tup3 _ _ _ _ _ _)))
    exact ⟨_, ⟨rfl, rfl⟩, trivial⟩
theorem cmpOr3 (a b c : Int) : ∃ x : Int, Om CC 169 [.t (.sl false false [[.int .i64 a], [.int .i64 b], [.int .i64 c]])] [] = some (.val (.t (.int .i64 x)), []) := by
  obtain ⟨x, h, _⟩ := cmpOr_run [a, b, c] false false (by simp)
  exact ⟨x, h⟩
noncomputable def Or3 (a b c : Int) : Int := (cmpOr3 a b c).choose
theorem or3_ok (a b c : Int) : Om CC 169 [.t (.sl false false [[.int .i64 a], [.int .i64 b], [.int .i64 c]])] [] = some (.val (.t (.int .i64 (Or3 a b c))), []) := (cmpOr3 a b c).choose_spec
theorem cmpOr2 (a b : Int) : ∃ x : Int, Om CC 169 [.t (.sl false false [[.int .i64 a], [.int .i64 b]])] [] = some (.val (.t (.int .i64 x)), []) := by
  obtain ⟨x, h, _⟩ := cmpOr_run [a, b] false false (by simp)
  exact ⟨x, h⟩
noncomputable def Or2 (a b : Int) : Int := (cmpOr2 a b).choose
theorem or2_ok (a b : Int) : Om CC 169 [.t (.sl false false [[.int .i64 a], [.int .i64 b]])] [] = some (.val (.t (.int .i64 (Or2 a b))), []) := (cmpOr2 a b).choose_spec

theorem isNum_run (v : Val) : ∃ x : Bool, Om CC 167 [.t (.agg [.int .u8 v.k, .int .i64 v.n, .str v.s])] [] = some (.val (.t (.bool x)), []) ∧ (True) := by
  refine call_ex (F := fun x : Bool => .t (.bool x)) fun_167 rfl ?_
  (have F_ : _ ∧ _ ∧ _ ∧ _ ∧ _ ∧ _ ∧ _ ∧ _ ∧ _ ∧ _ ∧ _ ∧ _ ∧ _ ∧ _ ∧ _ ∧ _ ∧ _ ∧ _ ∧ _ ∧ _ ∧ _ ∧ _ ∧ _ ∧ _ ∧ _ ∧ _ ∧ _ ∧ _ ∧ _ ∧ _ ∧ _ ∧ _ := ⟨und_2, size_2, agg_2, zero_2, zel_2, small_2, und_5, size_5, agg_5, zero_5, zel_5, small_5, und_9, size_9, agg_9, zero_9, zel_9, small_9, noInt_9, fa_45_0, fd_45_0, fa_45_1, fd_45_1, fa_45_2, fd_45_2, bld_45, size_45, agg_45, zero_45, zel_45, small_45, noInt_45⟩; show W CC 0 11 (keepsOf 167) _ ⟨[(0, _)], []⟩ _)
  ((repeat' (first | with_reducible apply fol | with_reducible refine aRW ?_ | with_reducible refine aRR ?_ | with_reducible refine aRs ?_ | ((with_reducible first | apply RW_gdn | apply RR_gdn | apply RW_gd | apply RR_gd) <;> intro hg <;> first | (cases hg; done) | skip) | with_reducible refine aE1 ?_ | with_reducible refine aE2 ?_ | with_reducible refine aOn ?_ | ((with_reducible refine aCd ?_ ?_) <;> intro hv <;> first | (cases hv; done) | skip) | fail)))
  all_goals (((with_reducible apply ends_ret); (focus (simp only [CC_P, results, resultsOf, resultOf, get, res_167, *]; exact rfl)); (focus (first | exact finish_tree' _ _ _ _ | exact finish_tup2 _ _ _ _ _ | exact finish_tup3 _ _ _ _ _ _))))
  all_goals exact ⟨_, ⟨rfl, rfl⟩, by trivial⟩
noncomputable def IsNum (v : Val) : Bool := (isNum_run v).choose
theorem isNum_ok (v : Val) : Om CC 167 [.t (.agg [.int .u8 v.k, .int .i64 v.n, .str v.s])] [] = some (.val (.t (.bool (IsNum v))), []) := (isNum_run v).choose_spec.1

theorem truthV_run (b : Bool) : ∃ x : Val, Om CC 75 [.t (.bool b)] [] = some (.val (.t (.agg [.int .u8 x.k, .int .i64 x.n, .str x.s])), []) ∧ (VOK x) := by
  refine call_ex (F := fun x : Val => .t (.agg [.int .u8 x.k, .int .i64 x.n, .str x.s])) fun_75 rfl ?_
  (have F_ : _ ∧ _ ∧ _ ∧ _ ∧ _ ∧ _ ∧ _ ∧ _ ∧ _ ∧ _ ∧ _ ∧ _ ∧ _ ∧ _ ∧ _ ∧ _ ∧ _ ∧ _ ∧ _ ∧ _ ∧ _ ∧ _ ∧ _ ∧ _ ∧ _ ∧ _ ∧ _ ∧ _ ∧ _ ∧ _ ∧ _ ∧ _ ∧ _ ∧ _ ∧ _ ∧ _ ∧ _ ∧ _ ∧ _ := ⟨und_2, size_2, agg_2, zero_2, zel_2, small_2, und_4, size_4, agg_4, zero_4, zel_4, small_4, noInt_4, und_5, size_5, agg_5, zero_5, zel_5, small_5, und_9, size_9, agg_9, zero_9, zel_9, small_9, noInt_9, fa_45_0, fd_45_0, fa_45_1, fd_45_1, fa_45_2, fd_45_2, bld_45, size_45, agg_45, zero_45, zel_45, small_45, noInt_45⟩; show W CC 0 6 (keepsOf 75) _ ⟨[(0, _)], []⟩ _)
  ((repeat' (first | with_reducible apply fol | with_reducible refine aRW ?_ | with_reducible refine aRR ?_ | with_reducible refine aRs ?_ | ((with_reducible first | apply RW_gdn | apply RR_gdn | apply RW_gd | apply RR_gd) <;> intro hg <;> first | (cases hg; done) | skip) | with_reducible refine aE1 ?_ | with_reducible refine aE2 ?_ | with_reducible refine aOn ?_ | ((with_reducible refine aCd ?_ ?_) <;> intro hv <;> first | (cases hv; done) | skip) | fail)))
  all_goals (((with_reducible apply ends_ret); (focus (simp only [CC_P, results, resultsOf, resultOf, get, load, loadCells, nth, cut, mkAgg, trees, res_75, List.length_cons, List.length_nil, List.take, List.drop, Nat.zero_add, Nat.reduceAdd, Nat.reduceLeDiff, if_true, *]; exact rfl)); (focus (first | exact finish_tree' _ _ _ _ | exact finish_tup2 _ _ _ _ _ | exact finish_tup3 _ _ _ _ _ _))))
  all_goals exact ⟨⟨_, _, _⟩, ⟨rfl, rfl⟩, by first | exact VOK_lit _ R64_1 | exact VOK_lit _ R64_0⟩
noncomputable def TruthV (b : Bool) : Val := (truthV_run b).choose
theorem truthV_ok (b : Bool) : Om CC 75 [.t (.bool b)] [] = some (.val (.t (.agg [.int .u8 (TruthV b).k, .int .i64 (TruthV b).n, .str (TruthV b).s])), []) := (truthV_run b).choose_spec.1
theorem truthV_p (b : Bool) : VOK (TruthV b) := (truthV_run b).choose_spec.2

theorem notV_run (v : Val) : ∃ x : Val, Om CC 76 [.t (.agg [.int .u8 v.k, .int .i64 v.n, .str v.s])] [] = some (.val (.t (.agg [.int .u8 x.k, .int .i64 x.n, .str x.s])), []) ∧ (VOK x) := by
  refine call_ex (F := fun x : Val => .t (.agg [.int .u8 x.k, .int .i64 x.n, .str x.s])) fun_76 rfl ?_
  (have F_ : _ ∧ _ ∧ _ ∧ _ ∧ _ ∧ _ ∧ _ ∧ _ ∧ _ ∧ _ ∧ _ ∧ _ ∧ _ ∧ _ ∧ _ ∧ _ ∧ _ ∧ _ ∧ _ ∧ _ ∧ _ ∧ _ ∧ _ ∧ _ ∧ _ ∧ _ ∧ _ ∧ _ ∧ _ ∧ _ ∧ _ ∧ _ ∧ _ ∧ _ ∧ _ ∧ _ ∧ _ ∧ _ ∧ _ := ⟨und_2, size_2, agg_2, zero_2, zel_2, small_2, und_4, size_4, agg_4, zero_4, zel_4, small_4, noInt_4, und_5, size_5, agg_5, zero_5, zel_5, small_5, und_9, size_9, agg_9, zero_9, zel_9, small_9, noInt_9, fa_45_0, fd_45_0, fa_45_1, fd_45_1, fa_45_2, fd_45_2, bld_45, size_45, agg_45, zero_45, zel_45, small_45, noInt_45⟩; show W CC 0 11 (keepsOf 76) _ ⟨[(0, _)], []⟩ _)
  (have x0_ := @truthV_ok; have x1_ := @hb_75; (repeat' (first | with_reducible apply fol | with_reducible refine aRW ?_ | with_reducible refine aRR ?_ | with_reducible refine aRs ?_ | ((with_reducible first | apply RW_gdn | apply RR_gdn | apply RW_gd | apply RR_gd) <;> intro hg <;> first | (cases hg; done) | skip) | with_reducible refine aE1 ?_ | with_reducible refine aE2 ?_ | with_reducible refine aOn ?_ | ((with_reducible refine aCd ?_ ?_) <;> intro hv <;> first | (cases hv; done) | skip) | fail)); all_goals clear x0_ x1_)
  all_goals (((with_reducible apply ends_ret); (focus (simp only [CC_P, results, resultsOf, resultOf, get, load, loadCells, nth, cut, mkAgg, trees, res_76, List.length_cons, List.length_nil, List.take, List.drop, Nat.zero_add, Nat.reduceAdd, Nat.reduceLeDiff, if_true, *]; exact rfl)); (focus (first | exact finish_tree' _ _ _ _ | exact finish_tup2 _ _ _ _ _ | exact finish_tup3 _ _ _ _ _ _))))
  all_goals exact ⟨⟨_, _, _⟩, ⟨rfl, rfl⟩, by first | exact VOK_0 | exact truthV_p _⟩
noncomputable def NotV (v : Val) : Val := (notV_run v).choose
theorem notV_ok (v : Val) : Om CC 76 [.t (.agg [.int .u8 v.k, .int .i64 v.n, .str v.s])] [] = some (.val (.t (.agg [.int .u8 (NotV v).k, .int .i64 (NotV v).n, .str (NotV v).s])), []) := (notV_run v).choose_spec.1
theorem notV_p (v : Val) : VOK (NotV v) := (notV_run v).choose_spec.2

theorem unitsV_run (v : Val) : ∃ x : Bool × Int × Int, Om CC 168 [.t (.agg [.int .u8 v.k, .int .i64 v.n, .str v.s])] [] = some (.val (.tup [.t (.bool x.1), .t (.int .u64 x.2.1), .t (.int .u64 x.2.2)]), []) ∧ (True) := by
  refine call_ex (F := fun x : Bool × Int × Int => .tup [.t (.bool x.1), .t (.int .u64 x.2.1), .t (.int .u64 x.2.2)]) fun_168 rfl ?_
  (have F_ : _ ∧ _ ∧ _ ∧ _ ∧ _ ∧ _ ∧ _ ∧ _ ∧ _ ∧ _ ∧ _ ∧ _ ∧ _ ∧ _ ∧ _ ∧ _ ∧ _ ∧ _ ∧ _ ∧ _ ∧ _ ∧ _ ∧ _ ∧ _ ∧ _ ∧ _ ∧ _ ∧ _ ∧ _ ∧ _ ∧ _ ∧ _ ∧ _ ∧ _ ∧ _ ∧ _ ∧ _ ∧ _ := ⟨und_2, size_2, agg_2, zero_2, zel_2, small_2, und_5, size_5, agg_5, zero_5, zel_5, small_5, und_9, size_9, agg_9, zero_9, zel_9, small_9, noInt_9, fa_45_0, fd_45_0, fa_45_1, fd_45_1, fa_45_2, fd_45_2, bld_45, size_45, agg_45, zero_45, zel_45, small_45, noInt_45, und_225, size_225, agg_225, zero_225, zel_225, small_225⟩; show W CC 0 29 (keepsOf 168) _ ⟨[(0, _)], []⟩ _)
  (have x0_ := @mul64_ok; have x1_ := @isNum_ok; have x2_ := @hb_175; (repeat' (first | with_reducible apply fol | with_reducible refine aRW ?_ | with_reducible refine aRR ?_ | with_reducible refine aRs ?_ | ((with_reducible first | apply RW_gdn | apply RR_gdn | apply RW_gd | apply RR_gd) <;> intro hg <;> first | (cases hg; done) | skip) | with_reducible refine aE1 ?_ | with_reducible refine aE2 ?_ | with_reducible refine aOn ?_ | ((with_reducible refine aCd ?_ ?_) <;> intro hv <;> first | (cases hv; done) | skip) | fail)); all_goals clear x0_ x1_ x2_)
  all_goals (((with_reducible apply ends_ret); (focus (simp only [CC_P, results, resultsOf, resultOf, get, res_168, *]; exact rfl)); (focus (first | exact finish_tree' _ _ _ _ | exact finish_tup2 _ _ _ _ _ | exact finish_tup3 _ _ _ _ _ _))))
  all_goals exact ⟨(_, _, _), ⟨rfl, rfl⟩, by trivial⟩
noncomputable def UnitsV (v : Val) : Bool × Int × Int := (unitsV_run v).choose
theorem unitsV_ok (v : Val) : Om CC 168 [.t (.agg [.int .u8 v.k, .int .i64 v.n, .str v.s])] [] = some (.val (.tup [.t (.bool (UnitsV v).1), .t (.int .u64 (UnitsV v).2.1), .t (.int .u64 (UnitsV v).2.2)]), []) := (unitsV_run v).choose_spec.1

end Go.Ab
/- Layer 2 (value): texts, and whether a value may be; its order. -/
namespace Go.Ab
open Go.Proofs
set_option maxRecDepth 100000
set_option maxHeartbeats 4000000
set_option linter.unusedSimpArgs false
set_option linter.unusedVariables false

theorem val_eql' (k n : Int) (s : List Nat) (k' n' : Int) (s' : List Nat) : binop Tryz.prog .eql 45 (.t (.agg [.int .u8 k, .int .i64 n, .str s])) (.t (.agg [.int .u8 k', .int .i64 n', .str s'])) =
    some (.t (.bool (decide ((⟨k, n, s⟩ : Val) = ⟨k', n', s'⟩)))) := by
  have h := val_eq 98 ⟨k, n, s⟩ ⟨k', n', s'⟩
  simp only [Val.c] at h
  rw [agg_eql _ _ _ _ grd_45, h]; rfl
theorem val_neq' (k n : Int) (s : List Nat) (k' n' : Int) (s' : List Nat) : binop Tryz.prog .neq 45 (.t (.agg [.int .u8 k, .int .i64 n, .str s])) (.t (.agg [.int .u8 k', .int .i64 n', .str s'])) =
    some (.t (.bool (!decide ((⟨k, n, s⟩ : Val) = ⟨k', n', s'⟩)))) := by
  have h := val_eq 98 ⟨k, n, s⟩ ⟨k', n', s'⟩
  simp only [Val.c] at h
  rw [agg_neq _ _ _ _ grd_45, h]; rfl

theorem idx_zero {α : Type} (a : α) (l : List α) : idx (a :: l) 0 = some a := rfl

theorem nameRune_run (r : Int) : ∃ x : Bool, Om CC 187 [.t (.int .i32 r)] [] = some (.val (.t (.bool x)), []) ∧ (True) := by
  refine call_ex (F := fun x : Bool => .t (.bool x)) fun_187 rfl ?_
  (have F_ : _ ∧ _ ∧ _ ∧ _ ∧ _ ∧ _ := ⟨und_21, size_21, agg_21, zero_21, zel_21, small_21⟩; show W CC 0 17 (keepsOf 187) _ ⟨[(0, _)], []⟩ _)
  ((repeat' (first | with_reducible apply fol | with_reducible refine aRW ?_ | with_reducible refine aRR ?_ | with_reducible refine aRs ?_ | ((with_reducible first | apply RW_gdn | apply RR_gdn | apply RW_gd | apply RR_gd) <;> intro hg <;> first | (cases hg; done) | skip) | with_reducible refine aE1 ?_ | with_reducible refine aE2 ?_ | with_reducible refine aOn ?_ | ((with_reducible refine aCd ?_ ?_) <;> intro hv <;> first | (cases hv; done) | skip) | fail)))
  all_goals (((with_reducible apply ends_ret); (focus (simp only [CC_P, results, resultsOf, resultOf, get, res_187, *]; exact rfl)); (focus (first | exact finish_tree' _ _ _ _ | exact finish_tup2 _ _ _ _ _ | exact finish_tup3 _ _ _ _ _ _))))
  all_goals exact ⟨_, ⟨rfl, rfl⟩, by trivial⟩
noncomputable def NameRune (r : Int) : Bool := (nameRune_run r).choose
theorem nameRune_ok (r : Int) : Om CC 187 [.t (.int .i32 r)] [] = some (.val (.t (.bool (NameRune r))), []) := (nameRune_run r).choose_spec.1

theorem textRune_run (r : Int) : ∃ x : Bool, Om CC 186 [.t (.int .i32 r)] [] = some (.val (.t (.bool x)), []) ∧ (True) := by
  refine call_ex (F := fun x : Bool => .t (.bool x)) fun_186 rfl ?_
  (have F_ : _ ∧ _ ∧ _ ∧ _ ∧ _ ∧ _ := ⟨und_21, size_21, agg_21, zero_21, zel_21, small_21⟩; show W CC 0 9 (keepsOf 186) _ ⟨[(0, _)], []⟩ _)
  ((repeat' (first | with_reducible apply fol | with_reducible refine aRW ?_ | with_reducible refine aRR ?_ | with_reducible refine aRs ?_ | ((with_reducible first | apply RW_gdn | apply RR_gdn | apply RW_gd | apply RR_gd) <;> intro hg <;> first | (cases hg; done) | skip) | with_reducible refine aE1 ?_ | with_reducible refine aE2 ?_ | with_reducible refine aOn ?_ | ((with_reducible refine aCd ?_ ?_) <;> intro hv <;> first | (cases hv; done) | skip) | fail)))
  all_goals (((with_reducible apply ends_ret); (focus (simp only [CC_P, results, resultsOf, resultOf, get, res_186, *]; exact rfl)); (focus (first | exact finish_tree' _ _ _ _ | exact finish_tup2 _ _ _ _ _ | exact finish_tup3 _ _ _ _ _ _))))
  all_goals exact ⟨_, ⟨rfl, rfl⟩, by trivial⟩
noncomputable def TextRune (r : Int) : Bool := (textRune_run r).choose
theorem textRune_ok (r : Int) : Om CC 186 [.t (.int .i32 r)] [] = some (.val (.t (.bool (TextRune r))), []) := (textRune_run r).choose_spec.1

theorem next_lt {s : List Nat} {pos : Nat} (h : pos < s.length) : s.length - (pos + (Utf8.decode ⟨(s.map UInt8.ofNat).toArray⟩ pos).2) < s.length - pos := by
  have := Lib.decode_width_pos ⟨(s.map UInt8.ofNat).toArray⟩ pos (by show pos < (s.map UInt8.ofNat).toArray.size; simpa using h)
  omega

theorem indexFunc_run (f : Nat) (hb : hasBody Tryz.prog f = true) (hbp : f ≠ 101) (F : Int → Bool) (hf : ∀ r : Int, Om CC f [.t (.int .i32 r)] [] = some (.val (.t (.bool (F r))), [])) (s : List Nat) (tr : Bool) :
    ∃ x : Int, Om CC 217 [.t (.str s), .t (.fn f), .t (.bool tr)] [] = some (.val (.t (.int .i64 x)), []) ∧ True := by
  refine call_ex (F := fun x : Int => .t (.int .i64 x)) fun_217 rfl ?_
  (have F_ : _ ∧ _ ∧ _ ∧ _ ∧ _ ∧ _ ∧ _ ∧ _ ∧ _ ∧ _ ∧ _ ∧ _ ∧ _ ∧ _ ∧ _ ∧ _ ∧ _ ∧ _ ∧ _ ∧ _ ∧ _ ∧ _ ∧ _ ∧ _ ∧ _ ∧ _ := ⟨und_4, size_4, agg_4, zero_4, zel_4, small_4, noInt_4, und_9, size_9, agg_9, zero_9, zel_9, small_9, noInt_9, und_21, size_21, agg_21, zero_21, zel_21, small_21, size_248, agg_248, zero_248, zel_248, small_248, noInt_248⟩; show W CC 0 21 (keepsOf 217) _ ⟨[(0, _), (1, _), (2, _)], []⟩ _)
  repeat' (first | with_reducible apply once_normal | with_reducible apply once_exit | with_reducible apply once_ret | with_reducible apply once_pan | with_reducible apply thenW_normal | with_reducible apply thenW_ret | with_reducible apply thenW_exit | with_reducible apply thenW_pan | with_reducible apply outOf_normal | with_reducible apply outOf_eq | (refine outOf_ne (by kernel_rfl) ?_) | with_reducible apply outOf_ret | with_reducible apply outOf_pan | with_reducible apply again_exit | with_reducible apply again_ret | with_reducible apply again_pan | with_reducible apply W_seq | with_reducible apply W_block | with_reducible apply W_scope | with_reducible apply W_skip | with_reducible apply W_ret | with_reducible apply W_exit | with_reducible apply W_label | ((with_reducible apply W_RW); (focus kernel_rfl)) | ((with_reducible apply W_RR); (focus kernel_rfl); (focus kernel_rfl)) | with_reducible apply RW_some | with_reducible apply RR_cons | ((with_reducible apply RR_some); (refine ⟨by kernel_rfl, ?_⟩)) | ((with_reducible refine RW_gdn (fun hg => ?_) (fun hg => ?_)) <;> first | (cases hg; done) | skip) | ((with_reducible refine RR_gdn (fun hg => ?_) (fun hg => ?_)) <;> first | (cases hg; done) | skip) | ((with_reducible refine RW_gd (fun hg => ?_) (fun hg => ?_)) <;> first | (cases hg; done) | skip) | ((with_reducible refine RR_gd (fun hg => ?_) (fun hg => ?_)) <;> first | (cases hg; done) | skip) | ((with_reducible apply RW_eq); (focus (simp only [xRange, wanted, exec1, operand, get, putT, ret, lit, lit1, patch, put1, CC_P, List.length_nil, runOps_cons, runOps_nil, gdL_true, *]; exact rfl))) | ((with_reducible apply RR_eq); (focus (simp only [*]; exact rfl))) | ((refine W_cond (by (simp only [operand, lit, lit1, *]; exact rfl)) (fun hv => ?_) (fun hv => ?_)) <;> first | (cases hv; done) | skip))
  refine W_rounds (α := Nat) (fun i => ⟨[(1, .t (.fn f)), (2, .t (.bool tr)), (10, .box 0 0)], [.siter s i]⟩) (fun i => s.length - i) (fun i => True) 0 (by kernel_rfl) trivial ?_
  intro i _
  by_cases hi' : i < s.length
  · have hlt := next_lt hi'
    repeat' (first | with_reducible apply once_normal | with_reducible apply once_exit | with_reducible apply once_ret | with_reducible apply once_pan | with_reducible apply thenW_normal | with_reducible apply thenW_ret | with_reducible apply thenW_exit | with_reducible apply thenW_pan | with_reducible apply outOf_normal | with_reducible apply outOf_eq | (refine outOf_ne (by kernel_rfl) ?_) | with_reducible apply outOf_ret | with_reducible apply outOf_pan | with_reducible apply again_exit | with_reducible apply again_ret | with_reducible apply again_pan | with_reducible apply W_seq | with_reducible apply W_block | with_reducible apply W_scope | with_reducible apply W_skip | with_reducible apply W_ret | with_reducible apply W_exit | with_reducible apply W_label | ((with_reducible apply W_RW); (focus kernel_rfl)) | ((with_reducible apply W_RR); (focus kernel_rfl); (focus kernel_rfl)) | with_reducible apply RW_some | with_reducible apply RR_cons | ((with_reducible apply RR_some); (refine ⟨by kernel_rfl, ?_⟩)) | ((with_reducible refine RW_gdn (fun hg => ?_) (fun hg => ?_)) <;> first | (cases hg; done) | skip) | ((with_reducible refine RR_gdn (fun hg => ?_) (fun hg => ?_)) <;> first | (cases hg; done) | skip) | ((with_reducible refine RW_gd (fun hg => ?_) (fun hg => ?_)) <;> first | (cases hg; done) | skip) | ((with_reducible refine RR_gd (fun hg => ?_) (fun hg => ?_)) <;> first | (cases hg; done) | skip) | ((with_reducible apply RW_eq); (focus (simp only [xNext, xExtract, callF, callIn, reach, refsL, refs, catMap, depth, sub, sub1, renL, ren, mem, place, fresh, import1, plain, plainT, view, viewed, freeze, CC_byRef, CC_prim, ne_eq, not_false_eq_true, cond_false, Int.ofNat_eq_natCast, wanted, exec1, xCall, xExtract, operand, opds, get, putT, ret, retO, patch, put1, nth, upd, CC_P, bool_eql, List.map_cons, List.map_nil, List.append_nil, if_true, runOps_cons, runOps_nil, gdL_true, *]; exact rfl))) | ((with_reducible apply RR_eq); (focus (simp only [*]; exact rfl))) | ((refine W_cond (by (simp only [operand, get, lit, lit1, *]; exact rfl)) (fun hv => ?_) (fun hv => ?_)) <;> first | (cases hv; done) | skip))
    all_goals first
      | (((with_reducible apply ends_ret); (focus (simp only [CC_P, results, resultsOf, resultOf, get, res_217, *]; exact rfl)); (focus (first | exact finish_tree' _ _ _ _ | exact finish_tup2 _ _ _ _ _ | exact finish_tup3 _ _ _ _ _ _))); exact ⟨_, ⟨rfl, rfl⟩, trivial⟩)
      | exact again_normal _ hlt trivial (by kernel_rfl)
  · repeat' (first | with_reducible apply once_normal | with_reducible apply once_exit | with_reducible apply once_ret | with_reducible apply once_pan | with_reducible apply thenW_normal | with_reducible apply thenW_ret | with_reducible apply thenW_exit | with_reducible apply thenW_pan | with_reducible apply outOf_normal | with_reducible apply outOf_eq | (refine outOf_ne (by kernel_rfl) ?_) | with_reducible apply outOf_ret | with_reducible apply outOf_pan | with_reducible apply again_exit | with_reducible apply again_ret | with_reducible apply again_pan | with_reducible apply W_seq | with_reducible apply W_block | with_reducible apply W_scope | with_reducible apply W_skip | with_reducible apply W_ret | with_reducible apply W_exit | with_reducible apply W_label | ((with_reducible apply W_RW); (focus kernel_rfl)) | ((with_reducible apply W_RR); (focus kernel_rfl); (focus kernel_rfl)) | with_reducible apply RW_some | with_reducible apply RR_cons | ((with_reducible apply RR_some); (refine ⟨by kernel_rfl, ?_⟩)) | ((with_reducible refine RW_gdn (fun hg => ?_) (fun hg => ?_)) <;> first | (cases hg; done) | skip) | ((with_reducible refine RR_gdn (fun hg => ?_) (fun hg => ?_)) <;> first | (cases hg; done) | skip) | ((with_reducible refine RW_gd (fun hg => ?_) (fun hg => ?_)) <;> first | (cases hg; done) | skip) | ((with_reducible refine RR_gd (fun hg => ?_) (fun hg => ?_)) <;> first | (cases hg; done) | skip) | ((with_reducible apply RW_eq); (focus (simp only [xNext, xExtract, Int.ofNat_eq_natCast, wanted, exec1, xExtract, operand, get, putT, ret, retO, lit, lit1, patch, nth, if_false, runOps_cons, runOps_nil, gdL_true, *]; exact rfl))) | ((with_reducible apply RR_eq); (focus (simp only [*]; exact rfl))) | ((refine W_cond (by (simp only [operand, get, lit, lit1, *]; exact rfl)) (fun hv => ?_) (fun hv => ?_)) <;> first | (cases hv; done) | skip))
    ((with_reducible apply ends_ret); (focus (simp only [CC_P, results, resultsOf, resultOf, get, res_217, *]; exact rfl)); (focus (first | exact finish_tree' _ _ _ _ | exact finish_tup2 _ _ _ _ _ | exact finish_tup3 _ _ _ _ _ _)))
    exact ⟨_, ⟨rfl, rfl⟩, trivial⟩
theorem isNameIF (s : List Nat) : ∃ x : Int, Om CC 217 [.t (.str s), .t (.fn 187), .t (.bool true)] [] = some (.val (.t (.int .i64 x)), []) ∧ True :=
  indexFunc_run _ hb_187 (by decide) NameRune nameRune_ok s true
noncomputable def isNameIFv (s : List Nat) : Int := (isNameIF s).choose
theorem isNameIF_ok (s : List Nat) : Om CC 217 [.t (.str s), .t (.fn 187), .t (.bool true)] [] = some (.val (.t (.int .i64 (isNameIFv s))), []) := (isNameIF s).choose_spec.1
theorem isNameIf_run (s : List Nat) : ∃ x : Int, Om CC 201 [.t (.str s), .t (.fn 187)] [] = some (.val (.t (.int .i64 x)), []) ∧ (True) := by
  refine call_ex (F := fun x : Int => .t (.int .i64 x)) fun_201 rfl ?_
  (have F_ : _ ∧ _ ∧ _ ∧ _ ∧ _ ∧ _ ∧ _ ∧ _ ∧ _ ∧ _ ∧ _ ∧ _ ∧ _ ∧ _ ∧ _ ∧ _ ∧ _ ∧ _ ∧ _ ∧ _ := ⟨und_4, size_4, agg_4, zero_4, zel_4, small_4, noInt_4, und_9, size_9, agg_9, zero_9, zel_9, small_9, noInt_9, size_248, agg_248, zero_248, zel_248, small_248, noInt_248⟩; show W CC 0 8 (keepsOf 201) _ ⟨[(0, _), (1, _)], []⟩ _)
  (have x0_ := @isNameIF_ok; have x1_ := @hb_217; (repeat' (first | with_reducible apply fol | with_reducible refine aRW ?_ | with_reducible refine aRR ?_ | with_reducible refine aRs ?_ | ((with_reducible first | apply RW_gdn | apply RR_gdn | apply RW_gd | apply RR_gd) <;> intro hg <;> first | (cases hg; done) | skip) | with_reducible refine aE1 ?_ | with_reducible refine aE2 ?_ | with_reducible refine aOn ?_ | ((with_reducible refine aCd ?_ ?_) <;> intro hv <;> first | (cases hv; done) | skip) | fail)); all_goals clear x0_ x1_)
  all_goals (((with_reducible apply ends_ret); (focus (simp only [CC_P, results, resultsOf, resultOf, get, res_201, *]; exact rfl)); (focus (first | exact finish_tree' _ _ _ _ | exact finish_tup2 _ _ _ _ _ | exact finish_tup3 _ _ _ _ _ _))))
  all_goals exact ⟨_, ⟨rfl, rfl⟩, by trivial⟩
noncomputable def IsNameIf (s : List Nat) : Int := (isNameIf_run s).choose
theorem isNameIf_ok (s : List Nat) : Om CC 201 [.t (.str s), .t (.fn 187)] [] = some (.val (.t (.int .i64 (IsNameIf s))), []) := (isNameIf_run s).choose_spec.1

theorem isNameCf_run (s : List Nat) : ∃ x : Bool, Om CC 185 [.t (.str s), .t (.fn 187)] [] = some (.val (.t (.bool x)), []) ∧ (True) := by
  refine call_ex (F := fun x : Bool => .t (.bool x)) fun_185 rfl ?_
  (have F_ : _ ∧ _ ∧ _ ∧ _ ∧ _ ∧ _ ∧ _ ∧ _ ∧ _ ∧ _ ∧ _ ∧ _ ∧ _ ∧ _ ∧ _ ∧ _ ∧ _ ∧ _ ∧ _ := ⟨und_3, size_3, agg_3, zero_3, zel_3, small_3, und_9, size_9, agg_9, zero_9, zel_9, small_9, noInt_9, size_248, agg_248, zero_248, zel_248, small_248, noInt_248⟩; show W CC 0 9 (keepsOf 185) _ ⟨[(0, _), (1, _)], []⟩ _)
  (have x0_ := @isNameIf_ok; have x1_ := @hb_201; (repeat' (first | with_reducible apply fol | with_reducible refine aRW ?_ | with_reducible refine aRR ?_ | with_reducible refine aRs ?_ | ((with_reducible first | apply RW_gdn | apply RR_gdn | apply RW_gd | apply RR_gd) <;> intro hg <;> first | (cases hg; done) | skip) | with_reducible refine aE1 ?_ | with_reducible refine aE2 ?_ | with_reducible refine aOn ?_ | ((with_reducible refine aCd ?_ ?_) <;> intro hv <;> first | (cases hv; done) | skip) | fail)); all_goals clear x0_ x1_)
  all_goals (((with_reducible apply ends_ret); (focus (simp only [CC_P, results, resultsOf, resultOf, get, res_185, *]; exact rfl)); (focus (first | exact finish_tree' _ _ _ _ | exact finish_tup2 _ _ _ _ _ | exact finish_tup3 _ _ _ _ _ _))))
  all_goals exact ⟨_, ⟨rfl, rfl⟩, by trivial⟩
noncomputable def IsNameCf (s : List Nat) : Bool := (isNameCf_run s).choose
theorem isNameCf_ok (s : List Nat) : Om CC 185 [.t (.str s), .t (.fn 187)] [] = some (.val (.t (.bool (IsNameCf s))), []) := (isNameCf_run s).choose_spec.1

theorem isTextIF (s : List Nat) : ∃ x : Int, Om CC 217 [.t (.str s), .t (.fn 186), .t (.bool true)] [] = some (.val (.t (.int .i64 x)), []) ∧ True :=
  indexFunc_run _ hb_186 (by decide) TextRune textRune_ok s true
noncomputable def isTextIFv (s : List Nat) : Int := (isTextIF s).choose
theorem isTextIF_ok (s : List Nat) : Om CC 217 [.t (.str s), .t (.fn 186), .t (.bool true)] [] = some (.val (.t (.int .i64 (isTextIFv s))), []) := (isTextIF s).choose_spec.1
theorem isTextIf_run (s : List Nat) : ∃ x : Int, Om CC 201 [.t (.str s), .t (.fn 186)] [] = some (.val (.t (.int .i64 x)), []) ∧ (True) := by
  refine call_ex (F := fun x : Int => .t (.int .i64 x)) fun_201 rfl ?_
  (have F_ : _ ∧ _ ∧ _ ∧ _ ∧ _ ∧ _ ∧ _ ∧ _ ∧ _ ∧ _ ∧ _ ∧ _ ∧ _ ∧ _ ∧ _ ∧ _ ∧ _ ∧ _ ∧ _ ∧ _ := ⟨und_4, size_4, agg_4, zero_4, zel_4, small_4, noInt_4, und_9, size_9, agg_9, zero_9, zel_9, small_9, noInt_9, size_248, agg_248, zero_248, zel_248, small_248, noInt_248⟩; show W CC 0 8 (keepsOf 201) _ ⟨[(0, _), (1, _)], []⟩ _)
  (have x0_ := @isTextIF_ok; have x1_ := @hb_217; (repeat' (first | with_reducible apply fol | with_reducible refine aRW ?_ | with_reducible refine aRR ?_ | with_reducible refine aRs ?_ | ((with_reducible first | apply RW_gdn | apply RR_gdn | apply RW_gd | apply RR_gd) <;> intro hg <;> first | (cases hg; done) | skip) | with_reducible refine aE1 ?_ | with_reducible refine aE2 ?_ | with_reducible refine aOn ?_ | ((with_reducible refine aCd ?_ ?_) <;> intro hv <;> first | (cases hv; done) | skip) | fail)); all_goals clear x0_ x1_)
  all_goals (((with_reducible apply ends_ret); (focus (simp only [CC_P, results, resultsOf, resultOf, get, res_201, *]; exact rfl)); (focus (first | exact finish_tree' _ _ _ _ | exact finish_tup2 _ _ _ _ _ | exact finish_tup3 _ _ _ _ _ _))))
  all_goals exact ⟨_, ⟨rfl, rfl⟩, by trivial⟩
noncomputable def IsTextIf (s : List Nat) : Int := (isTextIf_run s).choose
theorem isTextIf_ok (s : List Nat) : Om CC 201 [.t (.str s), .t (.fn 186)] [] = some (.val (.t (.int .i64 (IsTextIf s))), []) := (isTextIf_run s).choose_spec.1

theorem isTextCf_run (s : List Nat) : ∃ x : Bool, Om CC 185 [.t (.str s), .t (.fn 186)] [] = some (.val (.t (.bool x)), []) ∧ (True) := by
  refine call_ex (F := fun x : Bool => .t (.bool x)) fun_185 rfl ?_
  (have F_ : _ ∧ _ ∧ _ ∧ _ ∧ _ ∧ _ ∧ _ ∧ _ ∧ _ ∧ _ ∧ _ ∧ _ ∧ _ ∧ _ ∧ _ ∧ _ ∧ _ ∧ _ ∧ _ := ⟨und_3, size_3, agg_3, zero_3, zel_3, small_3, und_9, size_9, agg_9, zero_9, zel_9, small_9, noInt_9, size_248, agg_248, zero_248, zel_248, small_248, noInt_248⟩; show W CC 0 9 (keepsOf 185) _ ⟨[(0, _), (1, _)], []⟩ _)
  (have x0_ := @isTextIf_ok; have x1_ := @hb_201; (repeat' (first | with_reducible apply fol | with_reducible refine aRW ?_ | with_reducible refine aRR ?_ | with_reducible refine aRs ?_ | ((with_reducible first | apply RW_gdn | apply RR_gdn | apply RW_gd | apply RR_gd) <;> intro hg <;> first | (cases hg; done) | skip) | with_reducible refine aE1 ?_ | with_reducible refine aE2 ?_ | with_reducible refine aOn ?_ | ((with_reducible refine aCd ?_ ?_) <;> intro hv <;> first | (cases hv; done) | skip) | fail)); all_goals clear x0_ x1_)
  all_goals (((with_reducible apply ends_ret); (focus (simp only [CC_P, results, resultsOf, resultOf, get, res_185, *]; exact rfl)); (focus (first | exact finish_tree' _ _ _ _ | exact finish_tup2 _ _ _ _ _ | exact finish_tup3 _ _ _ _ _ _))))
  all_goals exact ⟨_, ⟨rfl, rfl⟩, by trivial⟩
noncomputable def IsTextCf (s : List Nat) : Bool := (isTextCf_run s).choose
theorem isTextCf_ok (s : List Nat) : Om CC 185 [.t (.str s), .t (.fn 186)] [] = some (.val (.t (.bool (IsTextCf s))), []) := (isTextCf_run s).choose_spec.1

theorem isName_run (s : List Nat) : ∃ x : Bool, Om CC 166 [.t (.str s)] [] = some (.val (.t (.bool x)), []) ∧ True := by
  refine call_ex (F := fun x : Bool => .t (.bool x)) fun_166 rfl ?_
  (have F_ : _ ∧ _ ∧ _ ∧ _ ∧ _ ∧ _ ∧ _ ∧ _ ∧ _ ∧ _ ∧ _ ∧ _ ∧ _ ∧ _ ∧ _ ∧ _ ∧ _ ∧ _ ∧ _ ∧ _ ∧ _ ∧ _ ∧ _ ∧ _ ∧ _ ∧ _ ∧ _ ∧ _ ∧ _ ∧ _ ∧ _ ∧ _ := ⟨und_3, size_3, agg_3, zero_3, zel_3, small_3, und_4, size_4, agg_4, zero_4, zel_4, small_4, noInt_4, und_5, size_5, agg_5, zero_5, zel_5, small_5, und_9, size_9, agg_9, zero_9, zel_9, small_9, noInt_9, size_248, agg_248, zero_248, zel_248, small_248, noInt_248⟩; show W CC 0 23 (keepsOf 166) _ ⟨[(0, _)], []⟩ _)
  cases s with
  | nil =>
    repeat' (first | with_reducible apply once_normal | with_reducible apply once_exit | with_reducible apply once_ret | with_reducible apply once_pan | with_reducible apply thenW_normal | with_reducible apply thenW_ret | with_reducible apply thenW_exit | with_reducible apply thenW_pan | with_reducible apply outOf_normal | with_reducible apply outOf_eq | (refine outOf_ne (by kernel_rfl) ?_) | with_reducible apply outOf_ret | with_reducible apply outOf_pan | with_reducible apply again_exit | with_reducible apply again_ret | with_reducible apply again_pan | with_reducible apply W_seq | with_reducible apply W_block | with_reducible apply W_scope | with_reducible apply W_skip | with_reducible apply W_ret | with_reducible apply W_exit | with_reducible apply W_label | ((with_reducible apply W_RW); (focus kernel_rfl)) | ((with_reducible apply W_RR); (focus kernel_rfl); (focus kernel_rfl)) | with_reducible apply RW_some | with_reducible apply RR_cons | ((with_reducible apply RR_some); (refine ⟨by kernel_rfl, ?_⟩)) | ((with_reducible refine RW_gdn (fun hg => ?_) (fun hg => ?_)) <;> first | (cases hg; done) | skip) | ((with_reducible refine RR_gdn (fun hg => ?_) (fun hg => ?_)) <;> first | (cases hg; done) | skip) | ((with_reducible refine RW_gd (fun hg => ?_) (fun hg => ?_)) <;> first | (cases hg; done) | skip) | ((with_reducible refine RR_gd (fun hg => ?_) (fun hg => ?_)) <;> first | (cases hg; done) | skip) | ((with_reducible apply RW_eq); (focus (simp only [beqL, beq_false, wanted, exec1, xPick, operand, get, putT, ret, retO, lit, lit1, patch, nth, CC_P, str_eql, List.map_nil, Bool.not_true, runOps_cons, runOps_nil, gdL_true, gdL_false, *]; exact rfl))) | ((with_reducible apply RR_eq); (focus (simp only [*]; exact rfl))) | ((refine W_cond (by (simp only [operand, get, lit, lit1, *]; exact rfl)) (fun hv => ?_) (fun hv => ?_)) <;> first | (cases hv; done) | skip))
    all_goals (((with_reducible apply ends_ret); (focus (simp only [CC_P, results, resultsOf, resultOf, get, res_166, *]; exact rfl)); (focus (first | exact finish_tree' _ _ _ _ | exact finish_tup2 _ _ _ _ _ | exact finish_tup3 _ _ _ _ _ _))))
    all_goals exact ⟨_, ⟨rfl, rfl⟩, trivial⟩
  | cons a l =>
    repeat' (first | with_reducible apply once_normal | with_reducible apply once_exit | with_reducible apply once_ret | with_reducible apply once_pan | with_reducible apply thenW_normal | with_reducible apply thenW_ret | with_reducible apply thenW_exit | with_reducible apply thenW_pan | with_reducible apply outOf_normal | with_reducible apply outOf_eq | (refine outOf_ne (by kernel_rfl) ?_) | with_reducible apply outOf_ret | with_reducible apply outOf_pan | with_reducible apply again_exit | with_reducible apply again_ret | with_reducible apply again_pan | with_reducible apply W_seq | with_reducible apply W_block | with_reducible apply W_scope | with_reducible apply W_skip | with_reducible apply W_ret | with_reducible apply W_exit | with_reducible apply W_label | ((with_reducible apply W_RW); (focus kernel_rfl)) | ((with_reducible apply W_RR); (focus kernel_rfl); (focus kernel_rfl)) | with_reducible apply RW_some | with_reducible apply RR_cons | ((with_reducible apply RR_some); (refine ⟨by kernel_rfl, ?_⟩)) | ((with_reducible refine RW_gdn (fun hg => ?_) (fun hg => ?_)) <;> first | (cases hg; done) | skip) | ((with_reducible refine RR_gdn (fun hg => ?_) (fun hg => ?_)) <;> first | (cases hg; done) | skip) | ((with_reducible refine RW_gd (fun hg => ?_) (fun hg => ?_)) <;> first | (cases hg; done) | skip) | ((with_reducible refine RR_gd (fun hg => ?_) (fun hg => ?_)) <;> first | (cases hg; done) | skip) | ((with_reducible apply RW_eq); (focus (simp only [callF, callIn, reach, refsL, refs, catMap, depth, sub, sub1, renL, ren, mem, place, fresh, import1, plain, plainT, view, viewed, freeze, CC_byRef, CC_prim, ne_eq, not_false_eq_true, cond_false, isNameCf_ok, hb_185, index, idx_zero, beqL, beq_false, Int.ofNat_eq_natCast, wanted, exec1, xPick, xCall, xBuiltin, xLen, xIndex, operand, opds, get, putT, ret, retO, lit, lit1, patch, nth, upd, CC_P, int_lss, int_gtr, str_eql, not_bool, beq_self_eq_true, List.map_cons, List.map_nil, List.length_cons, List.append_nil, Bool.not_true, Bool.and_self, Nat.reduceEqDiff, runOps_cons, runOps_nil, gdL_true, gdL_false, *]; exact rfl))) | ((with_reducible apply RR_eq); (focus (simp only [*]; exact rfl))) | ((refine W_cond (by (simp only [operand, get, lit, lit1, *]; exact rfl)) (fun hv => ?_) (fun hv => ?_)) <;> first | (cases hv; done) | skip))
    all_goals (((with_reducible apply ends_ret); (focus (simp only [CC_P, results, resultsOf, resultOf, get, res_166, *]; exact rfl)); (focus (first | exact finish_tree' _ _ _ _ | exact finish_tup2 _ _ _ _ _ | exact finish_tup3 _ _ _ _ _ _))))
    all_goals exact ⟨_, ⟨rfl, rfl⟩, trivial⟩
noncomputable def IsName (s : List Nat) : Bool := (isName_run s).choose
theorem isName_ok (s : List Nat) : Om CC 166 [.t (.str s)] [] = some (.val (.t (.bool (IsName s))), []) := (isName_run s).choose_spec.1
theorem isText_run (s : List Nat) : ∃ x : Bool, Om CC 165 [.t (.str s)] [] = some (.val (.t (.bool x)), []) ∧ (True) := by
  refine call_ex (F := fun x : Bool => .t (.bool x)) fun_165 rfl ?_
  (have F_ : _ ∧ _ ∧ _ ∧ _ ∧ _ ∧ _ ∧ _ ∧ _ ∧ _ ∧ _ ∧ _ ∧ _ ∧ _ ∧ _ ∧ _ ∧ _ ∧ _ ∧ _ ∧ _ ∧ _ ∧ _ ∧ _ ∧ _ ∧ _ ∧ _ ∧ _ := ⟨und_3, size_3, agg_3, zero_3, zel_3, small_3, und_4, size_4, agg_4, zero_4, zel_4, small_4, noInt_4, und_9, size_9, agg_9, zero_9, zel_9, small_9, noInt_9, size_248, agg_248, zero_248, zel_248, small_248, noInt_248⟩; show W CC 0 11 (keepsOf 165) _ ⟨[(0, _)], []⟩ _)
  (have x0_ := @isTextCf_ok; have x1_ := @hb_185; (repeat' (first | with_reducible apply fol | with_reducible refine aRW ?_ | with_reducible refine aRR ?_ | with_reducible refine aRs ?_ | ((with_reducible first | apply RW_gdn | apply RR_gdn | apply RW_gd | apply RR_gd) <;> intro hg <;> first | (cases hg; done) | skip) | with_reducible refine aE1 ?_ | with_reducible refine aE2 ?_ | with_reducible refine aOn ?_ | ((with_reducible refine aCd ?_ ?_) <;> intro hv <;> first | (cases hv; done) | skip) | fail)); all_goals clear x0_ x1_)
  all_goals (((with_reducible apply ends_ret); (focus (simp only [CC_P, results, resultsOf, resultOf, get, res_165, *]; exact rfl)); (focus (first | exact finish_tree' _ _ _ _ | exact finish_tup2 _ _ _ _ _ | exact finish_tup3 _ _ _ _ _ _))))
  all_goals exact ⟨_, ⟨rfl, rfl⟩, by trivial⟩
noncomputable def IsText (s : List Nat) : Bool := (isText_run s).choose
theorem isText_ok (s : List Nat) : Om CC 165 [.t (.str s)] [] = some (.val (.t (.bool (IsText s))), []) := (isText_run s).choose_spec.1

theorem mayV_run (v : Val) : ∃ x : Bool, Om CC 131 [.t (.agg [.int .u8 v.k, .int .i64 v.n, .str v.s])] [] = some (.val (.t (.bool x)), []) ∧ (True) := by
  refine call_ex (F := fun x : Bool => .t (.bool x)) fun_131 rfl ?_
  (have F_ : _ ∧ _ ∧ _ ∧ _ ∧ _ ∧ _ ∧ _ ∧ _ ∧ _ ∧ _ ∧ _ ∧ _ ∧ _ ∧ _ ∧ _ ∧ _ ∧ _ ∧ _ ∧ _ ∧ _ ∧ _ ∧ _ ∧ _ ∧ _ ∧ _ ∧ _ ∧ _ ∧ _ ∧ _ ∧ _ ∧ _ ∧ _ := ⟨und_2, size_2, agg_2, zero_2, zel_2, small_2, und_5, size_5, agg_5, zero_5, zel_5, small_5, und_9, size_9, agg_9, zero_9, zel_9, small_9, noInt_9, fa_45_0, fd_45_0, fa_45_1, fd_45_1, fa_45_2, fd_45_2, bld_45, size_45, agg_45, zero_45, zel_45, small_45, noInt_45⟩; show W CC 0 51 (keepsOf 131) _ ⟨[(0, _)], []⟩ _)
  (have x0_ := @isText_ok; have x1_ := @isName_ok; have x2_ := @val_eql'; have x3_ := @hb_165; have x4_ := @hb_166; (repeat' (first | with_reducible apply fol | with_reducible refine aRW ?_ | with_reducible refine aRR ?_ | with_reducible refine aRs ?_ | ((with_reducible first | apply RW_gdn | apply RR_gdn | apply RW_gd | apply RR_gd) <;> intro hg <;> first | (cases hg; done) | skip) | with_reducible refine aE1 ?_ | with_reducible refine aE2 ?_ | with_reducible refine aOn ?_ | ((with_reducible refine aCd ?_ ?_) <;> intro hv <;> first | (cases hv; done) | skip) | fail)); all_goals clear x0_ x1_ x2_ x3_ x4_)
  all_goals (((with_reducible apply ends_ret); (focus (simp only [CC_P, results, resultsOf, resultOf, get, res_131, *]; exact rfl)); (focus (first | exact finish_tree' _ _ _ _ | exact finish_tup2 _ _ _ _ _ | exact finish_tup3 _ _ _ _ _ _))))
  all_goals exact ⟨_, ⟨rfl, rfl⟩, by trivial⟩
noncomputable def MayV (v : Val) : Bool := (mayV_run v).choose
theorem mayV_ok (v : Val) : Om CC 131 [.t (.agg [.int .u8 v.k, .int .i64 v.n, .str v.s])] [] = some (.val (.t (.bool (MayV v))), []) := (mayV_run v).choose_spec.1

theorem orderV_run (v : Val) (w : Val) : ∃ x : Int, Om CC 171 [.t (.agg [.int .u8 v.k, .int .i64 v.n, .str v.s]), .t (.agg [.int .u8 w.k, .int .i64 w.n, .str w.s])] [] = some (.val (.t (.int .i64 x)), []) ∧ (True) := by
  refine call_ex (F := fun x : Int => .t (.int .i64 x)) fun_171 rfl ?_
  (have F_ : _ ∧ _ ∧ _ ∧ _ ∧ _ ∧ _ ∧ _ ∧ _ ∧ _ ∧ _ ∧ _ ∧ _ ∧ _ ∧ _ ∧ _ ∧ _ ∧ _ ∧ _ ∧ _ ∧ _ ∧ _ ∧ _ ∧ _ ∧ _ ∧ _ ∧ _ ∧ _ ∧ _ ∧ _ ∧ _ ∧ _ ∧ _ ∧ _ ∧ _ ∧ _ ∧ _ ∧ _ ∧ _ ∧ _ ∧ _ ∧ _ ∧ _ ∧ _ ∧ _ ∧ _ := ⟨und_2, size_2, agg_2, zero_2, zel_2, small_2, und_3, size_3, agg_3, zero_3, zel_3, small_3, und_5, size_5, agg_5, zero_5, zel_5, small_5, und_9, size_9, agg_9, zero_9, zel_9, small_9, noInt_9, fa_45_0, fd_45_0, fa_45_1, fd_45_1, fa_45_2, fd_45_2, bld_45, size_45, agg_45, zero_45, zel_45, small_45, noInt_45, und_71, size_71, agg_71, zero_71, zel_71, small_71, noInt_71⟩; show W CC 0 22 (keepsOf 171) _ ⟨[(0, _), (1, _)], []⟩ _)
  (have x0_ := @cmpU8_ok; have x1_ := @cmpI64_ok; have x2_ := @cmpStr_ok; have x3_ := @or3_ok; have x4_ := @hb_189; have x5_ := @hb_179; have x6_ := @hb_190; have x7_ := @hb_169; (repeat' (first | with_reducible apply fol | with_reducible refine aRW ?_ | with_reducible refine aRR ?_ | with_reducible refine aRs ?_ | ((with_reducible first | apply RW_gdn | apply RR_gdn | apply RW_gd | apply RR_gd) <;> intro hg <;> first | (cases hg; done) | skip) | with_reducible refine aE1 ?_ | with_reducible refine aE2 ?_ | with_reducible refine aOn ?_ | ((with_reducible refine aCd ?_ ?_) <;> intro hv <;> first | (cases hv; done) | skip) | fail)); all_goals clear x0_ x1_ x2_ x3_ x4_ x5_ x6_ x7_)
  all_goals (((with_reducible apply ends_ret); (focus (simp only [CC_P, results, resultsOf, resultOf, get, res_171, *]; exact rfl)); (focus (first | exact finish_tree' _ _ _ _ | exact finish_tup2 _ _ _ _ _ | exact finish_tup3 _ _ _ _ _ _))))
  all_goals exact ⟨_, ⟨rfl, rfl⟩, by trivial⟩
noncomputable def OrderV (v : Val) (w : Val) : Int := (orderV_run v w).choose
theorem orderV_ok (v : Val) (w : Val) : Om CC 171 [.t (.agg [.int .u8 v.k, .int .i64 v.n, .str v.s]), .t (.agg [.int .u8 w.k, .int .i64 w.n, .str w.s])] [] = some (.val (.t (.int .i64 (OrderV v w))), []) := (orderV_run v w).choose_spec.1

theorem compareV_run (v : Val) (w : Val) : ∃ x : Int × Bool, Om CC 134 [.t (.agg [.int .u8 v.k, .int .i64 v.n, .str v.s]), .t (.agg [.int .u8 w.k, .int .i64 w.n, .str w.s])] [] = some (.val (.tup [.t (.int .i64 x.1), .t (.bool x.2)]), []) ∧ (True) := by
  refine call_ex (F := fun x : Int × Bool => .tup [.t (.int .i64 x.1), .t (.bool x.2)]) fun_134 rfl ?_
  (have F_ : _ ∧ _ ∧ _ ∧ _ ∧ _ ∧ _ ∧ _ ∧ _ ∧ _ ∧ _ ∧ _ ∧ _ ∧ _ ∧ _ ∧ _ ∧ _ ∧ _ ∧ _ ∧ _ ∧ _ ∧ _ ∧ _ ∧ _ ∧ _ ∧ _ ∧ _ ∧ _ ∧ _ ∧ _ ∧ _ ∧ _ ∧ _ ∧ _ ∧ _ ∧ _ ∧ _ ∧ _ ∧ _ ∧ _ ∧ _ ∧ _ ∧ _ ∧ _ ∧ _ ∧ _ ∧ _ ∧ _ ∧ _ ∧ _ ∧ _ ∧ _ ∧ _ ∧ _ ∧ _ ∧ _ ∧ _ ∧ _ ∧ _ := ⟨und_2, size_2, agg_2, zero_2, zel_2, small_2, und_3, size_3, agg_3, zero_3, zel_3, small_3, und_4, size_4, agg_4, zero_4, zel_4, small_4, noInt_4, und_5, size_5, agg_5, zero_5, zel_5, small_5, und_9, size_9, agg_9, zero_9, zel_9, small_9, noInt_9, fa_45_0, fd_45_0, fa_45_1, fd_45_1, fa_45_2, fd_45_2, bld_45, size_45, agg_45, zero_45, zel_45, small_45, noInt_45, und_71, size_71, agg_71, zero_71, zel_71, small_71, noInt_71, und_225, size_225, agg_225, zero_225, zel_225, small_225⟩; show W CC 0 65 (keepsOf 134) _ ⟨[(0, _), (1, _)], []⟩ _)
  (have x0_ := @isNum_ok; have x1_ := @unitsV_ok; have x2_ := @cmpU64_ok; have x3_ := @or2_ok; have x4_ := @orderV_ok; have x5_ := @hb_167; have x6_ := @hb_168; have x7_ := @hb_170; have x8_ := @hb_169; have x9_ := @hb_171; (repeat' (first | with_reducible apply fol | with_reducible refine aRW ?_ | with_reducible refine aRR ?_ | with_reducible refine aRs ?_ | ((with_reducible first | apply RW_gdn | apply RR_gdn | apply RW_gd | apply RR_gd) <;> intro hg <;> first | (cases hg; done) | skip) | with_reducible refine aE1 ?_ | with_reducible refine aE2 ?_ | with_reducible refine aOn ?_ | ((with_reducible refine aCd ?_ ?_) <;> intro hv <;> first | (cases hv; done) | skip) | fail)); all_goals clear x0_ x1_ x2_ x3_ x4_ x5_ x6_ x7_ x8_ x9_)
  all_goals (((with_reducible apply ends_ret); (focus (simp only [CC_P, results, resultsOf, resultOf, get, res_134, *]; exact rfl)); (focus (first | exact finish_tree' _ _ _ _ | exact finish_tup2 _ _ _ _ _ | exact finish_tup3 _ _ _ _ _ _))))
  all_goals exact ⟨(_, _), ⟨rfl, rfl⟩, by trivial⟩
noncomputable def CompareV (v : Val) (w : Val) : Int × Bool := (compareV_run v w).choose
theorem compareV_ok (v : Val) (w : Val) : Om CC 134 [.t (.agg [.int .u8 v.k, .int .i64 v.n, .str v.s]), .t (.agg [.int .u8 w.k, .int .i64 w.n, .str w.s])] [] = some (.val (.tup [.t (.int .i64 (CompareV v w).1), .t (.bool (CompareV v w).2)]), []) := (compareV_run v w).choose_spec.1

end Go.Ab
