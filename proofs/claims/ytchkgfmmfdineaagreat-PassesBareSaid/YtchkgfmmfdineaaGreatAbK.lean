/- The examples hold. -/
import Derived.Test.YtchkgfmmfdineaaGreatAbK1
import Derived.Test.YtchkgfmmfdineaaGreatAbK2
import Derived.Test.YtchkgfmmfdineaaGreatAbK3
namespace Go.Ab
open Go.Proofs
set_option maxRecDepth 1000000
/-- The patterns of the examples. -/
def patTbl : Oracle := fun f args h => match f, args, h with
  | 13, [.t (.str s)], [] =>
    match beqL s [97, 40, 120, 58, 32, 63, 110, 44, 32, 121, 58, 32, 62, 32, 63, 110, 41] with
    | true => some (.val (.t (.agg [.str [], .str [97], .sl false false [[.str [120], .sl false false [[.int .u8 (2), .sl false false [[.int .u8 (2), .int .u8 (0), .int .i64 (0), .str [], .str [110], .sl true true [], .int .i64 (1), .int .i64 (18)]], .sl true true [], .bool false, .bool false, .sl true true [], .int .i64 (1), .int .i64 (18)]], .int .i64 (1), .int .i64 (15)], [.str [121], .sl false false [[.int .u8 (5), .sl false false [[.int .u8 (2), .int .u8 (0), .int .i64 (0), .str [], .str [110], .sl true true [], .int .i64 (1), .int .i64 (27)]], .sl true true [], .bool false, .bool false, .sl true true [], .int .i64 (1), .int .i64 (25)]], .int .i64 (1), .int .i64 (22)]], .int .i64 (1), .int .i64 (13)])), [])
    | false =>
    match beqL s [97, 40, 120, 58, 32, 63, 110, 44, 32, 121, 58, 32, 63, 110, 41] with
    | true => some (.val (.t (.agg [.str [], .str [97], .sl false false [[.str [120], .sl false false [[.int .u8 (2), .sl false false [[.int .u8 (2), .int .u8 (0), .int .i64 (0), .str [], .str [110], .sl true true [], .int .i64 (1), .int .i64 (18)]], .sl true true [], .bool false, .bool false, .sl true true [], .int .i64 (1), .int .i64 (18)]], .int .i64 (1), .int .i64 (15)], [.str [121], .sl false false [[.int .u8 (2), .sl false false [[.int .u8 (2), .int .u8 (0), .int .i64 (0), .str [], .str [110], .sl true true [], .int .i64 (1), .int .i64 (25)]], .sl true true [], .bool false, .bool false, .sl true true [], .int .i64 (1), .int .i64 (25)]], .int .i64 (1), .int .i64 (22)]], .int .i64 (1), .int .i64 (13)])), [])
    | false =>
    match beqL s [97, 40, 120, 58, 32, 63, 110, 41] with
    | true => some (.val (.t (.agg [.str [], .str [97], .sl false false [[.str [120], .sl false false [[.int .u8 (2), .sl false false [[.int .u8 (2), .int .u8 (0), .int .i64 (0), .str [], .str [110], .sl true true [], .int .i64 (1), .int .i64 (18)]], .sl true true [], .bool false, .bool false, .sl true true [], .int .i64 (1), .int .i64 (18)]], .int .i64 (1), .int .i64 (15)]], .int .i64 (1), .int .i64 (13)])), [])
    | false =>
      none
  | _, _, _ => none

theorem patTbl_ok (f : FuncId) (args : List AV) (h : Heap) (r : Out × Heap) (hx : patTbl f args h = some r) : Om CC f args h = some r := by
  unfold patTbl at hx
  split at hx
  · rename_i s
    split at hx
    · rename_i hb
      rw [beqL_eq, decide_eq_true_eq] at hb
      cases hx; subst hb; exact om_of_callN pat1_run
    · split at hx
      · rename_i hb
        rw [beqL_eq, decide_eq_true_eq] at hb
        cases hx; subst hb; exact om_of_callN pat2_run
      · split at hx
        · rename_i hb
          rw [beqL_eq, decide_eq_true_eq] at hb
          cases hx; subst hb; exact om_of_callN pat3_run
        · cases hx
  · cases hx

theorem known_run : callK CC patTbl 2000 7 [] [] = some (.val (.t (.bool true)), []) := by
  kernel_rfl

theorem known_ok : Om CC 7 [] [] = some (.val (.t (.bool true)), []) := om_of_callK patTbl_ok known_run
end Go.Ab
