/- A pattern of the examples, by the kernel. -/
import Derived.Test.YtchkgfmmfdineaaGreatAbS1
namespace Go.Ab
open Go.Proofs
set_option maxRecDepth 1000000
theorem pat2_run : callN CC 2000 13 [.t (.str [97, 40, 120, 58, 32, 63, 110, 44, 32, 121, 58, 32, 63, 110, 41])] [] = some (.val (.t (.agg [.str [], .str [97], .sl false false [[.str [120], .sl false false [[.int .u8 (2), .sl false false [[.int .u8 (2), .int .u8 (0), .int .i64 (0), .str [], .str [110], .sl true true [], .int .i64 (1), .int .i64 (18)]], .sl true true [], .bool false, .bool false, .sl true true [], .int .i64 (1), .int .i64 (18)]], .int .i64 (1), .int .i64 (15)], [.str [121], .sl false false [[.int .u8 (2), .sl false false [[.int .u8 (2), .int .u8 (0), .int .i64 (0), .str [], .str [110], .sl true true [], .int .i64 (1), .int .i64 (25)]], .sl true true [], .bool false, .bool false, .sl true true [], .int .i64 (1), .int .i64 (25)]], .int .i64 (1), .int .i64 (22)]], .int .i64 (1), .int .i64 (13)])), []) := by
  kernel_rfl
end Go.Ab
