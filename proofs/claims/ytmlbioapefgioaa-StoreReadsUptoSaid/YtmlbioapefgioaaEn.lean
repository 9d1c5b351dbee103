/- The evaluator and its proof, put together: Tt, En. -/
import Derived.Test.YtmlbioapefgioaaVc
import Derived.Test.YtmlbioapefgioaaVd
import Derived.Test.YtmlbioapefgioaaV6
import Derived.Test.YtmlbioapefgioaaProg
set_option linter.unusedVariables false
namespace Go.Proofs.Ytmlbioapefgioaa.Va
open Go
def tt : List (TI U) := [
 ⟨.other, 1, 0, [], 0, false⟩,
 ⟨.func, 1, 8, [.nilf], 0, false⟩,
 ⟨.int .i64, 1, 8, [.int .i64 0], 1, false⟩,
 ⟨.int .i64, 1, 8, [.int .i64 0], 1, false⟩,
 ⟨.bool, 1, 1, [.bool false], 4, false⟩,
 ⟨.int .u8, 1, 1, [.int .u8 0], 2, false⟩,
 ⟨.int .u8, 1, 1, [.int .u8 0], 0, false⟩,
 ⟨.struct [(2, 0), (3, 1), (4, 2), (6, 3)], 4, 24, [.int .i64 0, .int .i64 0, .bool false, .int .u8 0], 0, true⟩,
 ⟨.struct [(2, 0), (3, 1), (4, 2), (6, 3)], 4, 24, [.int .i64 0, .int .i64 0, .bool false, .int .u8 0], 0, false⟩,
 ⟨.str, 1, 16, [.str .empty], 5, false⟩,
 ⟨.str, 1, 16, [.str .empty], 0, false⟩,
 ⟨.str, 1, 16, [.str .empty], 0, false⟩,
 ⟨.int .u64, 1, 8, [.int .u64 0], 0, false⟩,
 ⟨.struct [(9, 0), (12, 1)], 2, 24, [.str .empty, .int .u64 0], 0, false⟩,
 ⟨.struct [(9, 0), (12, 1)], 2, 24, [.str .empty, .int .u64 0], 0, false⟩,
 ⟨.ptr 207, 1, 8, [.nilp], 0, false⟩,
 ⟨.ptr 210, 1, 8, [.nilp], 0, false⟩,
 ⟨.ptr 219, 1, 8, [.nilp], 0, false⟩,
 ⟨.struct [(17, 0)], 1, 8, [.nilp], 0, false⟩,
 ⟨.struct [(17, 0)], 1, 8, [.nilp], 0, false⟩,
 ⟨.other, 1, 16, [.nili], 0, false⟩,
 ⟨.int .i32, 1, 4, [.int .i32 0], 0, false⟩,
 ⟨.slice 36, 1, 24, [.nils], 11, false⟩,
 ⟨.slice 22, 1, 24, [.nils], 15, false⟩,
 ⟨.func, 1, 8, [.nilf], 0, false⟩,
 ⟨.func, 1, 8, [.nilf], 0, false⟩,
 ⟨.func, 1, 8, [.nilf], 0, false⟩,
 ⟨.func, 1, 8, [.nilf], 0, false⟩,
 ⟨.func, 1, 8, [.nilf], 0, false⟩,
 ⟨.func, 1, 8, [.nilf], 0, false⟩,
 ⟨.func, 1, 8, [.nilf], 0, false⟩,
 ⟨.func, 1, 8, [.nilf], 0, false⟩,
 ⟨.slice 38, 1, 24, [.nils], 0, false⟩,
 ⟨.func, 1, 8, [.nilf], 0, false⟩,
 ⟨.int .u32, 1, 4, [.int .u32 0], 3, false⟩,
 ⟨.struct [(34, 0), (9, 1)], 2, 24, [.int .u32 0, .str .empty], 0, true⟩,
 ⟨.struct [(34, 0), (9, 1)], 2, 24, [.int .u32 0, .str .empty], 10, true⟩,
 ⟨.struct [(3, 0), (36, 1)], 3, 32, [.int .i64 0, .int .u32 0, .str .empty], 0, true⟩,
 ⟨.struct [(3, 0), (36, 1)], 3, 32, [.int .i64 0, .int .u32 0, .str .empty], 22, true⟩,
 ⟨.func, 1, 8, [.nilf], 0, false⟩,
 ⟨.struct [(3, 0), (3, 1), (3, 2)], 3, 24, [.int .i64 0, .int .i64 0, .int .i64 0], 0, true⟩,
 ⟨.struct [(3, 0), (3, 1), (3, 2)], 3, 24, [.int .i64 0, .int .i64 0, .int .i64 0], 0, true⟩,
 ⟨.other, 1, 0, [], 0, false⟩,
 ⟨.func, 1, 8, [.nilf], 0, false⟩,
 ⟨.arr 3 3, 3, 24, [.int .i64 0, .int .i64 0, .int .i64 0], 14, true⟩,
 ⟨.other, 1, 0, [], 0, false⟩,
 ⟨.func, 1, 8, [.nilf], 0, false⟩,
 ⟨.other, 1, 0, [], 0, false⟩,
 ⟨.func, 1, 8, [.nilf], 0, false⟩,
 ⟨.other, 1, 0, [], 0, false⟩,
 ⟨.func, 1, 8, [.nilf], 0, false⟩,
 ⟨.func, 1, 8, [.nilf], 0, false⟩,
 ⟨.func, 1, 8, [.nilf], 0, false⟩,
 ⟨.other, 1, 0, [], 0, false⟩,
 ⟨.func, 1, 8, [.nilf], 0, false⟩,
 ⟨.func, 1, 8, [.nilf], 0, false⟩,
 ⟨.struct [(3, 0), (3, 1), (3, 2), (3, 3), (3, 4), (3, 5)], 6, 48, [.int .i64 0, .int .i64 0, .int .i64 0, .int .i64 0, .int .i64 0, .int .i64 0], 0, true⟩,
 ⟨.struct [(3, 0), (3, 1), (3, 2), (3, 3), (3, 4), (3, 5)], 6, 48, [.int .i64 0, .int .i64 0, .int .i64 0, .int .i64 0, .int .i64 0, .int .i64 0], 0, true⟩,
 ⟨.arr 2 3, 2, 16, [.int .i64 0, .int .i64 0], 0, true⟩,
 ⟨.slice 3, 1, 24, [.nils], 0, false⟩,
 ⟨.ptr 125, 1, 8, [.nilp], 0, false⟩,
 ⟨.int .i64, 1, 8, [.int .i64 0], 1, false⟩,
 ⟨.other, 1, 0, [], 0, false⟩,
 ⟨.func, 1, 8, [.nilf], 0, false⟩,
 ⟨.struct [(3, 0), (3, 1), (3, 2)], 3, 24, [.int .i64 0, .int .i64 0, .int .i64 0], 0, true⟩,
 ⟨.struct [(3, 0), (3, 1), (3, 2)], 3, 24, [.int .i64 0, .int .i64 0, .int .i64 0], 0, true⟩,
 ⟨.arr 4 65, 12, 96, [.int .i64 0, .int .i64 0, .int .i64 0, .int .i64 0, .int .i64 0, .int .i64 0, .int .i64 0, .int .i64 0, .int .i64 0, .int .i64 0, .int .i64 0, .int .i64 0], 0, true⟩,
 ⟨.other, 1, 0, [], 0, false⟩,
 ⟨.func, 1, 8, [.nilf], 0, false⟩,
 ⟨.other, 1, 0, [], 0, false⟩,
 ⟨.func, 1, 8, [.nilf], 0, false⟩,
 ⟨.func, 1, 8, [.nilf], 0, false⟩,
 ⟨.slice 44, 1, 24, [.nils], 0, false⟩,
 ⟨.func, 1, 8, [.nilf], 0, false⟩,
 ⟨.int .u64, 1, 8, [.int .u64 0], 0, false⟩,
 ⟨.func, 1, 8, [.nilf], 0, false⟩,
 ⟨.other, 1, 0, [], 0, false⟩,
 ⟨.func, 1, 8, [.nilf], 0, false⟩,
 ⟨.flt .f64, 1, 8, [.flt .f64 0], 0, false⟩,
 ⟨.func, 1, 8, [.nilf], 0, false⟩,
 ⟨.func, 1, 8, [.nilf], 0, false⟩,
 ⟨.func, 1, 8, [.nilf], 0, false⟩,
 ⟨.func, 1, 8, [.nilf], 0, false⟩,
 ⟨.func, 1, 8, [.nilf], 0, false⟩,
 ⟨.slice 145, 1, 24, [.nils], 0, false⟩,
 ⟨.struct [(3, 0), (84, 1)], 2, 32, [.int .i64 0, .nils], 0, false⟩,
 ⟨.struct [(3, 0), (84, 1)], 2, 32, [.int .i64 0, .nils], 0, false⟩,
 ⟨.slice 92, 1, 24, [.nils], 0, false⟩,
 ⟨.slice 147, 1, 24, [.nils], 0, false⟩,
 ⟨.struct [(3, 0), (88, 1)], 2, 32, [.int .i64 0, .nils], 0, false⟩,
 ⟨.struct [(3, 0), (88, 1)], 2, 32, [.int .i64 0, .nils], 0, false⟩,
 ⟨.struct [(3, 0), (3, 1), (90, 2)], 4, 48, [.int .i64 0, .int .i64 0, .int .i64 0, .nils], 0, false⟩,
 ⟨.struct [(3, 0), (3, 1), (90, 2)], 4, 48, [.int .i64 0, .int .i64 0, .int .i64 0, .nils], 29, false⟩,
 ⟨.func, 1, 8, [.nilf], 0, false⟩,
 ⟨.other, 1, 0, [], 0, false⟩,
 ⟨.func, 1, 8, [.nilf], 0, false⟩,
 ⟨.func, 1, 8, [.nilf], 0, false⟩,
 ⟨.other, 1, 0, [], 0, false⟩,
 ⟨.func, 1, 8, [.nilf], 0, false⟩,
 ⟨.func, 1, 8, [.nilf], 0, false⟩,
 ⟨.func, 1, 8, [.nilf], 0, false⟩,
 ⟨.other, 1, 0, [], 0, false⟩,
 ⟨.func, 1, 8, [.nilf], 0, false⟩,
 ⟨.other, 1, 0, [], 0, false⟩,
 ⟨.func, 1, 8, [.nilf], 0, false⟩,
 ⟨.func, 1, 8, [.nilf], 0, false⟩,
 ⟨.func, 1, 8, [.nilf], 0, false⟩,
 ⟨.slice 161, 1, 24, [.nils], 0, false⟩,
 ⟨.other, 1, 0, [], 0, false⟩,
 ⟨.func, 1, 8, [.nilf], 0, false⟩,
 ⟨.func, 1, 8, [.nilf], 0, false⟩,
 ⟨.func, 1, 8, [.nilf], 0, false⟩,
 ⟨.func, 1, 8, [.nilf], 0, false⟩,
 ⟨.func, 1, 8, [.nilf], 0, false⟩,
 ⟨.func, 1, 8, [.nilf], 0, false⟩,
 ⟨.func, 1, 8, [.nilf], 0, false⟩,
 ⟨.func, 1, 8, [.nilf], 0, false⟩,
 ⟨.func, 1, 8, [.nilf], 0, false⟩,
 ⟨.func, 1, 8, [.nilf], 0, false⟩,
 ⟨.func, 1, 8, [.nilf], 0, false⟩,
 ⟨.func, 1, 8, [.nilf], 0, false⟩,
 ⟨.slice 34, 1, 24, [.nils], 12, false⟩,
 ⟨.struct [(3, 0), (121, 1)], 2, 32, [.int .i64 0, .nils], 0, false⟩,
 ⟨.struct [(3, 0), (121, 1)], 2, 32, [.int .i64 0, .nils], 0, false⟩,
 ⟨.struct [(121, 0), (3, 1), (59, 2), (3, 3), (4, 4), (123, 5)], 7, 104, [.nils, .int .i64 0, .nils, .int .i64 0, .bool false, .int .i64 0, .nils], 0, false⟩,
 ⟨.struct [(121, 0), (3, 1), (59, 2), (3, 3), (4, 4), (123, 5)], 7, 104, [.nils, .int .i64 0, .nils, .int .i64 0, .bool false, .int .i64 0, .nils], 0, false⟩,
 ⟨.func, 1, 8, [.nilf], 0, false⟩,
 ⟨.arr 4 4, 4, 4, [.bool false, .bool false, .bool false, .bool false], 0, true⟩,
 ⟨.func, 1, 8, [.nilf], 0, false⟩,
 ⟨.other, 1, 0, [], 0, false⟩,
 ⟨.func, 1, 8, [.nilf], 0, false⟩,
 ⟨.ptr 65, 1, 8, [.nilp], 0, false⟩,
 ⟨.func, 1, 8, [.nilf], 0, false⟩,
 ⟨.func, 1, 8, [.nilf], 0, false⟩,
 ⟨.func, 1, 8, [.nilf], 0, false⟩,
 ⟨.func, 1, 8, [.nilf], 0, false⟩,
 ⟨.func, 1, 8, [.nilf], 0, false⟩,
 ⟨.func, 1, 8, [.nilf], 0, false⟩,
 ⟨.func, 1, 8, [.nilf], 0, false⟩,
 ⟨.arr 4 3, 4, 32, [.int .i64 0, .int .i64 0, .int .i64 0, .int .i64 0], 0, true⟩,
 ⟨.func, 1, 8, [.nilf], 0, false⟩,
 ⟨.struct [(3, 0), (3, 1), (3, 2), (3, 3), (3, 4)], 5, 40, [.int .i64 0, .int .i64 0, .int .i64 0, .int .i64 0, .int .i64 0], 0, true⟩,
 ⟨.struct [(3, 0), (3, 1), (3, 2), (3, 3), (3, 4)], 5, 40, [.int .i64 0, .int .i64 0, .int .i64 0, .int .i64 0, .int .i64 0], 23, true⟩,
 ⟨.slice 142, 1, 24, [.nils], 0, false⟩,
 ⟨.struct [(3, 0), (143, 1)], 2, 32, [.int .i64 0, .nils], 0, false⟩,
 ⟨.struct [(3, 0), (143, 1)], 2, 32, [.int .i64 0, .nils], 28, false⟩,
 ⟨.struct [(3, 0), (9, 1)], 2, 24, [.int .i64 0, .str .empty], 0, true⟩,
 ⟨.struct [(3, 0), (9, 1)], 2, 24, [.int .i64 0, .str .empty], 24, true⟩,
 ⟨.other, 1, 0, [], 0, false⟩,
 ⟨.func, 1, 8, [.nilf], 0, false⟩,
 ⟨.slice 5, 1, 24, [.nils], 13, false⟩,
 ⟨.other, 1, 0, [], 0, false⟩,
 ⟨.func, 1, 8, [.nilf], 0, false⟩,
 ⟨.other, 1, 0, [], 0, false⟩,
 ⟨.func, 1, 8, [.nilf], 0, false⟩,
 ⟨.func, 1, 8, [.nilf], 0, false⟩,
 ⟨.func, 1, 8, [.nilf], 0, false⟩,
 ⟨.func, 1, 8, [.nilf], 0, false⟩,
 ⟨.func, 1, 8, [.nilf], 0, false⟩,
 ⟨.func, 1, 8, [.nilf], 0, false⟩,
 ⟨.struct [(3, 0), (90, 1)], 3, 40, [.int .i64 0, .int .i64 0, .nils], 0, false⟩,
 ⟨.struct [(3, 0), (90, 1)], 3, 40, [.int .i64 0, .int .i64 0, .nils], 30, false⟩,
 ⟨.func, 1, 8, [.nilf], 0, false⟩,
 ⟨.func, 1, 8, [.nilf], 0, false⟩,
 ⟨.func, 1, 8, [.nilf], 0, false⟩,
 ⟨.func, 1, 8, [.nilf], 0, false⟩,
 ⟨.func, 1, 8, [.nilf], 0, false⟩,
 ⟨.func, 1, 8, [.nilf], 0, false⟩,
 ⟨.other, 1, 0, [], 0, false⟩,
 ⟨.func, 1, 8, [.nilf], 0, false⟩,
 ⟨.func, 1, 8, [.nilf], 0, false⟩,
 ⟨.func, 1, 8, [.nilf], 0, false⟩,
 ⟨.func, 1, 8, [.nilf], 0, false⟩,
 ⟨.func, 1, 8, [.nilf], 0, false⟩,
 ⟨.func, 1, 8, [.nilf], 0, false⟩,
 ⟨.ptr 123, 1, 8, [.nilp], 0, false⟩,
 ⟨.struct [(3, 0), (3, 1), (3, 2)], 3, 24, [.int .i64 0, .int .i64 0, .int .i64 0], 0, true⟩,
 ⟨.struct [(3, 0), (3, 1), (3, 2)], 3, 24, [.int .i64 0, .int .i64 0, .int .i64 0], 14, true⟩,
 ⟨.slice 177, 1, 24, [.nils], 0, false⟩,
 ⟨.func, 1, 8, [.nilf], 0, false⟩,
 ⟨.other, 1, 0, [], 0, false⟩,
 ⟨.func, 1, 8, [.nilf], 0, false⟩,
 ⟨.func, 1, 8, [.nilf], 0, false⟩,
 ⟨.func, 1, 8, [.nilf], 0, false⟩,
 ⟨.func, 1, 8, [.nilf], 0, false⟩,
 ⟨.func, 1, 8, [.nilf], 0, false⟩,
 ⟨.other, 1, 0, [], 0, false⟩,
 ⟨.func, 1, 8, [.nilf], 0, false⟩,
 ⟨.func, 1, 8, [.nilf], 0, false⟩,
 ⟨.func, 1, 8, [.nilf], 0, false⟩,
 ⟨.func, 1, 8, [.nilf], 0, false⟩,
 ⟨.int .u64, 1, 8, [.int .u64 0], 0, false⟩,
 ⟨.slice 23, 1, 24, [.nils], 0, false⟩,
 ⟨.func, 1, 8, [.nilf], 0, false⟩,
 ⟨.func, 1, 8, [.nilf], 0, false⟩,
 ⟨.func, 1, 8, [.nilf], 0, false⟩,
 ⟨.arr 256 4, 256, 256, [], 0, true⟩,
 ⟨.func, 1, 8, [.nilf], 0, false⟩,
 ⟨.func, 1, 8, [.nilf], 0, false⟩,
 ⟨.func, 1, 8, [.nilf], 0, false⟩,
 ⟨.func, 1, 8, [.nilf], 0, false⟩,
 ⟨.other, 1, 0, [], 0, false⟩,
 ⟨.func, 1, 8, [.nilf], 0, false⟩,
 ⟨.other, 1, 0, [], 0, false⟩,
 ⟨.func, 1, 8, [.nilf], 0, false⟩,
 ⟨.func, 1, 8, [.nilf], 0, false⟩,
 ⟨.struct [(17, 0), (17, 1), (17, 2), (9, 3)], 4, 40, [.nilp, .nilp, .nilp, .str .empty], 0, false⟩,
 ⟨.struct [(17, 0), (17, 1), (17, 2), (9, 3)], 4, 40, [.nilp, .nilp, .nilp, .str .empty], 0, false⟩,
 ⟨.arr 0 16, 0, 0, [], 0, false⟩,
 ⟨.struct [(208, 0)], 0, 0, [], 0, false⟩,
 ⟨.struct [(208, 0)], 0, 0, [], 0, false⟩,
 ⟨.func, 1, 8, [.nilf], 0, false⟩,
 ⟨.int .u8, 1, 1, [.int .u8 0], 0, false⟩,
 ⟨.int .u8, 1, 1, [.int .u8 0], 0, false⟩,
 ⟨.func, 1, 8, [.nilf], 0, false⟩,
 ⟨.ptr 5, 1, 8, [.nilp], 0, false⟩,
 ⟨.int .i32, 1, 4, [.int .i32 0], 0, false⟩,
 ⟨.int .i32, 1, 4, [.int .i32 0], 0, false⟩,
 ⟨.struct [(12, 0), (12, 1), (34, 2), (212, 3), (5, 4), (5, 5), (213, 6), (214, 7), (215, 8), (216, 9), (217, 10)], 11, 48, [.int .u64 0, .int .u64 0, .int .u32 0, .int .u8 0, .int .u8 0, .int .u8 0, .int .u8 0, .nilf, .nilp, .int .i32 0, .int .i32 0], 0, false⟩,
 ⟨.struct [(12, 0), (12, 1), (34, 2), (212, 3), (5, 4), (5, 5), (213, 6), (214, 7), (215, 8), (216, 9), (217, 10)], 11, 48, [.int .u64 0, .int .u64 0, .int .u32 0, .int .u8 0, .int .u8 0, .int .u8 0, .int .u8 0, .nilf, .nilp, .int .i32 0, .int .i32 0], 0, false⟩,
 ⟨.other, 1, 8, [.nilp], 0, false⟩
]
end Go.Proofs.Ytmlbioapefgioaa.Va
/- The seat's environment for the evaluator. -/
namespace Go.Proofs.Ytmlbioapefgioaa.Va
open Go

def E0 : Env U := { cc := cc, tt := tt, bt := 2, toB := fun l => l, ofB := fun l => l, Γ := [], Λ := [], C := [], D := fun _ => (⟨[], []⟩, ⟨[], []⟩), ro := [] }
theorem P_mixed : Try.prog.follows .mixedOrders = true := by kernel_rfl

theorem ty_all : ((List.range tt.length).all fun t => tyB Try.prog E0 t) = true := by kernel_rfl
theorem tag_all : (tt.all fun i => i.tag == 0 || decide (0 < (cc i.tag).sz)) = true := by kernel_rfl

theorem E0_ok : EnvOK Try.prog E0 where
 ty t := by
  by_cases h : t < tt.length
  ·exact List.all_eq_true.1 ty_all t (List.mem_range.2 h)
  ·have e : E0.ti t = TI.none := by
    show tt.getD t TI.none = TI.none
    rw [List.getD_eq_getElem?_getD, List.getElem?_eq_none (Nat.le_of_not_lt (by assumption))]
    rfl
   unfold tyB
   rw [e]
   rfl
 cod := cc_ok
 tag0 t := by
  intro h
  by_cases ht : t < tt.length
  ·have e : E0.ti t = tt[t] := by
    show tt.getD t TI.none = tt[t]
    rw [List.getD_eq_getElem?_getD, List.getElem?_eq_getElem ht]
    rfl
   have := List.all_eq_true.1 tag_all tt[t] (List.getElem_mem ht)
   rw [e] at h ⊢
   rw [Bool.or_eq_true, beq_iff_eq, decide_eq_true_eq] at this
   exact this.resolve_left h
  ·have e : E0.ti t = TI.none := by
    show tt.getD t TI.none = TI.none
    rw [List.getD_eq_getElem?_getD, List.getElem?_eq_none (Nat.le_of_not_lt (by assumption))]
    rfl
   rw [e] at h
   exact absurd rfl h
 btsz := rfl
 toB l := ⟨rfl, fun i n h => ⟨n, h, rfl⟩⟩
 ofB l := ⟨rfl, fun i x h => ⟨x, h, rfl⟩⟩

end Go.Proofs.Ytmlbioapefgioaa.Va


