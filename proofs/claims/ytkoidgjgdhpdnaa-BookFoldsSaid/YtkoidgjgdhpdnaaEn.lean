/- The evaluator and its proof, put together: Tt, En. -/
import Derived.Test.YtkoidgjgdhpdnaaVc
import Derived.Test.YtkoidgjgdhpdnaaVd
import Derived.Test.YtkoidgjgdhpdnaaV6
import Derived.Test.YtkoidgjgdhpdnaaProg
set_option linter.unusedVariables false
namespace Go.Proofs.Ytkoidgjgdhpdnaa.Va
open Go
def tt : List (TI U) := [
 ⟨.other, 1, 0, [], 0, false⟩,
 ⟨.func, 1, 8, [.nilf], 0, false⟩,
 ⟨.int .i64, 1, 8, [.int .i64 0], 1, false⟩,
 ⟨.int .i64, 1, 8, [.int .i64 0], 1, false⟩,
 ⟨.bool, 1, 1, [.bool false], 4, false⟩,
 ⟨.int .u8, 1, 1, [.int .u8 0], 2, false⟩,
 ⟨.int .u8, 1, 1, [.int .u8 0], 0, false⟩,
 ⟨.struct [(2, 0), (3, 1), (4, 2), (6, 3)], 4, 24, [.int .i64 0, .int .i64 0, .bool false, .int .u8 0], 0, true⟩,
 ⟨.struct [(2, 0), (3, 1), (4, 2), (6, 3)], 4, 24, [.int .i64 0, .int .i64 0, .bool false, .int .u8 0], 0, false⟩,
 ⟨.str, 1, 16, [.str .empty], 5, false⟩,
 ⟨.str, 1, 16, [.str .empty], 0, false⟩,
 ⟨.str, 1, 16, [.str .empty], 0, false⟩,
 ⟨.int .u64, 1, 8, [.int .u64 0], 0, false⟩,
 ⟨.struct [(9, 0), (12, 1)], 2, 24, [.str .empty, .int .u64 0], 0, false⟩,
 ⟨.struct [(9, 0), (12, 1)], 2, 24, [.str .empty, .int .u64 0], 0, false⟩,
 ⟨.ptr 171, 1, 8, [.nilp], 0, false⟩,
 ⟨.ptr 174, 1, 8, [.nilp], 0, false⟩,
 ⟨.ptr 182, 1, 8, [.nilp], 0, false⟩,
 ⟨.struct [(17, 0)], 1, 8, [.nilp], 0, false⟩,
 ⟨.struct [(17, 0)], 1, 8, [.nilp], 0, false⟩,
 ⟨.other, 1, 16, [.nili], 0, false⟩,
 ⟨.int .i32, 1, 4, [.int .i32 0], 0, false⟩,
 ⟨.struct [(3, 0), (3, 1), (3, 2), (3, 3), (3, 4), (3, 5)], 6, 48, [.int .i64 0, .int .i64 0, .int .i64 0, .int .i64 0, .int .i64 0, .int .i64 0], 0, true⟩,
 ⟨.struct [(3, 0), (3, 1), (3, 2), (3, 3), (3, 4), (3, 5)], 6, 48, [.int .i64 0, .int .i64 0, .int .i64 0, .int .i64 0, .int .i64 0, .int .i64 0], 0, true⟩,
 ⟨.slice 53, 1, 24, [.nils], 12, false⟩,
 ⟨.struct [(3, 0), (3, 1), (24, 2), (24, 3)], 4, 64, [.int .i64 0, .int .i64 0, .nils, .nils], 0, false⟩,
 ⟨.struct [(3, 0), (3, 1), (24, 2), (24, 3)], 4, 64, [.int .i64 0, .int .i64 0, .nils, .nils], 27, false⟩,
 ⟨.func, 1, 8, [.nilf], 0, false⟩,
 ⟨.func, 1, 8, [.nilf], 0, false⟩,
 ⟨.slice 26, 1, 24, [.nils], 0, false⟩,
 ⟨.func, 1, 8, [.nilf], 0, false⟩,
 ⟨.ptr 83, 1, 8, [.nilp], 0, false⟩,
 ⟨.other, 1, 0, [], 0, false⟩,
 ⟨.func, 1, 8, [.nilf], 0, false⟩,
 ⟨.func, 1, 8, [.nilf], 0, false⟩,
 ⟨.func, 1, 8, [.nilf], 0, false⟩,
 ⟨.slice 24, 1, 24, [.nils], 0, false⟩,
 ⟨.func, 1, 8, [.nilf], 0, false⟩,
 ⟨.int .i64, 1, 8, [.int .i64 0], 1, false⟩,
 ⟨.func, 1, 8, [.nilf], 0, false⟩,
 ⟨.func, 1, 8, [.nilf], 0, false⟩,
 ⟨.ptr 93, 1, 8, [.nilp], 0, false⟩,
 ⟨.other, 1, 0, [], 0, false⟩,
 ⟨.func, 1, 8, [.nilf], 0, false⟩,
 ⟨.slice 94, 1, 24, [.nils], 0, false⟩,
 ⟨.func, 1, 8, [.nilf], 0, false⟩,
 ⟨.ptr 98, 1, 8, [.nilp], 0, false⟩,
 ⟨.other, 1, 0, [], 0, false⟩,
 ⟨.func, 1, 8, [.nilf], 0, false⟩,
 ⟨.other, 1, 0, [], 0, false⟩,
 ⟨.func, 1, 8, [.nilf], 0, false⟩,
 ⟨.func, 1, 8, [.nilf], 0, false⟩,
 ⟨.func, 1, 8, [.nilf], 0, false⟩,
 ⟨.int .u32, 1, 4, [.int .u32 0], 3, false⟩,
 ⟨.arr 8 53, 8, 32, [.int .u32 0, .int .u32 0, .int .u32 0, .int .u32 0, .int .u32 0, .int .u32 0, .int .u32 0, .int .u32 0], 0, true⟩,
 ⟨.struct [(3, 0), (3, 1), (3, 2), (54, 3)], 11, 56, [.int .i64 0, .int .i64 0, .int .i64 0, .int .u32 0, .int .u32 0, .int .u32 0, .int .u32 0, .int .u32 0, .int .u32 0, .int .u32 0, .int .u32 0], 0, true⟩,
 ⟨.struct [(3, 0), (3, 1), (3, 2), (54, 3)], 11, 56, [.int .i64 0, .int .i64 0, .int .i64 0, .int .u32 0, .int .u32 0, .int .u32 0, .int .u32 0, .int .u32 0, .int .u32 0, .int .u32 0, .int .u32 0], 0, true⟩,
 ⟨.arr 2 56, 22, 112, [.int .i64 0, .int .i64 0, .int .i64 0, .int .u32 0, .int .u32 0, .int .u32 0, .int .u32 0, .int .u32 0, .int .u32 0, .int .u32 0, .int .u32 0, .int .i64 0, .int .i64 0, .int .i64 0, .int .u32 0, .int .u32 0, .int .u32 0, .int .u32 0, .int .u32 0, .int .u32 0, .int .u32 0, .int .u32 0], 0, true⟩,
 ⟨.struct [(3, 0), (3, 1), (3, 2), (4, 3), (3, 4), (57, 5), (3, 27), (3, 28), (3, 29), (3, 30)], 31, 184, [.int .i64 0, .int .i64 0, .int .i64 0, .bool false, .int .i64 0, .int .i64 0, .int .i64 0, .int .i64 0, .int .u32 0, .int .u32 0, .int .u32 0, .int .u32 0, .int .u32 0, .int .u32 0, .int .u32 0, .int .u32 0, .int .i64 0, .int .i64 0, .int .i64 0, .int .u32 0, .int .u32 0, .int .u32 0, .int .u32 0, .int .u32 0, .int .u32 0, .int .u32 0, .int .u32 0, .int .i64 0, .int .i64 0, .int .i64 0, .int .i64 0], 0, true⟩,
 ⟨.struct [(3, 0), (3, 1), (3, 2), (4, 3), (3, 4), (57, 5), (3, 27), (3, 28), (3, 29), (3, 30)], 31, 184, [.int .i64 0, .int .i64 0, .int .i64 0, .bool false, .int .i64 0, .int .i64 0, .int .i64 0, .int .i64 0, .int .u32 0, .int .u32 0, .int .u32 0, .int .u32 0, .int .u32 0, .int .u32 0, .int .u32 0, .int .u32 0, .int .i64 0, .int .i64 0, .int .i64 0, .int .u32 0, .int .u32 0, .int .u32 0, .int .u32 0, .int .u32 0, .int .u32 0, .int .u32 0, .int .u32 0, .int .i64 0, .int .i64 0, .int .i64 0, .int .i64 0], 0, true⟩,
 ⟨.slice 68, 1, 24, [.nils], 0, false⟩,
 ⟨.func, 1, 8, [.nilf], 0, false⟩,
 ⟨.ptr 109, 1, 8, [.nilp], 0, false⟩,
 ⟨.func, 1, 8, [.nilf], 0, false⟩,
 ⟨.func, 1, 8, [.nilf], 0, false⟩,
 ⟨.ptr 75, 1, 8, [.nilp], 0, false⟩,
 ⟨.other, 1, 0, [], 0, false⟩,
 ⟨.func, 1, 8, [.nilf], 0, false⟩,
 ⟨.arr 3 53, 3, 12, [.int .u32 0, .int .u32 0, .int .u32 0], 26, true⟩,
 ⟨.func, 1, 8, [.nilf], 0, false⟩,
 ⟨.other, 1, 0, [], 0, false⟩,
 ⟨.func, 1, 8, [.nilf], 0, false⟩,
 ⟨.other, 1, 0, [], 0, false⟩,
 ⟨.func, 1, 8, [.nilf], 0, false⟩,
 ⟨.struct [(62, 0), (3, 1), (3, 2), (4, 3), (3, 4), (24, 5), (36, 6)], 7, 88, [.nilp, .int .i64 0, .int .i64 0, .bool false, .int .i64 0, .nils, .nils], 0, false⟩,
 ⟨.struct [(62, 0), (3, 1), (3, 2), (4, 3), (3, 4), (24, 5), (36, 6)], 7, 88, [.nilp, .int .i64 0, .int .i64 0, .bool false, .int .i64 0, .nils, .nils], 0, false⟩,
 ⟨.func, 1, 8, [.nilf], 0, false⟩,
 ⟨.struct [(41, 0), (46, 1), (31, 2), (65, 3)], 4, 32, [.nilp, .nilp, .nilp, .nilp], 0, false⟩,
 ⟨.struct [(41, 0), (46, 1), (31, 2), (65, 3)], 4, 32, [.nilp, .nilp, .nilp, .nilp], 0, false⟩,
 ⟨.other, 1, 0, [], 0, false⟩,
 ⟨.func, 1, 8, [.nilf], 0, false⟩,
 ⟨.func, 1, 8, [.nilf], 0, false⟩,
 ⟨.struct [(46, 0), (3, 1), (3, 2), (4, 3), (3, 4), (24, 5), (36, 6)], 7, 88, [.nilp, .int .i64 0, .int .i64 0, .bool false, .int .i64 0, .nils, .nils], 0, false⟩,
 ⟨.struct [(46, 0), (3, 1), (3, 2), (4, 3), (3, 4), (24, 5), (36, 6)], 7, 88, [.nilp, .int .i64 0, .int .i64 0, .bool false, .int .i64 0, .nils, .nils], 0, false⟩,
 ⟨.func, 1, 8, [.nilf], 0, false⟩,
 ⟨.func, 1, 8, [.nilf], 0, false⟩,
 ⟨.func, 1, 8, [.nilf], 0, false⟩,
 ⟨.func, 1, 8, [.nilf], 0, false⟩,
 ⟨.func, 1, 8, [.nilf], 0, false⟩,
 ⟨.slice 3, 1, 24, [.nils], 0, false⟩,
 ⟨.struct [(3, 0), (24, 1)], 2, 32, [.int .i64 0, .nils], 0, false⟩,
 ⟨.struct [(3, 0), (24, 1)], 2, 32, [.int .i64 0, .nils], 0, false⟩,
 ⟨.struct [(24, 0), (3, 1), (89, 2), (3, 3), (4, 4), (91, 5)], 7, 104, [.nils, .int .i64 0, .nils, .int .i64 0, .bool false, .int .i64 0, .nils], 0, false⟩,
 ⟨.struct [(24, 0), (3, 1), (89, 2), (3, 3), (4, 4), (91, 5)], 7, 104, [.nils, .int .i64 0, .nils, .int .i64 0, .bool false, .int .i64 0, .nils], 0, false⟩,
 ⟨.arr 3 3, 3, 24, [.int .i64 0, .int .i64 0, .int .i64 0], 14, true⟩,
 ⟨.func, 1, 8, [.nilf], 0, false⟩,
 ⟨.func, 1, 8, [.nilf], 0, false⟩,
 ⟨.struct [(41, 0), (23, 1)], 7, 56, [.nilp, .int .i64 0, .int .i64 0, .int .i64 0, .int .i64 0, .int .i64 0, .int .i64 0], 0, false⟩,
 ⟨.struct [(41, 0), (23, 1)], 7, 56, [.nilp, .int .i64 0, .int .i64 0, .int .i64 0, .int .i64 0, .int .i64 0, .int .i64 0], 0, false⟩,
 ⟨.other, 1, 0, [], 0, false⟩,
 ⟨.func, 1, 8, [.nilf], 0, false⟩,
 ⟨.func, 1, 8, [.nilf], 0, false⟩,
 ⟨.func, 1, 8, [.nilf], 0, false⟩,
 ⟨.func, 1, 8, [.nilf], 0, false⟩,
 ⟨.other, 1, 0, [], 0, false⟩,
 ⟨.func, 1, 8, [.nilf], 0, false⟩,
 ⟨.ptr 138, 1, 8, [.nilp], 0, false⟩,
 ⟨.func, 1, 8, [.nilf], 0, false⟩,
 ⟨.struct [(106, 0), (23, 1)], 7, 56, [.nilp, .int .i64 0, .int .i64 0, .int .i64 0, .int .i64 0, .int .i64 0, .int .i64 0], 0, false⟩,
 ⟨.struct [(106, 0), (23, 1)], 7, 56, [.nilp, .int .i64 0, .int .i64 0, .int .i64 0, .int .i64 0, .int .i64 0, .int .i64 0], 0, false⟩,
 ⟨.func, 1, 8, [.nilf], 0, false⟩,
 ⟨.func, 1, 8, [.nilf], 0, false⟩,
 ⟨.func, 1, 8, [.nilf], 0, false⟩,
 ⟨.struct [(3, 0), (3, 1), (24, 2)], 3, 40, [.int .i64 0, .int .i64 0, .nils], 0, false⟩,
 ⟨.struct [(3, 0), (3, 1), (24, 2)], 3, 40, [.int .i64 0, .int .i64 0, .nils], 0, false⟩,
 ⟨.func, 1, 8, [.nilf], 0, false⟩,
 ⟨.func, 1, 8, [.nilf], 0, false⟩,
 ⟨.func, 1, 8, [.nilf], 0, false⟩,
 ⟨.func, 1, 8, [.nilf], 0, false⟩,
 ⟨.func, 1, 8, [.nilf], 0, false⟩,
 ⟨.func, 1, 8, [.nilf], 0, false⟩,
 ⟨.func, 1, 8, [.nilf], 0, false⟩,
 ⟨.struct [(3, 0), (3, 1), (24, 2)], 3, 40, [.int .i64 0, .int .i64 0, .nils], 0, false⟩,
 ⟨.func, 1, 8, [.nilf], 0, false⟩,
 ⟨.func, 1, 8, [.nilf], 0, false⟩,
 ⟨.func, 1, 8, [.nilf], 0, false⟩,
 ⟨.func, 1, 8, [.nilf], 0, false⟩,
 ⟨.struct [(3, 0), (3, 1), (3, 2)], 3, 24, [.int .i64 0, .int .i64 0, .int .i64 0], 0, true⟩,
 ⟨.struct [(3, 0), (3, 1), (3, 2)], 3, 24, [.int .i64 0, .int .i64 0, .int .i64 0], 14, true⟩,
 ⟨.slice 128, 1, 24, [.nils], 0, false⟩,
 ⟨.func, 1, 8, [.nilf], 0, false⟩,
 ⟨.func, 1, 8, [.nilf], 0, false⟩,
 ⟨.other, 1, 0, [], 0, false⟩,
 ⟨.func, 1, 8, [.nilf], 0, false⟩,
 ⟨.other, 1, 0, [], 0, false⟩,
 ⟨.func, 1, 8, [.nilf], 0, false⟩,
 ⟨.int .u64, 1, 8, [.int .u64 0], 0, false⟩,
 ⟨.struct [(24, 0), (3, 1), (89, 2), (3, 3), (4, 4), (3, 5), (24, 6)], 7, 104, [.nils, .int .i64 0, .nils, .int .i64 0, .bool false, .int .i64 0, .nils], 0, false⟩,
 ⟨.struct [(24, 0), (3, 1), (89, 2), (3, 3), (4, 4), (3, 5), (24, 6)], 7, 104, [.nils, .int .i64 0, .nils, .int .i64 0, .bool false, .int .i64 0, .nils], 0, false⟩,
 ⟨.other, 1, 0, [], 0, false⟩,
 ⟨.func, 1, 8, [.nilf], 0, false⟩,
 ⟨.func, 1, 8, [.nilf], 0, false⟩,
 ⟨.func, 1, 8, [.nilf], 0, false⟩,
 ⟨.func, 1, 8, [.nilf], 0, false⟩,
 ⟨.func, 1, 8, [.nilf], 0, false⟩,
 ⟨.func, 1, 8, [.nilf], 0, false⟩,
 ⟨.other, 1, 0, [], 0, false⟩,
 ⟨.func, 1, 8, [.nilf], 0, false⟩,
 ⟨.func, 1, 8, [.nilf], 0, false⟩,
 ⟨.other, 1, 0, [], 0, false⟩,
 ⟨.func, 1, 8, [.nilf], 0, false⟩,
 ⟨.func, 1, 8, [.nilf], 0, false⟩,
 ⟨.other, 1, 0, [], 0, false⟩,
 ⟨.func, 1, 8, [.nilf], 0, false⟩,
 ⟨.func, 1, 8, [.nilf], 0, false⟩,
 ⟨.func, 1, 8, [.nilf], 0, false⟩,
 ⟨.func, 1, 8, [.nilf], 0, false⟩,
 ⟨.func, 1, 8, [.nilf], 0, false⟩,
 ⟨.other, 1, 0, [], 0, false⟩,
 ⟨.func, 1, 8, [.nilf], 0, false⟩,
 ⟨.func, 1, 8, [.nilf], 0, false⟩,
 ⟨.func, 1, 8, [.nilf], 0, false⟩,
 ⟨.other, 1, 0, [], 0, false⟩,
 ⟨.func, 1, 8, [.nilf], 0, false⟩,
 ⟨.func, 1, 8, [.nilf], 0, false⟩,
 ⟨.func, 1, 8, [.nilf], 0, false⟩,
 ⟨.func, 1, 8, [.nilf], 0, false⟩,
 ⟨.ptr 91, 1, 8, [.nilp], 0, false⟩,
 ⟨.func, 1, 8, [.nilf], 0, false⟩,
 ⟨.func, 1, 8, [.nilf], 0, false⟩,
 ⟨.struct [(17, 0), (17, 1), (17, 2), (9, 3)], 4, 40, [.nilp, .nilp, .nilp, .str .empty], 0, false⟩,
 ⟨.struct [(17, 0), (17, 1), (17, 2), (9, 3)], 4, 40, [.nilp, .nilp, .nilp, .str .empty], 0, false⟩,
 ⟨.arr 0 16, 0, 0, [], 0, false⟩,
 ⟨.struct [(172, 0)], 0, 0, [], 0, false⟩,
 ⟨.struct [(172, 0)], 0, 0, [], 0, false⟩,
 ⟨.int .u8, 1, 1, [.int .u8 0], 0, false⟩,
 ⟨.int .u8, 1, 1, [.int .u8 0], 0, false⟩,
 ⟨.func, 1, 8, [.nilf], 0, false⟩,
 ⟨.ptr 5, 1, 8, [.nilp], 0, false⟩,
 ⟨.int .i32, 1, 4, [.int .i32 0], 0, false⟩,
 ⟨.int .i32, 1, 4, [.int .i32 0], 0, false⟩,
 ⟨.struct [(12, 0), (12, 1), (53, 2), (175, 3), (5, 4), (5, 5), (176, 6), (177, 7), (178, 8), (179, 9), (180, 10)], 11, 48, [.int .u64 0, .int .u64 0, .int .u32 0, .int .u8 0, .int .u8 0, .int .u8 0, .int .u8 0, .nilf, .nilp, .int .i32 0, .int .i32 0], 0, false⟩,
 ⟨.struct [(12, 0), (12, 1), (53, 2), (175, 3), (5, 4), (5, 5), (176, 6), (177, 7), (178, 8), (179, 9), (180, 10)], 11, 48, [.int .u64 0, .int .u64 0, .int .u32 0, .int .u8 0, .int .u8 0, .int .u8 0, .int .u8 0, .nilf, .nilp, .int .i32 0, .int .i32 0], 0, false⟩,
 ⟨.func, 1, 8, [.nilf], 0, false⟩,
 ⟨.func, 1, 8, [.nilf], 0, false⟩,
 ⟨.other, 1, 8, [.nilp], 0, false⟩
]
end Go.Proofs.Ytkoidgjgdhpdnaa.Va
/- The seat's environment for the evaluator. -/
namespace Go.Proofs.Ytkoidgjgdhpdnaa.Va
open Go

def E0 : Env U := { cc := cc, tt := tt, bt := 2, toB := fun l => l, ofB := fun l => l, Γ := [], Λ := [], C := [], D := fun _ => (⟨[], []⟩, ⟨[], []⟩), ro := [] }
theorem P_mixed : Try.prog.follows .mixedOrders = true := by kernel_rfl

theorem ty_all : ((List.range tt.length).all fun t => tyB Try.prog E0 t) = true := by kernel_rfl
theorem tag_all : (tt.all fun i => i.tag == 0 || decide (0 < (cc i.tag).sz)) = true := by kernel_rfl

theorem E0_ok : EnvOK Try.prog E0 where
 ty t := by
  by_cases h : t < tt.length
  ·exact List.all_eq_true.1 ty_all t (List.mem_range.2 h)
  ·have e : E0.ti t = TI.none := by
    show tt.getD t TI.none = TI.none
    rw [List.getD_eq_getElem?_getD, List.getElem?_eq_none (Nat.le_of_not_lt (by assumption))]
    rfl
   unfold tyB
   rw [e]
   rfl
 cod := cc_ok
 tag0 t := by
  intro h
  by_cases ht : t < tt.length
  ·have e : E0.ti t = tt[t] := by
    show tt.getD t TI.none = tt[t]
    rw [List.getD_eq_getElem?_getD, List.getElem?_eq_getElem ht]
    rfl
   have := List.all_eq_true.1 tag_all tt[t] (List.getElem_mem ht)
   rw [e] at h ⊢
   rw [Bool.or_eq_true, beq_iff_eq, decide_eq_true_eq] at this
   exact this.resolve_left h
  ·have e : E0.ti t = TI.none := by
    show tt.getD t TI.none = TI.none
    rw [List.getD_eq_getElem?_getD, List.getElem?_eq_none (Nat.le_of_not_lt (by assumption))]
    rfl
   rw [e] at h
   exact absurd rfl h
 btsz := rfl
 toB l := ⟨rfl, fun i n h => ⟨n, h, rfl⟩⟩
 ofB l := ⟨rfl, fun i x h => ⟨x, h, rfl⟩⟩

end Go.Proofs.Ytkoidgjgdhpdnaa.Va


