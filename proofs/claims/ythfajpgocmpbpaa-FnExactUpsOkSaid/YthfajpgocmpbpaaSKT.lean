import Derived.Test.YthfajpgocmpbpaaVsZF
import Derived.Test.YthfajpgocmpbpaaProg
open Go Go.Proofs Go.Proofs.Ythfajpgocmpbpaa.Vs
namespace Go.Proofs.Ythfajpgocmpbpaa.Vs
set_option linter.unusedVariables false
set_option linter.unusedSimpArgs false
set_option linter.unusedSectionVars false
set_option linter.unnecessarySimpa false
set_option linter.all false
theorem mix : Try.prog.follows .mixedOrders = true := by kernel_rfl
theorem t2 : ti Try.prog 2 = some { agg := false, size := 1, bytes := 8, zero := [AV.g (Value.int IntKind.i64 0)], kind := TK.int IntKind.i64 } := by kernel_rfl
theorem t3 : ti Try.prog 3 = some { agg := false, size := 1, bytes := 8, zero := [AV.g (Value.int IntKind.i64 0)], kind := TK.int IntKind.i64 } := by kernel_rfl
theorem t4 : ti Try.prog 4 = some { agg := false, size := 1, bytes := 1, zero := [AV.g (Value.bool false)], kind := TK.bool } := by kernel_rfl
theorem t5 : ti Try.prog 5 = some { agg := false, size := 1, bytes := 1, zero := [AV.g (Value.int IntKind.u8 0)], kind := TK.int IntKind.u8 } := by kernel_rfl
theorem t6 : ti Try.prog 6 = some { agg := false, size := 1, bytes := 1, zero := [AV.g (Value.int IntKind.u8 0)], kind := TK.int IntKind.u8 } := by kernel_rfl
theorem t7 : ti Try.prog 7 = some { agg := true, size := 4, bytes := 24, zero := [AV.g (Value.int IntKind.i64 0), AV.g (Value.int IntKind.i64 0), AV.g (Value.bool false), AV.g (Value.int IntKind.u8 0)], kind := TK.struct [(0, 2), (1, 3), (2, 4), (3, 6)] } := by kernel_rfl
theorem t8 : ti Try.prog 8 = some { agg := true, size := 4, bytes := 24, zero := [AV.g (Value.int IntKind.i64 0), AV.g (Value.int IntKind.i64 0), AV.g (Value.bool false), AV.g (Value.int IntKind.u8 0)], kind := TK.struct [(0, 2), (1, 3), (2, 4), (3, 6)] } := by kernel_rfl
theorem t9 : ti Try.prog 9 = some { agg := false, size := 1, bytes := 16, zero := [AV.s []], kind := TK.str } := by kernel_rfl
theorem t10 : ti Try.prog 10 = some { agg := false, size := 1, bytes := 16, zero := [AV.s []], kind := TK.str } := by kernel_rfl
theorem t11 : ti Try.prog 11 = some { agg := false, size := 1, bytes := 16, zero := [AV.s []], kind := TK.str } := by kernel_rfl
theorem t12 : ti Try.prog 12 = some { agg := false, size := 1, bytes := 8, zero := [AV.g (Value.int IntKind.u64 0)], kind := TK.int IntKind.u64 } := by kernel_rfl
theorem t13 : ti Try.prog 13 = some { agg := true, size := 2, bytes := 24, zero := [AV.s [], AV.g (Value.int IntKind.u64 0)], kind := TK.struct [(0, 9), (1, 12)] } := by kernel_rfl
theorem t14 : ti Try.prog 14 = some { agg := true, size := 2, bytes := 24, zero := [AV.s [], AV.g (Value.int IntKind.u64 0)], kind := TK.struct [(0, 9), (1, 12)] } := by kernel_rfl
theorem t15 : ti Try.prog 15 = some { agg := false, size := 1, bytes := 8, zero := [AV.g (Value.pointer none)], kind := TK.ptr 89 } := by kernel_rfl
theorem t16 : ti Try.prog 16 = some { agg := false, size := 1, bytes := 8, zero := [AV.g (Value.pointer none)], kind := TK.ptr 92 } := by kernel_rfl
theorem t17 : ti Try.prog 17 = some { agg := false, size := 1, bytes := 8, zero := [AV.g (Value.pointer none)], kind := TK.ptr 102 } := by kernel_rfl
theorem t18 : ti Try.prog 18 = some { agg := true, size := 1, bytes := 8, zero := [AV.g (Value.pointer none)], kind := TK.struct [(0, 17)] } := by kernel_rfl
theorem t19 : ti Try.prog 19 = some { agg := true, size := 1, bytes := 8, zero := [AV.g (Value.pointer none)], kind := TK.struct [(0, 17)] } := by kernel_rfl
theorem t21 : ti Try.prog 21 = some { agg := false, size := 1, bytes := 4, zero := [AV.g (Value.int IntKind.i32 0)], kind := TK.int IntKind.i32 } := by kernel_rfl
theorem t22 : ti Try.prog 22 = some { agg := false, size := 1, bytes := 24, zero := [AV.g (Value.slice none 0 0)], kind := TK.slice 9 } := by kernel_rfl
theorem t28 : ti Try.prog 28 = some { agg := false, size := 1, bytes := 24, zero := [AV.g (Value.slice none 0 0)], kind := TK.slice 3 } := by kernel_rfl
theorem t29 : ti Try.prog 29 = some { agg := true, size := 3, bytes := 24, zero := [AV.g (Value.int IntKind.i64 0), AV.g (Value.int IntKind.i64 0), AV.g (Value.int IntKind.i64 0)], kind := TK.struct [(0, 3), (1, 3), (2, 3)] } := by kernel_rfl
theorem t30 : ti Try.prog 30 = some { agg := true, size := 3, bytes := 24, zero := [AV.g (Value.int IntKind.i64 0), AV.g (Value.int IntKind.i64 0), AV.g (Value.int IntKind.i64 0)], kind := TK.struct [(0, 3), (1, 3), (2, 3)] } := by kernel_rfl
theorem t33 : ti Try.prog 33 = some { agg := true, size := 3, bytes := 24, zero := [AV.g (Value.int IntKind.i64 0), AV.g (Value.int IntKind.i64 0), AV.g (Value.int IntKind.i64 0)], kind := TK.struct [(0, 3), (1, 3), (2, 3)] } := by kernel_rfl
theorem t39 : ti Try.prog 39 = some { agg := false, size := 1, bytes := 24, zero := [AV.g (Value.slice none 0 0)], kind := TK.slice 4 } := by kernel_rfl
theorem t45 : ti Try.prog 45 = some { agg := false, size := 1, bytes := 24, zero := [AV.g (Value.slice none 0 0)], kind := TK.slice 77 } := by kernel_rfl
theorem t46 : ti Try.prog 46 = some { agg := true, size := 2, bytes := 32, zero := [AV.g (Value.int IntKind.i64 0), AV.g (Value.slice none 0 0)], kind := TK.struct [(0, 3), (1, 45)] } := by kernel_rfl
theorem t47 : ti Try.prog 47 = some { agg := true, size := 2, bytes := 32, zero := [AV.g (Value.int IntKind.i64 0), AV.g (Value.slice none 0 0)], kind := TK.struct [(0, 3), (1, 45)] } := by kernel_rfl
theorem t50 : ti Try.prog 50 = some { agg := false, size := 1, bytes := 24, zero := [AV.g (Value.slice none 0 0)], kind := TK.slice 67 } := by kernel_rfl
theorem t51 : ti Try.prog 51 = some { agg := true, size := 2, bytes := 32, zero := [AV.g (Value.int IntKind.i64 0), AV.g (Value.slice none 0 0)], kind := TK.struct [(0, 3), (1, 50)] } := by kernel_rfl
theorem t52 : ti Try.prog 52 = some { agg := true, size := 2, bytes := 32, zero := [AV.g (Value.int IntKind.i64 0), AV.g (Value.slice none 0 0)], kind := TK.struct [(0, 3), (1, 50)] } := by kernel_rfl
theorem t56 : ti Try.prog 56 = some { agg := false, size := 1, bytes := 24, zero := [AV.g (Value.slice none 0 0)], kind := TK.slice 5 } := by kernel_rfl
theorem t66 : ti Try.prog 66 = some { agg := true, size := 3, bytes := 48, zero := [AV.s [], AV.g (Value.slice none 0 0), AV.g (Value.int IntKind.i64 0)], kind := TK.struct [(0, 9), (1, 28), (2, 3)] } := by kernel_rfl
theorem t67 : ti Try.prog 67 = some { agg := true, size := 3, bytes := 48, zero := [AV.s [], AV.g (Value.slice none 0 0), AV.g (Value.int IntKind.i64 0)], kind := TK.struct [(0, 9), (1, 28), (2, 3)] } := by kernel_rfl
theorem t71 : ti Try.prog 71 = some { agg := false, size := 1, bytes := 8, zero := [AV.g (Value.pointer none)], kind := TK.ptr 81 } := by kernel_rfl
theorem t77 : ti Try.prog 77 = some { agg := true, size := 3, bytes := 48, zero := [AV.s [], AV.g (Value.slice none 0 0), AV.g (Value.int IntKind.i64 0)], kind := TK.struct [(0, 9), (1, 28), (2, 3)] } := by kernel_rfl
theorem t80 : ti Try.prog 80 = some { agg := true, size := 3, bytes := 40, zero := [AV.g (Value.slice none 0 0), AV.g (Value.int IntKind.i64 0), AV.g (Value.int IntKind.i64 0)], kind := TK.struct [(0, 56), (1, 3), (2, 3)] } := by kernel_rfl
theorem t81 : ti Try.prog 81 = some { agg := true, size := 3, bytes := 40, zero := [AV.g (Value.slice none 0 0), AV.g (Value.int IntKind.i64 0), AV.g (Value.int IntKind.i64 0)], kind := TK.struct [(0, 56), (1, 3), (2, 3)] } := by kernel_rfl
theorem t86 : ti Try.prog 86 = some { agg := false, size := 1, bytes := 8, zero := [AV.g (Value.int IntKind.u64 0)], kind := TK.int IntKind.u64 } := by kernel_rfl
theorem t88 : ti Try.prog 88 = some { agg := true, size := 4, bytes := 40, zero := [AV.g (Value.pointer none), AV.g (Value.pointer none), AV.g (Value.pointer none), AV.s []], kind := TK.struct [(0, 17), (1, 17), (2, 17), (3, 9)] } := by kernel_rfl
theorem t89 : ti Try.prog 89 = some { agg := true, size := 4, bytes := 40, zero := [AV.g (Value.pointer none), AV.g (Value.pointer none), AV.g (Value.pointer none), AV.s []], kind := TK.struct [(0, 17), (1, 17), (2, 17), (3, 9)] } := by kernel_rfl
theorem t90 : ti Try.prog 90 = some { agg := true, size := 0, bytes := 0, zero := [], kind := TK.array 0 16 } := by kernel_rfl
theorem t91 : ti Try.prog 91 = some { agg := true, size := 0, bytes := 0, zero := [], kind := TK.struct [(0, 90)] } := by kernel_rfl
theorem t92 : ti Try.prog 92 = some { agg := true, size := 0, bytes := 0, zero := [], kind := TK.struct [(0, 90)] } := by kernel_rfl
theorem t94 : ti Try.prog 94 = some { agg := false, size := 1, bytes := 4, zero := [AV.g (Value.int IntKind.u32 0)], kind := TK.int IntKind.u32 } := by kernel_rfl
theorem t95 : ti Try.prog 95 = some { agg := false, size := 1, bytes := 1, zero := [AV.g (Value.int IntKind.u8 0)], kind := TK.int IntKind.u8 } := by kernel_rfl
theorem t96 : ti Try.prog 96 = some { agg := false, size := 1, bytes := 1, zero := [AV.g (Value.int IntKind.u8 0)], kind := TK.int IntKind.u8 } := by kernel_rfl
theorem t98 : ti Try.prog 98 = some { agg := false, size := 1, bytes := 8, zero := [AV.g (Value.pointer none)], kind := TK.ptr 5 } := by kernel_rfl
theorem t99 : ti Try.prog 99 = some { agg := false, size := 1, bytes := 4, zero := [AV.g (Value.int IntKind.i32 0)], kind := TK.int IntKind.i32 } := by kernel_rfl
theorem t100 : ti Try.prog 100 = some { agg := false, size := 1, bytes := 4, zero := [AV.g (Value.int IntKind.i32 0)], kind := TK.int IntKind.i32 } := by kernel_rfl
theorem t101 : ti Try.prog 101 = some { agg := true, size := 11, bytes := 48, zero := [AV.g (Value.int IntKind.u64 0), AV.g (Value.int IntKind.u64 0), AV.g (Value.int IntKind.u32 0), AV.g (Value.int IntKind.u8 0), AV.g (Value.int IntKind.u8 0), AV.g (Value.int IntKind.u8 0), AV.g (Value.int IntKind.u8 0), AV.g Value.nilFunc, AV.g (Value.pointer none), AV.g (Value.int IntKind.i32 0), AV.g (Value.int IntKind.i32 0)], kind := TK.struct [(0, 12), (1, 12), (2, 94), (3, 95), (4, 5), (5, 5), (6, 96), (7, 97), (8, 98), (9, 99), (10, 100)] } := by kernel_rfl
theorem t102 : ti Try.prog 102 = some { agg := true, size := 11, bytes := 48, zero := [AV.g (Value.int IntKind.u64 0), AV.g (Value.int IntKind.u64 0), AV.g (Value.int IntKind.u32 0), AV.g (Value.int IntKind.u8 0), AV.g (Value.int IntKind.u8 0), AV.g (Value.int IntKind.u8 0), AV.g (Value.int IntKind.u8 0), AV.g Value.nilFunc, AV.g (Value.pointer none), AV.g (Value.int IntKind.i32 0), AV.g (Value.int IntKind.i32 0)], kind := TK.struct [(0, 12), (1, 12), (2, 94), (3, 95), (4, 5), (5, 5), (6, 96), (7, 97), (8, 98), (9, 99), (10, 100)] } := by kernel_rfl
theorem u_bool : Try.prog.underlying 4 = some .bool := by kernel_rfl
end Go.Proofs.Ythfajpgocmpbpaa.Vs
