import Derived.Test.YtddkloigpihejaaVsZF
import Derived.Test.YtddkloigpihejaaProg
open Go Go.Proofs Go.Proofs.Ytddkloigpihejaa.Vs
namespace Go.Proofs.Ytddkloigpihejaa.Vs
set_option linter.unusedVariables false
set_option linter.unusedSimpArgs false
set_option linter.unusedSectionVars false
set_option linter.unnecessarySimpa false
set_option linter.all false
theorem mix : Try.prog.follows .mixedOrders = true := by kernel_rfl
theorem t2 : ti Try.prog 2 = some { agg := false, size := 1, bytes := 8, zero := [AV.g (Value.int IntKind.i64 0)], kind := TK.int IntKind.i64 } := by kernel_rfl
theorem t3 : ti Try.prog 3 = some { agg := false, size := 1, bytes := 8, zero := [AV.g (Value.int IntKind.i64 0)], kind := TK.int IntKind.i64 } := by kernel_rfl
theorem t4 : ti Try.prog 4 = some { agg := false, size := 1, bytes := 1, zero := [AV.g (Value.bool false)], kind := TK.bool } := by kernel_rfl
theorem t5 : ti Try.prog 5 = some { agg := false, size := 1, bytes := 1, zero := [AV.g (Value.int IntKind.u8 0)], kind := TK.int IntKind.u8 } := by kernel_rfl
theorem t6 : ti Try.prog 6 = some { agg := false, size := 1, bytes := 1, zero := [AV.g (Value.int IntKind.u8 0)], kind := TK.int IntKind.u8 } := by kernel_rfl
theorem t7 : ti Try.prog 7 = some { agg := true, size := 4, bytes := 24, zero := [AV.g (Value.int IntKind.i64 0), AV.g (Value.int IntKind.i64 0), AV.g (Value.bool false), AV.g (Value.int IntKind.u8 0)], kind := TK.struct [(0, 2), (1, 3), (2, 4), (3, 6)] } := by kernel_rfl
theorem t8 : ti Try.prog 8 = some { agg := true, size := 4, bytes := 24, zero := [AV.g (Value.int IntKind.i64 0), AV.g (Value.int IntKind.i64 0), AV.g (Value.bool false), AV.g (Value.int IntKind.u8 0)], kind := TK.struct [(0, 2), (1, 3), (2, 4), (3, 6)] } := by kernel_rfl
theorem t9 : ti Try.prog 9 = some { agg := false, size := 1, bytes := 16, zero := [AV.s []], kind := TK.str } := by kernel_rfl
theorem t10 : ti Try.prog 10 = some { agg := false, size := 1, bytes := 16, zero := [AV.s []], kind := TK.str } := by kernel_rfl
theorem t11 : ti Try.prog 11 = some { agg := false, size := 1, bytes := 16, zero := [AV.s []], kind := TK.str } := by kernel_rfl
theorem t12 : ti Try.prog 12 = some { agg := false, size := 1, bytes := 8, zero := [AV.g (Value.int IntKind.u64 0)], kind := TK.int IntKind.u64 } := by kernel_rfl
theorem t13 : ti Try.prog 13 = some { agg := true, size := 2, bytes := 24, zero := [AV.s [], AV.g (Value.int IntKind.u64 0)], kind := TK.struct [(0, 9), (1, 12)] } := by kernel_rfl
theorem t14 : ti Try.prog 14 = some { agg := true, size := 2, bytes := 24, zero := [AV.s [], AV.g (Value.int IntKind.u64 0)], kind := TK.struct [(0, 9), (1, 12)] } := by kernel_rfl
theorem t15 : ti Try.prog 15 = some { agg := false, size := 1, bytes := 8, zero := [AV.g (Value.pointer none)], kind := TK.ptr 57 } := by kernel_rfl
theorem t16 : ti Try.prog 16 = some { agg := false, size := 1, bytes := 8, zero := [AV.g (Value.pointer none)], kind := TK.ptr 60 } := by kernel_rfl
theorem t17 : ti Try.prog 17 = some { agg := false, size := 1, bytes := 8, zero := [AV.g (Value.pointer none)], kind := TK.ptr 70 } := by kernel_rfl
theorem t18 : ti Try.prog 18 = some { agg := true, size := 1, bytes := 8, zero := [AV.g (Value.pointer none)], kind := TK.struct [(0, 17)] } := by kernel_rfl
theorem t19 : ti Try.prog 19 = some { agg := true, size := 1, bytes := 8, zero := [AV.g (Value.pointer none)], kind := TK.struct [(0, 17)] } := by kernel_rfl
theorem t21 : ti Try.prog 21 = some { agg := false, size := 1, bytes := 4, zero := [AV.g (Value.int IntKind.i32 0)], kind := TK.int IntKind.i32 } := by kernel_rfl
theorem t22 : ti Try.prog 22 = some { agg := true, size := 4, bytes := 32, zero := [AV.g (Value.int IntKind.i64 0), AV.g (Value.int IntKind.i64 0), AV.g (Value.int IntKind.i64 0), AV.g (Value.int IntKind.i64 0)], kind := TK.struct [(0, 3), (1, 3), (2, 3), (3, 3)] } := by kernel_rfl
theorem t23 : ti Try.prog 23 = some { agg := true, size := 4, bytes := 32, zero := [AV.g (Value.int IntKind.i64 0), AV.g (Value.int IntKind.i64 0), AV.g (Value.int IntKind.i64 0), AV.g (Value.int IntKind.i64 0)], kind := TK.struct [(0, 3), (1, 3), (2, 3), (3, 3)] } := by kernel_rfl
theorem t25 : ti Try.prog 25 = some { agg := true, size := 4, bytes := 32, zero := [AV.g (Value.int IntKind.i64 0), AV.g (Value.int IntKind.i64 0), AV.g (Value.int IntKind.i64 0), AV.g (Value.int IntKind.i64 0)], kind := TK.struct [(0, 3), (1, 3), (2, 3), (3, 3)] } := by kernel_rfl
theorem t36 : ti Try.prog 36 = some { agg := false, size := 1, bytes := 24, zero := [AV.g (Value.slice none 0 0)], kind := TK.slice 5 } := by kernel_rfl
theorem t46 : ti Try.prog 46 = some { agg := false, size := 1, bytes := 8, zero := [AV.g (Value.pointer none)], kind := TK.ptr 51 } := by kernel_rfl
theorem t50 : ti Try.prog 50 = some { agg := true, size := 3, bytes := 40, zero := [AV.g (Value.slice none 0 0), AV.g (Value.int IntKind.i64 0), AV.g (Value.int IntKind.i64 0)], kind := TK.struct [(0, 36), (1, 3), (2, 3)] } := by kernel_rfl
theorem t51 : ti Try.prog 51 = some { agg := true, size := 3, bytes := 40, zero := [AV.g (Value.slice none 0 0), AV.g (Value.int IntKind.i64 0), AV.g (Value.int IntKind.i64 0)], kind := TK.struct [(0, 36), (1, 3), (2, 3)] } := by kernel_rfl
theorem t53 : ti Try.prog 53 = some { agg := false, size := 1, bytes := 24, zero := [AV.g (Value.slice none 0 0)], kind := TK.slice 3 } := by kernel_rfl
theorem t54 : ti Try.prog 54 = some { agg := false, size := 1, bytes := 8, zero := [AV.g (Value.int IntKind.u64 0)], kind := TK.int IntKind.u64 } := by kernel_rfl
theorem t56 : ti Try.prog 56 = some { agg := true, size := 4, bytes := 40, zero := [AV.g (Value.pointer none), AV.g (Value.pointer none), AV.g (Value.pointer none), AV.s []], kind := TK.struct [(0, 17), (1, 17), (2, 17), (3, 9)] } := by kernel_rfl
theorem t57 : ti Try.prog 57 = some { agg := true, size := 4, bytes := 40, zero := [AV.g (Value.pointer none), AV.g (Value.pointer none), AV.g (Value.pointer none), AV.s []], kind := TK.struct [(0, 17), (1, 17), (2, 17), (3, 9)] } := by kernel_rfl
theorem t58 : ti Try.prog 58 = some { agg := true, size := 0, bytes := 0, zero := [], kind := TK.array 0 16 } := by kernel_rfl
theorem t59 : ti Try.prog 59 = some { agg := true, size := 0, bytes := 0, zero := [], kind := TK.struct [(0, 58)] } := by kernel_rfl
theorem t60 : ti Try.prog 60 = some { agg := true, size := 0, bytes := 0, zero := [], kind := TK.struct [(0, 58)] } := by kernel_rfl
theorem t62 : ti Try.prog 62 = some { agg := false, size := 1, bytes := 4, zero := [AV.g (Value.int IntKind.u32 0)], kind := TK.int IntKind.u32 } := by kernel_rfl
theorem t63 : ti Try.prog 63 = some { agg := false, size := 1, bytes := 1, zero := [AV.g (Value.int IntKind.u8 0)], kind := TK.int IntKind.u8 } := by kernel_rfl
theorem t64 : ti Try.prog 64 = some { agg := false, size := 1, bytes := 1, zero := [AV.g (Value.int IntKind.u8 0)], kind := TK.int IntKind.u8 } := by kernel_rfl
theorem t66 : ti Try.prog 66 = some { agg := false, size := 1, bytes := 8, zero := [AV.g (Value.pointer none)], kind := TK.ptr 5 } := by kernel_rfl
theorem t67 : ti Try.prog 67 = some { agg := false, size := 1, bytes := 4, zero := [AV.g (Value.int IntKind.i32 0)], kind := TK.int IntKind.i32 } := by kernel_rfl
theorem t68 : ti Try.prog 68 = some { agg := false, size := 1, bytes := 4, zero := [AV.g (Value.int IntKind.i32 0)], kind := TK.int IntKind.i32 } := by kernel_rfl
theorem t69 : ti Try.prog 69 = some { agg := true, size := 11, bytes := 48, zero := [AV.g (Value.int IntKind.u64 0), AV.g (Value.int IntKind.u64 0), AV.g (Value.int IntKind.u32 0), AV.g (Value.int IntKind.u8 0), AV.g (Value.int IntKind.u8 0), AV.g (Value.int IntKind.u8 0), AV.g (Value.int IntKind.u8 0), AV.g Value.nilFunc, AV.g (Value.pointer none), AV.g (Value.int IntKind.i32 0), AV.g (Value.int IntKind.i32 0)], kind := TK.struct [(0, 12), (1, 12), (2, 62), (3, 63), (4, 5), (5, 5), (6, 64), (7, 65), (8, 66), (9, 67), (10, 68)] } := by kernel_rfl
theorem t70 : ti Try.prog 70 = some { agg := true, size := 11, bytes := 48, zero := [AV.g (Value.int IntKind.u64 0), AV.g (Value.int IntKind.u64 0), AV.g (Value.int IntKind.u32 0), AV.g (Value.int IntKind.u8 0), AV.g (Value.int IntKind.u8 0), AV.g (Value.int IntKind.u8 0), AV.g (Value.int IntKind.u8 0), AV.g Value.nilFunc, AV.g (Value.pointer none), AV.g (Value.int IntKind.i32 0), AV.g (Value.int IntKind.i32 0)], kind := TK.struct [(0, 12), (1, 12), (2, 62), (3, 63), (4, 5), (5, 5), (6, 64), (7, 65), (8, 66), (9, 67), (10, 68)] } := by kernel_rfl
theorem u_bool : Try.prog.underlying 4 = some .bool := by kernel_rfl
end Go.Proofs.Ytddkloigpihejaa.Vs
