import Derived.Test.YtcedomdpbgjbpaaVs8
import Derived.Test.YtcedomdpbgjbpaaProg
open Go Go.Proofs Go.Proofs.Ytcedomdpbgjbpaa.Vs
namespace Go.Proofs.Ytcedomdpbgjbpaa.Vs
set_option linter.unusedVariables false
set_option linter.unusedSimpArgs false
set_option linter.unusedSectionVars false
set_option linter.unnecessarySimpa false
set_option linter.all false
theorem mix : Try.prog.follows .mixedOrders = true := by kernel_rfl
theorem t2 : ti Try.prog 2 = some { agg := false, size := 1, bytes := 8, zero := [AV.g (Value.int IntKind.i64 0)], kind := TK.int IntKind.i64 } := by kernel_rfl
theorem t3 : ti Try.prog 3 = some { agg := false, size := 1, bytes := 8, zero := [AV.g (Value.int IntKind.i64 0)], kind := TK.int IntKind.i64 } := by kernel_rfl
theorem t4 : ti Try.prog 4 = some { agg := false, size := 1, bytes := 1, zero := [AV.g (Value.bool false)], kind := TK.bool } := by kernel_rfl
theorem t5 : ti Try.prog 5 = some { agg := false, size := 1, bytes := 1, zero := [AV.g (Value.int IntKind.u8 0)], kind := TK.int IntKind.u8 } := by kernel_rfl
theorem t6 : ti Try.prog 6 = some { agg := false, size := 1, bytes := 1, zero := [AV.g (Value.int IntKind.u8 0)], kind := TK.int IntKind.u8 } := by kernel_rfl
theorem t7 : ti Try.prog 7 = some { agg := true, size := 4, bytes := 24, zero := [AV.g (Value.int IntKind.i64 0), AV.g (Value.int IntKind.i64 0), AV.g (Value.bool false), AV.g (Value.int IntKind.u8 0)], kind := TK.struct [(0, 2), (1, 3), (2, 4), (3, 6)] } := by kernel_rfl
theorem t8 : ti Try.prog 8 = some { agg := true, size := 4, bytes := 24, zero := [AV.g (Value.int IntKind.i64 0), AV.g (Value.int IntKind.i64 0), AV.g (Value.bool false), AV.g (Value.int IntKind.u8 0)], kind := TK.struct [(0, 2), (1, 3), (2, 4), (3, 6)] } := by kernel_rfl
theorem t9 : ti Try.prog 9 = some { agg := false, size := 1, bytes := 16, zero := [AV.s []], kind := TK.str } := by kernel_rfl
theorem t10 : ti Try.prog 10 = some { agg := false, size := 1, bytes := 16, zero := [AV.s []], kind := TK.str } := by kernel_rfl
theorem t11 : ti Try.prog 11 = some { agg := false, size := 1, bytes := 16, zero := [AV.s []], kind := TK.str } := by kernel_rfl
theorem t12 : ti Try.prog 12 = some { agg := false, size := 1, bytes := 8, zero := [AV.g (Value.int IntKind.u64 0)], kind := TK.int IntKind.u64 } := by kernel_rfl
theorem t13 : ti Try.prog 13 = some { agg := true, size := 2, bytes := 24, zero := [AV.s [], AV.g (Value.int IntKind.u64 0)], kind := TK.struct [(0, 9), (1, 12)] } := by kernel_rfl
theorem t14 : ti Try.prog 14 = some { agg := true, size := 2, bytes := 24, zero := [AV.s [], AV.g (Value.int IntKind.u64 0)], kind := TK.struct [(0, 9), (1, 12)] } := by kernel_rfl
theorem t15 : ti Try.prog 15 = some { agg := false, size := 1, bytes := 8, zero := [AV.g (Value.pointer none)], kind := TK.ptr 194 } := by kernel_rfl
theorem t16 : ti Try.prog 16 = some { agg := false, size := 1, bytes := 8, zero := [AV.g (Value.pointer none)], kind := TK.ptr 197 } := by kernel_rfl
theorem t17 : ti Try.prog 17 = some { agg := false, size := 1, bytes := 8, zero := [AV.g (Value.pointer none)], kind := TK.ptr 206 } := by kernel_rfl
theorem t18 : ti Try.prog 18 = some { agg := true, size := 1, bytes := 8, zero := [AV.g (Value.pointer none)], kind := TK.struct [(0, 17)] } := by kernel_rfl
theorem t19 : ti Try.prog 19 = some { agg := true, size := 1, bytes := 8, zero := [AV.g (Value.pointer none)], kind := TK.struct [(0, 17)] } := by kernel_rfl
theorem t21 : ti Try.prog 21 = some { agg := false, size := 1, bytes := 4, zero := [AV.g (Value.int IntKind.i32 0)], kind := TK.int IntKind.i32 } := by kernel_rfl
theorem t22 : ti Try.prog 22 = some { agg := false, size := 1, bytes := 24, zero := [AV.g (Value.slice none 0 0)], kind := TK.slice 106 } := by kernel_rfl
theorem t23 : ti Try.prog 23 = some { agg := true, size := 1, bytes := 24, zero := [AV.g (Value.slice none 0 0)], kind := TK.struct [(0, 22)] } := by kernel_rfl
theorem t24 : ti Try.prog 24 = some { agg := true, size := 1, bytes := 24, zero := [AV.g (Value.slice none 0 0)], kind := TK.struct [(0, 22)] } := by kernel_rfl
theorem t26 : ti Try.prog 26 = some { agg := false, size := 1, bytes := 24, zero := [AV.g (Value.slice none 0 0)], kind := TK.slice 9 } := by kernel_rfl
theorem t28 : ti Try.prog 28 = some { agg := false, size := 1, bytes := 24, zero := [AV.g (Value.slice none 0 0)], kind := TK.slice 66 } := by kernel_rfl
theorem t29 : ti Try.prog 29 = some { agg := true, size := 1, bytes := 24, zero := [AV.g (Value.slice none 0 0)], kind := TK.struct [(0, 28)] } := by kernel_rfl
theorem t30 : ti Try.prog 30 = some { agg := true, size := 1, bytes := 24, zero := [AV.g (Value.slice none 0 0)], kind := TK.struct [(0, 28)] } := by kernel_rfl
theorem t37 : ti Try.prog 37 = some { agg := false, size := 1, bytes := 24, zero := [AV.g (Value.slice none 0 0)], kind := TK.slice 119 } := by kernel_rfl
theorem t38 : ti Try.prog 38 = some { agg := true, size := 2, bytes := 32, zero := [AV.g (Value.int IntKind.i64 0), AV.g (Value.slice none 0 0)], kind := TK.struct [(0, 3), (1, 37)] } := by kernel_rfl
theorem t39 : ti Try.prog 39 = some { agg := true, size := 2, bytes := 32, zero := [AV.g (Value.int IntKind.i64 0), AV.g (Value.slice none 0 0)], kind := TK.struct [(0, 3), (1, 37)] } := by kernel_rfl
theorem t42 : ti Try.prog 42 = some { agg := false, size := 1, bytes := 24, zero := [AV.g (Value.slice none 0 0)], kind := TK.slice 81 } := by kernel_rfl
theorem t43 : ti Try.prog 43 = some { agg := true, size := 2, bytes := 32, zero := [AV.g (Value.int IntKind.i64 0), AV.g (Value.slice none 0 0)], kind := TK.struct [(0, 3), (1, 42)] } := by kernel_rfl
theorem t44 : ti Try.prog 44 = some { agg := true, size := 2, bytes := 32, zero := [AV.g (Value.int IntKind.i64 0), AV.g (Value.slice none 0 0)], kind := TK.struct [(0, 3), (1, 42)] } := by kernel_rfl
theorem t49 : ti Try.prog 49 = some { agg := false, size := 1, bytes := 24, zero := [AV.g (Value.slice none 0 0)], kind := TK.slice 92 } := by kernel_rfl
theorem t51 : ti Try.prog 51 = some { agg := false, size := 1, bytes := 24, zero := [AV.g (Value.slice none 0 0)], kind := TK.slice 94 } := by kernel_rfl
theorem t53 : ti Try.prog 53 = some { agg := false, size := 1, bytes := 24, zero := [AV.g (Value.slice none 0 0)], kind := TK.slice 97 } := by kernel_rfl
theorem t64 : ti Try.prog 64 = some { agg := false, size := 1, bytes := 24, zero := [AV.g (Value.slice none 0 0)], kind := TK.slice 68 } := by kernel_rfl
theorem t65 : ti Try.prog 65 = some { agg := true, size := 2, bytes := 40, zero := [AV.s [], AV.g (Value.slice none 0 0)], kind := TK.struct [(0, 9), (1, 64)] } := by kernel_rfl
theorem t66 : ti Try.prog 66 = some { agg := true, size := 2, bytes := 40, zero := [AV.s [], AV.g (Value.slice none 0 0)], kind := TK.struct [(0, 9), (1, 64)] } := by kernel_rfl
theorem t67 : ti Try.prog 67 = some { agg := true, size := 3, bytes := 56, zero := [AV.s [], AV.s [], AV.g (Value.slice none 0 0)], kind := TK.struct [(0, 9), (1, 9), (2, 26)] } := by kernel_rfl
theorem t68 : ti Try.prog 68 = some { agg := true, size := 3, bytes := 56, zero := [AV.s [], AV.s [], AV.g (Value.slice none 0 0)], kind := TK.struct [(0, 9), (1, 9), (2, 26)] } := by kernel_rfl
theorem t79 : ti Try.prog 79 = some { agg := false, size := 1, bytes := 24, zero := [AV.g (Value.slice none 0 0)], kind := TK.slice 3 } := by kernel_rfl
theorem t80 : ti Try.prog 80 = some { agg := true, size := 3, bytes := 48, zero := [AV.s [], AV.g (Value.slice none 0 0), AV.g (Value.int IntKind.i64 0)], kind := TK.struct [(0, 9), (1, 79), (2, 3)] } := by kernel_rfl
theorem t81 : ti Try.prog 81 = some { agg := true, size := 3, bytes := 48, zero := [AV.s [], AV.g (Value.slice none 0 0), AV.g (Value.int IntKind.i64 0)], kind := TK.struct [(0, 9), (1, 79), (2, 3)] } := by kernel_rfl
theorem t86 : ti Try.prog 86 = some { agg := true, size := 2, bytes := 16, zero := [AV.g (Value.int IntKind.i64 0), AV.g (Value.int IntKind.i64 0)], kind := TK.struct [(0, 3), (1, 3)] } := by kernel_rfl
theorem t87 : ti Try.prog 87 = some { agg := true, size := 2, bytes := 16, zero := [AV.g (Value.int IntKind.i64 0), AV.g (Value.int IntKind.i64 0)], kind := TK.struct [(0, 3), (1, 3)] } := by kernel_rfl
theorem t88 : ti Try.prog 88 = some { agg := true, size := 8, bytes := 104, zero := [AV.g (Value.int IntKind.i64 0), AV.g (Value.int IntKind.i64 0), AV.g (Value.int IntKind.i64 0), AV.s [], AV.s [], AV.s [], AV.g (Value.int IntKind.i64 0), AV.g (Value.slice none 0 0)], kind := TK.struct [(0, 3), (1, 3), (2, 3), (3, 9), (4, 9), (5, 9), (6, 3), (7, 26)] } := by kernel_rfl
theorem t89 : ti Try.prog 89 = some { agg := true, size := 8, bytes := 104, zero := [AV.g (Value.int IntKind.i64 0), AV.g (Value.int IntKind.i64 0), AV.g (Value.int IntKind.i64 0), AV.s [], AV.s [], AV.s [], AV.g (Value.int IntKind.i64 0), AV.g (Value.slice none 0 0)], kind := TK.struct [(0, 3), (1, 3), (2, 3), (3, 9), (4, 9), (5, 9), (6, 3), (7, 26)] } := by kernel_rfl
theorem t90 : ti Try.prog 90 = some { agg := false, size := 1, bytes := 24, zero := [AV.g (Value.slice none 0 0)], kind := TK.slice 87 } := by kernel_rfl
theorem t91 : ti Try.prog 91 = some { agg := true, size := 16, bytes := 184, zero := [AV.g (Value.int IntKind.i64 0), AV.g (Value.int IntKind.i64 0), AV.g (Value.int IntKind.i64 0), AV.g (Value.int IntKind.i64 0), AV.g (Value.int IntKind.i64 0), AV.g (Value.int IntKind.i64 0), AV.g (Value.int IntKind.i64 0), AV.g (Value.int IntKind.i64 0), AV.s [], AV.s [], AV.s [], AV.g (Value.int IntKind.i64 0), AV.g (Value.slice none 0 0), AV.g (Value.int IntKind.i64 0), AV.g (Value.slice none 0 0), AV.g (Value.bool false)], kind := TK.struct [(0, 87), (2, 3), (3, 3), (4, 3), (5, 89), (13, 3), (14, 90), (15, 4)] } := by kernel_rfl
theorem t92 : ti Try.prog 92 = some { agg := true, size := 16, bytes := 184, zero := [AV.g (Value.int IntKind.i64 0), AV.g (Value.int IntKind.i64 0), AV.g (Value.int IntKind.i64 0), AV.g (Value.int IntKind.i64 0), AV.g (Value.int IntKind.i64 0), AV.g (Value.int IntKind.i64 0), AV.g (Value.int IntKind.i64 0), AV.g (Value.int IntKind.i64 0), AV.s [], AV.s [], AV.s [], AV.g (Value.int IntKind.i64 0), AV.g (Value.slice none 0 0), AV.g (Value.int IntKind.i64 0), AV.g (Value.slice none 0 0), AV.g (Value.bool false)], kind := TK.struct [(0, 87), (2, 3), (3, 3), (4, 3), (5, 89), (13, 3), (14, 90), (15, 4)] } := by kernel_rfl
theorem t94 : ti Try.prog 94 = some { agg := true, size := 2, bytes := 16, zero := [AV.g (Value.int IntKind.i64 0), AV.g (Value.int IntKind.i64 0)], kind := TK.struct [(0, 3), (1, 3)] } := by kernel_rfl
theorem t95 : ti Try.prog 95 = some { agg := true, size := 8, bytes := 104, zero := [AV.g (Value.int IntKind.i64 0), AV.g (Value.int IntKind.i64 0), AV.g (Value.int IntKind.i64 0), AV.s [], AV.s [], AV.s [], AV.g (Value.int IntKind.i64 0), AV.g (Value.slice none 0 0)], kind := TK.struct [(0, 3), (1, 3), (2, 3), (3, 9), (4, 9), (5, 9), (6, 3), (7, 26)] } := by kernel_rfl
theorem t96 : ti Try.prog 96 = some { agg := true, size := 16, bytes := 184, zero := [AV.g (Value.int IntKind.i64 0), AV.g (Value.int IntKind.i64 0), AV.g (Value.int IntKind.i64 0), AV.g (Value.int IntKind.i64 0), AV.g (Value.int IntKind.i64 0), AV.g (Value.int IntKind.i64 0), AV.g (Value.int IntKind.i64 0), AV.g (Value.int IntKind.i64 0), AV.s [], AV.s [], AV.s [], AV.g (Value.int IntKind.i64 0), AV.g (Value.slice none 0 0), AV.g (Value.int IntKind.i64 0), AV.g (Value.slice none 0 0), AV.g (Value.bool false)], kind := TK.struct [(0, 94), (2, 3), (3, 3), (4, 3), (5, 95), (13, 3), (14, 51), (15, 4)] } := by kernel_rfl
theorem t97 : ti Try.prog 97 = some { agg := true, size := 16, bytes := 184, zero := [AV.g (Value.int IntKind.i64 0), AV.g (Value.int IntKind.i64 0), AV.g (Value.int IntKind.i64 0), AV.g (Value.int IntKind.i64 0), AV.g (Value.int IntKind.i64 0), AV.g (Value.int IntKind.i64 0), AV.g (Value.int IntKind.i64 0), AV.g (Value.int IntKind.i64 0), AV.s [], AV.s [], AV.s [], AV.g (Value.int IntKind.i64 0), AV.g (Value.slice none 0 0), AV.g (Value.int IntKind.i64 0), AV.g (Value.slice none 0 0), AV.g (Value.bool false)], kind := TK.struct [(0, 94), (2, 3), (3, 3), (4, 3), (5, 95), (13, 3), (14, 51), (15, 4)] } := by kernel_rfl
theorem t104 : ti Try.prog 104 = some { agg := false, size := 1, bytes := 24, zero := [AV.g (Value.slice none 0 0)], kind := TK.slice 165 } := by kernel_rfl
theorem t105 : ti Try.prog 105 = some { agg := true, size := 2, bytes := 40, zero := [AV.s [], AV.g (Value.slice none 0 0)], kind := TK.struct [(0, 9), (1, 104)] } := by kernel_rfl
theorem t106 : ti Try.prog 106 = some { agg := true, size := 2, bytes := 40, zero := [AV.s [], AV.g (Value.slice none 0 0)], kind := TK.struct [(0, 9), (1, 104)] } := by kernel_rfl
theorem t114 : ti Try.prog 114 = some { agg := false, size := 1, bytes := 8, zero := [AV.g (Value.int IntKind.u64 0)], kind := TK.int IntKind.u64 } := by kernel_rfl
theorem t117 : ti Try.prog 117 = some { agg := false, size := 1, bytes := 24, zero := [AV.g (Value.slice none 0 0)], kind := TK.slice 5 } := by kernel_rfl
theorem t119 : ti Try.prog 119 = some { agg := true, size := 3, bytes := 48, zero := [AV.s [], AV.g (Value.slice none 0 0), AV.g (Value.int IntKind.i64 0)], kind := TK.struct [(0, 9), (1, 79), (2, 3)] } := by kernel_rfl
theorem t142 : ti Try.prog 142 = some { agg := false, size := 1, bytes := 8, zero := [AV.g (Value.int IntKind.i64 0)], kind := TK.int IntKind.i64 } := by kernel_rfl
theorem t151 : ti Try.prog 151 = some { agg := false, size := 1, bytes := 4, zero := [AV.g (Value.int IntKind.u32 0)], kind := TK.int IntKind.u32 } := by kernel_rfl
theorem t153 : ti Try.prog 153 = some { agg := false, size := 1, bytes := 8, zero := [AV.g (Value.int IntKind.u64 0)], kind := TK.int IntKind.u64 } := by kernel_rfl
theorem t165 : ti Try.prog 165 = some { agg := true, size := 3, bytes := 56, zero := [AV.s [], AV.s [], AV.g (Value.slice none 0 0)], kind := TK.struct [(0, 9), (1, 9), (2, 26)] } := by kernel_rfl
theorem t168 : ti Try.prog 168 = some { agg := false, size := 1, bytes := 8, zero := [AV.g (Value.int IntKind.u64 0)], kind := TK.int IntKind.u64 } := by kernel_rfl
theorem t172 : ti Try.prog 172 = some { agg := false, size := 1, bytes := 8, zero := [AV.g (Value.pointer none)], kind := TK.ptr 3 } := by kernel_rfl
theorem t181 : ti Try.prog 181 = some { agg := false, size := 1, bytes := 8, zero := [AV.g (Value.pointer none)], kind := TK.ptr 168 } := by kernel_rfl
theorem t193 : ti Try.prog 193 = some { agg := true, size := 4, bytes := 40, zero := [AV.g (Value.pointer none), AV.g (Value.pointer none), AV.g (Value.pointer none), AV.s []], kind := TK.struct [(0, 17), (1, 17), (2, 17), (3, 9)] } := by kernel_rfl
theorem t194 : ti Try.prog 194 = some { agg := true, size := 4, bytes := 40, zero := [AV.g (Value.pointer none), AV.g (Value.pointer none), AV.g (Value.pointer none), AV.s []], kind := TK.struct [(0, 17), (1, 17), (2, 17), (3, 9)] } := by kernel_rfl
theorem t195 : ti Try.prog 195 = some { agg := true, size := 0, bytes := 0, zero := [], kind := TK.array 0 16 } := by kernel_rfl
theorem t196 : ti Try.prog 196 = some { agg := true, size := 0, bytes := 0, zero := [], kind := TK.struct [(0, 195)] } := by kernel_rfl
theorem t197 : ti Try.prog 197 = some { agg := true, size := 0, bytes := 0, zero := [], kind := TK.struct [(0, 195)] } := by kernel_rfl
theorem t199 : ti Try.prog 199 = some { agg := false, size := 1, bytes := 1, zero := [AV.g (Value.int IntKind.u8 0)], kind := TK.int IntKind.u8 } := by kernel_rfl
theorem t200 : ti Try.prog 200 = some { agg := false, size := 1, bytes := 1, zero := [AV.g (Value.int IntKind.u8 0)], kind := TK.int IntKind.u8 } := by kernel_rfl
theorem t202 : ti Try.prog 202 = some { agg := false, size := 1, bytes := 8, zero := [AV.g (Value.pointer none)], kind := TK.ptr 5 } := by kernel_rfl
theorem t203 : ti Try.prog 203 = some { agg := false, size := 1, bytes := 4, zero := [AV.g (Value.int IntKind.i32 0)], kind := TK.int IntKind.i32 } := by kernel_rfl
theorem t204 : ti Try.prog 204 = some { agg := false, size := 1, bytes := 4, zero := [AV.g (Value.int IntKind.i32 0)], kind := TK.int IntKind.i32 } := by kernel_rfl
theorem t205 : ti Try.prog 205 = some { agg := true, size := 11, bytes := 48, zero := [AV.g (Value.int IntKind.u64 0), AV.g (Value.int IntKind.u64 0), AV.g (Value.int IntKind.u32 0), AV.g (Value.int IntKind.u8 0), AV.g (Value.int IntKind.u8 0), AV.g (Value.int IntKind.u8 0), AV.g (Value.int IntKind.u8 0), AV.g Value.nilFunc, AV.g (Value.pointer none), AV.g (Value.int IntKind.i32 0), AV.g (Value.int IntKind.i32 0)], kind := TK.struct [(0, 12), (1, 12), (2, 151), (3, 199), (4, 5), (5, 5), (6, 200), (7, 201), (8, 202), (9, 203), (10, 204)] } := by kernel_rfl
theorem t206 : ti Try.prog 206 = some { agg := true, size := 11, bytes := 48, zero := [AV.g (Value.int IntKind.u64 0), AV.g (Value.int IntKind.u64 0), AV.g (Value.int IntKind.u32 0), AV.g (Value.int IntKind.u8 0), AV.g (Value.int IntKind.u8 0), AV.g (Value.int IntKind.u8 0), AV.g (Value.int IntKind.u8 0), AV.g Value.nilFunc, AV.g (Value.pointer none), AV.g (Value.int IntKind.i32 0), AV.g (Value.int IntKind.i32 0)], kind := TK.struct [(0, 12), (1, 12), (2, 151), (3, 199), (4, 5), (5, 5), (6, 200), (7, 201), (8, 202), (9, 203), (10, 204)] } := by kernel_rfl
theorem u_bool : Try.prog.underlying 4 = some .bool := by kernel_rfl
attribute [simp ↓] spl_tt spl_tf spl_ft spl_ff
attribute [simp] creg_nil creg_op creg_gd cO cR cG_bool cG_undef spl_ct spl_cf putC nmC aop ev cv updL upd_app upd_upd lkE_app lk_nil lk_cons aLen aBuiltin aBin aIntBin aFieldAddr placeOf aLoad cellsAt aUn aIndexAddr st0 valCells isOne Value.oneCell' aStore setCells List.getElem?_cons_zero List.getElem?_cons_succ Option.getD_some formOb_nn formOb_r1 aBuild parts fillA placesOf aField aIndex aSlice optIdx aStrBin aMakeSlice viewCells viewCell arrN frzU capOk aConv aNews aAppend aBuildSlice chunks endR_some am0_gg am0_ss am0_ll am1_gg am1_ss am1_ll am1_nl am1_al am2_gg am2_ss am2_ll am2_nl am2_al am2_ff am1s_nn am1s_cc am2s_nn am2s_cc amRs_one amRs_two' amRs_thr resAll_nil resAll_tmp resAll_cell KpE KpO KpR KpOR t2 t3 t4 t5 t6 t7 t8 t9 t10 t11 t12 t13 t14 t15 t16 t17 t18 t19 t21 t22 t23 t24 t26 t28 t29 t30 t37 t38 t39 t42 t43 t44 t49 t51 t53 t64 t65 t66 t67 t68 t79 t80 t81 t86 t87 t88 t89 t90 t91 t92 t94 t95 t96 t97 t104 t105 t106 t114 t117 t119 t142 t151 t153 t165 t168 t172 t181 t193 t194 t195 t196 t197 t199 t200 t202 t203 t204 t205 t206 u_bool
end Go.Proofs.Ytcedomdpbgjbpaa.Vs
