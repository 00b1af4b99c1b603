import Derived.Test.YtmcekkllkfccjaaVs8
import Derived.Test.YtmcekkllkfccjaaProg
open Go Go.Proofs Go.Proofs.Ytmcekkllkfccjaa.Vs
namespace Go.Proofs.Ytmcekkllkfccjaa.Vs
set_option linter.unusedVariables false
set_option linter.unusedSimpArgs false
set_option linter.unusedSectionVars false
set_option linter.unnecessarySimpa false
set_option linter.all false
theorem mix : Try.prog.follows .mixedOrders = true := by kernel_rfl
theorem t2 : ti Try.prog 2 = some { agg := false, size := 1, bytes := 8, zero := [AV.g (Value.int IntKind.i64 0)], kind := TK.int IntKind.i64 } := by kernel_rfl
theorem t3 : ti Try.prog 3 = some { agg := false, size := 1, bytes := 8, zero := [AV.g (Value.int IntKind.i64 0)], kind := TK.int IntKind.i64 } := by kernel_rfl
theorem t4 : ti Try.prog 4 = some { agg := false, size := 1, bytes := 1, zero := [AV.g (Value.bool false)], kind := TK.bool } := by kernel_rfl
theorem t5 : ti Try.prog 5 = some { agg := false, size := 1, bytes := 1, zero := [AV.g (Value.int IntKind.u8 0)], kind := TK.int IntKind.u8 } := by kernel_rfl
theorem t6 : ti Try.prog 6 = some { agg := false, size := 1, bytes := 1, zero := [AV.g (Value.int IntKind.u8 0)], kind := TK.int IntKind.u8 } := by kernel_rfl
theorem t7 : ti Try.prog 7 = some { agg := true, size := 4, bytes := 24, zero := [AV.g (Value.int IntKind.i64 0), AV.g (Value.int IntKind.i64 0), AV.g (Value.bool false), AV.g (Value.int IntKind.u8 0)], kind := TK.struct [(0, 2), (1, 3), (2, 4), (3, 6)] } := by kernel_rfl
theorem t8 : ti Try.prog 8 = some { agg := true, size := 4, bytes := 24, zero := [AV.g (Value.int IntKind.i64 0), AV.g (Value.int IntKind.i64 0), AV.g (Value.bool false), AV.g (Value.int IntKind.u8 0)], kind := TK.struct [(0, 2), (1, 3), (2, 4), (3, 6)] } := by kernel_rfl
theorem t9 : ti Try.prog 9 = some { agg := false, size := 1, bytes := 16, zero := [AV.s []], kind := TK.str } := by kernel_rfl
theorem t10 : ti Try.prog 10 = some { agg := false, size := 1, bytes := 16, zero := [AV.s []], kind := TK.str } := by kernel_rfl
theorem t11 : ti Try.prog 11 = some { agg := false, size := 1, bytes := 16, zero := [AV.s []], kind := TK.str } := by kernel_rfl
theorem t12 : ti Try.prog 12 = some { agg := false, size := 1, bytes := 8, zero := [AV.g (Value.int IntKind.u64 0)], kind := TK.int IntKind.u64 } := by kernel_rfl
theorem t13 : ti Try.prog 13 = some { agg := true, size := 2, bytes := 24, zero := [AV.s [], AV.g (Value.int IntKind.u64 0)], kind := TK.struct [(0, 9), (1, 12)] } := by kernel_rfl
theorem t14 : ti Try.prog 14 = some { agg := true, size := 2, bytes := 24, zero := [AV.s [], AV.g (Value.int IntKind.u64 0)], kind := TK.struct [(0, 9), (1, 12)] } := by kernel_rfl
theorem t15 : ti Try.prog 15 = some { agg := false, size := 1, bytes := 8, zero := [AV.g (Value.pointer none)], kind := TK.ptr 55 } := by kernel_rfl
theorem t16 : ti Try.prog 16 = some { agg := false, size := 1, bytes := 8, zero := [AV.g (Value.pointer none)], kind := TK.ptr 58 } := by kernel_rfl
theorem t17 : ti Try.prog 17 = some { agg := false, size := 1, bytes := 8, zero := [AV.g (Value.pointer none)], kind := TK.ptr 68 } := by kernel_rfl
theorem t18 : ti Try.prog 18 = some { agg := true, size := 1, bytes := 8, zero := [AV.g (Value.pointer none)], kind := TK.struct [(0, 17)] } := by kernel_rfl
theorem t19 : ti Try.prog 19 = some { agg := true, size := 1, bytes := 8, zero := [AV.g (Value.pointer none)], kind := TK.struct [(0, 17)] } := by kernel_rfl
theorem t21 : ti Try.prog 21 = some { agg := false, size := 1, bytes := 4, zero := [AV.g (Value.int IntKind.i32 0)], kind := TK.int IntKind.i32 } := by kernel_rfl
theorem t22 : ti Try.prog 22 = some { agg := false, size := 1, bytes := 24, zero := [AV.g (Value.slice none 0 0)], kind := TK.slice 5 } := by kernel_rfl
theorem t32 : ti Try.prog 32 = some { agg := false, size := 1, bytes := 24, zero := [AV.g (Value.slice none 0 0)], kind := TK.slice 3 } := by kernel_rfl
theorem t33 : ti Try.prog 33 = some { agg := true, size := 3, bytes := 24, zero := [AV.g (Value.int IntKind.i64 0), AV.g (Value.int IntKind.i64 0), AV.g (Value.int IntKind.i64 0)], kind := TK.struct [(0, 3), (1, 3), (2, 3)] } := by kernel_rfl
theorem t34 : ti Try.prog 34 = some { agg := true, size := 3, bytes := 24, zero := [AV.g (Value.int IntKind.i64 0), AV.g (Value.int IntKind.i64 0), AV.g (Value.int IntKind.i64 0)], kind := TK.struct [(0, 3), (1, 3), (2, 3)] } := by kernel_rfl
theorem t37 : ti Try.prog 37 = some { agg := false, size := 1, bytes := 24, zero := [AV.g (Value.slice none 0 0)], kind := TK.slice 4 } := by kernel_rfl
theorem t42 : ti Try.prog 42 = some { agg := false, size := 1, bytes := 8, zero := [AV.g (Value.pointer none)], kind := TK.ptr 49 } := by kernel_rfl
theorem t48 : ti Try.prog 48 = some { agg := true, size := 3, bytes := 40, zero := [AV.g (Value.slice none 0 0), AV.g (Value.int IntKind.i64 0), AV.g (Value.int IntKind.i64 0)], kind := TK.struct [(0, 22), (1, 3), (2, 3)] } := by kernel_rfl
theorem t49 : ti Try.prog 49 = some { agg := true, size := 3, bytes := 40, zero := [AV.g (Value.slice none 0 0), AV.g (Value.int IntKind.i64 0), AV.g (Value.int IntKind.i64 0)], kind := TK.struct [(0, 22), (1, 3), (2, 3)] } := by kernel_rfl
theorem t52 : ti Try.prog 52 = some { agg := false, size := 1, bytes := 8, zero := [AV.g (Value.int IntKind.u64 0)], kind := TK.int IntKind.u64 } := by kernel_rfl
theorem t54 : ti Try.prog 54 = some { agg := true, size := 4, bytes := 40, zero := [AV.g (Value.pointer none), AV.g (Value.pointer none), AV.g (Value.pointer none), AV.s []], kind := TK.struct [(0, 17), (1, 17), (2, 17), (3, 9)] } := by kernel_rfl
theorem t55 : ti Try.prog 55 = some { agg := true, size := 4, bytes := 40, zero := [AV.g (Value.pointer none), AV.g (Value.pointer none), AV.g (Value.pointer none), AV.s []], kind := TK.struct [(0, 17), (1, 17), (2, 17), (3, 9)] } := by kernel_rfl
theorem t56 : ti Try.prog 56 = some { agg := true, size := 0, bytes := 0, zero := [], kind := TK.array 0 16 } := by kernel_rfl
theorem t57 : ti Try.prog 57 = some { agg := true, size := 0, bytes := 0, zero := [], kind := TK.struct [(0, 56)] } := by kernel_rfl
theorem t58 : ti Try.prog 58 = some { agg := true, size := 0, bytes := 0, zero := [], kind := TK.struct [(0, 56)] } := by kernel_rfl
theorem t60 : ti Try.prog 60 = some { agg := false, size := 1, bytes := 4, zero := [AV.g (Value.int IntKind.u32 0)], kind := TK.int IntKind.u32 } := by kernel_rfl
theorem t61 : ti Try.prog 61 = some { agg := false, size := 1, bytes := 1, zero := [AV.g (Value.int IntKind.u8 0)], kind := TK.int IntKind.u8 } := by kernel_rfl
theorem t62 : ti Try.prog 62 = some { agg := false, size := 1, bytes := 1, zero := [AV.g (Value.int IntKind.u8 0)], kind := TK.int IntKind.u8 } := by kernel_rfl
theorem t64 : ti Try.prog 64 = some { agg := false, size := 1, bytes := 8, zero := [AV.g (Value.pointer none)], kind := TK.ptr 5 } := by kernel_rfl
theorem t65 : ti Try.prog 65 = some { agg := false, size := 1, bytes := 4, zero := [AV.g (Value.int IntKind.i32 0)], kind := TK.int IntKind.i32 } := by kernel_rfl
theorem t66 : ti Try.prog 66 = some { agg := false, size := 1, bytes := 4, zero := [AV.g (Value.int IntKind.i32 0)], kind := TK.int IntKind.i32 } := by kernel_rfl
theorem t67 : ti Try.prog 67 = some { agg := true, size := 11, bytes := 48, zero := [AV.g (Value.int IntKind.u64 0), AV.g (Value.int IntKind.u64 0), AV.g (Value.int IntKind.u32 0), AV.g (Value.int IntKind.u8 0), AV.g (Value.int IntKind.u8 0), AV.g (Value.int IntKind.u8 0), AV.g (Value.int IntKind.u8 0), AV.g Value.nilFunc, AV.g (Value.pointer none), AV.g (Value.int IntKind.i32 0), AV.g (Value.int IntKind.i32 0)], kind := TK.struct [(0, 12), (1, 12), (2, 60), (3, 61), (4, 5), (5, 5), (6, 62), (7, 63), (8, 64), (9, 65), (10, 66)] } := by kernel_rfl
theorem t68 : ti Try.prog 68 = some { agg := true, size := 11, bytes := 48, zero := [AV.g (Value.int IntKind.u64 0), AV.g (Value.int IntKind.u64 0), AV.g (Value.int IntKind.u32 0), AV.g (Value.int IntKind.u8 0), AV.g (Value.int IntKind.u8 0), AV.g (Value.int IntKind.u8 0), AV.g (Value.int IntKind.u8 0), AV.g Value.nilFunc, AV.g (Value.pointer none), AV.g (Value.int IntKind.i32 0), AV.g (Value.int IntKind.i32 0)], kind := TK.struct [(0, 12), (1, 12), (2, 60), (3, 61), (4, 5), (5, 5), (6, 62), (7, 63), (8, 64), (9, 65), (10, 66)] } := by kernel_rfl
theorem u_bool : Try.prog.underlying 4 = some .bool := by kernel_rfl
attribute [simp ↓] spl_tt spl_tf spl_ft spl_ff
attribute [simp] creg_nil creg_op creg_gd cO cR cG_bool cG_undef spl_ct spl_cf putC nmC aop ev cv updL upd_app upd_upd lkE_app lk_nil lk_cons aLen aBuiltin aBin aIntBin aFieldAddr placeOf aLoad cellsAt aUn aIndexAddr st0 valCells isOne Value.oneCell' aStore setCells List.getElem?_cons_zero List.getElem?_cons_succ Option.getD_some formOb_nn formOb_r1 aBuild parts fillA placesOf aField aIndex aSlice optIdx aStrBin aMakeSlice viewCells viewCell arrN frzU capOk aConv aNews aAppend aBuildSlice chunks endR_some am0_gg am0_ss am0_ll am1_gg am1_ss am1_ll am1_nl am1_al am2_gg am2_ss am2_ll am2_nl am2_al am2_ff am1s_nn am1s_cc am2s_nn am2s_cc amRs_one amRs_two' amRs_thr resAll_nil resAll_tmp resAll_cell KpE KpO KpR KpOR t2 t3 t4 t5 t6 t7 t8 t9 t10 t11 t12 t13 t14 t15 t16 t17 t18 t19 t21 t22 t32 t33 t34 t37 t42 t48 t49 t52 t54 t55 t56 t57 t58 t60 t61 t62 t64 t65 t66 t67 t68 u_bool
end Go.Proofs.Ytmcekkllkfccjaa.Vs
