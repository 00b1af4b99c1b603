import Derived.Test.YtopdaicfhfjmgaaVsZJ
import Derived.Test.YtopdaicfhfjmgaaProg
open Go Go.Proofs Go.Proofs.Ytopdaicfhfjmgaa.Vs
namespace Go.Proofs.Ytopdaicfhfjmgaa.Vs
set_option linter.unusedVariables false
set_option linter.unusedSimpArgs false
set_option linter.unusedSectionVars false
set_option linter.unnecessarySimpa false
set_option linter.all false
theorem mix : Try.prog.follows .mixedOrders = true := by kernel_rfl
theorem t2 : ti Try.prog 2 = some { agg := false, size := 1, bytes := 8, zero := [AV.g (Value.int IntKind.i64 0)], kind := TK.int IntKind.i64 } := by kernel_rfl
theorem t3 : ti Try.prog 3 = some { agg := false, size := 1, bytes := 8, zero := [AV.g (Value.int IntKind.i64 0)], kind := TK.int IntKind.i64 } := by kernel_rfl
theorem t4 : ti Try.prog 4 = some { agg := false, size := 1, bytes := 1, zero := [AV.g (Value.bool false)], kind := TK.bool } := by kernel_rfl
theorem t5 : ti Try.prog 5 = some { agg := false, size := 1, bytes := 1, zero := [AV.g (Value.int IntKind.u8 0)], kind := TK.int IntKind.u8 } := by kernel_rfl
theorem t6 : ti Try.prog 6 = some { agg := false, size := 1, bytes := 1, zero := [AV.g (Value.int IntKind.u8 0)], kind := TK.int IntKind.u8 } := by kernel_rfl
theorem t7 : ti Try.prog 7 = some { agg := true, size := 4, bytes := 24, zero := [AV.g (Value.int IntKind.i64 0), AV.g (Value.int IntKind.i64 0), AV.g (Value.bool false), AV.g (Value.int IntKind.u8 0)], kind := TK.struct [(0, 2), (1, 3), (2, 4), (3, 6)] } := by kernel_rfl
theorem t8 : ti Try.prog 8 = some { agg := true, size := 4, bytes := 24, zero := [AV.g (Value.int IntKind.i64 0), AV.g (Value.int IntKind.i64 0), AV.g (Value.bool false), AV.g (Value.int IntKind.u8 0)], kind := TK.struct [(0, 2), (1, 3), (2, 4), (3, 6)] } := by kernel_rfl
theorem t9 : ti Try.prog 9 = some { agg := false, size := 1, bytes := 16, zero := [AV.s []], kind := TK.str } := by kernel_rfl
theorem t10 : ti Try.prog 10 = some { agg := false, size := 1, bytes := 16, zero := [AV.s []], kind := TK.str } := by kernel_rfl
theorem t11 : ti Try.prog 11 = some { agg := false, size := 1, bytes := 16, zero := [AV.s []], kind := TK.str } := by kernel_rfl
theorem t12 : ti Try.prog 12 = some { agg := false, size := 1, bytes := 8, zero := [AV.g (Value.int IntKind.u64 0)], kind := TK.int IntKind.u64 } := by kernel_rfl
theorem t13 : ti Try.prog 13 = some { agg := true, size := 2, bytes := 24, zero := [AV.s [], AV.g (Value.int IntKind.u64 0)], kind := TK.struct [(0, 9), (1, 12)] } := by kernel_rfl
theorem t14 : ti Try.prog 14 = some { agg := true, size := 2, bytes := 24, zero := [AV.s [], AV.g (Value.int IntKind.u64 0)], kind := TK.struct [(0, 9), (1, 12)] } := by kernel_rfl
theorem t15 : ti Try.prog 15 = some { agg := false, size := 1, bytes := 8, zero := [AV.g (Value.pointer none)], kind := TK.ptr 157 } := by kernel_rfl
theorem t16 : ti Try.prog 16 = some { agg := false, size := 1, bytes := 8, zero := [AV.g (Value.pointer none)], kind := TK.ptr 160 } := by kernel_rfl
theorem t17 : ti Try.prog 17 = some { agg := false, size := 1, bytes := 8, zero := [AV.g (Value.pointer none)], kind := TK.ptr 170 } := by kernel_rfl
theorem t18 : ti Try.prog 18 = some { agg := true, size := 1, bytes := 8, zero := [AV.g (Value.pointer none)], kind := TK.struct [(0, 17)] } := by kernel_rfl
theorem t19 : ti Try.prog 19 = some { agg := true, size := 1, bytes := 8, zero := [AV.g (Value.pointer none)], kind := TK.struct [(0, 17)] } := by kernel_rfl
theorem t21 : ti Try.prog 21 = some { agg := false, size := 1, bytes := 4, zero := [AV.g (Value.int IntKind.i32 0)], kind := TK.int IntKind.i32 } := by kernel_rfl
theorem t22 : ti Try.prog 22 = some { agg := false, size := 1, bytes := 24, zero := [AV.g (Value.slice none 0 0)], kind := TK.slice 101 } := by kernel_rfl
theorem t23 : ti Try.prog 23 = some { agg := true, size := 1, bytes := 24, zero := [AV.g (Value.slice none 0 0)], kind := TK.struct [(0, 22)] } := by kernel_rfl
theorem t24 : ti Try.prog 24 = some { agg := true, size := 1, bytes := 24, zero := [AV.g (Value.slice none 0 0)], kind := TK.struct [(0, 22)] } := by kernel_rfl
theorem t27 : ti Try.prog 27 = some { agg := false, size := 1, bytes := 24, zero := [AV.g (Value.slice none 0 0)], kind := TK.slice 62 } := by kernel_rfl
theorem t28 : ti Try.prog 28 = some { agg := true, size := 1, bytes := 24, zero := [AV.g (Value.slice none 0 0)], kind := TK.struct [(0, 27)] } := by kernel_rfl
theorem t29 : ti Try.prog 29 = some { agg := true, size := 1, bytes := 24, zero := [AV.g (Value.slice none 0 0)], kind := TK.struct [(0, 27)] } := by kernel_rfl
theorem t33 : ti Try.prog 33 = some { agg := false, size := 1, bytes := 24, zero := [AV.g (Value.slice none 0 0)], kind := TK.slice 76 } := by kernel_rfl
theorem t36 : ti Try.prog 36 = some { agg := false, size := 1, bytes := 24, zero := [AV.g (Value.slice none 0 0)], kind := TK.slice 79 } := by kernel_rfl
theorem t42 : ti Try.prog 42 = some { agg := false, size := 1, bytes := 24, zero := [AV.g (Value.slice none 0 0)], kind := TK.slice 112 } := by kernel_rfl
theorem t43 : ti Try.prog 43 = some { agg := true, size := 2, bytes := 48, zero := [AV.g (Value.slice none 0 0), AV.g (Value.slice none 0 0)], kind := TK.struct [(0, 24), (1, 42)] } := by kernel_rfl
theorem t44 : ti Try.prog 44 = some { agg := true, size := 2, bytes := 48, zero := [AV.g (Value.slice none 0 0), AV.g (Value.slice none 0 0)], kind := TK.struct [(0, 24), (1, 42)] } := by kernel_rfl
theorem t47 : ti Try.prog 47 = some { agg := false, size := 1, bytes := 24, zero := [AV.g (Value.slice none 0 0)], kind := TK.slice 86 } := by kernel_rfl
theorem t48 : ti Try.prog 48 = some { agg := true, size := 2, bytes := 48, zero := [AV.g (Value.slice none 0 0), AV.g (Value.slice none 0 0)], kind := TK.struct [(0, 29), (1, 47)] } := by kernel_rfl
theorem t49 : ti Try.prog 49 = some { agg := true, size := 2, bytes := 48, zero := [AV.g (Value.slice none 0 0), AV.g (Value.slice none 0 0)], kind := TK.struct [(0, 29), (1, 47)] } := by kernel_rfl
theorem t54 : ti Try.prog 54 = some { agg := false, size := 1, bytes := 24, zero := [AV.g (Value.slice none 0 0)], kind := TK.slice 3 } := by kernel_rfl
theorem t60 : ti Try.prog 60 = some { agg := false, size := 1, bytes := 24, zero := [AV.g (Value.slice none 0 0)], kind := TK.slice 67 } := by kernel_rfl
theorem t61 : ti Try.prog 61 = some { agg := true, size := 2, bytes := 40, zero := [AV.s [], AV.g (Value.slice none 0 0)], kind := TK.struct [(0, 9), (1, 60)] } := by kernel_rfl
theorem t62 : ti Try.prog 62 = some { agg := true, size := 2, bytes := 40, zero := [AV.s [], AV.g (Value.slice none 0 0)], kind := TK.struct [(0, 9), (1, 60)] } := by kernel_rfl
theorem t65 : ti Try.prog 65 = some { agg := false, size := 1, bytes := 24, zero := [AV.g (Value.slice none 0 0)], kind := TK.slice 9 } := by kernel_rfl
theorem t66 : ti Try.prog 66 = some { agg := true, size := 3, bytes := 56, zero := [AV.s [], AV.s [], AV.g (Value.slice none 0 0)], kind := TK.struct [(0, 9), (1, 9), (2, 65)] } := by kernel_rfl
theorem t67 : ti Try.prog 67 = some { agg := true, size := 3, bytes := 56, zero := [AV.s [], AV.s [], AV.g (Value.slice none 0 0)], kind := TK.struct [(0, 9), (1, 9), (2, 65)] } := by kernel_rfl
theorem t73 : ti Try.prog 73 = some { agg := true, size := 8, bytes := 104, zero := [AV.g (Value.int IntKind.i64 0), AV.g (Value.int IntKind.i64 0), AV.g (Value.int IntKind.i64 0), AV.s [], AV.s [], AV.s [], AV.g (Value.int IntKind.i64 0), AV.g (Value.slice none 0 0)], kind := TK.struct [(0, 3), (1, 3), (2, 3), (3, 9), (4, 9), (5, 9), (6, 3), (7, 65)] } := by kernel_rfl
theorem t74 : ti Try.prog 74 = some { agg := true, size := 8, bytes := 104, zero := [AV.g (Value.int IntKind.i64 0), AV.g (Value.int IntKind.i64 0), AV.g (Value.int IntKind.i64 0), AV.s [], AV.s [], AV.s [], AV.g (Value.int IntKind.i64 0), AV.g (Value.slice none 0 0)], kind := TK.struct [(0, 3), (1, 3), (2, 3), (3, 9), (4, 9), (5, 9), (6, 3), (7, 65)] } := by kernel_rfl
theorem t75 : ti Try.prog 75 = some { agg := true, size := 11, bytes := 136, zero := [AV.g (Value.int IntKind.i64 0), AV.g (Value.int IntKind.i64 0), AV.g (Value.int IntKind.i64 0), AV.g (Value.int IntKind.i64 0), AV.g (Value.int IntKind.i64 0), AV.s [], AV.s [], AV.s [], AV.g (Value.int IntKind.i64 0), AV.g (Value.slice none 0 0), AV.s []], kind := TK.struct [(0, 3), (1, 3), (2, 74), (10, 9)] } := by kernel_rfl
theorem t76 : ti Try.prog 76 = some { agg := true, size := 11, bytes := 136, zero := [AV.g (Value.int IntKind.i64 0), AV.g (Value.int IntKind.i64 0), AV.g (Value.int IntKind.i64 0), AV.g (Value.int IntKind.i64 0), AV.g (Value.int IntKind.i64 0), AV.s [], AV.s [], AV.s [], AV.g (Value.int IntKind.i64 0), AV.g (Value.slice none 0 0), AV.s []], kind := TK.struct [(0, 3), (1, 3), (2, 74), (10, 9)] } := by kernel_rfl
theorem t77 : ti Try.prog 77 = some { agg := true, size := 8, bytes := 104, zero := [AV.g (Value.int IntKind.i64 0), AV.g (Value.int IntKind.i64 0), AV.g (Value.int IntKind.i64 0), AV.s [], AV.s [], AV.s [], AV.g (Value.int IntKind.i64 0), AV.g (Value.slice none 0 0)], kind := TK.struct [(0, 3), (1, 3), (2, 3), (3, 9), (4, 9), (5, 9), (6, 3), (7, 65)] } := by kernel_rfl
theorem t78 : ti Try.prog 78 = some { agg := true, size := 11, bytes := 136, zero := [AV.g (Value.int IntKind.i64 0), AV.g (Value.int IntKind.i64 0), AV.g (Value.int IntKind.i64 0), AV.g (Value.int IntKind.i64 0), AV.g (Value.int IntKind.i64 0), AV.s [], AV.s [], AV.s [], AV.g (Value.int IntKind.i64 0), AV.g (Value.slice none 0 0), AV.s []], kind := TK.struct [(0, 3), (1, 3), (2, 77), (10, 9)] } := by kernel_rfl
theorem t79 : ti Try.prog 79 = some { agg := true, size := 11, bytes := 136, zero := [AV.g (Value.int IntKind.i64 0), AV.g (Value.int IntKind.i64 0), AV.g (Value.int IntKind.i64 0), AV.g (Value.int IntKind.i64 0), AV.g (Value.int IntKind.i64 0), AV.s [], AV.s [], AV.s [], AV.g (Value.int IntKind.i64 0), AV.g (Value.slice none 0 0), AV.s []], kind := TK.struct [(0, 3), (1, 3), (2, 77), (10, 9)] } := by kernel_rfl
theorem t85 : ti Try.prog 85 = some { agg := true, size := 3, bytes := 32, zero := [AV.g (Value.int IntKind.i64 0), AV.g (Value.int IntKind.i64 0), AV.s []], kind := TK.struct [(0, 3), (1, 3), (2, 9)] } := by kernel_rfl
theorem t86 : ti Try.prog 86 = some { agg := true, size := 3, bytes := 32, zero := [AV.g (Value.int IntKind.i64 0), AV.g (Value.int IntKind.i64 0), AV.s []], kind := TK.struct [(0, 3), (1, 3), (2, 9)] } := by kernel_rfl
theorem t93 : ti Try.prog 93 = some { agg := false, size := 1, bytes := 24, zero := [AV.g (Value.slice none 0 0)], kind := TK.slice 4 } := by kernel_rfl
theorem t99 : ti Try.prog 99 = some { agg := false, size := 1, bytes := 24, zero := [AV.g (Value.slice none 0 0)], kind := TK.slice 143 } := by kernel_rfl
theorem t100 : ti Try.prog 100 = some { agg := true, size := 2, bytes := 40, zero := [AV.s [], AV.g (Value.slice none 0 0)], kind := TK.struct [(0, 9), (1, 99)] } := by kernel_rfl
theorem t101 : ti Try.prog 101 = some { agg := true, size := 2, bytes := 40, zero := [AV.s [], AV.g (Value.slice none 0 0)], kind := TK.struct [(0, 9), (1, 99)] } := by kernel_rfl
theorem t112 : ti Try.prog 112 = some { agg := true, size := 3, bytes := 32, zero := [AV.g (Value.int IntKind.i64 0), AV.g (Value.int IntKind.i64 0), AV.s []], kind := TK.struct [(0, 3), (1, 3), (2, 9)] } := by kernel_rfl
theorem t115 : ti Try.prog 115 = some { agg := false, size := 1, bytes := 24, zero := [AV.g (Value.slice none 0 0)], kind := TK.slice 5 } := by kernel_rfl
theorem t116 : ti Try.prog 116 = some { agg := false, size := 1, bytes := 8, zero := [AV.g (Value.int IntKind.u64 0)], kind := TK.int IntKind.u64 } := by kernel_rfl
theorem t143 : ti Try.prog 143 = some { agg := true, size := 3, bytes := 56, zero := [AV.s [], AV.s [], AV.g (Value.slice none 0 0)], kind := TK.struct [(0, 9), (1, 9), (2, 65)] } := by kernel_rfl
theorem t149 : ti Try.prog 149 = some { agg := false, size := 1, bytes := 8, zero := [AV.g (Value.pointer none)], kind := TK.ptr 29 } := by kernel_rfl
theorem t152 : ti Try.prog 152 = some { agg := false, size := 1, bytes := 8, zero := [AV.g (Value.pointer none)], kind := TK.ptr 62 } := by kernel_rfl
theorem t156 : ti Try.prog 156 = some { agg := true, size := 4, bytes := 40, zero := [AV.g (Value.pointer none), AV.g (Value.pointer none), AV.g (Value.pointer none), AV.s []], kind := TK.struct [(0, 17), (1, 17), (2, 17), (3, 9)] } := by kernel_rfl
theorem t157 : ti Try.prog 157 = some { agg := true, size := 4, bytes := 40, zero := [AV.g (Value.pointer none), AV.g (Value.pointer none), AV.g (Value.pointer none), AV.s []], kind := TK.struct [(0, 17), (1, 17), (2, 17), (3, 9)] } := by kernel_rfl
theorem t158 : ti Try.prog 158 = some { agg := true, size := 0, bytes := 0, zero := [], kind := TK.array 0 16 } := by kernel_rfl
theorem t159 : ti Try.prog 159 = some { agg := true, size := 0, bytes := 0, zero := [], kind := TK.struct [(0, 158)] } := by kernel_rfl
theorem t160 : ti Try.prog 160 = some { agg := true, size := 0, bytes := 0, zero := [], kind := TK.struct [(0, 158)] } := by kernel_rfl
theorem t162 : ti Try.prog 162 = some { agg := false, size := 1, bytes := 4, zero := [AV.g (Value.int IntKind.u32 0)], kind := TK.int IntKind.u32 } := by kernel_rfl
theorem t163 : ti Try.prog 163 = some { agg := false, size := 1, bytes := 1, zero := [AV.g (Value.int IntKind.u8 0)], kind := TK.int IntKind.u8 } := by kernel_rfl
theorem t164 : ti Try.prog 164 = some { agg := false, size := 1, bytes := 1, zero := [AV.g (Value.int IntKind.u8 0)], kind := TK.int IntKind.u8 } := by kernel_rfl
theorem t166 : ti Try.prog 166 = some { agg := false, size := 1, bytes := 8, zero := [AV.g (Value.pointer none)], kind := TK.ptr 5 } := by kernel_rfl
theorem t167 : ti Try.prog 167 = some { agg := false, size := 1, bytes := 4, zero := [AV.g (Value.int IntKind.i32 0)], kind := TK.int IntKind.i32 } := by kernel_rfl
theorem t168 : ti Try.prog 168 = some { agg := false, size := 1, bytes := 4, zero := [AV.g (Value.int IntKind.i32 0)], kind := TK.int IntKind.i32 } := by kernel_rfl
theorem t169 : ti Try.prog 169 = some { agg := true, size := 11, bytes := 48, zero := [AV.g (Value.int IntKind.u64 0), AV.g (Value.int IntKind.u64 0), AV.g (Value.int IntKind.u32 0), AV.g (Value.int IntKind.u8 0), AV.g (Value.int IntKind.u8 0), AV.g (Value.int IntKind.u8 0), AV.g (Value.int IntKind.u8 0), AV.g Value.nilFunc, AV.g (Value.pointer none), AV.g (Value.int IntKind.i32 0), AV.g (Value.int IntKind.i32 0)], kind := TK.struct [(0, 12), (1, 12), (2, 162), (3, 163), (4, 5), (5, 5), (6, 164), (7, 165), (8, 166), (9, 167), (10, 168)] } := by kernel_rfl
theorem t170 : ti Try.prog 170 = some { agg := true, size := 11, bytes := 48, zero := [AV.g (Value.int IntKind.u64 0), AV.g (Value.int IntKind.u64 0), AV.g (Value.int IntKind.u32 0), AV.g (Value.int IntKind.u8 0), AV.g (Value.int IntKind.u8 0), AV.g (Value.int IntKind.u8 0), AV.g (Value.int IntKind.u8 0), AV.g Value.nilFunc, AV.g (Value.pointer none), AV.g (Value.int IntKind.i32 0), AV.g (Value.int IntKind.i32 0)], kind := TK.struct [(0, 12), (1, 12), (2, 162), (3, 163), (4, 5), (5, 5), (6, 164), (7, 165), (8, 166), (9, 167), (10, 168)] } := by kernel_rfl
theorem u_bool : Try.prog.underlying 4 = some .bool := by kernel_rfl
attribute [simp ↓] spl_tt spl_tf spl_ft spl_ff
attribute [simp] creg_nil creg_op creg_gd cO cR cG_bool cG_undef spl_ct spl_cf putC nmC aop ev cv updL upd_app upd_upd lkE_app lk_nil lk_cons aLen aBuiltin aBin aIntBin aFieldAddr placeOf aLoad cellsAt aUn aIndexAddr st0 valCells isOne Value.oneCell' aStore setCells List.getElem?_cons_zero List.getElem?_cons_succ Option.getD_some formOb_nn formOb_r1 aBuild parts fillA placesOf aField aIndex aSlice optIdx aStrBin aMakeSlice viewCells viewCell arrN frzU capOk aConv endR_some am0_gg am0_ss am0_ll am1_gg am1_ss am1_ll am1_nl am1_al am2_gg am2_ss am2_ll am2_nl am2_al am2_ff am1s_nn am1s_cc am2s_nn am2s_cc amRs_one amRs_two' amRs_thr resAll_nil resAll_tmp resAll_cell KpE KpO KpR KpOR t2 t3 t4 t5 t6 t7 t8 t9 t10 t11 t12 t13 t14 t15 t16 t17 t18 t19 t21 t22 t23 t24 t27 t28 t29 t33 t36 t42 t43 t44 t47 t48 t49 t54 t60 t61 t62 t65 t66 t67 t73 t74 t75 t76 t77 t78 t79 t85 t86 t93 t99 t100 t101 t112 t115 t116 t143 t149 t152 t156 t157 t158 t159 t160 t162 t163 t164 t166 t167 t168 t169 t170 u_bool
end Go.Proofs.Ytopdaicfhfjmgaa.Vs
