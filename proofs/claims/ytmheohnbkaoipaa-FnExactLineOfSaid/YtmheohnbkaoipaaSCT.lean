import Derived.Test.YtmheohnbkaoipaaVs9
import Derived.Test.YtmheohnbkaoipaaProg
open Go Go.Proofs Go.Proofs.Ytmheohnbkaoipaa.Vs
namespace Go.Proofs.Ytmheohnbkaoipaa.Vs
set_option linter.all false
theorem mix : Try.prog.follows .mixedOrders = true := by kernel_rfl
theorem t2 : ti Try.prog 2 = some { agg := false, size := 1, bytes := 8, zero := [AV.g (Value.int IntKind.i64 0)], kind := TK.int IntKind.i64 } := by kernel_rfl
theorem t3 : ti Try.prog 3 = some { agg := false, size := 1, bytes := 8, zero := [AV.g (Value.int IntKind.i64 0)], kind := TK.int IntKind.i64 } := by kernel_rfl
theorem t4 : ti Try.prog 4 = some { agg := false, size := 1, bytes := 1, zero := [AV.g (Value.bool false)], kind := TK.bool } := by kernel_rfl
theorem t5 : ti Try.prog 5 = some { agg := false, size := 1, bytes := 1, zero := [AV.g (Value.int IntKind.u8 0)], kind := TK.int IntKind.u8 } := by kernel_rfl
theorem t6 : ti Try.prog 6 = some { agg := false, size := 1, bytes := 1, zero := [AV.g (Value.int IntKind.u8 0)], kind := TK.int IntKind.u8 } := by kernel_rfl
theorem t7 : ti Try.prog 7 = some { agg := true, size := 4, bytes := 24, zero := [AV.g (Value.int IntKind.i64 0), AV.g (Value.int IntKind.i64 0), AV.g (Value.bool false), AV.g (Value.int IntKind.u8 0)], kind := TK.struct [(0, 2), (1, 3), (2, 4), (3, 6)] } := by kernel_rfl
theorem t8 : ti Try.prog 8 = some { agg := true, size := 4, bytes := 24, zero := [AV.g (Value.int IntKind.i64 0), AV.g (Value.int IntKind.i64 0), AV.g (Value.bool false), AV.g (Value.int IntKind.u8 0)], kind := TK.struct [(0, 2), (1, 3), (2, 4), (3, 6)] } := by kernel_rfl
theorem t9 : ti Try.prog 9 = some { agg := false, size := 1, bytes := 16, zero := [AV.s []], kind := TK.str } := by kernel_rfl
theorem t10 : ti Try.prog 10 = some { agg := false, size := 1, bytes := 16, zero := [AV.s []], kind := TK.str } := by kernel_rfl
theorem t11 : ti Try.prog 11 = some { agg := false, size := 1, bytes := 16, zero := [AV.s []], kind := TK.str } := by kernel_rfl
theorem t12 : ti Try.prog 12 = some { agg := false, size := 1, bytes := 8, zero := [AV.g (Value.int IntKind.u64 0)], kind := TK.int IntKind.u64 } := by kernel_rfl
theorem t13 : ti Try.prog 13 = some { agg := true, size := 2, bytes := 24, zero := [AV.s [], AV.g (Value.int IntKind.u64 0)], kind := TK.struct [(0, 9), (1, 12)] } := by kernel_rfl
theorem t14 : ti Try.prog 14 = some { agg := true, size := 2, bytes := 24, zero := [AV.s [], AV.g (Value.int IntKind.u64 0)], kind := TK.struct [(0, 9), (1, 12)] } := by kernel_rfl
theorem t15 : ti Try.prog 15 = some { agg := false, size := 1, bytes := 8, zero := [AV.g (Value.pointer none)], kind := TK.ptr 163 } := by kernel_rfl
theorem t16 : ti Try.prog 16 = some { agg := false, size := 1, bytes := 8, zero := [AV.g (Value.pointer none)], kind := TK.ptr 166 } := by kernel_rfl
theorem t17 : ti Try.prog 17 = some { agg := false, size := 1, bytes := 8, zero := [AV.g (Value.pointer none)], kind := TK.ptr 176 } := by kernel_rfl
theorem t18 : ti Try.prog 18 = some { agg := true, size := 1, bytes := 8, zero := [AV.g (Value.pointer none)], kind := TK.struct [(0, 17)] } := by kernel_rfl
theorem t19 : ti Try.prog 19 = some { agg := true, size := 1, bytes := 8, zero := [AV.g (Value.pointer none)], kind := TK.struct [(0, 17)] } := by kernel_rfl
theorem t21 : ti Try.prog 21 = some { agg := false, size := 1, bytes := 4, zero := [AV.g (Value.int IntKind.i32 0)], kind := TK.int IntKind.i32 } := by kernel_rfl
theorem t22 : ti Try.prog 22 = some { agg := false, size := 1, bytes := 24, zero := [AV.g (Value.slice none 0 0)], kind := TK.slice 117 } := by kernel_rfl
theorem t23 : ti Try.prog 23 = some { agg := true, size := 1, bytes := 24, zero := [AV.g (Value.slice none 0 0)], kind := TK.struct [(0, 22)] } := by kernel_rfl
theorem t24 : ti Try.prog 24 = some { agg := true, size := 1, bytes := 24, zero := [AV.g (Value.slice none 0 0)], kind := TK.struct [(0, 22)] } := by kernel_rfl
theorem t25 : ti Try.prog 25 = some { agg := false, size := 1, bytes := 24, zero := [AV.g (Value.slice none 0 0)], kind := TK.slice 9 } := by kernel_rfl
theorem t26 : ti Try.prog 26 = some { agg := true, size := 8, bytes := 104, zero := [AV.g (Value.int IntKind.i64 0), AV.g (Value.int IntKind.i64 0), AV.g (Value.int IntKind.i64 0), AV.s [], AV.s [], AV.s [], AV.g (Value.int IntKind.i64 0), AV.g (Value.slice none 0 0)], kind := TK.struct [(0, 3), (1, 3), (2, 3), (3, 9), (4, 9), (5, 9), (6, 3), (7, 25)] } := by kernel_rfl
theorem t27 : ti Try.prog 27 = some { agg := true, size := 8, bytes := 104, zero := [AV.g (Value.int IntKind.i64 0), AV.g (Value.int IntKind.i64 0), AV.g (Value.int IntKind.i64 0), AV.s [], AV.s [], AV.s [], AV.g (Value.int IntKind.i64 0), AV.g (Value.slice none 0 0)], kind := TK.struct [(0, 3), (1, 3), (2, 3), (3, 9), (4, 9), (5, 9), (6, 3), (7, 25)] } := by kernel_rfl
theorem t30 : ti Try.prog 30 = some { agg := false, size := 1, bytes := 24, zero := [AV.g (Value.slice none 0 0)], kind := TK.slice 83 } := by kernel_rfl
theorem t31 : ti Try.prog 31 = some { agg := true, size := 1, bytes := 24, zero := [AV.g (Value.slice none 0 0)], kind := TK.struct [(0, 30)] } := by kernel_rfl
theorem t32 : ti Try.prog 32 = some { agg := true, size := 1, bytes := 24, zero := [AV.g (Value.slice none 0 0)], kind := TK.struct [(0, 30)] } := by kernel_rfl
theorem t36 : ti Try.prog 36 = some { agg := true, size := 8, bytes := 104, zero := [AV.g (Value.int IntKind.i64 0), AV.g (Value.int IntKind.i64 0), AV.g (Value.int IntKind.i64 0), AV.s [], AV.s [], AV.s [], AV.g (Value.int IntKind.i64 0), AV.g (Value.slice none 0 0)], kind := TK.struct [(0, 3), (1, 3), (2, 3), (3, 9), (4, 9), (5, 9), (6, 3), (7, 25)] } := by kernel_rfl
theorem t43 : ti Try.prog 43 = some { agg := false, size := 1, bytes := 24, zero := [AV.g (Value.slice none 0 0)], kind := TK.slice 27 } := by kernel_rfl
theorem t47 : ti Try.prog 47 = some { agg := false, size := 1, bytes := 24, zero := [AV.g (Value.slice none 0 0)], kind := TK.slice 36 } := by kernel_rfl
theorem t54 : ti Try.prog 54 = some { agg := false, size := 1, bytes := 24, zero := [AV.g (Value.slice none 0 0)], kind := TK.slice 141 } := by kernel_rfl
theorem t55 : ti Try.prog 55 = some { agg := true, size := 2, bytes := 48, zero := [AV.g (Value.slice none 0 0), AV.g (Value.slice none 0 0)], kind := TK.struct [(0, 32), (1, 54)] } := by kernel_rfl
theorem t56 : ti Try.prog 56 = some { agg := true, size := 2, bytes := 48, zero := [AV.g (Value.slice none 0 0), AV.g (Value.slice none 0 0)], kind := TK.struct [(0, 32), (1, 54)] } := by kernel_rfl
theorem t61 : ti Try.prog 61 = some { agg := false, size := 1, bytes := 24, zero := [AV.g (Value.slice none 0 0)], kind := TK.slice 102 } := by kernel_rfl
theorem t62 : ti Try.prog 62 = some { agg := false, size := 1, bytes := 24, zero := [AV.g (Value.slice none 0 0)], kind := TK.slice 3 } := by kernel_rfl
theorem t65 : ti Try.prog 65 = some { agg := false, size := 1, bytes := 24, zero := [AV.g (Value.slice none 0 0)], kind := TK.slice 106 } := by kernel_rfl
theorem t81 : ti Try.prog 81 = some { agg := false, size := 1, bytes := 24, zero := [AV.g (Value.slice none 0 0)], kind := TK.slice 121 } := by kernel_rfl
theorem t82 : ti Try.prog 82 = some { agg := true, size := 2, bytes := 40, zero := [AV.s [], AV.g (Value.slice none 0 0)], kind := TK.struct [(0, 9), (1, 81)] } := by kernel_rfl
theorem t83 : ti Try.prog 83 = some { agg := true, size := 2, bytes := 40, zero := [AV.s [], AV.g (Value.slice none 0 0)], kind := TK.struct [(0, 9), (1, 81)] } := by kernel_rfl
theorem t101 : ti Try.prog 101 = some { agg := true, size := 11, bytes := 136, zero := [AV.g (Value.int IntKind.i64 0), AV.g (Value.int IntKind.i64 0), AV.g (Value.int IntKind.i64 0), AV.g (Value.int IntKind.i64 0), AV.g (Value.int IntKind.i64 0), AV.s [], AV.s [], AV.s [], AV.g (Value.int IntKind.i64 0), AV.g (Value.slice none 0 0), AV.s []], kind := TK.struct [(0, 3), (1, 3), (2, 27), (10, 9)] } := by kernel_rfl
theorem t102 : ti Try.prog 102 = some { agg := true, size := 11, bytes := 136, zero := [AV.g (Value.int IntKind.i64 0), AV.g (Value.int IntKind.i64 0), AV.g (Value.int IntKind.i64 0), AV.g (Value.int IntKind.i64 0), AV.g (Value.int IntKind.i64 0), AV.s [], AV.s [], AV.s [], AV.g (Value.int IntKind.i64 0), AV.g (Value.slice none 0 0), AV.s []], kind := TK.struct [(0, 3), (1, 3), (2, 27), (10, 9)] } := by kernel_rfl
theorem t104 : ti Try.prog 104 = some { agg := false, size := 1, bytes := 24, zero := [AV.g (Value.slice none 0 0)], kind := TK.slice 4 } := by kernel_rfl
theorem t105 : ti Try.prog 105 = some { agg := true, size := 11, bytes := 136, zero := [AV.g (Value.int IntKind.i64 0), AV.g (Value.int IntKind.i64 0), AV.g (Value.int IntKind.i64 0), AV.g (Value.int IntKind.i64 0), AV.g (Value.int IntKind.i64 0), AV.s [], AV.s [], AV.s [], AV.g (Value.int IntKind.i64 0), AV.g (Value.slice none 0 0), AV.s []], kind := TK.struct [(0, 3), (1, 3), (2, 36), (10, 9)] } := by kernel_rfl
theorem t106 : ti Try.prog 106 = some { agg := true, size := 11, bytes := 136, zero := [AV.g (Value.int IntKind.i64 0), AV.g (Value.int IntKind.i64 0), AV.g (Value.int IntKind.i64 0), AV.g (Value.int IntKind.i64 0), AV.g (Value.int IntKind.i64 0), AV.s [], AV.s [], AV.s [], AV.g (Value.int IntKind.i64 0), AV.g (Value.slice none 0 0), AV.s []], kind := TK.struct [(0, 3), (1, 3), (2, 36), (10, 9)] } := by kernel_rfl
theorem t115 : ti Try.prog 115 = some { agg := false, size := 1, bytes := 24, zero := [AV.g (Value.slice none 0 0)], kind := TK.slice 157 } := by kernel_rfl
theorem t116 : ti Try.prog 116 = some { agg := true, size := 2, bytes := 40, zero := [AV.s [], AV.g (Value.slice none 0 0)], kind := TK.struct [(0, 9), (1, 115)] } := by kernel_rfl
theorem t117 : ti Try.prog 117 = some { agg := true, size := 2, bytes := 40, zero := [AV.s [], AV.g (Value.slice none 0 0)], kind := TK.struct [(0, 9), (1, 115)] } := by kernel_rfl
theorem t120 : ti Try.prog 120 = some { agg := true, size := 3, bytes := 56, zero := [AV.s [], AV.s [], AV.g (Value.slice none 0 0)], kind := TK.struct [(0, 9), (1, 9), (2, 25)] } := by kernel_rfl
theorem t121 : ti Try.prog 121 = some { agg := true, size := 3, bytes := 56, zero := [AV.s [], AV.s [], AV.g (Value.slice none 0 0)], kind := TK.struct [(0, 9), (1, 9), (2, 25)] } := by kernel_rfl
theorem t130 : ti Try.prog 130 = some { agg := false, size := 1, bytes := 8, zero := [AV.g (Value.pointer none)], kind := TK.ptr 32 } := by kernel_rfl
theorem t134 : ti Try.prog 134 = some { agg := false, size := 1, bytes := 8, zero := [AV.g (Value.pointer none)], kind := TK.ptr 83 } := by kernel_rfl
theorem t137 : ti Try.prog 137 = some { agg := false, size := 1, bytes := 24, zero := [AV.g (Value.slice none 0 0)], kind := TK.slice 5 } := by kernel_rfl
theorem t140 : ti Try.prog 140 = some { agg := true, size := 3, bytes := 32, zero := [AV.g (Value.int IntKind.i64 0), AV.g (Value.int IntKind.i64 0), AV.s []], kind := TK.struct [(0, 3), (1, 3), (2, 9)] } := by kernel_rfl
theorem t141 : ti Try.prog 141 = some { agg := true, size := 3, bytes := 32, zero := [AV.g (Value.int IntKind.i64 0), AV.g (Value.int IntKind.i64 0), AV.s []], kind := TK.struct [(0, 3), (1, 3), (2, 9)] } := by kernel_rfl
theorem t157 : ti Try.prog 157 = some { agg := true, size := 3, bytes := 56, zero := [AV.s [], AV.s [], AV.g (Value.slice none 0 0)], kind := TK.struct [(0, 9), (1, 9), (2, 25)] } := by kernel_rfl
theorem t162 : ti Try.prog 162 = some { agg := true, size := 4, bytes := 40, zero := [AV.g (Value.pointer none), AV.g (Value.pointer none), AV.g (Value.pointer none), AV.s []], kind := TK.struct [(0, 17), (1, 17), (2, 17), (3, 9)] } := by kernel_rfl
theorem t163 : ti Try.prog 163 = some { agg := true, size := 4, bytes := 40, zero := [AV.g (Value.pointer none), AV.g (Value.pointer none), AV.g (Value.pointer none), AV.s []], kind := TK.struct [(0, 17), (1, 17), (2, 17), (3, 9)] } := by kernel_rfl
theorem t164 : ti Try.prog 164 = some { agg := true, size := 0, bytes := 0, zero := [], kind := TK.array 0 16 } := by kernel_rfl
theorem t165 : ti Try.prog 165 = some { agg := true, size := 0, bytes := 0, zero := [], kind := TK.struct [(0, 164)] } := by kernel_rfl
theorem t166 : ti Try.prog 166 = some { agg := true, size := 0, bytes := 0, zero := [], kind := TK.struct [(0, 164)] } := by kernel_rfl
theorem t168 : ti Try.prog 168 = some { agg := false, size := 1, bytes := 4, zero := [AV.g (Value.int IntKind.u32 0)], kind := TK.int IntKind.u32 } := by kernel_rfl
theorem t169 : ti Try.prog 169 = some { agg := false, size := 1, bytes := 1, zero := [AV.g (Value.int IntKind.u8 0)], kind := TK.int IntKind.u8 } := by kernel_rfl
theorem t170 : ti Try.prog 170 = some { agg := false, size := 1, bytes := 1, zero := [AV.g (Value.int IntKind.u8 0)], kind := TK.int IntKind.u8 } := by kernel_rfl
theorem t172 : ti Try.prog 172 = some { agg := false, size := 1, bytes := 8, zero := [AV.g (Value.pointer none)], kind := TK.ptr 5 } := by kernel_rfl
theorem t173 : ti Try.prog 173 = some { agg := false, size := 1, bytes := 4, zero := [AV.g (Value.int IntKind.i32 0)], kind := TK.int IntKind.i32 } := by kernel_rfl
theorem t174 : ti Try.prog 174 = some { agg := false, size := 1, bytes := 4, zero := [AV.g (Value.int IntKind.i32 0)], kind := TK.int IntKind.i32 } := by kernel_rfl
theorem t175 : ti Try.prog 175 = some { agg := true, size := 11, bytes := 48, zero := [AV.g (Value.int IntKind.u64 0), AV.g (Value.int IntKind.u64 0), AV.g (Value.int IntKind.u32 0), AV.g (Value.int IntKind.u8 0), AV.g (Value.int IntKind.u8 0), AV.g (Value.int IntKind.u8 0), AV.g (Value.int IntKind.u8 0), AV.g Value.nilFunc, AV.g (Value.pointer none), AV.g (Value.int IntKind.i32 0), AV.g (Value.int IntKind.i32 0)], kind := TK.struct [(0, 12), (1, 12), (2, 168), (3, 169), (4, 5), (5, 5), (6, 170), (7, 171), (8, 172), (9, 173), (10, 174)] } := by kernel_rfl
theorem t176 : ti Try.prog 176 = some { agg := true, size := 11, bytes := 48, zero := [AV.g (Value.int IntKind.u64 0), AV.g (Value.int IntKind.u64 0), AV.g (Value.int IntKind.u32 0), AV.g (Value.int IntKind.u8 0), AV.g (Value.int IntKind.u8 0), AV.g (Value.int IntKind.u8 0), AV.g (Value.int IntKind.u8 0), AV.g Value.nilFunc, AV.g (Value.pointer none), AV.g (Value.int IntKind.i32 0), AV.g (Value.int IntKind.i32 0)], kind := TK.struct [(0, 12), (1, 12), (2, 168), (3, 169), (4, 5), (5, 5), (6, 170), (7, 171), (8, 172), (9, 173), (10, 174)] } := by kernel_rfl
theorem u_bool : Try.prog.underlying 4 = some .bool := by kernel_rfl
attribute [simp ↓] spl_tt spl_tf spl_ft spl_ff
attribute [simp] creg_nil zsq zsr cO cR cG_bool cG_undef spl_ct spl_cf putC nmC aop ev cv updL zbe upd_upd zbu zbh zbc aLen aBuiltin aBin aIntBin aFieldAddr placeOf aLoad cellsAt aUn aIndexAddr st0 valCells isOne Value.oneCell' aStore setCells List.getElem?_cons_zero List.getElem?_cons_succ Option.getD_some zcf zzv aBuild parts fillA placesOf aField aIndex aSlice optIdx aStrBin aMakeSlice viewCells viewCell arrN frzU capOk aConv aNews aAppend aBuildSlice chunks zzt zzn am0_ss am0_ll zzo zzp am1_ll zzq am1_al am2_gg am2_ss am2_ll am2_nl am2_al zzr zss zst am2s_nn am2s_cc amRs_one zzs amRs_thr zwm zwn zsu KpE KpO KpR KpOR t2 t3 t4 t5 t6 t7 t8 t9 t10 t11 t12 t13 t14 t15 t16 t17 t18 t19 t21 t22 t23 t24 t25 t26 t27 t30 t31 t32 t36 t43 t47 t54 t55 t56 t61 t62 t65 t81 t82 t83 t101 t102 t104 t105 t106 t115 t116 t117 t120 t121 t130 t134 t137 t140 t141 t157 t162 t163 t164 t165 t166 t168 t169 t170 t172 t173 t174 t175 t176 u_bool
attribute [simp] zbk gE tP
end Go.Proofs.Ytmheohnbkaoipaa.Vs
