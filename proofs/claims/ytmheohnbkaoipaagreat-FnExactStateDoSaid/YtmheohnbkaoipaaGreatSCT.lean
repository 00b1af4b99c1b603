import Derived.Test.YtmheohnbkaoipaaGreatVs9
import Derived.Test.YtmheohnbkaoipaaGreatProg
open Go Go.Proofs Go.Proofs.YtmheohnbkaoipaaGreat.Vs
namespace Go.Proofs.YtmheohnbkaoipaaGreat.Vs
set_option linter.all false
theorem mix : Tryz.prog.follows .mixedOrders = true := by kernel_rfl
theorem t2 : ti Tryz.prog 2 = some { agg := false, size := 1, bytes := 8, zero := [AV.g (Value.int IntKind.i64 0)], kind := TK.int IntKind.i64 } := by kernel_rfl
theorem t3 : ti Tryz.prog 3 = some { agg := false, size := 1, bytes := 8, zero := [AV.g (Value.int IntKind.i64 0)], kind := TK.int IntKind.i64 } := by kernel_rfl
theorem t4 : ti Tryz.prog 4 = some { agg := false, size := 1, bytes := 1, zero := [AV.g (Value.bool false)], kind := TK.bool } := by kernel_rfl
theorem t5 : ti Tryz.prog 5 = some { agg := false, size := 1, bytes := 1, zero := [AV.g (Value.int IntKind.u8 0)], kind := TK.int IntKind.u8 } := by kernel_rfl
theorem t6 : ti Tryz.prog 6 = some { agg := false, size := 1, bytes := 1, zero := [AV.g (Value.int IntKind.u8 0)], kind := TK.int IntKind.u8 } := by kernel_rfl
theorem t7 : ti Tryz.prog 7 = some { agg := true, size := 4, bytes := 24, zero := [AV.g (Value.int IntKind.i64 0), AV.g (Value.int IntKind.i64 0), AV.g (Value.bool false), AV.g (Value.int IntKind.u8 0)], kind := TK.struct [(0, 2), (1, 3), (2, 4), (3, 6)] } := by kernel_rfl
theorem t8 : ti Tryz.prog 8 = some { agg := true, size := 4, bytes := 24, zero := [AV.g (Value.int IntKind.i64 0), AV.g (Value.int IntKind.i64 0), AV.g (Value.bool false), AV.g (Value.int IntKind.u8 0)], kind := TK.struct [(0, 2), (1, 3), (2, 4), (3, 6)] } := by kernel_rfl
theorem t9 : ti Tryz.prog 9 = some { agg := false, size := 1, bytes := 16, zero := [AV.s []], kind := TK.str } := by kernel_rfl
theorem t10 : ti Tryz.prog 10 = some { agg := false, size := 1, bytes := 16, zero := [AV.s []], kind := TK.str } := by kernel_rfl
theorem t11 : ti Tryz.prog 11 = some { agg := false, size := 1, bytes := 16, zero := [AV.s []], kind := TK.str } := by kernel_rfl
theorem t12 : ti Tryz.prog 12 = some { agg := false, size := 1, bytes := 8, zero := [AV.g (Value.int IntKind.u64 0)], kind := TK.int IntKind.u64 } := by kernel_rfl
theorem t13 : ti Tryz.prog 13 = some { agg := true, size := 2, bytes := 24, zero := [AV.s [], AV.g (Value.int IntKind.u64 0)], kind := TK.struct [(0, 9), (1, 12)] } := by kernel_rfl
theorem t14 : ti Tryz.prog 14 = some { agg := true, size := 2, bytes := 24, zero := [AV.s [], AV.g (Value.int IntKind.u64 0)], kind := TK.struct [(0, 9), (1, 12)] } := by kernel_rfl
theorem t15 : ti Tryz.prog 15 = some { agg := false, size := 1, bytes := 8, zero := [AV.g (Value.pointer none)], kind := TK.ptr 131 } := by kernel_rfl
theorem t16 : ti Tryz.prog 16 = some { agg := false, size := 1, bytes := 8, zero := [AV.g (Value.pointer none)], kind := TK.ptr 134 } := by kernel_rfl
theorem t17 : ti Tryz.prog 17 = some { agg := false, size := 1, bytes := 8, zero := [AV.g (Value.pointer none)], kind := TK.ptr 144 } := by kernel_rfl
theorem t18 : ti Tryz.prog 18 = some { agg := true, size := 1, bytes := 8, zero := [AV.g (Value.pointer none)], kind := TK.struct [(0, 17)] } := by kernel_rfl
theorem t19 : ti Tryz.prog 19 = some { agg := true, size := 1, bytes := 8, zero := [AV.g (Value.pointer none)], kind := TK.struct [(0, 17)] } := by kernel_rfl
theorem t21 : ti Tryz.prog 21 = some { agg := false, size := 1, bytes := 4, zero := [AV.g (Value.int IntKind.i32 0)], kind := TK.int IntKind.i32 } := by kernel_rfl
theorem t22 : ti Tryz.prog 22 = some { agg := false, size := 1, bytes := 24, zero := [AV.g (Value.slice none 0 0)], kind := TK.slice 100 } := by kernel_rfl
theorem t23 : ti Tryz.prog 23 = some { agg := true, size := 1, bytes := 24, zero := [AV.g (Value.slice none 0 0)], kind := TK.struct [(0, 22)] } := by kernel_rfl
theorem t24 : ti Tryz.prog 24 = some { agg := true, size := 1, bytes := 24, zero := [AV.g (Value.slice none 0 0)], kind := TK.struct [(0, 22)] } := by kernel_rfl
theorem t25 : ti Tryz.prog 25 = some { agg := false, size := 1, bytes := 24, zero := [AV.g (Value.slice none 0 0)], kind := TK.slice 73 } := by kernel_rfl
theorem t26 : ti Tryz.prog 26 = some { agg := true, size := 2, bytes := 48, zero := [AV.g (Value.slice none 0 0), AV.g (Value.slice none 0 0)], kind := TK.struct [(0, 24), (1, 25)] } := by kernel_rfl
theorem t27 : ti Tryz.prog 27 = some { agg := true, size := 2, bytes := 48, zero := [AV.g (Value.slice none 0 0), AV.g (Value.slice none 0 0)], kind := TK.struct [(0, 24), (1, 25)] } := by kernel_rfl
theorem t28 : ti Tryz.prog 28 = some { agg := false, size := 1, bytes := 24, zero := [AV.g (Value.slice none 0 0)], kind := TK.slice 9 } := by kernel_rfl
theorem t29 : ti Tryz.prog 29 = some { agg := true, size := 8, bytes := 104, zero := [AV.g (Value.int IntKind.i64 0), AV.g (Value.int IntKind.i64 0), AV.g (Value.int IntKind.i64 0), AV.s [], AV.s [], AV.s [], AV.g (Value.int IntKind.i64 0), AV.g (Value.slice none 0 0)], kind := TK.struct [(0, 3), (1, 3), (2, 3), (3, 9), (4, 9), (5, 9), (6, 3), (7, 28)] } := by kernel_rfl
theorem t30 : ti Tryz.prog 30 = some { agg := true, size := 8, bytes := 104, zero := [AV.g (Value.int IntKind.i64 0), AV.g (Value.int IntKind.i64 0), AV.g (Value.int IntKind.i64 0), AV.s [], AV.s [], AV.s [], AV.g (Value.int IntKind.i64 0), AV.g (Value.slice none 0 0)], kind := TK.struct [(0, 3), (1, 3), (2, 3), (3, 9), (4, 9), (5, 9), (6, 3), (7, 28)] } := by kernel_rfl
theorem t33 : ti Tryz.prog 33 = some { agg := false, size := 1, bytes := 24, zero := [AV.g (Value.slice none 0 0)], kind := TK.slice 81 } := by kernel_rfl
theorem t34 : ti Tryz.prog 34 = some { agg := true, size := 1, bytes := 24, zero := [AV.g (Value.slice none 0 0)], kind := TK.struct [(0, 33)] } := by kernel_rfl
theorem t35 : ti Tryz.prog 35 = some { agg := true, size := 1, bytes := 24, zero := [AV.g (Value.slice none 0 0)], kind := TK.struct [(0, 33)] } := by kernel_rfl
theorem t36 : ti Tryz.prog 36 = some { agg := false, size := 1, bytes := 24, zero := [AV.g (Value.slice none 0 0)], kind := TK.slice 56 } := by kernel_rfl
theorem t37 : ti Tryz.prog 37 = some { agg := true, size := 2, bytes := 48, zero := [AV.g (Value.slice none 0 0), AV.g (Value.slice none 0 0)], kind := TK.struct [(0, 35), (1, 36)] } := by kernel_rfl
theorem t38 : ti Tryz.prog 38 = some { agg := true, size := 2, bytes := 48, zero := [AV.g (Value.slice none 0 0), AV.g (Value.slice none 0 0)], kind := TK.struct [(0, 35), (1, 36)] } := by kernel_rfl
theorem t42 : ti Tryz.prog 42 = some { agg := true, size := 8, bytes := 104, zero := [AV.g (Value.int IntKind.i64 0), AV.g (Value.int IntKind.i64 0), AV.g (Value.int IntKind.i64 0), AV.s [], AV.s [], AV.s [], AV.g (Value.int IntKind.i64 0), AV.g (Value.slice none 0 0)], kind := TK.struct [(0, 3), (1, 3), (2, 3), (3, 9), (4, 9), (5, 9), (6, 3), (7, 28)] } := by kernel_rfl
theorem t55 : ti Tryz.prog 55 = some { agg := true, size := 3, bytes := 32, zero := [AV.g (Value.int IntKind.i64 0), AV.g (Value.int IntKind.i64 0), AV.s []], kind := TK.struct [(0, 3), (1, 3), (2, 9)] } := by kernel_rfl
theorem t56 : ti Tryz.prog 56 = some { agg := true, size := 3, bytes := 32, zero := [AV.g (Value.int IntKind.i64 0), AV.g (Value.int IntKind.i64 0), AV.s []], kind := TK.struct [(0, 3), (1, 3), (2, 9)] } := by kernel_rfl
theorem t73 : ti Tryz.prog 73 = some { agg := true, size := 3, bytes := 32, zero := [AV.g (Value.int IntKind.i64 0), AV.g (Value.int IntKind.i64 0), AV.s []], kind := TK.struct [(0, 3), (1, 3), (2, 9)] } := by kernel_rfl
theorem t79 : ti Tryz.prog 79 = some { agg := false, size := 1, bytes := 24, zero := [AV.g (Value.slice none 0 0)], kind := TK.slice 104 } := by kernel_rfl
theorem t80 : ti Tryz.prog 80 = some { agg := true, size := 2, bytes := 40, zero := [AV.s [], AV.g (Value.slice none 0 0)], kind := TK.struct [(0, 9), (1, 79)] } := by kernel_rfl
theorem t81 : ti Tryz.prog 81 = some { agg := true, size := 2, bytes := 40, zero := [AV.s [], AV.g (Value.slice none 0 0)], kind := TK.struct [(0, 9), (1, 79)] } := by kernel_rfl
theorem t98 : ti Tryz.prog 98 = some { agg := false, size := 1, bytes := 24, zero := [AV.g (Value.slice none 0 0)], kind := TK.slice 126 } := by kernel_rfl
theorem t99 : ti Tryz.prog 99 = some { agg := true, size := 2, bytes := 40, zero := [AV.s [], AV.g (Value.slice none 0 0)], kind := TK.struct [(0, 9), (1, 98)] } := by kernel_rfl
theorem t100 : ti Tryz.prog 100 = some { agg := true, size := 2, bytes := 40, zero := [AV.s [], AV.g (Value.slice none 0 0)], kind := TK.struct [(0, 9), (1, 98)] } := by kernel_rfl
theorem t103 : ti Tryz.prog 103 = some { agg := true, size := 3, bytes := 56, zero := [AV.s [], AV.s [], AV.g (Value.slice none 0 0)], kind := TK.struct [(0, 9), (1, 9), (2, 28)] } := by kernel_rfl
theorem t104 : ti Tryz.prog 104 = some { agg := true, size := 3, bytes := 56, zero := [AV.s [], AV.s [], AV.g (Value.slice none 0 0)], kind := TK.struct [(0, 9), (1, 9), (2, 28)] } := by kernel_rfl
theorem t111 : ti Tryz.prog 111 = some { agg := false, size := 1, bytes := 8, zero := [AV.g (Value.pointer none)], kind := TK.ptr 35 } := by kernel_rfl
theorem t115 : ti Tryz.prog 115 = some { agg := false, size := 1, bytes := 8, zero := [AV.g (Value.pointer none)], kind := TK.ptr 81 } := by kernel_rfl
theorem t118 : ti Tryz.prog 118 = some { agg := false, size := 1, bytes := 24, zero := [AV.g (Value.slice none 0 0)], kind := TK.slice 5 } := by kernel_rfl
theorem t126 : ti Tryz.prog 126 = some { agg := true, size := 3, bytes := 56, zero := [AV.s [], AV.s [], AV.g (Value.slice none 0 0)], kind := TK.struct [(0, 9), (1, 9), (2, 28)] } := by kernel_rfl
theorem t130 : ti Tryz.prog 130 = some { agg := true, size := 4, bytes := 40, zero := [AV.g (Value.pointer none), AV.g (Value.pointer none), AV.g (Value.pointer none), AV.s []], kind := TK.struct [(0, 17), (1, 17), (2, 17), (3, 9)] } := by kernel_rfl
theorem t131 : ti Tryz.prog 131 = some { agg := true, size := 4, bytes := 40, zero := [AV.g (Value.pointer none), AV.g (Value.pointer none), AV.g (Value.pointer none), AV.s []], kind := TK.struct [(0, 17), (1, 17), (2, 17), (3, 9)] } := by kernel_rfl
theorem t132 : ti Tryz.prog 132 = some { agg := true, size := 0, bytes := 0, zero := [], kind := TK.array 0 16 } := by kernel_rfl
theorem t133 : ti Tryz.prog 133 = some { agg := true, size := 0, bytes := 0, zero := [], kind := TK.struct [(0, 132)] } := by kernel_rfl
theorem t134 : ti Tryz.prog 134 = some { agg := true, size := 0, bytes := 0, zero := [], kind := TK.struct [(0, 132)] } := by kernel_rfl
theorem t136 : ti Tryz.prog 136 = some { agg := false, size := 1, bytes := 4, zero := [AV.g (Value.int IntKind.u32 0)], kind := TK.int IntKind.u32 } := by kernel_rfl
theorem t137 : ti Tryz.prog 137 = some { agg := false, size := 1, bytes := 1, zero := [AV.g (Value.int IntKind.u8 0)], kind := TK.int IntKind.u8 } := by kernel_rfl
theorem t138 : ti Tryz.prog 138 = some { agg := false, size := 1, bytes := 1, zero := [AV.g (Value.int IntKind.u8 0)], kind := TK.int IntKind.u8 } := by kernel_rfl
theorem t140 : ti Tryz.prog 140 = some { agg := false, size := 1, bytes := 8, zero := [AV.g (Value.pointer none)], kind := TK.ptr 5 } := by kernel_rfl
theorem t141 : ti Tryz.prog 141 = some { agg := false, size := 1, bytes := 4, zero := [AV.g (Value.int IntKind.i32 0)], kind := TK.int IntKind.i32 } := by kernel_rfl
theorem t142 : ti Tryz.prog 142 = some { agg := false, size := 1, bytes := 4, zero := [AV.g (Value.int IntKind.i32 0)], kind := TK.int IntKind.i32 } := by kernel_rfl
theorem t143 : ti Tryz.prog 143 = some { agg := true, size := 11, bytes := 48, zero := [AV.g (Value.int IntKind.u64 0), AV.g (Value.int IntKind.u64 0), AV.g (Value.int IntKind.u32 0), AV.g (Value.int IntKind.u8 0), AV.g (Value.int IntKind.u8 0), AV.g (Value.int IntKind.u8 0), AV.g (Value.int IntKind.u8 0), AV.g Value.nilFunc, AV.g (Value.pointer none), AV.g (Value.int IntKind.i32 0), AV.g (Value.int IntKind.i32 0)], kind := TK.struct [(0, 12), (1, 12), (2, 136), (3, 137), (4, 5), (5, 5), (6, 138), (7, 139), (8, 140), (9, 141), (10, 142)] } := by kernel_rfl
theorem t144 : ti Tryz.prog 144 = some { agg := true, size := 11, bytes := 48, zero := [AV.g (Value.int IntKind.u64 0), AV.g (Value.int IntKind.u64 0), AV.g (Value.int IntKind.u32 0), AV.g (Value.int IntKind.u8 0), AV.g (Value.int IntKind.u8 0), AV.g (Value.int IntKind.u8 0), AV.g (Value.int IntKind.u8 0), AV.g Value.nilFunc, AV.g (Value.pointer none), AV.g (Value.int IntKind.i32 0), AV.g (Value.int IntKind.i32 0)], kind := TK.struct [(0, 12), (1, 12), (2, 136), (3, 137), (4, 5), (5, 5), (6, 138), (7, 139), (8, 140), (9, 141), (10, 142)] } := by kernel_rfl
theorem u_bool : Tryz.prog.underlying 4 = some .bool := by kernel_rfl
attribute [simp ↓] spl_tt spl_tf spl_ft spl_ff
attribute [simp] creg_nil zsg zsh cO cR cG_bool cG_undef spl_ct spl_cf putC nmC aop ev cv updL zbe upd_upd zbv zbj zbc aLen aBuiltin aBin aIntBin aFieldAddr placeOf aLoad cellsAt aUn aIndexAddr st0 valCells isOne Value.oneCell' aStore setCells List.getElem?_cons_zero List.getElem?_cons_succ Option.getD_some zcl zzi aBuild parts fillA placesOf aField aIndex aSlice optIdx aStrBin aMakeSlice viewCells viewCell arrN frzU capOk aConv aNews aAppend aBuildSlice chunks zzg zza am0_ss am0_ll zzb zzc am1_ll zzd am1_al am2_gg am2_ss am2_ll am2_nl am2_al zze zsi zsj am2s_nn am2s_cc amRs_one zzf amRs_thr zv9 zwa zsk KpE KpO KpR KpOR t2 t3 t4 t5 t6 t7 t8 t9 t10 t11 t12 t13 t14 t15 t16 t17 t18 t19 t21 t22 t23 t24 t25 t26 t27 t28 t29 t30 t33 t34 t35 t36 t37 t38 t42 t55 t56 t73 t79 t80 t81 t98 t99 t100 t103 t104 t111 t115 t118 t126 t130 t131 t132 t133 t134 t136 t137 t138 t140 t141 t142 t143 t144 u_bool
attribute [simp] zbi gE tP
end Go.Proofs.YtmheohnbkaoipaaGreat.Vs
