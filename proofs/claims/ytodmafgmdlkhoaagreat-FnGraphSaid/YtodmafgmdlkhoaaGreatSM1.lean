import Derived.Test.YtodmafgmdlkhoaaGreatVs10
import Derived.Test.YtodmafgmdlkhoaaGreatProg
section
open Go Go.Proofs Go.Proofs.YtodmafgmdlkhoaaGreat.Vs
namespace Go.Proofs.YtodmafgmdlkhoaaGreat.Vs
set_option linter.all false
theorem mix:Tryz.prog.follows .mixedOrders=true:=by kernel_rfl
theorem t2:ti Tryz.prog 2=some { agg:=false,size:=1,bytes:=8,zero:=[AV.g (Value.int IntKind.i64 0)],kind:=TK.int IntKind.i64 }:=by kernel_rfl
theorem t3:ti Tryz.prog 3=some { agg:=false,size:=1,bytes:=8,zero:=[AV.g (Value.int IntKind.i64 0)],kind:=TK.int IntKind.i64 }:=by kernel_rfl
theorem t4:ti Tryz.prog 4=some { agg:=false,size:=1,bytes:=1,zero:=[AV.g (Value.bool false)],kind:=TK.bool }:=by kernel_rfl
theorem t5:ti Tryz.prog 5=some { agg:=false,size:=1,bytes:=1,zero:=[AV.g (Value.int IntKind.u8 0)],kind:=TK.int IntKind.u8 }:=by kernel_rfl
theorem t6:ti Tryz.prog 6=some { agg:=false,size:=1,bytes:=1,zero:=[AV.g (Value.int IntKind.u8 0)],kind:=TK.int IntKind.u8 }:=by kernel_rfl
theorem t7:ti Tryz.prog 7=some { agg:=true,size:=4,bytes:=24,zero:=[AV.g (Value.int IntKind.i64 0),AV.g (Value.int IntKind.i64 0),AV.g (Value.bool false),AV.g (Value.int IntKind.u8 0)],kind:=TK.struct [(0,2),(1,3),(2,4),(3,6)] }:=by kernel_rfl
theorem t8:ti Tryz.prog 8=some { agg:=true,size:=4,bytes:=24,zero:=[AV.g (Value.int IntKind.i64 0),AV.g (Value.int IntKind.i64 0),AV.g (Value.bool false),AV.g (Value.int IntKind.u8 0)],kind:=TK.struct [(0,2),(1,3),(2,4),(3,6)] }:=by kernel_rfl
theorem t9:ti Tryz.prog 9=some { agg:=false,size:=1,bytes:=16,zero:=[AV.s []],kind:=TK.str }:=by kernel_rfl
theorem t10:ti Tryz.prog 10=some { agg:=false,size:=1,bytes:=16,zero:=[AV.s []],kind:=TK.str }:=by kernel_rfl
theorem t11:ti Tryz.prog 11=some { agg:=false,size:=1,bytes:=16,zero:=[AV.s []],kind:=TK.str }:=by kernel_rfl
theorem t12:ti Tryz.prog 12=some { agg:=false,size:=1,bytes:=8,zero:=[AV.g (Value.int IntKind.u64 0)],kind:=TK.int IntKind.u64 }:=by kernel_rfl
theorem t13:ti Tryz.prog 13=some { agg:=true,size:=2,bytes:=24,zero:=[AV.s [],AV.g (Value.int IntKind.u64 0)],kind:=TK.struct [(0,9),(1,12)] }:=by kernel_rfl
theorem t14:ti Tryz.prog 14=some { agg:=true,size:=2,bytes:=24,zero:=[AV.s [],AV.g (Value.int IntKind.u64 0)],kind:=TK.struct [(0,9),(1,12)] }:=by kernel_rfl
theorem t15:ti Tryz.prog 15=some { agg:=false,size:=1,bytes:=8,zero:=[AV.g (Value.pointer none)],kind:=TK.ptr 180 }:=by kernel_rfl
theorem t16:ti Tryz.prog 16=some { agg:=false,size:=1,bytes:=8,zero:=[AV.g (Value.pointer none)],kind:=TK.ptr 183 }:=by kernel_rfl
theorem t17:ti Tryz.prog 17=some { agg:=false,size:=1,bytes:=8,zero:=[AV.g (Value.pointer none)],kind:=TK.ptr 192 }:=by kernel_rfl
theorem t18:ti Tryz.prog 18=some { agg:=true,size:=1,bytes:=8,zero:=[AV.g (Value.pointer none)],kind:=TK.struct [(0,17)] }:=by kernel_rfl
theorem t19:ti Tryz.prog 19=some { agg:=true,size:=1,bytes:=8,zero:=[AV.g (Value.pointer none)],kind:=TK.struct [(0,17)] }:=by kernel_rfl
theorem t21:ti Tryz.prog 21=some { agg:=false,size:=1,bytes:=4,zero:=[AV.g (Value.int IntKind.i32 0)],kind:=TK.int IntKind.i32 }:=by kernel_rfl
theorem t22:ti Tryz.prog 22=some { agg:=false,size:=1,bytes:=24,zero:=[AV.g (Value.slice none 0 0)],kind:=TK.slice 5 }:=by kernel_rfl
theorem t24:ti Tryz.prog 24=some { agg:=false,size:=1,bytes:=24,zero:=[AV.g (Value.slice none 0 0)],kind:=TK.slice 37 }:=by kernel_rfl
theorem t26:ti Tryz.prog 26=some { agg:=false,size:=1,bytes:=24,zero:=[AV.g (Value.slice none 0 0)],kind:=TK.slice 31 }:=by kernel_rfl
theorem t30:ti Tryz.prog 30=some { agg:=true,size:=2,bytes:=16,zero:=[AV.g (Value.int IntKind.i64 0),AV.g (Value.int IntKind.i64 0)],kind:=TK.struct [(0,3),(1,3)] }:=by kernel_rfl
theorem t31:ti Tryz.prog 31=some { agg:=true,size:=2,bytes:=16,zero:=[AV.g (Value.int IntKind.i64 0),AV.g (Value.int IntKind.i64 0)],kind:=TK.struct [(0,3),(1,3)] }:=by kernel_rfl
theorem t33:ti Tryz.prog 33=some { agg:=false,size:=1,bytes:=24,zero:=[AV.g (Value.slice none 0 0)],kind:=TK.slice 9 }:=by kernel_rfl
theorem t34:ti Tryz.prog 34=some { agg:=true,size:=8,bytes:=104,zero:=[AV.g (Value.int IntKind.i64 0),AV.g (Value.int IntKind.i64 0),AV.g (Value.int IntKind.i64 0),AV.s [],AV.s [],AV.s [],AV.g (Value.int IntKind.i64 0),AV.g (Value.slice none 0 0)],kind:=TK.struct [(0,3),(1,3),(2,3),(3,9),(4,9),(5,9),(6,3),(7,33)] }:=by kernel_rfl
theorem t35:ti Tryz.prog 35=some { agg:=true,size:=8,bytes:=104,zero:=[AV.g (Value.int IntKind.i64 0),AV.g (Value.int IntKind.i64 0),AV.g (Value.int IntKind.i64 0),AV.s [],AV.s [],AV.s [],AV.g (Value.int IntKind.i64 0),AV.g (Value.slice none 0 0)],kind:=TK.struct [(0,3),(1,3),(2,3),(3,9),(4,9),(5,9),(6,3),(7,33)] }:=by kernel_rfl
theorem t36:ti Tryz.prog 36=some { agg:=true,size:=16,bytes:=184,zero:=[AV.g (Value.int IntKind.i64 0),AV.g (Value.int IntKind.i64 0),AV.g (Value.int IntKind.i64 0),AV.g (Value.int IntKind.i64 0),AV.g (Value.int IntKind.i64 0),AV.g (Value.int IntKind.i64 0),AV.g (Value.int IntKind.i64 0),AV.g (Value.int IntKind.i64 0),AV.s [],AV.s [],AV.s [],AV.g (Value.int IntKind.i64 0),AV.g (Value.slice none 0 0),AV.g (Value.int IntKind.i64 0),AV.g (Value.slice none 0 0),AV.g (Value.bool false)],kind:=TK.struct [(0,31),(2,3),(3,3),(4,3),(5,35),(13,3),(14,26),(15,4)] }:=by kernel_rfl
theorem t37:ti Tryz.prog 37=some { agg:=true,size:=16,bytes:=184,zero:=[AV.g (Value.int IntKind.i64 0),AV.g (Value.int IntKind.i64 0),AV.g (Value.int IntKind.i64 0),AV.g (Value.int IntKind.i64 0),AV.g (Value.int IntKind.i64 0),AV.g (Value.int IntKind.i64 0),AV.g (Value.int IntKind.i64 0),AV.g (Value.int IntKind.i64 0),AV.s [],AV.s [],AV.s [],AV.g (Value.int IntKind.i64 0),AV.g (Value.slice none 0 0),AV.g (Value.int IntKind.i64 0),AV.g (Value.slice none 0 0),AV.g (Value.bool false)],kind:=TK.struct [(0,31),(2,3),(3,3),(4,3),(5,35),(13,3),(14,26),(15,4)] }:=by kernel_rfl
theorem t40:ti Tryz.prog 40=some { agg:=false,size:=1,bytes:=24,zero:=[AV.g (Value.slice none 0 0)],kind:=TK.slice 26 }:=by kernel_rfl
theorem t42:ti Tryz.prog 42=some { agg:=false,size:=1,bytes:=24,zero:=[AV.g (Value.slice none 0 0)],kind:=TK.slice 35 }:=by kernel_rfl
theorem t44:ti Tryz.prog 44=some { agg:=false,size:=1,bytes:=24,zero:=[AV.g (Value.slice none 0 0)],kind:=TK.slice 82 }:=by kernel_rfl
theorem t45:ti Tryz.prog 45=some { agg:=true,size:=1,bytes:=24,zero:=[AV.g (Value.slice none 0 0)],kind:=TK.struct [(0,44)] }:=by kernel_rfl
theorem t46:ti Tryz.prog 46=some { agg:=true,size:=1,bytes:=24,zero:=[AV.g (Value.slice none 0 0)],kind:=TK.struct [(0,44)] }:=by kernel_rfl
theorem t55:ti Tryz.prog 55=some { agg:=false,size:=1,bytes:=24,zero:=[AV.g (Value.slice none 0 0)],kind:=TK.slice 98 }:=by kernel_rfl
theorem t56:ti Tryz.prog 56=some { agg:=true,size:=2,bytes:=48,zero:=[AV.g (Value.slice none 0 0),AV.g (Value.slice none 0 0)],kind:=TK.struct [(0,46),(1,55)] }:=by kernel_rfl
theorem t57:ti Tryz.prog 57=some { agg:=true,size:=2,bytes:=48,zero:=[AV.g (Value.slice none 0 0),AV.g (Value.slice none 0 0)],kind:=TK.struct [(0,46),(1,55)] }:=by kernel_rfl
theorem t61:ti Tryz.prog 61=some { agg:=false,size:=1,bytes:=8,zero:=[AV.g (Value.pointer none)],kind:=TK.ptr 103 }:=by kernel_rfl
theorem t80:ti Tryz.prog 80=some { agg:=false,size:=1,bytes:=24,zero:=[AV.g (Value.slice none 0 0)],kind:=TK.slice 88 }:=by kernel_rfl
theorem t81:ti Tryz.prog 81=some { agg:=true,size:=2,bytes:=40,zero:=[AV.s [],AV.g (Value.slice none 0 0)],kind:=TK.struct [(0,9),(1,80)] }:=by kernel_rfl
theorem t82:ti Tryz.prog 82=some { agg:=true,size:=2,bytes:=40,zero:=[AV.s [],AV.g (Value.slice none 0 0)],kind:=TK.struct [(0,9),(1,80)] }:=by kernel_rfl
theorem t87:ti Tryz.prog 87=some { agg:=true,size:=3,bytes:=56,zero:=[AV.s [],AV.s [],AV.g (Value.slice none 0 0)],kind:=TK.struct [(0,9),(1,9),(2,33)] }:=by kernel_rfl
theorem t88:ti Tryz.prog 88=some { agg:=true,size:=3,bytes:=56,zero:=[AV.s [],AV.s [],AV.g (Value.slice none 0 0)],kind:=TK.struct [(0,9),(1,9),(2,33)] }:=by kernel_rfl
theorem t97:ti Tryz.prog 97=some { agg:=true,size:=3,bytes:=32,zero:=[AV.g (Value.int IntKind.i64 0),AV.g (Value.int IntKind.i64 0),AV.s []],kind:=TK.struct [(0,3),(1,3),(2,9)] }:=by kernel_rfl
theorem t98:ti Tryz.prog 98=some { agg:=true,size:=3,bytes:=32,zero:=[AV.g (Value.int IntKind.i64 0),AV.g (Value.int IntKind.i64 0),AV.s []],kind:=TK.struct [(0,3),(1,3),(2,9)] }:=by kernel_rfl
theorem t102:ti Tryz.prog 102=some { agg:=true,size:=3,bytes:=40,zero:=[AV.g (Value.slice none 0 0),AV.g (Value.int IntKind.i64 0),AV.g (Value.int IntKind.i64 0)],kind:=TK.struct [(0,22),(1,3),(2,3)] }:=by kernel_rfl
theorem t103:ti Tryz.prog 103=some { agg:=true,size:=3,bytes:=40,zero:=[AV.g (Value.slice none 0 0),AV.g (Value.int IntKind.i64 0),AV.g (Value.int IntKind.i64 0)],kind:=TK.struct [(0,22),(1,3),(2,3)] }:=by kernel_rfl
theorem t113:ti Tryz.prog 113=some { agg:=false,size:=1,bytes:=8,zero:=[AV.g (Value.int IntKind.u64 0)],kind:=TK.int IntKind.u64 }:=by kernel_rfl
theorem t120:ti Tryz.prog 120=some { agg:=false,size:=1,bytes:=24,zero:=[AV.g (Value.slice none 0 0)],kind:=TK.slice 3 }:=by kernel_rfl
theorem t124:ti Tryz.prog 124=some { agg:=false,size:=1,bytes:=8,zero:=[AV.g (Value.pointer none)],kind:=TK.ptr 46 }:=by kernel_rfl
theorem t127:ti Tryz.prog 127=some { agg:=false,size:=1,bytes:=8,zero:=[AV.g (Value.pointer none)],kind:=TK.ptr 82 }:=by kernel_rfl
theorem t141:ti Tryz.prog 141=some { agg:=false,size:=1,bytes:=8,zero:=[AV.g (Value.int IntKind.i64 0)],kind:=TK.int IntKind.i64 }:=by kernel_rfl
theorem t149:ti Tryz.prog 149=some { agg:=false,size:=1,bytes:=4,zero:=[AV.g (Value.int IntKind.u32 0)],kind:=TK.int IntKind.u32 }:=by kernel_rfl
theorem t151:ti Tryz.prog 151=some { agg:=false,size:=1,bytes:=8,zero:=[AV.g (Value.int IntKind.u64 0)],kind:=TK.int IntKind.u64 }:=by kernel_rfl
theorem t162:ti Tryz.prog 162=some { agg:=false,size:=1,bytes:=8,zero:=[AV.g (Value.int IntKind.u64 0)],kind:=TK.int IntKind.u64 }:=by kernel_rfl
theorem t166:ti Tryz.prog 166=some { agg:=false,size:=1,bytes:=8,zero:=[AV.g (Value.pointer none)],kind:=TK.ptr 3 }:=by kernel_rfl
theorem t172:ti Tryz.prog 172=some { agg:=false,size:=1,bytes:=8,zero:=[AV.g (Value.pointer none)],kind:=TK.ptr 162 }:=by kernel_rfl
theorem t179:ti Tryz.prog 179=some { agg:=true,size:=4,bytes:=40,zero:=[AV.g (Value.pointer none),AV.g (Value.pointer none),AV.g (Value.pointer none),AV.s []],kind:=TK.struct [(0,17),(1,17),(2,17),(3,9)] }:=by kernel_rfl
theorem t180:ti Tryz.prog 180=some { agg:=true,size:=4,bytes:=40,zero:=[AV.g (Value.pointer none),AV.g (Value.pointer none),AV.g (Value.pointer none),AV.s []],kind:=TK.struct [(0,17),(1,17),(2,17),(3,9)] }:=by kernel_rfl
theorem t181:ti Tryz.prog 181=some { agg:=true,size:=0,bytes:=0,zero:=[],kind:=TK.array 0 16 }:=by kernel_rfl
theorem t182:ti Tryz.prog 182=some { agg:=true,size:=0,bytes:=0,zero:=[],kind:=TK.struct [(0,181)] }:=by kernel_rfl
theorem t183:ti Tryz.prog 183=some { agg:=true,size:=0,bytes:=0,zero:=[],kind:=TK.struct [(0,181)] }:=by kernel_rfl
theorem t185:ti Tryz.prog 185=some { agg:=false,size:=1,bytes:=1,zero:=[AV.g (Value.int IntKind.u8 0)],kind:=TK.int IntKind.u8 }:=by kernel_rfl
theorem t186:ti Tryz.prog 186=some { agg:=false,size:=1,bytes:=1,zero:=[AV.g (Value.int IntKind.u8 0)],kind:=TK.int IntKind.u8 }:=by kernel_rfl
theorem t188:ti Tryz.prog 188=some { agg:=false,size:=1,bytes:=8,zero:=[AV.g (Value.pointer none)],kind:=TK.ptr 5 }:=by kernel_rfl
theorem t189:ti Tryz.prog 189=some { agg:=false,size:=1,bytes:=4,zero:=[AV.g (Value.int IntKind.i32 0)],kind:=TK.int IntKind.i32 }:=by kernel_rfl
theorem t190:ti Tryz.prog 190=some { agg:=false,size:=1,bytes:=4,zero:=[AV.g (Value.int IntKind.i32 0)],kind:=TK.int IntKind.i32 }:=by kernel_rfl
theorem t191:ti Tryz.prog 191=some { agg:=true,size:=11,bytes:=48,zero:=[AV.g (Value.int IntKind.u64 0),AV.g (Value.int IntKind.u64 0),AV.g (Value.int IntKind.u32 0),AV.g (Value.int IntKind.u8 0),AV.g (Value.int IntKind.u8 0),AV.g (Value.int IntKind.u8 0),AV.g (Value.int IntKind.u8 0),AV.g Value.nilFunc,AV.g (Value.pointer none),AV.g (Value.int IntKind.i32 0),AV.g (Value.int IntKind.i32 0)],kind:=TK.struct [(0,12),(1,12),(2,149),(3,185),(4,5),(5,5),(6,186),(7,187),(8,188),(9,189),(10,190)] }:=by kernel_rfl
theorem t192:ti Tryz.prog 192=some { agg:=true,size:=11,bytes:=48,zero:=[AV.g (Value.int IntKind.u64 0),AV.g (Value.int IntKind.u64 0),AV.g (Value.int IntKind.u32 0),AV.g (Value.int IntKind.u8 0),AV.g (Value.int IntKind.u8 0),AV.g (Value.int IntKind.u8 0),AV.g (Value.int IntKind.u8 0),AV.g Value.nilFunc,AV.g (Value.pointer none),AV.g (Value.int IntKind.i32 0),AV.g (Value.int IntKind.i32 0)],kind:=TK.struct [(0,12),(1,12),(2,149),(3,185),(4,5),(5,5),(6,186),(7,187),(8,188),(9,189),(10,190)] }:=by kernel_rfl
theorem u_bool:Tryz.prog.underlying 4=some .bool:=by kernel_rfl
attribute [simp ↓] spl_tt spl_tf spl_ft spl_ff
attribute [simp] creg_nil zvw zvx cO cR cG_bool cG_undef spl_ct spl_cf putC nmC aop ev cv updL zbt upd_upd zbk zb0 zbp aLen aBuiltin aBin aIntBin aFieldAddr placeOf aLoad cellsAt aUn aIndexAddr st0 valCells isOne Value.oneCell' aStore setCells List.getElem?_cons_zero List.getElem?_cons_succ Option.getD_some zca formOb_r1 aBuild parts fillA placesOf aField aIndex aSlice optIdx aStrBin aMakeSlice viewCells viewCell arrN frzU capOk aConv aNews aAppend aBuildSlice chunks endR_some am0_gg am0_ss am0_ll am1_gg am1_ss am1_ll am1_nl am1_al am2_gg am2_ss am2_ll am2_nl am2_al am2_ff zvy zvz am2s_nn am2s_cc amRs_one amRs_two' amRs_thr resAll_nil resAll_tmp zv0 KpE KpO KpR KpOR t2 t3 t4 t5 t6 t7 t8 t9 t10 t11 t12 t13 t14 t15 t16 t17 t18 t19 t21 t22 t24 t26 t30 t31 t33 t34 t35 t36 t37 t40 t42 t44 t45 t46 t55 t56 t57 t61 t80 t81 t82 t87 t88 t97 t98 t102 t103 t113 t120 t124 t127 t141 t149 t151 t162 t166 t172 t179 t180 t181 t182 t183 t185 t186 t188 t189 t190 t191 t192 u_bool
attribute [simp] zb4 gE tP
end Go.Proofs.YtodmafgmdlkhoaaGreat.Vs
end
section
open Go Go.Proofs Go.Proofs.YtodmafgmdlkhoaaGreat.Vs
namespace Go.Proofs.YtodmafgmdlkhoaaGreat.Vs
set_option linter.all false
set_option linter.unusedSimpArgs false
set_option linter.unusedVariables false
end Go.Proofs.YtodmafgmdlkhoaaGreat.Vs
end
section
open Go Go.Proofs Go.Proofs.YtodmafgmdlkhoaaGreat.Vs
namespace Go.Proofs.YtodmafgmdlkhoaaGreat.Vs
set_option linter.all false
set_option linter.unusedSimpArgs false
set_option linter.unusedVariables false
set_option maxRecDepth 100000
theorem l1In(a b c:Int):PCall Tryz.prog 78 [(.g (.int .i64 (a))),(.g (.int .i64 (b))),(.g (.int .i64 (c)))] (.g (.bool (decide (b≤a)&&decide (a≤c)))):=by
 refine zbo Tryz.func78 (by rfl) (by rfl) (by rw [Tryz.ntmps78];exact Nat.le_of_ble_eq_true rfl) rfl (by decide) ?_
 rw [Tryz.ntmps78]
 refine AW_k [(0,_),(1,_),(2,_)] ⟨rfl,rfl,rfl,trivial⟩ ?_
 refine AW_r rfl rfl λK hK=>?_
 simp (disch:=omega)
 repeat' first|(refine ⟨by omega,?_⟩)|(intro _)
 refine hK _ ?_;clear hK K
 refine AW_r rfl rfl λK hK=>?_
 simp (disch:=omega)
 repeat' first|(exfalso;omega)|(refine ⟨λ_=>?_,λ_=>?_⟩)|(refine ⟨by omega,?_⟩)|(intro _)
 all_goals (refine hK _ ?_;clear hK K)
 all_goals
  refine zbr (zb6 ?_)
  simp (disch:=omega)
  all_goals first | omega|(simp_all;done)|(simp [List.take_of_length_le];done)|((try simp_all);(try simp (disch:=omega) only [zb4,Int.tdiv_eq_ediv_of_nonneg,Int.tmod_eq_emod_of_nonneg,and_true,true_and]);done)|((try simp_all);(try simp (disch:=omega) only [zb4,Int.tdiv_eq_ediv_of_nonneg,Int.tmod_eq_emod_of_nonneg,and_true,true_and] at *);omega)
theorem zpu(a b c:Int):PCall Tryz.prog 109 [(.g (.int .i64 (a))),(.g (.int .i64 (b))),(.g (.int .i64 (c)))] (.g (.bool (decide (b≤a)&&decide (a≤c)))):=by
 refine zbo Tryz.func109 (by rfl) (by rfl) (by rw [Tryz.ntmps109];exact Nat.le_of_ble_eq_true rfl) rfl (by decide) ?_
 rw [Tryz.ntmps109]
 refine AW_k [(0,_),(1,_),(2,_)] ⟨rfl,rfl,rfl,trivial⟩ ?_
 refine AW_r rfl rfl λK hK=>?_
 simp (disch:=omega)
 repeat' first|(refine ⟨by omega,?_⟩)|(intro _)
 refine hK _ ?_;clear hK K
 refine AW_r rfl rfl λK hK=>?_
 simp (disch:=omega)
 repeat' first|(exfalso;omega)|(refine ⟨λ_=>?_,λ_=>?_⟩)|(refine ⟨by omega,?_⟩)|(intro _)
 all_goals (refine hK _ ?_;clear hK K)
 all_goals
  refine zbr (zb6 ?_)
  simp (disch:=omega)
  all_goals first | omega|(simp_all;done)|(simp [List.take_of_length_le];done)|((try simp_all);(try simp (disch:=omega) only [zb4,Int.tdiv_eq_ediv_of_nonneg,Int.tmod_eq_emod_of_nonneg,and_true,true_and]);done)|((try simp_all);(try simp (disch:=omega) only [zb4,Int.tdiv_eq_ediv_of_nonneg,Int.tmod_eq_emod_of_nonneg,and_true,true_and] at *);omega)
def LoB(b:UInt8):Prop:=97≤b.toNat∧b.toNat≤122
def Word(s:List UInt8):Prop:=1≤s.length∧s.length≤8∧∀(j:Nat) b,s[j]? = some b→LoB b
theorem l4Word(s:List UInt8):PCall Tryz.prog 69 [.s s] (.g (.bool (decB (Word s)))):=by
 refine zbo Tryz.func69 (by rfl) (by rfl) (by rw [Tryz.ntmps69];exact Nat.le_of_ble_eq_true rfl) rfl (by decide) ?_
 rw [Tryz.ntmps69]
 refine AW_k [(0,_)] ⟨rfl,trivial⟩ ?_
 refine AW_r rfl rfl λK hK=>?_
 simp (disch:=omega)
 repeat' first|(refine ⟨by omega,?_⟩)|(intro _)
 refine hK _ ?_;clear hK K
 refine zbj ?_
 refine AW_r rfl rfl λK hK=>?_
 simp (disch:=omega)
 repeat' first|(exfalso;omega)|(refine zcg (zbc zcs (zbc zcs (zbc zcs zbi))) (l1In _ _ _) rfl ?_;simp (disch:=omega))|(refine ⟨by omega,?_⟩)|(intro _)
 refine hK _ ?_;clear hK K
 refine zbm rfl (λhc1=>?_) (λhc1=>?_)
 ·try simp at hc1
  all_goals
   refine AW_r rfl rfl λK hK=>?_
   simp (disch:=omega)
   repeat' first|(exfalso;omega)|(refine ⟨λ_=>?_,λ_=>?_⟩)|(refine ⟨by omega,?_⟩)|(intro _)
   all_goals (refine hK _ ?_;clear hK K)
   all_goals
    refine zbr (zb6 ?_)
    simp (disch:=omega)
    all_goals first|(refine zce λh=>?_;grind [Word,LoB])|(refine zcb ?_;grind [Word,LoB])
 ·try simp at hc1
  all_goals
   refine zbn ?_
   refine zbq ?_
   refine zbj ?_
   refine AW_r rfl rfl λK hK=>?_
   simp (disch:=omega)
   repeat' first|(exfalso;omega)|(refine ⟨λ_=>?_,λ_=>?_⟩)|(refine ⟨by omega,?_⟩)|(intro _)
   all_goals (refine hK _ ?_;clear hK K)
   all_goals
    refine zbl ?_
    refine zby (λmM sS=>∃(i:Nat),mM=s.length-i∧(i≤s.length∧∀j b,j<i→s[j]? = some b→LoB b)∧sS = { env:=lkE [(0,.s s),(3,(.g (.int .i64 ((i:Nat)))))],ob:=formOb [] [] }) ?_ ?_
    ·refine ⟨_,LeS.kp [(0,.s s),(3,(.g (.int .i64 (((0):Nat)))))] (by simp [KpE,zbt,zbk,zbp];try rfl),_,0,rfl,?_,rfl⟩
     ·simp
    ·rintro mM sS ⟨i,rfl,⟨hi,hpre⟩,rfl⟩
     refine zbj ?_
     refine AW_r rfl rfl λK hK=>?_
     simp (disch:=omega)
     repeat' first|(refine ⟨by omega,?_⟩)|(intro _)
     refine hK _ ?_;clear hK K
     refine zbm rfl (λhc2=>?_) (λhc2=>?_)
     ·try simp at hc2
      all_goals
       have hg:s[i]? = some s[i]:=List.getElem?_eq_getElem (by omega)
       refine zbn ?_
       refine zbq ?_
       refine zbj ?_
       refine zbl ?_
       refine AW_r rfl rfl λK hK=>?_
       simp (disch:=omega)
       repeat' first|(exfalso;omega)|(refine ⟨λ_=>?_,λ_=>?_⟩)|(refine ⟨by omega,?_⟩)|(intro _)
       all_goals (refine hK _ ?_;clear hK K)
       all_goals
        refine zbm rfl (λhc3=>?_) (λhc3=>?_)
        ·try simp at hc3
         all_goals
          refine AW_r rfl rfl λK hK=>?_
          simp (disch:=omega)
          repeat' first|(exfalso;omega)|(refine ⟨λ_=>?_,λ_=>?_⟩)|(refine ⟨by omega,?_⟩)|(intro _)
          all_goals (refine hK _ ?_;clear hK K)
          all_goals
           refine zbr (zb6 ?_)
           simp (disch:=omega)
           all_goals first|(refine zce λh=>?_;grind [Word,LoB])|(refine zcb ?_;grind [Word,LoB])
        ·try simp at hc3
         all_goals
          refine zbn ?_
          refine zbq ?_
          refine zc8 rfl rfl λK hK=>?_
          simp (disch:=omega)
          repeat' first|(exfalso;omega)|(refine ⟨λ_=>?_,λ_=>?_⟩)|(refine ⟨by omega,?_⟩)|(intro _)
          all_goals (refine hK _ ?_;clear hK K)
          all_goals
           refine ⟨_,LeS.kp [(0,.s s),(3,(.g (.int .i64 (((i+1):Nat)))))] (by simp [KpE,zbt,zbk,zbp];try rfl),_,?_,i+1,rfl,?_,rfl⟩
           ·omega
           ·refine ⟨by omega,?_⟩;grind [LoB]
     ·try simp at hc2
      all_goals
       refine zb3 ?_
       refine zbq ?_
       refine AW_r rfl rfl λK hK=>?_
       simp (disch:=omega)
       repeat' first|(exfalso;omega)|(refine ⟨λ_=>?_,λ_=>?_⟩)|(refine ⟨by omega,?_⟩)|(intro _)
       all_goals (refine hK _ ?_;clear hK K)
       all_goals
        refine zbr (zb6 ?_)
        simp (disch:=omega)
        all_goals first|(refine zce λh=>?_;grind [Word,LoB])|(refine zcb ?_;grind [Word,LoB])
theorem isWord(s:List UInt8)(hs:s.length≤1048576):PCall Tryz.prog 148 [.s s] (.g (.bool (decB (Word s)))):=by
 refine zbo Tryz.func148 (by rfl) (by rfl) (by rw [Tryz.ntmps148];exact Nat.le_of_ble_eq_true rfl) rfl (by decide) ?_
 rw [Tryz.ntmps148]
 refine AW_k [(0,_)] ⟨rfl,trivial⟩ ?_
 refine AW_r rfl rfl λK hK=>?_
 simp (disch:=omega)
 repeat' first|(refine ⟨by omega,?_⟩)|(intro _)
 refine hK _ ?_;clear hK K
 refine zbj ?_
 refine AW_r rfl rfl λK hK=>?_
 simp (disch:=omega)
 repeat' first|(refine ⟨by omega,?_⟩)|(intro _)
 refine hK _ ?_;clear hK K
 refine zbl ?_
 refine zby (λmM sS=>∃(i:Nat),mM=s.length-i∧(i≤s.length∧∀j b,j<i→s[j]? = some b→LoB b)∧sS = { env:=lkE [(0,.s s),(3,(.g (.int .i64 ((i:Nat)))))],ob:=formOb [] [] }) ?_ ?_
 ·refine ⟨_,LeS.kp [(0,.s s),(3,(.g (.int .i64 (((0):Nat)))))] (by simp [KpE,zbt,zbk,zbp];try rfl),_,0,rfl,?_,rfl⟩
  ·simp
 ·rintro mM sS ⟨i,rfl,⟨hi,hpre⟩,rfl⟩
  refine zbj ?_
  refine AW_r rfl rfl λK hK=>?_
  simp (disch:=omega)
  repeat' first|(refine ⟨by omega,?_⟩)|(intro _)
  refine hK _ ?_;clear hK K
  refine zbm rfl (λhc4=>?_) (λhc4=>?_)
  ·try simp at hc4
   all_goals
    have hg:s[i]? = some s[i]:=List.getElem?_eq_getElem (by omega)
    refine zbn ?_
    refine zbq ?_
    refine zbj ?_
    refine zbl ?_
    refine AW_r rfl rfl λK hK=>?_
    simp (disch:=omega)
    repeat' first|(exfalso;omega)|(refine ⟨λ_=>?_,λ_=>?_⟩)|(refine ⟨by omega,?_⟩)|(intro _)
    all_goals (refine hK _ ?_;clear hK K)
    all_goals
     refine zbm rfl (λhc5=>?_) (λhc5=>?_)
     ·try simp at hc5
      all_goals
       refine AW_r rfl rfl λK hK=>?_
       simp (disch:=omega)
       repeat' first|(exfalso;omega)|(refine ⟨λ_=>?_,λ_=>?_⟩)|(refine ⟨by omega,?_⟩)|(intro _)
       all_goals (refine hK _ ?_;clear hK K)
       all_goals
        refine zbr (zb6 ?_)
        simp (disch:=omega)
        all_goals first|(refine zce λh=>?_;grind [Word,LoB])|(refine zcb ?_;grind [Word,LoB])|(rw [Bool.eq_iff_iff,zbb];grind [Word,LoB])
     ·try simp at hc5
      all_goals
       refine zbn ?_
       refine zbq ?_
       refine zc8 rfl rfl λK hK=>?_
       simp (disch:=omega)
       repeat' first|(exfalso;omega)|(refine ⟨λ_=>?_,λ_=>?_⟩)|(refine ⟨by omega,?_⟩)|(intro _)
       all_goals (refine hK _ ?_;clear hK K)
       all_goals
        refine ⟨_,LeS.kp [(0,.s s),(3,(.g (.int .i64 (((i+1):Nat)))))] (by simp [KpE,zbt,zbk,zbp];try rfl),_,?_,i+1,rfl,?_,rfl⟩
        ·omega
        ·refine ⟨by omega,?_⟩;grind [LoB]
  ·try simp at hc4
   all_goals
    refine zb3 ?_
    refine zbq ?_
    refine AW_r rfl rfl λK hK=>?_
    simp (disch:=omega)
    repeat' first|(exfalso;omega)|(refine zcg (zbc zcs (zbc zcs (zbc zcs zbi))) (zpu _ _ _) rfl ?_;simp (disch:=omega))|(refine ⟨λ_=>?_,λ_=>?_⟩)|(refine ⟨by omega,?_⟩)|(intro _)
    all_goals (refine hK _ ?_;clear hK K)
    all_goals
     refine zbr (zb6 ?_)
     simp (disch:=omega)
     all_goals first|(refine zce λh=>?_;grind [Word,LoB])|(refine zcb ?_;grind [Word,LoB])|(rw [Bool.eq_iff_iff,zbb];grind [Word,LoB])
end Go.Proofs.YtodmafgmdlkhoaaGreat.Vs
end
section
open Go Go.Proofs Go.Proofs.YtodmafgmdlkhoaaGreat.Vs
namespace Go.Proofs.YtodmafgmdlkhoaaGreat.Vs
set_option linter.all false
set_option linter.unusedSimpArgs false
set_option linter.unusedVariables false
set_option maxRecDepth 100000
def Ch8(l:List (List UInt8)):Prop:=∀(j:Nat) c,l[j]? = some c→c.length=8
def zG0:=And.intro @zb4 (And.intro @gE @tP)
theorem areChunks(l:List (List UInt8))(hs:l.length≤1048576):PCall Tryz.prog 111 [.sl 1 (l.map cS)] (.g (.bool (decB (Ch8 l)))):=by
 refine zbo Tryz.func111 (by rfl) (by rfl) (by rw [Tryz.ntmps111];exact Nat.le_of_ble_eq_true rfl) rfl (by decide) ?_
 rw [Tryz.ntmps111]
 refine AW_k [(0,_)] ⟨rfl,trivial⟩ ?_
 refine AW_r rfl rfl λK hK=>?_
 simp (disch:=omega) [zG0,cS]
 repeat' first|(refine ⟨by omega,?_⟩)|(intro _)
 refine hK _ ?_;clear hK K
 refine zbj ?_
 refine AW_r rfl rfl λK hK=>?_
 simp (disch:=omega) [zG0,cS]
 repeat' first|(refine ⟨by omega,?_⟩)|(intro _)
 refine hK _ ?_;clear hK K
 refine zbl ?_
 refine zby (λmM sS=>∃(i:Nat),mM=l.length-i∧(i≤l.length∧∀(j:Nat) c,j<i→l[j]? = some c→c.length=8)∧sS = { env:=lkE [(5,.sl 1 (l.map cS)),(6,(.g (.int .i64 ((l.length:Nat))))),(7,(.g (.int .i64 ((i:Nat)))))],ob:=formOb [] [] }) ?_ ?_
 ·refine ⟨_,LeS.kp [(5,.sl 1 (l.map cS)),(6,(.g (.int .i64 ((l.length:Nat))))),(7,(.g (.int .i64 (((0):Nat)))))] (by simp [KpE,zbt,zbk,zbp];try rfl),_,0,rfl,?_,rfl⟩
  ·simp
 ·rintro mM sS ⟨i,rfl,⟨hi,hpre⟩,rfl⟩
  refine AW_r rfl rfl λK hK=>?_
  simp (disch:=omega) [zG0,cS]
  repeat' first|(refine ⟨by omega,?_⟩)|(intro _)
  refine hK _ ?_;clear hK K
  refine zbj ?_
  refine zbm rfl (λhc1=>?_) (λhc1=>?_)
  ·try simp at hc1
   all_goals
    have hg:l[i]? = some (l[i]):=List.getElem?_eq_getElem (by omega)
    refine zbn ?_
    refine zbq ?_
    refine zbj ?_
    refine zbl ?_
    refine AW_r rfl rfl λK hK=>?_
    simp (disch:=omega) [zG0,cS]
    repeat' first|(exfalso;omega)|(refine ⟨λ_=>?_,λ_=>?_⟩)|(refine ⟨by omega,?_⟩)|(intro _)
    all_goals (refine hK _ ?_;clear hK K)
    all_goals
     refine AW_r rfl rfl λK hK=>?_
     simp (disch:=omega) [zG0,cS]
     repeat' first|(refine ⟨by omega,?_⟩)|(intro _)
     refine hK _ ?_;clear hK K
     refine zbm rfl (λhc2=>?_) (λhc2=>?_)
     ·try simp at hc2
      all_goals
       refine AW_r rfl rfl λK hK=>?_
       simp (disch:=omega) [zG0,cS]
       repeat' first|(exfalso;omega)|(refine ⟨λ_=>?_,λ_=>?_⟩)|(refine ⟨by omega,?_⟩)|(intro _)
       all_goals (refine hK _ ?_;clear hK K)
       all_goals
        refine zbr (zb6 ?_)
        simp (disch:=omega) [zG0,cS]
        all_goals first|(refine zce λh=>?_;grind [Ch8])|(refine zcb ?_;grind [Ch8])
     ·try simp at hc2
      all_goals
       refine zbn ?_
       refine zbq ?_
       refine zc8 rfl rfl λK hK=>?_
       simp (disch:=omega) [zG0,cS]
       repeat' first|(exfalso;omega)|(refine ⟨λ_=>?_,λ_=>?_⟩)|(refine ⟨by omega,?_⟩)|(intro _)
       all_goals (refine hK _ ?_;clear hK K)
       all_goals
        refine ⟨_,LeS.kp [(5,.sl 1 (l.map cS)),(6,(.g (.int .i64 ((l.length:Nat))))),(7,(.g (.int .i64 (((i+1):Nat)))))] (by simp [KpE,zbt,zbk,zbp];try rfl),_,?_,i+1,rfl,?_,rfl⟩
        ·omega
        ·refine ⟨by omega,?_⟩;grind
  ·try simp at hc1
   all_goals
    refine zb3 ?_
    refine zbq ?_
    refine AW_r rfl rfl λK hK=>?_
    simp (disch:=omega) [zG0,cS]
    repeat' first|(exfalso;omega)|(refine ⟨λ_=>?_,λ_=>?_⟩)|(refine ⟨by omega,?_⟩)|(intro _)
    all_goals (refine hK _ ?_;clear hK K)
    all_goals
     refine zbr (zb6 ?_)
     simp (disch:=omega) [zG0,cS]
     all_goals first|(refine zce λh=>?_;grind [Ch8])|(refine zcb ?_;grind [Ch8])
end Go.Proofs.YtodmafgmdlkhoaaGreat.Vs
end
section
open Go Go.Proofs Go.Proofs.YtodmafgmdlkhoaaGreat.Vs
namespace Go.Proofs.YtodmafgmdlkhoaaGreat.Vs
set_option linter.all false
set_option linter.unusedSimpArgs false
set_option linter.unusedVariables false
set_option maxRecDepth 100000
theorem len0{α:Type}(l:List α):((l.length:Int)=0)=(l=[]):=by rw [eq_iff_iff,←List.length_eq_zero_iff];omega
def MayP(s:List UInt8)(must:Bool):Prop:=if must then Word s else s=[]
def zeroCmd:DtCmd:=⟨0,0,0,[],[],[],0,[]⟩
def CmdP(c:DtCmd):Prop:=(c.fKind=0∧c=zeroCmd)∨(1≤c.fKind∧c.fKind≤7∧1≤c.fClient∧c.fClient≤9∧1≤c.fNo∧c.fNo≤1000∧(c.fKind≠7→Word c.fSet)∧(c.fKind=7→c.fSet=[])∧(c.fKind=3∨c.fKind=4→Word c.fName)∧(¬(c.fKind=3∨c.fKind=4)→c.fName=[])∧(c.fKind=4→Word c.fTag)∧(c.fKind≠4→c.fTag=[])∧(c.fN≠0→c.fKind=5∧0≤c.fN∧c.fN≤9)∧(c.fKind=3→1≤c.fChunks.length∧c.fChunks.length≤4∧Ch8 c.fChunks)∧(c.fKind≠3→c.fChunks=[]))
theorem l4May(s:List UInt8)(b:Bool):PCall Tryz.prog 80 [.s s,(.g (.bool (b)))] (.g (.bool (decB (MayP s b)))):=by
 refine zbo Tryz.func80 (by rfl) (by rfl) (by rw [Tryz.ntmps80];exact Nat.le_of_ble_eq_true rfl) rfl (by decide) ?_
 rw [Tryz.ntmps80]
 refine AW_k [(0,_),(1,_)] ⟨rfl,rfl,trivial⟩ ?_
 refine AW_r rfl rfl λK hK=>?_
 simp (disch:=omega) [zG0]
 repeat' first|(refine ⟨by omega,?_⟩)|(intro _)
 refine hK _ ?_;clear hK K
 refine zbj ?_
 refine AW_r rfl rfl λK hK=>?_
 simp (disch:=omega) [zG0]
 repeat' first|(refine ⟨by omega,?_⟩)|(intro _)
 refine hK _ ?_;clear hK K
 refine zbm rfl (λhc1=>?_) (λhc1=>?_)
 ·try simp at hc1
  all_goals
   refine AW_r rfl rfl λK hK=>?_
   simp (disch:=omega) [zG0]
   repeat' first|(exfalso;omega)|(refine zcg (zbc zz8 zbi) (l4Word _) rfl ?_;simp (disch:=omega) [zG0])|(refine ⟨λ_=>?_,λ_=>?_⟩)|(refine ⟨by omega,?_⟩)|(intro _)
   all_goals (refine hK _ ?_;clear hK K)
   all_goals
    refine zbr (zb6 ?_)
    simp (disch:=omega) [zG0]
    all_goals first|(simp_all [MayP];done)|(rw [Bool.eq_iff_iff];simp_all [MayP,zbb])
 ·try simp at hc1
  all_goals
   refine zbn ?_
   refine zbq ?_
   refine AW_r rfl rfl λK hK=>?_
   simp (disch:=omega) [zG0]
   repeat' first|(exfalso;omega)|(refine ⟨λ_=>?_,λ_=>?_⟩)|(refine ⟨by omega,?_⟩)|(intro _)
   all_goals (refine hK _ ?_;clear hK K)
   all_goals
    refine zbr (zb6 ?_)
    simp (disch:=omega) [zG0]
    all_goals first|(simp_all [MayP];done)|(rw [Bool.eq_iff_iff];simp_all [MayP,zbb])
theorem wordIf(s:List UInt8)(b:Bool)(hs:s.length≤1048576):PCall Tryz.prog 110 [.s s,(.g (.bool (b)))] (.g (.bool (decB (MayP s b)))):=by
 refine zbo Tryz.func110 (by rfl) (by rfl) (by rw [Tryz.ntmps110];exact Nat.le_of_ble_eq_true rfl) rfl (by decide) ?_
 rw [Tryz.ntmps110]
 refine AW_k [(0,_),(1,_)] ⟨rfl,rfl,trivial⟩ ?_
 refine AW_r rfl rfl λK hK=>?_
 simp (disch:=omega) [zG0]
 repeat' first|(refine ⟨by omega,?_⟩)|(intro _)
 refine hK _ ?_;clear hK K
 refine zbj ?_
 refine AW_r rfl rfl λK hK=>?_
 simp (disch:=omega) [zG0]
 repeat' first|(refine ⟨by omega,?_⟩)|(intro _)
 refine hK _ ?_;clear hK K
 refine zbm rfl (λhc2=>?_) (λhc2=>?_)
 ·try simp at hc2
  all_goals
   refine AW_r rfl rfl λK hK=>?_
   simp (disch:=omega) [zG0]
   repeat' first|(exfalso;omega)|(refine zcg (zbc zz8 zbi) (isWord _ (by omega)) rfl ?_;simp (disch:=omega) [zG0])|(refine ⟨λ_=>?_,λ_=>?_⟩)|(refine ⟨by omega,?_⟩)|(intro _)
   all_goals (refine hK _ ?_;clear hK K)
   all_goals
    refine zbr (zb6 ?_)
    simp (disch:=omega) [zG0]
    all_goals first|(simp_all [MayP];done)|(rw [Bool.eq_iff_iff];simp_all [MayP,zbb])
 ·try simp at hc2
  all_goals
   refine zbn ?_
   refine zbq ?_
   refine AW_r rfl rfl λK hK=>?_
   simp (disch:=omega) [zG0]
   repeat' first|(exfalso;omega)|(refine ⟨λ_=>?_,λ_=>?_⟩)|(refine ⟨by omega,?_⟩)|(intro _)
   all_goals (refine hK _ ?_;clear hK K)
   all_goals
    refine zbr (zb6 ?_)
    simp (disch:=omega) [zG0]
    all_goals first|(simp_all [MayP];done)|(rw [Bool.eq_iff_iff];simp_all [MayP,zbb])
theorem l4Texts(xs ys:List (List UInt8))(hn:xs.length≤1048576):PCall Tryz.prog 123 [.sl 1 (xs.map cS),.sl 1 (ys.map cS)] (.g (.bool (eqB xs ys))):=by
 refine zbo Tryz.func123 (by rfl) (by rfl) (by rw [Tryz.ntmps123];exact Nat.le_of_ble_eq_true rfl) rfl (by decide) ?_
 rw [Tryz.ntmps123]
 refine AW_k [(0,_),(1,_)] ⟨rfl,rfl,trivial⟩ ?_
 refine AW_r rfl rfl λK hK=>?_
 simp (disch:=omega) [zG0]
 repeat' first|(refine ⟨by omega,?_⟩)|(intro _)
 refine hK _ ?_;clear hK K
 refine zbj ?_
 refine AW_r rfl rfl λK hK=>?_
 simp (disch:=omega) [zG0]
 repeat' first|(refine ⟨by omega,?_⟩)|(intro _)
 refine hK _ ?_;clear hK K
 refine zbm rfl (λhc3=>?_) (λhc3=>?_)
 ·try simp at hc3
  all_goals
   refine AW_r rfl rfl λK hK=>?_
   simp (disch:=omega) [zG0]
   repeat' first|(exfalso;omega)|(refine ⟨λ_=>?_,λ_=>?_⟩)|(refine ⟨by omega,?_⟩)|(intro _)
   all_goals (refine hK _ ?_;clear hK K)
   all_goals
    refine zbr (zb6 ?_)
    simp (disch:=omega) [zG0]
    all_goals first|(exact zld heq)|(refine zf9 λheq=>?_;subst heq;simp_all;done)
 ·try simp at hc3
  all_goals
   refine zbn ?_
   refine zbq ?_
   refine zbj ?_
   refine AW_r rfl rfl λK hK=>?_
   simp (disch:=omega) [zG0]
   repeat' first|(exfalso;omega)|(refine ⟨λ_=>?_,λ_=>?_⟩)|(refine ⟨by omega,?_⟩)|(intro _)
   all_goals (refine hK _ ?_;clear hK K)
   all_goals
    refine zbl ?_
    refine zby (λmM sS=>∃(i:Nat),mM=xs.length-i∧(i≤xs.length∧∀j,j<i→xs[j]? = ys[j]?)∧sS = { env:=lkE [(0,.sl 1 (xs.map cS)),(1,.sl 1 (ys.map cS)),(5,(.g (.int .i64 ((i:Nat)))))],ob:=formOb [] [] }) ?_ ?_
    ·refine ⟨_,LeS.kp [(0,.sl 1 (xs.map cS)),(1,.sl 1 (ys.map cS)),(5,(.g (.int .i64 (((0):Nat)))))] (by simp [KpE,zbt,zbk,zbp];try rfl),_,0,rfl,?_,rfl⟩
     ·simp
    ·rintro mM sS ⟨i,rfl,⟨hi,hpre⟩,rfl⟩
     refine zbj ?_
     refine AW_r rfl rfl λK hK=>?_
     simp (disch:=omega) [zG0,cS]
     repeat' first|(refine ⟨by omega,?_⟩)|(intro _)
     refine hK _ ?_;clear hK K
     refine zbm rfl (λhc4=>?_) (λhc4=>?_)
     ·try simp at hc4
      all_goals
       have h7:i<ys.length:=by omega
       refine zbn ?_
       refine zbq ?_
       refine zbj ?_
       refine zbl ?_
       refine AW_q rfl mix (by kernel_rfl) rfl λK hK=>?_
       simp (disch:=omega) [zG0,cS]
       repeat' first|(exfalso;omega)|(refine ⟨λ_=>?_,λ_=>?_⟩)|(refine ⟨by omega,?_⟩)|(intro _)
       all_goals (refine hK _ ?_;clear hK K)
       all_goals
        refine zbm rfl (λhc5=>?_) (λhc5=>?_)
        ·try simp at hc5
         all_goals
          refine AW_r rfl rfl λK hK=>?_
          simp (disch:=omega) [zG0,cS]
          repeat' first|(exfalso;omega)|(refine ⟨λ_=>?_,λ_=>?_⟩)|(refine ⟨by omega,?_⟩)|(intro _)
          all_goals (refine hK _ ?_;clear hK K)
          all_goals
           refine zbr (zb6 ?_)
           simp (disch:=omega) [zG0,cS]
           all_goals first|(exact zld heq)|(refine zf9 λheq=>?_;subst heq;simp_all;done)
        ·try simp at hc5
         all_goals
          refine zbn ?_
          refine zbq ?_
          refine zc8 rfl rfl λK hK=>?_
          simp (disch:=omega) [zG0,cS]
          repeat' first|(exfalso;omega)|(refine ⟨λ_=>?_,λ_=>?_⟩)|(refine ⟨by omega,?_⟩)|(intro _)
          all_goals (refine hK _ ?_;clear hK K)
          all_goals
           refine ⟨_,LeS.kp [(0,.sl 1 (xs.map cS)),(1,.sl 1 (ys.map cS)),(5,(.g (.int .i64 (((i+1):Nat)))))] (by simp [KpE,zbt,zbk,zbp];try rfl),_,?_,i+1,rfl,?_,rfl⟩
           ·omega
           ·refine ⟨by omega,λj hj=>?_⟩
            by_cases hji:j=i
            ·subst hji;simp_all
            ·exact hpre j (by omega)
     ·try simp at hc4
      all_goals
       have hi2:i=xs.length:=by omega
       subst hi2
       have heq:xs=ys:=List.ext_getElem? λj=>by
        by_cases hj:j<xs.length
        ·exact hpre j hj
        ·rw [List.getElem?_eq_none (by omega),List.getElem?_eq_none (by omega)]
       refine zb3 ?_
       refine zbq ?_
       refine AW_r rfl rfl λK hK=>?_
       simp (disch:=omega) [zG0,cS]
       repeat' first|(exfalso;omega)|(refine ⟨λ_=>?_,λ_=>?_⟩)|(refine ⟨by omega,?_⟩)|(intro _)
       all_goals (refine hK _ ?_;clear hK K)
       all_goals
        refine zbr (zb6 ?_)
        simp (disch:=omega) [zG0,cS]
        all_goals first|(exact zld heq)|(refine zf9 λheq=>?_;subst heq;simp_all;done)
theorem equalS(xs ys:List (List UInt8))(hn:xs.length≤1048576):PCall Tryz.prog 149 [.sl 1 (xs.map cS),.sl 1 (ys.map cS)] (.g (.bool (eqB xs ys))):=by
 refine zbo Tryz.func149 (by rfl) (by rfl) (by rw [Tryz.ntmps149];exact Nat.le_of_ble_eq_true rfl) rfl (by decide) ?_
 rw [Tryz.ntmps149]
 refine AW_k [(0,_),(1,_)] ⟨rfl,rfl,trivial⟩ ?_
 refine AW_r rfl rfl λK hK=>?_
 simp (disch:=omega) [zG0]
 repeat' first|(refine ⟨by omega,?_⟩)|(intro _)
 refine hK _ ?_;clear hK K
 refine zbj ?_
 refine AW_r rfl rfl λK hK=>?_
 simp (disch:=omega) [zG0]
 repeat' first|(refine ⟨by omega,?_⟩)|(intro _)
 refine hK _ ?_;clear hK K
 refine zbm rfl (λhc6=>?_) (λhc6=>?_)
 ·try simp at hc6
  all_goals
   refine AW_r rfl rfl λK hK=>?_
   simp (disch:=omega) [zG0]
   repeat' first|(exfalso;omega)|(refine ⟨λ_=>?_,λ_=>?_⟩)|(refine ⟨by omega,?_⟩)|(intro _)
   all_goals (refine hK _ ?_;clear hK K)
   all_goals
    refine zbr (zb6 ?_)
    simp (disch:=omega) [zG0]
    all_goals first|(exact zld heq)|(refine zf9 λheq=>?_;subst heq;simp_all;done)
 ·try simp at hc6
  all_goals
   refine zbn ?_
   refine zbq ?_
   refine zbj ?_
   refine AW_r rfl rfl λK hK=>?_
   simp (disch:=omega) [zG0]
   repeat' first|(exfalso;omega)|(refine ⟨λ_=>?_,λ_=>?_⟩)|(refine ⟨by omega,?_⟩)|(intro _)
   all_goals (refine hK _ ?_;clear hK K)
   all_goals
    refine zbl ?_
    refine zby (λmM sS=>∃(i:Nat),mM=xs.length-i∧(i≤xs.length∧∀j,j<i→xs[j]? = ys[j]?)∧sS = { env:=lkE [(0,.sl 1 (xs.map cS)),(1,.sl 1 (ys.map cS)),(12,(.g (.int .i64 ((xs.length:Nat))))),(13,(.g (.int .i64 ((i:Nat)))))],ob:=formOb [] [] }) ?_ ?_
    ·refine ⟨_,LeS.kp [(0,.sl 1 (xs.map cS)),(1,.sl 1 (ys.map cS)),(12,(.g (.int .i64 ((xs.length:Nat))))),(13,(.g (.int .i64 (((0):Nat)))))] (by simp [KpE,zbt,zbk,zbp];try rfl),_,0,rfl,?_,rfl⟩
     ·simp
    ·rintro mM sS ⟨i,rfl,⟨hi,hpre⟩,rfl⟩
     refine AW_r rfl rfl λK hK=>?_
     simp (disch:=omega) [zG0,cS]
     repeat' first|(refine ⟨by omega,?_⟩)|(intro _)
     refine hK _ ?_;clear hK K
     refine zbj ?_
     refine zbm rfl (λhc7=>?_) (λhc7=>?_)
     ·try simp at hc7
      all_goals
       have h7:i<ys.length:=by omega
       refine zbn ?_
       refine zbq ?_
       refine zbj ?_
       refine zbl ?_
       refine AW_r rfl rfl λK hK=>?_
       simp (disch:=omega) [zG0,cS]
       repeat' first|(exfalso;omega)|(refine ⟨λ_=>?_,λ_=>?_⟩)|(refine ⟨by omega,?_⟩)|(intro _)
       all_goals (refine hK _ ?_;clear hK K)
       all_goals
        refine AW_q rfl mix (by kernel_rfl) rfl λK hK=>?_
        simp (disch:=omega) [zG0,cS]
        repeat' first|(refine ⟨by omega,?_⟩)|(intro _)
        refine hK _ ?_;clear hK K
        refine zbm rfl (λhc8=>?_) (λhc8=>?_)
        ·try simp at hc8
         all_goals
          refine AW_r rfl rfl λK hK=>?_
          simp (disch:=omega) [zG0,cS]
          repeat' first|(exfalso;omega)|(refine ⟨λ_=>?_,λ_=>?_⟩)|(refine ⟨by omega,?_⟩)|(intro _)
          all_goals (refine hK _ ?_;clear hK K)
          all_goals
           refine zbr (zb6 ?_)
           simp (disch:=omega) [zG0,cS]
           all_goals first|(exact zld heq)|(refine zf9 λheq=>?_;subst heq;simp_all;done)
        ·try simp at hc8
         all_goals
          refine zbn ?_
          refine zbq ?_
          refine zc8 rfl rfl λK hK=>?_
          simp (disch:=omega) [zG0,cS]
          repeat' first|(exfalso;omega)|(refine ⟨λ_=>?_,λ_=>?_⟩)|(refine ⟨by omega,?_⟩)|(intro _)
          all_goals (refine hK _ ?_;clear hK K)
          all_goals
           refine ⟨_,LeS.kp [(0,.sl 1 (xs.map cS)),(1,.sl 1 (ys.map cS)),(12,(.g (.int .i64 ((xs.length:Nat))))),(13,(.g (.int .i64 (((i+1):Nat)))))] (by simp [KpE,zbt,zbk,zbp];try rfl),_,?_,i+1,rfl,?_,rfl⟩
           ·omega
           ·refine ⟨by omega,λj hj=>?_⟩
            by_cases hji:j=i
            ·subst hji;simp_all
            ·exact hpre j (by omega)
     ·try simp at hc7
      all_goals
       have hi2:i=xs.length:=by omega
       subst hi2
       have heq:xs=ys:=List.ext_getElem? λj=>by
        by_cases hj:j<xs.length
        ·exact hpre j hj
        ·rw [List.getElem?_eq_none (by omega),List.getElem?_eq_none (by omega)]
       refine zb3 ?_
       refine zbq ?_
       refine AW_r rfl rfl λK hK=>?_
       simp (disch:=omega) [zG0,cS]
       repeat' first|(exfalso;omega)|(refine ⟨λ_=>?_,λ_=>?_⟩)|(refine ⟨by omega,?_⟩)|(intro _)
       all_goals (refine hK _ ?_;clear hK K)
       all_goals
        refine zbr (zb6 ?_)
        simp (disch:=omega) [zG0,cS]
        all_goals first|(exact zld heq)|(refine zf9 λheq=>?_;subst heq;simp_all;done)
theorem zwr(a b:DtCmd)(hn:a.fChunks.length≤1048576):PCall Tryz.prog 79 [.agg (DtCmd.cells a),.agg (DtCmd.cells b)] (.g (.bool (eqB a b))):=by
 have he:=DtCmd.ext_iff a b
 refine zbo Tryz.func79 (by rfl) (by rfl) (by rw [Tryz.ntmps79];exact Nat.le_of_ble_eq_true rfl) rfl (by decide) ?_
 rw [Tryz.ntmps79]
 refine AW_k [(0,_),(1,_)] ⟨rfl,rfl,trivial⟩ ?_
 refine AW_r rfl rfl λK hK=>?_
 simp [DtCmd.cells]
 repeat' first|(refine ⟨by omega,?_⟩)|(intro _)
 refine hK _ ?_;clear hK K
 refine AW_r rfl rfl λK hK=>?_
 simp [DtCmd.cells]
 repeat' first|(refine zcg (zbc zbw (zbc zbw zbi)) (l4Texts _ _ (by assumption)) rfl ?_;simp [DtCmd.cells])|(refine ⟨λ_=>?_,λ_=>?_⟩)|(refine ⟨by omega,?_⟩)|(intro _)
 all_goals (refine hK _ ?_;clear hK K)
 all_goals
  refine zbr (zb6 ?_)
  simp [DtCmd.cells]
  all_goals first|(refine zf9 λh=>?_;rw [he] at h;simp_all;done)|(rw [Bool.eq_iff_iff,zbe,zbe,he];simp_all;done)|(rw [Bool.eq_iff_iff,zbe,he];simp_all [zbe];done)
theorem zws(a b:DtCmd)(hn:a.fChunks.length≤1048576):PCall Tryz.prog 108 [.agg (DtCmd.cells a),.agg (DtCmd.cells b)] (.g (.bool (eqB a b))):=by
 have he:=DtCmd.ext_iff a b
 refine zbo Tryz.func108 (by rfl) (by rfl) (by rw [Tryz.ntmps108];exact Nat.le_of_ble_eq_true rfl) rfl (by decide) ?_
 rw [Tryz.ntmps108]
 refine AW_k [(0,_),(1,_)] ⟨rfl,rfl,trivial⟩ ?_
 refine AW_r rfl rfl λK hK=>?_
 simp [DtCmd.cells]
 repeat' first|(refine ⟨by omega,?_⟩)|(intro _)
 refine hK _ ?_;clear hK K
 refine AW_r rfl rfl λK hK=>?_
 simp [DtCmd.cells]
 repeat' first|(refine zcg (zbc zbw (zbc zbw zbi)) (equalS _ _ (by assumption)) rfl ?_;simp [DtCmd.cells])|(refine ⟨λ_=>?_,λ_=>?_⟩)|(refine ⟨by omega,?_⟩)|(intro _)
 all_goals (refine hK _ ?_;clear hK K)
 all_goals
  refine zbr (zb6 ?_)
  simp [DtCmd.cells]
  all_goals first|(refine zf9 λh=>?_;rw [he] at h;simp_all;done)|(rw [Bool.eq_iff_iff,zbe,zbe,he];simp_all;done)|(rw [Bool.eq_iff_iff,zbe,he];simp_all [zbe];done)
def zG1:=And.intro @zb4 (And.intro @gE (And.intro @tP (And.intro @zbb @zbf)))
theorem zs8(c:DtCmd)(hs:DtCmd.sz c≤1048576):PCall Tryz.prog 29 [.agg (DtCmd.cells c)] (.g (.bool (decB (CmdP c)))):=by
 have ⟨hl,hw1,hw2,hw3⟩:c.fChunks.length≤1048576∧c.fSet.length≤1048576∧c.fName.length≤1048576∧c.fTag.length≤1048576:=by have:=zdh zgv c.fChunks;simp only [DtCmd.sz,szS] at hs;omega
 refine zbo Tryz.func29 (by rfl) (by rfl) (by rw [Tryz.ntmps29];exact Nat.le_of_ble_eq_true rfl) rfl (by decide) ?_
 rw [Tryz.ntmps29]
 refine AW_k [(0,_)] ⟨rfl,trivial⟩ ?_
 refine AW_r rfl rfl λK hK=>?_
 simp (disch:=omega) [zG1,DtCmd.cells]
 repeat' first|(refine ⟨by omega,?_⟩)|(intro _)
 refine hK _ ?_;clear hK K
 refine zbj ?_
 refine AW_r rfl rfl λK hK=>?_
 simp (disch:=omega) [zG1,DtCmd.cells]
 repeat' first|(exfalso;omega)|(refine zcg (zbc zcs (zbc zcs (zbc zcs zbi))) (l1In _ _ _) rfl ?_;simp (disch:=omega) [zG1,DtCmd.cells])|(refine ⟨by omega,?_⟩)|(intro _)
 refine hK _ ?_;clear hK K
 refine zbm rfl (λhc9=>?_) (λhc9=>?_)
 ·try simp [zbb,zbf,zbe,zbd] at hc9
  all_goals
   refine AW_r rfl rfl λK hK=>?_
   simp (disch:=omega) [zG1,DtCmd.cells]
   repeat' first|(exfalso;omega)|(refine ⟨λ_=>?_,λ_=>?_⟩)|(refine ⟨by omega,?_⟩)|(intro _)
   all_goals (refine hK _ ?_;clear hK K)
   all_goals
    refine zbr (zb6 ?_)
    simp (disch:=omega) [zG1,DtCmd.cells]
    all_goals first | grind [CmdP,MayP,Ch8]|(rw [Bool.eq_iff_iff,zbb,zbe];grind [CmdP,zeroCmd])|(simp only [CmdP,MayP,Ch8] at *;grind)|(rw [Bool.eq_iff_iff,zbb];simp [zbb];grind [CmdP,MayP,Ch8])|(rw [Bool.eq_iff_iff,zbb,zbb];grind [CmdP,MayP,Ch8])|(rw [Bool.eq_iff_iff,zbb,beq_iff_eq,len0];grind [CmdP,MayP,Ch8])
 ·try simp [zbb,zbf,zbe,zbd] at hc9
  all_goals
   refine zbn ?_
   refine zbq ?_
   refine zbj ?_
   refine AW_r rfl rfl λK hK=>?_
   simp (disch:=omega) [zG1,DtCmd.cells]
   repeat' first|(exfalso;omega)|(refine ⟨λ_=>?_,λ_=>?_⟩)|(refine ⟨by omega,?_⟩)|(intro _)
   all_goals (refine hK _ ?_;clear hK K)
   all_goals
    refine zbm rfl (λhc10=>?_) (λhc10=>?_)
    ·try simp [zbb,zbf,zbe,zbd] at hc10
     all_goals
      refine AW_r rfl rfl λK hK=>?_
      simp (disch:=omega) [zG1,DtCmd.cells]
      repeat' first|(exfalso;omega)|(refine zcg (zbc (zbu rfl) (zbc (a:=.agg _) (b:=.agg (DtCmd.cells zeroCmd)) (by simp [DtCmd.cells,zeroCmd,am2_ff,zvz,zvy,am1_gg,am1_ss,am1_nl]) zbi)) (zwr c zeroCmd hl) rfl ?_;simp (disch:=omega) [zG1,DtCmd.cells])|(refine ⟨λ_=>?_,λ_=>?_⟩)|(refine ⟨by omega,?_⟩)|(intro _)
      all_goals (refine hK _ ?_;clear hK K)
      all_goals
       refine zbr (zb6 ?_)
       simp (disch:=omega) [zG1,DtCmd.cells]
       all_goals first | grind [CmdP,MayP,Ch8]|(rw [Bool.eq_iff_iff,zbb,zbe];grind [CmdP,zeroCmd])|(simp only [CmdP,MayP,Ch8] at *;grind)|(rw [Bool.eq_iff_iff,zbb];simp [zbb];grind [CmdP,MayP,Ch8])|(rw [Bool.eq_iff_iff,zbb,zbb];grind [CmdP,MayP,Ch8])|(rw [Bool.eq_iff_iff,zbb,beq_iff_eq,len0];grind [CmdP,MayP,Ch8])
    ·try simp [zbb,zbf,zbe,zbd] at hc10
     all_goals
      refine zbn ?_
      refine zbq ?_
      refine AW_r rfl rfl λK hK=>?_
      simp (disch:=omega) [zG1,DtCmd.cells]
      repeat' first|(exfalso;omega)|(refine ⟨λ_=>?_,λ_=>?_⟩)|(refine ⟨by omega,?_⟩)|(intro _)
      all_goals (refine hK _ ?_;clear hK K)
      all_goals
       refine zbj ?_
       refine AW_r rfl rfl λK hK=>?_
       simp (disch:=omega) [zG1,DtCmd.cells]
       repeat' first|(exfalso;omega)|(refine zcg (zbc zcs (zbc zcs (zbc zcs zbi))) (l1In _ _ _) rfl ?_;simp (disch:=omega) [zG1,DtCmd.cells])|(refine zcg (zbc zz8 (zbc zcs zbi)) (l4May _ _) rfl ?_;simp (disch:=omega) [zG1,DtCmd.cells])|(refine ⟨λ_=>?_,λ_=>?_⟩)|(refine ⟨by omega,?_⟩)|(intro _)
       all_goals (refine hK _ ?_;clear hK K)
       all_goals
        refine zbm rfl (λhc11=>?_) (λhc11=>?_)
        ·try simp [zbb,zbf,zbe,zbd] at hc11
         all_goals
          refine AW_r rfl rfl λK hK=>?_
          simp (disch:=omega) [zG1,DtCmd.cells]
          repeat' first|(exfalso;omega)|(refine ⟨λ_=>?_,λ_=>?_⟩)|(refine ⟨by omega,?_⟩)|(intro _)
          all_goals (refine hK _ ?_;clear hK K)
          all_goals
           refine zbr (zb6 ?_)
           simp (disch:=omega) [zG1,DtCmd.cells]
           all_goals first | grind [CmdP,MayP,Ch8]|(rw [Bool.eq_iff_iff,zbb,zbe];grind [CmdP,zeroCmd])|(simp only [CmdP,MayP,Ch8] at *;grind)|(rw [Bool.eq_iff_iff,zbb];simp [zbb];grind [CmdP,MayP,Ch8])|(rw [Bool.eq_iff_iff,zbb,zbb];grind [CmdP,MayP,Ch8])|(rw [Bool.eq_iff_iff,zbb,beq_iff_eq,len0];grind [CmdP,MayP,Ch8])
        ·try simp [zbb,zbf,zbe,zbd] at hc11
         all_goals
          refine zbn ?_
          refine zbq ?_
          refine zbj ?_
          refine AW_r rfl rfl λK hK=>?_
          simp (disch:=omega) [zG1,DtCmd.cells]
          repeat' first|(exfalso;omega)|(refine ⟨λ_=>?_,λ_=>?_⟩)|(refine ⟨by omega,?_⟩)|(intro _)
          all_goals (refine hK _ ?_;clear hK K)
          all_goals
           refine zbm rfl (λhc12=>?_) (λhc12=>?_)
           ·try simp [zbb,zbf,zbe,zbd] at hc12
            all_goals
             refine AW_r rfl rfl λK hK=>?_
             simp (disch:=omega) [zG1,DtCmd.cells]
             repeat' first|(exfalso;omega)|(refine ⟨λ_=>?_,λ_=>?_⟩)|(refine ⟨by omega,?_⟩)|(intro _)
             all_goals (refine hK _ ?_;clear hK K)
             all_goals
              refine zbr (zb6 ?_)
              simp (disch:=omega) [zG1,DtCmd.cells]
              all_goals first | grind [CmdP,MayP,Ch8]|(rw [Bool.eq_iff_iff,zbb,zbe];grind [CmdP,zeroCmd])|(simp only [CmdP,MayP,Ch8] at *;grind)|(rw [Bool.eq_iff_iff,zbb];simp [zbb];grind [CmdP,MayP,Ch8])|(rw [Bool.eq_iff_iff,zbb,zbb];grind [CmdP,MayP,Ch8])|(rw [Bool.eq_iff_iff,zbb,beq_iff_eq,len0];grind [CmdP,MayP,Ch8])
           ·try simp [zbb,zbf,zbe,zbd] at hc12
            all_goals
             refine zbn ?_
             refine zbq ?_
             refine zbj ?_
             refine AW_r rfl rfl λK hK=>?_
             simp (disch:=omega) [zG1,DtCmd.cells]
             repeat' first|(exfalso;omega)|(refine zcg (zbc zcs (zbc zcs (zbc zcs zbi))) (l1In _ _ _) rfl ?_;simp (disch:=omega) [zG1,DtCmd.cells])|(refine ⟨λ_=>?_,λ_=>?_⟩)|(refine ⟨by omega,?_⟩)|(intro _)
             all_goals (refine hK _ ?_;clear hK K)
             all_goals
              refine zbm rfl (λhc13=>?_) (λhc13=>?_)
              ·try simp [zbb,zbf,zbe,zbd] at hc13
               all_goals
                refine AW_r rfl rfl λK hK=>?_
                simp (disch:=omega) [zG1,DtCmd.cells]
                repeat' first|(exfalso;omega)|(refine ⟨λ_=>?_,λ_=>?_⟩)|(refine ⟨by omega,?_⟩)|(intro _)
                all_goals (refine hK _ ?_;clear hK K)
                all_goals
                 refine zbr (zb6 ?_)
                 simp (disch:=omega) [zG1,DtCmd.cells]
                 all_goals first | grind [CmdP,MayP,Ch8]|(rw [Bool.eq_iff_iff,zbb,zbe];grind [CmdP,zeroCmd])|(simp only [CmdP,MayP,Ch8] at *;grind)|(rw [Bool.eq_iff_iff,zbb];simp [zbb];grind [CmdP,MayP,Ch8])|(rw [Bool.eq_iff_iff,zbb,zbb];grind [CmdP,MayP,Ch8])|(rw [Bool.eq_iff_iff,zbb,beq_iff_eq,len0];grind [CmdP,MayP,Ch8])
              ·try simp [zbb,zbf,zbe,zbd] at hc13
               all_goals
                refine zbn ?_
                refine zbq ?_
                refine zbj ?_
                refine AW_r rfl rfl λK hK=>?_
                simp (disch:=omega) [zG1,DtCmd.cells]
                repeat' first|(exfalso;omega)|(refine ⟨λ_=>?_,λ_=>?_⟩)|(refine ⟨by omega,?_⟩)|(intro _)
                all_goals (refine hK _ ?_;clear hK K)
                all_goals
                 refine zbl ?_
                 refine zby (λmM sS=>∃(i:Nat),mM=c.fChunks.length-i∧(i≤c.fChunks.length∧∀(j:Nat) x,j<i→c.fChunks[j]? = some x→x.length=8)∧sS = { env:=lkE [(1,.ptr 32 0),(4,(.g (.int .i64 ((i:Nat)))))],ob:=upd (formOb [] []) 32 (some (.cells (DtCmd.cells c))) }) ?_ ?_
                 ·refine ⟨_,LeS.kp [(1,.ptr 32 0),(4,(.g (.int .i64 (((0):Nat)))))] (by simp [KpE,zbt,zbk,zbp];try rfl),_,0,rfl,?_,rfl⟩
                  ·simp
                 ·rintro mM sS ⟨i,rfl,⟨hi,hpre⟩,rfl⟩
                  refine zbj ?_
                  refine AW_r rfl rfl λK hK=>?_
                  simp (disch:=omega) [zG1,DtCmd.cells,cS]
                  repeat' first|(refine ⟨by omega,?_⟩)|(intro _)
                  refine hK _ ?_;clear hK K
                  refine zbm rfl (λhc14=>?_) (λhc14=>?_)
                  ·try simp [zbb,zbf,zbe,zbd] at hc14
                   all_goals
                    have hg:c.fChunks[i]? = some c.fChunks[i]:=List.getElem?_eq_getElem (by omega)
                    refine zbn ?_
                    refine zbq ?_
                    refine zbj ?_
                    refine zbl ?_
                    refine AW_r rfl rfl λK hK=>?_
                    simp (disch:=omega) [zG1,DtCmd.cells,cS]
                    repeat' first|(exfalso;omega)|(refine ⟨λ_=>?_,λ_=>?_⟩)|(refine ⟨by omega,?_⟩)|(intro _)
                    all_goals (refine hK _ ?_;clear hK K)
                    all_goals
                     refine zbm rfl (λhc15=>?_) (λhc15=>?_)
                     ·try simp [zbb,zbf,zbe,zbd] at hc15
                      all_goals
                       refine AW_r rfl rfl λK hK=>?_
                       simp (disch:=omega) [zG1,DtCmd.cells,cS]
                       repeat' first|(exfalso;omega)|(refine ⟨λ_=>?_,λ_=>?_⟩)|(refine ⟨by omega,?_⟩)|(intro _)
                       all_goals (refine hK _ ?_;clear hK K)
                       all_goals
                        refine zbr (zb6 ?_)
                        simp (disch:=omega) [zG1,DtCmd.cells,cS]
                        all_goals first | grind [CmdP,MayP,Ch8]|(rw [Bool.eq_iff_iff,zbb,zbe];grind [CmdP,zeroCmd])|(simp only [CmdP,MayP,Ch8] at *;grind)|(rw [Bool.eq_iff_iff,zbb];simp [zbb];grind [CmdP,MayP,Ch8])|(rw [Bool.eq_iff_iff,zbb,zbb];grind [CmdP,MayP,Ch8])|(rw [Bool.eq_iff_iff,zbb,beq_iff_eq,len0];grind [CmdP,MayP,Ch8])
                     ·try simp [zbb,zbf,zbe,zbd] at hc15
                      all_goals
                       refine zbn ?_
                       refine zbq ?_
                       refine zc8 rfl rfl λK hK=>?_
                       simp (disch:=omega) [zG1,DtCmd.cells,cS]
                       repeat' first|(exfalso;omega)|(refine ⟨λ_=>?_,λ_=>?_⟩)|(refine ⟨by omega,?_⟩)|(intro _)
                       all_goals (refine hK _ ?_;clear hK K)
                       all_goals
                        refine ⟨_,LeS.kp [(1,.ptr 32 0),(4,(.g (.int .i64 (((i+1):Nat)))))] (by simp [KpE,zbt,zbk,zbp];try rfl),_,?_,i+1,rfl,?_,rfl⟩
                        ·omega
                        ·refine ⟨by omega,?_⟩;grind
                  ·try simp [zbb,zbf,zbe,zbd] at hc14
                   all_goals
                    refine zb3 ?_
                    refine zbq ?_
                    refine AW_r rfl rfl λK hK=>?_
                    simp (disch:=omega) [zG1,DtCmd.cells,cS]
                    repeat' first|(exfalso;omega)|(refine ⟨λ_=>?_,λ_=>?_⟩)|(refine ⟨by omega,?_⟩)|(intro _)
                    all_goals (refine hK _ ?_;clear hK K)
                    all_goals
                     refine zbr (zb6 ?_)
                     simp (disch:=omega) [zG1,DtCmd.cells,cS]
                     all_goals first | grind [CmdP,MayP,Ch8]|(rw [Bool.eq_iff_iff,zbb,zbe];grind [CmdP,zeroCmd])|(simp only [CmdP,MayP,Ch8] at *;grind)|(rw [Bool.eq_iff_iff,zbb];simp [zbb];grind [CmdP,MayP,Ch8])|(rw [Bool.eq_iff_iff,zbb,zbb];grind [CmdP,MayP,Ch8])|(rw [Bool.eq_iff_iff,zbb,beq_iff_eq,len0];grind [CmdP,MayP,Ch8])
theorem implCmdOk(c:DtCmd)(hs:DtCmd.sz c≤1048576):PCall Tryz.prog 53 [.agg (DtCmd.cells c)] (.g (.bool (decB (CmdP c)))):=by
 have ⟨hl,hw1,hw2,hw3⟩:c.fChunks.length≤1048576∧c.fSet.length≤1048576∧c.fName.length≤1048576∧c.fTag.length≤1048576:=by have:=zdh zgv c.fChunks;simp only [DtCmd.sz,szS] at hs;omega
 refine zbo Tryz.func53 (by rfl) (by rfl) (by rw [Tryz.ntmps53];exact Nat.le_of_ble_eq_true rfl) rfl (by decide) ?_
 rw [Tryz.ntmps53]
 refine AW_k [(0,_)] ⟨rfl,trivial⟩ ?_
 refine AW_r rfl rfl λK hK=>?_
 simp (disch:=omega) [zG1,DtCmd.cells]
 repeat' first|(refine ⟨by omega,?_⟩)|(intro _)
 refine hK _ ?_;clear hK K
 refine zbj ?_
 refine AW_r rfl rfl λK hK=>?_
 simp (disch:=omega) [zG1,DtCmd.cells]
 repeat' first|(refine ⟨by omega,?_⟩)|(intro _)
 refine hK _ ?_;clear hK K
 refine zbm rfl (λhc16=>?_) (λhc16=>?_)
 ·try simp [zbb,zbf,zbe,zbd] at hc16
  all_goals
   refine AW_r rfl rfl λK hK=>?_
   simp (disch:=omega) [zG1,DtCmd.cells]
   repeat' first|(exfalso;omega)|(refine zcg (zbc (zbu rfl) (zbc (a:=.agg _) (b:=.agg (DtCmd.cells zeroCmd)) (by simp [DtCmd.cells,zeroCmd,am2_ff,zvz,zvy,am1_gg,am1_ss,am1_nl]) zbi)) (zws c zeroCmd hl) rfl ?_;simp (disch:=omega) [zG1,DtCmd.cells])|(refine ⟨λ_=>?_,λ_=>?_⟩)|(refine ⟨by omega,?_⟩)|(intro _)
   all_goals (refine hK _ ?_;clear hK K)
   all_goals
    refine zbr (zb6 ?_)
    simp (disch:=omega) [zG1,DtCmd.cells]
    all_goals first | grind [CmdP,MayP,Ch8]|(rw [Bool.eq_iff_iff,zbb,zbe];grind [CmdP,zeroCmd])|(simp only [CmdP,MayP,Ch8] at *;grind)|(rw [Bool.eq_iff_iff,zbb];simp [zbb];grind [CmdP,MayP,Ch8])|(rw [Bool.eq_iff_iff,zbb,zbb];grind [CmdP,MayP,Ch8])|(rw [Bool.eq_iff_iff,zbb,beq_iff_eq,len0];grind [CmdP,MayP,Ch8])
 ·try simp [zbb,zbf,zbe,zbd] at hc16
  all_goals
   refine zbn ?_
   refine zbq ?_
   refine zbj ?_
   refine AW_r rfl rfl λK hK=>?_
   simp (disch:=omega) [zG1,DtCmd.cells]
   repeat' first|(exfalso;omega)|(refine zcg (zbc zcs (zbc zcs (zbc zcs zbi))) (zpu _ _ _) rfl ?_;simp (disch:=omega) [zG1,DtCmd.cells])|(refine ⟨λ_=>?_,λ_=>?_⟩)|(refine ⟨by omega,?_⟩)|(intro _)
   all_goals (refine hK _ ?_;clear hK K)
   all_goals
    refine zbm rfl (λhc17=>?_) (λhc17=>?_)
    ·try simp [zbb,zbf,zbe,zbd] at hc17
     all_goals
      refine AW_r rfl rfl λK hK=>?_
      simp (disch:=omega) [zG1,DtCmd.cells]
      repeat' first|(exfalso;omega)|(refine ⟨λ_=>?_,λ_=>?_⟩)|(refine ⟨by omega,?_⟩)|(intro _)
      all_goals (refine hK _ ?_;clear hK K)
      all_goals
       refine zbr (zb6 ?_)
       simp (disch:=omega) [zG1,DtCmd.cells]
       all_goals first | grind [CmdP,MayP,Ch8]|(rw [Bool.eq_iff_iff,zbb,zbe];grind [CmdP,zeroCmd])|(simp only [CmdP,MayP,Ch8] at *;grind)|(rw [Bool.eq_iff_iff,zbb];simp [zbb];grind [CmdP,MayP,Ch8])|(rw [Bool.eq_iff_iff,zbb,zbb];grind [CmdP,MayP,Ch8])|(rw [Bool.eq_iff_iff,zbb,beq_iff_eq,len0];grind [CmdP,MayP,Ch8])
    ·try simp [zbb,zbf,zbe,zbd] at hc17
     all_goals
      refine zbn ?_
      refine zbq ?_
      refine zbj ?_
      refine AW_r rfl rfl λK hK=>?_
      simp (disch:=omega) [zG1,DtCmd.cells]
      repeat' first|(exfalso;omega)|(refine zcg (zbc zz8 (zbc zcs zbi)) (wordIf _ _ (by omega)) rfl ?_;simp (disch:=omega) [zG1,DtCmd.cells])|(refine ⟨λ_=>?_,λ_=>?_⟩)|(refine ⟨by omega,?_⟩)|(intro _)
      all_goals (refine hK _ ?_;clear hK K)
      all_goals
       refine zbm rfl (λhc18=>?_) (λhc18=>?_)
       ·try simp [zbb,zbf,zbe,zbd] at hc18
        all_goals
         refine AW_r rfl rfl λK hK=>?_
         simp (disch:=omega) [zG1,DtCmd.cells]
         repeat' first|(exfalso;omega)|(refine ⟨λ_=>?_,λ_=>?_⟩)|(refine ⟨by omega,?_⟩)|(intro _)
         all_goals (refine hK _ ?_;clear hK K)
         all_goals
          refine zbr (zb6 ?_)
          simp (disch:=omega) [zG1,DtCmd.cells]
          all_goals first | grind [CmdP,MayP,Ch8]|(rw [Bool.eq_iff_iff,zbb,zbe];grind [CmdP,zeroCmd])|(simp only [CmdP,MayP,Ch8] at *;grind)|(rw [Bool.eq_iff_iff,zbb];simp [zbb];grind [CmdP,MayP,Ch8])|(rw [Bool.eq_iff_iff,zbb,zbb];grind [CmdP,MayP,Ch8])|(rw [Bool.eq_iff_iff,zbb,beq_iff_eq,len0];grind [CmdP,MayP,Ch8])
       ·try simp [zbb,zbf,zbe,zbd] at hc18
        all_goals
         refine zbn ?_
         refine zbq ?_
         refine zbj ?_
         refine AW_r rfl rfl λK hK=>?_
         simp (disch:=omega) [zG1,DtCmd.cells]
         repeat' first|(exfalso;omega)|(refine zcg (zbc zcs (zbc zcs (zbc zcs zbi))) (zpu _ _ _) rfl ?_;simp (disch:=omega) [zG1,DtCmd.cells])|(refine ⟨λ_=>?_,λ_=>?_⟩)|(refine ⟨by omega,?_⟩)|(intro _)
         all_goals (refine hK _ ?_;clear hK K)
         all_goals
          refine zbm rfl (λhc19=>?_) (λhc19=>?_)
          ·try simp [zbb,zbf,zbe,zbd] at hc19
           all_goals
            refine AW_r rfl rfl λK hK=>?_
            simp (disch:=omega) [zG1,DtCmd.cells]
            repeat' first|(exfalso;omega)|(refine ⟨λ_=>?_,λ_=>?_⟩)|(refine ⟨by omega,?_⟩)|(intro _)
            all_goals (refine hK _ ?_;clear hK K)
            all_goals
             refine zbr (zb6 ?_)
             simp (disch:=omega) [zG1,DtCmd.cells]
             all_goals first | grind [CmdP,MayP,Ch8]|(rw [Bool.eq_iff_iff,zbb,zbe];grind [CmdP,zeroCmd])|(simp only [CmdP,MayP,Ch8] at *;grind)|(rw [Bool.eq_iff_iff,zbb];simp [zbb];grind [CmdP,MayP,Ch8])|(rw [Bool.eq_iff_iff,zbb,zbb];grind [CmdP,MayP,Ch8])|(rw [Bool.eq_iff_iff,zbb,beq_iff_eq,len0];grind [CmdP,MayP,Ch8])
          ·try simp [zbb,zbf,zbe,zbd] at hc19
           all_goals
            refine zbn ?_
            refine zbq ?_
            refine zbj ?_
            refine AW_r rfl rfl λK hK=>?_
            simp (disch:=omega) [zG1,DtCmd.cells]
            repeat' first|(exfalso;omega)|(refine ⟨λ_=>?_,λ_=>?_⟩)|(refine ⟨by omega,?_⟩)|(intro _)
            all_goals (refine hK _ ?_;clear hK K)
            all_goals
             refine zbm rfl (λhc20=>?_) (λhc20=>?_)
             ·try simp [zbb,zbf,zbe,zbd] at hc20
              all_goals
               refine AW_r rfl rfl λK hK=>?_
               simp (disch:=omega) [zG1,DtCmd.cells]
               repeat' first|(exfalso;omega)|(refine zcg (zbc zcs (zbc zcs (zbc zcs zbi))) (zpu _ _ _) rfl ?_;simp (disch:=omega) [zG1,DtCmd.cells])|(refine zcg (zbc zbw zbi) (areChunks _ (by omega)) rfl ?_;simp (disch:=omega) [zG1,DtCmd.cells])|(refine ⟨λ_=>?_,λ_=>?_⟩)|(refine ⟨by omega,?_⟩)|(intro _)
               all_goals (refine hK _ ?_;clear hK K)
               all_goals
                refine zbr (zb6 ?_)
                simp (disch:=omega) [zG1,DtCmd.cells]
                all_goals first | grind [CmdP,MayP,Ch8]|(rw [Bool.eq_iff_iff,zbb,zbe];grind [CmdP,zeroCmd])|(simp only [CmdP,MayP,Ch8] at *;grind)|(rw [Bool.eq_iff_iff,zbb];simp [zbb];grind [CmdP,MayP,Ch8])|(rw [Bool.eq_iff_iff,zbb,zbb];grind [CmdP,MayP,Ch8])|(rw [Bool.eq_iff_iff,zbb,beq_iff_eq,len0];grind [CmdP,MayP,Ch8])
             ·try simp [zbb,zbf,zbe,zbd] at hc20
              all_goals
               refine zbn ?_
               refine zbq ?_
               refine AW_r rfl rfl λK hK=>?_
               simp (disch:=omega) [zG1,DtCmd.cells]
               repeat' first|(exfalso;omega)|(refine ⟨λ_=>?_,λ_=>?_⟩)|(refine ⟨by omega,?_⟩)|(intro _)
               all_goals (refine hK _ ?_;clear hK K)
               all_goals
                refine zbr (zb6 ?_)
                simp (disch:=omega) [zG1,DtCmd.cells]
                all_goals first | grind [CmdP,MayP,Ch8]|(rw [Bool.eq_iff_iff,zbb,zbe];grind [CmdP,zeroCmd])|(simp only [CmdP,MayP,Ch8] at *;grind)|(rw [Bool.eq_iff_iff,zbb];simp [zbb];grind [CmdP,MayP,Ch8])|(rw [Bool.eq_iff_iff,zbb,zbb];grind [CmdP,MayP,Ch8])|(rw [Bool.eq_iff_iff,zbb,beq_iff_eq,len0];grind [CmdP,MayP,Ch8])
end Go.Proofs.YtodmafgmdlkhoaaGreat.Vs
end
