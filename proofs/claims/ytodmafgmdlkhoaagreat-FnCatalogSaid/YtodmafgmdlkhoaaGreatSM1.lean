import Derived.Test.YtodmafgmdlkhoaaGreatVs9
import Derived.Test.YtodmafgmdlkhoaaGreatProg
section
namespace Go.Proofs.YtodmafgmdlkhoaaGreat.Vs
set_option linter.all false
theorem mix:Tryz.prog.follows .mixedOrders=true:=by kernel_rfl
theorem t2:ti Tryz.prog 2=some { agg:=false,size:=1,bytes:=8,zero:=[AV.g (Value.int IntKind.i64 0)],kind:=TK.int IntKind.i64 }:=by kernel_rfl
theorem t3:ti Tryz.prog 3=some { agg:=false,size:=1,bytes:=8,zero:=[AV.g (Value.int IntKind.i64 0)],kind:=TK.int IntKind.i64 }:=by kernel_rfl
theorem t4:ti Tryz.prog 4=some { agg:=false,size:=1,bytes:=1,zero:=[AV.g (Value.bool false)],kind:=TK.bool }:=by kernel_rfl
theorem t5:ti Tryz.prog 5=some { agg:=false,size:=1,bytes:=1,zero:=[AV.g (Value.int IntKind.u8 0)],kind:=TK.int IntKind.u8 }:=by kernel_rfl
theorem t6:ti Tryz.prog 6=some { agg:=false,size:=1,bytes:=1,zero:=[AV.g (Value.int IntKind.u8 0)],kind:=TK.int IntKind.u8 }:=by kernel_rfl
theorem t7:ti Tryz.prog 7=some { agg:=true,size:=4,bytes:=24,zero:=[AV.g (Value.int IntKind.i64 0),AV.g (Value.int IntKind.i64 0),AV.g (Value.bool false),AV.g (Value.int IntKind.u8 0)],kind:=TK.struct [(0,2),(1,3),(2,4),(3,6)] }:=by kernel_rfl
theorem t8:ti Tryz.prog 8=some { agg:=true,size:=4,bytes:=24,zero:=[AV.g (Value.int IntKind.i64 0),AV.g (Value.int IntKind.i64 0),AV.g (Value.bool false),AV.g (Value.int IntKind.u8 0)],kind:=TK.struct [(0,2),(1,3),(2,4),(3,6)] }:=by kernel_rfl
theorem t9:ti Tryz.prog 9=some { agg:=false,size:=1,bytes:=16,zero:=[AV.s []],kind:=TK.str }:=by kernel_rfl
theorem t10:ti Tryz.prog 10=some { agg:=false,size:=1,bytes:=16,zero:=[AV.s []],kind:=TK.str }:=by kernel_rfl
theorem t11:ti Tryz.prog 11=some { agg:=false,size:=1,bytes:=16,zero:=[AV.s []],kind:=TK.str }:=by kernel_rfl
theorem t12:ti Tryz.prog 12=some { agg:=false,size:=1,bytes:=8,zero:=[AV.g (Value.int IntKind.u64 0)],kind:=TK.int IntKind.u64 }:=by kernel_rfl
theorem t13:ti Tryz.prog 13=some { agg:=true,size:=2,bytes:=24,zero:=[AV.s [],AV.g (Value.int IntKind.u64 0)],kind:=TK.struct [(0,9),(1,12)] }:=by kernel_rfl
theorem t14:ti Tryz.prog 14=some { agg:=true,size:=2,bytes:=24,zero:=[AV.s [],AV.g (Value.int IntKind.u64 0)],kind:=TK.struct [(0,9),(1,12)] }:=by kernel_rfl
theorem t15:ti Tryz.prog 15=some { agg:=false,size:=1,bytes:=8,zero:=[AV.g (Value.pointer none)],kind:=TK.ptr 180 }:=by kernel_rfl
theorem t16:ti Tryz.prog 16=some { agg:=false,size:=1,bytes:=8,zero:=[AV.g (Value.pointer none)],kind:=TK.ptr 183 }:=by kernel_rfl
theorem t17:ti Tryz.prog 17=some { agg:=false,size:=1,bytes:=8,zero:=[AV.g (Value.pointer none)],kind:=TK.ptr 192 }:=by kernel_rfl
theorem t18:ti Tryz.prog 18=some { agg:=true,size:=1,bytes:=8,zero:=[AV.g (Value.pointer none)],kind:=TK.struct [(0,17)] }:=by kernel_rfl
theorem t19:ti Tryz.prog 19=some { agg:=true,size:=1,bytes:=8,zero:=[AV.g (Value.pointer none)],kind:=TK.struct [(0,17)] }:=by kernel_rfl
theorem t21:ti Tryz.prog 21=some { agg:=false,size:=1,bytes:=4,zero:=[AV.g (Value.int IntKind.i32 0)],kind:=TK.int IntKind.i32 }:=by kernel_rfl
theorem t22:ti Tryz.prog 22=some { agg:=false,size:=1,bytes:=24,zero:=[AV.g (Value.slice none 0 0)],kind:=TK.slice 5 }:=by kernel_rfl
theorem t24:ti Tryz.prog 24=some { agg:=false,size:=1,bytes:=24,zero:=[AV.g (Value.slice none 0 0)],kind:=TK.slice 37 }:=by kernel_rfl
theorem t26:ti Tryz.prog 26=some { agg:=false,size:=1,bytes:=24,zero:=[AV.g (Value.slice none 0 0)],kind:=TK.slice 31 }:=by kernel_rfl
theorem t30:ti Tryz.prog 30=some { agg:=true,size:=2,bytes:=16,zero:=[AV.g (Value.int IntKind.i64 0),AV.g (Value.int IntKind.i64 0)],kind:=TK.struct [(0,3),(1,3)] }:=by kernel_rfl
theorem t31:ti Tryz.prog 31=some { agg:=true,size:=2,bytes:=16,zero:=[AV.g (Value.int IntKind.i64 0),AV.g (Value.int IntKind.i64 0)],kind:=TK.struct [(0,3),(1,3)] }:=by kernel_rfl
theorem t33:ti Tryz.prog 33=some { agg:=false,size:=1,bytes:=24,zero:=[AV.g (Value.slice none 0 0)],kind:=TK.slice 9 }:=by kernel_rfl
theorem t34:ti Tryz.prog 34=some { agg:=true,size:=8,bytes:=104,zero:=[AV.g (Value.int IntKind.i64 0),AV.g (Value.int IntKind.i64 0),AV.g (Value.int IntKind.i64 0),AV.s [],AV.s [],AV.s [],AV.g (Value.int IntKind.i64 0),AV.g (Value.slice none 0 0)],kind:=TK.struct [(0,3),(1,3),(2,3),(3,9),(4,9),(5,9),(6,3),(7,33)] }:=by kernel_rfl
theorem t35:ti Tryz.prog 35=some { agg:=true,size:=8,bytes:=104,zero:=[AV.g (Value.int IntKind.i64 0),AV.g (Value.int IntKind.i64 0),AV.g (Value.int IntKind.i64 0),AV.s [],AV.s [],AV.s [],AV.g (Value.int IntKind.i64 0),AV.g (Value.slice none 0 0)],kind:=TK.struct [(0,3),(1,3),(2,3),(3,9),(4,9),(5,9),(6,3),(7,33)] }:=by kernel_rfl
theorem t36:ti Tryz.prog 36=some { agg:=true,size:=16,bytes:=184,zero:=[AV.g (Value.int IntKind.i64 0),AV.g (Value.int IntKind.i64 0),AV.g (Value.int IntKind.i64 0),AV.g (Value.int IntKind.i64 0),AV.g (Value.int IntKind.i64 0),AV.g (Value.int IntKind.i64 0),AV.g (Value.int IntKind.i64 0),AV.g (Value.int IntKind.i64 0),AV.s [],AV.s [],AV.s [],AV.g (Value.int IntKind.i64 0),AV.g (Value.slice none 0 0),AV.g (Value.int IntKind.i64 0),AV.g (Value.slice none 0 0),AV.g (Value.bool false)],kind:=TK.struct [(0,31),(2,3),(3,3),(4,3),(5,35),(13,3),(14,26),(15,4)] }:=by kernel_rfl
theorem t37:ti Tryz.prog 37=some { agg:=true,size:=16,bytes:=184,zero:=[AV.g (Value.int IntKind.i64 0),AV.g (Value.int IntKind.i64 0),AV.g (Value.int IntKind.i64 0),AV.g (Value.int IntKind.i64 0),AV.g (Value.int IntKind.i64 0),AV.g (Value.int IntKind.i64 0),AV.g (Value.int IntKind.i64 0),AV.g (Value.int IntKind.i64 0),AV.s [],AV.s [],AV.s [],AV.g (Value.int IntKind.i64 0),AV.g (Value.slice none 0 0),AV.g (Value.int IntKind.i64 0),AV.g (Value.slice none 0 0),AV.g (Value.bool false)],kind:=TK.struct [(0,31),(2,3),(3,3),(4,3),(5,35),(13,3),(14,26),(15,4)] }:=by kernel_rfl
theorem t40:ti Tryz.prog 40=some { agg:=false,size:=1,bytes:=24,zero:=[AV.g (Value.slice none 0 0)],kind:=TK.slice 26 }:=by kernel_rfl
theorem t42:ti Tryz.prog 42=some { agg:=false,size:=1,bytes:=24,zero:=[AV.g (Value.slice none 0 0)],kind:=TK.slice 35 }:=by kernel_rfl
theorem t44:ti Tryz.prog 44=some { agg:=false,size:=1,bytes:=24,zero:=[AV.g (Value.slice none 0 0)],kind:=TK.slice 82 }:=by kernel_rfl
theorem t45:ti Tryz.prog 45=some { agg:=true,size:=1,bytes:=24,zero:=[AV.g (Value.slice none 0 0)],kind:=TK.struct [(0,44)] }:=by kernel_rfl
theorem t46:ti Tryz.prog 46=some { agg:=true,size:=1,bytes:=24,zero:=[AV.g (Value.slice none 0 0)],kind:=TK.struct [(0,44)] }:=by kernel_rfl
theorem t55:ti Tryz.prog 55=some { agg:=false,size:=1,bytes:=24,zero:=[AV.g (Value.slice none 0 0)],kind:=TK.slice 98 }:=by kernel_rfl
theorem t56:ti Tryz.prog 56=some { agg:=true,size:=2,bytes:=48,zero:=[AV.g (Value.slice none 0 0),AV.g (Value.slice none 0 0)],kind:=TK.struct [(0,46),(1,55)] }:=by kernel_rfl
theorem t57:ti Tryz.prog 57=some { agg:=true,size:=2,bytes:=48,zero:=[AV.g (Value.slice none 0 0),AV.g (Value.slice none 0 0)],kind:=TK.struct [(0,46),(1,55)] }:=by kernel_rfl
theorem t61:ti Tryz.prog 61=some { agg:=false,size:=1,bytes:=8,zero:=[AV.g (Value.pointer none)],kind:=TK.ptr 103 }:=by kernel_rfl
theorem t80:ti Tryz.prog 80=some { agg:=false,size:=1,bytes:=24,zero:=[AV.g (Value.slice none 0 0)],kind:=TK.slice 88 }:=by kernel_rfl
theorem t81:ti Tryz.prog 81=some { agg:=true,size:=2,bytes:=40,zero:=[AV.s [],AV.g (Value.slice none 0 0)],kind:=TK.struct [(0,9),(1,80)] }:=by kernel_rfl
theorem t82:ti Tryz.prog 82=some { agg:=true,size:=2,bytes:=40,zero:=[AV.s [],AV.g (Value.slice none 0 0)],kind:=TK.struct [(0,9),(1,80)] }:=by kernel_rfl
theorem t87:ti Tryz.prog 87=some { agg:=true,size:=3,bytes:=56,zero:=[AV.s [],AV.s [],AV.g (Value.slice none 0 0)],kind:=TK.struct [(0,9),(1,9),(2,33)] }:=by kernel_rfl
theorem t88:ti Tryz.prog 88=some { agg:=true,size:=3,bytes:=56,zero:=[AV.s [],AV.s [],AV.g (Value.slice none 0 0)],kind:=TK.struct [(0,9),(1,9),(2,33)] }:=by kernel_rfl
theorem t97:ti Tryz.prog 97=some { agg:=true,size:=3,bytes:=32,zero:=[AV.g (Value.int IntKind.i64 0),AV.g (Value.int IntKind.i64 0),AV.s []],kind:=TK.struct [(0,3),(1,3),(2,9)] }:=by kernel_rfl
theorem t98:ti Tryz.prog 98=some { agg:=true,size:=3,bytes:=32,zero:=[AV.g (Value.int IntKind.i64 0),AV.g (Value.int IntKind.i64 0),AV.s []],kind:=TK.struct [(0,3),(1,3),(2,9)] }:=by kernel_rfl
theorem t102:ti Tryz.prog 102=some { agg:=true,size:=3,bytes:=40,zero:=[AV.g (Value.slice none 0 0),AV.g (Value.int IntKind.i64 0),AV.g (Value.int IntKind.i64 0)],kind:=TK.struct [(0,22),(1,3),(2,3)] }:=by kernel_rfl
theorem t103:ti Tryz.prog 103=some { agg:=true,size:=3,bytes:=40,zero:=[AV.g (Value.slice none 0 0),AV.g (Value.int IntKind.i64 0),AV.g (Value.int IntKind.i64 0)],kind:=TK.struct [(0,22),(1,3),(2,3)] }:=by kernel_rfl
theorem t113:ti Tryz.prog 113=some { agg:=false,size:=1,bytes:=8,zero:=[AV.g (Value.int IntKind.u64 0)],kind:=TK.int IntKind.u64 }:=by kernel_rfl
theorem t120:ti Tryz.prog 120=some { agg:=false,size:=1,bytes:=24,zero:=[AV.g (Value.slice none 0 0)],kind:=TK.slice 3 }:=by kernel_rfl
theorem t124:ti Tryz.prog 124=some { agg:=false,size:=1,bytes:=8,zero:=[AV.g (Value.pointer none)],kind:=TK.ptr 46 }:=by kernel_rfl
theorem t127:ti Tryz.prog 127=some { agg:=false,size:=1,bytes:=8,zero:=[AV.g (Value.pointer none)],kind:=TK.ptr 82 }:=by kernel_rfl
theorem t141:ti Tryz.prog 141=some { agg:=false,size:=1,bytes:=8,zero:=[AV.g (Value.int IntKind.i64 0)],kind:=TK.int IntKind.i64 }:=by kernel_rfl
theorem t149:ti Tryz.prog 149=some { agg:=false,size:=1,bytes:=4,zero:=[AV.g (Value.int IntKind.u32 0)],kind:=TK.int IntKind.u32 }:=by kernel_rfl
theorem t151:ti Tryz.prog 151=some { agg:=false,size:=1,bytes:=8,zero:=[AV.g (Value.int IntKind.u64 0)],kind:=TK.int IntKind.u64 }:=by kernel_rfl
theorem t162:ti Tryz.prog 162=some { agg:=false,size:=1,bytes:=8,zero:=[AV.g (Value.int IntKind.u64 0)],kind:=TK.int IntKind.u64 }:=by kernel_rfl
theorem t166:ti Tryz.prog 166=some { agg:=false,size:=1,bytes:=8,zero:=[AV.g (Value.pointer none)],kind:=TK.ptr 3 }:=by kernel_rfl
theorem t172:ti Tryz.prog 172=some { agg:=false,size:=1,bytes:=8,zero:=[AV.g (Value.pointer none)],kind:=TK.ptr 162 }:=by kernel_rfl
theorem t179:ti Tryz.prog 179=some { agg:=true,size:=4,bytes:=40,zero:=[AV.g (Value.pointer none),AV.g (Value.pointer none),AV.g (Value.pointer none),AV.s []],kind:=TK.struct [(0,17),(1,17),(2,17),(3,9)] }:=by kernel_rfl
theorem t180:ti Tryz.prog 180=some { agg:=true,size:=4,bytes:=40,zero:=[AV.g (Value.pointer none),AV.g (Value.pointer none),AV.g (Value.pointer none),AV.s []],kind:=TK.struct [(0,17),(1,17),(2,17),(3,9)] }:=by kernel_rfl
theorem t181:ti Tryz.prog 181=some { agg:=true,size:=0,bytes:=0,zero:=[],kind:=TK.array 0 16 }:=by kernel_rfl
theorem t182:ti Tryz.prog 182=some { agg:=true,size:=0,bytes:=0,zero:=[],kind:=TK.struct [(0,181)] }:=by kernel_rfl
theorem t183:ti Tryz.prog 183=some { agg:=true,size:=0,bytes:=0,zero:=[],kind:=TK.struct [(0,181)] }:=by kernel_rfl
theorem t185:ti Tryz.prog 185=some { agg:=false,size:=1,bytes:=1,zero:=[AV.g (Value.int IntKind.u8 0)],kind:=TK.int IntKind.u8 }:=by kernel_rfl
theorem t186:ti Tryz.prog 186=some { agg:=false,size:=1,bytes:=1,zero:=[AV.g (Value.int IntKind.u8 0)],kind:=TK.int IntKind.u8 }:=by kernel_rfl
theorem t188:ti Tryz.prog 188=some { agg:=false,size:=1,bytes:=8,zero:=[AV.g (Value.pointer none)],kind:=TK.ptr 5 }:=by kernel_rfl
theorem t189:ti Tryz.prog 189=some { agg:=false,size:=1,bytes:=4,zero:=[AV.g (Value.int IntKind.i32 0)],kind:=TK.int IntKind.i32 }:=by kernel_rfl
theorem t190:ti Tryz.prog 190=some { agg:=false,size:=1,bytes:=4,zero:=[AV.g (Value.int IntKind.i32 0)],kind:=TK.int IntKind.i32 }:=by kernel_rfl
theorem t191:ti Tryz.prog 191=some { agg:=true,size:=11,bytes:=48,zero:=[AV.g (Value.int IntKind.u64 0),AV.g (Value.int IntKind.u64 0),AV.g (Value.int IntKind.u32 0),AV.g (Value.int IntKind.u8 0),AV.g (Value.int IntKind.u8 0),AV.g (Value.int IntKind.u8 0),AV.g (Value.int IntKind.u8 0),AV.g Value.nilFunc,AV.g (Value.pointer none),AV.g (Value.int IntKind.i32 0),AV.g (Value.int IntKind.i32 0)],kind:=TK.struct [(0,12),(1,12),(2,149),(3,185),(4,5),(5,5),(6,186),(7,187),(8,188),(9,189),(10,190)] }:=by kernel_rfl
theorem t192:ti Tryz.prog 192=some { agg:=true,size:=11,bytes:=48,zero:=[AV.g (Value.int IntKind.u64 0),AV.g (Value.int IntKind.u64 0),AV.g (Value.int IntKind.u32 0),AV.g (Value.int IntKind.u8 0),AV.g (Value.int IntKind.u8 0),AV.g (Value.int IntKind.u8 0),AV.g (Value.int IntKind.u8 0),AV.g Value.nilFunc,AV.g (Value.pointer none),AV.g (Value.int IntKind.i32 0),AV.g (Value.int IntKind.i32 0)],kind:=TK.struct [(0,12),(1,12),(2,149),(3,185),(4,5),(5,5),(6,186),(7,187),(8,188),(9,189),(10,190)] }:=by kernel_rfl
theorem u_bool:Tryz.prog.underlying 4=some .bool:=by kernel_rfl
attribute [simp ↓] spl_tt spl_tf spl_ft spl_ff
attribute [simp] creg_nil zve zvf cO cR cG_bool cG_undef spl_ct spl_cf putC nmC aop ev cv updL zb0 upd_upd zbk zby zbr aLen aBuiltin aBin aIntBin aFieldAddr placeOf aLoad cellsAt aUn aIndexAddr st0 valCells isOne Value.oneCell' aStore setCells List.getElem?_cons_zero List.getElem?_cons_succ Option.getD_some zcd formOb_r1 aBuild parts fillA placesOf aField aIndex aSlice optIdx aStrBin aMakeSlice viewCells viewCell arrN frzU capOk aConv aNews aAppend aBuildSlice chunks endR_some am0_gg am0_ss am0_ll am1_gg am1_ss am1_ll am1_nl am1_al am2_gg am2_ss am2_ll am2_nl am2_al am2_ff zvg zvh am2s_nn am2s_cc amRs_one amRs_two' amRs_thr zzi zzj zvi KpE KpO KpR KpOR t2 t3 t4 t5 t6 t7 t8 t9 t10 t11 t12 t13 t14 t15 t16 t17 t18 t19 t21 t22 t24 t26 t30 t31 t33 t34 t35 t36 t37 t40 t42 t44 t45 t46 t55 t56 t57 t61 t80 t81 t82 t87 t88 t97 t98 t102 t103 t113 t120 t124 t127 t141 t149 t151 t162 t166 t172 t179 t180 t181 t182 t183 t185 t186 t188 t189 t190 t191 t192 u_bool
attribute [simp] zcf gE tP
end Go.Proofs.YtodmafgmdlkhoaaGreat.Vs
end
section
namespace Go.Proofs.YtodmafgmdlkhoaaGreat.Vs
set_option linter.all false
set_option maxRecDepth 100000
/-- Marks. -/
def mkL{α:Type}(f:Int→α)(k:Int)(n:Nat):List α:=(List.range n).map λj=>f (k+(j:Nat))
def mkR{α:Type}(f:Int→α)(k:Int)(l:List α)(i:Nat):List α:=mkL f k i++l.drop i
def mB(k:Int):Bool:=k.tmod 3==0
/-- Decimal digits. -/
def dg(n:Nat)(out:List UInt8):List UInt8:=if n=0 then out else dg (n / 10) (strN [IntKind.u8.wrap (48+(n:Int) % 10)]++out)
termination_by n
decreasing_by omega
def mT(k:Int):List UInt8:=if k≤0 then [109,48] else 109 :: dg k.toNat []
/-- A copy under way. -/
def cpR{α:Type}(z:α)(l:List α)(i:Nat):List α:=l.take i++List.replicate (l.length-i) z
/-- Marks of a row of structs. -/
def mkS{α:Type}(mk:Int→α→α)(cnt:α→Int):Int→List α→List α
 | _,[]=>[]
 | k,u :: us=>mk k u :: mkS mk cnt (k+cnt u) us
def cntS{α:Type}(cnt:α→Int)(us:List α):Int:=us.foldr (λu n=>cnt u+n) 0
def mkSR{α:Type}(mk:Int→α→α)(cnt:α→Int)(k:Int)(us:List α)(i:Nat):List α:=mkS mk cnt k (us.take i)++us.drop i
theorem zqa(z:List AV)(n:Nat)(h:z.all scal0=true):scR (List.replicate n z)=true:=by
 unfold scR
 rw [List.all_eq_true]
 intro x hx
 rw [List.eq_of_mem_replicate hx];exact h
/-- A copy of structs under way. -/
def cpS{α:Type}(z:List AV)(f:α→List AV)(us:List α)(i:Nat):List (List AV):=(us.take i).map f++List.replicate (us.length-i) z
end Go.Proofs.YtodmafgmdlkhoaaGreat.Vs
end
section
namespace Go.Proofs.YtodmafgmdlkhoaaGreat.Vs
set_option linter.all false
end Go.Proofs.YtodmafgmdlkhoaaGreat.Vs
end
section
namespace Go.Proofs.YtodmafgmdlkhoaaGreat.Vs
set_option linter.all false
set_option maxRecDepth 100000
theorem len_szS{α:Type}{f:α→Int}(hf:∀x,0≤f x)(l:List α):(l.length:Int)≤szS f l:=by have:=zbv hf l;unfold szS;omega
end Go.Proofs.YtodmafgmdlkhoaaGreat.Vs
end
section
namespace Go.Proofs.YtodmafgmdlkhoaaGreat.Vs
set_option linter.all false
set_option maxRecDepth 100000
theorem l1In(a b c:Int):PCall Tryz.prog 78 [(.g (.int .i64 (a))),(.g (.int .i64 (b))),(.g (.int .i64 (c)))] (.g (.bool (decide (b≤a)&&decide (a≤c)))):=by
 refine zbq Tryz.func78 (by rfl) (by rfl) (by rw [Tryz.ntmps78];exact Nat.le_of_ble_eq_true rfl) rfl (by decide) ?_
 rw [Tryz.ntmps78]
 refine AW_k [(0,_),(1,_),(2,_)] ⟨rfl,rfl,rfl,trivial⟩ ?_
 refine AW_r rfl rfl λK hK=>?_
 simp (disch:=omega)
 repeat' first|(refine ⟨by omega,?_⟩)|(intro _)
 refine hK _ ?_;clear hK K
 refine AW_r rfl rfl λK hK=>?_
 simp (disch:=omega)
 repeat' first|(exfalso;omega)|(refine ⟨λ_=>?_,λ_=>?_⟩)|(refine ⟨by omega,?_⟩)|(intro _)
 all_goals (refine hK _ ?_;clear hK K)
 all_goals
  refine zbp (zcb ?_)
  simp (disch:=omega)
  all_goals first | omega|(simp_all;done)|(simp [List.take_of_length_le];done)|((try simp_all);(try simp (disch:=omega) only [zcf,Int.tdiv_eq_ediv_of_nonneg,Int.tmod_eq_emod_of_nonneg,and_true,true_and]);done)|((try simp_all);(try simp (disch:=omega) only [zcf,Int.tdiv_eq_ediv_of_nonneg,Int.tmod_eq_emod_of_nonneg,and_true,true_and] at *);omega)
theorem zsk(a b c:Int):PCall Tryz.prog 109 [(.g (.int .i64 (a))),(.g (.int .i64 (b))),(.g (.int .i64 (c)))] (.g (.bool (decide (b≤a)&&decide (a≤c)))):=by
 refine zbq Tryz.func109 (by rfl) (by rfl) (by rw [Tryz.ntmps109];exact Nat.le_of_ble_eq_true rfl) rfl (by decide) ?_
 rw [Tryz.ntmps109]
 refine AW_k [(0,_),(1,_),(2,_)] ⟨rfl,rfl,rfl,trivial⟩ ?_
 refine AW_r rfl rfl λK hK=>?_
 simp (disch:=omega)
 repeat' first|(refine ⟨by omega,?_⟩)|(intro _)
 refine hK _ ?_;clear hK K
 refine AW_r rfl rfl λK hK=>?_
 simp (disch:=omega)
 repeat' first|(exfalso;omega)|(refine ⟨λ_=>?_,λ_=>?_⟩)|(refine ⟨by omega,?_⟩)|(intro _)
 all_goals (refine hK _ ?_;clear hK K)
 all_goals
  refine zbp (zcb ?_)
  simp (disch:=omega)
  all_goals first | omega|(simp_all;done)|(simp [List.take_of_length_le];done)|((try simp_all);(try simp (disch:=omega) only [zcf,Int.tdiv_eq_ediv_of_nonneg,Int.tmod_eq_emod_of_nonneg,and_true,true_and]);done)|((try simp_all);(try simp (disch:=omega) only [zcf,Int.tdiv_eq_ediv_of_nonneg,Int.tmod_eq_emod_of_nonneg,and_true,true_and] at *);omega)
def LoB(b:UInt8):Prop:=97≤b.toNat∧b.toNat≤122
def Word(s:List UInt8):Prop:=1≤s.length∧s.length≤8∧∀(j:Nat) b,s[j]? = some b→LoB b
def zG0:=And.intro @zb0 (And.intro @zbk @zbr)
theorem l4Word(s:List UInt8):PCall Tryz.prog 69 [.s s] (.g (.bool (decB (Word s)))):=by
 refine zbq Tryz.func69 (by rfl) (by rfl) (by rw [Tryz.ntmps69];exact Nat.le_of_ble_eq_true rfl) rfl (by decide) ?_
 rw [Tryz.ntmps69]
 refine AW_k [(0,_)] ⟨rfl,trivial⟩ ?_
 refine AW_r rfl rfl λK hK=>?_
 simp (disch:=omega)
 repeat' first|(refine ⟨by omega,?_⟩)|(intro _)
 refine hK _ ?_;clear hK K
 refine zbh ?_
 refine AW_r rfl rfl λK hK=>?_
 simp (disch:=omega)
 repeat' first|(exfalso;omega)|(refine zcz (zbd zcl (zbd zcl (zbd zcl zbl))) (l1In _ _ _) rfl ?_;simp (disch:=omega))|(refine ⟨by omega,?_⟩)|(intro _)
 refine hK _ ?_;clear hK K
 refine zbg rfl (λhc1=>?_) (λhc1=>?_)
 ·try simp at hc1
  all_goals
   refine AW_r rfl rfl λK hK=>?_
   simp (disch:=omega)
   repeat' first|(exfalso;omega)|(refine ⟨λ_=>?_,λ_=>?_⟩)|(refine ⟨by omega,?_⟩)|(intro _)
   all_goals (refine hK _ ?_;clear hK K)
   all_goals
    refine zbp (zcb ?_)
    simp (disch:=omega)
    all_goals first|(refine zco λh=>?_;grind [Word,LoB])|(refine zcc ?_;grind [Word,LoB])
 ·try simp at hc1
  all_goals
   refine zbi ?_
   refine zbm ?_
   refine zbh ?_
   refine AW_r rfl rfl λK hK=>?_
   simp (disch:=omega)
   repeat' first|(exfalso;omega)|(refine ⟨λ_=>?_,λ_=>?_⟩)|(refine ⟨by omega,?_⟩)|(intro _)
   all_goals (refine hK _ ?_;clear hK K)
   all_goals
    refine zbj ?_
    refine zbs (λmM sS=>∃(i:Nat),mM=s.length-i∧(i≤s.length∧∀j b,j<i→s[j]? = some b→LoB b)∧sS = { env:=lkE [(0,.s s),(3,(.g (.int .i64 ((i:Nat)))))],ob:=formOb [] [] }) ?_ ?_
    ·refine ⟨_,LeS.kp [(0,.s s),(3,(.g (.int .i64 (((0):Nat)))))] (by simp [zG0,KpE];try rfl),_,0,rfl,?_,rfl⟩
     ·simp
    ·rintro mM sS ⟨i,rfl,⟨hi,hpre⟩,rfl⟩
     refine zbh ?_
     refine AW_r rfl rfl λK hK=>?_
     simp (disch:=omega)
     repeat' first|(refine ⟨by omega,?_⟩)|(intro _)
     refine hK _ ?_;clear hK K
     refine zbg rfl (λhc2=>?_) (λhc2=>?_)
     ·try simp at hc2
      all_goals
       have hg:s[i]? = some s[i]:=List.getElem?_eq_getElem (by omega)
       refine zbi ?_
       refine zbm ?_
       refine zbh ?_
       refine zbj ?_
       refine AW_r rfl rfl λK hK=>?_
       simp (disch:=omega)
       repeat' first|(exfalso;omega)|(refine ⟨λ_=>?_,λ_=>?_⟩)|(refine ⟨by omega,?_⟩)|(intro _)
       all_goals (refine hK _ ?_;clear hK K)
       all_goals
        refine zbg rfl (λhc3=>?_) (λhc3=>?_)
        ·try simp at hc3
         all_goals
          refine AW_r rfl rfl λK hK=>?_
          simp (disch:=omega)
          repeat' first|(exfalso;omega)|(refine ⟨λ_=>?_,λ_=>?_⟩)|(refine ⟨by omega,?_⟩)|(intro _)
          all_goals (refine hK _ ?_;clear hK K)
          all_goals
           refine zbp (zcb ?_)
           simp (disch:=omega)
           all_goals first|(refine zco λh=>?_;grind [Word,LoB])|(refine zcc ?_;grind [Word,LoB])
        ·try simp at hc3
         all_goals
          refine zbi ?_
          refine zbm ?_
          refine zcv rfl rfl λK hK=>?_
          simp (disch:=omega)
          repeat' first|(exfalso;omega)|(refine ⟨λ_=>?_,λ_=>?_⟩)|(refine ⟨by omega,?_⟩)|(intro _)
          all_goals (refine hK _ ?_;clear hK K)
          all_goals
           refine ⟨_,LeS.kp [(0,.s s),(3,(.g (.int .i64 (((i+1):Nat)))))] (by simp [zG0,KpE];try rfl),_,?_,i+1,rfl,?_,rfl⟩
           ·omega
           ·refine ⟨by omega,?_⟩;grind [LoB]
     ·try simp at hc2
      all_goals
       refine zbx ?_
       refine zbm ?_
       refine AW_r rfl rfl λK hK=>?_
       simp (disch:=omega)
       repeat' first|(exfalso;omega)|(refine ⟨λ_=>?_,λ_=>?_⟩)|(refine ⟨by omega,?_⟩)|(intro _)
       all_goals (refine hK _ ?_;clear hK K)
       all_goals
        refine zbp (zcb ?_)
        simp (disch:=omega)
        all_goals first|(refine zco λh=>?_;grind [Word,LoB])|(refine zcc ?_;grind [Word,LoB])
theorem isWord(s:List UInt8)(hs:s.length≤1048576):PCall Tryz.prog 148 [.s s] (.g (.bool (decB (Word s)))):=by
 refine zbq Tryz.func148 (by rfl) (by rfl) (by rw [Tryz.ntmps148];exact Nat.le_of_ble_eq_true rfl) rfl (by decide) ?_
 rw [Tryz.ntmps148]
 refine AW_k [(0,_)] ⟨rfl,trivial⟩ ?_
 refine AW_r rfl rfl λK hK=>?_
 simp (disch:=omega)
 repeat' first|(refine ⟨by omega,?_⟩)|(intro _)
 refine hK _ ?_;clear hK K
 refine zbh ?_
 refine AW_r rfl rfl λK hK=>?_
 simp (disch:=omega)
 repeat' first|(refine ⟨by omega,?_⟩)|(intro _)
 refine hK _ ?_;clear hK K
 refine zbj ?_
 refine zbs (λmM sS=>∃(i:Nat),mM=s.length-i∧(i≤s.length∧∀j b,j<i→s[j]? = some b→LoB b)∧sS = { env:=lkE [(0,.s s),(3,(.g (.int .i64 ((i:Nat)))))],ob:=formOb [] [] }) ?_ ?_
 ·refine ⟨_,LeS.kp [(0,.s s),(3,(.g (.int .i64 (((0):Nat)))))] (by simp [zG0,KpE];try rfl),_,0,rfl,?_,rfl⟩
  ·simp
 ·rintro mM sS ⟨i,rfl,⟨hi,hpre⟩,rfl⟩
  refine zbh ?_
  refine AW_r rfl rfl λK hK=>?_
  simp (disch:=omega)
  repeat' first|(refine ⟨by omega,?_⟩)|(intro _)
  refine hK _ ?_;clear hK K
  refine zbg rfl (λhc4=>?_) (λhc4=>?_)
  ·try simp at hc4
   all_goals
    have hg:s[i]? = some s[i]:=List.getElem?_eq_getElem (by omega)
    refine zbi ?_
    refine zbm ?_
    refine zbh ?_
    refine zbj ?_
    refine AW_r rfl rfl λK hK=>?_
    simp (disch:=omega)
    repeat' first|(exfalso;omega)|(refine ⟨λ_=>?_,λ_=>?_⟩)|(refine ⟨by omega,?_⟩)|(intro _)
    all_goals (refine hK _ ?_;clear hK K)
    all_goals
     refine zbg rfl (λhc5=>?_) (λhc5=>?_)
     ·try simp at hc5
      all_goals
       refine AW_r rfl rfl λK hK=>?_
       simp (disch:=omega)
       repeat' first|(exfalso;omega)|(refine ⟨λ_=>?_,λ_=>?_⟩)|(refine ⟨by omega,?_⟩)|(intro _)
       all_goals (refine hK _ ?_;clear hK K)
       all_goals
        refine zbp (zcb ?_)
        simp (disch:=omega)
        all_goals first|(refine zco λh=>?_;grind [Word,LoB])|(refine zcc ?_;grind [Word,LoB])|(rw [Bool.eq_iff_iff,zbf];grind [Word,LoB])
     ·try simp at hc5
      all_goals
       refine zbi ?_
       refine zbm ?_
       refine zcv rfl rfl λK hK=>?_
       simp (disch:=omega)
       repeat' first|(exfalso;omega)|(refine ⟨λ_=>?_,λ_=>?_⟩)|(refine ⟨by omega,?_⟩)|(intro _)
       all_goals (refine hK _ ?_;clear hK K)
       all_goals
        refine ⟨_,LeS.kp [(0,.s s),(3,(.g (.int .i64 (((i+1):Nat)))))] (by simp [zG0,KpE];try rfl),_,?_,i+1,rfl,?_,rfl⟩
        ·omega
        ·refine ⟨by omega,?_⟩;grind [LoB]
  ·try simp at hc4
   all_goals
    refine zbx ?_
    refine zbm ?_
    refine AW_r rfl rfl λK hK=>?_
    simp (disch:=omega)
    repeat' first|(exfalso;omega)|(refine zcz (zbd zcl (zbd zcl (zbd zcl zbl))) (zsk _ _ _) rfl ?_;simp (disch:=omega))|(refine ⟨λ_=>?_,λ_=>?_⟩)|(refine ⟨by omega,?_⟩)|(intro _)
    all_goals (refine hK _ ?_;clear hK K)
    all_goals
     refine zbp (zcb ?_)
     simp (disch:=omega)
     all_goals first|(refine zco λh=>?_;grind [Word,LoB])|(refine zcc ?_;grind [Word,LoB])|(rw [Bool.eq_iff_iff,zbf];grind [Word,LoB])
end Go.Proofs.YtodmafgmdlkhoaaGreat.Vs
end
section
namespace Go.Proofs.YtodmafgmdlkhoaaGreat.Vs
set_option linter.all false
set_option maxRecDepth 100000
def SnapP(p:DtCSnap):Prop:=Word p.fName∧(p.fTag=[]∨Word p.fTag)∧1≤p.fChunks.length∧p.fChunks.length≤4∧∀(j:Nat) c,p.fChunks[j]? = some c→c.length=8
noncomputable def findN(l:List DtCSnap)(name:List UInt8):Int:=idxZ (λp=>eqB p.fName name) l
def SetP(s:DtCSet):Prop:=Word s.fName∧s.fSnaps.length≤5∧∀(k:Nat) p,s.fSnaps[k]? = some p→SnapP p∧findN s.fSnaps p.fName=k
def CatP(c:DtCatalog):Prop:=c.fSets.length≤5∧∀(i:Nat) s,c.fSets[i]? = some s→SetP s∧∀t,0<i→c.fSets[i-1]? = some t→Op.bytesLess t.fName s.fName=true
def zG1:=And.intro @zcf (And.intro @gE (And.intro @tP (And.intro @zbf @zbn)))
theorem l15Snap(p:DtCSnap):PCall Tryz.prog 70 [.agg (DtCSnap.cells p)] (.g (.bool (decB (SnapP p)))):=by
 refine zbq Tryz.func70 (by rfl) (by rfl) (by rw [Tryz.ntmps70];exact Nat.le_of_ble_eq_true rfl) rfl (by decide) ?_
 rw [Tryz.ntmps70]
 refine AW_k [(0,_)] ⟨rfl,trivial⟩ ?_
 refine AW_r rfl rfl λK hK=>?_
 simp (disch:=omega) [zG1,DtCSnap.cells]
 repeat' first|(refine ⟨by omega,?_⟩)|(intro _)
 refine hK _ ?_;clear hK K
 refine zbh ?_
 refine AW_r rfl rfl λK hK=>?_
 simp (disch:=omega) [zG1,DtCSnap.cells]
 repeat' first|(exfalso;omega)|(refine zcz (zbd zdg zbl) (l4Word _) rfl ?_;simp (disch:=omega) [zG1,DtCSnap.cells])|(refine zcz (zbd zcl (zbd zcl (zbd zcl zbl))) (l1In _ _ _) rfl ?_;simp (disch:=omega) [zG1,DtCSnap.cells])|(refine ⟨λ_=>?_,λ_=>?_⟩)|(refine ⟨by omega,?_⟩)|(intro _)
 all_goals (refine hK _ ?_;clear hK K)
 all_goals
  refine zbg rfl (λhc1=>?_) (λhc1=>?_)
  ·try simp at hc1
   all_goals
    refine AW_r rfl rfl λK hK=>?_
    simp (disch:=omega) [zG1,DtCSnap.cells]
    repeat' first|(exfalso;omega)|(refine ⟨λ_=>?_,λ_=>?_⟩)|(refine ⟨by omega,?_⟩)|(intro _)
    all_goals (refine hK _ ?_;clear hK K)
    all_goals
     refine zbp (zcb ?_)
     simp (disch:=omega) [zG1,DtCSnap.cells]
     all_goals first | grind [SnapP]|(refine zco λh=>?_;grind [SnapP])|(refine zcc ?_;grind [SnapP])
  ·try simp at hc1
   all_goals
    refine zbi ?_
    refine zbm ?_
    refine zbh ?_
    refine AW_r rfl rfl λK hK=>?_
    simp (disch:=omega) [zG1,DtCSnap.cells]
    repeat' first|(exfalso;omega)|(refine ⟨λ_=>?_,λ_=>?_⟩)|(refine ⟨by omega,?_⟩)|(intro _)
    all_goals (refine hK _ ?_;clear hK K)
    all_goals
     refine zbj ?_
     refine zbs (λmM sS=>∃(i:Nat),mM=p.fChunks.length-i∧(i≤p.fChunks.length∧∀j c,j<i→p.fChunks[j]? = some c→c.length=8)∧sS = { env:=lkE [(1,.ptr 32 0),(3,(.g (.int .i64 ((i:Nat)))))],ob:=upd (formOb [] []) 32 (some (.cells (DtCSnap.cells p))) }) ?_ ?_
     ·refine ⟨_,LeS.kp [(1,.ptr 32 0),(3,(.g (.int .i64 (((0):Nat)))))] (by simp [zG0,KpE];try rfl),_,0,rfl,?_,rfl⟩
      ·simp
     ·rintro mM sS ⟨i,rfl,⟨hi,hpre⟩,rfl⟩
      refine zbh ?_
      refine AW_r rfl rfl λK hK=>?_
      simp (disch:=omega) [zG1,DtCSnap.cells,cS]
      repeat' first|(refine ⟨by omega,?_⟩)|(intro _)
      refine hK _ ?_;clear hK K
      refine zbg rfl (λhc2=>?_) (λhc2=>?_)
      ·try simp at hc2
       all_goals
        have hg:p.fChunks[i]? = some p.fChunks[i]:=List.getElem?_eq_getElem (by omega)
        refine zbi ?_
        refine zbm ?_
        refine zbh ?_
        refine zbj ?_
        refine AW_r rfl rfl λK hK=>?_
        simp (disch:=omega) [zG1,DtCSnap.cells,cS]
        repeat' first|(exfalso;omega)|(refine ⟨λ_=>?_,λ_=>?_⟩)|(refine ⟨by omega,?_⟩)|(intro _)
        all_goals (refine hK _ ?_;clear hK K)
        all_goals
         refine zbg rfl (λhc3=>?_) (λhc3=>?_)
         ·try simp at hc3
          all_goals
           refine AW_r rfl rfl λK hK=>?_
           simp (disch:=omega) [zG1,DtCSnap.cells,cS]
           repeat' first|(exfalso;omega)|(refine ⟨λ_=>?_,λ_=>?_⟩)|(refine ⟨by omega,?_⟩)|(intro _)
           all_goals (refine hK _ ?_;clear hK K)
           all_goals
            refine zbp (zcb ?_)
            simp (disch:=omega) [zG1,DtCSnap.cells,cS]
            all_goals first | grind [SnapP]|(refine zco λh=>?_;grind [SnapP])|(refine zcc ?_;grind [SnapP])
         ·try simp at hc3
          all_goals
           refine zbi ?_
           refine zbm ?_
           refine zcv rfl rfl λK hK=>?_
           simp (disch:=omega) [zG1,DtCSnap.cells,cS]
           repeat' first|(exfalso;omega)|(refine ⟨λ_=>?_,λ_=>?_⟩)|(refine ⟨by omega,?_⟩)|(intro _)
           all_goals (refine hK _ ?_;clear hK K)
           all_goals
            refine ⟨_,LeS.kp [(1,.ptr 32 0),(3,(.g (.int .i64 (((i+1):Nat)))))] (by simp [zG0,KpE];try rfl),_,?_,i+1,rfl,?_,rfl⟩
            ·omega
            ·refine ⟨by omega,?_⟩;grind
      ·try simp at hc2
       all_goals
        refine zbx ?_
        refine zbm ?_
        refine AW_r rfl rfl λK hK=>?_
        simp (disch:=omega) [zG1,DtCSnap.cells,cS]
        repeat' first|(exfalso;omega)|(refine ⟨λ_=>?_,λ_=>?_⟩)|(refine ⟨by omega,?_⟩)|(intro _)
        all_goals (refine hK _ ?_;clear hK K)
        all_goals
         refine zbp (zcb ?_)
         simp (disch:=omega) [zG1,DtCSnap.cells,cS]
         all_goals first | grind [SnapP]|(refine zco λh=>?_;grind [SnapP])|(refine zcc ?_;grind [SnapP])
def zG2:=And.intro @zcf (And.intro @gE @tP)
theorem zv7(s:DtCSet)(name:List UInt8)(hs:s.fSnaps.length≤1048576):PCall Tryz.prog 71 [.agg (DtCSet.cells s),.s name] (.g (.int .i64 (findN s.fSnaps name))):=by
 refine zbq Tryz.func71 (by rfl) (by rfl) (by rw [Tryz.ntmps71];exact Nat.le_of_ble_eq_true rfl) rfl (by decide) ?_
 rw [Tryz.ntmps71]
 refine AW_k [(0,_),(1,_)] ⟨rfl,rfl,trivial⟩ ?_
 refine AW_r rfl rfl λK hK=>?_
 simp (disch:=omega) [zG2,DtCSet.cells]
 repeat' first|(refine ⟨by omega,?_⟩)|(intro _)
 refine hK _ ?_;clear hK K
 refine zbh ?_
 refine AW_r rfl rfl λK hK=>?_
 simp (disch:=omega) [zG2,DtCSet.cells]
 repeat' first|(refine ⟨by omega,?_⟩)|(intro _)
 refine hK _ ?_;clear hK K
 refine zbj ?_
 refine zbs (λmM sS=>∃(i:Nat),mM=s.fSnaps.length-i∧(i≤s.fSnaps.length∧∀j x,j<i→s.fSnaps[j]? = some x→eqB x.fName name=false)∧sS = { env:=lkE [(1,.s name),(2,.ptr 48 0),(5,(.g (.int .i64 ((i:Nat)))))],ob:=upd (formOb [] []) 48 (some (.cells (DtCSet.cells s))) }) ?_ ?_
 ·refine ⟨_,LeS.kp [(1,.s name),(2,.ptr 48 0),(5,(.g (.int .i64 (((0):Nat)))))] (by simp [zG0,KpE];try rfl),_,0,rfl,?_,rfl⟩
  ·simp
 ·rintro mM sS ⟨i,rfl,⟨hi,hpre⟩,rfl⟩
  refine zbh ?_
  refine AW_r rfl rfl λK hK=>?_
  simp (disch:=omega) [zG2,DtCSet.cells,DtCSnap.cells]
  repeat' first|(refine ⟨by omega,?_⟩)|(intro _)
  refine hK _ ?_;clear hK K
  refine zbg rfl (λhc4=>?_) (λhc4=>?_)
  ·try simp at hc4
   all_goals
    have hg:s.fSnaps[i]? = some s.fSnaps[i]:=List.getElem?_eq_getElem (by omega)
    refine zbi ?_
    refine zbm ?_
    refine zbh ?_
    refine zbj ?_
    refine AW_r rfl rfl λK hK=>?_
    simp (disch:=omega) [zG2,DtCSet.cells,DtCSnap.cells]
    repeat' first|(exfalso;omega)|(refine ⟨λ_=>?_,λ_=>?_⟩)|(refine ⟨by omega,?_⟩)|(intro _)
    all_goals (refine hK _ ?_;clear hK K)
    all_goals
     refine zbg rfl (λhc5=>?_) (λhc5=>?_)
     ·try simp at hc5
      all_goals
       refine AW_r rfl rfl λK hK=>?_
       simp (disch:=omega) [zG2,DtCSet.cells,DtCSnap.cells]
       repeat' first|(exfalso;omega)|(refine ⟨λ_=>?_,λ_=>?_⟩)|(refine ⟨by omega,?_⟩)|(intro _)
       all_goals (refine hK _ ?_;clear hK K)
       all_goals
        refine zbp (zcb ?_)
        simp (disch:=omega) [zG2,DtCSet.cells,DtCSnap.cells]
        all_goals first|(unfold findN;rw [zcs (by assumption) (by simp_all [zbc]) hpre];done)|(unfold findN;exact (zcs (by assumption) (by simp_all [zbc]) hpre))|(unfold findN;exact zdp (λj x h=>hpre j x (by omega)))
     ·try simp at hc5
      all_goals
       refine zbi ?_
       refine zbm ?_
       refine zcv rfl rfl λK hK=>?_
       simp (disch:=omega) [zG2,DtCSet.cells,DtCSnap.cells]
       repeat' first|(exfalso;omega)|(refine ⟨λ_=>?_,λ_=>?_⟩)|(refine ⟨by omega,?_⟩)|(intro _)
       all_goals (refine hK _ ?_;clear hK K)
       all_goals
        refine ⟨_,LeS.kp [(1,.s name),(2,.ptr 48 0),(5,(.g (.int .i64 (((i+1):Nat)))))] (by simp [zG0,KpE];try rfl),_,?_,i+1,rfl,?_,rfl⟩
        ·omega
        ·refine ⟨by omega,?_⟩;grind [zbb]
  ·try simp at hc4
   all_goals
    refine zbx ?_
    refine zbm ?_
    refine AW_r rfl rfl λK hK=>?_
    simp (disch:=omega) [zG2,DtCSet.cells,DtCSnap.cells]
    repeat' first|(exfalso;omega)|(refine ⟨λ_=>?_,λ_=>?_⟩)|(refine ⟨by omega,?_⟩)|(intro _)
    all_goals (refine hK _ ?_;clear hK K)
    all_goals
     refine zbp (zcb ?_)
     simp (disch:=omega) [zG2,DtCSet.cells,DtCSnap.cells]
     all_goals first|(unfold findN;rw [zcs (by assumption) (by simp_all [zbc]) hpre];done)|(unfold findN;exact (zcs (by assumption) (by simp_all [zbc]) hpre))|(unfold findN;exact zdp (λj x h=>hpre j x (by omega)))
theorem zc4(c:DtCatalog)(hs:DtCatalog.sz c≤1048576):PCall Tryz.prog 25 [.agg (DtCatalog.cells c)] (.g (.bool (decB (CatP c)))):=by
 have hl:c.fSets.length≤1048576:=by have:=zbv DtCSet.sz_nonneg c.fSets;simp only [DtCatalog.sz,szS] at hs;omega
 have hl2:∀i (h:i<c.fSets.length),c.fSets[i].fSnaps.length≤1048576:=by
  intro i h
  have h1:=zcr DtCSet.sz_nonneg c.fSets c.fSets[i] (List.getElem_mem _)
  have h2:=zbv DtCSnap.sz_nonneg c.fSets[i].fSnaps
  simp only [DtCatalog.sz,szS] at hs
  simp only [DtCSet.sz,szS] at h1
  omega
 refine zbq Tryz.func25 (by rfl) (by rfl) (by rw [Tryz.ntmps25];exact Nat.le_of_ble_eq_true rfl) rfl (by decide) ?_
 rw [Tryz.ntmps25]
 refine AW_k [(0,_)] ⟨rfl,trivial⟩ ?_
 refine AW_r rfl rfl λK hK=>?_
 simp (disch:=omega) [zG1,DtCatalog.cells,DtCSet.cells,DtCSnap.cells]
 repeat' first|(refine ⟨by omega,?_⟩)|(intro _)
 refine hK _ ?_;clear hK K
 refine zbh ?_
 refine AW_r rfl rfl λK hK=>?_
 simp (disch:=omega) [zG1,DtCatalog.cells,DtCSet.cells,DtCSnap.cells]
 repeat' first|(refine ⟨by omega,?_⟩)|(intro _)
 refine hK _ ?_;clear hK K
 refine zbg rfl (λhc6=>?_) (λhc6=>?_)
 ·try simp at hc6
  all_goals
   refine AW_r rfl rfl λK hK=>?_
   simp (disch:=omega) [zG1,DtCatalog.cells,DtCSet.cells,DtCSnap.cells]
   repeat' first|(exfalso;omega)|(refine ⟨λ_=>?_,λ_=>?_⟩)|(refine ⟨by omega,?_⟩)|(intro _)
   all_goals (refine hK _ ?_;clear hK K)
   all_goals
    refine zbp (zcb ?_)
    simp (disch:=omega) [zG1,DtCatalog.cells,DtCSet.cells,DtCSnap.cells]
    all_goals first | grind [CatP,SetP]|(refine zco λh=>?_;grind [CatP,SetP])|(refine zcc ?_;grind [CatP,SetP])
 ·try simp at hc6
  all_goals
   refine zbi ?_
   refine zbm ?_
   refine zbh ?_
   refine AW_r rfl rfl λK hK=>?_
   simp (disch:=omega) [zG1,DtCatalog.cells,DtCSet.cells,DtCSnap.cells]
   repeat' first|(exfalso;omega)|(refine ⟨λ_=>?_,λ_=>?_⟩)|(refine ⟨by omega,?_⟩)|(intro _)
   all_goals (refine hK _ ?_;clear hK K)
   all_goals
    refine zbj ?_
    refine zbs (λmM sS=>∃(i:Nat),mM=c.fSets.length-i∧(i≤c.fSets.length∧∀j s,j<i→c.fSets[j]? = some s→SetP s∧∀t,0<j→c.fSets[j-1]? = some t→Op.bytesLess t.fName s.fName=true)∧sS = { env:=lkE [(1,.ptr 32 0),(3,(.g (.int .i64 ((i:Nat)))))],ob:=lk [(32,.cells (DtCatalog.cells c))] }) ?_ ?_
    ·refine ⟨_,LeS.ko [(1,.ptr 32 0),(3,(.g (.int .i64 (((0):Nat)))))] [(32,.cells (DtCatalog.cells c))] (by simp [zG0,KpE,DtCatalog.cells,DtCSet.cells];try rfl) (by simp [KpO,zb0,zbr,zby,zcd,DtCatalog.cells,DtCSet.cells];try rfl) (by rfl) (by simp) (by rfl),_,0,rfl,?_,rfl⟩
     ·simp
    ·rintro mM sS ⟨i,rfl,⟨hi,hpre⟩,rfl⟩
     refine zbh ?_
     refine AW_r rfl rfl λK hK=>?_
     simp (disch:=omega) [zG1,DtCatalog.cells,DtCSet.cells,DtCSnap.cells]
     repeat' first|(refine ⟨by omega,?_⟩)|(intro _)
     refine hK _ ?_;clear hK K
     refine zbg rfl (λhc7=>?_) (λhc7=>?_)
     ·try simp at hc7
      all_goals
       have hg:c.fSets[i]? = some (c.fSets[i]):=List.getElem?_eq_getElem (by omega)
       have hg':c.fSets[i-1]? = some (c.fSets[i-1]):=List.getElem?_eq_getElem (by omega)
       have hl2':=hl2 i (by omega)
       rcases Nat.eq_zero_or_pos i with hi0 | hi0
       all_goals
        refine zbi ?_
        refine zbm ?_
        refine zbh ?_
        refine zbj ?_
        refine AW_r rfl rfl λK hK=>?_
        simp (disch:=omega) [zG1,DtCatalog.cells,DtCSet.cells,DtCSnap.cells]
        repeat' first|(exfalso;omega)|(refine ⟨λ_=>?_,λ_=>?_⟩)|(refine ⟨by omega,?_⟩)|(intro _)
        all_goals (refine hK _ ?_;clear hK K)
        all_goals
         refine zbh ?_
         refine AW_q rfl mix (by kernel_rfl) rfl λK hK=>?_
         simp (disch:=omega) [zG1,DtCatalog.cells,DtCSet.cells,DtCSnap.cells]
         repeat' first|(exfalso;omega)|(refine zcz (zbd zdg zbl) (l4Word _) rfl ?_;simp (disch:=omega) [zG1,DtCatalog.cells,DtCSet.cells,DtCSnap.cells])|(refine ⟨λ_=>?_,λ_=>?_⟩)|(refine ⟨by omega,?_⟩)|(intro _)
         all_goals (refine hK _ ?_;clear hK K)
         all_goals
          refine zbg rfl (λhc8=>?_) (λhc8=>?_)
          ·try simp at hc8
           all_goals
            refine AW_r rfl rfl λK hK=>?_
            simp (disch:=omega) [zG1,DtCatalog.cells,DtCSet.cells,DtCSnap.cells]
            repeat' first|(exfalso;omega)|(refine ⟨λ_=>?_,λ_=>?_⟩)|(refine ⟨by omega,?_⟩)|(intro _)
            all_goals (refine hK _ ?_;clear hK K)
            all_goals
             refine zbp (zcb ?_)
             simp (disch:=omega) [zG1,DtCatalog.cells,DtCSet.cells,DtCSnap.cells]
             all_goals first | grind [CatP,SetP]|(refine zco λh=>?_;grind [CatP,SetP])|(refine zcc ?_;grind [CatP,SetP])
          ·try simp at hc8
           all_goals
            refine zbi ?_
            refine zbm ?_
            refine AW_r rfl rfl λK hK=>?_
            simp (disch:=omega) [zG1,DtCatalog.cells,DtCSet.cells,DtCSnap.cells]
            repeat' first|(exfalso;omega)|(refine ⟨λ_=>?_,λ_=>?_⟩)|(refine ⟨by omega,?_⟩)|(intro _)
            all_goals (refine hK _ ?_;clear hK K)
            all_goals
             refine zbj ?_
             refine zbs (λmM sS=>∃(k:Nat),mM=(c.fSets[i]).fSnaps.length-k∧(k≤(c.fSets[i]).fSnaps.length∧∀j p,j<k→(c.fSets[i]).fSnaps[j]? = some p→SnapP p∧findN (c.fSets[i]).fSnaps p.fName=j)∧sS = { env:=lkE [(1,.ptr 32 0),(3,(.g (.int .i64 ((i:Nat))))),(4,.ptr 80 0),(5,(.g (.int .i64 ((k:Nat)))))],ob:=lk [(32,.cells (DtCatalog.cells c)),(80,.cells (DtCSet.cells c.fSets[i]))] }) ?_ ?_
             ·refine ⟨_,LeS.ko [(1,.ptr 32 0),(3,(.g (.int .i64 ((i:Nat))))),(4,.ptr 80 0),(5,(.g (.int .i64 (((0):Nat)))))] [(32,.cells (DtCatalog.cells c)),(80,.cells (DtCSet.cells c.fSets[i]))] (by simp [zG0,KpE,DtCatalog.cells,DtCSet.cells];try rfl) (by simp [KpO,zb0,zbr,zby,zcd,DtCatalog.cells,DtCSet.cells];try rfl) (by rfl) (by simp) (by rfl),_,0,rfl,?_,rfl⟩
              ·simp
             ·rintro mM sS ⟨k,rfl,⟨hk,hkre⟩,rfl⟩
              refine zbh ?_
              refine AW_r rfl rfl λK hK=>?_
              simp (disch:=omega) [zG1,DtCatalog.cells,DtCSet.cells,DtCSnap.cells]
              repeat' first|(refine ⟨by omega,?_⟩)|(intro _)
              refine hK _ ?_;clear hK K
              refine zbg rfl (λhc9=>?_) (λhc9=>?_)
              ·try simp at hc9
               all_goals
                have hg2:(c.fSets[i]).fSnaps[k]? = some ((c.fSets[i]).fSnaps[k]):=List.getElem?_eq_getElem (by omega)
                refine zbi ?_
                refine zbm ?_
                refine zbh ?_
                refine zbj ?_
                refine AW_q rfl mix (by kernel_rfl) rfl λK hK=>?_
                simp (disch:=omega) [zG1,DtCatalog.cells,DtCSet.cells,DtCSnap.cells]
                repeat' first|(exfalso;omega)|(refine zcz (zbd (zbz rfl) zbl) (l15Snap _) rfl ?_;simp (disch:=omega) [zG1,DtCatalog.cells,DtCSet.cells,DtCSnap.cells])|(refine zcz (zbd (zbz rfl) (zbd zdg zbl)) (zv7 _ _ (by omega)) rfl ?_;simp (disch:=omega) [zG1,DtCatalog.cells,DtCSet.cells,DtCSnap.cells])|(refine ⟨λ_=>?_,λ_=>?_⟩)|(refine ⟨by omega,?_⟩)|(intro _)
                all_goals (refine hK _ ?_;clear hK K)
                all_goals
                 refine zbg rfl (λhc10=>?_) (λhc10=>?_)
                 ·try simp at hc10
                  all_goals
                   refine AW_r rfl rfl λK hK=>?_
                   simp (disch:=omega) [zG1,DtCatalog.cells,DtCSet.cells,DtCSnap.cells]
                   repeat' first|(exfalso;omega)|(refine ⟨λ_=>?_,λ_=>?_⟩)|(refine ⟨by omega,?_⟩)|(intro _)
                   all_goals (refine hK _ ?_;clear hK K)
                   all_goals
                    refine zbp (zcb ?_)
                    simp (disch:=omega) [zG1,DtCatalog.cells,DtCSet.cells,DtCSnap.cells]
                    all_goals first | grind [CatP,SetP]|(refine zco λh=>?_;grind [CatP,SetP])|(refine zcc ?_;grind [CatP,SetP])
                 ·try simp at hc10
                  all_goals
                   refine zbi ?_
                   refine zbm ?_
                   refine zcv rfl rfl λK hK=>?_
                   simp (disch:=omega) [zG1,DtCatalog.cells,DtCSet.cells,DtCSnap.cells]
                   repeat' first|(exfalso;omega)|(refine ⟨λ_=>?_,λ_=>?_⟩)|(refine ⟨by omega,?_⟩)|(intro _)
                   all_goals (refine hK _ ?_;clear hK K)
                   all_goals
                    refine ⟨_,LeS.ko [(1,.ptr 32 0),(3,(.g (.int .i64 ((i:Nat))))),(4,.ptr 80 0),(5,(.g (.int .i64 (((k+1):Nat)))))] [(32,.cells (DtCatalog.cells c)),(80,.cells (DtCSet.cells c.fSets[i]))] (by simp [zG0,KpE,DtCatalog.cells,DtCSet.cells];try rfl) (by simp [KpO,zb0,zbr,zby,zcd,DtCatalog.cells,DtCSet.cells];try rfl) (by rfl) (by simp) (by rfl),_,?_,k+1,rfl,?_,rfl⟩
                    ·omega
                    ·refine ⟨by omega,?_⟩;clear hl2;grind
              ·try simp at hc9
               all_goals
                refine zbx ?_
                refine zbm ?_
                refine zcv rfl rfl λK hK=>?_
                simp (disch:=omega) [zG1,DtCatalog.cells,DtCSet.cells,DtCSnap.cells]
                repeat' first|(exfalso;omega)|(refine ⟨λ_=>?_,λ_=>?_⟩)|(refine ⟨by omega,?_⟩)|(intro _)
                all_goals (refine hK _ ?_;clear hK K)
                all_goals
                 refine ⟨_,LeS.ko [(1,.ptr 32 0),(3,(.g (.int .i64 (((i+1):Nat)))))] [(32,.cells (DtCatalog.cells c))] (by simp [zG0,KpE,DtCatalog.cells,DtCSet.cells];try rfl) (by simp [KpO,zb0,zbr,zby,zcd,DtCatalog.cells,DtCSet.cells];try rfl) (by rfl) (by simp) (by rfl),_,?_,i+1,rfl,?_,rfl⟩
                 ·omega
                 ·refine ⟨by omega,?_⟩;clear hg' hl2;grind [SetP]
     ·try simp at hc7
      all_goals
       refine zbx ?_
       refine zbm ?_
       refine AW_r rfl rfl λK hK=>?_
       simp (disch:=omega) [zG1,DtCatalog.cells,DtCSet.cells,DtCSnap.cells]
       repeat' first|(exfalso;omega)|(refine ⟨λ_=>?_,λ_=>?_⟩)|(refine ⟨by omega,?_⟩)|(intro _)
       all_goals (refine hK _ ?_;clear hK K)
       all_goals
        refine zbp (zcb ?_)
        simp (disch:=omega) [zG1,DtCatalog.cells,DtCSet.cells,DtCSnap.cells]
        all_goals first | grind [CatP,SetP]|(refine zco λh=>?_;grind [CatP,SetP])|(refine zcc ?_;grind [CatP,SetP])
def Ch8(l:List (List UInt8)):Prop:=∀(j:Nat) c,l[j]? = some c→c.length=8
theorem zsl(l:List (List UInt8))(hs:l.length≤1048576):PCall Tryz.prog 111 [.sl 1 (l.map cS)] (.g (.bool (decB (Ch8 l)))):=by
 refine zbq Tryz.func111 (by rfl) (by rfl) (by rw [Tryz.ntmps111];exact Nat.le_of_ble_eq_true rfl) rfl (by decide) ?_
 rw [Tryz.ntmps111]
 refine AW_k [(0,_)] ⟨rfl,trivial⟩ ?_
 refine AW_r rfl rfl λK hK=>?_
 simp (disch:=omega) [zG2,cS]
 repeat' first|(refine ⟨by omega,?_⟩)|(intro _)
 refine hK _ ?_;clear hK K
 refine zbh ?_
 refine AW_r rfl rfl λK hK=>?_
 simp (disch:=omega) [zG2,cS]
 repeat' first|(refine ⟨by omega,?_⟩)|(intro _)
 refine hK _ ?_;clear hK K
 refine zbj ?_
 refine zbs (λmM sS=>∃(i:Nat),mM=l.length-i∧(i≤l.length∧∀(j:Nat) c,j<i→l[j]? = some c→c.length=8)∧sS = { env:=lkE [(5,.sl 1 (l.map cS)),(6,(.g (.int .i64 ((l.length:Nat))))),(7,(.g (.int .i64 ((i:Nat)))))],ob:=formOb [] [] }) ?_ ?_
 ·refine ⟨_,LeS.kp [(5,.sl 1 (l.map cS)),(6,(.g (.int .i64 ((l.length:Nat))))),(7,(.g (.int .i64 (((0):Nat)))))] (by simp [zG0,KpE];try rfl),_,0,rfl,?_,rfl⟩
  ·simp
 ·rintro mM sS ⟨i,rfl,⟨hi,hpre⟩,rfl⟩
  refine AW_r rfl rfl λK hK=>?_
  simp (disch:=omega) [zG2,cS]
  repeat' first|(refine ⟨by omega,?_⟩)|(intro _)
  refine hK _ ?_;clear hK K
  refine zbh ?_
  refine zbg rfl (λhc11=>?_) (λhc11=>?_)
  ·try simp at hc11
   all_goals
    have hg:l[i]? = some (l[i]):=List.getElem?_eq_getElem (by omega)
    refine zbi ?_
    refine zbm ?_
    refine zbh ?_
    refine zbj ?_
    refine AW_r rfl rfl λK hK=>?_
    simp (disch:=omega) [zG2,cS]
    repeat' first|(exfalso;omega)|(refine ⟨λ_=>?_,λ_=>?_⟩)|(refine ⟨by omega,?_⟩)|(intro _)
    all_goals (refine hK _ ?_;clear hK K)
    all_goals
     refine AW_r rfl rfl λK hK=>?_
     simp (disch:=omega) [zG2,cS]
     repeat' first|(refine ⟨by omega,?_⟩)|(intro _)
     refine hK _ ?_;clear hK K
     refine zbg rfl (λhc12=>?_) (λhc12=>?_)
     ·try simp at hc12
      all_goals
       refine AW_r rfl rfl λK hK=>?_
       simp (disch:=omega) [zG2,cS]
       repeat' first|(exfalso;omega)|(refine ⟨λ_=>?_,λ_=>?_⟩)|(refine ⟨by omega,?_⟩)|(intro _)
       all_goals (refine hK _ ?_;clear hK K)
       all_goals
        refine zbp (zcb ?_)
        simp (disch:=omega) [zG2,cS]
        all_goals first|(refine zco λh=>?_;grind [Ch8])|(refine zcc ?_;grind [Ch8])
     ·try simp at hc12
      all_goals
       refine zbi ?_
       refine zbm ?_
       refine zcv rfl rfl λK hK=>?_
       simp (disch:=omega) [zG2,cS]
       repeat' first|(exfalso;omega)|(refine ⟨λ_=>?_,λ_=>?_⟩)|(refine ⟨by omega,?_⟩)|(intro _)
       all_goals (refine hK _ ?_;clear hK K)
       all_goals
        refine ⟨_,LeS.kp [(5,.sl 1 (l.map cS)),(6,(.g (.int .i64 ((l.length:Nat))))),(7,(.g (.int .i64 (((i+1):Nat)))))] (by simp [zG0,KpE];try rfl),_,?_,i+1,rfl,?_,rfl⟩
        ·omega
        ·refine ⟨by omega,?_⟩;grind
  ·try simp at hc11
   all_goals
    refine zbx ?_
    refine zbm ?_
    refine AW_r rfl rfl λK hK=>?_
    simp (disch:=omega) [zG2,cS]
    repeat' first|(exfalso;omega)|(refine ⟨λ_=>?_,λ_=>?_⟩)|(refine ⟨by omega,?_⟩)|(intro _)
    all_goals (refine hK _ ?_;clear hK K)
    all_goals
     refine zbp (zcb ?_)
     simp (disch:=omega) [zG2,cS]
     all_goals first|(refine zco λh=>?_;grind [Ch8])|(refine zcc ?_;grind [Ch8])
theorem snap1(p:DtCSnap)(name:List UInt8):GCall Tryz.prog 153 [.agg (DtCSnap.cells p),.ptr 0 0] [[.s name]] [] (.g (.bool (eqB p.fName name))) []:=by
 refine zbq Tryz.func153 (by rfl) (by rfl) (by rw [Tryz.ntmps153];exact Nat.le_of_ble_eq_true rfl) rfl (by decide) ?_
 rw [Tryz.ntmps153]
 refine AW_k [(0,_),(1,_)] ⟨rfl,rfl,trivial⟩ ?_
 refine AW_r rfl rfl λK hK=>?_
 simp [DtCSnap.cells]
 repeat' first|(refine ⟨by omega,?_⟩)|(intro _)
 refine hK _ ?_;clear hK K
 refine AW_r rfl rfl λK hK=>?_
 simp [DtCSnap.cells]
 repeat' first|(refine ⟨by omega,?_⟩)|(intro _)
 refine hK _ ?_;clear hK K
 refine zbp (zcb ?_)
 simp [DtCSnap.cells]
 all_goals first|(rw [Bool.eq_iff_iff,zbc];simp;done)|(rw [eqB];simp)
theorem zni{F:FuncId}{name:List UInt8}{p:DtCSnap→Bool}(xs:List DtCSnap)(hn:xs.length≤1048576)(hf:∀x,GCall Tryz.prog F [.agg (DtCSnap.cells x),.ptr 0 0] [[.s name]] [] (.g (.bool (p x))) []):GCall Tryz.prog 152 [.sl 3 (xs.map DtCSnap.cells),.fn F [] [.ptr 0 0]] [[.s name]] [] (.g (.int .i64 (idxZ p xs))) []:=by
 refine zbq Tryz.func152 (by rfl) (by rfl) (by rw [Tryz.ntmps152];exact Nat.le_of_ble_eq_true rfl) rfl (by decide) ?_
 rw [Tryz.ntmps152]
 refine AW_k [(0,_),(1,_)] ⟨rfl,rfl,trivial⟩ ?_
 refine AW_r rfl rfl λK hK=>?_
 simp (disch:=omega) [zG2,DtCSnap.cells]
 repeat' first|(refine zd6 0 (.inr rfl) (zch [.s name] rfl) (zbd (zbz rfl) (zbd zc7 zbl)) (hf _) rfl ?_;try simp (disch:=omega) [zG2,DtCSnap.cells])|(refine ⟨by omega,?_⟩)|(intro _)
 refine hK _ ?_;clear hK K
 refine zbh ?_
 refine AW_r rfl rfl λK hK=>?_
 simp (disch:=omega) [zG2,DtCSnap.cells]
 repeat' first|(refine zd6 0 (.inr rfl) (zch [.s name] rfl) (zbd (zbz rfl) (zbd zc7 zbl)) (hf _) rfl ?_;try simp (disch:=omega) [zG2,DtCSnap.cells])|(refine ⟨by omega,?_⟩)|(intro _)
 refine hK _ ?_;clear hK K
 refine zbj ?_
 refine zbs (λmM sS=>∃(i:Nat),mM=xs.length-i∧(i≤xs.length∧∀j x,j<i→xs[j]? = some x→p x=false)∧sS = { env:=lkE [(0,.sl 3 (xs.map DtCSnap.cells)),(1,.fn F [] [.ptr 0 0]),(6,.sl 3 (xs.map DtCSnap.cells)),(7,(.g (.int .i64 ((xs.length:Nat))))),(8,(.g (.int .i64 ((i:Nat)))))],ob:=formOb [[.s name]] [] }) ?_ ?_
 ·refine ⟨_,LeS.kp [(0,.sl 3 (xs.map DtCSnap.cells)),(1,.fn F [] [.ptr 0 0]),(6,.sl 3 (xs.map DtCSnap.cells)),(7,(.g (.int .i64 ((xs.length:Nat))))),(8,(.g (.int .i64 (((0):Nat)))))] (by simp [zG0,KpE];try rfl),_,0,rfl,?_,rfl⟩
  ·simp
 ·rintro mM sS ⟨i,rfl,⟨hi,hpre⟩,rfl⟩
  refine AW_r rfl rfl λK hK=>?_
  simp (disch:=omega) [zG2,DtCSnap.cells]
  repeat' first|(refine zd6 0 (.inr rfl) (zch [.s name] rfl) (zbd (zbz rfl) (zbd zc7 zbl)) (hf _) rfl ?_;try simp (disch:=omega) [zG2,DtCSnap.cells])|(refine ⟨by omega,?_⟩)|(intro _)
  refine hK _ ?_;clear hK K
  refine zbh ?_
  refine zbg rfl (λhc13=>?_) (λhc13=>?_)
  ·try simp at hc13
   all_goals
    have hg:xs[i]? = some (xs[i]):=List.getElem?_eq_getElem (by omega)
    refine zbi ?_
    refine zbm ?_
    refine zbh ?_
    refine zbj ?_
    refine AW_r rfl rfl λK hK=>?_
    simp (disch:=omega) [zG2,DtCSnap.cells]
    repeat' first|(exfalso;omega)|(refine zd6 0 (.inr rfl) (zch [.s name] rfl) (zbd (zbz rfl) (zbd zc7 zbl)) (hf _) rfl ?_;try simp (disch:=omega) [zG2,DtCSnap.cells])|(refine ⟨λ_=>?_,λ_=>?_⟩)|(refine ⟨by omega,?_⟩)|(intro _)
    all_goals (refine hK _ ?_;clear hK K)
    all_goals
     refine AW_r rfl rfl λK hK=>?_
     simp (disch:=omega) [zG2,DtCSnap.cells]
     repeat' first|(refine zd6 0 (.inr rfl) (zch [.s name] rfl) (zbd (zbz rfl) (zbd zc7 zbl)) (hf _) rfl ?_;try simp (disch:=omega) [zG2,DtCSnap.cells])|(refine ⟨by omega,?_⟩)|(intro _)
     refine hK _ ?_;clear hK K
     refine zbg rfl (λhc14=>?_) (λhc14=>?_)
     ·try simp at hc14
      all_goals
       refine AW_r rfl rfl λK hK=>?_
       simp (disch:=omega) [zG2,DtCSnap.cells]
       repeat' first|(exfalso;omega)|(refine zd6 0 (.inr rfl) (zch [.s name] rfl) (zbd (zbz rfl) (zbd zc7 zbl)) (hf _) rfl ?_;try simp (disch:=omega) [zG2,DtCSnap.cells])|(refine ⟨λ_=>?_,λ_=>?_⟩)|(refine ⟨by omega,?_⟩)|(intro _)
       all_goals (refine hK _ ?_;clear hK K)
       all_goals
        refine zbp (zcb ?_)
        simp (disch:=omega) [zG2,DtCSnap.cells]
        all_goals first|(exact zcs (by assumption) (by assumption) hpre)|(exact zdp (λj x h=>hpre j x (by omega)))
     ·try simp at hc14
      all_goals
       refine zbi ?_
       refine zbm ?_
       refine zcv rfl rfl λK hK=>?_
       simp (disch:=omega) [zG2,DtCSnap.cells]
       repeat' first|(exfalso;omega)|(refine zd6 0 (.inr rfl) (zch [.s name] rfl) (zbd (zbz rfl) (zbd zc7 zbl)) (hf _) rfl ?_;try simp (disch:=omega) [zG2,DtCSnap.cells])|(refine ⟨λ_=>?_,λ_=>?_⟩)|(refine ⟨by omega,?_⟩)|(intro _)
       all_goals (refine hK _ ?_;clear hK K)
       all_goals
        refine ⟨_,LeS.kp [(0,.sl 3 (xs.map DtCSnap.cells)),(1,.fn F [] [.ptr 0 0]),(6,.sl 3 (xs.map DtCSnap.cells)),(7,(.g (.int .i64 ((xs.length:Nat))))),(8,(.g (.int .i64 (((i+1):Nat)))))] (by simp [zG0,KpE];try rfl),_,?_,i+1,rfl,?_,rfl⟩
        ·omega
        ·refine ⟨by omega,?_⟩;grind
  ·try simp at hc13
   all_goals
    refine zbx ?_
    refine zbm ?_
    refine AW_r rfl rfl λK hK=>?_
    simp (disch:=omega) [zG2,DtCSnap.cells]
    repeat' first|(exfalso;omega)|(refine zd6 0 (.inr rfl) (zch [.s name] rfl) (zbd (zbz rfl) (zbd zc7 zbl)) (hf _) rfl ?_;try simp (disch:=omega) [zG2,DtCSnap.cells])|(refine ⟨λ_=>?_,λ_=>?_⟩)|(refine ⟨by omega,?_⟩)|(intro _)
    all_goals (refine hK _ ?_;clear hK K)
    all_goals
     refine zbp (zcb ?_)
     simp (disch:=omega) [zG2,DtCSnap.cells]
     all_goals first|(exact zcs (by assumption) (by assumption) hpre)|(exact zdp (λj x h=>hpre j x (by omega)))
theorem snap(s:DtCSet)(name:List UInt8)(hs:s.fSnaps.length≤1048576):PCall Tryz.prog 116 [.agg (DtCSet.cells s),.s name] (.g (.int .i64 (findN s.fSnaps name))):=by
 refine zbq Tryz.func116 (by rfl) (by rfl) (by rw [Tryz.ntmps116];exact Nat.le_of_ble_eq_true rfl) rfl (by decide) ?_
 rw [Tryz.ntmps116]
 refine AW_k [(0,_),(1,_)] ⟨rfl,rfl,trivial⟩ ?_
 refine AW_r rfl rfl λK hK=>?_
 simp [DtCSet.cells]
 repeat' first|(refine ⟨by omega,?_⟩)|(intro _)
 refine hK _ ?_;clear hK K
 refine AW_r rfl rfl λK hK=>?_
 simp [DtCSet.cells]
 repeat' first|(refine zd6 64 (.inl rfl) (zch [.s name] rfl) (zbd zdm (zbd am2_fn0 zbl)) (zni _ hs (λx=>snap1 x name)) rfl ?_;simp [DtCSet.cells])|(refine ⟨by omega,?_⟩)|(intro _)
 refine hK _ ?_;clear hK K
 refine zbp (zcb ?_)
 simp [DtCSet.cells,findN]
 all_goals first | omega|(simp_all;done)|(simp [List.take_of_length_le];done)|((try simp_all);(try simp (disch:=omega) only [zcf,Int.tdiv_eq_ediv_of_nonneg,Int.tmod_eq_emod_of_nonneg,and_true,true_and]);done)|((try simp_all);(try simp (disch:=omega) only [zcf,Int.tdiv_eq_ediv_of_nonneg,Int.tmod_eq_emod_of_nonneg,and_true,true_and] at *);omega)
theorem setOk(s:DtCSet)(hs:DtCSet.sz s≤1048576):PCall Tryz.prog 107 [.agg (DtCSet.cells s)] (.g (.bool (decB (SetP s)))):=by
 have hl:s.fSnaps.length≤1048576:=by have:=zbv DtCSnap.sz_nonneg s.fSnaps;simp only [DtCSet.sz,szS] at hs;omega
 have hw:s.fName.length≤1048576:=by have:=zbv DtCSnap.sz_nonneg s.fSnaps;simp only [DtCSet.sz,szS] at hs;omega
 have hsn:∀k (h:k<s.fSnaps.length),s.fSnaps[k].fName.length≤1048576∧s.fSnaps[k].fTag.length≤1048576∧s.fSnaps[k].fChunks.length≤1048576:=by
  intro k h
  have h1:=zcr DtCSnap.sz_nonneg s.fSnaps s.fSnaps[k] (List.getElem_mem _)
  have h2:=zbv zc6 s.fSnaps[k].fChunks
  simp only [DtCSet.sz,szS] at hs
  simp only [DtCSnap.sz,szS] at h1
  omega
 refine zbq Tryz.func107 (by rfl) (by rfl) (by rw [Tryz.ntmps107];exact Nat.le_of_ble_eq_true rfl) rfl (by decide) ?_
 rw [Tryz.ntmps107]
 refine AW_k [(0,_)] ⟨rfl,trivial⟩ ?_
 refine AW_r rfl rfl λK hK=>?_
 simp (disch:=omega) [zG1,DtCSet.cells,DtCSnap.cells]
 repeat' first|(refine ⟨by omega,?_⟩)|(intro _)
 refine hK _ ?_;clear hK K
 refine zbh ?_
 refine AW_r rfl rfl λK hK=>?_
 simp (disch:=omega) [zG1,DtCSet.cells,DtCSnap.cells]
 repeat' first|(refine ⟨by omega,?_⟩)|(intro _)
 refine hK _ ?_;clear hK K
 refine zbj ?_
 refine zbs (λmM sS=>∃(k:Nat),mM=s.fSnaps.length-k∧(k≤s.fSnaps.length∧∀j p,j<k→s.fSnaps[j]? = some p→SnapP p∧findN s.fSnaps p.fName=j)∧sS = { env:=lkE [(1,.ptr 32 0),(6,.sl 3 (s.fSnaps.map DtCSnap.cells)),(7,(.g (.int .i64 ((s.fSnaps.length:Nat))))),(8,(.g (.int .i64 ((k:Nat)))))],ob:=lk [(32,.cells (DtCSet.cells s))] }) ?_ ?_
 ·refine ⟨_,LeS.ko [(1,.ptr 32 0),(6,.sl 3 (s.fSnaps.map DtCSnap.cells)),(7,(.g (.int .i64 ((s.fSnaps.length:Nat))))),(8,(.g (.int .i64 (((0):Nat)))))] [(32,.cells (DtCSet.cells s))] (by simp [zG0,KpE,DtCSet.cells];try rfl) (by simp [KpO,zb0,zbr,zby,zcd,DtCSet.cells];try rfl) (by rfl) (by simp) (by rfl),_,0,rfl,?_,rfl⟩
  ·simp
 ·rintro mM sS ⟨k,rfl,⟨hk,hkre⟩,rfl⟩
  refine AW_r rfl rfl λK hK=>?_
  simp (disch:=omega) [zG1,DtCSet.cells,DtCSnap.cells]
  repeat' first|(refine ⟨by omega,?_⟩)|(intro _)
  refine hK _ ?_;clear hK K
  refine zbh ?_
  refine zbg rfl (λhc15=>?_) (λhc15=>?_)
  ·try simp at hc15
   all_goals
    have hg2:s.fSnaps[k]? = some (s.fSnaps[k]):=List.getElem?_eq_getElem (by omega)
    have hm:=hsn k (by omega)
    refine zbi ?_
    refine zbm ?_
    refine zbh ?_
    refine zbj ?_
    refine AW_r rfl rfl λK hK=>?_
    simp (disch:=omega) [zG1,DtCSet.cells,DtCSnap.cells]
    repeat' first|(exfalso;omega)|(refine ⟨λ_=>?_,λ_=>?_⟩)|(refine ⟨by omega,?_⟩)|(intro _)
    all_goals (refine hK _ ?_;clear hK K)
    all_goals
     refine AW_r rfl rfl λK hK=>?_
     simp (disch:=omega) [zG1,DtCSet.cells,DtCSnap.cells]
     repeat' first|(exfalso;omega)|(refine zcz (zbd zdg zbl) (isWord _ (by omega)) rfl ?_;simp (disch:=omega) [zG1,DtCSet.cells,DtCSnap.cells])|(refine zcz (zbd zcl (zbd zcl (zbd zcl zbl))) (zsk _ _ _) rfl ?_;simp (disch:=omega) [zG1,DtCSet.cells,DtCSnap.cells])|(refine zcz (zbd zdm zbl) (zsl _ (by omega)) rfl ?_;simp (disch:=omega) [zG1,DtCSet.cells,DtCSnap.cells])|(refine zcz (zbd (zbz rfl) (zbd zdg zbl)) (snap _ _ (by omega)) rfl ?_;simp (disch:=omega) [zG1,DtCSet.cells,DtCSnap.cells])|(refine ⟨λ_=>?_,λ_=>?_⟩)|(refine ⟨by omega,?_⟩)|(intro _)
     all_goals (refine hK _ ?_;clear hK K)
     all_goals
      refine zbg rfl (λhc16=>?_) (λhc16=>?_)
      ·try simp at hc16
       all_goals
        refine AW_r rfl rfl λK hK=>?_
        simp (disch:=omega) [zG1,DtCSet.cells,DtCSnap.cells]
        repeat' first|(exfalso;omega)|(refine ⟨λ_=>?_,λ_=>?_⟩)|(refine ⟨by omega,?_⟩)|(intro _)
        all_goals (refine hK _ ?_;clear hK K)
        all_goals
         refine zbp (zcb ?_)
         simp (disch:=omega) [zG1,DtCSet.cells,DtCSnap.cells]
         all_goals first | grind [SetP,SnapP,Ch8]|(refine zco λh=>?_;grind [SetP,SnapP,Ch8])|(refine zcc ?_;grind [SetP,SnapP,Ch8])|(rw [Bool.eq_iff_iff,zbf];simp [zbf];grind [SetP,SnapP,Ch8])
      ·try simp at hc16
       all_goals
        refine zbi ?_
        refine zbm ?_
        refine zcv rfl rfl λK hK=>?_
        simp (disch:=omega) [zG1,DtCSet.cells,DtCSnap.cells]
        repeat' first|(exfalso;omega)|(refine ⟨λ_=>?_,λ_=>?_⟩)|(refine ⟨by omega,?_⟩)|(intro _)
        all_goals (refine hK _ ?_;clear hK K)
        all_goals
         refine ⟨_,LeS.ko [(1,.ptr 32 0),(6,.sl 3 (s.fSnaps.map DtCSnap.cells)),(7,(.g (.int .i64 ((s.fSnaps.length:Nat))))),(8,(.g (.int .i64 (((k+1):Nat)))))] [(32,.cells (DtCSet.cells s))] (by simp [zG0,KpE,DtCSet.cells];try rfl) (by simp [KpO,zb0,zbr,zby,zcd,DtCSet.cells];try rfl) (by rfl) (by simp) (by rfl),_,?_,k+1,rfl,?_,rfl⟩
         ·omega
         ·refine ⟨by omega,?_⟩;clear hsn;grind [SnapP,Ch8]
  ·try simp at hc15
   all_goals
    refine zbx ?_
    refine zbm ?_
    refine AW_r rfl rfl λK hK=>?_
    simp (disch:=omega) [zG1,DtCSet.cells,DtCSnap.cells]
    repeat' first|(exfalso;omega)|(refine zcz (zbd zdg zbl) (isWord _ (by omega)) rfl ?_;simp (disch:=omega) [zG1,DtCSet.cells,DtCSnap.cells])|(refine ⟨λ_=>?_,λ_=>?_⟩)|(refine ⟨by omega,?_⟩)|(intro _)
    all_goals (refine hK _ ?_;clear hK K)
    all_goals
     refine zbp (zcb ?_)
     simp (disch:=omega) [zG1,DtCSet.cells,DtCSnap.cells]
     all_goals first | grind [SetP,SnapP,Ch8]|(refine zco λh=>?_;grind [SetP,SnapP,Ch8])|(refine zcc ?_;grind [SetP,SnapP,Ch8])|(rw [Bool.eq_iff_iff,zbf];simp [zbf];grind [SetP,SnapP,Ch8])
theorem zg6(c:DtCatalog)(hs:DtCatalog.sz c≤1048576):PCall Tryz.prog 52 [.agg (DtCatalog.cells c)] (.g (.bool (decB (CatP c)))):=by
 have hl:c.fSets.length≤1048576:=by have:=zbv DtCSet.sz_nonneg c.fSets;simp only [DtCatalog.sz,szS] at hs;omega
 have hl2:∀i (h:i<c.fSets.length),DtCSet.sz c.fSets[i]≤1048576:=by
  intro i h
  have h1:=zcr DtCSet.sz_nonneg c.fSets c.fSets[i] (List.getElem_mem _)
  simp only [DtCatalog.sz,szS] at hs
  omega
 refine zbq Tryz.func52 (by rfl) (by rfl) (by rw [Tryz.ntmps52];exact Nat.le_of_ble_eq_true rfl) rfl (by decide) ?_
 rw [Tryz.ntmps52]
 refine AW_k [(0,_)] ⟨rfl,trivial⟩ ?_
 refine AW_r rfl rfl λK hK=>?_
 simp (disch:=omega) [zG1,DtCatalog.cells,DtCSet.cells,DtCSnap.cells]
 repeat' first|(refine ⟨by omega,?_⟩)|(intro _)
 refine hK _ ?_;clear hK K
 refine zbh ?_
 refine AW_r rfl rfl λK hK=>?_
 simp (disch:=omega) [zG1,DtCatalog.cells,DtCSet.cells,DtCSnap.cells]
 repeat' first|(refine ⟨by omega,?_⟩)|(intro _)
 refine hK _ ?_;clear hK K
 refine zbj ?_
 refine zbs (λmM sS=>∃(i:Nat),mM=c.fSets.length-i∧(i≤c.fSets.length∧∀j s,j<i→c.fSets[j]? = some s→SetP s∧∀t,0<j→c.fSets[j-1]? = some t→Op.bytesLess t.fName s.fName=true)∧sS = { env:=lkE [(1,.ptr 32 0),(6,.sl 2 (c.fSets.map DtCSet.cells)),(7,(.g (.int .i64 ((c.fSets.length:Nat))))),(8,(.g (.int .i64 ((i:Nat)))))],ob:=lk [(32,.cells (DtCatalog.cells c))] }) ?_ ?_
 ·refine ⟨_,LeS.ko [(1,.ptr 32 0),(6,.sl 2 (c.fSets.map DtCSet.cells)),(7,(.g (.int .i64 ((c.fSets.length:Nat))))),(8,(.g (.int .i64 (((0):Nat)))))] [(32,.cells (DtCatalog.cells c))] (by simp [zG0,KpE,DtCatalog.cells,DtCSet.cells];try rfl) (by simp [KpO,zb0,zbr,zby,zcd,DtCatalog.cells,DtCSet.cells];try rfl) (by rfl) (by simp) (by rfl),_,0,rfl,?_,rfl⟩
  ·simp
 ·rintro mM sS ⟨i,rfl,⟨hi,hpre⟩,rfl⟩
  refine AW_r rfl rfl λK hK=>?_
  simp (disch:=omega) [zG1,DtCatalog.cells,DtCSet.cells,DtCSnap.cells]
  repeat' first|(refine ⟨by omega,?_⟩)|(intro _)
  refine hK _ ?_;clear hK K
  refine zbh ?_
  refine zbg rfl (λhc17=>?_) (λhc17=>?_)
  ·try simp at hc17
   all_goals
    have hg:c.fSets[i]? = some (c.fSets[i]):=List.getElem?_eq_getElem (by omega)
    have hg':c.fSets[i-1]? = some (c.fSets[i-1]):=List.getElem?_eq_getElem (by omega)
    have hm:=hl2 i (by omega)
    rcases Nat.eq_zero_or_pos i with hi0 | hi0
    all_goals
     refine zbi ?_
     refine zbm ?_
     refine zbh ?_
     refine zbj ?_
     refine AW_r rfl rfl λK hK=>?_
     simp (disch:=omega) [zG1,DtCatalog.cells,DtCSet.cells,DtCSnap.cells]
     repeat' first|(exfalso;omega)|(refine ⟨λ_=>?_,λ_=>?_⟩)|(refine ⟨by omega,?_⟩)|(intro _)
     all_goals (refine hK _ ?_;clear hK K)
     all_goals
      refine AW_q rfl mix (by kernel_rfl) rfl λK hK=>?_
      simp (disch:=omega) [zG1,DtCatalog.cells,DtCSet.cells,DtCSnap.cells]
      repeat' first|(exfalso;omega)|(refine zcz (zbd (zbz rfl) zbl) (setOk _ (by first | assumption | omega)) rfl ?_;simp (disch:=omega) [zG1,DtCatalog.cells,DtCSet.cells,DtCSnap.cells])|(refine ⟨λ_=>?_,λ_=>?_⟩)|(refine ⟨by omega,?_⟩)|(intro _)
      all_goals (refine hK _ ?_;clear hK K)
      all_goals
       refine zbg rfl (λhc18=>?_) (λhc18=>?_)
       ·try simp at hc18
        all_goals
         refine AW_r rfl rfl λK hK=>?_
         simp (disch:=omega) [zG1,DtCatalog.cells,DtCSet.cells,DtCSnap.cells]
         repeat' first|(exfalso;omega)|(refine ⟨λ_=>?_,λ_=>?_⟩)|(refine ⟨by omega,?_⟩)|(intro _)
         all_goals (refine hK _ ?_;clear hK K)
         all_goals
          refine zbp (zcb ?_)
          simp (disch:=omega) [zG1,DtCatalog.cells,DtCSet.cells,DtCSnap.cells]
          all_goals first | grind [CatP]|(refine zco λh=>?_;grind [CatP])|(refine zcc ?_;grind [CatP])|(rw [Bool.eq_iff_iff,zbf];simp;grind [CatP])
       ·try simp at hc18
        all_goals
         refine zbi ?_
         refine zbm ?_
         refine zcv rfl rfl λK hK=>?_
         simp (disch:=omega) [zG1,DtCatalog.cells,DtCSet.cells,DtCSnap.cells]
         repeat' first|(exfalso;omega)|(refine ⟨λ_=>?_,λ_=>?_⟩)|(refine ⟨by omega,?_⟩)|(intro _)
         all_goals (refine hK _ ?_;clear hK K)
         all_goals
          refine ⟨_,LeS.ko [(1,.ptr 32 0),(6,.sl 2 (c.fSets.map DtCSet.cells)),(7,(.g (.int .i64 ((c.fSets.length:Nat))))),(8,(.g (.int .i64 (((i+1):Nat)))))] [(32,.cells (DtCatalog.cells c))] (by simp [zG0,KpE,DtCatalog.cells,DtCSet.cells];try rfl) (by simp [KpO,zb0,zbr,zby,zcd,DtCatalog.cells,DtCSet.cells];try rfl) (by rfl) (by simp) (by rfl),_,?_,i+1,rfl,?_,rfl⟩
          ·omega
          ·refine ⟨by omega,?_⟩;clear hg' hl2;grind
  ·try simp at hc17
   all_goals
    refine zbx ?_
    refine zbm ?_
    refine AW_r rfl rfl λK hK=>?_
    simp (disch:=omega) [zG1,DtCatalog.cells,DtCSet.cells,DtCSnap.cells]
    repeat' first|(exfalso;omega)|(refine ⟨λ_=>?_,λ_=>?_⟩)|(refine ⟨by omega,?_⟩)|(intro _)
    all_goals (refine hK _ ?_;clear hK K)
    all_goals
     refine zbp (zcb ?_)
     simp (disch:=omega) [zG1,DtCatalog.cells,DtCSet.cells,DtCSnap.cells]
     all_goals first | grind [CatP]|(refine zco λh=>?_;grind [CatP])|(refine zcc ?_;grind [CatP])|(rw [Bool.eq_iff_iff,zbf];simp;grind [CatP])
end Go.Proofs.YtodmafgmdlkhoaaGreat.Vs
end
