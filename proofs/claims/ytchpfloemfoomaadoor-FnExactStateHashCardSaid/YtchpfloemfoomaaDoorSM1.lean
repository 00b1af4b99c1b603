import Derived.Test.YtchpfloemfoomaaDoorVs9
import Derived.Test.YtchpfloemfoomaaDoorProg
section
namespace Go.Proofs.YtchpfloemfoomaaDoor.Vs
set_option linter.all false
theorem mix:Tryd.prog.follows .mixedOrders=true:=by kernel_rfl
theorem t2:ti Tryd.prog 2=some { agg:=false,size:=1,bytes:=8,zero:=[AV.g (Value.int IntKind.i64 0)],kind:=TK.int IntKind.i64 }:=by kernel_rfl
theorem t3:ti Tryd.prog 3=some { agg:=false,size:=1,bytes:=8,zero:=[AV.g (Value.int IntKind.i64 0)],kind:=TK.int IntKind.i64 }:=by kernel_rfl
theorem t4:ti Tryd.prog 4=some { agg:=false,size:=1,bytes:=1,zero:=[AV.g (Value.bool false)],kind:=TK.bool }:=by kernel_rfl
theorem t5:ti Tryd.prog 5=some { agg:=false,size:=1,bytes:=1,zero:=[AV.g (Value.int IntKind.u8 0)],kind:=TK.int IntKind.u8 }:=by kernel_rfl
theorem t6:ti Tryd.prog 6=some { agg:=false,size:=1,bytes:=1,zero:=[AV.g (Value.int IntKind.u8 0)],kind:=TK.int IntKind.u8 }:=by kernel_rfl
theorem t7:ti Tryd.prog 7=some { agg:=true,size:=4,bytes:=24,zero:=[AV.g (Value.int IntKind.i64 0),AV.g (Value.int IntKind.i64 0),AV.g (Value.bool false),AV.g (Value.int IntKind.u8 0)],kind:=TK.struct [(0,2),(1,3),(2,4),(3,6)] }:=by kernel_rfl
theorem t8:ti Tryd.prog 8=some { agg:=true,size:=4,bytes:=24,zero:=[AV.g (Value.int IntKind.i64 0),AV.g (Value.int IntKind.i64 0),AV.g (Value.bool false),AV.g (Value.int IntKind.u8 0)],kind:=TK.struct [(0,2),(1,3),(2,4),(3,6)] }:=by kernel_rfl
theorem t9:ti Tryd.prog 9=some { agg:=false,size:=1,bytes:=16,zero:=[AV.s []],kind:=TK.str }:=by kernel_rfl
theorem t10:ti Tryd.prog 10=some { agg:=false,size:=1,bytes:=16,zero:=[AV.s []],kind:=TK.str }:=by kernel_rfl
theorem t11:ti Tryd.prog 11=some { agg:=false,size:=1,bytes:=16,zero:=[AV.s []],kind:=TK.str }:=by kernel_rfl
theorem t12:ti Tryd.prog 12=some { agg:=false,size:=1,bytes:=8,zero:=[AV.g (Value.int IntKind.u64 0)],kind:=TK.int IntKind.u64 }:=by kernel_rfl
theorem t13:ti Tryd.prog 13=some { agg:=true,size:=2,bytes:=24,zero:=[AV.s [],AV.g (Value.int IntKind.u64 0)],kind:=TK.struct [(0,9),(1,12)] }:=by kernel_rfl
theorem t14:ti Tryd.prog 14=some { agg:=true,size:=2,bytes:=24,zero:=[AV.s [],AV.g (Value.int IntKind.u64 0)],kind:=TK.struct [(0,9),(1,12)] }:=by kernel_rfl
theorem t15:ti Tryd.prog 15=some { agg:=false,size:=1,bytes:=8,zero:=[AV.g (Value.pointer none)],kind:=TK.ptr 110 }:=by kernel_rfl
theorem t16:ti Tryd.prog 16=some { agg:=false,size:=1,bytes:=8,zero:=[AV.g (Value.pointer none)],kind:=TK.ptr 113 }:=by kernel_rfl
theorem t17:ti Tryd.prog 17=some { agg:=false,size:=1,bytes:=8,zero:=[AV.g (Value.pointer none)],kind:=TK.ptr 122 }:=by kernel_rfl
theorem t18:ti Tryd.prog 18=some { agg:=true,size:=1,bytes:=8,zero:=[AV.g (Value.pointer none)],kind:=TK.struct [(0,17)] }:=by kernel_rfl
theorem t19:ti Tryd.prog 19=some { agg:=true,size:=1,bytes:=8,zero:=[AV.g (Value.pointer none)],kind:=TK.struct [(0,17)] }:=by kernel_rfl
theorem t21:ti Tryd.prog 21=some { agg:=false,size:=1,bytes:=4,zero:=[AV.g (Value.int IntKind.i32 0)],kind:=TK.int IntKind.i32 }:=by kernel_rfl
theorem t22:ti Tryd.prog 22=some { agg:=false,size:=1,bytes:=24,zero:=[AV.g (Value.slice none 0 0)],kind:=TK.slice 9 }:=by kernel_rfl
theorem t29:ti Tryd.prog 29=some { agg:=false,size:=1,bytes:=24,zero:=[AV.g (Value.slice none 0 0)],kind:=TK.slice 86 }:=by kernel_rfl
theorem t30:ti Tryd.prog 30=some { agg:=true,size:=1,bytes:=24,zero:=[AV.g (Value.slice none 0 0)],kind:=TK.struct [(0,29)] }:=by kernel_rfl
theorem t31:ti Tryd.prog 31=some { agg:=true,size:=1,bytes:=24,zero:=[AV.g (Value.slice none 0 0)],kind:=TK.struct [(0,29)] }:=by kernel_rfl
theorem t32:ti Tryd.prog 32=some { agg:=false,size:=1,bytes:=24,zero:=[AV.g (Value.slice none 0 0)],kind:=TK.slice 61 }:=by kernel_rfl
theorem t33:ti Tryd.prog 33=some { agg:=true,size:=2,bytes:=48,zero:=[AV.g (Value.slice none 0 0),AV.g (Value.slice none 0 0)],kind:=TK.struct [(0,31),(1,32)] }:=by kernel_rfl
theorem t34:ti Tryd.prog 34=some { agg:=true,size:=2,bytes:=48,zero:=[AV.g (Value.slice none 0 0),AV.g (Value.slice none 0 0)],kind:=TK.struct [(0,31),(1,32)] }:=by kernel_rfl
theorem t37:ti Tryd.prog 37=some { agg:=false,size:=1,bytes:=24,zero:=[AV.g (Value.slice none 0 0)],kind:=TK.slice 67 }:=by kernel_rfl
theorem t38:ti Tryd.prog 38=some { agg:=true,size:=1,bytes:=24,zero:=[AV.g (Value.slice none 0 0)],kind:=TK.struct [(0,37)] }:=by kernel_rfl
theorem t39:ti Tryd.prog 39=some { agg:=true,size:=1,bytes:=24,zero:=[AV.g (Value.slice none 0 0)],kind:=TK.struct [(0,37)] }:=by kernel_rfl
theorem t40:ti Tryd.prog 40=some { agg:=false,size:=1,bytes:=24,zero:=[AV.g (Value.slice none 0 0)],kind:=TK.slice 63 }:=by kernel_rfl
theorem t41:ti Tryd.prog 41=some { agg:=true,size:=2,bytes:=48,zero:=[AV.g (Value.slice none 0 0),AV.g (Value.slice none 0 0)],kind:=TK.struct [(0,39),(1,40)] }:=by kernel_rfl
theorem t42:ti Tryd.prog 42=some { agg:=true,size:=2,bytes:=48,zero:=[AV.g (Value.slice none 0 0),AV.g (Value.slice none 0 0)],kind:=TK.struct [(0,39),(1,40)] }:=by kernel_rfl
theorem t56:ti Tryd.prog 56=some { agg:=false,size:=1,bytes:=24,zero:=[AV.g (Value.slice none 0 0)],kind:=TK.slice 5 }:=by kernel_rfl
theorem t60:ti Tryd.prog 60=some { agg:=true,size:=3,bytes:=32,zero:=[AV.g (Value.int IntKind.i64 0),AV.g (Value.int IntKind.i64 0),AV.s []],kind:=TK.struct [(0,3),(1,3),(2,9)] }:=by kernel_rfl
theorem t61:ti Tryd.prog 61=some { agg:=true,size:=3,bytes:=32,zero:=[AV.g (Value.int IntKind.i64 0),AV.g (Value.int IntKind.i64 0),AV.s []],kind:=TK.struct [(0,3),(1,3),(2,9)] }:=by kernel_rfl
theorem t63:ti Tryd.prog 63=some { agg:=true,size:=3,bytes:=32,zero:=[AV.g (Value.int IntKind.i64 0),AV.g (Value.int IntKind.i64 0),AV.s []],kind:=TK.struct [(0,3),(1,3),(2,9)] }:=by kernel_rfl
theorem t65:ti Tryd.prog 65=some { agg:=false,size:=1,bytes:=24,zero:=[AV.g (Value.slice none 0 0)],kind:=TK.slice 69 }:=by kernel_rfl
theorem t66:ti Tryd.prog 66=some { agg:=true,size:=2,bytes:=40,zero:=[AV.s [],AV.g (Value.slice none 0 0)],kind:=TK.struct [(0,9),(1,65)] }:=by kernel_rfl
theorem t67:ti Tryd.prog 67=some { agg:=true,size:=2,bytes:=40,zero:=[AV.s [],AV.g (Value.slice none 0 0)],kind:=TK.struct [(0,9),(1,65)] }:=by kernel_rfl
theorem t68:ti Tryd.prog 68=some { agg:=true,size:=3,bytes:=56,zero:=[AV.s [],AV.s [],AV.g (Value.slice none 0 0)],kind:=TK.struct [(0,9),(1,9),(2,22)] }:=by kernel_rfl
theorem t69:ti Tryd.prog 69=some { agg:=true,size:=3,bytes:=56,zero:=[AV.s [],AV.s [],AV.g (Value.slice none 0 0)],kind:=TK.struct [(0,9),(1,9),(2,22)] }:=by kernel_rfl
theorem t75:ti Tryd.prog 75=some { agg:=false,size:=1,bytes:=8,zero:=[AV.g (Value.int IntKind.u64 0)],kind:=TK.int IntKind.u64 }:=by kernel_rfl
theorem t76:ti Tryd.prog 76=some { agg:=false,size:=1,bytes:=24,zero:=[AV.g (Value.slice none 0 0)],kind:=TK.slice 3 }:=by kernel_rfl
theorem t80:ti Tryd.prog 80=some { agg:=false,size:=1,bytes:=4,zero:=[AV.g (Value.int IntKind.u32 0)],kind:=TK.int IntKind.u32 }:=by kernel_rfl
theorem t81:ti Tryd.prog 81=some { agg:=true,size:=8,bytes:=32,zero:=[AV.g (Value.int IntKind.u32 0),AV.g (Value.int IntKind.u32 0),AV.g (Value.int IntKind.u32 0),AV.g (Value.int IntKind.u32 0),AV.g (Value.int IntKind.u32 0),AV.g (Value.int IntKind.u32 0),AV.g (Value.int IntKind.u32 0),AV.g (Value.int IntKind.u32 0)],kind:=TK.array 8 80 }:=by kernel_rfl
theorem t84:ti Tryd.prog 84=some { agg:=false,size:=1,bytes:=24,zero:=[AV.g (Value.slice none 0 0)],kind:=TK.slice 103 }:=by kernel_rfl
theorem t85:ti Tryd.prog 85=some { agg:=true,size:=2,bytes:=40,zero:=[AV.s [],AV.g (Value.slice none 0 0)],kind:=TK.struct [(0,9),(1,84)] }:=by kernel_rfl
theorem t86:ti Tryd.prog 86=some { agg:=true,size:=2,bytes:=40,zero:=[AV.s [],AV.g (Value.slice none 0 0)],kind:=TK.struct [(0,9),(1,84)] }:=by kernel_rfl
theorem t94:ti Tryd.prog 94=some { agg:=true,size:=64,bytes:=256,zero:=List.replicate 64 (AV.g (Value.int IntKind.u32 0)),kind:=TK.array 64 80 }:=by kernel_rfl
theorem t103:ti Tryd.prog 103=some { agg:=true,size:=3,bytes:=56,zero:=[AV.s [],AV.s [],AV.g (Value.slice none 0 0)],kind:=TK.struct [(0,9),(1,9),(2,22)] }:=by kernel_rfl
theorem t109:ti Tryd.prog 109=some { agg:=true,size:=4,bytes:=40,zero:=[AV.g (Value.pointer none),AV.g (Value.pointer none),AV.g (Value.pointer none),AV.s []],kind:=TK.struct [(0,17),(1,17),(2,17),(3,9)] }:=by kernel_rfl
theorem t110:ti Tryd.prog 110=some { agg:=true,size:=4,bytes:=40,zero:=[AV.g (Value.pointer none),AV.g (Value.pointer none),AV.g (Value.pointer none),AV.s []],kind:=TK.struct [(0,17),(1,17),(2,17),(3,9)] }:=by kernel_rfl
theorem t111:ti Tryd.prog 111=some { agg:=true,size:=0,bytes:=0,zero:=[],kind:=TK.array 0 16 }:=by kernel_rfl
theorem t112:ti Tryd.prog 112=some { agg:=true,size:=0,bytes:=0,zero:=[],kind:=TK.struct [(0,111)] }:=by kernel_rfl
theorem t113:ti Tryd.prog 113=some { agg:=true,size:=0,bytes:=0,zero:=[],kind:=TK.struct [(0,111)] }:=by kernel_rfl
theorem t115:ti Tryd.prog 115=some { agg:=false,size:=1,bytes:=1,zero:=[AV.g (Value.int IntKind.u8 0)],kind:=TK.int IntKind.u8 }:=by kernel_rfl
theorem t116:ti Tryd.prog 116=some { agg:=false,size:=1,bytes:=1,zero:=[AV.g (Value.int IntKind.u8 0)],kind:=TK.int IntKind.u8 }:=by kernel_rfl
theorem t118:ti Tryd.prog 118=some { agg:=false,size:=1,bytes:=8,zero:=[AV.g (Value.pointer none)],kind:=TK.ptr 5 }:=by kernel_rfl
theorem t119:ti Tryd.prog 119=some { agg:=false,size:=1,bytes:=4,zero:=[AV.g (Value.int IntKind.i32 0)],kind:=TK.int IntKind.i32 }:=by kernel_rfl
theorem t120:ti Tryd.prog 120=some { agg:=false,size:=1,bytes:=4,zero:=[AV.g (Value.int IntKind.i32 0)],kind:=TK.int IntKind.i32 }:=by kernel_rfl
theorem t121:ti Tryd.prog 121=some { agg:=true,size:=11,bytes:=48,zero:=[AV.g (Value.int IntKind.u64 0),AV.g (Value.int IntKind.u64 0),AV.g (Value.int IntKind.u32 0),AV.g (Value.int IntKind.u8 0),AV.g (Value.int IntKind.u8 0),AV.g (Value.int IntKind.u8 0),AV.g (Value.int IntKind.u8 0),AV.g Value.nilFunc,AV.g (Value.pointer none),AV.g (Value.int IntKind.i32 0),AV.g (Value.int IntKind.i32 0)],kind:=TK.struct [(0,12),(1,12),(2,80),(3,115),(4,5),(5,5),(6,116),(7,117),(8,118),(9,119),(10,120)] }:=by kernel_rfl
theorem t122:ti Tryd.prog 122=some { agg:=true,size:=11,bytes:=48,zero:=[AV.g (Value.int IntKind.u64 0),AV.g (Value.int IntKind.u64 0),AV.g (Value.int IntKind.u32 0),AV.g (Value.int IntKind.u8 0),AV.g (Value.int IntKind.u8 0),AV.g (Value.int IntKind.u8 0),AV.g (Value.int IntKind.u8 0),AV.g Value.nilFunc,AV.g (Value.pointer none),AV.g (Value.int IntKind.i32 0),AV.g (Value.int IntKind.i32 0)],kind:=TK.struct [(0,12),(1,12),(2,80),(3,115),(4,5),(5,5),(6,116),(7,117),(8,118),(9,119),(10,120)] }:=by kernel_rfl
theorem u_bool:Tryd.prog.underlying 4=some .bool:=by kernel_rfl
attribute [simp ↓] spl_tt spl_tf spl_ft spl_ff
attribute [simp] creg_nil zqt zqu cO cR cG_bool cG_undef spl_ct spl_cf putC nmC aop ev cv updL zfz upd_upd zb6 zfy zd7 aLen aBuiltin aBin aIntBin aFieldAddr placeOf aLoad cellsAt aUn aIndexAddr st0 valCells isOne Value.oneCell' aStore setCells List.getElem?_cons_zero List.getElem?_cons_succ Option.getD_some zkg zvq aBuild parts fillA placesOf aField aIndex aSlice optIdx aStrBin aMakeSlice viewCells viewCell arrN frzU capOk aConv aNews aAppend aBuildSlice chunks zvo zvm am0_ss am0_ll am1_gg am1_ss am1_ll am1_nl am1_al am2_gg am2_ss am2_ll am2_nl am2_al am2_ff am1s_nn am1s_cc am2s_nn am2s_cc amRs_one zvn amRs_thr zsu zsv zqv KpE KpO KpR KpOR t2 t3 t4 t5 t6 t7 t8 t9 t10 t11 t12 t13 t14 t15 t16 t17 t18 t19 t21 t22 t29 t30 t31 t32 t33 t34 t37 t38 t39 t40 t41 t42 t56 t60 t61 t63 t65 t66 t67 t68 t69 t75 t76 t80 t81 t84 t85 t86 t94 t103 t109 t110 t111 t112 t113 t115 t116 t118 t119 t120 t121 t122 u_bool
attribute [simp] zbu gE tP
end Go.Proofs.YtchpfloemfoomaaDoor.Vs
end
section
namespace Go.Proofs.YtchpfloemfoomaaDoor.Vs
set_option linter.all false
set_option maxRecDepth 100000
/-- Marks. -/
def mkL{α:Type}(f:Int→α)(k:Int)(n:Nat):List α:=(List.range n).map λj=>f (k+(j:Nat))
def mkR{α:Type}(f:Int→α)(k:Int)(l:List α)(i:Nat):List α:=mkL f k i++l.drop i
def mB(k:Int):Bool:=k.tmod 3==0
/-- Decimal digits. -/
def dg(n:Nat)(out:List UInt8):List UInt8:=if n=0 then out else dg (n / 10) (strN [IntKind.u8.wrap (48+(n:Int) % 10)]++out)
termination_by n
decreasing_by omega
def mT(k:Int):List UInt8:=if k≤0 then [109,48] else 109 :: dg k.toNat []
/-- A copy under way. -/
def cpR{α:Type}(z:α)(l:List α)(i:Nat):List α:=l.take i++List.replicate (l.length-i) z
/-- Marks of a row of structs. -/
def mkS{α:Type}(mk:Int→α→α)(cnt:α→Int):Int→List α→List α
 | _,[]=>[]
 | k,u :: us=>mk k u :: mkS mk cnt (k+cnt u) us
def cntS{α:Type}(cnt:α→Int)(us:List α):Int:=us.foldr (λu n=>cnt u+n) 0
def mkSR{α:Type}(mk:Int→α→α)(cnt:α→Int)(k:Int)(us:List α)(i:Nat):List α:=mkS mk cnt k (us.take i)++us.drop i
/-- A copy of structs under way. -/
def cpS{α:Type}(z:List AV)(f:α→List AV)(us:List α)(i:Nat):List (List AV):=(us.take i).map f++List.replicate (us.length-i) z
end Go.Proofs.YtchpfloemfoomaaDoor.Vs
end
