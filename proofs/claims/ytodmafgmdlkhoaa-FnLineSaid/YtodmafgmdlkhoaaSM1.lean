import Derived.Test.YtodmafgmdlkhoaaVs9
import Derived.Test.YtodmafgmdlkhoaaProg
section
namespace Go.Proofs.Ytodmafgmdlkhoaa.Vs
set_option linter.all false
theorem mix:Try.prog.follows .mixedOrders=true:=by kernel_rfl
theorem t2:ti Try.prog 2=some { agg:=false,size:=1,bytes:=8,zero:=[AV.g (Value.int IntKind.i64 0)],kind:=TK.int IntKind.i64 }:=by kernel_rfl
theorem t3:ti Try.prog 3=some { agg:=false,size:=1,bytes:=8,zero:=[AV.g (Value.int IntKind.i64 0)],kind:=TK.int IntKind.i64 }:=by kernel_rfl
theorem t4:ti Try.prog 4=some { agg:=false,size:=1,bytes:=1,zero:=[AV.g (Value.bool false)],kind:=TK.bool }:=by kernel_rfl
theorem t5:ti Try.prog 5=some { agg:=false,size:=1,bytes:=1,zero:=[AV.g (Value.int IntKind.u8 0)],kind:=TK.int IntKind.u8 }:=by kernel_rfl
theorem t6:ti Try.prog 6=some { agg:=false,size:=1,bytes:=1,zero:=[AV.g (Value.int IntKind.u8 0)],kind:=TK.int IntKind.u8 }:=by kernel_rfl
theorem t7:ti Try.prog 7=some { agg:=true,size:=4,bytes:=24,zero:=[AV.g (Value.int IntKind.i64 0),AV.g (Value.int IntKind.i64 0),AV.g (Value.bool false),AV.g (Value.int IntKind.u8 0)],kind:=TK.struct [(0,2),(1,3),(2,4),(3,6)] }:=by kernel_rfl
theorem t8:ti Try.prog 8=some { agg:=true,size:=4,bytes:=24,zero:=[AV.g (Value.int IntKind.i64 0),AV.g (Value.int IntKind.i64 0),AV.g (Value.bool false),AV.g (Value.int IntKind.u8 0)],kind:=TK.struct [(0,2),(1,3),(2,4),(3,6)] }:=by kernel_rfl
theorem t9:ti Try.prog 9=some { agg:=false,size:=1,bytes:=16,zero:=[AV.s []],kind:=TK.str }:=by kernel_rfl
theorem t10:ti Try.prog 10=some { agg:=false,size:=1,bytes:=16,zero:=[AV.s []],kind:=TK.str }:=by kernel_rfl
theorem t11:ti Try.prog 11=some { agg:=false,size:=1,bytes:=16,zero:=[AV.s []],kind:=TK.str }:=by kernel_rfl
theorem t12:ti Try.prog 12=some { agg:=false,size:=1,bytes:=8,zero:=[AV.g (Value.int IntKind.u64 0)],kind:=TK.int IntKind.u64 }:=by kernel_rfl
theorem t13:ti Try.prog 13=some { agg:=true,size:=2,bytes:=24,zero:=[AV.s [],AV.g (Value.int IntKind.u64 0)],kind:=TK.struct [(0,9),(1,12)] }:=by kernel_rfl
theorem t14:ti Try.prog 14=some { agg:=true,size:=2,bytes:=24,zero:=[AV.s [],AV.g (Value.int IntKind.u64 0)],kind:=TK.struct [(0,9),(1,12)] }:=by kernel_rfl
theorem t15:ti Try.prog 15=some { agg:=false,size:=1,bytes:=8,zero:=[AV.g (Value.pointer none)],kind:=TK.ptr 135 }:=by kernel_rfl
theorem t16:ti Try.prog 16=some { agg:=false,size:=1,bytes:=8,zero:=[AV.g (Value.pointer none)],kind:=TK.ptr 138 }:=by kernel_rfl
theorem t17:ti Try.prog 17=some { agg:=false,size:=1,bytes:=8,zero:=[AV.g (Value.pointer none)],kind:=TK.ptr 148 }:=by kernel_rfl
theorem t18:ti Try.prog 18=some { agg:=true,size:=1,bytes:=8,zero:=[AV.g (Value.pointer none)],kind:=TK.struct [(0,17)] }:=by kernel_rfl
theorem t19:ti Try.prog 19=some { agg:=true,size:=1,bytes:=8,zero:=[AV.g (Value.pointer none)],kind:=TK.struct [(0,17)] }:=by kernel_rfl
theorem t21:ti Try.prog 21=some { agg:=false,size:=1,bytes:=4,zero:=[AV.g (Value.int IntKind.i32 0)],kind:=TK.int IntKind.i32 }:=by kernel_rfl
theorem t22:ti Try.prog 22=some { agg:=false,size:=1,bytes:=24,zero:=[AV.g (Value.slice none 0 0)],kind:=TK.slice 5 }:=by kernel_rfl
theorem t24:ti Try.prog 24=some { agg:=false,size:=1,bytes:=24,zero:=[AV.g (Value.slice none 0 0)],kind:=TK.slice 75 }:=by kernel_rfl
theorem t25:ti Try.prog 25=some { agg:=true,size:=1,bytes:=24,zero:=[AV.g (Value.slice none 0 0)],kind:=TK.struct [(0,24)] }:=by kernel_rfl
theorem t26:ti Try.prog 26=some { agg:=true,size:=1,bytes:=24,zero:=[AV.g (Value.slice none 0 0)],kind:=TK.struct [(0,24)] }:=by kernel_rfl
theorem t27:ti Try.prog 27=some { agg:=false,size:=1,bytes:=24,zero:=[AV.g (Value.slice none 0 0)],kind:=TK.slice 59 }:=by kernel_rfl
theorem t28:ti Try.prog 28=some { agg:=true,size:=2,bytes:=48,zero:=[AV.g (Value.slice none 0 0),AV.g (Value.slice none 0 0)],kind:=TK.struct [(0,26),(1,27)] }:=by kernel_rfl
theorem t29:ti Try.prog 29=some { agg:=true,size:=2,bytes:=48,zero:=[AV.g (Value.slice none 0 0),AV.g (Value.slice none 0 0)],kind:=TK.struct [(0,26),(1,27)] }:=by kernel_rfl
theorem t30:ti Try.prog 30=some { agg:=false,size:=1,bytes:=24,zero:=[AV.g (Value.slice none 0 0)],kind:=TK.slice 9 }:=by kernel_rfl
theorem t31:ti Try.prog 31=some { agg:=true,size:=8,bytes:=104,zero:=[AV.g (Value.int IntKind.i64 0),AV.g (Value.int IntKind.i64 0),AV.g (Value.int IntKind.i64 0),AV.s [],AV.s [],AV.s [],AV.g (Value.int IntKind.i64 0),AV.g (Value.slice none 0 0)],kind:=TK.struct [(0,3),(1,3),(2,3),(3,9),(4,9),(5,9),(6,3),(7,30)] }:=by kernel_rfl
theorem t32:ti Try.prog 32=some { agg:=true,size:=8,bytes:=104,zero:=[AV.g (Value.int IntKind.i64 0),AV.g (Value.int IntKind.i64 0),AV.g (Value.int IntKind.i64 0),AV.s [],AV.s [],AV.s [],AV.g (Value.int IntKind.i64 0),AV.g (Value.slice none 0 0)],kind:=TK.struct [(0,3),(1,3),(2,3),(3,9),(4,9),(5,9),(6,3),(7,30)] }:=by kernel_rfl
theorem t40:ti Try.prog 40=some { agg:=false,size:=1,bytes:=24,zero:=[AV.g (Value.slice none 0 0)],kind:=TK.slice 51 }:=by kernel_rfl
theorem t41:ti Try.prog 41=some { agg:=false,size:=1,bytes:=24,zero:=[AV.g (Value.slice none 0 0)],kind:=TK.slice 3 }:=by kernel_rfl
theorem t50:ti Try.prog 50=some { agg:=true,size:=11,bytes:=136,zero:=[AV.g (Value.int IntKind.i64 0),AV.g (Value.int IntKind.i64 0),AV.g (Value.int IntKind.i64 0),AV.g (Value.int IntKind.i64 0),AV.g (Value.int IntKind.i64 0),AV.s [],AV.s [],AV.s [],AV.g (Value.int IntKind.i64 0),AV.g (Value.slice none 0 0),AV.s []],kind:=TK.struct [(0,3),(1,3),(2,32),(10,9)] }:=by kernel_rfl
theorem t51:ti Try.prog 51=some { agg:=true,size:=11,bytes:=136,zero:=[AV.g (Value.int IntKind.i64 0),AV.g (Value.int IntKind.i64 0),AV.g (Value.int IntKind.i64 0),AV.g (Value.int IntKind.i64 0),AV.g (Value.int IntKind.i64 0),AV.s [],AV.s [],AV.s [],AV.g (Value.int IntKind.i64 0),AV.g (Value.slice none 0 0),AV.s []],kind:=TK.struct [(0,3),(1,3),(2,32),(10,9)] }:=by kernel_rfl
theorem t53:ti Try.prog 53=some { agg:=false,size:=1,bytes:=8,zero:=[AV.g (Value.pointer none)],kind:=TK.ptr 87 }:=by kernel_rfl
theorem t58:ti Try.prog 58=some { agg:=true,size:=3,bytes:=32,zero:=[AV.g (Value.int IntKind.i64 0),AV.g (Value.int IntKind.i64 0),AV.s []],kind:=TK.struct [(0,3),(1,3),(2,9)] }:=by kernel_rfl
theorem t59:ti Try.prog 59=some { agg:=true,size:=3,bytes:=32,zero:=[AV.g (Value.int IntKind.i64 0),AV.g (Value.int IntKind.i64 0),AV.s []],kind:=TK.struct [(0,3),(1,3),(2,9)] }:=by kernel_rfl
theorem t73:ti Try.prog 73=some { agg:=false,size:=1,bytes:=24,zero:=[AV.g (Value.slice none 0 0)],kind:=TK.slice 78 }:=by kernel_rfl
theorem t74:ti Try.prog 74=some { agg:=true,size:=2,bytes:=40,zero:=[AV.s [],AV.g (Value.slice none 0 0)],kind:=TK.struct [(0,9),(1,73)] }:=by kernel_rfl
theorem t75:ti Try.prog 75=some { agg:=true,size:=2,bytes:=40,zero:=[AV.s [],AV.g (Value.slice none 0 0)],kind:=TK.struct [(0,9),(1,73)] }:=by kernel_rfl
theorem t77:ti Try.prog 77=some { agg:=true,size:=3,bytes:=56,zero:=[AV.s [],AV.s [],AV.g (Value.slice none 0 0)],kind:=TK.struct [(0,9),(1,9),(2,30)] }:=by kernel_rfl
theorem t78:ti Try.prog 78=some { agg:=true,size:=3,bytes:=56,zero:=[AV.s [],AV.s [],AV.g (Value.slice none 0 0)],kind:=TK.struct [(0,9),(1,9),(2,30)] }:=by kernel_rfl
theorem t83:ti Try.prog 83=some { agg:=false,size:=1,bytes:=24,zero:=[AV.g (Value.slice none 0 0)],kind:=TK.slice 4 }:=by kernel_rfl
theorem t86:ti Try.prog 86=some { agg:=true,size:=3,bytes:=40,zero:=[AV.g (Value.slice none 0 0),AV.g (Value.int IntKind.i64 0),AV.g (Value.int IntKind.i64 0)],kind:=TK.struct [(0,22),(1,3),(2,3)] }:=by kernel_rfl
theorem t87:ti Try.prog 87=some { agg:=true,size:=3,bytes:=40,zero:=[AV.g (Value.slice none 0 0),AV.g (Value.int IntKind.i64 0),AV.g (Value.int IntKind.i64 0)],kind:=TK.struct [(0,22),(1,3),(2,3)] }:=by kernel_rfl
theorem t90:ti Try.prog 90=some { agg:=false,size:=1,bytes:=24,zero:=[AV.g (Value.slice none 0 0)],kind:=TK.slice 32 }:=by kernel_rfl
theorem t114:ti Try.prog 114=some { agg:=false,size:=1,bytes:=8,zero:=[AV.g (Value.int IntKind.u64 0)],kind:=TK.int IntKind.u64 }:=by kernel_rfl
theorem t117:ti Try.prog 117=some { agg:=false,size:=1,bytes:=8,zero:=[AV.g (Value.pointer none)],kind:=TK.ptr 26 }:=by kernel_rfl
theorem t120:ti Try.prog 120=some { agg:=false,size:=1,bytes:=8,zero:=[AV.g (Value.pointer none)],kind:=TK.ptr 75 }:=by kernel_rfl
theorem t134:ti Try.prog 134=some { agg:=true,size:=4,bytes:=40,zero:=[AV.g (Value.pointer none),AV.g (Value.pointer none),AV.g (Value.pointer none),AV.s []],kind:=TK.struct [(0,17),(1,17),(2,17),(3,9)] }:=by kernel_rfl
theorem t135:ti Try.prog 135=some { agg:=true,size:=4,bytes:=40,zero:=[AV.g (Value.pointer none),AV.g (Value.pointer none),AV.g (Value.pointer none),AV.s []],kind:=TK.struct [(0,17),(1,17),(2,17),(3,9)] }:=by kernel_rfl
theorem t136:ti Try.prog 136=some { agg:=true,size:=0,bytes:=0,zero:=[],kind:=TK.array 0 16 }:=by kernel_rfl
theorem t137:ti Try.prog 137=some { agg:=true,size:=0,bytes:=0,zero:=[],kind:=TK.struct [(0,136)] }:=by kernel_rfl
theorem t138:ti Try.prog 138=some { agg:=true,size:=0,bytes:=0,zero:=[],kind:=TK.struct [(0,136)] }:=by kernel_rfl
theorem t140:ti Try.prog 140=some { agg:=false,size:=1,bytes:=4,zero:=[AV.g (Value.int IntKind.u32 0)],kind:=TK.int IntKind.u32 }:=by kernel_rfl
theorem t141:ti Try.prog 141=some { agg:=false,size:=1,bytes:=1,zero:=[AV.g (Value.int IntKind.u8 0)],kind:=TK.int IntKind.u8 }:=by kernel_rfl
theorem t142:ti Try.prog 142=some { agg:=false,size:=1,bytes:=1,zero:=[AV.g (Value.int IntKind.u8 0)],kind:=TK.int IntKind.u8 }:=by kernel_rfl
theorem t144:ti Try.prog 144=some { agg:=false,size:=1,bytes:=8,zero:=[AV.g (Value.pointer none)],kind:=TK.ptr 5 }:=by kernel_rfl
theorem t145:ti Try.prog 145=some { agg:=false,size:=1,bytes:=4,zero:=[AV.g (Value.int IntKind.i32 0)],kind:=TK.int IntKind.i32 }:=by kernel_rfl
theorem t146:ti Try.prog 146=some { agg:=false,size:=1,bytes:=4,zero:=[AV.g (Value.int IntKind.i32 0)],kind:=TK.int IntKind.i32 }:=by kernel_rfl
theorem t147:ti Try.prog 147=some { agg:=true,size:=11,bytes:=48,zero:=[AV.g (Value.int IntKind.u64 0),AV.g (Value.int IntKind.u64 0),AV.g (Value.int IntKind.u32 0),AV.g (Value.int IntKind.u8 0),AV.g (Value.int IntKind.u8 0),AV.g (Value.int IntKind.u8 0),AV.g (Value.int IntKind.u8 0),AV.g Value.nilFunc,AV.g (Value.pointer none),AV.g (Value.int IntKind.i32 0),AV.g (Value.int IntKind.i32 0)],kind:=TK.struct [(0,12),(1,12),(2,140),(3,141),(4,5),(5,5),(6,142),(7,143),(8,144),(9,145),(10,146)] }:=by kernel_rfl
theorem t148:ti Try.prog 148=some { agg:=true,size:=11,bytes:=48,zero:=[AV.g (Value.int IntKind.u64 0),AV.g (Value.int IntKind.u64 0),AV.g (Value.int IntKind.u32 0),AV.g (Value.int IntKind.u8 0),AV.g (Value.int IntKind.u8 0),AV.g (Value.int IntKind.u8 0),AV.g (Value.int IntKind.u8 0),AV.g Value.nilFunc,AV.g (Value.pointer none),AV.g (Value.int IntKind.i32 0),AV.g (Value.int IntKind.i32 0)],kind:=TK.struct [(0,12),(1,12),(2,140),(3,141),(4,5),(5,5),(6,142),(7,143),(8,144),(9,145),(10,146)] }:=by kernel_rfl
theorem u_bool:Try.prog.underlying 4=some .bool:=by kernel_rfl
attribute [simp ↓] spl_tt spl_tf spl_ft spl_ff
attribute [simp] creg_nil zvn zvo cO cR cG_bool cG_undef spl_ct spl_cf putC nmC aop ev cv updL zbz upd_upd zbk zby zbq aLen aBuiltin aBin aIntBin aFieldAddr placeOf aLoad cellsAt aUn aIndexAddr st0 valCells isOne Value.oneCell' aStore setCells List.getElem?_cons_zero List.getElem?_cons_succ Option.getD_some zcc formOb_r1 aBuild parts fillA placesOf aField aIndex aSlice optIdx aStrBin aMakeSlice viewCells viewCell arrN frzU capOk aConv aNews aAppend aBuildSlice chunks endR_some am0_gg am0_ss am0_ll am1_gg am1_ss am1_ll am1_nl am1_al am2_gg am2_ss am2_ll am2_nl am2_al am2_ff zvp zvq am2s_nn am2s_cc amRs_one amRs_two' amRs_thr zzs zzt zvr KpE KpO KpR KpOR t2 t3 t4 t5 t6 t7 t8 t9 t10 t11 t12 t13 t14 t15 t16 t17 t18 t19 t21 t22 t24 t25 t26 t27 t28 t29 t30 t31 t32 t40 t41 t50 t51 t53 t58 t59 t73 t74 t75 t77 t78 t83 t86 t87 t90 t114 t117 t120 t134 t135 t136 t137 t138 t140 t141 t142 t144 t145 t146 t147 t148 u_bool
attribute [simp] zcj gE tP
end Go.Proofs.Ytodmafgmdlkhoaa.Vs
end
section
namespace Go.Proofs.Ytodmafgmdlkhoaa.Vs
set_option linter.all false
set_option maxRecDepth 100000
/-! ### Draws -/
/-- A code of bytes, not a great one. -/
def Code(l:List Int):Prop:=l.length≤1048576
def andZ(a b:Int):Int:=IntKind.i64.wrap (BitVec.ofInt IntKind.i64.bits a &&& BitVec.ofInt IntKind.i64.bits b).toNat
def xorZ(a b:Int):Int:=IntKind.i64.wrap (BitVec.ofInt IntKind.i64.bits a ^^^ BitVec.ofInt IntKind.i64.bits b).toNat
theorem zb7(a b:Int):IntKind.i64.wrap (BitVec.ofInt IntKind.i64.bits a &&& BitVec.ofInt IntKind.i64.bits b).toNat=andZ a b:=(rfl)
theorem zb8(a b:Int):IntKind.i64.wrap (BitVec.ofInt IntKind.i64.bits a ^^^ BitVec.ofInt IntKind.i64.bits b).toNat=xorZ a b:=(rfl)
theorem andZ_bd(a b:Int)(n:Nat)(hb:(BitVec.ofInt 64 b).toNat=n)(hn:n<9223372036854775808):0≤andZ a b∧andZ a b≤n:=by
 have h:(BitVec.ofInt IntKind.i64.bits a &&& BitVec.ofInt IntKind.i64.bits b).toNat≤n:=by
  rw [BitVec.toNat_and]
  exact Nat.le_trans Nat.and_le_right (Nat.le_of_eq hb)
 unfold andZ
 rw [zcj (by omega) (by omega)]
 omega
/-- The number that a code is mixed to. -/
def mixN(l:List Int):Nat→Int
 | 0=>IntKind.i64.wrap (10101+l.length)
 | k+1=>andZ (IntKind.i64.wrap (IntKind.i64.wrap (IntKind.i64.wrap (mixN l k*131)+IntKind.i64.wrap (l.getD k 0))+7)) 1073741823
def cur0(l:List Int):Cur:=⟨0,mixN l (min l.length 4000)⟩
def zG0:=And.intro @zcj (And.intro @gE @tP)
def zG1:=And.intro @zbq (And.intro @zby @zbz)
theorem l1New(l:List Int)(hl:Code l):XCall Try.prog 22 [.sl 1 (l.map cU)] [] (.ptr 16 0) [] [.cells (curC l (cur0 l))]:=by
 unfold Code at hl
 refine zbs Try.func22 (by rfl) (by rfl) (by rw [Try.ntmps22];exact Nat.le_of_ble_eq_true rfl) rfl (by simp) rfl rfl ?_
 rw [Try.ntmps22]
 refine zf1   ?_
 refine AW_k [(0,_)] ⟨rfl,trivial⟩ ?_
 refine AW_x rfl rfl λK hK=>?_
 simp (disch:=omega) [zG0,cU,↓zb7,↓zb8]
 repeat' first|(refine ⟨by omega,?_⟩)|(intro _)
 refine hK _ ?_;clear hK K
 refine AW_x rfl rfl λK hK=>?_
 simp (disch:=omega) [zG0,cU,↓zb7,↓zb8]
 repeat' first|(refine ⟨by omega,?_⟩)|(intro _)
 refine hK _ ?_;clear hK K
 refine zbi ?_
 refine AW_x rfl rfl λK hK=>?_
 simp (disch:=omega) [zG0,cU,↓zb7,↓zb8]
 repeat' first|(refine ⟨by omega,?_⟩)|(intro _)
 refine hK _ ?_;clear hK K
 refine zbm ?_
 refine zbv (λmM sS=>∃(i:Nat),mM=l.length-i∧(i≤l.length∧i≤4000)∧sS = { env:=lkE [(0,.sl 1 (l.map cU)),(3,(.g (.int .i64 (mixN l i)))),(4,(.g (.int .i64 ((i:Nat)))))],ob:=lk [] }) ?_ ?_
 ·refine ⟨_,LeS.kx [] [(0,.sl 1 (l.map cU)),(3,(.g (.int .i64 (mixN l (0))))),(4,(.g (.int .i64 (((0):Nat)))))] [] (by simp [zG1,KpR,renV2,renV,zbk];try (first | rfl|(simp (disch:=omega) [mixN,zcj];done)|(rw [mixN];simp [List.getElem?_eq_getElem, *];done))) (by simp [zG1,KpOX,renO,plO,cvO,renV,pl1];try rfl) (by rfl) (by simp) (by simp) (by rfl) (by simp [formsX,List.range_succ,zbq,zby]),_,0,rfl,?_,rfl⟩
  ·simp
 ·rintro mM sS ⟨i,rfl,⟨hi,hi2⟩,rfl⟩
  refine zbi ?_
  refine AW_x rfl rfl λK hK=>?_
  simp (disch:=omega) [zG0,cU,↓zb7,↓zb8]
  repeat' first|(exfalso;omega)|(refine ⟨λ_=>?_,λ_=>?_⟩)|(refine ⟨by omega,?_⟩)|(intro _)
  all_goals (refine hK _ ?_;clear hK K)
  all_goals
   refine zbh rfl (λhc1=>?_) (λhc1=>?_)
   ·try simp at hc1
    all_goals
     refine zbj ?_
     refine zbn ?_
     refine zbi ?_
     refine zbm ?_
     refine zb3 rfl rfl λK hK=>?_
     simp (disch:=omega) [zG0,cU,↓zb7,↓zb8]
     repeat' first|(exfalso;omega)|(refine ⟨λ_=>?_,λ_=>?_⟩)|(refine ⟨by omega,?_⟩)|(intro _)
     all_goals (refine hK _ ?_;clear hK K)
     all_goals
      refine zbn ?_
      refine zb3 rfl rfl λK hK=>?_
      simp (disch:=omega) [zG0,cU,↓zb7,↓zb8]
      repeat' first|(refine ⟨by omega,?_⟩)|(intro _)
      refine hK _ ?_;clear hK K
      refine ⟨_,LeS.kx [] [(0,.sl 1 (l.map cU)),(3,(.g (.int .i64 (mixN l (i+1))))),(4,(.g (.int .i64 (((i+1):Nat)))))] [] (by simp [zG1,KpR,renV2,renV,zbk];try (first | rfl|(simp (disch:=omega) [mixN,zcj];done)|(rw [mixN];simp [List.getElem?_eq_getElem, *];done))) (by simp [zG1,KpOX,renO,plO,cvO,renV,pl1];try rfl) (by rfl) (by simp) (by simp) (by rfl) (by simp [formsX,List.range_succ,zbq,zby]),_,?_,i+1,rfl,?_,rfl⟩
      ·omega
      ·omega
   try simp at hc1
   refine zbx ?_
   refine zbn ?_
   refine AW_x rfl rfl λK hK=>?_
   simp (disch:=omega) [zG0,cU,↓zb7,↓zb8]
   repeat' first|(exfalso;omega)|(refine ⟨λ_=>?_,λ_=>?_⟩)|(refine ⟨by omega,?_⟩)|(intro _)
   all_goals (refine hK _ ?_;clear hK K)
   all_goals
    refine zbp (zb0 [512] [] (by simp [zG1,List.range_succ]) (by simp) ?_)
    simp (disch:=omega) [zG0,cU,↓zb7,↓zb8,curC]
    all_goals (unfold cur0;have e:i=min l.length 4000:=(by omega);rw [←e];exact ⟨rfl,rfl⟩)
def nxH(h:Int):Int:=IntKind.i64.wrap (IntKind.i64.wrap (h*6364136223846793005)+1442695040888963407)
def rawX(h:Int):Int:=andZ (xorZ (h.fdiv (2^min 33 IntKind.i64.bits)) (h.fdiv (2^min 45 IntKind.i64.bits))) 255
def byte(l:List Int)(c:Cur):Int:=if c.i<l.length then andZ (IntKind.i64.wrap (rawX (nxH c.h)+IntKind.i64.wrap (l.getD c.i 0))) 255 else rawX (nxH c.h)
def stp(l:List Int)(c:Cur):Cur:=⟨if c.i<l.length then c.i+1 else c.i,nxH c.h⟩
theorem zmz(l:List Int)(c:Cur):0≤byte l c∧byte l c≤255:=by
 unfold byte rawX
 split<;>exact andZ_bd _ _ 255 (by decide) (by decide)
theorem zpp(l:List Int)(hl:Code l)(c:Cur):XCall Try.prog 56 [.ptr 8 0] [.cells (curC l c)] (.g (.int .i64 (byte l c))) [.cells (curC l (stp l c))] []:=by
 unfold Code at hl
 unfold curC
 refine zbs Try.func56 (by rfl) (by rfl) (by rw [Try.ntmps56];exact Nat.le_of_ble_eq_true rfl) rfl (by simp) rfl rfl ?_
 rw [Try.ntmps56]
 refine zhl (.cells [.sl 1 (l.map cU),.g (.int .i64 (c.i:Int)),.g (.int .i64 c.h)]) (by simp [cvO]<;>assumption) ?_
 refine AW_k [(0,_)] ⟨rfl,trivial⟩ ?_
 refine AW_x rfl rfl λK hK=>?_
 simp (disch:=omega) [zG0,cU,curC,↓zb7,↓zb8]
 repeat' first|(refine ⟨by omega,?_⟩)|(intro _)
 refine hK _ ?_;clear hK K
 refine AW_x rfl rfl λK hK=>?_
 simp (disch:=omega) [zG0,cU,curC,↓zb7,↓zb8]
 repeat' first|(refine ⟨by omega,?_⟩)|(intro _)
 refine hK _ ?_;clear hK K
 refine AW_d rfl mix (by kernel_rfl) (by kernel_rfl) λK hK=>?_
 simp (disch:=omega) [zG0,cU,curC,↓zb7,↓zb8]
 repeat' first|(refine ⟨by omega,?_⟩)|(intro _)
 refine hK _ _ (by kernel_rfl) ?_;clear hK K
 refine zbi ?_
 refine AW_d rfl mix (by kernel_rfl) (by kernel_rfl) λK hK=>?_
 simp (disch:=omega) [zG0,cU,curC,↓zb7,↓zb8]
 repeat' first|(refine ⟨by omega,?_⟩)|(intro _)
 refine hK _ _ (by kernel_rfl) ?_;clear hK K
 refine zbh rfl (λhc2=>?_) (λhc2=>?_)
 ·try simp at hc2
  all_goals
   refine AW_d rfl mix (by kernel_rfl) (by kernel_rfl) λK hK=>?_
   simp (disch:=omega) [zG0,cU,curC,↓zb7,↓zb8]
   repeat' first|(exfalso;omega)|(refine ⟨λ_=>?_,λ_=>?_⟩)|(refine ⟨by omega,?_⟩)|(intro _)
   all_goals (refine hK _ _ (by kernel_rfl) ?_;clear hK K)
   all_goals
    refine zb3 rfl rfl λK hK=>?_
    simp (disch:=omega) [zG0,cU,curC,↓zb7,↓zb8]
    repeat' first|(refine ⟨by omega,?_⟩)|(intro _)
    refine hK _ ?_;clear hK K
    refine zbn ?_
    refine AW_x rfl rfl λK hK=>?_
    simp (disch:=omega) [zG0,cU,curC,↓zb7,↓zb8]
    repeat' first|(refine ⟨by omega,?_⟩)|(intro _)
    refine hK _ ?_;clear hK K
    refine zbp (zb0 [] [] (by simp [zG1,List.range_succ]) (by simp) ?_)
    simp (disch:=omega) [zG0,cU,curC,↓zb7,↓zb8,curC]
    all_goals first|(simp [byte,stp,rawX,nxH,hc2,List.getElem?_eq_getElem];done)|(simp [byte,stp,rawX,nxH,Nat.not_lt.2 hc2];done)
 try simp at hc2
 refine zbj ?_
 refine zbn ?_
 refine AW_x rfl rfl λK hK=>?_
 simp (disch:=omega) [zG0,cU,curC,↓zb7,↓zb8]
 repeat' first|(exfalso;omega)|(refine ⟨λ_=>?_,λ_=>?_⟩)|(refine ⟨by omega,?_⟩)|(intro _)
 all_goals (refine hK _ ?_;clear hK K)
 all_goals
  refine zbp (zb0 [] [] (by simp [zG1,List.range_succ]) (by simp) ?_)
  simp (disch:=omega) [zG0,cU,curC,↓zb7,↓zb8,curC]
  all_goals first|(simp [byte,stp,rawX,nxH,hc2,List.getElem?_eq_getElem];done)|(simp [byte,stp,rawX,nxH,Nat.not_lt.2 hc2];done)
def stp4(l:List Int)(c:Cur):Cur:=stp l (stp l (stp l (stp l c)))
def four(l:List Int)(c:Cur):Int:=byte l c*16777216+byte l (stp l c)*65536+byte l (stp l (stp l c))*256+byte l (stp l (stp l (stp l c)))
def below(l:List Int)(n:Int)(c:Cur):Int:=if n≤0 then 0 else if n≤256 then byte l c % n else four l c % n
def belowS(l:List Int)(n:Int)(c:Cur):Cur:=if n≤0 then c else if n≤256 then stp l c else stp4 l c
theorem zc5(l:List Int)(n:Int)(c:Cur):0≤below l n c∧(0<n→below l n c<n):=by
 unfold below
 split
 ·omega
 ·split
  ·have:=Int.emod_nonneg (byte l c) (show n≠0 by omega);have:=Int.emod_lt_of_pos (byte l c) (show 0<n by omega);omega
  ·have:=Int.emod_nonneg (four l c) (show n≠0 by omega);have:=Int.emod_lt_of_pos (four l c) (show 0<n by omega);omega
theorem zdi(l:List Int)(hl:Code l)(c:Cur)(n:Int):XCall Try.prog 26 [.ptr 8 0,(.g (.int .i64 (n)))] [.cells (curC l c)] (.g (.int .i64 (below l n c))) [.cells (curC l (belowS l n c))] []:=by
 have h1:=zmz l c;have h2:=zmz l (stp l c);have h3:=zmz l (stp l (stp l c));have h4:=zmz l (stp l (stp l (stp l c)))
 refine zbs Try.func26 (by rfl) (by rfl) (by rw [Try.ntmps26];exact Nat.le_of_ble_eq_true rfl) rfl (by simp) rfl rfl ?_
 rw [Try.ntmps26]
 refine zhl (.cells (curC l c)) (by simp [cvO]<;>assumption) ?_
 refine AW_k [(0,_),(1,_)] ⟨rfl,rfl,trivial⟩ ?_
 refine AW_x rfl rfl λK hK=>?_
 simp (disch:=omega) [zG0,cU,↓zb7,↓zb8]
 repeat' first|(refine ⟨by omega,?_⟩)|(intro _)
 refine hK _ ?_;clear hK K
 refine zbi ?_
 refine AW_x rfl rfl λK hK=>?_
 simp (disch:=omega) [zG0,cU,↓zb7,↓zb8]
 repeat' first|(refine ⟨by omega,?_⟩)|(intro _)
 refine hK _ ?_;clear hK K
 refine zbh rfl (λhc3=>?_) (λhc3=>?_)
 ·try simp at hc3
  all_goals
   refine AW_x rfl rfl λK hK=>?_
   simp (disch:=omega) [zG0,cU,↓zb7,↓zb8]
   repeat' first|(exfalso;omega)|(refine ⟨λ_=>?_,λ_=>?_⟩)|(refine ⟨by omega,?_⟩)|(intro _)
   all_goals (refine hK _ ?_;clear hK K)
   all_goals
    refine zbp (zb0 [] [] (by simp [zG1,List.range_succ]) (by simp) ?_)
    simp (disch:=omega) [zG0,cU,↓zb7,↓zb8]
    all_goals (unfold below belowS stp4 four;simp only [Int.not_le.2, *,if_true,if_false,ite_true,ite_false];first | exact ⟨rfl,rfl⟩|(simp (disch:=omega) [Int.tmod_eq_emod_of_nonneg];done) | trace_state)
 try simp at hc3
 refine zbj ?_
 refine zbn ?_
 refine zbi ?_
 refine AW_x rfl rfl λK hK=>?_
 simp (disch:=omega) [zG0,cU,↓zb7,↓zb8]
 repeat' first|(exfalso;omega)|(refine ⟨λ_=>?_,λ_=>?_⟩)|(refine ⟨by omega,?_⟩)|(intro _)
 all_goals (refine hK _ ?_;clear hK K)
 all_goals
  refine zbh rfl (λhc4=>?_) (λhc4=>?_)
  ·try simp at hc4
   all_goals
    refine AW_x rfl rfl λK hK=>?_
    simp (disch:=omega) [zG0,cU,↓zb7,↓zb8]
    repeat' first|(exfalso;omega)|(refine zcs (λ_=>xs_p xs_z) (zpp l hl _) rfl rfl ?_;simp (disch:=omega) [zG0,cU,↓zb7,↓zb8])|(refine ⟨λ_=>?_,λ_=>?_⟩)|(refine ⟨by omega,?_⟩)|(intro _)
    all_goals (refine hK _ ?_;clear hK K)
    all_goals
     refine zbp (zb0 [] [] (by simp [zG1,List.range_succ]) (by simp) ?_)
     simp (disch:=omega) [zG0,cU,↓zb7,↓zb8]
     all_goals (unfold below belowS stp4 four;simp only [Int.not_le.2, *,if_true,if_false,ite_true,ite_false];first | exact ⟨rfl,rfl⟩|(simp (disch:=omega) [Int.tmod_eq_emod_of_nonneg];done) | trace_state)
  try simp at hc4
  refine zbj ?_
  refine zbn ?_
  refine AW_x rfl rfl λK hK=>?_
  simp (disch:=omega) [zG0,cU,↓zb7,↓zb8]
  repeat' first|(exfalso;omega)|(refine zcs (λ_=>xs_p xs_z) (zpp l hl _) rfl rfl ?_;simp (disch:=omega) [zG0,cU,↓zb7,↓zb8])|(refine ⟨λ_=>?_,λ_=>?_⟩)|(refine ⟨by omega,?_⟩)|(intro _)
  all_goals (refine hK _ ?_;clear hK K)
  all_goals
   refine AW_x rfl rfl λK hK=>?_
   simp (disch:=omega) [zG0,cU,↓zb7,↓zb8]
   repeat' first|(exfalso;omega)|(refine zcs (λ_=>xs_p xs_z) (zpp l hl _) rfl rfl ?_;simp (disch:=omega) [zG0,cU,↓zb7,↓zb8])|(refine ⟨by omega,?_⟩)|(intro _)
   refine hK _ ?_;clear hK K
   refine AW_x rfl rfl λK hK=>?_
   simp (disch:=omega) [zG0,cU,↓zb7,↓zb8]
   repeat' first|(exfalso;omega)|(refine zcs (λ_=>xs_p xs_z) (zpp l hl _) rfl rfl ?_;simp (disch:=omega) [zG0,cU,↓zb7,↓zb8])|(refine ⟨by omega,?_⟩)|(intro _)
   refine hK _ ?_;clear hK K
   refine AW_x rfl rfl λK hK=>?_
   simp (disch:=omega) [zG0,cU,↓zb7,↓zb8]
   repeat' first|(exfalso;omega)|(refine zcs (λ_=>xs_p xs_z) (zpp l hl _) rfl rfl ?_;simp (disch:=omega) [zG0,cU,↓zb7,↓zb8])|(refine ⟨by omega,?_⟩)|(intro _)
   refine hK _ ?_;clear hK K
   refine AW_x rfl rfl λK hK=>?_
   simp (disch:=omega) [zG0,cU,↓zb7,↓zb8]
   repeat' first|(refine ⟨by omega,?_⟩)|(intro _)
   refine hK _ ?_;clear hK K
   refine zbp (zb0 [] [] (by simp [zG1,List.range_succ]) (by simp) ?_)
   simp (disch:=omega) [zG0,cU,↓zb7,↓zb8]
   all_goals (unfold below belowS stp4 four;simp only [Int.not_le.2, *,if_true,if_false,ite_true,ite_false];first | exact ⟨rfl,rfl⟩|(simp (disch:=omega) [Int.tmod_eq_emod_of_nonneg];done) | trace_state)
theorem zko(l:List Int)(hl:Code l)(c:Cur)(n:Int):XCall Try.prog 25 [.ptr 8 0,(.g (.int .i64 (n)))] [.cells (curC l c)] (.g (.bool (decide (below l n c=0)))) [.cells (curC l (belowS l n c))] []:=by
 refine zbs Try.func25 (by rfl) (by rfl) (by rw [Try.ntmps25];exact Nat.le_of_ble_eq_true rfl) rfl (by simp) rfl rfl ?_
 rw [Try.ntmps25]
 refine zhl (.cells (curC l c)) (by simp [cvO]<;>assumption) ?_
 refine AW_k [(0,_),(1,_)] ⟨rfl,rfl,trivial⟩ ?_
 refine AW_x rfl rfl λK hK=>?_
 simp (disch:=omega) [zG0,cU,↓zb7,↓zb8]
 repeat' first|(refine ⟨by omega,?_⟩)|(intro _)
 refine hK _ ?_;clear hK K
 refine AW_x rfl rfl λK hK=>?_
 simp (disch:=omega) [zG0,cU,↓zb7,↓zb8]
 repeat' first|(exfalso;omega)|(refine zcs (λ_=>xs_p (xs_g xs_z)) (zdi l hl _ _) rfl rfl ?_;simp (disch:=omega) [zG0,cU,↓zb7,↓zb8])|(refine ⟨by omega,?_⟩)|(intro _)
 refine hK _ ?_;clear hK K
 refine zbp (zb0 [] [] (by simp [zG1,List.range_succ]) (by simp) ?_)
 simp (disch:=omega) [zG0,cU,↓zb7,↓zb8]
 all_goals first | rfl|(simp;done) | trace_state
def pickZ(xs:List Int)(n:Int):Int:=xs.getD n.toNat 0
theorem zc1(l:List Int)(hl:Code l)(c:Cur)(xs:List Int)(hx:0<xs.length∧xs.length≤1048576):XCall Try.prog 52 [.ptr 8 0,.arr 9 0 xs.length] [.cells (curC l c),.own 1 (xs.map cI)] (.g (.int .i64 (pickZ xs (below l xs.length c)))) [.cells (curC l (belowS l xs.length c)),.own 1 (xs.map cI)] []:=by
 have hb:=zc5 l xs.length c
 refine zbs Try.func52 (by rfl) (by rfl) (by rw [Try.ntmps52];exact Nat.le_of_ble_eq_true rfl) rfl (by simp) rfl rfl ?_
 rw [Try.ntmps52]
 refine zzv (.cells (curC l c)) (.own 1 (xs.map cI)) (by simp [cvO]<;>assumption) (by simp [cvO]<;>assumption) ?_
 refine AW_k [(0,_),(1,_)] ⟨rfl,rfl,trivial⟩ ?_
 refine AW_x rfl rfl λK hK=>?_
 simp (disch:=omega) [zG0,cI,cS,cU,↓zb7,↓zb8]
 repeat' first|(refine ⟨by omega,?_⟩)|(intro _)
 refine hK _ ?_;clear hK K
 refine AW_x rfl rfl λK hK=>?_
 simp (disch:=omega) [zG0,cI,cS,cU,↓zb7,↓zb8]
 repeat' first|(exfalso;omega)|(refine zcs (λ_=>xs_p (xs_g xs_z)) (zdi l hl _ _) rfl rfl ?_;simp (disch:=omega) [zG0,cI,cS,cU,↓zb7,↓zb8])|(refine ⟨by omega,?_⟩)|(intro _)
 refine hK _ ?_;clear hK K
 refine zbp (zb0 [] [] (by simp [zG1,List.range_succ]) (by simp) ?_)
 simp (disch:=omega) [zG0,cI,cS,cU,↓zb7,↓zb8,cI]
 all_goals (unfold pickZ;simp [List.getElem?_eq_getElem, *];done)
theorem zgy(l:List Int)(hl:Code l)(c:Cur)(xs:List (List UInt8))(hx:0<xs.length∧xs.length≤1048576):XCall Try.prog 54 [.ptr 8 0,.arr 9 0 xs.length] [.cells (curC l c),.own 1 (xs.map cS)] (.s (xs.getD (below l xs.length c).toNat [])) [.cells (curC l (belowS l xs.length c)),.own 1 (xs.map cS)] []:=by
 have hb:=zc5 l xs.length c
 refine zbs Try.func54 (by rfl) (by rfl) (by rw [Try.ntmps54];exact Nat.le_of_ble_eq_true rfl) rfl (by simp) rfl rfl ?_
 rw [Try.ntmps54]
 refine zzv (.cells (curC l c)) (.own 1 (xs.map cS)) (by simp [cvO]<;>assumption) (by simp [cvO]<;>assumption) ?_
 refine AW_k [(0,_),(1,_)] ⟨rfl,rfl,trivial⟩ ?_
 refine AW_x rfl rfl λK hK=>?_
 simp (disch:=omega) [zG0,cI,cS,cU,↓zb7,↓zb8]
 repeat' first|(refine ⟨by omega,?_⟩)|(intro _)
 refine hK _ ?_;clear hK K
 refine AW_x rfl rfl λK hK=>?_
 simp (disch:=omega) [zG0,cI,cS,cU,↓zb7,↓zb8]
 repeat' first|(exfalso;omega)|(refine zcs (λ_=>xs_p (xs_g xs_z)) (zdi l hl _ _) rfl rfl ?_;simp (disch:=omega) [zG0,cI,cS,cU,↓zb7,↓zb8])|(refine ⟨by omega,?_⟩)|(intro _)
 refine hK _ ?_;clear hK K
 refine zbp (zb0 [] [] (by simp [zG1,List.range_succ]) (by simp) ?_)
 simp (disch:=omega) [zG0,cI,cS,cU,↓zb7,↓zb8,cS]
 all_goals (simp [List.getElem?_eq_getElem, *];done)
end Go.Proofs.Ytodmafgmdlkhoaa.Vs
end
section
namespace Go.Proofs.Ytodmafgmdlkhoaa.Vs
set_option linter.all false
set_option maxRecDepth 100000
set_option maxHeartbeats 2000000
attribute [local simp ↓] zv9 zOr_eq zwa zwb zwc zwd
attribute [local simp] zmy zAnd_w zsz zNot_w
theorem zjn(x:Int):PCall Try.prog 110 [(.g (.int .i64 (x)))] (.g (.int .i64 (x % 4294967296))):=by
 refine zbr Try.func110 (by rfl) (by rfl) (by rw [Try.ntmps110];exact Nat.le_of_ble_eq_true rfl) rfl (by decide) ?_
 rw [Try.ntmps110]
 refine AW_k [(0,_)] ⟨rfl,trivial⟩ ?_
 refine AW_r rfl rfl λK hK=>?_
 simp (disch:=omega)
 repeat' first|(refine ⟨by omega,?_⟩)|(intro _)
 refine hK _ ?_;clear hK K
 refine AW_r rfl rfl λK hK=>?_
 simp (disch:=omega)
 repeat' first|(refine ⟨by omega,?_⟩)|(intro _)
 refine hK _ ?_;clear hK K
 refine zbp (zcb ?_)
 simp (disch:=omega)
 all_goals first | rfl | trace_state
theorem wrapU{n:Int}(h:0≤n∧n<18446744073709551616):IntKind.u64.wrap n=n:=by
 simp [IntKind.wrap,IntKind.bits,IntKind.signed]
 omega
theorem zg8(x:W32)(z:Int)(hz:0<z∧z<32):PCall Try.prog 109 [(.g (.int .i64 (wI x))),.g (.int .u64 z)] (.g (.int .i64 (wI (x.rotateRight z.toNat)))):=by
 have hw:=wrapU (n:=32-z) (by omega)
 have hr:=rot_w x z hz
 refine zbr Try.func109 (by rfl) (by rfl) (by rw [Try.ntmps109];exact Nat.le_of_ble_eq_true rfl) rfl (by decide) ?_
 rw [Try.ntmps109]
 refine AW_k [(0,_),(1,_)] ⟨rfl,rfl,trivial⟩ ?_
 refine AW_r rfl rfl λK hK=>?_
 simp (disch:=omega) [hw,hr]
 repeat' first|(refine ⟨by omega,?_⟩)|(intro _)
 refine hK _ ?_;clear hK K
 refine AW_r rfl rfl λK hK=>?_
 simp (disch:=omega) [hw,hr]
 repeat' first|(exfalso;omega)|(refine zdg (zbe zcl zbo) (zjn _) rfl ?_;simp (disch:=omega) [hw,hr])|(refine ⟨by omega,?_⟩)|(intro _)
 refine hK _ ?_;clear hK K
 refine zbp (zcb ?_)
 simp (disch:=omega) [hw,hr]
 all_goals first | rfl | exact hr | trace_state
attribute [local simp] cW shaK List.map_cons List.map_nil
attribute [-simp] zmy zAnd_w zsz zNot_w
theorem l3Keys:PCall Try.prog 106 [] (.sl 1 (shaK.map cW)):=by
 refine zbr Try.func106 (by rfl) (by rfl) (by rw [Try.ntmps106];exact Nat.le_of_ble_eq_true rfl) rfl (by decide) ?_
 rw [Try.ntmps106]
 refine AW_k [] trivial ?_
 refine AW_r rfl rfl λK hK=>?_
 simp (disch:=omega)
 repeat' first|(refine ⟨by omega,?_⟩)|(intro _)
 refine hK _ ?_;clear hK K
 refine AW_r rfl rfl λK hK=>?_
 simp (disch:=omega)
 repeat' first|(refine ⟨by omega,?_⟩)|(intro _)
 refine hK _ ?_;clear hK K
 refine zbp (zcb ?_)
 simp (disch:=omega) [wI]
 all_goals first | rfl | trace_state
end Go.Proofs.Ytodmafgmdlkhoaa.Vs
end
section
namespace Go.Proofs.Ytodmafgmdlkhoaa.Vs
set_option linter.all false
set_option maxRecDepth 100000
set_option maxHeartbeats 4000000
attribute [local simp ↓] zv9 zOr_eq zwa zwb zwc zwd
/-- The words of a block. -/
def wd(b:List UInt8)(j:Nat):W32:=(sch b 64).getD j 0
theorem sch_at(b:List UInt8)(i j:Nat)(h:j<i)(hi:i≤64):(sch b i)[j]? = some (wd b j):=by
 rw [sch_get b i j h]
 unfold wd
 rw [List.getD_eq_getElem?_getD,sch_get b 64 j (by omega)]
 have:j<(sch b (j+1)).length:=by rw [zgu];omega
 rw [List.getElem?_eq_getElem this];rfl
def kd(j:Nat):W32:=shaK.getD j 0
theorem kd_at(j:Nat)(h:j<64):shaK[j]? = some (kd j):=by unfold kd;rw [List.getD_eq_getElem?_getD,List.getElem?_eq_getElem (by rw [zxi];exact h),Option.getD_some]
def schR(b:List UInt8)(i:Nat):List (List AV):=(sch b i).map cW++List.replicate (64-i) [.g (.int .i64 0)]
theorem zdm(b:List UInt8)(i:Nat)(h:i≤64):(schR b i).length=64:=by unfold schR;simp [zgu];omega
theorem zjo(b:List UInt8)(i j:Nat)(h:j<i)(hi:i≤64):(schR b i)[j]? = some (cW (wd b j)):=by
 unfold schR
 rw [List.getElem?_append_left (by simp [zgu];omega),List.getElem?_map,sch_at b i j h hi];rfl
theorem zxj(b:List UInt8)(i:Nat)(h:i<64)(x:W32)(hx:sch b (i+1)=sch b i++[x]):(schR b i).set i (cW x)=schR b (i+1):=by
 unfold schR
 rw [hx,List.set_append_right _ _ (by simp [zgu]),show 64-i=(64-(i+1))+1 by omega,List.replicate_succ]
 simp [zgu]
theorem zdr(b:List UInt8)(i:Nat):scR (schR b i)=true:=by
 unfold schR
 rw [zd4,zdn cW (λ_=>rfl)]
 simp
 induction (64-i) with
 | zero=>rfl
 | succ n ih=>rw [List.replicate_succ];simpa [scR] using ih
theorem schR_z(b:List UInt8)(i:Nat)(h:i<64):(schR b i)[i]? = some [.g (.int .i64 0)]:=by
 unfold schR
 rw [List.getElem?_append_right (by simp [zgu])]
 simp [zgu,List.getElem?_replicate]
 omega
theorem or_add(a b n:Nat)(h:b<2^n):a*2^n ||| b=a*2^n+b:=by rw [←Nat.shiftLeft_eq,Nat.shiftLeft_add_eq_or_of_lt h]
theorem word_z{p0 p1 p2 p3:Nat}(h0:p0<256)(h1:p1<256)(h2:p2<256)(h3:p3<256):zOr (zOr (zOr (zShl (IntKind.i64.wrap (p0:Int)) 24) (zShl (IntKind.i64.wrap (p1:Int)) 16)) (zShl (IntKind.i64.wrap (p2:Int)) 8)) (IntKind.i64.wrap (p3:Int))=wI (BitVec.ofNat 32 ((p0*256+p1)*65536+p2*256+p3)):=by
 have e1:p0*2^24 ||| p1*2^16=p0*2^24+p1*2^16:=or_add _ _ 24 (by omega)
 have e2:(p0*2^24+p1*2^16) ||| p2*2^8=p0*2^24+p1*2^16+p2*2^8:=by
  have:=or_add (p0*2^8+p1) (p2*2^8) 16 (by omega)
  rw [show (p0*2^8+p1)*2^16=p0*2^24+p1*2^16 by omega] at this
  exact this
 have e3:(p0*2^24+p1*2^16+p2*2^8) ||| p3=p0*2^24+p1*2^16+p2*2^8+p3:=by
  have:=or_add ((p0*2^8+p1)*2^8+p2) p3 8 (by omega)
  rw [show ((p0*2^8+p1)*2^8+p2)*2^8=p0*2^24+p1*2^16+p2*2^8 by omega] at this
  exact this
 rw [zn1 (by omega),zn1 (by omega),zn1 (by omega),zn1 (by omega),zlg p0 24 24 rfl (by omega) (by omega),zlg p1 16 16 rfl (by omega) (by omega),zlg p2 8 8 rfl (by omega) (by omega)]
 rw [zqx (by omega) (by omega),e1,zqx (by omega) (by omega),e2,zqx (by omega) (by omega),e3]
 unfold wI
 rw [BitVec.toNat_ofNat,Nat.mod_eq_of_lt (by omega)]
 omega
theorem la_step(b:List UInt8)(hb:b.length=64)(i:Nat)(hi:i<16)(h0:(4*(i:Int)).toNat<b.length)(h1:(4*(i:Int)+1).toNat<b.length)(h2:(4*(i:Int)+2).toNat<b.length)(h3:(4*(i:Int)+3).toNat<b.length):(schR b i).set i (((schR b i)[i]?.getD []).set 0 (AV.g (.int .i64 (zOr (zOr (zOr (zShl (IntKind.i64.wrap (b[(4*(i:Int)).toNat].toNat:Int)) 24) (zShl (IntKind.i64.wrap (b[(4*(i:Int)+1).toNat].toNat:Int)) 16)) (zShl (IntKind.i64.wrap (b[(4*(i:Int)+2).toNat].toNat:Int)) 8)) (IntKind.i64.wrap (b[(4*(i:Int)+3).toNat].toNat:Int))))))=schR b (i+1):=by
 rw [word_z (UInt8.toNat_lt _) (UInt8.toNat_lt _) (UInt8.toNat_lt _) (UInt8.toNat_lt _),schR_z b i (by omega)]
 refine zxj b i (by omega) _ ?_
 have g:∀(z:Int) (n:Nat) (h:z.toNat<b.length),z.toNat=n→b.getD n 0=b[z.toNat]:=λz n h e=>by subst e;rw [List.getD_eq_getElem?_getD,List.getElem?_eq_getElem h];rfl
 rw [sch,if_pos hi,wrd,g _ (4*i) h0 (by omega),g _ (4*i+1) h1 (by omega),g _ (4*i+2) h2 (by omega),g _ (4*i+3) h3 (by omega)]
theorem zfh(x:Int):IntKind.i64.wrap x % 4294967296=x % 4294967296:=by
 simp [IntKind.wrap,IntKind.bits,IntKind.signed]
 split<;>omega
theorem wrap_l(x y:Int):(IntKind.i64.wrap x+y) % 4294967296=(x+y) % 4294967296:=by have:=zfh x;omega
theorem zShr_3(x:W32):zShr (wI x) 3=wI (x >>> 3):=by
 have h:=zShr_w x 3 (by omega)
 rw [show (3:Int).toNat=3 from rfl] at h
 exact h
theorem zShr_10(x:W32):zShr (wI x) 10=wI (x >>> 10):=by
 have h:=zShr_w x 10 (by omega)
 rw [show (10:Int).toNat=10 from rfl] at h
 exact h
theorem sch_D(b:List UInt8)(i j:Nat)(h:j<i)(hi:i≤64):(sch b i).getD j 0=wd b j:=by rw [List.getD_eq_getElem?_getD,sch_at b i j h hi,Option.getD_some]
theorem lb_step(b:List UInt8)(i:Nat)(h1:16≤i)(hi:i<64):(schR b i).set i (((schR b i)[i]?.getD []).set 0 (AV.g (.int .i64 (IntKind.i64.wrap (IntKind.i64.wrap (IntKind.i64.wrap (wI (wd b (i-16))+zXor (wI (BitVec.rotateRight (wd b (i-15)) 7 ^^^ BitVec.rotateRight (wd b (i-15)) 18)) (zShr (wI (wd b (i-15))) 3))+wI (wd b (i-7)))+zXor (wI (BitVec.rotateRight (wd b (i-2)) 17 ^^^ BitVec.rotateRight (wd b (i-2)) 19)) (zShr (wI (wd b (i-2))) 10)) % 4294967296))))=schR b (i+1):=by
 rw [zShr_3,zShr_10,zsz,zsz,schR_z b i hi,zfh,wrap_l]
 have e:∀a s c t:W32,(IntKind.i64.wrap (wI a+wI s)+wI c+wI t) % 4294967296=wI (a+s+c+t):=λa s c t=>by
  refine zv8 _ _ (zv8 _ _ ?_ _ _ (zpo c)) _ _ (zpo t)
  rw [zfh,add_w]
 rw [e]
 refine zxj b i hi _ ?_
 rw [sch,if_neg (by omega),sch_D b i _ (by omega) (by omega),sch_D b i _ (by omega) (by omega),sch_D b i _ (by omega) (by omega),sch_D b i _ (by omega) (by omega)]
 rfl
theorem zN_w(e:W32):zXor (if IntKind.i64.signed=true then -1 else 9223372036854775807) (wI e) % 4294967296=wI (~~~e):=not_w e
theorem sumC(a b:W32):IntKind.i64.wrap (wI a+wI b) % 4294967296=wI (a+b):=by rw [zfh,add_w]
theorem sumT(a s c k w:W32):IntKind.i64.wrap (IntKind.i64.wrap (IntKind.i64.wrap (IntKind.i64.wrap (wI a+wI s)+wI c)+wI k)+wI w) % 4294967296=wI (a+s+c+k+w):=by
 rw [zfh]
 refine zv8 _ _ ?_ _ _ (zpo w)
 rw [zfh]
 refine zv8 _ _ ?_ _ _ (zpo k)
 rw [zfh]
 refine zv8 _ _ ?_ _ _ (zpo c)
 exact sumC a s
theorem sumA(a s c k w p q:W32):IntKind.i64.wrap (IntKind.i64.wrap (IntKind.i64.wrap (IntKind.i64.wrap (IntKind.i64.wrap (wI a+wI s)+wI c)+wI k)+wI w)+IntKind.i64.wrap (wI p+wI q)) % 4294967296=wI (a+s+c+k+w+(p+q)):=by
 rw [zfh]
 exact zv8 _ _ (sumT a s c k w) _ _ (sumC p q)
theorem sumB(d a s c k w:W32):IntKind.i64.wrap (wI d+IntKind.i64.wrap (IntKind.i64.wrap (IntKind.i64.wrap (IntKind.i64.wrap (wI a+wI s)+wI c)+wI k)+wI w)) % 4294967296=wI (d+(a+s+c+k+w)):=by
 rw [zfh]
 exact zv8 _ _ (zpo d) _ _ (sumT a s c k w)
theorem zs0(b:List UInt8)(h:W8)(i:Nat):runW b h (i+1)=rnd (kd i) (wd b i) (runW b h i):=by rw [runW];rfl
theorem zs1(b:List UInt8)(h:W8):runW b h 0=h:=rfl
theorem zs3(k w:W32)(v:W8):(rnd k w v).cells=[[AV.g (.int .i64 (wI (v.h+(BitVec.rotateRight v.e 6 ^^^ BitVec.rotateRight v.e 11 ^^^ BitVec.rotateRight v.e 25)+(v.e &&& v.f ^^^ ~~~v.e &&& v.g)+k+w+((BitVec.rotateRight v.a 2 ^^^ BitVec.rotateRight v.a 13 ^^^ BitVec.rotateRight v.a 22)+(v.a &&& v.b ^^^ v.a &&& v.c ^^^ v.b &&& v.c)))))],[AV.g (.int .i64 (wI v.a))],[AV.g (.int .i64 (wI v.b))],[AV.g (.int .i64 (wI v.c))],[AV.g (.int .i64 (wI (v.d+(v.h+(BitVec.rotateRight v.e 6 ^^^ BitVec.rotateRight v.e 11 ^^^ BitVec.rotateRight v.e 25)+(v.e &&& v.f ^^^ ~~~v.e &&& v.g)+k+w))))],[AV.g (.int .i64 (wI v.e))],[AV.g (.int .i64 (wI v.f))],[AV.g (.int .i64 (wI v.g))]]:=rfl
theorem tk_len(h:W8)(i:Nat)(hi:i≤8):(h.cells.take i).length=i:=by rw [List.length_take];exact Nat.min_eq_left hi
theorem zxk(h:W8)(i:Nat):scR (h.cells.take i)=true:=by
 by_cases hi:i<8
 ·have:i=0∨i=1∨i=2∨i=3∨i=4∨i=5∨i=6∨i=7:=by omega
  rcases this with rfl | rfl | rfl | rfl | rfl | rfl | rfl | rfl<;>rfl
 ·rw [List.take_of_length_le (by show 8≤i;omega)];rfl
def W8.get(v:W8):Nat→W32
 | 0=>v.a | 1=>v.b | 2=>v.c | 3=>v.d | 4=>v.e | 5=>v.f | 6=>v.g | _=>v.h
theorem zm0(v:W8)(i:Nat)(h:i<8):v.cells[i]? = some (cW (v.get i)):=by
 have:i=0∨i=1∨i=2∨i=3∨i=4∨i=5∨i=6∨i=7:=by omega
 rcases this with rfl | rfl | rfl | rfl | rfl | rfl | rfl | rfl<;>rfl
theorem zs4(h v:W8)(i:Nat)(hi:i<8):(add8 h v).cells.take (i+1)=(add8 h v).cells.take i++[cW (h.get i+v.get i)]:=by
 have:i=0∨i=1∨i=2∨i=3∨i=4∨i=5∨i=6∨i=7:=by omega
 rcases this with rfl | rfl | rfl | rfl | rfl | rfl | rfl | rfl<;>rfl
theorem cells_len(v:W8):v.cells.length=8:=rfl
theorem zcx(v:W8):scR v.cells=true:=rfl
theorem row8(h:W8):List.take 8 h.cells=h.cells:=rfl
attribute [local simp] cW zdm cells_len row8 zxi zmy zAnd_w zsz zNot_w zN_w sumA sumB sumC zcx
theorem l3Block(h:W8)(b:List UInt8)(hb:b.length=64):XCall Try.prog 107 [.sl 1 h.cells,.s b,.sl 1 (shaK.map cW)] [] (.arr 16 0 8) [] [.own 1 (blk h b).cells]:=by
 refine zbs Try.func107 (by rfl) (by rfl) (by rw [Try.ntmps107];exact Nat.le_of_ble_eq_true rfl) rfl (by simp) rfl rfl ?_
 rw [Try.ntmps107]
 refine zf1   ?_
 refine AW_k [(0,_),(1,_),(2,_)] ⟨rfl,rfl,rfl,trivial⟩ ?_
 refine AW_x rfl rfl λK hK=>?_
 simp (disch:=omega)
 repeat' first|(refine ⟨by omega,?_⟩)|(intro _)
 refine hK _ ?_;clear hK K
 refine AW_x rfl rfl λK hK=>?_
 simp (disch:=omega)
 repeat' first|(refine ⟨by omega,?_⟩)|(intro _)
 refine hK _ ?_;clear hK K
 refine zbi ?_
 refine AW_x rfl rfl λK hK=>?_
 simp (disch:=omega)
 repeat' first|(refine ⟨by omega,?_⟩)|(intro _)
 refine hK _ ?_;clear hK K
 refine zbm ?_
 refine zbv (λmM sS=>∃(i:Nat),mM=16-i∧(i≤16)∧sS = { env:=lkE [(0,.sl 1 h.cells),(1,.s b),(2,.sl 1 (shaK.map cW)),(7,.arr 501 0 64),(8,(.g (.int .i64 ((i:Nat)))))],ob:=lk [(501,.win 1 (schR b i))] }) ?_ ?_
 ·refine ⟨_,LeS.kx [(501,336)] [(0,.sl 1 h.cells),(1,.s b),(2,.sl 1 (shaK.map cW)),(7,.arr 501 0 64),(8,(.g (.int .i64 (((0):Nat)))))] [(501,.win 1 (schR b (0)))] (by simp [zG1,KpR,renV2,renV,zbk,zdr,zdm];try rfl) (by simp [zG1,KpOX,renO,plO,cvO,renV,pl1,zdr,zdm];first|(simp [schR,sch];done) | exact la_step b hb i hi2 _ _ _ _ | trace_state) (by rfl) (by simp) (by simp) (by rfl) (by simp [formsX,List.range_succ,zbq,zby]),_,0,rfl,?_,rfl⟩
  ·simp
 ·rintro mM sS ⟨i,rfl,hi,rfl⟩
  refine zbi ?_
  refine AW_x rfl rfl λK hK=>?_
  simp (disch:=omega)
  repeat' first|(refine ⟨by omega,?_⟩)|(intro _)
  refine hK _ ?_;clear hK K
  refine zbh rfl (λhc1=>?_) (λhc1=>?_)
  ·try simp at hc1
   all_goals
    have hi2:i<16:=by omega
    refine zbj ?_
    refine zbn ?_
    refine zbi ?_
    refine zbm ?_
    refine zh2 rfl mix (by kernel_rfl) (by kernel_rfl) λK hK=>?_
    simp (disch:=omega)
    repeat' first|(exfalso;omega)|(refine ⟨λ_=>?_,λ_=>?_⟩)|(refine ⟨by omega,?_⟩)|(simp (disch:=omega))|(intro _)
    all_goals (refine hK _ _ (by kernel_rfl) ?_;clear hK K)
    all_goals
     refine zbn ?_
     refine zb3 rfl rfl λK hK=>?_
     simp (disch:=omega)
     repeat' first|(refine ⟨by omega,?_⟩)|(intro _)
     refine hK _ ?_;clear hK K
     refine ⟨_,LeS.kx [(501,501)] [(0,.sl 1 h.cells),(1,.s b),(2,.sl 1 (shaK.map cW)),(7,.arr 501 0 64),(8,(.g (.int .i64 (((i+1):Nat)))))] [(501,.win 1 (schR b (i+1)))] (by simp [zG1,KpR,renV2,renV,zbk,zdr,zdm];try rfl) (by simp [zG1,KpOX,renO,plO,cvO,renV,pl1,zdr,zdm];first|(simp [schR,sch];done) | exact la_step b hb i hi2 _ _ _ _ | trace_state) (by rfl) (by simp) (by simp) (by rfl) (by simp [formsX,List.range_succ,zbq,zby]),_,?_,i+1,rfl,?_,rfl⟩
     ·omega
     ·omega
  ·try simp at hc1
   all_goals
    have hil:i=16:=by omega
    subst hil
    refine zbx ?_
    refine zbn ?_
    refine zbi ?_
    refine AW_x rfl rfl λK hK=>?_
    simp (disch:=omega)
    repeat' first|(exfalso;omega)|(refine ⟨λ_=>?_,λ_=>?_⟩)|(refine ⟨by omega,?_⟩)|(simp (disch:=omega))|(intro _)
    all_goals (refine hK _ ?_;clear hK K)
    all_goals
     refine zbm ?_
     refine zbv (λmM sS=>∃(i:Nat),mM=64-i∧(16≤i∧i≤64)∧sS = { env:=lkE [(0,.sl 1 h.cells),(1,.s b),(2,.sl 1 (shaK.map cW)),(7,.arr 501 0 64),(9,(.g (.int .i64 ((i:Nat)))))],ob:=lk [(501,.win 1 (schR b i))] }) ?_ ?_
     ·refine ⟨_,LeS.kx [(501,501)] [(0,.sl 1 h.cells),(1,.s b),(2,.sl 1 (shaK.map cW)),(7,.arr 501 0 64),(9,(.g (.int .i64 (((16):Nat)))))] [(501,.win 1 (schR b (16)))] (by simp [zG1,KpR,renV2,renV,zbk,zdr,zdm];try rfl) (by simp [zG1,KpOX,renO,plO,cvO,renV,pl1,zdr,zdm];first|(simp;done) | exact lb_step b i hi1 hi2 | trace_state) (by rfl) (by simp) (by simp) (by rfl) (by simp [formsX,List.range_succ,zbq,zby]),_,16,rfl,?_,rfl⟩
      ·simp
     ·rintro mM sS ⟨i,rfl,⟨hi1,hi⟩,rfl⟩
      refine zbi ?_
      refine AW_x rfl rfl λK hK=>?_
      simp (disch:=omega)
      repeat' first|(refine ⟨by omega,?_⟩)|(intro _)
      refine hK _ ?_;clear hK K
      refine zbh rfl (λhc2=>?_) (λhc2=>?_)
      ·try simp at hc2
       all_goals
        have hi2:i<64:=by omega
        have g15:(schR b i)[((i:Int)-15).toNat]? = some (cW (wd b (i-15))):=by rw [show ((i:Int)-15).toNat=i-15 by omega];exact zjo b i _ (by omega) hi
        have g2:(schR b i)[((i:Int)-2).toNat]? = some (cW (wd b (i-2))):=by rw [show ((i:Int)-2).toNat=i-2 by omega];exact zjo b i _ (by omega) hi
        have g16:(schR b i)[((i:Int)-16).toNat]? = some (cW (wd b (i-16))):=by rw [show ((i:Int)-16).toNat=i-16 by omega];exact zjo b i _ (by omega) hi
        have g7:(schR b i)[((i:Int)-7).toNat]? = some (cW (wd b (i-7))):=by rw [show ((i:Int)-7).toNat=i-7 by omega];exact zjo b i _ (by omega) hi
        refine zbj ?_
        refine zbn ?_
        refine zbi ?_
        refine zbm ?_
        refine AW_d rfl mix (by kernel_rfl) (by kernel_rfl) λK hK=>?_
        simp (disch:=omega) [g15,g2,g16,g7]
        repeat' first|(exfalso;omega)|(refine zkd (λst'=>(zbe zcl (zbe zcl zbo))) (zg8 _ _ (by decide)) rfl ?_;simp (disch:=omega) [g15,g2,g16,g7])|(refine zke (zg8 _ _ (by decide)) (by rfl) (λst' hst=>?_) ?_;(focus (simp (disch:=omega) [g15,g2,g16,g7] at hst;simp (disch:=omega) [g15,g2,g16,g7,hst,zbl];done));simp (disch:=omega) [g15,g2,g16,g7])|(refine ⟨λ_=>?_,λ_=>?_⟩)|(refine ⟨by omega,?_⟩)|(simp (disch:=omega) [g15,g2,g16,g7])|(intro _)
        all_goals (refine hK _ _ (by kernel_rfl) ?_;clear hK K)
        all_goals
         refine AW_d rfl mix (by kernel_rfl) (by kernel_rfl) λK hK=>?_
         simp (disch:=omega) [g15,g2,g16,g7]
         repeat' first|(exfalso;omega)|(refine zkd (λst'=>(zbe zcl (zbe zcl zbo))) (zg8 _ _ (by decide)) rfl ?_;simp (disch:=omega) [g15,g2,g16,g7])|(refine zke (zg8 _ _ (by decide)) (by rfl) (λst' hst=>?_) ?_;(focus (simp (disch:=omega) [g15,g2,g16,g7] at hst;simp (disch:=omega) [g15,g2,g16,g7,hst,zbl];done));simp (disch:=omega) [g15,g2,g16,g7])|(refine ⟨by omega,?_⟩)|(simp (disch:=omega) [g15,g2,g16,g7])|(intro _)
         refine hK _ _ (by kernel_rfl) ?_;clear hK K
         refine zh2 rfl mix (by kernel_rfl) (by kernel_rfl) λK hK=>?_
         simp (disch:=omega) [g15,g2,g16,g7]
         repeat' first|(exfalso;omega)|(refine zkd (λst'=>(zbe zcl zbo)) (zjn _) rfl ?_;simp (disch:=omega) [g15,g2,g16,g7])|(refine zke (zjn _) (by rfl) (λst' hst=>?_) ?_;(focus (simp (disch:=omega) [g15,g2,g16,g7] at hst;simp (disch:=omega) [g15,g2,g16,g7,hst,zbl];done));simp (disch:=omega) [g15,g2,g16,g7])|(refine ⟨by omega,?_⟩)|(simp (disch:=omega) [g15,g2,g16,g7])|(intro _)
         refine hK _ _ (by kernel_rfl) ?_;clear hK K
         refine zbn ?_
         refine zb3 rfl rfl λK hK=>?_
         simp (disch:=omega) [g15,g2,g16,g7]
         repeat' first|(refine ⟨by omega,?_⟩)|(intro _)
         refine hK _ ?_;clear hK K
         refine ⟨_,LeS.kx [(501,501)] [(0,.sl 1 h.cells),(1,.s b),(2,.sl 1 (shaK.map cW)),(7,.arr 501 0 64),(9,(.g (.int .i64 (((i+1):Nat)))))] [(501,.win 1 (schR b (i+1)))] (by simp [zG1,KpR,renV2,renV,zbk,zdr,zdm];try rfl) (by simp [zG1,KpOX,renO,plO,cvO,renV,pl1,zdr,zdm];first|(simp;done) | exact lb_step b i hi1 hi2 | trace_state) (by rfl) (by simp) (by simp) (by rfl) (by simp [formsX,List.range_succ,zbq,zby]),_,?_,i+1,rfl,?_,rfl⟩
         ·omega
         ·omega
      ·try simp at hc2
       all_goals
        have hil:i=64:=by omega
        subst hil
        refine zbx ?_
        refine zbn ?_
        refine AW_x rfl rfl λK hK=>?_
        simp (disch:=omega)
        repeat' first|(exfalso;omega)|(refine ⟨λ_=>?_,λ_=>?_⟩)|(refine ⟨by omega,?_⟩)|(simp (disch:=omega))|(intro _)
        all_goals (refine hK _ ?_;clear hK K)
        all_goals
         refine zbi ?_
         refine AW_x rfl rfl λK hK=>?_
         simp (disch:=omega)
         repeat' first|(refine ⟨by omega,?_⟩)|(intro _)
         refine hK _ ?_;clear hK K
         refine zbm ?_
         refine zbv (λmM sS=>∃(i:Nat),mM=64-i∧(i≤64)∧sS = { env:=lkE [(0,.sl 1 h.cells),(2,.sl 1 (shaK.map cW)),(7,.arr 501 0 64),(12,.arr 502 0 8),(13,(.g (.int .i64 ((i:Nat)))))],ob:=lk [(501,.win 1 (schR b 64)),(502,.win 1 (runW b h i).cells)] }) ?_ ?_
         ·refine ⟨_,LeS.kx [(501,501),(502,1968)] [(0,.sl 1 h.cells),(2,.sl 1 (shaK.map cW)),(7,.arr 501 0 64),(12,.arr 502 0 8),(13,(.g (.int .i64 (((0):Nat)))))] [(501,.win 1 (schR b 64)),(502,.win 1 (runW b h (0)).cells)] (by simp [zG1,KpR,renV2,renV,zbk,zdr,zdm,zcx,cells_len];first|(simp;done)|(with_reducible rfl) | exact (show _=W8.cells _ from rfl) | trace_state) (by simp [zG1,KpOX,renO,plO,cvO,renV,pl1,zdr,zdm,zcx,cells_len];first|(rw [zs0,hv,zs3];done)|(rw [zs1];done) | trace_state) (by rfl) (by simp) (by simp) (by rfl) (by simp [formsX,List.range_succ,zbq,zby]),_,0,rfl,?_,rfl⟩
          ·simp
         ·rintro mM sS ⟨i,rfl,hi,rfl⟩
          refine zbi ?_
          refine AW_x rfl rfl λK hK=>?_
          simp (disch:=omega)
          repeat' first|(refine ⟨by omega,?_⟩)|(intro _)
          refine hK _ ?_;clear hK K
          refine zbh rfl (λhc3=>?_) (λhc3=>?_)
          ·try simp at hc3
           all_goals
            have hi2:i<64:=by omega
            have gw:(schR b 64)[i]? = some (cW (wd b i)):=zjo b 64 i hi2 (by omega)
            have gk:=kd_at i hi2
            obtain ⟨v,hv⟩:∃v,runW b h i=v:=⟨_,rfl⟩
            rw [hv]
            refine zbj ?_
            refine zbn ?_
            refine zbi ?_
            refine zbm ?_
            refine AW_x rfl rfl λK hK=>?_
            simp (disch:=omega) [gw,gk,W8.cells]
            repeat' first|(exfalso;omega)|(refine ⟨λ_=>?_,λ_=>?_⟩)|(refine ⟨by omega,?_⟩)|(simp (disch:=omega) [gw,gk,W8.cells])|(intro _)
            all_goals (refine hK _ ?_;clear hK K)
            all_goals
             refine AW_x rfl rfl λK hK=>?_
             simp (disch:=omega) [gw,gk,W8.cells]
             repeat' first|(refine ⟨by omega,?_⟩)|(intro _)
             refine hK _ ?_;clear hK K
             refine AW_d rfl mix (by kernel_rfl) (by kernel_rfl) λK hK=>?_
             simp (disch:=omega) [gw,gk,W8.cells]
             repeat' first|(exfalso;omega)|(refine zkd (λst'=>(zbe zcl (zbe zcl zbo))) (zg8 _ _ (by decide)) rfl ?_;simp (disch:=omega) [gw,gk,W8.cells])|(refine zke (zg8 _ _ (by decide)) (by rfl) (λst' hst=>?_) ?_;(focus (simp (disch:=omega) [gw,gk,W8.cells] at hst;simp (disch:=omega) [gw,gk,W8.cells,hst,zbl];done));simp (disch:=omega) [gw,gk,W8.cells])|(refine zkd (λst'=>(zbe zcl zbo)) (zjn _) rfl ?_;simp (disch:=omega) [gw,gk,W8.cells])|(refine zke (zjn _) (by rfl) (λst' hst=>?_) ?_;(focus (simp (disch:=omega) [gw,gk,W8.cells] at hst;simp (disch:=omega) [gw,gk,W8.cells,hst,zbl];done));simp (disch:=omega) [gw,gk,W8.cells])|(refine ⟨by omega,?_⟩)|(simp (disch:=omega) [gw,gk,W8.cells])|(intro _)
             refine hK _ _ (by kernel_rfl) ?_;clear hK K
             refine AW_d rfl mix (by kernel_rfl) (by kernel_rfl) λK hK=>?_
             simp (disch:=omega) [gw,gk,W8.cells]
             repeat' first|(exfalso;omega)|(refine zkd (λst'=>(zbe zcl (zbe zcl zbo))) (zg8 _ _ (by decide)) rfl ?_;simp (disch:=omega) [gw,gk,W8.cells])|(refine zke (zg8 _ _ (by decide)) (by rfl) (λst' hst=>?_) ?_;(focus (simp (disch:=omega) [gw,gk,W8.cells] at hst;simp (disch:=omega) [gw,gk,W8.cells,hst,zbl];done));simp (disch:=omega) [gw,gk,W8.cells])|(refine ⟨by omega,?_⟩)|(simp (disch:=omega) [gw,gk,W8.cells])|(intro _)
             refine hK _ _ (by kernel_rfl) ?_;clear hK K
             refine zh2 rfl mix (by kernel_rfl) (by kernel_rfl) λK hK=>?_
             simp (disch:=omega) [gw,gk,W8.cells]
             repeat' first|(exfalso;omega)|(refine zkd (λst'=>(zbe zcl zbo)) (zjn _) rfl ?_;simp (disch:=omega) [gw,gk,W8.cells])|(refine zke (zjn _) (by rfl) (λst' hst=>?_) ?_;(focus (simp (disch:=omega) [gw,gk,W8.cells] at hst;simp (disch:=omega) [gw,gk,W8.cells,hst,zbl];done));simp (disch:=omega) [gw,gk,W8.cells])|(refine ⟨by omega,?_⟩)|(simp (disch:=omega) [gw,gk,W8.cells])|(intro _)
             refine hK _ _ (by kernel_rfl) ?_;clear hK K
             refine zbn ?_
             refine zb3 rfl rfl λK hK=>?_
             simp (disch:=omega) [gw,gk,W8.cells]
             repeat' first|(refine ⟨by omega,?_⟩)|(intro _)
             refine hK _ ?_;clear hK K
             refine ⟨_,LeS.kx [(501,501),(502,3616)] [(0,.sl 1 h.cells),(2,.sl 1 (shaK.map cW)),(7,.arr 501 0 64),(12,.arr 502 0 8),(13,(.g (.int .i64 (((i+1):Nat)))))] [(501,.win 1 (schR b 64)),(502,.win 1 (runW b h (i+1)).cells)] (by simp [zG1,KpR,renV2,renV,zbk,zdr,zdm,zcx,cells_len];first|(simp;done)|(with_reducible rfl) | exact (show _=W8.cells _ from rfl) | trace_state) (by simp [zG1,KpOX,renO,plO,cvO,renV,pl1,zdr,zdm,zcx,cells_len];first|(rw [zs0,hv,zs3];done)|(rw [zs1];done) | trace_state) (by rfl) (by simp) (by simp) (by rfl) (by simp [formsX,List.range_succ,zbq,zby]),_,?_,i+1,rfl,?_,rfl⟩
             ·omega
             ·omega
          ·try simp at hc3
           all_goals
            have hil:i=64:=by omega
            subst hil
            obtain ⟨v,hv⟩:∃v,runW b h 64=v:=⟨_,rfl⟩
            rw [hv]
            refine zbx ?_
            refine zbn ?_
            refine AW_x rfl rfl λK hK=>?_
            simp (disch:=omega)
            repeat' first|(exfalso;omega)|(refine ⟨λ_=>?_,λ_=>?_⟩)|(refine ⟨by omega,?_⟩)|(simp (disch:=omega))|(intro _)
            all_goals (refine hK _ ?_;clear hK K)
            all_goals
             refine zbi ?_
             refine AW_x rfl rfl λK hK=>?_
             simp (disch:=omega)
             repeat' first|(refine ⟨by omega,?_⟩)|(intro _)
             refine hK _ ?_;clear hK K
             refine zbm ?_
             refine zbv (λmM sS=>∃(i:Nat),mM=8-i∧(i≤8)∧sS = { env:=lkE [(0,.sl 1 h.cells),(12,.arr 502 0 8),(18,.arr 503 0 i),(19,(.g (.int .i64 ((i:Nat)))))],ob:=lk [(502,.win 1 v.cells),(503,.win 1 ((add8 h v).cells.take i))] }) ?_ ?_
             ·refine ⟨_,LeS.kx [(502,502),(503,3632)] [(0,.sl 1 h.cells),(12,.arr 502 0 8),(18,.arr 503 0 (0)),(19,(.g (.int .i64 (((0):Nat)))))] [(502,.win 1 v.cells),(503,.win 1 ((add8 h v).cells.take (0)))] (by simp [zG1,KpR,renV2,renV,zbk,zcx,cells_len,zxk];first|(simp;done) | omega | trace_state) (by simp [zG1,KpOX,renO,plO,cvO,renV,pl1,zcx,cells_len,zxk];first | rfl|(rw [zs4 _ _ _ hi2,List.take_of_length_le (by simp [htl])];rfl) | trace_state) (by rfl) (by simp) (by simp) (by rfl) (by simp [formsX,List.range_succ,zbq,zby]),_,0,rfl,?_,rfl⟩
              ·simp
             ·rintro mM sS ⟨i,rfl,hi,rfl⟩
              have htl:=tk_len (add8 h v) i hi
              refine zbi ?_
              refine AW_x rfl rfl λK hK=>?_
              simp (disch:=omega) [htl]
              repeat' first|(refine ⟨by omega,?_⟩)|(intro _)
              refine hK _ ?_;clear hK K
              refine zbh rfl (λhc4=>?_) (λhc4=>?_)
              ·try simp at hc4
               all_goals
                have hi2:i<8:=by omega
                have gh:=zm0 h i hi2
                have gv:=zm0 v i hi2
                refine zbj ?_
                refine zbn ?_
                refine zbi ?_
                refine zbm ?_
                refine zh2 rfl mix (by kernel_rfl) (by kernel_rfl) λK hK=>?_
                simp (disch:=omega) [htl,gh,gv]
                repeat' first|(exfalso;omega)|(refine zkd (λst'=>(zbe zcl zbo)) (zjn _) rfl ?_;simp (disch:=omega) [htl,gh,gv])|(refine zke (zjn _) (by rfl) (λst' hst=>?_) ?_;(focus (simp (disch:=omega) [htl,gh,gv] at hst;simp (disch:=omega) [htl,gh,gv,hst,zbl];done));simp (disch:=omega) [htl,gh,gv])|(refine ⟨λ_=>?_,λ_=>?_⟩)|(refine ⟨by omega,?_⟩)|(simp (disch:=omega) [htl,gh,gv])|(intro _)
                all_goals (refine hK _ _ (by kernel_rfl) ?_;clear hK K)
                all_goals
                 refine zbn ?_
                 refine zb3 rfl rfl λK hK=>?_
                 simp (disch:=omega) [htl,gh,gv]
                 repeat' first|(refine ⟨by omega,?_⟩)|(intro _)
                 refine hK _ ?_;clear hK K
                 refine ⟨_,LeS.kx [(502,502),(503,3904)] [(0,.sl 1 h.cells),(12,.arr 502 0 8),(18,.arr 503 0 (i+1)),(19,(.g (.int .i64 (((i+1):Nat)))))] [(502,.win 1 v.cells),(503,.win 1 ((add8 h v).cells.take (i+1)))] (by simp [zG1,KpR,renV2,renV,zbk,zcx,cells_len,zxk];first|(simp;done) | omega | trace_state) (by simp [zG1,KpOX,renO,plO,cvO,renV,pl1,zcx,cells_len,zxk];first | rfl|(rw [zs4 _ _ _ hi2,List.take_of_length_le (by simp [htl])];rfl) | trace_state) (by rfl) (by simp) (by simp) (by rfl) (by simp [formsX,List.range_succ,zbq,zby]),_,?_,i+1,rfl,?_,rfl⟩
                 ·omega
                 ·omega
              ·try simp at hc4
               all_goals
                have hil:i=8:=by omega
                subst hil
                refine zbx ?_
                refine zbn ?_
                refine AW_x rfl rfl λK hK=>?_
                simp (disch:=omega) [htl]
                repeat' first|(exfalso;omega)|(refine ⟨λ_=>?_,λ_=>?_⟩)|(refine ⟨by omega,?_⟩)|(simp (disch:=omega) [htl])|(intro _)
                all_goals (refine hK _ ?_;clear hK K)
                all_goals
                 refine zbp (zb0 [503] [] (by simp [zG1,List.range_succ]) (by simp) ?_)
                 simp (disch:=omega) [htl]
                 all_goals first|(unfold blk;rw [hv];done) | trace_state
end Go.Proofs.Ytodmafgmdlkhoaa.Vs
end
