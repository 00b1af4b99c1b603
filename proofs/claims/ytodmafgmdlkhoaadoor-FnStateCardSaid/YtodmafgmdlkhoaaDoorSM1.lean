import Derived.Test.YtodmafgmdlkhoaaDoorVs9
import Derived.Test.YtodmafgmdlkhoaaDoorProg
section
namespace Go.Proofs.YtodmafgmdlkhoaaDoor.Vs
set_option linter.all false
theorem mix:Tryd.prog.follows .mixedOrders=true:=by kernel_rfl
theorem t2:ti Tryd.prog 2=some { agg:=false,size:=1,bytes:=8,zero:=[AV.g (Value.int IntKind.i64 0)],kind:=TK.int IntKind.i64 }:=by kernel_rfl
theorem t3:ti Tryd.prog 3=some { agg:=false,size:=1,bytes:=8,zero:=[AV.g (Value.int IntKind.i64 0)],kind:=TK.int IntKind.i64 }:=by kernel_rfl
theorem t4:ti Tryd.prog 4=some { agg:=false,size:=1,bytes:=1,zero:=[AV.g (Value.bool false)],kind:=TK.bool }:=by kernel_rfl
theorem t5:ti Tryd.prog 5=some { agg:=false,size:=1,bytes:=1,zero:=[AV.g (Value.int IntKind.u8 0)],kind:=TK.int IntKind.u8 }:=by kernel_rfl
theorem t6:ti Tryd.prog 6=some { agg:=false,size:=1,bytes:=1,zero:=[AV.g (Value.int IntKind.u8 0)],kind:=TK.int IntKind.u8 }:=by kernel_rfl
theorem t7:ti Tryd.prog 7=some { agg:=true,size:=4,bytes:=24,zero:=[AV.g (Value.int IntKind.i64 0),AV.g (Value.int IntKind.i64 0),AV.g (Value.bool false),AV.g (Value.int IntKind.u8 0)],kind:=TK.struct [(0,2),(1,3),(2,4),(3,6)] }:=by kernel_rfl
theorem t8:ti Tryd.prog 8=some { agg:=true,size:=4,bytes:=24,zero:=[AV.g (Value.int IntKind.i64 0),AV.g (Value.int IntKind.i64 0),AV.g (Value.bool false),AV.g (Value.int IntKind.u8 0)],kind:=TK.struct [(0,2),(1,3),(2,4),(3,6)] }:=by kernel_rfl
theorem t9:ti Tryd.prog 9=some { agg:=false,size:=1,bytes:=16,zero:=[AV.s []],kind:=TK.str }:=by kernel_rfl
theorem t10:ti Tryd.prog 10=some { agg:=false,size:=1,bytes:=16,zero:=[AV.s []],kind:=TK.str }:=by kernel_rfl
theorem t11:ti Tryd.prog 11=some { agg:=false,size:=1,bytes:=16,zero:=[AV.s []],kind:=TK.str }:=by kernel_rfl
theorem t12:ti Tryd.prog 12=some { agg:=false,size:=1,bytes:=8,zero:=[AV.g (Value.int IntKind.u64 0)],kind:=TK.int IntKind.u64 }:=by kernel_rfl
theorem t13:ti Tryd.prog 13=some { agg:=true,size:=2,bytes:=24,zero:=[AV.s [],AV.g (Value.int IntKind.u64 0)],kind:=TK.struct [(0,9),(1,12)] }:=by kernel_rfl
theorem t14:ti Tryd.prog 14=some { agg:=true,size:=2,bytes:=24,zero:=[AV.s [],AV.g (Value.int IntKind.u64 0)],kind:=TK.struct [(0,9),(1,12)] }:=by kernel_rfl
theorem t15:ti Tryd.prog 15=some { agg:=false,size:=1,bytes:=8,zero:=[AV.g (Value.pointer none)],kind:=TK.ptr 125 }:=by kernel_rfl
theorem t16:ti Tryd.prog 16=some { agg:=false,size:=1,bytes:=8,zero:=[AV.g (Value.pointer none)],kind:=TK.ptr 128 }:=by kernel_rfl
theorem t17:ti Tryd.prog 17=some { agg:=false,size:=1,bytes:=8,zero:=[AV.g (Value.pointer none)],kind:=TK.ptr 136 }:=by kernel_rfl
theorem t18:ti Tryd.prog 18=some { agg:=true,size:=1,bytes:=8,zero:=[AV.g (Value.pointer none)],kind:=TK.struct [(0,17)] }:=by kernel_rfl
theorem t19:ti Tryd.prog 19=some { agg:=true,size:=1,bytes:=8,zero:=[AV.g (Value.pointer none)],kind:=TK.struct [(0,17)] }:=by kernel_rfl
theorem t21:ti Tryd.prog 21=some { agg:=false,size:=1,bytes:=4,zero:=[AV.g (Value.int IntKind.i32 0)],kind:=TK.int IntKind.i32 }:=by kernel_rfl
theorem t22:ti Tryd.prog 22=some { agg:=false,size:=1,bytes:=24,zero:=[AV.g (Value.slice none 0 0)],kind:=TK.slice 5 }:=by kernel_rfl
theorem t24:ti Tryd.prog 24=some { agg:=false,size:=1,bytes:=24,zero:=[AV.g (Value.slice none 0 0)],kind:=TK.slice 43 }:=by kernel_rfl
theorem t25:ti Tryd.prog 25=some { agg:=true,size:=1,bytes:=24,zero:=[AV.g (Value.slice none 0 0)],kind:=TK.struct [(0,24)] }:=by kernel_rfl
theorem t26:ti Tryd.prog 26=some { agg:=true,size:=1,bytes:=24,zero:=[AV.g (Value.slice none 0 0)],kind:=TK.struct [(0,24)] }:=by kernel_rfl
theorem t27:ti Tryd.prog 27=some { agg:=false,size:=1,bytes:=24,zero:=[AV.g (Value.slice none 0 0)],kind:=TK.slice 48 }:=by kernel_rfl
theorem t28:ti Tryd.prog 28=some { agg:=true,size:=2,bytes:=48,zero:=[AV.g (Value.slice none 0 0),AV.g (Value.slice none 0 0)],kind:=TK.struct [(0,26),(1,27)] }:=by kernel_rfl
theorem t29:ti Tryd.prog 29=some { agg:=true,size:=2,bytes:=48,zero:=[AV.g (Value.slice none 0 0),AV.g (Value.slice none 0 0)],kind:=TK.struct [(0,26),(1,27)] }:=by kernel_rfl
theorem t37:ti Tryd.prog 37=some { agg:=false,size:=1,bytes:=8,zero:=[AV.g (Value.pointer none)],kind:=TK.ptr 69 }:=by kernel_rfl
theorem t41:ti Tryd.prog 41=some { agg:=false,size:=1,bytes:=24,zero:=[AV.g (Value.slice none 0 0)],kind:=TK.slice 46 }:=by kernel_rfl
theorem t42:ti Tryd.prog 42=some { agg:=true,size:=2,bytes:=40,zero:=[AV.s [],AV.g (Value.slice none 0 0)],kind:=TK.struct [(0,9),(1,41)] }:=by kernel_rfl
theorem t43:ti Tryd.prog 43=some { agg:=true,size:=2,bytes:=40,zero:=[AV.s [],AV.g (Value.slice none 0 0)],kind:=TK.struct [(0,9),(1,41)] }:=by kernel_rfl
theorem t44:ti Tryd.prog 44=some { agg:=false,size:=1,bytes:=24,zero:=[AV.g (Value.slice none 0 0)],kind:=TK.slice 9 }:=by kernel_rfl
theorem t45:ti Tryd.prog 45=some { agg:=true,size:=3,bytes:=56,zero:=[AV.s [],AV.s [],AV.g (Value.slice none 0 0)],kind:=TK.struct [(0,9),(1,9),(2,44)] }:=by kernel_rfl
theorem t46:ti Tryd.prog 46=some { agg:=true,size:=3,bytes:=56,zero:=[AV.s [],AV.s [],AV.g (Value.slice none 0 0)],kind:=TK.struct [(0,9),(1,9),(2,44)] }:=by kernel_rfl
theorem t47:ti Tryd.prog 47=some { agg:=true,size:=3,bytes:=32,zero:=[AV.g (Value.int IntKind.i64 0),AV.g (Value.int IntKind.i64 0),AV.s []],kind:=TK.struct [(0,3),(1,3),(2,9)] }:=by kernel_rfl
theorem t48:ti Tryd.prog 48=some { agg:=true,size:=3,bytes:=32,zero:=[AV.g (Value.int IntKind.i64 0),AV.g (Value.int IntKind.i64 0),AV.s []],kind:=TK.struct [(0,3),(1,3),(2,9)] }:=by kernel_rfl
theorem t49:ti Tryd.prog 49=some { agg:=false,size:=1,bytes:=8,zero:=[AV.g (Value.pointer none)],kind:=TK.ptr 51 }:=by kernel_rfl
theorem t50:ti Tryd.prog 50=some { agg:=true,size:=2,bytes:=24,zero:=[AV.s [],AV.g (Value.bool false)],kind:=TK.struct [(0,9),(1,4)] }:=by kernel_rfl
theorem t51:ti Tryd.prog 51=some { agg:=true,size:=2,bytes:=24,zero:=[AV.s [],AV.g (Value.bool false)],kind:=TK.struct [(0,9),(1,4)] }:=by kernel_rfl
theorem t58:ti Tryd.prog 58=some { agg:=false,size:=1,bytes:=24,zero:=[AV.g (Value.slice none 0 0)],kind:=TK.slice 3 }:=by kernel_rfl
theorem t68:ti Tryd.prog 68=some { agg:=true,size:=3,bytes:=40,zero:=[AV.g (Value.slice none 0 0),AV.g (Value.int IntKind.i64 0),AV.g (Value.int IntKind.i64 0)],kind:=TK.struct [(0,22),(1,3),(2,3)] }:=by kernel_rfl
theorem t69:ti Tryd.prog 69=some { agg:=true,size:=3,bytes:=40,zero:=[AV.g (Value.slice none 0 0),AV.g (Value.int IntKind.i64 0),AV.g (Value.int IntKind.i64 0)],kind:=TK.struct [(0,22),(1,3),(2,3)] }:=by kernel_rfl
theorem t72:ti Tryd.prog 72=some { agg:=false,size:=1,bytes:=24,zero:=[AV.g (Value.slice none 0 0)],kind:=TK.slice 94 }:=by kernel_rfl
theorem t76:ti Tryd.prog 76=some { agg:=false,size:=1,bytes:=8,zero:=[AV.g (Value.int IntKind.u64 0)],kind:=TK.int IntKind.u64 }:=by kernel_rfl
theorem t93:ti Tryd.prog 93=some { agg:=true,size:=8,bytes:=104,zero:=[AV.g (Value.int IntKind.i64 0),AV.g (Value.int IntKind.i64 0),AV.g (Value.int IntKind.i64 0),AV.s [],AV.s [],AV.s [],AV.g (Value.int IntKind.i64 0),AV.g (Value.slice none 0 0)],kind:=TK.struct [(0,3),(1,3),(2,3),(3,9),(4,9),(5,9),(6,3),(7,44)] }:=by kernel_rfl
theorem t94:ti Tryd.prog 94=some { agg:=true,size:=8,bytes:=104,zero:=[AV.g (Value.int IntKind.i64 0),AV.g (Value.int IntKind.i64 0),AV.g (Value.int IntKind.i64 0),AV.s [],AV.s [],AV.s [],AV.g (Value.int IntKind.i64 0),AV.g (Value.slice none 0 0)],kind:=TK.struct [(0,3),(1,3),(2,3),(3,9),(4,9),(5,9),(6,3),(7,44)] }:=by kernel_rfl
theorem t97:ti Tryd.prog 97=some { agg:=false,size:=1,bytes:=4,zero:=[AV.g (Value.int IntKind.u32 0)],kind:=TK.int IntKind.u32 }:=by kernel_rfl
theorem t98:ti Tryd.prog 98=some { agg:=true,size:=8,bytes:=32,zero:=[AV.g (Value.int IntKind.u32 0),AV.g (Value.int IntKind.u32 0),AV.g (Value.int IntKind.u32 0),AV.g (Value.int IntKind.u32 0),AV.g (Value.int IntKind.u32 0),AV.g (Value.int IntKind.u32 0),AV.g (Value.int IntKind.u32 0),AV.g (Value.int IntKind.u32 0)],kind:=TK.array 8 97 }:=by kernel_rfl
theorem t110:ti Tryd.prog 110=some { agg:=true,size:=64,bytes:=256,zero:=List.replicate 64 (AV.g (Value.int IntKind.u32 0)),kind:=TK.array 64 97 }:=by kernel_rfl
theorem t124:ti Tryd.prog 124=some { agg:=true,size:=4,bytes:=40,zero:=[AV.g (Value.pointer none),AV.g (Value.pointer none),AV.g (Value.pointer none),AV.s []],kind:=TK.struct [(0,17),(1,17),(2,17),(3,9)] }:=by kernel_rfl
theorem t125:ti Tryd.prog 125=some { agg:=true,size:=4,bytes:=40,zero:=[AV.g (Value.pointer none),AV.g (Value.pointer none),AV.g (Value.pointer none),AV.s []],kind:=TK.struct [(0,17),(1,17),(2,17),(3,9)] }:=by kernel_rfl
theorem t126:ti Tryd.prog 126=some { agg:=true,size:=0,bytes:=0,zero:=[],kind:=TK.array 0 16 }:=by kernel_rfl
theorem t127:ti Tryd.prog 127=some { agg:=true,size:=0,bytes:=0,zero:=[],kind:=TK.struct [(0,126)] }:=by kernel_rfl
theorem t128:ti Tryd.prog 128=some { agg:=true,size:=0,bytes:=0,zero:=[],kind:=TK.struct [(0,126)] }:=by kernel_rfl
theorem t129:ti Tryd.prog 129=some { agg:=false,size:=1,bytes:=1,zero:=[AV.g (Value.int IntKind.u8 0)],kind:=TK.int IntKind.u8 }:=by kernel_rfl
theorem t130:ti Tryd.prog 130=some { agg:=false,size:=1,bytes:=1,zero:=[AV.g (Value.int IntKind.u8 0)],kind:=TK.int IntKind.u8 }:=by kernel_rfl
theorem t132:ti Tryd.prog 132=some { agg:=false,size:=1,bytes:=8,zero:=[AV.g (Value.pointer none)],kind:=TK.ptr 5 }:=by kernel_rfl
theorem t133:ti Tryd.prog 133=some { agg:=false,size:=1,bytes:=4,zero:=[AV.g (Value.int IntKind.i32 0)],kind:=TK.int IntKind.i32 }:=by kernel_rfl
theorem t134:ti Tryd.prog 134=some { agg:=false,size:=1,bytes:=4,zero:=[AV.g (Value.int IntKind.i32 0)],kind:=TK.int IntKind.i32 }:=by kernel_rfl
theorem t135:ti Tryd.prog 135=some { agg:=true,size:=11,bytes:=48,zero:=[AV.g (Value.int IntKind.u64 0),AV.g (Value.int IntKind.u64 0),AV.g (Value.int IntKind.u32 0),AV.g (Value.int IntKind.u8 0),AV.g (Value.int IntKind.u8 0),AV.g (Value.int IntKind.u8 0),AV.g (Value.int IntKind.u8 0),AV.g Value.nilFunc,AV.g (Value.pointer none),AV.g (Value.int IntKind.i32 0),AV.g (Value.int IntKind.i32 0)],kind:=TK.struct [(0,12),(1,12),(2,97),(3,129),(4,5),(5,5),(6,130),(7,131),(8,132),(9,133),(10,134)] }:=by kernel_rfl
theorem t136:ti Tryd.prog 136=some { agg:=true,size:=11,bytes:=48,zero:=[AV.g (Value.int IntKind.u64 0),AV.g (Value.int IntKind.u64 0),AV.g (Value.int IntKind.u32 0),AV.g (Value.int IntKind.u8 0),AV.g (Value.int IntKind.u8 0),AV.g (Value.int IntKind.u8 0),AV.g (Value.int IntKind.u8 0),AV.g Value.nilFunc,AV.g (Value.pointer none),AV.g (Value.int IntKind.i32 0),AV.g (Value.int IntKind.i32 0)],kind:=TK.struct [(0,12),(1,12),(2,97),(3,129),(4,5),(5,5),(6,130),(7,131),(8,132),(9,133),(10,134)] }:=by kernel_rfl
theorem u_bool:Tryd.prog.underlying 4=some .bool:=by kernel_rfl
attribute [simp ↓] spl_tt spl_tf spl_ft spl_ff
attribute [simp] creg_nil zt7 zt8 cO cR cG_bool cG_undef spl_ct spl_cf putC nmC aop ev cv updL zce upd_upd zbj zbz zbr aLen aBuiltin aBin aIntBin aFieldAddr placeOf aLoad cellsAt aUn aIndexAddr st0 valCells isOne Value.oneCell' aStore setCells List.getElem?_cons_zero List.getElem?_cons_succ Option.getD_some zb5 formOb_r1 aBuild parts fillA placesOf aField aIndex aSlice optIdx aStrBin aMakeSlice viewCells viewCell arrN frzU capOk aConv aNews aAppend aBuildSlice chunks endR_some am0_gg am0_ss am0_ll am1_gg am1_ss am1_ll am1_nl am1_al am2_gg am2_ss am2_ll am2_nl am2_al am2_ff am1s_nn am1s_cc am2s_nn am2s_cc amRs_one amRs_two' amRs_thr zzi zzj zt9 KpE KpO KpR KpOR t2 t3 t4 t5 t6 t7 t8 t9 t10 t11 t12 t13 t14 t15 t16 t17 t18 t19 t21 t22 t24 t25 t26 t27 t28 t29 t37 t41 t42 t43 t44 t45 t46 t47 t48 t49 t50 t51 t58 t68 t69 t72 t76 t93 t94 t97 t98 t110 t124 t125 t126 t127 t128 t129 t130 t132 t133 t134 t135 t136 u_bool
attribute [simp] zcj gE tP
end Go.Proofs.YtodmafgmdlkhoaaDoor.Vs
end
section
namespace Go.Proofs.YtodmafgmdlkhoaaDoor.Vs
set_option linter.all false
set_option maxRecDepth 100000
/-- Marks. -/
def mkL{α:Type}(f:Int→α)(k:Int)(n:Nat):List α:=(List.range n).map λj=>f (k+(j:Nat))
def mkR{α:Type}(f:Int→α)(k:Int)(l:List α)(i:Nat):List α:=mkL f k i++l.drop i
def mB(k:Int):Bool:=k.tmod 3==0
/-- Decimal digits. -/
def dg(n:Nat)(out:List UInt8):List UInt8:=if n=0 then out else dg (n / 10) (strN [IntKind.u8.wrap (48+(n:Int) % 10)]++out)
termination_by n
decreasing_by omega
def mT(k:Int):List UInt8:=if k≤0 then [109,48] else 109 :: dg k.toNat []
/-- A copy under way. -/
def cpR{α:Type}(z:α)(l:List α)(i:Nat):List α:=l.take i++List.replicate (l.length-i) z
/-- Marks of a row of structs. -/
def mkS{α:Type}(mk:Int→α→α)(cnt:α→Int):Int→List α→List α
 | _,[]=>[]
 | k,u :: us=>mk k u :: mkS mk cnt (k+cnt u) us
def cntS{α:Type}(cnt:α→Int)(us:List α):Int:=us.foldr (λu n=>cnt u+n) 0
def mkSR{α:Type}(mk:Int→α→α)(cnt:α→Int)(k:Int)(us:List α)(i:Nat):List α:=mkS mk cnt k (us.take i)++us.drop i
/-- A copy of structs under way. -/
def cpS{α:Type}(z:List AV)(f:α→List AV)(us:List α)(i:Nat):List (List AV):=(us.take i).map f++List.replicate (us.length-i) z
end Go.Proofs.YtodmafgmdlkhoaaDoor.Vs
end
section
namespace Go.Proofs.YtodmafgmdlkhoaaDoor.Vs
set_option linter.all false
end Go.Proofs.YtodmafgmdlkhoaaDoor.Vs
end
section
namespace Go.Proofs.YtodmafgmdlkhoaaDoor.Vs
set_option linter.all false
set_option maxRecDepth 100000
theorem len_szS{α:Type}{f:α→Int}(hf:∀x,0≤f x)(l:List α):(l.length:Int)≤szS f l:=by have:=zb9 hf l;unfold szS;omega
end Go.Proofs.YtodmafgmdlkhoaaDoor.Vs
end
section
namespace Go.Proofs.YtodmafgmdlkhoaaDoor.Vs
set_option linter.all false
set_option maxRecDepth 100000
theorem l1In(a b c:Int):PCall Tryd.prog 33 [(.g (.int .i64 (a))),(.g (.int .i64 (b))),(.g (.int .i64 (c)))] (.g (.bool (decide (b≤a)&&decide (a≤c)))):=by
 refine zbp Tryd.func33 (by rfl) (by rfl) (by rw [Tryd.ntmps33];exact Nat.le_of_ble_eq_true rfl) rfl (by decide) ?_
 rw [Tryd.ntmps33]
 refine AW_k [(0,_),(1,_),(2,_)] ⟨rfl,rfl,rfl,trivial⟩ ?_
 refine AW_r rfl rfl λK hK=>?_
 simp (disch:=omega)
 refine hK _ ?_;clear hK K
 refine AW_r rfl rfl λK hK=>?_
 simp (disch:=omega)
 repeat' first|(refine ⟨λ_=>?_,λ_=>?_⟩) | fail
 all_goals (refine hK _ ?_;clear hK K)
 all_goals
  refine zbo (zcc ?_)
  simp (disch:=omega)
  all_goals omega
theorem zn4(a b c:Int):PCall Tryd.prog 40 [(.g (.int .i64 (a))),(.g (.int .i64 (b))),(.g (.int .i64 (c)))] (.g (.bool (decide (b≤a)&&decide (a≤c)))):=by
 refine zbp Tryd.func40 (by rfl) (by rfl) (by rw [Tryd.ntmps40];exact Nat.le_of_ble_eq_true rfl) rfl (by decide) ?_
 rw [Tryd.ntmps40]
 refine AW_k [(0,_),(1,_),(2,_)] ⟨rfl,rfl,rfl,trivial⟩ ?_
 refine AW_r rfl rfl λK hK=>?_
 simp (disch:=omega)
 refine hK _ ?_;clear hK K
 refine AW_r rfl rfl λK hK=>?_
 simp (disch:=omega)
 repeat' first|(refine ⟨λ_=>?_,λ_=>?_⟩) | fail
 all_goals (refine hK _ ?_;clear hK K)
 all_goals
  refine zbo (zcc ?_)
  simp (disch:=omega)
  all_goals omega
def LoB(b:UInt8):Prop:=97≤b.toNat∧b.toNat≤122
def Word(s:List UInt8):Prop:=1≤s.length∧s.length≤8∧∀(j:Nat) b,s[j]? = some b→LoB b
def zG0:=And.intro @zce (And.intro @zbj @zbr)
theorem l4Word(s:List UInt8):PCall Tryd.prog 50 [.s s] (.g (.bool (decB (Word s)))):=by
 refine zbp Tryd.func50 (by rfl) (by rfl) (by rw [Tryd.ntmps50];exact Nat.le_of_ble_eq_true rfl) rfl (by decide) ?_
 rw [Tryd.ntmps50]
 refine AW_k [(0,_)] ⟨rfl,trivial⟩ ?_
 refine AW_r rfl rfl λK hK=>?_
 simp (disch:=omega)
 refine hK _ ?_;clear hK K
 refine zbe ?_
 refine AW_r rfl rfl λK hK=>?_
 simp (disch:=omega)
 repeat' first|(refine zci (zbf zcb (zbf zcb (zbf zcb zbn))) (l1In _ _ _) rfl ?_;simp (disch:=omega)) | fail
 refine hK _ ?_;clear hK K
 refine zbg rfl (λhc1=>?_) (λhc1=>?_)
 ·try simp at hc1
  refine AW_r rfl rfl λK hK=>?_
  simp (disch:=omega)
  refine hK _ ?_;clear hK K
  refine zbo (zcc ?_)
  simp (disch:=omega)
  (refine zgb λh=>?_;grind [Word,LoB])
 ·try simp at hc1
  refine zbh ?_
  refine zbm ?_
  refine zbe ?_
  refine AW_r rfl rfl λK hK=>?_
  simp (disch:=omega)
  refine hK _ ?_;clear hK K
  refine zbi ?_
  refine zbt (λmM sS=>∃(i:Nat),mM=s.length-i∧(i≤s.length∧∀j b,j<i→s[j]? = some b→LoB b)∧sS = { env:=lkE [(0,.s s),(3,(.g (.int .i64 ((i:Nat)))))],ob:=formOb [] [] }) ?_ ?_
  ·refine ⟨_,LeS.kp [(0,.s s),(3,(.g (.int .i64 (((0):Nat)))))] (by simp [zG0,KpE]),_,0,rfl,?_,rfl⟩
   ·simp
  ·rintro mM sS ⟨i,rfl,⟨hi,hpre⟩,rfl⟩
   refine zbe ?_
   refine AW_r rfl rfl λK hK=>?_
   simp (disch:=omega)
   refine hK _ ?_;clear hK K
   refine zbg rfl (λhc2=>?_) (λhc2=>?_)
   ·try simp at hc2
    have hg:s[i]? = some s[i]:=List.getElem?_eq_getElem (by omega)
    refine zbh ?_
    refine zbm ?_
    refine zbe ?_
    refine zbi ?_
    refine AW_r rfl rfl λK hK=>?_
    simp (disch:=omega)
    repeat' first|(refine ⟨λ_=>?_,λ_=>?_⟩)|(refine ⟨by omega,?_⟩) | fail
    all_goals (refine hK _ ?_;clear hK K)
    all_goals
     refine zbg rfl (λhc3=>?_) (λhc3=>?_)
     ·try simp at hc3
      all_goals
       refine AW_r rfl rfl λK hK=>?_
       simp (disch:=omega)
       all_goals (refine hK _ ?_;clear hK K)
       all_goals
        refine zbo (zcc ?_)
        simp (disch:=omega)
        all_goals (refine zgb λh=>?_;grind [Word,LoB])
     ·try simp at hc3
      all_goals
       refine zbh ?_
       refine zbm ?_
       refine zc6 rfl rfl λK hK=>?_
       simp (disch:=omega)
       refine hK _ ?_;clear hK K
       refine ⟨_,LeS.kp [(0,.s s),(3,(.g (.int .i64 (((i+1):Nat)))))] (by simp [zG0,KpE]),_,?_,i+1,rfl,?_,rfl⟩
       ·omega
       ·refine ⟨by omega,?_⟩;grind [LoB]
   ·try simp at hc2
    refine zbw ?_
    refine zbm ?_
    refine AW_r rfl rfl λK hK=>?_
    simp (disch:=omega)
    refine hK _ ?_;clear hK K
    refine zbo (zcc ?_)
    simp (disch:=omega)
    (refine zcl ?_;grind [Word,LoB])
theorem isWord(s:List UInt8)(hs:s.length≤1048576):PCall Tryd.prog 70 [.s s] (.g (.bool (decB (Word s)))):=by
 refine zbp Tryd.func70 (by rfl) (by rfl) (by rw [Tryd.ntmps70];exact Nat.le_of_ble_eq_true rfl) rfl (by decide) ?_
 rw [Tryd.ntmps70]
 refine AW_k [(0,_)] ⟨rfl,trivial⟩ ?_
 refine AW_r rfl rfl λK hK=>?_
 simp (disch:=omega)
 refine hK _ ?_;clear hK K
 refine zbe ?_
 refine AW_r rfl rfl λK hK=>?_
 simp (disch:=omega)
 refine hK _ ?_;clear hK K
 refine zbi ?_
 refine zbt (λmM sS=>∃(i:Nat),mM=s.length-i∧(i≤s.length∧∀j b,j<i→s[j]? = some b→LoB b)∧sS = { env:=lkE [(0,.s s),(3,(.g (.int .i64 ((i:Nat)))))],ob:=formOb [] [] }) ?_ ?_
 ·refine ⟨_,LeS.kp [(0,.s s),(3,(.g (.int .i64 (((0):Nat)))))] (by simp [zG0,KpE]),_,0,rfl,?_,rfl⟩
  ·simp
 ·rintro mM sS ⟨i,rfl,⟨hi,hpre⟩,rfl⟩
  refine zbe ?_
  refine AW_r rfl rfl λK hK=>?_
  simp (disch:=omega)
  refine hK _ ?_;clear hK K
  refine zbg rfl (λhc4=>?_) (λhc4=>?_)
  ·try simp at hc4
   have hg:s[i]? = some s[i]:=List.getElem?_eq_getElem (by omega)
   refine zbh ?_
   refine zbm ?_
   refine zbe ?_
   refine zbi ?_
   refine AW_r rfl rfl λK hK=>?_
   simp (disch:=omega)
   repeat' first|(refine ⟨λ_=>?_,λ_=>?_⟩)|(refine ⟨by omega,?_⟩) | fail
   all_goals (refine hK _ ?_;clear hK K)
   all_goals
    refine zbg rfl (λhc5=>?_) (λhc5=>?_)
    ·try simp at hc5
     all_goals
      refine AW_r rfl rfl λK hK=>?_
      simp (disch:=omega)
      all_goals (refine hK _ ?_;clear hK K)
      all_goals
       refine zbo (zcc ?_)
       simp (disch:=omega)
       all_goals (refine zgb λh=>?_;grind [Word,LoB])
    ·try simp at hc5
     all_goals
      refine zbh ?_
      refine zbm ?_
      refine zc6 rfl rfl λK hK=>?_
      simp (disch:=omega)
      refine hK _ ?_;clear hK K
      refine ⟨_,LeS.kp [(0,.s s),(3,(.g (.int .i64 (((i+1):Nat)))))] (by simp [zG0,KpE]),_,?_,i+1,rfl,?_,rfl⟩
      ·omega
      ·refine ⟨by omega,?_⟩;grind [LoB]
  ·try simp at hc4
   refine zbw ?_
   refine zbm ?_
   refine AW_r rfl rfl λK hK=>?_
   simp (disch:=omega)
   repeat' first|(refine zci (zbf zcb (zbf zcb (zbf zcb zbn))) (zn4 _ _ _) rfl ?_;simp (disch:=omega)) | fail
   refine hK _ ?_;clear hK K
   refine zbo (zcc ?_)
   simp (disch:=omega)
   (rw [Bool.eq_iff_iff,zbk];grind [Word,LoB])
end Go.Proofs.YtodmafgmdlkhoaaDoor.Vs
end
section
namespace Go.Proofs.YtodmafgmdlkhoaaDoor.Vs
set_option linter.all false
set_option maxRecDepth 100000
def SnapP(p:DtCSnap):Prop:=Word p.fName∧(p.fTag=[]∨Word p.fTag)∧1≤p.fChunks.length∧p.fChunks.length≤4∧∀(j:Nat) c,p.fChunks[j]? = some c→c.length=8
noncomputable def findN(l:List DtCSnap)(name:List UInt8):Int:=idxZ (λp=>eqB p.fName name) l
def SetP(s:DtCSet):Prop:=Word s.fName∧s.fSnaps.length≤5∧∀(k:Nat) p,s.fSnaps[k]? = some p→SnapP p∧findN s.fSnaps p.fName=k
def CatP(c:DtCatalog):Prop:=c.fSets.length≤5∧∀(i:Nat) s,c.fSets[i]? = some s→SetP s∧∀t,0<i→c.fSets[i-1]? = some t→Op.bytesLess t.fName s.fName=true
def zG1:=And.intro @zcj (And.intro @gE (And.intro @tP (And.intro @zbk @zbl)))
theorem l15Snap(p:DtCSnap):PCall Tryd.prog 51 [.agg (DtCSnap.cells p)] (.g (.bool (decB (SnapP p)))):=by
 refine zbp Tryd.func51 (by rfl) (by rfl) (by rw [Tryd.ntmps51];exact Nat.le_of_ble_eq_true rfl) rfl (by decide) ?_
 rw [Tryd.ntmps51]
 refine AW_k [(0,_)] ⟨rfl,trivial⟩ ?_
 refine AW_r rfl rfl λK hK=>?_
 simp (disch:=omega) [zG1,DtCSnap.cells]
 refine hK _ ?_;clear hK K
 refine zbe ?_
 refine AW_r rfl rfl λK hK=>?_
 simp (disch:=omega) [zG1,DtCSnap.cells]
 repeat' first|(refine zci (zbf zd9 zbn) (l4Word _) rfl ?_;simp (disch:=omega) [zG1,DtCSnap.cells])|(refine zci (zbf zcb (zbf zcb (zbf zcb zbn))) (l1In _ _ _) rfl ?_;simp (disch:=omega) [zG1,DtCSnap.cells])|(refine ⟨λ_=>?_,λ_=>?_⟩) | fail
 all_goals (refine hK _ ?_;clear hK K)
 all_goals
  refine zbg rfl (λhc1=>?_) (λhc1=>?_)
  ·try simp at hc1
   all_goals
    refine AW_r rfl rfl λK hK=>?_
    simp (disch:=omega) [zG1,DtCSnap.cells]
    all_goals (refine hK _ ?_;clear hK K)
    all_goals
     refine zbo (zcc ?_)
     simp (disch:=omega) [zG1,DtCSnap.cells]
     all_goals grind [SnapP]
  ·try simp at hc1
   all_goals
    refine zbh ?_
    refine zbm ?_
    refine zbe ?_
    refine AW_r rfl rfl λK hK=>?_
    simp (disch:=omega) [zG1,DtCSnap.cells]
    all_goals (refine hK _ ?_;clear hK K)
    all_goals
     refine zbi ?_
     refine zbt (λmM sS=>∃(i:Nat),mM=p.fChunks.length-i∧(i≤p.fChunks.length∧∀j c,j<i→p.fChunks[j]? = some c→c.length=8)∧sS = { env:=lkE [(1,.ptr 32 0),(3,(.g (.int .i64 ((i:Nat)))))],ob:=upd (formOb [] []) 32 (some (.cells (DtCSnap.cells p))) }) ?_ ?_
     ·refine ⟨_,LeS.kp [(1,.ptr 32 0),(3,(.g (.int .i64 (((0):Nat)))))] (by simp [zG0,KpE]),_,0,rfl,?_,rfl⟩
      ·simp
     ·rintro mM sS ⟨i,rfl,⟨hi,hpre⟩,rfl⟩
      refine zbe ?_
      refine AW_r rfl rfl λK hK=>?_
      simp (disch:=omega) [zG1,DtCSnap.cells,cS]
      refine hK _ ?_;clear hK K
      refine zbg rfl (λhc2=>?_) (λhc2=>?_)
      ·try simp at hc2
       all_goals
        have hg:p.fChunks[i]? = some p.fChunks[i]:=List.getElem?_eq_getElem (by omega)
        refine zbh ?_
        refine zbm ?_
        refine zbe ?_
        refine zbi ?_
        refine AW_r rfl rfl λK hK=>?_
        simp (disch:=omega) [zG1,DtCSnap.cells,cS]
        repeat' first|(refine ⟨by omega,?_⟩) | fail
        all_goals (refine hK _ ?_;clear hK K)
        all_goals
         refine zbg rfl (λhc3=>?_) (λhc3=>?_)
         ·try simp at hc3
          all_goals
           refine AW_r rfl rfl λK hK=>?_
           simp (disch:=omega) [zG1,DtCSnap.cells,cS]
           all_goals (refine hK _ ?_;clear hK K)
           all_goals
            refine zbo (zcc ?_)
            simp (disch:=omega) [zG1,DtCSnap.cells,cS]
            all_goals grind [SnapP]
         ·try simp at hc3
          all_goals
           refine zbh ?_
           refine zbm ?_
           refine zc6 rfl rfl λK hK=>?_
           simp (disch:=omega) [zG1,DtCSnap.cells,cS]
           all_goals (refine hK _ ?_;clear hK K)
           all_goals
            refine ⟨_,LeS.kp [(1,.ptr 32 0),(3,(.g (.int .i64 (((i+1):Nat)))))] (by simp [zG0,KpE]),_,?_,i+1,rfl,?_,rfl⟩
            ·omega
            ·refine ⟨by omega,?_⟩;grind
      ·try simp at hc2
       all_goals
        refine zbw ?_
        refine zbm ?_
        refine AW_r rfl rfl λK hK=>?_
        simp (disch:=omega) [zG1,DtCSnap.cells,cS]
        all_goals (refine hK _ ?_;clear hK K)
        all_goals
         refine zbo (zcc ?_)
         simp (disch:=omega) [zG1,DtCSnap.cells,cS]
         all_goals grind [SnapP]
def zG2:=And.intro @zcj (And.intro @gE @tP)
theorem l15Find(s:DtCSet)(name:List UInt8)(hs:s.fSnaps.length≤1048576):PCall Tryd.prog 52 [.agg (DtCSet.cells s),.s name] (.g (.int .i64 (findN s.fSnaps name))):=by
 refine zbp Tryd.func52 (by rfl) (by rfl) (by rw [Tryd.ntmps52];exact Nat.le_of_ble_eq_true rfl) rfl (by decide) ?_
 rw [Tryd.ntmps52]
 refine AW_k [(0,_),(1,_)] ⟨rfl,rfl,trivial⟩ ?_
 refine AW_r rfl rfl λK hK=>?_
 simp (disch:=omega) [zG2,DtCSet.cells]
 refine hK _ ?_;clear hK K
 refine zbe ?_
 refine AW_r rfl rfl λK hK=>?_
 simp (disch:=omega) [zG2,DtCSet.cells]
 refine hK _ ?_;clear hK K
 refine zbi ?_
 refine zbt (λmM sS=>∃(i:Nat),mM=s.fSnaps.length-i∧(i≤s.fSnaps.length∧∀j x,j<i→s.fSnaps[j]? = some x→eqB x.fName name=false)∧sS = { env:=lkE [(1,.s name),(2,.ptr 48 0),(5,(.g (.int .i64 ((i:Nat)))))],ob:=upd (formOb [] []) 48 (some (.cells (DtCSet.cells s))) }) ?_ ?_
 ·refine ⟨_,LeS.kp [(1,.s name),(2,.ptr 48 0),(5,(.g (.int .i64 (((0):Nat)))))] (by simp [zG0,KpE]),_,0,rfl,?_,rfl⟩
  ·simp
 ·rintro mM sS ⟨i,rfl,⟨hi,hpre⟩,rfl⟩
  refine zbe ?_
  refine AW_r rfl rfl λK hK=>?_
  simp (disch:=omega) [zG2,DtCSet.cells,DtCSnap.cells]
  refine hK _ ?_;clear hK K
  refine zbg rfl (λhc4=>?_) (λhc4=>?_)
  ·try simp at hc4
   have hg:s.fSnaps[i]? = some s.fSnaps[i]:=List.getElem?_eq_getElem (by omega)
   refine zbh ?_
   refine zbm ?_
   refine zbe ?_
   refine zbi ?_
   refine AW_r rfl rfl λK hK=>?_
   simp (disch:=omega) [zG2,DtCSet.cells,DtCSnap.cells]
   repeat' first|(refine ⟨by omega,?_⟩) | fail
   refine hK _ ?_;clear hK K
   refine zbg rfl (λhc5=>?_) (λhc5=>?_)
   ·try simp at hc5
    refine AW_r rfl rfl λK hK=>?_
    simp (disch:=omega) [zG2,DtCSet.cells,DtCSnap.cells]
    refine hK _ ?_;clear hK K
    refine zbo (zcc ?_)
    simp (disch:=omega) [zG2,DtCSet.cells,DtCSnap.cells]
    (unfold findN;rw [zgc (by assumption) (by simp_all [zbc]) hpre];done)
   ·try simp at hc5
    refine zbh ?_
    refine zbm ?_
    refine zc6 rfl rfl λK hK=>?_
    simp (disch:=omega) [zG2,DtCSet.cells,DtCSnap.cells]
    refine hK _ ?_;clear hK K
    refine ⟨_,LeS.kp [(1,.s name),(2,.ptr 48 0),(5,(.g (.int .i64 (((i+1):Nat)))))] (by simp [zG0,KpE]),_,?_,i+1,rfl,?_,rfl⟩
    ·omega
    ·refine ⟨by omega,?_⟩;grind [zba]
  ·try simp at hc4
   refine zbw ?_
   refine zbm ?_
   refine AW_r rfl rfl λK hK=>?_
   simp (disch:=omega) [zG2,DtCSet.cells,DtCSnap.cells]
   refine hK _ ?_;clear hK K
   refine zbo (zcc ?_)
   simp (disch:=omega) [zG2,DtCSet.cells,DtCSnap.cells]
   (unfold findN;exact zmj (λj x h=>hpre j x (by omega)))
theorem zse(c:DtCatalog)(hs:DtCatalog.sz c≤1048576):PCall Tryd.prog 32 [.agg (DtCatalog.cells c)] (.g (.bool (decB (CatP c)))):=by
 have hl:c.fSets.length≤1048576:=by have:=zb9 DtCSet.sz_nonneg c.fSets;simp only [DtCatalog.sz,szS] at hs;omega
 have hl2:∀i (h:i<c.fSets.length),c.fSets[i].fSnaps.length≤1048576:=by
  intro i h
  have h1:=zda DtCSet.sz_nonneg c.fSets c.fSets[i] (List.getElem_mem _)
  have h2:=zb9 DtCSnap.sz_nonneg c.fSets[i].fSnaps
  simp only [DtCatalog.sz,szS] at hs
  simp only [DtCSet.sz,szS] at h1
  omega
 refine zbp Tryd.func32 (by rfl) (by rfl) (by rw [Tryd.ntmps32];exact Nat.le_of_ble_eq_true rfl) rfl (by decide) ?_
 rw [Tryd.ntmps32]
 refine AW_k [(0,_)] ⟨rfl,trivial⟩ ?_
 refine AW_r rfl rfl λK hK=>?_
 simp (disch:=omega) [zG1,DtCatalog.cells,DtCSet.cells,DtCSnap.cells]
 refine hK _ ?_;clear hK K
 refine zbe ?_
 refine AW_r rfl rfl λK hK=>?_
 simp (disch:=omega) [zG1,DtCatalog.cells,DtCSet.cells,DtCSnap.cells]
 refine hK _ ?_;clear hK K
 refine zbg rfl (λhc6=>?_) (λhc6=>?_)
 ·try simp at hc6
  refine AW_r rfl rfl λK hK=>?_
  simp (disch:=omega) [zG1,DtCatalog.cells,DtCSet.cells,DtCSnap.cells]
  refine hK _ ?_;clear hK K
  refine zbo (zcc ?_)
  simp (disch:=omega) [zG1,DtCatalog.cells,DtCSet.cells,DtCSnap.cells]
  grind [CatP,SetP]
 ·try simp at hc6
  refine zbh ?_
  refine zbm ?_
  refine zbe ?_
  refine AW_r rfl rfl λK hK=>?_
  simp (disch:=omega) [zG1,DtCatalog.cells,DtCSet.cells,DtCSnap.cells]
  refine hK _ ?_;clear hK K
  refine zbi ?_
  refine zbt (λmM sS=>∃(i:Nat),mM=c.fSets.length-i∧(i≤c.fSets.length∧∀j s,j<i→c.fSets[j]? = some s→SetP s∧∀t,0<j→c.fSets[j-1]? = some t→Op.bytesLess t.fName s.fName=true)∧sS = { env:=lkE [(1,.ptr 32 0),(3,(.g (.int .i64 ((i:Nat)))))],ob:=lk [(32,.cells (DtCatalog.cells c))] }) ?_ ?_
  ·refine ⟨_,LeS.ko [(1,.ptr 32 0),(3,(.g (.int .i64 (((0):Nat)))))] [(32,.cells (DtCatalog.cells c))] (by simp [zG0,KpE,DtCatalog.cells,DtCSet.cells]) (by simp [KpO,zce,zbr,zbz,zb5,DtCatalog.cells,DtCSet.cells]) (by rfl) (by simp) (by rfl),_,0,rfl,?_,rfl⟩
   ·simp
  ·rintro mM sS ⟨i,rfl,⟨hi,hpre⟩,rfl⟩
   refine zbe ?_
   refine AW_r rfl rfl λK hK=>?_
   simp (disch:=omega) [zG1,DtCatalog.cells,DtCSet.cells,DtCSnap.cells]
   refine hK _ ?_;clear hK K
   refine zbg rfl (λhc7=>?_) (λhc7=>?_)
   ·try simp at hc7
    have hg:c.fSets[i]? = some (c.fSets[i]):=List.getElem?_eq_getElem (by omega)
    have hg':c.fSets[i-1]? = some (c.fSets[i-1]):=List.getElem?_eq_getElem (by omega)
    have hl2':=hl2 i (by omega)
    rcases Nat.eq_zero_or_pos i with hi0 | hi0
    all_goals
     refine zbh ?_
     refine zbm ?_
     refine zbe ?_
     refine zbi ?_
     refine AW_r rfl rfl λK hK=>?_
     simp (disch:=omega) [zG1,DtCatalog.cells,DtCSet.cells,DtCSnap.cells]
     repeat' first|(refine ⟨by omega,?_⟩) | fail
     all_goals (refine hK _ ?_;clear hK K)
     all_goals
      refine zbe ?_
      refine AW_q rfl mix (by kernel_rfl) rfl λK hK=>?_
      simp (disch:=omega) [zG1,DtCatalog.cells,DtCSet.cells,DtCSnap.cells]
      repeat' first|(exfalso;omega)|(refine zci (zbf zd9 zbn) (l4Word _) rfl ?_;simp (disch:=omega) [zG1,DtCatalog.cells,DtCSet.cells,DtCSnap.cells])|(refine ⟨λ_=>?_,λ_=>?_⟩)|(refine ⟨by omega,?_⟩) | fail
      all_goals (refine hK _ ?_;clear hK K)
      all_goals
       refine zbg rfl (λhc8=>?_) (λhc8=>?_)
       ·try simp at hc8
        all_goals
         refine AW_r rfl rfl λK hK=>?_
         simp (disch:=omega) [zG1,DtCatalog.cells,DtCSet.cells,DtCSnap.cells]
         all_goals (refine hK _ ?_;clear hK K)
         all_goals
          refine zbo (zcc ?_)
          simp (disch:=omega) [zG1,DtCatalog.cells,DtCSet.cells,DtCSnap.cells]
          all_goals grind [CatP,SetP]
       ·try simp at hc8
        all_goals
         refine zbh ?_
         refine zbm ?_
         refine AW_r rfl rfl λK hK=>?_
         simp (disch:=omega) [zG1,DtCatalog.cells,DtCSet.cells,DtCSnap.cells]
         all_goals (refine hK _ ?_;clear hK K)
         all_goals
          refine zbi ?_
          refine zbt (λmM sS=>∃(k:Nat),mM=(c.fSets[i]).fSnaps.length-k∧(k≤(c.fSets[i]).fSnaps.length∧∀j p,j<k→(c.fSets[i]).fSnaps[j]? = some p→SnapP p∧findN (c.fSets[i]).fSnaps p.fName=j)∧sS = { env:=lkE [(1,.ptr 32 0),(3,(.g (.int .i64 ((i:Nat))))),(4,.ptr 80 0),(5,(.g (.int .i64 ((k:Nat)))))],ob:=lk [(32,.cells (DtCatalog.cells c)),(80,.cells (DtCSet.cells c.fSets[i]))] }) ?_ ?_
          ·refine ⟨_,LeS.ko [(1,.ptr 32 0),(3,(.g (.int .i64 ((i:Nat))))),(4,.ptr 80 0),(5,(.g (.int .i64 (((0):Nat)))))] [(32,.cells (DtCatalog.cells c)),(80,.cells (DtCSet.cells c.fSets[i]))] (by simp [zG0,KpE,DtCatalog.cells,DtCSet.cells]) (by simp [KpO,zce,zbr,zbz,zb5,DtCatalog.cells,DtCSet.cells]) (by rfl) (by simp) (by rfl),_,0,rfl,?_,rfl⟩
           ·simp
          ·rintro mM sS ⟨k,rfl,⟨hk,hkre⟩,rfl⟩
           refine zbe ?_
           refine AW_r rfl rfl λK hK=>?_
           simp (disch:=omega) [zG1,DtCatalog.cells,DtCSet.cells,DtCSnap.cells]
           refine hK _ ?_;clear hK K
           refine zbg rfl (λhc9=>?_) (λhc9=>?_)
           ·try simp at hc9
            all_goals
             have hg2:(c.fSets[i]).fSnaps[k]? = some ((c.fSets[i]).fSnaps[k]):=List.getElem?_eq_getElem (by omega)
             refine zbh ?_
             refine zbm ?_
             refine zbe ?_
             refine zbi ?_
             refine AW_q rfl mix (by kernel_rfl) rfl λK hK=>?_
             simp (disch:=omega) [zG1,DtCatalog.cells,DtCSet.cells,DtCSnap.cells]
             repeat' first|(refine zci (zbf (zcn rfl) zbn) (l15Snap _) rfl ?_;simp (disch:=omega) [zG1,DtCatalog.cells,DtCSet.cells,DtCSnap.cells])|(refine zci (zbf (zcn rfl) (zbf zd9 zbn)) (l15Find _ _ (by omega)) rfl ?_;simp (disch:=omega) [zG1,DtCatalog.cells,DtCSet.cells,DtCSnap.cells])|(refine ⟨λ_=>?_,λ_=>?_⟩)|(refine ⟨by omega,?_⟩) | fail
             all_goals (refine hK _ ?_;clear hK K)
             all_goals
              refine zbg rfl (λhc10=>?_) (λhc10=>?_)
              ·try simp at hc10
               all_goals
                refine AW_r rfl rfl λK hK=>?_
                simp (disch:=omega) [zG1,DtCatalog.cells,DtCSet.cells,DtCSnap.cells]
                all_goals (refine hK _ ?_;clear hK K)
                all_goals
                 refine zbo (zcc ?_)
                 simp (disch:=omega) [zG1,DtCatalog.cells,DtCSet.cells,DtCSnap.cells]
                 all_goals grind [CatP,SetP]
              ·try simp at hc10
               all_goals
                refine zbh ?_
                refine zbm ?_
                refine zc6 rfl rfl λK hK=>?_
                simp (disch:=omega) [zG1,DtCatalog.cells,DtCSet.cells,DtCSnap.cells]
                all_goals (refine hK _ ?_;clear hK K)
                all_goals
                 refine ⟨_,LeS.ko [(1,.ptr 32 0),(3,(.g (.int .i64 ((i:Nat))))),(4,.ptr 80 0),(5,(.g (.int .i64 (((k+1):Nat)))))] [(32,.cells (DtCatalog.cells c)),(80,.cells (DtCSet.cells c.fSets[i]))] (by simp [zG0,KpE,DtCatalog.cells,DtCSet.cells]) (by simp [KpO,zce,zbr,zbz,zb5,DtCatalog.cells,DtCSet.cells]) (by rfl) (by simp) (by rfl),_,?_,k+1,rfl,?_,rfl⟩
                 ·omega
                 ·refine ⟨by omega,?_⟩;clear hl2;grind
           ·try simp at hc9
            all_goals
             refine zbw ?_
             refine zbm ?_
             refine zc6 rfl rfl λK hK=>?_
             simp (disch:=omega) [zG1,DtCatalog.cells,DtCSet.cells,DtCSnap.cells]
             all_goals (refine hK _ ?_;clear hK K)
             all_goals
              refine ⟨_,LeS.ko [(1,.ptr 32 0),(3,(.g (.int .i64 (((i+1):Nat)))))] [(32,.cells (DtCatalog.cells c))] (by simp [zG0,KpE,DtCatalog.cells,DtCSet.cells]) (by simp [KpO,zce,zbr,zbz,zb5,DtCatalog.cells,DtCSet.cells]) (by rfl) (by simp) (by rfl),_,?_,i+1,rfl,?_,rfl⟩
              ·omega
              ·refine ⟨by omega,?_⟩;clear hg' hl2;grind [SetP]
   ·try simp at hc7
    refine zbw ?_
    refine zbm ?_
    refine AW_r rfl rfl λK hK=>?_
    simp (disch:=omega) [zG1,DtCatalog.cells,DtCSet.cells,DtCSnap.cells]
    refine hK _ ?_;clear hK K
    refine zbo (zcc ?_)
    simp (disch:=omega) [zG1,DtCatalog.cells,DtCSet.cells,DtCSnap.cells]
    grind [CatP,SetP]
def Ch8(l:List (List UInt8)):Prop:=∀(j:Nat) c,l[j]? = some c→c.length=8
theorem areChunks(l:List (List UInt8))(hs:l.length≤1048576):PCall Tryd.prog 71 [.sl 1 (l.map cS)] (.g (.bool (decB (Ch8 l)))):=by
 refine zbp Tryd.func71 (by rfl) (by rfl) (by rw [Tryd.ntmps71];exact Nat.le_of_ble_eq_true rfl) rfl (by decide) ?_
 rw [Tryd.ntmps71]
 refine AW_k [(0,_)] ⟨rfl,trivial⟩ ?_
 refine AW_r rfl rfl λK hK=>?_
 simp (disch:=omega) [zG2,cS]
 refine hK _ ?_;clear hK K
 refine zbe ?_
 refine AW_r rfl rfl λK hK=>?_
 simp (disch:=omega) [zG2,cS]
 refine hK _ ?_;clear hK K
 refine zbi ?_
 refine zbt (λmM sS=>∃(i:Nat),mM=l.length-i∧(i≤l.length∧∀(j:Nat) c,j<i→l[j]? = some c→c.length=8)∧sS = { env:=lkE [(5,.sl 1 (l.map cS)),(6,(.g (.int .i64 ((l.length:Nat))))),(7,(.g (.int .i64 ((i:Nat)))))],ob:=formOb [] [] }) ?_ ?_
 ·refine ⟨_,LeS.kp [(5,.sl 1 (l.map cS)),(6,(.g (.int .i64 ((l.length:Nat))))),(7,(.g (.int .i64 (((0):Nat)))))] (by simp [zG0,KpE]),_,0,rfl,?_,rfl⟩
  ·simp
 ·rintro mM sS ⟨i,rfl,⟨hi,hpre⟩,rfl⟩
  refine AW_r rfl rfl λK hK=>?_
  simp (disch:=omega) [zG2,cS]
  refine hK _ ?_;clear hK K
  refine zbe ?_
  refine zbg rfl (λhc11=>?_) (λhc11=>?_)
  ·try simp at hc11
   have hg:l[i]? = some (l[i]):=List.getElem?_eq_getElem (by omega)
   refine zbh ?_
   refine zbm ?_
   refine zbe ?_
   refine zbi ?_
   refine AW_r rfl rfl λK hK=>?_
   simp (disch:=omega) [zG2,cS]
   repeat' first|(refine ⟨by omega,?_⟩) | fail
   refine hK _ ?_;clear hK K
   refine AW_r rfl rfl λK hK=>?_
   simp (disch:=omega) [zG2,cS]
   refine hK _ ?_;clear hK K
   refine zbg rfl (λhc12=>?_) (λhc12=>?_)
   ·try simp at hc12
    refine AW_r rfl rfl λK hK=>?_
    simp (disch:=omega) [zG2,cS]
    refine hK _ ?_;clear hK K
    refine zbo (zcc ?_)
    simp (disch:=omega) [zG2,cS]
    (refine zgb λh=>?_;grind [Ch8])
   ·try simp at hc12
    refine zbh ?_
    refine zbm ?_
    refine zc6 rfl rfl λK hK=>?_
    simp (disch:=omega) [zG2,cS]
    refine hK _ ?_;clear hK K
    refine ⟨_,LeS.kp [(5,.sl 1 (l.map cS)),(6,(.g (.int .i64 ((l.length:Nat))))),(7,(.g (.int .i64 (((i+1):Nat)))))] (by simp [zG0,KpE]),_,?_,i+1,rfl,?_,rfl⟩
    ·omega
    ·refine ⟨by omega,?_⟩;grind
  ·try simp at hc11
   refine zbw ?_
   refine zbm ?_
   refine AW_r rfl rfl λK hK=>?_
   simp (disch:=omega) [zG2,cS]
   refine hK _ ?_;clear hK K
   refine zbo (zcc ?_)
   simp (disch:=omega) [zG2,cS]
   (refine zcl ?_;grind [Ch8])
theorem snap1(p:DtCSnap)(name:List UInt8):GCall Tryd.prog 82 [.agg (DtCSnap.cells p),.ptr 0 0] [[.s name]] [] (.g (.bool (eqB p.fName name))) []:=by
 refine zbp Tryd.func82 (by rfl) (by rfl) (by rw [Tryd.ntmps82];exact Nat.le_of_ble_eq_true rfl) rfl (by decide) ?_
 rw [Tryd.ntmps82]
 refine AW_k [(0,_),(1,_)] ⟨rfl,rfl,trivial⟩ ?_
 refine AW_r rfl rfl λK hK=>?_
 simp [DtCSnap.cells]
 refine hK _ ?_;clear hK K
 refine AW_r rfl rfl λK hK=>?_
 simp [DtCSnap.cells]
 refine hK _ ?_;clear hK K
 refine zbo (zcc ?_)
 simp [DtCSnap.cells]
 (rw [Bool.eq_iff_iff,zbc];simp;done)
theorem znk{F:FuncId}{name:List UInt8}{p:DtCSnap→Bool}(xs:List DtCSnap)(hn:xs.length≤1048576)(hf:∀x,GCall Tryd.prog F [.agg (DtCSnap.cells x),.ptr 0 0] [[.s name]] [] (.g (.bool (p x))) []):GCall Tryd.prog 81 [.sl 3 (xs.map DtCSnap.cells),.fn F [] [.ptr 0 0]] [[.s name]] [] (.g (.int .i64 (idxZ p xs))) []:=by
 refine zbp Tryd.func81 (by rfl) (by rfl) (by rw [Tryd.ntmps81];exact Nat.le_of_ble_eq_true rfl) rfl (by decide) ?_
 rw [Tryd.ntmps81]
 refine AW_k [(0,_),(1,_)] ⟨rfl,rfl,trivial⟩ ?_
 refine AW_r rfl rfl λK hK=>?_
 simp (disch:=omega) [zG2,DtCSnap.cells]
 refine hK _ ?_;clear hK K
 refine zbe ?_
 refine AW_r rfl rfl λK hK=>?_
 simp (disch:=omega) [zG2,DtCSnap.cells]
 refine hK _ ?_;clear hK K
 refine zbi ?_
 refine zbt (λmM sS=>∃(i:Nat),mM=xs.length-i∧(i≤xs.length∧∀j x,j<i→xs[j]? = some x→p x=false)∧sS = { env:=lkE [(0,.sl 3 (xs.map DtCSnap.cells)),(1,.fn F [] [.ptr 0 0]),(6,.sl 3 (xs.map DtCSnap.cells)),(7,(.g (.int .i64 ((xs.length:Nat))))),(8,(.g (.int .i64 ((i:Nat)))))],ob:=formOb [[.s name]] [] }) ?_ ?_
 ·refine ⟨_,LeS.kp [(0,.sl 3 (xs.map DtCSnap.cells)),(1,.fn F [] [.ptr 0 0]),(6,.sl 3 (xs.map DtCSnap.cells)),(7,(.g (.int .i64 ((xs.length:Nat))))),(8,(.g (.int .i64 (((0):Nat)))))] (by simp [zG0,KpE]),_,0,rfl,?_,rfl⟩
  ·simp
 ·rintro mM sS ⟨i,rfl,⟨hi,hpre⟩,rfl⟩
  refine AW_r rfl rfl λK hK=>?_
  simp (disch:=omega) [zG2,DtCSnap.cells]
  refine hK _ ?_;clear hK K
  refine zbe ?_
  refine zbg rfl (λhc13=>?_) (λhc13=>?_)
  ·try simp at hc13
   have hg:xs[i]? = some (xs[i]):=List.getElem?_eq_getElem (by omega)
   refine zbh ?_
   refine zbm ?_
   refine zbe ?_
   refine zbi ?_
   refine AW_r rfl rfl λK hK=>?_
   simp (disch:=omega) [zG2,DtCSnap.cells]
   refine hK _ ?_;clear hK K
   refine AW_r rfl rfl λK hK=>?_
   simp (disch:=omega) [zG2,DtCSnap.cells]
   repeat' first|(refine CKd_r1 0 (.inr rfl) (zhh [.s name] rfl) (zbf (zcn rfl) (zbf am2_ptr0 zbn)) (hf _) rfl ?_;try simp (disch:=omega) [zG2,DtCSnap.cells])|(refine ⟨by omega,?_⟩) | fail
   refine hK _ ?_;clear hK K
   refine zbg rfl (λhc14=>?_) (λhc14=>?_)
   ·skip
    refine AW_r rfl rfl λK hK=>?_
    simp (disch:=omega) [zG2,DtCSnap.cells]
    refine hK _ ?_;clear hK K
    refine zbo (zcc ?_)
    simp (disch:=omega) [zG2,DtCSnap.cells]
    (exact zgc (by assumption) (by assumption) hpre)
   ·skip
    refine zbh ?_
    refine zbm ?_
    refine zc6 rfl rfl λK hK=>?_
    simp (disch:=omega) [zG2,DtCSnap.cells]
    refine hK _ ?_;clear hK K
    refine ⟨_,LeS.kp [(0,.sl 3 (xs.map DtCSnap.cells)),(1,.fn F [] [.ptr 0 0]),(6,.sl 3 (xs.map DtCSnap.cells)),(7,(.g (.int .i64 ((xs.length:Nat))))),(8,(.g (.int .i64 (((i+1):Nat)))))] (by simp [zG0,KpE]),_,?_,i+1,rfl,?_,rfl⟩
    ·omega
    ·refine ⟨by omega,?_⟩;grind
  ·try simp at hc13
   refine zbw ?_
   refine zbm ?_
   refine AW_r rfl rfl λK hK=>?_
   simp (disch:=omega) [zG2,DtCSnap.cells]
   refine hK _ ?_;clear hK K
   refine zbo (zcc ?_)
   simp (disch:=omega) [zG2,DtCSnap.cells]
   (exact zmj (λj x h=>hpre j x (by omega)))
theorem snap(s:DtCSet)(name:List UInt8)(hs:s.fSnaps.length≤1048576):PCall Tryd.prog 72 [.agg (DtCSet.cells s),.s name] (.g (.int .i64 (findN s.fSnaps name))):=by
 refine zbp Tryd.func72 (by rfl) (by rfl) (by rw [Tryd.ntmps72];exact Nat.le_of_ble_eq_true rfl) rfl (by decide) ?_
 rw [Tryd.ntmps72]
 refine AW_k [(0,_),(1,_)] ⟨rfl,rfl,trivial⟩ ?_
 refine AW_r rfl rfl λK hK=>?_
 simp [DtCSet.cells]
 refine hK _ ?_;clear hK K
 refine AW_r rfl rfl λK hK=>?_
 simp [DtCSet.cells]
 repeat' first|(refine CKd_r1 64 (.inl rfl) (zhh [.s name] rfl) (zbf zmh (zbf am2_fn0 zbn)) (znk _ hs (λx=>snap1 x name)) rfl ?_;simp [DtCSet.cells]) | fail
 refine hK _ ?_;clear hK K
 refine zbo (zcc ?_)
 simp [DtCSet.cells,findN]
theorem setOk(s:DtCSet)(hs:DtCSet.sz s≤1048576):PCall Tryd.prog 58 [.agg (DtCSet.cells s)] (.g (.bool (decB (SetP s)))):=by
 have hl:s.fSnaps.length≤1048576:=by have:=zb9 DtCSnap.sz_nonneg s.fSnaps;simp only [DtCSet.sz,szS] at hs;omega
 have hw:s.fName.length≤1048576:=by have:=zb9 DtCSnap.sz_nonneg s.fSnaps;simp only [DtCSet.sz,szS] at hs;omega
 have hsn:∀k (h:k<s.fSnaps.length),s.fSnaps[k].fName.length≤1048576∧s.fSnaps[k].fTag.length≤1048576∧s.fSnaps[k].fChunks.length≤1048576:=by
  intro k h
  have h1:=zda DtCSnap.sz_nonneg s.fSnaps s.fSnaps[k] (List.getElem_mem _)
  have h2:=zb9 zc9 s.fSnaps[k].fChunks
  simp only [DtCSet.sz,szS] at hs
  simp only [DtCSnap.sz,szS] at h1
  omega
 refine zbp Tryd.func58 (by rfl) (by rfl) (by rw [Tryd.ntmps58];exact Nat.le_of_ble_eq_true rfl) rfl (by decide) ?_
 rw [Tryd.ntmps58]
 refine AW_k [(0,_)] ⟨rfl,trivial⟩ ?_
 refine AW_r rfl rfl λK hK=>?_
 simp (disch:=omega) [zG1,DtCSet.cells,DtCSnap.cells]
 refine hK _ ?_;clear hK K
 refine zbe ?_
 refine AW_r rfl rfl λK hK=>?_
 simp (disch:=omega) [zG1,DtCSet.cells,DtCSnap.cells]
 refine hK _ ?_;clear hK K
 refine zbi ?_
 refine zbt (λmM sS=>∃(k:Nat),mM=s.fSnaps.length-k∧(k≤s.fSnaps.length∧∀j p,j<k→s.fSnaps[j]? = some p→SnapP p∧findN s.fSnaps p.fName=j)∧sS = { env:=lkE [(1,.ptr 32 0),(6,.sl 3 (s.fSnaps.map DtCSnap.cells)),(7,(.g (.int .i64 ((s.fSnaps.length:Nat))))),(8,(.g (.int .i64 ((k:Nat)))))],ob:=lk [(32,.cells (DtCSet.cells s))] }) ?_ ?_
 ·refine ⟨_,LeS.ko [(1,.ptr 32 0),(6,.sl 3 (s.fSnaps.map DtCSnap.cells)),(7,(.g (.int .i64 ((s.fSnaps.length:Nat))))),(8,(.g (.int .i64 (((0):Nat)))))] [(32,.cells (DtCSet.cells s))] (by simp [zG0,KpE,DtCSet.cells]) (by simp [KpO,zce,zbr,zbz,zb5,DtCSet.cells]) (by rfl) (by simp) (by rfl),_,0,rfl,?_,rfl⟩
  ·simp
 ·rintro mM sS ⟨k,rfl,⟨hk,hkre⟩,rfl⟩
  refine AW_r rfl rfl λK hK=>?_
  simp (disch:=omega) [zG1,DtCSet.cells,DtCSnap.cells]
  refine hK _ ?_;clear hK K
  refine zbe ?_
  refine zbg rfl (λhc15=>?_) (λhc15=>?_)
  ·try simp at hc15
   have hg2:s.fSnaps[k]? = some (s.fSnaps[k]):=List.getElem?_eq_getElem (by omega)
   have hm:=hsn k (by omega)
   refine zbh ?_
   refine zbm ?_
   refine zbe ?_
   refine zbi ?_
   refine AW_r rfl rfl λK hK=>?_
   simp (disch:=omega) [zG1,DtCSet.cells,DtCSnap.cells]
   repeat' first|(refine ⟨by omega,?_⟩) | fail
   refine hK _ ?_;clear hK K
   refine AW_r rfl rfl λK hK=>?_
   simp (disch:=omega) [zG1,DtCSet.cells,DtCSnap.cells]
   repeat' first|(refine zci (zbf zd9 zbn) (isWord _ (by omega)) rfl ?_;simp (disch:=omega) [zG1,DtCSet.cells,DtCSnap.cells])|(refine zci (zbf zcb (zbf zcb (zbf zcb zbn))) (zn4 _ _ _) rfl ?_;simp (disch:=omega) [zG1,DtCSet.cells,DtCSnap.cells])|(refine zci (zbf zmh zbn) (areChunks _ (by omega)) rfl ?_;simp (disch:=omega) [zG1,DtCSet.cells,DtCSnap.cells])|(refine zci (zbf (zcn rfl) (zbf zd9 zbn)) (snap _ _ (by omega)) rfl ?_;simp (disch:=omega) [zG1,DtCSet.cells,DtCSnap.cells])|(refine ⟨λ_=>?_,λ_=>?_⟩)|(intro _)
   all_goals (refine hK _ ?_;clear hK K)
   all_goals
    refine zbg rfl (λhc16=>?_) (λhc16=>?_)
    ·try simp at hc16
     all_goals
      refine AW_r rfl rfl λK hK=>?_
      simp (disch:=omega) [zG1,DtCSet.cells,DtCSnap.cells]
      all_goals (refine hK _ ?_;clear hK K)
      all_goals
       refine zbo (zcc ?_)
       simp (disch:=omega) [zG1,DtCSet.cells,DtCSnap.cells]
       all_goals grind [SetP,SnapP,Ch8]
    ·try simp at hc16
     all_goals
      refine zbh ?_
      refine zbm ?_
      refine zc6 rfl rfl λK hK=>?_
      simp (disch:=omega) [zG1,DtCSet.cells,DtCSnap.cells]
      all_goals (refine hK _ ?_;clear hK K)
      all_goals
       refine ⟨_,LeS.ko [(1,.ptr 32 0),(6,.sl 3 (s.fSnaps.map DtCSnap.cells)),(7,(.g (.int .i64 ((s.fSnaps.length:Nat))))),(8,(.g (.int .i64 (((k+1):Nat)))))] [(32,.cells (DtCSet.cells s))] (by simp [zG0,KpE,DtCSet.cells]) (by simp [KpO,zce,zbr,zbz,zb5,DtCSet.cells]) (by rfl) (by simp) (by rfl),_,?_,k+1,rfl,?_,rfl⟩
       ·omega
       ·refine ⟨by omega,?_⟩;clear hsn;grind [SnapP,Ch8]
  ·try simp at hc15
   refine zbw ?_
   refine zbm ?_
   refine AW_r rfl rfl λK hK=>?_
   simp (disch:=omega) [zG1,DtCSet.cells,DtCSnap.cells]
   repeat' first|(refine zci (zbf zd9 zbn) (isWord _ (by omega)) rfl ?_;simp (disch:=omega) [zG1,DtCSet.cells,DtCSnap.cells])|(refine ⟨λ_=>?_,λ_=>?_⟩) | fail
   all_goals (refine hK _ ?_;clear hK K)
   all_goals
    refine zbo (zcc ?_)
    simp (disch:=omega) [zG1,DtCSet.cells,DtCSnap.cells]
    all_goals first | grind [SetP,SnapP,Ch8]|(rw [Bool.eq_iff_iff,zbk];simp [zbk];grind [SetP,SnapP,Ch8])
theorem implCatOk(c:DtCatalog)(hs:DtCatalog.sz c≤1048576):PCall Tryd.prog 41 [.agg (DtCatalog.cells c)] (.g (.bool (decB (CatP c)))):=by
 have hl:c.fSets.length≤1048576:=by have:=zb9 DtCSet.sz_nonneg c.fSets;simp only [DtCatalog.sz,szS] at hs;omega
 have hl2:∀i (h:i<c.fSets.length),DtCSet.sz c.fSets[i]≤1048576:=by
  intro i h
  have h1:=zda DtCSet.sz_nonneg c.fSets c.fSets[i] (List.getElem_mem _)
  simp only [DtCatalog.sz,szS] at hs
  omega
 refine zbp Tryd.func41 (by rfl) (by rfl) (by rw [Tryd.ntmps41];exact Nat.le_of_ble_eq_true rfl) rfl (by decide) ?_
 rw [Tryd.ntmps41]
 refine AW_k [(0,_)] ⟨rfl,trivial⟩ ?_
 refine AW_r rfl rfl λK hK=>?_
 simp (disch:=omega) [zG1,DtCatalog.cells,DtCSet.cells,DtCSnap.cells]
 refine hK _ ?_;clear hK K
 refine zbe ?_
 refine AW_r rfl rfl λK hK=>?_
 simp (disch:=omega) [zG1,DtCatalog.cells,DtCSet.cells,DtCSnap.cells]
 refine hK _ ?_;clear hK K
 refine zbi ?_
 refine zbt (λmM sS=>∃(i:Nat),mM=c.fSets.length-i∧(i≤c.fSets.length∧∀j s,j<i→c.fSets[j]? = some s→SetP s∧∀t,0<j→c.fSets[j-1]? = some t→Op.bytesLess t.fName s.fName=true)∧sS = { env:=lkE [(1,.ptr 32 0),(6,.sl 2 (c.fSets.map DtCSet.cells)),(7,(.g (.int .i64 ((c.fSets.length:Nat))))),(8,(.g (.int .i64 ((i:Nat)))))],ob:=lk [(32,.cells (DtCatalog.cells c))] }) ?_ ?_
 ·refine ⟨_,LeS.ko [(1,.ptr 32 0),(6,.sl 2 (c.fSets.map DtCSet.cells)),(7,(.g (.int .i64 ((c.fSets.length:Nat))))),(8,(.g (.int .i64 (((0):Nat)))))] [(32,.cells (DtCatalog.cells c))] (by simp [zG0,KpE,DtCatalog.cells,DtCSet.cells]) (by simp [KpO,zce,zbr,zbz,zb5,DtCatalog.cells,DtCSet.cells]) (by rfl) (by simp) (by rfl),_,0,rfl,?_,rfl⟩
  ·simp
 ·rintro mM sS ⟨i,rfl,⟨hi,hpre⟩,rfl⟩
  refine AW_r rfl rfl λK hK=>?_
  simp (disch:=omega) [zG1,DtCatalog.cells,DtCSet.cells,DtCSnap.cells]
  refine hK _ ?_;clear hK K
  refine zbe ?_
  refine zbg rfl (λhc17=>?_) (λhc17=>?_)
  ·try simp at hc17
   have hg:c.fSets[i]? = some (c.fSets[i]):=List.getElem?_eq_getElem (by omega)
   have hg':c.fSets[i-1]? = some (c.fSets[i-1]):=List.getElem?_eq_getElem (by omega)
   have hm:=hl2 i (by omega)
   rcases Nat.eq_zero_or_pos i with hi0 | hi0
   all_goals
    refine zbh ?_
    refine zbm ?_
    refine zbe ?_
    refine zbi ?_
    refine AW_r rfl rfl λK hK=>?_
    simp (disch:=omega) [zG1,DtCatalog.cells,DtCSet.cells,DtCSnap.cells]
    repeat' first|(refine ⟨by omega,?_⟩) | fail
    all_goals (refine hK _ ?_;clear hK K)
    all_goals
     refine AW_q rfl mix (by kernel_rfl) rfl λK hK=>?_
     simp (disch:=omega) [zG1,DtCatalog.cells,DtCSet.cells,DtCSnap.cells]
     repeat' first|(exfalso;omega)|(refine zci (zbf (zcn rfl) zbn) (setOk _ (by assumption)) rfl ?_;simp (disch:=omega) [zG1,DtCatalog.cells,DtCSet.cells,DtCSnap.cells])|(refine ⟨λ_=>?_,λ_=>?_⟩)|(refine ⟨by omega,?_⟩) | fail
     all_goals (refine hK _ ?_;clear hK K)
     all_goals
      refine zbg rfl (λhc18=>?_) (λhc18=>?_)
      ·try simp at hc18
       all_goals
        refine AW_r rfl rfl λK hK=>?_
        simp (disch:=omega) [zG1,DtCatalog.cells,DtCSet.cells,DtCSnap.cells]
        all_goals (refine hK _ ?_;clear hK K)
        all_goals
         refine zbo (zcc ?_)
         simp (disch:=omega) [zG1,DtCatalog.cells,DtCSet.cells,DtCSnap.cells]
         all_goals grind [CatP]
      ·try simp at hc18
       all_goals
        refine zbh ?_
        refine zbm ?_
        refine zc6 rfl rfl λK hK=>?_
        simp (disch:=omega) [zG1,DtCatalog.cells,DtCSet.cells,DtCSnap.cells]
        all_goals (refine hK _ ?_;clear hK K)
        all_goals
         refine ⟨_,LeS.ko [(1,.ptr 32 0),(6,.sl 2 (c.fSets.map DtCSet.cells)),(7,(.g (.int .i64 ((c.fSets.length:Nat))))),(8,(.g (.int .i64 (((i+1):Nat)))))] [(32,.cells (DtCatalog.cells c))] (by simp [zG0,KpE,DtCatalog.cells,DtCSet.cells]) (by simp [KpO,zce,zbr,zbz,zb5,DtCatalog.cells,DtCSet.cells]) (by rfl) (by simp) (by rfl),_,?_,i+1,rfl,?_,rfl⟩
         ·omega
         ·refine ⟨by omega,?_⟩;clear hg' hl2;grind
  ·try simp at hc17
   refine zbw ?_
   refine zbm ?_
   refine AW_r rfl rfl λK hK=>?_
   simp (disch:=omega) [zG1,DtCatalog.cells,DtCSet.cells,DtCSnap.cells]
   refine hK _ ?_;clear hK K
   refine zbo (zcc ?_)
   simp (disch:=omega) [zG1,DtCatalog.cells,DtCSet.cells,DtCSnap.cells]
   (rw [Bool.eq_iff_iff,zbk];simp;grind [CatP])
end Go.Proofs.YtodmafgmdlkhoaaDoor.Vs
end
section
namespace Go.Proofs.YtodmafgmdlkhoaaDoor.Vs
set_option linter.all false
set_option maxRecDepth 100000
theorem len0{α:Type}(l:List α):((l.length:Int)=0)=(l=[]):=by rw [eq_iff_iff,←List.length_eq_zero_iff];omega
def MayP(s:List UInt8)(must:Bool):Prop:=if must then Word s else s=[]
def zeroCmd:DtCmd:=⟨0,0,0,[],[],[],0,[]⟩
def CmdP(c:DtCmd):Prop:=(c.fKind=0∧c=zeroCmd)∨(1≤c.fKind∧c.fKind≤7∧1≤c.fClient∧c.fClient≤9∧1≤c.fNo∧c.fNo≤1000∧(c.fKind≠7→Word c.fSet)∧(c.fKind=7→c.fSet=[])∧(c.fKind=3∨c.fKind=4→Word c.fName)∧(¬(c.fKind=3∨c.fKind=4)→c.fName=[])∧(c.fKind=4→Word c.fTag)∧(c.fKind≠4→c.fTag=[])∧(c.fN≠0→c.fKind=5∧0≤c.fN∧c.fN≤9)∧(c.fKind=3→1≤c.fChunks.length∧c.fChunks.length≤4∧Ch8 c.fChunks)∧(c.fKind≠3→c.fChunks=[]))
theorem l4May(s:List UInt8)(b:Bool):PCall Tryd.prog 77 [.s s,(.g (.bool (b)))] (.g (.bool (decB (MayP s b)))):=by
 refine zbp Tryd.func77 (by rfl) (by rfl) (by rw [Tryd.ntmps77];exact Nat.le_of_ble_eq_true rfl) rfl (by decide) ?_
 rw [Tryd.ntmps77]
 refine AW_k [(0,_),(1,_)] ⟨rfl,rfl,trivial⟩ ?_
 refine AW_r rfl rfl λK hK=>?_
 simp (disch:=omega)
 refine hK _ ?_;clear hK K
 refine zbe ?_
 refine AW_r rfl rfl λK hK=>?_
 simp (disch:=omega)
 refine hK _ ?_;clear hK K
 refine zbg rfl (λhc1=>?_) (λhc1=>?_)
 ·skip
  refine AW_r rfl rfl λK hK=>?_
  simp (disch:=omega)
  repeat' first|(refine zci (zbf zd9 zbn) (l4Word _) rfl ?_;simp (disch:=omega)) | fail
  refine hK _ ?_;clear hK K
  refine zbo (zcc ?_)
  simp (disch:=omega)
  (simp_all [MayP];done)
 ·skip
  refine zbh ?_
  refine zbm ?_
  refine AW_r rfl rfl λK hK=>?_
  simp (disch:=omega)
  refine hK _ ?_;clear hK K
  refine zbo (zcc ?_)
  simp (disch:=omega)
  (rw [Bool.eq_iff_iff];simp_all [MayP,zbk])
theorem l4Texts(xs ys:List (List UInt8))(hn:xs.length≤1048576):PCall Tryd.prog 83 [.sl 1 (xs.map cS),.sl 1 (ys.map cS)] (.g (.bool (eqB xs ys))):=by
 refine zbp Tryd.func83 (by rfl) (by rfl) (by rw [Tryd.ntmps83];exact Nat.le_of_ble_eq_true rfl) rfl (by decide) ?_
 rw [Tryd.ntmps83]
 refine AW_k [(0,_),(1,_)] ⟨rfl,rfl,trivial⟩ ?_
 refine AW_r rfl rfl λK hK=>?_
 simp (disch:=omega)
 refine hK _ ?_;clear hK K
 refine zbe ?_
 refine AW_r rfl rfl λK hK=>?_
 simp (disch:=omega)
 refine hK _ ?_;clear hK K
 refine zbg rfl (λhc2=>?_) (λhc2=>?_)
 ·try simp at hc2
  refine AW_r rfl rfl λK hK=>?_
  simp (disch:=omega)
  refine hK _ ?_;clear hK K
  refine zbo (zcc ?_)
  simp (disch:=omega)
  (refine eqB_ne λheq=>?_;subst heq;simp_all;done)
 ·try simp at hc2
  refine zbh ?_
  refine zbm ?_
  refine zbe ?_
  refine AW_r rfl rfl λK hK=>?_
  simp (disch:=omega)
  refine hK _ ?_;clear hK K
  refine zbi ?_
  refine zbt (λmM sS=>∃(i:Nat),mM=xs.length-i∧(i≤xs.length∧∀j,j<i→xs[j]? = ys[j]?)∧sS = { env:=lkE [(0,.sl 1 (xs.map cS)),(1,.sl 1 (ys.map cS)),(5,(.g (.int .i64 ((i:Nat)))))],ob:=formOb [] [] }) ?_ ?_
  ·refine ⟨_,LeS.kp [(0,.sl 1 (xs.map cS)),(1,.sl 1 (ys.map cS)),(5,(.g (.int .i64 (((0):Nat)))))] (by simp [zG0,KpE]),_,0,rfl,?_,rfl⟩
   ·simp
  ·rintro mM sS ⟨i,rfl,⟨hi,hpre⟩,rfl⟩
   refine zbe ?_
   refine AW_r rfl rfl λK hK=>?_
   simp (disch:=omega) [cS]
   refine hK _ ?_;clear hK K
   refine zbg rfl (λhc3=>?_) (λhc3=>?_)
   ·try simp at hc3
    have h7:i<ys.length:=by omega
    refine zbh ?_
    refine zbm ?_
    refine zbe ?_
    refine zbi ?_
    refine AW_q rfl mix (by kernel_rfl) rfl λK hK=>?_
    simp (disch:=omega) [cS]
    repeat' first|(refine ⟨by omega,?_⟩) | fail
    refine hK _ ?_;clear hK K
    refine zbg rfl (λhc4=>?_) (λhc4=>?_)
    ·try simp at hc4
     refine AW_r rfl rfl λK hK=>?_
     simp (disch:=omega) [cS]
     refine hK _ ?_;clear hK K
     refine zbo (zcc ?_)
     simp (disch:=omega) [cS]
     (refine eqB_ne λheq=>?_;subst heq;simp_all;done)
    ·try simp at hc4
     refine zbh ?_
     refine zbm ?_
     refine zc6 rfl rfl λK hK=>?_
     simp (disch:=omega) [cS]
     refine hK _ ?_;clear hK K
     refine ⟨_,LeS.kp [(0,.sl 1 (xs.map cS)),(1,.sl 1 (ys.map cS)),(5,(.g (.int .i64 (((i+1):Nat)))))] (by simp [zG0,KpE]),_,?_,i+1,rfl,?_,rfl⟩
     ·omega
     ·refine ⟨by omega,λj hj=>?_⟩
      by_cases hji:j=i
      ·subst hji;simp_all
      ·exact hpre j (by omega)
   ·try simp at hc3
    have hi2:i=xs.length:=by omega
    subst hi2
    have heq:xs=ys:=List.ext_getElem? λj=>by
     by_cases hj:j<xs.length
     ·exact hpre j hj
     ·rw [List.getElem?_eq_none (by omega),List.getElem?_eq_none (by omega)]
    refine zbw ?_
    refine zbm ?_
    refine AW_r rfl rfl λK hK=>?_
    simp (disch:=omega) [cS]
    refine hK _ ?_;clear hK K
    refine zbo (zcc ?_)
    simp (disch:=omega) [cS]
    (exact eqB_of heq)
attribute [local simp] DtCmd.cells
theorem zvs(a b:DtCmd)(hn:a.fChunks.length≤1048576):PCall Tryd.prog 76 [.agg (DtCmd.cells a),.agg (DtCmd.cells b)] (.g (.bool (eqB a b))):=by
 have he:=DtCmd.ext_iff a b
 refine zbp Tryd.func76 (by rfl) (by rfl) (by rw [Tryd.ntmps76];exact Nat.le_of_ble_eq_true rfl) rfl (by decide) ?_
 rw [Tryd.ntmps76]
 refine AW_k [(0,_),(1,_)] ⟨rfl,rfl,trivial⟩ ?_
 refine AW_r rfl rfl λK hK=>?_
 simp
 refine hK _ ?_;clear hK K
 refine AW_r rfl rfl λK hK=>?_
 simp
 repeat' first|(refine zci (zbf zmh (zbf zmh zbn)) (l4Texts _ _ (by assumption)) rfl ?_;simp)|(refine ⟨λ_=>?_,λ_=>?_⟩) | fail
 all_goals (refine hK _ ?_;clear hK K)
 all_goals
  refine zbo (zcc ?_)
  simp
  all_goals first|(refine eqB_ne λh=>?_;rw [he] at h;simp_all;done)|(rw [Bool.eq_iff_iff,zbc,zbc,he];simp_all;done)
attribute [local simp] zbk zbl
theorem zsf(c:DtCmd)(hs:DtCmd.sz c≤1048576):PCall Tryd.prog 64 [.agg (DtCmd.cells c)] (.g (.bool (decB (CmdP c)))):=by
 have ⟨hl,hw1,hw2,hw3⟩:c.fChunks.length≤1048576∧c.fSet.length≤1048576∧c.fName.length≤1048576∧c.fTag.length≤1048576:=by have:=zb9 zc9 c.fChunks;simp only [DtCmd.sz,szS] at hs;omega
 refine zbp Tryd.func64 (by rfl) (by rfl) (by rw [Tryd.ntmps64];exact Nat.le_of_ble_eq_true rfl) rfl (by decide) ?_
 rw [Tryd.ntmps64]
 refine AW_k [(0,_)] ⟨rfl,trivial⟩ ?_
 refine AW_r rfl rfl λK hK=>?_
 simp (disch:=omega)
 refine hK _ ?_;clear hK K
 refine zbe ?_
 refine AW_r rfl rfl λK hK=>?_
 simp (disch:=omega)
 repeat' first|(refine zci (zbf zcb (zbf zcb (zbf zcb zbn))) (l1In _ _ _) rfl ?_;simp (disch:=omega)) | fail
 refine hK _ ?_;clear hK K
 refine zbg rfl (λhc5=>?_) (λhc5=>?_)
 ·try simp [zbk,zbl,zbc,zba] at hc5
  refine AW_r rfl rfl λK hK=>?_
  simp (disch:=omega)
  refine hK _ ?_;clear hK K
  refine zbo (zcc ?_)
  simp (disch:=omega)
  grind [CmdP,MayP,Ch8]
 ·try simp [zbk,zbl,zbc,zba] at hc5
  refine zbh ?_
  refine zbm ?_
  refine zbe ?_
  refine AW_r rfl rfl λK hK=>?_
  simp (disch:=omega)
  refine hK _ ?_;clear hK K
  refine zbg rfl (λhc6=>?_) (λhc6=>?_)
  ·try simp [zbk,zbl,zbc,zba] at hc6
   refine AW_r rfl rfl λK hK=>?_
   simp (disch:=omega)
   repeat' first|(refine zci (zbf (zcn rfl) (zbf (a:=.agg _) (b:=.agg (DtCmd.cells zeroCmd)) (by simp [DtCmd.cells,zeroCmd,am2_ff,am1s_cc,am1s_nn,am1_gg,am1_ss,am1_nl]) zbn)) (zvs c zeroCmd hl) rfl ?_;simp (disch:=omega)) | fail
   refine hK _ ?_;clear hK K
   refine zbo (zcc ?_)
   simp (disch:=omega)
   (rw [Bool.eq_iff_iff,zbk,zbc];grind [CmdP,zeroCmd])
  ·try simp [zbk,zbl,zbc,zba] at hc6
   refine zbh ?_
   refine zbm ?_
   refine AW_r rfl rfl λK hK=>?_
   simp (disch:=omega)
   refine hK _ ?_;clear hK K
   refine zbe ?_
   refine AW_r rfl rfl λK hK=>?_
   simp (disch:=omega)
   repeat' first|(exfalso;omega)|(refine zci (zbf zcb (zbf zcb (zbf zcb zbn))) (l1In _ _ _) rfl ?_;simp (disch:=omega))|(refine zci (zbf zd9 (zbf zcb zbn)) (l4May _ _) rfl ?_;simp (disch:=omega))|(refine ⟨λ_=>?_,λ_=>?_⟩)|(intro _)
   all_goals (refine hK _ ?_;clear hK K)
   all_goals
    refine zbg rfl (λhc7=>?_) (λhc7=>?_)
    ·try simp [zbk,zbl,zbc,zba] at hc7
     all_goals
      refine AW_r rfl rfl λK hK=>?_
      simp (disch:=omega)
      all_goals (refine hK _ ?_;clear hK K)
      all_goals
       refine zbo (zcc ?_)
       simp (disch:=omega)
       all_goals grind [CmdP,MayP,Ch8]
    ·try simp [zbk,zbl,zbc,zba] at hc7
     all_goals
      refine zbh ?_
      refine zbm ?_
      refine zbe ?_
      refine AW_r rfl rfl λK hK=>?_
      simp (disch:=omega)
      all_goals (refine hK _ ?_;clear hK K)
      all_goals
       refine zbg rfl (λhc8=>?_) (λhc8=>?_)
       ·try simp [zbk,zbl,zbc,zba] at hc8
        all_goals
         refine AW_r rfl rfl λK hK=>?_
         simp (disch:=omega)
         repeat' first|(exfalso;omega)
         all_goals (refine hK _ ?_;clear hK K)
         all_goals
          refine zbo (zcc ?_)
          simp (disch:=omega)
          all_goals (rw [Bool.eq_iff_iff,zbk];simp [zbk];grind [CmdP,MayP,Ch8])
       ·try simp [zbk,zbl,zbc,zba] at hc8
        all_goals
         refine zbh ?_
         refine zbm ?_
         refine zbe ?_
         refine AW_r rfl rfl λK hK=>?_
         simp (disch:=omega)
         repeat' first|(exfalso;omega)|(refine zci (zbf zcb (zbf zcb (zbf zcb zbn))) (l1In _ _ _) rfl ?_;simp (disch:=omega)) | fail
         all_goals (refine hK _ ?_;clear hK K)
         all_goals
          refine zbg rfl (λhc9=>?_) (λhc9=>?_)
          ·try simp [zbk,zbl,zbc,zba] at hc9
           refine AW_r rfl rfl λK hK=>?_
           simp (disch:=omega)
           refine hK _ ?_;clear hK K
           refine zbo (zcc ?_)
           simp (disch:=omega)
           grind [CmdP,MayP,Ch8]
          ·try simp [zbk,zbl,zbc,zba] at hc9
           refine zbh ?_
           refine zbm ?_
           refine zbe ?_
           refine AW_r rfl rfl λK hK=>?_
           simp (disch:=omega)
           refine hK _ ?_;clear hK K
           refine zbi ?_
           refine zbt (λmM sS=>∃(i:Nat),mM=c.fChunks.length-i∧(i≤c.fChunks.length∧∀(j:Nat) x,j<i→c.fChunks[j]? = some x→x.length=8)∧sS = { env:=lkE [(1,.ptr 32 0),(4,(.g (.int .i64 ((i:Nat)))))],ob:=upd (formOb [] []) 32 (some (.cells (DtCmd.cells c))) }) ?_ ?_
           ·refine ⟨_,LeS.kp [(1,.ptr 32 0),(4,(.g (.int .i64 (((0):Nat)))))] (by simp [zG0,KpE]),_,0,rfl,?_,rfl⟩
            ·simp
           ·rintro mM sS ⟨i,rfl,⟨hi,hpre⟩,rfl⟩
            refine zbe ?_
            refine AW_r rfl rfl λK hK=>?_
            simp (disch:=omega) [cS]
            refine hK _ ?_;clear hK K
            refine zbg rfl (λhc10=>?_) (λhc10=>?_)
            ·try simp [zbk,zbl,zbc,zba] at hc10
             have hg:c.fChunks[i]? = some c.fChunks[i]:=List.getElem?_eq_getElem (by omega)
             refine zbh ?_
             refine zbm ?_
             refine zbe ?_
             refine zbi ?_
             refine AW_r rfl rfl λK hK=>?_
             simp (disch:=omega) [cS]
             repeat' first|(refine ⟨by omega,?_⟩) | fail
             refine hK _ ?_;clear hK K
             refine zbg rfl (λhc11=>?_) (λhc11=>?_)
             ·try simp [zbk,zbl,zbc,zba] at hc11
              refine AW_r rfl rfl λK hK=>?_
              simp (disch:=omega) [cS]
              refine hK _ ?_;clear hK K
              refine zbo (zcc ?_)
              simp (disch:=omega) [cS]
              grind [CmdP,MayP,Ch8]
             ·try simp [zbk,zbl,zbc,zba] at hc11
              refine zbh ?_
              refine zbm ?_
              refine zc6 rfl rfl λK hK=>?_
              simp (disch:=omega) [cS]
              refine hK _ ?_;clear hK K
              refine ⟨_,LeS.kp [(1,.ptr 32 0),(4,(.g (.int .i64 (((i+1):Nat)))))] (by simp [zG0,KpE]),_,?_,i+1,rfl,?_,rfl⟩
              ·omega
              ·refine ⟨by omega,?_⟩;grind
            ·try simp [zbk,zbl,zbc,zba] at hc10
             refine zbw ?_
             refine zbm ?_
             refine AW_r rfl rfl λK hK=>?_
             simp (disch:=omega) [cS]
             refine hK _ ?_;clear hK K
             refine zbo (zcc ?_)
             simp (disch:=omega) [cS]
             grind [CmdP,MayP,Ch8]
end Go.Proofs.YtodmafgmdlkhoaaDoor.Vs
end
