import Derived.Test.YtodmafgmdlkhoaaVs9
import Derived.Test.YtodmafgmdlkhoaaProg
section
namespace Go.Proofs.Ytodmafgmdlkhoaa.Vs
set_option linter.all false
theorem mix:Try.prog.follows .mixedOrders=true:=by kernel_rfl
theorem t2:ti Try.prog 2=some { agg:=false,size:=1,bytes:=8,zero:=[AV.g (Value.int IntKind.i64 0)],kind:=TK.int IntKind.i64 }:=by kernel_rfl
theorem t3:ti Try.prog 3=some { agg:=false,size:=1,bytes:=8,zero:=[AV.g (Value.int IntKind.i64 0)],kind:=TK.int IntKind.i64 }:=by kernel_rfl
theorem t4:ti Try.prog 4=some { agg:=false,size:=1,bytes:=1,zero:=[AV.g (Value.bool false)],kind:=TK.bool }:=by kernel_rfl
theorem t5:ti Try.prog 5=some { agg:=false,size:=1,bytes:=1,zero:=[AV.g (Value.int IntKind.u8 0)],kind:=TK.int IntKind.u8 }:=by kernel_rfl
theorem t6:ti Try.prog 6=some { agg:=false,size:=1,bytes:=1,zero:=[AV.g (Value.int IntKind.u8 0)],kind:=TK.int IntKind.u8 }:=by kernel_rfl
theorem t7:ti Try.prog 7=some { agg:=true,size:=4,bytes:=24,zero:=[AV.g (Value.int IntKind.i64 0),AV.g (Value.int IntKind.i64 0),AV.g (Value.bool false),AV.g (Value.int IntKind.u8 0)],kind:=TK.struct [(0,2),(1,3),(2,4),(3,6)] }:=by kernel_rfl
theorem t8:ti Try.prog 8=some { agg:=true,size:=4,bytes:=24,zero:=[AV.g (Value.int IntKind.i64 0),AV.g (Value.int IntKind.i64 0),AV.g (Value.bool false),AV.g (Value.int IntKind.u8 0)],kind:=TK.struct [(0,2),(1,3),(2,4),(3,6)] }:=by kernel_rfl
theorem t9:ti Try.prog 9=some { agg:=false,size:=1,bytes:=16,zero:=[AV.s []],kind:=TK.str }:=by kernel_rfl
theorem t10:ti Try.prog 10=some { agg:=false,size:=1,bytes:=16,zero:=[AV.s []],kind:=TK.str }:=by kernel_rfl
theorem t11:ti Try.prog 11=some { agg:=false,size:=1,bytes:=16,zero:=[AV.s []],kind:=TK.str }:=by kernel_rfl
theorem t12:ti Try.prog 12=some { agg:=false,size:=1,bytes:=8,zero:=[AV.g (Value.int IntKind.u64 0)],kind:=TK.int IntKind.u64 }:=by kernel_rfl
theorem t13:ti Try.prog 13=some { agg:=true,size:=2,bytes:=24,zero:=[AV.s [],AV.g (Value.int IntKind.u64 0)],kind:=TK.struct [(0,9),(1,12)] }:=by kernel_rfl
theorem t14:ti Try.prog 14=some { agg:=true,size:=2,bytes:=24,zero:=[AV.s [],AV.g (Value.int IntKind.u64 0)],kind:=TK.struct [(0,9),(1,12)] }:=by kernel_rfl
theorem t15:ti Try.prog 15=some { agg:=false,size:=1,bytes:=8,zero:=[AV.g (Value.pointer none)],kind:=TK.ptr 135 }:=by kernel_rfl
theorem t16:ti Try.prog 16=some { agg:=false,size:=1,bytes:=8,zero:=[AV.g (Value.pointer none)],kind:=TK.ptr 138 }:=by kernel_rfl
theorem t17:ti Try.prog 17=some { agg:=false,size:=1,bytes:=8,zero:=[AV.g (Value.pointer none)],kind:=TK.ptr 148 }:=by kernel_rfl
theorem t18:ti Try.prog 18=some { agg:=true,size:=1,bytes:=8,zero:=[AV.g (Value.pointer none)],kind:=TK.struct [(0,17)] }:=by kernel_rfl
theorem t19:ti Try.prog 19=some { agg:=true,size:=1,bytes:=8,zero:=[AV.g (Value.pointer none)],kind:=TK.struct [(0,17)] }:=by kernel_rfl
theorem t21:ti Try.prog 21=some { agg:=false,size:=1,bytes:=4,zero:=[AV.g (Value.int IntKind.i32 0)],kind:=TK.int IntKind.i32 }:=by kernel_rfl
theorem t22:ti Try.prog 22=some { agg:=false,size:=1,bytes:=24,zero:=[AV.g (Value.slice none 0 0)],kind:=TK.slice 5 }:=by kernel_rfl
theorem t24:ti Try.prog 24=some { agg:=false,size:=1,bytes:=24,zero:=[AV.g (Value.slice none 0 0)],kind:=TK.slice 75 }:=by kernel_rfl
theorem t25:ti Try.prog 25=some { agg:=true,size:=1,bytes:=24,zero:=[AV.g (Value.slice none 0 0)],kind:=TK.struct [(0,24)] }:=by kernel_rfl
theorem t26:ti Try.prog 26=some { agg:=true,size:=1,bytes:=24,zero:=[AV.g (Value.slice none 0 0)],kind:=TK.struct [(0,24)] }:=by kernel_rfl
theorem t27:ti Try.prog 27=some { agg:=false,size:=1,bytes:=24,zero:=[AV.g (Value.slice none 0 0)],kind:=TK.slice 59 }:=by kernel_rfl
theorem t28:ti Try.prog 28=some { agg:=true,size:=2,bytes:=48,zero:=[AV.g (Value.slice none 0 0),AV.g (Value.slice none 0 0)],kind:=TK.struct [(0,26),(1,27)] }:=by kernel_rfl
theorem t29:ti Try.prog 29=some { agg:=true,size:=2,bytes:=48,zero:=[AV.g (Value.slice none 0 0),AV.g (Value.slice none 0 0)],kind:=TK.struct [(0,26),(1,27)] }:=by kernel_rfl
theorem t30:ti Try.prog 30=some { agg:=false,size:=1,bytes:=24,zero:=[AV.g (Value.slice none 0 0)],kind:=TK.slice 9 }:=by kernel_rfl
theorem t31:ti Try.prog 31=some { agg:=true,size:=8,bytes:=104,zero:=[AV.g (Value.int IntKind.i64 0),AV.g (Value.int IntKind.i64 0),AV.g (Value.int IntKind.i64 0),AV.s [],AV.s [],AV.s [],AV.g (Value.int IntKind.i64 0),AV.g (Value.slice none 0 0)],kind:=TK.struct [(0,3),(1,3),(2,3),(3,9),(4,9),(5,9),(6,3),(7,30)] }:=by kernel_rfl
theorem t32:ti Try.prog 32=some { agg:=true,size:=8,bytes:=104,zero:=[AV.g (Value.int IntKind.i64 0),AV.g (Value.int IntKind.i64 0),AV.g (Value.int IntKind.i64 0),AV.s [],AV.s [],AV.s [],AV.g (Value.int IntKind.i64 0),AV.g (Value.slice none 0 0)],kind:=TK.struct [(0,3),(1,3),(2,3),(3,9),(4,9),(5,9),(6,3),(7,30)] }:=by kernel_rfl
theorem t40:ti Try.prog 40=some { agg:=false,size:=1,bytes:=24,zero:=[AV.g (Value.slice none 0 0)],kind:=TK.slice 51 }:=by kernel_rfl
theorem t41:ti Try.prog 41=some { agg:=false,size:=1,bytes:=24,zero:=[AV.g (Value.slice none 0 0)],kind:=TK.slice 3 }:=by kernel_rfl
theorem t50:ti Try.prog 50=some { agg:=true,size:=11,bytes:=136,zero:=[AV.g (Value.int IntKind.i64 0),AV.g (Value.int IntKind.i64 0),AV.g (Value.int IntKind.i64 0),AV.g (Value.int IntKind.i64 0),AV.g (Value.int IntKind.i64 0),AV.s [],AV.s [],AV.s [],AV.g (Value.int IntKind.i64 0),AV.g (Value.slice none 0 0),AV.s []],kind:=TK.struct [(0,3),(1,3),(2,32),(10,9)] }:=by kernel_rfl
theorem t51:ti Try.prog 51=some { agg:=true,size:=11,bytes:=136,zero:=[AV.g (Value.int IntKind.i64 0),AV.g (Value.int IntKind.i64 0),AV.g (Value.int IntKind.i64 0),AV.g (Value.int IntKind.i64 0),AV.g (Value.int IntKind.i64 0),AV.s [],AV.s [],AV.s [],AV.g (Value.int IntKind.i64 0),AV.g (Value.slice none 0 0),AV.s []],kind:=TK.struct [(0,3),(1,3),(2,32),(10,9)] }:=by kernel_rfl
theorem t53:ti Try.prog 53=some { agg:=false,size:=1,bytes:=8,zero:=[AV.g (Value.pointer none)],kind:=TK.ptr 87 }:=by kernel_rfl
theorem t58:ti Try.prog 58=some { agg:=true,size:=3,bytes:=32,zero:=[AV.g (Value.int IntKind.i64 0),AV.g (Value.int IntKind.i64 0),AV.s []],kind:=TK.struct [(0,3),(1,3),(2,9)] }:=by kernel_rfl
theorem t59:ti Try.prog 59=some { agg:=true,size:=3,bytes:=32,zero:=[AV.g (Value.int IntKind.i64 0),AV.g (Value.int IntKind.i64 0),AV.s []],kind:=TK.struct [(0,3),(1,3),(2,9)] }:=by kernel_rfl
theorem t73:ti Try.prog 73=some { agg:=false,size:=1,bytes:=24,zero:=[AV.g (Value.slice none 0 0)],kind:=TK.slice 78 }:=by kernel_rfl
theorem t74:ti Try.prog 74=some { agg:=true,size:=2,bytes:=40,zero:=[AV.s [],AV.g (Value.slice none 0 0)],kind:=TK.struct [(0,9),(1,73)] }:=by kernel_rfl
theorem t75:ti Try.prog 75=some { agg:=true,size:=2,bytes:=40,zero:=[AV.s [],AV.g (Value.slice none 0 0)],kind:=TK.struct [(0,9),(1,73)] }:=by kernel_rfl
theorem t77:ti Try.prog 77=some { agg:=true,size:=3,bytes:=56,zero:=[AV.s [],AV.s [],AV.g (Value.slice none 0 0)],kind:=TK.struct [(0,9),(1,9),(2,30)] }:=by kernel_rfl
theorem t78:ti Try.prog 78=some { agg:=true,size:=3,bytes:=56,zero:=[AV.s [],AV.s [],AV.g (Value.slice none 0 0)],kind:=TK.struct [(0,9),(1,9),(2,30)] }:=by kernel_rfl
theorem t83:ti Try.prog 83=some { agg:=false,size:=1,bytes:=24,zero:=[AV.g (Value.slice none 0 0)],kind:=TK.slice 4 }:=by kernel_rfl
theorem t86:ti Try.prog 86=some { agg:=true,size:=3,bytes:=40,zero:=[AV.g (Value.slice none 0 0),AV.g (Value.int IntKind.i64 0),AV.g (Value.int IntKind.i64 0)],kind:=TK.struct [(0,22),(1,3),(2,3)] }:=by kernel_rfl
theorem t87:ti Try.prog 87=some { agg:=true,size:=3,bytes:=40,zero:=[AV.g (Value.slice none 0 0),AV.g (Value.int IntKind.i64 0),AV.g (Value.int IntKind.i64 0)],kind:=TK.struct [(0,22),(1,3),(2,3)] }:=by kernel_rfl
theorem t90:ti Try.prog 90=some { agg:=false,size:=1,bytes:=24,zero:=[AV.g (Value.slice none 0 0)],kind:=TK.slice 32 }:=by kernel_rfl
theorem t114:ti Try.prog 114=some { agg:=false,size:=1,bytes:=8,zero:=[AV.g (Value.int IntKind.u64 0)],kind:=TK.int IntKind.u64 }:=by kernel_rfl
theorem t117:ti Try.prog 117=some { agg:=false,size:=1,bytes:=8,zero:=[AV.g (Value.pointer none)],kind:=TK.ptr 26 }:=by kernel_rfl
theorem t120:ti Try.prog 120=some { agg:=false,size:=1,bytes:=8,zero:=[AV.g (Value.pointer none)],kind:=TK.ptr 75 }:=by kernel_rfl
theorem t134:ti Try.prog 134=some { agg:=true,size:=4,bytes:=40,zero:=[AV.g (Value.pointer none),AV.g (Value.pointer none),AV.g (Value.pointer none),AV.s []],kind:=TK.struct [(0,17),(1,17),(2,17),(3,9)] }:=by kernel_rfl
theorem t135:ti Try.prog 135=some { agg:=true,size:=4,bytes:=40,zero:=[AV.g (Value.pointer none),AV.g (Value.pointer none),AV.g (Value.pointer none),AV.s []],kind:=TK.struct [(0,17),(1,17),(2,17),(3,9)] }:=by kernel_rfl
theorem t136:ti Try.prog 136=some { agg:=true,size:=0,bytes:=0,zero:=[],kind:=TK.array 0 16 }:=by kernel_rfl
theorem t137:ti Try.prog 137=some { agg:=true,size:=0,bytes:=0,zero:=[],kind:=TK.struct [(0,136)] }:=by kernel_rfl
theorem t138:ti Try.prog 138=some { agg:=true,size:=0,bytes:=0,zero:=[],kind:=TK.struct [(0,136)] }:=by kernel_rfl
theorem t140:ti Try.prog 140=some { agg:=false,size:=1,bytes:=4,zero:=[AV.g (Value.int IntKind.u32 0)],kind:=TK.int IntKind.u32 }:=by kernel_rfl
theorem t141:ti Try.prog 141=some { agg:=false,size:=1,bytes:=1,zero:=[AV.g (Value.int IntKind.u8 0)],kind:=TK.int IntKind.u8 }:=by kernel_rfl
theorem t142:ti Try.prog 142=some { agg:=false,size:=1,bytes:=1,zero:=[AV.g (Value.int IntKind.u8 0)],kind:=TK.int IntKind.u8 }:=by kernel_rfl
theorem t144:ti Try.prog 144=some { agg:=false,size:=1,bytes:=8,zero:=[AV.g (Value.pointer none)],kind:=TK.ptr 5 }:=by kernel_rfl
theorem t145:ti Try.prog 145=some { agg:=false,size:=1,bytes:=4,zero:=[AV.g (Value.int IntKind.i32 0)],kind:=TK.int IntKind.i32 }:=by kernel_rfl
theorem t146:ti Try.prog 146=some { agg:=false,size:=1,bytes:=4,zero:=[AV.g (Value.int IntKind.i32 0)],kind:=TK.int IntKind.i32 }:=by kernel_rfl
theorem t147:ti Try.prog 147=some { agg:=true,size:=11,bytes:=48,zero:=[AV.g (Value.int IntKind.u64 0),AV.g (Value.int IntKind.u64 0),AV.g (Value.int IntKind.u32 0),AV.g (Value.int IntKind.u8 0),AV.g (Value.int IntKind.u8 0),AV.g (Value.int IntKind.u8 0),AV.g (Value.int IntKind.u8 0),AV.g Value.nilFunc,AV.g (Value.pointer none),AV.g (Value.int IntKind.i32 0),AV.g (Value.int IntKind.i32 0)],kind:=TK.struct [(0,12),(1,12),(2,140),(3,141),(4,5),(5,5),(6,142),(7,143),(8,144),(9,145),(10,146)] }:=by kernel_rfl
theorem t148:ti Try.prog 148=some { agg:=true,size:=11,bytes:=48,zero:=[AV.g (Value.int IntKind.u64 0),AV.g (Value.int IntKind.u64 0),AV.g (Value.int IntKind.u32 0),AV.g (Value.int IntKind.u8 0),AV.g (Value.int IntKind.u8 0),AV.g (Value.int IntKind.u8 0),AV.g (Value.int IntKind.u8 0),AV.g Value.nilFunc,AV.g (Value.pointer none),AV.g (Value.int IntKind.i32 0),AV.g (Value.int IntKind.i32 0)],kind:=TK.struct [(0,12),(1,12),(2,140),(3,141),(4,5),(5,5),(6,142),(7,143),(8,144),(9,145),(10,146)] }:=by kernel_rfl
theorem u_bool:Try.prog.underlying 4=some .bool:=by kernel_rfl
attribute [simp ↓] spl_tt spl_tf spl_ft spl_ff
attribute [simp] creg_nil ztv ztw cO cR cG_bool cG_undef spl_ct spl_cf putC nmC aop ev cv updL zbx upd_upd zbl zbz zbq aLen aBuiltin aBin aIntBin aFieldAddr placeOf aLoad cellsAt aUn aIndexAddr st0 valCells isOne Value.oneCell' aStore setCells List.getElem?_cons_zero List.getElem?_cons_succ Option.getD_some zca formOb_r1 aBuild parts fillA placesOf aField aIndex aSlice optIdx aStrBin aMakeSlice viewCells viewCell arrN frzU capOk aConv aNews aAppend aBuildSlice chunks endR_some am0_gg am0_ss am0_ll am1_gg am1_ss am1_ll am1_nl am1_al am2_gg am2_ss am2_ll am2_nl am2_al am2_ff ztx zty am2s_nn am2s_cc amRs_one amRs_two' amRs_thr zx5 zx6 ztz KpE KpO KpR KpOR t2 t3 t4 t5 t6 t7 t8 t9 t10 t11 t12 t13 t14 t15 t16 t17 t18 t19 t21 t22 t24 t25 t26 t27 t28 t29 t30 t31 t32 t40 t41 t50 t51 t53 t58 t59 t73 t74 t75 t77 t78 t83 t86 t87 t90 t114 t117 t120 t134 t135 t136 t137 t138 t140 t141 t142 t144 t145 t146 t147 t148 u_bool
attribute [simp] zcv gE tP
end Go.Proofs.Ytodmafgmdlkhoaa.Vs
end
section
namespace Go.Proofs.Ytodmafgmdlkhoaa.Vs
set_option linter.all false
set_option maxRecDepth 100000
/-- Marks. -/
def mkL{α:Type}(f:Int→α)(k:Int)(n:Nat):List α:=(List.range n).map λj=>f (k+(j:Nat))
def mkR{α:Type}(f:Int→α)(k:Int)(l:List α)(i:Nat):List α:=mkL f k i++l.drop i
def mB(k:Int):Bool:=k.tmod 3==0
/-- Decimal digits. -/
def dg(n:Nat)(out:List UInt8):List UInt8:=if n=0 then out else dg (n / 10) (strN [IntKind.u8.wrap (48+(n:Int) % 10)]++out)
termination_by n
decreasing_by omega
def mT(k:Int):List UInt8:=if k≤0 then [109,48] else 109 :: dg k.toNat []
/-- A copy under way. -/
def cpR{α:Type}(z:α)(l:List α)(i:Nat):List α:=l.take i++List.replicate (l.length-i) z
/-- Marks of a row of structs. -/
def mkS{α:Type}(mk:Int→α→α)(cnt:α→Int):Int→List α→List α
 | _,[]=>[]
 | k,u :: us=>mk k u :: mkS mk cnt (k+cnt u) us
def cntS{α:Type}(cnt:α→Int)(us:List α):Int:=us.foldr (λu n=>cnt u+n) 0
def mkSR{α:Type}(mk:Int→α→α)(cnt:α→Int)(k:Int)(us:List α)(i:Nat):List α:=mkS mk cnt k (us.take i)++us.drop i
/-- A copy of structs under way. -/
def cpS{α:Type}(z:List AV)(f:α→List AV)(us:List α)(i:Nat):List (List AV):=(us.take i).map f++List.replicate (us.length-i) z
end Go.Proofs.Ytodmafgmdlkhoaa.Vs
end
section
namespace Go.Proofs.Ytodmafgmdlkhoaa.Vs
set_option linter.all false
end Go.Proofs.Ytodmafgmdlkhoaa.Vs
end
section
namespace Go.Proofs.Ytodmafgmdlkhoaa.Vs
set_option linter.all false
set_option maxRecDepth 100000
theorem len_szS{α:Type}{f:α→Int}(hf:∀x,0≤f x)(l:List α):(l.length:Int)≤szS f l:=by have:=zcd hf l;unfold szS;omega
end Go.Proofs.Ytodmafgmdlkhoaa.Vs
end
section
namespace Go.Proofs.Ytodmafgmdlkhoaa.Vs
set_option linter.all false
set_option maxRecDepth 100000
theorem l1In(a b c:Int):PCall Try.prog 38 [(.g (.int .i64 (a))),(.g (.int .i64 (b))),(.g (.int .i64 (c)))] (.g (.bool (decide (b≤a)&&decide (a≤c)))):=by
 refine zbr Try.func38 (by rfl) (by rfl) (by rw [Try.ntmps38];exact Nat.le_of_ble_eq_true rfl) rfl (by decide) ?_
 rw [Try.ntmps38]
 refine AW_k [(0,_),(1,_),(2,_)] ⟨rfl,rfl,rfl,trivial⟩ ?_
 refine AW_r rfl rfl λK hK=>?_
 simp (disch:=omega)
 repeat' first|(refine ⟨by omega,?_⟩)|(intro _)
 refine hK _ ?_;clear hK K
 refine AW_r rfl rfl λK hK=>?_
 simp (disch:=omega)
 repeat' first|(exfalso;omega)|(refine ⟨λ_=>?_,λ_=>?_⟩)|(refine ⟨by omega,?_⟩)|(intro _)
 all_goals (refine hK _ ?_;clear hK K)
 all_goals
  refine zbp (zcc ?_)
  simp (disch:=omega)
  all_goals first | omega|(simp_all;done)|(simp [List.take_of_length_le];done)|((try simp_all);(try simp (disch:=omega) only [zcv,Int.tdiv_eq_ediv_of_nonneg,Int.tmod_eq_emod_of_nonneg,and_true,true_and]);done)|((try simp_all);(try simp (disch:=omega) only [zcv,Int.tdiv_eq_ediv_of_nonneg,Int.tmod_eq_emod_of_nonneg,and_true,true_and] at *);omega)
theorem zpe(a b c:Int):PCall Try.prog 45 [(.g (.int .i64 (a))),(.g (.int .i64 (b))),(.g (.int .i64 (c)))] (.g (.bool (decide (b≤a)&&decide (a≤c)))):=by
 refine zbr Try.func45 (by rfl) (by rfl) (by rw [Try.ntmps45];exact Nat.le_of_ble_eq_true rfl) rfl (by decide) ?_
 rw [Try.ntmps45]
 refine AW_k [(0,_),(1,_),(2,_)] ⟨rfl,rfl,rfl,trivial⟩ ?_
 refine AW_r rfl rfl λK hK=>?_
 simp (disch:=omega)
 repeat' first|(refine ⟨by omega,?_⟩)|(intro _)
 refine hK _ ?_;clear hK K
 refine AW_r rfl rfl λK hK=>?_
 simp (disch:=omega)
 repeat' first|(exfalso;omega)|(refine ⟨λ_=>?_,λ_=>?_⟩)|(refine ⟨by omega,?_⟩)|(intro _)
 all_goals (refine hK _ ?_;clear hK K)
 all_goals
  refine zbp (zcc ?_)
  simp (disch:=omega)
  all_goals first | omega|(simp_all;done)|(simp [List.take_of_length_le];done)|((try simp_all);(try simp (disch:=omega) only [zcv,Int.tdiv_eq_ediv_of_nonneg,Int.tmod_eq_emod_of_nonneg,and_true,true_and]);done)|((try simp_all);(try simp (disch:=omega) only [zcv,Int.tdiv_eq_ediv_of_nonneg,Int.tmod_eq_emod_of_nonneg,and_true,true_and] at *);omega)
def LoB(b:UInt8):Prop:=97≤b.toNat∧b.toNat≤122
def Word(s:List UInt8):Prop:=1≤s.length∧s.length≤8∧∀(j:Nat) b,s[j]? = some b→LoB b
def zG0:=And.intro @zbx (And.intro @zbl @zbq)
theorem l4Word(s:List UInt8):PCall Try.prog 76 [.s s] (.g (.bool (decB (Word s)))):=by
 refine zbr Try.func76 (by rfl) (by rfl) (by rw [Try.ntmps76];exact Nat.le_of_ble_eq_true rfl) rfl (by decide) ?_
 rw [Try.ntmps76]
 refine AW_k [(0,_)] ⟨rfl,trivial⟩ ?_
 refine AW_r rfl rfl λK hK=>?_
 simp (disch:=omega)
 repeat' first|(refine ⟨by omega,?_⟩)|(intro _)
 refine hK _ ?_;clear hK K
 refine zbj ?_
 refine AW_r rfl rfl λK hK=>?_
 simp (disch:=omega)
 repeat' first|(exfalso;omega)|(refine zc5 (zbg zco (zbg zco (zbg zco zbm))) (l1In _ _ _) rfl ?_;simp (disch:=omega))|(refine ⟨by omega,?_⟩)|(intro _)
 refine hK _ ?_;clear hK K
 refine zbi rfl (λhc1=>?_) (λhc1=>?_)
 ·try simp at hc1
  all_goals
   refine AW_r rfl rfl λK hK=>?_
   simp (disch:=omega)
   repeat' first|(exfalso;omega)|(refine ⟨λ_=>?_,λ_=>?_⟩)|(refine ⟨by omega,?_⟩)|(intro _)
   all_goals (refine hK _ ?_;clear hK K)
   all_goals
    refine zbp (zcc ?_)
    simp (disch:=omega)
    all_goals first|(refine zdg λh=>?_;grind [Word,LoB])|(refine zce ?_;grind [Word,LoB])
 ·try simp at hc1
  all_goals
   refine zbk ?_
   refine zbo ?_
   refine zbj ?_
   refine AW_r rfl rfl λK hK=>?_
   simp (disch:=omega)
   repeat' first|(exfalso;omega)|(refine ⟨λ_=>?_,λ_=>?_⟩)|(refine ⟨by omega,?_⟩)|(intro _)
   all_goals (refine hK _ ?_;clear hK K)
   all_goals
    refine zbn ?_
    refine zbv (λmM sS=>∃(i:Nat),mM=s.length-i∧(i≤s.length∧∀j b,j<i→s[j]? = some b→LoB b)∧sS = { env:=lkE [(0,.s s),(3,(.g (.int .i64 ((i:Nat)))))],ob:=formOb [] [] }) ?_ ?_
    ·refine ⟨_,LeS.kp [(0,.s s),(3,(.g (.int .i64 (((0):Nat)))))] (by simp [zG0,KpE];try rfl),_,0,rfl,?_,rfl⟩
     ·simp
    ·rintro mM sS ⟨i,rfl,⟨hi,hpre⟩,rfl⟩
     refine zbj ?_
     refine AW_r rfl rfl λK hK=>?_
     simp (disch:=omega)
     repeat' first|(refine ⟨by omega,?_⟩)|(intro _)
     refine hK _ ?_;clear hK K
     refine zbi rfl (λhc2=>?_) (λhc2=>?_)
     ·try simp at hc2
      all_goals
       have hg:s[i]? = some s[i]:=List.getElem?_eq_getElem (by omega)
       refine zbk ?_
       refine zbo ?_
       refine zbj ?_
       refine zbn ?_
       refine AW_r rfl rfl λK hK=>?_
       simp (disch:=omega)
       repeat' first|(exfalso;omega)|(refine ⟨λ_=>?_,λ_=>?_⟩)|(refine ⟨by omega,?_⟩)|(intro _)
       all_goals (refine hK _ ?_;clear hK K)
       all_goals
        refine zbi rfl (λhc3=>?_) (λhc3=>?_)
        ·try simp at hc3
         all_goals
          refine AW_r rfl rfl λK hK=>?_
          simp (disch:=omega)
          repeat' first|(exfalso;omega)|(refine ⟨λ_=>?_,λ_=>?_⟩)|(refine ⟨by omega,?_⟩)|(intro _)
          all_goals (refine hK _ ?_;clear hK K)
          all_goals
           refine zbp (zcc ?_)
           simp (disch:=omega)
           all_goals first|(refine zdg λh=>?_;grind [Word,LoB])|(refine zce ?_;grind [Word,LoB])
        ·try simp at hc3
         all_goals
          refine zbk ?_
          refine zbo ?_
          refine zc8 rfl rfl λK hK=>?_
          simp (disch:=omega)
          repeat' first|(exfalso;omega)|(refine ⟨λ_=>?_,λ_=>?_⟩)|(refine ⟨by omega,?_⟩)|(intro _)
          all_goals (refine hK _ ?_;clear hK K)
          all_goals
           refine ⟨_,LeS.kp [(0,.s s),(3,(.g (.int .i64 (((i+1):Nat)))))] (by simp [zG0,KpE];try rfl),_,?_,i+1,rfl,?_,rfl⟩
           ·omega
           ·refine ⟨by omega,?_⟩;grind [LoB]
     ·try simp at hc2
      all_goals
       refine zb0 ?_
       refine zbo ?_
       refine AW_r rfl rfl λK hK=>?_
       simp (disch:=omega)
       repeat' first|(exfalso;omega)|(refine ⟨λ_=>?_,λ_=>?_⟩)|(refine ⟨by omega,?_⟩)|(intro _)
       all_goals (refine hK _ ?_;clear hK K)
       all_goals
        refine zbp (zcc ?_)
        simp (disch:=omega)
        all_goals first|(refine zdg λh=>?_;grind [Word,LoB])|(refine zce ?_;grind [Word,LoB])
theorem isWord(s:List UInt8)(hs:s.length≤1048576):PCall Try.prog 88 [.s s] (.g (.bool (decB (Word s)))):=by
 refine zbr Try.func88 (by rfl) (by rfl) (by rw [Try.ntmps88];exact Nat.le_of_ble_eq_true rfl) rfl (by decide) ?_
 rw [Try.ntmps88]
 refine AW_k [(0,_)] ⟨rfl,trivial⟩ ?_
 refine AW_r rfl rfl λK hK=>?_
 simp (disch:=omega)
 repeat' first|(refine ⟨by omega,?_⟩)|(intro _)
 refine hK _ ?_;clear hK K
 refine zbj ?_
 refine AW_r rfl rfl λK hK=>?_
 simp (disch:=omega)
 repeat' first|(refine ⟨by omega,?_⟩)|(intro _)
 refine hK _ ?_;clear hK K
 refine zbn ?_
 refine zbv (λmM sS=>∃(i:Nat),mM=s.length-i∧(i≤s.length∧∀j b,j<i→s[j]? = some b→LoB b)∧sS = { env:=lkE [(0,.s s),(3,(.g (.int .i64 ((i:Nat)))))],ob:=formOb [] [] }) ?_ ?_
 ·refine ⟨_,LeS.kp [(0,.s s),(3,(.g (.int .i64 (((0):Nat)))))] (by simp [zG0,KpE];try rfl),_,0,rfl,?_,rfl⟩
  ·simp
 ·rintro mM sS ⟨i,rfl,⟨hi,hpre⟩,rfl⟩
  refine zbj ?_
  refine AW_r rfl rfl λK hK=>?_
  simp (disch:=omega)
  repeat' first|(refine ⟨by omega,?_⟩)|(intro _)
  refine hK _ ?_;clear hK K
  refine zbi rfl (λhc4=>?_) (λhc4=>?_)
  ·try simp at hc4
   all_goals
    have hg:s[i]? = some s[i]:=List.getElem?_eq_getElem (by omega)
    refine zbk ?_
    refine zbo ?_
    refine zbj ?_
    refine zbn ?_
    refine AW_r rfl rfl λK hK=>?_
    simp (disch:=omega)
    repeat' first|(exfalso;omega)|(refine ⟨λ_=>?_,λ_=>?_⟩)|(refine ⟨by omega,?_⟩)|(intro _)
    all_goals (refine hK _ ?_;clear hK K)
    all_goals
     refine zbi rfl (λhc5=>?_) (λhc5=>?_)
     ·try simp at hc5
      all_goals
       refine AW_r rfl rfl λK hK=>?_
       simp (disch:=omega)
       repeat' first|(exfalso;omega)|(refine ⟨λ_=>?_,λ_=>?_⟩)|(refine ⟨by omega,?_⟩)|(intro _)
       all_goals (refine hK _ ?_;clear hK K)
       all_goals
        refine zbp (zcc ?_)
        simp (disch:=omega)
        all_goals first|(refine zdg λh=>?_;grind [Word,LoB])|(refine zce ?_;grind [Word,LoB])|(rw [Bool.eq_iff_iff,zba];grind [Word,LoB])
     ·try simp at hc5
      all_goals
       refine zbk ?_
       refine zbo ?_
       refine zc8 rfl rfl λK hK=>?_
       simp (disch:=omega)
       repeat' first|(exfalso;omega)|(refine ⟨λ_=>?_,λ_=>?_⟩)|(refine ⟨by omega,?_⟩)|(intro _)
       all_goals (refine hK _ ?_;clear hK K)
       all_goals
        refine ⟨_,LeS.kp [(0,.s s),(3,(.g (.int .i64 (((i+1):Nat)))))] (by simp [zG0,KpE];try rfl),_,?_,i+1,rfl,?_,rfl⟩
        ·omega
        ·refine ⟨by omega,?_⟩;grind [LoB]
  ·try simp at hc4
   all_goals
    refine zb0 ?_
    refine zbo ?_
    refine AW_r rfl rfl λK hK=>?_
    simp (disch:=omega)
    repeat' first|(exfalso;omega)|(refine zc5 (zbg zco (zbg zco (zbg zco zbm))) (zpe _ _ _) rfl ?_;simp (disch:=omega))|(refine ⟨λ_=>?_,λ_=>?_⟩)|(refine ⟨by omega,?_⟩)|(intro _)
    all_goals (refine hK _ ?_;clear hK K)
    all_goals
     refine zbp (zcc ?_)
     simp (disch:=omega)
     all_goals first|(refine zdg λh=>?_;grind [Word,LoB])|(refine zce ?_;grind [Word,LoB])|(rw [Bool.eq_iff_iff,zba];grind [Word,LoB])
end Go.Proofs.Ytodmafgmdlkhoaa.Vs
end
section
namespace Go.Proofs.Ytodmafgmdlkhoaa.Vs
set_option linter.all false
set_option maxRecDepth 100000
def SnapP(p:DtCSnap):Prop:=Word p.fName∧(p.fTag=[]∨Word p.fTag)∧1≤p.fChunks.length∧p.fChunks.length≤4∧∀(j:Nat) c,p.fChunks[j]? = some c→c.length=8
noncomputable def findN(l:List DtCSnap)(name:List UInt8):Int:=idxZ (λp=>eqB p.fName name) l
def SetP(s:DtCSet):Prop:=Word s.fName∧s.fSnaps.length≤5∧∀(k:Nat) p,s.fSnaps[k]? = some p→SnapP p∧findN s.fSnaps p.fName=k
def CatP(c:DtCatalog):Prop:=c.fSets.length≤5∧∀(i:Nat) s,c.fSets[i]? = some s→SetP s∧∀t,0<i→c.fSets[i-1]? = some t→Op.bytesLess t.fName s.fName=true
def zG1:=And.intro @zcv (And.intro @gE (And.intro @tP (And.intro @zba @zbf)))
theorem l15Snap(p:DtCSnap):PCall Try.prog 77 [.agg (DtCSnap.cells p)] (.g (.bool (decB (SnapP p)))):=by
 refine zbr Try.func77 (by rfl) (by rfl) (by rw [Try.ntmps77];exact Nat.le_of_ble_eq_true rfl) rfl (by decide) ?_
 rw [Try.ntmps77]
 refine AW_k [(0,_)] ⟨rfl,trivial⟩ ?_
 refine AW_r rfl rfl λK hK=>?_
 simp (disch:=omega) [zG1,DtCSnap.cells]
 repeat' first|(refine ⟨by omega,?_⟩)|(intro _)
 refine hK _ ?_;clear hK K
 refine zbj ?_
 refine AW_r rfl rfl λK hK=>?_
 simp (disch:=omega) [zG1,DtCSnap.cells]
 repeat' first|(exfalso;omega)|(refine zc5 (zbg zf1 zbm) (l4Word _) rfl ?_;simp (disch:=omega) [zG1,DtCSnap.cells])|(refine zc5 (zbg zco (zbg zco (zbg zco zbm))) (l1In _ _ _) rfl ?_;simp (disch:=omega) [zG1,DtCSnap.cells])|(refine ⟨λ_=>?_,λ_=>?_⟩)|(refine ⟨by omega,?_⟩)|(intro _)
 all_goals (refine hK _ ?_;clear hK K)
 all_goals
  refine zbi rfl (λhc1=>?_) (λhc1=>?_)
  ·try simp at hc1
   all_goals
    refine AW_r rfl rfl λK hK=>?_
    simp (disch:=omega) [zG1,DtCSnap.cells]
    repeat' first|(exfalso;omega)|(refine ⟨λ_=>?_,λ_=>?_⟩)|(refine ⟨by omega,?_⟩)|(intro _)
    all_goals (refine hK _ ?_;clear hK K)
    all_goals
     refine zbp (zcc ?_)
     simp (disch:=omega) [zG1,DtCSnap.cells]
     all_goals first | grind [SnapP]|(refine zdg λh=>?_;grind [SnapP])|(refine zce ?_;grind [SnapP])
  ·try simp at hc1
   all_goals
    refine zbk ?_
    refine zbo ?_
    refine zbj ?_
    refine AW_r rfl rfl λK hK=>?_
    simp (disch:=omega) [zG1,DtCSnap.cells]
    repeat' first|(exfalso;omega)|(refine ⟨λ_=>?_,λ_=>?_⟩)|(refine ⟨by omega,?_⟩)|(intro _)
    all_goals (refine hK _ ?_;clear hK K)
    all_goals
     refine zbn ?_
     refine zbv (λmM sS=>∃(i:Nat),mM=p.fChunks.length-i∧(i≤p.fChunks.length∧∀j c,j<i→p.fChunks[j]? = some c→c.length=8)∧sS = { env:=lkE [(1,.ptr 32 0),(3,(.g (.int .i64 ((i:Nat)))))],ob:=upd (formOb [] []) 32 (some (.cells (DtCSnap.cells p))) }) ?_ ?_
     ·refine ⟨_,LeS.kp [(1,.ptr 32 0),(3,(.g (.int .i64 (((0):Nat)))))] (by simp [zG0,KpE];try rfl),_,0,rfl,?_,rfl⟩
      ·simp
     ·rintro mM sS ⟨i,rfl,⟨hi,hpre⟩,rfl⟩
      refine zbj ?_
      refine AW_r rfl rfl λK hK=>?_
      simp (disch:=omega) [zG1,DtCSnap.cells,cS]
      repeat' first|(refine ⟨by omega,?_⟩)|(intro _)
      refine hK _ ?_;clear hK K
      refine zbi rfl (λhc2=>?_) (λhc2=>?_)
      ·try simp at hc2
       all_goals
        have hg:p.fChunks[i]? = some p.fChunks[i]:=List.getElem?_eq_getElem (by omega)
        refine zbk ?_
        refine zbo ?_
        refine zbj ?_
        refine zbn ?_
        refine AW_r rfl rfl λK hK=>?_
        simp (disch:=omega) [zG1,DtCSnap.cells,cS]
        repeat' first|(exfalso;omega)|(refine ⟨λ_=>?_,λ_=>?_⟩)|(refine ⟨by omega,?_⟩)|(intro _)
        all_goals (refine hK _ ?_;clear hK K)
        all_goals
         refine zbi rfl (λhc3=>?_) (λhc3=>?_)
         ·try simp at hc3
          all_goals
           refine AW_r rfl rfl λK hK=>?_
           simp (disch:=omega) [zG1,DtCSnap.cells,cS]
           repeat' first|(exfalso;omega)|(refine ⟨λ_=>?_,λ_=>?_⟩)|(refine ⟨by omega,?_⟩)|(intro _)
           all_goals (refine hK _ ?_;clear hK K)
           all_goals
            refine zbp (zcc ?_)
            simp (disch:=omega) [zG1,DtCSnap.cells,cS]
            all_goals first | grind [SnapP]|(refine zdg λh=>?_;grind [SnapP])|(refine zce ?_;grind [SnapP])
         ·try simp at hc3
          all_goals
           refine zbk ?_
           refine zbo ?_
           refine zc8 rfl rfl λK hK=>?_
           simp (disch:=omega) [zG1,DtCSnap.cells,cS]
           repeat' first|(exfalso;omega)|(refine ⟨λ_=>?_,λ_=>?_⟩)|(refine ⟨by omega,?_⟩)|(intro _)
           all_goals (refine hK _ ?_;clear hK K)
           all_goals
            refine ⟨_,LeS.kp [(1,.ptr 32 0),(3,(.g (.int .i64 (((i+1):Nat)))))] (by simp [zG0,KpE];try rfl),_,?_,i+1,rfl,?_,rfl⟩
            ·omega
            ·refine ⟨by omega,?_⟩;grind
      ·try simp at hc2
       all_goals
        refine zb0 ?_
        refine zbo ?_
        refine AW_r rfl rfl λK hK=>?_
        simp (disch:=omega) [zG1,DtCSnap.cells,cS]
        repeat' first|(exfalso;omega)|(refine ⟨λ_=>?_,λ_=>?_⟩)|(refine ⟨by omega,?_⟩)|(intro _)
        all_goals (refine hK _ ?_;clear hK K)
        all_goals
         refine zbp (zcc ?_)
         simp (disch:=omega) [zG1,DtCSnap.cells,cS]
         all_goals first | grind [SnapP]|(refine zdg λh=>?_;grind [SnapP])|(refine zce ?_;grind [SnapP])
def zG2:=And.intro @zcv (And.intro @gE @tP)
theorem zvn(s:DtCSet)(name:List UInt8)(hs:s.fSnaps.length≤1048576):PCall Try.prog 78 [.agg (DtCSet.cells s),.s name] (.g (.int .i64 (findN s.fSnaps name))):=by
 refine zbr Try.func78 (by rfl) (by rfl) (by rw [Try.ntmps78];exact Nat.le_of_ble_eq_true rfl) rfl (by decide) ?_
 rw [Try.ntmps78]
 refine AW_k [(0,_),(1,_)] ⟨rfl,rfl,trivial⟩ ?_
 refine AW_r rfl rfl λK hK=>?_
 simp (disch:=omega) [zG2,DtCSet.cells]
 repeat' first|(refine ⟨by omega,?_⟩)|(intro _)
 refine hK _ ?_;clear hK K
 refine zbj ?_
 refine AW_r rfl rfl λK hK=>?_
 simp (disch:=omega) [zG2,DtCSet.cells]
 repeat' first|(refine ⟨by omega,?_⟩)|(intro _)
 refine hK _ ?_;clear hK K
 refine zbn ?_
 refine zbv (λmM sS=>∃(i:Nat),mM=s.fSnaps.length-i∧(i≤s.fSnaps.length∧∀j x,j<i→s.fSnaps[j]? = some x→eqB x.fName name=false)∧sS = { env:=lkE [(1,.s name),(2,.ptr 48 0),(5,(.g (.int .i64 ((i:Nat)))))],ob:=upd (formOb [] []) 48 (some (.cells (DtCSet.cells s))) }) ?_ ?_
 ·refine ⟨_,LeS.kp [(1,.s name),(2,.ptr 48 0),(5,(.g (.int .i64 (((0):Nat)))))] (by simp [zG0,KpE];try rfl),_,0,rfl,?_,rfl⟩
  ·simp
 ·rintro mM sS ⟨i,rfl,⟨hi,hpre⟩,rfl⟩
  refine zbj ?_
  refine AW_r rfl rfl λK hK=>?_
  simp (disch:=omega) [zG2,DtCSet.cells,DtCSnap.cells]
  repeat' first|(refine ⟨by omega,?_⟩)|(intro _)
  refine hK _ ?_;clear hK K
  refine zbi rfl (λhc4=>?_) (λhc4=>?_)
  ·try simp at hc4
   all_goals
    have hg:s.fSnaps[i]? = some s.fSnaps[i]:=List.getElem?_eq_getElem (by omega)
    refine zbk ?_
    refine zbo ?_
    refine zbj ?_
    refine zbn ?_
    refine AW_r rfl rfl λK hK=>?_
    simp (disch:=omega) [zG2,DtCSet.cells,DtCSnap.cells]
    repeat' first|(exfalso;omega)|(refine ⟨λ_=>?_,λ_=>?_⟩)|(refine ⟨by omega,?_⟩)|(intro _)
    all_goals (refine hK _ ?_;clear hK K)
    all_goals
     refine zbi rfl (λhc5=>?_) (λhc5=>?_)
     ·try simp at hc5
      all_goals
       refine AW_r rfl rfl λK hK=>?_
       simp (disch:=omega) [zG2,DtCSet.cells,DtCSnap.cells]
       repeat' first|(exfalso;omega)|(refine ⟨λ_=>?_,λ_=>?_⟩)|(refine ⟨by omega,?_⟩)|(intro _)
       all_goals (refine hK _ ?_;clear hK K)
       all_goals
        refine zbp (zcc ?_)
        simp (disch:=omega) [zG2,DtCSet.cells,DtCSnap.cells]
        all_goals first|(unfold findN;rw [zct (by assumption) (by simp_all [zbd]) hpre];done)|(unfold findN;exact (zct (by assumption) (by simp_all [zbd]) hpre))|(unfold findN;exact zdr (λj x h=>hpre j x (by omega)))
     ·try simp at hc5
      all_goals
       refine zbk ?_
       refine zbo ?_
       refine zc8 rfl rfl λK hK=>?_
       simp (disch:=omega) [zG2,DtCSet.cells,DtCSnap.cells]
       repeat' first|(exfalso;omega)|(refine ⟨λ_=>?_,λ_=>?_⟩)|(refine ⟨by omega,?_⟩)|(intro _)
       all_goals (refine hK _ ?_;clear hK K)
       all_goals
        refine ⟨_,LeS.kp [(1,.s name),(2,.ptr 48 0),(5,(.g (.int .i64 (((i+1):Nat)))))] (by simp [zG0,KpE];try rfl),_,?_,i+1,rfl,?_,rfl⟩
        ·omega
        ·refine ⟨by omega,?_⟩;grind [zbc]
  ·try simp at hc4
   all_goals
    refine zb0 ?_
    refine zbo ?_
    refine AW_r rfl rfl λK hK=>?_
    simp (disch:=omega) [zG2,DtCSet.cells,DtCSnap.cells]
    repeat' first|(exfalso;omega)|(refine ⟨λ_=>?_,λ_=>?_⟩)|(refine ⟨by omega,?_⟩)|(intro _)
    all_goals (refine hK _ ?_;clear hK K)
    all_goals
     refine zbp (zcc ?_)
     simp (disch:=omega) [zG2,DtCSet.cells,DtCSnap.cells]
     all_goals first|(unfold findN;rw [zct (by assumption) (by simp_all [zbd]) hpre];done)|(unfold findN;exact (zct (by assumption) (by simp_all [zbd]) hpre))|(unfold findN;exact zdr (λj x h=>hpre j x (by omega)))
theorem zmq(c:DtCatalog)(hs:DtCatalog.sz c≤1048576):PCall Try.prog 37 [.agg (DtCatalog.cells c)] (.g (.bool (decB (CatP c)))):=by
 have hl:c.fSets.length≤1048576:=by have:=zcd DtCSet.sz_nonneg c.fSets;simp only [DtCatalog.sz,szS] at hs;omega
 have hl2:∀i (h:i<c.fSets.length),c.fSets[i].fSnaps.length≤1048576:=by
  intro i h
  have h1:=zdk DtCSet.sz_nonneg c.fSets c.fSets[i] (List.getElem_mem _)
  have h2:=zcd DtCSnap.sz_nonneg c.fSets[i].fSnaps
  simp only [DtCatalog.sz,szS] at hs
  simp only [DtCSet.sz,szS] at h1
  omega
 refine zbr Try.func37 (by rfl) (by rfl) (by rw [Try.ntmps37];exact Nat.le_of_ble_eq_true rfl) rfl (by decide) ?_
 rw [Try.ntmps37]
 refine AW_k [(0,_)] ⟨rfl,trivial⟩ ?_
 refine AW_r rfl rfl λK hK=>?_
 simp (disch:=omega) [zG1,DtCatalog.cells,DtCSet.cells,DtCSnap.cells]
 repeat' first|(refine ⟨by omega,?_⟩)|(intro _)
 refine hK _ ?_;clear hK K
 refine zbj ?_
 refine AW_r rfl rfl λK hK=>?_
 simp (disch:=omega) [zG1,DtCatalog.cells,DtCSet.cells,DtCSnap.cells]
 repeat' first|(refine ⟨by omega,?_⟩)|(intro _)
 refine hK _ ?_;clear hK K
 refine zbi rfl (λhc6=>?_) (λhc6=>?_)
 ·try simp at hc6
  all_goals
   refine AW_r rfl rfl λK hK=>?_
   simp (disch:=omega) [zG1,DtCatalog.cells,DtCSet.cells,DtCSnap.cells]
   repeat' first|(exfalso;omega)|(refine ⟨λ_=>?_,λ_=>?_⟩)|(refine ⟨by omega,?_⟩)|(intro _)
   all_goals (refine hK _ ?_;clear hK K)
   all_goals
    refine zbp (zcc ?_)
    simp (disch:=omega) [zG1,DtCatalog.cells,DtCSet.cells,DtCSnap.cells]
    all_goals first | grind [CatP,SetP]|(refine zdg λh=>?_;grind [CatP,SetP])|(refine zce ?_;grind [CatP,SetP])
 ·try simp at hc6
  all_goals
   refine zbk ?_
   refine zbo ?_
   refine zbj ?_
   refine AW_r rfl rfl λK hK=>?_
   simp (disch:=omega) [zG1,DtCatalog.cells,DtCSet.cells,DtCSnap.cells]
   repeat' first|(exfalso;omega)|(refine ⟨λ_=>?_,λ_=>?_⟩)|(refine ⟨by omega,?_⟩)|(intro _)
   all_goals (refine hK _ ?_;clear hK K)
   all_goals
    refine zbn ?_
    refine zbv (λmM sS=>∃(i:Nat),mM=c.fSets.length-i∧(i≤c.fSets.length∧∀j s,j<i→c.fSets[j]? = some s→SetP s∧∀t,0<j→c.fSets[j-1]? = some t→Op.bytesLess t.fName s.fName=true)∧sS = { env:=lkE [(1,.ptr 32 0),(3,(.g (.int .i64 ((i:Nat)))))],ob:=lk [(32,.cells (DtCatalog.cells c))] }) ?_ ?_
    ·refine ⟨_,LeS.ko [(1,.ptr 32 0),(3,(.g (.int .i64 (((0):Nat)))))] [(32,.cells (DtCatalog.cells c))] (by simp [zG0,KpE,DtCatalog.cells,DtCSet.cells];try rfl) (by simp [KpO,zbx,zbq,zbz,zca,DtCatalog.cells,DtCSet.cells];try rfl) (by rfl) (by simp) (by rfl),_,0,rfl,?_,rfl⟩
     ·simp
    ·rintro mM sS ⟨i,rfl,⟨hi,hpre⟩,rfl⟩
     refine zbj ?_
     refine AW_r rfl rfl λK hK=>?_
     simp (disch:=omega) [zG1,DtCatalog.cells,DtCSet.cells,DtCSnap.cells]
     repeat' first|(refine ⟨by omega,?_⟩)|(intro _)
     refine hK _ ?_;clear hK K
     refine zbi rfl (λhc7=>?_) (λhc7=>?_)
     ·try simp at hc7
      all_goals
       have hg:c.fSets[i]? = some (c.fSets[i]):=List.getElem?_eq_getElem (by omega)
       have hg':c.fSets[i-1]? = some (c.fSets[i-1]):=List.getElem?_eq_getElem (by omega)
       have hl2':=hl2 i (by omega)
       rcases Nat.eq_zero_or_pos i with hi0 | hi0
       all_goals
        refine zbk ?_
        refine zbo ?_
        refine zbj ?_
        refine zbn ?_
        refine AW_r rfl rfl λK hK=>?_
        simp (disch:=omega) [zG1,DtCatalog.cells,DtCSet.cells,DtCSnap.cells]
        repeat' first|(exfalso;omega)|(refine ⟨λ_=>?_,λ_=>?_⟩)|(refine ⟨by omega,?_⟩)|(intro _)
        all_goals (refine hK _ ?_;clear hK K)
        all_goals
         refine zbj ?_
         refine AW_q rfl mix (by kernel_rfl) rfl λK hK=>?_
         simp (disch:=omega) [zG1,DtCatalog.cells,DtCSet.cells,DtCSnap.cells]
         repeat' first|(exfalso;omega)|(refine zc5 (zbg zf1 zbm) (l4Word _) rfl ?_;simp (disch:=omega) [zG1,DtCatalog.cells,DtCSet.cells,DtCSnap.cells])|(refine ⟨λ_=>?_,λ_=>?_⟩)|(refine ⟨by omega,?_⟩)|(intro _)
         all_goals (refine hK _ ?_;clear hK K)
         all_goals
          refine zbi rfl (λhc8=>?_) (λhc8=>?_)
          ·try simp at hc8
           all_goals
            refine AW_r rfl rfl λK hK=>?_
            simp (disch:=omega) [zG1,DtCatalog.cells,DtCSet.cells,DtCSnap.cells]
            repeat' first|(exfalso;omega)|(refine ⟨λ_=>?_,λ_=>?_⟩)|(refine ⟨by omega,?_⟩)|(intro _)
            all_goals (refine hK _ ?_;clear hK K)
            all_goals
             refine zbp (zcc ?_)
             simp (disch:=omega) [zG1,DtCatalog.cells,DtCSet.cells,DtCSnap.cells]
             all_goals first | grind [CatP,SetP]|(refine zdg λh=>?_;grind [CatP,SetP])|(refine zce ?_;grind [CatP,SetP])
          ·try simp at hc8
           all_goals
            refine zbk ?_
            refine zbo ?_
            refine AW_r rfl rfl λK hK=>?_
            simp (disch:=omega) [zG1,DtCatalog.cells,DtCSet.cells,DtCSnap.cells]
            repeat' first|(exfalso;omega)|(refine ⟨λ_=>?_,λ_=>?_⟩)|(refine ⟨by omega,?_⟩)|(intro _)
            all_goals (refine hK _ ?_;clear hK K)
            all_goals
             refine zbn ?_
             refine zbv (λmM sS=>∃(k:Nat),mM=(c.fSets[i]).fSnaps.length-k∧(k≤(c.fSets[i]).fSnaps.length∧∀j p,j<k→(c.fSets[i]).fSnaps[j]? = some p→SnapP p∧findN (c.fSets[i]).fSnaps p.fName=j)∧sS = { env:=lkE [(1,.ptr 32 0),(3,(.g (.int .i64 ((i:Nat))))),(4,.ptr 80 0),(5,(.g (.int .i64 ((k:Nat)))))],ob:=lk [(32,.cells (DtCatalog.cells c)),(80,.cells (DtCSet.cells c.fSets[i]))] }) ?_ ?_
             ·refine ⟨_,LeS.ko [(1,.ptr 32 0),(3,(.g (.int .i64 ((i:Nat))))),(4,.ptr 80 0),(5,(.g (.int .i64 (((0):Nat)))))] [(32,.cells (DtCatalog.cells c)),(80,.cells (DtCSet.cells c.fSets[i]))] (by simp [zG0,KpE,DtCatalog.cells,DtCSet.cells];try rfl) (by simp [KpO,zbx,zbq,zbz,zca,DtCatalog.cells,DtCSet.cells];try rfl) (by rfl) (by simp) (by rfl),_,0,rfl,?_,rfl⟩
              ·simp
             ·rintro mM sS ⟨k,rfl,⟨hk,hkre⟩,rfl⟩
              refine zbj ?_
              refine AW_r rfl rfl λK hK=>?_
              simp (disch:=omega) [zG1,DtCatalog.cells,DtCSet.cells,DtCSnap.cells]
              repeat' first|(refine ⟨by omega,?_⟩)|(intro _)
              refine hK _ ?_;clear hK K
              refine zbi rfl (λhc9=>?_) (λhc9=>?_)
              ·try simp at hc9
               all_goals
                have hg2:(c.fSets[i]).fSnaps[k]? = some ((c.fSets[i]).fSnaps[k]):=List.getElem?_eq_getElem (by omega)
                refine zbk ?_
                refine zbo ?_
                refine zbj ?_
                refine zbn ?_
                refine AW_q rfl mix (by kernel_rfl) rfl λK hK=>?_
                simp (disch:=omega) [zG1,DtCatalog.cells,DtCSet.cells,DtCSnap.cells]
                repeat' first|(exfalso;omega)|(refine zc5 (zbg (zbw rfl) zbm) (l15Snap _) rfl ?_;simp (disch:=omega) [zG1,DtCatalog.cells,DtCSet.cells,DtCSnap.cells])|(refine zc5 (zbg (zbw rfl) (zbg zf1 zbm)) (zvn _ _ (by omega)) rfl ?_;simp (disch:=omega) [zG1,DtCatalog.cells,DtCSet.cells,DtCSnap.cells])|(refine ⟨λ_=>?_,λ_=>?_⟩)|(refine ⟨by omega,?_⟩)|(intro _)
                all_goals (refine hK _ ?_;clear hK K)
                all_goals
                 refine zbi rfl (λhc10=>?_) (λhc10=>?_)
                 ·try simp at hc10
                  all_goals
                   refine AW_r rfl rfl λK hK=>?_
                   simp (disch:=omega) [zG1,DtCatalog.cells,DtCSet.cells,DtCSnap.cells]
                   repeat' first|(exfalso;omega)|(refine ⟨λ_=>?_,λ_=>?_⟩)|(refine ⟨by omega,?_⟩)|(intro _)
                   all_goals (refine hK _ ?_;clear hK K)
                   all_goals
                    refine zbp (zcc ?_)
                    simp (disch:=omega) [zG1,DtCatalog.cells,DtCSet.cells,DtCSnap.cells]
                    all_goals first | grind [CatP,SetP]|(refine zdg λh=>?_;grind [CatP,SetP])|(refine zce ?_;grind [CatP,SetP])
                 ·try simp at hc10
                  all_goals
                   refine zbk ?_
                   refine zbo ?_
                   refine zc8 rfl rfl λK hK=>?_
                   simp (disch:=omega) [zG1,DtCatalog.cells,DtCSet.cells,DtCSnap.cells]
                   repeat' first|(exfalso;omega)|(refine ⟨λ_=>?_,λ_=>?_⟩)|(refine ⟨by omega,?_⟩)|(intro _)
                   all_goals (refine hK _ ?_;clear hK K)
                   all_goals
                    refine ⟨_,LeS.ko [(1,.ptr 32 0),(3,(.g (.int .i64 ((i:Nat))))),(4,.ptr 80 0),(5,(.g (.int .i64 (((k+1):Nat)))))] [(32,.cells (DtCatalog.cells c)),(80,.cells (DtCSet.cells c.fSets[i]))] (by simp [zG0,KpE,DtCatalog.cells,DtCSet.cells];try rfl) (by simp [KpO,zbx,zbq,zbz,zca,DtCatalog.cells,DtCSet.cells];try rfl) (by rfl) (by simp) (by rfl),_,?_,k+1,rfl,?_,rfl⟩
                    ·omega
                    ·refine ⟨by omega,?_⟩;clear hl2;grind
              ·try simp at hc9
               all_goals
                refine zb0 ?_
                refine zbo ?_
                refine zc8 rfl rfl λK hK=>?_
                simp (disch:=omega) [zG1,DtCatalog.cells,DtCSet.cells,DtCSnap.cells]
                repeat' first|(exfalso;omega)|(refine ⟨λ_=>?_,λ_=>?_⟩)|(refine ⟨by omega,?_⟩)|(intro _)
                all_goals (refine hK _ ?_;clear hK K)
                all_goals
                 refine ⟨_,LeS.ko [(1,.ptr 32 0),(3,(.g (.int .i64 (((i+1):Nat)))))] [(32,.cells (DtCatalog.cells c))] (by simp [zG0,KpE,DtCatalog.cells,DtCSet.cells];try rfl) (by simp [KpO,zbx,zbq,zbz,zca,DtCatalog.cells,DtCSet.cells];try rfl) (by rfl) (by simp) (by rfl),_,?_,i+1,rfl,?_,rfl⟩
                 ·omega
                 ·refine ⟨by omega,?_⟩;clear hg' hl2;grind [SetP]
     ·try simp at hc7
      all_goals
       refine zb0 ?_
       refine zbo ?_
       refine AW_r rfl rfl λK hK=>?_
       simp (disch:=omega) [zG1,DtCatalog.cells,DtCSet.cells,DtCSnap.cells]
       repeat' first|(exfalso;omega)|(refine ⟨λ_=>?_,λ_=>?_⟩)|(refine ⟨by omega,?_⟩)|(intro _)
       all_goals (refine hK _ ?_;clear hK K)
       all_goals
        refine zbp (zcc ?_)
        simp (disch:=omega) [zG1,DtCatalog.cells,DtCSet.cells,DtCSnap.cells]
        all_goals first | grind [CatP,SetP]|(refine zdg λh=>?_;grind [CatP,SetP])|(refine zce ?_;grind [CatP,SetP])
def Ch8(l:List (List UInt8)):Prop:=∀(j:Nat) c,l[j]? = some c→c.length=8
theorem zsc(l:List (List UInt8))(hs:l.length≤1048576):PCall Try.prog 61 [.sl 1 (l.map cS)] (.g (.bool (decB (Ch8 l)))):=by
 refine zbr Try.func61 (by rfl) (by rfl) (by rw [Try.ntmps61];exact Nat.le_of_ble_eq_true rfl) rfl (by decide) ?_
 rw [Try.ntmps61]
 refine AW_k [(0,_)] ⟨rfl,trivial⟩ ?_
 refine AW_r rfl rfl λK hK=>?_
 simp (disch:=omega) [zG2,cS]
 repeat' first|(refine ⟨by omega,?_⟩)|(intro _)
 refine hK _ ?_;clear hK K
 refine zbj ?_
 refine AW_r rfl rfl λK hK=>?_
 simp (disch:=omega) [zG2,cS]
 repeat' first|(refine ⟨by omega,?_⟩)|(intro _)
 refine hK _ ?_;clear hK K
 refine zbn ?_
 refine zbv (λmM sS=>∃(i:Nat),mM=l.length-i∧(i≤l.length∧∀(j:Nat) c,j<i→l[j]? = some c→c.length=8)∧sS = { env:=lkE [(5,.sl 1 (l.map cS)),(6,(.g (.int .i64 ((l.length:Nat))))),(7,(.g (.int .i64 ((i:Nat)))))],ob:=formOb [] [] }) ?_ ?_
 ·refine ⟨_,LeS.kp [(5,.sl 1 (l.map cS)),(6,(.g (.int .i64 ((l.length:Nat))))),(7,(.g (.int .i64 (((0):Nat)))))] (by simp [zG0,KpE];try rfl),_,0,rfl,?_,rfl⟩
  ·simp
 ·rintro mM sS ⟨i,rfl,⟨hi,hpre⟩,rfl⟩
  refine AW_r rfl rfl λK hK=>?_
  simp (disch:=omega) [zG2,cS]
  repeat' first|(refine ⟨by omega,?_⟩)|(intro _)
  refine hK _ ?_;clear hK K
  refine zbj ?_
  refine zbi rfl (λhc11=>?_) (λhc11=>?_)
  ·try simp at hc11
   all_goals
    have hg:l[i]? = some (l[i]):=List.getElem?_eq_getElem (by omega)
    refine zbk ?_
    refine zbo ?_
    refine zbj ?_
    refine zbn ?_
    refine AW_r rfl rfl λK hK=>?_
    simp (disch:=omega) [zG2,cS]
    repeat' first|(exfalso;omega)|(refine ⟨λ_=>?_,λ_=>?_⟩)|(refine ⟨by omega,?_⟩)|(intro _)
    all_goals (refine hK _ ?_;clear hK K)
    all_goals
     refine AW_r rfl rfl λK hK=>?_
     simp (disch:=omega) [zG2,cS]
     repeat' first|(refine ⟨by omega,?_⟩)|(intro _)
     refine hK _ ?_;clear hK K
     refine zbi rfl (λhc12=>?_) (λhc12=>?_)
     ·try simp at hc12
      all_goals
       refine AW_r rfl rfl λK hK=>?_
       simp (disch:=omega) [zG2,cS]
       repeat' first|(exfalso;omega)|(refine ⟨λ_=>?_,λ_=>?_⟩)|(refine ⟨by omega,?_⟩)|(intro _)
       all_goals (refine hK _ ?_;clear hK K)
       all_goals
        refine zbp (zcc ?_)
        simp (disch:=omega) [zG2,cS]
        all_goals first|(refine zdg λh=>?_;grind [Ch8])|(refine zce ?_;grind [Ch8])
     ·try simp at hc12
      all_goals
       refine zbk ?_
       refine zbo ?_
       refine zc8 rfl rfl λK hK=>?_
       simp (disch:=omega) [zG2,cS]
       repeat' first|(exfalso;omega)|(refine ⟨λ_=>?_,λ_=>?_⟩)|(refine ⟨by omega,?_⟩)|(intro _)
       all_goals (refine hK _ ?_;clear hK K)
       all_goals
        refine ⟨_,LeS.kp [(5,.sl 1 (l.map cS)),(6,(.g (.int .i64 ((l.length:Nat))))),(7,(.g (.int .i64 (((i+1):Nat)))))] (by simp [zG0,KpE];try rfl),_,?_,i+1,rfl,?_,rfl⟩
        ·omega
        ·refine ⟨by omega,?_⟩;grind
  ·try simp at hc11
   all_goals
    refine zb0 ?_
    refine zbo ?_
    refine AW_r rfl rfl λK hK=>?_
    simp (disch:=omega) [zG2,cS]
    repeat' first|(exfalso;omega)|(refine ⟨λ_=>?_,λ_=>?_⟩)|(refine ⟨by omega,?_⟩)|(intro _)
    all_goals (refine hK _ ?_;clear hK K)
    all_goals
     refine zbp (zcc ?_)
     simp (disch:=omega) [zG2,cS]
     all_goals first|(refine zdg λh=>?_;grind [Ch8])|(refine zce ?_;grind [Ch8])
theorem snap1(p:DtCSnap)(name:List UInt8):GCall Try.prog 104 [.agg (DtCSnap.cells p),.ptr 0 0] [[.s name]] [] (.g (.bool (eqB p.fName name))) []:=by
 refine zbr Try.func104 (by rfl) (by rfl) (by rw [Try.ntmps104];exact Nat.le_of_ble_eq_true rfl) rfl (by decide) ?_
 rw [Try.ntmps104]
 refine AW_k [(0,_),(1,_)] ⟨rfl,rfl,trivial⟩ ?_
 refine AW_r rfl rfl λK hK=>?_
 simp [DtCSnap.cells]
 repeat' first|(refine ⟨by omega,?_⟩)|(intro _)
 refine hK _ ?_;clear hK K
 refine AW_r rfl rfl λK hK=>?_
 simp [DtCSnap.cells]
 repeat' first|(refine ⟨by omega,?_⟩)|(intro _)
 refine hK _ ?_;clear hK K
 refine zbp (zcc ?_)
 simp [DtCSnap.cells]
 all_goals first|(rw [Bool.eq_iff_iff,zbd];simp;done)|(rw [eqB];simp)
theorem zns{F:FuncId}{name:List UInt8}{p:DtCSnap→Bool}(xs:List DtCSnap)(hn:xs.length≤1048576)(hf:∀x,GCall Try.prog F [.agg (DtCSnap.cells x),.ptr 0 0] [[.s name]] [] (.g (.bool (p x))) []):GCall Try.prog 103 [.sl 3 (xs.map DtCSnap.cells),.fn F [] [.ptr 0 0]] [[.s name]] [] (.g (.int .i64 (idxZ p xs))) []:=by
 refine zbr Try.func103 (by rfl) (by rfl) (by rw [Try.ntmps103];exact Nat.le_of_ble_eq_true rfl) rfl (by decide) ?_
 rw [Try.ntmps103]
 refine AW_k [(0,_),(1,_)] ⟨rfl,rfl,trivial⟩ ?_
 refine AW_r rfl rfl λK hK=>?_
 simp (disch:=omega) [zG2,DtCSnap.cells]
 repeat' first|(refine zdb 0 (.inr rfl) (zb4 [.s name] rfl) (zbg (zbw rfl) (zbg zcq zbm)) (hf _) rfl ?_;try simp (disch:=omega) [zG2,DtCSnap.cells])|(refine ⟨by omega,?_⟩)|(intro _)
 refine hK _ ?_;clear hK K
 refine zbj ?_
 refine AW_r rfl rfl λK hK=>?_
 simp (disch:=omega) [zG2,DtCSnap.cells]
 repeat' first|(refine zdb 0 (.inr rfl) (zb4 [.s name] rfl) (zbg (zbw rfl) (zbg zcq zbm)) (hf _) rfl ?_;try simp (disch:=omega) [zG2,DtCSnap.cells])|(refine ⟨by omega,?_⟩)|(intro _)
 refine hK _ ?_;clear hK K
 refine zbn ?_
 refine zbv (λmM sS=>∃(i:Nat),mM=xs.length-i∧(i≤xs.length∧∀j x,j<i→xs[j]? = some x→p x=false)∧sS = { env:=lkE [(0,.sl 3 (xs.map DtCSnap.cells)),(1,.fn F [] [.ptr 0 0]),(6,.sl 3 (xs.map DtCSnap.cells)),(7,(.g (.int .i64 ((xs.length:Nat))))),(8,(.g (.int .i64 ((i:Nat)))))],ob:=formOb [[.s name]] [] }) ?_ ?_
 ·refine ⟨_,LeS.kp [(0,.sl 3 (xs.map DtCSnap.cells)),(1,.fn F [] [.ptr 0 0]),(6,.sl 3 (xs.map DtCSnap.cells)),(7,(.g (.int .i64 ((xs.length:Nat))))),(8,(.g (.int .i64 (((0):Nat)))))] (by simp [zG0,KpE];try rfl),_,0,rfl,?_,rfl⟩
  ·simp
 ·rintro mM sS ⟨i,rfl,⟨hi,hpre⟩,rfl⟩
  refine AW_r rfl rfl λK hK=>?_
  simp (disch:=omega) [zG2,DtCSnap.cells]
  repeat' first|(refine zdb 0 (.inr rfl) (zb4 [.s name] rfl) (zbg (zbw rfl) (zbg zcq zbm)) (hf _) rfl ?_;try simp (disch:=omega) [zG2,DtCSnap.cells])|(refine ⟨by omega,?_⟩)|(intro _)
  refine hK _ ?_;clear hK K
  refine zbj ?_
  refine zbi rfl (λhc13=>?_) (λhc13=>?_)
  ·try simp at hc13
   all_goals
    have hg:xs[i]? = some (xs[i]):=List.getElem?_eq_getElem (by omega)
    refine zbk ?_
    refine zbo ?_
    refine zbj ?_
    refine zbn ?_
    refine AW_r rfl rfl λK hK=>?_
    simp (disch:=omega) [zG2,DtCSnap.cells]
    repeat' first|(exfalso;omega)|(refine zdb 0 (.inr rfl) (zb4 [.s name] rfl) (zbg (zbw rfl) (zbg zcq zbm)) (hf _) rfl ?_;try simp (disch:=omega) [zG2,DtCSnap.cells])|(refine ⟨λ_=>?_,λ_=>?_⟩)|(refine ⟨by omega,?_⟩)|(intro _)
    all_goals (refine hK _ ?_;clear hK K)
    all_goals
     refine AW_r rfl rfl λK hK=>?_
     simp (disch:=omega) [zG2,DtCSnap.cells]
     repeat' first|(refine zdb 0 (.inr rfl) (zb4 [.s name] rfl) (zbg (zbw rfl) (zbg zcq zbm)) (hf _) rfl ?_;try simp (disch:=omega) [zG2,DtCSnap.cells])|(refine ⟨by omega,?_⟩)|(intro _)
     refine hK _ ?_;clear hK K
     refine zbi rfl (λhc14=>?_) (λhc14=>?_)
     ·try simp at hc14
      all_goals
       refine AW_r rfl rfl λK hK=>?_
       simp (disch:=omega) [zG2,DtCSnap.cells]
       repeat' first|(exfalso;omega)|(refine zdb 0 (.inr rfl) (zb4 [.s name] rfl) (zbg (zbw rfl) (zbg zcq zbm)) (hf _) rfl ?_;try simp (disch:=omega) [zG2,DtCSnap.cells])|(refine ⟨λ_=>?_,λ_=>?_⟩)|(refine ⟨by omega,?_⟩)|(intro _)
       all_goals (refine hK _ ?_;clear hK K)
       all_goals
        refine zbp (zcc ?_)
        simp (disch:=omega) [zG2,DtCSnap.cells]
        all_goals first|(exact zct (by assumption) (by assumption) hpre)|(exact zdr (λj x h=>hpre j x (by omega)))
     ·try simp at hc14
      all_goals
       refine zbk ?_
       refine zbo ?_
       refine zc8 rfl rfl λK hK=>?_
       simp (disch:=omega) [zG2,DtCSnap.cells]
       repeat' first|(exfalso;omega)|(refine zdb 0 (.inr rfl) (zb4 [.s name] rfl) (zbg (zbw rfl) (zbg zcq zbm)) (hf _) rfl ?_;try simp (disch:=omega) [zG2,DtCSnap.cells])|(refine ⟨λ_=>?_,λ_=>?_⟩)|(refine ⟨by omega,?_⟩)|(intro _)
       all_goals (refine hK _ ?_;clear hK K)
       all_goals
        refine ⟨_,LeS.kp [(0,.sl 3 (xs.map DtCSnap.cells)),(1,.fn F [] [.ptr 0 0]),(6,.sl 3 (xs.map DtCSnap.cells)),(7,(.g (.int .i64 ((xs.length:Nat))))),(8,(.g (.int .i64 (((i+1):Nat)))))] (by simp [zG0,KpE];try rfl),_,?_,i+1,rfl,?_,rfl⟩
        ·omega
        ·refine ⟨by omega,?_⟩;grind
  ·try simp at hc13
   all_goals
    refine zb0 ?_
    refine zbo ?_
    refine AW_r rfl rfl λK hK=>?_
    simp (disch:=omega) [zG2,DtCSnap.cells]
    repeat' first|(exfalso;omega)|(refine zdb 0 (.inr rfl) (zb4 [.s name] rfl) (zbg (zbw rfl) (zbg zcq zbm)) (hf _) rfl ?_;try simp (disch:=omega) [zG2,DtCSnap.cells])|(refine ⟨λ_=>?_,λ_=>?_⟩)|(refine ⟨by omega,?_⟩)|(intro _)
    all_goals (refine hK _ ?_;clear hK K)
    all_goals
     refine zbp (zcc ?_)
     simp (disch:=omega) [zG2,DtCSnap.cells]
     all_goals first|(exact zct (by assumption) (by assumption) hpre)|(exact zdr (λj x h=>hpre j x (by omega)))
theorem snap(s:DtCSet)(name:List UInt8)(hs:s.fSnaps.length≤1048576):PCall Try.prog 93 [.agg (DtCSet.cells s),.s name] (.g (.int .i64 (findN s.fSnaps name))):=by
 refine zbr Try.func93 (by rfl) (by rfl) (by rw [Try.ntmps93];exact Nat.le_of_ble_eq_true rfl) rfl (by decide) ?_
 rw [Try.ntmps93]
 refine AW_k [(0,_),(1,_)] ⟨rfl,rfl,trivial⟩ ?_
 refine AW_r rfl rfl λK hK=>?_
 simp [DtCSet.cells]
 repeat' first|(refine ⟨by omega,?_⟩)|(intro _)
 refine hK _ ?_;clear hK K
 refine AW_r rfl rfl λK hK=>?_
 simp [DtCSet.cells]
 repeat' first|(refine zdb 64 (.inl rfl) (zb4 [.s name] rfl) (zbg zf8 (zbg zt0 zbm)) (zns _ hs (λx=>snap1 x name)) rfl ?_;simp [DtCSet.cells])|(refine ⟨by omega,?_⟩)|(intro _)
 refine hK _ ?_;clear hK K
 refine zbp (zcc ?_)
 simp [DtCSet.cells,findN]
 all_goals first | omega|(simp_all;done)|(simp [List.take_of_length_le];done)|((try simp_all);(try simp (disch:=omega) only [zcv,Int.tdiv_eq_ediv_of_nonneg,Int.tmod_eq_emod_of_nonneg,and_true,true_and]);done)|((try simp_all);(try simp (disch:=omega) only [zcv,Int.tdiv_eq_ediv_of_nonneg,Int.tmod_eq_emod_of_nonneg,and_true,true_and] at *);omega)
theorem setOk(s:DtCSet)(hs:DtCSet.sz s≤1048576):PCall Try.prog 86 [.agg (DtCSet.cells s)] (.g (.bool (decB (SetP s)))):=by
 have hl:s.fSnaps.length≤1048576:=by have:=zcd DtCSnap.sz_nonneg s.fSnaps;simp only [DtCSet.sz,szS] at hs;omega
 have hw:s.fName.length≤1048576:=by have:=zcd DtCSnap.sz_nonneg s.fSnaps;simp only [DtCSet.sz,szS] at hs;omega
 have hsn:∀k (h:k<s.fSnaps.length),s.fSnaps[k].fName.length≤1048576∧s.fSnaps[k].fTag.length≤1048576∧s.fSnaps[k].fChunks.length≤1048576:=by
  intro k h
  have h1:=zdk DtCSnap.sz_nonneg s.fSnaps s.fSnaps[k] (List.getElem_mem _)
  have h2:=zcd zdw s.fSnaps[k].fChunks
  simp only [DtCSet.sz,szS] at hs
  simp only [DtCSnap.sz,szS] at h1
  omega
 refine zbr Try.func86 (by rfl) (by rfl) (by rw [Try.ntmps86];exact Nat.le_of_ble_eq_true rfl) rfl (by decide) ?_
 rw [Try.ntmps86]
 refine AW_k [(0,_)] ⟨rfl,trivial⟩ ?_
 refine AW_r rfl rfl λK hK=>?_
 simp (disch:=omega) [zG1,DtCSet.cells,DtCSnap.cells]
 repeat' first|(refine ⟨by omega,?_⟩)|(intro _)
 refine hK _ ?_;clear hK K
 refine zbj ?_
 refine AW_r rfl rfl λK hK=>?_
 simp (disch:=omega) [zG1,DtCSet.cells,DtCSnap.cells]
 repeat' first|(refine ⟨by omega,?_⟩)|(intro _)
 refine hK _ ?_;clear hK K
 refine zbn ?_
 refine zbv (λmM sS=>∃(k:Nat),mM=s.fSnaps.length-k∧(k≤s.fSnaps.length∧∀j p,j<k→s.fSnaps[j]? = some p→SnapP p∧findN s.fSnaps p.fName=j)∧sS = { env:=lkE [(1,.ptr 32 0),(6,.sl 3 (s.fSnaps.map DtCSnap.cells)),(7,(.g (.int .i64 ((s.fSnaps.length:Nat))))),(8,(.g (.int .i64 ((k:Nat)))))],ob:=lk [(32,.cells (DtCSet.cells s))] }) ?_ ?_
 ·refine ⟨_,LeS.ko [(1,.ptr 32 0),(6,.sl 3 (s.fSnaps.map DtCSnap.cells)),(7,(.g (.int .i64 ((s.fSnaps.length:Nat))))),(8,(.g (.int .i64 (((0):Nat)))))] [(32,.cells (DtCSet.cells s))] (by simp [zG0,KpE,DtCSet.cells];try rfl) (by simp [KpO,zbx,zbq,zbz,zca,DtCSet.cells];try rfl) (by rfl) (by simp) (by rfl),_,0,rfl,?_,rfl⟩
  ·simp
 ·rintro mM sS ⟨k,rfl,⟨hk,hkre⟩,rfl⟩
  refine AW_r rfl rfl λK hK=>?_
  simp (disch:=omega) [zG1,DtCSet.cells,DtCSnap.cells]
  repeat' first|(refine ⟨by omega,?_⟩)|(intro _)
  refine hK _ ?_;clear hK K
  refine zbj ?_
  refine zbi rfl (λhc15=>?_) (λhc15=>?_)
  ·try simp at hc15
   all_goals
    have hg2:s.fSnaps[k]? = some (s.fSnaps[k]):=List.getElem?_eq_getElem (by omega)
    have hm:=hsn k (by omega)
    refine zbk ?_
    refine zbo ?_
    refine zbj ?_
    refine zbn ?_
    refine AW_r rfl rfl λK hK=>?_
    simp (disch:=omega) [zG1,DtCSet.cells,DtCSnap.cells]
    repeat' first|(exfalso;omega)|(refine ⟨λ_=>?_,λ_=>?_⟩)|(refine ⟨by omega,?_⟩)|(intro _)
    all_goals (refine hK _ ?_;clear hK K)
    all_goals
     refine AW_r rfl rfl λK hK=>?_
     simp (disch:=omega) [zG1,DtCSet.cells,DtCSnap.cells]
     repeat' first|(exfalso;omega)|(refine zc5 (zbg zf1 zbm) (isWord _ (by omega)) rfl ?_;simp (disch:=omega) [zG1,DtCSet.cells,DtCSnap.cells])|(refine zc5 (zbg zco (zbg zco (zbg zco zbm))) (zpe _ _ _) rfl ?_;simp (disch:=omega) [zG1,DtCSet.cells,DtCSnap.cells])|(refine zc5 (zbg zf8 zbm) (zsc _ (by omega)) rfl ?_;simp (disch:=omega) [zG1,DtCSet.cells,DtCSnap.cells])|(refine zc5 (zbg (zbw rfl) (zbg zf1 zbm)) (snap _ _ (by omega)) rfl ?_;simp (disch:=omega) [zG1,DtCSet.cells,DtCSnap.cells])|(refine ⟨λ_=>?_,λ_=>?_⟩)|(refine ⟨by omega,?_⟩)|(intro _)
     all_goals (refine hK _ ?_;clear hK K)
     all_goals
      refine zbi rfl (λhc16=>?_) (λhc16=>?_)
      ·try simp at hc16
       all_goals
        refine AW_r rfl rfl λK hK=>?_
        simp (disch:=omega) [zG1,DtCSet.cells,DtCSnap.cells]
        repeat' first|(exfalso;omega)|(refine ⟨λ_=>?_,λ_=>?_⟩)|(refine ⟨by omega,?_⟩)|(intro _)
        all_goals (refine hK _ ?_;clear hK K)
        all_goals
         refine zbp (zcc ?_)
         simp (disch:=omega) [zG1,DtCSet.cells,DtCSnap.cells]
         all_goals first | grind [SetP,SnapP,Ch8]|(refine zdg λh=>?_;grind [SetP,SnapP,Ch8])|(refine zce ?_;grind [SetP,SnapP,Ch8])|(rw [Bool.eq_iff_iff,zba];simp [zba];grind [SetP,SnapP,Ch8])
      ·try simp at hc16
       all_goals
        refine zbk ?_
        refine zbo ?_
        refine zc8 rfl rfl λK hK=>?_
        simp (disch:=omega) [zG1,DtCSet.cells,DtCSnap.cells]
        repeat' first|(exfalso;omega)|(refine ⟨λ_=>?_,λ_=>?_⟩)|(refine ⟨by omega,?_⟩)|(intro _)
        all_goals (refine hK _ ?_;clear hK K)
        all_goals
         refine ⟨_,LeS.ko [(1,.ptr 32 0),(6,.sl 3 (s.fSnaps.map DtCSnap.cells)),(7,(.g (.int .i64 ((s.fSnaps.length:Nat))))),(8,(.g (.int .i64 (((k+1):Nat)))))] [(32,.cells (DtCSet.cells s))] (by simp [zG0,KpE,DtCSet.cells];try rfl) (by simp [KpO,zbx,zbq,zbz,zca,DtCSet.cells];try rfl) (by rfl) (by simp) (by rfl),_,?_,k+1,rfl,?_,rfl⟩
         ·omega
         ·refine ⟨by omega,?_⟩;clear hsn;grind [SnapP,Ch8]
  ·try simp at hc15
   all_goals
    refine zb0 ?_
    refine zbo ?_
    refine AW_r rfl rfl λK hK=>?_
    simp (disch:=omega) [zG1,DtCSet.cells,DtCSnap.cells]
    repeat' first|(exfalso;omega)|(refine zc5 (zbg zf1 zbm) (isWord _ (by omega)) rfl ?_;simp (disch:=omega) [zG1,DtCSet.cells,DtCSnap.cells])|(refine ⟨λ_=>?_,λ_=>?_⟩)|(refine ⟨by omega,?_⟩)|(intro _)
    all_goals (refine hK _ ?_;clear hK K)
    all_goals
     refine zbp (zcc ?_)
     simp (disch:=omega) [zG1,DtCSet.cells,DtCSnap.cells]
     all_goals first | grind [SetP,SnapP,Ch8]|(refine zdg λh=>?_;grind [SetP,SnapP,Ch8])|(refine zce ?_;grind [SetP,SnapP,Ch8])|(rw [Bool.eq_iff_iff,zba];simp [zba];grind [SetP,SnapP,Ch8])
theorem zmr(c:DtCatalog)(hs:DtCatalog.sz c≤1048576):PCall Try.prog 58 [.agg (DtCatalog.cells c)] (.g (.bool (decB (CatP c)))):=by
 have hl:c.fSets.length≤1048576:=by have:=zcd DtCSet.sz_nonneg c.fSets;simp only [DtCatalog.sz,szS] at hs;omega
 have hl2:∀i (h:i<c.fSets.length),DtCSet.sz c.fSets[i]≤1048576:=by
  intro i h
  have h1:=zdk DtCSet.sz_nonneg c.fSets c.fSets[i] (List.getElem_mem _)
  simp only [DtCatalog.sz,szS] at hs
  omega
 refine zbr Try.func58 (by rfl) (by rfl) (by rw [Try.ntmps58];exact Nat.le_of_ble_eq_true rfl) rfl (by decide) ?_
 rw [Try.ntmps58]
 refine AW_k [(0,_)] ⟨rfl,trivial⟩ ?_
 refine AW_r rfl rfl λK hK=>?_
 simp (disch:=omega) [zG1,DtCatalog.cells,DtCSet.cells,DtCSnap.cells]
 repeat' first|(refine ⟨by omega,?_⟩)|(intro _)
 refine hK _ ?_;clear hK K
 refine zbj ?_
 refine AW_r rfl rfl λK hK=>?_
 simp (disch:=omega) [zG1,DtCatalog.cells,DtCSet.cells,DtCSnap.cells]
 repeat' first|(refine ⟨by omega,?_⟩)|(intro _)
 refine hK _ ?_;clear hK K
 refine zbn ?_
 refine zbv (λmM sS=>∃(i:Nat),mM=c.fSets.length-i∧(i≤c.fSets.length∧∀j s,j<i→c.fSets[j]? = some s→SetP s∧∀t,0<j→c.fSets[j-1]? = some t→Op.bytesLess t.fName s.fName=true)∧sS = { env:=lkE [(1,.ptr 32 0),(6,.sl 2 (c.fSets.map DtCSet.cells)),(7,(.g (.int .i64 ((c.fSets.length:Nat))))),(8,(.g (.int .i64 ((i:Nat)))))],ob:=lk [(32,.cells (DtCatalog.cells c))] }) ?_ ?_
 ·refine ⟨_,LeS.ko [(1,.ptr 32 0),(6,.sl 2 (c.fSets.map DtCSet.cells)),(7,(.g (.int .i64 ((c.fSets.length:Nat))))),(8,(.g (.int .i64 (((0):Nat)))))] [(32,.cells (DtCatalog.cells c))] (by simp [zG0,KpE,DtCatalog.cells,DtCSet.cells];try rfl) (by simp [KpO,zbx,zbq,zbz,zca,DtCatalog.cells,DtCSet.cells];try rfl) (by rfl) (by simp) (by rfl),_,0,rfl,?_,rfl⟩
  ·simp
 ·rintro mM sS ⟨i,rfl,⟨hi,hpre⟩,rfl⟩
  refine AW_r rfl rfl λK hK=>?_
  simp (disch:=omega) [zG1,DtCatalog.cells,DtCSet.cells,DtCSnap.cells]
  repeat' first|(refine ⟨by omega,?_⟩)|(intro _)
  refine hK _ ?_;clear hK K
  refine zbj ?_
  refine zbi rfl (λhc17=>?_) (λhc17=>?_)
  ·try simp at hc17
   all_goals
    have hg:c.fSets[i]? = some (c.fSets[i]):=List.getElem?_eq_getElem (by omega)
    have hg':c.fSets[i-1]? = some (c.fSets[i-1]):=List.getElem?_eq_getElem (by omega)
    have hm:=hl2 i (by omega)
    rcases Nat.eq_zero_or_pos i with hi0 | hi0
    all_goals
     refine zbk ?_
     refine zbo ?_
     refine zbj ?_
     refine zbn ?_
     refine AW_r rfl rfl λK hK=>?_
     simp (disch:=omega) [zG1,DtCatalog.cells,DtCSet.cells,DtCSnap.cells]
     repeat' first|(exfalso;omega)|(refine ⟨λ_=>?_,λ_=>?_⟩)|(refine ⟨by omega,?_⟩)|(intro _)
     all_goals (refine hK _ ?_;clear hK K)
     all_goals
      refine AW_q rfl mix (by kernel_rfl) rfl λK hK=>?_
      simp (disch:=omega) [zG1,DtCatalog.cells,DtCSet.cells,DtCSnap.cells]
      repeat' first|(exfalso;omega)|(refine zc5 (zbg (zbw rfl) zbm) (setOk _ (by first | assumption | omega)) rfl ?_;simp (disch:=omega) [zG1,DtCatalog.cells,DtCSet.cells,DtCSnap.cells])|(refine ⟨λ_=>?_,λ_=>?_⟩)|(refine ⟨by omega,?_⟩)|(intro _)
      all_goals (refine hK _ ?_;clear hK K)
      all_goals
       refine zbi rfl (λhc18=>?_) (λhc18=>?_)
       ·try simp at hc18
        all_goals
         refine AW_r rfl rfl λK hK=>?_
         simp (disch:=omega) [zG1,DtCatalog.cells,DtCSet.cells,DtCSnap.cells]
         repeat' first|(exfalso;omega)|(refine ⟨λ_=>?_,λ_=>?_⟩)|(refine ⟨by omega,?_⟩)|(intro _)
         all_goals (refine hK _ ?_;clear hK K)
         all_goals
          refine zbp (zcc ?_)
          simp (disch:=omega) [zG1,DtCatalog.cells,DtCSet.cells,DtCSnap.cells]
          all_goals first | grind [CatP]|(refine zdg λh=>?_;grind [CatP])|(refine zce ?_;grind [CatP])|(rw [Bool.eq_iff_iff,zba];simp;grind [CatP])
       ·try simp at hc18
        all_goals
         refine zbk ?_
         refine zbo ?_
         refine zc8 rfl rfl λK hK=>?_
         simp (disch:=omega) [zG1,DtCatalog.cells,DtCSet.cells,DtCSnap.cells]
         repeat' first|(exfalso;omega)|(refine ⟨λ_=>?_,λ_=>?_⟩)|(refine ⟨by omega,?_⟩)|(intro _)
         all_goals (refine hK _ ?_;clear hK K)
         all_goals
          refine ⟨_,LeS.ko [(1,.ptr 32 0),(6,.sl 2 (c.fSets.map DtCSet.cells)),(7,(.g (.int .i64 ((c.fSets.length:Nat))))),(8,(.g (.int .i64 (((i+1):Nat)))))] [(32,.cells (DtCatalog.cells c))] (by simp [zG0,KpE,DtCatalog.cells,DtCSet.cells];try rfl) (by simp [KpO,zbx,zbq,zbz,zca,DtCatalog.cells,DtCSet.cells];try rfl) (by rfl) (by simp) (by rfl),_,?_,i+1,rfl,?_,rfl⟩
          ·omega
          ·refine ⟨by omega,?_⟩;clear hg' hl2;grind
  ·try simp at hc17
   all_goals
    refine zb0 ?_
    refine zbo ?_
    refine AW_r rfl rfl λK hK=>?_
    simp (disch:=omega) [zG1,DtCatalog.cells,DtCSet.cells,DtCSnap.cells]
    repeat' first|(exfalso;omega)|(refine ⟨λ_=>?_,λ_=>?_⟩)|(refine ⟨by omega,?_⟩)|(intro _)
    all_goals (refine hK _ ?_;clear hK K)
    all_goals
     refine zbp (zcc ?_)
     simp (disch:=omega) [zG1,DtCatalog.cells,DtCSet.cells,DtCSnap.cells]
     all_goals first | grind [CatP]|(refine zdg λh=>?_;grind [CatP])|(refine zce ?_;grind [CatP])|(rw [Bool.eq_iff_iff,zba];simp;grind [CatP])
end Go.Proofs.Ytodmafgmdlkhoaa.Vs
end
