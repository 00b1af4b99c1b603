import Derived.Test.YtchpfloemfoomaaVs9
import Derived.Test.YtchpfloemfoomaaProg
section
namespace Go.Proofs.Ytchpfloemfoomaa.Vs
set_option linter.all false
theorem mix:Try.prog.follows .mixedOrders=true:=by kernel_rfl
theorem t2:ti Try.prog 2=some { agg:=false,size:=1,bytes:=8,zero:=[AV.g (Value.int IntKind.i64 0)],kind:=TK.int IntKind.i64 }:=by kernel_rfl
theorem t3:ti Try.prog 3=some { agg:=false,size:=1,bytes:=8,zero:=[AV.g (Value.int IntKind.i64 0)],kind:=TK.int IntKind.i64 }:=by kernel_rfl
theorem t4:ti Try.prog 4=some { agg:=false,size:=1,bytes:=1,zero:=[AV.g (Value.bool false)],kind:=TK.bool }:=by kernel_rfl
theorem t5:ti Try.prog 5=some { agg:=false,size:=1,bytes:=1,zero:=[AV.g (Value.int IntKind.u8 0)],kind:=TK.int IntKind.u8 }:=by kernel_rfl
theorem t6:ti Try.prog 6=some { agg:=false,size:=1,bytes:=1,zero:=[AV.g (Value.int IntKind.u8 0)],kind:=TK.int IntKind.u8 }:=by kernel_rfl
theorem t7:ti Try.prog 7=some { agg:=true,size:=4,bytes:=24,zero:=[AV.g (Value.int IntKind.i64 0),AV.g (Value.int IntKind.i64 0),AV.g (Value.bool false),AV.g (Value.int IntKind.u8 0)],kind:=TK.struct [(0,2),(1,3),(2,4),(3,6)] }:=by kernel_rfl
theorem t8:ti Try.prog 8=some { agg:=true,size:=4,bytes:=24,zero:=[AV.g (Value.int IntKind.i64 0),AV.g (Value.int IntKind.i64 0),AV.g (Value.bool false),AV.g (Value.int IntKind.u8 0)],kind:=TK.struct [(0,2),(1,3),(2,4),(3,6)] }:=by kernel_rfl
theorem t9:ti Try.prog 9=some { agg:=false,size:=1,bytes:=16,zero:=[AV.s []],kind:=TK.str }:=by kernel_rfl
theorem t10:ti Try.prog 10=some { agg:=false,size:=1,bytes:=16,zero:=[AV.s []],kind:=TK.str }:=by kernel_rfl
theorem t11:ti Try.prog 11=some { agg:=false,size:=1,bytes:=16,zero:=[AV.s []],kind:=TK.str }:=by kernel_rfl
theorem t12:ti Try.prog 12=some { agg:=false,size:=1,bytes:=8,zero:=[AV.g (Value.int IntKind.u64 0)],kind:=TK.int IntKind.u64 }:=by kernel_rfl
theorem t13:ti Try.prog 13=some { agg:=true,size:=2,bytes:=24,zero:=[AV.s [],AV.g (Value.int IntKind.u64 0)],kind:=TK.struct [(0,9),(1,12)] }:=by kernel_rfl
theorem t14:ti Try.prog 14=some { agg:=true,size:=2,bytes:=24,zero:=[AV.s [],AV.g (Value.int IntKind.u64 0)],kind:=TK.struct [(0,9),(1,12)] }:=by kernel_rfl
theorem t15:ti Try.prog 15=some { agg:=false,size:=1,bytes:=8,zero:=[AV.g (Value.pointer none)],kind:=TK.ptr 91 }:=by kernel_rfl
theorem t16:ti Try.prog 16=some { agg:=false,size:=1,bytes:=8,zero:=[AV.g (Value.pointer none)],kind:=TK.ptr 94 }:=by kernel_rfl
theorem t17:ti Try.prog 17=some { agg:=false,size:=1,bytes:=8,zero:=[AV.g (Value.pointer none)],kind:=TK.ptr 103 }:=by kernel_rfl
theorem t18:ti Try.prog 18=some { agg:=true,size:=1,bytes:=8,zero:=[AV.g (Value.pointer none)],kind:=TK.struct [(0,17)] }:=by kernel_rfl
theorem t19:ti Try.prog 19=some { agg:=true,size:=1,bytes:=8,zero:=[AV.g (Value.pointer none)],kind:=TK.struct [(0,17)] }:=by kernel_rfl
theorem t21:ti Try.prog 21=some { agg:=false,size:=1,bytes:=4,zero:=[AV.g (Value.int IntKind.i32 0)],kind:=TK.int IntKind.i32 }:=by kernel_rfl
theorem t22:ti Try.prog 22=some { agg:=false,size:=1,bytes:=24,zero:=[AV.g (Value.slice none 0 0)],kind:=TK.slice 38 }:=by kernel_rfl
theorem t23:ti Try.prog 23=some { agg:=true,size:=1,bytes:=24,zero:=[AV.g (Value.slice none 0 0)],kind:=TK.struct [(0,22)] }:=by kernel_rfl
theorem t24:ti Try.prog 24=some { agg:=true,size:=1,bytes:=24,zero:=[AV.g (Value.slice none 0 0)],kind:=TK.struct [(0,22)] }:=by kernel_rfl
theorem t25:ti Try.prog 25=some { agg:=false,size:=1,bytes:=24,zero:=[AV.g (Value.slice none 0 0)],kind:=TK.slice 44 }:=by kernel_rfl
theorem t26:ti Try.prog 26=some { agg:=true,size:=2,bytes:=48,zero:=[AV.g (Value.slice none 0 0),AV.g (Value.slice none 0 0)],kind:=TK.struct [(0,24),(1,25)] }:=by kernel_rfl
theorem t27:ti Try.prog 27=some { agg:=true,size:=2,bytes:=48,zero:=[AV.g (Value.slice none 0 0),AV.g (Value.slice none 0 0)],kind:=TK.struct [(0,24),(1,25)] }:=by kernel_rfl
theorem t33:ti Try.prog 33=some { agg:=false,size:=1,bytes:=24,zero:=[AV.g (Value.slice none 0 0)],kind:=TK.slice 3 }:=by kernel_rfl
theorem t36:ti Try.prog 36=some { agg:=false,size:=1,bytes:=24,zero:=[AV.g (Value.slice none 0 0)],kind:=TK.slice 63 }:=by kernel_rfl
theorem t37:ti Try.prog 37=some { agg:=true,size:=2,bytes:=40,zero:=[AV.s [],AV.g (Value.slice none 0 0)],kind:=TK.struct [(0,9),(1,36)] }:=by kernel_rfl
theorem t38:ti Try.prog 38=some { agg:=true,size:=2,bytes:=40,zero:=[AV.s [],AV.g (Value.slice none 0 0)],kind:=TK.struct [(0,9),(1,36)] }:=by kernel_rfl
theorem t43:ti Try.prog 43=some { agg:=true,size:=3,bytes:=32,zero:=[AV.g (Value.int IntKind.i64 0),AV.g (Value.int IntKind.i64 0),AV.s []],kind:=TK.struct [(0,3),(1,3),(2,9)] }:=by kernel_rfl
theorem t44:ti Try.prog 44=some { agg:=true,size:=3,bytes:=32,zero:=[AV.g (Value.int IntKind.i64 0),AV.g (Value.int IntKind.i64 0),AV.s []],kind:=TK.struct [(0,3),(1,3),(2,9)] }:=by kernel_rfl
theorem t46:ti Try.prog 46=some { agg:=false,size:=1,bytes:=8,zero:=[AV.g (Value.pointer none)],kind:=TK.ptr 48 }:=by kernel_rfl
theorem t47:ti Try.prog 47=some { agg:=true,size:=2,bytes:=24,zero:=[AV.s [],AV.g (Value.bool false)],kind:=TK.struct [(0,9),(1,4)] }:=by kernel_rfl
theorem t48:ti Try.prog 48=some { agg:=true,size:=2,bytes:=24,zero:=[AV.s [],AV.g (Value.bool false)],kind:=TK.struct [(0,9),(1,4)] }:=by kernel_rfl
theorem t59:ti Try.prog 59=some { agg:=false,size:=1,bytes:=24,zero:=[AV.g (Value.slice none 0 0)],kind:=TK.slice 9 }:=by kernel_rfl
theorem t62:ti Try.prog 62=some { agg:=true,size:=3,bytes:=56,zero:=[AV.s [],AV.s [],AV.g (Value.slice none 0 0)],kind:=TK.struct [(0,9),(1,9),(2,59)] }:=by kernel_rfl
theorem t63:ti Try.prog 63=some { agg:=true,size:=3,bytes:=56,zero:=[AV.s [],AV.s [],AV.g (Value.slice none 0 0)],kind:=TK.struct [(0,9),(1,9),(2,59)] }:=by kernel_rfl
theorem t76:ti Try.prog 76=some { agg:=false,size:=1,bytes:=24,zero:=[AV.g (Value.slice none 0 0)],kind:=TK.slice 5 }:=by kernel_rfl
theorem t77:ti Try.prog 77=some { agg:=false,size:=1,bytes:=8,zero:=[AV.g (Value.int IntKind.u64 0)],kind:=TK.int IntKind.u64 }:=by kernel_rfl
theorem t90:ti Try.prog 90=some { agg:=true,size:=4,bytes:=40,zero:=[AV.g (Value.pointer none),AV.g (Value.pointer none),AV.g (Value.pointer none),AV.s []],kind:=TK.struct [(0,17),(1,17),(2,17),(3,9)] }:=by kernel_rfl
theorem t91:ti Try.prog 91=some { agg:=true,size:=4,bytes:=40,zero:=[AV.g (Value.pointer none),AV.g (Value.pointer none),AV.g (Value.pointer none),AV.s []],kind:=TK.struct [(0,17),(1,17),(2,17),(3,9)] }:=by kernel_rfl
theorem t92:ti Try.prog 92=some { agg:=true,size:=0,bytes:=0,zero:=[],kind:=TK.array 0 16 }:=by kernel_rfl
theorem t93:ti Try.prog 93=some { agg:=true,size:=0,bytes:=0,zero:=[],kind:=TK.struct [(0,92)] }:=by kernel_rfl
theorem t94:ti Try.prog 94=some { agg:=true,size:=0,bytes:=0,zero:=[],kind:=TK.struct [(0,92)] }:=by kernel_rfl
theorem t95:ti Try.prog 95=some { agg:=false,size:=1,bytes:=4,zero:=[AV.g (Value.int IntKind.u32 0)],kind:=TK.int IntKind.u32 }:=by kernel_rfl
theorem t96:ti Try.prog 96=some { agg:=false,size:=1,bytes:=1,zero:=[AV.g (Value.int IntKind.u8 0)],kind:=TK.int IntKind.u8 }:=by kernel_rfl
theorem t97:ti Try.prog 97=some { agg:=false,size:=1,bytes:=1,zero:=[AV.g (Value.int IntKind.u8 0)],kind:=TK.int IntKind.u8 }:=by kernel_rfl
theorem t99:ti Try.prog 99=some { agg:=false,size:=1,bytes:=8,zero:=[AV.g (Value.pointer none)],kind:=TK.ptr 5 }:=by kernel_rfl
theorem t100:ti Try.prog 100=some { agg:=false,size:=1,bytes:=4,zero:=[AV.g (Value.int IntKind.i32 0)],kind:=TK.int IntKind.i32 }:=by kernel_rfl
theorem t101:ti Try.prog 101=some { agg:=false,size:=1,bytes:=4,zero:=[AV.g (Value.int IntKind.i32 0)],kind:=TK.int IntKind.i32 }:=by kernel_rfl
theorem t102:ti Try.prog 102=some { agg:=true,size:=11,bytes:=48,zero:=[AV.g (Value.int IntKind.u64 0),AV.g (Value.int IntKind.u64 0),AV.g (Value.int IntKind.u32 0),AV.g (Value.int IntKind.u8 0),AV.g (Value.int IntKind.u8 0),AV.g (Value.int IntKind.u8 0),AV.g (Value.int IntKind.u8 0),AV.g Value.nilFunc,AV.g (Value.pointer none),AV.g (Value.int IntKind.i32 0),AV.g (Value.int IntKind.i32 0)],kind:=TK.struct [(0,12),(1,12),(2,95),(3,96),(4,5),(5,5),(6,97),(7,98),(8,99),(9,100),(10,101)] }:=by kernel_rfl
theorem t103:ti Try.prog 103=some { agg:=true,size:=11,bytes:=48,zero:=[AV.g (Value.int IntKind.u64 0),AV.g (Value.int IntKind.u64 0),AV.g (Value.int IntKind.u32 0),AV.g (Value.int IntKind.u8 0),AV.g (Value.int IntKind.u8 0),AV.g (Value.int IntKind.u8 0),AV.g (Value.int IntKind.u8 0),AV.g Value.nilFunc,AV.g (Value.pointer none),AV.g (Value.int IntKind.i32 0),AV.g (Value.int IntKind.i32 0)],kind:=TK.struct [(0,12),(1,12),(2,95),(3,96),(4,5),(5,5),(6,97),(7,98),(8,99),(9,100),(10,101)] }:=by kernel_rfl
theorem u_bool:Try.prog.underlying 4=some .bool:=by kernel_rfl
attribute [simp ↓] spl_tt spl_tf spl_ft spl_ff
attribute [simp] creg_nil zrp zrq cO cR cG_bool cG_undef spl_ct spl_cf putC nmC aop ev cv updL zcb upd_upd zby zb0 zbt aLen aBuiltin aBin aIntBin aFieldAddr placeOf aLoad cellsAt aUn aIndexAddr st0 valCells isOne Value.oneCell' aStore setCells List.getElem?_cons_zero List.getElem?_cons_succ Option.getD_some zgp zwu aBuild parts fillA placesOf aField aIndex aSlice optIdx aStrBin aMakeSlice viewCells viewCell arrN frzU capOk aConv aNews aAppend aBuildSlice chunks zws zwq am0_ss am0_ll am1_gg am1_ss am1_ll am1_nl am1_al am2_gg am2_ss am2_ll am2_nl am2_al am2_ff am1s_nn am1s_cc am2s_nn am2s_cc amRs_one zwr amRs_thr ztt ztu zrr KpE KpO KpR KpOR t2 t3 t4 t5 t6 t7 t8 t9 t10 t11 t12 t13 t14 t15 t16 t17 t18 t19 t21 t22 t23 t24 t25 t26 t27 t33 t36 t37 t38 t43 t44 t46 t47 t48 t59 t62 t63 t76 t77 t90 t91 t92 t93 t94 t95 t96 t97 t99 t100 t101 t102 t103 u_bool
attribute [simp] zce gE tP
end Go.Proofs.Ytchpfloemfoomaa.Vs
end
section
namespace Go.Proofs.Ytchpfloemfoomaa.Vs
set_option linter.all false
set_option maxRecDepth 100000
/-- Marks. -/
def mkL{α:Type}(f:Int→α)(k:Int)(n:Nat):List α:=(List.range n).map λj=>f (k+(j:Nat))
def mkR{α:Type}(f:Int→α)(k:Int)(l:List α)(i:Nat):List α:=mkL f k i++l.drop i
theorem zdo{α:Type}(f:Int→α)(k:Int)(n:Nat):(mkL f k n).length=n:=by simp [mkL]
theorem mkR_len{α:Type}(f:Int→α)(k:Int)(l:List α)(i:Nat)(h:i≤l.length):(mkR f k l i).length=l.length:=by simp [mkR,zdo];omega
theorem mkR_0{α:Type}(f:Int→α)(k:Int)(l:List α):mkR f k l 0=l:=by simp [mkR,mkL]
theorem zln{α:Type}(f:Int→α)(k:Int)(l:List α)(i:Nat)(h:l.length≤i)(hi:i≤l.length):mkR f k l i=mkL f k l.length:=by
 have:i=l.length:=by omega
 subst this
 simp [mkR]
theorem zr1{α:Type}(f:Int→α)(k:Int)(n j:Nat)(h:j<n):(mkL f k n)[j]? = some (f (k+(j:Nat))):=by
 simp [mkL,h]
theorem zgq{α:Type}(f:Int→α)(k:Int)(n j:Nat)(h:j<(mkL f k n).length):(mkL f k n)[j]=f (k+(j:Nat)):=by
 simp [mkL]
theorem mkR_get{α:Type}(f:Int→α)(k:Int)(l:List α)(i:Nat)(h:i<l.length):(mkR f k l i)[i]? = some l[i]:=by
 unfold mkR
 rw [List.getElem?_append_right (by simp [zdo])]
 simp [zdo,h]
theorem mkR_set{α:Type}(f:Int→α)(k:Int)(l:List α)(i:Nat)(h:i<l.length):(mkR f k l i).set i (f (k+(i:Nat)))=mkR f k l (i+1):=by
 apply List.ext_getElem?
 intro j
 unfold mkR
 rw [List.getElem?_set]
 by_cases hj:i=j
 ·subst hj
  rw [if_pos rfl,if_pos (by simp [zdo];omega),List.getElem?_append_left (by simp [zdo])]
  rw [zr1 _ _ _ _ (by omega)]
 ·rw [if_neg hj]
  by_cases hlt:j<i
  ·rw [List.getElem?_append_left (by simp [zdo];omega),List.getElem?_append_left (by simp [zdo];omega),zr1 _ _ _ _ hlt,zr1 _ _ _ _ (by omega)]
  ·rw [List.getElem?_append_right (by simp [zdo];omega),List.getElem?_append_right (by simp [zdo];omega)]
   simp [zdo]
   congr 1
   omega
def mB(k:Int):Bool:=k.tmod 3==0
/-- Decimal digits. -/
def dg(n:Nat)(out:List UInt8):List UInt8:=if n=0 then out else dg (n / 10) (strN [IntKind.u8.wrap (48+(n:Int) % 10)]++out)
termination_by n
decreasing_by omega
def mT(k:Int):List UInt8:=if k≤0 then [109,48] else 109 :: dg k.toNat []
def zG0:=And.intro @zce @zcv
def zG1:=And.intro @zcb (And.intro @zby @zbt)
theorem zc2(k:Int)(hk:k≤4294967296):PCall Try.prog 40 [(.g (.int .i64 (k)))] (.s (mT k)):=by
 refine zbp Try.func40 (by rfl) (by rfl) (by rw [Try.ntmps40];exact Nat.le_of_ble_eq_true rfl) rfl (by decide) ?_
 rw [Try.ntmps40]
 refine AW_k [(0,_)] ⟨rfl,trivial⟩ ?_
 refine AW_r rfl rfl λK hK=>?_
 simp (disch:=omega) [zG0,List.getElem?_eq_getElem,Int.tdiv_eq_ediv_of_nonneg,Int.tmod_eq_emod_of_nonneg,numsOf]
 repeat' first|(refine ⟨by simp [strN];omega,?_⟩;try simp (disch:=omega) [zG0,List.getElem?_eq_getElem,Int.tdiv_eq_ediv_of_nonneg,Int.tmod_eq_emod_of_nonneg,numsOf])|(refine ⟨by omega,?_⟩)|(intro _)
 refine hK _ ?_;clear hK K
 refine zbf ?_
 refine AW_r rfl rfl λK hK=>?_
 simp (disch:=omega) [zG0,List.getElem?_eq_getElem,Int.tdiv_eq_ediv_of_nonneg,Int.tmod_eq_emod_of_nonneg,numsOf]
 repeat' first|(refine ⟨by simp [strN];omega,?_⟩;try simp (disch:=omega) [zG0,List.getElem?_eq_getElem,Int.tdiv_eq_ediv_of_nonneg,Int.tmod_eq_emod_of_nonneg,numsOf])|(refine ⟨by omega,?_⟩)|(intro _)
 refine hK _ ?_;clear hK K
 refine zbi rfl (λhc1=>?_) (λhc1=>?_)
 ·try simp at hc1
  all_goals
   refine AW_r rfl rfl λK hK=>?_
   simp (disch:=omega) [zG0,List.getElem?_eq_getElem,Int.tdiv_eq_ediv_of_nonneg,Int.tmod_eq_emod_of_nonneg,numsOf]
   repeat' first|(exfalso;omega)|(refine ⟨by simp [strN];omega,?_⟩;try simp (disch:=omega) [zG0,List.getElem?_eq_getElem,Int.tdiv_eq_ediv_of_nonneg,Int.tmod_eq_emod_of_nonneg,numsOf])|(refine ⟨λ_=>?_,λ_=>?_⟩)|(refine ⟨by omega,?_⟩)|(intro _)
   all_goals (refine hK _ ?_;clear hK K)
   all_goals
    refine zbl (zb5 ?_)
    simp (disch:=omega) [zG0,List.getElem?_eq_getElem,Int.tdiv_eq_ediv_of_nonneg,Int.tmod_eq_emod_of_nonneg,numsOf]
    all_goals first|(unfold mT;rw [if_pos (by omega)];done)|(obtain rfl:n=0:=(by omega);unfold mT;rw [if_neg (by omega),←hd]<;>(unfold dg;simp);done)
 try simp at hc1
 refine zbj ?_
 refine zbo ?_
 refine AW_r rfl rfl λK hK=>?_
 simp (disch:=omega) [zG0,List.getElem?_eq_getElem,Int.tdiv_eq_ediv_of_nonneg,Int.tmod_eq_emod_of_nonneg,numsOf]
 repeat' first|(exfalso;omega)|(refine ⟨by simp [strN];omega,?_⟩;try simp (disch:=omega) [zG0,List.getElem?_eq_getElem,Int.tdiv_eq_ediv_of_nonneg,Int.tmod_eq_emod_of_nonneg,numsOf])|(refine ⟨λ_=>?_,λ_=>?_⟩)|(refine ⟨by omega,?_⟩)|(intro _)
 all_goals (refine hK _ ?_;clear hK K)
 all_goals
  refine zbf ?_
  refine zbm ?_
  refine zbw (λmM sS=>∃(n:Nat) (out:List UInt8),mM=n+1∧(n+out.length≤k.toNat∧dg n out=dg k.toNat [])∧sS = { env:=lkE [(0,(.g (.int .i64 ((n:Nat))))),(3,.s out)],ob:=lk [] }) ?_ ?_
  ·refine ⟨_,LeS.ko [(0,(.g (.int .i64 (((k.toNat):Nat))))),(3,.s ([]))] [] (by simp [zG1,KpE];try (first | rfl|(omega;done))) (by simp [KpO,zcb,zbt,zb0,zgp];try rfl) (by rfl) (by simp) (by rfl),_,k.toNat,[],rfl,?_,rfl⟩
   ·simp
  ·rintro mM sS ⟨n,out,rfl,⟨hi,hd⟩,rfl⟩
   refine zbf ?_
   refine AW_r rfl rfl λK hK=>?_
   simp (disch:=omega) [zG0,List.getElem?_eq_getElem,Int.tdiv_eq_ediv_of_nonneg,Int.tmod_eq_emod_of_nonneg,numsOf]
   repeat' first|(refine ⟨by simp [strN];omega,?_⟩;try simp (disch:=omega) [zG0,List.getElem?_eq_getElem,Int.tdiv_eq_ediv_of_nonneg,Int.tmod_eq_emod_of_nonneg,numsOf])|(refine ⟨by omega,?_⟩)|(intro _)
   refine hK _ ?_;clear hK K
   refine zbi rfl (λhc2=>?_) (λhc2=>?_)
   ·try simp at hc2
    all_goals
     refine zbj ?_
     refine zbo ?_
     refine zbm ?_
     refine AW_r rfl rfl λK hK=>?_
     simp (disch:=omega) [zG0,List.getElem?_eq_getElem,Int.tdiv_eq_ediv_of_nonneg,Int.tmod_eq_emod_of_nonneg,numsOf]
     repeat' first|(exfalso;omega)|(refine ⟨by simp [strN];omega,?_⟩;try simp (disch:=omega) [zG0,List.getElem?_eq_getElem,Int.tdiv_eq_ediv_of_nonneg,Int.tmod_eq_emod_of_nonneg,numsOf])|(refine ⟨λ_=>?_,λ_=>?_⟩)|(refine ⟨by omega,?_⟩)|(intro _)
     all_goals (refine hK _ ?_;clear hK K)
     all_goals
      refine zc0 rfl rfl λK hK=>?_
      simp (disch:=omega) [zG0,List.getElem?_eq_getElem,Int.tdiv_eq_ediv_of_nonneg,Int.tmod_eq_emod_of_nonneg,numsOf]
      repeat' first|(refine ⟨by simp [strN];omega,?_⟩;try simp (disch:=omega) [zG0,List.getElem?_eq_getElem,Int.tdiv_eq_ediv_of_nonneg,Int.tmod_eq_emod_of_nonneg,numsOf])|(refine ⟨by omega,?_⟩)|(intro _)
      refine hK _ ?_;clear hK K
      refine ⟨_,LeS.ko [(0,(.g (.int .i64 (((n / 10):Nat))))),(3,.s (strN [IntKind.u8.wrap (48+(n:Int) % 10)]++out))] [] (by simp [zG1,KpE];try (first | rfl|(omega;done))) (by simp [KpO,zcb,zbt,zb0,zgp];try rfl) (by rfl) (by simp) (by rfl),_,?_,n / 10,strN [IntKind.u8.wrap (48+(n:Int) % 10)]++out,rfl,?_,rfl⟩
      ·omega
      ·refine ⟨by simp [strN];omega,?_⟩;rw [←hd];conv=>rhs;unfold dg;rw [if_neg (by omega)]
   try simp at hc2
   refine zb4 ?_
   refine zbo ?_
   refine AW_r rfl rfl λK hK=>?_
   simp (disch:=omega) [zG0,List.getElem?_eq_getElem,Int.tdiv_eq_ediv_of_nonneg,Int.tmod_eq_emod_of_nonneg,numsOf]
   repeat' first|(exfalso;omega)|(refine ⟨by simp [strN];omega,?_⟩;try simp (disch:=omega) [zG0,List.getElem?_eq_getElem,Int.tdiv_eq_ediv_of_nonneg,Int.tmod_eq_emod_of_nonneg,numsOf])|(refine ⟨λ_=>?_,λ_=>?_⟩)|(refine ⟨by omega,?_⟩)|(intro _)
   all_goals (refine hK _ ?_;clear hK K)
   all_goals
    refine zbl (zb5 ?_)
    simp (disch:=omega) [zG0,List.getElem?_eq_getElem,Int.tdiv_eq_ediv_of_nonneg,Int.tmod_eq_emod_of_nonneg,numsOf]
    all_goals first|(unfold mT;rw [if_pos (by omega)];done)|(obtain rfl:n=0:=(by omega);unfold mT;rw [if_neg (by omega),←hd]<;>(unfold dg;simp);done)
theorem zs2(k:Int)(l:List (List UInt8))(i:Nat)(h:i<l.length):((mkR mT k l i).map cS).set i [.s (mT (k+(i:Nat)))]=(mkR mT k l (i+1)).map cS:=by
 rw [←mkR_set mT k l i h,List.map_set];rfl
theorem zr2(l:List (List UInt8))(k:Int)(hl:l.length≤1048576)(hk:0≤k∧k≤1073741824):XCall Try.prog 54 [.arr 8 0 l.length,(.g (.int .i64 (k)))] [.own 1 (l.map cS)] (.g (.int .i64 (k+(l.length:Nat)))) [.own 1 ((mkL mT k l.length).map cS)] []:=by
 refine zbu Try.func54 (by rfl) (by rfl) (by rw [Try.ntmps54];exact Nat.le_of_ble_eq_true rfl) rfl (by simp) rfl rfl ?_
 rw [Try.ntmps54]
 refine zlg (.win 1 (l.map cS)) (by simp [cvO]<;>assumption) ?_
 refine AW_k [(0,_),(1,_)] ⟨rfl,rfl,trivial⟩ ?_
 refine AW_x rfl rfl λK hK=>?_
 simp (disch:=omega) [zG0,List.getElem?_eq_getElem,cS,zln]
 repeat' first|(refine ⟨by omega,?_⟩)|(intro _)
 refine hK _ ?_;clear hK K
 refine zbf ?_
 refine AW_x rfl rfl λK hK=>?_
 simp (disch:=omega) [zG0,List.getElem?_eq_getElem,cS,zln]
 repeat' first|(refine ⟨by omega,?_⟩)|(intro _)
 refine hK _ ?_;clear hK K
 refine zbm ?_
 refine zbw (λmM sS=>∃(i:Nat),mM=l.length-i∧(i≤l.length)∧sS = { env:=lkE [(0,.arr 8 0 l.length),(1,(.g (.int .i64 (k+(i:Nat))))),(5,(.g (.int .i64 ((i:Nat)))))],ob:=lk [(8,.win 1 ((mkR mT k l i).map cS))] }) ?_ ?_
 ·refine ⟨_,LeS.kx [(8,8)] [(0,.arr 8 0 l.length),(1,(.g (.int .i64 (k+((0):Nat))))),(5,(.g (.int .i64 (((0):Nat)))))] [(8,.win 1 ((mkR mT k l (0)).map cS))] (by simp [zG1,KpR,renV2,renV,zb0,mkR_0];try (first | rfl|(omega;done))) (by simp [KpOX,renO,plO,cvO,renV,pl1,zbt,zb0,zcb,mkR_0];try (first | rfl|(simp [zs2 k l i (by omega)];done))) (by rfl) (by simp) (by simp) (by rfl) (by simp [formsX,List.range_succ,zbt,zb0]),_,0,rfl,?_,rfl⟩
  ·simp
 ·rintro mM sS ⟨i,rfl,hi,rfl⟩
  have hln:(mkR mT k l i).length=l.length:=mkR_len _ _ _ _ hi
  refine zbf ?_
  refine AW_x rfl rfl λK hK=>?_
  simp (disch:=omega) [zG0,List.getElem?_eq_getElem,cS,zln]
  repeat' first|(refine ⟨by omega,?_⟩)|(intro _)
  refine hK _ ?_;clear hK K
  refine zbi rfl (λhc3=>?_) (λhc3=>?_)
  ·try simp at hc3
   all_goals
    have hg:(mkR mT k l i)[i]? = some (l[i]):=mkR_get _ _ _ _ (by omega)
    refine zbj ?_
    refine zbo ?_
    refine zbf ?_
    refine zbm ?_
    refine AW_x rfl rfl λK hK=>?_
    simp (disch:=omega) [zG0,List.getElem?_eq_getElem,cS,zln]
    repeat' first|(exfalso;omega)|(refine zgh (zbe zch zbn) (zc2 _ (by omega)) rfl ?_;simp (disch:=omega) [zG0,List.getElem?_eq_getElem,cS,zln])|(refine zgi (zc2 _ (by omega)) (by rfl) ?_ ?_;(focus (simp (disch:=omega) [zG0,List.getElem?_eq_getElem,cS,zln,zbz];done));simp (disch:=omega) [zG0,List.getElem?_eq_getElem,cS,zln])|(refine ⟨λ_=>?_,λ_=>?_⟩)|(refine ⟨by omega,?_⟩)|(intro _)
    all_goals (refine hK _ ?_;clear hK K)
    all_goals
     refine zdc rfl rfl λK hK=>?_
     simp (disch:=omega) [zG0,List.getElem?_eq_getElem,cS,zln]
     repeat' first|(refine ⟨by omega,?_⟩)|(intro _)
     refine hK _ ?_;clear hK K
     refine zbo ?_
     refine zdc rfl rfl λK hK=>?_
     simp (disch:=omega) [zG0,List.getElem?_eq_getElem,cS,zln]
     repeat' first|(refine ⟨by omega,?_⟩)|(intro _)
     refine hK _ ?_;clear hK K
     refine ⟨_,LeS.kx [(8,8)] [(0,.arr 8 0 l.length),(1,(.g (.int .i64 (k+((i+1):Nat))))),(5,(.g (.int .i64 (((i+1):Nat)))))] [(8,.win 1 ((mkR mT k l (i+1)).map cS))] (by simp [zG1,KpR,renV2,renV,zb0,mkR_0];try (first | rfl|(omega;done))) (by simp [KpOX,renO,plO,cvO,renV,pl1,zbt,zb0,zcb,mkR_0];try (first | rfl|(simp [zs2 k l i (by omega)];done))) (by rfl) (by simp) (by simp) (by rfl) (by simp [formsX,List.range_succ,zbt,zb0]),_,?_,i+1,rfl,?_,rfl⟩
     ·omega
     ·omega
  try simp at hc3
  refine zb4 ?_
  refine zbo ?_
  refine AW_x rfl rfl λK hK=>?_
  simp (disch:=omega) [zG0,List.getElem?_eq_getElem,cS,zln]
  repeat' first|(exfalso;omega)|(refine ⟨λ_=>?_,λ_=>?_⟩)|(refine ⟨by omega,?_⟩)|(intro _)
  all_goals (refine hK _ ?_;clear hK K)
  all_goals
   refine zbl (zcd [] [] (by simp [List.range_succ,zbt,zb0,zcb]) (by simp) ?_)
   simp (disch:=omega) [zG0,List.getElem?_eq_getElem,cS,zln]
   all_goals omega
theorem zr3(n:Nat)(k:Int)(hl:n≤1048576)(hk:0≤k∧k≤1073741824):PCall Try.prog 55 [.sl 1 ((mkL mT k n).map cS),(.g (.int .i64 (k)))] (.g (.int .i64 (k+(n:Nat)))):=by
 refine zbp Try.func55 (by rfl) (by rfl) (by rw [Try.ntmps55];exact Nat.le_of_ble_eq_true rfl) rfl (by decide) ?_
 rw [Try.ntmps55]
 refine AW_k [(0,_),(1,_)] ⟨rfl,rfl,trivial⟩ ?_
 refine AW_r rfl rfl λK hK=>?_
 simp (disch:=omega) [zG0,List.getElem?_eq_getElem,cS,zgq]
 repeat' first|(refine ⟨by omega,?_⟩)|(intro _)
 refine hK _ ?_;clear hK K
 refine zbf ?_
 refine AW_r rfl rfl λK hK=>?_
 simp (disch:=omega) [zG0,List.getElem?_eq_getElem,cS,zgq]
 repeat' first|(refine ⟨by omega,?_⟩)|(intro _)
 refine hK _ ?_;clear hK K
 refine zbm ?_
 refine zbw (λmM sS=>∃(i:Nat),mM=n-i∧(i≤n)∧sS = { env:=lkE [(0,.sl 1 ((mkL mT k n).map cS)),(1,(.g (.int .i64 (k+(i:Nat))))),(5,(.g (.int .i64 ((i:Nat)))))],ob:=formOb [] [] }) ?_ ?_
 ·refine ⟨_,LeS.kp [(0,.sl 1 ((mkL mT k n).map cS)),(1,(.g (.int .i64 (k+((0):Nat))))),(5,(.g (.int .i64 (((0):Nat)))))] (by simp [zG1,KpE];try (first | rfl|(omega;done))),_,0,rfl,?_,rfl⟩
  ·simp
 ·rintro mM sS ⟨i,rfl,hi,rfl⟩
  have hln:(mkL mT k n).length=n:=zdo _ _ _
  refine zbf ?_
  refine AW_r rfl rfl λK hK=>?_
  simp (disch:=omega) [zG0,List.getElem?_eq_getElem,cS,zgq]
  repeat' first|(refine ⟨by omega,?_⟩)|(intro _)
  refine hK _ ?_;clear hK K
  refine zbi rfl (λhc4=>?_) (λhc4=>?_)
  ·try simp at hc4
   all_goals
    refine zbj ?_
    refine zbo ?_
    refine zbf ?_
    refine zbm ?_
    refine zbf ?_
    refine AW_q rfl mix (by kernel_rfl) rfl λK hK=>?_
    simp (disch:=omega) [zG0,List.getElem?_eq_getElem,cS,zgq]
    repeat' first|(exfalso;omega)|(refine zcj (zbe zch zbn) (zc2 _ (by omega)) rfl ?_;simp (disch:=omega) [zG0,List.getElem?_eq_getElem,cS,zgq])|(refine ⟨λ_=>?_,λ_=>?_⟩)|(refine ⟨by omega,?_⟩)|(intro _)
    all_goals (refine hK _ ?_;clear hK K)
    all_goals
     refine zbi rfl (λhc5=>?_) (λhc5=>?_)
     ·try simp at hc5
      all_goals
       refine AW_r rfl rfl λK hK=>?_
       simp (disch:=omega) [zG0,List.getElem?_eq_getElem,cS,zgq]
       repeat' first|(exfalso;omega)|(refine ⟨λ_=>?_,λ_=>?_⟩)|(refine ⟨by omega,?_⟩)|(intro _)
       all_goals (refine hK _ ?_;clear hK K)
       all_goals
        refine zbl (zb5 ?_)
        simp (disch:=omega) [zG0,List.getElem?_eq_getElem,cS,zgq]
        all_goals omega
     try simp at hc5
     refine zbj ?_
     refine zbo ?_
     refine zc0 rfl rfl λK hK=>?_
     simp (disch:=omega) [zG0,List.getElem?_eq_getElem,cS,zgq]
     repeat' first|(exfalso;omega)|(refine ⟨λ_=>?_,λ_=>?_⟩)|(refine ⟨by omega,?_⟩)|(intro _)
     all_goals (refine hK _ ?_;clear hK K)
     all_goals
      refine zbo ?_
      refine zc0 rfl rfl λK hK=>?_
      simp (disch:=omega) [zG0,List.getElem?_eq_getElem,cS,zgq]
      repeat' first|(refine ⟨by omega,?_⟩)|(intro _)
      refine hK _ ?_;clear hK K
      refine ⟨_,LeS.kp [(0,.sl 1 ((mkL mT k n).map cS)),(1,(.g (.int .i64 (k+((i+1):Nat))))),(5,(.g (.int .i64 (((i+1):Nat)))))] (by simp [zG1,KpE];try (first | rfl|(omega;done))),_,?_,i+1,rfl,?_,rfl⟩
      ·omega
      ·omega
  try simp at hc4
  refine zb4 ?_
  refine zbo ?_
  refine AW_r rfl rfl λK hK=>?_
  simp (disch:=omega) [zG0,List.getElem?_eq_getElem,cS,zgq]
  repeat' first|(exfalso;omega)|(refine ⟨λ_=>?_,λ_=>?_⟩)|(refine ⟨by omega,?_⟩)|(intro _)
  all_goals (refine hK _ ?_;clear hK K)
  all_goals
   refine zbl (zb5 ?_)
   simp (disch:=omega) [zG0,List.getElem?_eq_getElem,cS,zgq]
   all_goals omega
/-- A copy under way. -/
def cpR{α:Type}(z:α)(l:List α)(i:Nat):List α:=l.take i++List.replicate (l.length-i) z
/-- Marks of a row of structs. -/
def mkS{α:Type}(mk:Int→α→α)(cnt:α→Int):Int→List α→List α
 | _,[]=>[]
 | k,u :: us=>mk k u :: mkS mk cnt (k+cnt u) us
def cntS{α:Type}(cnt:α→Int)(us:List α):Int:=us.foldr (λu n=>cnt u+n) 0
theorem zc8{α:Type}(cnt:α→Int):cntS cnt []=0:=rfl
theorem zfc{α:Type}(cnt:α→Int)(u:α)(us:List α):cntS cnt (u :: us)=cnt u+cntS cnt us:=rfl
theorem zs3{α:Type}(cnt:α→Int)(us vs:List α):cntS cnt (us++vs)=cntS cnt us+cntS cnt vs:=by
 induction us with
 | nil=>simp [zc8]
 | cons u us ih=>rw [List.cons_append,zfc,zfc,ih];omega
theorem zdk{α:Type}{cnt:α→Int}(h:∀u,0≤cnt u)(us:List α):0≤cntS cnt us:=by
 induction us with
 | nil=>simp [zc8]
 | cons u us ih=>rw [zfc];have:=h u;omega
theorem zfd{α:Type}(cnt:α→Int)(us:List α)(i:Nat)(h:i<us.length):cntS cnt (us.take (i+1))=cntS cnt (us.take i)+cnt us[i]:=by
 rw [List.take_succ_eq_append_getElem h,zs3,zfc,zc8];omega
theorem zjm{α:Type}{cnt:α→Int}(hc:∀u,0≤cnt u)(us:List α)(i:Nat)(h:i<us.length):0≤cntS cnt (us.take i)∧0≤cnt us[i]∧cntS cnt (us.take i)+cnt us[i]≤cntS cnt us:=by
 refine ⟨zdk hc _,hc _,?_⟩
 rw [←zfd cnt us i h]
 conv=>rhs;rw [←List.take_append_drop (i+1) us,zs3]
 have:=zdk hc (us.drop (i+1))
 omega
theorem zdp{α:Type}(mk:Int→α→α)(cnt:α→Int):∀(us:List α) (k:Int),(mkS mk cnt k us).length=us.length
 | [],_=>rfl
 | u :: us,k=>by simp [mkS,zdp mk cnt us]
theorem zxi{α:Type}(mk:Int→α→α)(cnt:α→Int):∀(us vs:List α) (k:Int),mkS mk cnt k (us++vs)=mkS mk cnt k us++mkS mk cnt (k+cntS cnt us) vs
 | [],vs,k=>by simp [mkS,zc8]
 | u :: us,vs,k=>by
  rw [List.cons_append,mkS,mkS,zxi mk cnt us vs,zfc,List.cons_append]
  congr 2
  congr 1
  omega
def mkSR{α:Type}(mk:Int→α→α)(cnt:α→Int)(k:Int)(us:List α)(i:Nat):List α:=mkS mk cnt k (us.take i)++us.drop i
theorem zns{α:Type}(mk:Int→α→α)(cnt:α→Int)(k:Int)(us:List α)(i:Nat)(h:i≤us.length):(mkSR mk cnt k us i).length=us.length:=by
 simp [mkSR,zdp];omega
theorem mkSR_0{α:Type}(mk:Int→α→α)(cnt:α→Int)(k:Int)(us:List α):mkSR mk cnt k us 0=us:=by simp [mkSR,mkS]
theorem zxj{α:Type}(mk:Int→α→α)(cnt:α→Int)(k:Int)(us:List α)(i:Nat)(h:us.length≤i):mkSR mk cnt k us i=mkS mk cnt k us:=by
 unfold mkSR
 rw [List.take_of_length_le h,List.drop_of_length_le h,List.append_nil]
theorem znt{α:Type}(mk:Int→α→α)(cnt:α→Int)(k:Int)(us:List α)(i:Nat)(h:i<us.length):(mkSR mk cnt k us i)[i]? = some us[i]:=by
 unfold mkSR
 rw [List.getElem?_append_right (by simp [zdp];omega)]
 simp only [zdp,List.length_take,List.getElem?_drop]
 rw [show i+(i-min i us.length)=i by omega]
 exact List.getElem?_eq_getElem h
theorem zb7{α:Type}(mk:Int→α→α)(cnt:α→Int)(k:Int)(us:List α)(i:Nat)(h:i<us.length)(h':i<(mkSR mk cnt k us i).length):(mkSR mk cnt k us i)[i]=us[i]:=by
 have:=znt mk cnt k us i h
 rw [List.getElem?_eq_getElem h'] at this
 exact Option.some.inj this
theorem zg4{α:Type}(mk:Int→α→α)(cnt:α→Int)(k:Int)(us:List α)(i:Nat)(h:i<us.length):(mkSR mk cnt k us i).set i (mk (k+cntS cnt (us.take i)) us[i])=mkSR mk cnt k us (i+1):=by
 unfold mkSR
 rw [List.take_succ_eq_append_getElem h,zxi]
 simp only [mkS]
 rw [List.set_append,if_neg (by simp [zdp];omega)]
 simp only [zdp,List.length_take]
 rw [show i-min i us.length=0 by omega]
 have e:us.drop i=us[i] :: us.drop (i+1):=(List.getElem_cons_drop h).symm
 rw [e,List.set_cons_zero,List.append_assoc]
 rfl
theorem zbx{α β:Type}(f:α→β)(l:List α)(i:Nat)(x:β)(h:i<l.length):((l.map f).set i x)[i]? = some x:=List.getElem?_set_self (by simpa using h)
/-- A copy of structs under way. -/
def cpS{α:Type}(z:List AV)(f:α→List AV)(us:List α)(i:Nat):List (List AV):=(us.take i).map f++List.replicate (us.length-i) z
theorem zb8{α:Type}(mk:Int→α→α)(cnt:α→Int):∀(us:List α) (k:Int) (i:Nat) (h:i<us.length) (h':i<(mkS mk cnt k us).length),(mkS mk cnt k us)[i]=mk (k+cntS cnt (us.take i)) us[i]
 | [],_,_,h,_=>by simp at h
 | u :: us,k,0,_,_=>by simp [mkS,zc8]
 | u :: us,k,i+1,h,h'=>by
  simp only [mkS,List.getElem_cons_succ,List.take_succ_cons,zfc]
  rw [zb8 mk cnt us (k+cnt u) i (by simpa using h)]
  congr 1;omega
end Go.Proofs.Ytchpfloemfoomaa.Vs
end
section
namespace Go.Proofs.Ytchpfloemfoomaa.Vs
set_option linter.all false
theorem zxk(xs ys:List (List UInt8))(hs:szS lenZ xs≤1048576):PCall Try.prog 62 [.sl 1 (xs.map cS),.sl 1 (ys.map cS)] (.g (.bool (eqB xs ys))):=by
 have hn:xs.length≤1048576:=by have:=zcf zc1 xs;simp only [szS] at hs;omega
 refine zbp Try.func62 (by rfl) (by rfl) (by rw [Try.ntmps62];exact Nat.le_of_ble_eq_true rfl) rfl (by decide) ?_
 rw [Try.ntmps62]
 refine AW_k [(0,_),(1,_)] ⟨rfl,rfl,trivial⟩ ?_
 refine AW_r rfl rfl λK hK=>?_
 simp (disch:=omega)
 repeat' first|(refine ⟨by omega,?_⟩)|(intro _)
 refine hK _ ?_;clear hK K
 refine zbf ?_
 refine AW_r rfl rfl λK hK=>?_
 simp (disch:=omega)
 repeat' first|(refine ⟨by omega,?_⟩)|(intro _)
 refine hK _ ?_;clear hK K
 refine zbi rfl (λhc1=>?_) (λhc1=>?_)
 ·try simp at hc1
  all_goals
   refine AW_r rfl rfl λK hK=>?_
   simp (disch:=omega)
   repeat' first|(exfalso;omega)|(refine ⟨λ_=>?_,λ_=>?_⟩)|(refine ⟨by omega,?_⟩)|(intro _)
   all_goals (refine hK _ ?_;clear hK K)
   all_goals
    refine zbl (zb5 ?_)
    simp (disch:=omega)
    all_goals first|(exact zci heq)|(refine zb9 λheq=>?_;subst heq;simp_all [zbb,zba,zbq];done)|(refine (zb9 λheq=>?_).symm;subst heq;simp_all [zbb,zba,zbq];done) | simp_all [zbq]
 try simp at hc1
 refine zbj ?_
 refine zbo ?_
 refine zbf ?_
 refine AW_r rfl rfl λK hK=>?_
 simp (disch:=omega)
 repeat' first|(exfalso;omega)|(refine ⟨λ_=>?_,λ_=>?_⟩)|(refine ⟨by omega,?_⟩)|(intro _)
 all_goals (refine hK _ ?_;clear hK K)
 all_goals
  refine zbm ?_
  refine zbw (λmM sS=>∃(i:Nat),mM=xs.length-i∧(i≤xs.length∧∀j,j<i→xs[j]? = ys[j]?)∧sS = { env:=lkE [(0,.sl 1 (xs.map cS)),(1,.sl 1 (ys.map cS)),(5,(.g (.int .i64 ((i:Nat)))))],ob:=formOb [] [] }) ?_ ?_
  ·refine ⟨_,LeS.kp [(0,.sl 1 (xs.map cS)),(1,.sl 1 (ys.map cS)),(5,(.g (.int .i64 (((0):Nat)))))] (by simp [zG1,KpE];try rfl),_,0,rfl,?_,rfl⟩
   ·simp
  ·rintro mM sS ⟨i,rfl,⟨hi,hpre⟩,rfl⟩
   refine zbf ?_
   refine AW_r rfl rfl λK hK=>?_
   simp (disch:=omega) [cS]
   repeat' first|(refine ⟨by omega,?_⟩)|(intro _)
   refine hK _ ?_;clear hK K
   refine zbi rfl (λhc2=>?_) (λhc2=>?_)
   ·try simp at hc2
    all_goals
     have h7:i<ys.length:=by omega
     refine zbj ?_
     refine zbo ?_
     refine zbf ?_
     refine zbm ?_
     refine AW_q rfl mix (by kernel_rfl) rfl λK hK=>?_
     simp (disch:=omega) [cS]
     repeat' first|(exfalso;omega)|(refine ⟨λ_=>?_,λ_=>?_⟩)|(refine ⟨by omega,?_⟩)|(intro _)
     all_goals (refine hK _ ?_;clear hK K)
     all_goals
      refine zbi rfl (λhc3=>?_) (λhc3=>?_)
      ·try simp at hc3
       all_goals
        refine AW_r rfl rfl λK hK=>?_
        simp (disch:=omega) [cS]
        repeat' first|(exfalso;omega)|(refine ⟨λ_=>?_,λ_=>?_⟩)|(refine ⟨by omega,?_⟩)|(intro _)
        all_goals (refine hK _ ?_;clear hK K)
        all_goals
         refine zbl (zb5 ?_)
         simp (disch:=omega) [cS]
         all_goals first|(exact zci heq)|(refine zb9 λheq=>?_;subst heq;simp_all [zbb,zba,zbq];done)|(refine (zb9 λheq=>?_).symm;subst heq;simp_all [zbb,zba,zbq];done) | simp_all [zbq]
      try simp at hc3
      refine zbj ?_
      refine zbo ?_
      refine zc0 rfl rfl λK hK=>?_
      simp (disch:=omega) [cS]
      repeat' first|(exfalso;omega)|(refine ⟨λ_=>?_,λ_=>?_⟩)|(refine ⟨by omega,?_⟩)|(intro _)
      all_goals (refine hK _ ?_;clear hK K)
      all_goals
       refine ⟨_,LeS.kp [(0,.sl 1 (xs.map cS)),(1,.sl 1 (ys.map cS)),(5,(.g (.int .i64 (((i+1):Nat)))))] (by simp [zG1,KpE];try rfl),_,?_,i+1,rfl,?_,rfl⟩
       ·omega
       ·refine ⟨by omega,λj hj=>?_⟩
        by_cases hji:j=i
        ·subst hji;simp_all [zbb,zba]
        ·exact hpre j (by omega)
   try simp at hc2
   have hi2:i=xs.length:=by omega
   subst hi2
   have heq:xs=ys:=List.ext_getElem? λj=>by
    by_cases hj:j<xs.length
    ·exact hpre j hj
    ·rw [List.getElem?_eq_none (by omega),List.getElem?_eq_none (by omega)]
   refine zb4 ?_
   refine zbo ?_
   refine AW_r rfl rfl λK hK=>?_
   simp (disch:=omega) [cS]
   repeat' first|(exfalso;omega)|(refine ⟨λ_=>?_,λ_=>?_⟩)|(refine ⟨by omega,?_⟩)|(intro _)
   all_goals (refine hK _ ?_;clear hK K)
   all_goals
    refine zbl (zb5 ?_)
    simp (disch:=omega) [cS]
    all_goals first|(exact zci heq)|(refine zb9 λheq=>?_;subst heq;simp_all [zbb,zba,zbq];done)|(refine (zb9 λheq=>?_).symm;subst heq;simp_all [zbb,zba,zbq];done) | simp_all [zbq]
attribute [local simp] DtCSnap.cells
theorem eqCSnap(u v:DtCSnap)(hs:DtCSnap.sz u≤1048576):PCall Try.prog 59 [.agg (DtCSnap.cells u),.agg (DtCSnap.cells v)] (.g (.bool (eqB u v))):=by
 simp only [DtCSnap.sz] at hs
 have z2:=(zde zc1) u.fChunks
 have s0:(u.fName.length:Int)≤1048576:=by omega
 have s1:(u.fTag.length:Int)≤1048576:=by omega
 have s2:szS lenZ u.fChunks≤1048576:=by omega
 have he:=DtCSnap.ext_iff u v
 refine zbp Try.func59 (by rfl) (by rfl) (by rw [Try.ntmps59];exact Nat.le_of_ble_eq_true rfl) rfl (by decide) ?_
 rw [Try.ntmps59]
 refine AW_k [(0,_),(1,_)] ⟨rfl,rfl,trivial⟩ ?_
 refine AW_r rfl rfl λK hK=>?_
 simp
 repeat' first|(refine ⟨by omega,?_⟩)|(intro _)
 refine hK _ ?_;clear hK K
 refine zbf ?_
 refine AW_r rfl rfl λK hK=>?_
 simp
 repeat' first|(refine ⟨by omega,?_⟩)|(intro _)
 refine hK _ ?_;clear hK K
 refine zbi rfl (λhc4=>?_) (λhc4=>?_)
 ·try simp at hc4
  all_goals
   refine AW_r rfl rfl λK hK=>?_
   simp
   repeat' first|(refine ⟨λ_=>?_,λ_=>?_⟩)|(refine ⟨by omega,?_⟩)|(intro _)
   all_goals (refine hK _ ?_;clear hK K)
   all_goals
    refine zbl (zb5 ?_)
    simp
    all_goals first|(refine zci (he.mpr ?_);simp_all [zbb,zba];done)|(refine zb9 λh=>?_;rw [he] at h;simp_all [zbb,zba,zbq];done)|(refine (zci (he.mpr ?_)).symm;simp_all [zbb,zba];done)|(refine (zb9 λh=>?_).symm;rw [he] at h;simp_all [zbb,zba,zbq];done)
 try simp at hc4
 refine zbj ?_
 refine zbo ?_
 refine zbf ?_
 refine AW_r rfl rfl λK hK=>?_
 simp
 repeat' first|(refine ⟨λ_=>?_,λ_=>?_⟩)|(refine ⟨by omega,?_⟩)|(intro _)
 all_goals (refine hK _ ?_;clear hK K)
 all_goals
  refine zbi rfl (λhc5=>?_) (λhc5=>?_)
  ·try simp at hc5
   all_goals
    refine AW_r rfl rfl λK hK=>?_
    simp
    repeat' first|(refine ⟨λ_=>?_,λ_=>?_⟩)|(refine ⟨by omega,?_⟩)|(intro _)
    all_goals (refine hK _ ?_;clear hK K)
    all_goals
     refine zbl (zb5 ?_)
     simp
     all_goals first|(refine zci (he.mpr ?_);simp_all [zbb,zba];done)|(refine zb9 λh=>?_;rw [he] at h;simp_all [zbb,zba,zbq];done)|(refine (zci (he.mpr ?_)).symm;simp_all [zbb,zba];done)|(refine (zb9 λh=>?_).symm;rw [he] at h;simp_all [zbb,zba,zbq];done)
  try simp at hc5
  refine zbj ?_
  refine zbo ?_
  refine zbf ?_
  refine AW_r rfl rfl λK hK=>?_
  simp
  repeat' first|(refine zcj (zbe zfb (zbe zfb zbn)) (zxk _ _ (by first | assumption | omega)) rfl ?_;simp)|(refine ⟨λ_=>?_,λ_=>?_⟩)|(refine ⟨by omega,?_⟩)|(intro _)
  all_goals (refine hK _ ?_;clear hK K)
  all_goals
   refine zbi rfl (λhc6=>?_) (λhc6=>?_)
   ·try simp at hc6
    all_goals
     refine AW_r rfl rfl λK hK=>?_
     simp
     repeat' first|(refine ⟨λ_=>?_,λ_=>?_⟩)|(refine ⟨by omega,?_⟩)|(intro _)
     all_goals (refine hK _ ?_;clear hK K)
     all_goals
      refine zbl (zb5 ?_)
      simp
      all_goals first|(refine zci (he.mpr ?_);simp_all [zbb,zba];done)|(refine zb9 λh=>?_;rw [he] at h;simp_all [zbb,zba,zbq];done)|(refine (zci (he.mpr ?_)).symm;simp_all [zbb,zba];done)|(refine (zb9 λh=>?_).symm;rw [he] at h;simp_all [zbb,zba,zbq];done)
   try simp at hc6
   refine zbj ?_
   refine zbo ?_
   refine AW_r rfl rfl λK hK=>?_
   simp
   repeat' first|(refine ⟨λ_=>?_,λ_=>?_⟩)|(refine ⟨by omega,?_⟩)|(intro _)
   all_goals (refine hK _ ?_;clear hK K)
   all_goals
    refine zbl (zb5 ?_)
    simp
    all_goals first|(refine zci (he.mpr ?_);simp_all [zbb,zba];done)|(refine zb9 λh=>?_;rw [he] at h;simp_all [zbb,zba,zbq];done)|(refine (zci (he.mpr ?_)).symm;simp_all [zbb,zba];done)|(refine (zb9 λh=>?_).symm;rw [he] at h;simp_all [zbb,zba,zbq];done)
attribute [-simp] DtCSnap.cells
theorem eqCSnapS(xs ys:List DtCSnap)(hs:szS DtCSnap.sz xs≤1048576):PCall Try.prog 53 [.sl 3 (xs.map DtCSnap.cells),.sl 3 (ys.map DtCSnap.cells)] (.g (.bool (eqB xs ys))):=by
 have hn:xs.length≤1048576:=by have:=zcf DtCSnap.sz_nonneg xs;simp only [szS] at hs;omega
 refine zbp Try.func53 (by rfl) (by rfl) (by rw [Try.ntmps53];exact Nat.le_of_ble_eq_true rfl) rfl (by decide) ?_
 rw [Try.ntmps53]
 refine AW_k [(0,_),(1,_)] ⟨rfl,rfl,trivial⟩ ?_
 refine AW_r rfl rfl λK hK=>?_
 simp (disch:=omega)
 repeat' first|(refine ⟨by omega,?_⟩)|(intro _)
 refine hK _ ?_;clear hK K
 refine zbf ?_
 refine AW_r rfl rfl λK hK=>?_
 simp (disch:=omega)
 repeat' first|(refine ⟨by omega,?_⟩)|(intro _)
 refine hK _ ?_;clear hK K
 refine zbi rfl (λhc7=>?_) (λhc7=>?_)
 ·try simp at hc7
  all_goals
   refine AW_r rfl rfl λK hK=>?_
   simp (disch:=omega)
   repeat' first|(exfalso;omega)|(refine ⟨λ_=>?_,λ_=>?_⟩)|(refine ⟨by omega,?_⟩)|(intro _)
   all_goals (refine hK _ ?_;clear hK K)
   all_goals
    refine zbl (zb5 ?_)
    simp (disch:=omega)
    all_goals first|(exact zci heq)|(refine zb9 λheq=>?_;subst heq;simp_all [zbb,zba,zbq];done)|(refine (zb9 λheq=>?_).symm;subst heq;simp_all [zbb,zba,zbq];done) | simp_all [zbq]
 try simp at hc7
 refine zbj ?_
 refine zbo ?_
 refine zbf ?_
 refine AW_r rfl rfl λK hK=>?_
 simp (disch:=omega)
 repeat' first|(exfalso;omega)|(refine ⟨λ_=>?_,λ_=>?_⟩)|(refine ⟨by omega,?_⟩)|(intro _)
 all_goals (refine hK _ ?_;clear hK K)
 all_goals
  refine zbm ?_
  refine zbw (λmM sS=>∃(i:Nat),mM=xs.length-i∧(i≤xs.length∧∀j,j<i→xs[j]? = ys[j]?)∧sS = { env:=lkE [(0,.sl 3 (xs.map DtCSnap.cells)),(1,.sl 3 (ys.map DtCSnap.cells)),(5,(.g (.int .i64 ((i:Nat)))))],ob:=formOb [] [] }) ?_ ?_
  ·refine ⟨_,LeS.kp [(0,.sl 3 (xs.map DtCSnap.cells)),(1,.sl 3 (ys.map DtCSnap.cells)),(5,(.g (.int .i64 (((0):Nat)))))] (by simp [zG1,KpE];try rfl),_,0,rfl,?_,rfl⟩
   ·simp
  ·rintro mM sS ⟨i,rfl,⟨hi,hpre⟩,rfl⟩
   refine zbf ?_
   refine AW_r rfl rfl λK hK=>?_
   simp (disch:=omega) [DtCSnap.cells]
   repeat' first|(refine ⟨by omega,?_⟩)|(intro _)
   refine hK _ ?_;clear hK K
   refine zbi rfl (λhc8=>?_) (λhc8=>?_)
   ·try simp at hc8
    all_goals
     have h7:i<ys.length:=by omega
     have hsE:DtCSnap.sz xs[i]≤1048576:=by have:=zcn DtCSnap.sz_nonneg xs xs[i] (List.getElem_mem _);simp only [szS] at hs;omega
     refine zbj ?_
     refine zbo ?_
     refine zbf ?_
     refine zbm ?_
     refine AW_q rfl mix (by kernel_rfl) rfl λK hK=>?_
     simp (disch:=omega) [DtCSnap.cells]
     repeat' first|(exfalso;omega)|(refine zcj (zbe (zca rfl) (zbe (zca rfl) zbn)) (eqCSnap _ _ (by first | assumption | omega)) rfl ?_;simp (disch:=omega) [DtCSnap.cells])|(refine ⟨λ_=>?_,λ_=>?_⟩)|(refine ⟨by omega,?_⟩)|(intro _)
     all_goals (refine hK _ ?_;clear hK K)
     all_goals
      refine zbi rfl (λhc9=>?_) (λhc9=>?_)
      ·try simp at hc9
       all_goals
        refine AW_r rfl rfl λK hK=>?_
        simp (disch:=omega) [DtCSnap.cells]
        repeat' first|(exfalso;omega)|(refine ⟨λ_=>?_,λ_=>?_⟩)|(refine ⟨by omega,?_⟩)|(intro _)
        all_goals (refine hK _ ?_;clear hK K)
        all_goals
         refine zbl (zb5 ?_)
         simp (disch:=omega) [DtCSnap.cells]
         all_goals first|(exact zci heq)|(refine zb9 λheq=>?_;subst heq;simp_all [zbb,zba,zbq];done)|(refine (zb9 λheq=>?_).symm;subst heq;simp_all [zbb,zba,zbq];done) | simp_all [zbq]
      try simp at hc9
      refine zbj ?_
      refine zbo ?_
      refine zc0 rfl rfl λK hK=>?_
      simp (disch:=omega) [DtCSnap.cells]
      repeat' first|(exfalso;omega)|(refine ⟨λ_=>?_,λ_=>?_⟩)|(refine ⟨by omega,?_⟩)|(intro _)
      all_goals (refine hK _ ?_;clear hK K)
      all_goals
       refine ⟨_,LeS.kp [(0,.sl 3 (xs.map DtCSnap.cells)),(1,.sl 3 (ys.map DtCSnap.cells)),(5,(.g (.int .i64 (((i+1):Nat)))))] (by simp [zG1,KpE];try rfl),_,?_,i+1,rfl,?_,rfl⟩
       ·omega
       ·refine ⟨by omega,λj hj=>?_⟩
        by_cases hji:j=i
        ·subst hji;simp_all [zbb,zba]
        ·exact hpre j (by omega)
   try simp at hc8
   have hi2:i=xs.length:=by omega
   subst hi2
   have heq:xs=ys:=List.ext_getElem? λj=>by
    by_cases hj:j<xs.length
    ·exact hpre j hj
    ·rw [List.getElem?_eq_none (by omega),List.getElem?_eq_none (by omega)]
   refine zb4 ?_
   refine zbo ?_
   refine AW_r rfl rfl λK hK=>?_
   simp (disch:=omega) [DtCSnap.cells]
   repeat' first|(exfalso;omega)|(refine ⟨λ_=>?_,λ_=>?_⟩)|(refine ⟨by omega,?_⟩)|(intro _)
   all_goals (refine hK _ ?_;clear hK K)
   all_goals
    refine zbl (zb5 ?_)
    simp (disch:=omega) [DtCSnap.cells]
    all_goals first|(exact zci heq)|(refine zb9 λheq=>?_;subst heq;simp_all [zbb,zba,zbq];done)|(refine (zb9 λheq=>?_).symm;subst heq;simp_all [zbb,zba,zbq];done) | simp_all [zbq]
attribute [local simp] DtCSet.cells
theorem eqCSet(u v:DtCSet)(hs:DtCSet.sz u≤1048576):PCall Try.prog 46 [.agg (DtCSet.cells u),.agg (DtCSet.cells v)] (.g (.bool (eqB u v))):=by
 simp only [DtCSet.sz] at hs
 have z1:=(zde DtCSnap.sz_nonneg) u.fSnaps
 have s0:(u.fName.length:Int)≤1048576:=by omega
 have s1:szS DtCSnap.sz u.fSnaps≤1048576:=by omega
 have he:=DtCSet.ext_iff u v
 refine zbp Try.func46 (by rfl) (by rfl) (by rw [Try.ntmps46];exact Nat.le_of_ble_eq_true rfl) rfl (by decide) ?_
 rw [Try.ntmps46]
 refine AW_k [(0,_),(1,_)] ⟨rfl,rfl,trivial⟩ ?_
 refine AW_r rfl rfl λK hK=>?_
 simp
 repeat' first|(refine ⟨by omega,?_⟩)|(intro _)
 refine hK _ ?_;clear hK K
 refine zbf ?_
 refine AW_r rfl rfl λK hK=>?_
 simp
 repeat' first|(refine ⟨by omega,?_⟩)|(intro _)
 refine hK _ ?_;clear hK K
 refine zbi rfl (λhc10=>?_) (λhc10=>?_)
 ·try simp at hc10
  all_goals
   refine AW_r rfl rfl λK hK=>?_
   simp
   repeat' first|(refine ⟨λ_=>?_,λ_=>?_⟩)|(refine ⟨by omega,?_⟩)|(intro _)
   all_goals (refine hK _ ?_;clear hK K)
   all_goals
    refine zbl (zb5 ?_)
    simp
    all_goals first|(refine zci (he.mpr ?_);simp_all [zbb,zba];done)|(refine zb9 λh=>?_;rw [he] at h;simp_all [zbb,zba,zbq];done)|(refine (zci (he.mpr ?_)).symm;simp_all [zbb,zba];done)|(refine (zb9 λh=>?_).symm;rw [he] at h;simp_all [zbb,zba,zbq];done)
 try simp at hc10
 refine zbj ?_
 refine zbo ?_
 refine zbf ?_
 refine AW_r rfl rfl λK hK=>?_
 simp
 repeat' first|(refine zcj (zbe zfb (zbe zfb zbn)) (eqCSnapS _ _ (by first | assumption | omega)) rfl ?_;simp)|(refine ⟨λ_=>?_,λ_=>?_⟩)|(refine ⟨by omega,?_⟩)|(intro _)
 all_goals (refine hK _ ?_;clear hK K)
 all_goals
  refine zbi rfl (λhc11=>?_) (λhc11=>?_)
  ·try simp at hc11
   all_goals
    refine AW_r rfl rfl λK hK=>?_
    simp
    repeat' first|(refine ⟨λ_=>?_,λ_=>?_⟩)|(refine ⟨by omega,?_⟩)|(intro _)
    all_goals (refine hK _ ?_;clear hK K)
    all_goals
     refine zbl (zb5 ?_)
     simp
     all_goals first|(refine zci (he.mpr ?_);simp_all [zbb,zba];done)|(refine zb9 λh=>?_;rw [he] at h;simp_all [zbb,zba,zbq];done)|(refine (zci (he.mpr ?_)).symm;simp_all [zbb,zba];done)|(refine (zb9 λh=>?_).symm;rw [he] at h;simp_all [zbb,zba,zbq];done)
  try simp at hc11
  refine zbj ?_
  refine zbo ?_
  refine AW_r rfl rfl λK hK=>?_
  simp
  repeat' first|(refine ⟨λ_=>?_,λ_=>?_⟩)|(refine ⟨by omega,?_⟩)|(intro _)
  all_goals (refine hK _ ?_;clear hK K)
  all_goals
   refine zbl (zb5 ?_)
   simp
   all_goals first|(refine zci (he.mpr ?_);simp_all [zbb,zba];done)|(refine zb9 λh=>?_;rw [he] at h;simp_all [zbb,zba,zbq];done)|(refine (zci (he.mpr ?_)).symm;simp_all [zbb,zba];done)|(refine (zb9 λh=>?_).symm;rw [he] at h;simp_all [zbb,zba,zbq];done)
attribute [-simp] DtCSet.cells
theorem eqCSetS(xs ys:List DtCSet)(hs:szS DtCSet.sz xs≤1048576):PCall Try.prog 37 [.sl 2 (xs.map DtCSet.cells),.sl 2 (ys.map DtCSet.cells)] (.g (.bool (eqB xs ys))):=by
 have hn:xs.length≤1048576:=by have:=zcf DtCSet.sz_nonneg xs;simp only [szS] at hs;omega
 refine zbp Try.func37 (by rfl) (by rfl) (by rw [Try.ntmps37];exact Nat.le_of_ble_eq_true rfl) rfl (by decide) ?_
 rw [Try.ntmps37]
 refine AW_k [(0,_),(1,_)] ⟨rfl,rfl,trivial⟩ ?_
 refine AW_r rfl rfl λK hK=>?_
 simp (disch:=omega)
 repeat' first|(refine ⟨by omega,?_⟩)|(intro _)
 refine hK _ ?_;clear hK K
 refine zbf ?_
 refine AW_r rfl rfl λK hK=>?_
 simp (disch:=omega)
 repeat' first|(refine ⟨by omega,?_⟩)|(intro _)
 refine hK _ ?_;clear hK K
 refine zbi rfl (λhc12=>?_) (λhc12=>?_)
 ·try simp at hc12
  all_goals
   refine AW_r rfl rfl λK hK=>?_
   simp (disch:=omega)
   repeat' first|(exfalso;omega)|(refine ⟨λ_=>?_,λ_=>?_⟩)|(refine ⟨by omega,?_⟩)|(intro _)
   all_goals (refine hK _ ?_;clear hK K)
   all_goals
    refine zbl (zb5 ?_)
    simp (disch:=omega)
    all_goals first|(exact zci heq)|(refine zb9 λheq=>?_;subst heq;simp_all [zbb,zba,zbq];done)|(refine (zb9 λheq=>?_).symm;subst heq;simp_all [zbb,zba,zbq];done) | simp_all [zbq]
 try simp at hc12
 refine zbj ?_
 refine zbo ?_
 refine zbf ?_
 refine AW_r rfl rfl λK hK=>?_
 simp (disch:=omega)
 repeat' first|(exfalso;omega)|(refine ⟨λ_=>?_,λ_=>?_⟩)|(refine ⟨by omega,?_⟩)|(intro _)
 all_goals (refine hK _ ?_;clear hK K)
 all_goals
  refine zbm ?_
  refine zbw (λmM sS=>∃(i:Nat),mM=xs.length-i∧(i≤xs.length∧∀j,j<i→xs[j]? = ys[j]?)∧sS = { env:=lkE [(0,.sl 2 (xs.map DtCSet.cells)),(1,.sl 2 (ys.map DtCSet.cells)),(5,(.g (.int .i64 ((i:Nat)))))],ob:=formOb [] [] }) ?_ ?_
  ·refine ⟨_,LeS.kp [(0,.sl 2 (xs.map DtCSet.cells)),(1,.sl 2 (ys.map DtCSet.cells)),(5,(.g (.int .i64 (((0):Nat)))))] (by simp [zG1,KpE];try rfl),_,0,rfl,?_,rfl⟩
   ·simp
  ·rintro mM sS ⟨i,rfl,⟨hi,hpre⟩,rfl⟩
   refine zbf ?_
   refine AW_r rfl rfl λK hK=>?_
   simp (disch:=omega) [DtCSet.cells]
   repeat' first|(refine ⟨by omega,?_⟩)|(intro _)
   refine hK _ ?_;clear hK K
   refine zbi rfl (λhc13=>?_) (λhc13=>?_)
   ·try simp at hc13
    all_goals
     have h7:i<ys.length:=by omega
     have hsE:DtCSet.sz xs[i]≤1048576:=by have:=zcn DtCSet.sz_nonneg xs xs[i] (List.getElem_mem _);simp only [szS] at hs;omega
     refine zbj ?_
     refine zbo ?_
     refine zbf ?_
     refine zbm ?_
     refine AW_q rfl mix (by kernel_rfl) rfl λK hK=>?_
     simp (disch:=omega) [DtCSet.cells]
     repeat' first|(exfalso;omega)|(refine zcj (zbe (zca rfl) (zbe (zca rfl) zbn)) (eqCSet _ _ (by first | assumption | omega)) rfl ?_;simp (disch:=omega) [DtCSet.cells])|(refine ⟨λ_=>?_,λ_=>?_⟩)|(refine ⟨by omega,?_⟩)|(intro _)
     all_goals (refine hK _ ?_;clear hK K)
     all_goals
      refine zbi rfl (λhc14=>?_) (λhc14=>?_)
      ·try simp at hc14
       all_goals
        refine AW_r rfl rfl λK hK=>?_
        simp (disch:=omega) [DtCSet.cells]
        repeat' first|(exfalso;omega)|(refine ⟨λ_=>?_,λ_=>?_⟩)|(refine ⟨by omega,?_⟩)|(intro _)
        all_goals (refine hK _ ?_;clear hK K)
        all_goals
         refine zbl (zb5 ?_)
         simp (disch:=omega) [DtCSet.cells]
         all_goals first|(exact zci heq)|(refine zb9 λheq=>?_;subst heq;simp_all [zbb,zba,zbq];done)|(refine (zb9 λheq=>?_).symm;subst heq;simp_all [zbb,zba,zbq];done) | simp_all [zbq]
      try simp at hc14
      refine zbj ?_
      refine zbo ?_
      refine zc0 rfl rfl λK hK=>?_
      simp (disch:=omega) [DtCSet.cells]
      repeat' first|(exfalso;omega)|(refine ⟨λ_=>?_,λ_=>?_⟩)|(refine ⟨by omega,?_⟩)|(intro _)
      all_goals (refine hK _ ?_;clear hK K)
      all_goals
       refine ⟨_,LeS.kp [(0,.sl 2 (xs.map DtCSet.cells)),(1,.sl 2 (ys.map DtCSet.cells)),(5,(.g (.int .i64 (((i+1):Nat)))))] (by simp [zG1,KpE];try rfl),_,?_,i+1,rfl,?_,rfl⟩
       ·omega
       ·refine ⟨by omega,λj hj=>?_⟩
        by_cases hji:j=i
        ·subst hji;simp_all [zbb,zba]
        ·exact hpre j (by omega)
   try simp at hc13
   have hi2:i=xs.length:=by omega
   subst hi2
   have heq:xs=ys:=List.ext_getElem? λj=>by
    by_cases hj:j<xs.length
    ·exact hpre j hj
    ·rw [List.getElem?_eq_none (by omega),List.getElem?_eq_none (by omega)]
   refine zb4 ?_
   refine zbo ?_
   refine AW_r rfl rfl λK hK=>?_
   simp (disch:=omega) [DtCSet.cells]
   repeat' first|(exfalso;omega)|(refine ⟨λ_=>?_,λ_=>?_⟩)|(refine ⟨by omega,?_⟩)|(intro _)
   all_goals (refine hK _ ?_;clear hK K)
   all_goals
    refine zbl (zb5 ?_)
    simp (disch:=omega) [DtCSet.cells]
    all_goals first|(exact zci heq)|(refine zb9 λheq=>?_;subst heq;simp_all [zbb,zba,zbq];done)|(refine (zb9 λheq=>?_).symm;subst heq;simp_all [zbb,zba,zbq];done) | simp_all [zbq]
attribute [local simp] DtCatalog.cells
theorem zxl(u v:DtCatalog)(hs:DtCatalog.sz u≤1048576):PCall Try.prog 18 [.agg (DtCatalog.cells u),.agg (DtCatalog.cells v)] (.g (.bool (eqB u v))):=by
 simp only [DtCatalog.sz] at hs
 have z0:=(zde DtCSet.sz_nonneg) u.fSets
 have s0:szS DtCSet.sz u.fSets≤1048576:=by omega
 have he:=DtCatalog.ext_iff u v
 refine zbp Try.func18 (by rfl) (by rfl) (by rw [Try.ntmps18];exact Nat.le_of_ble_eq_true rfl) rfl (by decide) ?_
 rw [Try.ntmps18]
 refine AW_k [(0,_),(1,_)] ⟨rfl,rfl,trivial⟩ ?_
 refine AW_r rfl rfl λK hK=>?_
 simp
 repeat' first|(refine ⟨by omega,?_⟩)|(intro _)
 refine hK _ ?_;clear hK K
 refine zbf ?_
 refine AW_r rfl rfl λK hK=>?_
 simp
 repeat' first|(refine zcj (zbe zfb (zbe zfb zbn)) (eqCSetS _ _ (by first | assumption | omega)) rfl ?_;simp)|(refine ⟨by omega,?_⟩)|(intro _)
 refine hK _ ?_;clear hK K
 refine zbi rfl (λhc15=>?_) (λhc15=>?_)
 ·try simp at hc15
  all_goals
   refine AW_r rfl rfl λK hK=>?_
   simp
   repeat' first|(refine ⟨λ_=>?_,λ_=>?_⟩)|(refine ⟨by omega,?_⟩)|(intro _)
   all_goals (refine hK _ ?_;clear hK K)
   all_goals
    refine zbl (zb5 ?_)
    simp
    all_goals first|(refine zci (he.mpr ?_);simp_all [zbb,zba];done)|(refine zb9 λh=>?_;rw [he] at h;simp_all [zbb,zba,zbq];done)|(refine (zci (he.mpr ?_)).symm;simp_all [zbb,zba];done)|(refine (zb9 λh=>?_).symm;rw [he] at h;simp_all [zbb,zba,zbq];done)
 try simp at hc15
 refine zbj ?_
 refine zbo ?_
 refine AW_r rfl rfl λK hK=>?_
 simp
 repeat' first|(refine ⟨λ_=>?_,λ_=>?_⟩)|(refine ⟨by omega,?_⟩)|(intro _)
 all_goals (refine hK _ ?_;clear hK K)
 all_goals
  refine zbl (zb5 ?_)
  simp
  all_goals first|(refine zci (he.mpr ?_);simp_all [zbb,zba];done)|(refine zb9 λh=>?_;rw [he] at h;simp_all [zbb,zba,zbq];done)|(refine (zci (he.mpr ?_)).symm;simp_all [zbb,zba];done)|(refine (zb9 λh=>?_).symm;rw [he] at h;simp_all [zbb,zba,zbq];done)
attribute [local simp] DtSaid.cells
attribute [-simp] DtCatalog.cells
theorem eqSaid(u v:DtSaid)(hs:DtSaid.sz u≤1048576):PCall Try.prog 38 [.agg (DtSaid.cells u),.agg (DtSaid.cells v)] (.g (.bool (eqB u v))):=by
 simp only [DtSaid.sz] at hs
 have s2:(u.fText.length:Int)≤1048576:=by omega
 have he:=DtSaid.ext_iff u v
 refine zbp Try.func38 (by rfl) (by rfl) (by rw [Try.ntmps38];exact Nat.le_of_ble_eq_true rfl) rfl (by decide) ?_
 rw [Try.ntmps38]
 refine AW_k [(0,_),(1,_)] ⟨rfl,rfl,trivial⟩ ?_
 refine AW_r rfl rfl λK hK=>?_
 simp
 repeat' first|(refine ⟨by omega,?_⟩)|(intro _)
 refine hK _ ?_;clear hK K
 refine zbf ?_
 refine AW_r rfl rfl λK hK=>?_
 simp
 repeat' first|(refine ⟨by omega,?_⟩)|(intro _)
 refine hK _ ?_;clear hK K
 refine zbi rfl (λhc16=>?_) (λhc16=>?_)
 ·try simp at hc16
  all_goals
   refine AW_r rfl rfl λK hK=>?_
   simp
   repeat' first|(refine ⟨λ_=>?_,λ_=>?_⟩)|(refine ⟨by omega,?_⟩)|(intro _)
   all_goals (refine hK _ ?_;clear hK K)
   all_goals
    refine zbl (zb5 ?_)
    simp
    all_goals first|(refine zci (he.mpr ?_);simp_all [zbb,zba];done)|(refine zb9 λh=>?_;rw [he] at h;simp_all [zbb,zba,zbq];done)|(refine (zci (he.mpr ?_)).symm;simp_all [zbb,zba];done)|(refine (zb9 λh=>?_).symm;rw [he] at h;simp_all [zbb,zba,zbq];done)
 try simp at hc16
 refine zbj ?_
 refine zbo ?_
 refine zbf ?_
 refine AW_r rfl rfl λK hK=>?_
 simp
 repeat' first|(refine ⟨λ_=>?_,λ_=>?_⟩)|(refine ⟨by omega,?_⟩)|(intro _)
 all_goals (refine hK _ ?_;clear hK K)
 all_goals
  refine zbi rfl (λhc17=>?_) (λhc17=>?_)
  ·try simp at hc17
   all_goals
    refine AW_r rfl rfl λK hK=>?_
    simp
    repeat' first|(refine ⟨λ_=>?_,λ_=>?_⟩)|(refine ⟨by omega,?_⟩)|(intro _)
    all_goals (refine hK _ ?_;clear hK K)
    all_goals
     refine zbl (zb5 ?_)
     simp
     all_goals first|(refine zci (he.mpr ?_);simp_all [zbb,zba];done)|(refine zb9 λh=>?_;rw [he] at h;simp_all [zbb,zba,zbq];done)|(refine (zci (he.mpr ?_)).symm;simp_all [zbb,zba];done)|(refine (zb9 λh=>?_).symm;rw [he] at h;simp_all [zbb,zba,zbq];done)
  try simp at hc17
  refine zbj ?_
  refine zbo ?_
  refine zbf ?_
  refine AW_r rfl rfl λK hK=>?_
  simp
  repeat' first|(refine ⟨λ_=>?_,λ_=>?_⟩)|(refine ⟨by omega,?_⟩)|(intro _)
  all_goals (refine hK _ ?_;clear hK K)
  all_goals
   refine zbi rfl (λhc18=>?_) (λhc18=>?_)
   ·try simp at hc18
    all_goals
     refine AW_r rfl rfl λK hK=>?_
     simp
     repeat' first|(refine ⟨λ_=>?_,λ_=>?_⟩)|(refine ⟨by omega,?_⟩)|(intro _)
     all_goals (refine hK _ ?_;clear hK K)
     all_goals
      refine zbl (zb5 ?_)
      simp
      all_goals first|(refine zci (he.mpr ?_);simp_all [zbb,zba];done)|(refine zb9 λh=>?_;rw [he] at h;simp_all [zbb,zba,zbq];done)|(refine (zci (he.mpr ?_)).symm;simp_all [zbb,zba];done)|(refine (zb9 λh=>?_).symm;rw [he] at h;simp_all [zbb,zba,zbq];done)
   try simp at hc18
   refine zbj ?_
   refine zbo ?_
   refine AW_r rfl rfl λK hK=>?_
   simp
   repeat' first|(refine ⟨λ_=>?_,λ_=>?_⟩)|(refine ⟨by omega,?_⟩)|(intro _)
   all_goals (refine hK _ ?_;clear hK K)
   all_goals
    refine zbl (zb5 ?_)
    simp
    all_goals first|(refine zci (he.mpr ?_);simp_all [zbb,zba];done)|(refine zb9 λh=>?_;rw [he] at h;simp_all [zbb,zba,zbq];done)|(refine (zci (he.mpr ?_)).symm;simp_all [zbb,zba];done)|(refine (zb9 λh=>?_).symm;rw [he] at h;simp_all [zbb,zba,zbq];done)
attribute [-simp] DtSaid.cells
theorem eqSaidS(xs ys:List DtSaid)(hs:szS DtSaid.sz xs≤1048576):PCall Try.prog 19 [.sl 3 (xs.map DtSaid.cells),.sl 3 (ys.map DtSaid.cells)] (.g (.bool (eqB xs ys))):=by
 have hn:xs.length≤1048576:=by have:=zcf DtSaid.sz_nonneg xs;simp only [szS] at hs;omega
 refine zbp Try.func19 (by rfl) (by rfl) (by rw [Try.ntmps19];exact Nat.le_of_ble_eq_true rfl) rfl (by decide) ?_
 rw [Try.ntmps19]
 refine AW_k [(0,_),(1,_)] ⟨rfl,rfl,trivial⟩ ?_
 refine AW_r rfl rfl λK hK=>?_
 simp (disch:=omega)
 repeat' first|(refine ⟨by omega,?_⟩)|(intro _)
 refine hK _ ?_;clear hK K
 refine zbf ?_
 refine AW_r rfl rfl λK hK=>?_
 simp (disch:=omega)
 repeat' first|(refine ⟨by omega,?_⟩)|(intro _)
 refine hK _ ?_;clear hK K
 refine zbi rfl (λhc19=>?_) (λhc19=>?_)
 ·try simp at hc19
  all_goals
   refine AW_r rfl rfl λK hK=>?_
   simp (disch:=omega)
   repeat' first|(exfalso;omega)|(refine ⟨λ_=>?_,λ_=>?_⟩)|(refine ⟨by omega,?_⟩)|(intro _)
   all_goals (refine hK _ ?_;clear hK K)
   all_goals
    refine zbl (zb5 ?_)
    simp (disch:=omega)
    all_goals first|(exact zci heq)|(refine zb9 λheq=>?_;subst heq;simp_all [zbb,zba,zbq];done)|(refine (zb9 λheq=>?_).symm;subst heq;simp_all [zbb,zba,zbq];done) | simp_all [zbq]
 try simp at hc19
 refine zbj ?_
 refine zbo ?_
 refine zbf ?_
 refine AW_r rfl rfl λK hK=>?_
 simp (disch:=omega)
 repeat' first|(exfalso;omega)|(refine ⟨λ_=>?_,λ_=>?_⟩)|(refine ⟨by omega,?_⟩)|(intro _)
 all_goals (refine hK _ ?_;clear hK K)
 all_goals
  refine zbm ?_
  refine zbw (λmM sS=>∃(i:Nat),mM=xs.length-i∧(i≤xs.length∧∀j,j<i→xs[j]? = ys[j]?)∧sS = { env:=lkE [(0,.sl 3 (xs.map DtSaid.cells)),(1,.sl 3 (ys.map DtSaid.cells)),(5,(.g (.int .i64 ((i:Nat)))))],ob:=formOb [] [] }) ?_ ?_
  ·refine ⟨_,LeS.kp [(0,.sl 3 (xs.map DtSaid.cells)),(1,.sl 3 (ys.map DtSaid.cells)),(5,(.g (.int .i64 (((0):Nat)))))] (by simp [zG1,KpE];try rfl),_,0,rfl,?_,rfl⟩
   ·simp
  ·rintro mM sS ⟨i,rfl,⟨hi,hpre⟩,rfl⟩
   refine zbf ?_
   refine AW_r rfl rfl λK hK=>?_
   simp (disch:=omega) [DtSaid.cells]
   repeat' first|(refine ⟨by omega,?_⟩)|(intro _)
   refine hK _ ?_;clear hK K
   refine zbi rfl (λhc20=>?_) (λhc20=>?_)
   ·try simp at hc20
    all_goals
     have h7:i<ys.length:=by omega
     have hsE:DtSaid.sz xs[i]≤1048576:=by have:=zcn DtSaid.sz_nonneg xs xs[i] (List.getElem_mem _);simp only [szS] at hs;omega
     refine zbj ?_
     refine zbo ?_
     refine zbf ?_
     refine zbm ?_
     refine AW_q rfl mix (by kernel_rfl) rfl λK hK=>?_
     simp (disch:=omega) [DtSaid.cells]
     repeat' first|(exfalso;omega)|(refine zcj (zbe (zca rfl) (zbe (zca rfl) zbn)) (eqSaid _ _ (by first | assumption | omega)) rfl ?_;simp (disch:=omega) [DtSaid.cells])|(refine ⟨λ_=>?_,λ_=>?_⟩)|(refine ⟨by omega,?_⟩)|(intro _)
     all_goals (refine hK _ ?_;clear hK K)
     all_goals
      refine zbi rfl (λhc21=>?_) (λhc21=>?_)
      ·try simp at hc21
       all_goals
        refine AW_r rfl rfl λK hK=>?_
        simp (disch:=omega) [DtSaid.cells]
        repeat' first|(exfalso;omega)|(refine ⟨λ_=>?_,λ_=>?_⟩)|(refine ⟨by omega,?_⟩)|(intro _)
        all_goals (refine hK _ ?_;clear hK K)
        all_goals
         refine zbl (zb5 ?_)
         simp (disch:=omega) [DtSaid.cells]
         all_goals first|(exact zci heq)|(refine zb9 λheq=>?_;subst heq;simp_all [zbb,zba,zbq];done)|(refine (zb9 λheq=>?_).symm;subst heq;simp_all [zbb,zba,zbq];done) | simp_all [zbq]
      try simp at hc21
      refine zbj ?_
      refine zbo ?_
      refine zc0 rfl rfl λK hK=>?_
      simp (disch:=omega) [DtSaid.cells]
      repeat' first|(exfalso;omega)|(refine ⟨λ_=>?_,λ_=>?_⟩)|(refine ⟨by omega,?_⟩)|(intro _)
      all_goals (refine hK _ ?_;clear hK K)
      all_goals
       refine ⟨_,LeS.kp [(0,.sl 3 (xs.map DtSaid.cells)),(1,.sl 3 (ys.map DtSaid.cells)),(5,(.g (.int .i64 (((i+1):Nat)))))] (by simp [zG1,KpE];try rfl),_,?_,i+1,rfl,?_,rfl⟩
       ·omega
       ·refine ⟨by omega,λj hj=>?_⟩
        by_cases hji:j=i
        ·subst hji;simp_all [zbb,zba]
        ·exact hpre j (by omega)
   try simp at hc20
   have hi2:i=xs.length:=by omega
   subst hi2
   have heq:xs=ys:=List.ext_getElem? λj=>by
    by_cases hj:j<xs.length
    ·exact hpre j hj
    ·rw [List.getElem?_eq_none (by omega),List.getElem?_eq_none (by omega)]
   refine zb4 ?_
   refine zbo ?_
   refine AW_r rfl rfl λK hK=>?_
   simp (disch:=omega) [DtSaid.cells]
   repeat' first|(exfalso;omega)|(refine ⟨λ_=>?_,λ_=>?_⟩)|(refine ⟨by omega,?_⟩)|(intro _)
   all_goals (refine hK _ ?_;clear hK K)
   all_goals
    refine zbl (zb5 ?_)
    simp (disch:=omega) [DtSaid.cells]
    all_goals first|(exact zci heq)|(refine zb9 λheq=>?_;subst heq;simp_all [zbb,zba,zbq];done)|(refine (zb9 λheq=>?_).symm;subst heq;simp_all [zbb,zba,zbq];done) | simp_all [zbq]
attribute [local simp] DtState.cells
attribute [local simp] DtCatalog.cells
theorem zgr(u v:DtState)(hs:DtState.sz u≤1048576):PCall Try.prog 6 [.agg (DtState.cells u),.agg (DtState.cells v)] (.g (.bool (eqB u v))):=by
 simp only [DtState.sz] at hs
 have z0:=DtCatalog.sz_nonneg u.fCat
 have z1:=(zde DtSaid.sz_nonneg) u.fSaid
 have s0:DtCatalog.sz u.fCat≤1048576:=by omega
 have s1:szS DtSaid.sz u.fSaid≤1048576:=by omega
 have he:=DtState.ext_iff u v
 refine zbp Try.func6 (by rfl) (by rfl) (by rw [Try.ntmps6];exact Nat.le_of_ble_eq_true rfl) rfl (by decide) ?_
 rw [Try.ntmps6]
 refine AW_k [(0,_),(1,_)] ⟨rfl,rfl,trivial⟩ ?_
 refine AW_r rfl rfl λK hK=>?_
 simp
 repeat' first|(refine ⟨by omega,?_⟩)|(intro _)
 refine hK _ ?_;clear hK K
 refine zbf ?_
 refine AW_r rfl rfl λK hK=>?_
 simp
 repeat' first|(refine zcj (zbe (zca rfl) (zbe (zca rfl) zbn)) (zxl _ _ (by first | assumption | omega)) rfl ?_;simp)|(refine ⟨by omega,?_⟩)|(intro _)
 refine hK _ ?_;clear hK K
 refine zbi rfl (λhc22=>?_) (λhc22=>?_)
 ·try simp at hc22
  all_goals
   refine AW_r rfl rfl λK hK=>?_
   simp
   repeat' first|(refine ⟨λ_=>?_,λ_=>?_⟩)|(refine ⟨by omega,?_⟩)|(intro _)
   all_goals (refine hK _ ?_;clear hK K)
   all_goals
    refine zbl (zb5 ?_)
    simp
    all_goals first|(refine zci (he.mpr ?_);simp_all [zbb,zba];done)|(refine zb9 λh=>?_;rw [he] at h;simp_all [zbb,zba,zbq];done)|(refine (zci (he.mpr ?_)).symm;simp_all [zbb,zba];done)|(refine (zb9 λh=>?_).symm;rw [he] at h;simp_all [zbb,zba,zbq];done)
 try simp at hc22
 refine zbj ?_
 refine zbo ?_
 refine zbf ?_
 refine AW_r rfl rfl λK hK=>?_
 simp
 repeat' first|(refine zcj (zbe zfb (zbe zfb zbn)) (eqSaidS _ _ (by first | assumption | omega)) rfl ?_;simp)|(refine ⟨λ_=>?_,λ_=>?_⟩)|(refine ⟨by omega,?_⟩)|(intro _)
 all_goals (refine hK _ ?_;clear hK K)
 all_goals
  refine zbi rfl (λhc23=>?_) (λhc23=>?_)
  ·try simp at hc23
   all_goals
    refine AW_r rfl rfl λK hK=>?_
    simp
    repeat' first|(refine ⟨λ_=>?_,λ_=>?_⟩)|(refine ⟨by omega,?_⟩)|(intro _)
    all_goals (refine hK _ ?_;clear hK K)
    all_goals
     refine zbl (zb5 ?_)
     simp
     all_goals first|(refine zci (he.mpr ?_);simp_all [zbb,zba];done)|(refine zb9 λh=>?_;rw [he] at h;simp_all [zbb,zba,zbq];done)|(refine (zci (he.mpr ?_)).symm;simp_all [zbb,zba];done)|(refine (zb9 λh=>?_).symm;rw [he] at h;simp_all [zbb,zba,zbq];done)
  try simp at hc23
  refine zbj ?_
  refine zbo ?_
  refine AW_r rfl rfl λK hK=>?_
  simp
  repeat' first|(refine ⟨λ_=>?_,λ_=>?_⟩)|(refine ⟨by omega,?_⟩)|(intro _)
  all_goals (refine hK _ ?_;clear hK K)
  all_goals
   refine zbl (zb5 ?_)
   simp
   all_goals first|(refine zci (he.mpr ?_);simp_all [zbb,zba];done)|(refine zb9 λh=>?_;rw [he] at h;simp_all [zbb,zba,zbq];done)|(refine (zci (he.mpr ?_)).symm;simp_all [zbb,zba];done)|(refine (zb9 λh=>?_).symm;rw [he] at h;simp_all [zbb,zba,zbq];done)
end Go.Proofs.Ytchpfloemfoomaa.Vs
end
