import Derived.Test.YtchpfloemfoomaaDoorVs9
import Derived.Test.YtchpfloemfoomaaDoorProg
section
open Go Go.Proofs Go.Proofs.YtchpfloemfoomaaDoor.Vs
namespace Go.Proofs.YtchpfloemfoomaaDoor.Vs
set_option linter.all false
theorem mix:Tryd.prog.follows .mixedOrders=true:=by kernel_rfl
theorem t2:ti Tryd.prog 2=some { agg:=false,size:=1,bytes:=8,zero:=[AV.g (Value.int IntKind.i64 0)],kind:=TK.int IntKind.i64 }:=by kernel_rfl
theorem t3:ti Tryd.prog 3=some { agg:=false,size:=1,bytes:=8,zero:=[AV.g (Value.int IntKind.i64 0)],kind:=TK.int IntKind.i64 }:=by kernel_rfl
theorem t4:ti Tryd.prog 4=some { agg:=false,size:=1,bytes:=1,zero:=[AV.g (Value.bool false)],kind:=TK.bool }:=by kernel_rfl
theorem t5:ti Tryd.prog 5=some { agg:=false,size:=1,bytes:=1,zero:=[AV.g (Value.int IntKind.u8 0)],kind:=TK.int IntKind.u8 }:=by kernel_rfl
theorem t6:ti Tryd.prog 6=some { agg:=false,size:=1,bytes:=1,zero:=[AV.g (Value.int IntKind.u8 0)],kind:=TK.int IntKind.u8 }:=by kernel_rfl
theorem t7:ti Tryd.prog 7=some { agg:=true,size:=4,bytes:=24,zero:=[AV.g (Value.int IntKind.i64 0),AV.g (Value.int IntKind.i64 0),AV.g (Value.bool false),AV.g (Value.int IntKind.u8 0)],kind:=TK.struct [(0,2),(1,3),(2,4),(3,6)] }:=by kernel_rfl
theorem t8:ti Tryd.prog 8=some { agg:=true,size:=4,bytes:=24,zero:=[AV.g (Value.int IntKind.i64 0),AV.g (Value.int IntKind.i64 0),AV.g (Value.bool false),AV.g (Value.int IntKind.u8 0)],kind:=TK.struct [(0,2),(1,3),(2,4),(3,6)] }:=by kernel_rfl
theorem t9:ti Tryd.prog 9=some { agg:=false,size:=1,bytes:=16,zero:=[AV.s []],kind:=TK.str }:=by kernel_rfl
theorem t10:ti Tryd.prog 10=some { agg:=false,size:=1,bytes:=16,zero:=[AV.s []],kind:=TK.str }:=by kernel_rfl
theorem t11:ti Tryd.prog 11=some { agg:=false,size:=1,bytes:=16,zero:=[AV.s []],kind:=TK.str }:=by kernel_rfl
theorem t12:ti Tryd.prog 12=some { agg:=false,size:=1,bytes:=8,zero:=[AV.g (Value.int IntKind.u64 0)],kind:=TK.int IntKind.u64 }:=by kernel_rfl
theorem t13:ti Tryd.prog 13=some { agg:=true,size:=2,bytes:=24,zero:=[AV.s [],AV.g (Value.int IntKind.u64 0)],kind:=TK.struct [(0,9),(1,12)] }:=by kernel_rfl
theorem t14:ti Tryd.prog 14=some { agg:=true,size:=2,bytes:=24,zero:=[AV.s [],AV.g (Value.int IntKind.u64 0)],kind:=TK.struct [(0,9),(1,12)] }:=by kernel_rfl
theorem t15:ti Tryd.prog 15=some { agg:=false,size:=1,bytes:=8,zero:=[AV.g (Value.pointer none)],kind:=TK.ptr 110 }:=by kernel_rfl
theorem t16:ti Tryd.prog 16=some { agg:=false,size:=1,bytes:=8,zero:=[AV.g (Value.pointer none)],kind:=TK.ptr 113 }:=by kernel_rfl
theorem t17:ti Tryd.prog 17=some { agg:=false,size:=1,bytes:=8,zero:=[AV.g (Value.pointer none)],kind:=TK.ptr 122 }:=by kernel_rfl
theorem t18:ti Tryd.prog 18=some { agg:=true,size:=1,bytes:=8,zero:=[AV.g (Value.pointer none)],kind:=TK.struct [(0,17)] }:=by kernel_rfl
theorem t19:ti Tryd.prog 19=some { agg:=true,size:=1,bytes:=8,zero:=[AV.g (Value.pointer none)],kind:=TK.struct [(0,17)] }:=by kernel_rfl
theorem t21:ti Tryd.prog 21=some { agg:=false,size:=1,bytes:=4,zero:=[AV.g (Value.int IntKind.i32 0)],kind:=TK.int IntKind.i32 }:=by kernel_rfl
theorem t22:ti Tryd.prog 22=some { agg:=false,size:=1,bytes:=24,zero:=[AV.g (Value.slice none 0 0)],kind:=TK.slice 9 }:=by kernel_rfl
theorem t29:ti Tryd.prog 29=some { agg:=false,size:=1,bytes:=24,zero:=[AV.g (Value.slice none 0 0)],kind:=TK.slice 86 }:=by kernel_rfl
theorem t30:ti Tryd.prog 30=some { agg:=true,size:=1,bytes:=24,zero:=[AV.g (Value.slice none 0 0)],kind:=TK.struct [(0,29)] }:=by kernel_rfl
theorem t31:ti Tryd.prog 31=some { agg:=true,size:=1,bytes:=24,zero:=[AV.g (Value.slice none 0 0)],kind:=TK.struct [(0,29)] }:=by kernel_rfl
theorem t32:ti Tryd.prog 32=some { agg:=false,size:=1,bytes:=24,zero:=[AV.g (Value.slice none 0 0)],kind:=TK.slice 61 }:=by kernel_rfl
theorem t33:ti Tryd.prog 33=some { agg:=true,size:=2,bytes:=48,zero:=[AV.g (Value.slice none 0 0),AV.g (Value.slice none 0 0)],kind:=TK.struct [(0,31),(1,32)] }:=by kernel_rfl
theorem t34:ti Tryd.prog 34=some { agg:=true,size:=2,bytes:=48,zero:=[AV.g (Value.slice none 0 0),AV.g (Value.slice none 0 0)],kind:=TK.struct [(0,31),(1,32)] }:=by kernel_rfl
theorem t37:ti Tryd.prog 37=some { agg:=false,size:=1,bytes:=24,zero:=[AV.g (Value.slice none 0 0)],kind:=TK.slice 67 }:=by kernel_rfl
theorem t38:ti Tryd.prog 38=some { agg:=true,size:=1,bytes:=24,zero:=[AV.g (Value.slice none 0 0)],kind:=TK.struct [(0,37)] }:=by kernel_rfl
theorem t39:ti Tryd.prog 39=some { agg:=true,size:=1,bytes:=24,zero:=[AV.g (Value.slice none 0 0)],kind:=TK.struct [(0,37)] }:=by kernel_rfl
theorem t40:ti Tryd.prog 40=some { agg:=false,size:=1,bytes:=24,zero:=[AV.g (Value.slice none 0 0)],kind:=TK.slice 63 }:=by kernel_rfl
theorem t41:ti Tryd.prog 41=some { agg:=true,size:=2,bytes:=48,zero:=[AV.g (Value.slice none 0 0),AV.g (Value.slice none 0 0)],kind:=TK.struct [(0,39),(1,40)] }:=by kernel_rfl
theorem t42:ti Tryd.prog 42=some { agg:=true,size:=2,bytes:=48,zero:=[AV.g (Value.slice none 0 0),AV.g (Value.slice none 0 0)],kind:=TK.struct [(0,39),(1,40)] }:=by kernel_rfl
theorem t56:ti Tryd.prog 56=some { agg:=false,size:=1,bytes:=24,zero:=[AV.g (Value.slice none 0 0)],kind:=TK.slice 5 }:=by kernel_rfl
theorem t60:ti Tryd.prog 60=some { agg:=true,size:=3,bytes:=32,zero:=[AV.g (Value.int IntKind.i64 0),AV.g (Value.int IntKind.i64 0),AV.s []],kind:=TK.struct [(0,3),(1,3),(2,9)] }:=by kernel_rfl
theorem t61:ti Tryd.prog 61=some { agg:=true,size:=3,bytes:=32,zero:=[AV.g (Value.int IntKind.i64 0),AV.g (Value.int IntKind.i64 0),AV.s []],kind:=TK.struct [(0,3),(1,3),(2,9)] }:=by kernel_rfl
theorem t63:ti Tryd.prog 63=some { agg:=true,size:=3,bytes:=32,zero:=[AV.g (Value.int IntKind.i64 0),AV.g (Value.int IntKind.i64 0),AV.s []],kind:=TK.struct [(0,3),(1,3),(2,9)] }:=by kernel_rfl
theorem t65:ti Tryd.prog 65=some { agg:=false,size:=1,bytes:=24,zero:=[AV.g (Value.slice none 0 0)],kind:=TK.slice 69 }:=by kernel_rfl
theorem t66:ti Tryd.prog 66=some { agg:=true,size:=2,bytes:=40,zero:=[AV.s [],AV.g (Value.slice none 0 0)],kind:=TK.struct [(0,9),(1,65)] }:=by kernel_rfl
theorem t67:ti Tryd.prog 67=some { agg:=true,size:=2,bytes:=40,zero:=[AV.s [],AV.g (Value.slice none 0 0)],kind:=TK.struct [(0,9),(1,65)] }:=by kernel_rfl
theorem t68:ti Tryd.prog 68=some { agg:=true,size:=3,bytes:=56,zero:=[AV.s [],AV.s [],AV.g (Value.slice none 0 0)],kind:=TK.struct [(0,9),(1,9),(2,22)] }:=by kernel_rfl
theorem t69:ti Tryd.prog 69=some { agg:=true,size:=3,bytes:=56,zero:=[AV.s [],AV.s [],AV.g (Value.slice none 0 0)],kind:=TK.struct [(0,9),(1,9),(2,22)] }:=by kernel_rfl
theorem t75:ti Tryd.prog 75=some { agg:=false,size:=1,bytes:=8,zero:=[AV.g (Value.int IntKind.u64 0)],kind:=TK.int IntKind.u64 }:=by kernel_rfl
theorem t76:ti Tryd.prog 76=some { agg:=false,size:=1,bytes:=24,zero:=[AV.g (Value.slice none 0 0)],kind:=TK.slice 3 }:=by kernel_rfl
theorem t80:ti Tryd.prog 80=some { agg:=false,size:=1,bytes:=4,zero:=[AV.g (Value.int IntKind.u32 0)],kind:=TK.int IntKind.u32 }:=by kernel_rfl
theorem t81:ti Tryd.prog 81=some { agg:=true,size:=8,bytes:=32,zero:=[AV.g (Value.int IntKind.u32 0),AV.g (Value.int IntKind.u32 0),AV.g (Value.int IntKind.u32 0),AV.g (Value.int IntKind.u32 0),AV.g (Value.int IntKind.u32 0),AV.g (Value.int IntKind.u32 0),AV.g (Value.int IntKind.u32 0),AV.g (Value.int IntKind.u32 0)],kind:=TK.array 8 80 }:=by kernel_rfl
theorem t84:ti Tryd.prog 84=some { agg:=false,size:=1,bytes:=24,zero:=[AV.g (Value.slice none 0 0)],kind:=TK.slice 103 }:=by kernel_rfl
theorem t85:ti Tryd.prog 85=some { agg:=true,size:=2,bytes:=40,zero:=[AV.s [],AV.g (Value.slice none 0 0)],kind:=TK.struct [(0,9),(1,84)] }:=by kernel_rfl
theorem t86:ti Tryd.prog 86=some { agg:=true,size:=2,bytes:=40,zero:=[AV.s [],AV.g (Value.slice none 0 0)],kind:=TK.struct [(0,9),(1,84)] }:=by kernel_rfl
theorem t94:ti Tryd.prog 94=some { agg:=true,size:=64,bytes:=256,zero:=List.replicate 64 (AV.g (Value.int IntKind.u32 0)),kind:=TK.array 64 80 }:=by kernel_rfl
theorem t103:ti Tryd.prog 103=some { agg:=true,size:=3,bytes:=56,zero:=[AV.s [],AV.s [],AV.g (Value.slice none 0 0)],kind:=TK.struct [(0,9),(1,9),(2,22)] }:=by kernel_rfl
theorem t109:ti Tryd.prog 109=some { agg:=true,size:=4,bytes:=40,zero:=[AV.g (Value.pointer none),AV.g (Value.pointer none),AV.g (Value.pointer none),AV.s []],kind:=TK.struct [(0,17),(1,17),(2,17),(3,9)] }:=by kernel_rfl
theorem t110:ti Tryd.prog 110=some { agg:=true,size:=4,bytes:=40,zero:=[AV.g (Value.pointer none),AV.g (Value.pointer none),AV.g (Value.pointer none),AV.s []],kind:=TK.struct [(0,17),(1,17),(2,17),(3,9)] }:=by kernel_rfl
theorem t111:ti Tryd.prog 111=some { agg:=true,size:=0,bytes:=0,zero:=[],kind:=TK.array 0 16 }:=by kernel_rfl
theorem t112:ti Tryd.prog 112=some { agg:=true,size:=0,bytes:=0,zero:=[],kind:=TK.struct [(0,111)] }:=by kernel_rfl
theorem t113:ti Tryd.prog 113=some { agg:=true,size:=0,bytes:=0,zero:=[],kind:=TK.struct [(0,111)] }:=by kernel_rfl
theorem t115:ti Tryd.prog 115=some { agg:=false,size:=1,bytes:=1,zero:=[AV.g (Value.int IntKind.u8 0)],kind:=TK.int IntKind.u8 }:=by kernel_rfl
theorem t116:ti Tryd.prog 116=some { agg:=false,size:=1,bytes:=1,zero:=[AV.g (Value.int IntKind.u8 0)],kind:=TK.int IntKind.u8 }:=by kernel_rfl
theorem t118:ti Tryd.prog 118=some { agg:=false,size:=1,bytes:=8,zero:=[AV.g (Value.pointer none)],kind:=TK.ptr 5 }:=by kernel_rfl
theorem t119:ti Tryd.prog 119=some { agg:=false,size:=1,bytes:=4,zero:=[AV.g (Value.int IntKind.i32 0)],kind:=TK.int IntKind.i32 }:=by kernel_rfl
theorem t120:ti Tryd.prog 120=some { agg:=false,size:=1,bytes:=4,zero:=[AV.g (Value.int IntKind.i32 0)],kind:=TK.int IntKind.i32 }:=by kernel_rfl
theorem t121:ti Tryd.prog 121=some { agg:=true,size:=11,bytes:=48,zero:=[AV.g (Value.int IntKind.u64 0),AV.g (Value.int IntKind.u64 0),AV.g (Value.int IntKind.u32 0),AV.g (Value.int IntKind.u8 0),AV.g (Value.int IntKind.u8 0),AV.g (Value.int IntKind.u8 0),AV.g (Value.int IntKind.u8 0),AV.g Value.nilFunc,AV.g (Value.pointer none),AV.g (Value.int IntKind.i32 0),AV.g (Value.int IntKind.i32 0)],kind:=TK.struct [(0,12),(1,12),(2,80),(3,115),(4,5),(5,5),(6,116),(7,117),(8,118),(9,119),(10,120)] }:=by kernel_rfl
theorem t122:ti Tryd.prog 122=some { agg:=true,size:=11,bytes:=48,zero:=[AV.g (Value.int IntKind.u64 0),AV.g (Value.int IntKind.u64 0),AV.g (Value.int IntKind.u32 0),AV.g (Value.int IntKind.u8 0),AV.g (Value.int IntKind.u8 0),AV.g (Value.int IntKind.u8 0),AV.g (Value.int IntKind.u8 0),AV.g Value.nilFunc,AV.g (Value.pointer none),AV.g (Value.int IntKind.i32 0),AV.g (Value.int IntKind.i32 0)],kind:=TK.struct [(0,12),(1,12),(2,80),(3,115),(4,5),(5,5),(6,116),(7,117),(8,118),(9,119),(10,120)] }:=by kernel_rfl
theorem u_bool:Tryd.prog.underlying 4=some .bool:=by kernel_rfl
attribute [simp ↓] spl_tt spl_tf spl_ft spl_ff
attribute [simp] creg_nil zp0 zp1 cO cR cG_bool cG_undef spl_ct spl_cf putC nmC aop ev cv updL zbz upd_upd zbj zb9 zbr aLen aBuiltin aBin aIntBin aFieldAddr placeOf aLoad cellsAt aUn aIndexAddr st0 valCells isOne Value.oneCell' aStore setCells List.getElem?_cons_zero List.getElem?_cons_succ Option.getD_some zcv zt0 aBuild parts fillA placesOf aField aIndex aSlice optIdx aStrBin aMakeSlice viewCells viewCell arrN frzU capOk aConv aNews aAppend aBuildSlice chunks ztx ztv am0_ss am0_ll am1_gg am1_ss am1_ll am1_nl am1_al am2_gg am2_ss am2_ll am2_nl am2_al am2_ff am1s_nn am1s_cc am2s_nn am2s_cc amRs_one ztw amRs_thr zr1 zr2 zp2 KpE KpO KpR KpOR t2 t3 t4 t5 t6 t7 t8 t9 t10 t11 t12 t13 t14 t15 t16 t17 t18 t19 t21 t22 t29 t30 t31 t32 t33 t34 t37 t38 t39 t40 t41 t42 t56 t60 t61 t63 t65 t66 t67 t68 t69 t75 t76 t80 t81 t84 t85 t86 t94 t103 t109 t110 t111 t112 t113 t115 t116 t118 t119 t120 t121 t122 u_bool
attribute [simp] znl gE tP
end Go.Proofs.YtchpfloemfoomaaDoor.Vs
end
section
open Go Go.Proofs Go.Proofs.YtchpfloemfoomaaDoor.Vs
namespace Go.Proofs.YtchpfloemfoomaaDoor.Vs
set_option linter.all false
set_option maxRecDepth 100000
/-- Marks. -/
def mkL{α:Type}(f:Int→α)(k:Int)(n:Nat):List α:=(List.range n).map λj=>f (k+(j:Nat))
def mkR{α:Type}(f:Int→α)(k:Int)(l:List α)(i:Nat):List α:=mkL f k i++l.drop i
theorem zcw{α:Type}(f:Int→α)(k:Int)(n:Nat):(mkL f k n).length=n:=by simp [mkL]
theorem mkR_len{α:Type}(f:Int→α)(k:Int)(l:List α)(i:Nat)(h:i≤l.length):(mkR f k l i).length=l.length:=by simp [mkR,zcw];omega
theorem mkR_0{α:Type}(f:Int→α)(k:Int)(l:List α):mkR f k l 0=l:=by simp [mkR,mkL]
theorem zjy{α:Type}(f:Int→α)(k:Int)(l:List α)(i:Nat)(h:l.length≤i)(hi:i≤l.length):mkR f k l i=mkL f k l.length:=by
 have:i=l.length:=by omega
 subst this
 simp [mkR]
theorem zqg{α:Type}(f:Int→α)(k:Int)(n j:Nat)(h:j<n):(mkL f k n)[j]? = some (f (k+(j:Nat))):=by
 simp [mkL,h]
theorem take_mkL{α β:Type}(g:α→β)(f:Int→α)(k:Int)(n:Nat):((mkL f k n).map g).take n=(mkL f k n).map g:=List.take_of_length_le (by simp [mkL])
theorem zd8{α:Type}(f:Int→α)(k:Int)(n j:Nat)(h:j<(mkL f k n).length):(mkL f k n)[j]=f (k+(j:Nat)):=by
 simp [mkL]
theorem mkR_get{α:Type}(f:Int→α)(k:Int)(l:List α)(i:Nat)(h:i<l.length):(mkR f k l i)[i]? = some l[i]:=by
 unfold mkR
 rw [List.getElem?_append_right (by simp [zcw])]
 simp [zcw,h]
theorem mkR_set{α:Type}(f:Int→α)(k:Int)(l:List α)(i:Nat)(h:i<l.length):(mkR f k l i).set i (f (k+(i:Nat)))=mkR f k l (i+1):=by
 apply List.ext_getElem?
 intro j
 unfold mkR
 rw [List.getElem?_set]
 by_cases hj:i=j
 ·subst hj
  rw [if_pos rfl,if_pos (by simp [zcw];omega),List.getElem?_append_left (by simp [zcw])]
  rw [zqg _ _ _ _ (by omega)]
 ·rw [if_neg hj]
  by_cases hlt:j<i
  ·rw [List.getElem?_append_left (by simp [zcw];omega),List.getElem?_append_left (by simp [zcw];omega),zqg _ _ _ _ hlt,zqg _ _ _ _ (by omega)]
  ·rw [List.getElem?_append_right (by simp [zcw];omega),List.getElem?_append_right (by simp [zcw];omega)]
   simp [zcw]
   congr 1
   omega
def mB(k:Int):Bool:=k.tmod 3==0
/-- Decimal digits. -/
def dg(n:Nat)(out:List UInt8):List UInt8:=if n=0 then out else dg (n / 10) (strN [IntKind.u8.wrap (48+(n:Int) % 10)]++out)
termination_by n
decreasing_by omega
def mT(k:Int):List UInt8:=if k≤0 then [109,48] else 109 :: dg k.toNat []
def zG0:=And.intro @znl @zk6
theorem zmd(k:Int)(hk:k≤4294967296):PCall Tryd.prog 22 [(.g (.int .i64 (k)))] (.s (mT k)):=by
 refine zbq Tryd.func22 (by rfl) (by rfl) (by rw [Tryd.ntmps22];exact Nat.le_of_ble_eq_true rfl) rfl (by decide) ?_
 rw [Tryd.ntmps22]
 refine AW_k [(0,_)] ⟨rfl,trivial⟩ ?_
 refine AW_r rfl rfl λK hK=>?_
 simp (disch:=omega) [zG0,List.getElem?_eq_getElem,Int.tdiv_eq_ediv_of_nonneg,Int.tmod_eq_emod_of_nonneg,numsOf]
 repeat' first|(refine ⟨by simp [strN];omega,?_⟩;try simp (disch:=omega) [zG0,List.getElem?_eq_getElem,Int.tdiv_eq_ediv_of_nonneg,Int.tmod_eq_emod_of_nonneg,numsOf])|(refine ⟨by omega,?_⟩)|(intro _)
 refine hK _ ?_;clear hK K
 refine zbg ?_
 refine AW_r rfl rfl λK hK=>?_
 simp (disch:=omega) [zG0,List.getElem?_eq_getElem,Int.tdiv_eq_ediv_of_nonneg,Int.tmod_eq_emod_of_nonneg,numsOf]
 repeat' first|(refine ⟨by simp [strN];omega,?_⟩;try simp (disch:=omega) [zG0,List.getElem?_eq_getElem,Int.tdiv_eq_ediv_of_nonneg,Int.tmod_eq_emod_of_nonneg,numsOf])|(refine ⟨by omega,?_⟩)|(intro _)
 refine hK _ ?_;clear hK K
 refine zbm rfl (λhc1=>?_) (λhc1=>?_)
 ·try simp at hc1
  all_goals
   refine AW_r rfl rfl λK hK=>?_
   simp (disch:=omega) [zG0,List.getElem?_eq_getElem,Int.tdiv_eq_ediv_of_nonneg,Int.tmod_eq_emod_of_nonneg,numsOf]
   repeat' first|(exfalso;omega)|(refine ⟨by simp [strN];omega,?_⟩;try simp (disch:=omega) [zG0,List.getElem?_eq_getElem,Int.tdiv_eq_ediv_of_nonneg,Int.tmod_eq_emod_of_nonneg,numsOf])|(refine ⟨λ_=>?_,λ_=>?_⟩)|(refine ⟨by omega,?_⟩)|(intro _)
   all_goals (refine hK _ ?_;clear hK K)
   all_goals
    refine zbu (zdv ?_)
    simp (disch:=omega) [zG0,List.getElem?_eq_getElem,Int.tdiv_eq_ediv_of_nonneg,Int.tmod_eq_emod_of_nonneg,numsOf]
    all_goals first|(unfold mT;rw [if_pos (by omega)];done)|(obtain rfl:n=0:=(by omega);unfold mT;rw [if_neg (by omega),←hd]<;>(unfold dg;simp);done)
 try simp at hc1
 refine zbl ?_
 refine zbk ?_
 refine AW_r rfl rfl λK hK=>?_
 simp (disch:=omega) [zG0,List.getElem?_eq_getElem,Int.tdiv_eq_ediv_of_nonneg,Int.tmod_eq_emod_of_nonneg,numsOf]
 repeat' first|(exfalso;omega)|(refine ⟨by simp [strN];omega,?_⟩;try simp (disch:=omega) [zG0,List.getElem?_eq_getElem,Int.tdiv_eq_ediv_of_nonneg,Int.tmod_eq_emod_of_nonneg,numsOf])|(refine ⟨λ_=>?_,λ_=>?_⟩)|(refine ⟨by omega,?_⟩)|(intro _)
 all_goals (refine hK _ ?_;clear hK K)
 all_goals
  refine zbg ?_
  refine zbh ?_
  refine zbt (λmM sS=>∃(n:Nat) (out:List UInt8),mM=n+1∧(n+out.length≤k.toNat∧dg n out=dg k.toNat [])∧sS = { env:=lkE [(0,(.g (.int .i64 ((n:Nat))))),(3,.s out)],ob:=lk [] }) ?_ ?_
  ·refine ⟨_,LeS.ko [(0,(.g (.int .i64 (((k.toNat):Nat))))),(3,.s ([]))] [] (by simp [KpE,zbz,zbj,zbr];try (first | rfl|(omega;done))) (by simp [KpO,zbz,zbr,zb9,zcv];try rfl) (by rfl) (by simp) (by rfl),_,k.toNat,[],rfl,?_,rfl⟩
   ·simp
  ·rintro mM sS ⟨n,out,rfl,⟨hi,hd⟩,rfl⟩
   refine zbg ?_
   refine AW_r rfl rfl λK hK=>?_
   simp (disch:=omega) [zG0,List.getElem?_eq_getElem,Int.tdiv_eq_ediv_of_nonneg,Int.tmod_eq_emod_of_nonneg,numsOf]
   repeat' first|(refine ⟨by simp [strN];omega,?_⟩;try simp (disch:=omega) [zG0,List.getElem?_eq_getElem,Int.tdiv_eq_ediv_of_nonneg,Int.tmod_eq_emod_of_nonneg,numsOf])|(refine ⟨by omega,?_⟩)|(intro _)
   refine hK _ ?_;clear hK K
   refine zbm rfl (λhc2=>?_) (λhc2=>?_)
   ·try simp at hc2
    all_goals
     refine zbl ?_
     refine zbk ?_
     refine zbh ?_
     refine AW_r rfl rfl λK hK=>?_
     simp (disch:=omega) [zG0,List.getElem?_eq_getElem,Int.tdiv_eq_ediv_of_nonneg,Int.tmod_eq_emod_of_nonneg,numsOf]
     repeat' first|(exfalso;omega)|(refine ⟨by simp [strN];omega,?_⟩;try simp (disch:=omega) [zG0,List.getElem?_eq_getElem,Int.tdiv_eq_ediv_of_nonneg,Int.tmod_eq_emod_of_nonneg,numsOf])|(refine ⟨λ_=>?_,λ_=>?_⟩)|(refine ⟨by omega,?_⟩)|(intro _)
     all_goals (refine hK _ ?_;clear hK K)
     all_goals
      refine zka rfl rfl λK hK=>?_
      simp (disch:=omega) [zG0,List.getElem?_eq_getElem,Int.tdiv_eq_ediv_of_nonneg,Int.tmod_eq_emod_of_nonneg,numsOf]
      repeat' first|(refine ⟨by simp [strN];omega,?_⟩;try simp (disch:=omega) [zG0,List.getElem?_eq_getElem,Int.tdiv_eq_ediv_of_nonneg,Int.tmod_eq_emod_of_nonneg,numsOf])|(refine ⟨by omega,?_⟩)|(intro _)
      refine hK _ ?_;clear hK K
      refine ⟨_,LeS.ko [(0,(.g (.int .i64 (((n / 10):Nat))))),(3,.s (strN [IntKind.u8.wrap (48+(n:Int) % 10)]++out))] [] (by simp [KpE,zbz,zbj,zbr];try (first | rfl|(omega;done))) (by simp [KpO,zbz,zbr,zb9,zcv];try rfl) (by rfl) (by simp) (by rfl),_,?_,n / 10,strN [IntKind.u8.wrap (48+(n:Int) % 10)]++out,rfl,?_,rfl⟩
      ·omega
      ·refine ⟨by simp [strN];omega,?_⟩;rw [←hd];conv=>rhs;unfold dg;rw [if_neg (by omega)]
   try simp at hc2
   refine zb4 ?_
   refine zbk ?_
   refine AW_r rfl rfl λK hK=>?_
   simp (disch:=omega) [zG0,List.getElem?_eq_getElem,Int.tdiv_eq_ediv_of_nonneg,Int.tmod_eq_emod_of_nonneg,numsOf]
   repeat' first|(exfalso;omega)|(refine ⟨by simp [strN];omega,?_⟩;try simp (disch:=omega) [zG0,List.getElem?_eq_getElem,Int.tdiv_eq_ediv_of_nonneg,Int.tmod_eq_emod_of_nonneg,numsOf])|(refine ⟨λ_=>?_,λ_=>?_⟩)|(refine ⟨by omega,?_⟩)|(intro _)
   all_goals (refine hK _ ?_;clear hK K)
   all_goals
    refine zbu (zdv ?_)
    simp (disch:=omega) [zG0,List.getElem?_eq_getElem,Int.tdiv_eq_ediv_of_nonneg,Int.tmod_eq_emod_of_nonneg,numsOf]
    all_goals first|(unfold mT;rw [if_pos (by omega)];done)|(obtain rfl:n=0:=(by omega);unfold mT;rw [if_neg (by omega),←hd]<;>(unfold dg;simp);done)
theorem zrc(k:Int)(l:List (List UInt8))(i:Nat)(h:i<l.length):((mkR mT k l i).map cS).set i [.s (mT (k+(i:Nat)))]=(mkR mT k l (i+1)).map cS:=by
 rw [←mkR_set mT k l i h,List.map_set];rfl
theorem zqh(l:List (List UInt8))(k:Int)(hl:l.length≤1048576)(hk:0≤k∧k≤1073741824):XCall Tryd.prog 9 [.arr 8 0 l.length,(.g (.int .i64 (k)))] [.own 1 (l.map cS)] (.g (.int .i64 (k+(l.length:Nat)))) [.own 1 ((mkL mT k l.length).map cS)] []:=by
 refine zb0 Tryd.func9 (by rfl) (by rfl) (by rw [Tryd.ntmps9];exact Nat.le_of_ble_eq_true rfl) rfl (by simp) rfl rfl ?_
 rw [Tryd.ntmps9]
 refine AW_x1 (.win 1 (l.map cS)) (by simp [cvO]<;>assumption) ?_
 refine AW_k [(0,_),(1,_)] ⟨rfl,rfl,trivial⟩ ?_
 refine AW_x rfl rfl λK hK=>?_
 simp (disch:=omega) [zG0,List.getElem?_eq_getElem,cS,zjy]
 repeat' first|(refine ⟨by omega,?_⟩)|(intro _)
 refine hK _ ?_;clear hK K
 refine zbg ?_
 refine AW_x rfl rfl λK hK=>?_
 simp (disch:=omega) [zG0,List.getElem?_eq_getElem,cS,zjy]
 repeat' first|(refine ⟨by omega,?_⟩)|(intro _)
 refine hK _ ?_;clear hK K
 refine zbh ?_
 refine zbt (λmM sS=>∃(i:Nat),mM=l.length-i∧(i≤l.length)∧sS = { env:=lkE [(0,.arr 8 0 l.length),(1,(.g (.int .i64 (k+(i:Nat))))),(5,(.g (.int .i64 ((i:Nat)))))],ob:=lk [(8,.win 1 ((mkR mT k l i).map cS))] }) ?_ ?_
 ·refine ⟨_,LeS.kx [(8,8)] [(0,.arr 8 0 l.length),(1,(.g (.int .i64 (k+((0):Nat))))),(5,(.g (.int .i64 (((0):Nat)))))] [(8,.win 1 ((mkR mT k l (0)).map cS))] (by simp [KpR,renV2,renV,zbz,zbj,zbr,zb9,mkR_0];try (first | rfl|(omega;done))) (by simp [KpOX,renO,plO,cvO,renV,pl1,zbr,zb9,zbz,mkR_0];try (first | rfl|(simp [zrc k l i (by omega)];done))) (by rfl) (by simp) (by simp) (by rfl) (by simp [formsX,List.range_succ,zbr,zb9]),_,0,rfl,?_,rfl⟩
  ·simp
 ·rintro mM sS ⟨i,rfl,hi,rfl⟩
  have hln:(mkR mT k l i).length=l.length:=mkR_len _ _ _ _ hi
  refine zbg ?_
  refine AW_x rfl rfl λK hK=>?_
  simp (disch:=omega) [zG0,List.getElem?_eq_getElem,cS,zjy]
  repeat' first|(refine ⟨by omega,?_⟩)|(intro _)
  refine hK _ ?_;clear hK K
  refine zbm rfl (λhc3=>?_) (λhc3=>?_)
  ·try simp at hc3
   all_goals
    have hg:(mkR mT k l i)[i]? = some (l[i]):=mkR_get _ _ _ _ (by omega)
    refine zbl ?_
    refine zbk ?_
    refine zbg ?_
    refine zbh ?_
    refine AW_x rfl rfl λK hK=>?_
    simp (disch:=omega) [zG0,List.getElem?_eq_getElem,cS,zjy]
    repeat' first|(exfalso;omega)|(refine zfn (zbf zca zbn) (zmd _ (by omega)) rfl ?_;simp (disch:=omega) [zG0,List.getElem?_eq_getElem,cS,zjy])|(refine zfo (zmd _ (by omega)) (by rfl) ?_ ?_;(focus (simp (disch:=omega) [zG0,List.getElem?_eq_getElem,cS,zjy,zbd];done));simp (disch:=omega) [zG0,List.getElem?_eq_getElem,cS,zjy])|(refine ⟨λ_=>?_,λ_=>?_⟩)|(refine ⟨by omega,?_⟩)|(intro _)
    all_goals (refine hK _ ?_;clear hK K)
    all_goals
     refine zcn rfl rfl λK hK=>?_
     simp (disch:=omega) [zG0,List.getElem?_eq_getElem,cS,zjy]
     repeat' first|(refine ⟨by omega,?_⟩)|(intro _)
     refine hK _ ?_;clear hK K
     refine zbk ?_
     refine zcn rfl rfl λK hK=>?_
     simp (disch:=omega) [zG0,List.getElem?_eq_getElem,cS,zjy]
     repeat' first|(refine ⟨by omega,?_⟩)|(intro _)
     refine hK _ ?_;clear hK K
     refine ⟨_,LeS.kx [(8,8)] [(0,.arr 8 0 l.length),(1,(.g (.int .i64 (k+((i+1):Nat))))),(5,(.g (.int .i64 (((i+1):Nat)))))] [(8,.win 1 ((mkR mT k l (i+1)).map cS))] (by simp [KpR,renV2,renV,zbz,zbj,zbr,zb9,mkR_0];try (first | rfl|(omega;done))) (by simp [KpOX,renO,plO,cvO,renV,pl1,zbr,zb9,zbz,mkR_0];try (first | rfl|(simp [zrc k l i (by omega)];done))) (by rfl) (by simp) (by simp) (by rfl) (by simp [formsX,List.range_succ,zbr,zb9]),_,?_,i+1,rfl,?_,rfl⟩
     ·omega
     ·omega
  try simp at hc3
  refine zb4 ?_
  refine zbk ?_
  refine AW_x rfl rfl λK hK=>?_
  simp (disch:=omega) [zG0,List.getElem?_eq_getElem,cS,zjy]
  repeat' first|(exfalso;omega)|(refine ⟨λ_=>?_,λ_=>?_⟩)|(refine ⟨by omega,?_⟩)|(intro _)
  all_goals (refine hK _ ?_;clear hK K)
  all_goals
   refine zbu (zdx [] [] (by simp [List.range_succ,zbr,zb9,zbz]) (by simp) ?_)
   simp (disch:=omega) [zG0,List.getElem?_eq_getElem,cS,zjy]
   all_goals omega
theorem zdz(n:Nat)(k:Int)(hl:n≤1048576)(hk:0≤k∧k≤1073741824):PCall Tryd.prog 10 [.sl 1 ((mkL mT k n).map cS),(.g (.int .i64 (k)))] (.g (.int .i64 (k+(n:Nat)))):=by
 refine zbq Tryd.func10 (by rfl) (by rfl) (by rw [Tryd.ntmps10];exact Nat.le_of_ble_eq_true rfl) rfl (by decide) ?_
 rw [Tryd.ntmps10]
 refine AW_k [(0,_),(1,_)] ⟨rfl,rfl,trivial⟩ ?_
 refine AW_r rfl rfl λK hK=>?_
 simp (disch:=omega) [zG0,List.getElem?_eq_getElem,cS,zd8]
 repeat' first|(refine ⟨by omega,?_⟩)|(intro _)
 refine hK _ ?_;clear hK K
 refine zbg ?_
 refine AW_r rfl rfl λK hK=>?_
 simp (disch:=omega) [zG0,List.getElem?_eq_getElem,cS,zd8]
 repeat' first|(refine ⟨by omega,?_⟩)|(intro _)
 refine hK _ ?_;clear hK K
 refine zbh ?_
 refine zbt (λmM sS=>∃(i:Nat),mM=n-i∧(i≤n)∧sS = { env:=lkE [(0,.sl 1 ((mkL mT k n).map cS)),(1,(.g (.int .i64 (k+(i:Nat))))),(5,(.g (.int .i64 ((i:Nat)))))],ob:=formOb [] [] }) ?_ ?_
 ·refine ⟨_,LeS.kp [(0,.sl 1 ((mkL mT k n).map cS)),(1,(.g (.int .i64 (k+((0):Nat))))),(5,(.g (.int .i64 (((0):Nat)))))] (by simp [KpE,zbz,zbj,zbr];try (first | rfl|(omega;done))),_,0,rfl,?_,rfl⟩
  ·simp
 ·rintro mM sS ⟨i,rfl,hi,rfl⟩
  have hln:(mkL mT k n).length=n:=zcw _ _ _
  refine zbg ?_
  refine AW_r rfl rfl λK hK=>?_
  simp (disch:=omega) [zG0,List.getElem?_eq_getElem,cS,zd8]
  repeat' first|(refine ⟨by omega,?_⟩)|(intro _)
  refine hK _ ?_;clear hK K
  refine zbm rfl (λhc4=>?_) (λhc4=>?_)
  ·try simp at hc4
   all_goals
    refine zbl ?_
    refine zbk ?_
    refine zbg ?_
    refine zbh ?_
    refine zbg ?_
    refine AW_q rfl mix (by kernel_rfl) rfl λK hK=>?_
    simp (disch:=omega) [zG0,List.getElem?_eq_getElem,cS,zd8]
    repeat' first|(exfalso;omega)|(refine zr0 (zbf zca zbn) (zmd _ (by omega)) rfl ?_;simp (disch:=omega) [zG0,List.getElem?_eq_getElem,cS,zd8])|(refine ⟨λ_=>?_,λ_=>?_⟩)|(refine ⟨by omega,?_⟩)|(intro _)
    all_goals (refine hK _ ?_;clear hK K)
    all_goals
     refine zbm rfl (λhc5=>?_) (λhc5=>?_)
     ·try simp at hc5
      all_goals
       refine AW_r rfl rfl λK hK=>?_
       simp (disch:=omega) [zG0,List.getElem?_eq_getElem,cS,zd8]
       repeat' first|(exfalso;omega)|(refine ⟨λ_=>?_,λ_=>?_⟩)|(refine ⟨by omega,?_⟩)|(intro _)
       all_goals (refine hK _ ?_;clear hK K)
       all_goals
        refine zbu (zdv ?_)
        simp (disch:=omega) [zG0,List.getElem?_eq_getElem,cS,zd8]
        all_goals omega
     try simp at hc5
     refine zbl ?_
     refine zbk ?_
     refine zka rfl rfl λK hK=>?_
     simp (disch:=omega) [zG0,List.getElem?_eq_getElem,cS,zd8]
     repeat' first|(exfalso;omega)|(refine ⟨λ_=>?_,λ_=>?_⟩)|(refine ⟨by omega,?_⟩)|(intro _)
     all_goals (refine hK _ ?_;clear hK K)
     all_goals
      refine zbk ?_
      refine zka rfl rfl λK hK=>?_
      simp (disch:=omega) [zG0,List.getElem?_eq_getElem,cS,zd8]
      repeat' first|(refine ⟨by omega,?_⟩)|(intro _)
      refine hK _ ?_;clear hK K
      refine ⟨_,LeS.kp [(0,.sl 1 ((mkL mT k n).map cS)),(1,(.g (.int .i64 (k+((i+1):Nat))))),(5,(.g (.int .i64 (((i+1):Nat)))))] (by simp [KpE,zbz,zbj,zbr];try (first | rfl|(omega;done))),_,?_,i+1,rfl,?_,rfl⟩
      ·omega
      ·omega
  try simp at hc4
  refine zb4 ?_
  refine zbk ?_
  refine AW_r rfl rfl λK hK=>?_
  simp (disch:=omega) [zG0,List.getElem?_eq_getElem,cS,zd8]
  repeat' first|(exfalso;omega)|(refine ⟨λ_=>?_,λ_=>?_⟩)|(refine ⟨by omega,?_⟩)|(intro _)
  all_goals (refine hK _ ?_;clear hK K)
  all_goals
   refine zbu (zdv ?_)
   simp (disch:=omega) [zG0,List.getElem?_eq_getElem,cS,zd8]
   all_goals omega
/-- A copy under way. -/
def cpR{α:Type}(z:α)(l:List α)(i:Nat):List α:=l.take i++List.replicate (l.length-i) z
/-- Marks of a row of structs. -/
def mkS{α:Type}(mk:Int→α→α)(cnt:α→Int):Int→List α→List α
 | _,[]=>[]
 | k,u :: us=>mk k u :: mkS mk cnt (k+cnt u) us
def cntS{α:Type}(cnt:α→Int)(us:List α):Int:=us.foldr (λu n=>cnt u+n) 0
def mkSR{α:Type}(mk:Int→α→α)(cnt:α→Int)(k:Int)(us:List α)(i:Nat):List α:=mkS mk cnt k (us.take i)++us.drop i
/-- A copy of structs under way. -/
def cpS{α:Type}(z:List AV)(f:α→List AV)(us:List α)(i:Nat):List (List AV):=(us.take i).map f++List.replicate (us.length-i) z
end Go.Proofs.YtchpfloemfoomaaDoor.Vs
end
