import Derived.Test.YtchpfloemfoomaaDoorSM5
import Derived.Test.YtchpfloemfoomaaDoorSM1
import Derived.LaidLaws
import Derived.ChangeVars
import Derived.OpenShut
import Derived.Test.YtchpfloemfoomaaDoorSM4
section
namespace Go.Proofs.YtchpfloemfoomaaDoor.Vs
set_option linter.all false
set_option maxRecDepth 100000
set_option maxHeartbeats 4000000
attribute [local simp ↓] uAnd_eq uOr_eq uXor_eq uShl_eq uShr_eq vAnd_eq
attribute [local simp] gv_0
theorem zpu(x:W32)(z:Int)(hz : -32<z∧z<0):PCall Tryd.prog 67 [wU x,(.g (.int .i64 (z)))] (wU (x.rotateRight (-z).toNat)):=by
 have hw:IntKind.u64.wrap z=18446744073709551616+z:=by
  simp [IntKind.wrap,IntKind.bits,IntKind.signed]
  omega
 have hv:=vMask z hz
 have hs:IntKind.u64.wrap (32-(32+z)) = -z:=by rw [wrapU (by omega)];omega
 have hr:=uRot x z hz
 refine zbe Tryd.func67 (by rfl) (by rfl) (by rw [Tryd.ntmps67];exact Nat.le_of_ble_eq_true rfl) rfl (by decide) ?_
 rw [Tryd.ntmps67]
 refine AW_k [(0,_),(1,_)] ⟨rfl,rfl,trivial⟩ ?_
 refine AW_r rfl rfl λK hK=>?_
 simp (disch:=omega) [wU,hw,hv,hs,hr]
 repeat' first|(refine ⟨by omega,?_⟩)|(intro _)
 refine hK _ ?_;clear hK K
 refine AW_r rfl rfl λK hK=>?_
 simp (disch:=omega) [wU,hw,hv,hs,hr]
 repeat' first|(refine ⟨by omega,?_⟩)|(intro _)
 refine hK _ ?_;clear hK K
 refine AW_r rfl rfl λK hK=>?_
 simp (disch:=omega) [wU,hw,hv,hs,hr]
 repeat' first|(refine ⟨by omega,?_⟩)|(intro _)
 refine hK _ ?_;clear hK K
 refine zbm (zbq ?_)
 simp (disch:=omega) [wU,hw,hv,hs,hr]
 all_goals first | rfl | exact hr | trace_state
theorem fourB(t:List UInt8)(h:4≤t.length):PCall Tryd.prog 66 [.s t] (wU (wrd t 0)):=by
 have h0:0<t.length:=by omega
 have h1:1<t.length:=by omega
 have h2:2<t.length:=by omega
 have h3:3<t.length:=by omega
 have e:=uwrd (UInt8.toNat_lt t[0]) (UInt8.toNat_lt t[1]) (UInt8.toNat_lt t[2]) (UInt8.toNat_lt t[3])
 have ew:BitVec.ofNat 32 ((t[0].toNat*256+t[1].toNat)*65536+t[2].toNat*256+t[3].toNat)=wrd t 0:=by
  unfold wrd
  simp [List.getD_eq_getElem?_getD,List.getElem?_eq_getElem,h0,h1,h2,h3]
 rw [ew] at e
 refine zbe Tryd.func66 (by rfl) (by rfl) (by rw [Tryd.ntmps66];exact Nat.le_of_ble_eq_true rfl) rfl (by decide) ?_
 rw [Tryd.ntmps66]
 refine AW_k [(0,_)] ⟨rfl,trivial⟩ ?_
 refine AW_r rfl rfl λK hK=>?_
 simp (disch:=omega) [wU,e]
 repeat' first|(refine ⟨by omega,?_⟩)|(intro _)
 refine hK _ ?_;clear hK K
 refine AW_q rfl mix (by kernel_rfl) rfl λK hK=>?_
 simp (disch:=omega) [wU,e]
 repeat' first|(refine ⟨by omega,?_⟩)|(intro _)
 refine hK _ ?_;clear hK K
 refine zbm (zbq ?_)
 simp (disch:=omega) [wU,e]
 all_goals first | rfl | exact e | trace_state
theorem wrd_drop(b:List UInt8)(i:Nat):wrd (b.drop (4*i)) 0=wrd b (4*i):=by
 unfold wrd
 simp only [List.getD_eq_getElem?_getD,List.getElem?_drop,Nat.add_zero]
theorem fourB2(b:List UInt8)(i:Nat)(hb:b.length=64)(hi:i<16):PCall Tryd.prog 66 [.s (b.drop (4*i))] (wU (wrd b (4*i))):=by
 rw [←wrd_drop]
 exact fourB _ (by simp;omega)
attribute [local simp] wU uAnd_w uXor_w zwz uN_w uN_w2 zw0 uAdd_w schU_len uC uC_len schU_ren stU_ren
def zG13:=And.intro @zd7 (And.intro @zfy @zfz)
def zG14:=And.intro @List.range_succ (And.intro @zd7 @zfy)
theorem shaBlk(h:W8)(b:List UInt8)(hb:b.length=64):XCall Tryd.prog 56 [.agg (uC h),.s b] [] (.agg (uC (blk h b))) [] []:=by
 refine zc7 Tryd.func56 (by rfl) (by rfl) (by rw [Tryd.ntmps56];exact Nat.le_of_ble_eq_true rfl) rfl (by simp) rfl rfl ?_
 rw [Tryd.ntmps56]
 refine zvy   ?_
 refine AW_k [(0,_),(1,_)] ⟨rfl,rfl,trivial⟩ ?_
 refine AW_x rfl rfl λK hK=>?_
 simp (disch:=omega)
 repeat' first|(refine ⟨by omega,?_⟩)|(intro _)
 refine hK _ ?_;clear hK K
 refine AW_x rfl rfl λK hK=>?_
 simp (disch:=omega)
 repeat' first|(refine ⟨by omega,?_⟩)|(intro _)
 refine hK _ ?_;clear hK K
 refine zbh ?_
 refine AW_x rfl rfl λK hK=>?_
 simp (disch:=omega)
 repeat' first|(refine ⟨by omega,?_⟩)|(intro _)
 refine hK _ ?_;clear hK K
 refine zbi ?_
 refine zbr (λmM sS=>∃(i:Nat),mM=16-i∧(i≤16)∧sS = { env:=lkE [(1,.s b),(2,.ptr 48 0),(4,.ptr 80 0),(5,.ptr 96 0),(22,(.g (.int .i64 ((i:Nat)))))],ob:=lk [(48,.cells (uC h)),(80,.cells [.g (.int .u32 0),.g (.int .u32 0),.g (.int .u32 0),.g (.int .u32 0),.g (.int .u32 0),.g (.int .u32 0),.g (.int .u32 0),.g (.int .u32 0)]),(96,.cells (schU b i))] }) ?_ ?_
 ·refine ⟨_,LeS.kx [(48,48),(80,80),(96,96)] [(1,.s b),(2,.ptr 48 0),(4,.ptr 80 0),(5,.ptr 96 0),(22,(.g (.int .i64 (((0):Nat)))))] [(48,.cells (uC h)),(80,.cells [.g (.int .u32 0),.g (.int .u32 0),.g (.int .u32 0),.g (.int .u32 0),.g (.int .u32 0),.g (.int .u32 0),.g (.int .u32 0),.g (.int .u32 0)]),(96,.cells (schU b (0)))] (by simp [zG13,KpR,renV2,renV,zb6,zl2,uC,wU];first|(simp;done) | omega | trace_state) (by simp [zG13,KpOX,renO,plO,cvO,renV,pl1,zl2,uC,wU];first | with_reducible rfl | exact ⟨hst,λx hx=>by obtain ⟨n,rfl⟩:=zcs hx;rfl⟩ | exact ⟨(zl2 b).symm,λx hx=>by obtain ⟨n,rfl⟩:=zcs hx;rfl⟩ | exact λx hx=>by obtain ⟨n,rfl⟩:=zcs hx;rfl | trace_state) (by rfl) (by simp) (by simp) (by rfl) (by simp [zG14,formsX]),_,0,rfl,?_,rfl⟩
  ·simp
 ·rintro mM sS ⟨i,rfl,hi,rfl⟩
  refine AW_x rfl rfl λK hK=>?_
  simp (disch:=omega)
  repeat' first|(refine ⟨by omega,?_⟩)|(intro _)
  refine hK _ ?_;clear hK K
  refine zbh ?_
  refine zbj rfl (λhc1=>?_) (λhc1=>?_)
  ·try simp at hc1
   all_goals
    have hi2:i<16:=by omega
    have hsl:List.take (b.length-(4*(i:Int)).toNat) (List.drop (4*(i:Int)).toNat b)=b.drop (4*i):=by rw [show (4*(i:Int)).toNat=4*i by omega];exact List.take_of_length_le (by simp)
    have hst:=schU_a b i hi2
    refine zbk ?_
    refine zbn ?_
    refine zbh ?_
    refine zbi ?_
    refine AW_x rfl rfl λK hK=>?_
    simp (disch:=omega) [hsl]
    repeat' first|(exfalso;omega)|(refine ⟨λ_=>?_,λ_=>?_⟩)|(refine ⟨by omega,?_⟩)|(simp (disch:=omega) [hsl])|(intro _)
    all_goals (refine hK _ ?_;clear hK K)
    all_goals
     refine zd9 rfl rfl λK hK=>?_
     simp (disch:=omega) [hsl]
     repeat' first|(exfalso;omega)|(refine zmo (zba zd6 zbg) (fourB2 b i hb hi2) rfl ?_;simp (disch:=omega) [hsl])|(refine zmp (fourB2 b i hb hi2) (by rfl) ?_ ?_;(focus (simp (disch:=omega) [hsl,zb4];done));simp (disch:=omega) [hsl])|(refine ⟨by omega,?_⟩)|(simp (disch:=omega) [hsl])|(intro _)
     refine hK _ ?_;clear hK K
     refine zbn ?_
     refine zd9 rfl rfl λK hK=>?_
     simp (disch:=omega) [hsl]
     repeat' first|(refine ⟨by omega,?_⟩)|(intro _)
     refine hK _ ?_;clear hK K
     refine ⟨_,LeS.kx [(48,48),(80,80),(96,96)] [(1,.s b),(2,.ptr 48 0),(4,.ptr 80 0),(5,.ptr 96 0),(22,(.g (.int .i64 (((i+1):Nat)))))] [(48,.cells (uC h)),(80,.cells [.g (.int .u32 0),.g (.int .u32 0),.g (.int .u32 0),.g (.int .u32 0),.g (.int .u32 0),.g (.int .u32 0),.g (.int .u32 0),.g (.int .u32 0)]),(96,.cells (schU b (i+1)))] (by simp [zG13,KpR,renV2,renV,zb6,zl2,uC,wU];first|(simp;done) | omega | trace_state) (by simp [zG13,KpOX,renO,plO,cvO,renV,pl1,zl2,uC,wU];first | with_reducible rfl | exact ⟨hst,λx hx=>by obtain ⟨n,rfl⟩:=zcs hx;rfl⟩ | exact ⟨(zl2 b).symm,λx hx=>by obtain ⟨n,rfl⟩:=zcs hx;rfl⟩ | exact λx hx=>by obtain ⟨n,rfl⟩:=zcs hx;rfl | trace_state) (by rfl) (by simp) (by simp) (by rfl) (by simp [zG14,formsX]),_,?_,i+1,rfl,?_,rfl⟩
     ·omega
     ·omega
  ·try simp at hc1
   all_goals
    have hil:i=16:=by omega
    subst hil
    refine zbx ?_
    refine zbn ?_
    refine zbh ?_
    refine AW_x rfl rfl λK hK=>?_
    simp (disch:=omega)
    repeat' first|(exfalso;omega)|(refine ⟨λ_=>?_,λ_=>?_⟩)|(refine ⟨by omega,?_⟩)|(simp (disch:=omega))|(intro _)
    all_goals (refine hK _ ?_;clear hK K)
    all_goals
     refine zbi ?_
     refine zbr (λmM sS=>∃(i:Nat),mM=64-i∧(16≤i∧i≤64)∧sS = { env:=lkE [(1,.s b),(2,.ptr 48 0),(4,.ptr 80 0),(5,.ptr 96 0),(7,(.g (.int .i64 ((i:Nat)))))],ob:=lk [(48,.cells (uC h)),(80,.cells [.g (.int .u32 0),.g (.int .u32 0),.g (.int .u32 0),.g (.int .u32 0),.g (.int .u32 0),.g (.int .u32 0),.g (.int .u32 0),.g (.int .u32 0)]),(96,.cells (schU b i))] }) ?_ ?_
     ·refine ⟨_,LeS.kx [(48,48),(80,80),(96,96)] [(1,.s b),(2,.ptr 48 0),(4,.ptr 80 0),(5,.ptr 96 0),(7,(.g (.int .i64 (((16):Nat)))))] [(48,.cells (uC h)),(80,.cells [.g (.int .u32 0),.g (.int .u32 0),.g (.int .u32 0),.g (.int .u32 0),.g (.int .u32 0),.g (.int .u32 0),.g (.int .u32 0),.g (.int .u32 0)]),(96,.cells (schU b (16)))] (by simp [zG13,KpR,renV2,renV,zb6,uC,wU];first|(simp;done) | omega | trace_state) (by simp [zG13,KpOX,renO,plO,cvO,renV,pl1,uC,wU];first | with_reducible rfl | exact ⟨hst,λx hx=>by obtain ⟨n,rfl⟩:=zcs hx;rfl⟩ | exact λx hx=>by obtain ⟨n,rfl⟩:=zcs hx;rfl | trace_state) (by rfl) (by simp) (by simp) (by rfl) (by simp [zG14,formsX]),_,16,rfl,?_,rfl⟩
      ·simp
     ·rintro mM sS ⟨i,rfl,⟨hi1,hi⟩,rfl⟩
      refine zbh ?_
      refine AW_x rfl rfl λK hK=>?_
      simp (disch:=omega)
      repeat' first|(refine ⟨by omega,?_⟩)|(intro _)
      refine hK _ ?_;clear hK K
      refine zbj rfl (λhc2=>?_) (λhc2=>?_)
      ·try simp at hc2
       all_goals
        have hi2:i<64:=by omega
        have g15:=zg7 b i 15 15 rfl (by omega) (by omega) hi
        have g2:=zg7 b i 2 2 rfl (by omega) (by omega) hi
        have g16:=zg7 b i 16 16 rfl (by omega) (by omega) hi
        have g7:=zg7 b i 7 7 rfl (by omega) (by omega) hi
        have s3:=zw1 (wd b (i-15)) 3 (by omega)
        have s10:=zw1 (wd b (i-2)) 10 (by omega)
        have hst:=schU_b b i hi1 hi2
        refine zbk ?_
        refine zbn ?_
        refine zbh ?_
        refine zbi ?_
        refine AW_d rfl mix (by kernel_rfl) (by kernel_rfl) λK hK=>?_
        simp (disch:=omega) [g15,g2,g16,g7,s3,s10]
        repeat' first|(exfalso;omega)|(refine ⟨λ_=>?_,λ_=>?_⟩)|(refine ⟨by omega,?_⟩)|(simp (disch:=omega) [g15,g2,g16,g7,s3,s10])|(intro _)
        all_goals (refine hK _ _ (by kernel_rfl) ?_;clear hK K)
        all_goals
         refine AW_x rfl rfl λK hK=>?_
         simp (disch:=omega) [g15,g2,g16,g7,s3,s10]
         repeat' first|(exfalso;omega)|(refine zmo (zba zbz (zba zbz zbg)) (zpu _ _ (by decide)) rfl ?_;simp (disch:=omega) [g15,g2,g16,g7,s3,s10])|(refine zmp (zpu _ _ (by decide)) (by rfl) ?_ ?_;(focus (simp (disch:=omega) [g15,g2,g16,g7,s3,s10,zb4];done));simp (disch:=omega) [g15,g2,g16,g7,s3,s10])|(refine ⟨by omega,?_⟩)|(simp (disch:=omega) [g15,g2,g16,g7,s3,s10])|(intro _)
         refine hK _ ?_;clear hK K
         refine AW_x rfl rfl λK hK=>?_
         simp (disch:=omega) [g15,g2,g16,g7,s3,s10]
         repeat' first|(exfalso;omega)|(refine zmo (zba zbz (zba zbz zbg)) (zpu _ _ (by decide)) rfl ?_;simp (disch:=omega) [g15,g2,g16,g7,s3,s10])|(refine zmp (zpu _ _ (by decide)) (by rfl) ?_ ?_;(focus (simp (disch:=omega) [g15,g2,g16,g7,s3,s10,zb4];done));simp (disch:=omega) [g15,g2,g16,g7,s3,s10])|(refine ⟨by omega,?_⟩)|(simp (disch:=omega) [g15,g2,g16,g7,s3,s10])|(intro _)
         refine hK _ ?_;clear hK K
         refine zmy rfl mix (by kernel_rfl) (by kernel_rfl) λK hK=>?_
         simp (disch:=omega) [g15,g2,g16,g7,s3,s10]
         repeat' first|(refine ⟨by omega,?_⟩)|(simp (disch:=omega) [g15,g2,g16,g7,s3,s10])|(intro _)
         refine hK _ _ (by kernel_rfl) ?_;clear hK K
         refine zbn ?_
         refine zd9 rfl rfl λK hK=>?_
         simp (disch:=omega) [g15,g2,g16,g7,s3,s10]
         repeat' first|(refine ⟨by omega,?_⟩)|(intro _)
         refine hK _ ?_;clear hK K
         refine ⟨_,LeS.kx [(48,48),(80,80),(96,96)] [(1,.s b),(2,.ptr 48 0),(4,.ptr 80 0),(5,.ptr 96 0),(7,(.g (.int .i64 (((i+1):Nat)))))] [(48,.cells (uC h)),(80,.cells [.g (.int .u32 0),.g (.int .u32 0),.g (.int .u32 0),.g (.int .u32 0),.g (.int .u32 0),.g (.int .u32 0),.g (.int .u32 0),.g (.int .u32 0)]),(96,.cells (schU b (i+1)))] (by simp [zG13,KpR,renV2,renV,zb6,uC,wU];first|(simp;done) | omega | trace_state) (by simp [zG13,KpOX,renO,plO,cvO,renV,pl1,uC,wU];first | with_reducible rfl | exact ⟨hst,λx hx=>by obtain ⟨n,rfl⟩:=zcs hx;rfl⟩ | exact λx hx=>by obtain ⟨n,rfl⟩:=zcs hx;rfl | trace_state) (by rfl) (by simp) (by simp) (by rfl) (by simp [zG14,formsX]),_,?_,i+1,rfl,?_,rfl⟩
         ·omega
         ·omega
      ·try simp at hc2
       all_goals
        have hil:i=64:=by omega
        subst hil
        refine zbx ?_
        refine zbn ?_
        refine AW_x rfl rfl λK hK=>?_
        simp (disch:=omega)
        repeat' first|(exfalso;omega)|(refine ⟨λ_=>?_,λ_=>?_⟩)|(refine ⟨by omega,?_⟩)|(simp (disch:=omega))|(intro _)
        all_goals (refine hK _ ?_;clear hK K)
        all_goals
         refine zbh ?_
         refine AW_x rfl rfl λK hK=>?_
         simp (disch:=omega)
         repeat' first|(refine ⟨by omega,?_⟩)|(intro _)
         refine hK _ ?_;clear hK K
         refine zbi ?_
         refine zbr (λmM sS=>∃(i:Nat),mM=64-i∧(i≤64)∧sS = { env:=lkE [(2,.ptr 48 0),(4,.ptr 80 0),(5,.ptr 96 0),(12,.ptr 208 0),(77,(.g (.int .i64 ((i:Nat)))))],ob:=lk [(48,.cells (uC h)),(80,.cells [.g (.int .u32 0),.g (.int .u32 0),.g (.int .u32 0),.g (.int .u32 0),.g (.int .u32 0),.g (.int .u32 0),.g (.int .u32 0),.g (.int .u32 0)]),(96,.cells (schU b 64)),(208,.cells (uC (runW b h i)))] }) ?_ ?_
         ·refine ⟨_,LeS.kx [(48,48),(80,80),(96,96),(208,208)] [(2,.ptr 48 0),(4,.ptr 80 0),(5,.ptr 96 0),(12,.ptr 208 0),(77,(.g (.int .i64 (((0):Nat)))))] [(48,.cells (uC h)),(80,.cells [.g (.int .u32 0),.g (.int .u32 0),.g (.int .u32 0),.g (.int .u32 0),.g (.int .u32 0),.g (.int .u32 0),.g (.int .u32 0),.g (.int .u32 0)]),(96,.cells (schU b 64)),(208,.cells (uC (runW b h (0))))] (by simp [zG13,KpR,renV2,renV,zb6,uC,wU,zfi];first|(simp;done) | omega | trace_state) (by simp [zG13,KpOX,renO,plO,cvO,renV,pl1,uC,wU,zfi];first | with_reducible rfl | exact λx hx=>by obtain ⟨n,rfl⟩:=zcs hx;rfl|(simp only [hr8,rnd,bs1,bs0,chW,mjW,BitVec.add_assoc];exact ⟨λx hx=>by obtain ⟨n,rfl⟩:=zcs hx;rfl,by simp⟩)|(simp only [hr8,rnd,bs1,bs0,chW,mjW,BitVec.add_assoc];done) | trace_state) (by rfl) (by simp) (by simp) (by rfl) (by simp [zG14,formsX]),_,0,rfl,?_,rfl⟩
          ·simp
         ·rintro mM sS ⟨i,rfl,hi,rfl⟩
          refine AW_x rfl rfl λK hK=>?_
          simp (disch:=omega)
          repeat' first|(refine ⟨by omega,?_⟩)|(intro _)
          refine hK _ ?_;clear hK K
          refine zbh ?_
          refine zbj rfl (λhc3=>?_) (λhc3=>?_)
          ·try simp at hc3
           all_goals
            have hi2:i<64:=by omega
            have gw:=zsc b 64 i hi2 (by omega)
            have gk:=shaC_get i hi2
            obtain ⟨v,hv⟩:∃v,runW b h i=v:=⟨_,rfl⟩
            have hr8:runW b h (i+1)=rnd (kd i) (wd b i) v:=by rw [zkv,hv]
            rw [hv]
            refine zbk ?_
            refine zbn ?_
            refine zbh ?_
            refine zbi ?_
            refine AW_x rfl rfl λK hK=>?_
            simp (disch:=omega) [gw,gk,uC]
            repeat' first|(exfalso;omega)|(refine ⟨λ_=>?_,λ_=>?_⟩)|(refine ⟨by omega,?_⟩)|(simp (disch:=omega) [gw,gk,uC])|(intro _)
            all_goals (refine hK _ ?_;clear hK K)
            all_goals
             refine AW_d rfl mix (by kernel_rfl) (by kernel_rfl) λK hK=>?_
             simp (disch:=omega) [gw,gk,uC]
             repeat' first|(refine ⟨by omega,?_⟩)|(intro _)
             refine hK _ _ (by kernel_rfl) ?_;clear hK K
             refine AW_x rfl rfl λK hK=>?_
             simp (disch:=omega) [gw,gk,uC]
             repeat' first|(exfalso;omega)|(refine zmo (zba zbz (zba zbz zbg)) (zpu _ _ (by decide)) rfl ?_;simp (disch:=omega) [gw,gk,uC])|(refine zmp (zpu _ _ (by decide)) (by rfl) ?_ ?_;(focus (simp (disch:=omega) [gw,gk,uC,zb4];done));simp (disch:=omega) [gw,gk,uC])|(refine ⟨by omega,?_⟩)|(simp (disch:=omega) [gw,gk,uC])|(intro _)
             refine hK _ ?_;clear hK K
             refine AW_x rfl rfl λK hK=>?_
             simp (disch:=omega) [gw,gk,uC]
             repeat' first|(refine ⟨by omega,?_⟩)|(intro _)
             refine hK _ ?_;clear hK K
             refine AW_d rfl mix (by kernel_rfl) (by kernel_rfl) λK hK=>?_
             simp (disch:=omega) [gw,gk,uC]
             repeat' first|(refine ⟨by omega,?_⟩)|(intro _)
             refine hK _ _ (by kernel_rfl) ?_;clear hK K
             refine AW_x rfl rfl λK hK=>?_
             simp (disch:=omega) [gw,gk,uC]
             repeat' first|(exfalso;omega)|(refine zmo (zba zbz (zba zbz zbg)) (zpu _ _ (by decide)) rfl ?_;simp (disch:=omega) [gw,gk,uC])|(refine zmp (zpu _ _ (by decide)) (by rfl) ?_ ?_;(focus (simp (disch:=omega) [gw,gk,uC,zb4];done));simp (disch:=omega) [gw,gk,uC])|(refine ⟨by omega,?_⟩)|(simp (disch:=omega) [gw,gk,uC])|(intro _)
             refine hK _ ?_;clear hK K
             refine AW_x rfl rfl λK hK=>?_
             simp (disch:=omega) [gw,gk,uC]
             repeat' first|(refine ⟨by omega,?_⟩)|(intro _)
             refine hK _ ?_;clear hK K
             refine zd9 rfl rfl λK hK=>?_
             simp (disch:=omega) [gw,gk,uC]
             repeat' first|(refine ⟨by omega,?_⟩)|(simp (disch:=omega) [gw,gk,uC])|(intro _)
             refine hK _ ?_;clear hK K
             refine zbn ?_
             refine zd9 rfl rfl λK hK=>?_
             simp (disch:=omega) [gw,gk,uC]
             repeat' first|(refine ⟨by omega,?_⟩)|(intro _)
             refine hK _ ?_;clear hK K
             refine ⟨_,LeS.kx [(48,48),(80,80),(96,96),(208,208)] [(2,.ptr 48 0),(4,.ptr 80 0),(5,.ptr 96 0),(12,.ptr 208 0),(77,(.g (.int .i64 (((i+1):Nat)))))] [(48,.cells (uC h)),(80,.cells [.g (.int .u32 0),.g (.int .u32 0),.g (.int .u32 0),.g (.int .u32 0),.g (.int .u32 0),.g (.int .u32 0),.g (.int .u32 0),.g (.int .u32 0)]),(96,.cells (schU b 64)),(208,.cells (uC (runW b h (i+1))))] (by simp [zG13,KpR,renV2,renV,zb6,uC,wU,zfi];first|(simp;done) | omega | trace_state) (by simp [zG13,KpOX,renO,plO,cvO,renV,pl1,uC,wU,zfi];first | with_reducible rfl | exact λx hx=>by obtain ⟨n,rfl⟩:=zcs hx;rfl|(simp only [hr8,rnd,bs1,bs0,chW,mjW,BitVec.add_assoc];exact ⟨λx hx=>by obtain ⟨n,rfl⟩:=zcs hx;rfl,by simp⟩)|(simp only [hr8,rnd,bs1,bs0,chW,mjW,BitVec.add_assoc];done) | trace_state) (by rfl) (by simp) (by simp) (by rfl) (by simp [zG14,formsX]),_,?_,i+1,rfl,?_,rfl⟩
             ·omega
             ·omega
          ·try simp at hc3
           all_goals
            have hil:i=64:=by omega
            subst hil
            obtain ⟨v,hv⟩:∃v,runW b h 64=v:=⟨_,rfl⟩
            rw [hv]
            refine zbx ?_
            refine zbn ?_
            refine zbh ?_
            refine AW_x rfl rfl λK hK=>?_
            simp (disch:=omega)
            repeat' first|(exfalso;omega)|(refine ⟨λ_=>?_,λ_=>?_⟩)|(refine ⟨by omega,?_⟩)|(simp (disch:=omega))|(intro _)
            all_goals (refine hK _ ?_;clear hK K)
            all_goals
             refine zbi ?_
             refine zbr (λmM sS=>∃(i:Nat),mM=8-i∧(i≤8)∧sS = { env:=lkE [(2,.ptr 48 0),(4,.ptr 80 0),(12,.ptr 208 0),(162,(.g (.int .i64 ((i:Nat)))))],ob:=lk [(48,.cells (stU h v i)),(80,.cells [.g (.int .u32 0),.g (.int .u32 0),.g (.int .u32 0),.g (.int .u32 0),.g (.int .u32 0),.g (.int .u32 0),.g (.int .u32 0),.g (.int .u32 0)]),(208,.cells (uC v))] }) ?_ ?_
             ·refine ⟨_,LeS.kx [(48,48),(80,80),(208,208)] [(2,.ptr 48 0),(4,.ptr 80 0),(12,.ptr 208 0),(162,(.g (.int .i64 (((0):Nat)))))] [(48,.cells (stU h v (0))),(80,.cells [.g (.int .u32 0),.g (.int .u32 0),.g (.int .u32 0),.g (.int .u32 0),.g (.int .u32 0),.g (.int .u32 0),.g (.int .u32 0),.g (.int .u32 0)]),(208,.cells (uC v))] (by simp [zG13,KpR,renV2,renV,zb6,uC,wU];first|(simp;done) | omega | trace_state) (by simp [zG13,KpOX,renO,plO,cvO,renV,pl1,uC,wU];first | with_reducible rfl | exact ⟨hst,λx hx=>by obtain ⟨n,rfl⟩:=zk1 hx;rfl⟩ | exact ⟨(stU_0 h v).symm,λx hx=>by obtain ⟨n,rfl⟩:=zk1 hx;rfl⟩ | trace_state) (by rfl) (by simp) (by simp) (by rfl) (by simp [zG14,formsX]),_,0,rfl,?_,rfl⟩
              ·simp
             ·rintro mM sS ⟨i,rfl,hi,rfl⟩
              have hsl:=stU_len h v i hi
              refine AW_x rfl rfl λK hK=>?_
              simp (disch:=omega)
              repeat' first|(refine ⟨by omega,?_⟩)|(intro _)
              refine hK _ ?_;clear hK K
              refine zbh ?_
              refine zbj rfl (λhc4=>?_) (λhc4=>?_)
              ·try simp at hc4
               all_goals
                have hi2:i<8:=by omega
                have g1:=stU_get h v i hi2
                have g2:=uC_get v i hi2
                simp only [uC,wU] at g2
                have hst:=stU_set h v i hi2
                refine zbk ?_
                refine zbn ?_
                refine zbh ?_
                refine zbi ?_
                refine AW_x rfl rfl λK hK=>?_
                simp (disch:=omega) [g1,g2,hsl]
                repeat' first|(exfalso;omega)|(refine ⟨λ_=>?_,λ_=>?_⟩)|(refine ⟨by omega,?_⟩)|(simp (disch:=omega) [g1,g2,hsl])|(intro _)
                all_goals (refine hK _ ?_;clear hK K)
                all_goals
                 refine zmy rfl mix (by kernel_rfl) (by kernel_rfl) λK hK=>?_
                 simp (disch:=omega) [g1,g2,hsl]
                 repeat' first|(refine ⟨by omega,?_⟩)|(simp (disch:=omega) [g1,g2,hsl])|(intro _)
                 refine hK _ _ (by kernel_rfl) ?_;clear hK K
                 refine zbn ?_
                 refine zd9 rfl rfl λK hK=>?_
                 simp (disch:=omega) [g1,g2,hsl]
                 repeat' first|(refine ⟨by omega,?_⟩)|(intro _)
                 refine hK _ ?_;clear hK K
                 refine ⟨_,LeS.kx [(48,48),(80,80),(208,208)] [(2,.ptr 48 0),(4,.ptr 80 0),(12,.ptr 208 0),(162,(.g (.int .i64 (((i+1):Nat)))))] [(48,.cells (stU h v (i+1))),(80,.cells [.g (.int .u32 0),.g (.int .u32 0),.g (.int .u32 0),.g (.int .u32 0),.g (.int .u32 0),.g (.int .u32 0),.g (.int .u32 0),.g (.int .u32 0)]),(208,.cells (uC v))] (by simp [zG13,KpR,renV2,renV,zb6,uC,wU];first|(simp;done) | omega | trace_state) (by simp [zG13,KpOX,renO,plO,cvO,renV,pl1,uC,wU];first | with_reducible rfl | exact ⟨hst,λx hx=>by obtain ⟨n,rfl⟩:=zk1 hx;rfl⟩ | exact ⟨(stU_0 h v).symm,λx hx=>by obtain ⟨n,rfl⟩:=zk1 hx;rfl⟩ | trace_state) (by rfl) (by simp) (by simp) (by rfl) (by simp [zG14,formsX]),_,?_,i+1,rfl,?_,rfl⟩
                 ·omega
                 ·omega
              ·try simp at hc4
               all_goals
                have hil:i=8:=by omega
                subst hil
                rw [stU_8]
                refine zbx ?_
                refine zbn ?_
                refine AW_x rfl rfl λK hK=>?_
                simp (disch:=omega)
                repeat' first|(exfalso;omega)|(refine ⟨λ_=>?_,λ_=>?_⟩)|(refine ⟨by omega,?_⟩)|(simp (disch:=omega))|(intro _)
                all_goals (refine hK _ ?_;clear hK K)
                all_goals
                 refine zbm (zsx [] [] (by simp [zG13,List.range_succ]) (by simp) ?_)
                 simp (disch:=omega)
                 all_goals first|(have hbk:blk h b=add8 h v:=(by unfold blk;rw [hv]);simp [hbk];done) | trace_state
end Go.Proofs.YtchpfloemfoomaaDoor.Vs
end
section
namespace Go.Proofs.YtchpfloemfoomaaDoor.Vs
set_option linter.all false
set_option maxRecDepth 100000
set_option maxHeartbeats 4000000
attribute [local simp ↓] zmz zr2 zm0 zm1 zm2 zm3
/-- The low bytes of a number, the greatest first. -/
def dv(n k:Nat):Nat:=n / 2^(8*k)
def lb(n k:Nat):Int:=((n / 2^(8*k) % 256:Nat):Int)
theorem dv_0(n:Nat):dv n 0=n:=by simp [dv]
theorem dv_and(n k:Nat):IntKind.u8.wrap (zAnd (dv n k:Int) 255)=lb n k:=by rw [mask8,wrapB];unfold lb dv;omega
theorem dv_shr(n k:Nat):zShr (dv n k:Int) 8=(dv n (k+1):Int):=by
 rw [zwx _ _ (by omega),show (8:Int).toNat=8 from rfl]
 unfold dv
 rw [Nat.div_div_eq_div_mul,←Nat.pow_add];rfl
def loB(n:Nat):Nat→List Int
 | 0=>[]
 | k+1=>lb n k :: loB n k
theorem zra(n:Nat):∀k,(loB n k).length=k
 | 0=>rfl
 | k+1=>by rw [loB,List.length_cons,zra n k]
def fxR(n m k:Nat):List (List AV):=List.replicate (m-k) (bC 0)++(loB n k).map bC
theorem zgk(n m k:Nat)(h:k≤m):(fxR n m k).length=m:=by unfold fxR;simp [zra];omega
theorem fxR_0(n m:Nat):fxR n m 0=List.replicate m [.g (.int .u8 0)]:=by unfold fxR;simp [loB,bC]
theorem fxR_m(n m:Nat):fxR n m m=(loB n m).map bC:=by unfold fxR;simp
theorem fxR_set(n m k:Nat)(h:k<m):(fxR n m k).set (m-(k+1)) (bC (lb n k))=fxR n m (k+1):=by
 unfold fxR
 rw [loB,show m-k=(m-(k+1))+1 by omega,List.replicate_succ',List.append_assoc,List.set_append_right _ _ (by simp)]
 simp
theorem fxR_get(n m k:Nat)(h:k<m):(fxR n m k)[m-(k+1)]? = some [.g (.int .u8 0)]:=by
 unfold fxR
 rw [List.getElem?_append_left (by simp;omega),List.getElem?_replicate,if_pos (by omega)];rfl
theorem zm7(n m k:Nat):scR (fxR n m k)=true:=by
 unfold fxR
 rw [zqy,zjr bC (λ_=>rfl)]
 simp
 induction (m-k) with
 | zero=>rfl
 | succ n ih=>rw [List.replicate_succ];simpa [scR,bC] using ih
theorem zw3(n m:Nat):numsOf (fxR n m m)=some (loB n m):=by rw [fxR_m];exact zg6 _
theorem zse{α:Type}{l:List α}{n:Nat}(h:l.length=n):l.take n=l:=List.take_of_length_le (by omega)
theorem zl3(x lo hi:Int):PCall Tryd.prog 47 [(.g (.int .i64 (x))),(.g (.int .i64 (lo))),(.g (.int .i64 (hi)))] (.g (.bool (decide (lo≤x)&&decide (x≤hi)))):=by
 refine zbe Tryd.func47 (by rfl) (by rfl) (by rw [Tryd.ntmps47];exact Nat.le_of_ble_eq_true rfl) rfl (by decide) ?_
 rw [Tryd.ntmps47]
 refine AW_k [(0,_),(1,_),(2,_)] ⟨rfl,rfl,rfl,trivial⟩ ?_
 refine AW_r rfl rfl λK hK=>?_
 simp (disch:=omega)
 repeat' first|(refine ⟨by omega,?_⟩)|(intro _)
 refine hK _ ?_;clear hK K
 refine AW_r rfl rfl λK hK=>?_
 simp (disch:=omega)
 repeat' first|(exfalso;omega)|(refine ⟨λ_=>?_,λ_=>?_⟩)|(refine ⟨by omega,?_⟩)|(intro _)
 all_goals (refine hK _ ?_;clear hK K)
 all_goals
  refine zbm (zbq ?_)
  simp (disch:=omega)
  all_goals first | rfl | omega|(simp_all;done)|(simp_all;omega) | trace_state
attribute [local simp] zse zgk
def zG15:=And.intro @zse (And.intro @zgk @zw3)
theorem fixS(n m:Nat)(hm:1≤m∧m≤7)(hn:n<2^(8*m)):XCall Tryd.prog 55 [(.g (.int .i64 ((n:Nat)))),(.g (.int .i64 ((m:Nat))))] [] (.s (strN (loB n m))) [] []:=by
 have h1:(1:Int)≤(m:Int):=by omega
 have h2:(m:Int)≤7:=by omega
 have h3:¬(n:Int)<0:=by omega
 have h4:(0:Int)≤8*(m:Int):=by omega
 have hp:2^(8*m)≤2^56:=Nat.pow_le_pow_right (by omega) (by omega)
 have hs:=zg1 1 (8*(m:Int)) (8*m) (by omega) (by omega) (by omega)
 have h5:¬zShl 1 (8*(m:Int))≤(n:Int):=by
  have e:zShl 1 (8*(m:Int))=((1*2^(8*m):Nat):Int):=hs
  rw [e];omega
 refine zc7 Tryd.func55 (by rfl) (by rfl) (by rw [Tryd.ntmps55];exact Nat.le_of_ble_eq_true rfl) rfl (by simp) rfl rfl ?_
 rw [Tryd.ntmps55]
 refine zvy   ?_
 refine AW_k [(0,_),(1,_)] ⟨rfl,rfl,trivial⟩ ?_
 refine AW_x rfl rfl λK hK=>?_
 simp (disch:=omega) [zG15,h1,h2,h3,h4,h5]
 repeat' first|(refine ⟨by omega,?_⟩)|(intro _)
 refine hK _ ?_;clear hK K
 refine zbh ?_
 refine AW_x rfl rfl λK hK=>?_
 simp (disch:=omega) [zG15,h1,h2,h3,h4,h5]
 repeat' first|(exfalso;omega)|(refine zmo (zba zbz (zba zbz (zba zbz zbg))) (zl3 _ _ _) rfl ?_;simp (disch:=omega) [zG15,h1,h2,h3,h4,h5])|(refine zmp (zl3 _ _ _) (by rfl) ?_ ?_;(focus (simp (disch:=omega) [zG15,h1,h2,h3,h4,h5,zb4];done));simp (disch:=omega) [zG15,h1,h2,h3,h4,h5])|(refine ⟨λ_=>?_,λ_=>?_⟩)|(refine ⟨by omega,?_⟩)|(simp (disch:=omega) [zG15,h1,h2,h3,h4,h5])|(intro _)
 all_goals (refine hK _ ?_;clear hK K)
 all_goals
  refine zbj rfl (λhc1=>?_) (λhc1=>?_)
  ·try simp at hc1
   all_goals
    refine AW_x rfl rfl λK hK=>?_
    simp (disch:=omega) [zG15,h1,h2,h3,h4,h5]
    repeat' first|(exfalso;omega)|(refine ⟨λ_=>?_,λ_=>?_⟩)|(refine ⟨by omega,?_⟩)|(simp (disch:=omega) [zG15,h1,h2,h3,h4,h5])|(intro _)
    all_goals (refine hK _ ?_;clear hK K)
    all_goals
     refine zbm (zsx [] [] (by simp [zG13,List.range_succ]) (by simp) ?_)
     simp (disch:=omega) [zG15,h1,h2,h3,h4,h5]
     all_goals first | rfl | trace_state
  ·try simp at hc1
   all_goals
    refine zbk ?_
    refine zbn ?_
    refine AW_x rfl rfl λK hK=>?_
    simp (disch:=omega) [zG15,h1,h2,h3,h4,h5]
    repeat' first|(exfalso;omega)|(refine ⟨λ_=>?_,λ_=>?_⟩)|(refine ⟨by omega,?_⟩)|(simp (disch:=omega) [zG15,h1,h2,h3,h4,h5])|(intro _)
    all_goals (refine hK _ ?_;clear hK K)
    all_goals
     refine zbh ?_
     refine AW_x rfl rfl λK hK=>?_
     simp (disch:=omega) [zG15,h1,h2,h3,h4,h5]
     repeat' first|(refine ⟨by omega,?_⟩)|(intro _)
     refine hK _ ?_;clear hK K
     refine zbi ?_
     refine zbr (λmM sS=>∃(k:Nat),mM=m-k∧(k≤m)∧sS = { env:=lkE [(0,(.g (.int .i64 ((dv n k:Nat))))),(5,.arr 501 0 m),(6,(.g (.int .i64 ((m:Int)-1-k))))],ob:=lk [(501,.flat 1 (fxR n m k))] }) ?_ ?_
     ·refine ⟨_,LeS.kx [(501,368)] [(0,(.g (.int .i64 ((dv n (0):Nat))))),(5,.arr 501 0 m),(6,(.g (.int .i64 ((m:Int)-1-(0)))))] [(501,.flat 1 (fxR n m (0)))] (by simp [zG13,KpR,renV2,renV,zb6,zm7,zgk,fxR_0,dv_0];first|(simp;done) | omega | trace_state) (by simp [zG13,KpOX,renO,plO,cvO,renV,pl1,zm7,zgk,fxR_0,dv_0];first | with_reducible rfl|(simp only [hgt2,List.set_cons_zero];exact hst) | exact hst | trace_state) (by rfl) (by simp) (by simp) (by rfl) (by simp [zG14,formsX]),_,0,rfl,?_,rfl⟩
      ·simp
     ·rintro mM sS ⟨k,rfl,hk,rfl⟩
      have hfl:=zgk n m k hk
      refine zbh ?_
      refine AW_x rfl rfl λK hK=>?_
      simp (disch:=omega) [zG15,h1,h2,h3,h4,h5]
      repeat' first|(refine ⟨by omega,?_⟩)|(intro _)
      refine hK _ ?_;clear hK K
      refine zbj rfl (λhc2=>?_) (λhc2=>?_)
      ·try simp at hc2
       all_goals
        have hk2:k<m:=by omega
        have hix:((m:Int)-1-(k:Int)).toNat=m-(k+1):=by omega
        have hby:=dv_and n k
        have hsr:=dv_shr n k
        have hst:=fxR_set n m k hk2
        have hgt:=fxR_get n m k hk2
        have hgt2:(fxR n m k)[m-(k+1)]'(by omega)=[.g (.int .u8 0)]:=by have:=hgt;rw [List.getElem?_eq_getElem (by omega)] at this;exact Option.some.inj this
        simp only [bC] at hst
        refine zbk ?_
        refine zbn ?_
        refine zbh ?_
        refine zbi ?_
        refine AW_x rfl rfl λK hK=>?_
        simp (disch:=omega) [zG15,h1,h2,h3,h4,h5,hix,hby,hsr,hgt,hgt2]
        repeat' first|(exfalso;omega)|(refine ⟨λ_=>?_,λ_=>?_⟩)|(refine ⟨by omega,?_⟩)|(simp (disch:=omega) [zG15,h1,h2,h3,h4,h5,hix,hby,hsr,hgt,hgt2])|(intro _)
        all_goals (refine hK _ ?_;clear hK K)
        all_goals
         refine zd9 rfl rfl λK hK=>?_
         simp (disch:=omega) [zG15,h1,h2,h3,h4,h5,hix,hby,hsr,hgt,hgt2]
         repeat' first|(refine ⟨by omega,?_⟩)|(intro _)
         refine hK _ ?_;clear hK K
         refine zbn ?_
         refine zd9 rfl rfl λK hK=>?_
         simp (disch:=omega) [zG15,h1,h2,h3,h4,h5,hix,hby,hsr,hgt,hgt2]
         repeat' first|(refine ⟨by omega,?_⟩)|(intro _)
         refine hK _ ?_;clear hK K
         refine ⟨_,LeS.kx [(501,501)] [(0,(.g (.int .i64 ((dv n (k+1):Nat))))),(5,.arr 501 0 m),(6,(.g (.int .i64 ((m:Int)-1-(k+1)))))] [(501,.flat 1 (fxR n m (k+1)))] (by simp [zG13,KpR,renV2,renV,zb6,zm7,zgk,fxR_0,dv_0];first|(simp;done) | omega | trace_state) (by simp [zG13,KpOX,renO,plO,cvO,renV,pl1,zm7,zgk,fxR_0,dv_0];first | with_reducible rfl|(simp only [hgt2,List.set_cons_zero];exact hst) | exact hst | trace_state) (by rfl) (by simp) (by simp) (by rfl) (by simp [zG14,formsX]),_,?_,k+1,rfl,?_,rfl⟩
         ·omega
         ·omega
      ·try simp at hc2
       all_goals
        have hkm:k=m:=by omega
        subst hkm
        refine zbx ?_
        refine zbn ?_
        refine AW_x rfl rfl λK hK=>?_
        simp (disch:=omega) [zG15,h1,h2,h3,h4,h5]
        repeat' first|(exfalso;omega)|(refine ⟨λ_=>?_,λ_=>?_⟩)|(refine ⟨by omega,?_⟩)|(simp (disch:=omega) [zG15,h1,h2,h3,h4,h5])|(intro _)
        all_goals (refine hK _ ?_;clear hK K)
        all_goals
         refine zbm (zsx [] [] (by simp [zG13,List.range_succ]) (by simp) ?_)
         simp (disch:=omega) [zG15,h1,h2,h3,h4,h5]
         all_goals first | rfl | trace_state
end Go.Proofs.YtchpfloemfoomaaDoor.Vs
end
section
namespace Go.Proofs.YtchpfloemfoomaaDoor.Vs
set_option linter.all false
set_option maxRecDepth 100000
set_option maxHeartbeats 4000000
theorem lb_by(n k:Nat):UInt8.ofNat (lb n k).toNat=UInt8.ofNat (n / 2^(8*k)):=by unfold lb;rw [Int.toNat_natCast];exact zkx _
theorem fix7(s:List UInt8)(hs:s.length≤1073741824):PCall Tryd.prog 55 [(.g (.int .i64 (8*(s.length:Int)))),(.g (.int .i64 (7)))] (.s (strN (loB (8*s.length) 7))):=by
 have h:PCall Tryd.prog 55 [(.g (.int .i64 (((8*s.length:Nat):Int)))),(.g (.int .i64 (((7:Nat):Int))))] (.s (strN (loB (8*s.length) 7))):=zdd (fixS (8*s.length) 7 (by omega) (by omega)) rfl
 rw [show ((8*s.length:Nat):Int)=8*(s.length:Int) by omega] at h
 exact h
theorem fix4(x:W32):PCall Tryd.prog 55 [(.g (.int .i64 (wI x))),(.g (.int .i64 (4)))] (.s (by4 x)):=by
 have h:PCall Tryd.prog 55 [(.g (.int .i64 (((x.toNat:Nat):Int)))),(.g (.int .i64 (((4:Nat):Int))))] (.s (strN (loB x.toNat 4))):=zdd (fixS x.toNat 4 (by omega) x.isLt) rfl
 have e:strN (loB x.toNat 4)=by4 x:=by
  unfold by4
  simp only [loB,strN,List.map_cons,List.map_nil,lb_by]
  simp
 rw [e] at h
 exact h
theorem zgc:∀k:Nat,numsOf (List.replicate k [AV.g (.int .u8 0)])=some (List.replicate k 0)
 | 0=>rfl
 | k+1=>by
  rw [List.replicate_succ,numsOf,zgc k];rfl
theorem zm8(k:Nat):strN (List.replicate k 0)=List.replicate k 0:=by simp [strN]
theorem pad_i(s:List UInt8)(hs:s.length≤1073741824):s++([128]++(List.replicate (zerosN s.length+1) 0++strN (loB (8*s.length) 7)))=padS s:=by
 have e:lenB s.length=0 :: strN (loB (8*s.length) 7):=by
  have h0:s.length*8 / 2^(56-8*0)=0:=Nat.div_eq_of_lt (by omega)
  unfold lenB
  simp only [loB,strN,List.map_cons,List.map_nil,lb_by]
  rw [Nat.mul_comm 8 s.length]
  simp only [List.range_succ,List.range_zero,List.map_append,List.map_cons,List.map_nil,List.nil_append,List.cons_append]
  rw [h0]
  rfl
 unfold padS
 rw [e,List.replicate_succ']
 simp
def q9(n:Nat):Nat:=(n+9) % 64
theorem q9_lt(n:Nat):q9 n<64:=by unfold q9;omega
theorem zer_0(n:Nat):((n:Int)+9).tmod 64=(q9 n:Int):=by rw [Int.tmod_eq_emod_of_nonneg (by omega)];unfold q9;omega
theorem zer_i(n:Nat):((64:Int)-(q9 n:Int)).tmod 64=(zerosN n:Int):=by
 have:=q9_lt n
 rw [Int.tmod_eq_emod_of_nonneg (by omega)]
 unfold zerosN q9
 omega
theorem blks_0(t:List UInt8):blks t 0=shaH:=rfl
def outW(v:W8)(i:Nat):List UInt8:=(List.range i).flatMap λj=>by4 (v.get j)
theorem zsf(v:W8):outW v 0=[]:=rfl
theorem outW_s(v:W8)(i:Nat):outW v (i+1)=outW v i++by4 (v.get i):=by unfold outW;rw [List.range_succ,List.flatMap_append];simp
theorem outW_8(v:W8):outW v 8=by32 v:=rfl
theorem zg8(v:W8):∀i,(outW v i).length=4*i
 | 0=>rfl
 | i+1=>by rw [outW_s,List.length_append,zg8 v i];rfl
theorem zrb(x:W32):(by4 x).length=4:=rfl
theorem zm9(n:Nat):(loB n 7).length=7:=zra n 7
attribute [local simp] zgc zm8 zkz zm9 zrb zg8 uC wU
def zG16:=And.intro @zgc (And.intro @zm8 (And.intro @zkz (And.intro @zm9 (And.intro @zrb @zg8))))
theorem implSha(s:List UInt8)(hs:s.length≤1073741824):XCall Tryd.prog 36 [.s s] [] (.s (shaS s)) [] []:=by
 have hz0:=zer_0 s.length
 have hq:=q9_lt s.length
 have hz:=zer_i s.length
 have hzl:=zsa s.length
 refine zc7 Tryd.func36 (by rfl) (by rfl) (by rw [Tryd.ntmps36];exact Nat.le_of_ble_eq_true rfl) rfl (by simp) rfl rfl ?_
 rw [Tryd.ntmps36]
 refine zvy   ?_
 refine AW_k [(0,_)] ⟨rfl,trivial⟩ ?_
 refine AW_x rfl rfl λK hK=>?_
 simp (disch:=omega) [zG16,hz0,hz]
 repeat' first|(refine ⟨by omega,?_⟩)|(intro _)
 refine hK _ ?_;clear hK K
 refine AW_x rfl rfl λK hK=>?_
 simp (disch:=omega) [zG16,hz0,hz]
 repeat' first|(refine ⟨by omega,?_⟩)|(simp (disch:=omega) [zG16,hz0,hz])|(intro _)
 refine hK _ ?_;clear hK K
 refine AW_x rfl rfl λK hK=>?_
 simp (disch:=omega) [zG16,hz0,hz]
 repeat' first|(refine ⟨by omega,?_⟩)|(simp (disch:=omega) [zG16,hz0,hz])|(intro _)
 refine hK _ ?_;clear hK K
 refine AW_d rfl mix (by kernel_rfl) (by kernel_rfl) λK hK=>?_
 simp (disch:=omega) [zG16,hz0,hz]
 repeat' first|(exfalso;omega)|(refine zld (λst'=>(zba zbz (zba zbz zbg))) (fix7 s hs) rfl ?_;simp (disch:=omega) [zG16,hz0,hz])|(refine zle (fix7 s hs) (by rfl) (λst' hst=>?_) ?_;(focus (simp (disch:=omega) [zG16,hz0,hz] at hst;simp (disch:=omega) [zG16,hz0,hz,hst,zb4];done));simp (disch:=omega) [zG16,hz0,hz])|(refine zld (λst'=>(zba zbz (zba zbz zbg))) (fix4 _) rfl ?_;simp (disch:=omega) [zG16,hz0,hz])|(refine zle (fix4 _) (by rfl) (λst' hst=>?_) ?_;(focus (simp (disch:=omega) [zG16,hz0,hz] at hst;simp (disch:=omega) [zG16,hz0,hz,hst,zb4];done));simp (disch:=omega) [zG16,hz0,hz])|(refine ⟨by omega,?_⟩)|(simp (disch:=omega) [zG16,hz0,hz])|(intro _)
 refine hK _ _ (by kernel_rfl) ?_;clear hK K
 refine AW_x rfl rfl λK hK=>?_
 simp (disch:=omega) [zG16,hz0,hz]
 repeat' first|(refine ⟨by omega,?_⟩)|(simp (disch:=omega) [zG16,hz0,hz])|(intro _)
 refine hK _ ?_;clear hK K
 refine zbh ?_
 refine AW_x rfl rfl λK hK=>?_
 simp (disch:=omega) [zG16,hz0,hz]
 repeat' first|(refine ⟨by omega,?_⟩)|(intro _)
 refine hK _ ?_;clear hK K
 refine zbi ?_
 refine zbr (λmM sS=>∃(j:Nat),mM=(padS s).length-64*j∧(64*j≤(padS s).length)∧sS = { env:=lkE [(5,.s (padS s)),(6,.ptr 112 0),(7,(.g (.int .i64 ((64*j:Nat)))))],ob:=lk [(112,.cells (uC (blks (padS s) j)))] }) ?_ ?_
 ·refine ⟨_,LeS.kx [(112,112)] [(5,.s (padS s)),(6,.ptr 112 0),(7,(.g (.int .i64 ((64*(0):Nat)))))] [(112,.cells (uC (blks (padS s) (0))))] (by simp [zG13,KpR,renV2,renV,zb6,uC,wU];first|(simp;done) | omega | exact pad_i s hs|(simp;omega) | trace_state) (by simp [zG13,KpOX,renO,plO,cvO,renV,pl1,uC,wU];first | with_reducible rfl|(simp only [hbs,and_self];done)|(simp only [blks_0];exact ⟨rfl,rfl,rfl,rfl,rfl,rfl,rfl,rfl⟩) | trace_state) (by rfl) (by simp) (by simp) (by rfl) (by simp [zG14,formsX]),_,0,rfl,?_,rfl⟩
  ·simp
 ·rintro mM sS ⟨j,rfl,hj,rfl⟩
  have hpl:=zr4 s
  have hpz:=zsa s.length
  obtain ⟨v,hv⟩:∃v,blks (padS s) j=v:=⟨_,rfl⟩
  rw [hv]
  refine zbh ?_
  refine AW_x rfl rfl λK hK=>?_
  simp (disch:=omega) [zG16,hz0,hz]
  repeat' first|(refine ⟨by omega,?_⟩)|(simp (disch:=omega) [zG16,hz0,hz])|(intro _)
  refine hK _ ?_;clear hK K
  refine zbj rfl (λhc1=>?_) (λhc1=>?_)
  ·try simp at hc1
   all_goals
    have hj2:64*j+64≤(padS s).length:=by omega
    have hsl:List.take ((64*(j:Int)+64).toNat-(64*(j:Int)).toNat) (List.drop (64*(j:Int)).toNat (padS s))=((padS s).drop (64*j)).take 64:=by rw [show (64*(j:Int)).toNat=64*j by omega,show (64*(j:Int)+64).toNat-64*j=64 by omega]
    have hbl:(((padS s).drop (64*j)).take 64).length=64:=by simp;omega
    have hbs:blks (padS s) (j+1)=blk v (((padS s).drop (64*j)).take 64):=by rw [zk0,hv]
    refine zbk ?_
    refine zbn ?_
    refine zbh ?_
    refine zbi ?_
    refine zmy rfl mix (by kernel_rfl) (by kernel_rfl) λK hK=>?_
    simp (disch:=omega) [zG16,hz0,hz,hsl]
    repeat' first|(exfalso;omega)|(refine DKd_y [] true [] (shaBlk v (((padS s).drop (64*j)).take 64) hbl) ?_ (λst' hst=>?_) ?_;(focus (simp [List.range_succ,nmC];done));(focus (simp (disch:=omega) [zG16,hz0,hz,hsl,nmC,List.range_succ] at hst;simp (disch:=omega) [zG16,hz0,hz,hsl,hst,zb4,nmC,List.range_succ];done));simp (disch:=omega) [zG16,hz0,hz,hsl])|(refine ⟨λ_=>?_,λ_=>?_⟩)|(refine ⟨by omega,?_⟩)|(simp (disch:=omega) [zG16,hz0,hz,hsl])|(intro _)
    all_goals (refine hK _ _ (by kernel_rfl) ?_;clear hK K)
    all_goals
     refine zbn ?_
     refine zd9 rfl rfl λK hK=>?_
     simp (disch:=omega) [zG16,hz0,hz,hsl]
     repeat' first|(refine ⟨by omega,?_⟩)|(intro _)
     refine hK _ ?_;clear hK K
     refine ⟨_,LeS.kx [(112,112)] [(5,.s (padS s)),(6,.ptr 112 0),(7,(.g (.int .i64 ((64*(j+1):Nat)))))] [(112,.cells (uC (blks (padS s) (j+1))))] (by simp [zG13,KpR,renV2,renV,zb6,uC,wU];first|(simp;done) | omega | exact pad_i s hs|(simp;omega) | trace_state) (by simp [zG13,KpOX,renO,plO,cvO,renV,pl1,uC,wU];first | with_reducible rfl|(simp only [hbs,and_self];done)|(simp only [blks_0];exact ⟨rfl,rfl,rfl,rfl,rfl,rfl,rfl,rfl⟩) | trace_state) (by rfl) (by simp) (by simp) (by rfl) (by simp [zG14,formsX]),_,?_,j+1,rfl,?_,rfl⟩
     ·omega
     ·omega
  ·try simp at hc1
   all_goals
    have hjl:64*j=(padS s).length:=by omega
    refine zbx ?_
    refine zbn ?_
    refine AW_x rfl rfl λK hK=>?_
    simp (disch:=omega) [zG16,hz0,hz]
    repeat' first|(exfalso;omega)|(refine ⟨λ_=>?_,λ_=>?_⟩)|(refine ⟨by omega,?_⟩)|(simp (disch:=omega) [zG16,hz0,hz])|(intro _)
    all_goals (refine hK _ ?_;clear hK K)
    all_goals
     refine zbh ?_
     refine AW_x rfl rfl λK hK=>?_
     simp (disch:=omega) [zG16,hz0,hz]
     repeat' first|(refine ⟨by omega,?_⟩)|(intro _)
     refine hK _ ?_;clear hK K
     refine zbi ?_
     refine zbr (λmM sS=>∃(i:Nat),mM=8-i∧(i≤8)∧sS = { env:=lkE [(8,.s (outW v i)),(44,.agg (uC v)),(45,(.g (.int .i64 ((i:Nat)))))],ob:=lk [] }) ?_ ?_
     ·refine ⟨_,LeS.kx [] [(8,.s (outW v (0))),(44,.agg (uC v)),(45,(.g (.int .i64 (((0):Nat)))))] [] (by simp [zG13,KpR,renV2,renV,zb6,uC,wU];first|(simp;done) | omega|(rw [hos];done)|(simp [hos];done) | exact zsf v | exact (zsf v).symm | trace_state) (by simp [zG13,KpOX,renO,plO,cvO,renV,pl1,uC,wU];try rfl) (by rfl) (by simp) (by simp) (by rfl) (by simp [zG14,formsX]),_,0,rfl,?_,rfl⟩
      ·simp
     ·rintro mM sS ⟨i,rfl,hi,rfl⟩
      have hol:=zg8 v i
      refine AW_x rfl rfl λK hK=>?_
      simp (disch:=omega) [zG16,hz0,hz]
      repeat' first|(refine ⟨by omega,?_⟩)|(intro _)
      refine hK _ ?_;clear hK K
      refine zbh ?_
      refine zbj rfl (λhc2=>?_) (λhc2=>?_)
      ·try simp at hc2
       all_goals
        have hi2:i<8:=by omega
        have g2:=uC_get v i hi2
        simp only [uC,wU] at g2
        have hbd:=wI_bd (v.get i)
        have hos:=outW_s v i
        refine zbk ?_
        refine zbn ?_
        refine zbh ?_
        refine zbi ?_
        refine AW_x rfl rfl λK hK=>?_
        simp (disch:=omega) [zG16,hz0,hz,g2]
        repeat' first|(exfalso;omega)|(refine ⟨λ_=>?_,λ_=>?_⟩)|(refine ⟨by omega,?_⟩)|(simp (disch:=omega) [zG16,hz0,hz,g2])|(intro _)
        all_goals (refine hK _ ?_;clear hK K)
        all_goals
         refine zd9 rfl rfl λK hK=>?_
         simp (disch:=omega) [zG16,hz0,hz,g2]
         repeat' first|(exfalso;omega)|(refine zmo (zba zbz (zba zbz zbg)) (fix7 s hs) rfl ?_;simp (disch:=omega) [zG16,hz0,hz,g2])|(refine zmp (fix7 s hs) (by rfl) ?_ ?_;(focus (simp (disch:=omega) [zG16,hz0,hz,g2,zb4];done));simp (disch:=omega) [zG16,hz0,hz,g2])|(refine zmo (zba zbz (zba zbz zbg)) (fix4 _) rfl ?_;simp (disch:=omega) [zG16,hz0,hz,g2])|(refine zmp (fix4 _) (by rfl) ?_ ?_;(focus (simp (disch:=omega) [zG16,hz0,hz,g2,zb4];done));simp (disch:=omega) [zG16,hz0,hz,g2])|(refine ⟨by omega,?_⟩)|(simp (disch:=omega) [zG16,hz0,hz,g2])|(intro _)
         refine hK _ ?_;clear hK K
         refine zbn ?_
         refine zd9 rfl rfl λK hK=>?_
         simp (disch:=omega) [zG16,hz0,hz,g2]
         repeat' first|(refine ⟨by omega,?_⟩)|(intro _)
         refine hK _ ?_;clear hK K
         refine ⟨_,LeS.kx [] [(8,.s (outW v (i+1))),(44,.agg (uC v)),(45,(.g (.int .i64 (((i+1):Nat)))))] [] (by simp [zG13,KpR,renV2,renV,zb6,uC,wU];first|(simp;done) | omega|(rw [hos];done)|(simp [hos];done) | exact zsf v | exact (zsf v).symm | trace_state) (by simp [zG13,KpOX,renO,plO,cvO,renV,pl1,uC,wU];try rfl) (by rfl) (by simp) (by simp) (by rfl) (by simp [zG14,formsX]),_,?_,i+1,rfl,?_,rfl⟩
         ·omega
         ·omega
      ·try simp at hc2
       all_goals
        have hil:i=8:=by omega
        subst hil
        refine zbx ?_
        refine zbn ?_
        refine AW_x rfl rfl λK hK=>?_
        simp (disch:=omega) [zG16,hz0,hz]
        repeat' first|(exfalso;omega)|(refine ⟨λ_=>?_,λ_=>?_⟩)|(refine ⟨by omega,?_⟩)|(simp (disch:=omega) [zG16,hz0,hz])|(intro _)
        all_goals (refine hK _ ?_;clear hK K)
        all_goals
         refine zbm (zsx [] [] (by simp [zG13,List.range_succ]) (by simp) ?_)
         simp (disch:=omega) [zG16,hz0,hz]
         all_goals first|(unfold shaS;rw [show (padS s).length / 64=j by omega,hv];exact outW_8 v)|(unfold shaS;rw [show (padS s).length / 64=j by omega,hv,←outW_8];done) | trace_state
theorem implShaP(s:List UInt8)(hs:s.length≤1073741824):PCall Tryd.prog 36 [.s s] (.s (shaS s)):=zdd (implSha s hs) rfl
attribute [local simp] zr5
attribute [-simp] zgc zm8 zkz zm9 zrb zg8 uC wU
theorem zpv(s:List UInt8)(hs:s.length≤1073741824):PCall Tryd.prog 21 [.s s] (.s (shortS s)):=by
 refine zbe Tryd.func21 (by rfl) (by rfl) (by rw [Tryd.ntmps21];exact Nat.le_of_ble_eq_true rfl) rfl (by decide) ?_
 rw [Tryd.ntmps21]
 refine AW_k [(0,_)] ⟨rfl,trivial⟩ ?_
 refine AW_r rfl rfl λK hK=>?_
 simp (disch:=omega)
 repeat' first|(refine ⟨by omega,?_⟩)|(intro _)
 refine hK _ ?_;clear hK K
 refine AW_r rfl rfl λK hK=>?_
 simp (disch:=omega)
 repeat' first|(exfalso;omega)|(refine zby (zba zd6 zbg) (implShaP _ hs) rfl ?_;simp (disch:=omega))|(refine ⟨by omega,?_⟩)|(intro _)
 refine hK _ ?_;clear hK K
 refine zbm (zbq ?_)
 simp (disch:=omega)
 all_goals first | rfl | trace_state
end Go.Proofs.YtchpfloemfoomaaDoor.Vs
end
section
namespace Go.Proofs.YtchpfloemfoomaaDoor.Vs
set_option linter.all false
set_option maxRecDepth 100000
/-! from what the row lists of the variable to what the walk asks of it -/
theorem zpw{w:World}{I:Nat→Prop}{b:Nat}:∀(ns:List Int) (o:Nat),(∀(i:Nat) n,ns[i]? = some n→w.cell? ⟨b,o+i,none⟩=some (.int .u32 n))→RIc w I b o (ns.map λn=>.g (.int .u32 n))
 | [],o,_=>by rw [List.map_nil,RIc];trivial
 | n :: ns,o,h=>by
  rw [List.map_cons,RIc]
  refine ⟨⟨.int .u32 n,by simpa using h 0 n rfl,by rw [RI];exact ⟨rfl,rfl⟩⟩,zpw ns (o+1) λi m hm=>?_⟩
  have:=h (i+1) m (by simpa using hm)
  rwa [show o+1+i=o+(i+1) by omega]
theorem zta{P:Program}{W:World}{vn:String}{vt e:TypeId}(hg:P.globalNamed vn=some 0)(ht:(P.globals[0]?).map (·.type)=some vt)(hu:P.underlying vt=some (.array 64 e))(he:P.underlying e=some (.int .u32))(hc:P.cellsOf e=1)
 (h:laidMet P [(vn,.agg (shaN.map λn=>.lit (.int .u32 n)))] W):GW W λb=>b<W.heap.size:=by
 obtain ⟨ps,⟨g,t,cs,fuel,p,q,h1,h2,h3,h4,-,-⟩,-,-⟩:=h
 obtain rfl:g=0:=Option.some.inj (h1.symm.trans hg)
 obtain rfl:t=vt:=Option.some.inj (h2.symm.trans ht)
 obtain ⟨xs,m,-,hx,hl,hn,hi⟩:=DataW.trod_array hu h4
 have hxs:xs.map (·.1)=shaN.map λn=>.lit (.int .u32 n):=by
  have:=congrArg Prod.fst hx
  simpa using this.symm
 have hcell:∀i,W.cell? ⟨0,i,none⟩=cs[i]?:=by
  intro i
  simp only [World.var?,h1,Option.bind_some] at h3
  split at h3<;>simp_all [World.cell?]
 have hsz:0<W.heap.size:=by
  simp only [World.var?,h1,Option.bind_some] at h3
  split at h3
  ·rename_i hh;exact (Array.getElem?_eq_some_iff.1 hh).1
  ·cases h3
 refine ⟨hsz,zpw shaN 0 λi n hin=>?_⟩
 rw [Nat.zero_add,hcell]
 have hlen:shaN.length=64:=by have:=congrArg List.length hxs;simp only [List.length_map] at this;omega
 have hi64:i<64:=by have:=(List.getElem?_eq_some_iff.1 hin).1;omega
 have hxi:∃y,xs[i]? = some y∧y.1=.lit (.int .u32 n):=by
  have h5:=congrArg (·[i]?) hxs
  simp only [List.getElem?_map,hin,Option.map_some] at h5
  cases hy:xs[i]? with
  | none=>rw [hy] at h5;cases h5
  | some y=>rw [hy] at h5;exact ⟨y,rfl,Option.some.inj h5⟩
 obtain ⟨y,hy,hy1⟩:=hxi
 have h6:=hi i hi64
 rw [hy,hc,Nat.mul_one] at h6
 obtain ⟨n',h7,h8,-⟩:=DataW.trod_int he h6
 rw [h8] at hy1
 have hnn:n'=n:=by simpa using hy1
 subst hnn
 have h9:(cs.toList.drop i)[0]? = some (.int .u32 n'):=by
  have:=congrArg (·[0]?) h7
  simpa [List.getElem?_take] using this
 simpa using h9
end Go.Proofs.YtchpfloemfoomaaDoor.Vs
end
section
namespace Go.Proofs.YtchpfloemfoomaaDoor.Vs
set_option linter.all false
set_option maxRecDepth 100000
set_option maxHeartbeats 2000000
noncomputable def hashS(s:DtState):List UInt8:=bif decB (StateP s) then shortS (showState s) else []
def zG17:=And.intro @zbu (And.intro @gE @tP)
theorem specHash(s:DtState)(hs:DtState.sz s≤1048576):PCall Tryd.prog 14 [.agg (DtState.cells s)] (.s (hashS s)):=by
 by_cases hP:StateP s
 ·have hd:=zcj hP
  have hh:hashS s=shortS (showState s):=by unfold hashS;rw [hd];rfl
  refine zbe Tryd.func14 (by rfl) (by rfl) (by rw [Tryd.ntmps14];exact Nat.le_of_ble_eq_true rfl) rfl (by decide) ?_
  rw [Tryd.ntmps14]
  refine AW_k [(0,_)] ⟨rfl,trivial⟩ ?_
  refine AW_r rfl rfl λK hK=>?_
  simp (disch:=omega) [zG17,DtState.cells,DtCatalog.cells,hd,hh]
  repeat' first|(refine ⟨by omega,?_⟩)|(intro _)
  refine hK _ ?_;clear hK K
  refine zbh ?_
  refine AW_r rfl rfl λK hK=>?_
  simp (disch:=omega) [zG17,DtState.cells,DtCatalog.cells,hd,hh]
  repeat' first|(exfalso;omega)|(refine zby (zba (zbv rfl) zbg) (zfp _ (by omega)) rfl ?_;simp (disch:=omega) [zG17,DtState.cells,DtCatalog.cells,hd,hh])|(refine ⟨by omega,?_⟩)|(intro _)
  refine hK _ ?_;clear hK K
  refine zbj rfl (λhc1=>?_) (λhc1=>?_)
  ·try simp [zbp,zbt,zbd,zbc] at hc1
   all_goals
    refine AW_r rfl rfl λK hK=>?_
    simp (disch:=omega) [zG17,DtState.cells,DtCatalog.cells,hd,hh]
    repeat' first|(exfalso;omega)|(refine ⟨λ_=>?_,λ_=>?_⟩)|(refine ⟨by omega,?_⟩)|(intro _)
    all_goals (refine hK _ ?_;clear hK K)
    all_goals
     refine zbm (zbq ?_)
     simp (disch:=omega) [zG17,DtState.cells,DtCatalog.cells,hd,hh]
     all_goals first | rfl|(simp_all;done) | trace_state
  ·try simp [zbp,zbt,zbd,zbc] at hc1
   all_goals
    refine zbk ?_
    refine zbn ?_
    refine AW_r rfl rfl λK hK=>?_
    simp (disch:=omega) [zG17,DtState.cells,DtCatalog.cells,hd,hh]
    repeat' first|(exfalso;omega)|(refine zby (zba (zbv rfl) zbg) (zg2 s hs) rfl ?_;simp (disch:=omega) [zG17,DtState.cells,DtCatalog.cells,hd,hh])|(refine zby (zba zd6 zbg) (zpt _ (zdm s hs)) rfl ?_;simp (disch:=omega) [zG17,DtState.cells,DtCatalog.cells,hd,hh])|(refine ⟨λ_=>?_,λ_=>?_⟩)|(refine ⟨by omega,?_⟩)|(intro _)
    all_goals (refine hK _ ?_;clear hK K)
    all_goals
     refine zbm (zbq ?_)
     simp (disch:=omega) [zG17,DtState.cells,DtCatalog.cells,hd,hh]
     all_goals first | rfl|(simp_all;done) | trace_state
 ·have hd:=zck hP
  have hh:hashS s=[]:=by unfold hashS;rw [hd];rfl
  refine zbe Tryd.func14 (by rfl) (by rfl) (by rw [Tryd.ntmps14];exact Nat.le_of_ble_eq_true rfl) rfl (by decide) ?_
  rw [Tryd.ntmps14]
  refine AW_k [(0,_)] ⟨rfl,trivial⟩ ?_
  refine AW_r rfl rfl λK hK=>?_
  simp (disch:=omega) [zG17,DtState.cells,DtCatalog.cells,hd,hh]
  repeat' first|(refine ⟨by omega,?_⟩)|(intro _)
  refine hK _ ?_;clear hK K
  refine zbh ?_
  refine AW_r rfl rfl λK hK=>?_
  simp (disch:=omega) [zG17,DtState.cells,DtCatalog.cells,hd,hh]
  repeat' first|(exfalso;omega)|(refine zby (zba (zbv rfl) zbg) (zfp _ (by omega)) rfl ?_;simp (disch:=omega) [zG17,DtState.cells,DtCatalog.cells,hd,hh])|(refine ⟨by omega,?_⟩)|(intro _)
  refine hK _ ?_;clear hK K
  refine zbj rfl (λhc2=>?_) (λhc2=>?_)
  ·try simp [zbp,zbt,zbd,zbc] at hc2
   all_goals
    refine AW_r rfl rfl λK hK=>?_
    simp (disch:=omega) [zG17,DtState.cells,DtCatalog.cells,hd,hh]
    repeat' first|(exfalso;omega)|(refine ⟨λ_=>?_,λ_=>?_⟩)|(refine ⟨by omega,?_⟩)|(intro _)
    all_goals (refine hK _ ?_;clear hK K)
    all_goals
     refine zbm (zbq ?_)
     simp (disch:=omega) [zG17,DtState.cells,DtCatalog.cells,hd,hh]
     all_goals first | rfl|(simp_all;done) | trace_state
  ·try simp [zbp,zbt,zbd,zbc] at hc2
   all_goals
    refine zbk ?_
    refine zbn ?_
    refine AW_r rfl rfl λK hK=>?_
    simp (disch:=omega) [zG17,DtState.cells,DtCatalog.cells,hd,hh]
    repeat' first|(exfalso;omega)|(refine zby (zba (zbv rfl) zbg) (zg2 s hs) rfl ?_;simp (disch:=omega) [zG17,DtState.cells,DtCatalog.cells,hd,hh])|(refine zby (zba zd6 zbg) (zpt _ (zdm s hs)) rfl ?_;simp (disch:=omega) [zG17,DtState.cells,DtCatalog.cells,hd,hh])|(refine ⟨λ_=>?_,λ_=>?_⟩)|(refine ⟨by omega,?_⟩)|(intro _)
    all_goals (refine hK _ ?_;clear hK K)
    all_goals
     refine zbm (zbq ?_)
     simp (disch:=omega) [zG17,DtState.cells,DtCatalog.cells,hd,hh]
     all_goals first | rfl|(simp_all;done) | trace_state
theorem implHash(s:DtState)(hs:DtState.sz s≤1048576):PCall Tryd.prog 16 [.agg (DtState.cells s)] (.s (hashS s)):=by
 by_cases hP:StateP s
 ·have hd:=zcj hP
  have hh:hashS s=shortS (showState s):=by unfold hashS;rw [hd];rfl
  refine zbe Tryd.func16 (by rfl) (by rfl) (by rw [Tryd.ntmps16];exact Nat.le_of_ble_eq_true rfl) rfl (by decide) ?_
  rw [Tryd.ntmps16]
  refine AW_k [(0,_)] ⟨rfl,trivial⟩ ?_
  refine AW_r rfl rfl λK hK=>?_
  simp (disch:=omega) [zG17,DtState.cells,DtCatalog.cells,hd,hh]
  repeat' first|(refine ⟨by omega,?_⟩)|(intro _)
  refine hK _ ?_;clear hK K
  refine zbh ?_
  refine AW_r rfl rfl λK hK=>?_
  simp (disch:=omega) [zG17,DtState.cells,DtCatalog.cells,hd,hh]
  repeat' first|(exfalso;omega)|(refine zby (zba (zbv rfl) zbg) (zfq _ (by omega)) rfl ?_;simp (disch:=omega) [zG17,DtState.cells,DtCatalog.cells,hd,hh])|(refine ⟨by omega,?_⟩)|(intro _)
  refine hK _ ?_;clear hK K
  refine zbj rfl (λhc3=>?_) (λhc3=>?_)
  ·try simp [zbp,zbt,zbd,zbc] at hc3
   all_goals
    refine AW_r rfl rfl λK hK=>?_
    simp (disch:=omega) [zG17,DtState.cells,DtCatalog.cells,hd,hh]
    repeat' first|(exfalso;omega)|(refine ⟨λ_=>?_,λ_=>?_⟩)|(refine ⟨by omega,?_⟩)|(intro _)
    all_goals (refine hK _ ?_;clear hK K)
    all_goals
     refine zbm (zbq ?_)
     simp (disch:=omega) [zG17,DtState.cells,DtCatalog.cells,hd,hh]
     all_goals first | rfl|(simp_all;done) | trace_state
  ·try simp [zbp,zbt,zbd,zbc] at hc3
   all_goals
    refine zbk ?_
    refine zbn ?_
    refine AW_r rfl rfl λK hK=>?_
    simp (disch:=omega) [zG17,DtState.cells,DtCatalog.cells,hd,hh]
    repeat' first|(exfalso;omega)|(refine zby (zba (zbv rfl) zbg) (zg3 s hs) rfl ?_;simp (disch:=omega) [zG17,DtState.cells,DtCatalog.cells,hd,hh])|(refine zby (zba zd6 zbg) (zpv _ (zdm s hs)) rfl ?_;simp (disch:=omega) [zG17,DtState.cells,DtCatalog.cells,hd,hh])|(refine ⟨λ_=>?_,λ_=>?_⟩)|(refine ⟨by omega,?_⟩)|(intro _)
    all_goals (refine hK _ ?_;clear hK K)
    all_goals
     refine zbm (zbq ?_)
     simp (disch:=omega) [zG17,DtState.cells,DtCatalog.cells,hd,hh]
     all_goals first | rfl|(simp_all;done) | trace_state
 ·have hd:=zck hP
  have hh:hashS s=[]:=by unfold hashS;rw [hd];rfl
  refine zbe Tryd.func16 (by rfl) (by rfl) (by rw [Tryd.ntmps16];exact Nat.le_of_ble_eq_true rfl) rfl (by decide) ?_
  rw [Tryd.ntmps16]
  refine AW_k [(0,_)] ⟨rfl,trivial⟩ ?_
  refine AW_r rfl rfl λK hK=>?_
  simp (disch:=omega) [zG17,DtState.cells,DtCatalog.cells,hd,hh]
  repeat' first|(refine ⟨by omega,?_⟩)|(intro _)
  refine hK _ ?_;clear hK K
  refine zbh ?_
  refine AW_r rfl rfl λK hK=>?_
  simp (disch:=omega) [zG17,DtState.cells,DtCatalog.cells,hd,hh]
  repeat' first|(exfalso;omega)|(refine zby (zba (zbv rfl) zbg) (zfq _ (by omega)) rfl ?_;simp (disch:=omega) [zG17,DtState.cells,DtCatalog.cells,hd,hh])|(refine ⟨by omega,?_⟩)|(intro _)
  refine hK _ ?_;clear hK K
  refine zbj rfl (λhc4=>?_) (λhc4=>?_)
  ·try simp [zbp,zbt,zbd,zbc] at hc4
   all_goals
    refine AW_r rfl rfl λK hK=>?_
    simp (disch:=omega) [zG17,DtState.cells,DtCatalog.cells,hd,hh]
    repeat' first|(exfalso;omega)|(refine ⟨λ_=>?_,λ_=>?_⟩)|(refine ⟨by omega,?_⟩)|(intro _)
    all_goals (refine hK _ ?_;clear hK K)
    all_goals
     refine zbm (zbq ?_)
     simp (disch:=omega) [zG17,DtState.cells,DtCatalog.cells,hd,hh]
     all_goals first | rfl|(simp_all;done) | trace_state
  ·try simp [zbp,zbt,zbd,zbc] at hc4
   all_goals
    refine zbk ?_
    refine zbn ?_
    refine AW_r rfl rfl λK hK=>?_
    simp (disch:=omega) [zG17,DtState.cells,DtCatalog.cells,hd,hh]
    repeat' first|(exfalso;omega)|(refine zby (zba (zbv rfl) zbg) (zg3 s hs) rfl ?_;simp (disch:=omega) [zG17,DtState.cells,DtCatalog.cells,hd,hh])|(refine zby (zba zd6 zbg) (zpv _ (zdm s hs)) rfl ?_;simp (disch:=omega) [zG17,DtState.cells,DtCatalog.cells,hd,hh])|(refine ⟨λ_=>?_,λ_=>?_⟩)|(refine ⟨by omega,?_⟩)|(intro _)
    all_goals (refine hK _ ?_;clear hK K)
    all_goals
     refine zbm (zbq ?_)
     simp (disch:=omega) [zG17,DtState.cells,DtCatalog.cells,hd,hh]
     all_goals first | rfl|(simp_all;done) | trace_state
theorem zpx(u:DtState)(hw:DtState.wf u):PCall Tryd.prog 5 [.agg (DtState.cells u)] (.g (.bool (true))):=by
 have hq:=DtState.sz_nonneg u
 by_cases h:(1048576:Int)-DtState.sz u<0
 ·have e:szR 1048576 (DtState.sz u) = -1:=by unfold szR;rw [if_pos h]
  refine zbe Tryd.func5 (by rfl) (by rfl) (by rw [Tryd.ntmps5];exact Nat.le_of_ble_eq_true rfl) rfl (by decide) ?_
  rw [Tryd.ntmps5]
  refine AW_k [(0,_)] ⟨rfl,trivial⟩ ?_
  refine AW_r rfl rfl λK hK=>?_
  simp (disch:=omega) [zG17,e,DtState.cells,DtCatalog.cells]
  repeat' first|(refine ⟨by omega,?_⟩)|(intro _)
  refine hK _ ?_;clear hK K
  refine AW_r rfl rfl λK hK=>?_
  simp (disch:=omega) [zG17,e,DtState.cells,DtCatalog.cells]
  repeat' first|(refine ⟨by omega,?_⟩)|(intro _)
  refine hK _ ?_;clear hK K
  refine AW_r rfl rfl λK hK=>?_
  simp (disch:=omega) [zG17,e,DtState.cells,DtCatalog.cells]
  repeat' first|(exfalso;omega)|(refine zby (zba (zbv rfl) (zba zbz zbg)) (zwo _ _ (by omega) hw) rfl ?_;simp (disch:=omega) [zG17,e,DtState.cells,DtCatalog.cells])|(refine ⟨by omega,?_⟩)|(intro _)
  refine hK _ ?_;clear hK K
  refine zbh ?_
  refine AW_r rfl rfl λK hK=>?_
  simp (disch:=omega) [zG17,e,DtState.cells,DtCatalog.cells]
  repeat' first|(refine ⟨by omega,?_⟩)|(intro _)
  refine hK _ ?_;clear hK K
  refine zbj rfl (λhc5=>?_) (λhc5=>?_)
  ·try simp [zbp,zbt,zbd,zbc] at hc5
   all_goals
    refine AW_r rfl rfl λK hK=>?_
    simp (disch:=omega) [zG17,e,DtState.cells,DtCatalog.cells]
    repeat' first|(exfalso;omega)|(refine ⟨λ_=>?_,λ_=>?_⟩)|(refine ⟨by omega,?_⟩)|(intro _)
    all_goals (refine hK _ ?_;clear hK K)
    all_goals
     refine zbm (zbq ?_)
     simp (disch:=omega) [zG17,e,DtState.cells,DtCatalog.cells]
     all_goals first | omega|(simp_all;done)|(simp [List.take_of_length_le];done)|((try simp_all);(try simp (disch:=omega) only [zbu,Int.tdiv_eq_ediv_of_nonneg,Int.tmod_eq_emod_of_nonneg,and_true,true_and]);done)|((try simp_all);(try simp (disch:=omega) only [zbu,Int.tdiv_eq_ediv_of_nonneg,Int.tmod_eq_emod_of_nonneg,and_true,true_and] at *);omega)
  ·try simp [zbp,zbt,zbd,zbc] at hc5
   all_goals
    refine zbk ?_
    refine zbn ?_
    refine AW_r rfl rfl λK hK=>?_
    simp (disch:=omega) [zG17,e,DtState.cells,DtCatalog.cells]
    repeat' first|(exfalso;omega)|(refine ⟨λ_=>?_,λ_=>?_⟩)|(refine ⟨by omega,?_⟩)|(intro _)
    all_goals (refine hK _ ?_;clear hK K)
    all_goals
     refine AW_r rfl rfl λK hK=>?_
     simp (disch:=omega) [zG17,e,DtState.cells,DtCatalog.cells]
     repeat' first|(exfalso;omega)|(refine ⟨by omega,?_⟩)|(intro _)
     refine hK _ ?_;clear hK K
     refine AW_r rfl rfl λK hK=>?_
     simp (disch:=omega) [zG17,e,DtState.cells,DtCatalog.cells]
     repeat' first|(exfalso;omega)|(refine ⟨by omega,?_⟩)|(intro _)
     refine hK _ ?_;clear hK K
     refine zbh ?_
     refine AW_r rfl rfl λK hK=>?_
     simp (disch:=omega) [zG17,e,DtState.cells,DtCatalog.cells]
     repeat' first|(refine ⟨by omega,?_⟩)|(intro _)
     refine hK _ ?_;clear hK K
     refine zbj rfl (λhc6=>?_) (λhc6=>?_)
     ·try simp [zbp,zbt,zbd,zbc] at hc6
      all_goals
       refine AW_r rfl rfl λK hK=>?_
       simp (disch:=omega) [zG17,e,DtState.cells,DtCatalog.cells]
       repeat' first|(exfalso;omega)|(refine ⟨λ_=>?_,λ_=>?_⟩)|(refine ⟨by omega,?_⟩)|(intro _)
       all_goals (refine hK _ ?_;clear hK K)
       all_goals
        refine zbm (zbq ?_)
        simp (disch:=omega) [zG17,e,DtState.cells,DtCatalog.cells]
        all_goals first | omega|(simp_all;done)|(simp [List.take_of_length_le];done)|((try simp_all);(try simp (disch:=omega) only [zbu,Int.tdiv_eq_ediv_of_nonneg,Int.tmod_eq_emod_of_nonneg,and_true,true_and]);done)|((try simp_all);(try simp (disch:=omega) only [zbu,Int.tdiv_eq_ediv_of_nonneg,Int.tmod_eq_emod_of_nonneg,and_true,true_and] at *);omega)
     ·try simp [zbp,zbt,zbd,zbc] at hc6
      all_goals
       refine zbk ?_
       refine zbn ?_
       refine zbh ?_
       refine AW_q rfl mix (by kernel_rfl) rfl λK hK=>?_
       simp (disch:=omega) [zG17,e,DtState.cells,DtCatalog.cells]
       repeat' first|(exfalso;omega)|(refine ⟨λ_=>?_,λ_=>?_⟩)|(refine ⟨by omega,?_⟩)|(intro _)
       all_goals (refine hK _ ?_;clear hK K)
       all_goals
        refine zbj rfl (λhc7=>?_) (λhc7=>?_)
        ·try simp [zbp,zbt,zbd,zbc] at hc7
         all_goals
          refine AW_r rfl rfl λK hK=>?_
          simp (disch:=omega) [zG17,e,DtState.cells,DtCatalog.cells]
          repeat' first|(exfalso;omega)|(refine ⟨λ_=>?_,λ_=>?_⟩)|(refine ⟨by omega,?_⟩)|(intro _)
          all_goals (refine hK _ ?_;clear hK K)
          all_goals
           refine zbm (zbq ?_)
           simp (disch:=omega) [zG17,e,DtState.cells,DtCatalog.cells]
           all_goals first | omega|(simp_all;done)|(simp [List.take_of_length_le];done)|((try simp_all);(try simp (disch:=omega) only [zbu,Int.tdiv_eq_ediv_of_nonneg,Int.tmod_eq_emod_of_nonneg,and_true,true_and]);done)|((try simp_all);(try simp (disch:=omega) only [zbu,Int.tdiv_eq_ediv_of_nonneg,Int.tmod_eq_emod_of_nonneg,and_true,true_and] at *);omega)
        ·try simp [zbp,zbt,zbd,zbc] at hc7
         all_goals
          refine zbk ?_
          refine zbn ?_
          refine AW_r rfl rfl λK hK=>?_
          simp (disch:=omega) [zG17,e,DtState.cells,DtCatalog.cells]
          repeat' first|(exfalso;omega)|(refine ⟨λ_=>?_,λ_=>?_⟩)|(refine ⟨by omega,?_⟩)|(intro _)
          all_goals (refine hK _ ?_;clear hK K)
          all_goals
           refine zbm (zbq ?_)
           simp (disch:=omega) [zG17,e,DtState.cells,DtCatalog.cells]
           all_goals first | omega|(simp_all;done)|(simp [List.take_of_length_le];done)|((try simp_all);(try simp (disch:=omega) only [zbu,Int.tdiv_eq_ediv_of_nonneg,Int.tmod_eq_emod_of_nonneg,and_true,true_and]);done)|((try simp_all);(try simp (disch:=omega) only [zbu,Int.tdiv_eq_ediv_of_nonneg,Int.tmod_eq_emod_of_nonneg,and_true,true_and] at *);omega)
 ·have e:szR 1048576 (DtState.sz u)=1048576-DtState.sz u:=by unfold szR;rw [if_neg h]
  have e2:(0:Int)≤1048576-DtState.sz u:=by omega
  refine zbe Tryd.func5 (by rfl) (by rfl) (by rw [Tryd.ntmps5];exact Nat.le_of_ble_eq_true rfl) rfl (by decide) ?_
  rw [Tryd.ntmps5]
  refine AW_k [(0,_)] ⟨rfl,trivial⟩ ?_
  refine AW_r rfl rfl λK hK=>?_
  simp (disch:=omega) [zG17,e,e2,zbl,DtState.cells,DtCatalog.cells]
  repeat' first|(refine ⟨by omega,?_⟩)|(intro _)
  refine hK _ ?_;clear hK K
  refine AW_r rfl rfl λK hK=>?_
  simp (disch:=omega) [zG17,e,e2,zbl,DtState.cells,DtCatalog.cells]
  repeat' first|(refine ⟨by omega,?_⟩)|(intro _)
  refine hK _ ?_;clear hK K
  refine AW_r rfl rfl λK hK=>?_
  simp (disch:=omega) [zG17,e,e2,zbl,DtState.cells,DtCatalog.cells]
  repeat' first|(exfalso;omega)|(refine zby (zba (zbv rfl) (zba zbz zbg)) (zwo _ _ (by omega) hw) rfl ?_;simp (disch:=omega) [zG17,e,e2,zbl,DtState.cells,DtCatalog.cells])|(refine ⟨by omega,?_⟩)|(intro _)
  refine hK _ ?_;clear hK K
  refine zbh ?_
  refine AW_r rfl rfl λK hK=>?_
  simp (disch:=omega) [zG17,e,e2,zbl,DtState.cells,DtCatalog.cells]
  repeat' first|(refine ⟨by omega,?_⟩)|(intro _)
  refine hK _ ?_;clear hK K
  refine zbj rfl (λhc8=>?_) (λhc8=>?_)
  ·try simp [zbp,zbt,zbd,zbc] at hc8
   all_goals
    refine AW_r rfl rfl λK hK=>?_
    simp (disch:=omega) [zG17,e,e2,zbl,DtState.cells,DtCatalog.cells]
    repeat' first|(exfalso;omega)|(refine ⟨λ_=>?_,λ_=>?_⟩)|(refine ⟨by omega,?_⟩)|(intro _)
    all_goals (refine hK _ ?_;clear hK K)
    all_goals
     refine zbm (zbq ?_)
     simp (disch:=omega) [zG17,e,e2,zbl,DtState.cells,DtCatalog.cells]
     all_goals first | omega|(simp_all;done)|(simp [List.take_of_length_le];done)|((try simp_all);(try simp (disch:=omega) only [zbu,Int.tdiv_eq_ediv_of_nonneg,Int.tmod_eq_emod_of_nonneg,and_true,true_and]);done)|((try simp_all);(try simp (disch:=omega) only [zbu,Int.tdiv_eq_ediv_of_nonneg,Int.tmod_eq_emod_of_nonneg,and_true,true_and] at *);omega)
  ·try simp [zbp,zbt,zbd,zbc] at hc8
   all_goals
    refine zbk ?_
    refine zbn ?_
    refine AW_r rfl rfl λK hK=>?_
    simp (disch:=omega) [zG17,e,e2,zbl,DtState.cells,DtCatalog.cells]
    repeat' first|(exfalso;omega)|(refine zby (zba (zbv rfl) zbg) (zq8 _ (by omega)) rfl ?_;simp (disch:=omega) [zG17,e,e2,zbl,DtState.cells,DtCatalog.cells])|(refine zby (zba (zbv rfl) zbg) (specHash _ (by omega)) rfl ?_;simp (disch:=omega) [zG17,e,e2,zbl,DtState.cells,DtCatalog.cells])|(refine ⟨λ_=>?_,λ_=>?_⟩)|(refine ⟨by omega,?_⟩)|(intro _)
    all_goals (refine hK _ ?_;clear hK K)
    all_goals
     refine AW_r rfl rfl λK hK=>?_
     simp (disch:=omega) [zG17,e,e2,zbl,DtState.cells,DtCatalog.cells]
     repeat' first|(exfalso;omega)|(refine zby (zba (zbv rfl) zbg) (zq8 _ (by omega)) rfl ?_;simp (disch:=omega) [zG17,e,e2,zbl,DtState.cells,DtCatalog.cells])|(refine ⟨by omega,?_⟩)|(intro _)
     refine hK _ ?_;clear hK K
     refine AW_r rfl rfl λK hK=>?_
     simp (disch:=omega) [zG17,e,e2,zbl,DtState.cells,DtCatalog.cells]
     repeat' first|(exfalso;omega)|(refine zby (zba (zbv rfl) zbg) (implHash _ (by omega)) rfl ?_;simp (disch:=omega) [zG17,e,e2,zbl,DtState.cells,DtCatalog.cells])|(refine ⟨by omega,?_⟩)|(intro _)
     refine hK _ ?_;clear hK K
     refine zbh ?_
     refine AW_r rfl rfl λK hK=>?_
     simp (disch:=omega) [zG17,e,e2,zbl,DtState.cells,DtCatalog.cells]
     repeat' first|(refine ⟨by omega,?_⟩)|(intro _)
     refine hK _ ?_;clear hK K
     refine zbj rfl (λhc9=>?_) (λhc9=>?_)
     ·try simp [zbp,zbt,zbd,zbc] at hc9
      all_goals
       refine AW_r rfl rfl λK hK=>?_
       simp (disch:=omega) [zG17,e,e2,zbl,DtState.cells,DtCatalog.cells]
       repeat' first|(exfalso;omega)|(refine ⟨λ_=>?_,λ_=>?_⟩)|(refine ⟨by omega,?_⟩)|(intro _)
       all_goals (refine hK _ ?_;clear hK K)
       all_goals
        refine zbm (zbq ?_)
        simp (disch:=omega) [zG17,e,e2,zbl,DtState.cells,DtCatalog.cells]
        all_goals first | omega|(simp_all;done)|(simp [List.take_of_length_le];done)|((try simp_all);(try simp (disch:=omega) only [zbu,Int.tdiv_eq_ediv_of_nonneg,Int.tmod_eq_emod_of_nonneg,and_true,true_and]);done)|((try simp_all);(try simp (disch:=omega) only [zbu,Int.tdiv_eq_ediv_of_nonneg,Int.tmod_eq_emod_of_nonneg,and_true,true_and] at *);omega)
     ·try simp [zbp,zbt,zbd,zbc] at hc9
      all_goals
       refine zbk ?_
       refine zbn ?_
       refine zbh ?_
       refine AW_q rfl mix (by kernel_rfl) rfl λK hK=>?_
       simp (disch:=omega) [zG17,e,e2,zbl,DtState.cells,DtCatalog.cells]
       repeat' first|(exfalso;omega)|(refine zby (zba (zbv rfl) zbg) (zq8 _ (by omega)) rfl ?_;simp (disch:=omega) [zG17,e,e2,zbl,DtState.cells,DtCatalog.cells])|(refine zby (zba (zbv rfl) (zba (zbv rfl) zbg)) (eqState _ _ (by omega)) rfl ?_;simp (disch:=omega) [zG17,e,e2,zbl,DtState.cells,DtCatalog.cells])|(refine ⟨λ_=>?_,λ_=>?_⟩)|(refine ⟨by omega,?_⟩)|(intro _)
       all_goals (refine hK _ ?_;clear hK K)
       all_goals
        refine zbj rfl (λhc10=>?_) (λhc10=>?_)
        ·try simp [zbp,zbt,zbd,zbc] at hc10
         all_goals
          refine AW_r rfl rfl λK hK=>?_
          simp (disch:=omega) [zG17,e,e2,zbl,DtState.cells,DtCatalog.cells]
          repeat' first|(exfalso;omega)|(refine ⟨λ_=>?_,λ_=>?_⟩)|(refine ⟨by omega,?_⟩)|(intro _)
          all_goals (refine hK _ ?_;clear hK K)
          all_goals
           refine zbm (zbq ?_)
           simp (disch:=omega) [zG17,e,e2,zbl,DtState.cells,DtCatalog.cells]
           all_goals first | omega|(simp_all;done)|(simp [List.take_of_length_le];done)|((try simp_all);(try simp (disch:=omega) only [zbu,Int.tdiv_eq_ediv_of_nonneg,Int.tmod_eq_emod_of_nonneg,and_true,true_and]);done)|((try simp_all);(try simp (disch:=omega) only [zbu,Int.tdiv_eq_ediv_of_nonneg,Int.tmod_eq_emod_of_nonneg,and_true,true_and] at *);omega)
        ·try simp [zbp,zbt,zbd,zbc] at hc10
         all_goals
          refine zbk ?_
          refine zbn ?_
          refine AW_r rfl rfl λK hK=>?_
          simp (disch:=omega) [zG17,e,e2,zbl,DtState.cells,DtCatalog.cells]
          repeat' first|(exfalso;omega)|(refine ⟨λ_=>?_,λ_=>?_⟩)|(refine ⟨by omega,?_⟩)|(intro _)
          all_goals (refine hK _ ?_;clear hK K)
          all_goals
           refine zbm (zbq ?_)
           simp (disch:=omega) [zG17,e,e2,zbl,DtState.cells,DtCatalog.cells]
           all_goals first | omega|(simp_all;done)|(simp [List.take_of_length_le];done)|((try simp_all);(try simp (disch:=omega) only [zbu,Int.tdiv_eq_ediv_of_nonneg,Int.tmod_eq_emod_of_nonneg,and_true,true_and]);done)|((try simp_all);(try simp (disch:=omega) only [zbu,Int.tdiv_eq_ediv_of_nonneg,Int.tmod_eq_emod_of_nonneg,and_true,true_and] at *);omega)
end Go.Proofs.YtchpfloemfoomaaDoor.Vs
end
