import Derived.Test.YtodmafgmdlkhoaaDoorSM4
import Derived.Test.YtodmafgmdlkhoaaDoorVs9
section
namespace Go.Proofs.YtodmafgmdlkhoaaDoor.Vs
set_option linter.all false
set_option maxRecDepth 100000
set_option maxHeartbeats 4000000
attribute [local simp ↓] zp5 zw1 zp6 zp7 zp8 zp9
def bC(n:Int):List AV:=[.g (.int .u8 n)]
theorem zjm:∀ns:List Int,numsOf (ns.map bC)=some ns
 | []=>rfl
 | n :: ns=>by
  have:=zjm ns
  simp only [List.map_cons,bC,numsOf] at this ⊢
  rw [this];rfl
theorem mask8(x:Int):zAnd x 255=x % 256:=by
 show IntKind.i64.wrap (((BitVec.ofInt 64 x &&& BitVec.ofInt 64 255).toNat:Nat):Int)=_
 have e:(BitVec.ofInt 64 x &&& BitVec.ofInt 64 255).toNat=(x % 18446744073709551616).toNat % 256:=by
  rw [BitVec.toNat_and]
  have h1:(BitVec.ofInt 64 255).toNat=2^8-1:=by decide
  have h2:(BitVec.ofInt 64 x).toNat=(x % 18446744073709551616).toNat:=by simp [BitVec.toNat_ofInt]
  rw [h1,h2,Nat.and_two_pow_sub_one_eq_mod]
 rw [e,znj (by omega)]
 omega
theorem wrapB(x:Int):IntKind.u8.wrap x=x % 256:=by simp [IntKind.wrap,IntKind.bits,IntKind.signed]
theorem zm1(m:Nat):UInt8.ofNat (m % 256)=UInt8.ofNat m:=by
 apply UInt8.toNat_inj.1
 simp [UInt8.toNat_ofNat']
/-- The bytes behind the text, in numbers. -/
def lenI(n i:Nat):List Int:=(List.range i).map λj=>((n*8 / 2^(56-8*j) % 256:Nat):Int)
theorem lenI_succ(n i:Nat):lenI n (i+1)=lenI n i++[((n*8 / 2^(56-8*i) % 256:Nat):Int)]:=by unfold lenI;rw [List.range_succ,List.map_append];rfl
theorem lenI_len(n i:Nat):(lenI n i).length=i:=by simp [lenI]
def padI(n k i:Nat):List Int:=(128:Int) :: (List.replicate k 0++lenI n i)
theorem zlj(n k i:Nat):(padI n k i).length=1+k+i:=by simp [padI,lenI_len];omega
theorem padI_S(s:List UInt8):s++strN (padI s.length (zerosN s.length) 8)=padS s:=by
 unfold padS padI strN lenI lenB
 congr 1
 simp only [List.map_cons,List.map_append,List.map_map,List.map_replicate]
 have e:((λn:Int=>UInt8.ofNat n.toNat) ∘ λj=>((s.length*8 / 2^(56-8*j) % 256:Nat):Int))=λi=>UInt8.ofNat (s.length*8 / 2^(56-8*i)):=by
  funext j
  simp only [Function.comp,Int.toNat_natCast]
  exact zm1 _
 rw [e]
 simp
def by4I(x:W32):List Int:=[((x.toNat / 16777216 % 256:Nat):Int),((x.toNat / 65536 % 256:Nat):Int),((x.toNat / 256 % 256:Nat):Int),((x.toNat % 256:Nat):Int)]
theorem by4I_S(x:W32):strN (by4I x)=by4 x:=by
 unfold strN by4I by4
 simp only [List.map_cons,List.map_nil,Int.toNat_natCast,zm1]
def outI(v:W8)(i:Nat):List Int:=(List.range i).flatMap λj=>by4I (v.get j)
theorem zsq(v:W8)(i:Nat):outI v (i+1)=outI v i++by4I (v.get i):=by unfold outI;rw [List.range_succ,List.flatMap_append];simp
theorem zlk(v:W8):∀i,(outI v i).length=4*i
 | 0=>rfl
 | i+1=>by rw [zsq,List.length_append,zlk v i];rfl
theorem outI_S(v:W8):strN (outI v 8)=by32 v:=by
 have h:outI v 8=by4I v.a++by4I v.b++by4I v.c++by4I v.d++by4I v.e++by4I v.f++by4I v.g++by4I v.h:=rfl
 have hs:∀a b:List Int,strN (a++b)=strN a++strN b:=λa b=>by simp [strN]
 rw [h]
 simp only [hs,by4I_S]
 rfl
theorem zz6:shaH.cells=[[AV.g (.int .i64 1779033703)],[AV.g (.int .i64 3144134277)],[AV.g (.int .i64 1013904242)],[AV.g (.int .i64 2773480762)],[AV.g (.int .i64 1359893119)],[AV.g (.int .i64 2600822924)],[AV.g (.int .i64 528734635)],[AV.g (.int .i64 1541459225)]]:=rfl
theorem zShr_n(p:Nat)(z:Int)(h:0≤z∧z≤64):zShr (p:Int) z=((p / 2^z.toNat:Nat):Int):=by
 unfold zShr
 rw [show min z.toNat IntKind.i64.bits=z.toNat from Nat.min_eq_left (by show z.toNat≤64;omega),Int.fdiv_eq_ediv_of_nonneg _ (Int.pow_nonneg (by omega))]
 norm_cast
theorem pad_end{n k:Nat}(hk:k≤zerosN n)(h:(n+(1+k)) % 64=56):k=zerosN n:=by unfold zerosN at *;omega
theorem pad_go{n k:Nat}(hk:k≤zerosN n)(h:¬(n+(1+k)) % 64=56):k<zerosN n:=by unfold zerosN at *;omega
theorem zxk(n:Nat):zerosN n<64:=by unfold zerosN;omega
theorem tkb(l:List Int)(n:Nat)(h:l.length=n):List.take n (l.map bC)=l.map bC:=List.take_of_length_le (by simp;omega)
theorem padI_succ(n k i:Nat):padI n k (i+1)=padI n k i++[((n*8 / 2^(56-8*i) % 256:Nat):Int)]:=by unfold padI;rw [lenI_succ];simp
theorem len_by(n i:Nat)(h:i<8):IntKind.u8.wrap (zAnd (zShr ((n:Int)*8) (56-8*(i:Int))) 255)=((n*8 / 2^(56-8*i) % 256:Nat):Int):=by
 have e:(n:Int)*8=((n*8:Nat):Int):=by omega
 rw [e,zShr_n _ _ (by omega),mask8,wrapB,show (56-8*(i:Int)).toNat=56-8*i by omega]
 omega
theorem out_by(x:W32) : [[AV.g (Value.int IntKind.u8 (IntKind.u8.wrap (zShr (wI x) 24)))],[AV.g (Value.int IntKind.u8 (IntKind.u8.wrap (zAnd (zShr (wI x) 16) 255)))],[AV.g (Value.int IntKind.u8 (IntKind.u8.wrap (zAnd (zShr (wI x) 8) 255)))],[AV.g (Value.int IntKind.u8 (IntKind.u8.wrap (zAnd (wI x) 255)))]]=(by4I x).map bC:=by
 have h:∀z:Int,0≤z∧z≤64→zShr (wI x) z=((x.toNat / 2^z.toNat:Nat):Int):=λz hz=>zShr_n x.toNat z hz
 rw [h 24 (by omega),h 16 (by omega),h 8 (by omega)]
 simp only [mask8,wrapB,by4I,List.map_cons,List.map_nil,bC]
 have hx:wI x=(x.toNat:Int):=rfl
 rw [hx]
 have e1:(((x.toNat / 2^(24:Int).toNat:Nat):Int)) % 256=((x.toNat / 16777216 % 256:Nat):Int):=by rw [show (24:Int).toNat=24 from rfl];omega
 have e2:(((x.toNat / 2^(16:Int).toNat:Nat):Int)) % 256 % 256=((x.toNat / 65536 % 256:Nat):Int):=by rw [show (16:Int).toNat=16 from rfl];omega
 have e3:(((x.toNat / 2^(8:Int).toNat:Nat):Int)) % 256 % 256=((x.toNat / 256 % 256:Nat):Int):=by rw [show (8:Int).toNat=8 from rfl];omega
 have e4:((x.toNat:Int)) % 256 % 256=((x.toNat % 256:Nat):Int):=by omega
 rw [e1,e2,e3,e4]
theorem zkh(ns:List Int):(strN ns).length=ns.length:=by simp [strN]
theorem tmod_n(n k:Nat):((n:Int)+(1+(k:Int))).tmod 64=(((n+(1+k)) % 64:Nat):Int):=by
 rw [Int.tmod_eq_emod_of_nonneg (by omega)];omega
theorem zsr(t:List UInt8)(j:Nat):blks t (j+1)=blk (blks t j) ((t.drop (64*j)).take 64):=by rw [blks]
attribute [local simp] row8 cells_len zkh zlj aNews aAppend aBuildSlice bC tkb zjm zlk
def zG12:=And.intro @zbr (And.intro @zbz @zce)
def zG13:=And.intro @List.range_succ (And.intro @zbr @zbz)
theorem specSha(s:List UInt8)(hs:s.length≤1073741824):XCall Tryd.prog 35 [.s s] [] (.s (shaS s)) [] []:=by
 refine zbq Tryd.func35 (by rfl) (by rfl) (by rw [Tryd.ntmps35];exact Nat.le_of_ble_eq_true rfl) rfl (by simp) rfl rfl ?_
 rw [Tryd.ntmps35]
 refine zdk   ?_
 refine AW_k [(0,_)] ⟨rfl,trivial⟩ ?_
 refine AW_x rfl rfl λK hK=>?_
 simp (disch:=omega)
 refine hK _ ?_;clear hK K
 refine AW_x rfl rfl λK hK=>?_
 simp (disch:=omega)
 refine hK _ ?_;clear hK K
 refine AW_x rfl rfl λK hK=>?_
 simp (disch:=omega)
 refine hK _ ?_;clear hK K
 refine zbe ?_
 refine zbi ?_
 refine zbt (λmM sS=>∃(k:Nat),mM=zerosN s.length-k∧(k≤zerosN s.length)∧sS = { env:=lkE [(0,.s s),(3,(.g (.int .i64 ((s.length:Nat))))),(4,.arr 501 0 (1+k))],ob:=lk [(501,.flat 1 ((padI s.length k 0).map bC))] }) ?_ ?_
 ·refine ⟨_,LeS.kx [(501,240)] [(0,.s s),(3,(.g (.int .i64 ((s.length:Nat))))),(4,.arr 501 0 (1+(0)))] [(501,.flat 1 ((padI s.length (0) 0).map bC))] (by simp [zG12,KpR,renV2,renV,zbj];trace_state) (by simp [zG12,KpOX,renO,plO,cvO,renV,pl1];(simp [padI,lenI,bC];done)) (by rfl) (by simp) (by simp) (by rfl) (by simp [zG13,formsX]),_,0,rfl,?_,rfl⟩
  ·simp
 ·rintro mM sS ⟨k,rfl,hk,rfl⟩
  have hz:=zxk s.length
  have hpl:=zlj s.length k 0
  have htm:=tmod_n s.length k
  refine zbe ?_
  refine AW_x rfl rfl λK hK=>?_
  simp (disch:=omega)
  refine hK _ ?_;clear hK K
  refine zbg rfl (λhc1=>?_) (λhc1=>?_)
  ·try simp at hc1
   have hlt:=pad_go hk (by have:=hc1;omega)
   refine zbh ?_
   refine zbm ?_
   refine zbi ?_
   refine zb4 rfl rfl λK hK=>?_
   simp (disch:=omega)
   repeat' first|(refine ⟨by omega,?_⟩) | fail
   refine hK _ ?_;clear hK K
   refine ⟨_,LeS.kx [(501,384)] [(0,.s s),(3,(.g (.int .i64 ((s.length:Nat))))),(4,.arr 501 0 (1+(k+1)))] [(501,.flat 1 ((padI s.length (k+1) 0).map bC))] (by simp [zG12,KpR,renV2,renV,zbj];omega) (by simp [zG12,KpOX,renO,plO,cvO,renV,pl1];(simp [padI,lenI,bC,List.replicate_succ'];done)) (by rfl) (by simp) (by simp) (by rfl) (by simp [zG13,formsX]),_,?_,k+1,rfl,?_,rfl⟩
   ·omega
   ·omega
  ·try simp at hc1
   have hke:=pad_end hk (by have:=hc1;omega)
   subst hke
   refine zbw ?_
   refine zbm ?_
   refine zbe ?_
   refine AW_x rfl rfl λK hK=>?_
   simp (disch:=omega)
   refine hK _ ?_;clear hK K
   refine zbi ?_
   refine zbt (λmM sS=>∃(i:Nat),mM=8-i∧(i≤8)∧sS = { env:=lkE [(0,.s s),(3,(.g (.int .i64 ((s.length:Nat))))),(4,.arr 502 0 (1+zerosN s.length+i)),(5,(.g (.int .i64 ((i:Nat)))))],ob:=lk [(502,.flat 1 ((padI s.length (zerosN s.length) i).map bC))] }) ?_ ?_
   ·refine ⟨_,LeS.kx [(502,501)] [(0,.s s),(3,(.g (.int .i64 ((s.length:Nat))))),(4,.arr 502 0 (1+zerosN s.length+(0))),(5,(.g (.int .i64 (((0):Nat)))))] [(502,.flat 1 ((padI s.length (zerosN s.length) (0)).map bC))] (by simp [zG12,KpR,renV2,renV,zbj];trace_state) (by simp [zG12,KpOX,renO,plO,cvO,renV,pl1];trace_state) (by rfl) (by simp) (by simp) (by rfl) (by simp [zG13,formsX]),_,0,rfl,?_,rfl⟩
    ·simp
   ·rintro mM sS ⟨i,rfl,hi,rfl⟩
    have hz:=zxk s.length
    have hpl:=zlj s.length (zerosN s.length) i
    refine zbe ?_
    refine AW_x rfl rfl λK hK=>?_
    simp (disch:=omega)
    refine hK _ ?_;clear hK K
    refine zbg rfl (λhc2=>?_) (λhc2=>?_)
    ·try simp at hc2
     have hi2:i<8:=by omega
     have hwu:=wrapU (n:=56-8*(i:Int)) (by omega)
     have hby:=len_by s.length i hi2
     refine zbh ?_
     refine zbm ?_
     refine zbe ?_
     refine zbi ?_
     refine zb4 rfl rfl λK hK=>?_
     simp (disch:=omega) [hwu,hby]
     repeat' first|(refine ⟨by omega,?_⟩) | fail
     refine hK _ ?_;clear hK K
     refine zbm ?_
     refine zb4 rfl rfl λK hK=>?_
     simp (disch:=omega) [hwu,hby]
     refine hK _ ?_;clear hK K
     refine ⟨_,LeS.kx [(502,640)] [(0,.s s),(3,(.g (.int .i64 ((s.length:Nat))))),(4,.arr 502 0 (1+zerosN s.length+(i+1))),(5,(.g (.int .i64 (((i+1):Nat)))))] [(502,.flat 1 ((padI s.length (zerosN s.length) (i+1)).map bC))] (by simp [zG12,KpR,renV2,renV,zbj];omega) (by simp [zG12,KpOX,renO,plO,cvO,renV,pl1];(rw [padI_succ];simp [bC];done)) (by rfl) (by simp) (by simp) (by rfl) (by simp [zG13,formsX]),_,?_,i+1,rfl,?_,rfl⟩
     ·omega
     ·omega
    ·try simp at hc2
     have hil:i=8:=by omega
     subst hil
     refine zbw ?_
     refine zbm ?_
     refine AW_x rfl rfl λK hK=>?_
     simp (disch:=omega)
     repeat' first|(refine ⟨by omega,?_⟩) | fail
     refine hK _ ?_;clear hK K
     refine AW_x rfl rfl λK hK=>?_
     simp (disch:=omega)
     refine hK _ ?_;clear hK K
     refine AW_x rfl rfl λK hK=>?_
     simp (disch:=omega)
     repeat' first|(refine zf1 zbn (l3Keys) rfl ?_;simp (disch:=omega)) | fail
     refine hK _ ?_;clear hK K
     refine zbe ?_
     refine AW_x rfl rfl λK hK=>?_
     simp (disch:=omega)
     refine hK _ ?_;clear hK K
     refine zbi ?_
     refine zbt (λmM sS=>∃(j:Nat),mM=(padS s).length-64*j∧(64*j≤(padS s).length)∧sS = { env:=lkE [(6,.s (padS s)),(7,.arr 503 0 8),(8,.sl 1 (shaK.map cW)),(9,(.g (.int .i64 ((64*j:Nat)))))],ob:=lk [(503,.own 1 (blks (padS s) j).cells)] }) ?_ ?_
     ·refine ⟨_,LeS.kx [(503,720)] [(6,.s (padS s)),(7,.arr 503 0 8),(8,.sl 1 (shaK.map cW)),(9,(.g (.int .i64 ((64*(0):Nat)))))] [(503,.own 1 (blks (padS s) (0)).cells)] (by simp [zG12,KpR,renV2,renV,zbj,zcs];exact padI_S s) (by simp [zG12,KpOX,renO,plO,cvO,renV,pl1,zcs];exact zz6) (by rfl) (by simp) (by simp) (by rfl) (by simp [zG13,formsX]),_,0,rfl,?_,rfl⟩
      ·simp
     ·rintro mM sS ⟨j,rfl,hj,rfl⟩
      have hpl:=zw3 s
      refine zbe ?_
      refine AW_x rfl rfl λK hK=>?_
      simp (disch:=omega)
      refine hK _ ?_;clear hK K
      refine zbg rfl (λhc3=>?_) (λhc3=>?_)
      ·try simp at hc3
       have hj2:64*j+64≤(padS s).length:=by omega
       have hsl:List.take ((64*(j:Int)+64).toNat-(64*(j:Int)).toNat) (List.drop (64*(j:Int)).toNat (padS s))=((padS s).drop (64*j)).take 64:=by rw [show (64*(j:Int)).toNat=64*j by omega,show (64*(j:Int)+64).toNat-64*j=64 by omega]
       have hbl:(((padS s).drop (64*j)).take 64).length=64:=by simp;omega
       refine zbh ?_
       refine zbm ?_
       refine zbe ?_
       refine zbi ?_
       refine zb4 rfl rfl λK hK=>?_
       simp (disch:=omega) [hsl]
       repeat' first|(refine zch [] true [] (l3Block (blks (padS s) j) (((padS s).drop (64*j)).take 64) hbl) ?_ ?_ ?_;(focus (simp [List.range_succ,nmC];done));(focus (simp (disch:=omega) [hsl,zbv];done));simp (disch:=omega) [hsl])|(refine ⟨by omega,?_⟩) | fail
       refine hK _ ?_;clear hK K
       refine zbm ?_
       refine zb4 rfl rfl λK hK=>?_
       simp (disch:=omega) [hsl]
       refine hK _ ?_;clear hK K
       refine ⟨_,LeS.kx [(503,960)] [(6,.s (padS s)),(7,.arr 503 0 8),(8,.sl 1 (shaK.map cW)),(9,(.g (.int .i64 ((64*(j+1):Nat)))))] [(503,.own 1 (blks (padS s) (j+1)).cells)] (by simp [zG12,KpR,renV2,renV,zbj,zcs];omega) (by simp [zG12,KpOX,renO,plO,cvO,renV,pl1,zcs];(rw [zsr];done)) (by rfl) (by simp) (by simp) (by rfl) (by simp [zG13,formsX]),_,?_,j+1,rfl,?_,rfl⟩
       ·omega
       ·omega
      ·try simp at hc3
       have hjl:64*j=(padS s).length:=by omega
       refine zbw ?_
       refine zbm ?_
       refine AW_x rfl rfl λK hK=>?_
       simp (disch:=omega)
       refine hK _ ?_;clear hK K
       refine zbe ?_
       refine AW_x rfl rfl λK hK=>?_
       simp (disch:=omega)
       refine hK _ ?_;clear hK K
       refine zbi ?_
       refine zbt (λmM sS=>∃(i:Nat),mM=8-i∧(i≤8)∧sS = { env:=lkE [(7,.arr 503 0 8),(10,.arr 504 0 (4*i)),(11,(.g (.int .i64 ((i:Nat)))))],ob:=lk [(503,.own 1 (blks (padS s) j).cells),(504,.flat 1 ((outI (blks (padS s) j) i).map bC))] }) ?_ ?_
       ·refine ⟨_,LeS.kx [(503,503),(504,976)] [(7,.arr 503 0 8),(10,.arr 504 0 (4*(0))),(11,(.g (.int .i64 (((0):Nat)))))] [(503,.own 1 (blks (padS s) j).cells),(504,.flat 1 ((outI (blks (padS s) j) (0)).map bC))] (by simp [zG12,KpR,renV2,renV,zbj,zcs];trace_state) (by simp [zG12,KpOX,renO,plO,cvO,renV,pl1,zcs];rfl) (by rfl) (by simp) (by simp) (by rfl) (by simp [zG13,formsX]),_,0,rfl,?_,rfl⟩
        ·simp
       ·rintro mM sS ⟨i,rfl,hi,rfl⟩
        have hol:=zlk (blks (padS s) j) i
        refine zbe ?_
        refine AW_x rfl rfl λK hK=>?_
        simp (disch:=omega)
        refine hK _ ?_;clear hK K
        refine zbg rfl (λhc4=>?_) (λhc4=>?_)
        ·try simp at hc4
         have hi2:i<8:=by omega
         have gv:=zm0 (blks (padS s) j) i hi2
         refine zbh ?_
         refine zbm ?_
         refine zbe ?_
         refine zbi ?_
         refine zje rfl mix (by kernel_rfl) (by kernel_rfl) λK hK=>?_
         simp (disch:=omega) [gv,cW]
         repeat' first|(refine ⟨by omega,?_⟩) | fail
         refine hK _ _ (by kernel_rfl) ?_;clear hK K
         refine zbm ?_
         refine zb4 rfl rfl λK hK=>?_
         simp (disch:=omega) [gv,cW]
         refine hK _ ?_;clear hK K
         refine ⟨_,LeS.kx [(503,503),(504,1504)] [(7,.arr 503 0 8),(10,.arr 504 0 (4*(i+1))),(11,(.g (.int .i64 (((i+1):Nat)))))] [(503,.own 1 (blks (padS s) j).cells),(504,.flat 1 ((outI (blks (padS s) j) (i+1)).map bC))] (by simp [zG12,KpR,renV2,renV,zbj,zcs];omega) (by simp [zG12,KpOX,renO,plO,cvO,renV,pl1,zcs];(rw [zsq,out_by,List.map_append];done)) (by rfl) (by simp) (by simp) (by rfl) (by simp [zG13,formsX]),_,?_,i+1,rfl,?_,rfl⟩
         ·omega
         ·omega
        ·try simp at hc4
         have hil:i=8:=by omega
         subst hil
         refine zbw ?_
         refine zbm ?_
         refine AW_x rfl rfl λK hK=>?_
         simp (disch:=omega)
         refine hK _ ?_;clear hK K
         refine zbo (zb7 [] [] (by simp [zG12,List.range_succ]) (by simp) ?_)
         simp (disch:=omega)
         (rw [outI_S];unfold shaS;rw [show (padS s).length / 64=j by omega];done)
theorem specShaP(s:List UInt8)(hs:s.length≤1073741824):PCall Tryd.prog 35 [.s s] (.s (shaS s)):=zdl (specSha s hs) rfl
attribute [local simp] zw4
attribute [-simp] row8 cells_len zkh zlj aNews aAppend aBuildSlice bC tkb zjm zlk
theorem zm2(s:List UInt8)(hs:s.length≤1073741824):PCall Tryd.prog 14 [.s s] (.s (shortS s)):=by
 refine zbp Tryd.func14 (by rfl) (by rfl) (by rw [Tryd.ntmps14];exact Nat.le_of_ble_eq_true rfl) rfl (by decide) ?_
 rw [Tryd.ntmps14]
 refine AW_k [(0,_)] ⟨rfl,trivial⟩ ?_
 refine AW_r rfl rfl λK hK=>?_
 simp (disch:=omega)
 refine hK _ ?_;clear hK K
 refine AW_r rfl rfl λK hK=>?_
 simp (disch:=omega)
 repeat' first|(refine zci (zbf zd9 zbn) (specShaP _ hs) rfl ?_;simp (disch:=omega)) | fail
 refine hK _ ?_;clear hK K
 refine zbo (zcc ?_)
 simp (disch:=omega)
 rfl
end Go.Proofs.YtodmafgmdlkhoaaDoor.Vs
end
section
namespace Go.Proofs.YtodmafgmdlkhoaaDoor.Vs
set_option linter.all false
def cmdO(c:DtCmd)(n:Nat):List AV:=[.g (.int .i64 c.fKind),.g (.int .i64 c.fClient),.g (.int .i64 c.fNo),.s c.fSet,.s c.fName,.s c.fTag,.g (.int .i64 c.fN),.arr n 0 c.fChunks.length]
theorem zxl{st:St}{cs:List AV}(h:st.ob 8=some (.cells cs)):FrzOk (formsX 1++formsX 1) st :=
 ⟨.inr (by decide),λm hm=>by
  have:m=8:=by simpa [formsX,List.range_succ] using hm
  subst this;exact ⟨_,h⟩⟩
section
variable {fs:List Nat}{st:St}
end
end Go.Proofs.YtodmafgmdlkhoaaDoor.Vs
end
section
namespace Go.Proofs.YtodmafgmdlkhoaaDoor.Vs
set_option linter.all false
set_option maxRecDepth 100000
set_option maxHeartbeats 4000000
/-! a right command, drawn -/
structure RS where
 x:DtCmd
 c:Cur
def S0(l:List Int)(c:Cur):RS:=⟨⟨1+below l 7 c,1+below l 3 (belowS l 7 c),1+below l 6 (belowS l 3 (belowS l 7 c)),[],[],[],0,[]⟩,belowS l 6 (belowS l 3 (belowS l 7 c))⟩
def S1(l:List Int)(c:Cur):RS:=if below l 4 (S0 l c).c=0 then ⟨{ (S0 l c).x with fKind:=3 },belowS l 4 (S0 l c).c⟩ else ⟨(S0 l c).x,belowS l 4 (S0 l c).c⟩
def S2(l:List Int)(c:Cur):RS:=if (S1 l c).x.fKind=7 then S1 l c else ⟨{ (S1 l c).x with fSet:=([[97],[98],[97,98]]:List (List UInt8)).getD (below l 3 (S1 l c).c).toNat [] },belowS l 3 (S1 l c).c⟩
def S3(l:List Int)(c:Cur):RS:=if (S2 l c).x.fKind=3∨(S2 l c).x.fKind=4 then ⟨{ (S2 l c).x with fName:=([[120],[121],[122]]:List (List UInt8)).getD (below l 3 (S2 l c).c).toNat [] },belowS l 3 (S2 l c).c⟩ else S2 l c
def S4(l:List Int)(c:Cur):RS:=if (S3 l c).x.fKind=4 then ⟨{ (S3 l c).x with fTag:=([[107,101,101,112],[116]]:List (List UInt8)).getD (below l 2 (S3 l c).c).toNat [] },belowS l 2 (S3 l c).c⟩ else S3 l c
def S5(l:List Int)(c:Cur):RS:=if (S4 l c).x.fKind=5 then ⟨{ (S4 l c).x with fN:=below l 4 (S4 l c).c },belowS l 4 (S4 l c).c⟩ else S4 l c
def chT(l:List Int)(c:Cur):List UInt8:=shortS (strN [IntKind.u8.wrap (below l 4 c)])
def chL(l:List Int):Nat→List (List UInt8) × Cur→List (List UInt8) × Cur
 | 0,s=>s
 | n+1,s=>chL l n (s.1++[chT l s.2],belowS l 4 s.2)
def S6(l:List Int)(c:Cur):RS:=if (S5 l c).x.fKind=3 then
 ⟨{ (S5 l c).x with fChunks:=(chL l (1+below l 3 (S5 l c).c).toNat ([],belowS l 3 (S5 l c).c)).1 },(chL l (1+below l 3 (S5 l c).c).toNat ([],belowS l 3 (S5 l c).c)).2⟩ else S5 l c
def CmdD(x:DtCmd):Prop:=x.fSet.length≤16∧x.fName.length≤16∧x.fTag.length≤16∧x.fChunks.length≤4∧∀t∈x.fChunks,t.length≤16
theorem zjn(xs:List (List UInt8))(n:Nat)(h:∀x∈xs,x.length≤16):(xs.getD n []).length≤16:=by
 rw [List.getD_eq_getElem?_getD]
 cases hx:xs[n]? with
 | none=>simp
 | some x=>exact h x (List.mem_of_getElem? hx)
theorem chL_len(l:List Int):∀(n:Nat) (s:List (List UInt8) × Cur),(∀t∈s.1,t.length≤16)→(chL l n s).1.length=s.1.length+n∧∀t∈(chL l n s).1,t.length≤16
 | 0,s,h=>⟨rfl,h⟩
 | n+1,s,h=>by
  have:=chL_len l n (s.1++[chT l s.2],belowS l 4 s.2) λt ht=>by
   rcases List.mem_append.1 ht with ht | ht
   ·exact h t ht
   ·rw [List.mem_singleton] at ht;rw [ht];unfold chT shortS;rw [List.length_take];omega
  refine ⟨?_,this.2⟩
  rw [chL,this.1];simp;omega
theorem S_bd(l:List Int)(c:Cur):CmdD (S6 l c).x∧0≤(S0 l c).x.fKind:=by
 have h0:=zc5 l 7 c
 have k0:(S0 l c).x.fSet=[]∧(S0 l c).x.fName=[]∧(S0 l c).x.fTag=[]∧(S0 l c).x.fChunks=[]:=⟨rfl,rfl,rfl,rfl⟩
 have k1:(S1 l c).x.fSet=[]∧(S1 l c).x.fName=[]∧(S1 l c).x.fTag=[]∧(S1 l c).x.fChunks=[]:=by unfold S1;split<;>exact k0
 have k2:(S2 l c).x.fSet.length≤16∧(S2 l c).x.fName=[]∧(S2 l c).x.fTag=[]∧(S2 l c).x.fChunks=[]:=by
  unfold S2;split
  ·exact ⟨by rw [k1.1];simp,k1.2⟩
  ·exact ⟨zjn _ _ (by simp),k1.2⟩
 have k3:(S3 l c).x.fSet.length≤16∧(S3 l c).x.fName.length≤16∧(S3 l c).x.fTag=[]∧(S3 l c).x.fChunks=[]:=by
  unfold S3;split
  ·exact ⟨k2.1,zjn _ _ (by simp),k2.2.2⟩
  ·exact ⟨k2.1,by rw [k2.2.1];simp,k2.2.2⟩
 have k4:(S4 l c).x.fSet.length≤16∧(S4 l c).x.fName.length≤16∧(S4 l c).x.fTag.length≤16∧(S4 l c).x.fChunks=[]:=by
  unfold S4;split
  ·exact ⟨k3.1,k3.2.1,zjn _ _ (by simp),k3.2.2.2⟩
  ·exact ⟨k3.1,k3.2.1,by rw [k3.2.2.1];simp,k3.2.2.2⟩
 have k5:(S5 l c).x.fSet.length≤16∧(S5 l c).x.fName.length≤16∧(S5 l c).x.fTag.length≤16∧(S5 l c).x.fChunks=[]:=by
  unfold S5;split<;>exact k4
 refine ⟨?_,by show 0≤1+below l 7 c;omega⟩
 have hb:=zc5 l 3 (S5 l c).c
 unfold S6;split
 ·obtain ⟨h1,h2⟩:=chL_len l (1+below l 3 (S5 l c).c).toNat ([],belowS l 3 (S5 l c).c) (by simp)
  exact ⟨k5.1,k5.2.1,k5.2.2.1,by simp only [h1,List.length_nil];omega,h2⟩
 ·exact ⟨k5.1,k5.2.1,k5.2.2.1,by rw [k5.2.2.2];simp,by rw [k5.2.2.2];simp⟩
theorem S5_ch(l:List Int)(c:Cur):(S5 l c).x.fChunks=[]:=by
 unfold S5;split
 all_goals (show (S4 l c).x.fChunks=[];unfold S4;split)
 all_goals (show (S3 l c).x.fChunks=[];unfold S3;split)
 all_goals (show (S2 l c).x.fChunks=[];unfold S2;split)
 all_goals (show (S1 l c).x.fChunks=[];unfold S1;split)
 all_goals rfl
def zG14:=And.intro @zcj (And.intro @gE (And.intro @tP (And.intro @and_assoc @List.range_succ)))
theorem l4Right(l:List Int)(hl:Code l)(c:Cur):XCall Tryd.prog 67 [.ptr 8 0] [.cells (curC l c)] (.agg (cmdO (S6 l c).x 16)) [.cells (curC l (S6 l c).c)] [.own 1 ((S6 l c).x.fChunks.map cS)]:=by
 refine zbq Tryd.func67 (by rfl) (by rfl) (by rw [Tryd.ntmps67];exact Nat.le_of_ble_eq_true rfl) rfl (by simp) rfl rfl ?_
 rw [Tryd.ntmps67]
 refine zhn (.cells (curC l c)) (by simp [cvO]<;>assumption) ?_
 refine AW_k [(0,_)] ⟨rfl,trivial⟩ ?_
 have hb1:=zc5 l 7 c
 have hb2:=zc5 l 3 (belowS l 7 c)
 have hb6:=zc5 l 6 (belowS l 3 (belowS l 7 c))
 refine AW_x rfl rfl λK hK=>?_
 simp (disch:=omega) [zG14,cI,cS,cU,DtCmd.cells,cmdO,numsOf]
 refine hK _ ?_;clear hK K
 refine AW_x rfl rfl λK hK=>?_
 simp (disch:=omega) [zG14,cI,cS,cU,DtCmd.cells,cmdO,numsOf]
 repeat' first|(refine zco (λ_=>xs_p (xs_g xs_z)) (zdi l hl _ _) rfl rfl ?_;simp (disch:=omega) [zG14,cI,cS,cU,DtCmd.cells,cmdO,numsOf]) | fail
 refine hK _ ?_;clear hK K
 refine zfz (λsS=>(True)∧sS = { env:=lkE [(0,.ptr 8 0),(2,.ptr 48 0),(3,.ptr 64 0)],ob:=lk [(8,.cells (curC l (S1 l c).c)),(48,.cells [(.g (.int .i64 (0))),(.g (.int .i64 (0))),(.g (.int .i64 (0))),.s [],.s [],.s [],(.g (.int .i64 (0))),.g (.slice none 0 0)]),(64,.cells [(.g (.int .i64 ((S1 l c).x.fKind))),(.g (.int .i64 ((S1 l c).x.fClient))),(.g (.int .i64 ((S1 l c).x.fNo))),.s (S1 l c).x.fSet,.s (S1 l c).x.fName,.s (S1 l c).x.fTag,(.g (.int .i64 ((S1 l c).x.fN))),.g (.slice none 0 0)])] }) ?_ ?_
 ·skip
  refine AW_x rfl rfl λK hK=>?_
  simp (disch:=omega) [zG14,cI,cS,cU,DtCmd.cells,cmdO,numsOf]
  repeat' first|(refine zco (λ_=>xs_p (xs_g xs_z)) (zkt l hl _ _) rfl rfl ?_;simp (disch:=omega) [zG14,cI,cS,cU,DtCmd.cells,cmdO,numsOf]) | fail
  refine hK _ ?_;clear hK K
  refine zbg rfl (λhc1=>?_) (λhc1=>?_)
  ·try simp [zbk,zbl,zbc,zba] at hc1
   refine zb4 rfl rfl λK hK=>?_
   simp (disch:=omega) [zG14,cI,cS,cU,DtCmd.cells,cmdO,numsOf]
   refine hK _ ?_;clear hK K
   have hR:S1 l c=⟨{ (S0 l c).x with fKind:=3 },belowS l 4 (S0 l c).c⟩:=if_pos (by assumption)
   refine ⟨_,LeS.kx [(8,8),(48,48),(64,64)] [(0,.ptr 8 0),(2,.ptr 48 0),(3,.ptr 64 0)] [(8,.cells (curC l (S1 l c).c)),(48,.cells [(.g (.int .i64 (0))),(.g (.int .i64 (0))),(.g (.int .i64 (0))),.s [],.s [],.s [],(.g (.int .i64 (0))),.g (.slice none 0 0)]),(64,.cells [(.g (.int .i64 ((S1 l c).x.fKind))),(.g (.int .i64 ((S1 l c).x.fClient))),(.g (.int .i64 ((S1 l c).x.fNo))),.s (S1 l c).x.fSet,.s (S1 l c).x.fName,.s (S1 l c).x.fTag,(.g (.int .i64 ((S1 l c).x.fN))),.g (.slice none 0 0)])] (by simp [zG12,KpR,renV2,renV,zbj,hR,curC,S0]) (by simp [zG12,KpOX,renO,plO,cvO,renV,pl1,hR,curC,S0]) (by rfl) (by simp) (by simp) (by rfl) (by simp [zG13,formsX]),?_,rfl⟩
   ·trivial
  ·try simp [zbk,zbl,zbc,zba] at hc1
   refine zbh ?_
   have hR:S1 l c=⟨(S0 l c).x,belowS l 4 (S0 l c).c⟩:=if_neg (by assumption)
   refine ⟨_,LeS.kx [(8,8),(48,48),(64,64)] [(0,.ptr 8 0),(2,.ptr 48 0),(3,.ptr 64 0)] [(8,.cells (curC l (S1 l c).c)),(48,.cells [(.g (.int .i64 (0))),(.g (.int .i64 (0))),(.g (.int .i64 (0))),.s [],.s [],.s [],(.g (.int .i64 (0))),.g (.slice none 0 0)]),(64,.cells [(.g (.int .i64 ((S1 l c).x.fKind))),(.g (.int .i64 ((S1 l c).x.fClient))),(.g (.int .i64 ((S1 l c).x.fNo))),.s (S1 l c).x.fSet,.s (S1 l c).x.fName,.s (S1 l c).x.fTag,(.g (.int .i64 ((S1 l c).x.fN))),.g (.slice none 0 0)])] (by simp [zG12,KpR,renV2,renV,zbj,hR,curC,S0]) (by simp [zG12,KpOX,renO,plO,cvO,renV,pl1,hR,curC,S0]) (by rfl) (by simp) (by simp) (by rfl) (by simp [zG13,formsX]),?_,rfl⟩
   ·trivial
 ·rintro sS ⟨-,rfl⟩
  refine zfz (λsS=>(True)∧sS = { env:=lkE [(0,.ptr 8 0),(2,.ptr 48 0),(3,.ptr 64 0)],ob:=lk [(8,.cells (curC l (S2 l c).c)),(48,.cells [(.g (.int .i64 (0))),(.g (.int .i64 (0))),(.g (.int .i64 (0))),.s [],.s [],.s [],(.g (.int .i64 (0))),.g (.slice none 0 0)]),(64,.cells [(.g (.int .i64 ((S2 l c).x.fKind))),(.g (.int .i64 ((S2 l c).x.fClient))),(.g (.int .i64 ((S2 l c).x.fNo))),.s (S2 l c).x.fSet,.s (S2 l c).x.fName,.s (S2 l c).x.fTag,(.g (.int .i64 ((S2 l c).x.fN))),.g (.slice none 0 0)])] }) ?_ ?_
  ·skip
   refine AW_x rfl rfl λK hK=>?_
   simp (disch:=omega) [zG14,cI,cS,cU,DtCmd.cells,cmdO,numsOf]
   refine hK _ ?_;clear hK K
   refine zbg rfl (λhc2=>?_) (λhc2=>?_)
   ·try simp [zbk,zbl,zbc,zba] at hc2
    refine zb4 rfl rfl λK hK=>?_
    simp (disch:=omega) [zG14,cI,cS,cU,DtCmd.cells,cmdO,numsOf]
    repeat' first|(refine zft (λ_=>xs_p (xs_a xs_z)) (zsm l hl _ [[97],[98],[97,98]] (by simp)) rfl rfl rfl (by decide) rfl ?_)|(simp (disch:=omega) [zG14,cI,cS,cU,DtCmd.cells,cmdO,numsOf])
    refine hK _ ?_;clear hK K
    have hR:S2 l c=⟨{ (S1 l c).x with fSet:=([[97],[98],[97,98]]:List (List UInt8)).getD (below l 3 (S1 l c).c).toNat [] },belowS l 3 (S1 l c).c⟩:=if_neg (by assumption)
    refine ⟨_,LeS.kx [(8,8),(48,48),(64,64)] [(0,.ptr 8 0),(2,.ptr 48 0),(3,.ptr 64 0)] [(8,.cells (curC l (S2 l c).c)),(48,.cells [(.g (.int .i64 (0))),(.g (.int .i64 (0))),(.g (.int .i64 (0))),.s [],.s [],.s [],(.g (.int .i64 (0))),.g (.slice none 0 0)]),(64,.cells [(.g (.int .i64 ((S2 l c).x.fKind))),(.g (.int .i64 ((S2 l c).x.fClient))),(.g (.int .i64 ((S2 l c).x.fNo))),.s (S2 l c).x.fSet,.s (S2 l c).x.fName,.s (S2 l c).x.fTag,(.g (.int .i64 ((S2 l c).x.fN))),.g (.slice none 0 0)])] (by simp [zG12,KpR,renV2,renV,zbj,hR,curC]) (by simp [zG12,KpOX,renO,plO,cvO,renV,pl1,hR,curC]) (by rfl) (by simp) (by simp) (by rfl) (by simp [zG13,formsX]),?_,rfl⟩
    ·trivial
   ·try simp [zbk,zbl,zbc,zba] at hc2
    refine zbh ?_
    have hR:S2 l c=S1 l c:=if_pos (by assumption)
    refine ⟨_,LeS.kx [(8,8),(48,48),(64,64)] [(0,.ptr 8 0),(2,.ptr 48 0),(3,.ptr 64 0)] [(8,.cells (curC l (S2 l c).c)),(48,.cells [(.g (.int .i64 (0))),(.g (.int .i64 (0))),(.g (.int .i64 (0))),.s [],.s [],.s [],(.g (.int .i64 (0))),.g (.slice none 0 0)]),(64,.cells [(.g (.int .i64 ((S2 l c).x.fKind))),(.g (.int .i64 ((S2 l c).x.fClient))),(.g (.int .i64 ((S2 l c).x.fNo))),.s (S2 l c).x.fSet,.s (S2 l c).x.fName,.s (S2 l c).x.fTag,(.g (.int .i64 ((S2 l c).x.fN))),.g (.slice none 0 0)])] (by simp [zG12,KpR,renV2,renV,zbj,hR,curC]) (by simp [zG12,KpOX,renO,plO,cvO,renV,pl1,hR,curC]) (by rfl) (by simp) (by simp) (by rfl) (by simp [zG13,formsX]),?_,rfl⟩
    ·trivial
  ·rintro sS ⟨-,rfl⟩
   refine zfz (λsS=>(True)∧sS = { env:=lkE [(0,.ptr 8 0),(2,.ptr 48 0),(3,.ptr 64 0)],ob:=lk [(8,.cells (curC l (S3 l c).c)),(48,.cells [(.g (.int .i64 (0))),(.g (.int .i64 (0))),(.g (.int .i64 (0))),.s [],.s [],.s [],(.g (.int .i64 (0))),.g (.slice none 0 0)]),(64,.cells [(.g (.int .i64 ((S3 l c).x.fKind))),(.g (.int .i64 ((S3 l c).x.fClient))),(.g (.int .i64 ((S3 l c).x.fNo))),.s (S3 l c).x.fSet,.s (S3 l c).x.fName,.s (S3 l c).x.fTag,(.g (.int .i64 ((S3 l c).x.fN))),.g (.slice none 0 0)])] }) ?_ ?_
   ·skip
    refine AW_x rfl rfl λK hK=>?_
    simp (disch:=omega) [zG14,cI,cS,cU,DtCmd.cells,cmdO,numsOf]
    repeat' first|(refine ⟨λ_=>?_,λ_=>?_⟩) | fail
    all_goals (refine hK _ ?_;clear hK K)
    all_goals
     refine zbg rfl (λhc3=>?_) (λhc3=>?_)
     ·try simp [zbk,zbl,zbc,zba] at hc3
      all_goals
       refine zb4 rfl rfl λK hK=>?_
       simp (disch:=omega) [zG14,cI,cS,cU,DtCmd.cells,cmdO,numsOf]
       repeat' first|(refine zft (λ_=>xs_p (xs_a xs_z)) (zsm l hl _ [[120],[121],[122]] (by simp)) rfl rfl rfl (by decide) rfl ?_)|(refine ⟨by omega,?_⟩)|(simp (disch:=omega) [zG14,cI,cS,cU,DtCmd.cells,cmdO,numsOf])
       all_goals (refine hK _ ?_;clear hK K)
       all_goals
        have hR:S3 l c=⟨{ (S2 l c).x with fName:=([[120],[121],[122]]:List (List UInt8)).getD (below l 3 (S2 l c).c).toNat [] },belowS l 3 (S2 l c).c⟩:=if_pos (by grind)
        refine ⟨_,LeS.kx [(8,8),(48,48),(64,64)] [(0,.ptr 8 0),(2,.ptr 48 0),(3,.ptr 64 0)] [(8,.cells (curC l (S3 l c).c)),(48,.cells [(.g (.int .i64 (0))),(.g (.int .i64 (0))),(.g (.int .i64 (0))),.s [],.s [],.s [],(.g (.int .i64 (0))),.g (.slice none 0 0)]),(64,.cells [(.g (.int .i64 ((S3 l c).x.fKind))),(.g (.int .i64 ((S3 l c).x.fClient))),(.g (.int .i64 ((S3 l c).x.fNo))),.s (S3 l c).x.fSet,.s (S3 l c).x.fName,.s (S3 l c).x.fTag,(.g (.int .i64 ((S3 l c).x.fN))),.g (.slice none 0 0)])] (by simp [zG12,KpR,renV2,renV,zbj,hR,curC]) (by simp [zG12,KpOX,renO,plO,cvO,renV,pl1,hR,curC]) (by rfl) (by simp) (by simp) (by rfl) (by simp [zG13,formsX]),?_,rfl⟩
        ·trivial
     ·try simp [zbk,zbl,zbc,zba] at hc3
      all_goals
       refine zbh ?_
       have hR:S3 l c=S2 l c:=if_neg (by grind)
       refine ⟨_,LeS.kx [(8,8),(48,48),(64,64)] [(0,.ptr 8 0),(2,.ptr 48 0),(3,.ptr 64 0)] [(8,.cells (curC l (S3 l c).c)),(48,.cells [(.g (.int .i64 (0))),(.g (.int .i64 (0))),(.g (.int .i64 (0))),.s [],.s [],.s [],(.g (.int .i64 (0))),.g (.slice none 0 0)]),(64,.cells [(.g (.int .i64 ((S3 l c).x.fKind))),(.g (.int .i64 ((S3 l c).x.fClient))),(.g (.int .i64 ((S3 l c).x.fNo))),.s (S3 l c).x.fSet,.s (S3 l c).x.fName,.s (S3 l c).x.fTag,(.g (.int .i64 ((S3 l c).x.fN))),.g (.slice none 0 0)])] (by simp [zG12,KpR,renV2,renV,zbj,hR,curC]) (by simp [zG12,KpOX,renO,plO,cvO,renV,pl1,hR,curC]) (by rfl) (by simp) (by simp) (by rfl) (by simp [zG13,formsX]),?_,rfl⟩
       ·trivial
   ·rintro sS ⟨-,rfl⟩
    refine zfz (λsS=>(True)∧sS = { env:=lkE [(0,.ptr 8 0),(2,.ptr 48 0),(3,.ptr 64 0)],ob:=lk [(8,.cells (curC l (S4 l c).c)),(48,.cells [(.g (.int .i64 (0))),(.g (.int .i64 (0))),(.g (.int .i64 (0))),.s [],.s [],.s [],(.g (.int .i64 (0))),.g (.slice none 0 0)]),(64,.cells [(.g (.int .i64 ((S4 l c).x.fKind))),(.g (.int .i64 ((S4 l c).x.fClient))),(.g (.int .i64 ((S4 l c).x.fNo))),.s (S4 l c).x.fSet,.s (S4 l c).x.fName,.s (S4 l c).x.fTag,(.g (.int .i64 ((S4 l c).x.fN))),.g (.slice none 0 0)])] }) ?_ ?_
    ·skip
     refine AW_x rfl rfl λK hK=>?_
     simp (disch:=omega) [zG14,cI,cS,cU,DtCmd.cells,cmdO,numsOf]
     refine hK _ ?_;clear hK K
     refine zbg rfl (λhc4=>?_) (λhc4=>?_)
     ·try simp [zbk,zbl,zbc,zba] at hc4
      refine zb4 rfl rfl λK hK=>?_
      simp (disch:=omega) [zG14,cI,cS,cU,DtCmd.cells,cmdO,numsOf]
      repeat' first|((refine zft (λ_=>xs_p (xs_a xs_z)) (zsm l hl _ [[107,101,101,112],[116]] (by simp)) rfl rfl rfl (by decide) rfl ?_;simp (disch:=omega) [zG14,cI,cS,cU,DtCmd.cells,cmdO,numsOf])) | fail
      refine hK _ ?_;clear hK K
      have hR:S4 l c=⟨{ (S3 l c).x with fTag:=([[107,101,101,112],[116]]:List (List UInt8)).getD (below l 2 (S3 l c).c).toNat [] },belowS l 2 (S3 l c).c⟩:=if_pos (by assumption)
      refine ⟨_,LeS.kx [(8,8),(48,48),(64,64)] [(0,.ptr 8 0),(2,.ptr 48 0),(3,.ptr 64 0)] [(8,.cells (curC l (S4 l c).c)),(48,.cells [(.g (.int .i64 (0))),(.g (.int .i64 (0))),(.g (.int .i64 (0))),.s [],.s [],.s [],(.g (.int .i64 (0))),.g (.slice none 0 0)]),(64,.cells [(.g (.int .i64 ((S4 l c).x.fKind))),(.g (.int .i64 ((S4 l c).x.fClient))),(.g (.int .i64 ((S4 l c).x.fNo))),.s (S4 l c).x.fSet,.s (S4 l c).x.fName,.s (S4 l c).x.fTag,(.g (.int .i64 ((S4 l c).x.fN))),.g (.slice none 0 0)])] (by simp [zG12,KpR,renV2,renV,zbj,hR,curC]) (by simp [zG12,KpOX,renO,plO,cvO,renV,pl1,hR,curC]) (by rfl) (by simp) (by simp) (by rfl) (by simp [zG13,formsX]),?_,rfl⟩
      ·trivial
     ·try simp [zbk,zbl,zbc,zba] at hc4
      refine zbh ?_
      have hR:S4 l c=S3 l c:=if_neg (by assumption)
      refine ⟨_,LeS.kx [(8,8),(48,48),(64,64)] [(0,.ptr 8 0),(2,.ptr 48 0),(3,.ptr 64 0)] [(8,.cells (curC l (S4 l c).c)),(48,.cells [(.g (.int .i64 (0))),(.g (.int .i64 (0))),(.g (.int .i64 (0))),.s [],.s [],.s [],(.g (.int .i64 (0))),.g (.slice none 0 0)]),(64,.cells [(.g (.int .i64 ((S4 l c).x.fKind))),(.g (.int .i64 ((S4 l c).x.fClient))),(.g (.int .i64 ((S4 l c).x.fNo))),.s (S4 l c).x.fSet,.s (S4 l c).x.fName,.s (S4 l c).x.fTag,(.g (.int .i64 ((S4 l c).x.fN))),.g (.slice none 0 0)])] (by simp [zG12,KpR,renV2,renV,zbj,hR,curC]) (by simp [zG12,KpOX,renO,plO,cvO,renV,pl1,hR,curC]) (by rfl) (by simp) (by simp) (by rfl) (by simp [zG13,formsX]),?_,rfl⟩
      ·trivial
    ·rintro sS ⟨-,rfl⟩
     refine zfz (λsS=>(True)∧sS = { env:=lkE [(0,.ptr 8 0),(2,.ptr 48 0),(3,.ptr 64 0)],ob:=lk [(8,.cells (curC l (S5 l c).c)),(48,.cells [(.g (.int .i64 (0))),(.g (.int .i64 (0))),(.g (.int .i64 (0))),.s [],.s [],.s [],(.g (.int .i64 (0))),.g (.slice none 0 0)]),(64,.cells [(.g (.int .i64 ((S5 l c).x.fKind))),(.g (.int .i64 ((S5 l c).x.fClient))),(.g (.int .i64 ((S5 l c).x.fNo))),.s (S5 l c).x.fSet,.s (S5 l c).x.fName,.s (S5 l c).x.fTag,(.g (.int .i64 ((S5 l c).x.fN))),.g (.slice none 0 0)])] }) ?_ ?_
     ·skip
      refine AW_x rfl rfl λK hK=>?_
      simp (disch:=omega) [zG14,cI,cS,cU,DtCmd.cells,cmdO,numsOf]
      refine hK _ ?_;clear hK K
      refine zbg rfl (λhc5=>?_) (λhc5=>?_)
      ·try simp [zbk,zbl,zbc,zba] at hc5
       refine zb4 rfl rfl λK hK=>?_
       simp (disch:=omega) [zG14,cI,cS,cU,DtCmd.cells,cmdO,numsOf]
       repeat' first|(refine zco (λ_=>xs_p (xs_g xs_z)) (zdi l hl _ _) rfl rfl ?_;simp (disch:=omega) [zG14,cI,cS,cU,DtCmd.cells,cmdO,numsOf]) | fail
       refine hK _ ?_;clear hK K
       have hR:S5 l c=⟨{ (S4 l c).x with fN:=below l 4 (S4 l c).c },belowS l 4 (S4 l c).c⟩:=if_pos (by assumption)
       refine ⟨_,LeS.kx [(8,8),(48,48),(64,64)] [(0,.ptr 8 0),(2,.ptr 48 0),(3,.ptr 64 0)] [(8,.cells (curC l (S5 l c).c)),(48,.cells [(.g (.int .i64 (0))),(.g (.int .i64 (0))),(.g (.int .i64 (0))),.s [],.s [],.s [],(.g (.int .i64 (0))),.g (.slice none 0 0)]),(64,.cells [(.g (.int .i64 ((S5 l c).x.fKind))),(.g (.int .i64 ((S5 l c).x.fClient))),(.g (.int .i64 ((S5 l c).x.fNo))),.s (S5 l c).x.fSet,.s (S5 l c).x.fName,.s (S5 l c).x.fTag,(.g (.int .i64 ((S5 l c).x.fN))),.g (.slice none 0 0)])] (by simp [zG12,KpR,renV2,renV,zbj,hR,curC]) (by simp [zG12,KpOX,renO,plO,cvO,renV,pl1,hR,curC]) (by rfl) (by simp) (by simp) (by rfl) (by simp [zG13,formsX]),?_,rfl⟩
       ·trivial
      ·try simp [zbk,zbl,zbc,zba] at hc5
       refine zbh ?_
       have hR:S5 l c=S4 l c:=if_neg (by assumption)
       refine ⟨_,LeS.kx [(8,8),(48,48),(64,64)] [(0,.ptr 8 0),(2,.ptr 48 0),(3,.ptr 64 0)] [(8,.cells (curC l (S5 l c).c)),(48,.cells [(.g (.int .i64 (0))),(.g (.int .i64 (0))),(.g (.int .i64 (0))),.s [],.s [],.s [],(.g (.int .i64 (0))),.g (.slice none 0 0)]),(64,.cells [(.g (.int .i64 ((S5 l c).x.fKind))),(.g (.int .i64 ((S5 l c).x.fClient))),(.g (.int .i64 ((S5 l c).x.fNo))),.s (S5 l c).x.fSet,.s (S5 l c).x.fName,.s (S5 l c).x.fTag,(.g (.int .i64 ((S5 l c).x.fN))),.g (.slice none 0 0)])] (by simp [zG12,KpR,renV2,renV,zbj,hR,curC]) (by simp [zG12,KpOX,renO,plO,cvO,renV,pl1,hR,curC]) (by rfl) (by simp) (by simp) (by rfl) (by simp [zG13,formsX]),?_,rfl⟩
       ·trivial
     ·rintro sS ⟨-,rfl⟩
      refine zfz (λsS=>(True)∧sS = { env:=lkE [(2,.ptr 48 0),(3,.ptr 64 0)],ob:=lk [(8,.cells (curC l (S6 l c).c)),(48,.cells [(.g (.int .i64 (0))),(.g (.int .i64 (0))),(.g (.int .i64 (0))),.s [],.s [],.s [],(.g (.int .i64 (0))),.g (.slice none 0 0)]),(64,.cells (cmdO (S6 l c).x 501)),(501,.own 1 ((S6 l c).x.fChunks.map cS))] }) ?_ ?_
      ·skip
       refine AW_x rfl rfl λK hK=>?_
       simp (disch:=omega) [zG14,cI,cS,cU,DtCmd.cells,cmdO,numsOf]
       refine hK _ ?_;clear hK K
       refine zbg rfl (λhc6=>?_) (λhc6=>?_)
       ·try simp [zbk,zbl,zbc,zba] at hc6
        refine AW_x rfl rfl λK hK=>?_
        simp (disch:=omega) [zG14,cI,cS,cU,DtCmd.cells,cmdO,numsOf]
        repeat' first|(refine zco (λ_=>xs_p (xs_g xs_z)) (zdi l hl _ _) rfl rfl ?_;simp (disch:=omega) [zG14,cI,cS,cU,DtCmd.cells,cmdO,numsOf]) | fail
        refine hK _ ?_;clear hK K
        refine zbi ?_
        have hb3:=zc5 l 3 (S5 l c).c
        refine zbt (λmM sS=>∃(n:Nat) (ch:List (List UInt8)) (c2:Cur),mM=2*n∧(chL l n (ch,c2)=chL l (1+below l 3 (S5 l c).c).toNat ([],belowS l 3 (S5 l c).c)∧n+ch.length≤4)∧sS = { env:=lkE [(0,.ptr 8 0),(2,.ptr 48 0),(3,.ptr 64 0),(4,(.g (.int .i64 ((n:Nat)))))],ob:=lk [(8,.cells (curC l c2)),(48,.cells [(.g (.int .i64 (0))),(.g (.int .i64 (0))),(.g (.int .i64 (0))),.s [],.s [],.s [],(.g (.int .i64 (0))),.g (.slice none 0 0)]),(64,.cells [(.g (.int .i64 ((S5 l c).x.fKind))),(.g (.int .i64 ((S5 l c).x.fClient))),(.g (.int .i64 ((S5 l c).x.fNo))),.s (S5 l c).x.fSet,.s (S5 l c).x.fName,.s (S5 l c).x.fTag,(.g (.int .i64 ((S5 l c).x.fN))),.arr 501 0 ch.length]),(501,.own 1 (ch.map cS))] }) ?_ ?_
        ·refine ⟨_,LeS.trans (LeS.znc (cs:=[(.g (.int .i64 ((S5 l c).x.fKind))),(.g (.int .i64 ((S5 l c).x.fClient))),(.g (.int .i64 ((S5 l c).x.fNo))),.s (S5 l c).x.fSet,.s (S5 l c).x.fName,.s (S5 l c).x.fTag,(.g (.int .i64 ((S5 l c).x.fN))),.g (.slice none 0 0)]) 501 1 64 7 (by simp [zG12,zbj]) (by simp [zG12,zbj,cI,curC]) (by rfl)) (LeS.kx [(8,8),(48,48),(64,64),(501,501)] [(0,.ptr 8 0),(2,.ptr 48 0),(3,.ptr 64 0),(4,(.g (.int .i64 ((((1+below l 3 (S5 l c).c).toNat):Nat)))))] [(8,.cells (curC l (belowS l 3 (S5 l c).c))),(48,.cells [(.g (.int .i64 (0))),(.g (.int .i64 (0))),(.g (.int .i64 (0))),.s [],.s [],.s [],(.g (.int .i64 (0))),.g (.slice none 0 0)]),(64,.cells [(.g (.int .i64 ((S5 l c).x.fKind))),(.g (.int .i64 ((S5 l c).x.fClient))),(.g (.int .i64 ((S5 l c).x.fNo))),.s (S5 l c).x.fSet,.s (S5 l c).x.fName,.s (S5 l c).x.fTag,(.g (.int .i64 ((S5 l c).x.fN))),.arr 501 0 ([]).length]),(501,.own 1 (([]).map cS))] (by simp [zG12,KpR,renV2,renV,zbj,cI,curC];try ((simp (disch:=omega) [zcj];omega))) (by simp [zG12,KpOX,renO,plO,cvO,renV,pl1,cI,curC];try trace_state) (by rfl) (by simp) (by simp) (by rfl) (by simp [zG13,formsX])),_,(1+below l 3 (S5 l c).c).toNat,[],belowS l 3 (S5 l c).c,rfl,?_,rfl⟩
         ·exact ⟨rfl,by simp;omega⟩
        ·rintro mM sS ⟨n,ch,c2,rfl,⟨hch,hcl⟩,rfl⟩
         have hb4:=zc5 l 4 c2
         refine zbe ?_
         refine AW_x rfl rfl λK hK=>?_
         simp (disch:=omega) [zG14,cI,cS,cU,DtCmd.cells,cmdO,numsOf]
         refine hK _ ?_;clear hK K
         refine zbg rfl (λhc7=>?_) (λhc7=>?_)
         ·try simp [zbk,zbl,zbc,zba] at hc7
          refine zbh ?_
          refine zbm ?_
          refine zbe ?_
          refine zbi ?_
          refine zje rfl mix (by kernel_rfl) (by kernel_rfl) λK hK=>?_
          simp (disch:=omega) [zG14,cI,cS,cU,DtCmd.cells,cmdO,numsOf]
          repeat' first|(refine zmt (λ_=>xs_p (xs_g xs_z)) (zdi l hl _ _) rfl rfl ?_;simp (disch:=omega) [zG14,cI,cS,cU,DtCmd.cells,cmdO,numsOf])|(refine zjf (λst'=>(zbf zd9 zbn)) (zm2 _ (by simp [strN])) rfl ?_;simp (disch:=omega) [zG14,cI,cS,cU,DtCmd.cells,cmdO,numsOf])|(refine ⟨by omega,?_⟩)|(simp (disch:=omega) [zG14,cI,cS,cU,DtCmd.cells,cmdO,numsOf])
          refine hK _ _ (by kernel_rfl) ?_;clear hK K
          refine zbm ?_
          refine zb4 rfl rfl λK hK=>?_
          simp (disch:=omega) [zG14,cI,cS,cU,DtCmd.cells,cmdO,numsOf]
          refine hK _ ?_;clear hK K
          refine ⟨_,LeS.kx [(8,8),(48,48),(64,64),(501,1120)] [(0,.ptr 8 0),(2,.ptr 48 0),(3,.ptr 64 0),(4,(.g (.int .i64 (((n-1):Nat)))))] [(8,.cells (curC l (belowS l 4 c2))),(48,.cells [(.g (.int .i64 (0))),(.g (.int .i64 (0))),(.g (.int .i64 (0))),.s [],.s [],.s [],(.g (.int .i64 (0))),.g (.slice none 0 0)]),(64,.cells [(.g (.int .i64 ((S5 l c).x.fKind))),(.g (.int .i64 ((S5 l c).x.fClient))),(.g (.int .i64 ((S5 l c).x.fNo))),.s (S5 l c).x.fSet,.s (S5 l c).x.fName,.s (S5 l c).x.fTag,(.g (.int .i64 ((S5 l c).x.fN))),.arr 501 0 (ch++[chT l c2]).length]),(501,.own 1 ((ch++[chT l c2]).map cS))] (by simp [zG12,KpR,renV2,renV,zbj,cI,curC];try omega) (by simp [zG12,KpOX,renO,plO,cvO,renV,pl1,cI,curC];try ((exact ⟨⟨(List.take_of_length_le (by simp)).symm,rfl⟩,by rw [List.take_of_length_le (by simp)];exact zgd ch⟩))) (by rfl) (by simp) (by simp) (by rfl) (by simp [zG13,formsX]),_,?_,n-1,ch++[chT l c2],belowS l 4 c2,rfl,?_,rfl⟩
          ·omega
          ·refine ⟨?_,by simp;omega⟩;rw [←hch];obtain ⟨m,rfl⟩:∃m,n=m+1:=⟨n-1,by omega⟩;rfl
         ·try simp [zbk,zbl,zbc,zba] at hc7
          refine zbw ?_
          have hR:S6 l c=⟨{ (S5 l c).x with fChunks:=ch },c2⟩:=by unfold S6;rw [if_pos (by assumption),←hch];obtain rfl:n=0:=(by omega);rfl
          refine ⟨_,LeS.kx [(8,8),(48,48),(64,64),(501,501)] [(2,.ptr 48 0),(3,.ptr 64 0)] [(8,.cells (curC l (S6 l c).c)),(48,.cells [(.g (.int .i64 (0))),(.g (.int .i64 (0))),(.g (.int .i64 (0))),.s [],.s [],.s [],(.g (.int .i64 (0))),.g (.slice none 0 0)]),(64,.cells (cmdO (S6 l c).x 501)),(501,.own 1 ((S6 l c).x.fChunks.map cS))] (by simp [zG12,KpR,renV2,renV,zbj,hR,cmdO,hch,curC]) (by simp [zG12,KpOX,renO,plO,cvO,renV,pl1,hR,cmdO,hch,curC]) (by rfl) (by simp) (by simp) (by rfl) (by simp [zG13,formsX]),?_,rfl⟩
          ·trivial
       ·try simp [zbk,zbl,zbc,zba] at hc6
        refine zbh ?_
        have hR:S6 l c=S5 l c:=if_neg (by assumption)
        have hch:=S5_ch l c
        refine ⟨_,LeS.trans (LeS.znc (cs:=[(.g (.int .i64 ((S5 l c).x.fKind))),(.g (.int .i64 ((S5 l c).x.fClient))),(.g (.int .i64 ((S5 l c).x.fNo))),.s (S5 l c).x.fSet,.s (S5 l c).x.fName,.s (S5 l c).x.fTag,(.g (.int .i64 ((S5 l c).x.fN))),.g (.slice none 0 0)]) 501 1 64 7 (by simp [zG12,zbj]) (by simp [zG12,zbj,hR,cmdO,hch,curC]) (by rfl)) (LeS.kx [(8,8),(48,48),(64,64),(501,501)] [(2,.ptr 48 0),(3,.ptr 64 0)] [(8,.cells (curC l (S6 l c).c)),(48,.cells [(.g (.int .i64 (0))),(.g (.int .i64 (0))),(.g (.int .i64 (0))),.s [],.s [],.s [],(.g (.int .i64 (0))),.g (.slice none 0 0)]),(64,.cells (cmdO (S6 l c).x 501)),(501,.own 1 ((S6 l c).x.fChunks.map cS))] (by simp [zG12,KpR,renV2,renV,zbj,hR,cmdO,hch,curC]) (by simp [zG12,KpOX,renO,plO,cvO,renV,pl1,hR,cmdO,hch,curC]) (by rfl) (by simp) (by simp) (by rfl) (by simp [zG13,formsX])),?_,rfl⟩
        ·trivial
      ·rintro sS ⟨-,rfl⟩
       refine AW_x rfl rfl λK hK=>?_
       simp (disch:=omega) [zG14,cI,cS,cU,DtCmd.cells,cmdO,numsOf]
       refine hK _ ?_;clear hK K
       refine zbo (zb7 [501] [] (by simp [zG12,List.range_succ]) (by simp) ?_)
       simp (disch:=omega) [zG14,cI,cS,cU,DtCmd.cells,cmdO,numsOf,cmdO]
end Go.Proofs.YtodmafgmdlkhoaaDoor.Vs
end
section
namespace Go.Proofs.YtodmafgmdlkhoaaDoor.Vs
set_option linter.all false
set_option maxRecDepth 100000
set_option maxHeartbeats 2000000
theorem zss:∀ns:List Int,numsOf (ns.map cU)=some ns
 | []=>rfl
 | n :: ns=>by
  have:=zss ns
  simp only [List.map_cons,cU,numsOf] at this ⊢
  rw [this];rfl
theorem scR_U(xs:List Int):scR (xs.map cU)=true:=zd8 _ (λ_=>rfl) xs
def txV(l:List Int)(k:Int)(c:Cur):Int:=if k=1 then IntKind.u8.wrap ((byte l c).tmod 2) else if k=2 then IntKind.u8.wrap (IntKind.i64.wrap (97+(byte l c).tmod 4)) else IntKind.u8.wrap (byte l c)
def txL(l:List Int)(k:Int):Nat→List Int × Cur→List Int × Cur
 | 0,s=>s
 | n+1,s=>txL l k n (s.1++[txV l k s.2],stp l s.2)
theorem txL_len(l:List Int)(k:Int):∀(n:Nat) (s:List Int × Cur),(txL l k n s).1.length=s.1.length+n
 | 0,s=>rfl
 | n+1,s=>by rw [txL,txL_len];simp;omega
/-- A drawn text of at most m bytes, and the place behind it. -/
def TXT(l:List Int)(m:Nat)(c:Cur):List Int × Cur:=txL l (below l 4 c) (below l ((m:Int)+1) (belowS l 4 c)).toNat ([],belowS l ((m:Int)+1) (belowS l 4 c))
theorem zki(l:List Int)(m:Nat)(c:Cur):(TXT l m c).1.length≤m:=by
 unfold TXT
 rw [txL_len]
 have:=zc5 l ((m:Int)+1) (belowS l 4 c)
 simp only [List.length_nil]
 omega
theorem zz7{P:Program}{f:FuncId}{args:List AV}{wos wos' fos:List OB}{r:AV}(h:XCallE P f args wos fos.length (λr' w' f'=>r'=r∧w'=wos'∧f'=fos))(hlen:wos'.length=wos.length)(hxk':(wos'++fos).all OB.xk=true):XCall P f args wos r wos' fos:=by
 obtain ⟨h1,h2,h3⟩:=h
 refine ⟨h1,hlen,h2,hxk',λw I β χ vs g1 g2 g3 g4 g5 g6 g7=>(h3 w I β χ vs g1 g2 g3 g4 g5 g6 g7).mono ?_⟩
 rintro e w' ⟨r',w'',f',⟨rfl,rfl,rfl⟩,-,-,-,hh⟩
 exact hh
def zG15:=And.intro @zcj (And.intro @gE (And.intro @tP (And.intro @and_assoc (And.intro @List.range_succ (And.intro @zbv (And.intro @zbk (And.intro @zbl (And.intro @zss @scR_U))))))))
theorem l1TextE(l:List Int)(hl:Code l)(c:Cur)(m:Nat)(hm:m≤1000):XCallE Tryd.prog 45 [.ptr 8 0,(.g (.int .i64 ((m:Nat))))] [.cells (curC l c)] 0 (λr w f=>r=.s (strN (TXT l m c).1)∧w=[.cells (curC l (TXT l m c).2)]∧f=[]):=by
 refine zdb Tryd.func45 (by rfl) (by rfl) (by rw [Tryd.ntmps45];exact Nat.le_of_ble_eq_true rfl) (by simp) rfl rfl ?_
 rw [Tryd.ntmps45]
 refine AW_y1 (.cells (curC l c)) (by simp [cvO]<;>assumption) ?_
 refine AW_k [(0,_),(1,_)] ⟨rfl,rfl,trivial⟩ ?_
 refine AW_x rfl rfl λK hK=>?_
 simp (disch:=omega) [zG15,cI,cS,cU,numsOf,-aAppZ]
 refine hK _ ?_;clear hK K
 refine AW_x rfl rfl λK hK=>?_
 simp (disch:=omega) [zG15,cI,cS,cU,numsOf,-aAppZ]
 refine hK _ ?_;clear hK K
 refine AW_x rfl rfl λK hK=>?_
 simp (disch:=omega) [zG15,cI,cS,cU,numsOf,-aAppZ]
 repeat' first|(refine zco (λ_=>xs_p (xs_g xs_z)) (zdi l hl _ _) rfl rfl ?_;simp (disch:=omega) [zG15,cI,cS,cU,numsOf,-aAppZ]) | fail
 refine hK _ ?_;clear hK K
 refine zbe ?_
 refine AW_x rfl rfl λK hK=>?_
 simp (disch:=omega) [zG15,cI,cS,cU,numsOf,-aAppZ]
 repeat' first|(refine zco (λ_=>xs_p (xs_g xs_z)) (zdi l hl _ _) rfl rfl ?_;simp (disch:=omega) [zG15,cI,cS,cU,numsOf,-aAppZ]) | fail
 refine hK _ ?_;clear hK K
 refine zbi ?_
 have hb7:=zc5 l ((m:Int)+1) (belowS l 4 c)
 refine zbt (λmM sS=>∃(n:Nat) (xs:List Int) (c2:Cur),mM=2*n∧(txL l (below l 4 c) n (xs,c2)=TXT l m c∧n+xs.length≤m)∧sS = { env:=lkE [(0,.ptr 8 0),(5,.arr 160 0 xs.length),(6,(.g (.int .i64 (below l 4 c)))),(7,(.g (.int .i64 ((n:Nat)))))],ob:=lk [(8,.cells (curC l c2)),(160,.own 1 (xs.map cU))] }) ?_ ?_
 ·refine ⟨_,LeS.kx [(8,8),(160,160)] [(0,.ptr 8 0),(5,.arr 160 0 ([]).length),(6,(.g (.int .i64 (below l 4 c)))),(7,(.g (.int .i64 ((((below l ((m:Int)+1) (belowS l 4 c)).toNat):Nat)))))] [(8,.cells (curC l (belowS l ((m:Int)+1) (belowS l 4 c)))),(160,.own 1 (([]).map cU))] (by simp [zG12,KpR,renV2,renV,zbj,curC,cU];try omega) (by simp [zG12,KpOX,renO,plO,cvO,renV,pl1,curC,cU];try trace_state) (by rfl) (by simp) (by simp) (by rfl) (by simp [zG13,formsX]),_,(below l ((m:Int)+1) (belowS l 4 c)).toNat,[],belowS l ((m:Int)+1) (belowS l 4 c),rfl,?_,rfl⟩
  ·exact ⟨rfl,by simp;omega⟩
 ·rintro mM sS ⟨n,xs,c2,rfl,⟨htx,hnl⟩,rfl⟩
  refine zbe ?_
  refine AW_x rfl rfl λK hK=>?_
  simp (disch:=omega) [zG15,cI,cS,cU,numsOf,-aAppZ]
  refine hK _ ?_;clear hK K
  refine zbg rfl (λhc1=>?_) (λhc1=>?_)
  ·try simp [zbk,zbl,zbc,zba] at hc1
   have hby:=zmy l c2
   refine zbh ?_
   refine zbm ?_
   refine zbe ?_
   refine zbi ?_
   refine AW_x rfl rfl λK hK=>?_
   simp (disch:=omega) [zG15,cI,cS,cU,numsOf,-aAppZ]
   repeat' first|(refine zco (λ_=>xs_p xs_z) (zmz l hl _) rfl rfl ?_;simp (disch:=omega) [zG15,cI,cS,cU,numsOf,-aAppZ]) | fail
   refine hK _ ?_;clear hK K
   refine zbe ?_
   refine AW_x rfl rfl λK hK=>?_
   simp (disch:=omega) [zG15,cI,cS,cU,numsOf,-aAppZ]
   refine hK _ ?_;clear hK K
   refine zbg rfl (λhc2=>?_) (λhc2=>?_)
   ·try simp [zbk,zbl,zbc,zba] at hc2
    refine zb4 rfl rfl λK hK=>?_
    simp (disch:=omega) [zG15,cI,cS,cU,numsOf,-aAppZ]
    refine hK _ ?_;clear hK K
    refine zbm ?_
    refine zbe ?_
    refine AW_x rfl rfl λK hK=>?_
    simp (disch:=omega) [zG15,cI,cS,cU,numsOf,-aAppZ]
    refine hK _ ?_;clear hK K
    refine zbg rfl (λhc3=>?_) (λhc3=>?_)
    ·try simp [zbk,zbl,zbc,zba] at hc3
     refine zb4 rfl rfl λK hK=>?_
     simp (disch:=omega) [zG15,cI,cS,cU,numsOf,-aAppZ]
     repeat' first|(exfalso;omega)
    ·try simp [zbk,zbl,zbc,zba] at hc3
     refine zbh ?_
     refine zbm ?_
     refine zb4 rfl rfl λK hK=>?_
     simp (disch:=omega) [zG15,cI,cS,cU,numsOf,-aAppZ]
     repeat' first|(refine ⟨by omega,?_⟩)|(simp (disch:=omega) [zG15,cI,cS,cU,numsOf,-aAppZ])
     refine hK _ ?_;clear hK K
     refine zbm ?_
     refine zb4 rfl rfl λK hK=>?_
     simp (disch:=omega) [zG15,cI,cS,cU,numsOf,-aAppZ]
     refine hK _ ?_;clear hK K
     refine ⟨_,LeS.kx [(8,8),(160,576)] [(0,.ptr 8 0),(5,.arr 160 0 (xs++[IntKind.u8.wrap ((byte l c2).tmod 2)]).length),(6,(.g (.int .i64 (below l 4 c)))),(7,(.g (.int .i64 (((n-1):Nat)))))] [(8,.cells (curC l (stp l c2))),(160,.own 1 ((xs++[IntKind.u8.wrap ((byte l c2).tmod 2)]).map cU))] (by simp [zG12,KpR,renV2,renV,zbj,curC,cU];try omega) (by simp [zG12,KpOX,renO,plO,cvO,renV,pl1,curC,cU];try exact scR_U xs) (by rfl) (by simp) (by simp) (by rfl) (by simp [zG13,formsX]),_,?_,n-1,xs++[IntKind.u8.wrap ((byte l c2).tmod 2)],stp l c2,rfl,?_,rfl⟩
     ·omega
     ·refine ⟨?_,by simp;omega⟩;rw [←htx];obtain ⟨q,rfl⟩:∃q,n=q+1:=⟨n-1,by omega⟩;simp [txL,txV, *]
   ·try simp [zbk,zbl,zbc,zba] at hc2
    refine zbh ?_
    refine zbm ?_
    refine zbe ?_
    refine AW_x rfl rfl λK hK=>?_
    simp (disch:=omega) [zG15,cI,cS,cU,numsOf,-aAppZ]
    refine hK _ ?_;clear hK K
    refine zbg rfl (λhc4=>?_) (λhc4=>?_)
    ·try simp [zbk,zbl,zbc,zba] at hc4
     refine zb4 rfl rfl λK hK=>?_
     simp (disch:=omega) [zG15,cI,cS,cU,numsOf,-aAppZ]
     refine hK _ ?_;clear hK K
     refine zbm ?_
     refine zb4 rfl rfl λK hK=>?_
     simp (disch:=omega) [zG15,cI,cS,cU,numsOf,-aAppZ]
     repeat' first|(refine ⟨by omega,?_⟩)|(simp (disch:=omega) [zG15,cI,cS,cU,numsOf,-aAppZ])
     refine hK _ ?_;clear hK K
     refine zbm ?_
     refine zb4 rfl rfl λK hK=>?_
     simp (disch:=omega) [zG15,cI,cS,cU,numsOf,-aAppZ]
     refine hK _ ?_;clear hK K
     refine ⟨_,LeS.kx [(8,8),(160,576)] [(0,.ptr 8 0),(5,.arr 160 0 (xs++[IntKind.u8.wrap (IntKind.i64.wrap (97+(byte l c2).tmod 4))]).length),(6,(.g (.int .i64 (below l 4 c)))),(7,(.g (.int .i64 (((n-1):Nat)))))] [(8,.cells (curC l (stp l c2))),(160,.own 1 ((xs++[IntKind.u8.wrap (IntKind.i64.wrap (97+(byte l c2).tmod 4))]).map cU))] (by simp [zG12,KpR,renV2,renV,zbj,curC,cU];try omega) (by simp [zG12,KpOX,renO,plO,cvO,renV,pl1,curC,cU];try exact scR_U xs) (by rfl) (by simp) (by simp) (by rfl) (by simp [zG13,formsX]),_,?_,n-1,xs++[IntKind.u8.wrap (IntKind.i64.wrap (97+(byte l c2).tmod 4))],stp l c2,rfl,?_,rfl⟩
     ·omega
     ·refine ⟨?_,by simp;omega⟩;rw [←htx];obtain ⟨q,rfl⟩:∃q,n=q+1:=⟨n-1,by omega⟩;simp [txL,txV, *]
    ·try simp [zbk,zbl,zbc,zba] at hc4
     refine zbh ?_
     refine zbm ?_
     refine zb4 rfl rfl λK hK=>?_
     simp (disch:=omega) [zG15,cI,cS,cU,numsOf,-aAppZ]
     repeat' first|(refine ⟨by omega,?_⟩)|(simp (disch:=omega) [zG15,cI,cS,cU,numsOf,-aAppZ])
     refine hK _ ?_;clear hK K
     refine zbm ?_
     refine zb4 rfl rfl λK hK=>?_
     simp (disch:=omega) [zG15,cI,cS,cU,numsOf,-aAppZ]
     refine hK _ ?_;clear hK K
     refine ⟨_,LeS.kx [(8,8),(160,576)] [(0,.ptr 8 0),(5,.arr 160 0 (xs++[IntKind.u8.wrap (byte l c2)]).length),(6,(.g (.int .i64 (below l 4 c)))),(7,(.g (.int .i64 (((n-1):Nat)))))] [(8,.cells (curC l (stp l c2))),(160,.own 1 ((xs++[IntKind.u8.wrap (byte l c2)]).map cU))] (by simp [zG12,KpR,renV2,renV,zbj,curC,cU];try omega) (by simp [zG12,KpOX,renO,plO,cvO,renV,pl1,curC,cU];try exact scR_U xs) (by rfl) (by simp) (by simp) (by rfl) (by simp [zG13,formsX]),_,?_,n-1,xs++[IntKind.u8.wrap (byte l c2)],stp l c2,rfl,?_,rfl⟩
     ·omega
     ·refine ⟨?_,by simp;omega⟩;rw [←htx];obtain ⟨q,rfl⟩:∃q,n=q+1:=⟨n-1,by omega⟩;simp [txL,txV, *]
  ·try simp [zbk,zbl,zbc,zba] at hc1
   refine zbw ?_
   refine zbm ?_
   refine zgl (LeS.frzR 160 (o:=.own 1 (xs.map cU)) (sz:=1) (xs:=xs.map cU) (zxl (cs:=curC l c2) (by simp [zG12,updL])) (by simp [formsX,List.range_succ]) (by simp [zG12,updL]) ⟨rfl,rfl⟩) ?_
   refine AW_x rfl rfl λK hK=>?_
   simp (disch:=omega) [zG15,cI,cS,cU,numsOf,-aAppZ]
   refine hK _ ?_;clear hK K
   refine zmk (.s (strN xs)) [.cells (curC l c2)] [] ?po (by simp) (by simp) (by simp [OB.xk]) (zb7 [] [] (by simp [zG12,List.range_succ]) (by simp) ?en)
   case en =>
    simp (disch:=omega) [zG15,cI,cS,cU,numsOf,-aAppZ]
   case po=>(obtain rfl:n=0:=(by omega));rw [←htx];exact ⟨rfl,rfl,rfl⟩
theorem l1Text(l:List Int)(hl:Code l)(c:Cur)(m:Nat)(hm:m≤1000):XCall Tryd.prog 45 [.ptr 8 0,(.g (.int .i64 ((m:Nat))))] [.cells (curC l c)] (.s (strN (TXT l m c).1)) [.cells (curC l (TXT l m c).2)] []:=zz7 (l1TextE l hl c m hm) rfl rfl
end Go.Proofs.YtodmafgmdlkhoaaDoor.Vs
end
