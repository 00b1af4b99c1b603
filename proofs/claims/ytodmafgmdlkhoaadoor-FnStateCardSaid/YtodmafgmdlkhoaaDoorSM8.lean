import Derived.Test.YtodmafgmdlkhoaaDoorSM7
import Derived.Test.YtodmafgmdlkhoaaDoorSM1
import Derived.LaidLaws
import Derived.ChangeVars
import Derived.OpenShut
import Derived.Test.YtodmafgmdlkhoaaDoorSM6
section
namespace Go.Proofs.YtodmafgmdlkhoaaDoor.Vs
set_option linter.all false
set_option maxRecDepth 100000
set_option maxHeartbeats 4000000
attribute [local simp ↓] zp5 zw1 zp6 zp7 zp8 zp9
/-- The low bytes of a number, the greatest first. -/
def dv(n k:Nat):Nat:=n / 2^(8*k)
def lb(n k:Nat):Int:=((n / 2^(8*k) % 256:Nat):Int)
theorem dv_0(n:Nat):dv n 0=n:=by simp [dv]
theorem dv_and(n k:Nat):IntKind.u8.wrap (zAnd (dv n k:Int) 255)=lb n k:=by rw [mask8,wrapB];unfold lb dv;omega
theorem dv_shr(n k:Nat):zShr (dv n k:Int) 8=(dv n (k+1):Int):=by
 rw [zShr_n _ _ (by omega),show (8:Int).toNat=8 from rfl]
 unfold dv
 rw [Nat.div_div_eq_div_mul,←Nat.pow_add];rfl
def loB(n:Nat):Nat→List Int
 | 0=>[]
 | k+1=>lb n k :: loB n k
theorem zvy(n:Nat):∀k,(loB n k).length=k
 | 0=>rfl
 | k+1=>by rw [loB,List.length_cons,zvy n k]
def fxR(n m k:Nat):List (List AV):=List.replicate (m-k) (bC 0)++(loB n k).map bC
theorem zde(n m k:Nat)(h:k≤m):(fxR n m k).length=m:=by unfold fxR;simp [zvy];omega
theorem fxR_0(n m:Nat):fxR n m 0=List.replicate m [.g (.int .u8 0)]:=by unfold fxR;simp [loB,bC]
theorem fxR_m(n m:Nat):fxR n m m=(loB n m).map bC:=by unfold fxR;simp
theorem fxR_set(n m k:Nat)(h:k<m):(fxR n m k).set (m-(k+1)) (bC (lb n k))=fxR n m (k+1):=by
 unfold fxR
 rw [loB,show m-k=(m-(k+1))+1 by omega,List.replicate_succ',List.append_assoc,List.set_append_right _ _ (by simp)]
 simp
theorem fxR_get(n m k:Nat)(h:k<m):(fxR n m k)[m-(k+1)]? = some [.g (.int .u8 0)]:=by
 unfold fxR
 rw [List.getElem?_append_left (by simp;omega),List.getElem?_replicate,if_pos (by omega)];rfl
theorem zqp(n m k:Nat):scR (fxR n m k)=true:=by
 unfold fxR
 rw [zvh,zd8 bC (λ_=>rfl)]
 simp
 induction (m-k) with
 | zero=>rfl
 | succ n ih=>rw [List.replicate_succ];simpa [scR,bC] using ih
theorem zdf(n m:Nat):numsOf (fxR n m m)=some (loB n m):=by rw [fxR_m];exact zjm _
theorem zdp{α:Type}{l:List α}{n:Nat}(h:l.length=n):l.take n=l:=List.take_of_length_le (by omega)
theorem zz8(x lo hi:Int):PCall Tryd.prog 40 [(.g (.int .i64 (x))),(.g (.int .i64 (lo))),(.g (.int .i64 (hi)))] (.g (.bool (decide (lo≤x)&&decide (x≤hi)))):=by
 refine zbp Tryd.func40 (by rfl) (by rfl) (by rw [Tryd.ntmps40];exact Nat.le_of_ble_eq_true rfl) rfl (by decide) ?_
 rw [Tryd.ntmps40]
 refine AW_k [(0,_),(1,_),(2,_)] ⟨rfl,rfl,rfl,trivial⟩ ?_
 refine AW_r rfl rfl λK hK=>?_
 simp (disch:=omega)
 refine hK _ ?_;clear hK K
 refine AW_r rfl rfl λK hK=>?_
 simp (disch:=omega)
 repeat' first|(refine ⟨λ_=>?_,λ_=>?_⟩) | fail
 all_goals (refine hK _ ?_;clear hK K)
 all_goals
  refine zbo (zcc ?_)
  simp (disch:=omega)
  all_goals omega
attribute [local simp] zdp zde
def zG25:=And.intro @zbr (And.intro @zbz @zce)
theorem fixS(n m:Nat)(hm:1≤m∧m≤7)(hn:n<2^(8*m)):XCall Tryd.prog 59 [(.g (.int .i64 ((n:Nat)))),(.g (.int .i64 ((m:Nat))))] [] (.s (strN (loB n m))) [] []:=by
 have h1:(1:Int)≤(m:Int):=by omega
 have h2:(m:Int)≤7:=by omega
 have h3:¬(n:Int)<0:=by omega
 have h4:(0:Int)≤8*(m:Int):=by omega
 have hp:2^(8*m)≤2^56:=Nat.pow_le_pow_right (by omega) (by omega)
 have hs:=zji 1 (8*(m:Int)) (8*m) (by omega) (by omega) (by omega)
 have h5:¬zShl 1 (8*(m:Int))≤(n:Int):=by
  have e:zShl 1 (8*(m:Int))=((1*2^(8*m):Nat):Int):=hs
  rw [e];omega
 refine zbq Tryd.func59 (by rfl) (by rfl) (by rw [Tryd.ntmps59];exact Nat.le_of_ble_eq_true rfl) rfl (by simp) rfl rfl ?_
 rw [Tryd.ntmps59]
 refine zdk   ?_
 refine AW_k [(0,_),(1,_)] ⟨rfl,rfl,trivial⟩ ?_
 refine AW_x rfl rfl λK hK=>?_
 simp (disch:=omega) [zdp,zde,zdf,h1,h2,h3,h4,h5]
 refine hK _ ?_;clear hK K
 refine zbe ?_
 refine AW_x rfl rfl λK hK=>?_
 simp (disch:=omega) [zdp,zde,zdf,h1,h2,h3,h4,h5]
 repeat' first|(refine zf1 (zbf zcb (zbf zcb (zbf zcb zbn))) (zz8 _ _ _) rfl ?_;simp (disch:=omega) [zdp,zde,zdf,h1,h2,h3,h4,h5]) | fail
 refine hK _ ?_;clear hK K
 refine zbg rfl (λhc1=>?_) (λhc1=>?_)
 ·try simp at hc1
 ·try simp at hc1
  refine zbh ?_
  refine zbm ?_
  refine AW_x rfl rfl λK hK=>?_
  simp (disch:=omega) [zdp,zde,zdf,h1,h2,h3,h4,h5]
  repeat' first|(refine ⟨by omega,?_⟩) | fail
  refine hK _ ?_;clear hK K
  refine zbe ?_
  refine AW_x rfl rfl λK hK=>?_
  simp (disch:=omega) [zdp,zde,zdf,h1,h2,h3,h4,h5]
  refine hK _ ?_;clear hK K
  refine zbi ?_
  refine zbt (λmM sS=>∃(k:Nat),mM=m-k∧(k≤m)∧sS = { env:=lkE [(0,(.g (.int .i64 ((dv n k:Nat))))),(5,.arr 501 0 m),(6,(.g (.int .i64 ((m:Int)-1-k))))],ob:=lk [(501,.flat 1 (fxR n m k))] }) ?_ ?_
  ·refine ⟨_,LeS.kx [(501,368)] [(0,(.g (.int .i64 ((dv n (0):Nat))))),(5,.arr 501 0 m),(6,(.g (.int .i64 ((m:Int)-1-(0)))))] [(501,.flat 1 (fxR n m (0)))] (by simp [zG25,KpR,renV2,renV,zbj,zqp,zde,fxR_0,dv_0];trace_state) (by simp [zG25,KpOX,renO,plO,cvO,renV,pl1,zqp,zde,fxR_0,dv_0];trace_state) (by rfl) (by simp) (by simp) (by rfl) (by simp [formsX,List.range_succ,zbr,zbz]),_,0,rfl,?_,rfl⟩
   ·simp
  ·rintro mM sS ⟨k,rfl,hk,rfl⟩
   have hfl:=zde n m k hk
   refine zbe ?_
   refine AW_x rfl rfl λK hK=>?_
   simp (disch:=omega) [zdp,zde,zdf,h1,h2,h3,h4,h5]
   refine hK _ ?_;clear hK K
   refine zbg rfl (λhc2=>?_) (λhc2=>?_)
   ·try simp at hc2
    have hk2:k<m:=by omega
    have hix:((m:Int)-1-(k:Int)).toNat=m-(k+1):=by omega
    have hby:=dv_and n k
    have hsr:=dv_shr n k
    have hst:=fxR_set n m k hk2
    have hgt:=fxR_get n m k hk2
    have hgt2:(fxR n m k)[m-(k+1)]'(by omega)=[.g (.int .u8 0)]:=by have:=hgt;rw [List.getElem?_eq_getElem (by omega)] at this;exact Option.some.inj this
    simp only [bC] at hst
    refine zbh ?_
    refine zbm ?_
    refine zbe ?_
    refine zbi ?_
    refine AW_x rfl rfl λK hK=>?_
    simp (disch:=omega) [zdp,zde,zdf,h1,h2,h3,h4,h5,hix,hby,hsr,hgt,hgt2]
    repeat' first|(refine ⟨by omega,?_⟩) | fail
    refine hK _ ?_;clear hK K
    refine zb4 rfl rfl λK hK=>?_
    simp (disch:=omega) [zdp,zde,zdf,h1,h2,h3,h4,h5,hix,hby,hsr,hgt,hgt2]
    refine hK _ ?_;clear hK K
    refine zbm ?_
    refine zb4 rfl rfl λK hK=>?_
    simp (disch:=omega) [zdp,zde,zdf,h1,h2,h3,h4,h5,hix,hby,hsr,hgt,hgt2]
    refine hK _ ?_;clear hK K
    refine ⟨_,LeS.kx [(501,501)] [(0,(.g (.int .i64 ((dv n (k+1):Nat))))),(5,.arr 501 0 m),(6,(.g (.int .i64 ((m:Int)-1-(k+1)))))] [(501,.flat 1 (fxR n m (k+1)))] (by simp [zG25,KpR,renV2,renV,zbj,zqp,zde,fxR_0,dv_0];omega) (by simp [zG25,KpOX,renO,plO,cvO,renV,pl1,zqp,zde,fxR_0,dv_0];exact hst) (by rfl) (by simp) (by simp) (by rfl) (by simp [formsX,List.range_succ,zbr,zbz]),_,?_,k+1,rfl,?_,rfl⟩
    ·omega
    ·omega
   ·try simp at hc2
    have hkm:k=m:=by omega
    subst hkm
    refine zbw ?_
    refine zbm ?_
    refine AW_x rfl rfl λK hK=>?_
    simp (disch:=omega) [zdp,zde,zdf,h1,h2,h3,h4,h5]
    refine hK _ ?_;clear hK K
    refine zbo (zb7 [] [] (by simp [zG25,List.range_succ]) (by simp) ?_)
    simp (disch:=omega) [zdp,zde,zdf,h1,h2,h3,h4,h5]
end Go.Proofs.YtodmafgmdlkhoaaDoor.Vs
end
section
namespace Go.Proofs.YtodmafgmdlkhoaaDoor.Vs
set_option linter.all false
set_option maxRecDepth 100000
set_option maxHeartbeats 4000000
theorem lb_by(n k:Nat):UInt8.ofNat (lb n k).toNat=UInt8.ofNat (n / 2^(8*k)):=by unfold lb;rw [Int.toNat_natCast];exact zm1 _
theorem fix7(s:List UInt8)(hs:s.length≤1073741824):PCall Tryd.prog 59 [(.g (.int .i64 (8*(s.length:Int)))),(.g (.int .i64 (7)))] (.s (strN (loB (8*s.length) 7))):=by
 have h:PCall Tryd.prog 59 [(.g (.int .i64 (((8*s.length:Nat):Int)))),(.g (.int .i64 (((7:Nat):Int))))] (.s (strN (loB (8*s.length) 7))):=zdl (fixS (8*s.length) 7 (by omega) (by omega)) rfl
 rw [show ((8*s.length:Nat):Int)=8*(s.length:Int) by omega] at h
 exact h
theorem fix4(x:W32):PCall Tryd.prog 59 [(.g (.int .i64 (wI x))),(.g (.int .i64 (4)))] (.s (by4 x)):=by
 have h:PCall Tryd.prog 59 [(.g (.int .i64 (((x.toNat:Nat):Int)))),(.g (.int .i64 (((4:Nat):Int))))] (.s (strN (loB x.toNat 4))):=zdl (fixS x.toNat 4 (by omega) x.isLt) rfl
 have e:strN (loB x.toNat 4)=by4 x:=by
  unfold by4
  simp only [loB,strN,List.map_cons,List.map_nil,lb_by]
  simp
 rw [e] at h
 exact h
theorem zhl:∀k:Nat,numsOf (List.replicate k [AV.g (.int .u8 0)])=some (List.replicate k 0)
 | 0=>rfl
 | k+1=>by
  rw [List.replicate_succ,numsOf,zhl k];rfl
theorem zqq(k:Nat):strN (List.replicate k 0)=List.replicate k 0:=by simp [strN]
theorem pad_i(s:List UInt8)(hs:s.length≤1073741824):s++([128]++(List.replicate (zerosN s.length+1) 0++strN (loB (8*s.length) 7)))=padS s:=by
 have e:lenB s.length=0 :: strN (loB (8*s.length) 7):=by
  have h0:s.length*8 / 2^(56-8*0)=0:=Nat.div_eq_of_lt (by omega)
  unfold lenB
  simp only [loB,strN,List.map_cons,List.map_nil,lb_by]
  rw [Nat.mul_comm 8 s.length]
  simp only [List.range_succ,List.range_zero,List.map_append,List.map_cons,List.map_nil,List.nil_append,List.cons_append]
  rw [h0]
  rfl
 unfold padS
 rw [e,List.replicate_succ']
 simp
def q9(n:Nat):Nat:=(n+9) % 64
theorem q9_lt(n:Nat):q9 n<64:=by unfold q9;omega
theorem zer_0(n:Nat):((n:Int)+9).tmod 64=(q9 n:Int):=by rw [Int.tmod_eq_emod_of_nonneg (by omega)];unfold q9;omega
theorem zer_i(n:Nat):((64:Int)-(q9 n:Int)).tmod 64=(zerosN n:Int):=by
 have:=q9_lt n
 rw [Int.tmod_eq_emod_of_nonneg (by omega)]
 unfold zerosN q9
 omega
theorem blks_0(t:List UInt8):blks t 0=shaH:=rfl
def outW(v:W8)(i:Nat):List UInt8:=(List.range i).flatMap λj=>by4 (v.get j)
theorem outW_0(v:W8):outW v 0=[]:=rfl
theorem outW_s(v:W8)(i:Nat):outW v (i+1)=outW v i++by4 (v.get i):=by unfold outW;rw [List.range_succ,List.flatMap_append];simp
theorem outW_8(v:W8):outW v 8=by32 v:=rfl
theorem zjs(v:W8):∀i,(outW v i).length=4*i
 | 0=>rfl
 | i+1=>by rw [outW_s,List.length_append,zjs v i];rfl
theorem zvz(x:W32):(by4 x).length=4:=rfl
theorem zqr(n:Nat):(loB n 7).length=7:=zvy n 7
attribute [local simp] zhl zqq zkh zqr zvz zjs uC wU
def zG26:=And.intro @zhl (And.intro @zqq (And.intro @zkh (And.intro @zqr (And.intro @zvz @zjs))))
theorem implSha(s:List UInt8)(hs:s.length≤1073741824):XCall Tryd.prog 53 [.s s] [] (.s (shaS s)) [] []:=by
 have hz0:=zer_0 s.length
 have hq:=q9_lt s.length
 have hz:=zer_i s.length
 have hzl:=zxk s.length
 refine zbq Tryd.func53 (by rfl) (by rfl) (by rw [Tryd.ntmps53];exact Nat.le_of_ble_eq_true rfl) rfl (by simp) rfl rfl ?_
 rw [Tryd.ntmps53]
 refine zdk   ?_
 refine AW_k [(0,_)] ⟨rfl,trivial⟩ ?_
 refine AW_x rfl rfl λK hK=>?_
 simp (disch:=omega) [zG26,hz0,hz]
 refine hK _ ?_;clear hK K
 refine AW_x rfl rfl λK hK=>?_
 simp (disch:=omega) [zG26,hz0,hz]
 refine hK _ ?_;clear hK K
 refine AW_x rfl rfl λK hK=>?_
 simp (disch:=omega) [zG26,hz0,hz]
 refine hK _ ?_;clear hK K
 refine AW_d rfl mix (by kernel_rfl) (by kernel_rfl) λK hK=>?_
 simp (disch:=omega) [zG26,hz0,hz]
 repeat' first|(refine zjf (λst'=>(zbf zcb (zbf zcb zbn))) (fix7 s hs) rfl ?_;simp (disch:=omega) [zG26,hz0,hz])|(refine ⟨by omega,?_⟩) | fail
 refine hK _ _ (by kernel_rfl) ?_;clear hK K
 refine AW_x rfl rfl λK hK=>?_
 simp (disch:=omega) [zG26,hz0,hz]
 refine hK _ ?_;clear hK K
 refine zbe ?_
 refine AW_x rfl rfl λK hK=>?_
 simp (disch:=omega) [zG26,hz0,hz]
 refine hK _ ?_;clear hK K
 refine zbi ?_
 refine zbt (λmM sS=>∃(j:Nat),mM=(padS s).length-64*j∧(64*j≤(padS s).length)∧sS = { env:=lkE [(5,.s (padS s)),(6,.ptr 112 0),(7,(.g (.int .i64 ((64*j:Nat)))))],ob:=lk [(112,.cells (uC (blks (padS s) j)))] }) ?_ ?_
 ·refine ⟨_,LeS.kx [(112,112)] [(5,.s (padS s)),(6,.ptr 112 0),(7,(.g (.int .i64 ((64*(0):Nat)))))] [(112,.cells (uC (blks (padS s) (0))))] (by simp [zG25,KpR,renV2,renV,zbj,uC,wU];exact pad_i s hs) (by simp [zG25,KpOX,renO,plO,cvO,renV,pl1,uC,wU];(simp only [blks_0];exact ⟨rfl,rfl,rfl,rfl,rfl,rfl,rfl,rfl⟩)) (by rfl) (by simp) (by simp) (by rfl) (by simp [formsX,List.range_succ,zbr,zbz]),_,0,rfl,?_,rfl⟩
  ·simp
 ·rintro mM sS ⟨j,rfl,hj,rfl⟩
  have hpl:=zw3 s
  have hpz:=zxk s.length
  obtain ⟨v,hv⟩:∃v,blks (padS s) j=v:=⟨_,rfl⟩
  rw [hv]
  refine zbe ?_
  refine AW_x rfl rfl λK hK=>?_
  simp (disch:=omega) [zG26,hz0,hz]
  refine hK _ ?_;clear hK K
  refine zbg rfl (λhc1=>?_) (λhc1=>?_)
  ·try simp at hc1
   have hj2:64*j+64≤(padS s).length:=by omega
   have hsl:List.take ((64*(j:Int)+64).toNat-(64*(j:Int)).toNat) (List.drop (64*(j:Int)).toNat (padS s))=((padS s).drop (64*j)).take 64:=by rw [show (64*(j:Int)).toNat=64*j by omega,show (64*(j:Int)+64).toNat-64*j=64 by omega]
   have hbl:(((padS s).drop (64*j)).take 64).length=64:=by simp;omega
   have hbs:blks (padS s) (j+1)=blk v (((padS s).drop (64*j)).take 64):=by rw [zsr,hv]
   refine zbh ?_
   refine zbm ?_
   refine zbe ?_
   refine zbi ?_
   refine zje rfl mix (by kernel_rfl) (by kernel_rfl) λK hK=>?_
   simp (disch:=omega) [zG26,hz0,hz,hsl]
   repeat' first|(refine DKd_y [] true [] (shaBlk v (((padS s).drop (64*j)).take 64) hbl) ?_ (λst' hst=>?_) ?_;(focus (simp [List.range_succ,nmC];done));(focus (simp (disch:=omega) [zG26,hz0,hz,hsl,nmC,List.range_succ] at hst;simp (disch:=omega) [zG26,hz0,hz,hsl,hst,zbv,nmC,List.range_succ];done));simp (disch:=omega) [zG26,hz0,hz,hsl])|(refine ⟨by omega,?_⟩) | fail
   refine hK _ _ (by kernel_rfl) ?_;clear hK K
   refine zbm ?_
   refine zb4 rfl rfl λK hK=>?_
   simp (disch:=omega) [zG26,hz0,hz,hsl]
   refine hK _ ?_;clear hK K
   refine ⟨_,LeS.kx [(112,112)] [(5,.s (padS s)),(6,.ptr 112 0),(7,(.g (.int .i64 ((64*(j+1):Nat)))))] [(112,.cells (uC (blks (padS s) (j+1))))] (by simp [zG25,KpR,renV2,renV,zbj,uC,wU];omega) (by simp [zG25,KpOX,renO,plO,cvO,renV,pl1,uC,wU];(simp only [hbs,and_self];done)) (by rfl) (by simp) (by simp) (by rfl) (by simp [formsX,List.range_succ,zbr,zbz]),_,?_,j+1,rfl,?_,rfl⟩
   ·omega
   ·omega
  ·try simp at hc1
   have hjl:64*j=(padS s).length:=by omega
   refine zbw ?_
   refine zbm ?_
   refine AW_x rfl rfl λK hK=>?_
   simp (disch:=omega) [zG26,hz0,hz]
   refine hK _ ?_;clear hK K
   refine zbe ?_
   refine AW_x rfl rfl λK hK=>?_
   simp (disch:=omega) [zG26,hz0,hz]
   refine hK _ ?_;clear hK K
   refine zbi ?_
   refine zbt (λmM sS=>∃(i:Nat),mM=8-i∧(i≤8)∧sS = { env:=lkE [(8,.s (outW v i)),(44,.agg (uC v)),(45,(.g (.int .i64 ((i:Nat)))))],ob:=lk [] }) ?_ ?_
   ·refine ⟨_,LeS.kx [] [(8,.s (outW v (0))),(44,.agg (uC v)),(45,(.g (.int .i64 (((0):Nat)))))] [] (by simp [zG25,KpR,renV2,renV,zbj,uC,wU];exact outW_0 v) (by simp [zG25,KpOX,renO,plO,cvO,renV,pl1,uC,wU]) (by rfl) (by simp) (by simp) (by rfl) (by simp [formsX,List.range_succ,zbr,zbz]),_,0,rfl,?_,rfl⟩
    ·simp
   ·rintro mM sS ⟨i,rfl,hi,rfl⟩
    have hol:=zjs v i
    refine AW_x rfl rfl λK hK=>?_
    simp (disch:=omega) [zG26,hz0,hz]
    refine hK _ ?_;clear hK K
    refine zbe ?_
    refine zbg rfl (λhc2=>?_) (λhc2=>?_)
    ·try simp at hc2
     have hi2:i<8:=by omega
     have g2:=uC_get v i hi2
     simp only [uC,wU] at g2
     have hbd:=wI_bd (v.get i)
     have hos:=outW_s v i
     refine zbh ?_
     refine zbm ?_
     refine zbe ?_
     refine zbi ?_
     refine AW_x rfl rfl λK hK=>?_
     simp (disch:=omega) [zG26,hz0,hz,g2]
     repeat' first|(refine ⟨by omega,?_⟩) | fail
     refine hK _ ?_;clear hK K
     refine zb4 rfl rfl λK hK=>?_
     simp (disch:=omega) [zG26,hz0,hz,g2]
     repeat' first|(refine zf1 (zbf zcb (zbf zcb zbn)) (fix4 _) rfl ?_;simp (disch:=omega) [zG26,hz0,hz,g2])|(refine ⟨by omega,?_⟩) | fail
     refine hK _ ?_;clear hK K
     refine zbm ?_
     refine zb4 rfl rfl λK hK=>?_
     simp (disch:=omega) [zG26,hz0,hz,g2]
     refine hK _ ?_;clear hK K
     refine ⟨_,LeS.kx [] [(8,.s (outW v (i+1))),(44,.agg (uC v)),(45,(.g (.int .i64 (((i+1):Nat)))))] [] (by simp [zG25,KpR,renV2,renV,zbj,uC,wU];(rw [hos];done)) (by simp [zG25,KpOX,renO,plO,cvO,renV,pl1,uC,wU]) (by rfl) (by simp) (by simp) (by rfl) (by simp [formsX,List.range_succ,zbr,zbz]),_,?_,i+1,rfl,?_,rfl⟩
     ·omega
     ·omega
    ·try simp at hc2
     have hil:i=8:=by omega
     subst hil
     refine zbw ?_
     refine zbm ?_
     refine AW_x rfl rfl λK hK=>?_
     simp (disch:=omega) [zG26,hz0,hz]
     refine hK _ ?_;clear hK K
     refine zbo (zb7 [] [] (by simp [zG25,List.range_succ]) (by simp) ?_)
     simp (disch:=omega) [zG26,hz0,hz]
     (unfold shaS;rw [show (padS s).length / 64=j by omega,hv];exact outW_8 v)
theorem implShaP(s:List UInt8)(hs:s.length≤1073741824):PCall Tryd.prog 53 [.s s] (.s (shaS s)):=zdl (implSha s hs) rfl
attribute [local simp] zw4
attribute [-simp] zhl zqq zkh zqr zvz zjs uC wU
theorem implShort(s:List UInt8)(hs:s.length≤1073741824):PCall Tryd.prog 34 [.s s] (.s (shortS s)):=by
 refine zbp Tryd.func34 (by rfl) (by rfl) (by rw [Tryd.ntmps34];exact Nat.le_of_ble_eq_true rfl) rfl (by decide) ?_
 rw [Tryd.ntmps34]
 refine AW_k [(0,_)] ⟨rfl,trivial⟩ ?_
 refine AW_r rfl rfl λK hK=>?_
 simp (disch:=omega)
 refine hK _ ?_;clear hK K
 refine AW_r rfl rfl λK hK=>?_
 simp (disch:=omega)
 repeat' first|(refine zci (zbf zd9 zbn) (implShaP _ hs) rfl ?_;simp (disch:=omega)) | fail
 refine hK _ ?_;clear hK K
 refine zbo (zcc ?_)
 simp (disch:=omega)
 rfl
end Go.Proofs.YtodmafgmdlkhoaaDoor.Vs
end
section
namespace Go.Proofs.YtodmafgmdlkhoaaDoor.Vs
set_option linter.all false
set_option maxRecDepth 100000
/-! from what the row lists of the variable to what the walk asks of it -/
theorem zst{w:World}{I:Nat→Prop}{b:Nat}:∀(ns:List Int) (o:Nat),(∀(i:Nat) n,ns[i]? = some n→w.cell? ⟨b,o+i,none⟩=some (.int .u32 n))→RIc w I b o (ns.map λn=>.g (.int .u32 n))
 | [],o,_=>by rw [List.map_nil,RIc];trivial
 | n :: ns,o,h=>by
  rw [List.map_cons,RIc]
  refine ⟨⟨.int .u32 n,by simpa using h 0 n rfl,by rw [RI];exact ⟨rfl,rfl⟩⟩,zst ns (o+1) λi m hm=>?_⟩
  have:=h (i+1) m (by simpa using hm)
  rwa [show o+1+i=o+(i+1) by omega]
theorem zz9{P:Program}{W:World}{vn:String}{vt e:TypeId}(hg:P.globalNamed vn=some 0)(ht:(P.globals[0]?).map (·.type)=some vt)(hu:P.underlying vt=some (.array 64 e))(he:P.underlying e=some (.int .u32))(hc:P.cellsOf e=1)
 (h:laidMet P [(vn,.agg (shaN.map λn=>.lit (.int .u32 n)))] W):GW W λb=>b<W.heap.size:=by
 obtain ⟨ps,⟨g,t,cs,fuel,p,q,h1,h2,h3,h4,-,-⟩,-,-⟩:=h
 obtain rfl:g=0:=Option.some.inj (h1.symm.trans hg)
 obtain rfl:t=vt:=Option.some.inj (h2.symm.trans ht)
 obtain ⟨xs,m,-,hx,hl,hn,hi⟩:=DataW.trod_array hu h4
 have hxs:xs.map (·.1)=shaN.map λn=>.lit (.int .u32 n):=by
  have:=congrArg Prod.fst hx
  simpa using this.symm
 have hcell:∀i,W.cell? ⟨0,i,none⟩=cs[i]?:=by
  intro i
  simp only [World.var?,h1,Option.bind_some] at h3
  split at h3<;>simp_all [World.cell?]
 have hsz:0<W.heap.size:=by
  simp only [World.var?,h1,Option.bind_some] at h3
  split at h3
  ·rename_i hh;exact (Array.getElem?_eq_some_iff.1 hh).1
  ·cases h3
 refine ⟨hsz,zst shaN 0 λi n hin=>?_⟩
 rw [Nat.zero_add,hcell]
 have hlen:shaN.length=64:=by have:=congrArg List.length hxs;simp only [List.length_map] at this;omega
 have hi64:i<64:=by have:=(List.getElem?_eq_some_iff.1 hin).1;omega
 have hxi:∃y,xs[i]? = some y∧y.1=.lit (.int .u32 n):=by
  have h5:=congrArg (·[i]?) hxs
  simp only [List.getElem?_map,hin,Option.map_some] at h5
  cases hy:xs[i]? with
  | none=>rw [hy] at h5;cases h5
  | some y=>rw [hy] at h5;exact ⟨y,rfl,Option.some.inj h5⟩
 obtain ⟨y,hy,hy1⟩:=hxi
 have h6:=hi i hi64
 rw [hy,hc,Nat.mul_one] at h6
 obtain ⟨n',h7,h8,-⟩:=DataW.trod_int he h6
 rw [h8] at hy1
 have hnn:n'=n:=by simpa using hy1
 subst hnn
 have h9:(cs.toList.drop i)[0]? = some (.int .u32 n'):=by
  have:=congrArg (·[0]?) h7
  simpa [List.getElem?_take] using this
 simpa using h9
end Go.Proofs.YtodmafgmdlkhoaaDoor.Vs
end
section
namespace Go.Proofs.YtodmafgmdlkhoaaDoor.Vs
set_option linter.all false
set_option maxRecDepth 100000
set_option maxHeartbeats 2000000
noncomputable def hashS(s:DtState):List UInt8:=bif decB (StateP s) then shortS (showState s) else []
def zG27:=And.intro @zcj (And.intro @gE @tP)
def zG28:=And.intro @zbk @zbl
theorem specHash(s:DtState)(hs:DtState.sz s≤1048576):PCall Tryd.prog 13 [.agg (DtState.cells s)] (.s (hashS s)):=by
 by_cases hP:StateP s
 ·have hd:=zcl hP
  have hh:hashS s=shortS (showState s):=by unfold hashS;rw [hd];rfl
  refine zbp Tryd.func13 (by rfl) (by rfl) (by rw [Tryd.ntmps13];exact Nat.le_of_ble_eq_true rfl) rfl (by decide) ?_
  rw [Tryd.ntmps13]
  refine AW_k [(0,_)] ⟨rfl,trivial⟩ ?_
  refine AW_r rfl rfl λK hK=>?_
  simp (disch:=omega) [zG27,DtState.cells,DtCatalog.cells,hd,hh]
  refine hK _ ?_;clear hK K
  refine zbe ?_
  refine AW_r rfl rfl λK hK=>?_
  simp (disch:=omega) [zG27,DtState.cells,DtCatalog.cells,hd,hh]
  repeat' first|(refine zci (zbf (zcn rfl) zbn) (zdz _ (by omega)) rfl ?_;simp (disch:=omega) [zG27,DtState.cells,DtCatalog.cells,hd,hh]) | fail
  refine hK _ ?_;clear hK K
  refine zbg rfl (λhc1=>?_) (λhc1=>?_)
  ·try simp [zG28,zbc,zba] at hc1
  ·try simp [zG28,zbc,zba] at hc1
   refine zbh ?_
   refine zbm ?_
   refine AW_r rfl rfl λK hK=>?_
   simp (disch:=omega) [zG27,DtState.cells,DtCatalog.cells,hd,hh]
   repeat' first|(refine zci (zbf (zcn rfl) zbn) (zfe s hs) rfl ?_;simp (disch:=omega) [zG27,DtState.cells,DtCatalog.cells,hd,hh])|(refine zci (zbf zd9 zbn) (zm2 _ (zjq s hs)) rfl ?_;simp (disch:=omega) [zG27,DtState.cells,DtCatalog.cells,hd,hh]) | fail
   refine hK _ ?_;clear hK K
   refine zbo (zcc ?_)
   simp (disch:=omega) [zG27,DtState.cells,DtCatalog.cells,hd,hh]
 ·have hd:=zgb hP
  have hh:hashS s=[]:=by unfold hashS;rw [hd];rfl
  refine zbp Tryd.func13 (by rfl) (by rfl) (by rw [Tryd.ntmps13];exact Nat.le_of_ble_eq_true rfl) rfl (by decide) ?_
  rw [Tryd.ntmps13]
  refine AW_k [(0,_)] ⟨rfl,trivial⟩ ?_
  refine AW_r rfl rfl λK hK=>?_
  simp (disch:=omega) [zG27,DtState.cells,DtCatalog.cells,hd,hh]
  refine hK _ ?_;clear hK K
  refine zbe ?_
  refine AW_r rfl rfl λK hK=>?_
  simp (disch:=omega) [zG27,DtState.cells,DtCatalog.cells,hd,hh]
  repeat' first|(refine zci (zbf (zcn rfl) zbn) (zdz _ (by omega)) rfl ?_;simp (disch:=omega) [zG27,DtState.cells,DtCatalog.cells,hd,hh]) | fail
  refine hK _ ?_;clear hK K
  refine zbg rfl (λhc2=>?_) (λhc2=>?_)
  ·try simp [zG28,zbc,zba] at hc2
   refine AW_r rfl rfl λK hK=>?_
   simp (disch:=omega) [zG27,DtState.cells,DtCatalog.cells,hd,hh]
   refine hK _ ?_;clear hK K
   refine zbo (zcc ?_)
   simp (disch:=omega) [zG27,DtState.cells,DtCatalog.cells,hd,hh]
  ·try simp [zG28,zbc,zba] at hc2
theorem implHash(s:DtState)(hs:DtState.sz s≤1048576):PCall Tryd.prog 12 [.agg (DtState.cells s)] (.s (hashS s)):=by
 by_cases hP:StateP s
 ·have hd:=zcl hP
  have hh:hashS s=shortS (showState s):=by unfold hashS;rw [hd];rfl
  refine zbp Tryd.func12 (by rfl) (by rfl) (by rw [Tryd.ntmps12];exact Nat.le_of_ble_eq_true rfl) rfl (by decide) ?_
  rw [Tryd.ntmps12]
  refine AW_k [(0,_)] ⟨rfl,trivial⟩ ?_
  refine AW_r rfl rfl λK hK=>?_
  simp (disch:=omega) [zG27,DtState.cells,DtCatalog.cells,hd,hh]
  refine hK _ ?_;clear hK K
  refine zbe ?_
  refine AW_r rfl rfl λK hK=>?_
  simp (disch:=omega) [zG27,DtState.cells,DtCatalog.cells,hd,hh]
  repeat' first|(refine zci (zbf (zcn rfl) zbn) (zgn _ (by omega)) rfl ?_;simp (disch:=omega) [zG27,DtState.cells,DtCatalog.cells,hd,hh]) | fail
  refine hK _ ?_;clear hK K
  refine zbg rfl (λhc3=>?_) (λhc3=>?_)
  ·try simp [zG28,zbc,zba] at hc3
  ·try simp [zG28,zbc,zba] at hc3
   refine zbh ?_
   refine zbm ?_
   refine AW_r rfl rfl λK hK=>?_
   simp (disch:=omega) [zG27,DtState.cells,DtCatalog.cells,hd,hh]
   repeat' first|(refine zci (zbf (zcn rfl) zbn) (zff s hs) rfl ?_;simp (disch:=omega) [zG27,DtState.cells,DtCatalog.cells,hd,hh])|(refine zci (zbf zd9 zbn) (implShort _ (zjq s hs)) rfl ?_;simp (disch:=omega) [zG27,DtState.cells,DtCatalog.cells,hd,hh]) | fail
   refine hK _ ?_;clear hK K
   refine zbo (zcc ?_)
   simp (disch:=omega) [zG27,DtState.cells,DtCatalog.cells,hd,hh]
 ·have hd:=zgb hP
  have hh:hashS s=[]:=by unfold hashS;rw [hd];rfl
  refine zbp Tryd.func12 (by rfl) (by rfl) (by rw [Tryd.ntmps12];exact Nat.le_of_ble_eq_true rfl) rfl (by decide) ?_
  rw [Tryd.ntmps12]
  refine AW_k [(0,_)] ⟨rfl,trivial⟩ ?_
  refine AW_r rfl rfl λK hK=>?_
  simp (disch:=omega) [zG27,DtState.cells,DtCatalog.cells,hd,hh]
  refine hK _ ?_;clear hK K
  refine zbe ?_
  refine AW_r rfl rfl λK hK=>?_
  simp (disch:=omega) [zG27,DtState.cells,DtCatalog.cells,hd,hh]
  repeat' first|(refine zci (zbf (zcn rfl) zbn) (zgn _ (by omega)) rfl ?_;simp (disch:=omega) [zG27,DtState.cells,DtCatalog.cells,hd,hh]) | fail
  refine hK _ ?_;clear hK K
  refine zbg rfl (λhc4=>?_) (λhc4=>?_)
  ·try simp [zG28,zbc,zba] at hc4
   refine AW_r rfl rfl λK hK=>?_
   simp (disch:=omega) [zG27,DtState.cells,DtCatalog.cells,hd,hh]
   refine hK _ ?_;clear hK K
   refine zbo (zcc ?_)
   simp (disch:=omega) [zG27,DtState.cells,DtCatalog.cells,hd,hh]
  ·try simp [zG28,zbc,zba] at hc4
end Go.Proofs.YtodmafgmdlkhoaaDoor.Vs
end
section
namespace Go.Proofs.YtodmafgmdlkhoaaDoor.Vs
set_option linter.all false
set_option maxRecDepth 100000
set_option maxHeartbeats 2000000
def SpoE(l:List Int)(n:Nat)(r:AV)(wos' fos:List OB):Prop:=∃(t:List UInt8) (c':Cur),t.length≤n+3∧r=.s t∧wos'=[.cells (curC l c')]∧fos=[]
def zG29:=And.intro @zcj (And.intro @gE (And.intro @tP (And.intro @and_assoc (And.intro @List.range_succ (And.intro @zbv (And.intro @zbk @zbl))))))
theorem l1Spoil(l:List Int)(hl:Code l)(c:Cur)(s:List UInt8)(hs:s.length≤1000000):XCallE Tryd.prog 25 [.ptr 8 0,.s s] [.cells (curC l c)] 0 (SpoE l s.length):=by
 refine zdb Tryd.func25 (by rfl) (by rfl) (by rw [Tryd.ntmps25];exact Nat.le_of_ble_eq_true rfl) (by simp) rfl rfl ?_
 rw [Tryd.ntmps25]
 refine AW_y1 (.cells (curC l c)) (by simp [cvO]<;>assumption) ?_
 refine AW_k [(0,_),(1,_)] ⟨rfl,rfl,trivial⟩ ?_
 refine AW_x rfl rfl λK hK=>?_
 simp (disch:=omega) [zG29,cI,cS,cU,numsOf,aBuildSlice,chunks,zca,List.length_cons,List.length_nil,↓zby]
 refine hK _ ?_;clear hK K
 refine zbe ?_
 refine AW_x rfl rfl λK hK=>?_
 simp (disch:=omega) [zG29,cI,cS,cU,numsOf,aBuildSlice,chunks,zca,List.length_cons,List.length_nil,↓zby]
 refine hK _ ?_;clear hK K
 refine zbg rfl (λhc1=>?_) (λhc1=>?_)
 ·try simp [zG28,zbc,zba] at hc1
  refine AW_x rfl rfl λK hK=>?_
  simp (disch:=omega) [zG29,cI,cS,cU,numsOf,aBuildSlice,chunks,zca,List.length_cons,List.length_nil,↓zby]
  repeat' first|(refine zco (λ_=>xs_p (xs_g xs_z)) (l1Text l hl _ 3 (by omega)) rfl rfl ?_;simp (disch:=omega) [zG29,cI,cS,cU,numsOf,aBuildSlice,chunks,zca,List.length_cons,List.length_nil,↓zby]) | fail
  refine hK _ ?_;clear hK K
  refine zbo ⟨(.s (strN (TXT l 3 c).1)),[.cells (curC l (TXT l 3 c).2)],[],?po,(by simp),(by simp),(by simp [OB.xk]),(zb7 [] [] (by simp [zG25,List.range_succ]) (by simp) ?en)⟩
  case en =>
   simp (disch:=omega) [zG29,cI,cS,cU,numsOf,aBuildSlice,chunks,zca,List.length_cons,List.length_nil,↓zby]
  case po=>refine ⟨_,_,?_,rfl,rfl,rfl⟩;have:=zki l 3 c;(simp [zca];omega)
 ·try simp [zG28,zbc,zba] at hc1
  refine zbh ?_
  refine zbm ?_
  have hbk:=zc5 l (s.length:Int) c
  have hk0:0≤below l (s.length:Int) c:=hbk.1
  have hkl:(below l (s.length:Int) c).toNat<s.length:=by have hs0:=List.length_pos_iff.2 (by assumption:¬s=[]);have:=hbk.2 (by omega);omega
  have hkz:below l (s.length:Int) c<s.length:=by omega
  refine AW_x rfl rfl λK hK=>?_
  simp (disch:=omega) [zG29,cI,cS,cU,numsOf,aBuildSlice,chunks,zca,List.length_cons,List.length_nil,↓zby]
  repeat' first|(refine zco (λ_=>xs_p (xs_g xs_z)) (zdi l hl _ _) rfl rfl ?_;simp (disch:=omega) [zG29,cI,cS,cU,numsOf,aBuildSlice,chunks,zca,List.length_cons,List.length_nil,↓zby]) | fail
  refine hK _ ?_;clear hK K
  refine zbe ?_
  refine AW_x rfl rfl λK hK=>?_
  simp (disch:=omega) [zG29,cI,cS,cU,numsOf,aBuildSlice,chunks,zca,List.length_cons,List.length_nil,↓zby]
  repeat' first|(refine zco (λ_=>xs_p (xs_g xs_z)) (zdi l hl _ _) rfl rfl ?_;simp (disch:=omega) [zG29,cI,cS,cU,numsOf,aBuildSlice,chunks,zca,List.length_cons,List.length_nil,↓zby]) | fail
  refine hK _ ?_;clear hK K
  refine zbi ?_
  refine AW_x rfl rfl λK hK=>?_
  simp (disch:=omega) [zG29,cI,cS,cU,numsOf,aBuildSlice,chunks,zca,List.length_cons,List.length_nil,↓zby]
  refine hK _ ?_;clear hK K
  refine zbg rfl (λhc2=>?_) (λhc2=>?_)
  ·try simp [zG28,zbc,zba] at hc2
   refine AW_d rfl mix (by kernel_rfl) (by kernel_rfl) λK hK=>?_
   simp (disch:=omega) [zG29,cI,cS,cU,numsOf,aBuildSlice,chunks,zca,List.length_cons,List.length_nil,↓zby]
   repeat' first|(refine ⟨by omega,?_⟩) | fail
   refine hK _ _ (by kernel_rfl) ?_;clear hK K
   refine zbo ⟨(.s (s.take (below l (s.length:Int) c).toNat++List.take (s.length-(below l (s.length:Int) c+1).toNat) (List.drop (below l (s.length:Int) c+1).toNat s))),[.cells (curC l (belowS l 4 (belowS l (s.length:Int) c)))],[],?po,(by simp),(by simp),(by simp [OB.xk]),(zb7 [] [] (by simp [zG25,List.range_succ]) (by simp) ?en)⟩
   case en =>
    simp (disch:=omega) [zG29,cI,cS,cU,numsOf,aBuildSlice,chunks,zca,List.length_cons,List.length_nil,↓zby]
   case po=>refine ⟨_,_,?_,rfl,rfl,rfl⟩;have:=zki l 3 c;(simp [zca];omega)
  ·try simp [zG28,zbc,zba] at hc2
   refine AW_x rfl rfl λK hK=>?_
   simp (disch:=omega) [zG29,cI,cS,cU,numsOf,aBuildSlice,chunks,zca,List.length_cons,List.length_nil,↓zby]
   refine hK _ ?_;clear hK K
   refine zbg rfl (λhc3=>?_) (λhc3=>?_)
   ·try simp [zG28,zbc,zba] at hc3
    refine AW_d rfl mix (by kernel_rfl) (by kernel_rfl) λK hK=>?_
    simp (disch:=omega) [zG29,cI,cS,cU,numsOf,aBuildSlice,chunks,zca,List.length_cons,List.length_nil,↓zby]
    repeat' first|(refine zmt (λ_=>xs_p xs_z) (zmz l hl _) rfl rfl ?_;simp (disch:=omega) [zG29,cI,cS,cU,numsOf,aBuildSlice,chunks,zca,List.length_cons,List.length_nil,↓zby])|(refine ⟨by omega,?_⟩) | fail
    refine hK _ _ (by kernel_rfl) ?_;clear hK K
    refine zbo ⟨(.s (s.take (below l (s.length:Int) c).toNat++(strN [IntKind.u8.wrap (byte l (belowS l 4 (belowS l (s.length:Int) c)))]++List.take (s.length-(below l (s.length:Int) c).toNat) (List.drop (below l (s.length:Int) c).toNat s)))),[.cells (curC l (stp l (belowS l 4 (belowS l (s.length:Int) c))))],[],?po,(by simp),(by simp),(by simp [OB.xk]),(zb7 [] [] (by simp [zG25,List.range_succ]) (by simp) ?en)⟩
    case en =>
     simp (disch:=omega) [zG29,cI,cS,cU,numsOf,aBuildSlice,chunks,zca,List.length_cons,List.length_nil,↓zby]
    case po=>refine ⟨_,_,?_,rfl,rfl,rfl⟩;have:=zki l 3 c;(simp [zca];omega)
   ·try simp [zG28,zbc,zba] at hc3
    refine AW_x rfl rfl λK hK=>?_
    simp (disch:=omega) [zG29,cI,cS,cU,numsOf,aBuildSlice,chunks,zca,List.length_cons,List.length_nil,↓zby]
    refine hK _ ?_;clear hK K
    refine zbg rfl (λhc4=>?_) (λhc4=>?_)
    ·try simp [zG28,zbc,zba] at hc4
     refine AW_x rfl rfl λK hK=>?_
     simp (disch:=omega) [zG29,cI,cS,cU,numsOf,aBuildSlice,chunks,zca,List.length_cons,List.length_nil,↓zby]
     repeat' first|(refine ⟨by omega,?_⟩) | fail
     refine hK _ ?_;clear hK K
     refine zbo ⟨(.s (s.take (below l (s.length:Int) c).toNat)),[.cells (curC l (belowS l 4 (belowS l (s.length:Int) c)))],[],?po,(by simp),(by simp),(by simp [OB.xk]),(zb7 [] [] (by simp [zG25,List.range_succ]) (by simp) ?en)⟩
     case en =>
      simp (disch:=omega) [zG29,cI,cS,cU,numsOf,aBuildSlice,chunks,zca,List.length_cons,List.length_nil,↓zby]
     case po=>refine ⟨_,_,?_,rfl,rfl,rfl⟩;have:=zki l 3 c;(simp [zca];omega)
    ·try simp [zG28,zbc,zba] at hc4
     refine zbh ?_
     refine zbm ?_
     refine AW_d rfl mix (by kernel_rfl) (by kernel_rfl) λK hK=>?_
     simp (disch:=omega) [zG29,cI,cS,cU,numsOf,aBuildSlice,chunks,zca,List.length_cons,List.length_nil,↓zby]
     repeat' first|(refine zmt (λ_=>xs_p (xs_g xs_z)) (zdi l hl _ _) rfl rfl ?_;simp (disch:=omega) [zG29,cI,cS,cU,numsOf,aBuildSlice,chunks,zca,List.length_cons,List.length_nil,↓zby])|(refine ⟨by omega,?_⟩) | fail
     refine hK _ _ (by kernel_rfl) ?_;clear hK K
     refine zbo ⟨(.s (s.take (below l (s.length:Int) c).toNat++(strN [IntKind.u8.wrap (xorZ (IntKind.i64.wrap (s[(below l (s.length:Int) c).toNat].toNat:Int)) (IntKind.i64.wrap (1+below l 255 (belowS l 4 (belowS l (s.length:Int) c)))))]++List.take (s.length-(below l (s.length:Int) c+1).toNat) (List.drop (below l (s.length:Int) c+1).toNat s)))),[.cells (curC l (belowS l 255 (belowS l 4 (belowS l (s.length:Int) c))))],[],?po,(by simp),(by simp),(by simp [OB.xk]),(zb7 [] [] (by simp [zG25,List.range_succ]) (by simp) ?en)⟩
     case en =>
      simp (disch:=omega) [zG29,cI,cS,cU,numsOf,aBuildSlice,chunks,zca,List.length_cons,List.length_nil,↓zby]
     case po=>refine ⟨_,_,?_,rfl,rfl,rfl⟩;have:=zki l 3 c;(simp [zca];omega)
def ShoD(r:AV)(wos' fos:List OB):Prop:=∃s:DtState,DtState.sz s≤20000∧r=.agg (DtState.cells s)∧wos'=[]∧fos=[]
theorem DrawShow(l:List Int)(hl:Code l):XCallE Tryd.prog 5 [.sl 1 (l.map cU)] [] 0 ShoD:=by
 refine zdb Tryd.func5 (by rfl) (by rfl) (by rw [Tryd.ntmps5];exact Nat.le_of_ble_eq_true rfl) (by simp) rfl rfl ?_
 rw [Tryd.ntmps5]
 refine AW_y0   ?_
 refine AW_k [(0,_)] ⟨rfl,trivial⟩ ?_
 refine AW_x rfl rfl λK hK=>?_
 simp (disch:=omega) [zG29,cI,cS,cU,DtState.cells,DtCatalog.cells]
 refine hK _ ?_;clear hK K
 refine AW_x rfl rfl λK hK=>?_
 simp (disch:=omega) [zG29,cI,cS,cU,DtState.cells,DtCatalog.cells]
 repeat' first|(refine zch [] false [] (l1New l hl) ?_ ?_ ?_;(focus (simp [List.range_succ,nmC];done));(focus (simp (disch:=omega) [zG29,cI,cS,cU,DtState.cells,DtCatalog.cells];done));simp (disch:=omega) [zG29,cI,cS,cU,DtState.cells,DtCatalog.cells]) | fail
 refine hK _ ?_;clear hK K
 refine AW_x rfl rfl λK hK=>?_
 simp (disch:=omega) [zG29,cI,cS,cU,DtState.cells,DtCatalog.cells]
 repeat' first|(refine zr3 [96] false [] (l16Some l hl (cur0 l)) ?_ ?_ ?_;(focus (simp [List.range_succ,nmC];done));(focus (simp (disch:=omega) [zG29,cI,cS,cU,DtState.cells,DtCatalog.cells];done));rintro _ _ _ ⟨s,c1,hG,rfl,rfl,rfl⟩;refine ⟨⟨by rfl,by rfl⟩,?_⟩;simp (disch:=omega) [zG29,cI,cS,cU,DtState.cells,DtCatalog.cells]) | fail
 refine hK _ ?_;clear hK K
 refine zmk (.agg (DtState.cells s)) [] [] ?po (by simp) (by simp) (by simp [OB.xk]) (zb7 [] [] (by simp [zG25,List.range_succ]) (by simp) ?en)
 case en =>
  simp (disch:=omega) [zG29,cI,cS,cU,DtState.cells,DtCatalog.cells]
 case po=>exact ⟨s,hG.1,rfl,rfl,rfl⟩
theorem zxs{s:DtState}(h:DtState.sz s≤20000):(showState s).length≤900000:=by
 unfold showState
 by_cases hP:StateP s
 ·rw [zcl hP]
  show (showSt s).length≤_
  have hS:∀x∈s.fCat.fSets,SetP x:=by intro x hx;obtain ⟨i,hi⟩:=zkk hx;exact (hP.1.2 i x hi).1
  have h5:s.fCat.fSets.length≤5:=hP.1.1
  have v1:=zcf s.fCat.fSets.length
  have v2:=zcf s.fSaid.length
  have v3:=zd4 showSet 507 s.fCat.fSets (λx hx=>(zhs (hS x hx)).2.2.2)
  have v4:=zqo s.fSaid
  have v5:=DtCatalog.sz_nonneg s.fCat
  have v7:=zb9 DtSaid.sz_nonneg s.fSaid
  have v6:(s.fCat.fSets.length*507:Nat)≤5*507:=Nat.mul_le_mul_right _ h5
  simp only [DtState.sz,szS] at h
  unfold showSt
  simp only [List.length_append]
  omega
 ·rw [zgb hP];simp
def ReaD(r:AV)(wos' fos:List OB):Prop:=∃t:List UInt8,t.length≤1000000∧r=.s t∧wos'=[]∧fos=[]
theorem DrawRead(l:List Int)(hl:Code l):XCallE Tryd.prog 8 [.sl 1 (l.map cU)] [] 0 ReaD:=by
 refine zdb Tryd.func8 (by rfl) (by rfl) (by rw [Tryd.ntmps8];exact Nat.le_of_ble_eq_true rfl) (by simp) rfl rfl ?_
 rw [Tryd.ntmps8]
 refine AW_y0   ?_
 refine AW_k [(0,_)] ⟨rfl,trivial⟩ ?_
 refine AW_x rfl rfl λK hK=>?_
 simp (disch:=omega) [zG29,cI,cS,cU,DtState.cells,DtCatalog.cells]
 refine hK _ ?_;clear hK K
 refine AW_x rfl rfl λK hK=>?_
 simp (disch:=omega) [zG29,cI,cS,cU,DtState.cells,DtCatalog.cells]
 repeat' first|(refine zch [] false [] (l1New l hl) ?_ ?_ ?_;(focus (simp [List.range_succ,nmC];done));(focus (simp (disch:=omega) [zG29,cI,cS,cU,DtState.cells,DtCatalog.cells];done));simp (disch:=omega) [zG29,cI,cS,cU,DtState.cells,DtCatalog.cells]) | fail
 refine hK _ ?_;clear hK K
 refine AW_x rfl rfl λK hK=>?_
 simp (disch:=omega) [zG29,cI,cS,cU,DtState.cells,DtCatalog.cells]
 repeat' first|(refine zr3 [112] false [] (l16Some l hl (cur0 l)) ?_ ?_ ?_;(focus (simp [List.range_succ,nmC];done));(focus (simp (disch:=omega) [zG29,cI,cS,cU,DtState.cells,DtCatalog.cells];done));rintro _ _ _ ⟨s,c1,hG,rfl,rfl,rfl⟩;refine ⟨⟨by rfl,by rfl⟩,?_⟩;have hz:=hG.1;have hsl:=zxs hG.1;simp (disch:=omega) [zG29,cI,cS,cU,DtState.cells,DtCatalog.cells])|(refine zf1 (zbf (zcn rfl) zbn) (zfe s (by omega)) rfl ?_;simp (disch:=omega) [zG29,cI,cS,cU,DtState.cells,DtCatalog.cells]) | fail
 refine hK _ ?_;clear hK K
 refine zbe ?_
 refine AW_x rfl rfl λK hK=>?_
 simp (disch:=omega) [zG29,cI,cS,cU,DtState.cells,DtCatalog.cells]
 repeat' first|(refine zco (λ_=>xs_p (xs_g xs_z)) (zkt l hl _ _) rfl rfl ?_;simp (disch:=omega) [zG29,cI,cS,cU,DtState.cells,DtCatalog.cells]) | fail
 refine hK _ ?_;clear hK K
 refine zbg rfl (λhc5=>?_) (λhc5=>?_)
 ·try simp [zG28,zbc,zba] at hc5
  refine AW_x rfl rfl λK hK=>?_
  simp (disch:=omega) [zG29,cI,cS,cU,DtState.cells,DtCatalog.cells]
  repeat' first|(refine zr3 [112] false [] (l1Spoil l hl (belowS l 3 c1) (showState s) (by omega)) ?_ ?_ ?_;(focus (simp [List.range_succ,nmC];done));(focus (simp (disch:=omega) [zG29,cI,cS,cU,DtState.cells,DtCatalog.cells];done));rintro _ _ _ ⟨t,c2,ht,rfl,rfl,rfl⟩;refine ⟨⟨by rfl,by rfl⟩,?_⟩;simp (disch:=omega) [zG29,cI,cS,cU,DtState.cells,DtCatalog.cells]) | fail
  refine hK _ ?_;clear hK K
  refine zbo ⟨(.s t),[],[],?po,(by simp),(by simp),(by simp [OB.xk]),(zb7 [] [] (by simp [zG25,List.range_succ]) (by simp) ?en)⟩
  case en =>
   simp (disch:=omega) [zG29,cI,cS,cU,DtState.cells,DtCatalog.cells]
  case po=>exact ⟨t,by omega,rfl,rfl,rfl⟩
 ·try simp [zG28,zbc,zba] at hc5
  refine zbh ?_
  refine zbm ?_
  refine AW_x rfl rfl λK hK=>?_
  simp (disch:=omega) [zG29,cI,cS,cU,DtState.cells,DtCatalog.cells]
  refine hK _ ?_;clear hK K
  refine zbo ⟨(.s (showState s)),[],[],?po,(by simp),(by simp),(by simp [OB.xk]),(zb7 [] [] (by simp [zG25,List.range_succ]) (by simp) ?en)⟩
  case en =>
   simp (disch:=omega) [zG29,cI,cS,cU,DtState.cells,DtCatalog.cells]
  case po=>exact ⟨_,by omega,rfl,rfl,rfl⟩
end Go.Proofs.YtodmafgmdlkhoaaDoor.Vs
end
section
namespace Go.Proofs.YtodmafgmdlkhoaaDoor.Vs
set_option linter.all false
set_option maxRecDepth 100000
/-! A number of seven bits a byte, as it is read -/
def vval:List UInt8→Nat
 | []=>0
 | b :: t=>b.toNat % 128+128*vval t
theorem zsu:∀(l:List UInt8) (b:UInt8),vval (l++[b])=vval l+b.toNat % 128*128^l.length
 | [],b=>by simp [vval]
 | a :: l,b=>by
  have ih:=zsu l b
  simp only [List.cons_append,vval,ih,List.length_cons,Nat.pow_succ]
  rw [Nat.mul_add,←Nat.add_assoc,Nat.mul_comm (128^l.length) 128,←Nat.mul_assoc,←Nat.mul_assoc,Nat.mul_comm 128 (b.toNat % 128)]
theorem zv0:∀l:List UInt8,vval l<128^l.length
 | []=>by simp [vval]
 | a :: l=>by
  have ih:=zv0 l
  have h2:a.toNat % 128<128:=Nat.mod_lt _ (by decide)
  simp only [vval,List.length_cons,Nat.pow_succ]
  omega
theorem zjt(n:Nat):1≤(varB n).length:=by
 by_cases h:n<128
 ·rw [zgo h];simp
 ·rw [zkj h];simp
theorem zll{m:Nat}(h:m<256):(UInt8.ofNat m).toNat=m:=by
 rw [UInt8.toNat_ofNat'];omega
theorem varB_val:∀(k n:Nat),n≤k→vval (varB n)=n:=by
 intro k
 induction k with
 | zero => intro n h; obtain rfl : n = 0 := by omega
           rw [zgo (by decide)];simp [vval]
 | succ k ih =>
  intro n h
  by_cases h2:n<128
  ·rw [zgo h2];simp only [vval];rw [zll (by omega)];omega
  ·rw [zkj h2]
   simp only [vval]
   rw [zll (by omega),ih (n / 128) (by omega)]
   omega
/-- All its bytes but the last are at least 128. -/
theorem varB_at:∀(k n:Nat),n≤k→∀(i:Nat) b,(varB n)[i]? = some b→(128≤b.toNat↔i+1<(varB n).length):=by
 intro k
 induction k with
 | zero =>
  intro n h i b hb;obtain rfl:n=0:=by omega
  rw [zgo (by decide)] at hb ⊢
  cases i with
  | zero=>simp at hb;subst hb;simp
  | succ i=>simp at hb
 | succ k ih =>
  intro n h i b hb
  by_cases h2:n<128
  ·rw [zgo h2] at hb ⊢
   cases i with
   | zero=>simp only [List.getElem?_cons_zero,Option.some.injEq] at hb;subst hb;rw [zll (by omega)];simp;omega
   | succ i=>simp at hb
  ·rw [zkj h2] at hb ⊢
   have hp:=zjt (n / 128)
   cases i with
   | zero=>simp only [List.getElem?_cons_zero,Option.some.injEq] at hb;subst hb;rw [zll (by omega)];simp only [List.length_cons];omega
   | succ i =>
    simp only [List.getElem?_cons_succ] at hb
    have:=ih (n / 128) (by omega) i b hb
    simp only [List.length_cons]
    rw [this];omega
/-- A number stands in the first k bytes. -/
def RVk(s:List UInt8)(k:Nat):Prop:=1≤k∧k≤7∧k≤s.length∧varZ (vval (s.take k))=s.take k
theorem rvk_B{s:List UInt8}{k:Nat}(h:RVk s k):varB (vval (s.take k))=s.take k∧vval (s.take k)≤562949953421311:=by
 obtain ⟨h1,h2,h3,h4⟩:=h
 unfold varZ at h4
 split at h4
 ·rename_i h5
  rw [Int.toNat_natCast] at h4
  exact ⟨h4,by omega⟩
 ·have:=congrArg List.length h4
  simp only [List.length_nil,List.length_take] at this
  omega
theorem zsv{s:List UInt8}{k:Nat}(h:RVk s k){i:Nat}(hi:i<k){b:UInt8}(hb:s[i]? = some b):128≤b.toNat↔i+1<k:=by
 obtain ⟨h1,h2⟩:=rvk_B h
 have h3:=varB_at _ _ (Nat.le_refl _) i b (by rw [h1,List.getElem?_take,if_pos hi];exact hb)
 rw [h1,List.length_take,Nat.min_eq_left h.2.2.1] at h3
 exact h3
theorem rvk_uniq{s:List UInt8}{k m:Nat}(h:RVk s k)(g:RVk s m):k=m:=by
 have key:∀ {k m:Nat},RVk s k→RVk s m→¬k<m:=by
  intro k m h g hlt
  have hk:k-1<s.length:=by have:=h.1;have:=h.2.2.1;omega
  have hb:s[k-1]? = some s[k-1]:=List.getElem?_eq_getElem hk
  have h1:=zsv h (i:=k-1) (by have:=h.1;omega) hb
  have h2:=zsv g (i:=k-1) (by omega) hb
  have:=h.1
  omega
 have:=key h g
 have:=key g h
 omega
open Classical in
noncomputable def RV(s:List UInt8):Int × Int:=if h:∃k,RVk s k then (((vval (s.take h.choose):Nat):Int),((h.choose:Nat):Int)) else (0,0)
theorem zqs{s:List UInt8}{k:Nat}(h:RVk s k):RV s=(((vval (s.take k):Nat):Int),(k:Int)):=by
 have hx:∃k,RVk s k:=⟨k,h⟩
 unfold RV
 rw [dif_pos hx,rvk_uniq hx.choose_spec h]
theorem zqt{s:List UInt8}(h:∀k,¬RVk s k):RV s=(0,0):=by
 unfold RV
 rw [dif_neg λ⟨k,hk⟩=>h k hk]
theorem RV_cases(s:List UInt8):(RV s=(0,0))∨∃k,RVk s k∧RV s=(((vval (s.take k):Nat):Int),(k:Int)):=by
 by_cases h:∃k,RVk s k
 ·obtain ⟨k,hk⟩:=h;exact .inr ⟨k,hk,zqs hk⟩
 ·exact .inl (zqt λk hk=>h ⟨k,hk⟩)
theorem RV_bd(s:List UInt8):0≤(RV s).1∧(RV s).1≤562949953421311∧0≤(RV s).2∧(RV s).2≤7∧(RV s).2≤s.length:=by
 rcases RV_cases s with h | ⟨k,hk,h⟩
 ·rw [h];simp
 ·rw [h]
  have:=(rvk_B hk).2
  obtain ⟨h1,h2,h3,-⟩:=hk
  refine ⟨?_,?_,?_,?_,?_⟩<;>omega
/-- What is shown is read. -/
theorem RV_show(n:Int)(h:0≤n∧n≤562949953421311)(r:List UInt8):RV (varZ n++r)=(n,(((varZ n).length:Nat):Int)):=by
 have hB:varZ n=varB n.toNat:=by unfold varZ;rw [if_pos h]
 have hl:=zcf n
 have hp:=zjt n.toNat
 have hv:=varB_val _ n.toNat (Nat.le_refl _)
 have ht:(varZ n++r).take (varZ n).length=varZ n:=by simp
 have hk:RVk (varZ n++r) (varZ n).length:=by
  refine ⟨by rw [hB];exact hp,hl,by simp,?_⟩
  rw [ht]
  have:vval (varZ n)=n.toNat:=by rw [hB];exact hv
  rw [this,Int.toNat_of_nonneg h.1]
 rw [zqs hk,ht,hB,hv,Int.toNat_of_nonneg h.1]
/-- A first low byte that makes no number: none stands there. -/
theorem RV_low{s:List UInt8}{i:Nat}(hhi:∀(j:Nat) b,j<i→s[j]? = some b→128≤b.toNat){b:UInt8}(hb:s[i]? = some b)(hlo:b.toNat<128)(hn:¬varZ (vval (s.take (i+1)))=s.take (i+1)):RV s=(0,0):=by
 refine zqt λk hk=>?_
 have h1:=hk.1
 have h3:=hk.2.2.1
 rcases Nat.lt_trichotomy k (i+1) with h | h | h
 ·have hb2:s[k-1]? = some s[k-1]:=List.getElem?_eq_getElem (by omega)
  have h4:=zsv hk (i:=k-1) (by omega) hb2
  have h5:=hhi (k-1) _ (by omega) hb2
  omega
 ·subst h;exact hn hk.2.2.2
 ·have:=zsv hk (i:=i) (by omega) hb
  omega
theorem RV_end{s:List UInt8}{i:Nat}(hhi:∀(j:Nat) b,j<i→s[j]? = some b→128≤b.toNat)(he:i=s.length∨i=7):RV s=(0,0):=by
 refine zqt λk hk=>?_
 have h1:=hk.1
 have h2:=hk.2.1
 have h3:=hk.2.2.1
 have hb2:s[k-1]? = some s[k-1]:=List.getElem?_eq_getElem (by omega)
 have h4:=zsv hk (i:=k-1) (by omega) hb2
 have h5:=hhi (k-1) _ (by omega) hb2
 omega
end Go.Proofs.YtodmafgmdlkhoaaDoor.Vs
end
section
namespace Go.Proofs.YtodmafgmdlkhoaaDoor.Vs
set_option linter.all false
set_option maxRecDepth 100000
theorem orN(v i:Nat)(b:UInt8)(hv:v<128^i)(hi:i<7):IntKind.i64.wrap ((v % 2^IntKind.i64.bits |||(IntKind.i64.wrap (IntKind.i64.wrap (IntKind.u8.wrap ((b.toNat % 2^IntKind.u8.bits &&& 127 % 2^IntKind.u8.bits:Nat):Int))*2^min (7*(i:Int)).toNat IntKind.i64.bits) % 2^IntKind.i64.bits).toNat:Nat):Int)=((v+b.toNat % 128*128^i:Nat):Int):=by
 have hb:=b.toNat_lt
 have hb8:IntKind.u8.bits=8:=rfl
 have hb64:IntKind.i64.bits=64:=rfl
 have h1:b.toNat % 2^IntKind.u8.bits &&& 127 % 2^IntKind.u8.bits=b.toNat % 128:=by
  have e:(127:Nat) % 2^IntKind.u8.bits=2^7-1:=by decide
  rw [e,Nat.and_two_pow_sub_one_eq_mod,hb8];omega
 rw [h1,zg7 (by omega) (by omega),zcj (n:=((b.toNat % 128:Nat):Int)) (by omega) (by omega)]
 have h2:min (7*(i:Int)).toNat IntKind.i64.bits=7*i:=by rw [hb64];omega
 rw [h2]
 have hp:(128:Nat)^i=2^(7*i):=by rw [Nat.pow_mul]
 rw [hp] at hv ⊢
 have hP:2^(7*i)≤2^42:=Nat.pow_le_pow_right (by decide) (by omega)
 have hm:b.toNat % 128*2^(7*i)≤127*2^42:=Nat.mul_le_mul (by omega) hP
 have hc:((b.toNat % 128:Nat):Int)*2^(7*i)=((b.toNat % 128*2^(7*i):Nat):Int):=by rw [Int.natCast_mul,Int.natCast_pow];rfl
 rw [hc]
 have h5:v ||| b.toNat % 128*2^(7*i)=v+b.toNat % 128*2^(7*i):=by
  have:=Nat.two_pow_add_eq_or_of_lt (i:=7*i) (b:=v) hv (b.toNat % 128)
  rw [Nat.or_comm,Nat.mul_comm,←this];omega
 generalize b.toNat % 128*2^(7*i)=M at *
 rw [zcj (n:=(M:Int)) (by omega) (by omega),hb64]
 have h3:((M:Int) % 2^64).toNat=M:=by omega
 have h4:v % 2^64=v:=by omega
 rw [h3,h4,h5,zcj (by omega) (by omega)]
theorem vval_step{s:List UInt8}{i:Nat}(h:i<s.length):vval (s.take (i+1))=vval (s.take i)+s[i].toNat % 128*128^i:=by
 rw [List.take_succ_eq_append_getElem h,zsu,List.length_take,Nat.min_eq_left (by omega)]
theorem orS{s:List UInt8}{i:Nat}(hi:i<7)(h:i<s.length):IntKind.i64.wrap ((vval (s.take i) % 2^IntKind.i64.bits |||(IntKind.i64.wrap (IntKind.i64.wrap (IntKind.u8.wrap ((s[i].toNat % 2^IntKind.u8.bits &&& 127 % 2^IntKind.u8.bits:Nat):Int))*2^min (7*(i:Int)).toNat IntKind.i64.bits) % 2^IntKind.i64.bits).toNat:Nat):Int)=((vval (s.take (i+1)):Nat):Int):=by
 have hv:=zv0 (s.take i)
 rw [List.length_take,Nat.min_eq_left (by omega)] at hv
 rw [orN _ _ _ hv hi,vval_step h]
theorem zv1(s:List UInt8)(hs:s.length≤1048576):PCall Tryd.prog 43 [.s s] (.tup [(.g (.int .i64 ((RV s).1))),(.g (.int .i64 ((RV s).2)))]):=by
 refine zbp Tryd.func43 (by rfl) (by rfl) (by rw [Tryd.ntmps43];exact Nat.le_of_ble_eq_true rfl) rfl (by decide) ?_
 rw [Tryd.ntmps43]
 refine AW_k [(0,_)] ⟨rfl,trivial⟩ ?_
 refine AW_r rfl rfl λK hK=>?_
 simp (disch:=omega) [zG27,orS]
 refine hK _ ?_;clear hK K
 refine AW_r rfl rfl λK hK=>?_
 simp (disch:=omega) [zG27,orS]
 refine hK _ ?_;clear hK K
 refine zbe ?_
 refine AW_r rfl rfl λK hK=>?_
 simp (disch:=omega) [zG27,orS]
 refine hK _ ?_;clear hK K
 refine zbi ?_
 refine zbt (λmM sS=>∃(i:Nat),mM=7-i∧(i≤7∧i≤s.length∧∀(j:Nat) b,j<i→s[j]? = some b→128≤b.toNat)∧sS = { env:=lkE [(0,.s s),(4,(.g (.int .i64 (((vval (s.take i):Nat):Int))))),(5,(.g (.int .i64 ((i:Nat)))))],ob:=formOb [] [] }) ?_ ?_
 ·refine ⟨_,LeS.kp [(0,.s s),(4,(.g (.int .i64 (((vval (s.take (0)):Nat):Int))))),(5,(.g (.int .i64 (((0):Nat)))))] (by simp [KpE,zce,zbj,zbr];try rfl),_,0,rfl,?_,rfl⟩
  ·simp
 ·rintro mM sS ⟨i,rfl,⟨hi,hil,hhi⟩,rfl⟩
  refine zbe ?_
  refine AW_r rfl rfl λK hK=>?_
  simp (disch:=omega) [zG27,orS]
  repeat' first|(refine ⟨λ_=>?_,λ_=>?_⟩) | fail
  all_goals (refine hK _ ?_;clear hK K)
  all_goals
   refine zbg rfl (λhc1=>?_) (λhc1=>?_)
   ·try simp [zG28,zbc,zba] at hc1
    all_goals
     refine zbh ?_
     refine zbm ?_
     refine zbe ?_
     refine zbi ?_
     refine AW_r rfl rfl λK hK=>?_
     simp (disch:=omega) [zG27,orS]
     repeat' first|(refine ⟨by omega,?_⟩) | fail
     refine hK _ ?_;clear hK K
     refine AW_r rfl rfl λK hK=>?_
     simp (disch:=omega) [zG27,orS]
     repeat' first|(refine ⟨by omega,?_⟩) | fail
     refine hK _ ?_;clear hK K
     refine zbg rfl (λhc2=>?_) (λhc2=>?_)
     ·try simp [zG28,zbc,zba] at hc2
      refine zbe ?_
      refine AW_q rfl mix (by kernel_rfl) rfl λK hK=>?_
      simp (disch:=omega) [zG27,orS]
      repeat' first|(refine zci (zbf zcb zbn) (zhz _) rfl ?_;simp (disch:=omega) [zG27,orS])|(refine ⟨by omega,?_⟩) | fail
      refine hK _ ?_;clear hK K
      refine zbg rfl (λhc3=>?_) (λhc3=>?_)
      ·try simp [zG28,zbc,zba] at hc3
       refine AW_r rfl rfl λK hK=>?_
       simp (disch:=omega) [zG27,orS]
       refine hK _ ?_;clear hK K
       refine zbo (zcc ?_)
       simp (disch:=omega) [zG27,orS]
       (rw [RV_low hhi (List.getElem?_eq_getElem (by omega)) (by omega) hc3];exact ⟨rfl,rfl⟩)
      ·try simp [zG28,zbc,zba] at hc3
       refine zbh ?_
       refine zbm ?_
       refine AW_r rfl rfl λK hK=>?_
       simp (disch:=omega) [zG27,orS]
       refine hK _ ?_;clear hK K
       refine zbo (zcc ?_)
       simp (disch:=omega) [zG27,orS]
       (rw [zqs (s:=s) (k:=i+1) ⟨by omega,by omega,by omega,hc3⟩];exact ⟨rfl,by simp⟩)
     ·try simp [zG28,zbc,zba] at hc2
      refine zbh ?_
      refine zbm ?_
      refine zc6 rfl rfl λK hK=>?_
      simp (disch:=omega) [zG27,orS]
      refine hK _ ?_;clear hK K
      refine ⟨_,LeS.kp [(0,.s s),(4,(.g (.int .i64 (((vval (s.take (i+1)):Nat):Int))))),(5,(.g (.int .i64 (((i+1):Nat)))))] (by simp [KpE,zce,zbj,zbr]),_,?_,i+1,rfl,?_,rfl⟩
      ·omega
      ·refine ⟨by omega,by omega,λj b hj hb=>?_⟩
       by_cases hji:j=i
       ·subst hji;rw [List.getElem?_eq_getElem (by omega)] at hb;cases hb;omega
       ·exact hhi j b (by omega) hb
   ·try simp [zG28,zbc,zba] at hc1
    all_goals
     refine zbw ?_
     refine zbm ?_
     refine AW_r rfl rfl λK hK=>?_
     simp (disch:=omega) [zG27,orS]
     all_goals (refine hK _ ?_;clear hK K)
     all_goals
      refine zbo (zcc ?_)
      simp (disch:=omega) [zG27,orS]
      all_goals (rw [RV_end hhi (by omega)];exact ⟨rfl,rfl⟩)
theorem vdrop{s:List UInt8}{k:Nat}(hk:k≤s.length){j:Int}(h0:0≤j)(hj:j<k):((vval ((s.take k).drop (j+1).toNat):Nat):Int)*128+((s[j.toNat]'(by omega)).toNat:Int) % 128=((vval ((s.take k).drop j.toNat):Nat):Int):=by
 obtain ⟨i,rfl⟩:=Int.eq_ofNat_of_zero_le h0
 have e:(s.take k).drop i=s[i]'(by omega) :: (s.take k).drop (i+1):=by
  rw [List.drop_eq_getElem_cons (by simp;omega)]
  simp
 have e1:((i:Int)+1).toNat=i+1:=by omega
 simp only [e1,Int.toNat_natCast,e,vval]
 omega
theorem vdrop_lt{s:List UInt8}{k:Nat}(hk:k≤7){j:Int}(h0:0≤j):vval ((s.take k).drop (j+1).toNat)<4398046511104:=by
 have h:=zv0 ((s.take k).drop (j+1).toNat)
 have hl:((s.take k).drop (j+1).toNat).length≤6:=by simp;omega
 have:128^((s.take k).drop (j+1).toNat).length≤128^6:=Nat.pow_le_pow_right (by decide) hl
 have e:(128:Nat)^6=4398046511104:=by decide
 omega
theorem zho(b:UInt8):(b.toNat:Int).tmod 128=(b.toNat:Int) % 128:=Int.tmod_eq_emod_of_nonneg (by omega)
theorem zv2(s:List UInt8)(hs:s.length≤1048576):PCall Tryd.prog 47 [.s s] (.tup [(.g (.int .i64 ((RV s).1))),(.g (.int .i64 ((RV s).2)))]):=by
 refine zbp Tryd.func47 (by rfl) (by rfl) (by rw [Tryd.ntmps47];exact Nat.le_of_ble_eq_true rfl) rfl (by decide) ?_
 rw [Tryd.ntmps47]
 refine AW_k [(0,_)] ⟨rfl,trivial⟩ ?_
 refine AW_r rfl rfl λK hK=>?_
 simp (disch:=omega) [zG27,zho]
 refine hK _ ?_;clear hK K
 refine zbe ?_
 refine AW_r rfl rfl λK hK=>?_
 simp (disch:=omega) [zG27,zho]
 refine hK _ ?_;clear hK K
 refine zbi ?_
 refine zbt (λmM sS=>∃(k:Nat),mM=8-k∧(1≤k∧k≤8∧∀m,m<k→¬RVk s m)∧sS = { env:=lkE [(0,.s s),(4,(.g (.int .i64 ((k:Nat)))))],ob:=formOb [] [] }) ?_ ?_
 ·refine ⟨_,LeS.kp [(0,.s s),(4,(.g (.int .i64 (((1):Nat)))))] (by simp [KpE,zce,zbj,zbr]),_,1,rfl,?_,rfl⟩
  ·refine ⟨by omega,by omega,λm hm h=>?_⟩;have:=h.1;omega
 ·rintro mM sS ⟨k,rfl,⟨hk1,hk8,hno⟩,rfl⟩
  refine zbe ?_
  refine AW_r rfl rfl λK hK=>?_
  simp (disch:=omega) [zG27,zho]
  repeat' first|(refine ⟨λ_=>?_,λ_=>?_⟩) | fail
  all_goals (refine hK _ ?_;clear hK K)
  all_goals
   refine zbg rfl (λhc4=>?_) (λhc4=>?_)
   ·try simp [zG28,zbc,zba] at hc4
    all_goals
     refine zbh ?_
     refine zbm ?_
     refine zbe ?_
     refine zbi ?_
     refine AW_r rfl rfl λK hK=>?_
     simp (disch:=omega) [zG27,zho]
     refine hK _ ?_;clear hK K
     refine zbe ?_
     refine AW_r rfl rfl λK hK=>?_
     simp (disch:=omega) [zG27,zho]
     refine hK _ ?_;clear hK K
     refine zbi ?_
     refine zbt (λmM sS=>∃(j:Int),mM=(j+1).toNat∧(-1≤j∧j<k)∧sS = { env:=lkE [(0,.s s),(4,(.g (.int .i64 ((k:Nat))))),(5,(.g (.int .i64 (((vval ((s.take k).drop (j+1).toNat):Nat):Int))))),(6,(.g (.int .i64 (j))))],ob:=formOb [] [] }) ?_ ?_
     ·refine ⟨_,LeS.kp [(0,.s s),(4,(.g (.int .i64 ((k:Nat))))),(5,(.g (.int .i64 (((vval ((s.take k).drop (((k:Int)-1)+1).toNat):Nat):Int))))),(6,(.g (.int .i64 (((k:Int)-1)))))] (by simp [KpE,zce,zbj,zbr];try ((simp [vval];done))),_,(k:Int)-1,rfl,?_,rfl⟩
      ·exact ⟨by omega,by omega⟩
     ·rintro mM sS ⟨j,rfl,⟨hj1,hjk⟩,rfl⟩
      refine zbe ?_
      refine AW_r rfl rfl λK hK=>?_
      simp (disch:=omega) [zG27,zho]
      refine hK _ ?_;clear hK K
      refine zbg rfl (λhc5=>?_) (λhc5=>?_)
      ·try simp [zG28,zbc,zba] at hc5
       have hvd:=vdrop (s:=s) (k:=k) (by omega) (j:=j) (by omega) hjk
       have hvl:=vdrop_lt (s:=s) (k:=k) (by omega) (j:=j) (by omega)
       refine zbh ?_
       refine zbm ?_
       refine zbe ?_
       refine zbi ?_
       refine zc6 rfl rfl λK hK=>?_
       simp (disch:=omega) [zG27,zho]
       repeat' first|(refine ⟨by omega,?_⟩) | fail
       refine hK _ ?_;clear hK K
       refine zbm ?_
       refine zc6 rfl rfl λK hK=>?_
       simp (disch:=omega) [zG27,zho]
       refine hK _ ?_;clear hK K
       refine ⟨_,LeS.kp [(0,.s s),(4,(.g (.int .i64 ((k:Nat))))),(5,(.g (.int .i64 (((vval ((s.take k).drop ((j-1)+1).toNat):Nat):Int))))),(6,(.g (.int .i64 ((j-1)))))] (by simp [KpE,zce,zbj,zbr];try ((have hb:=(s[j.toNat]'(by omega)).toNat_lt;rw [zcj (n:=(((s[j.toNat]'(by omega)).toNat:Nat):Int)) (by omega) (by omega),zho,hvd,zcj (by omega) (by omega)]))),_,?_,j-1,rfl,?_,rfl⟩
       ·omega
       ·exact ⟨by omega,by omega⟩
      ·try simp [zG28,zbc,zba] at hc5
       refine zbw ?_
       refine zbm ?_
       refine AW_q rfl mix (by kernel_rfl) rfl λK hK=>?_
       simp (disch:=omega) [zG27,zho]
       repeat' first|(refine zci (zbf zcb zbn) (zhy _) rfl ?_;simp (disch:=omega) [zG27,zho])|(refine ⟨by omega,?_⟩) | fail
       refine hK _ ?_;clear hK K
       refine zbg rfl (λhc6=>?_) (λhc6=>?_)
       ·try simp [zG28,zbc,zba] at hc6
        refine AW_r rfl rfl λK hK=>?_
        simp (disch:=omega) [zG27,zho]
        refine hK _ ?_;clear hK K
        refine zbo (zcc ?_)
        simp (disch:=omega) [zG27,zho]
        (rw [show (j+1).toNat=0 by omega,List.drop_zero] at hc6 ⊢;rw [zqs (s:=s) (k:=k) ⟨hk1,by omega,hc4,hc6⟩];exact ⟨rfl,rfl⟩)
       ·try simp [zG28,zbc,zba] at hc6
        refine zbh ?_
        refine zbm ?_
        refine zc6 rfl rfl λK hK=>?_
        simp (disch:=omega) [zG27,zho]
        refine hK _ ?_;clear hK K
        refine ⟨_,LeS.kp [(0,.s s),(4,(.g (.int .i64 (((k+1):Nat)))))] (by simp [KpE,zce,zbj,zbr]),_,?_,k+1,rfl,?_,rfl⟩
        ·omega
        ·refine ⟨by omega,by omega,λm hm h=>?_⟩
         by_cases hmk:m=k
         ·subst hmk
          rw [show (j+1).toNat=0 by omega,List.drop_zero] at hc6
          exact hc6 h.2.2.2
         ·exact hno m (by omega) h
   ·try simp [zG28,zbc,zba] at hc4
    all_goals
     refine zbw ?_
     refine zbm ?_
     refine AW_r rfl rfl λK hK=>?_
     simp (disch:=omega) [zG27,zho]
     all_goals (refine hK _ ?_;clear hK K)
     all_goals
      refine zbo (zcc ?_)
      simp (disch:=omega) [zG27,zho]
      all_goals (rw [zqt λm h=>hno m (by have:=h.1;have:=h.2.1;have:=h.2.2.1;omega) h];exact ⟨rfl,rfl⟩)
end Go.Proofs.YtodmafgmdlkhoaaDoor.Vs
end
section
namespace Go.Proofs.YtodmafgmdlkhoaaDoor.Vs
set_option linter.all false
set_option maxRecDepth 100000
set_option maxHeartbeats 2000000
/-! The reader of the program: what is left, and is it spoilt? -/
abbrev Sc:=List UInt8 × Bool
def scC(x:Sc):List AV:=[.s x.1,.g (.bool x.2)]
attribute [local simp] scC
theorem zb3{α:Type}(r:List α)(k:Nat):List.take (r.length-k) (List.drop k r)=List.drop k r:=List.take_of_length_le (by simp)
noncomputable def numI(x:Sc):Int × Sc:=if x.2=true∨(RV x.1).2=0 then (0,(x.1,true)) else ((RV x.1).1,(x.1.drop (RV x.1).2.toNat,false))
def cutI(n:Int)(x:Sc):List UInt8 × Sc:=if x.2=true∨n<0∨(x.1.length:Int)<n then ([],(x.1,true)) else (x.1.take n.toNat,(x.1.drop n.toNat,false))
noncomputable def textI(x:Sc):List UInt8 × Sc:=cutI (numI x).1 (numI x).2
noncomputable def manyI(most:Int)(x:Sc):Int × Sc:=if most<(numI x).1∨(numI x).2.2=true then (0,((numI x).2.1,true)) else ((numI x).1,((numI x).2.1,false))
theorem zgp(x:Sc):(numI x).2.1.length≤x.1.length:=by
 unfold numI
 split
 ·exact Nat.le_refl _
 ·simp
theorem zh1{P:Program}{f:FuncId}{args:List AV}{wos wos' fos:List OB}{r:AV}(h:XCallE P f args wos fos.length (λr' w' f'=>r'=r∧w'=wos'∧f'=fos))(hlen:wos'.length=wos.length)(hxk':(wos'++fos).all OB.xk=true):XCall P f args wos r wos' fos:=by
 obtain ⟨h1,h2,h3⟩:=h
 refine ⟨h1,hlen,h2,hxk',λw I β χ vs g1 g2 g3 g4 g5 g6 g7=>(h3 w I β χ vs g1 g2 g3 g4 g5 g6 g7).mono ?_⟩
 rintro e w' ⟨r',w'',f',⟨rfl,rfl,rfl⟩,-,-,-,hh⟩
 exact hh
theorem scanNumE(r:List UInt8)(b:Bool)(hs:r.length≤1048576):XCallE Tryd.prog 22 [.ptr 8 0] [.cells [.s r,(.g (.bool (b)))]] 0 (λr' w f=>r'=(.g (.int .i64 ((numI (r,b)).1)))∧w=[.cells (scC (numI (r,b)).2)]∧f=[]):=by
 refine zcy Tryd.func22 (by rfl) (by rfl) (by rw [Tryd.ntmps22];exact Nat.le_of_ble_eq_true rfl) (by simp) rfl ?_
 rw [Tryd.ntmps22]
 refine zhn (.cells [.s r,(.g (.bool (b)))]) (by simp [cvO]<;>assumption) ?_
 refine AW_k [(0,_)] ⟨rfl,trivial⟩ ?_
 refine AW_x rfl rfl λK hK=>?_
 simp (disch:=omega) [zG29,scC,zb3]
 refine hK _ ?_;clear hK K
 have hv:=RV_bd r
 refine AW_x rfl rfl λK hK=>?_
 simp (disch:=omega) [zG29,scC,zb3]
 repeat' first|(refine zf1 (zbf zd9 zbn) (zv1 r hs) rfl ?_;simp (disch:=omega) [zG29,scC,zb3]) | fail
 refine hK _ ?_;clear hK K
 refine zbe ?_
 refine AW_x rfl rfl λK hK=>?_
 simp (disch:=omega) [zG29,scC,zb3]
 repeat' first|(refine ⟨λ_=>?_,λ_=>?_⟩) | fail
 all_goals (refine hK _ ?_;clear hK K)
 all_goals
  refine zbg rfl (λhc1=>?_) (λhc1=>?_)
  ·try simp [zG28,zbc,zba] at hc1
   all_goals
    refine AW_x rfl rfl λK hK=>?_
    simp (disch:=omega) [zG29,scC,zb3]
    all_goals (refine hK _ ?_;clear hK K)
    all_goals
     refine AW_x rfl rfl λK hK=>?_
     simp (disch:=omega) [zG29,scC,zb3]
     refine hK _ ?_;clear hK K
     refine zbo ⟨((.g (.int .i64 ((0:Int))))),[.cells [.s r,(.g (.bool (true)))]],[],?po,(by simp),(by simp),(by simp [OB.xk]),(zb7 [] [] (by simp [zG25,List.range_succ]) (by simp) ?en)⟩
     case en =>
      simp (disch:=omega) [zG29,scC,zb3]
     case po=>(simp_all [numI,scC];done)
  ·try simp [zG28,zbc,zba] at hc1
   all_goals
    refine zbh ?_
    refine zbm ?_
    refine AW_x rfl rfl λK hK=>?_
    simp (disch:=omega) [zG29,scC,zb3]
    repeat' first|(refine ⟨by omega,?_⟩) | fail
    refine hK _ ?_;clear hK K
    refine AW_x rfl rfl λK hK=>?_
    simp (disch:=omega) [zG29,scC,zb3]
    refine hK _ ?_;clear hK K
    refine zbo ⟨((.g (.int .i64 ((RV r).1)))),[.cells [.s (r.drop (RV r).2.toNat),(.g (.bool (b)))]],[],?po,(by simp),(by simp),(by simp [OB.xk]),(zb7 [] [] (by simp [zG25,List.range_succ]) (by simp) ?en)⟩
    case en =>
     simp (disch:=omega) [zG29,scC,zb3]
    case po=>(simp_all [numI,scC];done)
theorem zv3(r:List UInt8)(b:Bool)(hs:r.length≤1048576):XCall Tryd.prog 22 [.ptr 8 0] [.cells [.s r,(.g (.bool (b)))]] (.g (.int .i64 ((numI (r,b)).1))) [.cells (scC (numI (r,b)).2)] []:=zh1 (scanNumE r b hs) rfl rfl
theorem scanCutE(r:List UInt8)(b:Bool)(n:Int)(hs:r.length≤1048576):XCallE Tryd.prog 44 [.ptr 8 0,(.g (.int .i64 (n)))] [.cells [.s r,(.g (.bool (b)))]] 0 (λr' w f=>r'=.s (cutI n (r,b)).1∧w=[.cells (scC (cutI n (r,b)).2)]∧f=[]):=by
 refine zcy Tryd.func44 (by rfl) (by rfl) (by rw [Tryd.ntmps44];exact Nat.le_of_ble_eq_true rfl) (by simp) rfl ?_
 rw [Tryd.ntmps44]
 refine zhn (.cells [.s r,(.g (.bool (b)))]) (by simp [cvO]<;>assumption) ?_
 refine AW_k [(0,_),(1,_)] ⟨rfl,rfl,trivial⟩ ?_
 refine AW_x rfl rfl λK hK=>?_
 simp (disch:=omega) [zG29,scC,zb3]
 refine hK _ ?_;clear hK K
 refine zbe ?_
 refine AW_x rfl rfl λK hK=>?_
 simp (disch:=omega) [zG29,scC,zb3]
 repeat' first|(refine zf1 (zbf zcb (zbf zcb (zbf zcb zbn))) (zn4 _ _ _) rfl ?_;simp (disch:=omega) [zG29,scC,zb3])|(refine ⟨λ_=>?_,λ_=>?_⟩) | fail
 all_goals (refine hK _ ?_;clear hK K)
 all_goals
  refine zbg rfl (λhc2=>?_) (λhc2=>?_)
  ·try simp [zG28,zbc,zba] at hc2
   all_goals
    refine AW_x rfl rfl λK hK=>?_
    simp (disch:=omega) [zG29,scC,zb3]
    all_goals (refine hK _ ?_;clear hK K)
    all_goals
     refine AW_x rfl rfl λK hK=>?_
     simp (disch:=omega) [zG29,scC,zb3]
     refine hK _ ?_;clear hK K
     refine zbo ⟨(.s []),[.cells [.s r,(.g (.bool (true)))]],[],?po,(by simp),(by simp),(by simp [OB.xk]),(zb7 [] [] (by simp [zG25,List.range_succ]) (by simp) ?en)⟩
     case en =>
      simp (disch:=omega) [zG29,scC,zb3]
     case po=>(simp_all [cutI,scC];done)
  ·try simp [zG28,zbc,zba] at hc2
   all_goals
    refine zbh ?_
    refine zbm ?_
    refine AW_x rfl rfl λK hK=>?_
    simp (disch:=omega) [zG29,scC,zb3]
    repeat' first|(refine ⟨by omega,?_⟩) | fail
    refine hK _ ?_;clear hK K
    refine AW_x rfl rfl λK hK=>?_
    simp (disch:=omega) [zG29,scC,zb3]
    repeat' first|(refine ⟨by omega,?_⟩) | fail
    refine hK _ ?_;clear hK K
    refine AW_x rfl rfl λK hK=>?_
    simp (disch:=omega) [zG29,scC,zb3]
    refine hK _ ?_;clear hK K
    refine zbo ⟨(.s (r.take n.toNat)),[.cells [.s (r.drop n.toNat),(.g (.bool (b)))]],[],?po,(by simp),(by simp),(by simp [OB.xk]),(zb7 [] [] (by simp [zG25,List.range_succ]) (by simp) ?en)⟩
    case en =>
     simp (disch:=omega) [zG29,scC,zb3]
    case po=>(have hne:¬(b=true∨n<0∨(r.length:Int)<n):=(λh=>h.elim (λh=>by simp_all) (λh=>by omega));simp only [cutI,if_neg hne];simp_all [scC];done)
theorem scanCut(r:List UInt8)(b:Bool)(n:Int)(hs:r.length≤1048576):XCall Tryd.prog 44 [.ptr 8 0,(.g (.int .i64 (n)))] [.cells [.s r,(.g (.bool (b)))]] (.s (cutI n (r,b)).1) [.cells (scC (cutI n (r,b)).2)] []:=zh1 (scanCutE r b n hs) rfl rfl
theorem scanText(r:List UInt8)(b:Bool)(hs:r.length≤1048576):XCall Tryd.prog 23 [.ptr 8 0] [.cells [.s r,(.g (.bool (b)))]] (.s (textI (r,b)).1) [.cells (scC (textI (r,b)).2)] []:=by
 refine zbq Tryd.func23 (by rfl) (by rfl) (by rw [Tryd.ntmps23];exact Nat.le_of_ble_eq_true rfl) rfl (by simp) rfl rfl ?_
 rw [Tryd.ntmps23]
 refine zhn (.cells [.s r,(.g (.bool (b)))]) (by simp [cvO]<;>assumption) ?_
 refine AW_k [(0,_)] ⟨rfl,trivial⟩ ?_
 refine AW_x rfl rfl λK hK=>?_
 simp (disch:=omega) [zG29,scC,zb3]
 refine hK _ ?_;clear hK K
 refine AW_x rfl rfl λK hK=>?_
 simp (disch:=omega) [zG29,scC,zb3]
 repeat' first|(refine zch [8] false [] (zv3 r b hs) ?_ ?_ ?_;(focus (simp [List.range_succ,nmC];done));(focus (simp (disch:=omega) [zG29,scC,zb3];done));simp (disch:=omega) [zG29,scC,zb3]) | fail
 refine hK _ ?_;clear hK K
 refine AW_x rfl rfl λK hK=>?_
 simp (disch:=omega) [zG29,scC,zb3]
 repeat' first|(refine zch [8] false [] (scanCut (numI (r,b)).2.1 (numI (r,b)).2.2 (numI (r,b)).1 (by have:=zgp (r,b);simp only at this;omega)) ?_ ?_ ?_;(focus (simp [List.range_succ,nmC];done));(focus (simp (disch:=omega) [zG29,scC,zb3];done));simp (disch:=omega) [zG29,scC,zb3]) | fail
 refine hK _ ?_;clear hK K
 refine zbo (zb7 [] [] (by simp [zG25,List.range_succ]) (by simp) ?_)
 simp (disch:=omega) [zG29,scC,zb3]
 (simp_all [textI,scC];done)
theorem scanManyE(r:List UInt8)(b:Bool)(m:Int)(hs:r.length≤1048576):XCallE Tryd.prog 20 [.ptr 8 0,(.g (.int .i64 (m)))] [.cells [.s r,(.g (.bool (b)))]] 0 (λr' w f=>r'=(.g (.int .i64 ((manyI m (r,b)).1)))∧w=[.cells (scC (manyI m (r,b)).2)]∧f=[]):=by
 refine zcy Tryd.func20 (by rfl) (by rfl) (by rw [Tryd.ntmps20];exact Nat.le_of_ble_eq_true rfl) (by simp) rfl ?_
 rw [Tryd.ntmps20]
 refine zhn (.cells [.s r,(.g (.bool (b)))]) (by simp [cvO]<;>assumption) ?_
 refine AW_k [(0,_),(1,_)] ⟨rfl,rfl,trivial⟩ ?_
 refine AW_x rfl rfl λK hK=>?_
 simp (disch:=omega) [zG29,scC,zb3]
 refine hK _ ?_;clear hK K
 refine AW_x rfl rfl λK hK=>?_
 simp (disch:=omega) [zG29,scC,zb3]
 repeat' first|(refine zch [8] false [] (zv3 r b hs) ?_ ?_ ?_;(focus (simp [List.range_succ,nmC];done));(focus (simp (disch:=omega) [zG29,scC,zb3];done));simp (disch:=omega) [zG29,scC,zb3]) | fail
 refine hK _ ?_;clear hK K
 refine zbe ?_
 refine AW_x rfl rfl λK hK=>?_
 simp (disch:=omega) [zG29,scC,zb3]
 refine hK _ ?_;clear hK K
 refine zbg rfl (λhc3=>?_) (λhc3=>?_)
 ·try simp [zG28,zbc,zba] at hc3
  refine zb4 rfl rfl λK hK=>?_
  simp (disch:=omega) [zG29,scC,zb3]
  refine hK _ ?_;clear hK K
  refine zbm ?_
  refine zbe ?_
  refine AW_x rfl rfl λK hK=>?_
  simp (disch:=omega) [zG29,scC,zb3]
  refine hK _ ?_;clear hK K
  refine zbg rfl (λhc4=>?_) (λhc4=>?_)
  ·try simp [zG28,zbc,zba] at hc4
   refine AW_x rfl rfl λK hK=>?_
   simp (disch:=omega) [zG29,scC,zb3]
   refine hK _ ?_;clear hK K
   refine zbo ⟨((.g (.int .i64 ((0:Int))))),[.cells [.s (numI (r,b)).2.1,(.g (.bool (true)))]],[],?po,(by simp),(by simp),(by simp [OB.xk]),(zb7 [] [] (by simp [zG25,List.range_succ]) (by simp) ?en)⟩
   case en =>
    simp (disch:=omega) [zG29,scC,zb3]
   case po=>(simp_all [manyI,scC];done)
  ·try simp [zG28,zbc,zba] at hc4
 ·try simp [zG28,zbc,zba] at hc3
  refine zbh ?_
  refine zbm ?_
  refine zbe ?_
  refine AW_x rfl rfl λK hK=>?_
  simp (disch:=omega) [zG29,scC,zb3]
  refine hK _ ?_;clear hK K
  refine zbg rfl (λhc5=>?_) (λhc5=>?_)
  ·skip
   refine AW_x rfl rfl λK hK=>?_
   simp (disch:=omega) [zG29,scC,zb3]
   refine hK _ ?_;clear hK K
   refine zbo ⟨((.g (.int .i64 ((0:Int))))),[.cells [.s (numI (r,b)).2.1,(.g (.bool (true)))]],[],?po,(by simp),(by simp),(by simp [OB.xk]),(zb7 [] [] (by simp [zG25,List.range_succ]) (by simp) ?en)⟩
   case en =>
    simp (disch:=omega) [zG29,scC,zb3]
    omega
   case po=>(simp_all [manyI,scC];done)
  ·skip
   refine zbh ?_
   refine zbm ?_
   refine AW_x rfl rfl λK hK=>?_
   simp (disch:=omega) [zG29,scC,zb3]
   refine hK _ ?_;clear hK K
   refine zbo ⟨((.g (.int .i64 ((numI (r,b)).1)))),[.cells [.s (numI (r,b)).2.1,(.g (.bool ((numI (r,b)).2.2)))]],[],?po,(by simp),(by simp),(by simp [OB.xk]),(zb7 [] [] (by simp [zG25,List.range_succ]) (by simp) ?en)⟩
   case en =>
    simp (disch:=omega) [zG29,scC,zb3]
   case po=>(have hne:¬(m<(numI (r,b)).1∨(numI (r,b)).2.2=true):=(λh=>h.elim (λh=>by omega) (λh=>by simp_all));simp only [manyI,if_neg hne];simp_all [scC];done)
theorem scanMany(r:List UInt8)(b:Bool)(m:Int)(hs:r.length≤1048576):XCall Tryd.prog 20 [.ptr 8 0,(.g (.int .i64 (m)))] [.cells [.s r,(.g (.bool (b)))]] (.g (.int .i64 ((manyI m (r,b)).1))) [.cells (scC (manyI m (r,b)).2)] []:=zh1 (scanManyE r b m hs) rfl rfl
end Go.Proofs.YtodmafgmdlkhoaaDoor.Vs
end
