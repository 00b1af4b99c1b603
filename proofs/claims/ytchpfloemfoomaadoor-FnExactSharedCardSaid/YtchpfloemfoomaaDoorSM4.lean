import Derived.Test.YtchpfloemfoomaaDoorSM3
section
open Go Go.Proofs Go.Proofs.YtchpfloemfoomaaDoor.Vs
namespace Go.Proofs.YtchpfloemfoomaaDoor.Vs
set_option linter.all false
set_option maxRecDepth 100000
/-! words of 32 bits, as the program holds them -/
def wU(x:W32):AV:=.g (.int .u32 (wI x))
theorem wrapW(n:Int):IntKind.u32.wrap n=n % 4294967296:=by simp [IntKind.wrap,IntKind.bits,IntKind.signed]
theorem zvx(x:W32):IntKind.u32.wrap (wI x)=wI x:=by rw [wrapW];exact zj2 x
def uAnd(a b:Int):Int:=IntKind.u32.wrap (BitVec.ofInt IntKind.u32.bits a &&& BitVec.ofInt IntKind.u32.bits b).toNat
def uOr(a b:Int):Int:=IntKind.u32.wrap (BitVec.ofInt IntKind.u32.bits a ||| BitVec.ofInt IntKind.u32.bits b).toNat
def uXor(a b:Int):Int:=IntKind.u32.wrap (BitVec.ofInt IntKind.u32.bits a ^^^ BitVec.ofInt IntKind.u32.bits b).toNat
def uShl(a b:Int):Int:=IntKind.u32.wrap (a*2^(min b.toNat IntKind.u32.bits))
def uShr(a b:Int):Int:=a.fdiv (2^(min b.toNat IntKind.u32.bits))
def vAnd(a b:Int):Int:=IntKind.u64.wrap (BitVec.ofInt IntKind.u64.bits a &&& BitVec.ofInt IntKind.u64.bits b).toNat
theorem uAnd_eq(a b:Int):IntKind.u32.wrap (BitVec.ofInt IntKind.u32.bits a &&& BitVec.ofInt IntKind.u32.bits b).toNat=uAnd a b:=(rfl)
theorem uOr_eq(a b:Int):IntKind.u32.wrap (BitVec.ofInt IntKind.u32.bits a ||| BitVec.ofInt IntKind.u32.bits b).toNat=uOr a b:=(rfl)
theorem uXor_eq(a b:Int):IntKind.u32.wrap (BitVec.ofInt IntKind.u32.bits a ^^^ BitVec.ofInt IntKind.u32.bits b).toNat=uXor a b:=(rfl)
theorem uShl_eq(a b:Int):IntKind.u32.wrap (a*2^(min b.toNat IntKind.u32.bits))=uShl a b:=(rfl)
theorem uShr_eq(a b:Int):a.fdiv (2^(min b.toNat IntKind.u32.bits))=uShr a b:=(rfl)
theorem vAnd_eq(a b:Int):IntKind.u64.wrap (BitVec.ofInt IntKind.u64.bits a &&& BitVec.ofInt IntKind.u64.bits b).toNat=vAnd a b:=(rfl)
theorem zg1(x:W32):BitVec.ofInt 32 (wI x)=x:=by
 apply BitVec.eq_of_toNat_eq
 simp [wI]
theorem uAnd_w(a b:W32):uAnd (wI a) (wI b)=wI (a &&& b):=by
 show IntKind.u32.wrap (((BitVec.ofInt 32 (wI a) &&& BitVec.ofInt 32 (wI b)).toNat:Nat):Int)=_
 rw [zg1,zg1];exact zvx _
theorem zvy(a b:W32):uOr (wI a) (wI b)=wI (a ||| b):=by
 show IntKind.u32.wrap (((BitVec.ofInt 32 (wI a) ||| BitVec.ofInt 32 (wI b)).toNat:Nat):Int)=_
 rw [zg1,zg1];exact zvx _
theorem uXor_w(a b:W32):uXor (wI a) (wI b)=wI (a ^^^ b):=by
 show IntKind.u32.wrap (((BitVec.ofInt 32 (wI a) ^^^ BitVec.ofInt 32 (wI b)).toNat:Nat):Int)=_
 rw [zg1,zg1];exact zvx _
theorem zvz(a:W32):uXor 4294967295 (wI a)=wI (~~~a):=by
 have h:(4294967295:Int)=wI (BitVec.allOnes 32):=by decide
 rw [h,uXor_w,BitVec.allOnes_xor]
theorem uN_w(a:W32):uXor (if IntKind.u32.signed=true then -1 else 4294967295) (wI a)=wI (~~~a):=zvz a
theorem uN_w2(a:W32):uXor (if IntKind.u32.signed=true then -1 else IntKind.u32.max) (wI a)=wI (~~~a):=zvz a
theorem uAdd_w(a b:W32):IntKind.u32.wrap (wI a+wI b)=wI (a+b):=by rw [wrapW,add_w]
theorem zv0(x:W32)(z:Int)(h:0≤z∧z≤32):uShr (wI x) z=wI (x >>> z.toNat):=by
 unfold uShr
 rw [show min z.toNat IntKind.u32.bits=z.toNat from Nat.min_eq_left (by show z.toNat≤32;omega),shr_w]
theorem zrf(x:W32)(z:Int)(h:0≤z∧z≤32):uShl (wI x) z=wI (x <<< z.toNat):=by
 unfold uShl
 rw [show min z.toNat IntKind.u32.bits=z.toNat from Nat.min_eq_left (by show z.toNat≤32;omega),wrapW]
 unfold wI
 rw [BitVec.toNat_shiftLeft,Nat.shiftLeft_eq,Int.natCast_emod,Int.natCast_mul,Int.natCast_pow]
 rfl
theorem uRot(x:W32)(z:Int)(h : -32<z∧z<0):uOr (uShl (wI x) (32+z)) (uShr (wI x) (-z))=wI (x.rotateRight (-z).toNat):=by
 rw [zrf x _ (by omega),zv0 x _ (by omega),zvy]
 congr 1
 rw [BitVec.rotateRight_def,Nat.mod_eq_of_lt (by omega),BitVec.or_comm,show (32+z).toNat=32-(-z).toNat by omega]
theorem vMask(z:Int)(h : -32<z∧z<0):vAnd (18446744073709551616+z) 31=32+z:=by
 show IntKind.u64.wrap (((BitVec.ofInt 64 (18446744073709551616+z) &&& BitVec.ofInt 64 31).toNat:Nat):Int)=_
 have e:(BitVec.ofInt 64 (18446744073709551616+z) &&& BitVec.ofInt 64 31).toNat=(18446744073709551616+z).toNat % 32:=by
  rw [BitVec.toNat_and]
  have h1:(BitVec.ofInt 64 31).toNat=2^5-1:=by decide
  have h2:(BitVec.ofInt 64 (18446744073709551616+z)).toNat=(18446744073709551616+z).toNat:=by
   rw [BitVec.toNat_ofInt]
   omega
  rw [h1,h2,Nat.and_two_pow_sub_one_eq_mod]
 rw [e]
 have:∀n:Int,0≤n∧n<18446744073709551616→IntKind.u64.wrap n=n:=λn h=>wrapU h
 rw [this _ (by omega)]
 omega
theorem uwrd{p0 p1 p2 p3:Nat}(h0:p0<256)(h1:p1<256)(h2:p2<256)(h3:p3<256):uOr (uOr (uOr (uShl (IntKind.u32.wrap (p0:Int)) 24) (uShl (IntKind.u32.wrap (p1:Int)) 16)) (uShl (IntKind.u32.wrap (p2:Int)) 8)) (IntKind.u32.wrap (p3:Int))=wI (BitVec.ofNat 32 ((p0*256+p1)*65536+p2*256+p3)):=by
 have g:∀p:Nat,p<4294967296→IntKind.u32.wrap (p:Int)=wI (BitVec.ofNat 32 p):=λp hp=>by
  rw [wrapW];unfold wI;rw [BitVec.toNat_ofNat];omega
 rw [g p0 (by omega),g p1 (by omega),g p2 (by omega),g p3 (by omega),zrf _ 24 (by omega),zrf _ 16 (by omega),zrf _ 8 (by omega),zvy,zvy,zvy]
 congr 1
 apply BitVec.eq_of_toNat_eq
 have e1:p0*2^24 ||| p1*2^16=p0*2^24+p1*2^16:=zk9 _ _ 24 (by omega)
 have e2:(p0*2^24+p1*2^16) ||| p2*2^8=p0*2^24+p1*2^16+p2*2^8:=by
  have:=zk9 (p0*2^8+p1) (p2*2^8) 16 (by omega)
  rw [show (p0*2^8+p1)*2^16=p0*2^24+p1*2^16 by omega] at this
  exact this
 have e3:(p0*2^24+p1*2^16+p2*2^8) ||| p3=p0*2^24+p1*2^16+p2*2^8+p3:=by
  have:=zk9 ((p0*2^8+p1)*2^8+p2) p3 8 (by omega)
  rw [show ((p0*2^8+p1)*2^8+p2)*2^8=p0*2^24+p1*2^16+p2*2^8 by omega] at this
  exact this
 have k:∀(p m:Nat),p*2^m<4294967296→(BitVec.ofNat 32 p <<< m).toNat=p*2^m:=λp m h=>by
  rw [BitVec.toNat_shiftLeft,BitVec.toNat_ofNat,Nat.shiftLeft_eq,Nat.mod_mul_mod,Nat.mod_eq_of_lt h]
 rw [BitVec.toNat_or,BitVec.toNat_or,BitVec.toNat_or,show (24:Int).toNat=24 from rfl,show (16:Int).toNat=16 from rfl,show (8:Int).toNat=8 from rfl,k p0 24 (by omega),k p1 16 (by omega),k p2 8 (by omega),BitVec.toNat_ofNat,BitVec.toNat_ofNat,Nat.mod_eq_of_lt (by omega),e1,e2,e3,Nat.mod_eq_of_lt (by omega)]
 omega
/-! what the walk meets -/
def uC(v:W8):List AV:=[wU v.a,wU v.b,wU v.c,wU v.d,wU v.e,wU v.f,wU v.g,wU v.h]
def schU(b:List UInt8)(i:Nat):List AV:=(sch b i).map wU++List.replicate (64-i) (.g (.int .u32 0))
theorem schU_len(b:List UInt8)(i:Nat)(h:i≤64):(schU b i).length=64:=by unfold schU;simp [zcv];omega
theorem zlb(b:List UInt8):schU b 0=List.replicate 64 (.g (.int .u32 0)):=rfl
theorem zv1{α:Type}{l:List α}{j:Nat}{x:α}(h:l[j]? = some x):l.drop j=x :: l.drop (j+1):=by
 obtain ⟨h1,rfl⟩:=List.getElem?_eq_some_iff.1 h
 exact List.drop_eq_getElem_cons h1
theorem zrg(b:List UInt8)(i j:Nat)(h:j<i)(hi:i≤64):(schU b i).drop j=wU (wd b j) :: (schU b i).drop (j+1):=by
 refine zv1 ?_
 unfold schU
 rw [List.getElem?_append_left (by simp [zcv];omega),List.getElem?_map,zvr b i j h hi];rfl
theorem zgf(b:List UInt8)(i:Nat)(z:Int)(j:Nat)(hz:z=j)(h0:0<j)(h:j≤i)(hi:i≤64):(schU b i).drop ((i:Int)-z).toNat=wU (wd b (i-j)) :: (schU b i).drop (i-j+1):=by
 rw [show ((i:Int)-z).toNat=i-j by omega];exact zrg b i _ (by omega) hi
theorem zrh(b:List UInt8)(i:Nat)(h:i<64)(x:W32)(hx:sch b (i+1)=sch b i++[x]):(schU b i).set i (wU x)=schU b (i+1):=by
 unfold schU
 rw [hx,List.set_append_right _ _ (by simp [zcv]),show 64-i=(64-(i+1))+1 by omega,List.replicate_succ]
 simp [zcv]
theorem schU_a(b:List UInt8)(i:Nat)(hi:i<16):(schU b i).set i (wU (wrd b (4*i)))=schU b (i+1):=zrh b i (by omega) _ (by rw [sch,if_pos hi])
theorem schU_b(b:List UInt8)(i:Nat)(h1:16≤i)(hi:i<64):(schU b i).set i (wU (wd b (i-16)+(BitVec.rotateRight (wd b (i-15)) 7 ^^^ BitVec.rotateRight (wd b (i-15)) 18 ^^^ wd b (i-15) >>> 3)+wd b (i-7)+(BitVec.rotateRight (wd b (i-2)) 17 ^^^ BitVec.rotateRight (wd b (i-2)) 19 ^^^ wd b (i-2) >>> 10)))=schU b (i+1):=by
 refine zrh b i hi _ ?_
 rw [sch,if_neg (by omega),znv b i _ (by omega) (by omega),znv b i _ (by omega) (by omega),znv b i _ (by omega) (by omega),znv b i _ (by omega) (by omega)]
 rfl
theorem shaC_eq:shaC=shaK.map wU:=by
 unfold shaC shaN shaK
 simp only [List.map_cons,List.map_nil]
 rfl
theorem shaC_get(i:Nat)(h:i<64):shaC.drop i=wU (kd i) :: shaC.drop (i+1):=by
 refine zv1 ?_
 rw [shaC_eq,List.getElem?_map,kd_at i h];rfl
def stU(h v:W8)(i:Nat):List AV:=(uC (add8 h v)).take i++(uC h).drop i
theorem stU_0(h v:W8):stU h v 0=uC h:=rfl
theorem stU_8(h v:W8):stU h v 8=uC (add8 h v):=rfl
theorem stU_len(h v:W8)(i:Nat)(hi:i≤8):(stU h v i).length=8:=by
 have:i=0∨i=1∨i=2∨i=3∨i=4∨i=5∨i=6∨i=7∨i=8:=by omega
 rcases this with rfl | rfl | rfl | rfl | rfl | rfl | rfl | rfl | rfl<;>rfl
theorem stU_get(h v:W8)(i:Nat)(hi:i<8):(stU h v i).drop i=wU (h.get i) :: (stU h v i).drop (i+1):=by
 have:i=0∨i=1∨i=2∨i=3∨i=4∨i=5∨i=6∨i=7:=by omega
 rcases this with rfl | rfl | rfl | rfl | rfl | rfl | rfl | rfl<;>rfl
theorem uC_get(v:W8)(i:Nat)(hi:i<8):(uC v).drop i=wU (v.get i) :: (uC v).drop (i+1):=by
 have:i=0∨i=1∨i=2∨i=3∨i=4∨i=5∨i=6∨i=7:=by omega
 rcases this with rfl | rfl | rfl | rfl | rfl | rfl | rfl | rfl<;>rfl
theorem stU_set(h v:W8)(i:Nat)(hi:i<8):(stU h v i).set i (wU (h.get i+v.get i))=stU h v (i+1):=by
 have:i=0∨i=1∨i=2∨i=3∨i=4∨i=5∨i=6∨i=7:=by omega
 rcases this with rfl | rfl | rfl | rfl | rfl | rfl | rfl | rfl<;>rfl
theorem zca{b:List UInt8}{i:Nat}{x:AV}(h:x∈schU b i):∃n,x=.g (.int .u32 n):=by
 unfold schU at h
 rcases List.mem_append.1 h with h | h
 ·obtain ⟨w,-,rfl⟩:=List.mem_map.1 h;exact ⟨_,rfl⟩
 ·exact ⟨0,(List.mem_replicate.1 h).2⟩
theorem uC_mem{v:W8}{x:AV}(h:x∈uC v):∃n,x=.g (.int .u32 n):=by
 simp only [uC,List.mem_cons,List.not_mem_nil,or_false] at h
 rcases h with rfl | rfl | rfl | rfl | rfl | rfl | rfl | rfl<;>exact ⟨_,rfl⟩
theorem zka{h v:W8}{i:Nat}{x:AV}(hx:x∈stU h v i):∃n,x=.g (.int .u32 n):=by
 unfold stU at hx
 rcases List.mem_append.1 hx with hx | hx
 ·exact uC_mem (List.mem_of_mem_take hx)
 ·exact uC_mem (List.mem_of_mem_drop hx)
theorem ren_g{ρ:Ren}{l:List AV}(h:∀x∈l,∃n,x=.g (.int .u32 n)):l.map (renV ρ)=l:=by
 induction l with
 | nil=>rfl
 | cons x l ih =>
  obtain ⟨n,rfl⟩:=h x List.mem_cons_self
  rw [List.map_cons,ih λy hy=>h y (List.mem_cons_of_mem _ hy)]
  rfl
theorem schU_ren(ρ:Ren)(b:List UInt8)(i:Nat):List.map (renV ρ) (schU b i)=schU b i:=ren_g λ_ h=>zca h
theorem stU_ren(ρ:Ren)(h v:W8)(i:Nat):List.map (renV ρ) (stU h v i)=stU h v i:=ren_g λ_ h=>zka h
theorem uC_len(v:W8):(uC v).length=8:=rfl
end Go.Proofs.YtchpfloemfoomaaDoor.Vs
end
section
open Go Go.Proofs Go.Proofs.YtchpfloemfoomaaDoor.Vs
namespace Go.Proofs.YtchpfloemfoomaaDoor.Vs
set_option linter.all false
set_option maxRecDepth 100000
set_option maxHeartbeats 4000000
attribute [local simp ↓] uAnd_eq uOr_eq uXor_eq uShl_eq uShr_eq vAnd_eq
attribute [local simp] gv_0
theorem znz(x:W32)(z:Int)(hz : -32<z∧z<0):PCall Tryd.prog 67 [wU x,(.g (.int .i64 (z)))] (wU (x.rotateRight (-z).toNat)):=by
 have hw:IntKind.u64.wrap z=18446744073709551616+z:=by
  simp [IntKind.wrap,IntKind.bits,IntKind.signed]
  omega
 have hv:=vMask z hz
 have hs:IntKind.u64.wrap (32-(32+z)) = -z:=by rw [wrapU (by omega)];omega
 have hr:=uRot x z hz
 refine zbl Tryd.func67 (by rfl) (by rfl) (by rw [Tryd.ntmps67];exact Nat.le_of_ble_eq_true rfl) rfl (by decide) ?_
 rw [Tryd.ntmps67]
 refine AW_k [(0,_),(1,_)] ⟨rfl,rfl,trivial⟩ ?_
 refine AW_r rfl rfl λK hK=>?_
 simp (disch:=omega) [wU,hw,hv,hs,hr]
 repeat' first|(refine ⟨by omega,?_⟩)|(intro _)
 refine hK _ ?_;clear hK K
 refine AW_r rfl rfl λK hK=>?_
 simp (disch:=omega) [wU,hw,hv,hs,hr]
 repeat' first|(refine ⟨by omega,?_⟩)|(intro _)
 refine hK _ ?_;clear hK K
 refine AW_r rfl rfl λK hK=>?_
 simp (disch:=omega) [wU,hw,hv,hs,hr]
 repeat' first|(refine ⟨by omega,?_⟩)|(intro _)
 refine hK _ ?_;clear hK K
 refine zbz (zde ?_)
 simp (disch:=omega) [wU,hw,hv,hs,hr]
 all_goals first | rfl | exact hr | trace_state
theorem fourB(t:List UInt8)(h:4≤t.length):PCall Tryd.prog 66 [.s t] (wU (wrd t 0)):=by
 have h0:0<t.length:=by omega
 have h1:1<t.length:=by omega
 have h2:2<t.length:=by omega
 have h3:3<t.length:=by omega
 have e:=uwrd (UInt8.toNat_lt t[0]) (UInt8.toNat_lt t[1]) (UInt8.toNat_lt t[2]) (UInt8.toNat_lt t[3])
 have ew:BitVec.ofNat 32 ((t[0].toNat*256+t[1].toNat)*65536+t[2].toNat*256+t[3].toNat)=wrd t 0:=by
  unfold wrd
  simp [List.getD_eq_getElem?_getD,List.getElem?_eq_getElem,h0,h1,h2,h3]
 rw [ew] at e
 refine zbl Tryd.func66 (by rfl) (by rfl) (by rw [Tryd.ntmps66];exact Nat.le_of_ble_eq_true rfl) rfl (by decide) ?_
 rw [Tryd.ntmps66]
 refine AW_k [(0,_)] ⟨rfl,trivial⟩ ?_
 refine AW_r rfl rfl λK hK=>?_
 simp (disch:=omega) [wU,e]
 repeat' first|(refine ⟨by omega,?_⟩)|(intro _)
 refine hK _ ?_;clear hK K
 refine AW_q rfl mix (by kernel_rfl) rfl λK hK=>?_
 simp (disch:=omega) [wU,e]
 repeat' first|(refine ⟨by omega,?_⟩)|(intro _)
 refine hK _ ?_;clear hK K
 refine zbz (zde ?_)
 simp (disch:=omega) [wU,e]
 all_goals first | rfl | exact e | trace_state
theorem wrd_drop(b:List UInt8)(i:Nat):wrd (b.drop (4*i)) 0=wrd b (4*i):=by
 unfold wrd
 simp only [List.getD_eq_getElem?_getD,List.getElem?_drop,Nat.add_zero]
theorem fourB2(b:List UInt8)(i:Nat)(hb:b.length=64)(hi:i<16):PCall Tryd.prog 66 [.s (b.drop (4*i))] (wU (wrd b (4*i))):=by
 rw [←wrd_drop]
 exact fourB _ (by simp;omega)
attribute [local simp] wU uAnd_w uXor_w zvy uN_w uN_w2 zvz uAdd_w schU_len uC uC_len schU_ren stU_ren
def zG3:=And.intro @zce (And.intro @zfo @zc0)
def zG4:=And.intro @List.range_succ (And.intro @zce @zfo)
theorem shaBlk(h:W8)(b:List UInt8)(hb:b.length=64):XCall Tryd.prog 56 [.agg (uC h),.s b] [] (.agg (uC (blk h b))) [] []:=by
 refine zb6 Tryd.func56 (by rfl) (by rfl) (by rw [Tryd.ntmps56];exact Nat.le_of_ble_eq_true rfl) rfl (by simp) rfl rfl ?_
 rw [Tryd.ntmps56]
 refine znn   ?_
 refine AW_k [(0,_),(1,_)] ⟨rfl,rfl,trivial⟩ ?_
 refine AW_x rfl rfl λK hK=>?_
 simp (disch:=omega)
 repeat' first|(refine ⟨by omega,?_⟩)|(intro _)
 refine hK _ ?_;clear hK K
 refine AW_x rfl rfl λK hK=>?_
 simp (disch:=omega)
 repeat' first|(refine ⟨by omega,?_⟩)|(intro _)
 refine hK _ ?_;clear hK K
 refine zbf ?_
 refine AW_x rfl rfl λK hK=>?_
 simp (disch:=omega)
 repeat' first|(refine ⟨by omega,?_⟩)|(intro _)
 refine hK _ ?_;clear hK K
 refine zbg ?_
 refine zbr (λmM sS=>∃(i:Nat),mM=16-i∧(i≤16)∧sS = { env:=lkE [(1,.s b),(2,.ptr 48 0),(4,.ptr 80 0),(5,.ptr 96 0),(22,(.g (.int .i64 ((i:Nat)))))],ob:=lk [(48,.cells (uC h)),(80,.cells [.g (.int .u32 0),.g (.int .u32 0),.g (.int .u32 0),.g (.int .u32 0),.g (.int .u32 0),.g (.int .u32 0),.g (.int .u32 0),.g (.int .u32 0)]),(96,.cells (schU b i))] }) ?_ ?_
 ·refine ⟨_,LeS.kx [(48,48),(80,80),(96,96)] [(1,.s b),(2,.ptr 48 0),(4,.ptr 80 0),(5,.ptr 96 0),(22,(.g (.int .i64 (((0):Nat)))))] [(48,.cells (uC h)),(80,.cells [.g (.int .u32 0),.g (.int .u32 0),.g (.int .u32 0),.g (.int .u32 0),.g (.int .u32 0),.g (.int .u32 0),.g (.int .u32 0),.g (.int .u32 0)]),(96,.cells (schU b (0)))] (by simp [zG3,KpR,renV2,renV,zbh,zlb,uC,wU];first|(simp;done) | omega | trace_state) (by simp [zG3,KpOX,renO,plO,cvO,renV,pl1,zlb,uC,wU];first | with_reducible rfl | exact ⟨hst,λx hx=>by obtain ⟨n,rfl⟩:=zca hx;rfl⟩ | exact ⟨(zlb b).symm,λx hx=>by obtain ⟨n,rfl⟩:=zca hx;rfl⟩ | exact λx hx=>by obtain ⟨n,rfl⟩:=zca hx;rfl | trace_state) (by rfl) (by simp) (by simp) (by rfl) (by simp [zG4,formsX]),_,0,rfl,?_,rfl⟩
  ·simp
 ·rintro mM sS ⟨i,rfl,hi,rfl⟩
  refine AW_x rfl rfl λK hK=>?_
  simp (disch:=omega)
  repeat' first|(refine ⟨by omega,?_⟩)|(intro _)
  refine hK _ ?_;clear hK K
  refine zbf ?_
  refine zbo rfl (λhc1=>?_) (λhc1=>?_)
  ·try simp at hc1
   all_goals
    have hi2:i<16:=by omega
    have hsl:List.take (b.length-(4*(i:Int)).toNat) (List.drop (4*(i:Int)).toNat b)=b.drop (4*i):=by rw [show (4*(i:Int)).toNat=4*i by omega];exact List.take_of_length_le (by simp)
    have hst:=schU_a b i hi2
    refine zbn ?_
    refine zbj ?_
    refine zbf ?_
    refine zbg ?_
    refine AW_x rfl rfl λK hK=>?_
    simp (disch:=omega) [hsl]
    repeat' first|(exfalso;omega)|(refine ⟨λ_=>?_,λ_=>?_⟩)|(refine ⟨by omega,?_⟩)|(simp (disch:=omega) [hsl])|(intro _)
    all_goals (refine hK _ ?_;clear hK K)
    all_goals
     refine zcp rfl rfl λK hK=>?_
     simp (disch:=omega) [hsl]
     repeat' first|(exfalso;omega)|(refine zjt (zbd zft zbk) (fourB2 b i hb hi2) rfl ?_;simp (disch:=omega) [hsl])|(refine zju (fourB2 b i hb hi2) (by rfl) ?_ ?_;(focus (simp (disch:=omega) [hsl,zbe];done));simp (disch:=omega) [hsl])|(refine ⟨by omega,?_⟩)|(simp (disch:=omega) [hsl])|(intro _)
     refine hK _ ?_;clear hK K
     refine zbj ?_
     refine zcp rfl rfl λK hK=>?_
     simp (disch:=omega) [hsl]
     repeat' first|(refine ⟨by omega,?_⟩)|(intro _)
     refine hK _ ?_;clear hK K
     refine ⟨_,LeS.kx [(48,48),(80,80),(96,96)] [(1,.s b),(2,.ptr 48 0),(4,.ptr 80 0),(5,.ptr 96 0),(22,(.g (.int .i64 (((i+1):Nat)))))] [(48,.cells (uC h)),(80,.cells [.g (.int .u32 0),.g (.int .u32 0),.g (.int .u32 0),.g (.int .u32 0),.g (.int .u32 0),.g (.int .u32 0),.g (.int .u32 0),.g (.int .u32 0)]),(96,.cells (schU b (i+1)))] (by simp [zG3,KpR,renV2,renV,zbh,zlb,uC,wU];first|(simp;done) | omega | trace_state) (by simp [zG3,KpOX,renO,plO,cvO,renV,pl1,zlb,uC,wU];first | with_reducible rfl | exact ⟨hst,λx hx=>by obtain ⟨n,rfl⟩:=zca hx;rfl⟩ | exact ⟨(zlb b).symm,λx hx=>by obtain ⟨n,rfl⟩:=zca hx;rfl⟩ | exact λx hx=>by obtain ⟨n,rfl⟩:=zca hx;rfl | trace_state) (by rfl) (by simp) (by simp) (by rfl) (by simp [zG4,formsX]),_,?_,i+1,rfl,?_,rfl⟩
     ·omega
     ·omega
  ·try simp at hc1
   all_goals
    have hil:i=16:=by omega
    subst hil
    refine zb4 ?_
    refine zbj ?_
    refine zbf ?_
    refine AW_x rfl rfl λK hK=>?_
    simp (disch:=omega)
    repeat' first|(exfalso;omega)|(refine ⟨λ_=>?_,λ_=>?_⟩)|(refine ⟨by omega,?_⟩)|(simp (disch:=omega))|(intro _)
    all_goals (refine hK _ ?_;clear hK K)
    all_goals
     refine zbg ?_
     refine zbr (λmM sS=>∃(i:Nat),mM=64-i∧(16≤i∧i≤64)∧sS = { env:=lkE [(1,.s b),(2,.ptr 48 0),(4,.ptr 80 0),(5,.ptr 96 0),(7,(.g (.int .i64 ((i:Nat)))))],ob:=lk [(48,.cells (uC h)),(80,.cells [.g (.int .u32 0),.g (.int .u32 0),.g (.int .u32 0),.g (.int .u32 0),.g (.int .u32 0),.g (.int .u32 0),.g (.int .u32 0),.g (.int .u32 0)]),(96,.cells (schU b i))] }) ?_ ?_
     ·refine ⟨_,LeS.kx [(48,48),(80,80),(96,96)] [(1,.s b),(2,.ptr 48 0),(4,.ptr 80 0),(5,.ptr 96 0),(7,(.g (.int .i64 (((16):Nat)))))] [(48,.cells (uC h)),(80,.cells [.g (.int .u32 0),.g (.int .u32 0),.g (.int .u32 0),.g (.int .u32 0),.g (.int .u32 0),.g (.int .u32 0),.g (.int .u32 0),.g (.int .u32 0)]),(96,.cells (schU b (16)))] (by simp [zG3,KpR,renV2,renV,zbh,uC,wU];first|(simp;done) | omega | trace_state) (by simp [zG3,KpOX,renO,plO,cvO,renV,pl1,uC,wU];first | with_reducible rfl | exact ⟨hst,λx hx=>by obtain ⟨n,rfl⟩:=zca hx;rfl⟩ | exact λx hx=>by obtain ⟨n,rfl⟩:=zca hx;rfl | trace_state) (by rfl) (by simp) (by simp) (by rfl) (by simp [zG4,formsX]),_,16,rfl,?_,rfl⟩
      ·simp
     ·rintro mM sS ⟨i,rfl,⟨hi1,hi⟩,rfl⟩
      refine zbf ?_
      refine AW_x rfl rfl λK hK=>?_
      simp (disch:=omega)
      repeat' first|(refine ⟨by omega,?_⟩)|(intro _)
      refine hK _ ?_;clear hK K
      refine zbo rfl (λhc2=>?_) (λhc2=>?_)
      ·try simp at hc2
       all_goals
        have hi2:i<64:=by omega
        have g15:=zgf b i 15 15 rfl (by omega) (by omega) hi
        have g2:=zgf b i 2 2 rfl (by omega) (by omega) hi
        have g16:=zgf b i 16 16 rfl (by omega) (by omega) hi
        have g7:=zgf b i 7 7 rfl (by omega) (by omega) hi
        have s3:=zv0 (wd b (i-15)) 3 (by omega)
        have s10:=zv0 (wd b (i-2)) 10 (by omega)
        have hst:=schU_b b i hi1 hi2
        refine zbn ?_
        refine zbj ?_
        refine zbf ?_
        refine zbg ?_
        refine AW_d rfl mix (by kernel_rfl) (by kernel_rfl) λK hK=>?_
        simp (disch:=omega) [g15,g2,g16,g7,s3,s10]
        repeat' first|(exfalso;omega)|(refine ⟨λ_=>?_,λ_=>?_⟩)|(refine ⟨by omega,?_⟩)|(simp (disch:=omega) [g15,g2,g16,g7,s3,s10])|(intro _)
        all_goals (refine hK _ _ (by kernel_rfl) ?_;clear hK K)
        all_goals
         refine AW_x rfl rfl λK hK=>?_
         simp (disch:=omega) [g15,g2,g16,g7,s3,s10]
         repeat' first|(exfalso;omega)|(refine zjt (zbd zcj (zbd zcj zbk)) (znz _ _ (by decide)) rfl ?_;simp (disch:=omega) [g15,g2,g16,g7,s3,s10])|(refine zju (znz _ _ (by decide)) (by rfl) ?_ ?_;(focus (simp (disch:=omega) [g15,g2,g16,g7,s3,s10,zbe];done));simp (disch:=omega) [g15,g2,g16,g7,s3,s10])|(refine ⟨by omega,?_⟩)|(simp (disch:=omega) [g15,g2,g16,g7,s3,s10])|(intro _)
         refine hK _ ?_;clear hK K
         refine AW_x rfl rfl λK hK=>?_
         simp (disch:=omega) [g15,g2,g16,g7,s3,s10]
         repeat' first|(exfalso;omega)|(refine zjt (zbd zcj (zbd zcj zbk)) (znz _ _ (by decide)) rfl ?_;simp (disch:=omega) [g15,g2,g16,g7,s3,s10])|(refine zju (znz _ _ (by decide)) (by rfl) ?_ ?_;(focus (simp (disch:=omega) [g15,g2,g16,g7,s3,s10,zbe];done));simp (disch:=omega) [g15,g2,g16,g7,s3,s10])|(refine ⟨by omega,?_⟩)|(simp (disch:=omega) [g15,g2,g16,g7,s3,s10])|(intro _)
         refine hK _ ?_;clear hK K
         refine zl6 rfl mix (by kernel_rfl) (by kernel_rfl) λK hK=>?_
         simp (disch:=omega) [g15,g2,g16,g7,s3,s10]
         repeat' first|(refine ⟨by omega,?_⟩)|(simp (disch:=omega) [g15,g2,g16,g7,s3,s10])|(intro _)
         refine hK _ _ (by kernel_rfl) ?_;clear hK K
         refine zbj ?_
         refine zcp rfl rfl λK hK=>?_
         simp (disch:=omega) [g15,g2,g16,g7,s3,s10]
         repeat' first|(refine ⟨by omega,?_⟩)|(intro _)
         refine hK _ ?_;clear hK K
         refine ⟨_,LeS.kx [(48,48),(80,80),(96,96)] [(1,.s b),(2,.ptr 48 0),(4,.ptr 80 0),(5,.ptr 96 0),(7,(.g (.int .i64 (((i+1):Nat)))))] [(48,.cells (uC h)),(80,.cells [.g (.int .u32 0),.g (.int .u32 0),.g (.int .u32 0),.g (.int .u32 0),.g (.int .u32 0),.g (.int .u32 0),.g (.int .u32 0),.g (.int .u32 0)]),(96,.cells (schU b (i+1)))] (by simp [zG3,KpR,renV2,renV,zbh,uC,wU];first|(simp;done) | omega | trace_state) (by simp [zG3,KpOX,renO,plO,cvO,renV,pl1,uC,wU];first | with_reducible rfl | exact ⟨hst,λx hx=>by obtain ⟨n,rfl⟩:=zca hx;rfl⟩ | exact λx hx=>by obtain ⟨n,rfl⟩:=zca hx;rfl | trace_state) (by rfl) (by simp) (by simp) (by rfl) (by simp [zG4,formsX]),_,?_,i+1,rfl,?_,rfl⟩
         ·omega
         ·omega
      ·try simp at hc2
       all_goals
        have hil:i=64:=by omega
        subst hil
        refine zb4 ?_
        refine zbj ?_
        refine AW_x rfl rfl λK hK=>?_
        simp (disch:=omega)
        repeat' first|(exfalso;omega)|(refine ⟨λ_=>?_,λ_=>?_⟩)|(refine ⟨by omega,?_⟩)|(simp (disch:=omega))|(intro _)
        all_goals (refine hK _ ?_;clear hK K)
        all_goals
         refine zbf ?_
         refine AW_x rfl rfl λK hK=>?_
         simp (disch:=omega)
         repeat' first|(refine ⟨by omega,?_⟩)|(intro _)
         refine hK _ ?_;clear hK K
         refine zbg ?_
         refine zbr (λmM sS=>∃(i:Nat),mM=64-i∧(i≤64)∧sS = { env:=lkE [(2,.ptr 48 0),(4,.ptr 80 0),(5,.ptr 96 0),(12,.ptr 208 0),(77,(.g (.int .i64 ((i:Nat)))))],ob:=lk [(48,.cells (uC h)),(80,.cells [.g (.int .u32 0),.g (.int .u32 0),.g (.int .u32 0),.g (.int .u32 0),.g (.int .u32 0),.g (.int .u32 0),.g (.int .u32 0),.g (.int .u32 0)]),(96,.cells (schU b 64)),(208,.cells (uC (runW b h i)))] }) ?_ ?_
         ·refine ⟨_,LeS.kx [(48,48),(80,80),(96,96),(208,208)] [(2,.ptr 48 0),(4,.ptr 80 0),(5,.ptr 96 0),(12,.ptr 208 0),(77,(.g (.int .i64 (((0):Nat)))))] [(48,.cells (uC h)),(80,.cells [.g (.int .u32 0),.g (.int .u32 0),.g (.int .u32 0),.g (.int .u32 0),.g (.int .u32 0),.g (.int .u32 0),.g (.int .u32 0),.g (.int .u32 0)]),(96,.cells (schU b 64)),(208,.cells (uC (runW b h (0))))] (by simp [zG3,KpR,renV2,renV,zbh,uC,wU,zdt];first|(simp;done) | omega | trace_state) (by simp [zG3,KpOX,renO,plO,cvO,renV,pl1,uC,wU,zdt];first | with_reducible rfl | exact λx hx=>by obtain ⟨n,rfl⟩:=zca hx;rfl|(simp only [hr8,rnd,bs1,bs0,chW,mjW,BitVec.add_assoc];exact ⟨λx hx=>by obtain ⟨n,rfl⟩:=zca hx;rfl,by simp⟩)|(simp only [hr8,rnd,bs1,bs0,chW,mjW,BitVec.add_assoc];done) | trace_state) (by rfl) (by simp) (by simp) (by rfl) (by simp [zG4,formsX]),_,0,rfl,?_,rfl⟩
          ·simp
         ·rintro mM sS ⟨i,rfl,hi,rfl⟩
          refine AW_x rfl rfl λK hK=>?_
          simp (disch:=omega)
          repeat' first|(refine ⟨by omega,?_⟩)|(intro _)
          refine hK _ ?_;clear hK K
          refine zbf ?_
          refine zbo rfl (λhc3=>?_) (λhc3=>?_)
          ·try simp at hc3
           all_goals
            have hi2:i<64:=by omega
            have gw:=zrg b 64 i hi2 (by omega)
            have gk:=shaC_get i hi2
            obtain ⟨v,hv⟩:∃v,runW b h i=v:=⟨_,rfl⟩
            have hr8:runW b h (i+1)=rnd (kd i) (wd b i) v:=by rw [zj4,hv]
            rw [hv]
            refine zbn ?_
            refine zbj ?_
            refine zbf ?_
            refine zbg ?_
            refine AW_x rfl rfl λK hK=>?_
            simp (disch:=omega) [gw,gk,uC]
            repeat' first|(exfalso;omega)|(refine ⟨λ_=>?_,λ_=>?_⟩)|(refine ⟨by omega,?_⟩)|(simp (disch:=omega) [gw,gk,uC])|(intro _)
            all_goals (refine hK _ ?_;clear hK K)
            all_goals
             refine AW_d rfl mix (by kernel_rfl) (by kernel_rfl) λK hK=>?_
             simp (disch:=omega) [gw,gk,uC]
             repeat' first|(refine ⟨by omega,?_⟩)|(intro _)
             refine hK _ _ (by kernel_rfl) ?_;clear hK K
             refine AW_x rfl rfl λK hK=>?_
             simp (disch:=omega) [gw,gk,uC]
             repeat' first|(exfalso;omega)|(refine zjt (zbd zcj (zbd zcj zbk)) (znz _ _ (by decide)) rfl ?_;simp (disch:=omega) [gw,gk,uC])|(refine zju (znz _ _ (by decide)) (by rfl) ?_ ?_;(focus (simp (disch:=omega) [gw,gk,uC,zbe];done));simp (disch:=omega) [gw,gk,uC])|(refine ⟨by omega,?_⟩)|(simp (disch:=omega) [gw,gk,uC])|(intro _)
             refine hK _ ?_;clear hK K
             refine AW_x rfl rfl λK hK=>?_
             simp (disch:=omega) [gw,gk,uC]
             repeat' first|(refine ⟨by omega,?_⟩)|(intro _)
             refine hK _ ?_;clear hK K
             refine AW_d rfl mix (by kernel_rfl) (by kernel_rfl) λK hK=>?_
             simp (disch:=omega) [gw,gk,uC]
             repeat' first|(refine ⟨by omega,?_⟩)|(intro _)
             refine hK _ _ (by kernel_rfl) ?_;clear hK K
             refine AW_x rfl rfl λK hK=>?_
             simp (disch:=omega) [gw,gk,uC]
             repeat' first|(exfalso;omega)|(refine zjt (zbd zcj (zbd zcj zbk)) (znz _ _ (by decide)) rfl ?_;simp (disch:=omega) [gw,gk,uC])|(refine zju (znz _ _ (by decide)) (by rfl) ?_ ?_;(focus (simp (disch:=omega) [gw,gk,uC,zbe];done));simp (disch:=omega) [gw,gk,uC])|(refine ⟨by omega,?_⟩)|(simp (disch:=omega) [gw,gk,uC])|(intro _)
             refine hK _ ?_;clear hK K
             refine AW_x rfl rfl λK hK=>?_
             simp (disch:=omega) [gw,gk,uC]
             repeat' first|(refine ⟨by omega,?_⟩)|(intro _)
             refine hK _ ?_;clear hK K
             refine zcp rfl rfl λK hK=>?_
             simp (disch:=omega) [gw,gk,uC]
             repeat' first|(refine ⟨by omega,?_⟩)|(simp (disch:=omega) [gw,gk,uC])|(intro _)
             refine hK _ ?_;clear hK K
             refine zbj ?_
             refine zcp rfl rfl λK hK=>?_
             simp (disch:=omega) [gw,gk,uC]
             repeat' first|(refine ⟨by omega,?_⟩)|(intro _)
             refine hK _ ?_;clear hK K
             refine ⟨_,LeS.kx [(48,48),(80,80),(96,96),(208,208)] [(2,.ptr 48 0),(4,.ptr 80 0),(5,.ptr 96 0),(12,.ptr 208 0),(77,(.g (.int .i64 (((i+1):Nat)))))] [(48,.cells (uC h)),(80,.cells [.g (.int .u32 0),.g (.int .u32 0),.g (.int .u32 0),.g (.int .u32 0),.g (.int .u32 0),.g (.int .u32 0),.g (.int .u32 0),.g (.int .u32 0)]),(96,.cells (schU b 64)),(208,.cells (uC (runW b h (i+1))))] (by simp [zG3,KpR,renV2,renV,zbh,uC,wU,zdt];first|(simp;done) | omega | trace_state) (by simp [zG3,KpOX,renO,plO,cvO,renV,pl1,uC,wU,zdt];first | with_reducible rfl | exact λx hx=>by obtain ⟨n,rfl⟩:=zca hx;rfl|(simp only [hr8,rnd,bs1,bs0,chW,mjW,BitVec.add_assoc];exact ⟨λx hx=>by obtain ⟨n,rfl⟩:=zca hx;rfl,by simp⟩)|(simp only [hr8,rnd,bs1,bs0,chW,mjW,BitVec.add_assoc];done) | trace_state) (by rfl) (by simp) (by simp) (by rfl) (by simp [zG4,formsX]),_,?_,i+1,rfl,?_,rfl⟩
             ·omega
             ·omega
          ·try simp at hc3
           all_goals
            have hil:i=64:=by omega
            subst hil
            obtain ⟨v,hv⟩:∃v,runW b h 64=v:=⟨_,rfl⟩
            rw [hv]
            refine zb4 ?_
            refine zbj ?_
            refine zbf ?_
            refine AW_x rfl rfl λK hK=>?_
            simp (disch:=omega)
            repeat' first|(exfalso;omega)|(refine ⟨λ_=>?_,λ_=>?_⟩)|(refine ⟨by omega,?_⟩)|(simp (disch:=omega))|(intro _)
            all_goals (refine hK _ ?_;clear hK K)
            all_goals
             refine zbg ?_
             refine zbr (λmM sS=>∃(i:Nat),mM=8-i∧(i≤8)∧sS = { env:=lkE [(2,.ptr 48 0),(4,.ptr 80 0),(12,.ptr 208 0),(162,(.g (.int .i64 ((i:Nat)))))],ob:=lk [(48,.cells (stU h v i)),(80,.cells [.g (.int .u32 0),.g (.int .u32 0),.g (.int .u32 0),.g (.int .u32 0),.g (.int .u32 0),.g (.int .u32 0),.g (.int .u32 0),.g (.int .u32 0)]),(208,.cells (uC v))] }) ?_ ?_
             ·refine ⟨_,LeS.kx [(48,48),(80,80),(208,208)] [(2,.ptr 48 0),(4,.ptr 80 0),(12,.ptr 208 0),(162,(.g (.int .i64 (((0):Nat)))))] [(48,.cells (stU h v (0))),(80,.cells [.g (.int .u32 0),.g (.int .u32 0),.g (.int .u32 0),.g (.int .u32 0),.g (.int .u32 0),.g (.int .u32 0),.g (.int .u32 0),.g (.int .u32 0)]),(208,.cells (uC v))] (by simp [zG3,KpR,renV2,renV,zbh,uC,wU];first|(simp;done) | omega | trace_state) (by simp [zG3,KpOX,renO,plO,cvO,renV,pl1,uC,wU];first | with_reducible rfl | exact ⟨hst,λx hx=>by obtain ⟨n,rfl⟩:=zka hx;rfl⟩ | exact ⟨(stU_0 h v).symm,λx hx=>by obtain ⟨n,rfl⟩:=zka hx;rfl⟩ | trace_state) (by rfl) (by simp) (by simp) (by rfl) (by simp [zG4,formsX]),_,0,rfl,?_,rfl⟩
              ·simp
             ·rintro mM sS ⟨i,rfl,hi,rfl⟩
              have hsl:=stU_len h v i hi
              refine AW_x rfl rfl λK hK=>?_
              simp (disch:=omega)
              repeat' first|(refine ⟨by omega,?_⟩)|(intro _)
              refine hK _ ?_;clear hK K
              refine zbf ?_
              refine zbo rfl (λhc4=>?_) (λhc4=>?_)
              ·try simp at hc4
               all_goals
                have hi2:i<8:=by omega
                have g1:=stU_get h v i hi2
                have g2:=uC_get v i hi2
                simp only [uC,wU] at g2
                have hst:=stU_set h v i hi2
                refine zbn ?_
                refine zbj ?_
                refine zbf ?_
                refine zbg ?_
                refine AW_x rfl rfl λK hK=>?_
                simp (disch:=omega) [g1,g2,hsl]
                repeat' first|(exfalso;omega)|(refine ⟨λ_=>?_,λ_=>?_⟩)|(refine ⟨by omega,?_⟩)|(simp (disch:=omega) [g1,g2,hsl])|(intro _)
                all_goals (refine hK _ ?_;clear hK K)
                all_goals
                 refine zl6 rfl mix (by kernel_rfl) (by kernel_rfl) λK hK=>?_
                 simp (disch:=omega) [g1,g2,hsl]
                 repeat' first|(refine ⟨by omega,?_⟩)|(simp (disch:=omega) [g1,g2,hsl])|(intro _)
                 refine hK _ _ (by kernel_rfl) ?_;clear hK K
                 refine zbj ?_
                 refine zcp rfl rfl λK hK=>?_
                 simp (disch:=omega) [g1,g2,hsl]
                 repeat' first|(refine ⟨by omega,?_⟩)|(intro _)
                 refine hK _ ?_;clear hK K
                 refine ⟨_,LeS.kx [(48,48),(80,80),(208,208)] [(2,.ptr 48 0),(4,.ptr 80 0),(12,.ptr 208 0),(162,(.g (.int .i64 (((i+1):Nat)))))] [(48,.cells (stU h v (i+1))),(80,.cells [.g (.int .u32 0),.g (.int .u32 0),.g (.int .u32 0),.g (.int .u32 0),.g (.int .u32 0),.g (.int .u32 0),.g (.int .u32 0),.g (.int .u32 0)]),(208,.cells (uC v))] (by simp [zG3,KpR,renV2,renV,zbh,uC,wU];first|(simp;done) | omega | trace_state) (by simp [zG3,KpOX,renO,plO,cvO,renV,pl1,uC,wU];first | with_reducible rfl | exact ⟨hst,λx hx=>by obtain ⟨n,rfl⟩:=zka hx;rfl⟩ | exact ⟨(stU_0 h v).symm,λx hx=>by obtain ⟨n,rfl⟩:=zka hx;rfl⟩ | trace_state) (by rfl) (by simp) (by simp) (by rfl) (by simp [zG4,formsX]),_,?_,i+1,rfl,?_,rfl⟩
                 ·omega
                 ·omega
              ·try simp at hc4
               all_goals
                have hil:i=8:=by omega
                subst hil
                rw [stU_8]
                refine zb4 ?_
                refine zbj ?_
                refine AW_x rfl rfl λK hK=>?_
                simp (disch:=omega)
                repeat' first|(exfalso;omega)|(refine ⟨λ_=>?_,λ_=>?_⟩)|(refine ⟨by omega,?_⟩)|(simp (disch:=omega))|(intro _)
                all_goals (refine hK _ ?_;clear hK K)
                all_goals
                 refine zbz (zjv [] [] (by simp [zG3,List.range_succ]) (by simp) ?_)
                 simp (disch:=omega)
                 all_goals first|(have hbk:blk h b=add8 h v:=(by unfold blk;rw [hv]);simp [hbk];done) | trace_state
end Go.Proofs.YtchpfloemfoomaaDoor.Vs
end
section
open Go Go.Proofs Go.Proofs.YtchpfloemfoomaaDoor.Vs
namespace Go.Proofs.YtchpfloemfoomaaDoor.Vs
set_option linter.all false
set_option maxRecDepth 100000
set_option maxHeartbeats 4000000
attribute [local simp ↓] zl7 zq8 zl8 zl9 zma zmb
/-- The low bytes of a number, the greatest first. -/
def dv(n k:Nat):Nat:=n / 2^(8*k)
def lb(n k:Nat):Int:=((n / 2^(8*k) % 256:Nat):Int)
theorem dv_0(n:Nat):dv n 0=n:=by simp [dv]
theorem dv_and(n k:Nat):IntKind.u8.wrap (zAnd (dv n k:Int) 255)=lb n k:=by rw [mask8,wrapB];unfold lb dv;omega
theorem dv_shr(n k:Nat):zShr (dv n k:Int) 8=(dv n (k+1):Int):=by
 rw [zvv _ _ (by omega),show (8:Int).toNat=8 from rfl]
 unfold dv
 rw [Nat.div_div_eq_div_mul,←Nat.pow_add];rfl
def loB(n:Nat):Nat→List Int
 | 0=>[]
 | k+1=>lb n k :: loB n k
theorem zqg(n:Nat):∀k,(loB n k).length=k
 | 0=>rfl
 | k+1=>by rw [loB,List.length_cons,zqg n k]
def fxR(n m k:Nat):List (List AV):=List.replicate (m-k) (bC 0)++(loB n k).map bC
theorem zfu(n m k:Nat)(h:k≤m):(fxR n m k).length=m:=by unfold fxR;simp [zqg];omega
theorem fxR_0(n m:Nat):fxR n m 0=List.replicate m [.g (.int .u8 0)]:=by unfold fxR;simp [loB,bC]
theorem fxR_m(n m:Nat):fxR n m m=(loB n m).map bC:=by unfold fxR;simp
theorem fxR_set(n m k:Nat)(h:k<m):(fxR n m k).set (m-(k+1)) (bC (lb n k))=fxR n m (k+1):=by
 unfold fxR
 rw [loB,show m-k=(m-(k+1))+1 by omega,List.replicate_succ',List.append_assoc,List.set_append_right _ _ (by simp)]
 simp
theorem fxR_get(n m k:Nat)(h:k<m):(fxR n m k)[m-(k+1)]? = some [.g (.int .u8 0)]:=by
 unfold fxR
 rw [List.getElem?_append_left (by simp;omega),List.getElem?_replicate,if_pos (by omega)];rfl
theorem zmd(n m k:Nat):scR (fxR n m k)=true:=by
 unfold fxR
 rw [zp6,zgl bC (λ_=>rfl)]
 simp
 induction (m-k) with
 | zero=>rfl
 | succ n ih=>rw [List.replicate_succ];simpa [scR,bC] using ih
theorem zv2(n m:Nat):numsOf (fxR n m m)=some (loB n m):=by rw [fxR_m];exact zge _
theorem zri{α:Type}{l:List α}{n:Nat}(h:l.length=n):l.take n=l:=List.take_of_length_le (by omega)
theorem zlc(x lo hi:Int):PCall Tryd.prog 47 [(.g (.int .i64 (x))),(.g (.int .i64 (lo))),(.g (.int .i64 (hi)))] (.g (.bool (decide (lo≤x)&&decide (x≤hi)))):=by
 refine zbl Tryd.func47 (by rfl) (by rfl) (by rw [Tryd.ntmps47];exact Nat.le_of_ble_eq_true rfl) rfl (by decide) ?_
 rw [Tryd.ntmps47]
 refine AW_k [(0,_),(1,_),(2,_)] ⟨rfl,rfl,rfl,trivial⟩ ?_
 refine AW_r rfl rfl λK hK=>?_
 simp (disch:=omega)
 repeat' first|(refine ⟨by omega,?_⟩)|(intro _)
 refine hK _ ?_;clear hK K
 refine AW_r rfl rfl λK hK=>?_
 simp (disch:=omega)
 repeat' first|(exfalso;omega)|(refine ⟨λ_=>?_,λ_=>?_⟩)|(refine ⟨by omega,?_⟩)|(intro _)
 all_goals (refine hK _ ?_;clear hK K)
 all_goals
  refine zbz (zde ?_)
  simp (disch:=omega)
  all_goals first | rfl | omega|(simp_all;done)|(simp_all;omega) | trace_state
attribute [local simp] zri zfu
def zG5:=And.intro @zri (And.intro @zfu @zv2)
theorem fixS(n m:Nat)(hm:1≤m∧m≤7)(hn:n<2^(8*m)):XCall Tryd.prog 55 [(.g (.int .i64 ((n:Nat)))),(.g (.int .i64 ((m:Nat))))] [] (.s (strN (loB n m))) [] []:=by
 have h1:(1:Int)≤(m:Int):=by omega
 have h2:(m:Int)≤7:=by omega
 have h3:¬(n:Int)<0:=by omega
 have h4:(0:Int)≤8*(m:Int):=by omega
 have hp:2^(8*m)≤2^56:=Nat.pow_le_pow_right (by omega) (by omega)
 have hs:=zf8 1 (8*(m:Int)) (8*m) (by omega) (by omega) (by omega)
 have h5:¬zShl 1 (8*(m:Int))≤(n:Int):=by
  have e:zShl 1 (8*(m:Int))=((1*2^(8*m):Nat):Int):=hs
  rw [e];omega
 refine zb6 Tryd.func55 (by rfl) (by rfl) (by rw [Tryd.ntmps55];exact Nat.le_of_ble_eq_true rfl) rfl (by simp) rfl rfl ?_
 rw [Tryd.ntmps55]
 refine znn   ?_
 refine AW_k [(0,_),(1,_)] ⟨rfl,rfl,trivial⟩ ?_
 refine AW_x rfl rfl λK hK=>?_
 simp (disch:=omega) [zG5,h1,h2,h3,h4,h5]
 repeat' first|(refine ⟨by omega,?_⟩)|(intro _)
 refine hK _ ?_;clear hK K
 refine zbf ?_
 refine AW_x rfl rfl λK hK=>?_
 simp (disch:=omega) [zG5,h1,h2,h3,h4,h5]
 repeat' first|(exfalso;omega)|(refine zjt (zbd zcj (zbd zcj (zbd zcj zbk))) (zlc _ _ _) rfl ?_;simp (disch:=omega) [zG5,h1,h2,h3,h4,h5])|(refine zju (zlc _ _ _) (by rfl) ?_ ?_;(focus (simp (disch:=omega) [zG5,h1,h2,h3,h4,h5,zbe];done));simp (disch:=omega) [zG5,h1,h2,h3,h4,h5])|(refine ⟨λ_=>?_,λ_=>?_⟩)|(refine ⟨by omega,?_⟩)|(simp (disch:=omega) [zG5,h1,h2,h3,h4,h5])|(intro _)
 all_goals (refine hK _ ?_;clear hK K)
 all_goals
  refine zbo rfl (λhc1=>?_) (λhc1=>?_)
  ·try simp at hc1
   all_goals
    refine AW_x rfl rfl λK hK=>?_
    simp (disch:=omega) [zG5,h1,h2,h3,h4,h5]
    repeat' first|(exfalso;omega)|(refine ⟨λ_=>?_,λ_=>?_⟩)|(refine ⟨by omega,?_⟩)|(simp (disch:=omega) [zG5,h1,h2,h3,h4,h5])|(intro _)
    all_goals (refine hK _ ?_;clear hK K)
    all_goals
     refine zbz (zjv [] [] (by simp [zG3,List.range_succ]) (by simp) ?_)
     simp (disch:=omega) [zG5,h1,h2,h3,h4,h5]
     all_goals first | rfl | trace_state
  ·try simp at hc1
   all_goals
    refine zbn ?_
    refine zbj ?_
    refine AW_x rfl rfl λK hK=>?_
    simp (disch:=omega) [zG5,h1,h2,h3,h4,h5]
    repeat' first|(exfalso;omega)|(refine ⟨λ_=>?_,λ_=>?_⟩)|(refine ⟨by omega,?_⟩)|(simp (disch:=omega) [zG5,h1,h2,h3,h4,h5])|(intro _)
    all_goals (refine hK _ ?_;clear hK K)
    all_goals
     refine zbf ?_
     refine AW_x rfl rfl λK hK=>?_
     simp (disch:=omega) [zG5,h1,h2,h3,h4,h5]
     repeat' first|(refine ⟨by omega,?_⟩)|(intro _)
     refine hK _ ?_;clear hK K
     refine zbg ?_
     refine zbr (λmM sS=>∃(k:Nat),mM=m-k∧(k≤m)∧sS = { env:=lkE [(0,(.g (.int .i64 ((dv n k:Nat))))),(5,.arr 501 0 m),(6,(.g (.int .i64 ((m:Int)-1-k))))],ob:=lk [(501,.flat 1 (fxR n m k))] }) ?_ ?_
     ·refine ⟨_,LeS.kx [(501,368)] [(0,(.g (.int .i64 ((dv n (0):Nat))))),(5,.arr 501 0 m),(6,(.g (.int .i64 ((m:Int)-1-(0)))))] [(501,.flat 1 (fxR n m (0)))] (by simp [zG3,KpR,renV2,renV,zbh,zmd,zfu,fxR_0,dv_0];first|(simp;done) | omega | trace_state) (by simp [zG3,KpOX,renO,plO,cvO,renV,pl1,zmd,zfu,fxR_0,dv_0];first | with_reducible rfl|(simp only [hgt2,List.set_cons_zero];exact hst) | exact hst | trace_state) (by rfl) (by simp) (by simp) (by rfl) (by simp [zG4,formsX]),_,0,rfl,?_,rfl⟩
      ·simp
     ·rintro mM sS ⟨k,rfl,hk,rfl⟩
      have hfl:=zfu n m k hk
      refine zbf ?_
      refine AW_x rfl rfl λK hK=>?_
      simp (disch:=omega) [zG5,h1,h2,h3,h4,h5]
      repeat' first|(refine ⟨by omega,?_⟩)|(intro _)
      refine hK _ ?_;clear hK K
      refine zbo rfl (λhc2=>?_) (λhc2=>?_)
      ·try simp at hc2
       all_goals
        have hk2:k<m:=by omega
        have hix:((m:Int)-1-(k:Int)).toNat=m-(k+1):=by omega
        have hby:=dv_and n k
        have hsr:=dv_shr n k
        have hst:=fxR_set n m k hk2
        have hgt:=fxR_get n m k hk2
        have hgt2:(fxR n m k)[m-(k+1)]'(by omega)=[.g (.int .u8 0)]:=by have:=hgt;rw [List.getElem?_eq_getElem (by omega)] at this;exact Option.some.inj this
        simp only [bC] at hst
        refine zbn ?_
        refine zbj ?_
        refine zbf ?_
        refine zbg ?_
        refine AW_x rfl rfl λK hK=>?_
        simp (disch:=omega) [zG5,h1,h2,h3,h4,h5,hix,hby,hsr,hgt,hgt2]
        repeat' first|(exfalso;omega)|(refine ⟨λ_=>?_,λ_=>?_⟩)|(refine ⟨by omega,?_⟩)|(simp (disch:=omega) [zG5,h1,h2,h3,h4,h5,hix,hby,hsr,hgt,hgt2])|(intro _)
        all_goals (refine hK _ ?_;clear hK K)
        all_goals
         refine zcp rfl rfl λK hK=>?_
         simp (disch:=omega) [zG5,h1,h2,h3,h4,h5,hix,hby,hsr,hgt,hgt2]
         repeat' first|(refine ⟨by omega,?_⟩)|(intro _)
         refine hK _ ?_;clear hK K
         refine zbj ?_
         refine zcp rfl rfl λK hK=>?_
         simp (disch:=omega) [zG5,h1,h2,h3,h4,h5,hix,hby,hsr,hgt,hgt2]
         repeat' first|(refine ⟨by omega,?_⟩)|(intro _)
         refine hK _ ?_;clear hK K
         refine ⟨_,LeS.kx [(501,501)] [(0,(.g (.int .i64 ((dv n (k+1):Nat))))),(5,.arr 501 0 m),(6,(.g (.int .i64 ((m:Int)-1-(k+1)))))] [(501,.flat 1 (fxR n m (k+1)))] (by simp [zG3,KpR,renV2,renV,zbh,zmd,zfu,fxR_0,dv_0];first|(simp;done) | omega | trace_state) (by simp [zG3,KpOX,renO,plO,cvO,renV,pl1,zmd,zfu,fxR_0,dv_0];first | with_reducible rfl|(simp only [hgt2,List.set_cons_zero];exact hst) | exact hst | trace_state) (by rfl) (by simp) (by simp) (by rfl) (by simp [zG4,formsX]),_,?_,k+1,rfl,?_,rfl⟩
         ·omega
         ·omega
      ·try simp at hc2
       all_goals
        have hkm:k=m:=by omega
        subst hkm
        refine zb4 ?_
        refine zbj ?_
        refine AW_x rfl rfl λK hK=>?_
        simp (disch:=omega) [zG5,h1,h2,h3,h4,h5]
        repeat' first|(exfalso;omega)|(refine ⟨λ_=>?_,λ_=>?_⟩)|(refine ⟨by omega,?_⟩)|(simp (disch:=omega) [zG5,h1,h2,h3,h4,h5])|(intro _)
        all_goals (refine hK _ ?_;clear hK K)
        all_goals
         refine zbz (zjv [] [] (by simp [zG3,List.range_succ]) (by simp) ?_)
         simp (disch:=omega) [zG5,h1,h2,h3,h4,h5]
         all_goals first | rfl | trace_state
end Go.Proofs.YtchpfloemfoomaaDoor.Vs
end
section
open Go Go.Proofs Go.Proofs.YtchpfloemfoomaaDoor.Vs
namespace Go.Proofs.YtchpfloemfoomaaDoor.Vs
set_option linter.all false
set_option maxRecDepth 100000
set_option maxHeartbeats 4000000
theorem lb_by(n k:Nat):UInt8.ofNat (lb n k).toNat=UInt8.ofNat (n / 2^(8*k)):=by unfold lb;rw [Int.toNat_natCast];exact zj6 _
theorem fix7(s:List UInt8)(hs:s.length≤1073741824):PCall Tryd.prog 55 [(.g (.int .i64 (8*(s.length:Int)))),(.g (.int .i64 (7)))] (.s (strN (loB (8*s.length) 7))):=by
 have h:PCall Tryd.prog 55 [(.g (.int .i64 (((8*s.length:Nat):Int)))),(.g (.int .i64 (((7:Nat):Int))))] (.s (strN (loB (8*s.length) 7))):=zck (fixS (8*s.length) 7 (by omega) (by omega)) rfl
 rw [show ((8*s.length:Nat):Int)=8*(s.length:Int) by omega] at h
 exact h
theorem fix4(x:W32):PCall Tryd.prog 55 [(.g (.int .i64 (wI x))),(.g (.int .i64 (4)))] (.s (by4 x)):=by
 have h:PCall Tryd.prog 55 [(.g (.int .i64 (((x.toNat:Nat):Int)))),(.g (.int .i64 (((4:Nat):Int))))] (.s (strN (loB x.toNat 4))):=zck (fixS x.toNat 4 (by omega) x.isLt) rfl
 have e:strN (loB x.toNat 4)=by4 x:=by
  unfold by4
  simp only [loB,strN,List.map_cons,List.map_nil,lb_by]
  simp
 rw [e] at h
 exact h
theorem zfk:∀k:Nat,numsOf (List.replicate k [AV.g (.int .u8 0)])=some (List.replicate k 0)
 | 0=>rfl
 | k+1=>by
  rw [List.replicate_succ,numsOf,zfk k];rfl
theorem zme(k:Nat):strN (List.replicate k 0)=List.replicate k 0:=by simp [strN]
theorem pad_i(s:List UInt8)(hs:s.length≤1073741824):s++([128]++(List.replicate (zerosN s.length+1) 0++strN (loB (8*s.length) 7)))=padS s:=by
 have e:lenB s.length=0 :: strN (loB (8*s.length) 7):=by
  have h0:s.length*8 / 2^(56-8*0)=0:=Nat.div_eq_of_lt (by omega)
  unfold lenB
  simp only [loB,strN,List.map_cons,List.map_nil,lb_by]
  rw [Nat.mul_comm 8 s.length]
  simp only [List.range_succ,List.range_zero,List.map_append,List.map_cons,List.map_nil,List.nil_append,List.cons_append]
  rw [h0]
  rfl
 unfold padS
 rw [e,List.replicate_succ']
 simp
def q9(n:Nat):Nat:=(n+9) % 64
theorem q9_lt(n:Nat):q9 n<64:=by unfold q9;omega
theorem zer_0(n:Nat):((n:Int)+9).tmod 64=(q9 n:Int):=by rw [Int.tmod_eq_emod_of_nonneg (by omega)];unfold q9;omega
theorem zer_i(n:Nat):((64:Int)-(q9 n:Int)).tmod 64=(zerosN n:Int):=by
 have:=q9_lt n
 rw [Int.tmod_eq_emod_of_nonneg (by omega)]
 unfold zerosN q9
 omega
theorem blks_0(t:List UInt8):blks t 0=shaH:=rfl
def outW(v:W8)(i:Nat):List UInt8:=(List.range i).flatMap λj=>by4 (v.get j)
theorem zrj(v:W8):outW v 0=[]:=rfl
theorem outW_s(v:W8)(i:Nat):outW v (i+1)=outW v i++by4 (v.get i):=by unfold outW;rw [List.range_succ,List.flatMap_append];simp
theorem outW_8(v:W8):outW v 8=by32 v:=rfl
theorem zgg(v:W8):∀i,(outW v i).length=4*i
 | 0=>rfl
 | i+1=>by rw [outW_s,List.length_append,zgg v i];rfl
theorem zqh(x:W32):(by4 x).length=4:=rfl
theorem zmf(n:Nat):(loB n 7).length=7:=zqg n 7
attribute [local simp] zfk zme zj8 zmf zqh zgg uC wU
def zG6:=And.intro @zfk (And.intro @zme (And.intro @zj8 (And.intro @zmf (And.intro @zqh @zgg))))
theorem implSha(s:List UInt8)(hs:s.length≤1073741824):XCall Tryd.prog 36 [.s s] [] (.s (shaS s)) [] []:=by
 have hz0:=zer_0 s.length
 have hq:=q9_lt s.length
 have hz:=zer_i s.length
 have hzl:=zre s.length
 refine zb6 Tryd.func36 (by rfl) (by rfl) (by rw [Tryd.ntmps36];exact Nat.le_of_ble_eq_true rfl) rfl (by simp) rfl rfl ?_
 rw [Tryd.ntmps36]
 refine znn   ?_
 refine AW_k [(0,_)] ⟨rfl,trivial⟩ ?_
 refine AW_x rfl rfl λK hK=>?_
 simp (disch:=omega) [zG6,hz0,hz]
 repeat' first|(refine ⟨by omega,?_⟩)|(intro _)
 refine hK _ ?_;clear hK K
 refine AW_x rfl rfl λK hK=>?_
 simp (disch:=omega) [zG6,hz0,hz]
 repeat' first|(refine ⟨by omega,?_⟩)|(simp (disch:=omega) [zG6,hz0,hz])|(intro _)
 refine hK _ ?_;clear hK K
 refine AW_x rfl rfl λK hK=>?_
 simp (disch:=omega) [zG6,hz0,hz]
 repeat' first|(refine ⟨by omega,?_⟩)|(simp (disch:=omega) [zG6,hz0,hz])|(intro _)
 refine hK _ ?_;clear hK K
 refine AW_d rfl mix (by kernel_rfl) (by kernel_rfl) λK hK=>?_
 simp (disch:=omega) [zG6,hz0,hz]
 repeat' first|(exfalso;omega)|(refine zkm (λst'=>(zbd zcj (zbd zcj zbk))) (fix7 s hs) rfl ?_;simp (disch:=omega) [zG6,hz0,hz])|(refine zkn (fix7 s hs) (by rfl) (λst' hst=>?_) ?_;(focus (simp (disch:=omega) [zG6,hz0,hz] at hst;simp (disch:=omega) [zG6,hz0,hz,hst,zbe];done));simp (disch:=omega) [zG6,hz0,hz])|(refine zkm (λst'=>(zbd zcj (zbd zcj zbk))) (fix4 _) rfl ?_;simp (disch:=omega) [zG6,hz0,hz])|(refine zkn (fix4 _) (by rfl) (λst' hst=>?_) ?_;(focus (simp (disch:=omega) [zG6,hz0,hz] at hst;simp (disch:=omega) [zG6,hz0,hz,hst,zbe];done));simp (disch:=omega) [zG6,hz0,hz])|(refine ⟨by omega,?_⟩)|(simp (disch:=omega) [zG6,hz0,hz])|(intro _)
 refine hK _ _ (by kernel_rfl) ?_;clear hK K
 refine AW_x rfl rfl λK hK=>?_
 simp (disch:=omega) [zG6,hz0,hz]
 repeat' first|(refine ⟨by omega,?_⟩)|(simp (disch:=omega) [zG6,hz0,hz])|(intro _)
 refine hK _ ?_;clear hK K
 refine zbf ?_
 refine AW_x rfl rfl λK hK=>?_
 simp (disch:=omega) [zG6,hz0,hz]
 repeat' first|(refine ⟨by omega,?_⟩)|(intro _)
 refine hK _ ?_;clear hK K
 refine zbg ?_
 refine zbr (λmM sS=>∃(j:Nat),mM=(padS s).length-64*j∧(64*j≤(padS s).length)∧sS = { env:=lkE [(5,.s (padS s)),(6,.ptr 112 0),(7,(.g (.int .i64 ((64*j:Nat)))))],ob:=lk [(112,.cells (uC (blks (padS s) j)))] }) ?_ ?_
 ·refine ⟨_,LeS.kx [(112,112)] [(5,.s (padS s)),(6,.ptr 112 0),(7,(.g (.int .i64 ((64*(0):Nat)))))] [(112,.cells (uC (blks (padS s) (0))))] (by simp [zG3,KpR,renV2,renV,zbh,uC,wU];first|(simp;done) | omega | exact pad_i s hs|(simp;omega) | trace_state) (by simp [zG3,KpOX,renO,plO,cvO,renV,pl1,uC,wU];first | with_reducible rfl|(simp only [hbs,and_self];done)|(simp only [blks_0];exact ⟨rfl,rfl,rfl,rfl,rfl,rfl,rfl,rfl⟩) | trace_state) (by rfl) (by simp) (by simp) (by rfl) (by simp [zG4,formsX]),_,0,rfl,?_,rfl⟩
  ·simp
 ·rintro mM sS ⟨j,rfl,hj,rfl⟩
  have hpl:=zra s
  have hpz:=zre s.length
  obtain ⟨v,hv⟩:∃v,blks (padS s) j=v:=⟨_,rfl⟩
  rw [hv]
  refine zbf ?_
  refine AW_x rfl rfl λK hK=>?_
  simp (disch:=omega) [zG6,hz0,hz]
  repeat' first|(refine ⟨by omega,?_⟩)|(simp (disch:=omega) [zG6,hz0,hz])|(intro _)
  refine hK _ ?_;clear hK K
  refine zbo rfl (λhc1=>?_) (λhc1=>?_)
  ·try simp at hc1
   all_goals
    have hj2:64*j+64≤(padS s).length:=by omega
    have hsl:List.take ((64*(j:Int)+64).toNat-(64*(j:Int)).toNat) (List.drop (64*(j:Int)).toNat (padS s))=((padS s).drop (64*j)).take 64:=by rw [show (64*(j:Int)).toNat=64*j by omega,show (64*(j:Int)+64).toNat-64*j=64 by omega]
    have hbl:(((padS s).drop (64*j)).take 64).length=64:=by simp;omega
    have hbs:blks (padS s) (j+1)=blk v (((padS s).drop (64*j)).take 64):=by rw [zj9,hv]
    refine zbn ?_
    refine zbj ?_
    refine zbf ?_
    refine zbg ?_
    refine zl6 rfl mix (by kernel_rfl) (by kernel_rfl) λK hK=>?_
    simp (disch:=omega) [zG6,hz0,hz,hsl]
    repeat' first|(exfalso;omega)|(refine DKd_y [] true [] (shaBlk v (((padS s).drop (64*j)).take 64) hbl) ?_ (λst' hst=>?_) ?_;(focus (simp [List.range_succ,nmC];done));(focus (simp (disch:=omega) [zG6,hz0,hz,hsl,nmC,List.range_succ] at hst;simp (disch:=omega) [zG6,hz0,hz,hsl,hst,zbe,nmC,List.range_succ];done));simp (disch:=omega) [zG6,hz0,hz,hsl])|(refine ⟨λ_=>?_,λ_=>?_⟩)|(refine ⟨by omega,?_⟩)|(simp (disch:=omega) [zG6,hz0,hz,hsl])|(intro _)
    all_goals (refine hK _ _ (by kernel_rfl) ?_;clear hK K)
    all_goals
     refine zbj ?_
     refine zcp rfl rfl λK hK=>?_
     simp (disch:=omega) [zG6,hz0,hz,hsl]
     repeat' first|(refine ⟨by omega,?_⟩)|(intro _)
     refine hK _ ?_;clear hK K
     refine ⟨_,LeS.kx [(112,112)] [(5,.s (padS s)),(6,.ptr 112 0),(7,(.g (.int .i64 ((64*(j+1):Nat)))))] [(112,.cells (uC (blks (padS s) (j+1))))] (by simp [zG3,KpR,renV2,renV,zbh,uC,wU];first|(simp;done) | omega | exact pad_i s hs|(simp;omega) | trace_state) (by simp [zG3,KpOX,renO,plO,cvO,renV,pl1,uC,wU];first | with_reducible rfl|(simp only [hbs,and_self];done)|(simp only [blks_0];exact ⟨rfl,rfl,rfl,rfl,rfl,rfl,rfl,rfl⟩) | trace_state) (by rfl) (by simp) (by simp) (by rfl) (by simp [zG4,formsX]),_,?_,j+1,rfl,?_,rfl⟩
     ·omega
     ·omega
  ·try simp at hc1
   all_goals
    have hjl:64*j=(padS s).length:=by omega
    refine zb4 ?_
    refine zbj ?_
    refine AW_x rfl rfl λK hK=>?_
    simp (disch:=omega) [zG6,hz0,hz]
    repeat' first|(exfalso;omega)|(refine ⟨λ_=>?_,λ_=>?_⟩)|(refine ⟨by omega,?_⟩)|(simp (disch:=omega) [zG6,hz0,hz])|(intro _)
    all_goals (refine hK _ ?_;clear hK K)
    all_goals
     refine zbf ?_
     refine AW_x rfl rfl λK hK=>?_
     simp (disch:=omega) [zG6,hz0,hz]
     repeat' first|(refine ⟨by omega,?_⟩)|(intro _)
     refine hK _ ?_;clear hK K
     refine zbg ?_
     refine zbr (λmM sS=>∃(i:Nat),mM=8-i∧(i≤8)∧sS = { env:=lkE [(8,.s (outW v i)),(44,.agg (uC v)),(45,(.g (.int .i64 ((i:Nat)))))],ob:=lk [] }) ?_ ?_
     ·refine ⟨_,LeS.kx [] [(8,.s (outW v (0))),(44,.agg (uC v)),(45,(.g (.int .i64 (((0):Nat)))))] [] (by simp [zG3,KpR,renV2,renV,zbh,uC,wU];first|(simp;done) | omega|(rw [hos];done)|(simp [hos];done) | exact zrj v | exact (zrj v).symm | trace_state) (by simp [zG3,KpOX,renO,plO,cvO,renV,pl1,uC,wU];try rfl) (by rfl) (by simp) (by simp) (by rfl) (by simp [zG4,formsX]),_,0,rfl,?_,rfl⟩
      ·simp
     ·rintro mM sS ⟨i,rfl,hi,rfl⟩
      have hol:=zgg v i
      refine AW_x rfl rfl λK hK=>?_
      simp (disch:=omega) [zG6,hz0,hz]
      repeat' first|(refine ⟨by omega,?_⟩)|(intro _)
      refine hK _ ?_;clear hK K
      refine zbf ?_
      refine zbo rfl (λhc2=>?_) (λhc2=>?_)
      ·try simp at hc2
       all_goals
        have hi2:i<8:=by omega
        have g2:=uC_get v i hi2
        simp only [uC,wU] at g2
        have hbd:=wI_bd (v.get i)
        have hos:=outW_s v i
        refine zbn ?_
        refine zbj ?_
        refine zbf ?_
        refine zbg ?_
        refine AW_x rfl rfl λK hK=>?_
        simp (disch:=omega) [zG6,hz0,hz,g2]
        repeat' first|(exfalso;omega)|(refine ⟨λ_=>?_,λ_=>?_⟩)|(refine ⟨by omega,?_⟩)|(simp (disch:=omega) [zG6,hz0,hz,g2])|(intro _)
        all_goals (refine hK _ ?_;clear hK K)
        all_goals
         refine zcp rfl rfl λK hK=>?_
         simp (disch:=omega) [zG6,hz0,hz,g2]
         repeat' first|(exfalso;omega)|(refine zjt (zbd zcj (zbd zcj zbk)) (fix7 s hs) rfl ?_;simp (disch:=omega) [zG6,hz0,hz,g2])|(refine zju (fix7 s hs) (by rfl) ?_ ?_;(focus (simp (disch:=omega) [zG6,hz0,hz,g2,zbe];done));simp (disch:=omega) [zG6,hz0,hz,g2])|(refine zjt (zbd zcj (zbd zcj zbk)) (fix4 _) rfl ?_;simp (disch:=omega) [zG6,hz0,hz,g2])|(refine zju (fix4 _) (by rfl) ?_ ?_;(focus (simp (disch:=omega) [zG6,hz0,hz,g2,zbe];done));simp (disch:=omega) [zG6,hz0,hz,g2])|(refine ⟨by omega,?_⟩)|(simp (disch:=omega) [zG6,hz0,hz,g2])|(intro _)
         refine hK _ ?_;clear hK K
         refine zbj ?_
         refine zcp rfl rfl λK hK=>?_
         simp (disch:=omega) [zG6,hz0,hz,g2]
         repeat' first|(refine ⟨by omega,?_⟩)|(intro _)
         refine hK _ ?_;clear hK K
         refine ⟨_,LeS.kx [] [(8,.s (outW v (i+1))),(44,.agg (uC v)),(45,(.g (.int .i64 (((i+1):Nat)))))] [] (by simp [zG3,KpR,renV2,renV,zbh,uC,wU];first|(simp;done) | omega|(rw [hos];done)|(simp [hos];done) | exact zrj v | exact (zrj v).symm | trace_state) (by simp [zG3,KpOX,renO,plO,cvO,renV,pl1,uC,wU];try rfl) (by rfl) (by simp) (by simp) (by rfl) (by simp [zG4,formsX]),_,?_,i+1,rfl,?_,rfl⟩
         ·omega
         ·omega
      ·try simp at hc2
       all_goals
        have hil:i=8:=by omega
        subst hil
        refine zb4 ?_
        refine zbj ?_
        refine AW_x rfl rfl λK hK=>?_
        simp (disch:=omega) [zG6,hz0,hz]
        repeat' first|(exfalso;omega)|(refine ⟨λ_=>?_,λ_=>?_⟩)|(refine ⟨by omega,?_⟩)|(simp (disch:=omega) [zG6,hz0,hz])|(intro _)
        all_goals (refine hK _ ?_;clear hK K)
        all_goals
         refine zbz (zjv [] [] (by simp [zG3,List.range_succ]) (by simp) ?_)
         simp (disch:=omega) [zG6,hz0,hz]
         all_goals first|(unfold shaS;rw [show (padS s).length / 64=j by omega,hv];exact outW_8 v)|(unfold shaS;rw [show (padS s).length / 64=j by omega,hv,←outW_8];done) | trace_state
theorem implShaP(s:List UInt8)(hs:s.length≤1073741824):PCall Tryd.prog 36 [.s s] (.s (shaS s)):=zck (implSha s hs) rfl
attribute [local simp] zrb
attribute [-simp] zfk zme zj8 zmf zqh zgg uC wU
theorem zn0(s:List UInt8)(hs:s.length≤1073741824):PCall Tryd.prog 21 [.s s] (.s (shortS s)):=by
 refine zbl Tryd.func21 (by rfl) (by rfl) (by rw [Tryd.ntmps21];exact Nat.le_of_ble_eq_true rfl) rfl (by decide) ?_
 rw [Tryd.ntmps21]
 refine AW_k [(0,_)] ⟨rfl,trivial⟩ ?_
 refine AW_r rfl rfl λK hK=>?_
 simp (disch:=omega)
 repeat' first|(refine ⟨by omega,?_⟩)|(intro _)
 refine hK _ ?_;clear hK K
 refine AW_r rfl rfl λK hK=>?_
 simp (disch:=omega)
 repeat' first|(exfalso;omega)|(refine zjn (zbd zft zbk) (implShaP _ hs) rfl ?_;simp (disch:=omega))|(refine ⟨by omega,?_⟩)|(intro _)
 refine hK _ ?_;clear hK K
 refine zbz (zde ?_)
 simp (disch:=omega)
 all_goals first | rfl | trace_state
end Go.Proofs.YtchpfloemfoomaaDoor.Vs
end
section
open Go Go.Proofs Go.Proofs.YtchpfloemfoomaaDoor.Vs
namespace Go.Proofs.YtchpfloemfoomaaDoor.Vs
set_option linter.all false
set_option maxRecDepth 100000
set_option maxHeartbeats 2000000
noncomputable def idsL(s:List UInt8):List (List UInt8):=(cutL s).map shortS
theorem zht(s:List UInt8):(idsL s).length=(cutL s).length:=by simp [idsL]
theorem zv3(s:List UInt8)(i:Nat)(h:i<(cutL s).length):(idsL s).take (i+1)=(idsL s).take i++[shortS (cutL s)[i]]:=by
 rw [List.take_succ_eq_append_getElem (by rw [zht];exact h)]
 simp [idsL]
theorem zrk(s:List UInt8)(i:Nat)(h:(cutL s).length≤i):(idsL s).take i=idsL s:=List.take_of_length_le (by rw [zht];exact h)
theorem zmg(s:List UInt8):∀x∈cutL s,x.length≤1073741824:=by
 intro x hx
 have h:sumZ lenZ (cutL s)≤1048576:=by
  have:=cutL_sz s
  unfold szS at this
  omega
 have h2:lenZ x≤sumZ lenZ (cutL s):=zp2 zp1 (cutL s) x hx
 have h3:lenZ x=(x.length:Int):=rfl
 omega
theorem scR_cS2(l:List (List UInt8)):scR (l.map cS)=true:=zgl cS (λ_=>rfl) l
theorem aAppZ_a{P:Program}{st:St}(nm:Nat)(ts:List TypeId)(s:AV)(n o l:Nat):aAppZ P st nm ts s (.arr n o l)=none:=by
 unfold aAppZ
 split
 ·rename_i h;cases h
 ·rfl
def zG7:=And.intro @zjo (And.intro @gE (And.intro @tP (And.intro @zbe (And.intro @scR_cS2 @aAppZ_a))))
theorem zld(s:List UInt8):PCall Tryd.prog 6 [.s s] (.sl 1 ((idsL s).map cS)):=by
 refine zbl Tryd.func6 (by rfl) (by rfl) (by rw [Tryd.ntmps6];exact Nat.le_of_ble_eq_true rfl) rfl (by decide) ?_
 rw [Tryd.ntmps6]
 refine AW_k [(0,_)] ⟨rfl,trivial⟩ ?_
 refine AW_r rfl rfl λK hK=>?_
 simp (disch:=omega) [zG7,cS,-aAppZ]
 repeat' first|(refine ⟨by omega,?_⟩)|(intro _)
 refine hK _ ?_;clear hK K
 refine AW_r rfl rfl λK hK=>?_
 simp (disch:=omega) [zG7,cS,-aAppZ]
 repeat' first|(refine ⟨by omega,?_⟩)|(intro _)
 refine hK _ ?_;clear hK K
 refine AW_r rfl rfl λK hK=>?_
 simp (disch:=omega) [zG7,cS,-aAppZ]
 repeat' first|(exfalso;omega)|(refine zjn (zbd zft zbk) (specCut s) rfl ?_;simp (disch:=omega) [zG7,cS,-aAppZ])|(refine ⟨by omega,?_⟩)|(intro _)
 refine hK _ ?_;clear hK K
 refine zbf ?_
 refine AW_r rfl rfl λK hK=>?_
 simp (disch:=omega) [zG7,cS,-aAppZ]
 repeat' first|(refine ⟨by omega,?_⟩)|(intro _)
 refine hK _ ?_;clear hK K
 refine zbg ?_
 refine zbr (λmM sS=>∃(i:Nat) (l:List (List UInt8)),mM=(cutL s).length-i∧(i≤(cutL s).length∧l=(idsL s).take i∧l.length=i)∧sS = { env:=lkE [(3,.arr 501 0 i),(4,.sl 1 ((cutL s).map cS)),(5,(.g (.int .i64 ((i:Nat)))))],ob:=lk [(501,.flat 1 (l.map cS))] }) ?_ ?_
 ·refine ⟨_,LeS.kr [(501,112)] [(3,.arr 501 0 (0)),(4,.sl 1 ((cutL s).map cS)),(5,(.g (.int .i64 (((0):Nat)))))] [(501,.flat 1 (([]).map cS))] (by simp [zG3,KpR,renV2,renV,zbh,cS];first|(simp;done) | omega | trace_state) (by simp [zG3,KpOR,renO,renV,zcs,cS];first | with_reducible rfl|(simp [cS];done)|(simp [cS,zbe,←hll];done) | trace_state) (by rfl) (by rfl) (by simp) (by simp) (by rfl) (by simp [forms]),_,0,[],rfl,?_,rfl⟩
  ·simp
 ·rintro mM sS ⟨i,l,rfl,⟨hi,hl,hll⟩,rfl⟩
  have hcl:=zgb s
  refine zbf ?_
  refine AW_r rfl rfl λK hK=>?_
  simp (disch:=omega) [zG7,cS,-aAppZ]
  repeat' first|(refine ⟨by omega,?_⟩)|(intro _)
  refine hK _ ?_;clear hK K
  refine zbo rfl (λhc1=>?_) (λhc1=>?_)
  ·try simp at hc1
   all_goals
    have hi2:i<(cutL s).length:=by omega
    have hat:=zv3 s i hi2
    refine zbn ?_
    refine zbj ?_
    refine zbf ?_
    refine zbg ?_
    refine zjm rfl rfl λK hK=>?_
    simp (disch:=omega) [zG7,cS,-aAppZ]
    repeat' first|(exfalso;omega)|(refine zjn (zbd zft zbk) (zvw _ (zmg s _ (List.getElem_mem _))) rfl ?_;simp (disch:=omega) [zG7,cS,-aAppZ])|(refine ⟨λ_=>?_,λ_=>?_⟩)|(refine ⟨by omega,?_⟩)|(intro _)
    all_goals (refine hK _ ?_;clear hK K)
    all_goals
     refine zbj ?_
     refine zjm rfl rfl λK hK=>?_
     simp (disch:=omega) [zG7,cS,-aAppZ]
     repeat' first|(refine ⟨by omega,?_⟩)|(intro _)
     refine hK _ ?_;clear hK K
     refine ⟨_,LeS.kr [(501,368)] [(3,.arr 501 0 (i+1)),(4,.sl 1 ((cutL s).map cS)),(5,(.g (.int .i64 (((i+1):Nat)))))] [(501,.flat 1 ((l++[shortS (cutL s)[i]]).map cS))] (by simp [zG3,KpR,renV2,renV,zbh,cS];first|(simp;done) | omega | trace_state) (by simp [zG3,KpOR,renO,renV,zcs,cS];first | with_reducible rfl|(simp [cS];done)|(simp [cS,zbe,←hll];done) | trace_state) (by rfl) (by rfl) (by simp) (by simp) (by rfl) (by simp [forms]),_,?_,i+1,l++[shortS (cutL s)[i]],rfl,?_,rfl⟩
     ·omega
     ·exact ⟨by omega,by rw [hat,hl],by simp;omega⟩
  ·try simp at hc1
   all_goals
    have hil:i=(cutL s).length:=by omega
    refine zb4 ?_
    refine zbj ?_
    refine AW_r rfl rfl λK hK=>?_
    simp (disch:=omega) [zG7,cS,-aAppZ]
    repeat' first|(exfalso;omega)|(refine ⟨λ_=>?_,λ_=>?_⟩)|(refine ⟨by omega,?_⟩)|(intro _)
    all_goals (refine hK _ ?_;clear hK K)
    all_goals
     refine zbz (zde ?_)
     simp (disch:=omega) [zG7,cS,-aAppZ]
     all_goals first|(have e:=zrk s i (by omega);rw [←hl] at e;subst e;simp [cS,hll,List.take_of_length_le];done) | trace_state
theorem zfl(s:List UInt8):XCall Tryd.prog 7 [.s s] [] (.arr 16 0 (idsL s).length) [] [.own 1 ((idsL s).map cS)]:=by
 refine zb6 Tryd.func7 (by rfl) (by rfl) (by rw [Tryd.ntmps7];exact Nat.le_of_ble_eq_true rfl) rfl (by simp) rfl rfl ?_
 rw [Tryd.ntmps7]
 refine znn   ?_
 refine AW_k [(0,_)] ⟨rfl,trivial⟩ ?_
 refine AW_x rfl rfl λK hK=>?_
 simp (disch:=omega) [zG7,cS,-aAppZ]
 repeat' first|(refine ⟨by omega,?_⟩)|(intro _)
 refine hK _ ?_;clear hK K
 refine AW_x rfl rfl λK hK=>?_
 simp (disch:=omega) [zG7,cS,-aAppZ]
 repeat' first|(refine ⟨by omega,?_⟩)|(simp (disch:=omega) [zG7,cS,-aAppZ])|(intro _)
 refine hK _ ?_;clear hK K
 refine zbf ?_
 refine AW_x rfl rfl λK hK=>?_
 simp (disch:=omega) [zG7,cS,-aAppZ]
 repeat' first|(exfalso;omega)|(refine zp3 [] true [] (implCut s) ?_ ?_ ?_;(focus (simp [List.range_succ,nmC];done));(focus (simp (disch:=omega) [zG7,cS,-aAppZ];done));simp (disch:=omega) [zG7,cS,-aAppZ])|(refine ⟨by omega,?_⟩)|(simp (disch:=omega) [zG7,cS,-aAppZ])|(intro _)
 refine hK _ ?_;clear hK K
 refine zbg ?_
 refine zbr (λmM sS=>∃(i:Nat) (l:List (List UInt8)),mM=(cutL s).length-i∧(i≤(cutL s).length∧l=(idsL s).take i∧l.length=i)∧sS = { env:=lkE [(3,.arr 501 0 i),(8,.arr 144 0 (cutL s).length),(9,(.g (.int .i64 (((cutL s).length:Nat))))),(10,(.g (.int .i64 ((i:Nat)))))],ob:=lk [(501,.own 1 (l.map cS)),(144,.own 1 ((cutL s).map cS))] }) ?_ ?_
 ·refine ⟨_,LeS.kx [(501,112),(144,144)] [(3,.arr 501 0 (0)),(8,.arr 144 0 (cutL s).length),(9,(.g (.int .i64 (((cutL s).length:Nat))))),(10,(.g (.int .i64 (((0):Nat)))))] [(501,.own 1 (([]).map cS)),(144,.own 1 ((cutL s).map cS))] (by simp [zG3,KpR,renV2,renV,zbh,cS];first|(simp;done) | omega | trace_state) (by simp [zG3,KpOX,renO,plO,cvO,renV,pl1,cS];first | with_reducible rfl|(simp [cS];done)|(simp [cS,zbe,←hll];done) | trace_state) (by rfl) (by simp) (by simp) (by rfl) (by simp [zG4,formsX]),_,0,[],rfl,?_,rfl⟩
  ·simp
 ·rintro mM sS ⟨i,l,rfl,⟨hi,hl,hll⟩,rfl⟩
  have hcl:=zgb s
  refine AW_x rfl rfl λK hK=>?_
  simp (disch:=omega) [zG7,cS,-aAppZ]
  repeat' first|(refine ⟨by omega,?_⟩)|(intro _)
  refine hK _ ?_;clear hK K
  refine zbf ?_
  refine zbo rfl (λhc2=>?_) (λhc2=>?_)
  ·try simp at hc2
   all_goals
    have hi2:i<(cutL s).length:=by omega
    have hat:=zv3 s i hi2
    refine zbn ?_
    refine zbj ?_
    refine zbf ?_
    refine zbg ?_
    refine AW_x rfl rfl λK hK=>?_
    simp (disch:=omega) [zG7,cS,-aAppZ]
    repeat' first|(exfalso;omega)|(refine ⟨λ_=>?_,λ_=>?_⟩)|(refine ⟨by omega,?_⟩)|(simp (disch:=omega) [zG7,cS,-aAppZ])|(intro _)
    all_goals (refine hK _ ?_;clear hK K)
    all_goals
     refine zcp rfl rfl λK hK=>?_
     simp (disch:=omega) [zG7,cS,-aAppZ]
     repeat' first|(exfalso;omega)|(refine zjt (zbd zft zbk) (zn0 _ (zmg s _ (List.getElem_mem _))) rfl ?_;simp (disch:=omega) [zG7,cS,-aAppZ])|(refine zju (zn0 _ (zmg s _ (List.getElem_mem _))) (by rfl) ?_ ?_;(focus (simp (disch:=omega) [zG7,cS,-aAppZ];done));simp (disch:=omega) [zG7,cS,-aAppZ])|(refine ⟨by omega,?_⟩)|(simp (disch:=omega) [zG7,cS,-aAppZ])|(intro _)
     refine hK _ ?_;clear hK K
     refine zbj ?_
     refine zcp rfl rfl λK hK=>?_
     simp (disch:=omega) [zG7,cS,-aAppZ]
     repeat' first|(refine ⟨by omega,?_⟩)|(intro _)
     refine hK _ ?_;clear hK K
     refine ⟨_,LeS.kx [(501,304),(144,144)] [(3,.arr 501 0 (i+1)),(8,.arr 144 0 (cutL s).length),(9,(.g (.int .i64 (((cutL s).length:Nat))))),(10,(.g (.int .i64 (((i+1):Nat)))))] [(501,.own 1 ((l++[shortS (cutL s)[i]]).map cS)),(144,.own 1 ((cutL s).map cS))] (by simp [zG3,KpR,renV2,renV,zbh,cS];first|(simp;done) | omega | trace_state) (by simp [zG3,KpOX,renO,plO,cvO,renV,pl1,cS];first | with_reducible rfl|(simp [cS];done)|(simp [cS,zbe,←hll];done) | trace_state) (by rfl) (by simp) (by simp) (by rfl) (by simp [zG4,formsX]),_,?_,i+1,l++[shortS (cutL s)[i]],rfl,?_,rfl⟩
     ·omega
     ·exact ⟨by omega,by rw [hat,hl],by simp;omega⟩
  ·try simp at hc2
   all_goals
    have hil:i=(cutL s).length:=by omega
    refine zb4 ?_
    refine zbj ?_
    refine AW_x rfl rfl λK hK=>?_
    simp (disch:=omega) [zG7,cS,-aAppZ]
    repeat' first|(exfalso;omega)|(refine ⟨λ_=>?_,λ_=>?_⟩)|(refine ⟨by omega,?_⟩)|(simp (disch:=omega) [zG7,cS,-aAppZ])|(intro _)
    all_goals (refine hK _ ?_;clear hK K)
    all_goals
     refine zbz (zjv [501] [] (by simp [zG3,List.range_succ]) (by simp) ?_)
     simp (disch:=omega) [zG7,cS,-aAppZ]
     all_goals first|(have e:=zrk s i (by omega);rw [←hl] at e;subst e;simp [hll];done) | trace_state
end Go.Proofs.YtchpfloemfoomaaDoor.Vs
end
