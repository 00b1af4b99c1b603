import Derived.Test.YtodmafgmdlkhoaaSM7
import Derived.Test.YtodmafgmdlkhoaaVs9
section
namespace Go.Proofs.Ytodmafgmdlkhoaa.Vs
set_option linter.all false
set_option maxRecDepth 100000
set_option maxHeartbeats 4000000
attribute [local simp ↓] zvi zOr_eq zvj zvk zvl zvm
/-- The words of a block. -/
def wd(b:List UInt8)(j:Nat):W32:=(sch b 64).getD j 0
theorem sch_at(b:List UInt8)(i j:Nat)(h:j<i)(hi:i≤64):(sch b i)[j]? = some (wd b j):=by
 rw [sch_get b i j h]
 unfold wd
 rw [List.getD_eq_getElem?_getD,sch_get b 64 j (by omega)]
 have:j<(sch b (j+1)).length:=by rw [zgy];omega
 rw [List.getElem?_eq_getElem this];rfl
def kd(j:Nat):W32:=shaK.getD j 0
theorem kd_at(j:Nat)(h:j<64):shaK[j]? = some (kd j):=by unfold kd;rw [List.getD_eq_getElem?_getD,List.getElem?_eq_getElem (by rw [zwx];exact h),Option.getD_some]
def schR(b:List UInt8)(i:Nat):List (List AV):=(sch b i).map cW++List.replicate (64-i) [.g (.int .i64 0)]
theorem zdn(b:List UInt8)(i:Nat)(h:i≤64):(schR b i).length=64:=by unfold schR;simp [zgy];omega
theorem zju(b:List UInt8)(i j:Nat)(h:j<i)(hi:i≤64):(schR b i)[j]? = some (cW (wd b j)):=by
 unfold schR
 rw [List.getElem?_append_left (by simp [zgy];omega),List.getElem?_map,sch_at b i j h hi];rfl
theorem zxk(b:List UInt8)(i:Nat)(h:i<64)(x:W32)(hx:sch b (i+1)=sch b i++[x]):(schR b i).set i (cW x)=schR b (i+1):=by
 unfold schR
 rw [hx,List.set_append_right _ _ (by simp [zgy]),show 64-i=(64-(i+1))+1 by omega,List.replicate_succ]
 simp [zgy]
theorem zdu(b:List UInt8)(i:Nat):scR (schR b i)=true:=by
 unfold schR
 rw [zd9,zd2 cW (λ_=>rfl)]
 simp
 induction (64-i) with
 | zero=>rfl
 | succ n ih=>rw [List.replicate_succ];simpa [scR] using ih
theorem schR_z(b:List UInt8)(i:Nat)(h:i<64):(schR b i)[i]? = some [.g (.int .i64 0)]:=by
 unfold schR
 rw [List.getElem?_append_right (by simp [zgy])]
 simp [zgy,List.getElem?_replicate]
 omega
theorem or_add(a b n:Nat)(h:b<2^n):a*2^n ||| b=a*2^n+b:=by rw [←Nat.shiftLeft_eq,Nat.shiftLeft_add_eq_or_of_lt h]
theorem word_z{p0 p1 p2 p3:Nat}(h0:p0<256)(h1:p1<256)(h2:p2<256)(h3:p3<256):zOr (zOr (zOr (zShl (IntKind.i64.wrap (p0:Int)) 24) (zShl (IntKind.i64.wrap (p1:Int)) 16)) (zShl (IntKind.i64.wrap (p2:Int)) 8)) (IntKind.i64.wrap (p3:Int))=wI (BitVec.ofNat 32 ((p0*256+p1)*65536+p2*256+p3)):=by
 have e1:p0*2^24 ||| p1*2^16=p0*2^24+p1*2^16:=or_add _ _ 24 (by omega)
 have e2:(p0*2^24+p1*2^16) ||| p2*2^8=p0*2^24+p1*2^16+p2*2^8:=by
  have:=or_add (p0*2^8+p1) (p2*2^8) 16 (by omega)
  rw [show (p0*2^8+p1)*2^16=p0*2^24+p1*2^16 by omega] at this
  exact this
 have e3:(p0*2^24+p1*2^16+p2*2^8) ||| p3=p0*2^24+p1*2^16+p2*2^8+p3:=by
  have:=or_add ((p0*2^8+p1)*2^8+p2) p3 8 (by omega)
  rw [show ((p0*2^8+p1)*2^8+p2)*2^8=p0*2^24+p1*2^16+p2*2^8 by omega] at this
  exact this
 rw [znr (by omega),znr (by omega),znr (by omega),znr (by omega),zla p0 24 24 rfl (by omega) (by omega),zla p1 16 16 rfl (by omega) (by omega),zla p2 8 8 rfl (by omega) (by omega)]
 rw [zqg (by omega) (by omega),e1,zqg (by omega) (by omega),e2,zqg (by omega) (by omega),e3]
 unfold wI
 rw [BitVec.toNat_ofNat,Nat.mod_eq_of_lt (by omega)]
 omega
theorem la_step(b:List UInt8)(hb:b.length=64)(i:Nat)(hi:i<16)(h0:(4*(i:Int)).toNat<b.length)(h1:(4*(i:Int)+1).toNat<b.length)(h2:(4*(i:Int)+2).toNat<b.length)(h3:(4*(i:Int)+3).toNat<b.length):(schR b i).set i (((schR b i)[i]?.getD []).set 0 (AV.g (.int .i64 (zOr (zOr (zOr (zShl (IntKind.i64.wrap (b[(4*(i:Int)).toNat].toNat:Int)) 24) (zShl (IntKind.i64.wrap (b[(4*(i:Int)+1).toNat].toNat:Int)) 16)) (zShl (IntKind.i64.wrap (b[(4*(i:Int)+2).toNat].toNat:Int)) 8)) (IntKind.i64.wrap (b[(4*(i:Int)+3).toNat].toNat:Int))))))=schR b (i+1):=by
 rw [word_z (UInt8.toNat_lt _) (UInt8.toNat_lt _) (UInt8.toNat_lt _) (UInt8.toNat_lt _),schR_z b i (by omega)]
 refine zxk b i (by omega) _ ?_
 have g:∀(z:Int) (n:Nat) (h:z.toNat<b.length),z.toNat=n→b.getD n 0=b[z.toNat]:=λz n h e=>by subst e;rw [List.getD_eq_getElem?_getD,List.getElem?_eq_getElem h];rfl
 rw [sch,if_pos hi,wrd,g _ (4*i) h0 (by omega),g _ (4*i+1) h1 (by omega),g _ (4*i+2) h2 (by omega),g _ (4*i+3) h3 (by omega)]
theorem zfp(x:Int):IntKind.i64.wrap x % 4294967296=x % 4294967296:=by
 simp [IntKind.wrap,IntKind.bits,IntKind.signed]
 split<;>omega
theorem wrap_l(x y:Int):(IntKind.i64.wrap x+y) % 4294967296=(x+y) % 4294967296:=by have:=zfp x;omega
theorem zShr_3(x:W32):zShr (wI x) 3=wI (x >>> 3):=by
 have h:=zShr_w x 3 (by omega)
 rw [show (3:Int).toNat=3 from rfl] at h
 exact h
theorem zShr_10(x:W32):zShr (wI x) 10=wI (x >>> 10):=by
 have h:=zShr_w x 10 (by omega)
 rw [show (10:Int).toNat=10 from rfl] at h
 exact h
theorem sch_D(b:List UInt8)(i j:Nat)(h:j<i)(hi:i≤64):(sch b i).getD j 0=wd b j:=by rw [List.getD_eq_getElem?_getD,sch_at b i j h hi,Option.getD_some]
theorem lb_step(b:List UInt8)(i:Nat)(h1:16≤i)(hi:i<64):(schR b i).set i (((schR b i)[i]?.getD []).set 0 (AV.g (.int .i64 (IntKind.i64.wrap (IntKind.i64.wrap (IntKind.i64.wrap (wI (wd b (i-16))+zXor (wI (BitVec.rotateRight (wd b (i-15)) 7 ^^^ BitVec.rotateRight (wd b (i-15)) 18)) (zShr (wI (wd b (i-15))) 3))+wI (wd b (i-7)))+zXor (wI (BitVec.rotateRight (wd b (i-2)) 17 ^^^ BitVec.rotateRight (wd b (i-2)) 19)) (zShr (wI (wd b (i-2))) 10)) % 4294967296))))=schR b (i+1):=by
 rw [zShr_3,zShr_10,zsb,zsb,schR_z b i hi,zfp,wrap_l]
 have e:∀a s c t:W32,(IntKind.i64.wrap (wI a+wI s)+wI c+wI t) % 4294967296=wI (a+s+c+t):=λa s c t=>by
  refine zvh _ _ (zvh _ _ ?_ _ _ (zpd c)) _ _ (zpd t)
  rw [zfp,add_w]
 rw [e]
 refine zxk b i hi _ ?_
 rw [sch,if_neg (by omega),sch_D b i _ (by omega) (by omega),sch_D b i _ (by omega) (by omega),sch_D b i _ (by omega) (by omega),sch_D b i _ (by omega) (by omega)]
 rfl
theorem zN_w(e:W32):zXor (if IntKind.i64.signed=true then -1 else 9223372036854775807) (wI e) % 4294967296=wI (~~~e):=not_w e
theorem sumC(a b:W32):IntKind.i64.wrap (wI a+wI b) % 4294967296=wI (a+b):=by rw [zfp,add_w]
theorem sumT(a s c k w:W32):IntKind.i64.wrap (IntKind.i64.wrap (IntKind.i64.wrap (IntKind.i64.wrap (wI a+wI s)+wI c)+wI k)+wI w) % 4294967296=wI (a+s+c+k+w):=by
 rw [zfp]
 refine zvh _ _ ?_ _ _ (zpd w)
 rw [zfp]
 refine zvh _ _ ?_ _ _ (zpd k)
 rw [zfp]
 refine zvh _ _ ?_ _ _ (zpd c)
 exact sumC a s
theorem sumA(a s c k w p q:W32):IntKind.i64.wrap (IntKind.i64.wrap (IntKind.i64.wrap (IntKind.i64.wrap (IntKind.i64.wrap (wI a+wI s)+wI c)+wI k)+wI w)+IntKind.i64.wrap (wI p+wI q)) % 4294967296=wI (a+s+c+k+w+(p+q)):=by
 rw [zfp]
 exact zvh _ _ (sumT a s c k w) _ _ (sumC p q)
theorem sumB(d a s c k w:W32):IntKind.i64.wrap (wI d+IntKind.i64.wrap (IntKind.i64.wrap (IntKind.i64.wrap (IntKind.i64.wrap (wI a+wI s)+wI c)+wI k)+wI w)) % 4294967296=wI (d+(a+s+c+k+w)):=by
 rw [zfp]
 exact zvh _ _ (zpd d) _ _ (sumT a s c k w)
theorem zsp(b:List UInt8)(h:W8)(i:Nat):runW b h (i+1)=rnd (kd i) (wd b i) (runW b h i):=by rw [runW];rfl
theorem zsq(b:List UInt8)(h:W8):runW b h 0=h:=rfl
theorem zsr(k w:W32)(v:W8):(rnd k w v).cells=[[AV.g (.int .i64 (wI (v.h+(BitVec.rotateRight v.e 6 ^^^ BitVec.rotateRight v.e 11 ^^^ BitVec.rotateRight v.e 25)+(v.e &&& v.f ^^^ ~~~v.e &&& v.g)+k+w+((BitVec.rotateRight v.a 2 ^^^ BitVec.rotateRight v.a 13 ^^^ BitVec.rotateRight v.a 22)+(v.a &&& v.b ^^^ v.a &&& v.c ^^^ v.b &&& v.c)))))],[AV.g (.int .i64 (wI v.a))],[AV.g (.int .i64 (wI v.b))],[AV.g (.int .i64 (wI v.c))],[AV.g (.int .i64 (wI (v.d+(v.h+(BitVec.rotateRight v.e 6 ^^^ BitVec.rotateRight v.e 11 ^^^ BitVec.rotateRight v.e 25)+(v.e &&& v.f ^^^ ~~~v.e &&& v.g)+k+w))))],[AV.g (.int .i64 (wI v.e))],[AV.g (.int .i64 (wI v.f))],[AV.g (.int .i64 (wI v.g))]]:=rfl
theorem tk_len(h:W8)(i:Nat)(hi:i≤8):(h.cells.take i).length=i:=by rw [List.length_take];exact Nat.min_eq_left hi
theorem zxl(h:W8)(i:Nat):scR (h.cells.take i)=true:=by
 by_cases hi:i<8
 ·have:i=0∨i=1∨i=2∨i=3∨i=4∨i=5∨i=6∨i=7:=by omega
  rcases this with rfl | rfl | rfl | rfl | rfl | rfl | rfl | rfl<;>rfl
 ·rw [List.take_of_length_le (by show 8≤i;omega)];rfl
def W8.get(v:W8):Nat→W32
 | 0=>v.a | 1=>v.b | 2=>v.c | 3=>v.d | 4=>v.e | 5=>v.f | 6=>v.g | _=>v.h
theorem zm9(v:W8)(i:Nat)(h:i<8):v.cells[i]? = some (cW (v.get i)):=by
 have:i=0∨i=1∨i=2∨i=3∨i=4∨i=5∨i=6∨i=7:=by omega
 rcases this with rfl | rfl | rfl | rfl | rfl | rfl | rfl | rfl<;>rfl
theorem zss(h v:W8)(i:Nat)(hi:i<8):(add8 h v).cells.take (i+1)=(add8 h v).cells.take i++[cW (h.get i+v.get i)]:=by
 have:i=0∨i=1∨i=2∨i=3∨i=4∨i=5∨i=6∨i=7:=by omega
 rcases this with rfl | rfl | rfl | rfl | rfl | rfl | rfl | rfl<;>rfl
theorem cells_len(v:W8):v.cells.length=8:=rfl
theorem zc0(v:W8):scR v.cells=true:=rfl
theorem row8(h:W8):List.take 8 h.cells=h.cells:=rfl
attribute [local simp] cW zdn cells_len row8 zwx zmp zAnd_w zsb zNot_w zN_w sumA sumB sumC zc0
def zG15:=And.intro @zbq (And.intro @zbz @zbx)
def zG16:=And.intro @List.range_succ (And.intro @zbq @zbz)
theorem l3Block(h:W8)(b:List UInt8)(hb:b.length=64):XCall Try.prog 107 [.sl 1 h.cells,.s b,.sl 1 (shaK.map cW)] [] (.arr 16 0 8) [] [.own 1 (blk h b).cells]:=by
 refine zbt Try.func107 (by rfl) (by rfl) (by rw [Try.ntmps107];exact Nat.le_of_ble_eq_true rfl) rfl (by simp) rfl rfl ?_
 rw [Try.ntmps107]
 refine zhm   ?_
 refine AW_k [(0,_),(1,_),(2,_)] ⟨rfl,rfl,rfl,trivial⟩ ?_
 refine AW_x rfl rfl λK hK=>?_
 simp (disch:=omega)
 repeat' first|(refine ⟨by omega,?_⟩)|(intro _)
 refine hK _ ?_;clear hK K
 refine AW_x rfl rfl λK hK=>?_
 simp (disch:=omega)
 repeat' first|(refine ⟨by omega,?_⟩)|(intro _)
 refine hK _ ?_;clear hK K
 refine zbj ?_
 refine AW_x rfl rfl λK hK=>?_
 simp (disch:=omega)
 repeat' first|(refine ⟨by omega,?_⟩)|(intro _)
 refine hK _ ?_;clear hK K
 refine zbn ?_
 refine zbv (λmM sS=>∃(i:Nat),mM=16-i∧(i≤16)∧sS = { env:=lkE [(0,.sl 1 h.cells),(1,.s b),(2,.sl 1 (shaK.map cW)),(7,.arr 501 0 64),(8,(.g (.int .i64 ((i:Nat)))))],ob:=lk [(501,.win 1 (schR b i))] }) ?_ ?_
 ·refine ⟨_,LeS.kx [(501,336)] [(0,.sl 1 h.cells),(1,.s b),(2,.sl 1 (shaK.map cW)),(7,.arr 501 0 64),(8,(.g (.int .i64 (((0):Nat)))))] [(501,.win 1 (schR b (0)))] (by simp [zG15,KpR,renV2,renV,zbl,zdu,zdn];try rfl) (by simp [zG15,KpOX,renO,plO,cvO,renV,pl1,zdu,zdn];first|(simp [schR,sch];done) | exact la_step b hb i hi2 _ _ _ _ | trace_state) (by rfl) (by simp) (by simp) (by rfl) (by simp [zG16,formsX]),_,0,rfl,?_,rfl⟩
  ·simp
 ·rintro mM sS ⟨i,rfl,hi,rfl⟩
  refine zbj ?_
  refine AW_x rfl rfl λK hK=>?_
  simp (disch:=omega)
  repeat' first|(refine ⟨by omega,?_⟩)|(intro _)
  refine hK _ ?_;clear hK K
  refine zbi rfl (λhc1=>?_) (λhc1=>?_)
  ·try simp at hc1
   all_goals
    have hi2:i<16:=by omega
    refine zbk ?_
    refine zbo ?_
    refine zbj ?_
    refine zbn ?_
    refine zhn rfl mix (by kernel_rfl) (by kernel_rfl) λK hK=>?_
    simp (disch:=omega)
    repeat' first|(exfalso;omega)|(refine ⟨λ_=>?_,λ_=>?_⟩)|(refine ⟨by omega,?_⟩)|(simp (disch:=omega))|(intro _)
    all_goals (refine hK _ _ (by kernel_rfl) ?_;clear hK K)
    all_goals
     refine zbo ?_
     refine zb6 rfl rfl λK hK=>?_
     simp (disch:=omega)
     repeat' first|(refine ⟨by omega,?_⟩)|(intro _)
     refine hK _ ?_;clear hK K
     refine ⟨_,LeS.kx [(501,501)] [(0,.sl 1 h.cells),(1,.s b),(2,.sl 1 (shaK.map cW)),(7,.arr 501 0 64),(8,(.g (.int .i64 (((i+1):Nat)))))] [(501,.win 1 (schR b (i+1)))] (by simp [zG15,KpR,renV2,renV,zbl,zdu,zdn];try rfl) (by simp [zG15,KpOX,renO,plO,cvO,renV,pl1,zdu,zdn];first|(simp [schR,sch];done) | exact la_step b hb i hi2 _ _ _ _ | trace_state) (by rfl) (by simp) (by simp) (by rfl) (by simp [zG16,formsX]),_,?_,i+1,rfl,?_,rfl⟩
     ·omega
     ·omega
  ·try simp at hc1
   all_goals
    have hil:i=16:=by omega
    subst hil
    refine zb0 ?_
    refine zbo ?_
    refine zbj ?_
    refine AW_x rfl rfl λK hK=>?_
    simp (disch:=omega)
    repeat' first|(exfalso;omega)|(refine ⟨λ_=>?_,λ_=>?_⟩)|(refine ⟨by omega,?_⟩)|(simp (disch:=omega))|(intro _)
    all_goals (refine hK _ ?_;clear hK K)
    all_goals
     refine zbn ?_
     refine zbv (λmM sS=>∃(i:Nat),mM=64-i∧(16≤i∧i≤64)∧sS = { env:=lkE [(0,.sl 1 h.cells),(1,.s b),(2,.sl 1 (shaK.map cW)),(7,.arr 501 0 64),(9,(.g (.int .i64 ((i:Nat)))))],ob:=lk [(501,.win 1 (schR b i))] }) ?_ ?_
     ·refine ⟨_,LeS.kx [(501,501)] [(0,.sl 1 h.cells),(1,.s b),(2,.sl 1 (shaK.map cW)),(7,.arr 501 0 64),(9,(.g (.int .i64 (((16):Nat)))))] [(501,.win 1 (schR b (16)))] (by simp [zG15,KpR,renV2,renV,zbl,zdu,zdn];try rfl) (by simp [zG15,KpOX,renO,plO,cvO,renV,pl1,zdu,zdn];first|(simp;done) | exact lb_step b i hi1 hi2 | trace_state) (by rfl) (by simp) (by simp) (by rfl) (by simp [zG16,formsX]),_,16,rfl,?_,rfl⟩
      ·simp
     ·rintro mM sS ⟨i,rfl,⟨hi1,hi⟩,rfl⟩
      refine zbj ?_
      refine AW_x rfl rfl λK hK=>?_
      simp (disch:=omega)
      repeat' first|(refine ⟨by omega,?_⟩)|(intro _)
      refine hK _ ?_;clear hK K
      refine zbi rfl (λhc2=>?_) (λhc2=>?_)
      ·try simp at hc2
       all_goals
        have hi2:i<64:=by omega
        have g15:(schR b i)[((i:Int)-15).toNat]? = some (cW (wd b (i-15))):=by rw [show ((i:Int)-15).toNat=i-15 by omega];exact zju b i _ (by omega) hi
        have g2:(schR b i)[((i:Int)-2).toNat]? = some (cW (wd b (i-2))):=by rw [show ((i:Int)-2).toNat=i-2 by omega];exact zju b i _ (by omega) hi
        have g16:(schR b i)[((i:Int)-16).toNat]? = some (cW (wd b (i-16))):=by rw [show ((i:Int)-16).toNat=i-16 by omega];exact zju b i _ (by omega) hi
        have g7:(schR b i)[((i:Int)-7).toNat]? = some (cW (wd b (i-7))):=by rw [show ((i:Int)-7).toNat=i-7 by omega];exact zju b i _ (by omega) hi
        refine zbk ?_
        refine zbo ?_
        refine zbj ?_
        refine zbn ?_
        refine AW_d rfl mix (by kernel_rfl) (by kernel_rfl) λK hK=>?_
        simp (disch:=omega) [g15,g2,g16,g7]
        repeat' first|(exfalso;omega)|(refine zfi (λst'=>(zbg zco (zbg zco zbm))) (zhc _ _ (by decide)) rfl ?_;simp (disch:=omega) [g15,g2,g16,g7])|(refine zfj (zhc _ _ (by decide)) (by rfl) (λst' hst=>?_) ?_;(focus (simp (disch:=omega) [g15,g2,g16,g7] at hst;simp (disch:=omega) [g15,g2,g16,g7,hst,zbe];done));simp (disch:=omega) [g15,g2,g16,g7])|(refine ⟨λ_=>?_,λ_=>?_⟩)|(refine ⟨by omega,?_⟩)|(simp (disch:=omega) [g15,g2,g16,g7])|(intro _)
        all_goals (refine hK _ _ (by kernel_rfl) ?_;clear hK K)
        all_goals
         refine AW_d rfl mix (by kernel_rfl) (by kernel_rfl) λK hK=>?_
         simp (disch:=omega) [g15,g2,g16,g7]
         repeat' first|(exfalso;omega)|(refine zfi (λst'=>(zbg zco (zbg zco zbm))) (zhc _ _ (by decide)) rfl ?_;simp (disch:=omega) [g15,g2,g16,g7])|(refine zfj (zhc _ _ (by decide)) (by rfl) (λst' hst=>?_) ?_;(focus (simp (disch:=omega) [g15,g2,g16,g7] at hst;simp (disch:=omega) [g15,g2,g16,g7,hst,zbe];done));simp (disch:=omega) [g15,g2,g16,g7])|(refine ⟨by omega,?_⟩)|(simp (disch:=omega) [g15,g2,g16,g7])|(intro _)
         refine hK _ _ (by kernel_rfl) ?_;clear hK K
         refine zhn rfl mix (by kernel_rfl) (by kernel_rfl) λK hK=>?_
         simp (disch:=omega) [g15,g2,g16,g7]
         repeat' first|(exfalso;omega)|(refine zfi (λst'=>(zbg zco zbm)) (zjt _) rfl ?_;simp (disch:=omega) [g15,g2,g16,g7])|(refine zfj (zjt _) (by rfl) (λst' hst=>?_) ?_;(focus (simp (disch:=omega) [g15,g2,g16,g7] at hst;simp (disch:=omega) [g15,g2,g16,g7,hst,zbe];done));simp (disch:=omega) [g15,g2,g16,g7])|(refine ⟨by omega,?_⟩)|(simp (disch:=omega) [g15,g2,g16,g7])|(intro _)
         refine hK _ _ (by kernel_rfl) ?_;clear hK K
         refine zbo ?_
         refine zb6 rfl rfl λK hK=>?_
         simp (disch:=omega) [g15,g2,g16,g7]
         repeat' first|(refine ⟨by omega,?_⟩)|(intro _)
         refine hK _ ?_;clear hK K
         refine ⟨_,LeS.kx [(501,501)] [(0,.sl 1 h.cells),(1,.s b),(2,.sl 1 (shaK.map cW)),(7,.arr 501 0 64),(9,(.g (.int .i64 (((i+1):Nat)))))] [(501,.win 1 (schR b (i+1)))] (by simp [zG15,KpR,renV2,renV,zbl,zdu,zdn];try rfl) (by simp [zG15,KpOX,renO,plO,cvO,renV,pl1,zdu,zdn];first|(simp;done) | exact lb_step b i hi1 hi2 | trace_state) (by rfl) (by simp) (by simp) (by rfl) (by simp [zG16,formsX]),_,?_,i+1,rfl,?_,rfl⟩
         ·omega
         ·omega
      ·try simp at hc2
       all_goals
        have hil:i=64:=by omega
        subst hil
        refine zb0 ?_
        refine zbo ?_
        refine AW_x rfl rfl λK hK=>?_
        simp (disch:=omega)
        repeat' first|(exfalso;omega)|(refine ⟨λ_=>?_,λ_=>?_⟩)|(refine ⟨by omega,?_⟩)|(simp (disch:=omega))|(intro _)
        all_goals (refine hK _ ?_;clear hK K)
        all_goals
         refine zbj ?_
         refine AW_x rfl rfl λK hK=>?_
         simp (disch:=omega)
         repeat' first|(refine ⟨by omega,?_⟩)|(intro _)
         refine hK _ ?_;clear hK K
         refine zbn ?_
         refine zbv (λmM sS=>∃(i:Nat),mM=64-i∧(i≤64)∧sS = { env:=lkE [(0,.sl 1 h.cells),(2,.sl 1 (shaK.map cW)),(7,.arr 501 0 64),(12,.arr 502 0 8),(13,(.g (.int .i64 ((i:Nat)))))],ob:=lk [(501,.win 1 (schR b 64)),(502,.win 1 (runW b h i).cells)] }) ?_ ?_
         ·refine ⟨_,LeS.kx [(501,501),(502,1968)] [(0,.sl 1 h.cells),(2,.sl 1 (shaK.map cW)),(7,.arr 501 0 64),(12,.arr 502 0 8),(13,(.g (.int .i64 (((0):Nat)))))] [(501,.win 1 (schR b 64)),(502,.win 1 (runW b h (0)).cells)] (by simp [zG15,KpR,renV2,renV,zbl,zdu,zdn,zc0,cells_len];first|(simp;done)|(with_reducible rfl) | exact (show _=W8.cells _ from rfl) | trace_state) (by simp [zG15,KpOX,renO,plO,cvO,renV,pl1,zdu,zdn,zc0,cells_len];first|(rw [zsp,hv,zsr];done)|(rw [zsq];done) | trace_state) (by rfl) (by simp) (by simp) (by rfl) (by simp [zG16,formsX]),_,0,rfl,?_,rfl⟩
          ·simp
         ·rintro mM sS ⟨i,rfl,hi,rfl⟩
          refine zbj ?_
          refine AW_x rfl rfl λK hK=>?_
          simp (disch:=omega)
          repeat' first|(refine ⟨by omega,?_⟩)|(intro _)
          refine hK _ ?_;clear hK K
          refine zbi rfl (λhc3=>?_) (λhc3=>?_)
          ·try simp at hc3
           all_goals
            have hi2:i<64:=by omega
            have gw:(schR b 64)[i]? = some (cW (wd b i)):=zju b 64 i hi2 (by omega)
            have gk:=kd_at i hi2
            obtain ⟨v,hv⟩:∃v,runW b h i=v:=⟨_,rfl⟩
            rw [hv]
            refine zbk ?_
            refine zbo ?_
            refine zbj ?_
            refine zbn ?_
            refine AW_x rfl rfl λK hK=>?_
            simp (disch:=omega) [gw,gk,W8.cells]
            repeat' first|(exfalso;omega)|(refine ⟨λ_=>?_,λ_=>?_⟩)|(refine ⟨by omega,?_⟩)|(simp (disch:=omega) [gw,gk,W8.cells])|(intro _)
            all_goals (refine hK _ ?_;clear hK K)
            all_goals
             refine AW_x rfl rfl λK hK=>?_
             simp (disch:=omega) [gw,gk,W8.cells]
             repeat' first|(refine ⟨by omega,?_⟩)|(intro _)
             refine hK _ ?_;clear hK K
             refine AW_d rfl mix (by kernel_rfl) (by kernel_rfl) λK hK=>?_
             simp (disch:=omega) [gw,gk,W8.cells]
             repeat' first|(exfalso;omega)|(refine zfi (λst'=>(zbg zco (zbg zco zbm))) (zhc _ _ (by decide)) rfl ?_;simp (disch:=omega) [gw,gk,W8.cells])|(refine zfj (zhc _ _ (by decide)) (by rfl) (λst' hst=>?_) ?_;(focus (simp (disch:=omega) [gw,gk,W8.cells] at hst;simp (disch:=omega) [gw,gk,W8.cells,hst,zbe];done));simp (disch:=omega) [gw,gk,W8.cells])|(refine zfi (λst'=>(zbg zco zbm)) (zjt _) rfl ?_;simp (disch:=omega) [gw,gk,W8.cells])|(refine zfj (zjt _) (by rfl) (λst' hst=>?_) ?_;(focus (simp (disch:=omega) [gw,gk,W8.cells] at hst;simp (disch:=omega) [gw,gk,W8.cells,hst,zbe];done));simp (disch:=omega) [gw,gk,W8.cells])|(refine ⟨by omega,?_⟩)|(simp (disch:=omega) [gw,gk,W8.cells])|(intro _)
             refine hK _ _ (by kernel_rfl) ?_;clear hK K
             refine AW_d rfl mix (by kernel_rfl) (by kernel_rfl) λK hK=>?_
             simp (disch:=omega) [gw,gk,W8.cells]
             repeat' first|(exfalso;omega)|(refine zfi (λst'=>(zbg zco (zbg zco zbm))) (zhc _ _ (by decide)) rfl ?_;simp (disch:=omega) [gw,gk,W8.cells])|(refine zfj (zhc _ _ (by decide)) (by rfl) (λst' hst=>?_) ?_;(focus (simp (disch:=omega) [gw,gk,W8.cells] at hst;simp (disch:=omega) [gw,gk,W8.cells,hst,zbe];done));simp (disch:=omega) [gw,gk,W8.cells])|(refine ⟨by omega,?_⟩)|(simp (disch:=omega) [gw,gk,W8.cells])|(intro _)
             refine hK _ _ (by kernel_rfl) ?_;clear hK K
             refine zhn rfl mix (by kernel_rfl) (by kernel_rfl) λK hK=>?_
             simp (disch:=omega) [gw,gk,W8.cells]
             repeat' first|(exfalso;omega)|(refine zfi (λst'=>(zbg zco zbm)) (zjt _) rfl ?_;simp (disch:=omega) [gw,gk,W8.cells])|(refine zfj (zjt _) (by rfl) (λst' hst=>?_) ?_;(focus (simp (disch:=omega) [gw,gk,W8.cells] at hst;simp (disch:=omega) [gw,gk,W8.cells,hst,zbe];done));simp (disch:=omega) [gw,gk,W8.cells])|(refine ⟨by omega,?_⟩)|(simp (disch:=omega) [gw,gk,W8.cells])|(intro _)
             refine hK _ _ (by kernel_rfl) ?_;clear hK K
             refine zbo ?_
             refine zb6 rfl rfl λK hK=>?_
             simp (disch:=omega) [gw,gk,W8.cells]
             repeat' first|(refine ⟨by omega,?_⟩)|(intro _)
             refine hK _ ?_;clear hK K
             refine ⟨_,LeS.kx [(501,501),(502,3616)] [(0,.sl 1 h.cells),(2,.sl 1 (shaK.map cW)),(7,.arr 501 0 64),(12,.arr 502 0 8),(13,(.g (.int .i64 (((i+1):Nat)))))] [(501,.win 1 (schR b 64)),(502,.win 1 (runW b h (i+1)).cells)] (by simp [zG15,KpR,renV2,renV,zbl,zdu,zdn,zc0,cells_len];first|(simp;done)|(with_reducible rfl) | exact (show _=W8.cells _ from rfl) | trace_state) (by simp [zG15,KpOX,renO,plO,cvO,renV,pl1,zdu,zdn,zc0,cells_len];first|(rw [zsp,hv,zsr];done)|(rw [zsq];done) | trace_state) (by rfl) (by simp) (by simp) (by rfl) (by simp [zG16,formsX]),_,?_,i+1,rfl,?_,rfl⟩
             ·omega
             ·omega
          ·try simp at hc3
           all_goals
            have hil:i=64:=by omega
            subst hil
            obtain ⟨v,hv⟩:∃v,runW b h 64=v:=⟨_,rfl⟩
            rw [hv]
            refine zb0 ?_
            refine zbo ?_
            refine AW_x rfl rfl λK hK=>?_
            simp (disch:=omega)
            repeat' first|(exfalso;omega)|(refine ⟨λ_=>?_,λ_=>?_⟩)|(refine ⟨by omega,?_⟩)|(simp (disch:=omega))|(intro _)
            all_goals (refine hK _ ?_;clear hK K)
            all_goals
             refine zbj ?_
             refine AW_x rfl rfl λK hK=>?_
             simp (disch:=omega)
             repeat' first|(refine ⟨by omega,?_⟩)|(intro _)
             refine hK _ ?_;clear hK K
             refine zbn ?_
             refine zbv (λmM sS=>∃(i:Nat),mM=8-i∧(i≤8)∧sS = { env:=lkE [(0,.sl 1 h.cells),(12,.arr 502 0 8),(18,.arr 503 0 i),(19,(.g (.int .i64 ((i:Nat)))))],ob:=lk [(502,.win 1 v.cells),(503,.win 1 ((add8 h v).cells.take i))] }) ?_ ?_
             ·refine ⟨_,LeS.kx [(502,502),(503,3632)] [(0,.sl 1 h.cells),(12,.arr 502 0 8),(18,.arr 503 0 (0)),(19,(.g (.int .i64 (((0):Nat)))))] [(502,.win 1 v.cells),(503,.win 1 ((add8 h v).cells.take (0)))] (by simp [zG15,KpR,renV2,renV,zbl,zc0,cells_len,zxl];first|(simp;done) | omega | trace_state) (by simp [zG15,KpOX,renO,plO,cvO,renV,pl1,zc0,cells_len,zxl];first | rfl|(rw [zss _ _ _ hi2,List.take_of_length_le (by simp [htl])];rfl) | trace_state) (by rfl) (by simp) (by simp) (by rfl) (by simp [zG16,formsX]),_,0,rfl,?_,rfl⟩
              ·simp
             ·rintro mM sS ⟨i,rfl,hi,rfl⟩
              have htl:=tk_len (add8 h v) i hi
              refine zbj ?_
              refine AW_x rfl rfl λK hK=>?_
              simp (disch:=omega) [htl]
              repeat' first|(refine ⟨by omega,?_⟩)|(intro _)
              refine hK _ ?_;clear hK K
              refine zbi rfl (λhc4=>?_) (λhc4=>?_)
              ·try simp at hc4
               all_goals
                have hi2:i<8:=by omega
                have gh:=zm9 h i hi2
                have gv:=zm9 v i hi2
                refine zbk ?_
                refine zbo ?_
                refine zbj ?_
                refine zbn ?_
                refine zhn rfl mix (by kernel_rfl) (by kernel_rfl) λK hK=>?_
                simp (disch:=omega) [htl,gh,gv]
                repeat' first|(exfalso;omega)|(refine zfi (λst'=>(zbg zco zbm)) (zjt _) rfl ?_;simp (disch:=omega) [htl,gh,gv])|(refine zfj (zjt _) (by rfl) (λst' hst=>?_) ?_;(focus (simp (disch:=omega) [htl,gh,gv] at hst;simp (disch:=omega) [htl,gh,gv,hst,zbe];done));simp (disch:=omega) [htl,gh,gv])|(refine ⟨λ_=>?_,λ_=>?_⟩)|(refine ⟨by omega,?_⟩)|(simp (disch:=omega) [htl,gh,gv])|(intro _)
                all_goals (refine hK _ _ (by kernel_rfl) ?_;clear hK K)
                all_goals
                 refine zbo ?_
                 refine zb6 rfl rfl λK hK=>?_
                 simp (disch:=omega) [htl,gh,gv]
                 repeat' first|(refine ⟨by omega,?_⟩)|(intro _)
                 refine hK _ ?_;clear hK K
                 refine ⟨_,LeS.kx [(502,502),(503,3904)] [(0,.sl 1 h.cells),(12,.arr 502 0 8),(18,.arr 503 0 (i+1)),(19,(.g (.int .i64 (((i+1):Nat)))))] [(502,.win 1 v.cells),(503,.win 1 ((add8 h v).cells.take (i+1)))] (by simp [zG15,KpR,renV2,renV,zbl,zc0,cells_len,zxl];first|(simp;done) | omega | trace_state) (by simp [zG15,KpOX,renO,plO,cvO,renV,pl1,zc0,cells_len,zxl];first | rfl|(rw [zss _ _ _ hi2,List.take_of_length_le (by simp [htl])];rfl) | trace_state) (by rfl) (by simp) (by simp) (by rfl) (by simp [zG16,formsX]),_,?_,i+1,rfl,?_,rfl⟩
                 ·omega
                 ·omega
              ·try simp at hc4
               all_goals
                have hil:i=8:=by omega
                subst hil
                refine zb0 ?_
                refine zbo ?_
                refine AW_x rfl rfl λK hK=>?_
                simp (disch:=omega) [htl]
                repeat' first|(exfalso;omega)|(refine ⟨λ_=>?_,λ_=>?_⟩)|(refine ⟨by omega,?_⟩)|(simp (disch:=omega) [htl])|(intro _)
                all_goals (refine hK _ ?_;clear hK K)
                all_goals
                 refine zbp (zb5 [503] [] (by simp [zG15,List.range_succ]) (by simp) ?_)
                 simp (disch:=omega) [htl]
                 all_goals first|(unfold blk;rw [hv];done) | trace_state
end Go.Proofs.Ytodmafgmdlkhoaa.Vs
end
section
namespace Go.Proofs.Ytodmafgmdlkhoaa.Vs
set_option linter.all false
set_option maxRecDepth 100000
set_option maxHeartbeats 4000000
attribute [local simp ↓] zvi zOr_eq zvj zvk zvl zvm
def bC(n:Int):List AV:=[.g (.int .u8 n)]
theorem zna:∀ns:List Int,numsOf (ns.map bC)=some ns
 | []=>rfl
 | n :: ns=>by
  have:=zna ns
  simp only [List.map_cons,bC,numsOf] at this ⊢
  rw [this];rfl
theorem mask8(x:Int):zAnd x 255=x % 256:=by
 show IntKind.i64.wrap (((BitVec.ofInt 64 x &&& BitVec.ofInt 64 255).toNat:Nat):Int)=_
 have e:(BitVec.ofInt 64 x &&& BitVec.ofInt 64 255).toNat=(x % 18446744073709551616).toNat % 256:=by
  rw [BitVec.toNat_and]
  have h1:(BitVec.ofInt 64 255).toNat=2^8-1:=by decide
  have h2:(BitVec.ofInt 64 x).toNat=(x % 18446744073709551616).toNat:=by simp [BitVec.toNat_ofInt]
  rw [h1,h2,Nat.and_two_pow_sub_one_eq_mod]
 rw [e,znr (by omega)]
 omega
theorem wrapB(x:Int):IntKind.u8.wrap x=x % 256:=by simp [IntKind.wrap,IntKind.bits,IntKind.signed]
theorem zst(m:Nat):UInt8.ofNat (m % 256)=UInt8.ofNat m:=by
 apply UInt8.toNat_inj.1
 simp [UInt8.toNat_ofNat']
/-- The bytes behind the text, in numbers. -/
def lenI(n i:Nat):List Int:=(List.range i).map λj=>((n*8 / 2^(56-8*j) % 256:Nat):Int)
theorem lenI_succ(n i:Nat):lenI n (i+1)=lenI n i++[((n*8 / 2^(56-8*i) % 256:Nat):Int)]:=by unfold lenI;rw [List.range_succ,List.map_append];rfl
theorem lenI_len(n i:Nat):(lenI n i).length=i:=by simp [lenI]
def padI(n k i:Nat):List Int:=(128:Int) :: (List.replicate k 0++lenI n i)
theorem zlj(n k i:Nat):(padI n k i).length=1+k+i:=by simp [padI,lenI_len];omega
theorem padI_S(s:List UInt8):s++strN (padI s.length (zerosN s.length) 8)=padS s:=by
 unfold padS padI strN lenI lenB
 congr 1
 simp only [List.map_cons,List.map_append,List.map_map,List.map_replicate]
 have e:((λn:Int=>UInt8.ofNat n.toNat) ∘ λj=>((s.length*8 / 2^(56-8*j) % 256:Nat):Int))=λi=>UInt8.ofNat (s.length*8 / 2^(56-8*i)):=by
  funext j
  simp only [Function.comp,Int.toNat_natCast]
  exact zst _
 rw [e]
 simp
def by4I(x:W32):List Int:=[((x.toNat / 16777216 % 256:Nat):Int),((x.toNat / 65536 % 256:Nat):Int),((x.toNat / 256 % 256:Nat):Int),((x.toNat % 256:Nat):Int)]
theorem by4I_S(x:W32):strN (by4I x)=by4 x:=by
 unfold strN by4I by4
 simp only [List.map_cons,List.map_nil,Int.toNat_natCast,zst]
def outI(v:W8)(i:Nat):List Int:=(List.range i).flatMap λj=>by4I (v.get j)
theorem znb(v:W8)(i:Nat):outI v (i+1)=outI v i++by4I (v.get i):=by unfold outI;rw [List.range_succ,List.flatMap_append];simp
theorem zlk(v:W8):∀i,(outI v i).length=4*i
 | 0=>rfl
 | i+1=>by rw [znb,List.length_append,zlk v i];rfl
theorem outI_S(v:W8):strN (outI v 8)=by32 v:=by
 have h:outI v 8=by4I v.a++by4I v.b++by4I v.c++by4I v.d++by4I v.e++by4I v.f++by4I v.g++by4I v.h:=rfl
 have hs:∀a b:List Int,strN (a++b)=strN a++strN b:=λa b=>by simp [strN]
 rw [h]
 simp only [hs,by4I_S]
 rfl
theorem zpj:shaH.cells=[[AV.g (.int .i64 1779033703)],[AV.g (.int .i64 3144134277)],[AV.g (.int .i64 1013904242)],[AV.g (.int .i64 2773480762)],[AV.g (.int .i64 1359893119)],[AV.g (.int .i64 2600822924)],[AV.g (.int .i64 528734635)],[AV.g (.int .i64 1541459225)]]:=rfl
theorem zShr_n(p:Nat)(z:Int)(h:0≤z∧z≤64):zShr (p:Int) z=((p / 2^z.toNat:Nat):Int):=by
 unfold zShr
 rw [show min z.toNat IntKind.i64.bits=z.toNat from Nat.min_eq_left (by show z.toNat≤64;omega),Int.fdiv_eq_ediv_of_nonneg _ (Int.pow_nonneg (by omega))]
 norm_cast
theorem pad_end{n k:Nat}(hk:k≤zerosN n)(h:(n+(1+k)) % 64=56):k=zerosN n:=by unfold zerosN at *;omega
theorem pad_go{n k:Nat}(hk:k≤zerosN n)(h:¬(n+(1+k)) % 64=56):k<zerosN n:=by unfold zerosN at *;omega
theorem zer_lt(n:Nat):zerosN n<64:=by unfold zerosN;omega
theorem tkb(l:List Int)(n:Nat)(h:l.length=n):List.take n (l.map bC)=l.map bC:=List.take_of_length_le (by simp;omega)
theorem zsu(n k i:Nat):padI n k (i+1)=padI n k i++[((n*8 / 2^(56-8*i) % 256:Nat):Int)]:=by unfold padI;rw [lenI_succ];simp
theorem len_by(n i:Nat)(h:i<8):IntKind.u8.wrap (zAnd (zShr ((n:Int)*8) (56-8*(i:Int))) 255)=((n*8 / 2^(56-8*i) % 256:Nat):Int):=by
 have e:(n:Int)*8=((n*8:Nat):Int):=by omega
 rw [e,zShr_n _ _ (by omega),mask8,wrapB,show (56-8*(i:Int)).toNat=56-8*i by omega]
 omega
theorem out_by(x:W32) : [[AV.g (Value.int IntKind.u8 (IntKind.u8.wrap (zShr (wI x) 24)))],[AV.g (Value.int IntKind.u8 (IntKind.u8.wrap (zAnd (zShr (wI x) 16) 255)))],[AV.g (Value.int IntKind.u8 (IntKind.u8.wrap (zAnd (zShr (wI x) 8) 255)))],[AV.g (Value.int IntKind.u8 (IntKind.u8.wrap (zAnd (wI x) 255)))]]=(by4I x).map bC:=by
 have h:∀z:Int,0≤z∧z≤64→zShr (wI x) z=((x.toNat / 2^z.toNat:Nat):Int):=λz hz=>zShr_n x.toNat z hz
 rw [h 24 (by omega),h 16 (by omega),h 8 (by omega)]
 simp only [mask8,wrapB,by4I,List.map_cons,List.map_nil,bC]
 have hx:wI x=(x.toNat:Int):=rfl
 rw [hx]
 have e1:(((x.toNat / 2^(24:Int).toNat:Nat):Int)) % 256=((x.toNat / 16777216 % 256:Nat):Int):=by rw [show (24:Int).toNat=24 from rfl];omega
 have e2:(((x.toNat / 2^(16:Int).toNat:Nat):Int)) % 256 % 256=((x.toNat / 65536 % 256:Nat):Int):=by rw [show (16:Int).toNat=16 from rfl];omega
 have e3:(((x.toNat / 2^(8:Int).toNat:Nat):Int)) % 256 % 256=((x.toNat / 256 % 256:Nat):Int):=by rw [show (8:Int).toNat=8 from rfl];omega
 have e4:((x.toNat:Int)) % 256 % 256=((x.toNat % 256:Nat):Int):=by omega
 rw [e1,e2,e3,e4]
theorem zgz(ns:List Int):(strN ns).length=ns.length:=by simp [strN]
theorem tmod_n(n k:Nat):((n:Int)+(1+(k:Int))).tmod 64=(((n+(1+k)) % 64:Nat):Int):=by
 rw [Int.tmod_eq_emod_of_nonneg (by omega)];omega
theorem zsv(t:List UInt8)(j:Nat):blks t (j+1)=blk (blks t j) ((t.drop (64*j)).take 64):=by rw [blks]
attribute [local simp] row8 cells_len zgz zlj aNews aAppend aBuildSlice bC tkb zna zlk
theorem specSha(s:List UInt8)(hs:s.length≤1073741824):XCall Try.prog 100 [.s s] [] (.s (shaS s)) [] []:=by
 refine zbt Try.func100 (by rfl) (by rfl) (by rw [Try.ntmps100];exact Nat.le_of_ble_eq_true rfl) rfl (by simp) rfl rfl ?_
 rw [Try.ntmps100]
 refine zhm   ?_
 refine AW_k [(0,_)] ⟨rfl,trivial⟩ ?_
 refine AW_x rfl rfl λK hK=>?_
 simp (disch:=omega)
 repeat' first|(refine ⟨by omega,?_⟩)|(intro _)
 refine hK _ ?_;clear hK K
 refine AW_x rfl rfl λK hK=>?_
 simp (disch:=omega)
 repeat' first|(refine ⟨by omega,?_⟩)|(simp (disch:=omega))|(intro _)
 refine hK _ ?_;clear hK K
 refine AW_x rfl rfl λK hK=>?_
 simp (disch:=omega)
 repeat' first|(refine ⟨by omega,?_⟩)|(simp (disch:=omega))|(intro _)
 refine hK _ ?_;clear hK K
 refine zbj ?_
 refine zbn ?_
 refine zbv (λmM sS=>∃(k:Nat),mM=zerosN s.length-k∧(k≤zerosN s.length)∧sS = { env:=lkE [(0,.s s),(3,(.g (.int .i64 ((s.length:Nat))))),(4,.arr 501 0 (1+k))],ob:=lk [(501,.flat 1 ((padI s.length k 0).map bC))] }) ?_ ?_
 ·refine ⟨_,LeS.kx [(501,240)] [(0,.s s),(3,(.g (.int .i64 ((s.length:Nat))))),(4,.arr 501 0 (1+(0)))] [(501,.flat 1 ((padI s.length (0) 0).map bC))] (by simp [zG15,KpR,renV2,renV,zbl];first|(simp;done) | omega | trace_state) (by simp [zG15,KpOX,renO,plO,cvO,renV,pl1];first|(simp [padI,lenI,bC];done)|(simp [padI,lenI,bC,List.replicate_succ'];done) | trace_state) (by rfl) (by simp) (by simp) (by rfl) (by simp [zG16,formsX]),_,0,rfl,?_,rfl⟩
  ·simp
 ·rintro mM sS ⟨k,rfl,hk,rfl⟩
  have hz:=zer_lt s.length
  have hpl:=zlj s.length k 0
  have htm:=tmod_n s.length k
  refine zbj ?_
  refine AW_x rfl rfl λK hK=>?_
  simp (disch:=omega)
  repeat' first|(refine ⟨by omega,?_⟩)|(simp (disch:=omega))|(intro _)
  refine hK _ ?_;clear hK K
  refine zbi rfl (λhc1=>?_) (λhc1=>?_)
  ·try simp at hc1
   all_goals
    have hlt:=pad_go hk (by have:=hc1;omega)
    refine zbk ?_
    refine zbo ?_
    refine zbn ?_
    refine zb6 rfl rfl λK hK=>?_
    simp (disch:=omega)
    repeat' first|(exfalso;omega)|(refine ⟨λ_=>?_,λ_=>?_⟩)|(refine ⟨by omega,?_⟩)|(simp (disch:=omega))|(intro _)
    all_goals (refine hK _ ?_;clear hK K)
    all_goals
     refine ⟨_,LeS.kx [(501,384)] [(0,.s s),(3,(.g (.int .i64 ((s.length:Nat))))),(4,.arr 501 0 (1+(k+1)))] [(501,.flat 1 ((padI s.length (k+1) 0).map bC))] (by simp [zG15,KpR,renV2,renV,zbl];first|(simp;done) | omega | trace_state) (by simp [zG15,KpOX,renO,plO,cvO,renV,pl1];first|(simp [padI,lenI,bC];done)|(simp [padI,lenI,bC,List.replicate_succ'];done) | trace_state) (by rfl) (by simp) (by simp) (by rfl) (by simp [zG16,formsX]),_,?_,k+1,rfl,?_,rfl⟩
     ·omega
     ·omega
  ·try simp at hc1
   all_goals
    have hke:=pad_end hk (by have:=hc1;omega)
    subst hke
    refine zb0 ?_
    refine zbo ?_
    refine zbj ?_
    refine AW_x rfl rfl λK hK=>?_
    simp (disch:=omega)
    repeat' first|(exfalso;omega)|(refine ⟨λ_=>?_,λ_=>?_⟩)|(refine ⟨by omega,?_⟩)|(simp (disch:=omega))|(intro _)
    all_goals (refine hK _ ?_;clear hK K)
    all_goals
     refine zbn ?_
     refine zbv (λmM sS=>∃(i:Nat),mM=8-i∧(i≤8)∧sS = { env:=lkE [(0,.s s),(3,(.g (.int .i64 ((s.length:Nat))))),(4,.arr 502 0 (1+zerosN s.length+i)),(5,(.g (.int .i64 ((i:Nat)))))],ob:=lk [(502,.flat 1 ((padI s.length (zerosN s.length) i).map bC))] }) ?_ ?_
     ·refine ⟨_,LeS.kx [(502,501)] [(0,.s s),(3,(.g (.int .i64 ((s.length:Nat))))),(4,.arr 502 0 (1+zerosN s.length+(0))),(5,(.g (.int .i64 (((0):Nat)))))] [(502,.flat 1 ((padI s.length (zerosN s.length) (0)).map bC))] (by simp [zG15,KpR,renV2,renV,zbl];first|(simp;done) | omega | trace_state) (by simp [zG15,KpOX,renO,plO,cvO,renV,pl1];first | rfl|(rw [zsu];simp [bC];done) | trace_state) (by rfl) (by simp) (by simp) (by rfl) (by simp [zG16,formsX]),_,0,rfl,?_,rfl⟩
      ·simp
     ·rintro mM sS ⟨i,rfl,hi,rfl⟩
      have hz:=zer_lt s.length
      have hpl:=zlj s.length (zerosN s.length) i
      refine zbj ?_
      refine AW_x rfl rfl λK hK=>?_
      simp (disch:=omega)
      repeat' first|(refine ⟨by omega,?_⟩)|(intro _)
      refine hK _ ?_;clear hK K
      refine zbi rfl (λhc2=>?_) (λhc2=>?_)
      ·try simp at hc2
       all_goals
        have hi2:i<8:=by omega
        have hwu:=wrapU (n:=56-8*(i:Int)) (by omega)
        have hby:=len_by s.length i hi2
        refine zbk ?_
        refine zbo ?_
        refine zbj ?_
        refine zbn ?_
        refine zb6 rfl rfl λK hK=>?_
        simp (disch:=omega) [hwu,hby]
        repeat' first|(exfalso;omega)|(refine ⟨λ_=>?_,λ_=>?_⟩)|(refine ⟨by omega,?_⟩)|(simp (disch:=omega) [hwu,hby])|(intro _)
        all_goals (refine hK _ ?_;clear hK K)
        all_goals
         refine zbo ?_
         refine zb6 rfl rfl λK hK=>?_
         simp (disch:=omega) [hwu,hby]
         repeat' first|(refine ⟨by omega,?_⟩)|(intro _)
         refine hK _ ?_;clear hK K
         refine ⟨_,LeS.kx [(502,640)] [(0,.s s),(3,(.g (.int .i64 ((s.length:Nat))))),(4,.arr 502 0 (1+zerosN s.length+(i+1))),(5,(.g (.int .i64 (((i+1):Nat)))))] [(502,.flat 1 ((padI s.length (zerosN s.length) (i+1)).map bC))] (by simp [zG15,KpR,renV2,renV,zbl];first|(simp;done) | omega | trace_state) (by simp [zG15,KpOX,renO,plO,cvO,renV,pl1];first | rfl|(rw [zsu];simp [bC];done) | trace_state) (by rfl) (by simp) (by simp) (by rfl) (by simp [zG16,formsX]),_,?_,i+1,rfl,?_,rfl⟩
         ·omega
         ·omega
      ·try simp at hc2
       all_goals
        have hil:i=8:=by omega
        subst hil
        refine zb0 ?_
        refine zbo ?_
        refine AW_x rfl rfl λK hK=>?_
        simp (disch:=omega)
        repeat' first|(exfalso;omega)|(refine ⟨λ_=>?_,λ_=>?_⟩)|(refine ⟨by omega,?_⟩)|(simp (disch:=omega))|(intro _)
        all_goals (refine hK _ ?_;clear hK K)
        all_goals
         refine AW_x rfl rfl λK hK=>?_
         simp (disch:=omega)
         repeat' first|(refine ⟨by omega,?_⟩)|(simp (disch:=omega))|(intro _)
         refine hK _ ?_;clear hK K
         refine AW_x rfl rfl λK hK=>?_
         simp (disch:=omega)
         repeat' first|(exfalso;omega)|(refine zd5 zbm (l3Keys) rfl ?_;simp (disch:=omega))|(refine zd6 (l3Keys) (by rfl) ?_ ?_;(focus (simp (disch:=omega) [zbe];done));simp (disch:=omega))|(refine ⟨by omega,?_⟩)|(simp (disch:=omega))|(intro _)
         refine hK _ ?_;clear hK K
         refine zbj ?_
         refine AW_x rfl rfl λK hK=>?_
         simp (disch:=omega)
         repeat' first|(refine ⟨by omega,?_⟩)|(intro _)
         refine hK _ ?_;clear hK K
         refine zbn ?_
         refine zbv (λmM sS=>∃(j:Nat),mM=(padS s).length-64*j∧(64*j≤(padS s).length)∧sS = { env:=lkE [(6,.s (padS s)),(7,.arr 503 0 8),(8,.sl 1 (shaK.map cW)),(9,(.g (.int .i64 ((64*j:Nat)))))],ob:=lk [(503,.own 1 (blks (padS s) j).cells)] }) ?_ ?_
         ·refine ⟨_,LeS.kx [(503,720)] [(6,.s (padS s)),(7,.arr 503 0 8),(8,.sl 1 (shaK.map cW)),(9,(.g (.int .i64 ((64*(0):Nat)))))] [(503,.own 1 (blks (padS s) (0)).cells)] (by simp [zG15,KpR,renV2,renV,zbl,zc0];first | exact padI_S s|(simp;done) | omega|(simp;omega) | trace_state) (by simp [zG15,KpOX,renO,plO,cvO,renV,pl1,zc0];first|(rw [zsv];done) | exact zpj | trace_state) (by rfl) (by simp) (by simp) (by rfl) (by simp [zG16,formsX]),_,0,rfl,?_,rfl⟩
          ·simp
         ·rintro mM sS ⟨j,rfl,hj,rfl⟩
          have hpl:=padS_len s
          refine zbj ?_
          refine AW_x rfl rfl λK hK=>?_
          simp (disch:=omega)
          repeat' first|(refine ⟨by omega,?_⟩)|(simp (disch:=omega))|(intro _)
          refine hK _ ?_;clear hK K
          refine zbi rfl (λhc3=>?_) (λhc3=>?_)
          ·try simp at hc3
           all_goals
            have hj2:64*j+64≤(padS s).length:=by omega
            have hsl:List.take ((64*(j:Int)+64).toNat-(64*(j:Int)).toNat) (List.drop (64*(j:Int)).toNat (padS s))=((padS s).drop (64*j)).take 64:=by rw [show (64*(j:Int)).toNat=64*j by omega,show (64*(j:Int)+64).toNat-64*j=64 by omega]
            have hbl:(((padS s).drop (64*j)).take 64).length=64:=by simp;omega
            refine zbk ?_
            refine zbo ?_
            refine zbj ?_
            refine zbn ?_
            refine zb6 rfl rfl λK hK=>?_
            simp (disch:=omega) [hsl]
            repeat' first|(exfalso;omega)|(refine zc9 [] true [] (l3Block (blks (padS s) j) (((padS s).drop (64*j)).take 64) hbl) ?_ ?_ ?_;(focus (simp [List.range_succ,nmC];done));(focus (simp (disch:=omega) [hsl,zbe];done));simp (disch:=omega) [hsl])|(refine ⟨λ_=>?_,λ_=>?_⟩)|(refine ⟨by omega,?_⟩)|(simp (disch:=omega) [hsl])|(intro _)
            all_goals (refine hK _ ?_;clear hK K)
            all_goals
             refine zbo ?_
             refine zb6 rfl rfl λK hK=>?_
             simp (disch:=omega) [hsl]
             repeat' first|(refine ⟨by omega,?_⟩)|(intro _)
             refine hK _ ?_;clear hK K
             refine ⟨_,LeS.kx [(503,960)] [(6,.s (padS s)),(7,.arr 503 0 8),(8,.sl 1 (shaK.map cW)),(9,(.g (.int .i64 ((64*(j+1):Nat)))))] [(503,.own 1 (blks (padS s) (j+1)).cells)] (by simp [zG15,KpR,renV2,renV,zbl,zc0];first | exact padI_S s|(simp;done) | omega|(simp;omega) | trace_state) (by simp [zG15,KpOX,renO,plO,cvO,renV,pl1,zc0];first|(rw [zsv];done) | exact zpj | trace_state) (by rfl) (by simp) (by simp) (by rfl) (by simp [zG16,formsX]),_,?_,j+1,rfl,?_,rfl⟩
             ·omega
             ·omega
          ·try simp at hc3
           all_goals
            have hjl:64*j=(padS s).length:=by omega
            refine zb0 ?_
            refine zbo ?_
            refine AW_x rfl rfl λK hK=>?_
            simp (disch:=omega)
            repeat' first|(exfalso;omega)|(refine ⟨λ_=>?_,λ_=>?_⟩)|(refine ⟨by omega,?_⟩)|(simp (disch:=omega))|(intro _)
            all_goals (refine hK _ ?_;clear hK K)
            all_goals
             refine zbj ?_
             refine AW_x rfl rfl λK hK=>?_
             simp (disch:=omega)
             repeat' first|(refine ⟨by omega,?_⟩)|(intro _)
             refine hK _ ?_;clear hK K
             refine zbn ?_
             refine zbv (λmM sS=>∃(i:Nat),mM=8-i∧(i≤8)∧sS = { env:=lkE [(7,.arr 503 0 8),(10,.arr 504 0 (4*i)),(11,(.g (.int .i64 ((i:Nat)))))],ob:=lk [(503,.own 1 (blks (padS s) j).cells),(504,.flat 1 ((outI (blks (padS s) j) i).map bC))] }) ?_ ?_
             ·refine ⟨_,LeS.kx [(503,503),(504,976)] [(7,.arr 503 0 8),(10,.arr 504 0 (4*(0))),(11,(.g (.int .i64 (((0):Nat)))))] [(503,.own 1 (blks (padS s) j).cells),(504,.flat 1 ((outI (blks (padS s) j) (0)).map bC))] (by simp [zG15,KpR,renV2,renV,zbl,zc0];first|(simp;done) | omega | trace_state) (by simp [zG15,KpOX,renO,plO,cvO,renV,pl1,zc0];first | rfl|(rw [znb,out_by,List.map_append];done) | trace_state) (by rfl) (by simp) (by simp) (by rfl) (by simp [zG16,formsX]),_,0,rfl,?_,rfl⟩
              ·simp
             ·rintro mM sS ⟨i,rfl,hi,rfl⟩
              have hol:=zlk (blks (padS s) j) i
              refine zbj ?_
              refine AW_x rfl rfl λK hK=>?_
              simp (disch:=omega)
              repeat' first|(refine ⟨by omega,?_⟩)|(intro _)
              refine hK _ ?_;clear hK K
              refine zbi rfl (λhc4=>?_) (λhc4=>?_)
              ·try simp at hc4
               all_goals
                have hi2:i<8:=by omega
                have gv:=zm9 (blks (padS s) j) i hi2
                refine zbk ?_
                refine zbo ?_
                refine zbj ?_
                refine zbn ?_
                refine zhn rfl mix (by kernel_rfl) (by kernel_rfl) λK hK=>?_
                simp (disch:=omega) [gv,cW]
                repeat' first|(exfalso;omega)|(refine ⟨λ_=>?_,λ_=>?_⟩)|(refine ⟨by omega,?_⟩)|(simp (disch:=omega) [gv,cW])|(intro _)
                all_goals (refine hK _ _ (by kernel_rfl) ?_;clear hK K)
                all_goals
                 refine zbo ?_
                 refine zb6 rfl rfl λK hK=>?_
                 simp (disch:=omega) [gv,cW]
                 repeat' first|(refine ⟨by omega,?_⟩)|(intro _)
                 refine hK _ ?_;clear hK K
                 refine ⟨_,LeS.kx [(503,503),(504,1504)] [(7,.arr 503 0 8),(10,.arr 504 0 (4*(i+1))),(11,(.g (.int .i64 (((i+1):Nat)))))] [(503,.own 1 (blks (padS s) j).cells),(504,.flat 1 ((outI (blks (padS s) j) (i+1)).map bC))] (by simp [zG15,KpR,renV2,renV,zbl,zc0];first|(simp;done) | omega | trace_state) (by simp [zG15,KpOX,renO,plO,cvO,renV,pl1,zc0];first | rfl|(rw [znb,out_by,List.map_append];done) | trace_state) (by rfl) (by simp) (by simp) (by rfl) (by simp [zG16,formsX]),_,?_,i+1,rfl,?_,rfl⟩
                 ·omega
                 ·omega
              ·try simp at hc4
               all_goals
                have hil:i=8:=by omega
                subst hil
                refine zb0 ?_
                refine zbo ?_
                refine AW_x rfl rfl λK hK=>?_
                simp (disch:=omega)
                repeat' first|(exfalso;omega)|(refine ⟨λ_=>?_,λ_=>?_⟩)|(refine ⟨by omega,?_⟩)|(simp (disch:=omega))|(intro _)
                all_goals (refine hK _ ?_;clear hK K)
                all_goals
                 refine zbp (zb5 [] [] (by simp [zG15,List.range_succ]) (by simp) ?_)
                 simp (disch:=omega)
                 all_goals first|(rw [outI_S];unfold shaS;rw [show (padS s).length / 64=j by omega];done) | trace_state
theorem specShaP(s:List UInt8)(hs:s.length≤1073741824):PCall Try.prog 100 [.s s] (.s (shaS s)):=zhr (specSha s hs) rfl
attribute [local simp] shaS_len
attribute [-simp] row8 cells_len zgz zlj aNews aAppend aBuildSlice bC tkb zna zlk
theorem zsw(s:List UInt8)(hs:s.length≤1073741824):PCall Try.prog 84 [.s s] (.s (shortS s)):=by
 refine zbr Try.func84 (by rfl) (by rfl) (by rw [Try.ntmps84];exact Nat.le_of_ble_eq_true rfl) rfl (by decide) ?_
 rw [Try.ntmps84]
 refine AW_k [(0,_)] ⟨rfl,trivial⟩ ?_
 refine AW_r rfl rfl λK hK=>?_
 simp (disch:=omega)
 repeat' first|(refine ⟨by omega,?_⟩)|(intro _)
 refine hK _ ?_;clear hK K
 refine AW_r rfl rfl λK hK=>?_
 simp (disch:=omega)
 repeat' first|(exfalso;omega)|(refine zc5 (zbg zf1 zbm) (specShaP _ hs) rfl ?_;simp (disch:=omega))|(refine ⟨by omega,?_⟩)|(intro _)
 refine hK _ ?_;clear hK K
 refine zbp (zcc ?_)
 simp (disch:=omega)
 all_goals first | rfl | trace_state
end Go.Proofs.Ytodmafgmdlkhoaa.Vs
end
section
namespace Go.Proofs.Ytodmafgmdlkhoaa.Vs
set_option linter.all false
def cmdO(c:DtCmd)(n:Nat):List AV:=[.g (.int .i64 c.fKind),.g (.int .i64 c.fClient),.g (.int .i64 c.fNo),.s c.fSet,.s c.fName,.s c.fTag,.g (.int .i64 c.fN),.arr n 0 c.fChunks.length]
theorem zxm{st:St}{cs:List AV}(h:st.ob 8=some (.cells cs)):FrzOk (formsX 1++formsX 1) st :=
 ⟨.inr (by decide),λm hm=>by
  have:m=8:=by simpa [formsX,List.range_succ] using hm
  subst this;exact ⟨_,h⟩⟩
section
variable {fs:List Nat}{st:St}
end
end Go.Proofs.Ytodmafgmdlkhoaa.Vs
end
