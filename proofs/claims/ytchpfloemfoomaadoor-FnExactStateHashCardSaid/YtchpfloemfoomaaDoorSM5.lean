import Derived.Test.YtchpfloemfoomaaDoorSM4
section
namespace Go.Proofs.YtchpfloemfoomaaDoor.Vs
set_option linter.all false
set_option maxRecDepth 100000
set_option maxHeartbeats 4000000
attribute [local simp ↓] zmz zr2 zm0 zm1 zm2 zm3
/-- The words of a block. -/
def wd(b:List UInt8)(j:Nat):W32:=(sch b 64).getD j 0
theorem zwt(b:List UInt8)(i j:Nat)(h:j<i)(hi:i≤64):(sch b i)[j]? = some (wd b j):=by
 rw [zwh b i j h]
 unfold wd
 rw [List.getD_eq_getElem?_getD,zwh b 64 j (by omega)]
 have:j<(sch b (j+1)).length:=by rw [zda];omega
 rw [List.getElem?_eq_getElem this];rfl
def kd(j:Nat):W32:=shaK.getD j 0
theorem kd_at(j:Nat)(h:j<64):shaK[j]? = some (kd j):=by unfold kd;rw [List.getD_eq_getElem?_getD,List.getElem?_eq_getElem (by rw [zr3];exact h),Option.getD_some]
def schR(b:List UInt8)(i:Nat):List (List AV):=(sch b i).map cW++List.replicate (64-i) [.g (.int .i64 0)]
theorem zcy(b:List UInt8)(i:Nat)(h:i≤64):(schR b i).length=64:=by unfold schR;simp [zda];omega
theorem zg5(b:List UInt8)(i j:Nat)(h:j<i)(hi:i≤64):(schR b i)[j]? = some (cW (wd b j)):=by
 unfold schR
 rw [List.getElem?_append_left (by simp [zda];omega),List.getElem?_map,zwt b i j h hi];rfl
theorem zr8(b:List UInt8)(i:Nat)(h:i<64)(x:W32)(hx:sch b (i+1)=sch b i++[x]):(schR b i).set i (cW x)=schR b (i+1):=by
 unfold schR
 rw [hx,List.set_append_right _ _ (by simp [zda]),show 64-i=(64-(i+1))+1 by omega,List.replicate_succ]
 simp [zda]
theorem zc2(b:List UInt8)(i:Nat):scR (schR b i)=true:=by
 unfold schR
 rw [zqy,zjr cW (λ_=>rfl)]
 simp
 induction (64-i) with
 | zero=>rfl
 | succ n ih=>rw [List.replicate_succ];simpa [scR] using ih
theorem schR_z(b:List UInt8)(i:Nat)(h:i<64):(schR b i)[i]? = some [.g (.int .i64 0)]:=by
 unfold schR
 rw [List.getElem?_append_right (by simp [zda])]
 simp [zda,List.getElem?_replicate]
 omega
theorem zl0(a b n:Nat)(h:b<2^n):a*2^n ||| b=a*2^n+b:=by rw [←Nat.shiftLeft_eq,Nat.shiftLeft_add_eq_or_of_lt h]
theorem word_z{p0 p1 p2 p3:Nat}(h0:p0<256)(h1:p1<256)(h2:p2<256)(h3:p3<256):zOr (zOr (zOr (zShl (IntKind.i64.wrap (p0:Int)) 24) (zShl (IntKind.i64.wrap (p1:Int)) 16)) (zShl (IntKind.i64.wrap (p2:Int)) 8)) (IntKind.i64.wrap (p3:Int))=wI (BitVec.ofNat 32 ((p0*256+p1)*65536+p2*256+p3)):=by
 have e1:p0*2^24 ||| p1*2^16=p0*2^24+p1*2^16:=zl0 _ _ 24 (by omega)
 have e2:(p0*2^24+p1*2^16) ||| p2*2^8=p0*2^24+p1*2^16+p2*2^8:=by
  have:=zl0 (p0*2^8+p1) (p2*2^8) 16 (by omega)
  rw [show (p0*2^8+p1)*2^16=p0*2^24+p1*2^16 by omega] at this
  exact this
 have e3:(p0*2^24+p1*2^16+p2*2^8) ||| p3=p0*2^24+p1*2^16+p2*2^8+p3:=by
  have:=zl0 ((p0*2^8+p1)*2^8+p2) p3 8 (by omega)
  rw [show ((p0*2^8+p1)*2^8+p2)*2^8=p0*2^24+p1*2^16+p2*2^8 by omega] at this
  exact this
 rw [zlf (by omega),zlf (by omega),zlf (by omega),zlf (by omega),zg1 p0 24 24 rfl (by omega) (by omega),zg1 p1 16 16 rfl (by omega) (by omega),zg1 p2 8 8 rfl (by omega) (by omega)]
 rw [zm4 (by omega) (by omega),e1,zm4 (by omega) (by omega),e2,zm4 (by omega) (by omega),e3]
 unfold wI
 rw [BitVec.toNat_ofNat,Nat.mod_eq_of_lt (by omega)]
 omega
theorem zwu(b:List UInt8)(hb:b.length=64)(i:Nat)(hi:i<16)(h0:(4*(i:Int)).toNat<b.length)(h1:(4*(i:Int)+1).toNat<b.length)(h2:(4*(i:Int)+2).toNat<b.length)(h3:(4*(i:Int)+3).toNat<b.length):(schR b i).set i (((schR b i)[i]?.getD []).set 0 (AV.g (.int .i64 (zOr (zOr (zOr (zShl (IntKind.i64.wrap (b[(4*(i:Int)).toNat].toNat:Int)) 24) (zShl (IntKind.i64.wrap (b[(4*(i:Int)+1).toNat].toNat:Int)) 16)) (zShl (IntKind.i64.wrap (b[(4*(i:Int)+2).toNat].toNat:Int)) 8)) (IntKind.i64.wrap (b[(4*(i:Int)+3).toNat].toNat:Int))))))=schR b (i+1):=by
 rw [word_z (UInt8.toNat_lt _) (UInt8.toNat_lt _) (UInt8.toNat_lt _) (UInt8.toNat_lt _),schR_z b i (by omega)]
 refine zr8 b i (by omega) _ ?_
 have g:∀(z:Int) (n:Nat) (h:z.toNat<b.length),z.toNat=n→b.getD n 0=b[z.toNat]:=λz n h e=>by subst e;rw [List.getD_eq_getElem?_getD,List.getElem?_eq_getElem h];rfl
 rw [sch,if_pos hi,wrd,g _ (4*i) h0 (by omega),g _ (4*i+1) h1 (by omega),g _ (4*i+2) h2 (by omega),g _ (4*i+3) h3 (by omega)]
theorem zdn(x:Int):IntKind.i64.wrap x % 4294967296=x % 4294967296:=by
 simp [IntKind.wrap,IntKind.bits,IntKind.signed]
 split<;>omega
theorem wrap_l(x y:Int):(IntKind.i64.wrap x+y) % 4294967296=(x+y) % 4294967296:=by have:=zdn x;omega
theorem zShr_3(x:W32):zShr (wI x) 3=wI (x >>> 3):=by
 have h:=zwg x 3 (by omega)
 rw [show (3:Int).toNat=3 from rfl] at h
 exact h
theorem zShr_10(x:W32):zShr (wI x) 10=wI (x >>> 10):=by
 have h:=zwg x 10 (by omega)
 rw [show (10:Int).toNat=10 from rfl] at h
 exact h
theorem zpp(b:List UInt8)(i j:Nat)(h:j<i)(hi:i≤64):(sch b i).getD j 0=wd b j:=by rw [List.getD_eq_getElem?_getD,zwt b i j h hi,Option.getD_some]
theorem zwv(b:List UInt8)(i:Nat)(h1:16≤i)(hi:i<64):(schR b i).set i (((schR b i)[i]?.getD []).set 0 (AV.g (.int .i64 (IntKind.i64.wrap (IntKind.i64.wrap (IntKind.i64.wrap (wI (wd b (i-16))+zXor (wI (BitVec.rotateRight (wd b (i-15)) 7 ^^^ BitVec.rotateRight (wd b (i-15)) 18)) (zShr (wI (wd b (i-15))) 3))+wI (wd b (i-7)))+zXor (wI (BitVec.rotateRight (wd b (i-2)) 17 ^^^ BitVec.rotateRight (wd b (i-2)) 19)) (zShr (wI (wd b (i-2))) 10)) % 4294967296))))=schR b (i+1):=by
 rw [zShr_3,zShr_10,zpm,zpm,schR_z b i hi,zdn,wrap_l]
 have e:∀a s c t:W32,(IntKind.i64.wrap (wI a+wI s)+wI c+wI t) % 4294967296=wI (a+s+c+t):=λa s c t=>by
  refine zq7 _ _ (zq7 _ _ ?_ _ _ (zko c)) _ _ (zko t)
  rw [zdn,add_w]
 rw [e]
 refine zr8 b i hi _ ?_
 rw [sch,if_neg (by omega),zpp b i _ (by omega) (by omega),zpp b i _ (by omega) (by omega),zpp b i _ (by omega) (by omega),zpp b i _ (by omega) (by omega)]
 rfl
theorem zN_w(e:W32):zXor (if IntKind.i64.signed=true then -1 else 9223372036854775807) (wI e) % 4294967296=wI (~~~e):=not_w e
theorem sumC(a b:W32):IntKind.i64.wrap (wI a+wI b) % 4294967296=wI (a+b):=by rw [zdn,add_w]
theorem sumT(a s c k w:W32):IntKind.i64.wrap (IntKind.i64.wrap (IntKind.i64.wrap (IntKind.i64.wrap (wI a+wI s)+wI c)+wI k)+wI w) % 4294967296=wI (a+s+c+k+w):=by
 rw [zdn]
 refine zq7 _ _ ?_ _ _ (zko w)
 rw [zdn]
 refine zq7 _ _ ?_ _ _ (zko k)
 rw [zdn]
 refine zq7 _ _ ?_ _ _ (zko c)
 exact sumC a s
theorem sumA(a s c k w p q:W32):IntKind.i64.wrap (IntKind.i64.wrap (IntKind.i64.wrap (IntKind.i64.wrap (IntKind.i64.wrap (wI a+wI s)+wI c)+wI k)+wI w)+IntKind.i64.wrap (wI p+wI q)) % 4294967296=wI (a+s+c+k+w+(p+q)):=by
 rw [zdn]
 exact zq7 _ _ (sumT a s c k w) _ _ (sumC p q)
theorem sumB(d a s c k w:W32):IntKind.i64.wrap (wI d+IntKind.i64.wrap (IntKind.i64.wrap (IntKind.i64.wrap (IntKind.i64.wrap (wI a+wI s)+wI c)+wI k)+wI w)) % 4294967296=wI (d+(a+s+c+k+w)):=by
 rw [zdn]
 exact zq7 _ _ (zko d) _ _ (sumT a s c k w)
theorem zkv(b:List UInt8)(h:W8)(i:Nat):runW b h (i+1)=rnd (kd i) (wd b i) (runW b h i):=by rw [runW];rfl
theorem zfi(b:List UInt8)(h:W8):runW b h 0=h:=rfl
theorem zpq(k w:W32)(v:W8):(rnd k w v).cells=[[AV.g (.int .i64 (wI (v.h+(BitVec.rotateRight v.e 6 ^^^ BitVec.rotateRight v.e 11 ^^^ BitVec.rotateRight v.e 25)+(v.e &&& v.f ^^^ ~~~v.e &&& v.g)+k+w+((BitVec.rotateRight v.a 2 ^^^ BitVec.rotateRight v.a 13 ^^^ BitVec.rotateRight v.a 22)+(v.a &&& v.b ^^^ v.a &&& v.c ^^^ v.b &&& v.c)))))],[AV.g (.int .i64 (wI v.a))],[AV.g (.int .i64 (wI v.b))],[AV.g (.int .i64 (wI v.c))],[AV.g (.int .i64 (wI (v.d+(v.h+(BitVec.rotateRight v.e 6 ^^^ BitVec.rotateRight v.e 11 ^^^ BitVec.rotateRight v.e 25)+(v.e &&& v.f ^^^ ~~~v.e &&& v.g)+k+w))))],[AV.g (.int .i64 (wI v.e))],[AV.g (.int .i64 (wI v.f))],[AV.g (.int .i64 (wI v.g))]]:=rfl
theorem tk_len(h:W8)(i:Nat)(hi:i≤8):(h.cells.take i).length=i:=by rw [List.length_take];exact Nat.min_eq_left hi
theorem zr9(h:W8)(i:Nat):scR (h.cells.take i)=true:=by
 by_cases hi:i<8
 ·have:i=0∨i=1∨i=2∨i=3∨i=4∨i=5∨i=6∨i=7:=by omega
  rcases this with rfl | rfl | rfl | rfl | rfl | rfl | rfl | rfl<;>rfl
 ·rw [List.take_of_length_le (by show 8≤i;omega)];rfl
def W8.get(v:W8):Nat→W32
 | 0=>v.a | 1=>v.b | 2=>v.c | 3=>v.d | 4=>v.e | 5=>v.f | 6=>v.g | _=>v.h
theorem zkw(v:W8)(i:Nat)(h:i<8):v.cells[i]? = some (cW (v.get i)):=by
 have:i=0∨i=1∨i=2∨i=3∨i=4∨i=5∨i=6∨i=7:=by omega
 rcases this with rfl | rfl | rfl | rfl | rfl | rfl | rfl | rfl<;>rfl
theorem zpr(h v:W8)(i:Nat)(hi:i<8):(add8 h v).cells.take (i+1)=(add8 h v).cells.take i++[cW (h.get i+v.get i)]:=by
 have:i=0∨i=1∨i=2∨i=3∨i=4∨i=5∨i=6∨i=7:=by omega
 rcases this with rfl | rfl | rfl | rfl | rfl | rfl | rfl | rfl<;>rfl
theorem cells_len(v:W8):v.cells.length=8:=rfl
theorem zce(v:W8):scR v.cells=true:=rfl
theorem row8(h:W8):List.take 8 h.cells=h.cells:=rfl
attribute [local simp] cW zcy cells_len row8 zr3 zkp zwe zpm zwf zN_w sumA sumB sumC zce
def zG11:=And.intro @zd7 (And.intro @zfy @zfz)
def zG12:=And.intro @List.range_succ (And.intro @zd7 @zfy)
theorem l3Block(h:W8)(b:List UInt8)(hb:b.length=64):XCall Tryd.prog 54 [.sl 1 h.cells,.s b,.sl 1 (shaK.map cW)] [] (.arr 16 0 8) [] [.own 1 (blk h b).cells]:=by
 refine zc7 Tryd.func54 (by rfl) (by rfl) (by rw [Tryd.ntmps54];exact Nat.le_of_ble_eq_true rfl) rfl (by simp) rfl rfl ?_
 rw [Tryd.ntmps54]
 refine zvy   ?_
 refine AW_k [(0,_),(1,_),(2,_)] ⟨rfl,rfl,rfl,trivial⟩ ?_
 refine AW_x rfl rfl λK hK=>?_
 simp (disch:=omega)
 repeat' first|(refine ⟨by omega,?_⟩)|(intro _)
 refine hK _ ?_;clear hK K
 refine AW_x rfl rfl λK hK=>?_
 simp (disch:=omega)
 repeat' first|(refine ⟨by omega,?_⟩)|(intro _)
 refine hK _ ?_;clear hK K
 refine zbh ?_
 refine AW_x rfl rfl λK hK=>?_
 simp (disch:=omega)
 repeat' first|(refine ⟨by omega,?_⟩)|(intro _)
 refine hK _ ?_;clear hK K
 refine zbi ?_
 refine zbr (λmM sS=>∃(i:Nat),mM=16-i∧(i≤16)∧sS = { env:=lkE [(0,.sl 1 h.cells),(1,.s b),(2,.sl 1 (shaK.map cW)),(7,.arr 501 0 64),(8,(.g (.int .i64 ((i:Nat)))))],ob:=lk [(501,.win 1 (schR b i))] }) ?_ ?_
 ·refine ⟨_,LeS.kx [(501,336)] [(0,.sl 1 h.cells),(1,.s b),(2,.sl 1 (shaK.map cW)),(7,.arr 501 0 64),(8,(.g (.int .i64 (((0):Nat)))))] [(501,.win 1 (schR b (0)))] (by simp [zG11,KpR,renV2,renV,zb6,zc2,zcy];try rfl) (by simp [zG11,KpOX,renO,plO,cvO,renV,pl1,zc2,zcy];first|(simp [schR,sch];done) | exact zwu b hb i hi2 _ _ _ _ | trace_state) (by rfl) (by simp) (by simp) (by rfl) (by simp [zG12,formsX]),_,0,rfl,?_,rfl⟩
  ·simp
 ·rintro mM sS ⟨i,rfl,hi,rfl⟩
  refine zbh ?_
  refine AW_x rfl rfl λK hK=>?_
  simp (disch:=omega)
  repeat' first|(refine ⟨by omega,?_⟩)|(intro _)
  refine hK _ ?_;clear hK K
  refine zbj rfl (λhc1=>?_) (λhc1=>?_)
  ·try simp at hc1
   all_goals
    have hi2:i<16:=by omega
    refine zbk ?_
    refine zbn ?_
    refine zbh ?_
    refine zbi ?_
    refine zmy rfl mix (by kernel_rfl) (by kernel_rfl) λK hK=>?_
    simp (disch:=omega)
    repeat' first|(exfalso;omega)|(refine ⟨λ_=>?_,λ_=>?_⟩)|(refine ⟨by omega,?_⟩)|(simp (disch:=omega))|(intro _)
    all_goals (refine hK _ _ (by kernel_rfl) ?_;clear hK K)
    all_goals
     refine zbn ?_
     refine zd9 rfl rfl λK hK=>?_
     simp (disch:=omega)
     repeat' first|(refine ⟨by omega,?_⟩)|(intro _)
     refine hK _ ?_;clear hK K
     refine ⟨_,LeS.kx [(501,501)] [(0,.sl 1 h.cells),(1,.s b),(2,.sl 1 (shaK.map cW)),(7,.arr 501 0 64),(8,(.g (.int .i64 (((i+1):Nat)))))] [(501,.win 1 (schR b (i+1)))] (by simp [zG11,KpR,renV2,renV,zb6,zc2,zcy];try rfl) (by simp [zG11,KpOX,renO,plO,cvO,renV,pl1,zc2,zcy];first|(simp [schR,sch];done) | exact zwu b hb i hi2 _ _ _ _ | trace_state) (by rfl) (by simp) (by simp) (by rfl) (by simp [zG12,formsX]),_,?_,i+1,rfl,?_,rfl⟩
     ·omega
     ·omega
  ·try simp at hc1
   all_goals
    have hil:i=16:=by omega
    subst hil
    refine zbx ?_
    refine zbn ?_
    refine zbh ?_
    refine AW_x rfl rfl λK hK=>?_
    simp (disch:=omega)
    repeat' first|(exfalso;omega)|(refine ⟨λ_=>?_,λ_=>?_⟩)|(refine ⟨by omega,?_⟩)|(simp (disch:=omega))|(intro _)
    all_goals (refine hK _ ?_;clear hK K)
    all_goals
     refine zbi ?_
     refine zbr (λmM sS=>∃(i:Nat),mM=64-i∧(16≤i∧i≤64)∧sS = { env:=lkE [(0,.sl 1 h.cells),(1,.s b),(2,.sl 1 (shaK.map cW)),(7,.arr 501 0 64),(9,(.g (.int .i64 ((i:Nat)))))],ob:=lk [(501,.win 1 (schR b i))] }) ?_ ?_
     ·refine ⟨_,LeS.kx [(501,501)] [(0,.sl 1 h.cells),(1,.s b),(2,.sl 1 (shaK.map cW)),(7,.arr 501 0 64),(9,(.g (.int .i64 (((16):Nat)))))] [(501,.win 1 (schR b (16)))] (by simp [zG11,KpR,renV2,renV,zb6,zc2,zcy];try rfl) (by simp [zG11,KpOX,renO,plO,cvO,renV,pl1,zc2,zcy];first|(simp;done) | exact zwv b i hi1 hi2 | trace_state) (by rfl) (by simp) (by simp) (by rfl) (by simp [zG12,formsX]),_,16,rfl,?_,rfl⟩
      ·simp
     ·rintro mM sS ⟨i,rfl,⟨hi1,hi⟩,rfl⟩
      refine zbh ?_
      refine AW_x rfl rfl λK hK=>?_
      simp (disch:=omega)
      repeat' first|(refine ⟨by omega,?_⟩)|(intro _)
      refine hK _ ?_;clear hK K
      refine zbj rfl (λhc2=>?_) (λhc2=>?_)
      ·try simp at hc2
       all_goals
        have hi2:i<64:=by omega
        have g15:(schR b i)[((i:Int)-15).toNat]? = some (cW (wd b (i-15))):=by rw [show ((i:Int)-15).toNat=i-15 by omega];exact zg5 b i _ (by omega) hi
        have g2:(schR b i)[((i:Int)-2).toNat]? = some (cW (wd b (i-2))):=by rw [show ((i:Int)-2).toNat=i-2 by omega];exact zg5 b i _ (by omega) hi
        have g16:(schR b i)[((i:Int)-16).toNat]? = some (cW (wd b (i-16))):=by rw [show ((i:Int)-16).toNat=i-16 by omega];exact zg5 b i _ (by omega) hi
        have g7:(schR b i)[((i:Int)-7).toNat]? = some (cW (wd b (i-7))):=by rw [show ((i:Int)-7).toNat=i-7 by omega];exact zg5 b i _ (by omega) hi
        refine zbk ?_
        refine zbn ?_
        refine zbh ?_
        refine zbi ?_
        refine AW_d rfl mix (by kernel_rfl) (by kernel_rfl) λK hK=>?_
        simp (disch:=omega) [g15,g2,g16,g7]
        repeat' first|(exfalso;omega)|(refine zld (λst'=>(zba zbz (zba zbz zbg))) (zf1 _ _ (by decide)) rfl ?_;simp (disch:=omega) [g15,g2,g16,g7])|(refine zle (zf1 _ _ (by decide)) (by rfl) (λst' hst=>?_) ?_;(focus (simp (disch:=omega) [g15,g2,g16,g7] at hst;simp (disch:=omega) [g15,g2,g16,g7,hst,zb4];done));simp (disch:=omega) [g15,g2,g16,g7])|(refine ⟨λ_=>?_,λ_=>?_⟩)|(refine ⟨by omega,?_⟩)|(simp (disch:=omega) [g15,g2,g16,g7])|(intro _)
        all_goals (refine hK _ _ (by kernel_rfl) ?_;clear hK K)
        all_goals
         refine AW_d rfl mix (by kernel_rfl) (by kernel_rfl) λK hK=>?_
         simp (disch:=omega) [g15,g2,g16,g7]
         repeat' first|(exfalso;omega)|(refine zld (λst'=>(zba zbz (zba zbz zbg))) (zf1 _ _ (by decide)) rfl ?_;simp (disch:=omega) [g15,g2,g16,g7])|(refine zle (zf1 _ _ (by decide)) (by rfl) (λst' hst=>?_) ?_;(focus (simp (disch:=omega) [g15,g2,g16,g7] at hst;simp (disch:=omega) [g15,g2,g16,g7,hst,zb4];done));simp (disch:=omega) [g15,g2,g16,g7])|(refine ⟨by omega,?_⟩)|(simp (disch:=omega) [g15,g2,g16,g7])|(intro _)
         refine hK _ _ (by kernel_rfl) ?_;clear hK K
         refine zmy rfl mix (by kernel_rfl) (by kernel_rfl) λK hK=>?_
         simp (disch:=omega) [g15,g2,g16,g7]
         repeat' first|(exfalso;omega)|(refine zld (λst'=>(zba zbz zbg)) (zg4 _) rfl ?_;simp (disch:=omega) [g15,g2,g16,g7])|(refine zle (zg4 _) (by rfl) (λst' hst=>?_) ?_;(focus (simp (disch:=omega) [g15,g2,g16,g7] at hst;simp (disch:=omega) [g15,g2,g16,g7,hst,zb4];done));simp (disch:=omega) [g15,g2,g16,g7])|(refine ⟨by omega,?_⟩)|(simp (disch:=omega) [g15,g2,g16,g7])|(intro _)
         refine hK _ _ (by kernel_rfl) ?_;clear hK K
         refine zbn ?_
         refine zd9 rfl rfl λK hK=>?_
         simp (disch:=omega) [g15,g2,g16,g7]
         repeat' first|(refine ⟨by omega,?_⟩)|(intro _)
         refine hK _ ?_;clear hK K
         refine ⟨_,LeS.kx [(501,501)] [(0,.sl 1 h.cells),(1,.s b),(2,.sl 1 (shaK.map cW)),(7,.arr 501 0 64),(9,(.g (.int .i64 (((i+1):Nat)))))] [(501,.win 1 (schR b (i+1)))] (by simp [zG11,KpR,renV2,renV,zb6,zc2,zcy];try rfl) (by simp [zG11,KpOX,renO,plO,cvO,renV,pl1,zc2,zcy];first|(simp;done) | exact zwv b i hi1 hi2 | trace_state) (by rfl) (by simp) (by simp) (by rfl) (by simp [zG12,formsX]),_,?_,i+1,rfl,?_,rfl⟩
         ·omega
         ·omega
      ·try simp at hc2
       all_goals
        have hil:i=64:=by omega
        subst hil
        refine zbx ?_
        refine zbn ?_
        refine AW_x rfl rfl λK hK=>?_
        simp (disch:=omega)
        repeat' first|(exfalso;omega)|(refine ⟨λ_=>?_,λ_=>?_⟩)|(refine ⟨by omega,?_⟩)|(simp (disch:=omega))|(intro _)
        all_goals (refine hK _ ?_;clear hK K)
        all_goals
         refine zbh ?_
         refine AW_x rfl rfl λK hK=>?_
         simp (disch:=omega)
         repeat' first|(refine ⟨by omega,?_⟩)|(intro _)
         refine hK _ ?_;clear hK K
         refine zbi ?_
         refine zbr (λmM sS=>∃(i:Nat),mM=64-i∧(i≤64)∧sS = { env:=lkE [(0,.sl 1 h.cells),(2,.sl 1 (shaK.map cW)),(7,.arr 501 0 64),(12,.arr 502 0 8),(13,(.g (.int .i64 ((i:Nat)))))],ob:=lk [(501,.win 1 (schR b 64)),(502,.win 1 (runW b h i).cells)] }) ?_ ?_
         ·refine ⟨_,LeS.kx [(501,501),(502,1968)] [(0,.sl 1 h.cells),(2,.sl 1 (shaK.map cW)),(7,.arr 501 0 64),(12,.arr 502 0 8),(13,(.g (.int .i64 (((0):Nat)))))] [(501,.win 1 (schR b 64)),(502,.win 1 (runW b h (0)).cells)] (by simp [zG11,KpR,renV2,renV,zb6,zc2,zcy,zce,cells_len];first|(simp;done)|(with_reducible rfl) | exact (show _=W8.cells _ from rfl) | trace_state) (by simp [zG11,KpOX,renO,plO,cvO,renV,pl1,zc2,zcy,zce,cells_len];first|(rw [zkv,hv,zpq];done)|(rw [zfi];done) | trace_state) (by rfl) (by simp) (by simp) (by rfl) (by simp [zG12,formsX]),_,0,rfl,?_,rfl⟩
          ·simp
         ·rintro mM sS ⟨i,rfl,hi,rfl⟩
          refine zbh ?_
          refine AW_x rfl rfl λK hK=>?_
          simp (disch:=omega)
          repeat' first|(refine ⟨by omega,?_⟩)|(intro _)
          refine hK _ ?_;clear hK K
          refine zbj rfl (λhc3=>?_) (λhc3=>?_)
          ·try simp at hc3
           all_goals
            have hi2:i<64:=by omega
            have gw:(schR b 64)[i]? = some (cW (wd b i)):=zg5 b 64 i hi2 (by omega)
            have gk:=kd_at i hi2
            obtain ⟨v,hv⟩:∃v,runW b h i=v:=⟨_,rfl⟩
            rw [hv]
            refine zbk ?_
            refine zbn ?_
            refine zbh ?_
            refine zbi ?_
            refine AW_x rfl rfl λK hK=>?_
            simp (disch:=omega) [gw,gk,W8.cells]
            repeat' first|(exfalso;omega)|(refine ⟨λ_=>?_,λ_=>?_⟩)|(refine ⟨by omega,?_⟩)|(simp (disch:=omega) [gw,gk,W8.cells])|(intro _)
            all_goals (refine hK _ ?_;clear hK K)
            all_goals
             refine AW_x rfl rfl λK hK=>?_
             simp (disch:=omega) [gw,gk,W8.cells]
             repeat' first|(refine ⟨by omega,?_⟩)|(intro _)
             refine hK _ ?_;clear hK K
             refine AW_d rfl mix (by kernel_rfl) (by kernel_rfl) λK hK=>?_
             simp (disch:=omega) [gw,gk,W8.cells]
             repeat' first|(exfalso;omega)|(refine zld (λst'=>(zba zbz (zba zbz zbg))) (zf1 _ _ (by decide)) rfl ?_;simp (disch:=omega) [gw,gk,W8.cells])|(refine zle (zf1 _ _ (by decide)) (by rfl) (λst' hst=>?_) ?_;(focus (simp (disch:=omega) [gw,gk,W8.cells] at hst;simp (disch:=omega) [gw,gk,W8.cells,hst,zb4];done));simp (disch:=omega) [gw,gk,W8.cells])|(refine zld (λst'=>(zba zbz zbg)) (zg4 _) rfl ?_;simp (disch:=omega) [gw,gk,W8.cells])|(refine zle (zg4 _) (by rfl) (λst' hst=>?_) ?_;(focus (simp (disch:=omega) [gw,gk,W8.cells] at hst;simp (disch:=omega) [gw,gk,W8.cells,hst,zb4];done));simp (disch:=omega) [gw,gk,W8.cells])|(refine ⟨by omega,?_⟩)|(simp (disch:=omega) [gw,gk,W8.cells])|(intro _)
             refine hK _ _ (by kernel_rfl) ?_;clear hK K
             refine AW_d rfl mix (by kernel_rfl) (by kernel_rfl) λK hK=>?_
             simp (disch:=omega) [gw,gk,W8.cells]
             repeat' first|(exfalso;omega)|(refine zld (λst'=>(zba zbz (zba zbz zbg))) (zf1 _ _ (by decide)) rfl ?_;simp (disch:=omega) [gw,gk,W8.cells])|(refine zle (zf1 _ _ (by decide)) (by rfl) (λst' hst=>?_) ?_;(focus (simp (disch:=omega) [gw,gk,W8.cells] at hst;simp (disch:=omega) [gw,gk,W8.cells,hst,zb4];done));simp (disch:=omega) [gw,gk,W8.cells])|(refine ⟨by omega,?_⟩)|(simp (disch:=omega) [gw,gk,W8.cells])|(intro _)
             refine hK _ _ (by kernel_rfl) ?_;clear hK K
             refine zmy rfl mix (by kernel_rfl) (by kernel_rfl) λK hK=>?_
             simp (disch:=omega) [gw,gk,W8.cells]
             repeat' first|(exfalso;omega)|(refine zld (λst'=>(zba zbz zbg)) (zg4 _) rfl ?_;simp (disch:=omega) [gw,gk,W8.cells])|(refine zle (zg4 _) (by rfl) (λst' hst=>?_) ?_;(focus (simp (disch:=omega) [gw,gk,W8.cells] at hst;simp (disch:=omega) [gw,gk,W8.cells,hst,zb4];done));simp (disch:=omega) [gw,gk,W8.cells])|(refine ⟨by omega,?_⟩)|(simp (disch:=omega) [gw,gk,W8.cells])|(intro _)
             refine hK _ _ (by kernel_rfl) ?_;clear hK K
             refine zbn ?_
             refine zd9 rfl rfl λK hK=>?_
             simp (disch:=omega) [gw,gk,W8.cells]
             repeat' first|(refine ⟨by omega,?_⟩)|(intro _)
             refine hK _ ?_;clear hK K
             refine ⟨_,LeS.kx [(501,501),(502,3616)] [(0,.sl 1 h.cells),(2,.sl 1 (shaK.map cW)),(7,.arr 501 0 64),(12,.arr 502 0 8),(13,(.g (.int .i64 (((i+1):Nat)))))] [(501,.win 1 (schR b 64)),(502,.win 1 (runW b h (i+1)).cells)] (by simp [zG11,KpR,renV2,renV,zb6,zc2,zcy,zce,cells_len];first|(simp;done)|(with_reducible rfl) | exact (show _=W8.cells _ from rfl) | trace_state) (by simp [zG11,KpOX,renO,plO,cvO,renV,pl1,zc2,zcy,zce,cells_len];first|(rw [zkv,hv,zpq];done)|(rw [zfi];done) | trace_state) (by rfl) (by simp) (by simp) (by rfl) (by simp [zG12,formsX]),_,?_,i+1,rfl,?_,rfl⟩
             ·omega
             ·omega
          ·try simp at hc3
           all_goals
            have hil:i=64:=by omega
            subst hil
            obtain ⟨v,hv⟩:∃v,runW b h 64=v:=⟨_,rfl⟩
            rw [hv]
            refine zbx ?_
            refine zbn ?_
            refine AW_x rfl rfl λK hK=>?_
            simp (disch:=omega)
            repeat' first|(exfalso;omega)|(refine ⟨λ_=>?_,λ_=>?_⟩)|(refine ⟨by omega,?_⟩)|(simp (disch:=omega))|(intro _)
            all_goals (refine hK _ ?_;clear hK K)
            all_goals
             refine zbh ?_
             refine AW_x rfl rfl λK hK=>?_
             simp (disch:=omega)
             repeat' first|(refine ⟨by omega,?_⟩)|(intro _)
             refine hK _ ?_;clear hK K
             refine zbi ?_
             refine zbr (λmM sS=>∃(i:Nat),mM=8-i∧(i≤8)∧sS = { env:=lkE [(0,.sl 1 h.cells),(12,.arr 502 0 8),(18,.arr 503 0 i),(19,(.g (.int .i64 ((i:Nat)))))],ob:=lk [(502,.win 1 v.cells),(503,.win 1 ((add8 h v).cells.take i))] }) ?_ ?_
             ·refine ⟨_,LeS.kx [(502,502),(503,3632)] [(0,.sl 1 h.cells),(12,.arr 502 0 8),(18,.arr 503 0 (0)),(19,(.g (.int .i64 (((0):Nat)))))] [(502,.win 1 v.cells),(503,.win 1 ((add8 h v).cells.take (0)))] (by simp [zG11,KpR,renV2,renV,zb6,zce,cells_len,zr9];first|(simp;done) | omega | trace_state) (by simp [zG11,KpOX,renO,plO,cvO,renV,pl1,zce,cells_len,zr9];first | rfl|(rw [zpr _ _ _ hi2,List.take_of_length_le (by simp [htl])];rfl) | trace_state) (by rfl) (by simp) (by simp) (by rfl) (by simp [zG12,formsX]),_,0,rfl,?_,rfl⟩
              ·simp
             ·rintro mM sS ⟨i,rfl,hi,rfl⟩
              have htl:=tk_len (add8 h v) i hi
              refine zbh ?_
              refine AW_x rfl rfl λK hK=>?_
              simp (disch:=omega) [htl]
              repeat' first|(refine ⟨by omega,?_⟩)|(intro _)
              refine hK _ ?_;clear hK K
              refine zbj rfl (λhc4=>?_) (λhc4=>?_)
              ·try simp at hc4
               all_goals
                have hi2:i<8:=by omega
                have gh:=zkw h i hi2
                have gv:=zkw v i hi2
                refine zbk ?_
                refine zbn ?_
                refine zbh ?_
                refine zbi ?_
                refine zmy rfl mix (by kernel_rfl) (by kernel_rfl) λK hK=>?_
                simp (disch:=omega) [htl,gh,gv]
                repeat' first|(exfalso;omega)|(refine zld (λst'=>(zba zbz zbg)) (zg4 _) rfl ?_;simp (disch:=omega) [htl,gh,gv])|(refine zle (zg4 _) (by rfl) (λst' hst=>?_) ?_;(focus (simp (disch:=omega) [htl,gh,gv] at hst;simp (disch:=omega) [htl,gh,gv,hst,zb4];done));simp (disch:=omega) [htl,gh,gv])|(refine ⟨λ_=>?_,λ_=>?_⟩)|(refine ⟨by omega,?_⟩)|(simp (disch:=omega) [htl,gh,gv])|(intro _)
                all_goals (refine hK _ _ (by kernel_rfl) ?_;clear hK K)
                all_goals
                 refine zbn ?_
                 refine zd9 rfl rfl λK hK=>?_
                 simp (disch:=omega) [htl,gh,gv]
                 repeat' first|(refine ⟨by omega,?_⟩)|(intro _)
                 refine hK _ ?_;clear hK K
                 refine ⟨_,LeS.kx [(502,502),(503,3904)] [(0,.sl 1 h.cells),(12,.arr 502 0 8),(18,.arr 503 0 (i+1)),(19,(.g (.int .i64 (((i+1):Nat)))))] [(502,.win 1 v.cells),(503,.win 1 ((add8 h v).cells.take (i+1)))] (by simp [zG11,KpR,renV2,renV,zb6,zce,cells_len,zr9];first|(simp;done) | omega | trace_state) (by simp [zG11,KpOX,renO,plO,cvO,renV,pl1,zce,cells_len,zr9];first | rfl|(rw [zpr _ _ _ hi2,List.take_of_length_le (by simp [htl])];rfl) | trace_state) (by rfl) (by simp) (by simp) (by rfl) (by simp [zG12,formsX]),_,?_,i+1,rfl,?_,rfl⟩
                 ·omega
                 ·omega
              ·try simp at hc4
               all_goals
                have hil:i=8:=by omega
                subst hil
                refine zbx ?_
                refine zbn ?_
                refine AW_x rfl rfl λK hK=>?_
                simp (disch:=omega) [htl]
                repeat' first|(exfalso;omega)|(refine ⟨λ_=>?_,λ_=>?_⟩)|(refine ⟨by omega,?_⟩)|(simp (disch:=omega) [htl])|(intro _)
                all_goals (refine hK _ ?_;clear hK K)
                all_goals
                 refine zbm (zsx [503] [] (by simp [zG11,List.range_succ]) (by simp) ?_)
                 simp (disch:=omega) [htl]
                 all_goals first|(unfold blk;rw [hv];done) | trace_state
end Go.Proofs.YtchpfloemfoomaaDoor.Vs
end
section
namespace Go.Proofs.YtchpfloemfoomaaDoor.Vs
set_option linter.all false
set_option maxRecDepth 100000
set_option maxHeartbeats 4000000
attribute [local simp ↓] zmz zr2 zm0 zm1 zm2 zm3
def bC(n:Int):List AV:=[.g (.int .u8 n)]
theorem zg6:∀ns:List Int,numsOf (ns.map bC)=some ns
 | []=>rfl
 | n :: ns=>by
  have:=zg6 ns
  simp only [List.map_cons,bC,numsOf] at this ⊢
  rw [this];rfl
theorem mask8(x:Int):zAnd x 255=x % 256:=by
 show IntKind.i64.wrap (((BitVec.ofInt 64 x &&& BitVec.ofInt 64 255).toNat:Nat):Int)=_
 have e:(BitVec.ofInt 64 x &&& BitVec.ofInt 64 255).toNat=(x % 18446744073709551616).toNat % 256:=by
  rw [BitVec.toNat_and]
  have h1:(BitVec.ofInt 64 255).toNat=2^8-1:=by decide
  have h2:(BitVec.ofInt 64 x).toNat=(x % 18446744073709551616).toNat:=by simp [BitVec.toNat_ofInt]
  rw [h1,h2,Nat.and_two_pow_sub_one_eq_mod]
 rw [e,zlf (by omega)]
 omega
theorem wrapB(x:Int):IntKind.u8.wrap x=x % 256:=by simp [IntKind.wrap,IntKind.bits,IntKind.signed]
theorem zkx(m:Nat):UInt8.ofNat (m % 256)=UInt8.ofNat m:=by
 apply UInt8.toNat_inj.1
 simp [UInt8.toNat_ofNat']
/-- The bytes behind the text, in numbers. -/
def lenI(n i:Nat):List Int:=(List.range i).map λj=>((n*8 / 2^(56-8*j) % 256:Nat):Int)
theorem zww(n i:Nat):lenI n (i+1)=lenI n i++[((n*8 / 2^(56-8*i) % 256:Nat):Int)]:=by unfold lenI;rw [List.range_succ,List.map_append];rfl
theorem lenI_len(n i:Nat):(lenI n i).length=i:=by simp [lenI]
def padI(n k i:Nat):List Int:=(128:Int) :: (List.replicate k 0++lenI n i)
theorem zjl(n k i:Nat):(padI n k i).length=1+k+i:=by simp [padI,lenI_len];omega
theorem padI_S(s:List UInt8):s++strN (padI s.length (zerosN s.length) 8)=padS s:=by
 unfold padS padI strN lenI lenB
 congr 1
 simp only [List.map_cons,List.map_append,List.map_map,List.map_replicate]
 have e:((λn:Int=>UInt8.ofNat n.toNat) ∘ λj=>((s.length*8 / 2^(56-8*j) % 256:Nat):Int))=λi=>UInt8.ofNat (s.length*8 / 2^(56-8*i)):=by
  funext j
  simp only [Function.comp,Int.toNat_natCast]
  exact zkx _
 rw [e]
 simp
def by4I(x:W32):List Int:=[((x.toNat / 16777216 % 256:Nat):Int),((x.toNat / 65536 % 256:Nat):Int),((x.toNat / 256 % 256:Nat):Int),((x.toNat % 256:Nat):Int)]
theorem by4I_S(x:W32):strN (by4I x)=by4 x:=by
 unfold strN by4I by4
 simp only [List.map_cons,List.map_nil,Int.toNat_natCast,zkx]
def outI(v:W8)(i:Nat):List Int:=(List.range i).flatMap λj=>by4I (v.get j)
theorem zky(v:W8)(i:Nat):outI v (i+1)=outI v i++by4I (v.get i):=by unfold outI;rw [List.range_succ,List.flatMap_append];simp
theorem zjm(v:W8):∀i,(outI v i).length=4*i
 | 0=>rfl
 | i+1=>by rw [zky,List.length_append,zjm v i];rfl
theorem outI_S(v:W8):strN (outI v 8)=by32 v:=by
 have h:outI v 8=by4I v.a++by4I v.b++by4I v.c++by4I v.d++by4I v.e++by4I v.f++by4I v.g++by4I v.h:=rfl
 have hs:∀a b:List Int,strN (a++b)=strN a++strN b:=λa b=>by simp [strN]
 rw [h]
 simp only [hs,by4I_S]
 rfl
theorem zl1:shaH.cells=[[AV.g (.int .i64 1779033703)],[AV.g (.int .i64 3144134277)],[AV.g (.int .i64 1013904242)],[AV.g (.int .i64 2773480762)],[AV.g (.int .i64 1359893119)],[AV.g (.int .i64 2600822924)],[AV.g (.int .i64 528734635)],[AV.g (.int .i64 1541459225)]]:=rfl
theorem zwx(p:Nat)(z:Int)(h:0≤z∧z≤64):zShr (p:Int) z=((p / 2^z.toNat:Nat):Int):=by
 unfold zShr
 rw [show min z.toNat IntKind.i64.bits=z.toNat from Nat.min_eq_left (by show z.toNat≤64;omega),Int.fdiv_eq_ediv_of_nonneg _ (Int.pow_nonneg (by omega))]
 norm_cast
theorem pad_end{n k:Nat}(hk:k≤zerosN n)(h:(n+(1+k)) % 64=56):k=zerosN n:=by unfold zerosN at *;omega
theorem pad_go{n k:Nat}(hk:k≤zerosN n)(h:¬(n+(1+k)) % 64=56):k<zerosN n:=by unfold zerosN at *;omega
theorem zsa(n:Nat):zerosN n<64:=by unfold zerosN;omega
theorem tkb(l:List Int)(n:Nat)(h:l.length=n):List.take n (l.map bC)=l.map bC:=List.take_of_length_le (by simp;omega)
theorem zps(n k i:Nat):padI n k (i+1)=padI n k i++[((n*8 / 2^(56-8*i) % 256:Nat):Int)]:=by unfold padI;rw [zww];simp
theorem len_by(n i:Nat)(h:i<8):IntKind.u8.wrap (zAnd (zShr ((n:Int)*8) (56-8*(i:Int))) 255)=((n*8 / 2^(56-8*i) % 256:Nat):Int):=by
 have e:(n:Int)*8=((n*8:Nat):Int):=by omega
 rw [e,zwx _ _ (by omega),mask8,wrapB,show (56-8*(i:Int)).toNat=56-8*i by omega]
 omega
theorem out_by(x:W32) : [[AV.g (Value.int IntKind.u8 (IntKind.u8.wrap (zShr (wI x) 24)))],[AV.g (Value.int IntKind.u8 (IntKind.u8.wrap (zAnd (zShr (wI x) 16) 255)))],[AV.g (Value.int IntKind.u8 (IntKind.u8.wrap (zAnd (zShr (wI x) 8) 255)))],[AV.g (Value.int IntKind.u8 (IntKind.u8.wrap (zAnd (wI x) 255)))]]=(by4I x).map bC:=by
 have h:∀z:Int,0≤z∧z≤64→zShr (wI x) z=((x.toNat / 2^z.toNat:Nat):Int):=λz hz=>zwx x.toNat z hz
 rw [h 24 (by omega),h 16 (by omega),h 8 (by omega)]
 simp only [mask8,wrapB,by4I,List.map_cons,List.map_nil,bC]
 have hx:wI x=(x.toNat:Int):=rfl
 rw [hx]
 have e1:(((x.toNat / 2^(24:Int).toNat:Nat):Int)) % 256=((x.toNat / 16777216 % 256:Nat):Int):=by rw [show (24:Int).toNat=24 from rfl];omega
 have e2:(((x.toNat / 2^(16:Int).toNat:Nat):Int)) % 256 % 256=((x.toNat / 65536 % 256:Nat):Int):=by rw [show (16:Int).toNat=16 from rfl];omega
 have e3:(((x.toNat / 2^(8:Int).toNat:Nat):Int)) % 256 % 256=((x.toNat / 256 % 256:Nat):Int):=by rw [show (8:Int).toNat=8 from rfl];omega
 have e4:((x.toNat:Int)) % 256 % 256=((x.toNat % 256:Nat):Int):=by omega
 rw [e1,e2,e3,e4]
theorem zkz(ns:List Int):(strN ns).length=ns.length:=by simp [strN]
theorem tmod_n(n k:Nat):((n:Int)+(1+(k:Int))).tmod 64=(((n+(1+k)) % 64:Nat):Int):=by
 rw [Int.tmod_eq_emod_of_nonneg (by omega)];omega
theorem zk0(t:List UInt8)(j:Nat):blks t (j+1)=blk (blks t j) ((t.drop (64*j)).take 64):=by rw [blks]
attribute [local simp] row8 cells_len zkz zjl aNews aAppend aBuildSlice bC tkb zg6 zjm
theorem specSha(s:List UInt8)(hs:s.length≤1073741824):XCall Tryd.prog 35 [.s s] [] (.s (shaS s)) [] []:=by
 refine zc7 Tryd.func35 (by rfl) (by rfl) (by rw [Tryd.ntmps35];exact Nat.le_of_ble_eq_true rfl) rfl (by simp) rfl rfl ?_
 rw [Tryd.ntmps35]
 refine zvy   ?_
 refine AW_k [(0,_)] ⟨rfl,trivial⟩ ?_
 refine AW_x rfl rfl λK hK=>?_
 simp (disch:=omega)
 repeat' first|(refine ⟨by omega,?_⟩)|(intro _)
 refine hK _ ?_;clear hK K
 refine AW_x rfl rfl λK hK=>?_
 simp (disch:=omega)
 repeat' first|(refine ⟨by omega,?_⟩)|(simp (disch:=omega))|(intro _)
 refine hK _ ?_;clear hK K
 refine AW_x rfl rfl λK hK=>?_
 simp (disch:=omega)
 repeat' first|(refine ⟨by omega,?_⟩)|(simp (disch:=omega))|(intro _)
 refine hK _ ?_;clear hK K
 refine zbh ?_
 refine zbi ?_
 refine zbr (λmM sS=>∃(k:Nat),mM=zerosN s.length-k∧(k≤zerosN s.length)∧sS = { env:=lkE [(0,.s s),(3,(.g (.int .i64 ((s.length:Nat))))),(4,.arr 501 0 (1+k))],ob:=lk [(501,.flat 1 ((padI s.length k 0).map bC))] }) ?_ ?_
 ·refine ⟨_,LeS.kx [(501,240)] [(0,.s s),(3,(.g (.int .i64 ((s.length:Nat))))),(4,.arr 501 0 (1+(0)))] [(501,.flat 1 ((padI s.length (0) 0).map bC))] (by simp [zG11,KpR,renV2,renV,zb6];first|(simp;done) | omega | trace_state) (by simp [zG11,KpOX,renO,plO,cvO,renV,pl1];first|(simp [padI,lenI,bC];done)|(simp [padI,lenI,bC,List.replicate_succ'];done) | trace_state) (by rfl) (by simp) (by simp) (by rfl) (by simp [zG12,formsX]),_,0,rfl,?_,rfl⟩
  ·simp
 ·rintro mM sS ⟨k,rfl,hk,rfl⟩
  have hz:=zsa s.length
  have hpl:=zjl s.length k 0
  have htm:=tmod_n s.length k
  refine zbh ?_
  refine AW_x rfl rfl λK hK=>?_
  simp (disch:=omega)
  repeat' first|(refine ⟨by omega,?_⟩)|(simp (disch:=omega))|(intro _)
  refine hK _ ?_;clear hK K
  refine zbj rfl (λhc1=>?_) (λhc1=>?_)
  ·try simp at hc1
   all_goals
    have hlt:=pad_go hk (by have:=hc1;omega)
    refine zbk ?_
    refine zbn ?_
    refine zbi ?_
    refine zd9 rfl rfl λK hK=>?_
    simp (disch:=omega)
    repeat' first|(exfalso;omega)|(refine ⟨λ_=>?_,λ_=>?_⟩)|(refine ⟨by omega,?_⟩)|(simp (disch:=omega))|(intro _)
    all_goals (refine hK _ ?_;clear hK K)
    all_goals
     refine ⟨_,LeS.kx [(501,384)] [(0,.s s),(3,(.g (.int .i64 ((s.length:Nat))))),(4,.arr 501 0 (1+(k+1)))] [(501,.flat 1 ((padI s.length (k+1) 0).map bC))] (by simp [zG11,KpR,renV2,renV,zb6];first|(simp;done) | omega | trace_state) (by simp [zG11,KpOX,renO,plO,cvO,renV,pl1];first|(simp [padI,lenI,bC];done)|(simp [padI,lenI,bC,List.replicate_succ'];done) | trace_state) (by rfl) (by simp) (by simp) (by rfl) (by simp [zG12,formsX]),_,?_,k+1,rfl,?_,rfl⟩
     ·omega
     ·omega
  ·try simp at hc1
   all_goals
    have hke:=pad_end hk (by have:=hc1;omega)
    subst hke
    refine zbx ?_
    refine zbn ?_
    refine zbh ?_
    refine AW_x rfl rfl λK hK=>?_
    simp (disch:=omega)
    repeat' first|(exfalso;omega)|(refine ⟨λ_=>?_,λ_=>?_⟩)|(refine ⟨by omega,?_⟩)|(simp (disch:=omega))|(intro _)
    all_goals (refine hK _ ?_;clear hK K)
    all_goals
     refine zbi ?_
     refine zbr (λmM sS=>∃(i:Nat),mM=8-i∧(i≤8)∧sS = { env:=lkE [(0,.s s),(3,(.g (.int .i64 ((s.length:Nat))))),(4,.arr 502 0 (1+zerosN s.length+i)),(5,(.g (.int .i64 ((i:Nat)))))],ob:=lk [(502,.flat 1 ((padI s.length (zerosN s.length) i).map bC))] }) ?_ ?_
     ·refine ⟨_,LeS.kx [(502,501)] [(0,.s s),(3,(.g (.int .i64 ((s.length:Nat))))),(4,.arr 502 0 (1+zerosN s.length+(0))),(5,(.g (.int .i64 (((0):Nat)))))] [(502,.flat 1 ((padI s.length (zerosN s.length) (0)).map bC))] (by simp [zG11,KpR,renV2,renV,zb6];first|(simp;done) | omega | trace_state) (by simp [zG11,KpOX,renO,plO,cvO,renV,pl1];first | rfl|(rw [zps];simp [bC];done) | trace_state) (by rfl) (by simp) (by simp) (by rfl) (by simp [zG12,formsX]),_,0,rfl,?_,rfl⟩
      ·simp
     ·rintro mM sS ⟨i,rfl,hi,rfl⟩
      have hz:=zsa s.length
      have hpl:=zjl s.length (zerosN s.length) i
      refine zbh ?_
      refine AW_x rfl rfl λK hK=>?_
      simp (disch:=omega)
      repeat' first|(refine ⟨by omega,?_⟩)|(intro _)
      refine hK _ ?_;clear hK K
      refine zbj rfl (λhc2=>?_) (λhc2=>?_)
      ·try simp at hc2
       all_goals
        have hi2:i<8:=by omega
        have hwu:=wrapU (n:=56-8*(i:Int)) (by omega)
        have hby:=len_by s.length i hi2
        refine zbk ?_
        refine zbn ?_
        refine zbh ?_
        refine zbi ?_
        refine zd9 rfl rfl λK hK=>?_
        simp (disch:=omega) [hwu,hby]
        repeat' first|(exfalso;omega)|(refine ⟨λ_=>?_,λ_=>?_⟩)|(refine ⟨by omega,?_⟩)|(simp (disch:=omega) [hwu,hby])|(intro _)
        all_goals (refine hK _ ?_;clear hK K)
        all_goals
         refine zbn ?_
         refine zd9 rfl rfl λK hK=>?_
         simp (disch:=omega) [hwu,hby]
         repeat' first|(refine ⟨by omega,?_⟩)|(intro _)
         refine hK _ ?_;clear hK K
         refine ⟨_,LeS.kx [(502,640)] [(0,.s s),(3,(.g (.int .i64 ((s.length:Nat))))),(4,.arr 502 0 (1+zerosN s.length+(i+1))),(5,(.g (.int .i64 (((i+1):Nat)))))] [(502,.flat 1 ((padI s.length (zerosN s.length) (i+1)).map bC))] (by simp [zG11,KpR,renV2,renV,zb6];first|(simp;done) | omega | trace_state) (by simp [zG11,KpOX,renO,plO,cvO,renV,pl1];first | rfl|(rw [zps];simp [bC];done) | trace_state) (by rfl) (by simp) (by simp) (by rfl) (by simp [zG12,formsX]),_,?_,i+1,rfl,?_,rfl⟩
         ·omega
         ·omega
      ·try simp at hc2
       all_goals
        have hil:i=8:=by omega
        subst hil
        refine zbx ?_
        refine zbn ?_
        refine AW_x rfl rfl λK hK=>?_
        simp (disch:=omega)
        repeat' first|(exfalso;omega)|(refine ⟨λ_=>?_,λ_=>?_⟩)|(refine ⟨by omega,?_⟩)|(simp (disch:=omega))|(intro _)
        all_goals (refine hK _ ?_;clear hK K)
        all_goals
         refine AW_x rfl rfl λK hK=>?_
         simp (disch:=omega)
         repeat' first|(refine ⟨by omega,?_⟩)|(simp (disch:=omega))|(intro _)
         refine hK _ ?_;clear hK K
         refine AW_x rfl rfl λK hK=>?_
         simp (disch:=omega)
         repeat' first|(exfalso;omega)|(refine zmo zbg (l3Keys) rfl ?_;simp (disch:=omega))|(refine zmp (l3Keys) (by rfl) ?_ ?_;(focus (simp (disch:=omega) [zb4];done));simp (disch:=omega))|(refine ⟨by omega,?_⟩)|(simp (disch:=omega))|(intro _)
         refine hK _ ?_;clear hK K
         refine zbh ?_
         refine AW_x rfl rfl λK hK=>?_
         simp (disch:=omega)
         repeat' first|(refine ⟨by omega,?_⟩)|(intro _)
         refine hK _ ?_;clear hK K
         refine zbi ?_
         refine zbr (λmM sS=>∃(j:Nat),mM=(padS s).length-64*j∧(64*j≤(padS s).length)∧sS = { env:=lkE [(6,.s (padS s)),(7,.arr 503 0 8),(8,.sl 1 (shaK.map cW)),(9,(.g (.int .i64 ((64*j:Nat)))))],ob:=lk [(503,.own 1 (blks (padS s) j).cells)] }) ?_ ?_
         ·refine ⟨_,LeS.kx [(503,720)] [(6,.s (padS s)),(7,.arr 503 0 8),(8,.sl 1 (shaK.map cW)),(9,(.g (.int .i64 ((64*(0):Nat)))))] [(503,.own 1 (blks (padS s) (0)).cells)] (by simp [zG11,KpR,renV2,renV,zb6,zce];first | exact padI_S s|(simp;done) | omega|(simp;omega) | trace_state) (by simp [zG11,KpOX,renO,plO,cvO,renV,pl1,zce];first|(rw [zk0];done) | exact zl1 | trace_state) (by rfl) (by simp) (by simp) (by rfl) (by simp [zG12,formsX]),_,0,rfl,?_,rfl⟩
          ·simp
         ·rintro mM sS ⟨j,rfl,hj,rfl⟩
          have hpl:=zr4 s
          refine zbh ?_
          refine AW_x rfl rfl λK hK=>?_
          simp (disch:=omega)
          repeat' first|(refine ⟨by omega,?_⟩)|(simp (disch:=omega))|(intro _)
          refine hK _ ?_;clear hK K
          refine zbj rfl (λhc3=>?_) (λhc3=>?_)
          ·try simp at hc3
           all_goals
            have hj2:64*j+64≤(padS s).length:=by omega
            have hsl:List.take ((64*(j:Int)+64).toNat-(64*(j:Int)).toNat) (List.drop (64*(j:Int)).toNat (padS s))=((padS s).drop (64*j)).take 64:=by rw [show (64*(j:Int)).toNat=64*j by omega,show (64*(j:Int)+64).toNat-64*j=64 by omega]
            have hbl:(((padS s).drop (64*j)).take 64).length=64:=by simp;omega
            refine zbk ?_
            refine zbn ?_
            refine zbh ?_
            refine zbi ?_
            refine zd9 rfl rfl λK hK=>?_
            simp (disch:=omega) [hsl]
            repeat' first|(exfalso;omega)|(refine XKd_x [] true [] (l3Block (blks (padS s) j) (((padS s).drop (64*j)).take 64) hbl) ?_ ?_ ?_;(focus (simp [List.range_succ,nmC];done));(focus (simp (disch:=omega) [hsl,zb4];done));simp (disch:=omega) [hsl])|(refine ⟨λ_=>?_,λ_=>?_⟩)|(refine ⟨by omega,?_⟩)|(simp (disch:=omega) [hsl])|(intro _)
            all_goals (refine hK _ ?_;clear hK K)
            all_goals
             refine zbn ?_
             refine zd9 rfl rfl λK hK=>?_
             simp (disch:=omega) [hsl]
             repeat' first|(refine ⟨by omega,?_⟩)|(intro _)
             refine hK _ ?_;clear hK K
             refine ⟨_,LeS.kx [(503,960)] [(6,.s (padS s)),(7,.arr 503 0 8),(8,.sl 1 (shaK.map cW)),(9,(.g (.int .i64 ((64*(j+1):Nat)))))] [(503,.own 1 (blks (padS s) (j+1)).cells)] (by simp [zG11,KpR,renV2,renV,zb6,zce];first | exact padI_S s|(simp;done) | omega|(simp;omega) | trace_state) (by simp [zG11,KpOX,renO,plO,cvO,renV,pl1,zce];first|(rw [zk0];done) | exact zl1 | trace_state) (by rfl) (by simp) (by simp) (by rfl) (by simp [zG12,formsX]),_,?_,j+1,rfl,?_,rfl⟩
             ·omega
             ·omega
          ·try simp at hc3
           all_goals
            have hjl:64*j=(padS s).length:=by omega
            refine zbx ?_
            refine zbn ?_
            refine AW_x rfl rfl λK hK=>?_
            simp (disch:=omega)
            repeat' first|(exfalso;omega)|(refine ⟨λ_=>?_,λ_=>?_⟩)|(refine ⟨by omega,?_⟩)|(simp (disch:=omega))|(intro _)
            all_goals (refine hK _ ?_;clear hK K)
            all_goals
             refine zbh ?_
             refine AW_x rfl rfl λK hK=>?_
             simp (disch:=omega)
             repeat' first|(refine ⟨by omega,?_⟩)|(intro _)
             refine hK _ ?_;clear hK K
             refine zbi ?_
             refine zbr (λmM sS=>∃(i:Nat),mM=8-i∧(i≤8)∧sS = { env:=lkE [(7,.arr 503 0 8),(10,.arr 504 0 (4*i)),(11,(.g (.int .i64 ((i:Nat)))))],ob:=lk [(503,.own 1 (blks (padS s) j).cells),(504,.flat 1 ((outI (blks (padS s) j) i).map bC))] }) ?_ ?_
             ·refine ⟨_,LeS.kx [(503,503),(504,976)] [(7,.arr 503 0 8),(10,.arr 504 0 (4*(0))),(11,(.g (.int .i64 (((0):Nat)))))] [(503,.own 1 (blks (padS s) j).cells),(504,.flat 1 ((outI (blks (padS s) j) (0)).map bC))] (by simp [zG11,KpR,renV2,renV,zb6,zce];first|(simp;done) | omega | trace_state) (by simp [zG11,KpOX,renO,plO,cvO,renV,pl1,zce];first | rfl|(rw [zky,out_by,List.map_append];done) | trace_state) (by rfl) (by simp) (by simp) (by rfl) (by simp [zG12,formsX]),_,0,rfl,?_,rfl⟩
              ·simp
             ·rintro mM sS ⟨i,rfl,hi,rfl⟩
              have hol:=zjm (blks (padS s) j) i
              refine zbh ?_
              refine AW_x rfl rfl λK hK=>?_
              simp (disch:=omega)
              repeat' first|(refine ⟨by omega,?_⟩)|(intro _)
              refine hK _ ?_;clear hK K
              refine zbj rfl (λhc4=>?_) (λhc4=>?_)
              ·try simp at hc4
               all_goals
                have hi2:i<8:=by omega
                have gv:=zkw (blks (padS s) j) i hi2
                refine zbk ?_
                refine zbn ?_
                refine zbh ?_
                refine zbi ?_
                refine zmy rfl mix (by kernel_rfl) (by kernel_rfl) λK hK=>?_
                simp (disch:=omega) [gv,cW]
                repeat' first|(exfalso;omega)|(refine ⟨λ_=>?_,λ_=>?_⟩)|(refine ⟨by omega,?_⟩)|(simp (disch:=omega) [gv,cW])|(intro _)
                all_goals (refine hK _ _ (by kernel_rfl) ?_;clear hK K)
                all_goals
                 refine zbn ?_
                 refine zd9 rfl rfl λK hK=>?_
                 simp (disch:=omega) [gv,cW]
                 repeat' first|(refine ⟨by omega,?_⟩)|(intro _)
                 refine hK _ ?_;clear hK K
                 refine ⟨_,LeS.kx [(503,503),(504,1504)] [(7,.arr 503 0 8),(10,.arr 504 0 (4*(i+1))),(11,(.g (.int .i64 (((i+1):Nat)))))] [(503,.own 1 (blks (padS s) j).cells),(504,.flat 1 ((outI (blks (padS s) j) (i+1)).map bC))] (by simp [zG11,KpR,renV2,renV,zb6,zce];first|(simp;done) | omega | trace_state) (by simp [zG11,KpOX,renO,plO,cvO,renV,pl1,zce];first | rfl|(rw [zky,out_by,List.map_append];done) | trace_state) (by rfl) (by simp) (by simp) (by rfl) (by simp [zG12,formsX]),_,?_,i+1,rfl,?_,rfl⟩
                 ·omega
                 ·omega
              ·try simp at hc4
               all_goals
                have hil:i=8:=by omega
                subst hil
                refine zbx ?_
                refine zbn ?_
                refine AW_x rfl rfl λK hK=>?_
                simp (disch:=omega)
                repeat' first|(exfalso;omega)|(refine ⟨λ_=>?_,λ_=>?_⟩)|(refine ⟨by omega,?_⟩)|(simp (disch:=omega))|(intro _)
                all_goals (refine hK _ ?_;clear hK K)
                all_goals
                 refine zbm (zsx [] [] (by simp [zG11,List.range_succ]) (by simp) ?_)
                 simp (disch:=omega)
                 all_goals first|(rw [outI_S];unfold shaS;rw [show (padS s).length / 64=j by omega];done) | trace_state
theorem specShaP(s:List UInt8)(hs:s.length≤1073741824):PCall Tryd.prog 35 [.s s] (.s (shaS s)):=zdd (specSha s hs) rfl
attribute [local simp] zr5
attribute [-simp] row8 cells_len zkz zjl aNews aAppend aBuildSlice bC tkb zg6 zjm
theorem zpt(s:List UInt8)(hs:s.length≤1073741824):PCall Tryd.prog 19 [.s s] (.s (shortS s)):=by
 refine zbe Tryd.func19 (by rfl) (by rfl) (by rw [Tryd.ntmps19];exact Nat.le_of_ble_eq_true rfl) rfl (by decide) ?_
 rw [Tryd.ntmps19]
 refine AW_k [(0,_)] ⟨rfl,trivial⟩ ?_
 refine AW_r rfl rfl λK hK=>?_
 simp (disch:=omega)
 repeat' first|(refine ⟨by omega,?_⟩)|(intro _)
 refine hK _ ?_;clear hK K
 refine AW_r rfl rfl λK hK=>?_
 simp (disch:=omega)
 repeat' first|(exfalso;omega)|(refine zby (zba zd6 zbg) (specShaP _ hs) rfl ?_;simp (disch:=omega))|(refine ⟨by omega,?_⟩)|(intro _)
 refine hK _ ?_;clear hK K
 refine zbm (zbq ?_)
 simp (disch:=omega)
 all_goals first | rfl | trace_state
end Go.Proofs.YtchpfloemfoomaaDoor.Vs
end
section
namespace Go.Proofs.YtchpfloemfoomaaDoor.Vs
set_option linter.all false
set_option maxRecDepth 100000
/-! words of 32 bits, as the program holds them -/
def wU(x:W32):AV:=.g (.int .u32 (wI x))
theorem wrapW(n:Int):IntKind.u32.wrap n=n % 4294967296:=by simp [IntKind.wrap,IntKind.bits,IntKind.signed]
theorem zwy(x:W32):IntKind.u32.wrap (wI x)=wI x:=by rw [wrapW];exact zko x
def uAnd(a b:Int):Int:=IntKind.u32.wrap (BitVec.ofInt IntKind.u32.bits a &&& BitVec.ofInt IntKind.u32.bits b).toNat
def uOr(a b:Int):Int:=IntKind.u32.wrap (BitVec.ofInt IntKind.u32.bits a ||| BitVec.ofInt IntKind.u32.bits b).toNat
def uXor(a b:Int):Int:=IntKind.u32.wrap (BitVec.ofInt IntKind.u32.bits a ^^^ BitVec.ofInt IntKind.u32.bits b).toNat
def uShl(a b:Int):Int:=IntKind.u32.wrap (a*2^(min b.toNat IntKind.u32.bits))
def uShr(a b:Int):Int:=a.fdiv (2^(min b.toNat IntKind.u32.bits))
def vAnd(a b:Int):Int:=IntKind.u64.wrap (BitVec.ofInt IntKind.u64.bits a &&& BitVec.ofInt IntKind.u64.bits b).toNat
theorem uAnd_eq(a b:Int):IntKind.u32.wrap (BitVec.ofInt IntKind.u32.bits a &&& BitVec.ofInt IntKind.u32.bits b).toNat=uAnd a b:=(rfl)
theorem uOr_eq(a b:Int):IntKind.u32.wrap (BitVec.ofInt IntKind.u32.bits a ||| BitVec.ofInt IntKind.u32.bits b).toNat=uOr a b:=(rfl)
theorem uXor_eq(a b:Int):IntKind.u32.wrap (BitVec.ofInt IntKind.u32.bits a ^^^ BitVec.ofInt IntKind.u32.bits b).toNat=uXor a b:=(rfl)
theorem uShl_eq(a b:Int):IntKind.u32.wrap (a*2^(min b.toNat IntKind.u32.bits))=uShl a b:=(rfl)
theorem uShr_eq(a b:Int):a.fdiv (2^(min b.toNat IntKind.u32.bits))=uShr a b:=(rfl)
theorem vAnd_eq(a b:Int):IntKind.u64.wrap (BitVec.ofInt IntKind.u64.bits a &&& BitVec.ofInt IntKind.u64.bits b).toNat=vAnd a b:=(rfl)
theorem zhu(x:W32):BitVec.ofInt 32 (wI x)=x:=by
 apply BitVec.eq_of_toNat_eq
 simp [wI]
theorem uAnd_w(a b:W32):uAnd (wI a) (wI b)=wI (a &&& b):=by
 show IntKind.u32.wrap (((BitVec.ofInt 32 (wI a) &&& BitVec.ofInt 32 (wI b)).toNat:Nat):Int)=_
 rw [zhu,zhu];exact zwy _
theorem zwz(a b:W32):uOr (wI a) (wI b)=wI (a ||| b):=by
 show IntKind.u32.wrap (((BitVec.ofInt 32 (wI a) ||| BitVec.ofInt 32 (wI b)).toNat:Nat):Int)=_
 rw [zhu,zhu];exact zwy _
theorem uXor_w(a b:W32):uXor (wI a) (wI b)=wI (a ^^^ b):=by
 show IntKind.u32.wrap (((BitVec.ofInt 32 (wI a) ^^^ BitVec.ofInt 32 (wI b)).toNat:Nat):Int)=_
 rw [zhu,zhu];exact zwy _
theorem zw0(a:W32):uXor 4294967295 (wI a)=wI (~~~a):=by
 have h:(4294967295:Int)=wI (BitVec.allOnes 32):=by decide
 rw [h,uXor_w,BitVec.allOnes_xor]
theorem uN_w(a:W32):uXor (if IntKind.u32.signed=true then -1 else 4294967295) (wI a)=wI (~~~a):=zw0 a
theorem uN_w2(a:W32):uXor (if IntKind.u32.signed=true then -1 else IntKind.u32.max) (wI a)=wI (~~~a):=zw0 a
theorem uAdd_w(a b:W32):IntKind.u32.wrap (wI a+wI b)=wI (a+b):=by rw [wrapW,add_w]
theorem zw1(x:W32)(z:Int)(h:0≤z∧z≤32):uShr (wI x) z=wI (x >>> z.toNat):=by
 unfold uShr
 rw [show min z.toNat IntKind.u32.bits=z.toNat from Nat.min_eq_left (by show z.toNat≤32;omega),shr_w]
theorem zsb(x:W32)(z:Int)(h:0≤z∧z≤32):uShl (wI x) z=wI (x <<< z.toNat):=by
 unfold uShl
 rw [show min z.toNat IntKind.u32.bits=z.toNat from Nat.min_eq_left (by show z.toNat≤32;omega),wrapW]
 unfold wI
 rw [BitVec.toNat_shiftLeft,Nat.shiftLeft_eq,Int.natCast_emod,Int.natCast_mul,Int.natCast_pow]
 rfl
theorem uRot(x:W32)(z:Int)(h : -32<z∧z<0):uOr (uShl (wI x) (32+z)) (uShr (wI x) (-z))=wI (x.rotateRight (-z).toNat):=by
 rw [zsb x _ (by omega),zw1 x _ (by omega),zwz]
 congr 1
 rw [BitVec.rotateRight_def,Nat.mod_eq_of_lt (by omega),BitVec.or_comm,show (32+z).toNat=32-(-z).toNat by omega]
theorem vMask(z:Int)(h : -32<z∧z<0):vAnd (18446744073709551616+z) 31=32+z:=by
 show IntKind.u64.wrap (((BitVec.ofInt 64 (18446744073709551616+z) &&& BitVec.ofInt 64 31).toNat:Nat):Int)=_
 have e:(BitVec.ofInt 64 (18446744073709551616+z) &&& BitVec.ofInt 64 31).toNat=(18446744073709551616+z).toNat % 32:=by
  rw [BitVec.toNat_and]
  have h1:(BitVec.ofInt 64 31).toNat=2^5-1:=by decide
  have h2:(BitVec.ofInt 64 (18446744073709551616+z)).toNat=(18446744073709551616+z).toNat:=by
   rw [BitVec.toNat_ofInt]
   omega
  rw [h1,h2,Nat.and_two_pow_sub_one_eq_mod]
 rw [e]
 have:∀n:Int,0≤n∧n<18446744073709551616→IntKind.u64.wrap n=n:=λn h=>wrapU h
 rw [this _ (by omega)]
 omega
theorem uwrd{p0 p1 p2 p3:Nat}(h0:p0<256)(h1:p1<256)(h2:p2<256)(h3:p3<256):uOr (uOr (uOr (uShl (IntKind.u32.wrap (p0:Int)) 24) (uShl (IntKind.u32.wrap (p1:Int)) 16)) (uShl (IntKind.u32.wrap (p2:Int)) 8)) (IntKind.u32.wrap (p3:Int))=wI (BitVec.ofNat 32 ((p0*256+p1)*65536+p2*256+p3)):=by
 have g:∀p:Nat,p<4294967296→IntKind.u32.wrap (p:Int)=wI (BitVec.ofNat 32 p):=λp hp=>by
  rw [wrapW];unfold wI;rw [BitVec.toNat_ofNat];omega
 rw [g p0 (by omega),g p1 (by omega),g p2 (by omega),g p3 (by omega),zsb _ 24 (by omega),zsb _ 16 (by omega),zsb _ 8 (by omega),zwz,zwz,zwz]
 congr 1
 apply BitVec.eq_of_toNat_eq
 have e1:p0*2^24 ||| p1*2^16=p0*2^24+p1*2^16:=zl0 _ _ 24 (by omega)
 have e2:(p0*2^24+p1*2^16) ||| p2*2^8=p0*2^24+p1*2^16+p2*2^8:=by
  have:=zl0 (p0*2^8+p1) (p2*2^8) 16 (by omega)
  rw [show (p0*2^8+p1)*2^16=p0*2^24+p1*2^16 by omega] at this
  exact this
 have e3:(p0*2^24+p1*2^16+p2*2^8) ||| p3=p0*2^24+p1*2^16+p2*2^8+p3:=by
  have:=zl0 ((p0*2^8+p1)*2^8+p2) p3 8 (by omega)
  rw [show ((p0*2^8+p1)*2^8+p2)*2^8=p0*2^24+p1*2^16+p2*2^8 by omega] at this
  exact this
 have k:∀(p m:Nat),p*2^m<4294967296→(BitVec.ofNat 32 p <<< m).toNat=p*2^m:=λp m h=>by
  rw [BitVec.toNat_shiftLeft,BitVec.toNat_ofNat,Nat.shiftLeft_eq,Nat.mod_mul_mod,Nat.mod_eq_of_lt h]
 rw [BitVec.toNat_or,BitVec.toNat_or,BitVec.toNat_or,show (24:Int).toNat=24 from rfl,show (16:Int).toNat=16 from rfl,show (8:Int).toNat=8 from rfl,k p0 24 (by omega),k p1 16 (by omega),k p2 8 (by omega),BitVec.toNat_ofNat,BitVec.toNat_ofNat,Nat.mod_eq_of_lt (by omega),e1,e2,e3,Nat.mod_eq_of_lt (by omega)]
 omega
/-! what the walk meets -/
def uC(v:W8):List AV:=[wU v.a,wU v.b,wU v.c,wU v.d,wU v.e,wU v.f,wU v.g,wU v.h]
def schU(b:List UInt8)(i:Nat):List AV:=(sch b i).map wU++List.replicate (64-i) (.g (.int .u32 0))
theorem schU_len(b:List UInt8)(i:Nat)(h:i≤64):(schU b i).length=64:=by unfold schU;simp [zda];omega
theorem zl2(b:List UInt8):schU b 0=List.replicate 64 (.g (.int .u32 0)):=rfl
theorem zw2{α:Type}{l:List α}{j:Nat}{x:α}(h:l[j]? = some x):l.drop j=x :: l.drop (j+1):=by
 obtain ⟨h1,rfl⟩:=List.getElem?_eq_some_iff.1 h
 exact List.drop_eq_getElem_cons h1
theorem zsc(b:List UInt8)(i j:Nat)(h:j<i)(hi:i≤64):(schU b i).drop j=wU (wd b j) :: (schU b i).drop (j+1):=by
 refine zw2 ?_
 unfold schU
 rw [List.getElem?_append_left (by simp [zda];omega),List.getElem?_map,zwt b i j h hi];rfl
theorem zg7(b:List UInt8)(i:Nat)(z:Int)(j:Nat)(hz:z=j)(h0:0<j)(h:j≤i)(hi:i≤64):(schU b i).drop ((i:Int)-z).toNat=wU (wd b (i-j)) :: (schU b i).drop (i-j+1):=by
 rw [show ((i:Int)-z).toNat=i-j by omega];exact zsc b i _ (by omega) hi
theorem zsd(b:List UInt8)(i:Nat)(h:i<64)(x:W32)(hx:sch b (i+1)=sch b i++[x]):(schU b i).set i (wU x)=schU b (i+1):=by
 unfold schU
 rw [hx,List.set_append_right _ _ (by simp [zda]),show 64-i=(64-(i+1))+1 by omega,List.replicate_succ]
 simp [zda]
theorem schU_a(b:List UInt8)(i:Nat)(hi:i<16):(schU b i).set i (wU (wrd b (4*i)))=schU b (i+1):=zsd b i (by omega) _ (by rw [sch,if_pos hi])
theorem schU_b(b:List UInt8)(i:Nat)(h1:16≤i)(hi:i<64):(schU b i).set i (wU (wd b (i-16)+(BitVec.rotateRight (wd b (i-15)) 7 ^^^ BitVec.rotateRight (wd b (i-15)) 18 ^^^ wd b (i-15) >>> 3)+wd b (i-7)+(BitVec.rotateRight (wd b (i-2)) 17 ^^^ BitVec.rotateRight (wd b (i-2)) 19 ^^^ wd b (i-2) >>> 10)))=schU b (i+1):=by
 refine zsd b i hi _ ?_
 rw [sch,if_neg (by omega),zpp b i _ (by omega) (by omega),zpp b i _ (by omega) (by omega),zpp b i _ (by omega) (by omega),zpp b i _ (by omega) (by omega)]
 rfl
theorem shaC_eq:shaC=shaK.map wU:=by
 unfold shaC shaN shaK
 simp only [List.map_cons,List.map_nil]
 rfl
theorem shaC_get(i:Nat)(h:i<64):shaC.drop i=wU (kd i) :: shaC.drop (i+1):=by
 refine zw2 ?_
 rw [shaC_eq,List.getElem?_map,kd_at i h];rfl
def stU(h v:W8)(i:Nat):List AV:=(uC (add8 h v)).take i++(uC h).drop i
theorem stU_0(h v:W8):stU h v 0=uC h:=rfl
theorem stU_8(h v:W8):stU h v 8=uC (add8 h v):=rfl
theorem stU_len(h v:W8)(i:Nat)(hi:i≤8):(stU h v i).length=8:=by
 have:i=0∨i=1∨i=2∨i=3∨i=4∨i=5∨i=6∨i=7∨i=8:=by omega
 rcases this with rfl | rfl | rfl | rfl | rfl | rfl | rfl | rfl | rfl<;>rfl
theorem stU_get(h v:W8)(i:Nat)(hi:i<8):(stU h v i).drop i=wU (h.get i) :: (stU h v i).drop (i+1):=by
 have:i=0∨i=1∨i=2∨i=3∨i=4∨i=5∨i=6∨i=7:=by omega
 rcases this with rfl | rfl | rfl | rfl | rfl | rfl | rfl | rfl<;>rfl
theorem uC_get(v:W8)(i:Nat)(hi:i<8):(uC v).drop i=wU (v.get i) :: (uC v).drop (i+1):=by
 have:i=0∨i=1∨i=2∨i=3∨i=4∨i=5∨i=6∨i=7:=by omega
 rcases this with rfl | rfl | rfl | rfl | rfl | rfl | rfl | rfl<;>rfl
theorem stU_set(h v:W8)(i:Nat)(hi:i<8):(stU h v i).set i (wU (h.get i+v.get i))=stU h v (i+1):=by
 have:i=0∨i=1∨i=2∨i=3∨i=4∨i=5∨i=6∨i=7:=by omega
 rcases this with rfl | rfl | rfl | rfl | rfl | rfl | rfl | rfl<;>rfl
theorem zcs{b:List UInt8}{i:Nat}{x:AV}(h:x∈schU b i):∃n,x=.g (.int .u32 n):=by
 unfold schU at h
 rcases List.mem_append.1 h with h | h
 ·obtain ⟨w,-,rfl⟩:=List.mem_map.1 h;exact ⟨_,rfl⟩
 ·exact ⟨0,(List.mem_replicate.1 h).2⟩
theorem uC_mem{v:W8}{x:AV}(h:x∈uC v):∃n,x=.g (.int .u32 n):=by
 simp only [uC,List.mem_cons,List.not_mem_nil,or_false] at h
 rcases h with rfl | rfl | rfl | rfl | rfl | rfl | rfl | rfl<;>exact ⟨_,rfl⟩
theorem zk1{h v:W8}{i:Nat}{x:AV}(hx:x∈stU h v i):∃n,x=.g (.int .u32 n):=by
 unfold stU at hx
 rcases List.mem_append.1 hx with hx | hx
 ·exact uC_mem (List.mem_of_mem_take hx)
 ·exact uC_mem (List.mem_of_mem_drop hx)
theorem ren_g{ρ:Ren}{l:List AV}(h:∀x∈l,∃n,x=.g (.int .u32 n)):l.map (renV ρ)=l:=by
 induction l with
 | nil=>rfl
 | cons x l ih =>
  obtain ⟨n,rfl⟩:=h x List.mem_cons_self
  rw [List.map_cons,ih λy hy=>h y (List.mem_cons_of_mem _ hy)]
  rfl
theorem schU_ren(ρ:Ren)(b:List UInt8)(i:Nat):List.map (renV ρ) (schU b i)=schU b i:=ren_g λ_ h=>zcs h
theorem stU_ren(ρ:Ren)(h v:W8)(i:Nat):List.map (renV ρ) (stU h v i)=stU h v i:=ren_g λ_ h=>zk1 h
theorem uC_len(v:W8):(uC v).length=8:=rfl
end Go.Proofs.YtchpfloemfoomaaDoor.Vs
end
