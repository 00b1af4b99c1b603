import Derived.Test.YtchpfloemfoomaaDoorVs8
section
namespace Go.Proofs.YtchpfloemfoomaaDoor.Vs
set_option linter.all false
def nst:AV→Bool
 | .sl ..=>true
 | _=>false
def unn(c:AV)(v:Value):AV:=match c with
 | .sl ..=>.g v
 | c=>c
def ux(q:Nat→Value):Nat→List AV→List AV
 | _,[]=>[]
 | j,c :: cs=>unn c (q j) :: ux q (j+1) cs
def pkc(q:Nat→Value):Nat→List AV→List (AV × Value)
 | _,[]=>[]
 | j,c :: cs=>if nst c=true then (c,q j) :: pkc q (j+1) cs else pkc q (j+1) cs
def plC:AV→Bool
 | .g _=>true
 | .s _=>true
 | .sl ..=>true
 | _=>false
section
variable {P:Program}{nt:Nat}{fs:List Nat}{Q:AExit→St→Prop}{st:St}{c:Code}
end
end Go.Proofs.YtchpfloemfoomaaDoor.Vs
end
section
namespace Go.Proofs.YtchpfloemfoomaaDoor.Vs
set_option linter.all false
def wnO(s:St)(ρ:Ren):OB→OB→Prop
 | .win sz xs,.win sz' xs'=>sz'=sz∧wn s ρ xs xs'
 | _,_=>False
def KpOW(s:St)(ρ:Ren):List (Nat × OB)→Prop
 | []=>True
 | (n,o) :: r=>(∃m p,lk ρ n=some m∧s.ob m=some p∧((p=renO ρ o∧plO o=true)∨cvO p o∨wnO s ρ p o))∧KpOW s ρ r
def OB.nofl:OB→Bool
 | .flat ..=>false
 | _=>true
def inlR(x:Option (Prop × List AV))(K:AV→(Nat→Option OB)→Prop)(ob:Nat→Option OB):Prop:=match x with
 | some (p,vs)=>p∧vs.all noTup=true∧K (tupA vs) ob
 | none=>False
section
variable {P:Program}{nt:Nat}{fs:List Nat}{Q:AExit→St→Prop}{st:St}{c:Code}
end
end Go.Proofs.YtchpfloemfoomaaDoor.Vs
end
section
open Go Go.Proofs.YtchpfloemfoomaaDoor.Vs
namespace Go.Proofs.YtchpfloemfoomaaDoor.Vs
set_option linter.all false
abbrev W32:=BitVec 32
def wI(x:W32):Int:=(x.toNat:Int)
def cW(x:W32):List AV:=[.g (.int .i64 (wI x))]
theorem wI_bd(x:W32):0≤wI x∧wI x<4294967296:=by unfold wI;have:=x.isLt;omega
theorem zg0(x:W32):BitVec.ofInt 64 (wI x)=x.setWidth 64:=by
 apply BitVec.eq_of_toNat_eq
 simp [wI]
theorem zlf{n:Nat}(h:n<9223372036854775808):IntKind.i64.wrap (n:Int)=n:=by
 simp [IntKind.wrap,IntKind.bits,IntKind.signed]
 omega
theorem zq6(a:W32):(a.setWidth 64).toNat=a.toNat:=by
 rw [BitVec.toNat_setWidth,Nat.mod_eq_of_lt]
 have:=a.isLt
 omega
theorem and_w(a b:W32):IntKind.i64.wrap (((BitVec.ofInt IntKind.i64.bits (wI a) &&& BitVec.ofInt IntKind.i64.bits (wI b)).toNat:Nat):Int)=wI (a &&& b):=by
 show IntKind.i64.wrap (((BitVec.ofInt 64 (wI a) &&& BitVec.ofInt 64 (wI b)).toNat:Nat):Int)=_
 rw [zg0,zg0,←BitVec.setWidth_and,zq6,zlf (by have:=(a &&& b).isLt;omega)];rfl
theorem xor_w(a b:W32):IntKind.i64.wrap (((BitVec.ofInt IntKind.i64.bits (wI a) ^^^ BitVec.ofInt IntKind.i64.bits (wI b)).toNat:Nat):Int)=wI (a ^^^ b):=by
 show IntKind.i64.wrap (((BitVec.ofInt 64 (wI a) ^^^ BitVec.ofInt 64 (wI b)).toNat:Nat):Int)=_
 rw [zg0,zg0,←BitVec.setWidth_xor,zq6,zlf (by have:=(a ^^^ b).isLt;omega)];rfl
theorem mask32(x:Int):IntKind.i64.wrap (((BitVec.ofInt IntKind.i64.bits x &&& BitVec.ofInt IntKind.i64.bits 4294967295).toNat:Nat):Int)=x % 4294967296:=by
 show IntKind.i64.wrap (((BitVec.ofInt 64 x &&& BitVec.ofInt 64 4294967295).toNat:Nat):Int)=_
 have e:(BitVec.ofInt 64 x &&& BitVec.ofInt 64 4294967295).toNat=(x % 18446744073709551616).toNat % 4294967296:=by
  rw [BitVec.toNat_and]
  have h1:(BitVec.ofInt 64 4294967295).toNat=2^32-1:=by decide
  have h2:(BitVec.ofInt 64 x).toNat=(x % 18446744073709551616).toNat:=by simp [BitVec.toNat_ofInt]
  rw [h1,h2,Nat.and_two_pow_sub_one_eq_mod]
 rw [e,zlf (by omega)]
 omega
theorem or_nat{p q:Nat}(hp:p<9223372036854775808)(hq:q<9223372036854775808):IntKind.i64.wrap (((BitVec.ofInt IntKind.i64.bits (p:Int) ||| BitVec.ofInt IntKind.i64.bits (q:Int)).toNat:Nat):Int)=((p ||| q:Nat):Int):=by
 show IntKind.i64.wrap (((BitVec.ofInt 64 (p:Int) ||| BitVec.ofInt 64 (q:Int)).toNat:Nat):Int)=_
 have e:∀p:Nat,p<9223372036854775808→(BitVec.ofInt 64 (p:Int)).toNat=p:=λp h=>by simp [BitVec.toNat_ofInt];omega
 rw [BitVec.toNat_or,e p hp,e q hq,zlf]
 exact Nat.or_lt_two_pow (n:=63) hp hq
theorem rot_nat(x:W32)(n:Nat)(h0:0<n)(h:n<32):(x.toNat / 2^n ||| x.toNat*2^(32-n)) % 4294967296=(x.rotateRight n).toNat:=by
 have e:x.rotateRight n=x >>> n ||| x <<< (32-n):=by
  rw [BitVec.rotateRight_def,Nat.mod_eq_of_lt h]
 rw [e,BitVec.toNat_or,BitVec.toNat_ushiftRight,BitVec.toNat_shiftLeft,Nat.shiftRight_eq_div_pow,Nat.shiftLeft_eq,show (4294967296:Nat)=2^32 from rfl,Nat.or_mod_two_pow]
 congr 1
 refine Nat.mod_eq_of_lt (Nat.lt_of_le_of_lt (Nat.div_le_self _ _) x.isLt)
theorem shr_w(x:W32)(n:Nat):(wI x).fdiv (2^n)=wI (x >>> n):=by
 unfold wI
 rw [BitVec.toNat_ushiftRight,Nat.shiftRight_eq_div_pow,Int.fdiv_eq_ediv_of_nonneg _ (Int.pow_nonneg (by omega))]
 norm_cast
theorem add_w(a b:W32):(wI a+wI b) % 4294967296=wI (a+b):=by
 unfold wI
 rw [BitVec.toNat_add]
 have:=a.isLt;have:=b.isLt
 omega
theorem zq7(x:Int)(a:W32)(h:x % 4294967296=wI a)(y:Int)(b:W32)(h2:y % 4294967296=wI b):(x+y) % 4294967296=wI (a+b):=by
 rw [←add_w,←h,←h2];omega
theorem zko(a:W32):wI a % 4294967296=wI a:=by have:=wI_bd a;omega
theorem not_w(a:W32):IntKind.i64.wrap (((BitVec.ofInt IntKind.i64.bits (-1) ^^^ BitVec.ofInt IntKind.i64.bits (wI a)).toNat:Nat):Int) % 4294967296=wI (~~~a):=by
 show IntKind.i64.wrap (((BitVec.ofInt 64 (-1) ^^^ BitVec.ofInt 64 (wI a)).toNat:Nat):Int) % 4294967296=_
 have e:(BitVec.ofInt 64 (-1) ^^^ BitVec.ofInt 64 (wI a)).toNat=18446744073709551615-a.toNat:=by
  have h:BitVec.ofInt 64 (-1)=BitVec.allOnes 64:=by decide
  rw [h,BitVec.allOnes_xor,BitVec.toNat_not,zg0,zq6]
 rw [e]
 have h2:(~~~a).toNat=4294967295-a.toNat:=by rw [BitVec.toNat_not]
 unfold wI
 rw [h2]
 have:=a.isLt
 simp [IntKind.wrap,IntKind.bits,IntKind.signed]
 omega
def zAnd(a b:Int):Int:=IntKind.i64.wrap (BitVec.ofInt IntKind.i64.bits a &&& BitVec.ofInt IntKind.i64.bits b).toNat
def zOr(a b:Int):Int:=IntKind.i64.wrap (BitVec.ofInt IntKind.i64.bits a ||| BitVec.ofInt IntKind.i64.bits b).toNat
def zXor(a b:Int):Int:=IntKind.i64.wrap (BitVec.ofInt IntKind.i64.bits a ^^^ BitVec.ofInt IntKind.i64.bits b).toNat
def zNot(a:Int):Int:=IntKind.i64.wrap (BitVec.ofInt IntKind.i64.bits (-1) ^^^ BitVec.ofInt IntKind.i64.bits a).toNat
def zShl(a b:Int):Int:=IntKind.i64.wrap (a*2^(min b.toNat IntKind.i64.bits))
def zShr(a b:Int):Int:=a.fdiv (2^(min b.toNat IntKind.i64.bits))
theorem zmz(a b:Int):IntKind.i64.wrap (BitVec.ofInt IntKind.i64.bits a &&& BitVec.ofInt IntKind.i64.bits b).toNat=zAnd a b:=(rfl)
theorem zr2(a b:Int):IntKind.i64.wrap (BitVec.ofInt IntKind.i64.bits a ||| BitVec.ofInt IntKind.i64.bits b).toNat=zOr a b:=(rfl)
theorem zm0(a b:Int):IntKind.i64.wrap (BitVec.ofInt IntKind.i64.bits a ^^^ BitVec.ofInt IntKind.i64.bits b).toNat=zXor a b:=(rfl)
theorem zm1(a:Int):IntKind.i64.wrap (BitVec.ofInt IntKind.i64.bits (if IntKind.i64.signed=true then -1 else IntKind.i64.max) ^^^ BitVec.ofInt IntKind.i64.bits a).toNat=zNot a:=(rfl)
theorem zm2(a b:Int):IntKind.i64.wrap (a*2^(min b.toNat IntKind.i64.bits))=zShl a b:=(rfl)
theorem zm3(a b:Int):a.fdiv (2^(min b.toNat IntKind.i64.bits))=zShr a b:=(rfl)
theorem zkp(x:Int):zAnd x 4294967295=x % 4294967296:=mask32 x
theorem zwe(a b:W32):zAnd (wI a) (wI b)=wI (a &&& b):=and_w a b
theorem zpm(a b:W32):zXor (wI a) (wI b)=wI (a ^^^ b):=xor_w a b
theorem zwf(a:W32):zNot (wI a) % 4294967296=wI (~~~a):=not_w a
theorem zwg(x:W32)(z:Int)(h:0≤z∧z≤64):zShr (wI x) z=wI (x >>> z.toNat):=by
 unfold zShr
 rw [show min z.toNat IntKind.i64.bits=z.toNat from Nat.min_eq_left (by show z.toNat≤64;omega),shr_w]
set_option maxRecDepth 100000 in
theorem zg1(p:Nat)(z:Int)(n:Nat)(hz:z=n)(h:n≤64)(hp:p*2^n<9223372036854775808):zShl (p:Int) z=((p*2^n:Nat):Int):=by
 subst hz
 unfold zShl
 rw [show min (n:Int).toNat IntKind.i64.bits=n from Nat.min_eq_left (by show (n:Int).toNat≤64;omega)]
 have e:(p:Int)*2^n=((p*2^n:Nat):Int):=by norm_cast
 rw [e,zlf hp]
theorem zm4{p q:Nat}(hp:p<9223372036854775808)(hq:q<9223372036854775808):zOr (p:Int) (q:Int)=((p ||| q:Nat):Int):=or_nat hp hq
set_option maxRecDepth 100000 in
theorem rot_w(x:W32)(z:Int)(h:0<z∧z<32):zOr (zShr (wI x) z) (zShl (wI x) (32-z)) % 4294967296=wI (x.rotateRight z.toNat):=by
 obtain ⟨n,rfl⟩:=Int.eq_ofNat_of_zero_le (show 0≤z by omega)
 have hx:=x.isLt
 have hb:x.toNat*2^(32-n)<9223372036854775808:=by
  have h1:x.toNat*2^(32-n)≤4294967295*2^31:=Nat.mul_le_mul (by omega) (Nat.pow_le_pow_right (by omega) (by omega))
  omega
 rw [zwg x _ (by omega),show wI x=((x.toNat:Nat):Int) from rfl,zg1 x.toNat _ (32-n) (by omega) (by omega) hb]
 have e1:wI (x >>> (n:Int).toNat)=((x.toNat / 2^n:Nat):Int):=by
  unfold wI
  rw [BitVec.toNat_ushiftRight,Nat.shiftRight_eq_div_pow];rfl
 rw [e1,zm4 (Nat.lt_of_le_of_lt (Nat.div_le_self _ _) (by omega)) hb]
 have:=rot_nat x n (by omega) (by omega)
 unfold wI
 show ((((x.toNat / 2^n) |||(x.toNat*2^(32-n)):Nat):Int)) % 4294967296=(((x.rotateRight n).toNat:Nat):Int)
 rw [←this]
 generalize (x.toNat / 2^n ||| x.toNat*2^(32-n))=q
 omega
end Go.Proofs.YtchpfloemfoomaaDoor.Vs
end
section
open Go Go.Proofs.YtchpfloemfoomaaDoor.Vs
namespace Go.Proofs.YtchpfloemfoomaaDoor.Vs
set_option linter.all false
structure W8 where
 a:W32
 b:W32
 c:W32
 d:W32
 e:W32
 f:W32
 g:W32
 h:W32
def W8.cells(v:W8):List (List AV):=[cW v.a,cW v.b,cW v.c,cW v.d,cW v.e,cW v.f,cW v.g,cW v.h]
def sg0(x:W32):W32:=x.rotateRight 7 ^^^ x.rotateRight 18 ^^^ x >>> 3
def sg1(x:W32):W32:=x.rotateRight 17 ^^^ x.rotateRight 19 ^^^ x >>> 10
def bs1(x:W32):W32:=x.rotateRight 6 ^^^ x.rotateRight 11 ^^^ x.rotateRight 25
def bs0(x:W32):W32:=x.rotateRight 2 ^^^ x.rotateRight 13 ^^^ x.rotateRight 22
def chW(e f g:W32):W32:=e &&& f ^^^ ~~~e &&& g
def mjW(a b c:W32):W32:=a &&& b ^^^ a &&& c ^^^ b &&& c
def shaK:List W32:=[0x428a2f98,0x71374491,0xb5c0fbcf,0xe9b5dba5,0x3956c25b,0x59f111f1,0x923f82a4,0xab1c5ed5,
 0xd807aa98,0x12835b01,0x243185be,0x550c7dc3,0x72be5d74,0x80deb1fe,0x9bdc06a7,0xc19bf174,
 0xe49b69c1,0xefbe4786,0x0fc19dc6,0x240ca1cc,0x2de92c6f,0x4a7484aa,0x5cb0a9dc,0x76f988da,
 0x983e5152,0xa831c66d,0xb00327c8,0xbf597fc7,0xc6e00bf3,0xd5a79147,0x06ca6351,0x14292967,
 0x27b70a85,0x2e1b2138,0x4d2c6dfc,0x53380d13,0x650a7354,0x766a0abb,0x81c2c92e,0x92722c85,
 0xa2bfe8a1,0xa81a664b,0xc24b8b70,0xc76c51a3,0xd192e819,0xd6990624,0xf40e3585,0x106aa070,
 0x19a4c116,0x1e376c08,0x2748774c,0x34b0bcb5,0x391c0cb3,0x4ed8aa4a,0x5b9cca4f,0x682e6ff3,
 0x748f82ee,0x78a5636f,0x84c87814,0x8cc70208,0x90befffa,0xa4506ceb,0xbef9a3f7,0xc67178f2]
theorem zr3:shaK.length=64:=rfl
def shaH:W8:=⟨0x6a09e667,0xbb67ae85,0x3c6ef372,0xa54ff53a,0x510e527f,0x9b05688c,0x1f83d9ab,0x5be0cd19⟩
def wrd(s:List UInt8)(i:Nat):W32:=BitVec.ofNat 32 (((s.getD i 0).toNat*256+(s.getD (i+1) 0).toNat)*65536+(s.getD (i+2) 0).toNat*256+(s.getD (i+3) 0).toNat)
def sch(s:List UInt8):Nat→List W32
 | 0=>[]
 | i+1=>sch s i++[if i<16 then wrd s (4*i) else (sch s i).getD (i-16) 0+sg0 ((sch s i).getD (i-15) 0)+(sch s i).getD (i-7) 0+sg1 ((sch s i).getD (i-2) 0)]
theorem zda(s:List UInt8):∀i,(sch s i).length=i
 | 0=>rfl
 | i+1=>by rw [sch,List.length_append,zda s i];rfl
theorem zwh(s:List UInt8)(n i:Nat)(h:i<n):(sch s n)[i]? = (sch s (i+1))[i]?:=by
 induction n with
 | zero=>omega
 | succ n ih =>
  by_cases e:i=n
  ·subst e;rfl
  ·rw [sch,List.getElem?_append_left (by rw [zda];omega),ih (by omega)]
def rnd(k w:W32)(v:W8):W8 :=
 let t:=v.h+bs1 v.e+chW v.e v.f v.g+k+w
 ⟨t+(bs0 v.a+mjW v.a v.b v.c),v.a,v.b,v.c,v.d+t,v.e,v.f,v.g⟩
def runW(s:List UInt8)(h:W8):Nat→W8
 | 0=>h
 | i+1=>rnd (shaK.getD i 0) ((sch s 64).getD i 0) (runW s h i)
def add8(x y:W8):W8:=⟨x.a+y.a,x.b+y.b,x.c+y.c,x.d+y.d,x.e+y.e,x.f+y.f,x.g+y.g,x.h+y.h⟩
def blk(h:W8)(s:List UInt8):W8:=add8 h (runW s h 64)
def zerosN(n:Nat):Nat:=(64-(n+9) % 64) % 64
def lenB(n:Nat):List UInt8:=(List.range 8).map λi=>UInt8.ofNat (n*8 / 2^(56-8*i))
def padS(s:List UInt8):List UInt8:=s++([128]++List.replicate (zerosN s.length) 0++lenB s.length)
theorem zr4(s:List UInt8):(padS s).length=64*((s.length+9+zerosN s.length) / 64):=by
 have:(padS s).length=s.length+9+zerosN s.length:=by simp [padS,lenB];omega
 rw [this]
 unfold zerosN
 omega
def blks(t:List UInt8):Nat→W8
 | 0=>shaH
 | i+1=>blk (blks t i) ((t.drop (64*i)).take 64)
def by4(x:W32):List UInt8:=[UInt8.ofNat (x.toNat / 16777216),UInt8.ofNat (x.toNat / 65536),UInt8.ofNat (x.toNat / 256),UInt8.ofNat x.toNat]
def by32(v:W8):List UInt8:=by4 v.a++by4 v.b++by4 v.c++by4 v.d++by4 v.e++by4 v.f++by4 v.g++by4 v.h
def shaS(s:List UInt8):List UInt8:=by32 (blks (padS s) ((padS s).length / 64))
theorem zr5(s:List UInt8):(shaS s).length=32:=rfl
def shortS(s:List UInt8):List UInt8:=(shaS s).take 8
end Go.Proofs.YtchpfloemfoomaaDoor.Vs
end
