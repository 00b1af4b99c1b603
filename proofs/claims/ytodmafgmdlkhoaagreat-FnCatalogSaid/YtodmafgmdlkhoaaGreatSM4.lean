import Derived.Test.YtodmafgmdlkhoaaGreatSM3
import Derived.Test.YtodmafgmdlkhoaaGreatSM1
section
namespace Go.Proofs.YtodmafgmdlkhoaaGreat.Vs
set_option linter.all false
set_option maxRecDepth 100000
/-- Seven bits a byte. -/
def varB(n:Nat):List UInt8:=if n<128 then [UInt8.ofNat n] else UInt8.ofNat (128+n % 128) :: varB (n / 128)
termination_by n
decreasing_by omega
theorem zqg{n:Nat}(h:n<128):varB n=[UInt8.ofNat n]:=by unfold varB;rw [if_pos h]
theorem varB_ge{n:Nat}(h:¬n<128):varB n=UInt8.ofNat (128+n % 128) :: varB (n / 128):=by rw [varB];rw [if_neg h]
theorem zxk:∀(k n:Nat),n<128^(k+1)→(varB n).length≤k+1
 | 0,n,h=>by rw [zqg (by simpa using h)];simp
 | k+1,n,h=>by
  by_cases h2:n<128
  ·rw [zqg h2];simp
  ·rw [varB_ge h2]
   have:=zxk k (n / 128) (by rw [Nat.pow_succ] at h;omega)
   simp;omega
def varZ(n:Int):List UInt8:=if 0≤n∧n≤562949953421311 then varB n.toNat else []
theorem zdj(n:Int):(varZ n).length≤7:=by
 unfold varZ
 split
 ·rename_i h
  have h7:(128:Nat)^7=562949953421312:=by decide
  exact zxk 6 n.toNat (by omega)
 ·simp
def cB8v(n:Int):List AV:=[.g (.int .u8 n)]
theorem zmt:∀ns:List Int,numsOf (ns.map cB8v)=some ns
 | []=>rfl
 | n :: ns=>by
  have:=zmt ns
  simp only [List.map_cons,cB8v,numsOf] at this ⊢
  rw [this];rfl
theorem zwb:∀(ns:List Int) (m:Int),numsOf (ns.map cB8v++[[.g (.int .u8 m)]])=some (ns++[m]):=by
 intro ns m
 have:=zmt (ns++[m])
 simpa [cB8v] using this
theorem strN_lenv(ns:List Int):(strN ns).length=ns.length:=by simp [strN]
theorem tk1v(acc:List Int):List.take acc.length (acc.map cB8v)=acc.map cB8v:=List.take_of_length_le (by simp)
theorem tk2v(acc:List Int)(y:List AV):List.take (acc.length+1) (acc.map cB8v++[y])=acc.map cB8v++[y]:=List.take_of_length_le (by simp)
theorem tdivNv(m:Nat):(m:Int).tdiv 128=((m / 128:Nat):Int):=by rw [Int.tdiv_eq_ediv_of_nonneg (by omega)];rfl
theorem tmodNv(m:Nat):(m:Int).tmod 128=((m % 128:Nat):Int):=by rw [Int.tmod_eq_emod_of_nonneg (by omega)];rfl
theorem zsr{n:Int}(h0:0≤n)(h1:n<256):IntKind.u8.wrap n=n:=by
 simp [IntKind.wrap,IntKind.bits,IntKind.signed]
 omega
theorem zmu(acc:List Int)(m:Nat):strN (acc++[(m:Int)])=strN acc++[UInt8.ofNat m]:=by simp [strN]
def zG11:=And.intro @zcf (And.intro @zfr (And.intro @zsr (And.intro @tk1v (And.intro @tk2v (And.intro @zwb (And.intro @tdivNv @tmodNv))))))
def zG12:=And.intro @zb0 (And.intro @zbr @zby)
theorem zj4(n:Int):PCall Tryz.prog 73 [(.g (.int .i64 (n)))] (.s (varZ n)):=by
 by_cases hn:0≤n∧n≤562949953421311
 ·have hz:varZ n=varB n.toNat:=by unfold varZ;rw [if_pos hn]
  have hl:=zdj n
  rw [hz] at hl ⊢
  refine zbq Tryz.func73 (by rfl) (by rfl) (by rw [Tryz.ntmps73];exact Nat.le_of_ble_eq_true rfl) rfl (by decide) ?_
  rw [Tryz.ntmps73]
  refine AW_k [(0,_)] ⟨rfl,trivial⟩ ?_
  refine AW_r rfl rfl λK hK=>?_
  simp (disch:=omega) [zG11,List.getElem?_eq_getElem,aNews,aAppend,aBuildSlice,chunks]
  repeat' first|(refine ⟨by omega,?_⟩)|(intro _)
  refine hK _ ?_;clear hK K
  refine zbh ?_
  refine AW_r rfl rfl λK hK=>?_
  simp (disch:=omega) [zG11,List.getElem?_eq_getElem,aNews,aAppend,aBuildSlice,chunks]
  repeat' first|(exfalso;omega)|(refine zcz (zbd zcl (zbd zcl (zbd zcl zbl))) (l1In _ _ _) rfl ?_;simp (disch:=omega) [zG11,List.getElem?_eq_getElem,aNews,aAppend,aBuildSlice,chunks])|(refine ⟨by omega,?_⟩)|(intro _)
  refine hK _ ?_;clear hK K
  refine zbg rfl (λhc1=>?_) (λhc1=>?_)
  ·try simp [zbf,zbn,zbc,zbb] at hc1
   all_goals
    refine AW_r rfl rfl λK hK=>?_
    simp (disch:=omega) [zG11,List.getElem?_eq_getElem,aNews,aAppend,aBuildSlice,chunks]
    repeat' first|(exfalso;omega)|(refine ⟨λ_=>?_,λ_=>?_⟩)|(refine ⟨by omega,?_⟩)|(intro _)
    all_goals (refine hK _ ?_;clear hK K)
    all_goals
     refine zbp (zcb ?_)
     simp (disch:=omega) [zG11,List.getElem?_eq_getElem,aNews,aAppend,aBuildSlice,chunks]
     all_goals first|(rw [zmu,←hv,zqg (by omega)];done)
  ·try simp [zbf,zbn,zbc,zbb] at hc1
   all_goals
    refine zbi ?_
    refine zbm ?_
    refine AW_r rfl rfl λK hK=>?_
    simp (disch:=omega) [zG11,List.getElem?_eq_getElem,aNews,aAppend,aBuildSlice,chunks]
    repeat' first|(exfalso;omega)|(refine ⟨λ_=>?_,λ_=>?_⟩)|(refine ⟨by omega,?_⟩)|(intro _)
    all_goals (refine hK _ ?_;clear hK K)
    all_goals
     refine zbh ?_
     refine zbj ?_
     refine zbs (λmM sS=>∃(acc:List Int) (m:Nat),mM=m+1∧(strN acc++varB m=varB n.toNat∧m≤n.toNat)∧sS = { env:=lkE [(0,(.g (.int .i64 ((m:Nat))))),(3,.arr 128 0 acc.length)],ob:=lk [(128,.flat 1 (acc.map cB8v))] }) ?_ ?_
     ·refine ⟨_,LeS.kr [(128,128)] [(0,(.g (.int .i64 (((n.toNat):Nat))))),(3,.arr 128 0 ([]).length)] [(128,.flat 1 (([]).map cB8v))] (by simp [zG12,KpR,renV2,renV,zbk,cB8v];try omega) (by simp [zG12,KpOR,renO,renV,zcd,cB8v];try rfl) (by rfl) (by rfl) (by simp) (by simp) (by rfl) (by simp [forms]),_,[],n.toNat,rfl,?_,rfl⟩
      ·simp [strN]
     ·rintro mM sS ⟨acc,m,rfl,⟨hv,hm⟩,rfl⟩
      have hal:acc.length≤7:=by have:=congrArg List.length hv;simp [strN_lenv] at this;omega
      refine zbh ?_
      refine AW_r rfl rfl λK hK=>?_
      simp (disch:=omega) [zG11,List.getElem?_eq_getElem,aNews,aAppend,aBuildSlice,chunks]
      repeat' first|(refine ⟨by omega,?_⟩)|(intro _)
      refine hK _ ?_;clear hK K
      refine zbg rfl (λhc2=>?_) (λhc2=>?_)
      ·try simp [zbf,zbn,zbc,zbb] at hc2
       all_goals
        have hge:=varB_ge (n:=m) (by omega)
        refine zbi ?_
        refine zbm ?_
        refine zbj ?_
        refine AW_r rfl rfl λK hK=>?_
        simp (disch:=omega) [zG11,List.getElem?_eq_getElem,aNews,aAppend,aBuildSlice,chunks]
        repeat' first|(exfalso;omega)|(refine ⟨λ_=>?_,λ_=>?_⟩)|(refine ⟨by omega,?_⟩)|(intro _)
        all_goals (refine hK _ ?_;clear hK K)
        all_goals
         refine zcv rfl rfl λK hK=>?_
         simp (disch:=omega) [zG11,List.getElem?_eq_getElem,aNews,aAppend,aBuildSlice,chunks]
         repeat' first|(refine ⟨by omega,?_⟩)|(intro _)
         refine hK _ ?_;clear hK K
         refine ⟨_,LeS.kr [(128,272)] [(0,(.g (.int .i64 (((m / 128):Nat))))),(3,.arr 128 0 (acc++[128+((m % 128:Nat):Int)]).length)] [(128,.flat 1 ((acc++[128+((m % 128:Nat):Int)]).map cB8v))] (by simp [zG12,KpR,renV2,renV,zbk,cB8v];try simp (disch:=omega) [zcf,cB8v];try omega) (by simp [zG12,KpOR,renO,renV,zcd,cB8v];try rfl) (by rfl) (by rfl) (by simp) (by simp) (by rfl) (by simp [forms]),_,?_,acc++[128+((m % 128:Nat):Int)],m / 128,rfl,?_,rfl⟩
         ·omega
         ·refine ⟨?_,by omega⟩
          rw [hge] at hv
          rw [←hv,show (128+((m % 128:Nat):Int))=((128+m % 128:Nat):Int) by omega,zmu]
          simp
      ·try simp [zbf,zbn,zbc,zbb] at hc2
       all_goals
        refine zbx ?_
        refine zbm ?_
        refine AW_r rfl rfl λK hK=>?_
        simp (disch:=omega) [zG11,List.getElem?_eq_getElem,aNews,aAppend,aBuildSlice,chunks]
        repeat' first|(exfalso;omega)|(refine ⟨λ_=>?_,λ_=>?_⟩)|(refine ⟨by omega,?_⟩)|(intro _)
        all_goals (refine hK _ ?_;clear hK K)
        all_goals
         refine zbp (zcb ?_)
         simp (disch:=omega) [zG11,List.getElem?_eq_getElem,aNews,aAppend,aBuildSlice,chunks]
         all_goals first|(rw [zmu,←hv,zqg (by omega)];done)
 ·have hz:varZ n=[]:=by unfold varZ;rw [if_neg hn]
  rw [hz]
  have hn':n<0∨562949953421311<n:=by omega
  refine zbq Tryz.func73 (by rfl) (by rfl) (by rw [Tryz.ntmps73];exact Nat.le_of_ble_eq_true rfl) rfl (by decide) ?_
  rw [Tryz.ntmps73]
  refine AW_k [(0,_)] ⟨rfl,trivial⟩ ?_
  refine AW_r rfl rfl λK hK=>?_
  simp (disch:=omega) [zG11,List.getElem?_eq_getElem,aNews,aAppend,aBuildSlice,chunks]
  refine hK _ ?_;clear hK K
  refine zbh (AW_r rfl rfl λK hK=>?_)
  simp (disch:=omega) [zG11,List.getElem?_eq_getElem,aNews,aAppend,aBuildSlice,chunks]
  refine zcz (zbd zcl (zbd zcl (zbd zcl zbl))) (l1In _ _ _) rfl ?_
  simp (disch:=omega) [zG11,List.getElem?_eq_getElem,aNews,aAppend,aBuildSlice,chunks]
  refine hK _ ?_;clear hK K
  refine zbg (t:=true) (by simp;omega) (λ_=>?_) (λh=>by simp at h)
  refine AW_r rfl rfl λK hK=>?_
  simp (disch:=omega) [zG11,List.getElem?_eq_getElem,aNews,aAppend,aBuildSlice,chunks]
  repeat' first|(refine ⟨by omega,?_⟩)|(intro _)
  refine hK _ ?_;clear hK K
  refine zbp (zcb ?_)
  simp (disch:=omega) [zG11,List.getElem?_eq_getElem,aNews,aAppend,aBuildSlice,chunks]
  all_goals first | omega|(simp_all;done)|(simp [List.take_of_length_le];done)|((try simp_all);(try simp (disch:=omega) only [zcf,Int.tdiv_eq_ediv_of_nonneg,Int.tmod_eq_emod_of_nonneg,and_true,true_and]);done)|((try simp_all);(try simp (disch:=omega) only [zcf,Int.tdiv_eq_ediv_of_nonneg,Int.tmod_eq_emod_of_nonneg,and_true,true_and] at *);omega)
def piece(s:List UInt8):List UInt8:=varZ s.length++s
theorem zqh(s:List UInt8)(hs:s.length≤1048576):PCall Tryz.prog 74 [.s s] (.s (piece s)):=by
 have hl:=zdj s.length
 refine zbq Tryz.func74 (by rfl) (by rfl) (by rw [Tryz.ntmps74];exact Nat.le_of_ble_eq_true rfl) rfl (by decide) ?_
 rw [Tryz.ntmps74]
 refine AW_k [(0,_)] ⟨rfl,trivial⟩ ?_
 refine AW_r rfl rfl λK hK=>?_
 simp (disch:=omega) [zcf,List.getElem?_eq_getElem,zfr,zsr,piece]
 repeat' first|(refine ⟨by omega,?_⟩)|(intro _)
 refine hK _ ?_;clear hK K
 refine AW_r rfl rfl λK hK=>?_
 simp (disch:=omega) [zcf,List.getElem?_eq_getElem,zfr,zsr,piece]
 repeat' first|(exfalso;omega)|(refine zcz (zbd zcl zbl) (zj4 _) rfl ?_;simp (disch:=omega) [zcf,List.getElem?_eq_getElem,zfr,zsr,piece])|(refine ⟨by omega,?_⟩)|(intro _)
 refine hK _ ?_;clear hK K
 refine zbp (zcb ?_)
 simp (disch:=omega) [zcf,List.getElem?_eq_getElem,zfr,zsr,piece]
 all_goals first | omega|(simp_all;done)|(simp [List.take_of_length_le];done)|((try simp_all);(try simp (disch:=omega) only [zcf,Int.tdiv_eq_ediv_of_nonneg,Int.tmod_eq_emod_of_nonneg,and_true,true_and]);done)|((try simp_all);(try simp (disch:=omega) only [zcf,Int.tdiv_eq_ediv_of_nonneg,Int.tmod_eq_emod_of_nonneg,and_true,true_and] at *);omega)
end Go.Proofs.YtodmafgmdlkhoaaGreat.Vs
end
section
namespace Go.Proofs.YtodmafgmdlkhoaaGreat.Vs
set_option linter.all false
set_option maxRecDepth 100000
def catM{α:Type}(f:α→List UInt8)(l:List α):List UInt8:=(l.map f).flatten
theorem zf8{α:Type}(f:α→List UInt8):catM f []=[]:=rfl
theorem zjf{α:Type}(f:α→List UInt8)(l:List α)(i:Nat)(h:i<l.length):catM f (l.take (i+1))=catM f (l.take i)++f l[i]:=by
 induction l generalizing i with
 | nil=>simp at h
 | cons x xs ih =>
  cases i with
  | zero=>simp [catM]
  | succ i =>
   have:=ih i (by simpa using h)
   simp only [catM,List.take_succ_cons,List.map_cons,List.flatten_cons,List.getElem_cons_succ,List.append_assoc] at this ⊢
   rw [this]
theorem zhh{α:Type}(f:α→List UInt8)(B:Nat):∀(l:List α),(∀x∈l,(f x).length≤B)→(catM f l).length≤l.length*B
 | [],_=>by simp [catM]
 | x :: xs,h=>by
  have h1:=zhh f B xs λy hy=>h y (by simp [hy])
  have h2:=h x (by simp)
  simp only [catM,List.map_cons,List.flatten_cons,List.length_append,List.length_cons] at h1 ⊢
  rw [Nat.succ_mul];omega
theorem zqi{α:Type}(f:α→List UInt8)(B:Nat)(l:List α)(h:∀x∈l,(f x).length≤B)(i:Nat):(catM f (l.take i)).length≤l.length*B:=by
 have h1:=zhh f B (l.take i) λx hx=>h x (List.mem_of_mem_take hx)
 have h2:(l.take i).length≤l.length:=by simp;omega
 exact Nat.le_trans h1 (Nat.mul_le_mul_right _ h2)
theorem zdb(s:List UInt8):(piece s).length≤7+s.length:=by
 have:=zdj s.length
 unfold piece;simp;omega
def showSnap(p:DtCSnap):List UInt8:=piece p.fName++(piece p.fTag++(varZ p.fChunks.length++catM piece p.fChunks))
def showSet(s:DtCSet):List UInt8:=piece s.fName++(varZ s.fSnaps.length++catM showSnap s.fSnaps)
def showSaid(x:DtSaid):List UInt8:=varZ x.fClient++(varZ x.fNo++piece x.fText)
def showSt(s:DtState):List UInt8:=varZ s.fCat.fSets.length++(catM showSet s.fCat.fSets++(varZ s.fSaid.length++catM showSaid s.fSaid))
noncomputable def showState(s:DtState):List UInt8:=bif decB (StateP s) then showSt s else []
theorem zwc{α:Type}{l:List α}{x:α}(h:x∈l):∃i:Nat,l[i]? = some x:=List.getElem?_of_mem h
theorem zwd{p:DtCSnap}(h:SnapP p):p.fName.length≤8∧p.fTag.length≤8∧p.fChunks.length≤4∧(∀x∈p.fChunks,x.length=8)∧(showSnap p).length≤97:=by
 obtain ⟨h1,h2,h3,h4,h5⟩:=h
 have a1:p.fName.length≤8:=h1.2.1
 have a2:p.fTag.length≤8:=by rcases h2 with h | h;simp [h];exact h.2.1
 have a3:∀x∈p.fChunks,x.length=8:=by intro x hx;obtain ⟨i,hi⟩:=zwc hx;exact h5 i x hi
 refine ⟨a1,a2,h4,a3,?_⟩
 have b1:=zdb p.fName
 have b2:=zdb p.fTag
 have b3:=zdj p.fChunks.length
 have b4:=zhh piece 15 p.fChunks (λx hx=>by have:=zdb x;have:=a3 x hx;omega)
 unfold showSnap
 simp only [List.length_append]
 omega
theorem set_bd{s:DtCSet}(h:SetP s):s.fName.length≤8∧s.fSnaps.length≤5∧(∀p∈s.fSnaps,SnapP p)∧(showSet s).length≤507:=by
 obtain ⟨h1,h2,h3⟩:=h
 have a3:∀p∈s.fSnaps,SnapP p:=by intro p hp;obtain ⟨i,hi⟩:=zwc hp;exact (h3 i p hi).1
 refine ⟨h1.2.1,h2,a3,?_⟩
 have b1:=zdb s.fName
 have b2:=h1.2.1
 have b3:=zdj s.fSnaps.length
 have b4:=zhh showSnap 97 s.fSnaps (λp hp=>(zwd (a3 p hp)).2.2.2.2)
 unfold showSet
 simp only [List.length_append]
 omega
theorem said_bd{x:DtSaid}(h:x.fText.length≤1048576):(showSaid x).length≤1048597:=by
 have b1:=zdb x.fText
 have b2:=zdj x.fClient
 have b3:=zdj x.fNo
 unfold showSaid
 simp only [List.length_append]
 omega
theorem saidSz(s:DtState)(hs:DtState.sz s≤1048576):s.fSaid.length≤1048576∧∀x∈s.fSaid,x.fText.length≤1048576:=by
 have h0:=zbv DtSaid.sz_nonneg s.fSaid
 have h1:=DtCatalog.sz_nonneg s.fCat
 simp only [DtState.sz,szS] at hs
 refine ⟨by omega,λx hx=>?_⟩
 have h2:=zcr DtSaid.sz_nonneg s.fSaid x hx
 simp only [DtSaid.sz] at h2
 omega
def zG13:=And.intro @zcf (And.intro @gE @tP)
theorem l26Texts(xs:List (List UInt8))(h4:xs.length≤4)(h8:∀x∈xs,x.length=8):PCall Tryz.prog 75 [.sl 1 (xs.map cS)] (.s (catM piece xs)):=by
 refine zbq Tryz.func75 (by rfl) (by rfl) (by rw [Tryz.ntmps75];exact Nat.le_of_ble_eq_true rfl) rfl (by decide) ?_
 rw [Tryz.ntmps75]
 refine AW_k [(0,_)] ⟨rfl,trivial⟩ ?_
 refine AW_r rfl rfl λK hK=>?_
 simp (disch:=omega) [zG13]
 repeat' first|(refine ⟨by omega,?_⟩)|(intro _)
 refine hK _ ?_;clear hK K
 refine AW_r rfl rfl λK hK=>?_
 simp (disch:=omega) [zG13]
 repeat' first|(refine ⟨by omega,?_⟩)|(intro _)
 refine hK _ ?_;clear hK K
 refine zbh ?_
 refine AW_r rfl rfl λK hK=>?_
 simp (disch:=omega) [zG13]
 repeat' first|(refine ⟨by omega,?_⟩)|(intro _)
 refine hK _ ?_;clear hK K
 refine zbj ?_
 refine zbs (λmM sS=>∃(i:Nat),mM=xs.length-i∧(i≤xs.length)∧sS = { env:=lkE [(0,.sl 1 (xs.map cS)),(3,.s (catM piece (xs.take i))),(4,(.g (.int .i64 ((i:Nat)))))],ob:=formOb [] [] }) ?_ ?_
 ·refine ⟨_,LeS.kp [(0,.sl 1 (xs.map cS)),(3,.s (catM piece (xs.take (0)))),(4,(.g (.int .i64 (((0):Nat)))))] (by simp [KpE,zb0,zbk,zbr];try simp [zf8]),_,0,rfl,?_,rfl⟩
  ·simp
 ·rintro mM sS ⟨i,rfl,hi,rfl⟩
  have hj:=zqi piece 15 xs (λx hx=>by have:=zdb x;have:=h8 x hx;omega) i
  refine zbh ?_
  refine AW_r rfl rfl λK hK=>?_
  simp (disch:=omega) [zG13,cS]
  repeat' first|(refine ⟨by omega,?_⟩)|(intro _)
  refine hK _ ?_;clear hK K
  refine zbg rfl (λhc1=>?_) (λhc1=>?_)
  ·try simp [zbf,zbn,zbc,zbb] at hc1
   all_goals
    have hst:=zjf piece xs i (by omega)
    have hx8:=h8 _ (List.getElem_mem (n:=i) (h:=by omega))
    have hp8:=zdb xs[i]
    refine zbi ?_
    refine zbm ?_
    refine zbh ?_
    refine zbj ?_
    refine zcv rfl rfl λK hK=>?_
    simp (disch:=omega) [zG13,cS]
    repeat' first|(exfalso;omega)|(refine zcz (zbd zdg zbl) (zqh _ (by omega)) rfl ?_;simp (disch:=omega) [zG13,cS])|(refine ⟨λ_=>?_,λ_=>?_⟩)|(refine ⟨by omega,?_⟩)|(intro _)
    all_goals (refine hK _ ?_;clear hK K)
    all_goals
     refine zbm ?_
     refine zcv rfl rfl λK hK=>?_
     simp (disch:=omega) [zG13,cS]
     repeat' first|(refine ⟨by omega,?_⟩)|(intro _)
     refine hK _ ?_;clear hK K
     refine ⟨_,LeS.kp [(0,.sl 1 (xs.map cS)),(3,.s (catM piece (xs.take (i+1)))),(4,(.g (.int .i64 (((i+1):Nat)))))] (by simp [KpE,zb0,zbk,zbr];try simp [hst,zf8]),_,?_,i+1,rfl,?_,rfl⟩
     ·omega
     ·omega
  ·try simp [zbf,zbn,zbc,zbb] at hc1
   all_goals
    have hi2:i=xs.length:=by omega
    subst hi2
    simp only [List.take_length] at *
    refine zbx ?_
    refine zbm ?_
    refine AW_r rfl rfl λK hK=>?_
    simp (disch:=omega) [zG13,cS]
    repeat' first|(exfalso;omega)|(refine ⟨λ_=>?_,λ_=>?_⟩)|(refine ⟨by omega,?_⟩)|(intro _)
    all_goals (refine hK _ ?_;clear hK K)
    all_goals
     refine zbp (zcb ?_)
     simp (disch:=omega) [zG13,cS]
     all_goals first | omega|(simp_all;done)|(simp [List.take_of_length_le];done)|((try simp_all);(try simp (disch:=omega) only [zcf,Int.tdiv_eq_ediv_of_nonneg,Int.tmod_eq_emod_of_nonneg,and_true,true_and]);done)|((try simp_all);(try simp (disch:=omega) only [zcf,Int.tdiv_eq_ediv_of_nonneg,Int.tmod_eq_emod_of_nonneg,and_true,true_and] at *);omega)
theorem zd4(s:DtState)(hs:DtState.sz s≤1048576):PCall Tryz.prog 26 [.agg (DtState.cells s)] (.s (showState s)):=by
 have ⟨hz,hl⟩:=stateSz s hs
 obtain ⟨-,hT⟩:=saidSz s hs
 by_cases hP:StateP s
 ·have hS:∀x∈s.fCat.fSets,SetP x:=by intro x hx;obtain ⟨i,hi⟩:=zwc hx;exact (hP.1.2 i x hi).1
  have h5:s.fCat.fSets.length≤5:=hP.1.1
  have hd:=zcc hP
  have hm:s.fSaid.length*1048597≤1048576*1048597:=Nat.mul_le_mul_right _ hl
  have v1:=zdj s.fCat.fSets.length
  have v2:=zdj s.fSaid.length
  have v3:=zhh showSet 507 s.fCat.fSets (λx hx=>(set_bd (hS x hx)).2.2.2)
  refine zbq Tryz.func26 (by rfl) (by rfl) (by rw [Tryz.ntmps26];exact Nat.le_of_ble_eq_true rfl) rfl (by decide) ?_
  rw [Tryz.ntmps26]
  refine AW_k [(0,_)] ⟨rfl,trivial⟩ ?_
  refine AW_r rfl rfl λK hK=>?_
  simp (disch:=omega) [zG13,DtState.cells,DtCatalog.cells,DtCSet.cells,DtCSnap.cells,DtSaid.cells,hd]
  repeat' first|(refine ⟨by omega,?_⟩)|(intro _)
  refine hK _ ?_;clear hK K
  refine zbh ?_
  refine AW_r rfl rfl λK hK=>?_
  simp (disch:=omega) [zG13,DtState.cells,DtCatalog.cells,DtCSet.cells,DtCSnap.cells,DtSaid.cells,hd]
  repeat' first|(exfalso;omega)|(refine zcz (zbd (zbz rfl) zbl) (zms _ (by omega)) rfl ?_;simp (disch:=omega) [zG13,DtState.cells,DtCatalog.cells,DtCSet.cells,DtCSnap.cells,DtSaid.cells,hd])|(refine ⟨by omega,?_⟩)|(intro _)
  refine hK _ ?_;clear hK K
  refine zbg rfl (λhc2=>?_) (λhc2=>?_)
  ·try simp [zbf,zbn,zbc,zbb] at hc2
   all_goals
    refine AW_r rfl rfl λK hK=>?_
    simp (disch:=omega) [zG13,DtState.cells,DtCatalog.cells,DtCSet.cells,DtCSnap.cells,DtSaid.cells,hd]
    repeat' first|(exfalso;omega)|(refine ⟨λ_=>?_,λ_=>?_⟩)|(refine ⟨by omega,?_⟩)|(intro _)
    all_goals (refine hK _ ?_;clear hK K)
    all_goals
     refine zbp (zcb ?_)
     simp (disch:=omega) [zG13,DtState.cells,DtCatalog.cells,DtCSet.cells,DtCSnap.cells,DtSaid.cells,hd]
     all_goals first|(simp [showState,hd,showSt];done)
  ·try simp [zbf,zbn,zbc,zbb] at hc2
   all_goals
    refine zbi ?_
    refine zbm ?_
    refine AW_r rfl rfl λK hK=>?_
    simp (disch:=omega) [zG13,DtState.cells,DtCatalog.cells,DtCSet.cells,DtCSnap.cells,DtSaid.cells,hd]
    repeat' first|(exfalso;omega)|(refine zcz (zbd zcl zbl) (zj4 _) rfl ?_;simp (disch:=omega) [zG13,DtState.cells,DtCatalog.cells,DtCSet.cells,DtCSnap.cells,DtSaid.cells,hd])|(refine ⟨λ_=>?_,λ_=>?_⟩)|(refine ⟨by omega,?_⟩)|(intro _)
    all_goals (refine hK _ ?_;clear hK K)
    all_goals
     refine zbh ?_
     refine AW_r rfl rfl λK hK=>?_
     simp (disch:=omega) [zG13,DtState.cells,DtCatalog.cells,DtCSet.cells,DtCSnap.cells,DtSaid.cells,hd]
     repeat' first|(refine ⟨by omega,?_⟩)|(intro _)
     refine hK _ ?_;clear hK K
     refine zbj ?_
     refine zbs (λmM sS=>∃(i:Nat),mM=s.fCat.fSets.length-i∧(i≤s.fCat.fSets.length)∧sS = { env:=lkE [(1,.ptr 32 0),(3,.s (varZ s.fCat.fSets.length++catM showSet (s.fCat.fSets.take i))),(4,(.g (.int .i64 ((i:Nat)))))],ob:=lk [(32,.cells (DtState.cells s))] }) ?_ ?_
     ·refine ⟨_,LeS.ko [(1,.ptr 32 0),(3,.s (varZ s.fCat.fSets.length++catM showSet (s.fCat.fSets.take (0)))),(4,(.g (.int .i64 (((0):Nat)))))] [(32,.cells (DtState.cells s))] (by simp [KpE,zb0,zbk,zbr,DtState.cells,DtCatalog.cells,DtCSet.cells,DtCSnap.cells];try simp [zf8]) (by simp [zG12,KpO,zcd,DtState.cells,DtCatalog.cells,DtCSet.cells,DtCSnap.cells];try rfl) (by rfl) (by simp) (by rfl),_,0,rfl,?_,rfl⟩
      ·simp
     ·rintro mM sS ⟨i,rfl,hi,rfl⟩
      have hb1:=zqi showSet 507 s.fCat.fSets (λx hx=>(set_bd (hS x hx)).2.2.2) i
      refine zbh ?_
      refine AW_r rfl rfl λK hK=>?_
      simp (disch:=omega) [zG13,DtState.cells,DtCatalog.cells,DtCSet.cells,DtCSnap.cells,DtSaid.cells,hd]
      repeat' first|(refine ⟨by omega,?_⟩)|(intro _)
      refine hK _ ?_;clear hK K
      refine zbg rfl (λhc3=>?_) (λhc3=>?_)
      ·try simp [zbf,zbn,zbc,zbb] at hc3
       all_goals
        have hst:=zjf showSet s.fCat.fSets i (by omega)
        have ⟨e1,e2,e3,e4⟩:=set_bd (hS _ (List.getElem_mem (n:=i) (h:=by omega)))
        have e5:=zdb (s.fCat.fSets[i]).fName
        have e6:=zdj (s.fCat.fSets[i]).fSnaps.length
        refine zbi ?_
        refine zbm ?_
        refine zbh ?_
        refine zbj ?_
        refine AW_r rfl rfl λK hK=>?_
        simp (disch:=omega) [zG13,DtState.cells,DtCatalog.cells,DtCSet.cells,DtCSnap.cells,DtSaid.cells,hd]
        repeat' first|(exfalso;omega)|(refine ⟨λ_=>?_,λ_=>?_⟩)|(refine ⟨by omega,?_⟩)|(intro _)
        all_goals (refine hK _ ?_;clear hK K)
        all_goals
         refine AW_q rfl mix (by kernel_rfl) rfl λK hK=>?_
         simp (disch:=omega) [zG13,DtState.cells,DtCatalog.cells,DtCSet.cells,DtCSnap.cells,DtSaid.cells,hd]
         repeat' first|(exfalso;omega)|(refine zcz (zbd zdg zbl) (zqh _ (by omega)) rfl ?_;simp (disch:=omega) [zG13,DtState.cells,DtCatalog.cells,DtCSet.cells,DtCSnap.cells,DtSaid.cells,hd])|(refine zcz (zbd zcl zbl) (zj4 _) rfl ?_;simp (disch:=omega) [zG13,DtState.cells,DtCatalog.cells,DtCSet.cells,DtCSnap.cells,DtSaid.cells,hd])|(refine ⟨by omega,?_⟩)|(intro _)
         refine hK _ ?_;clear hK K
         refine AW_r rfl rfl λK hK=>?_
         simp (disch:=omega) [zG13,DtState.cells,DtCatalog.cells,DtCSet.cells,DtCSnap.cells,DtSaid.cells,hd]
         repeat' first|(refine ⟨by omega,?_⟩)|(intro _)
         refine hK _ ?_;clear hK K
         refine zbj ?_
         refine zbs (λmM sS=>∃(k:Nat),mM=(s.fCat.fSets[i]).fSnaps.length-k∧(k≤(s.fCat.fSets[i]).fSnaps.length)∧sS = { env:=lkE [(1,.ptr 32 0),(3,.s (varZ s.fCat.fSets.length++(catM showSet (s.fCat.fSets.take i)++(piece (s.fCat.fSets[i]).fName++(varZ (s.fCat.fSets[i]).fSnaps.length++catM showSnap ((s.fCat.fSets[i]).fSnaps.take k)))))),(4,(.g (.int .i64 ((i:Nat))))),(5,.ptr 96 0),(6,(.g (.int .i64 ((k:Nat)))))],ob:=lk [(32,.cells (DtState.cells s)),(96,.cells (DtCSet.cells s.fCat.fSets[i]))] }) ?_ ?_
         ·refine ⟨_,LeS.ko [(1,.ptr 32 0),(3,.s (varZ s.fCat.fSets.length++(catM showSet (s.fCat.fSets.take i)++(piece (s.fCat.fSets[i]).fName++(varZ (s.fCat.fSets[i]).fSnaps.length++catM showSnap ((s.fCat.fSets[i]).fSnaps.take (0))))))),(4,(.g (.int .i64 ((i:Nat))))),(5,.ptr 96 0),(6,(.g (.int .i64 (((0):Nat)))))] [(32,.cells (DtState.cells s)),(96,.cells (DtCSet.cells s.fCat.fSets[i]))] (by simp [KpE,zb0,zbk,zbr,DtState.cells,DtCatalog.cells,DtCSet.cells,DtCSnap.cells];try simp [zf8]) (by simp [zG12,KpO,zcd,DtState.cells,DtCatalog.cells,DtCSet.cells,DtCSnap.cells];try rfl) (by rfl) (by simp) (by rfl),_,0,rfl,?_,rfl⟩
          ·simp
         ·rintro mM sS ⟨k,rfl,hk,rfl⟩
          have hb2:=zqi showSnap 97 (s.fCat.fSets[i]).fSnaps (λp hp=>(zwd (e3 p hp)).2.2.2.2) k
          refine zbh ?_
          refine AW_r rfl rfl λK hK=>?_
          simp (disch:=omega) [zG13,DtState.cells,DtCatalog.cells,DtCSet.cells,DtCSnap.cells,DtSaid.cells,hd]
          repeat' first|(refine ⟨by omega,?_⟩)|(intro _)
          refine hK _ ?_;clear hK K
          refine zbg rfl (λhc4=>?_) (λhc4=>?_)
          ·try simp [zbf,zbn,zbc,zbb] at hc4
           all_goals
            have hsp:=zjf showSnap (s.fCat.fSets[i]).fSnaps k (by omega)
            have ⟨f1,f2,f3,f4,f5⟩:=zwd (e3 _ (List.getElem_mem (n:=k) (h:=by omega)))
            have f6:=zdb ((s.fCat.fSets[i]).fSnaps[k]).fName
            have f7:=zdb ((s.fCat.fSets[i]).fSnaps[k]).fTag
            have f8:=zdj ((s.fCat.fSets[i]).fSnaps[k]).fChunks.length
            have f9:=zhh piece 15 ((s.fCat.fSets[i]).fSnaps[k]).fChunks (λx hx=>by have:=zdb x;have:=f4 x hx;omega)
            refine zbi ?_
            refine zbm ?_
            refine zbh ?_
            refine zbj ?_
            refine AW_r rfl rfl λK hK=>?_
            simp (disch:=omega) [zG13,DtState.cells,DtCatalog.cells,DtCSet.cells,DtCSnap.cells,DtSaid.cells,hd]
            repeat' first|(exfalso;omega)|(refine ⟨λ_=>?_,λ_=>?_⟩)|(refine ⟨by omega,?_⟩)|(intro _)
            all_goals (refine hK _ ?_;clear hK K)
            all_goals
             refine zzh rfl mix (by kernel_rfl) rfl λK hK=>?_
             simp (disch:=omega) [zG13,DtState.cells,DtCatalog.cells,DtCSet.cells,DtCSnap.cells,DtSaid.cells,hd]
             repeat' first|(exfalso;omega)|(refine zcz (zbd zdg zbl) (zqh _ (by omega)) rfl ?_;simp (disch:=omega) [zG13,DtState.cells,DtCatalog.cells,DtCSet.cells,DtCSnap.cells,DtSaid.cells,hd])|(refine zcz (zbd zcl zbl) (zj4 _) rfl ?_;simp (disch:=omega) [zG13,DtState.cells,DtCatalog.cells,DtCSet.cells,DtCSnap.cells,DtSaid.cells,hd])|(refine zcz (zbd zdm zbl) (l26Texts _ (by omega) (by assumption)) rfl ?_;simp (disch:=omega) [zG13,DtState.cells,DtCatalog.cells,DtCSet.cells,DtCSnap.cells,DtSaid.cells,hd])|(refine ⟨by omega,?_⟩)|(intro _)
             refine hK _ ?_;clear hK K
             refine zbm ?_
             refine zcv rfl rfl λK hK=>?_
             simp (disch:=omega) [zG13,DtState.cells,DtCatalog.cells,DtCSet.cells,DtCSnap.cells,DtSaid.cells,hd]
             repeat' first|(refine ⟨by omega,?_⟩)|(intro _)
             refine hK _ ?_;clear hK K
             refine ⟨_,LeS.ko [(1,.ptr 32 0),(3,.s (varZ s.fCat.fSets.length++(catM showSet (s.fCat.fSets.take i)++(piece (s.fCat.fSets[i]).fName++(varZ (s.fCat.fSets[i]).fSnaps.length++catM showSnap ((s.fCat.fSets[i]).fSnaps.take (k+1))))))),(4,(.g (.int .i64 ((i:Nat))))),(5,.ptr 96 0),(6,(.g (.int .i64 (((k+1):Nat)))))] [(32,.cells (DtState.cells s)),(96,.cells (DtCSet.cells s.fCat.fSets[i]))] (by simp [KpE,zb0,zbk,zbr,DtState.cells,DtCatalog.cells,DtCSet.cells,DtCSnap.cells];try simp [hsp,zf8,showSnap]) (by simp [zG12,KpO,zcd,DtState.cells,DtCatalog.cells,DtCSet.cells,DtCSnap.cells];try rfl) (by rfl) (by simp) (by rfl),_,?_,k+1,rfl,?_,rfl⟩
             ·omega
             ·omega
          ·try simp [zbf,zbn,zbc,zbb] at hc4
           all_goals
            have hk2:k=(s.fCat.fSets[i]).fSnaps.length:=by omega
            subst hk2
            simp only [List.take_length] at *
            refine zbx ?_
            refine zbm ?_
            refine zcv rfl rfl λK hK=>?_
            simp (disch:=omega) [zG13,DtState.cells,DtCatalog.cells,DtCSet.cells,DtCSnap.cells,DtSaid.cells,hd]
            repeat' first|(exfalso;omega)|(refine ⟨λ_=>?_,λ_=>?_⟩)|(refine ⟨by omega,?_⟩)|(intro _)
            all_goals (refine hK _ ?_;clear hK K)
            all_goals
             refine ⟨_,LeS.ko [(1,.ptr 32 0),(3,.s (varZ s.fCat.fSets.length++catM showSet (s.fCat.fSets.take (i+1)))),(4,(.g (.int .i64 (((i+1):Nat)))))] [(32,.cells (DtState.cells s))] (by simp [KpE,zb0,zbk,zbr,DtState.cells,DtCatalog.cells,DtCSet.cells,DtCSnap.cells];try simp [hst,zf8,showSet]) (by simp [zG12,KpO,zcd,DtState.cells,DtCatalog.cells,DtCSet.cells,DtCSnap.cells];try rfl) (by rfl) (by simp) (by rfl),_,?_,i+1,rfl,?_,rfl⟩
             ·omega
             ·omega
      ·try simp [zbf,zbn,zbc,zbb] at hc3
       all_goals
        have hi2:i=s.fCat.fSets.length:=by omega
        subst hi2
        simp only [List.take_length] at *
        refine zbx ?_
        refine zbm ?_
        refine AW_r rfl rfl λK hK=>?_
        simp (disch:=omega) [zG13,DtState.cells,DtCatalog.cells,DtCSet.cells,DtCSnap.cells,DtSaid.cells,hd]
        repeat' first|(exfalso;omega)|(refine zcz (zbd zcl zbl) (zj4 _) rfl ?_;simp (disch:=omega) [zG13,DtState.cells,DtCatalog.cells,DtCSet.cells,DtCSnap.cells,DtSaid.cells,hd])|(refine ⟨λ_=>?_,λ_=>?_⟩)|(refine ⟨by omega,?_⟩)|(intro _)
        all_goals (refine hK _ ?_;clear hK K)
        all_goals
         refine zbh ?_
         refine AW_r rfl rfl λK hK=>?_
         simp (disch:=omega) [zG13,DtState.cells,DtCatalog.cells,DtCSet.cells,DtCSnap.cells,DtSaid.cells,hd]
         repeat' first|(refine ⟨by omega,?_⟩)|(intro _)
         refine hK _ ?_;clear hK K
         refine zbj ?_
         refine zbs (λmM sS=>∃(i:Nat),mM=s.fSaid.length-i∧(i≤s.fSaid.length)∧sS = { env:=lkE [(1,.ptr 32 0),(3,.s (varZ s.fCat.fSets.length++(catM showSet s.fCat.fSets++(varZ s.fSaid.length++catM showSaid (s.fSaid.take i))))),(8,(.g (.int .i64 ((i:Nat)))))],ob:=lk [(32,.cells (DtState.cells s))] }) ?_ ?_
         ·refine ⟨_,LeS.ko [(1,.ptr 32 0),(3,.s (varZ s.fCat.fSets.length++(catM showSet s.fCat.fSets++(varZ s.fSaid.length++catM showSaid (s.fSaid.take (0)))))),(8,(.g (.int .i64 (((0):Nat)))))] [(32,.cells (DtState.cells s))] (by simp [KpE,zb0,zbk,zbr,DtState.cells,DtCatalog.cells,DtSaid.cells];try simp [zf8]) (by simp [zG12,KpO,zcd,DtState.cells,DtCatalog.cells,DtSaid.cells];try rfl) (by rfl) (by simp) (by rfl),_,0,rfl,?_,rfl⟩
          ·simp
         ·rintro mM sS ⟨i,rfl,hi,rfl⟩
          have hb3:=zqi showSaid 1048597 s.fSaid (λx hx=>said_bd (hT x hx)) i
          refine zbh ?_
          refine AW_r rfl rfl λK hK=>?_
          simp (disch:=omega) [zG13,DtState.cells,DtCatalog.cells,DtCSet.cells,DtCSnap.cells,DtSaid.cells,hd]
          repeat' first|(refine ⟨by omega,?_⟩)|(intro _)
          refine hK _ ?_;clear hK K
          refine zbg rfl (λhc5=>?_) (λhc5=>?_)
          ·try simp [zbf,zbn,zbc,zbb] at hc5
           all_goals
            have hst:=zjf showSaid s.fSaid i (by omega)
            have g1:=hT _ (List.getElem_mem (n:=i) (h:=by omega))
            have g2:=zdb (s.fSaid[i]).fText
            have g3:=zdj (s.fSaid[i]).fClient
            have g4:=zdj (s.fSaid[i]).fNo
            refine zbi ?_
            refine zbm ?_
            refine zbh ?_
            refine zbj ?_
            refine zzh rfl mix (by kernel_rfl) rfl λK hK=>?_
            simp (disch:=omega) [zG13,DtState.cells,DtCatalog.cells,DtCSet.cells,DtCSnap.cells,DtSaid.cells,hd]
            repeat' first|(exfalso;omega)|(refine zcz (zbd zcl zbl) (zj4 _) rfl ?_;simp (disch:=omega) [zG13,DtState.cells,DtCatalog.cells,DtCSet.cells,DtCSnap.cells,DtSaid.cells,hd])|(refine zcz (zbd zdg zbl) (zqh _ (by omega)) rfl ?_;simp (disch:=omega) [zG13,DtState.cells,DtCatalog.cells,DtCSet.cells,DtCSnap.cells,DtSaid.cells,hd])|(refine ⟨λ_=>?_,λ_=>?_⟩)|(refine ⟨by omega,?_⟩)|(intro _)
            all_goals (refine hK _ ?_;clear hK K)
            all_goals
             refine zbm ?_
             refine zcv rfl rfl λK hK=>?_
             simp (disch:=omega) [zG13,DtState.cells,DtCatalog.cells,DtCSet.cells,DtCSnap.cells,DtSaid.cells,hd]
             repeat' first|(refine ⟨by omega,?_⟩)|(intro _)
             refine hK _ ?_;clear hK K
             refine ⟨_,LeS.ko [(1,.ptr 32 0),(3,.s (varZ s.fCat.fSets.length++(catM showSet s.fCat.fSets++(varZ s.fSaid.length++catM showSaid (s.fSaid.take (i+1)))))),(8,(.g (.int .i64 (((i+1):Nat)))))] [(32,.cells (DtState.cells s))] (by simp [KpE,zb0,zbk,zbr,DtState.cells,DtCatalog.cells,DtSaid.cells];try simp [hst,zf8,showSaid]) (by simp [zG12,KpO,zcd,DtState.cells,DtCatalog.cells,DtSaid.cells];try rfl) (by rfl) (by simp) (by rfl),_,?_,i+1,rfl,?_,rfl⟩
             ·omega
             ·omega
          ·try simp [zbf,zbn,zbc,zbb] at hc5
           all_goals
            have hi2:i=s.fSaid.length:=by omega
            subst hi2
            simp only [List.take_length] at *
            refine zbx ?_
            refine zbm ?_
            refine AW_r rfl rfl λK hK=>?_
            simp (disch:=omega) [zG13,DtState.cells,DtCatalog.cells,DtCSet.cells,DtCSnap.cells,DtSaid.cells,hd]
            repeat' first|(exfalso;omega)|(refine ⟨λ_=>?_,λ_=>?_⟩)|(refine ⟨by omega,?_⟩)|(intro _)
            all_goals (refine hK _ ?_;clear hK K)
            all_goals
             refine zbp (zcb ?_)
             simp (disch:=omega) [zG13,DtState.cells,DtCatalog.cells,DtCSet.cells,DtCSnap.cells,DtSaid.cells,hd]
             all_goals first|(simp [showState,hd,showSt];done)
 ·have hd:=zco hP
  refine zbq Tryz.func26 (by rfl) (by rfl) (by rw [Tryz.ntmps26];exact Nat.le_of_ble_eq_true rfl) rfl (by decide) ?_
  rw [Tryz.ntmps26]
  refine AW_k [(0,_)] ⟨rfl,trivial⟩ ?_
  refine AW_r rfl rfl λK hK=>?_
  simp (disch:=omega) [zG13,DtState.cells,DtCatalog.cells,hd]
  refine hK _ ?_;clear hK K
  refine zbh (AW_r rfl rfl λK hK=>?_)
  simp (disch:=omega) [zG13,DtState.cells,DtCatalog.cells,hd]
  refine zcz (zbd (zbz rfl) zbl) (zms _ hs) rfl ?_
  simp (disch:=omega) [zG13,DtState.cells,DtCatalog.cells,hd]
  refine hK _ ?_;clear hK K
  refine zrg (by simp) ?_
  refine AW_r rfl rfl λK hK=>?_
  simp (disch:=omega) [zG13,DtState.cells,DtCatalog.cells,hd]
  repeat' first|(refine ⟨by omega,?_⟩)|(intro _)
  refine hK _ ?_;clear hK K
  refine zbp (zcb ?_)
  simp (disch:=omega) [zG13,DtState.cells,DtCatalog.cells,hd,showState,hd]
  all_goals first | omega|(simp_all;done)|(simp [List.take_of_length_le];done)|((try simp_all);(try simp (disch:=omega) only [zcf,Int.tdiv_eq_ediv_of_nonneg,Int.tmod_eq_emod_of_nonneg,and_true,true_and]);done)|((try simp_all);(try simp (disch:=omega) only [zcf,Int.tdiv_eq_ediv_of_nonneg,Int.tmod_eq_emod_of_nonneg,and_true,true_and] at *);omega)
end Go.Proofs.YtodmafgmdlkhoaaGreat.Vs
end
section
namespace Go.Proofs.YtodmafgmdlkhoaaGreat.Vs
set_option linter.all false
set_option maxRecDepth 100000
theorem del_eq{α:Type}(l:List α)(k:Nat)(h:k<l.length):List.take ((k:Int)+((l.length-(k+1):Nat):Int)).toNat (l.take k++((l.drop (k+1)).take (l.length-(k+1))++l.drop (k+(l.length-(k+1)))))=l.take k++l.drop (k+1):=by
 have e:((k:Int)+((l.length-(k+1):Nat):Int)).toNat=k+(l.length-(k+1)):=by omega
 rw [e,List.take_of_length_le (l:=l.drop (k+1)) (by simp),←List.append_assoc,List.take_append_of_le_length (by simp;omega),List.take_of_length_le (by simp;omega)]
theorem zc5{l:List (List AV)}(h:scR l=true)(k:Nat):scR (l.take k)=true:=List.all_eq_true.2 λx hx=>List.all_eq_true.1 h x (List.mem_of_mem_take hx)
theorem zdk{l:List (List AV)}(h:scR l=true)(k:Nat):scR (l.drop k)=true:=List.all_eq_true.2 λx hx=>List.all_eq_true.1 h x (List.mem_of_mem_drop hx)
theorem zzy(rows:List (List AV))(hs:scR rows=true)(k:Nat)(hk:k<rows.length)(hl:rows.length≤1048576):XCall Tryz.prog 57 [.arr 8 0 rows.length,(.g (.int .i64 ((k:Nat)))),(.g (.int .i64 ((k:Nat)+1)))] [.own 2 rows] (.arr 16 0 (rows.length-1)) [.dead] [.own 2 (rows.take k++rows.drop (k+1))]:=by
 refine zbu Tryz.func57 (by rfl) (by rfl) (by rw [Tryz.ntmps57];exact Nat.le_of_ble_eq_true rfl) rfl (by simp) rfl rfl ?_
 rw [Tryz.ntmps57]
 refine zhs (.win 2 rows) (by simp [cvO]<;>assumption) ?_
 refine AW_k [(0,_),(1,_),(2,_)] ⟨rfl,rfl,rfl,trivial⟩ ?_
 refine zvz (sz:=2) (xs:=rows) 8 (by simp [zG12]) (by omega) λc0 hc0=>?_
 refine AW_x rfl rfl λK hK=>?_
 simp (disch:=omega)
 repeat' first|(refine ⟨by omega,?_⟩)|(intro _)
 refine hK _ ?_;clear hK K
 refine AW_x rfl rfl λK hK=>?_
 simp (disch:=omega)
 repeat' first|(refine ⟨by omega,?_⟩)|(intro _)
 refine hK _ ?_;clear hK K
 refine zbh ?_
 refine AW_x rfl rfl λK hK=>?_
 simp (disch:=omega)
 repeat' first|(refine ⟨by omega,?_⟩)|(intro _)
 refine hK _ ?_;clear hK K
 refine zbg rfl (λhc1=>?_) (λhc1=>?_)
 ·try simp at hc1
  all_goals
   refine AW_x rfl rfl λK hK=>?_
   simp (disch:=omega)
   repeat' first|(exfalso;omega)|(refine ⟨λ_=>?_,λ_=>?_⟩)|(refine ⟨by omega,?_⟩)|(intro _)
   all_goals (refine hK _ ?_;clear hK K)
   all_goals
    refine zbp (zce [8] [] (by simp [zG12,List.range_succ]) (by simp) ?_)
    simp (disch:=omega)
    all_goals exact ⟨by omega,zc5 hs _,zdk hs _⟩
 ·try simp at hc1
  all_goals
   refine zbi ?_
   refine zbm ?_
   refine AW_x rfl rfl λK hK=>?_
   simp (disch:=omega)
   repeat' first|(exfalso;omega)|(refine ⟨λ_=>?_,λ_=>?_⟩)|(refine ⟨by omega,?_⟩)|(intro _)
   all_goals (refine hK _ ?_;clear hK K)
   all_goals
    refine AW_d rfl mix (by kernel_rfl) (by kernel_rfl) λK hK=>?_
    simp (disch:=omega)
    repeat' first|(refine ⟨by omega,?_⟩)|(intro _)
    refine hK _ _ (by kernel_rfl) ?_;clear hK K
    refine AW_x rfl rfl λK hK=>?_
    simp (disch:=omega)
    repeat' first|(refine ⟨by omega,?_⟩)|(intro _)
    refine hK _ ?_;clear hK K
    refine zd3 (LeS.cwin (sz:=2) (c0:=c0) (xs:=rows.take k++rows.drop (k+1)) 8 (by simp [zG12];exact del_eq rows k hk)) ?_
    refine AW_x rfl rfl λK hK=>?_
    simp (disch:=omega)
    repeat' first|(refine ⟨by omega,?_⟩)|(intro _)
    refine hK _ ?_;clear hK K
    refine zbp (zce [8] [] (by simp [zG12,List.range_succ]) (by simp) ?_)
    simp (disch:=omega)
    all_goals exact ⟨by omega,zc5 hs _,zdk hs _⟩
theorem zgh{y:List AV}(hy:∀x∈y,scal0 x=true):scR [y]=true:=by simp [scR];exact hy
theorem take_A{α:Type}(A B:List α)(n:Nat)(h:n=A.length):(A++B).take n=A:=by subst h;simp
theorem drop_A{α:Type}(A B:List α)(n:Nat)(h:n=A.length):(A++B).drop n=B:=by subst h;simp
theorem zss{α:Type}(l:List α)(k:Nat)(h:k<l.length):List.take k (List.take (k+1) l++(List.take (l.length-k) (List.drop k l)++List.drop (k+1+(l.length-k)) l))=l.take k:=by
 rw [List.take_append_of_le_length (by simp;omega),List.take_take,Nat.min_eq_left (by omega)]
theorem zn6{α:Type}(y:α)(n k:Nat)(h:k<n):List.take (n+1-k) [y]=[y]:=List.take_of_length_le (by simp;omega)
theorem zst{α:Type}(l:List α)(k:Nat)(h:k<l.length):List.drop (k+1) (List.take (k+1) l++(List.take (l.length-k) (List.drop k l)++List.drop (k+1+(l.length-k)) l))=l.drop k:=by
 rw [drop_A _ _ _ (by simp;omega),List.take_of_length_le (l:=List.drop k l) (by simp),List.drop_eq_nil_of_le (i:=k+1+(l.length-k)) (by omega),List.append_nil]
theorem ins_q0{α:Type}(l:List α)(y z:α)(k:Nat)(h:k<l.length):List.take k (List.take k l++List.replicate (l.length+1-k) z)++(List.take (l.length+1-k) [y]++List.drop (k+1) (List.take k l++List.replicate (l.length+1-k) z))=(l.take k++[y])++List.replicate (l.length-k) z:=by
 rw [take_A _ _ _ (by simp;omega),zn6 y _ _ h,List.drop_append,List.drop_eq_nil_of_le (by simp;omega)]
 have e:k+1-(List.take k l).length=1:=by simp;omega
 rw [e,List.drop_replicate,show l.length+1-k-1=l.length-k by omega]
 simp
theorem zsu{α:Type}(l:List α)(y z:α)(k:Nat)(h:k<l.length):List.take (k+1) (List.take k (List.take k l++List.replicate (l.length+1-k) z)++(List.take (l.length+1-k) [y]++List.drop (k+1) (List.take k l++List.replicate (l.length+1-k) z)))=l.take k++[y]:=by
 rw [ins_q0 l y z k h,take_A _ _ _ (by simp;omega)]
theorem zsv{α:Type}(l:List α)(y z:α)(k:Nat)(h:k<l.length):List.drop (k+1+(l.length-k)) (List.take k (List.take k l++List.replicate (l.length+1-k) z)++(List.take (l.length+1-k) [y]++List.drop (k+1) (List.take k l++List.replicate (l.length+1-k) z)))=[]:=by
 rw [ins_q0 l y z k h,List.drop_eq_nil_of_le (by simp;omega)]
theorem zsw{α:Type}(l:List α)(k:Nat):List.take (l.length-k) (List.drop k l)=l.drop k:=List.take_of_length_le (by simp)
attribute [local simp] List.range_succ
theorem zzz(rows:List (List AV))(hs:scR rows=true)(y:List AV)(hy:∀x∈y,scal0 x=true)(k:Nat)(hk:k≤rows.length)(hl:rows.length≤1048576):XCall Tryz.prog 112 [.arr 8 0 rows.length,(.g (.int .i64 ((k:Nat)))),.arr 9 0 1] [.own 2 rows,.own 2 [y]] (.arr 16 0 (rows.length+1)) [.dead,.dead] [.own 2 (rows.take k++y :: rows.drop k)]:=by
 refine zbu Tryz.func112 (by rfl) (by rfl) (by rw [Tryz.ntmps112];exact Nat.le_of_ble_eq_true rfl) rfl (by simp) rfl rfl ?_
 rw [Tryz.ntmps112]
 refine AW_x2 (.win 2 rows) (.win 2 [y]) (by simp [cvO]<;>assumption) (by simp [cvO]<;>assumption) ?_
 refine AW_k [(0,_),(1,_),(2,_)] ⟨rfl,rfl,rfl,trivial⟩ ?_
 refine AW_x rfl rfl λK hK=>?_
 simp (disch:=omega)
 repeat' first|(refine ⟨by omega,?_⟩)|(intro _)
 refine hK _ ?_;clear hK K
 refine AW_x rfl rfl λK hK=>?_
 simp (disch:=omega)
 repeat' first|(refine ⟨by omega,?_⟩)|(intro _)
 refine hK _ ?_;clear hK K
 refine AW_x rfl rfl λK hK=>?_
 simp (disch:=omega)
 repeat' first|(refine ⟨by omega,?_⟩)|(intro _)
 refine hK _ ?_;clear hK K
 refine zbh ?_
 refine AW_x rfl rfl λK hK=>?_
 simp (disch:=omega)
 repeat' first|(refine ⟨by omega,?_⟩)|(intro _)
 refine hK _ ?_;clear hK K
 refine zbg rfl (λhc2=>?_) (λhc2=>?_)
 ·try simp at hc2
  all_goals
   refine AW_x rfl rfl λK hK=>?_
   simp (disch:=omega)
   repeat' first|(exfalso;omega)|(refine ⟨λ_=>?_,λ_=>?_⟩)|(refine ⟨by omega,?_⟩)|(intro _)
   all_goals (refine hK _ ?_;clear hK K)
   all_goals
    refine zbp (zce [8] [] (by simp [zG12,List.range_succ]) (by simp) ?_)
    simp (disch:=omega)
    all_goals first | omega|(exfalso;simp_all;done)|(obtain rfl:k=rows.length:=(by omega);rw [List.take_of_length_le (by omega),List.drop_eq_nil_of_le (by omega)];exact ⟨rfl,hs,hy⟩)|(have hkl:k<rows.length:=(by omega);rw [zss rows k hkl,zn6 y _ _ hkl,zst rows k hkl];exact ⟨rfl,zc5 hs _,zgh hy,zdk hs _⟩)|(have hkl:k<rows.length:=(by omega);rw [zsu rows y _ k hkl,zsw,zsv rows y _ k hkl];exact ⟨by simp,by rw [zgf,zc5 hs,zgh hy];rfl,zdk hs _,rfl⟩) | trace_state
 ·try simp at hc2
  all_goals
   refine zbi ?_
   refine zbm ?_
   refine AW_x rfl rfl λK hK=>?_
   simp (disch:=omega)
   repeat' first|(exfalso;omega)|(refine ⟨λ_=>?_,λ_=>?_⟩)|(refine ⟨by omega,?_⟩)|(intro _)
   all_goals (refine hK _ ?_;clear hK K)
   all_goals
    refine zbh ?_
    refine AW_x rfl rfl λK hK=>?_
    simp (disch:=omega)
    repeat' first|(refine ⟨by omega,?_⟩)|(intro _)
    refine hK _ ?_;clear hK K
    refine zbg rfl (λhc3=>?_) (λhc3=>?_)
    ·try simp at hc3
     all_goals
      refine AW_x rfl rfl λK hK=>?_
      simp (disch:=omega)
      repeat' first|(exfalso;omega)|(refine ⟨λ_=>?_,λ_=>?_⟩)|(refine ⟨by omega,?_⟩)|(intro _)
      all_goals (refine hK _ ?_;clear hK K)
      all_goals
       refine zbp (zce [416] [] (by simp [zG12,List.range_succ]) (by simp) ?_)
       simp (disch:=omega)
       all_goals first | omega|(exfalso;simp_all;done)|(obtain rfl:k=rows.length:=(by omega);rw [List.take_of_length_le (by omega),List.drop_eq_nil_of_le (by omega)];exact ⟨rfl,hs,hy⟩)|(have hkl:k<rows.length:=(by omega);rw [zss rows k hkl,zn6 y _ _ hkl,zst rows k hkl];exact ⟨rfl,zc5 hs _,zgh hy,zdk hs _⟩)|(have hkl:k<rows.length:=(by omega);rw [zsu rows y _ k hkl,zsw,zsv rows y _ k hkl];exact ⟨by simp,by rw [zgf,zc5 hs,zgh hy];rfl,zdk hs _,rfl⟩) | trace_state
    ·try simp at hc3
     all_goals
      refine zbi ?_
      refine zbm ?_
      refine zbh ?_
      refine zvz (sz:=2) (xs:=rows) 8 (by simp [zG12]) (by omega) λc0 hc0=>?_
      refine AW_x rfl rfl λK hK=>?_
      simp (disch:=omega)
      repeat' first|(exfalso;omega)|(refine ⟨λ_=>?_,λ_=>?_⟩)|(refine ⟨by omega,?_⟩)|(intro _)
      all_goals (refine hK _ ?_;clear hK K)
      all_goals
       refine zbg rfl (λhc4=>?_) (λhc4=>?_)
       ·try simp at hc4
        all_goals
         refine AW_x rfl rfl λK hK=>?_
         simp (disch:=omega)
         repeat' first|(exfalso;omega)|(refine ⟨λ_=>?_,λ_=>?_⟩)|(refine ⟨by omega,?_⟩)|(intro _)
         all_goals (refine hK _ ?_;clear hK K)
         all_goals
          refine zvz (sz:=2) 656 (by simp [zG12];exact rfl) (by simp;omega) λc1 hc1'=>?_
          have hc1:rows.length+1≤c1:=by simp at hc1';omega
          refine AW_x rfl rfl λK hK=>?_
          simp (disch:=omega)
          repeat' first|(refine ⟨by omega,?_⟩)|(intro _)
          refine hK _ ?_;clear hK K
          refine AW_d rfl mix (by kernel_rfl) (by kernel_rfl) λK hK=>?_
          simp (disch:=omega)
          repeat' first|(refine ⟨by omega,?_⟩)|(intro _)
          refine hK _ _ (by kernel_rfl) ?_;clear hK K
          refine zd3 (LeS.cwin (sz:=2) (c0:=c1) 656 (by simp [zG12];exact rfl)) ?_
          refine AW_x rfl rfl λK hK=>?_
          simp (disch:=omega)
          repeat' first|(refine ⟨by omega,?_⟩)|(intro _)
          refine hK _ ?_;clear hK K
          refine zbp (zce [656] [] (by simp [zG12,List.range_succ]) (by simp) ?_)
          simp (disch:=omega)
          all_goals first | omega|(exfalso;simp_all;done)|(obtain rfl:k=rows.length:=(by omega);rw [List.take_of_length_le (by omega),List.drop_eq_nil_of_le (by omega)];exact ⟨rfl,hs,hy⟩)|(have hkl:k<rows.length:=(by omega);rw [zss rows k hkl,zn6 y _ _ hkl,zst rows k hkl];exact ⟨rfl,zc5 hs _,zgh hy,zdk hs _⟩)|(have hkl:k<rows.length:=(by omega);rw [zsu rows y _ k hkl,zsw,zsv rows y _ k hkl];exact ⟨by simp,by rw [zgf,zc5 hs,zgh hy];rfl,zdk hs _,rfl⟩) | trace_state
       ·try simp at hc4
        all_goals
         refine zbi ?_
         refine zbm ?_
         refine AW_x rfl rfl λK hK=>?_
         simp (disch:=omega)
         repeat' first|(exfalso;omega)|(refine ⟨λ_=>?_,λ_=>?_⟩)|(refine ⟨by omega,?_⟩)|(intro _)
         all_goals (refine hK _ ?_;clear hK K)
         all_goals
          refine zbh ?_
          refine AW_x rfl rfl λK hK=>?_
          simp (disch:=omega)
          repeat' first|(exfalso;omega)|(refine XKd_o (sz:=2) (xs:=[y]) (sz':=2) (ys:=rows) (c:=c0) Tryz.f150 44 4 82 _ Tryz.func150 (by rfl) (by rfl) (by kernel_rfl) (by kernel_rfl) (by rfl) (by rfl) ⟨rfl,by decide,by simp [zG12],by omega,by simp,by simp [zG12],by omega,by omega⟩ ?_;simp (disch:=omega))|(refine ⟨by omega,?_⟩)|(intro _)
          refine hK _ ?_;clear hK K
          refine zbg rfl (λhc5=>?_) (λhc5=>?_)
          ·try simp at hc5
           all_goals
            refine AW_d rfl mix (by kernel_rfl) (by kernel_rfl) λK hK=>?_
            simp (disch:=omega)
            repeat' first|(exfalso;omega)|(refine ⟨λ_=>?_,λ_=>?_⟩)|(refine ⟨by omega,?_⟩)|(intro _)
            all_goals (refine hK _ _ (by kernel_rfl) ?_;clear hK K)
            all_goals
             refine AW_x rfl rfl λK hK=>?_
             simp (disch:=omega)
             repeat' first|(refine ⟨by omega,?_⟩)|(intro _)
             refine hK _ ?_;clear hK K
             refine zd3 (LeS.cwin (sz:=2) (c0:=c0) 8 (by simp [zG12];exact rfl)) ?_
             refine AW_x rfl rfl λK hK=>?_
             simp (disch:=omega)
             repeat' first|(refine ⟨by omega,?_⟩)|(intro _)
             refine hK _ ?_;clear hK K
             refine zbp (zce [8] [] (by simp [zG12,List.range_succ]) (by simp) ?_)
             simp (disch:=omega)
             all_goals first | omega|(exfalso;simp_all;done)|(obtain rfl:k=rows.length:=(by omega);rw [List.take_of_length_le (by omega),List.drop_eq_nil_of_le (by omega)];exact ⟨rfl,hs,hy⟩)|(have hkl:k<rows.length:=(by omega);rw [zss rows k hkl,zn6 y _ _ hkl,zst rows k hkl];exact ⟨rfl,zc5 hs _,zgh hy,zdk hs _⟩)|(have hkl:k<rows.length:=(by omega);rw [zsu rows y _ k hkl,zsw,zsv rows y _ k hkl];exact ⟨by simp,by rw [zgf,zc5 hs,zgh hy];rfl,zdk hs _,rfl⟩) | trace_state
          ·try simp at hc5
           all_goals
            refine zbi ?_
            refine zbm ?_
            refine AW_x rfl rfl λK hK=>?_
            simp (disch:=omega)
            repeat' first|(exfalso;omega)|(refine ⟨λ_=>?_,λ_=>?_⟩)|(refine ⟨by omega,?_⟩)|(intro _)
            all_goals (refine hK _ ?_;clear hK K)
            all_goals
             refine AW_x rfl rfl λK hK=>?_
             simp (disch:=omega)
             repeat' first|(exfalso;omega)|(refine ⟨by omega,?_⟩)|(intro _)
             refine hK _ ?_;clear hK K
             refine AW_x rfl rfl λK hK=>?_
             simp (disch:=omega)
             repeat' first|(refine ⟨by omega,?_⟩)|(intro _)
             refine hK _ ?_;clear hK K
             refine zbp (zce [8] [] (by simp [zG12,List.range_succ]) (by simp) ?_)
             simp (disch:=omega)
             all_goals first | omega|(exfalso;simp_all;done)|(obtain rfl:k=rows.length:=(by omega);rw [List.take_of_length_le (by omega),List.drop_eq_nil_of_le (by omega)];exact ⟨rfl,hs,hy⟩)|(have hkl:k<rows.length:=(by omega);rw [zss rows k hkl,zn6 y _ _ hkl,zst rows k hkl];exact ⟨rfl,zc5 hs _,zgh hy,zdk hs _⟩)|(have hkl:k<rows.length:=(by omega);rw [zsu rows y _ k hkl,zsw,zsv rows y _ k hkl];exact ⟨by simp,by rw [zgf,zc5 hs,zgh hy];rfl,zdk hs _,rfl⟩) | trace_state
end Go.Proofs.YtodmafgmdlkhoaaGreat.Vs
end
section
namespace Go.Proofs.YtodmafgmdlkhoaaGreat.Vs
set_option linter.all false
set_option maxRecDepth 100000
def CatB(c:DtCatalog):Prop:=c.fSets.length≤1048576∧(∀i (h:i<c.fSets.length),c.fSets[i].fSnaps.length≤1048576)∧∀i (h:i<c.fSets.length) k (h2:k<c.fSets[i].fSnaps.length),c.fSets[i].fSnaps[k].fChunks.length≤1048576
theorem catB_of(c:DtCatalog)(hs:DtCatalog.sz c≤1048576):CatB c:=by
 have h0:=zbv DtCSet.sz_nonneg c.fSets
 simp only [DtCatalog.sz,szS] at hs
 refine ⟨by omega,λi h=>?_,λi h k h2=>?_⟩
 ·have h1:=zcr DtCSet.sz_nonneg c.fSets c.fSets[i] (List.getElem_mem _)
  have h2:=zbv DtCSnap.sz_nonneg c.fSets[i].fSnaps
  simp only [DtCSet.sz,szS] at h1
  omega
 ·have h1:=zcr DtCSet.sz_nonneg c.fSets c.fSets[i] (List.getElem_mem _)
  have h3:=zcr DtCSnap.sz_nonneg c.fSets[i].fSnaps c.fSets[i].fSnaps[k] (List.getElem_mem _)
  have h4:=zbv zc6 c.fSets[i].fSnaps[k].fChunks
  simp only [DtCSet.sz,szS] at h1
  simp only [DtCSnap.sz,szS] at h3
  omega
theorem zz0{α β:Type}(f:α→β)(l:List α)(i:Nat)(h:i<l.length):List.take (i+1) (l.map f)=List.take i (l.map f)++[f l[i]]:=by
 rw [List.take_succ_eq_append_getElem (by simpa using h)];simp
attribute [local simp] DtCatalog.cells DtCSet.cells DtCSnap.cells zbo
theorem zn7(l:List (List UInt8))(hl:l.length≤1048576):XCall Tryz.prog 106 [.sl 1 (l.map cS)] [] (.arr 16 0 l.length) [] [.own 1 (l.map cS)]:=by
 refine zbu Tryz.func106 (by rfl) (by rfl) (by rw [Tryz.ntmps106];exact Nat.le_of_ble_eq_true rfl) rfl (by simp) rfl rfl ?_
 rw [Tryz.ntmps106]
 refine zjb   ?_
 refine AW_k [(0,_)] ⟨rfl,trivial⟩ ?_
 refine AW_x rfl rfl λK hK=>?_
 simp (disch:=omega)
 repeat' first|(refine ⟨by omega,?_⟩)|(intro _)
 refine hK _ ?_;clear hK K
 refine AW_x rfl rfl λK hK=>?_
 simp (disch:=omega)
 repeat' first|(refine ⟨by omega,?_⟩)|(intro _)
 refine hK _ ?_;clear hK K
 refine zbp (zce [80] [] (by simp [zG12,List.range_succ]) (by simp) ?_)
 simp (disch:=omega)
 all_goals first | omega | trace_state
theorem copyCatX(c:DtCatalog)(hb:CatB c):XCall Tryz.prog 51 [.agg (DtCatalog.cells c)] [] (.agg [.arr 16 0 c.fSets.length]) [] [.own 2 (c.fSets.map DtCSet.cells)]:=by
 obtain ⟨hb1,hb2,hb3⟩:=hb
 refine zbu Tryz.func51 (by rfl) (by rfl) (by rw [Tryz.ntmps51];exact Nat.le_of_ble_eq_true rfl) rfl (by simp) rfl rfl ?_
 rw [Tryz.ntmps51]
 refine zjb   ?_
 refine AW_k [(0,_)] ⟨rfl,trivial⟩ ?_
 refine AW_x rfl rfl λK hK=>?_
 simp (disch:=omega)
 repeat' first|(refine ⟨by omega,?_⟩)|(intro _)
 refine hK _ ?_;clear hK K
 refine AW_x rfl rfl λK hK=>?_
 simp (disch:=omega)
 repeat' first|(refine ⟨by omega,?_⟩)|(simp (disch:=omega))|(intro _)
 refine hK _ ?_;clear hK K
 refine zbh ?_
 refine AW_x rfl rfl λK hK=>?_
 simp (disch:=omega)
 repeat' first|(refine ⟨by omega,?_⟩)|(simp (disch:=omega))|(intro _)
 refine hK _ ?_;clear hK K
 refine zbj ?_
 refine zbs (λmM sS=>∃(i:Nat),mM=c.fSets.length-i∧(i≤c.fSets.length)∧sS = { env:=lkE [(2,.ptr 48 0),(3,.ptr 64 0),(11,.sl 2 (c.fSets.map DtCSet.cells)),(12,(.g (.int .i64 ((c.fSets.length:Nat))))),(13,(.g (.int .i64 ((i:Nat)))))],ob:=lk [(48,.cells [.g (.slice none 0 0)]),(64,.cells [.arr 500 0 i]),(500,.own 2 ((c.fSets.take i).map DtCSet.cells))] }) ?_ ?_
 ·refine ⟨_,LeS.trans (LeS.znc (cs:=[.g (.slice none 0 0)]) 500 2 64 0 (by simp [zG12,zbk]) (by simp [zG12,zbk,DtCatalog.cells,DtCSet.cells]) (by rfl)) (LeS.kx [(48,48),(64,64),(500,500)] [(2,.ptr 48 0),(3,.ptr 64 0),(11,.sl 2 (c.fSets.map DtCSet.cells)),(12,(.g (.int .i64 ((c.fSets.length:Nat))))),(13,(.g (.int .i64 (((0):Nat)))))] [(48,.cells [.g (.slice none 0 0)]),(64,.cells [.arr 500 0 (0)]),(500,.own 2 ((c.fSets.take (0)).map DtCSet.cells))] (by simp [zG12,KpR,renV2,renV,zbk,DtCatalog.cells,DtCSet.cells];try rfl) (by simp [zG12,KpOX,renO,plO,cvO,renV,pl1,DtCatalog.cells,DtCSet.cells];try (first | rfl|(rw [htk];rfl))) (by rfl) (by simp) (by simp) (by rfl) (by simp [formsX,List.range_succ,zbr,zby])),_,0,rfl,?_,rfl⟩
  ·simp
 ·rintro mM sS ⟨i,rfl,hi,rfl⟩
  refine AW_x rfl rfl λK hK=>?_
  simp (disch:=omega)
  repeat' first|(refine ⟨by omega,?_⟩)|(intro _)
  refine hK _ ?_;clear hK K
  refine zbh ?_
  refine zbg rfl (λhc1=>?_) (λhc1=>?_)
  ·try simp at hc1
   all_goals
    have hn2:=hb2 i (by omega)
    have htk:=zz0 DtCSet.cells c.fSets i (by omega)
    refine zbi ?_
    refine zbm ?_
    refine zbh ?_
    refine zbj ?_
    refine AW_x rfl rfl λK hK=>?_
    simp (disch:=omega)
    repeat' first|(exfalso;omega)|(refine ⟨λ_=>?_,λ_=>?_⟩)|(refine ⟨by omega,?_⟩)|(simp (disch:=omega))|(intro _)
    all_goals (refine hK _ ?_;clear hK K)
    all_goals
     refine AW_x rfl rfl λK hK=>?_
     simp (disch:=omega)
     repeat' first|(refine ⟨by omega,?_⟩)|(simp (disch:=omega))|(intro _)
     refine hK _ ?_;clear hK K
     refine zbh ?_
     refine AW_x rfl rfl λK hK=>?_
     simp (disch:=omega)
     repeat' first|(refine ⟨by omega,?_⟩)|(simp (disch:=omega))|(intro _)
     refine hK _ ?_;clear hK K
     refine zbj ?_
     refine zbs (λmM sS=>∃(j:Nat),mM=c.fSets[i].fSnaps.length-j∧(j≤c.fSets[i].fSnaps.length)∧sS = { env:=lkE [(2,.ptr 48 0),(3,.ptr 64 0),(6,.ptr 112 0),(11,.sl 2 (c.fSets.map DtCSet.cells)),(12,(.g (.int .i64 ((c.fSets.length:Nat))))),(13,(.g (.int .i64 ((i:Nat))))),(21,.sl 3 (c.fSets[i].fSnaps.map DtCSnap.cells)),(22,(.g (.int .i64 ((c.fSets[i].fSnaps.length:Nat))))),(23,(.g (.int .i64 ((j:Nat)))))],ob:=lk [(48,.cells [.g (.slice none 0 0)]),(64,.cells [.arr 500 0 i]),(500,.own 2 ((c.fSets.take i).map DtCSet.cells)),(112,.cells [.s c.fSets[i].fName,.arr 501 0 j]),(501,.own 3 ((c.fSets[i].fSnaps.take j).map DtCSnap.cells))] }) ?_ ?_
     ·refine ⟨_,LeS.trans (LeS.znc (cs:=[.s c.fSets[i].fName,.g (.slice none 0 0)]) 501 3 112 1 (by simp [zG12,zbk]) (by simp [zG12,zbk,DtCatalog.cells,DtCSet.cells,DtCSnap.cells]) (by rfl)) (LeS.kx [(48,48),(64,64),(500,500),(112,112),(501,501)] [(2,.ptr 48 0),(3,.ptr 64 0),(6,.ptr 112 0),(11,.sl 2 (c.fSets.map DtCSet.cells)),(12,(.g (.int .i64 ((c.fSets.length:Nat))))),(13,(.g (.int .i64 ((i:Nat))))),(21,.sl 3 (c.fSets[i].fSnaps.map DtCSnap.cells)),(22,(.g (.int .i64 ((c.fSets[i].fSnaps.length:Nat))))),(23,(.g (.int .i64 (((0):Nat)))))] [(48,.cells [.g (.slice none 0 0)]),(64,.cells [.arr 500 0 i]),(500,.own 2 ((c.fSets.take i).map DtCSet.cells)),(112,.cells [.s c.fSets[i].fName,.arr 501 0 (0)]),(501,.own 3 ((c.fSets[i].fSnaps.take (0)).map DtCSnap.cells))] (by simp [zG12,KpR,renV2,renV,zbk,DtCatalog.cells,DtCSet.cells,DtCSnap.cells];try rfl) (by simp [zG12,KpOX,renO,plO,cvO,renV,pl1,DtCatalog.cells,DtCSet.cells,DtCSnap.cells];try (first | rfl|(rw [htk2];rfl))) (by rfl) (by simp) (by simp) (by rfl) (by simp [formsX,List.range_succ,zbr,zby])),_,0,rfl,?_,rfl⟩
      ·simp
     ·rintro mM sS ⟨j,rfl,hj,rfl⟩
      refine AW_x rfl rfl λK hK=>?_
      simp (disch:=omega)
      repeat' first|(refine ⟨by omega,?_⟩)|(intro _)
      refine hK _ ?_;clear hK K
      refine zbh ?_
      refine zbg rfl (λhc2=>?_) (λhc2=>?_)
      ·try simp at hc2
       all_goals
        have hn3:=hb3 i (by omega) j (by omega)
        have htk2:=zz0 DtCSnap.cells c.fSets[i].fSnaps j (by omega)
        refine zbi ?_
        refine zbm ?_
        refine zbh ?_
        refine zbj ?_
        refine AW_x rfl rfl λK hK=>?_
        simp (disch:=omega)
        repeat' first|(exfalso;omega)|(refine ⟨λ_=>?_,λ_=>?_⟩)|(refine ⟨by omega,?_⟩)|(simp (disch:=omega))|(intro _)
        all_goals (refine hK _ ?_;clear hK K)
        all_goals
         refine zhi rfl mix (by kernel_rfl) (by kernel_rfl) λK hK=>?_
         simp (disch:=omega)
         repeat' first|(exfalso;omega)|(refine zmj [] true [] (zn7 (c.fSets[i].fSnaps[j].fChunks) (by omega)) ?_ (λst' hst=>?_) ?_;(focus (simp [List.range_succ,nmC];done));(focus (simp (disch:=omega) [nmC,List.range_succ] at hst;simp (disch:=omega) [hst,zbo,nmC,List.range_succ];done));simp (disch:=omega))|(refine ⟨by omega,?_⟩)|(simp (disch:=omega))|(intro _)
         refine hK _ _ (by kernel_rfl) ?_;clear hK K
         refine zbm ?_
         refine zb4 rfl rfl λK hK=>?_
         simp (disch:=omega)
         repeat' first|(refine ⟨by omega,?_⟩)|(intro _)
         refine hK _ ?_;clear hK K
         refine ⟨_,LeS.kx [(48,48),(64,64),(500,500),(112,112),(501,624)] [(2,.ptr 48 0),(3,.ptr 64 0),(6,.ptr 112 0),(11,.sl 2 (c.fSets.map DtCSet.cells)),(12,(.g (.int .i64 ((c.fSets.length:Nat))))),(13,(.g (.int .i64 ((i:Nat))))),(21,.sl 3 (c.fSets[i].fSnaps.map DtCSnap.cells)),(22,(.g (.int .i64 ((c.fSets[i].fSnaps.length:Nat))))),(23,(.g (.int .i64 (((j+1):Nat)))))] [(48,.cells [.g (.slice none 0 0)]),(64,.cells [.arr 500 0 i]),(500,.own 2 ((c.fSets.take i).map DtCSet.cells)),(112,.cells [.s c.fSets[i].fName,.arr 501 0 (j+1)]),(501,.own 3 ((c.fSets[i].fSnaps.take (j+1)).map DtCSnap.cells))] (by simp [zG12,KpR,renV2,renV,zbk,DtCatalog.cells,DtCSet.cells,DtCSnap.cells];try rfl) (by simp [zG12,KpOX,renO,plO,cvO,renV,pl1,DtCatalog.cells,DtCSet.cells,DtCSnap.cells];try (first | rfl|(rw [htk2];rfl))) (by rfl) (by simp) (by simp) (by rfl) (by simp [formsX,List.range_succ,zbr,zby]),_,?_,j+1,rfl,?_,rfl⟩
         ·omega
         ·omega
      try simp at hc2
      have hj2:j=c.fSets[i].fSnaps.length:=by omega
      subst hj2
      refine zbx ?_
      refine zbm ?_
      refine zb4 rfl rfl λK hK=>?_
      simp (disch:=omega)
      repeat' first|(exfalso;omega)|(refine ⟨λ_=>?_,λ_=>?_⟩)|(refine ⟨by omega,?_⟩)|(simp (disch:=omega))|(intro _)
      all_goals (refine hK _ ?_;clear hK K)
      all_goals
       refine zbm ?_
       refine zb4 rfl rfl λK hK=>?_
       simp (disch:=omega)
       repeat' first|(refine ⟨by omega,?_⟩)|(intro _)
       refine hK _ ?_;clear hK K
       refine ⟨_,LeS.kx [(48,48),(64,64),(500,736)] [(2,.ptr 48 0),(3,.ptr 64 0),(11,.sl 2 (c.fSets.map DtCSet.cells)),(12,(.g (.int .i64 ((c.fSets.length:Nat))))),(13,(.g (.int .i64 (((i+1):Nat)))))] [(48,.cells [.g (.slice none 0 0)]),(64,.cells [.arr 500 0 (i+1)]),(500,.own 2 ((c.fSets.take (i+1)).map DtCSet.cells))] (by simp [zG12,KpR,renV2,renV,zbk,DtCatalog.cells,DtCSet.cells];try rfl) (by simp [zG12,KpOX,renO,plO,cvO,renV,pl1,DtCatalog.cells,DtCSet.cells];try (first | rfl|(rw [htk];rfl))) (by rfl) (by simp) (by simp) (by rfl) (by simp [formsX,List.range_succ,zbr,zby]),_,?_,i+1,rfl,?_,rfl⟩
       ·omega
       ·omega
  try simp at hc1
  refine zbx ?_
  refine zbm ?_
  refine AW_x rfl rfl λK hK=>?_
  simp (disch:=omega)
  repeat' first|(exfalso;omega)|(refine ⟨λ_=>?_,λ_=>?_⟩)|(refine ⟨by omega,?_⟩)|(simp (disch:=omega))|(intro _)
  all_goals (refine hK _ ?_;clear hK K)
  all_goals
   refine zbp (zce [500] [] (by simp [zG12,List.range_succ]) (by simp) ?_)
   simp (disch:=omega)
   all_goals first | omega | trace_state
theorem l15CopyX(c:DtCatalog)(hb:CatB c):XCall Tryz.prog 62 [.agg (DtCatalog.cells c)] [] (.agg [.arr 16 0 c.fSets.length]) [] [.own 2 (c.fSets.map DtCSet.cells)]:=by
 obtain ⟨hb1,hb2,hb3⟩:=hb
 refine zbu Tryz.func62 (by rfl) (by rfl) (by rw [Tryz.ntmps62];exact Nat.le_of_ble_eq_true rfl) rfl (by simp) rfl rfl ?_
 rw [Tryz.ntmps62]
 refine zjb   ?_
 refine AW_k [(0,_)] ⟨rfl,trivial⟩ ?_
 refine AW_x rfl rfl λK hK=>?_
 simp (disch:=omega)
 repeat' first|(refine ⟨by omega,?_⟩)|(intro _)
 refine hK _ ?_;clear hK K
 refine AW_x rfl rfl λK hK=>?_
 simp (disch:=omega)
 repeat' first|(refine ⟨by omega,?_⟩)|(simp (disch:=omega))|(intro _)
 refine hK _ ?_;clear hK K
 refine zbh ?_
 refine AW_x rfl rfl λK hK=>?_
 simp (disch:=omega)
 repeat' first|(refine ⟨by omega,?_⟩)|(intro _)
 refine hK _ ?_;clear hK K
 refine zbj ?_
 refine zbs (λmM sS=>∃(i:Nat),mM=c.fSets.length-i∧(i≤c.fSets.length)∧sS = { env:=lkE [(1,.ptr 32 0),(2,.ptr 48 0),(3,.ptr 64 0),(4,(.g (.int .i64 ((i:Nat)))))],ob:=lk [(32,.cells (DtCatalog.cells c)),(48,.cells [.g (.slice none 0 0)]),(64,.cells [.arr 500 0 i]),(500,.own 2 ((c.fSets.take i).map DtCSet.cells))] }) ?_ ?_
 ·refine ⟨_,LeS.trans (LeS.znc (cs:=[.g (.slice none 0 0)]) 500 2 64 0 (by simp [zG12,zbk]) (by simp [zG12,zbk,DtCatalog.cells,DtCSet.cells]) (by rfl)) (LeS.kx [(32,32),(48,48),(64,64),(500,500)] [(1,.ptr 32 0),(2,.ptr 48 0),(3,.ptr 64 0),(4,(.g (.int .i64 (((0):Nat)))))] [(32,.cells (DtCatalog.cells c)),(48,.cells [.g (.slice none 0 0)]),(64,.cells [.arr 500 0 (0)]),(500,.own 2 ((c.fSets.take (0)).map DtCSet.cells))] (by simp [zG12,KpR,renV2,renV,zbk,DtCatalog.cells,DtCSet.cells];try rfl) (by simp [zG12,KpOX,renO,plO,cvO,renV,pl1,DtCatalog.cells,DtCSet.cells];try (first | rfl|(rw [htk];rfl))) (by rfl) (by simp) (by simp) (by rfl) (by simp [formsX,List.range_succ,zbr,zby])),_,0,rfl,?_,rfl⟩
  ·simp
 ·rintro mM sS ⟨i,rfl,hi,rfl⟩
  refine zbh ?_
  refine AW_x rfl rfl λK hK=>?_
  simp (disch:=omega)
  repeat' first|(refine ⟨by omega,?_⟩)|(simp (disch:=omega))|(intro _)
  refine hK _ ?_;clear hK K
  refine zbg rfl (λhc3=>?_) (λhc3=>?_)
  ·try simp at hc3
   all_goals
    have hn2:=hb2 i (by omega)
    have htk:=zz0 DtCSet.cells c.fSets i (by omega)
    refine zbi ?_
    refine zbm ?_
    refine zbh ?_
    refine zbj ?_
    refine AW_x rfl rfl λK hK=>?_
    simp (disch:=omega)
    repeat' first|(exfalso;omega)|(refine ⟨λ_=>?_,λ_=>?_⟩)|(refine ⟨by omega,?_⟩)|(simp (disch:=omega))|(intro _)
    all_goals (refine hK _ ?_;clear hK K)
    all_goals
     refine zbh ?_
     refine AW_x rfl rfl λK hK=>?_
     simp (disch:=omega)
     repeat' first|(refine ⟨by omega,?_⟩)|(intro _)
     refine hK _ ?_;clear hK K
     refine zbj ?_
     refine zbs (λmM sS=>∃(j:Nat),mM=c.fSets[i].fSnaps.length-j∧(j≤c.fSets[i].fSnaps.length)∧sS = { env:=lkE [(1,.ptr 32 0),(2,.ptr 48 0),(3,.ptr 64 0),(4,(.g (.int .i64 ((i:Nat))))),(5,.ptr 96 0),(6,(.g (.int .i64 ((j:Nat)))))],ob:=lk [(32,.cells (DtCatalog.cells c)),(48,.cells [.g (.slice none 0 0)]),(64,.cells [.arr 500 0 i]),(500,.own 2 ((c.fSets.take i).map DtCSet.cells)),(96,.cells [.s c.fSets[i].fName,.arr 501 0 j]),(501,.own 3 ((c.fSets[i].fSnaps.take j).map DtCSnap.cells))] }) ?_ ?_
     ·refine ⟨_,LeS.trans (LeS.znc (cs:=[.s c.fSets[i].fName,.g (.slice none 0 0)]) 501 3 96 1 (by simp [zG12,zbk]) (by simp [zG12,zbk,DtCatalog.cells,DtCSet.cells,DtCSnap.cells]) (by rfl)) (LeS.kx [(32,32),(48,48),(64,64),(500,500),(96,96),(501,501)] [(1,.ptr 32 0),(2,.ptr 48 0),(3,.ptr 64 0),(4,(.g (.int .i64 ((i:Nat))))),(5,.ptr 96 0),(6,(.g (.int .i64 (((0):Nat)))))] [(32,.cells (DtCatalog.cells c)),(48,.cells [.g (.slice none 0 0)]),(64,.cells [.arr 500 0 i]),(500,.own 2 ((c.fSets.take i).map DtCSet.cells)),(96,.cells [.s c.fSets[i].fName,.arr 501 0 (0)]),(501,.own 3 ((c.fSets[i].fSnaps.take (0)).map DtCSnap.cells))] (by simp [zG12,KpR,renV2,renV,zbk,DtCatalog.cells,DtCSet.cells,DtCSnap.cells];try rfl) (by simp [zG12,KpOX,renO,plO,cvO,renV,pl1,DtCatalog.cells,DtCSet.cells,DtCSnap.cells];try (first | rfl|(rw [htk2];rfl))) (by rfl) (by simp) (by simp) (by rfl) (by simp [formsX,List.range_succ,zbr,zby])),_,0,rfl,?_,rfl⟩
      ·simp
     ·rintro mM sS ⟨j,rfl,hj,rfl⟩
      refine zbh ?_
      refine AW_x rfl rfl λK hK=>?_
      simp (disch:=omega)
      repeat' first|(refine ⟨by omega,?_⟩)|(simp (disch:=omega))|(intro _)
      refine hK _ ?_;clear hK K
      refine zbg rfl (λhc4=>?_) (λhc4=>?_)
      ·try simp at hc4
       all_goals
        have hn3:=hb3 i (by omega) j (by omega)
        have htk2:=zz0 DtCSnap.cells c.fSets[i].fSnaps j (by omega)
        refine zbi ?_
        refine zbm ?_
        refine zbh ?_
        refine zbj ?_
        refine AW_x rfl rfl λK hK=>?_
        simp (disch:=omega)
        repeat' first|(exfalso;omega)|(refine ⟨λ_=>?_,λ_=>?_⟩)|(refine ⟨by omega,?_⟩)|(simp (disch:=omega))|(intro _)
        all_goals (refine hK _ ?_;clear hK K)
        all_goals
         refine AW_x rfl rfl λK hK=>?_
         simp (disch:=omega)
         repeat' first|(refine ⟨by omega,?_⟩)|(simp (disch:=omega))|(intro _)
         refine hK _ ?_;clear hK K
         refine zb4 rfl rfl λK hK=>?_
         simp (disch:=omega)
         repeat' first|(refine ⟨by omega,?_⟩)|(simp (disch:=omega))|(intro _)
         refine hK _ ?_;clear hK K
         refine zbm ?_
         refine zb4 rfl rfl λK hK=>?_
         simp (disch:=omega)
         repeat' first|(refine ⟨by omega,?_⟩)|(intro _)
         refine hK _ ?_;clear hK K
         refine ⟨_,LeS.kx [(32,32),(48,48),(64,64),(500,500),(96,96),(501,848)] [(1,.ptr 32 0),(2,.ptr 48 0),(3,.ptr 64 0),(4,(.g (.int .i64 ((i:Nat))))),(5,.ptr 96 0),(6,(.g (.int .i64 (((j+1):Nat)))))] [(32,.cells (DtCatalog.cells c)),(48,.cells [.g (.slice none 0 0)]),(64,.cells [.arr 500 0 i]),(500,.own 2 ((c.fSets.take i).map DtCSet.cells)),(96,.cells [.s c.fSets[i].fName,.arr 501 0 (j+1)]),(501,.own 3 ((c.fSets[i].fSnaps.take (j+1)).map DtCSnap.cells))] (by simp [zG12,KpR,renV2,renV,zbk,DtCatalog.cells,DtCSet.cells,DtCSnap.cells];try rfl) (by simp [zG12,KpOX,renO,plO,cvO,renV,pl1,DtCatalog.cells,DtCSet.cells,DtCSnap.cells];try (first | rfl|(rw [htk2];rfl))) (by rfl) (by simp) (by simp) (by rfl) (by simp [formsX,List.range_succ,zbr,zby]),_,?_,j+1,rfl,?_,rfl⟩
         ·omega
         ·omega
      try simp at hc4
      have hj2:j=c.fSets[i].fSnaps.length:=by omega
      subst hj2
      refine zbx ?_
      refine zbm ?_
      refine zb4 rfl rfl λK hK=>?_
      simp (disch:=omega)
      repeat' first|(exfalso;omega)|(refine ⟨λ_=>?_,λ_=>?_⟩)|(refine ⟨by omega,?_⟩)|(simp (disch:=omega))|(intro _)
      all_goals (refine hK _ ?_;clear hK K)
      all_goals
       refine zbm ?_
       refine zb4 rfl rfl λK hK=>?_
       simp (disch:=omega)
       repeat' first|(refine ⟨by omega,?_⟩)|(intro _)
       refine hK _ ?_;clear hK K
       refine ⟨_,LeS.kx [(32,32),(48,48),(64,64),(500,944)] [(1,.ptr 32 0),(2,.ptr 48 0),(3,.ptr 64 0),(4,(.g (.int .i64 (((i+1):Nat)))))] [(32,.cells (DtCatalog.cells c)),(48,.cells [.g (.slice none 0 0)]),(64,.cells [.arr 500 0 (i+1)]),(500,.own 2 ((c.fSets.take (i+1)).map DtCSet.cells))] (by simp [zG12,KpR,renV2,renV,zbk,DtCatalog.cells,DtCSet.cells];try rfl) (by simp [zG12,KpOX,renO,plO,cvO,renV,pl1,DtCatalog.cells,DtCSet.cells];try (first | rfl|(rw [htk];rfl))) (by rfl) (by simp) (by simp) (by rfl) (by simp [formsX,List.range_succ,zbr,zby]),_,?_,i+1,rfl,?_,rfl⟩
       ·omega
       ·omega
  try simp at hc3
  refine zbx ?_
  refine zbm ?_
  refine AW_x rfl rfl λK hK=>?_
  simp (disch:=omega)
  repeat' first|(exfalso;omega)|(refine ⟨λ_=>?_,λ_=>?_⟩)|(refine ⟨by omega,?_⟩)|(simp (disch:=omega))|(intro _)
  all_goals (refine hK _ ?_;clear hK K)
  all_goals
   refine zbp (zce [500] [] (by simp [zG12,List.range_succ]) (by simp) ?_)
   simp (disch:=omega)
   all_goals first | omega | trace_state
end Go.Proofs.YtodmafgmdlkhoaaGreat.Vs
end
