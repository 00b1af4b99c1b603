import Derived.Test.YtchpfloemfoomaaDoorSM3
import Derived.Test.YtchpfloemfoomaaDoorSM1
import Derived.Test.YtchpfloemfoomaaDoorVs9
section
namespace Go.Proofs.YtchpfloemfoomaaDoor.Vs
set_option linter.all false
set_option maxRecDepth 100000
/-- Seven bits a byte. -/
def varB(n:Nat):List UInt8:=if n<128 then [UInt8.ofNat n] else UInt8.ofNat (128+n % 128) :: varB (n / 128)
termination_by n
decreasing_by omega
theorem zhr{n:Nat}(h:n<128):varB n=[UInt8.ofNat n]:=by unfold varB;rw [if_pos h]
theorem zq9{n:Nat}(h:¬n<128):varB n=UInt8.ofNat (128+n % 128) :: varB (n / 128):=by rw [varB];rw [if_neg h]
theorem zr6:∀(k n:Nat),n<128^(k+1)→(varB n).length≤k+1
 | 0,n,h=>by rw [zhr (by simpa using h)];simp
 | k+1,n,h=>by
  by_cases h2:n<128
  ·rw [zhr h2];simp
  ·rw [zq9 h2]
   have:=zr6 k (n / 128) (by rw [Nat.pow_succ] at h;omega)
   simp;omega
def varZ(n:Int):List UInt8:=if 0≤n∧n≤562949953421311 then varB n.toNat else []
theorem zb8(n:Int):(varZ n).length≤7:=by
 unfold varZ
 split
 ·rename_i h
  have h7:(128:Nat)^7=562949953421312:=by decide
  exact zr6 6 n.toNat (by omega)
 ·simp
def cB8v(n:Int):List AV:=[.g (.int .u8 n)]
theorem zkq:∀ns:List Int,numsOf (ns.map cB8v)=some ns
 | []=>rfl
 | n :: ns=>by
  have:=zkq ns
  simp only [List.map_cons,cB8v,numsOf] at this ⊢
  rw [this];rfl
theorem zkr:∀(ns:List Int) (m:Int),numsOf (ns.map cB8v++[[.g (.int .u8 m)]])=some (ns++[m]):=by
 intro ns m
 have:=zkq (ns++[m])
 simpa [cB8v] using this
theorem zpo(ns:List Int):(strN ns).length=ns.length:=by simp [strN]
theorem tk1v(acc:List Int):List.take acc.length (acc.map cB8v)=acc.map cB8v:=List.take_of_length_le (by simp)
theorem tk2v(acc:List Int)(y:List AV):List.take (acc.length+1) (acc.map cB8v++[y])=acc.map cB8v++[y]:=List.take_of_length_le (by simp)
theorem tdivNv(m:Nat):(m:Int).tdiv 128=((m / 128:Nat):Int):=by rw [Int.tdiv_eq_ediv_of_nonneg (by omega)];rfl
theorem tmodNv(m:Nat):(m:Int).tmod 128=((m % 128:Nat):Int):=by rw [Int.tmod_eq_emod_of_nonneg (by omega)];rfl
theorem zgg{n:Int}(h0:0≤n)(h1:n<256):IntKind.u8.wrap n=n:=by
 simp [IntKind.wrap,IntKind.bits,IntKind.signed]
 omega
theorem shrNv(m:Nat):(m:Int).fdiv (2^min 7 IntKind.i64.bits)=((m / 128:Nat):Int):=by
 have:min 7 IntKind.i64.bits=7:=rfl
 rw [this,Int.fdiv_eq_ediv_of_nonneg _ (by decide)]
 rfl
theorem bothNv(m:Nat):IntKind.i64.wrap (((IntKind.i64.wrap ((m % 2^IntKind.i64.bits &&& 127 % 2^IntKind.i64.bits:Nat):Int) % 2^IntKind.i64.bits).toNat ||| 128 % 2^IntKind.i64.bits:Nat):Int)=((128+m % 128:Nat):Int):=by
 have hb:IntKind.i64.bits=64:=rfl
 rw [hb]
 have h1:m % 2^64 &&& 127 % 2^64=m % 128:=by
  have:=Nat.and_two_pow_sub_one_eq_mod (m % 2^64) 7
  have e:(127:Nat) % 2^64=2^7-1:=by decide
  rw [e,this];omega
 rw [h1,zbu (n:=((m % 128:Nat):Int)) (by omega) (by omega)]
 have h2:(((m % 128:Nat):Int) % 2^64).toNat=m % 128:=by omega
 rw [h2]
 have h3:m % 128 ||| 128 % 2^64=128+m % 128:=by
  have:=Nat.two_pow_add_eq_or_of_lt (i:=7) (b:=m % 128) (by omega) 1
  rw [Nat.or_comm,show (128:Nat) % 2^64=2^7*1 by decide,←this]
 rw [h3,zbu (by omega) (by omega)]
theorem zfh(acc:List Int)(m:Nat):strN (acc++[(m:Int)])=strN acc++[UInt8.ofNat m]:=by simp [strN]
def zG5:=And.intro @zbu (And.intro @zcu (And.intro @zgg (And.intro @tk1v (And.intro @tk2v (And.intro @zkr (And.intro @tdivNv @tmodNv))))))
def zG6:=And.intro @zbp @zbt
def zG7:=And.intro @zfz (And.intro @zb6 @zd7)
def zG8:=And.intro @zfz (And.intro @zd7 (And.intro @zfy @zkg))
theorem zhs(n:Int):PCall Tryd.prog 42 [(.g (.int .i64 (n)))] (.s (varZ n)):=by
 by_cases hn:0≤n∧n≤562949953421311
 ·have hz:varZ n=varB n.toNat:=by unfold varZ;rw [if_pos hn]
  have hl:=zb8 n
  rw [hz] at hl ⊢
  refine zbe Tryd.func42 (by rfl) (by rfl) (by rw [Tryd.ntmps42];exact Nat.le_of_ble_eq_true rfl) rfl (by decide) ?_
  rw [Tryd.ntmps42]
  refine AW_k [(0,_)] ⟨rfl,trivial⟩ ?_
  refine AW_r rfl rfl λK hK=>?_
  simp (disch:=omega) [zG5,List.getElem?_eq_getElem,aNews,aAppend,aBuildSlice,chunks]
  repeat' first|(refine ⟨by omega,?_⟩)|(intro _)
  refine hK _ ?_;clear hK K
  refine zbh ?_
  refine AW_r rfl rfl λK hK=>?_
  simp (disch:=omega) [zG5,List.getElem?_eq_getElem,aNews,aAppend,aBuildSlice,chunks]
  repeat' first|(exfalso;omega)|(refine zby (zba zbz (zba zbz (zba zbz zbg))) (l1In _ _ _) rfl ?_;simp (disch:=omega) [zG5,List.getElem?_eq_getElem,aNews,aAppend,aBuildSlice,chunks])|(refine ⟨by omega,?_⟩)|(intro _)
  refine hK _ ?_;clear hK K
  refine zbj rfl (λhc1=>?_) (λhc1=>?_)
  ·try simp [zG6,zbd,zbc] at hc1
   all_goals
    refine AW_r rfl rfl λK hK=>?_
    simp (disch:=omega) [zG5,List.getElem?_eq_getElem,aNews,aAppend,aBuildSlice,chunks]
    repeat' first|(exfalso;omega)|(refine ⟨λ_=>?_,λ_=>?_⟩)|(refine ⟨by omega,?_⟩)|(intro _)
    all_goals (refine hK _ ?_;clear hK K)
    all_goals
     refine zbm (zbq ?_)
     simp (disch:=omega) [zG5,List.getElem?_eq_getElem,aNews,aAppend,aBuildSlice,chunks]
     all_goals first|(rw [zfh,←hv,zhr (by omega)];done)
  ·try simp [zG6,zbd,zbc] at hc1
   all_goals
    refine zbk ?_
    refine zbn ?_
    refine AW_r rfl rfl λK hK=>?_
    simp (disch:=omega) [zG5,List.getElem?_eq_getElem,aNews,aAppend,aBuildSlice,chunks]
    repeat' first|(exfalso;omega)|(refine ⟨λ_=>?_,λ_=>?_⟩)|(refine ⟨by omega,?_⟩)|(intro _)
    all_goals (refine hK _ ?_;clear hK K)
    all_goals
     refine zbh ?_
     refine zbi ?_
     refine zbr (λmM sS=>∃(acc:List Int) (m:Nat),mM=m+1∧(strN acc++varB m=varB n.toNat∧m≤n.toNat)∧sS = { env:=lkE [(0,(.g (.int .i64 ((m:Nat))))),(3,.arr 128 0 acc.length)],ob:=lk [(128,.flat 1 (acc.map cB8v))] }) ?_ ?_
     ·refine ⟨_,LeS.kr [(128,128)] [(0,(.g (.int .i64 (((n.toNat):Nat))))),(3,.arr 128 0 ([]).length)] [(128,.flat 1 (([]).map cB8v))] (by simp [zG7,KpR,renV2,renV,zfy,cB8v];try omega) (by simp [zG8,KpOR,renO,renV,cB8v];try rfl) (by rfl) (by rfl) (by simp) (by simp) (by rfl) (by simp [forms]),_,[],n.toNat,rfl,?_,rfl⟩
      ·simp [strN]
     ·rintro mM sS ⟨acc,m,rfl,⟨hv,hm⟩,rfl⟩
      have hal:acc.length≤7:=by have:=congrArg List.length hv;simp [zpo] at this;omega
      refine zbh ?_
      refine AW_r rfl rfl λK hK=>?_
      simp (disch:=omega) [zG5,List.getElem?_eq_getElem,aNews,aAppend,aBuildSlice,chunks]
      repeat' first|(refine ⟨by omega,?_⟩)|(intro _)
      refine hK _ ?_;clear hK K
      refine zbj rfl (λhc2=>?_) (λhc2=>?_)
      ·try simp [zG6,zbd,zbc] at hc2
       all_goals
        have hge:=zq9 (n:=m) (by omega)
        refine zbk ?_
        refine zbn ?_
        refine zbi ?_
        refine AW_r rfl rfl λK hK=>?_
        simp (disch:=omega) [zG5,List.getElem?_eq_getElem,aNews,aAppend,aBuildSlice,chunks]
        repeat' first|(exfalso;omega)|(refine ⟨λ_=>?_,λ_=>?_⟩)|(refine ⟨by omega,?_⟩)|(intro _)
        all_goals (refine hK _ ?_;clear hK K)
        all_goals
         refine zco rfl rfl λK hK=>?_
         simp (disch:=omega) [zG5,List.getElem?_eq_getElem,aNews,aAppend,aBuildSlice,chunks]
         repeat' first|(refine ⟨by omega,?_⟩)|(intro _)
         refine hK _ ?_;clear hK K
         refine ⟨_,LeS.kr [(128,272)] [(0,(.g (.int .i64 (((m / 128):Nat))))),(3,.arr 128 0 (acc++[128+((m % 128:Nat):Int)]).length)] [(128,.flat 1 ((acc++[128+((m % 128:Nat):Int)]).map cB8v))] (by simp [zG7,KpR,renV2,renV,zfy,cB8v];try simp (disch:=omega) [zbu,cB8v];try omega) (by simp [zG8,KpOR,renO,renV,cB8v];try rfl) (by rfl) (by rfl) (by simp) (by simp) (by rfl) (by simp [forms]),_,?_,acc++[128+((m % 128:Nat):Int)],m / 128,rfl,?_,rfl⟩
         ·omega
         ·refine ⟨?_,by omega⟩
          rw [hge] at hv
          rw [←hv,show (128+((m % 128:Nat):Int))=((128+m % 128:Nat):Int) by omega,zfh]
          simp
      ·try simp [zG6,zbd,zbc] at hc2
       all_goals
        refine zbx ?_
        refine zbn ?_
        refine AW_r rfl rfl λK hK=>?_
        simp (disch:=omega) [zG5,List.getElem?_eq_getElem,aNews,aAppend,aBuildSlice,chunks]
        repeat' first|(exfalso;omega)|(refine ⟨λ_=>?_,λ_=>?_⟩)|(refine ⟨by omega,?_⟩)|(intro _)
        all_goals (refine hK _ ?_;clear hK K)
        all_goals
         refine zbm (zbq ?_)
         simp (disch:=omega) [zG5,List.getElem?_eq_getElem,aNews,aAppend,aBuildSlice,chunks]
         all_goals first|(rw [zfh,←hv,zhr (by omega)];done)
 ·have hz:varZ n=[]:=by unfold varZ;rw [if_neg hn]
  rw [hz]
  have hn':n<0∨562949953421311<n:=by omega
  refine zbe Tryd.func42 (by rfl) (by rfl) (by rw [Tryd.ntmps42];exact Nat.le_of_ble_eq_true rfl) rfl (by decide) ?_
  rw [Tryd.ntmps42]
  refine AW_k [(0,_)] ⟨rfl,trivial⟩ ?_
  refine AW_r rfl rfl λK hK=>?_
  simp (disch:=omega) [zG5,List.getElem?_eq_getElem,aNews,aAppend,aBuildSlice,chunks]
  refine hK _ ?_;clear hK K
  refine zbh (AW_r rfl rfl λK hK=>?_)
  simp (disch:=omega) [zG5,List.getElem?_eq_getElem,aNews,aAppend,aBuildSlice,chunks]
  refine zby (zba zbz (zba zbz (zba zbz zbg))) (l1In _ _ _) rfl ?_
  simp (disch:=omega) [zG5,List.getElem?_eq_getElem,aNews,aAppend,aBuildSlice,chunks]
  refine hK _ ?_;clear hK K
  refine zbj (t:=true) (by simp;omega) (λ_=>?_) (λh=>by simp at h)
  refine AW_r rfl rfl λK hK=>?_
  simp (disch:=omega) [zG5,List.getElem?_eq_getElem,aNews,aAppend,aBuildSlice,chunks]
  repeat' first|(refine ⟨by omega,?_⟩)|(intro _)
  refine hK _ ?_;clear hK K
  refine zbm (zbq ?_)
  simp (disch:=omega) [zG5,List.getElem?_eq_getElem,aNews,aAppend,aBuildSlice,chunks]
  all_goals first | omega|(simp_all;done)|(simp [List.take_of_length_le];done)|((try simp_all);(try simp (disch:=omega) only [zbu,Int.tdiv_eq_ediv_of_nonneg,Int.tmod_eq_emod_of_nonneg,and_true,true_and]);done)|((try simp_all);(try simp (disch:=omega) only [zbu,Int.tdiv_eq_ediv_of_nonneg,Int.tmod_eq_emod_of_nonneg,and_true,true_and] at *);omega)
def zG9:=And.intro @zbu (And.intro @zcu (And.intro @zgg (And.intro @tk1v (And.intro @tk2v (And.intro @zkr (And.intro @bothNv @shrNv))))))
theorem zht(n:Int):PCall Tryd.prog 49 [(.g (.int .i64 (n)))] (.s (varZ n)):=by
 by_cases hn:0≤n∧n≤562949953421311
 ·have hz:varZ n=varB n.toNat:=by unfold varZ;rw [if_pos hn]
  have hl:=zb8 n
  rw [hz] at hl ⊢
  refine zbe Tryd.func49 (by rfl) (by rfl) (by rw [Tryd.ntmps49];exact Nat.le_of_ble_eq_true rfl) rfl (by decide) ?_
  rw [Tryd.ntmps49]
  refine AW_k [(0,_)] ⟨rfl,trivial⟩ ?_
  refine AW_r rfl rfl λK hK=>?_
  simp (disch:=omega) [zG9,List.getElem?_eq_getElem,aNews,aAppend,aBuildSlice,chunks]
  repeat' first|(refine ⟨by omega,?_⟩)|(intro _)
  refine hK _ ?_;clear hK K
  refine zbh ?_
  refine AW_r rfl rfl λK hK=>?_
  simp (disch:=omega) [zG9,List.getElem?_eq_getElem,aNews,aAppend,aBuildSlice,chunks]
  repeat' first|(exfalso;omega)|(refine zby (zba zbz (zba zbz (zba zbz zbg))) (zpn _ _ _) rfl ?_;simp (disch:=omega) [zG9,List.getElem?_eq_getElem,aNews,aAppend,aBuildSlice,chunks])|(refine ⟨by omega,?_⟩)|(intro _)
  refine hK _ ?_;clear hK K
  refine zbj rfl (λhc3=>?_) (λhc3=>?_)
  ·try simp [zG6,zbd,zbc] at hc3
   all_goals
    refine AW_r rfl rfl λK hK=>?_
    simp (disch:=omega) [zG9,List.getElem?_eq_getElem,aNews,aAppend,aBuildSlice,chunks]
    repeat' first|(exfalso;omega)|(refine ⟨λ_=>?_,λ_=>?_⟩)|(refine ⟨by omega,?_⟩)|(intro _)
    all_goals (refine hK _ ?_;clear hK K)
    all_goals
     refine zbm (zbq ?_)
     simp (disch:=omega) [zG9,List.getElem?_eq_getElem,aNews,aAppend,aBuildSlice,chunks]
     all_goals first|(rw [zfh,←hv,zhr (by omega)];done)
  ·try simp [zG6,zbd,zbc] at hc3
   all_goals
    refine zbk ?_
    refine zbn ?_
    refine AW_r rfl rfl λK hK=>?_
    simp (disch:=omega) [zG9,List.getElem?_eq_getElem,aNews,aAppend,aBuildSlice,chunks]
    repeat' first|(exfalso;omega)|(refine ⟨λ_=>?_,λ_=>?_⟩)|(refine ⟨by omega,?_⟩)|(intro _)
    all_goals (refine hK _ ?_;clear hK K)
    all_goals
     refine zbh ?_
     refine zbi ?_
     refine zbr (λmM sS=>∃(acc:List Int) (m:Nat),mM=m+1∧(strN acc++varB m=varB n.toNat∧m≤n.toNat)∧sS = { env:=lkE [(0,(.g (.int .i64 ((m:Nat))))),(3,.arr 128 0 acc.length)],ob:=lk [(128,.flat 1 (acc.map cB8v))] }) ?_ ?_
     ·refine ⟨_,LeS.kr [(128,128)] [(0,(.g (.int .i64 (((n.toNat):Nat))))),(3,.arr 128 0 ([]).length)] [(128,.flat 1 (([]).map cB8v))] (by simp [zG7,KpR,renV2,renV,zfy,cB8v];try omega) (by simp [zG8,KpOR,renO,renV,cB8v];try rfl) (by rfl) (by rfl) (by simp) (by simp) (by rfl) (by simp [forms]),_,[],n.toNat,rfl,?_,rfl⟩
      ·simp [strN]
     ·rintro mM sS ⟨acc,m,rfl,⟨hv,hm⟩,rfl⟩
      have hal:acc.length≤7:=by have:=congrArg List.length hv;simp [zpo] at this;omega
      refine zbh ?_
      refine AW_r rfl rfl λK hK=>?_
      simp (disch:=omega) [zG9,List.getElem?_eq_getElem,aNews,aAppend,aBuildSlice,chunks]
      repeat' first|(refine ⟨by omega,?_⟩)|(intro _)
      refine hK _ ?_;clear hK K
      refine zbj rfl (λhc4=>?_) (λhc4=>?_)
      ·try simp [zG6,zbd,zbc] at hc4
       all_goals
        have hge:=zq9 (n:=m) (by omega)
        refine zbk ?_
        refine zbn ?_
        refine zbi ?_
        refine AW_r rfl rfl λK hK=>?_
        simp (disch:=omega) [zG9,List.getElem?_eq_getElem,aNews,aAppend,aBuildSlice,chunks]
        repeat' first|(exfalso;omega)|(refine ⟨λ_=>?_,λ_=>?_⟩)|(refine ⟨by omega,?_⟩)|(intro _)
        all_goals (refine hK _ ?_;clear hK K)
        all_goals
         refine zco rfl rfl λK hK=>?_
         simp (disch:=omega) [zG9,List.getElem?_eq_getElem,aNews,aAppend,aBuildSlice,chunks]
         repeat' first|(refine ⟨by omega,?_⟩)|(intro _)
         refine hK _ ?_;clear hK K
         refine ⟨_,LeS.kr [(128,272)] [(0,(.g (.int .i64 (((m / 128):Nat))))),(3,.arr 128 0 (acc++[128+((m % 128:Nat):Int)]).length)] [(128,.flat 1 ((acc++[128+((m % 128:Nat):Int)]).map cB8v))] (by simp [zG7,KpR,renV2,renV,zfy,cB8v];try simp (disch:=omega) [zbu,cB8v];try omega) (by simp [zG8,KpOR,renO,renV,cB8v];try rfl) (by rfl) (by rfl) (by simp) (by simp) (by rfl) (by simp [forms]),_,?_,acc++[128+((m % 128:Nat):Int)],m / 128,rfl,?_,rfl⟩
         ·omega
         ·refine ⟨?_,by omega⟩
          rw [hge] at hv
          rw [←hv,show (128+((m % 128:Nat):Int))=((128+m % 128:Nat):Int) by omega,zfh]
          simp
      ·try simp [zG6,zbd,zbc] at hc4
       all_goals
        refine zbx ?_
        refine zbn ?_
        refine AW_r rfl rfl λK hK=>?_
        simp (disch:=omega) [zG9,List.getElem?_eq_getElem,aNews,aAppend,aBuildSlice,chunks]
        repeat' first|(exfalso;omega)|(refine ⟨λ_=>?_,λ_=>?_⟩)|(refine ⟨by omega,?_⟩)|(intro _)
        all_goals (refine hK _ ?_;clear hK K)
        all_goals
         refine zbm (zbq ?_)
         simp (disch:=omega) [zG9,List.getElem?_eq_getElem,aNews,aAppend,aBuildSlice,chunks]
         all_goals first|(rw [zfh,←hv,zhr (by omega)];done)
 ·have hz:varZ n=[]:=by unfold varZ;rw [if_neg hn]
  rw [hz]
  have hn':n<0∨562949953421311<n:=by omega
  refine zbe Tryd.func49 (by rfl) (by rfl) (by rw [Tryd.ntmps49];exact Nat.le_of_ble_eq_true rfl) rfl (by decide) ?_
  rw [Tryd.ntmps49]
  refine AW_k [(0,_)] ⟨rfl,trivial⟩ ?_
  refine AW_r rfl rfl λK hK=>?_
  simp (disch:=omega) [zG9,List.getElem?_eq_getElem,aNews,aAppend,aBuildSlice,chunks]
  refine hK _ ?_;clear hK K
  refine zbh (AW_r rfl rfl λK hK=>?_)
  simp (disch:=omega) [zG9,List.getElem?_eq_getElem,aNews,aAppend,aBuildSlice,chunks]
  refine zby (zba zbz (zba zbz (zba zbz zbg))) (zpn _ _ _) rfl ?_
  simp (disch:=omega) [zG9,List.getElem?_eq_getElem,aNews,aAppend,aBuildSlice,chunks]
  refine hK _ ?_;clear hK K
  refine zbj (t:=true) (by simp;omega) (λ_=>?_) (λh=>by simp at h)
  refine AW_r rfl rfl λK hK=>?_
  simp (disch:=omega) [zG9,List.getElem?_eq_getElem,aNews,aAppend,aBuildSlice,chunks]
  repeat' first|(refine ⟨by omega,?_⟩)|(intro _)
  refine hK _ ?_;clear hK K
  refine zbm (zbq ?_)
  simp (disch:=omega) [zG9,List.getElem?_eq_getElem,aNews,aAppend,aBuildSlice,chunks]
  all_goals first | omega|(simp_all;done)|(simp [List.take_of_length_le];done)|((try simp_all);(try simp (disch:=omega) only [zbu,Int.tdiv_eq_ediv_of_nonneg,Int.tmod_eq_emod_of_nonneg,and_true,true_and]);done)|((try simp_all);(try simp (disch:=omega) only [zbu,Int.tdiv_eq_ediv_of_nonneg,Int.tmod_eq_emod_of_nonneg,and_true,true_and] at *);omega)
def piece(s:List UInt8):List UInt8:=varZ s.length++s
theorem zm6(s:List UInt8)(hs:s.length≤1048576):PCall Tryd.prog 43 [.s s] (.s (piece s)):=by
 have hl:=zb8 s.length
 refine zbe Tryd.func43 (by rfl) (by rfl) (by rw [Tryd.ntmps43];exact Nat.le_of_ble_eq_true rfl) rfl (by decide) ?_
 rw [Tryd.ntmps43]
 refine AW_k [(0,_)] ⟨rfl,trivial⟩ ?_
 refine AW_r rfl rfl λK hK=>?_
 simp (disch:=omega) [zbu,List.getElem?_eq_getElem,zcu,zgg,piece]
 repeat' first|(refine ⟨by omega,?_⟩)|(intro _)
 refine hK _ ?_;clear hK K
 refine AW_r rfl rfl λK hK=>?_
 simp (disch:=omega) [zbu,List.getElem?_eq_getElem,zcu,zgg,piece]
 repeat' first|(exfalso;omega)|(refine zby (zba zbz zbg) (zhs _) rfl ?_;simp (disch:=omega) [zbu,List.getElem?_eq_getElem,zcu,zgg,piece])|(refine ⟨by omega,?_⟩)|(intro _)
 refine hK _ ?_;clear hK K
 refine zbm (zbq ?_)
 simp (disch:=omega) [zbu,List.getElem?_eq_getElem,zcu,zgg,piece]
 all_goals first | omega|(simp_all;done)|(simp [List.take_of_length_le];done)|((try simp_all);(try simp (disch:=omega) only [zbu,Int.tdiv_eq_ediv_of_nonneg,Int.tmod_eq_emod_of_nonneg,and_true,true_and]);done)|((try simp_all);(try simp (disch:=omega) only [zbu,Int.tdiv_eq_ediv_of_nonneg,Int.tmod_eq_emod_of_nonneg,and_true,true_and] at *);omega)
theorem sized(s:List UInt8)(hs:s.length≤1048576):PCall Tryd.prog 50 [.s s] (.s (piece s)):=by
 have hl:=zb8 s.length
 refine zbe Tryd.func50 (by rfl) (by rfl) (by rw [Tryd.ntmps50];exact Nat.le_of_ble_eq_true rfl) rfl (by decide) ?_
 rw [Tryd.ntmps50]
 refine AW_k [(0,_)] ⟨rfl,trivial⟩ ?_
 refine AW_r rfl rfl λK hK=>?_
 simp (disch:=omega) [zbu,List.getElem?_eq_getElem,zcu,zgg,piece]
 repeat' first|(refine ⟨by omega,?_⟩)|(intro _)
 refine hK _ ?_;clear hK K
 refine AW_r rfl rfl λK hK=>?_
 simp (disch:=omega) [zbu,List.getElem?_eq_getElem,zcu,zgg,piece]
 repeat' first|(exfalso;omega)|(refine zby (zba zbz zbg) (zht _) rfl ?_;simp (disch:=omega) [zbu,List.getElem?_eq_getElem,zcu,zgg,piece])|(refine ⟨by omega,?_⟩)|(intro _)
 refine hK _ ?_;clear hK K
 refine zbm (zbq ?_)
 simp (disch:=omega) [zbu,List.getElem?_eq_getElem,zcu,zgg,piece]
 all_goals first | omega|(simp_all;done)|(simp [List.take_of_length_le];done)|((try simp_all);(try simp (disch:=omega) only [zbu,Int.tdiv_eq_ediv_of_nonneg,Int.tmod_eq_emod_of_nonneg,and_true,true_and]);done)|((try simp_all);(try simp (disch:=omega) only [zbu,Int.tdiv_eq_ediv_of_nonneg,Int.tmod_eq_emod_of_nonneg,and_true,true_and] at *);omega)
end Go.Proofs.YtchpfloemfoomaaDoor.Vs
end
section
namespace Go.Proofs.YtchpfloemfoomaaDoor.Vs
set_option linter.all false
set_option maxRecDepth 100000
def catM{α:Type}(f:α→List UInt8)(l:List α):List UInt8:=(l.map f).flatten
theorem zcm{α:Type}(f:α→List UInt8):catM f []=[]:=rfl
theorem zdg{α:Type}(f:α→List UInt8)(l:List α)(i:Nat)(h:i<l.length):catM f (l.take (i+1))=catM f (l.take i)++f l[i]:=by
 induction l generalizing i with
 | nil=>simp at h
 | cons x xs ih =>
  cases i with
  | zero=>simp [catM]
  | succ i =>
   have:=ih i (by simpa using h)
   simp only [catM,List.take_succ_cons,List.map_cons,List.flatten_cons,List.getElem_cons_succ,List.append_assoc] at this ⊢
   rw [this]
theorem zdl{α:Type}(f:α→List UInt8)(B:Nat):∀(l:List α),(∀x∈l,(f x).length≤B)→(catM f l).length≤l.length*B
 | [],_=>by simp [catM]
 | x :: xs,h=>by
  have h1:=zdl f B xs λy hy=>h y (by simp [hy])
  have h2:=h x (by simp)
  simp only [catM,List.map_cons,List.flatten_cons,List.length_append,List.length_cons] at h1 ⊢
  rw [Nat.succ_mul];omega
theorem zf0{α:Type}(f:α→List UInt8)(B:Nat)(l:List α)(h:∀x∈l,(f x).length≤B)(i:Nat):(catM f (l.take i)).length≤l.length*B:=by
 have h1:=zdl f B (l.take i) λx hx=>h x (List.mem_of_mem_take hx)
 have h2:(l.take i).length≤l.length:=by simp;omega
 exact Nat.le_trans h1 (Nat.mul_le_mul_right _ h2)
theorem zb9(s:List UInt8):(piece s).length≤7+s.length:=by
 have:=zb8 s.length
 unfold piece;simp;omega
def showSnap(p:DtCSnap):List UInt8:=piece p.fName++(piece p.fTag++(varZ p.fChunks.length++catM piece p.fChunks))
def showSet(s:DtCSet):List UInt8:=piece s.fName++(varZ s.fSnaps.length++catM showSnap s.fSnaps)
def showSaid(x:DtSaid):List UInt8:=varZ x.fClient++(varZ x.fNo++piece x.fText)
def showSt(s:DtState):List UInt8:=varZ s.fCat.fSets.length++(catM showSet s.fCat.fSets++(varZ s.fSaid.length++catM showSaid s.fSaid))
noncomputable def showState(s:DtState):List UInt8:=bif decB (StateP s) then showSt s else []
theorem zks{α:Type}{l:List α}{x:α}(h:x∈l):∃i:Nat,l[i]? = some x:=List.getElem?_of_mem h
theorem zkt{p:DtCSnap}(h:SnapP p):p.fName.length≤8∧p.fTag.length≤8∧p.fChunks.length≤4∧(∀x∈p.fChunks,x.length=8)∧(showSnap p).length≤97:=by
 obtain ⟨h1,h2,h3,h4,h5⟩:=h
 have a1:p.fName.length≤8:=h1.2.1
 have a2:p.fTag.length≤8:=by rcases h2 with h | h;simp [h];exact h.2.1
 have a3:∀x∈p.fChunks,x.length=8:=by intro x hx;obtain ⟨i,hi⟩:=zks hx;exact h5 i x hi
 refine ⟨a1,a2,h4,a3,?_⟩
 have b1:=zb9 p.fName
 have b2:=zb9 p.fTag
 have b3:=zb8 p.fChunks.length
 have b4:=zdl piece 15 p.fChunks (λx hx=>by have:=zb9 x;have:=a3 x hx;omega)
 unfold showSnap
 simp only [List.length_append]
 omega
theorem zku{s:DtCSet}(h:SetP s):s.fName.length≤8∧s.fSnaps.length≤5∧(∀p∈s.fSnaps,SnapP p)∧(showSet s).length≤507:=by
 obtain ⟨h1,h2,h3⟩:=h
 have a3:∀p∈s.fSnaps,SnapP p:=by intro p hp;obtain ⟨i,hi⟩:=zks hp;exact (h3 i p hi).1
 refine ⟨h1.2.1,h2,a3,?_⟩
 have b1:=zb9 s.fName
 have b2:=h1.2.1
 have b3:=zb8 s.fSnaps.length
 have b4:=zdl showSnap 97 s.fSnaps (λp hp=>(zkt (a3 p hp)).2.2.2.2)
 unfold showSet
 simp only [List.length_append]
 omega
theorem zws{x:DtSaid}(h:x.fText.length≤1048576):(showSaid x).length≤1048597:=by
 have b1:=zb9 x.fText
 have b2:=zb8 x.fClient
 have b3:=zb8 x.fNo
 unfold showSaid
 simp only [List.length_append]
 omega
theorem saidSz(s:DtState)(hs:DtState.sz s≤1048576):s.fSaid.length≤1048576∧∀x∈s.fSaid,x.fText.length≤1048576:=by
 have h0:=zbs DtSaid.sz_nonneg s.fSaid
 have h1:=DtCatalog.sz_nonneg s.fCat
 simp only [DtState.sz,szS] at hs
 refine ⟨by omega,λx hx=>?_⟩
 have h2:=zci DtSaid.sz_nonneg s.fSaid x hx
 simp only [DtSaid.sz] at h2
 omega
def zG10:=And.intro @zbu (And.intro @gE @tP)
theorem l26Texts(xs:List (List UInt8))(h4:xs.length≤4)(h8:∀x∈xs,x.length=8):PCall Tryd.prog 44 [.sl 1 (xs.map cS)] (.s (catM piece xs)):=by
 refine zbe Tryd.func44 (by rfl) (by rfl) (by rw [Tryd.ntmps44];exact Nat.le_of_ble_eq_true rfl) rfl (by decide) ?_
 rw [Tryd.ntmps44]
 refine AW_k [(0,_)] ⟨rfl,trivial⟩ ?_
 refine AW_r rfl rfl λK hK=>?_
 simp (disch:=omega) [zG10]
 repeat' first|(refine ⟨by omega,?_⟩)|(intro _)
 refine hK _ ?_;clear hK K
 refine AW_r rfl rfl λK hK=>?_
 simp (disch:=omega) [zG10]
 repeat' first|(refine ⟨by omega,?_⟩)|(intro _)
 refine hK _ ?_;clear hK K
 refine zbh ?_
 refine AW_r rfl rfl λK hK=>?_
 simp (disch:=omega) [zG10]
 repeat' first|(refine ⟨by omega,?_⟩)|(intro _)
 refine hK _ ?_;clear hK K
 refine zbi ?_
 refine zbr (λmM sS=>∃(i:Nat),mM=xs.length-i∧(i≤xs.length)∧sS = { env:=lkE [(0,.sl 1 (xs.map cS)),(3,.s (catM piece (xs.take i))),(4,(.g (.int .i64 ((i:Nat)))))],ob:=formOb [] [] }) ?_ ?_
 ·refine ⟨_,LeS.kp [(0,.sl 1 (xs.map cS)),(3,.s (catM piece (xs.take (0)))),(4,(.g (.int .i64 (((0):Nat)))))] (by simp [zG7,KpE];try simp [zcm]),_,0,rfl,?_,rfl⟩
  ·simp
 ·rintro mM sS ⟨i,rfl,hi,rfl⟩
  have hj:=zf0 piece 15 xs (λx hx=>by have:=zb9 x;have:=h8 x hx;omega) i
  refine zbh ?_
  refine AW_r rfl rfl λK hK=>?_
  simp (disch:=omega) [zG10,cS]
  repeat' first|(refine ⟨by omega,?_⟩)|(intro _)
  refine hK _ ?_;clear hK K
  refine zbj rfl (λhc1=>?_) (λhc1=>?_)
  ·try simp [zG6,zbd,zbc] at hc1
   all_goals
    have hst:=zdg piece xs i (by omega)
    have hx8:=h8 _ (List.getElem_mem (n:=i) (h:=by omega))
    have hp8:=zb9 xs[i]
    refine zbk ?_
    refine zbn ?_
    refine zbh ?_
    refine zbi ?_
    refine zco rfl rfl λK hK=>?_
    simp (disch:=omega) [zG10,cS]
    repeat' first|(exfalso;omega)|(refine zby (zba zd6 zbg) (zm6 _ (by omega)) rfl ?_;simp (disch:=omega) [zG10,cS])|(refine ⟨λ_=>?_,λ_=>?_⟩)|(refine ⟨by omega,?_⟩)|(intro _)
    all_goals (refine hK _ ?_;clear hK K)
    all_goals
     refine zbn ?_
     refine zco rfl rfl λK hK=>?_
     simp (disch:=omega) [zG10,cS]
     repeat' first|(refine ⟨by omega,?_⟩)|(intro _)
     refine hK _ ?_;clear hK K
     refine ⟨_,LeS.kp [(0,.sl 1 (xs.map cS)),(3,.s (catM piece (xs.take (i+1)))),(4,(.g (.int .i64 (((i+1):Nat)))))] (by simp [zG7,KpE];try simp [hst,zcm]),_,?_,i+1,rfl,?_,rfl⟩
     ·omega
     ·omega
  ·try simp [zG6,zbd,zbc] at hc1
   all_goals
    have hi2:i=xs.length:=by omega
    subst hi2
    simp only [List.take_length] at *
    refine zbx ?_
    refine zbn ?_
    refine AW_r rfl rfl λK hK=>?_
    simp (disch:=omega) [zG10,cS]
    repeat' first|(exfalso;omega)|(refine ⟨λ_=>?_,λ_=>?_⟩)|(refine ⟨by omega,?_⟩)|(intro _)
    all_goals (refine hK _ ?_;clear hK K)
    all_goals
     refine zbm (zbq ?_)
     simp (disch:=omega) [zG10,cS]
     all_goals first | omega|(simp_all;done)|(simp [List.take_of_length_le];done)|((try simp_all);(try simp (disch:=omega) only [zbu,Int.tdiv_eq_ediv_of_nonneg,Int.tmod_eq_emod_of_nonneg,and_true,true_and]);done)|((try simp_all);(try simp (disch:=omega) only [zbu,Int.tdiv_eq_ediv_of_nonneg,Int.tmod_eq_emod_of_nonneg,and_true,true_and] at *);omega)
theorem zg2(s:DtState)(hs:DtState.sz s≤1048576):PCall Tryd.prog 28 [.agg (DtState.cells s)] (.s (showState s)):=by
 have ⟨hz,hl⟩:=zm5 s hs
 obtain ⟨-,hT⟩:=saidSz s hs
 by_cases hP:StateP s
 ·have hS:∀x∈s.fCat.fSets,SetP x:=by intro x hx;obtain ⟨i,hi⟩:=zks hx;exact (hP.1.2 i x hi).1
  have h5:s.fCat.fSets.length≤5:=hP.1.1
  have hd:=zcj hP
  have hm:s.fSaid.length*1048597≤1048576*1048597:=Nat.mul_le_mul_right _ hl
  have v1:=zb8 s.fCat.fSets.length
  have v2:=zb8 s.fSaid.length
  have v3:=zdl showSet 507 s.fCat.fSets (λx hx=>(zku (hS x hx)).2.2.2)
  refine zbe Tryd.func28 (by rfl) (by rfl) (by rw [Tryd.ntmps28];exact Nat.le_of_ble_eq_true rfl) rfl (by decide) ?_
  rw [Tryd.ntmps28]
  refine AW_k [(0,_)] ⟨rfl,trivial⟩ ?_
  refine AW_r rfl rfl λK hK=>?_
  simp (disch:=omega) [zG10,DtState.cells,DtCatalog.cells,DtCSet.cells,DtCSnap.cells,DtSaid.cells,hd]
  repeat' first|(refine ⟨by omega,?_⟩)|(intro _)
  refine hK _ ?_;clear hK K
  refine zbh ?_
  refine AW_r rfl rfl λK hK=>?_
  simp (disch:=omega) [zG10,DtState.cells,DtCatalog.cells,DtCSet.cells,DtCSnap.cells,DtSaid.cells,hd]
  repeat' first|(exfalso;omega)|(refine zby (zba (zbv rfl) zbg) (zfp _ (by omega)) rfl ?_;simp (disch:=omega) [zG10,DtState.cells,DtCatalog.cells,DtCSet.cells,DtCSnap.cells,DtSaid.cells,hd])|(refine ⟨by omega,?_⟩)|(intro _)
  refine hK _ ?_;clear hK K
  refine zbj rfl (λhc2=>?_) (λhc2=>?_)
  ·try simp [zG6,zbd,zbc] at hc2
   all_goals
    refine AW_r rfl rfl λK hK=>?_
    simp (disch:=omega) [zG10,DtState.cells,DtCatalog.cells,DtCSet.cells,DtCSnap.cells,DtSaid.cells,hd]
    repeat' first|(exfalso;omega)|(refine ⟨λ_=>?_,λ_=>?_⟩)|(refine ⟨by omega,?_⟩)|(intro _)
    all_goals (refine hK _ ?_;clear hK K)
    all_goals
     refine zbm (zbq ?_)
     simp (disch:=omega) [zG10,DtState.cells,DtCatalog.cells,DtCSet.cells,DtCSnap.cells,DtSaid.cells,hd]
     all_goals first|(simp [showState,hd,showSt];done)
  ·try simp [zG6,zbd,zbc] at hc2
   all_goals
    refine zbk ?_
    refine zbn ?_
    refine AW_r rfl rfl λK hK=>?_
    simp (disch:=omega) [zG10,DtState.cells,DtCatalog.cells,DtCSet.cells,DtCSnap.cells,DtSaid.cells,hd]
    repeat' first|(exfalso;omega)|(refine zby (zba zbz zbg) (zhs _) rfl ?_;simp (disch:=omega) [zG10,DtState.cells,DtCatalog.cells,DtCSet.cells,DtCSnap.cells,DtSaid.cells,hd])|(refine ⟨λ_=>?_,λ_=>?_⟩)|(refine ⟨by omega,?_⟩)|(intro _)
    all_goals (refine hK _ ?_;clear hK K)
    all_goals
     refine zbh ?_
     refine AW_r rfl rfl λK hK=>?_
     simp (disch:=omega) [zG10,DtState.cells,DtCatalog.cells,DtCSet.cells,DtCSnap.cells,DtSaid.cells,hd]
     repeat' first|(refine ⟨by omega,?_⟩)|(intro _)
     refine hK _ ?_;clear hK K
     refine zbi ?_
     refine zbr (λmM sS=>∃(i:Nat),mM=s.fCat.fSets.length-i∧(i≤s.fCat.fSets.length)∧sS = { env:=lkE [(1,.ptr 32 0),(3,.s (varZ s.fCat.fSets.length++catM showSet (s.fCat.fSets.take i))),(4,(.g (.int .i64 ((i:Nat)))))],ob:=lk [(32,.cells (DtState.cells s))] }) ?_ ?_
     ·refine ⟨_,LeS.ko [(1,.ptr 32 0),(3,.s (varZ s.fCat.fSets.length++catM showSet (s.fCat.fSets.take (0)))),(4,(.g (.int .i64 (((0):Nat)))))] [(32,.cells (DtState.cells s))] (by simp [zG7,KpE,DtState.cells,DtCatalog.cells,DtCSet.cells,DtCSnap.cells];try simp [zcm]) (by simp [zG8,KpO,DtState.cells,DtCatalog.cells,DtCSet.cells,DtCSnap.cells];try rfl) (by rfl) (by simp) (by rfl),_,0,rfl,?_,rfl⟩
      ·simp
     ·rintro mM sS ⟨i,rfl,hi,rfl⟩
      have hb1:=zf0 showSet 507 s.fCat.fSets (λx hx=>(zku (hS x hx)).2.2.2) i
      refine zbh ?_
      refine AW_r rfl rfl λK hK=>?_
      simp (disch:=omega) [zG10,DtState.cells,DtCatalog.cells,DtCSet.cells,DtCSnap.cells,DtSaid.cells,hd]
      repeat' first|(refine ⟨by omega,?_⟩)|(intro _)
      refine hK _ ?_;clear hK K
      refine zbj rfl (λhc3=>?_) (λhc3=>?_)
      ·try simp [zG6,zbd,zbc] at hc3
       all_goals
        have hst:=zdg showSet s.fCat.fSets i (by omega)
        have ⟨e1,e2,e3,e4⟩:=zku (hS _ (List.getElem_mem (n:=i) (h:=by omega)))
        have e5:=zb9 (s.fCat.fSets[i]).fName
        have e6:=zb8 (s.fCat.fSets[i]).fSnaps.length
        refine zbk ?_
        refine zbn ?_
        refine zbh ?_
        refine zbi ?_
        refine AW_r rfl rfl λK hK=>?_
        simp (disch:=omega) [zG10,DtState.cells,DtCatalog.cells,DtCSet.cells,DtCSnap.cells,DtSaid.cells,hd]
        repeat' first|(exfalso;omega)|(refine ⟨λ_=>?_,λ_=>?_⟩)|(refine ⟨by omega,?_⟩)|(intro _)
        all_goals (refine hK _ ?_;clear hK K)
        all_goals
         refine AW_q rfl mix (by kernel_rfl) rfl λK hK=>?_
         simp (disch:=omega) [zG10,DtState.cells,DtCatalog.cells,DtCSet.cells,DtCSnap.cells,DtSaid.cells,hd]
         repeat' first|(exfalso;omega)|(refine zby (zba zd6 zbg) (zm6 _ (by omega)) rfl ?_;simp (disch:=omega) [zG10,DtState.cells,DtCatalog.cells,DtCSet.cells,DtCSnap.cells,DtSaid.cells,hd])|(refine zby (zba zbz zbg) (zhs _) rfl ?_;simp (disch:=omega) [zG10,DtState.cells,DtCatalog.cells,DtCSet.cells,DtCSnap.cells,DtSaid.cells,hd])|(refine ⟨by omega,?_⟩)|(intro _)
         refine hK _ ?_;clear hK K
         refine AW_r rfl rfl λK hK=>?_
         simp (disch:=omega) [zG10,DtState.cells,DtCatalog.cells,DtCSet.cells,DtCSnap.cells,DtSaid.cells,hd]
         repeat' first|(refine ⟨by omega,?_⟩)|(intro _)
         refine hK _ ?_;clear hK K
         refine zbi ?_
         refine zbr (λmM sS=>∃(k:Nat),mM=(s.fCat.fSets[i]).fSnaps.length-k∧(k≤(s.fCat.fSets[i]).fSnaps.length)∧sS = { env:=lkE [(1,.ptr 32 0),(3,.s (varZ s.fCat.fSets.length++(catM showSet (s.fCat.fSets.take i)++(piece (s.fCat.fSets[i]).fName++(varZ (s.fCat.fSets[i]).fSnaps.length++catM showSnap ((s.fCat.fSets[i]).fSnaps.take k)))))),(4,(.g (.int .i64 ((i:Nat))))),(5,.ptr 96 0),(6,(.g (.int .i64 ((k:Nat)))))],ob:=lk [(32,.cells (DtState.cells s)),(96,.cells (DtCSet.cells s.fCat.fSets[i]))] }) ?_ ?_
         ·refine ⟨_,LeS.ko [(1,.ptr 32 0),(3,.s (varZ s.fCat.fSets.length++(catM showSet (s.fCat.fSets.take i)++(piece (s.fCat.fSets[i]).fName++(varZ (s.fCat.fSets[i]).fSnaps.length++catM showSnap ((s.fCat.fSets[i]).fSnaps.take (0))))))),(4,(.g (.int .i64 ((i:Nat))))),(5,.ptr 96 0),(6,(.g (.int .i64 (((0):Nat)))))] [(32,.cells (DtState.cells s)),(96,.cells (DtCSet.cells s.fCat.fSets[i]))] (by simp [zG7,KpE,DtState.cells,DtCatalog.cells,DtCSet.cells,DtCSnap.cells];try simp [zcm]) (by simp [zG8,KpO,DtState.cells,DtCatalog.cells,DtCSet.cells,DtCSnap.cells];try rfl) (by rfl) (by simp) (by rfl),_,0,rfl,?_,rfl⟩
          ·simp
         ·rintro mM sS ⟨k,rfl,hk,rfl⟩
          have hb2:=zf0 showSnap 97 (s.fCat.fSets[i]).fSnaps (λp hp=>(zkt (e3 p hp)).2.2.2.2) k
          refine zbh ?_
          refine AW_r rfl rfl λK hK=>?_
          simp (disch:=omega) [zG10,DtState.cells,DtCatalog.cells,DtCSet.cells,DtCSnap.cells,DtSaid.cells,hd]
          repeat' first|(refine ⟨by omega,?_⟩)|(intro _)
          refine hK _ ?_;clear hK K
          refine zbj rfl (λhc4=>?_) (λhc4=>?_)
          ·try simp [zG6,zbd,zbc] at hc4
           all_goals
            have hsp:=zdg showSnap (s.fCat.fSets[i]).fSnaps k (by omega)
            have ⟨f1,f2,f3,f4,f5⟩:=zkt (e3 _ (List.getElem_mem (n:=k) (h:=by omega)))
            have f6:=zb9 ((s.fCat.fSets[i]).fSnaps[k]).fName
            have f7:=zb9 ((s.fCat.fSets[i]).fSnaps[k]).fTag
            have f8:=zb8 ((s.fCat.fSets[i]).fSnaps[k]).fChunks.length
            have f9:=zdl piece 15 ((s.fCat.fSets[i]).fSnaps[k]).fChunks (λx hx=>by have:=zb9 x;have:=f4 x hx;omega)
            refine zbk ?_
            refine zbn ?_
            refine zbh ?_
            refine zbi ?_
            refine AW_r rfl rfl λK hK=>?_
            simp (disch:=omega) [zG10,DtState.cells,DtCatalog.cells,DtCSet.cells,DtCSnap.cells,DtSaid.cells,hd]
            repeat' first|(exfalso;omega)|(refine ⟨λ_=>?_,λ_=>?_⟩)|(refine ⟨by omega,?_⟩)|(intro _)
            all_goals (refine hK _ ?_;clear hK K)
            all_goals
             refine AW_qe rfl mix (by kernel_rfl) rfl λK hK=>?_
             simp (disch:=omega) [zG10,DtState.cells,DtCatalog.cells,DtCSet.cells,DtCSnap.cells,DtSaid.cells,hd]
             repeat' first|(exfalso;omega)|(refine zby (zba zd6 zbg) (zm6 _ (by omega)) rfl ?_;simp (disch:=omega) [zG10,DtState.cells,DtCatalog.cells,DtCSet.cells,DtCSnap.cells,DtSaid.cells,hd])|(refine zby (zba zbz zbg) (zhs _) rfl ?_;simp (disch:=omega) [zG10,DtState.cells,DtCatalog.cells,DtCSet.cells,DtCSnap.cells,DtSaid.cells,hd])|(refine zby (zba zc6 zbg) (l26Texts _ (by omega) (by assumption)) rfl ?_;simp (disch:=omega) [zG10,DtState.cells,DtCatalog.cells,DtCSet.cells,DtCSnap.cells,DtSaid.cells,hd])|(refine ⟨by omega,?_⟩)|(intro _)
             refine hK _ ?_;clear hK K
             refine zbn ?_
             refine zco rfl rfl λK hK=>?_
             simp (disch:=omega) [zG10,DtState.cells,DtCatalog.cells,DtCSet.cells,DtCSnap.cells,DtSaid.cells,hd]
             repeat' first|(refine ⟨by omega,?_⟩)|(intro _)
             refine hK _ ?_;clear hK K
             refine ⟨_,LeS.ko [(1,.ptr 32 0),(3,.s (varZ s.fCat.fSets.length++(catM showSet (s.fCat.fSets.take i)++(piece (s.fCat.fSets[i]).fName++(varZ (s.fCat.fSets[i]).fSnaps.length++catM showSnap ((s.fCat.fSets[i]).fSnaps.take (k+1))))))),(4,(.g (.int .i64 ((i:Nat))))),(5,.ptr 96 0),(6,(.g (.int .i64 (((k+1):Nat)))))] [(32,.cells (DtState.cells s)),(96,.cells (DtCSet.cells s.fCat.fSets[i]))] (by simp [zG7,KpE,DtState.cells,DtCatalog.cells,DtCSet.cells,DtCSnap.cells];try simp [hsp,zcm,showSnap]) (by simp [zG8,KpO,DtState.cells,DtCatalog.cells,DtCSet.cells,DtCSnap.cells];try rfl) (by rfl) (by simp) (by rfl),_,?_,k+1,rfl,?_,rfl⟩
             ·omega
             ·omega
          ·try simp [zG6,zbd,zbc] at hc4
           all_goals
            have hk2:k=(s.fCat.fSets[i]).fSnaps.length:=by omega
            subst hk2
            simp only [List.take_length] at *
            refine zbx ?_
            refine zbn ?_
            refine zco rfl rfl λK hK=>?_
            simp (disch:=omega) [zG10,DtState.cells,DtCatalog.cells,DtCSet.cells,DtCSnap.cells,DtSaid.cells,hd]
            repeat' first|(exfalso;omega)|(refine ⟨λ_=>?_,λ_=>?_⟩)|(refine ⟨by omega,?_⟩)|(intro _)
            all_goals (refine hK _ ?_;clear hK K)
            all_goals
             refine ⟨_,LeS.ko [(1,.ptr 32 0),(3,.s (varZ s.fCat.fSets.length++catM showSet (s.fCat.fSets.take (i+1)))),(4,(.g (.int .i64 (((i+1):Nat)))))] [(32,.cells (DtState.cells s))] (by simp [zG7,KpE,DtState.cells,DtCatalog.cells,DtCSet.cells,DtCSnap.cells];try simp [hst,zcm,showSet]) (by simp [zG8,KpO,DtState.cells,DtCatalog.cells,DtCSet.cells,DtCSnap.cells];try rfl) (by rfl) (by simp) (by rfl),_,?_,i+1,rfl,?_,rfl⟩
             ·omega
             ·omega
      ·try simp [zG6,zbd,zbc] at hc3
       all_goals
        have hi2:i=s.fCat.fSets.length:=by omega
        subst hi2
        simp only [List.take_length] at *
        refine zbx ?_
        refine zbn ?_
        refine AW_r rfl rfl λK hK=>?_
        simp (disch:=omega) [zG10,DtState.cells,DtCatalog.cells,DtCSet.cells,DtCSnap.cells,DtSaid.cells,hd]
        repeat' first|(exfalso;omega)|(refine zby (zba zbz zbg) (zhs _) rfl ?_;simp (disch:=omega) [zG10,DtState.cells,DtCatalog.cells,DtCSet.cells,DtCSnap.cells,DtSaid.cells,hd])|(refine ⟨λ_=>?_,λ_=>?_⟩)|(refine ⟨by omega,?_⟩)|(intro _)
        all_goals (refine hK _ ?_;clear hK K)
        all_goals
         refine zbh ?_
         refine AW_r rfl rfl λK hK=>?_
         simp (disch:=omega) [zG10,DtState.cells,DtCatalog.cells,DtCSet.cells,DtCSnap.cells,DtSaid.cells,hd]
         repeat' first|(refine ⟨by omega,?_⟩)|(intro _)
         refine hK _ ?_;clear hK K
         refine zbi ?_
         refine zbr (λmM sS=>∃(i:Nat),mM=s.fSaid.length-i∧(i≤s.fSaid.length)∧sS = { env:=lkE [(1,.ptr 32 0),(3,.s (varZ s.fCat.fSets.length++(catM showSet s.fCat.fSets++(varZ s.fSaid.length++catM showSaid (s.fSaid.take i))))),(8,(.g (.int .i64 ((i:Nat)))))],ob:=lk [(32,.cells (DtState.cells s))] }) ?_ ?_
         ·refine ⟨_,LeS.ko [(1,.ptr 32 0),(3,.s (varZ s.fCat.fSets.length++(catM showSet s.fCat.fSets++(varZ s.fSaid.length++catM showSaid (s.fSaid.take (0)))))),(8,(.g (.int .i64 (((0):Nat)))))] [(32,.cells (DtState.cells s))] (by simp [zG7,KpE,DtState.cells,DtCatalog.cells,DtSaid.cells];try simp [zcm]) (by simp [zG8,KpO,DtState.cells,DtCatalog.cells,DtSaid.cells];try rfl) (by rfl) (by simp) (by rfl),_,0,rfl,?_,rfl⟩
          ·simp
         ·rintro mM sS ⟨i,rfl,hi,rfl⟩
          have hb3:=zf0 showSaid 1048597 s.fSaid (λx hx=>zws (hT x hx)) i
          refine zbh ?_
          refine AW_r rfl rfl λK hK=>?_
          simp (disch:=omega) [zG10,DtState.cells,DtCatalog.cells,DtCSet.cells,DtCSnap.cells,DtSaid.cells,hd]
          repeat' first|(refine ⟨by omega,?_⟩)|(intro _)
          refine hK _ ?_;clear hK K
          refine zbj rfl (λhc5=>?_) (λhc5=>?_)
          ·try simp [zG6,zbd,zbc] at hc5
           all_goals
            have hst:=zdg showSaid s.fSaid i (by omega)
            have g1:=hT _ (List.getElem_mem (n:=i) (h:=by omega))
            have g2:=zb9 (s.fSaid[i]).fText
            have g3:=zb8 (s.fSaid[i]).fClient
            have g4:=zb8 (s.fSaid[i]).fNo
            refine zbk ?_
            refine zbn ?_
            refine zbh ?_
            refine zbi ?_
            refine AW_qe rfl mix (by kernel_rfl) rfl λK hK=>?_
            simp (disch:=omega) [zG10,DtState.cells,DtCatalog.cells,DtCSet.cells,DtCSnap.cells,DtSaid.cells,hd]
            repeat' first|(exfalso;omega)|(refine zby (zba zbz zbg) (zhs _) rfl ?_;simp (disch:=omega) [zG10,DtState.cells,DtCatalog.cells,DtCSet.cells,DtCSnap.cells,DtSaid.cells,hd])|(refine zby (zba zd6 zbg) (zm6 _ (by omega)) rfl ?_;simp (disch:=omega) [zG10,DtState.cells,DtCatalog.cells,DtCSet.cells,DtCSnap.cells,DtSaid.cells,hd])|(refine ⟨λ_=>?_,λ_=>?_⟩)|(refine ⟨by omega,?_⟩)|(intro _)
            all_goals (refine hK _ ?_;clear hK K)
            all_goals
             refine zbn ?_
             refine zco rfl rfl λK hK=>?_
             simp (disch:=omega) [zG10,DtState.cells,DtCatalog.cells,DtCSet.cells,DtCSnap.cells,DtSaid.cells,hd]
             repeat' first|(refine ⟨by omega,?_⟩)|(intro _)
             refine hK _ ?_;clear hK K
             refine ⟨_,LeS.ko [(1,.ptr 32 0),(3,.s (varZ s.fCat.fSets.length++(catM showSet s.fCat.fSets++(varZ s.fSaid.length++catM showSaid (s.fSaid.take (i+1)))))),(8,(.g (.int .i64 (((i+1):Nat)))))] [(32,.cells (DtState.cells s))] (by simp [zG7,KpE,DtState.cells,DtCatalog.cells,DtSaid.cells];try simp [hst,zcm,showSaid]) (by simp [zG8,KpO,DtState.cells,DtCatalog.cells,DtSaid.cells];try rfl) (by rfl) (by simp) (by rfl),_,?_,i+1,rfl,?_,rfl⟩
             ·omega
             ·omega
          ·try simp [zG6,zbd,zbc] at hc5
           all_goals
            have hi2:i=s.fSaid.length:=by omega
            subst hi2
            simp only [List.take_length] at *
            refine zbx ?_
            refine zbn ?_
            refine AW_r rfl rfl λK hK=>?_
            simp (disch:=omega) [zG10,DtState.cells,DtCatalog.cells,DtCSet.cells,DtCSnap.cells,DtSaid.cells,hd]
            repeat' first|(exfalso;omega)|(refine ⟨λ_=>?_,λ_=>?_⟩)|(refine ⟨by omega,?_⟩)|(intro _)
            all_goals (refine hK _ ?_;clear hK K)
            all_goals
             refine zbm (zbq ?_)
             simp (disch:=omega) [zG10,DtState.cells,DtCatalog.cells,DtCSet.cells,DtCSnap.cells,DtSaid.cells,hd]
             all_goals first|(simp [showState,hd,showSt];done)
 ·have hd:=zck hP
  refine zbe Tryd.func28 (by rfl) (by rfl) (by rw [Tryd.ntmps28];exact Nat.le_of_ble_eq_true rfl) rfl (by decide) ?_
  rw [Tryd.ntmps28]
  refine AW_k [(0,_)] ⟨rfl,trivial⟩ ?_
  refine AW_r rfl rfl λK hK=>?_
  simp (disch:=omega) [zG10,DtState.cells,DtCatalog.cells,hd]
  refine hK _ ?_;clear hK K
  refine zbh (AW_r rfl rfl λK hK=>?_)
  simp (disch:=omega) [zG10,DtState.cells,DtCatalog.cells,hd]
  refine zby (zba (zbv rfl) zbg) (zfp _ hs) rfl ?_
  simp (disch:=omega) [zG10,DtState.cells,DtCatalog.cells,hd]
  refine hK _ ?_;clear hK K
  refine zhz (by simp) ?_
  refine AW_r rfl rfl λK hK=>?_
  simp (disch:=omega) [zG10,DtState.cells,DtCatalog.cells,hd]
  repeat' first|(refine ⟨by omega,?_⟩)|(intro _)
  refine hK _ ?_;clear hK K
  refine zbm (zbq ?_)
  simp (disch:=omega) [zG10,DtState.cells,DtCatalog.cells,hd,showState,hd]
  all_goals first | omega|(simp_all;done)|(simp [List.take_of_length_le];done)|((try simp_all);(try simp (disch:=omega) only [zbu,Int.tdiv_eq_ediv_of_nonneg,Int.tmod_eq_emod_of_nonneg,and_true,true_and]);done)|((try simp_all);(try simp (disch:=omega) only [zbu,Int.tdiv_eq_ediv_of_nonneg,Int.tmod_eq_emod_of_nonneg,and_true,true_and] at *);omega)
theorem zg3(s:DtState)(hs:DtState.sz s≤1048576):PCall Tryd.prog 32 [.agg (DtState.cells s)] (.s (showState s)):=by
 have ⟨hz,hl⟩:=zm5 s hs
 obtain ⟨-,hT⟩:=saidSz s hs
 by_cases hP:StateP s
 ·have hS:∀x∈s.fCat.fSets,SetP x:=by intro x hx;obtain ⟨i,hi⟩:=zks hx;exact (hP.1.2 i x hi).1
  have h5:s.fCat.fSets.length≤5:=hP.1.1
  have hd:=zcj hP
  have hm:s.fSaid.length*1048597≤1048576*1048597:=Nat.mul_le_mul_right _ hl
  have v1:=zb8 s.fCat.fSets.length
  have v2:=zb8 s.fSaid.length
  have v3:=zdl showSet 507 s.fCat.fSets (λx hx=>(zku (hS x hx)).2.2.2)
  refine zbe Tryd.func32 (by rfl) (by rfl) (by rw [Tryd.ntmps32];exact Nat.le_of_ble_eq_true rfl) rfl (by decide) ?_
  rw [Tryd.ntmps32]
  refine AW_k [(0,_)] ⟨rfl,trivial⟩ ?_
  refine AW_r rfl rfl λK hK=>?_
  simp (disch:=omega) [zG10,DtState.cells,DtCatalog.cells,DtCSet.cells,DtCSnap.cells,DtSaid.cells,hd]
  repeat' first|(refine ⟨by omega,?_⟩)|(intro _)
  refine hK _ ?_;clear hK K
  refine zbh ?_
  refine AW_r rfl rfl λK hK=>?_
  simp (disch:=omega) [zG10,DtState.cells,DtCatalog.cells,DtCSet.cells,DtCSnap.cells,DtSaid.cells,hd]
  repeat' first|(exfalso;omega)|(refine zby (zba (zbv rfl) zbg) (zfq _ (by omega)) rfl ?_;simp (disch:=omega) [zG10,DtState.cells,DtCatalog.cells,DtCSet.cells,DtCSnap.cells,DtSaid.cells,hd])|(refine ⟨by omega,?_⟩)|(intro _)
  refine hK _ ?_;clear hK K
  refine zbj rfl (λhc6=>?_) (λhc6=>?_)
  ·try simp [zG6,zbd,zbc] at hc6
   all_goals
    refine AW_r rfl rfl λK hK=>?_
    simp (disch:=omega) [zG10,DtState.cells,DtCatalog.cells,DtCSet.cells,DtCSnap.cells,DtSaid.cells,hd]
    repeat' first|(exfalso;omega)|(refine ⟨λ_=>?_,λ_=>?_⟩)|(refine ⟨by omega,?_⟩)|(intro _)
    all_goals (refine hK _ ?_;clear hK K)
    all_goals
     refine zbm (zbq ?_)
     simp (disch:=omega) [zG10,DtState.cells,DtCatalog.cells,DtCSet.cells,DtCSnap.cells,DtSaid.cells,hd]
     all_goals first|(simp [showState,hd,showSt];done)
  ·try simp [zG6,zbd,zbc] at hc6
   all_goals
    refine zbk ?_
    refine zbn ?_
    refine AW_r rfl rfl λK hK=>?_
    simp (disch:=omega) [zG10,DtState.cells,DtCatalog.cells,DtCSet.cells,DtCSnap.cells,DtSaid.cells,hd]
    repeat' first|(exfalso;omega)|(refine zby (zba zbz zbg) (zht _) rfl ?_;simp (disch:=omega) [zG10,DtState.cells,DtCatalog.cells,DtCSet.cells,DtCSnap.cells,DtSaid.cells,hd])|(refine ⟨λ_=>?_,λ_=>?_⟩)|(refine ⟨by omega,?_⟩)|(intro _)
    all_goals (refine hK _ ?_;clear hK K)
    all_goals
     refine zbh ?_
     refine AW_r rfl rfl λK hK=>?_
     simp (disch:=omega) [zG10,DtState.cells,DtCatalog.cells,DtCSet.cells,DtCSnap.cells,DtSaid.cells,hd]
     repeat' first|(refine ⟨by omega,?_⟩)|(intro _)
     refine hK _ ?_;clear hK K
     refine zbi ?_
     refine zbr (λmM sS=>∃(i:Nat),mM=s.fCat.fSets.length-i∧(i≤s.fCat.fSets.length)∧sS = { env:=lkE [(1,.ptr 32 0),(3,.s (varZ s.fCat.fSets.length++catM showSet (s.fCat.fSets.take i))),(22,.sl 2 (s.fCat.fSets.map DtCSet.cells)),(23,(.g (.int .i64 ((s.fCat.fSets.length:Nat))))),(24,(.g (.int .i64 ((i:Nat)))))],ob:=lk [(32,.cells (DtState.cells s))] }) ?_ ?_
     ·refine ⟨_,LeS.ko [(1,.ptr 32 0),(3,.s (varZ s.fCat.fSets.length++catM showSet (s.fCat.fSets.take (0)))),(22,.sl 2 (s.fCat.fSets.map DtCSet.cells)),(23,(.g (.int .i64 ((s.fCat.fSets.length:Nat))))),(24,(.g (.int .i64 (((0):Nat)))))] [(32,.cells (DtState.cells s))] (by simp [zG7,KpE,DtState.cells,DtCatalog.cells,DtCSet.cells,DtCSnap.cells];try simp [zcm]) (by simp [zG8,KpO,DtState.cells,DtCatalog.cells,DtCSet.cells,DtCSnap.cells];try rfl) (by rfl) (by simp) (by rfl),_,0,rfl,?_,rfl⟩
      ·simp
     ·rintro mM sS ⟨i,rfl,hi,rfl⟩
      have hb1:=zf0 showSet 507 s.fCat.fSets (λx hx=>(zku (hS x hx)).2.2.2) i
      refine AW_r rfl rfl λK hK=>?_
      simp (disch:=omega) [zG10,DtState.cells,DtCatalog.cells,DtCSet.cells,DtCSnap.cells,DtSaid.cells,hd]
      repeat' first|(refine ⟨by omega,?_⟩)|(intro _)
      refine hK _ ?_;clear hK K
      refine zbh ?_
      refine zbj rfl (λhc7=>?_) (λhc7=>?_)
      ·try simp [zG6,zbd,zbc] at hc7
       all_goals
        have hst:=zdg showSet s.fCat.fSets i (by omega)
        have ⟨e1,e2,e3,e4⟩:=zku (hS _ (List.getElem_mem (n:=i) (h:=by omega)))
        have e5:=zb9 (s.fCat.fSets[i]).fName
        have e6:=zb8 (s.fCat.fSets[i]).fSnaps.length
        refine zbk ?_
        refine zbn ?_
        refine zbh ?_
        refine zbi ?_
        refine AW_r rfl rfl λK hK=>?_
        simp (disch:=omega) [zG10,DtState.cells,DtCatalog.cells,DtCSet.cells,DtCSnap.cells,DtSaid.cells,hd]
        repeat' first|(exfalso;omega)|(refine ⟨λ_=>?_,λ_=>?_⟩)|(refine ⟨by omega,?_⟩)|(intro _)
        all_goals (refine hK _ ?_;clear hK K)
        all_goals
         refine AW_q rfl mix (by kernel_rfl) rfl λK hK=>?_
         simp (disch:=omega) [zG10,DtState.cells,DtCatalog.cells,DtCSet.cells,DtCSnap.cells,DtSaid.cells,hd]
         repeat' first|(exfalso;omega)|(refine zby (zba zd6 zbg) (sized _ (by omega)) rfl ?_;simp (disch:=omega) [zG10,DtState.cells,DtCatalog.cells,DtCSet.cells,DtCSnap.cells,DtSaid.cells,hd])|(refine zby (zba zbz zbg) (zht _) rfl ?_;simp (disch:=omega) [zG10,DtState.cells,DtCatalog.cells,DtCSet.cells,DtCSnap.cells,DtSaid.cells,hd])|(refine ⟨by omega,?_⟩)|(intro _)
         refine hK _ ?_;clear hK K
         refine AW_r rfl rfl λK hK=>?_
         simp (disch:=omega) [zG10,DtState.cells,DtCatalog.cells,DtCSet.cells,DtCSnap.cells,DtSaid.cells,hd]
         repeat' first|(refine ⟨by omega,?_⟩)|(intro _)
         refine hK _ ?_;clear hK K
         refine zbi ?_
         refine zbr (λmM sS=>∃(k:Nat),mM=(s.fCat.fSets[i]).fSnaps.length-k∧(k≤(s.fCat.fSets[i]).fSnaps.length)∧sS = { env:=lkE [(1,.ptr 32 0),(3,.s (varZ s.fCat.fSets.length++(catM showSet (s.fCat.fSets.take i)++(piece (s.fCat.fSets[i]).fName++(varZ (s.fCat.fSets[i]).fSnaps.length++catM showSnap ((s.fCat.fSets[i]).fSnaps.take k)))))),(22,.sl 2 (s.fCat.fSets.map DtCSet.cells)),(23,(.g (.int .i64 ((s.fCat.fSets.length:Nat))))),(24,(.g (.int .i64 ((i:Nat))))),(5,.ptr 96 0),(39,.sl 3 ((s.fCat.fSets[i]).fSnaps.map DtCSnap.cells)),(40,(.g (.int .i64 (((s.fCat.fSets[i]).fSnaps.length:Nat))))),(41,(.g (.int .i64 ((k:Nat)))))],ob:=lk [(32,.cells (DtState.cells s)),(96,.cells (DtCSet.cells s.fCat.fSets[i]))] }) ?_ ?_
         ·refine ⟨_,LeS.ko [(1,.ptr 32 0),(3,.s (varZ s.fCat.fSets.length++(catM showSet (s.fCat.fSets.take i)++(piece (s.fCat.fSets[i]).fName++(varZ (s.fCat.fSets[i]).fSnaps.length++catM showSnap ((s.fCat.fSets[i]).fSnaps.take (0))))))),(22,.sl 2 (s.fCat.fSets.map DtCSet.cells)),(23,(.g (.int .i64 ((s.fCat.fSets.length:Nat))))),(24,(.g (.int .i64 ((i:Nat))))),(5,.ptr 96 0),(39,.sl 3 ((s.fCat.fSets[i]).fSnaps.map DtCSnap.cells)),(40,(.g (.int .i64 (((s.fCat.fSets[i]).fSnaps.length:Nat))))),(41,(.g (.int .i64 (((0):Nat)))))] [(32,.cells (DtState.cells s)),(96,.cells (DtCSet.cells s.fCat.fSets[i]))] (by simp [zG7,KpE,DtState.cells,DtCatalog.cells,DtCSet.cells,DtCSnap.cells];try simp [zcm]) (by simp [zG8,KpO,DtState.cells,DtCatalog.cells,DtCSet.cells,DtCSnap.cells];try rfl) (by rfl) (by simp) (by rfl),_,0,rfl,?_,rfl⟩
          ·simp
         ·rintro mM sS ⟨k,rfl,hk,rfl⟩
          have hb2:=zf0 showSnap 97 (s.fCat.fSets[i]).fSnaps (λp hp=>(zkt (e3 p hp)).2.2.2.2) k
          refine AW_r rfl rfl λK hK=>?_
          simp (disch:=omega) [zG10,DtState.cells,DtCatalog.cells,DtCSet.cells,DtCSnap.cells,DtSaid.cells,hd]
          repeat' first|(refine ⟨by omega,?_⟩)|(intro _)
          refine hK _ ?_;clear hK K
          refine zbh ?_
          refine zbj rfl (λhc8=>?_) (λhc8=>?_)
          ·try simp [zG6,zbd,zbc] at hc8
           all_goals
            have hsp:=zdg showSnap (s.fCat.fSets[i]).fSnaps k (by omega)
            have ⟨f1,f2,f3,f4,f5⟩:=zkt (e3 _ (List.getElem_mem (n:=k) (h:=by omega)))
            have f6:=zb9 ((s.fCat.fSets[i]).fSnaps[k]).fName
            have f7:=zb9 ((s.fCat.fSets[i]).fSnaps[k]).fTag
            have f8:=zb8 ((s.fCat.fSets[i]).fSnaps[k]).fChunks.length
            have f9:=zdl piece 15 ((s.fCat.fSets[i]).fSnaps[k]).fChunks (λx hx=>by have:=zb9 x;have:=f4 x hx;omega)
            refine zbk ?_
            refine zbn ?_
            refine zbh ?_
            refine zbi ?_
            refine AW_r rfl rfl λK hK=>?_
            simp (disch:=omega) [zG10,DtState.cells,DtCatalog.cells,DtCSet.cells,DtCSnap.cells,DtSaid.cells,hd]
            repeat' first|(exfalso;omega)|(refine ⟨λ_=>?_,λ_=>?_⟩)|(refine ⟨by omega,?_⟩)|(intro _)
            all_goals (refine hK _ ?_;clear hK K)
            all_goals
             refine AW_q rfl mix (by kernel_rfl) rfl λK hK=>?_
             simp (disch:=omega) [zG10,DtState.cells,DtCatalog.cells,DtCSet.cells,DtCSnap.cells,DtSaid.cells,hd]
             repeat' first|(exfalso;omega)|(refine zby (zba zd6 zbg) (sized _ (by omega)) rfl ?_;simp (disch:=omega) [zG10,DtState.cells,DtCatalog.cells,DtCSet.cells,DtCSnap.cells,DtSaid.cells,hd])|(refine zby (zba zbz zbg) (zht _) rfl ?_;simp (disch:=omega) [zG10,DtState.cells,DtCatalog.cells,DtCSet.cells,DtCSnap.cells,DtSaid.cells,hd])|(refine ⟨by omega,?_⟩)|(intro _)
             refine hK _ ?_;clear hK K
             refine AW_r rfl rfl λK hK=>?_
             simp (disch:=omega) [zG10,DtState.cells,DtCatalog.cells,DtCSet.cells,DtCSnap.cells,DtSaid.cells,hd]
             repeat' first|(refine ⟨by omega,?_⟩)|(intro _)
             refine hK _ ?_;clear hK K
             refine zbi ?_
             refine zbr (λmM sS=>∃(j:Nat),mM=((s.fCat.fSets[i]).fSnaps[k]).fChunks.length-j∧(j≤((s.fCat.fSets[i]).fSnaps[k]).fChunks.length)∧sS = { env:=lkE [(1,.ptr 32 0),(3,.s (varZ s.fCat.fSets.length++(catM showSet (s.fCat.fSets.take i)++(piece (s.fCat.fSets[i]).fName++(varZ (s.fCat.fSets[i]).fSnaps.length++(catM showSnap ((s.fCat.fSets[i]).fSnaps.take k)++(piece ((s.fCat.fSets[i]).fSnaps[k]).fName++(piece ((s.fCat.fSets[i]).fSnaps[k]).fTag++(varZ ((s.fCat.fSets[i]).fSnaps[k]).fChunks.length++catM piece (((s.fCat.fSets[i]).fSnaps[k]).fChunks.take j)))))))))),(22,.sl 2 (s.fCat.fSets.map DtCSet.cells)),(23,(.g (.int .i64 ((s.fCat.fSets.length:Nat))))),(24,(.g (.int .i64 ((i:Nat))))),(5,.ptr 96 0),(39,.sl 3 ((s.fCat.fSets[i]).fSnaps.map DtCSnap.cells)),(40,(.g (.int .i64 (((s.fCat.fSets[i]).fSnaps.length:Nat))))),(41,(.g (.int .i64 ((k:Nat))))),(60,.sl 1 (((s.fCat.fSets[i]).fSnaps[k]).fChunks.map cS)),(61,(.g (.int .i64 ((((s.fCat.fSets[i]).fSnaps[k]).fChunks.length:Nat))))),(62,(.g (.int .i64 ((j:Nat)))))],ob:=lk [(32,.cells (DtState.cells s)),(96,.cells (DtCSet.cells s.fCat.fSets[i]))] }) ?_ ?_
             ·refine ⟨_,LeS.ko [(1,.ptr 32 0),(3,.s (varZ s.fCat.fSets.length++(catM showSet (s.fCat.fSets.take i)++(piece (s.fCat.fSets[i]).fName++(varZ (s.fCat.fSets[i]).fSnaps.length++(catM showSnap ((s.fCat.fSets[i]).fSnaps.take k)++(piece ((s.fCat.fSets[i]).fSnaps[k]).fName++(piece ((s.fCat.fSets[i]).fSnaps[k]).fTag++(varZ ((s.fCat.fSets[i]).fSnaps[k]).fChunks.length++catM piece (((s.fCat.fSets[i]).fSnaps[k]).fChunks.take (0))))))))))),(22,.sl 2 (s.fCat.fSets.map DtCSet.cells)),(23,(.g (.int .i64 ((s.fCat.fSets.length:Nat))))),(24,(.g (.int .i64 ((i:Nat))))),(5,.ptr 96 0),(39,.sl 3 ((s.fCat.fSets[i]).fSnaps.map DtCSnap.cells)),(40,(.g (.int .i64 (((s.fCat.fSets[i]).fSnaps.length:Nat))))),(41,(.g (.int .i64 ((k:Nat))))),(60,.sl 1 (((s.fCat.fSets[i]).fSnaps[k]).fChunks.map cS)),(61,(.g (.int .i64 ((((s.fCat.fSets[i]).fSnaps[k]).fChunks.length:Nat))))),(62,(.g (.int .i64 (((0):Nat)))))] [(32,.cells (DtState.cells s)),(96,.cells (DtCSet.cells s.fCat.fSets[i]))] (by simp [zG7,KpE,DtState.cells,DtCatalog.cells,DtCSet.cells,DtCSnap.cells];try simp [zcm]) (by simp [zG8,KpO,DtState.cells,DtCatalog.cells,DtCSet.cells,DtCSnap.cells];try rfl) (by rfl) (by simp) (by rfl),_,0,rfl,?_,rfl⟩
              ·simp
             ·rintro mM sS ⟨j,rfl,hj,rfl⟩
              have hb4:=zf0 piece 15 ((s.fCat.fSets[i]).fSnaps[k]).fChunks (λx hx=>by have:=zb9 x;have:=f4 x hx;omega) j
              refine AW_r rfl rfl λK hK=>?_
              simp (disch:=omega) [zG10,DtState.cells,DtCatalog.cells,DtCSet.cells,DtCSnap.cells,DtSaid.cells,hd,cS]
              repeat' first|(refine ⟨by omega,?_⟩)|(intro _)
              refine hK _ ?_;clear hK K
              refine zbh ?_
              refine zbj rfl (λhc9=>?_) (λhc9=>?_)
              ·try simp [zG6,zbd,zbc] at hc9
               all_goals
                have hsc:=zdg piece ((s.fCat.fSets[i]).fSnaps[k]).fChunks j (by omega)
                have p1:=zb9 (((s.fCat.fSets[i]).fSnaps[k]).fChunks[j])
                have p2:=f4 _ (List.getElem_mem (n:=j) (h:=by omega))
                refine zbk ?_
                refine zbn ?_
                refine zbh ?_
                refine zbi ?_
                refine AW_r rfl rfl λK hK=>?_
                simp (disch:=omega) [zG10,DtState.cells,DtCatalog.cells,DtCSet.cells,DtCSnap.cells,DtSaid.cells,hd,cS]
                repeat' first|(exfalso;omega)|(refine ⟨λ_=>?_,λ_=>?_⟩)|(refine ⟨by omega,?_⟩)|(intro _)
                all_goals (refine hK _ ?_;clear hK K)
                all_goals
                 refine zco rfl rfl λK hK=>?_
                 simp (disch:=omega) [zG10,DtState.cells,DtCatalog.cells,DtCSet.cells,DtCSnap.cells,DtSaid.cells,hd,cS]
                 repeat' first|(exfalso;omega)|(refine zby (zba zd6 zbg) (sized _ (by omega)) rfl ?_;simp (disch:=omega) [zG10,DtState.cells,DtCatalog.cells,DtCSet.cells,DtCSnap.cells,DtSaid.cells,hd,cS])|(refine ⟨by omega,?_⟩)|(intro _)
                 refine hK _ ?_;clear hK K
                 refine zbn ?_
                 refine zco rfl rfl λK hK=>?_
                 simp (disch:=omega) [zG10,DtState.cells,DtCatalog.cells,DtCSet.cells,DtCSnap.cells,DtSaid.cells,hd,cS]
                 repeat' first|(refine ⟨by omega,?_⟩)|(intro _)
                 refine hK _ ?_;clear hK K
                 refine ⟨_,LeS.ko [(1,.ptr 32 0),(3,.s (varZ s.fCat.fSets.length++(catM showSet (s.fCat.fSets.take i)++(piece (s.fCat.fSets[i]).fName++(varZ (s.fCat.fSets[i]).fSnaps.length++(catM showSnap ((s.fCat.fSets[i]).fSnaps.take k)++(piece ((s.fCat.fSets[i]).fSnaps[k]).fName++(piece ((s.fCat.fSets[i]).fSnaps[k]).fTag++(varZ ((s.fCat.fSets[i]).fSnaps[k]).fChunks.length++catM piece (((s.fCat.fSets[i]).fSnaps[k]).fChunks.take (j+1))))))))))),(22,.sl 2 (s.fCat.fSets.map DtCSet.cells)),(23,(.g (.int .i64 ((s.fCat.fSets.length:Nat))))),(24,(.g (.int .i64 ((i:Nat))))),(5,.ptr 96 0),(39,.sl 3 ((s.fCat.fSets[i]).fSnaps.map DtCSnap.cells)),(40,(.g (.int .i64 (((s.fCat.fSets[i]).fSnaps.length:Nat))))),(41,(.g (.int .i64 ((k:Nat))))),(60,.sl 1 (((s.fCat.fSets[i]).fSnaps[k]).fChunks.map cS)),(61,(.g (.int .i64 ((((s.fCat.fSets[i]).fSnaps[k]).fChunks.length:Nat))))),(62,(.g (.int .i64 (((j+1):Nat)))))] [(32,.cells (DtState.cells s)),(96,.cells (DtCSet.cells s.fCat.fSets[i]))] (by simp [zG7,KpE,DtState.cells,DtCatalog.cells,DtCSet.cells,DtCSnap.cells];try simp [hsc,zcm]) (by simp [zG8,KpO,DtState.cells,DtCatalog.cells,DtCSet.cells,DtCSnap.cells];try rfl) (by rfl) (by simp) (by rfl),_,?_,j+1,rfl,?_,rfl⟩
                 ·omega
                 ·omega
              ·try simp [zG6,zbd,zbc] at hc9
               all_goals
                have hj2:j=((s.fCat.fSets[i]).fSnaps[k]).fChunks.length:=by omega
                subst hj2
                simp only [List.take_length] at *
                refine zbx ?_
                refine zbn ?_
                refine zco rfl rfl λK hK=>?_
                simp (disch:=omega) [zG10,DtState.cells,DtCatalog.cells,DtCSet.cells,DtCSnap.cells,DtSaid.cells,hd,cS]
                repeat' first|(exfalso;omega)|(refine ⟨λ_=>?_,λ_=>?_⟩)|(refine ⟨by omega,?_⟩)|(intro _)
                all_goals (refine hK _ ?_;clear hK K)
                all_goals
                 refine ⟨_,LeS.ko [(1,.ptr 32 0),(3,.s (varZ s.fCat.fSets.length++(catM showSet (s.fCat.fSets.take i)++(piece (s.fCat.fSets[i]).fName++(varZ (s.fCat.fSets[i]).fSnaps.length++catM showSnap ((s.fCat.fSets[i]).fSnaps.take (k+1))))))),(22,.sl 2 (s.fCat.fSets.map DtCSet.cells)),(23,(.g (.int .i64 ((s.fCat.fSets.length:Nat))))),(24,(.g (.int .i64 ((i:Nat))))),(5,.ptr 96 0),(39,.sl 3 ((s.fCat.fSets[i]).fSnaps.map DtCSnap.cells)),(40,(.g (.int .i64 (((s.fCat.fSets[i]).fSnaps.length:Nat))))),(41,(.g (.int .i64 (((k+1):Nat)))))] [(32,.cells (DtState.cells s)),(96,.cells (DtCSet.cells s.fCat.fSets[i]))] (by simp [zG7,KpE,DtState.cells,DtCatalog.cells,DtCSet.cells,DtCSnap.cells];try simp [hsp,zcm,showSnap]) (by simp [zG8,KpO,DtState.cells,DtCatalog.cells,DtCSet.cells,DtCSnap.cells];try rfl) (by rfl) (by simp) (by rfl),_,?_,k+1,rfl,?_,rfl⟩
                 ·omega
                 ·omega
          ·try simp [zG6,zbd,zbc] at hc8
           all_goals
            have hk2:k=(s.fCat.fSets[i]).fSnaps.length:=by omega
            subst hk2
            simp only [List.take_length] at *
            refine zbx ?_
            refine zbn ?_
            refine zco rfl rfl λK hK=>?_
            simp (disch:=omega) [zG10,DtState.cells,DtCatalog.cells,DtCSet.cells,DtCSnap.cells,DtSaid.cells,hd]
            repeat' first|(exfalso;omega)|(refine ⟨λ_=>?_,λ_=>?_⟩)|(refine ⟨by omega,?_⟩)|(intro _)
            all_goals (refine hK _ ?_;clear hK K)
            all_goals
             refine ⟨_,LeS.ko [(1,.ptr 32 0),(3,.s (varZ s.fCat.fSets.length++catM showSet (s.fCat.fSets.take (i+1)))),(22,.sl 2 (s.fCat.fSets.map DtCSet.cells)),(23,(.g (.int .i64 ((s.fCat.fSets.length:Nat))))),(24,(.g (.int .i64 (((i+1):Nat)))))] [(32,.cells (DtState.cells s))] (by simp [zG7,KpE,DtState.cells,DtCatalog.cells,DtCSet.cells,DtCSnap.cells];try simp [hst,zcm,showSet]) (by simp [zG8,KpO,DtState.cells,DtCatalog.cells,DtCSet.cells,DtCSnap.cells];try rfl) (by rfl) (by simp) (by rfl),_,?_,i+1,rfl,?_,rfl⟩
             ·omega
             ·omega
      ·try simp [zG6,zbd,zbc] at hc7
       all_goals
        have hi2:i=s.fCat.fSets.length:=by omega
        subst hi2
        simp only [List.take_length] at *
        refine zbx ?_
        refine zbn ?_
        refine AW_r rfl rfl λK hK=>?_
        simp (disch:=omega) [zG10,DtState.cells,DtCatalog.cells,DtCSet.cells,DtCSnap.cells,DtSaid.cells,hd]
        repeat' first|(exfalso;omega)|(refine zby (zba zbz zbg) (zht _) rfl ?_;simp (disch:=omega) [zG10,DtState.cells,DtCatalog.cells,DtCSet.cells,DtCSnap.cells,DtSaid.cells,hd])|(refine ⟨λ_=>?_,λ_=>?_⟩)|(refine ⟨by omega,?_⟩)|(intro _)
        all_goals (refine hK _ ?_;clear hK K)
        all_goals
         refine zbh ?_
         refine AW_r rfl rfl λK hK=>?_
         simp (disch:=omega) [zG10,DtState.cells,DtCatalog.cells,DtCSet.cells,DtCSnap.cells,DtSaid.cells,hd]
         repeat' first|(refine ⟨by omega,?_⟩)|(intro _)
         refine hK _ ?_;clear hK K
         refine zbi ?_
         refine zbr (λmM sS=>∃(i:Nat),mM=s.fSaid.length-i∧(i≤s.fSaid.length)∧sS = { env:=lkE [(1,.ptr 32 0),(3,.s (varZ s.fCat.fSets.length++(catM showSet s.fCat.fSets++(varZ s.fSaid.length++catM showSaid (s.fSaid.take i))))),(80,.sl 3 (s.fSaid.map DtSaid.cells)),(81,(.g (.int .i64 ((s.fSaid.length:Nat))))),(82,(.g (.int .i64 ((i:Nat)))))],ob:=lk [(32,.cells (DtState.cells s))] }) ?_ ?_
         ·refine ⟨_,LeS.ko [(1,.ptr 32 0),(3,.s (varZ s.fCat.fSets.length++(catM showSet s.fCat.fSets++(varZ s.fSaid.length++catM showSaid (s.fSaid.take (0)))))),(80,.sl 3 (s.fSaid.map DtSaid.cells)),(81,(.g (.int .i64 ((s.fSaid.length:Nat))))),(82,(.g (.int .i64 (((0):Nat)))))] [(32,.cells (DtState.cells s))] (by simp [zG7,KpE,DtState.cells,DtCatalog.cells,DtSaid.cells];try simp [zcm]) (by simp [zG8,KpO,DtState.cells,DtCatalog.cells,DtSaid.cells];try rfl) (by rfl) (by simp) (by rfl),_,0,rfl,?_,rfl⟩
          ·simp
         ·rintro mM sS ⟨i,rfl,hi,rfl⟩
          have hb3:=zf0 showSaid 1048597 s.fSaid (λx hx=>zws (hT x hx)) i
          refine AW_r rfl rfl λK hK=>?_
          simp (disch:=omega) [zG10,DtState.cells,DtCatalog.cells,DtCSet.cells,DtCSnap.cells,DtSaid.cells,hd]
          repeat' first|(refine ⟨by omega,?_⟩)|(intro _)
          refine hK _ ?_;clear hK K
          refine zbh ?_
          refine zbj rfl (λhc10=>?_) (λhc10=>?_)
          ·try simp [zG6,zbd,zbc] at hc10
           all_goals
            have hst:=zdg showSaid s.fSaid i (by omega)
            have g1:=hT _ (List.getElem_mem (n:=i) (h:=by omega))
            have g2:=zb9 (s.fSaid[i]).fText
            have g3:=zb8 (s.fSaid[i]).fClient
            have g4:=zb8 (s.fSaid[i]).fNo
            refine zbk ?_
            refine zbn ?_
            refine zbh ?_
            refine zbi ?_
            refine AW_r rfl rfl λK hK=>?_
            simp (disch:=omega) [zG10,DtState.cells,DtCatalog.cells,DtCSet.cells,DtCSnap.cells,DtSaid.cells,hd]
            repeat' first|(exfalso;omega)|(refine ⟨λ_=>?_,λ_=>?_⟩)|(refine ⟨by omega,?_⟩)|(intro _)
            all_goals (refine hK _ ?_;clear hK K)
            all_goals
             refine AW_qe rfl mix (by kernel_rfl) rfl λK hK=>?_
             simp (disch:=omega) [zG10,DtState.cells,DtCatalog.cells,DtCSet.cells,DtCSnap.cells,DtSaid.cells,hd]
             repeat' first|(exfalso;omega)|(refine zby (zba zbz zbg) (zht _) rfl ?_;simp (disch:=omega) [zG10,DtState.cells,DtCatalog.cells,DtCSet.cells,DtCSnap.cells,DtSaid.cells,hd])|(refine zby (zba zd6 zbg) (sized _ (by omega)) rfl ?_;simp (disch:=omega) [zG10,DtState.cells,DtCatalog.cells,DtCSet.cells,DtCSnap.cells,DtSaid.cells,hd])|(refine ⟨by omega,?_⟩)|(intro _)
             refine hK _ ?_;clear hK K
             refine zbn ?_
             refine zco rfl rfl λK hK=>?_
             simp (disch:=omega) [zG10,DtState.cells,DtCatalog.cells,DtCSet.cells,DtCSnap.cells,DtSaid.cells,hd]
             repeat' first|(refine ⟨by omega,?_⟩)|(intro _)
             refine hK _ ?_;clear hK K
             refine ⟨_,LeS.ko [(1,.ptr 32 0),(3,.s (varZ s.fCat.fSets.length++(catM showSet s.fCat.fSets++(varZ s.fSaid.length++catM showSaid (s.fSaid.take (i+1)))))),(80,.sl 3 (s.fSaid.map DtSaid.cells)),(81,(.g (.int .i64 ((s.fSaid.length:Nat))))),(82,(.g (.int .i64 (((i+1):Nat)))))] [(32,.cells (DtState.cells s))] (by simp [zG7,KpE,DtState.cells,DtCatalog.cells,DtSaid.cells];try simp [hst,zcm,showSaid]) (by simp [zG8,KpO,DtState.cells,DtCatalog.cells,DtSaid.cells];try rfl) (by rfl) (by simp) (by rfl),_,?_,i+1,rfl,?_,rfl⟩
             ·omega
             ·omega
          ·try simp [zG6,zbd,zbc] at hc10
           all_goals
            have hi2:i=s.fSaid.length:=by omega
            subst hi2
            simp only [List.take_length] at *
            refine zbx ?_
            refine zbn ?_
            refine AW_r rfl rfl λK hK=>?_
            simp (disch:=omega) [zG10,DtState.cells,DtCatalog.cells,DtCSet.cells,DtCSnap.cells,DtSaid.cells,hd]
            repeat' first|(exfalso;omega)|(refine ⟨λ_=>?_,λ_=>?_⟩)|(refine ⟨by omega,?_⟩)|(intro _)
            all_goals (refine hK _ ?_;clear hK K)
            all_goals
             refine zbm (zbq ?_)
             simp (disch:=omega) [zG10,DtState.cells,DtCatalog.cells,DtCSet.cells,DtCSnap.cells,DtSaid.cells,hd]
             all_goals first|(simp [showState,hd,showSt];done)
 ·have hd:=zck hP
  refine zbe Tryd.func32 (by rfl) (by rfl) (by rw [Tryd.ntmps32];exact Nat.le_of_ble_eq_true rfl) rfl (by decide) ?_
  rw [Tryd.ntmps32]
  refine AW_k [(0,_)] ⟨rfl,trivial⟩ ?_
  refine AW_r rfl rfl λK hK=>?_
  simp (disch:=omega) [zG10,DtState.cells,DtCatalog.cells,hd]
  refine hK _ ?_;clear hK K
  refine zbh (AW_r rfl rfl λK hK=>?_)
  simp (disch:=omega) [zG10,DtState.cells,DtCatalog.cells,hd]
  refine zby (zba (zbv rfl) zbg) (zfq _ hs) rfl ?_
  simp (disch:=omega) [zG10,DtState.cells,DtCatalog.cells,hd]
  refine hK _ ?_;clear hK K
  refine zhz (by simp) ?_
  refine AW_r rfl rfl λK hK=>?_
  simp (disch:=omega) [zG10,DtState.cells,DtCatalog.cells,hd]
  repeat' first|(refine ⟨by omega,?_⟩)|(intro _)
  refine hK _ ?_;clear hK K
  refine zbm (zbq ?_)
  simp (disch:=omega) [zG10,DtState.cells,DtCatalog.cells,hd,showState,hd]
  all_goals first | omega|(simp_all;done)|(simp [List.take_of_length_le];done)|((try simp_all);(try simp (disch:=omega) only [zbu,Int.tdiv_eq_ediv_of_nonneg,Int.tmod_eq_emod_of_nonneg,and_true,true_and]);done)|((try simp_all);(try simp (disch:=omega) only [zbu,Int.tdiv_eq_ediv_of_nonneg,Int.tmod_eq_emod_of_nonneg,and_true,true_and] at *);omega)
end Go.Proofs.YtchpfloemfoomaaDoor.Vs
end
section
namespace Go.Proofs.YtchpfloemfoomaaDoor.Vs
set_option linter.all false
set_option maxRecDepth 100000
theorem zr7:∀l:List DtSaid,((catM showSaid l).length:Int)≤21*l.length+sumZ DtSaid.sz l
 | []=>by simp [catM,zcl]
 | x :: l=>by
  have h1:=zr7 l
  have h2:=zb9 x.fText
  have h3:=zb8 x.fClient
  have h4:=zb8 x.fNo
  have h5:(showSaid x).length≤21+x.fText.length:=by unfold showSaid;simp only [List.length_append];omega
  have h6:(x.fText.length:Int)≤DtSaid.sz x:=by simp only [DtSaid.sz];omega
  have h7:catM showSaid (x :: l)=showSaid x++catM showSaid l:=rfl
  rw [h7,List.length_append,zfg,List.length_cons]
  omega
theorem zdm(s:DtState)(hs:DtState.sz s≤1048576):(showState s).length≤1073741824:=by
 unfold showState
 by_cases hP:StateP s
 ·rw [zcj hP]
  show (showSt s).length≤_
  have hS:∀x∈s.fCat.fSets,SetP x:=by intro x hx;obtain ⟨i,hi⟩:=zks hx;exact (hP.1.2 i x hi).1
  have h5:s.fCat.fSets.length≤5:=hP.1.1
  have v1:=zb8 s.fCat.fSets.length
  have v2:=zb8 s.fSaid.length
  have v3:=zdl showSet 507 s.fCat.fSets (λx hx=>(zku (hS x hx)).2.2.2)
  have v4:=zr7 s.fSaid
  have v5:=DtCatalog.sz_nonneg s.fCat
  have v7:=zbs DtSaid.sz_nonneg s.fSaid
  have v6:(s.fCat.fSets.length*507:Nat)≤5*507:=Nat.mul_le_mul_right _ h5
  simp only [DtState.sz,szS] at hs
  unfold showSt
  simp only [List.length_append]
  omega
 ·rw [zck hP];simp
end Go.Proofs.YtchpfloemfoomaaDoor.Vs
end
section
namespace Go.Proofs.YtchpfloemfoomaaDoor.Vs
set_option linter.all false
set_option maxRecDepth 100000
set_option maxHeartbeats 2000000
attribute [local simp ↓] zmz zr2 zm0 zm1 zm2 zm3
attribute [local simp] zkp zwe zpm zwf
theorem zg4(x:Int):PCall Tryd.prog 65 [(.g (.int .i64 (x)))] (.g (.int .i64 (x % 4294967296))):=by
 refine zbe Tryd.func65 (by rfl) (by rfl) (by rw [Tryd.ntmps65];exact Nat.le_of_ble_eq_true rfl) rfl (by decide) ?_
 rw [Tryd.ntmps65]
 refine AW_k [(0,_)] ⟨rfl,trivial⟩ ?_
 refine AW_r rfl rfl λK hK=>?_
 simp (disch:=omega)
 repeat' first|(refine ⟨by omega,?_⟩)|(intro _)
 refine hK _ ?_;clear hK K
 refine AW_r rfl rfl λK hK=>?_
 simp (disch:=omega)
 repeat' first|(refine ⟨by omega,?_⟩)|(intro _)
 refine hK _ ?_;clear hK K
 refine zbm (zbq ?_)
 simp (disch:=omega)
 all_goals first | rfl | trace_state
theorem wrapU{n:Int}(h:0≤n∧n<18446744073709551616):IntKind.u64.wrap n=n:=by
 simp [IntKind.wrap,IntKind.bits,IntKind.signed]
 omega
theorem zf1(x:W32)(z:Int)(hz:0<z∧z<32):PCall Tryd.prog 64 [(.g (.int .i64 (wI x))),.g (.int .u64 z)] (.g (.int .i64 (wI (x.rotateRight z.toNat)))):=by
 have hw:=wrapU (n:=32-z) (by omega)
 have hr:=rot_w x z hz
 refine zbe Tryd.func64 (by rfl) (by rfl) (by rw [Tryd.ntmps64];exact Nat.le_of_ble_eq_true rfl) rfl (by decide) ?_
 rw [Tryd.ntmps64]
 refine AW_k [(0,_),(1,_)] ⟨rfl,rfl,trivial⟩ ?_
 refine AW_r rfl rfl λK hK=>?_
 simp (disch:=omega) [hw,hr]
 repeat' first|(refine ⟨by omega,?_⟩)|(intro _)
 refine hK _ ?_;clear hK K
 refine AW_r rfl rfl λK hK=>?_
 simp (disch:=omega) [hw,hr]
 repeat' first|(exfalso;omega)|(refine zby (zba zbz zbg) (zg4 _) rfl ?_;simp (disch:=omega) [hw,hr])|(refine ⟨by omega,?_⟩)|(intro _)
 refine hK _ ?_;clear hK K
 refine zbm (zbq ?_)
 simp (disch:=omega) [hw,hr]
 all_goals first | rfl | exact hr | trace_state
attribute [local simp] cW shaK List.map_cons List.map_nil
attribute [-simp] zkp zwe zpm zwf
theorem l3Keys:PCall Tryd.prog 53 [] (.sl 1 (shaK.map cW)):=by
 refine zbe Tryd.func53 (by rfl) (by rfl) (by rw [Tryd.ntmps53];exact Nat.le_of_ble_eq_true rfl) rfl (by decide) ?_
 rw [Tryd.ntmps53]
 refine AW_k [] trivial ?_
 refine AW_r rfl rfl λK hK=>?_
 simp (disch:=omega)
 repeat' first|(refine ⟨by omega,?_⟩)|(intro _)
 refine hK _ ?_;clear hK K
 refine AW_r rfl rfl λK hK=>?_
 simp (disch:=omega)
 repeat' first|(refine ⟨by omega,?_⟩)|(intro _)
 refine hK _ ?_;clear hK K
 refine zbm (zbq ?_)
 simp (disch:=omega) [wI]
 all_goals first | rfl | trace_state
end Go.Proofs.YtchpfloemfoomaaDoor.Vs
end
