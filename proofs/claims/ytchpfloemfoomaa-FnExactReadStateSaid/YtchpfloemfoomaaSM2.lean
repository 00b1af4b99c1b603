import Derived.Test.YtchpfloemfoomaaSM1
section
namespace Go.Proofs.Ytchpfloemfoomaa.Vs
set_option linter.all false
set_option maxRecDepth 100000
theorem zf2{l:List (List AV)}{i:Nat}{a b:List AV}(h:a=b):l.set i a=l.set i b:=by rw [h]
theorem zc6{α:Type}{f:α→Int}(hf:∀x,0≤f x)(l:List α):(l.length:Int)≤szS f l:=by have:=zcf hf l;unfold szS;omega
theorem zs4{α:Type}{cnt sz:α→Int}(h:∀u,cnt u≤16*(1+sz u)):∀us:List α,cntS cnt us≤16*szS sz us
 | []=>by simp [zc8,szS,zcs]
 | u :: us=>by
  have h1:=zs4 h us
  have h2:=h u
  simp only [szS,zdi,zfc,List.length_cons] at h1 ⊢
  omega
def mkCSnap(k:Int)(u:DtCSnap):DtCSnap:={ fName:=mT (k),fTag:=mT (k+1),fChunks:=mkL mT (k+1+1) u.fChunks.length }
def cntCSnap(u:DtCSnap):Int:=1+1+(u.fChunks.length:Nat)
theorem zfe(u:DtCSnap):0≤cntCSnap u:=by
 unfold cntCSnap
 omega
theorem zr4(u:DtCSnap):cntCSnap u≤16*(1+DtCSnap.sz u):=by
 have:=zc6 zc1 u.fChunks
 unfold cntCSnap
 simp only [DtCSnap.sz]
 omega
def zG2:=And.intro @zce (And.intro @gE @tP)
def zG3:=And.intro @zbt (And.intro @zb0 (And.intro @zcb (And.intro @mkSR_0 @zc8)))
theorem zt9(us:List DtCSnap)(k:Int)(hs:szS DtCSnap.sz us≤1048576)(hk:0≤k∧k+cntS cntCSnap us≤1073741824):XCall Try.prog 47 [.arr 8 0 us.length,(.g (.int .i64 (k)))] [.own 3 (us.map DtCSnap.cells)] (.g (.int .i64 (k+cntS cntCSnap us))) [.own 3 ((mkS mkCSnap cntCSnap k us).map DtCSnap.cells)] []:=by
 have hL:us.length≤1048576:=by have:=zc6 DtCSnap.sz_nonneg us;omega
 refine zbu Try.func47 (by rfl) (by rfl) (by rw [Try.ntmps47];exact Nat.le_of_ble_eq_true rfl) rfl (by simp) rfl rfl ?_
 rw [Try.ntmps47]
 refine zlg (.own 3 (us.map DtCSnap.cells)) (by simp [cvO]<;>assumption) ?_
 refine AW_k [(0,_),(1,_)] ⟨rfl,rfl,trivial⟩ ?_
 refine AW_x rfl rfl λK hK=>?_
 simp (disch:=omega) [zG2,DtCSnap.cells,zb7,zbx]
 repeat' first|(refine ⟨by omega,?_⟩)|(intro _)
 refine hK _ ?_;clear hK K
 refine zbf ?_
 refine AW_x rfl rfl λK hK=>?_
 simp (disch:=omega) [zG2,DtCSnap.cells,zb7,zbx]
 repeat' first|(refine ⟨by omega,?_⟩)|(intro _)
 refine hK _ ?_;clear hK K
 refine zbm ?_
 refine zbw (λmM sS=>∃(i:Nat),mM=us.length-i∧(i≤us.length)∧sS = { env:=lkE [(0,.arr 8 0 us.length),(1,(.g (.int .i64 (k+cntS cntCSnap (us.take i))))),(5,(.g (.int .i64 ((i:Nat)))))],ob:=lk [(8,.own 3 ((mkSR mkCSnap cntCSnap k us i).map DtCSnap.cells))] }) ?_ ?_
 ·refine ⟨_,LeS.kx [(8,8)] [(0,.arr 8 0 us.length),(1,(.g (.int .i64 (k+cntS cntCSnap (us.take (0)))))),(5,(.g (.int .i64 (((0):Nat)))))] [(8,.own 3 ((mkSR mkCSnap cntCSnap k us (0)).map DtCSnap.cells))] (by simp [zG3,KpR,renV2,renV,zby];try (first | rfl|(omega;done))) (by simp [zG3,KpOX,renO,plO,cvO,renV,pl1];try (first | rfl|(rw [←zg4 mkCSnap cntCSnap k us i (by omega),List.map_set];refine zf2 ?_;simp only [DtCSnap.cells,mkCSnap];repeat' (first | rfl|(omega;done) | congr 1)))) (by rfl) (by simp) (by simp) (by rfl) (by simp [formsX,List.range_succ,zbt,zb0]),_,0,rfl,?_,rfl⟩
  ·simp
 ·rintro mM sS ⟨i,rfl,hi,rfl⟩
  have hln:(mkSR mkCSnap cntCSnap k us i).length=us.length:=zns _ _ _ _ _ hi
  refine zbf ?_
  refine AW_x rfl rfl λK hK=>?_
  simp (disch:=omega) [zG2,DtCSnap.cells,zb7,zbx]
  repeat' first|(refine ⟨by omega,?_⟩)|(intro _)
  refine hK _ ?_;clear hK K
  refine zbi rfl (λhc1=>?_) (λhc1=>?_)
  ·try simp at hc1
   all_goals
    have hcl:=zjm zfe us i (by omega)
    have hcu:cntCSnap us[i]=1+1+(us[i].fChunks.length:Nat):=rfl
    have hcs:=zfd cntCSnap us i (by omega)
    have hzn1:=zc6 zc1 us[i].fChunks
    have hsE:DtCSnap.sz us[i]≤1048576:=by have:=zcn DtCSnap.sz_nonneg us us[i] (List.getElem_mem _);simp only [szS] at hs;omega
    simp only [DtCSnap.sz] at hsE
    refine zbj ?_
    refine zbo ?_
    refine zbf ?_
    refine zbm ?_
    refine AW_x rfl rfl λK hK=>?_
    simp (disch:=omega) [zG2,DtCSnap.cells,zb7,zbx]
    repeat' first|(exfalso;omega)|(refine zgh (zbe zch zbn) (zc2 _ (by omega)) rfl ?_;simp (disch:=omega) [zG2,DtCSnap.cells,zb7,zbx])|(refine zgi (zc2 _ (by omega)) (by rfl) ?_ ?_;(focus (simp (disch:=omega) [zG2,DtCSnap.cells,zb7,zbx,zbz];done));simp (disch:=omega) [zG2,DtCSnap.cells,zb7,zbx])|(refine ⟨λ_=>?_,λ_=>?_⟩)|(refine ⟨by omega,?_⟩)|(intro _)
    all_goals (refine hK _ ?_;clear hK K)
    all_goals
     refine AW_x rfl rfl λK hK=>?_
     simp (disch:=omega) [zG2,DtCSnap.cells,zb7,zbx]
     repeat' first|(refine ⟨by omega,?_⟩)|(intro _)
     refine hK _ ?_;clear hK K
     refine AW_x rfl rfl λK hK=>?_
     simp (disch:=omega) [zG2,DtCSnap.cells,zb7,zbx]
     repeat' first|(exfalso;omega)|(refine zgh (zbe zch zbn) (zc2 _ (by omega)) rfl ?_;simp (disch:=omega) [zG2,DtCSnap.cells,zb7,zbx])|(refine zgi (zc2 _ (by omega)) (by rfl) ?_ ?_;(focus (simp (disch:=omega) [zG2,DtCSnap.cells,zb7,zbx,zbz];done));simp (disch:=omega) [zG2,DtCSnap.cells,zb7,zbx])|(refine ⟨by omega,?_⟩)|(intro _)
     refine hK _ ?_;clear hK K
     refine AW_x rfl rfl λK hK=>?_
     simp (disch:=omega) [zG2,DtCSnap.cells,zb7,zbx]
     repeat' first|(refine ⟨by omega,?_⟩)|(intro _)
     refine hK _ ?_;clear hK K
     refine zdc rfl rfl λK hK=>?_
     simp (disch:=omega) [zG2,DtCSnap.cells,zb7,zbx]
     repeat' first|(exfalso;omega)|(refine XKd_n (n:=8) (i:=i) (f0:=2) (zr2 us[i].fChunks _ (by omega) (by omega)) ?_ ?_ ?_ ?_ rfl ?_ rfl ?_ ?_;(focus (simp;done));(focus rfl);(focus rfl);(focus (simp [zdo,zdp];done));(focus (simp;done));(focus first | exact ⟨_,zbx _ _ _ _ (by omega),rfl⟩ | exact ⟨_,by rw [List.getElem?_map,znt _ _ _ _ _ (by omega)];rfl,rfl⟩);simp (disch:=omega) [zG2,DtCSnap.cells,zb7,zbx])|(refine ⟨by omega,?_⟩)|(intro _)
     refine hK _ ?_;clear hK K
     refine zbo ?_
     refine zdc rfl rfl λK hK=>?_
     simp (disch:=omega) [zG2,DtCSnap.cells,zb7,zbx]
     repeat' first|(refine ⟨by omega,?_⟩)|(intro _)
     refine hK _ ?_;clear hK K
     refine ⟨_,LeS.kx [(8,8)] [(0,.arr 8 0 us.length),(1,(.g (.int .i64 (k+cntS cntCSnap (us.take (i+1)))))),(5,(.g (.int .i64 (((i+1):Nat)))))] [(8,.own 3 ((mkSR mkCSnap cntCSnap k us (i+1)).map DtCSnap.cells))] (by simp [zG3,KpR,renV2,renV,zby];try (first | rfl|(omega;done))) (by simp [zG3,KpOX,renO,plO,cvO,renV,pl1];try (first | rfl|(rw [←zg4 mkCSnap cntCSnap k us i (by omega),List.map_set];refine zf2 ?_;simp only [DtCSnap.cells,mkCSnap];repeat' (first | rfl|(omega;done) | congr 1)))) (by rfl) (by simp) (by simp) (by rfl) (by simp [formsX,List.range_succ,zbt,zb0]),_,?_,i+1,rfl,?_,rfl⟩
     ·omega
     ·omega
  try simp at hc1
  refine zb4 ?_
  refine zbo ?_
  refine AW_x rfl rfl λK hK=>?_
  simp (disch:=omega) [zG2,DtCSnap.cells,zb7,zbx]
  repeat' first|(exfalso;omega)|(refine ⟨λ_=>?_,λ_=>?_⟩)|(refine ⟨by omega,?_⟩)|(intro _)
  all_goals (refine hK _ ?_;clear hK K)
  all_goals
   refine zbl (zcd [] [] (by simp [List.range_succ,zbt,zb0,zcb]) (by simp) ?_)
   simp (disch:=omega) [zG2,DtCSnap.cells,zb7,zbx]
   all_goals ((have e:i=us.length:=by omega);subst e;rw [zxj _ _ _ _ _ (by omega),List.take_of_length_le (by omega)];exact ⟨rfl,rfl⟩)
theorem zva(us:List DtCSnap)(k:Int)(hs:szS DtCSnap.sz us≤1048576)(hk:0≤k∧k+cntS cntCSnap us≤1073741824):PCall Try.prog 48 [.sl 3 ((mkS mkCSnap cntCSnap k us).map DtCSnap.cells),(.g (.int .i64 (k)))] (.g (.int .i64 (k+cntS cntCSnap us))):=by
 have hL:us.length≤1048576:=by have:=zc6 DtCSnap.sz_nonneg us;omega
 refine zbp Try.func48 (by rfl) (by rfl) (by rw [Try.ntmps48];exact Nat.le_of_ble_eq_true rfl) rfl (by decide) ?_
 rw [Try.ntmps48]
 refine AW_k [(0,_),(1,_)] ⟨rfl,rfl,trivial⟩ ?_
 refine AW_r rfl rfl λK hK=>?_
 simp (disch:=omega) [zG2,DtCSnap.cells,zb8,mkCSnap]
 repeat' first|(refine ⟨by omega,?_⟩)|(intro _)
 refine hK _ ?_;clear hK K
 refine zbf ?_
 refine AW_r rfl rfl λK hK=>?_
 simp (disch:=omega) [zG2,DtCSnap.cells,zb8,mkCSnap]
 repeat' first|(refine ⟨by omega,?_⟩)|(intro _)
 refine hK _ ?_;clear hK K
 refine zbm ?_
 refine zbw (λmM sS=>∃(i:Nat),mM=us.length-i∧(i≤us.length)∧sS = { env:=lkE [(0,.sl 3 ((mkS mkCSnap cntCSnap k us).map DtCSnap.cells)),(1,(.g (.int .i64 (k+cntS cntCSnap (us.take i))))),(5,(.g (.int .i64 ((i:Nat)))))],ob:=formOb [] [] }) ?_ ?_
 ·refine ⟨_,LeS.kp [(0,.sl 3 ((mkS mkCSnap cntCSnap k us).map DtCSnap.cells)),(1,(.g (.int .i64 (k+cntS cntCSnap (us.take (0)))))),(5,(.g (.int .i64 (((0):Nat)))))] (by simp [KpE,zcb,zby,zbt,zc8];try (first | rfl|(omega;done))),_,0,rfl,?_,rfl⟩
  ·simp
 ·rintro mM sS ⟨i,rfl,hi,rfl⟩
  have hln:(mkS mkCSnap cntCSnap k us).length=us.length:=zdp _ _ _ _
  refine zbf ?_
  refine AW_r rfl rfl λK hK=>?_
  simp (disch:=omega) [zG2,DtCSnap.cells,zb8,mkCSnap]
  repeat' first|(refine ⟨by omega,?_⟩)|(intro _)
  refine hK _ ?_;clear hK K
  refine zbi rfl (λhc2=>?_) (λhc2=>?_)
  ·try simp at hc2
   all_goals
    have hcl:=zjm zfe us i (by omega)
    have hcu:cntCSnap us[i]=1+1+(us[i].fChunks.length:Nat):=rfl
    have hcs:=zfd cntCSnap us i (by omega)
    have hzn1:=zc6 zc1 us[i].fChunks
    have hsE:DtCSnap.sz us[i]≤1048576:=by have:=zcn DtCSnap.sz_nonneg us us[i] (List.getElem_mem _);simp only [szS] at hs;omega
    simp only [DtCSnap.sz] at hsE
    refine zbj ?_
    refine zbo ?_
    refine zbf ?_
    refine zbm ?_
    refine zbf ?_
    refine AW_q rfl mix (by kernel_rfl) rfl λK hK=>?_
    simp (disch:=omega) [zG2,DtCSnap.cells,zb8,mkCSnap]
    repeat' first|(exfalso;omega)|(refine zcj (zbe zch zbn) (zc2 _ (by omega)) rfl ?_;simp (disch:=omega) [zG2,DtCSnap.cells,zb8,mkCSnap])|(refine ⟨λ_=>?_,λ_=>?_⟩)|(refine ⟨by omega,?_⟩)|(intro _)
    all_goals (refine hK _ ?_;clear hK K)
    all_goals
     refine zbi rfl (λhc3=>?_) (λhc3=>?_)
     ·try simp at hc3
      all_goals
       refine AW_r rfl rfl λK hK=>?_
       simp (disch:=omega) [zG2,DtCSnap.cells,zb8,mkCSnap]
       repeat' first|(exfalso;omega)|(refine ⟨λ_=>?_,λ_=>?_⟩)|(refine ⟨by omega,?_⟩)|(intro _)
       all_goals (refine hK _ ?_;clear hK K)
       all_goals
        refine zbl (zb5 ?_)
        simp (disch:=omega) [zG2,DtCSnap.cells,zb8,mkCSnap]
        all_goals first | omega|((have e:i=us.length:=by omega);subst e;rw [List.take_of_length_le (by omega)])
     try simp at hc3
     refine zbj ?_
     refine zbo ?_
     refine AW_r rfl rfl λK hK=>?_
     simp (disch:=omega) [zG2,DtCSnap.cells,zb8,mkCSnap]
     repeat' first|(exfalso;omega)|(refine ⟨λ_=>?_,λ_=>?_⟩)|(refine ⟨by omega,?_⟩)|(intro _)
     all_goals (refine hK _ ?_;clear hK K)
     all_goals
      refine zbf ?_
      refine AW_q rfl mix (by kernel_rfl) rfl λK hK=>?_
      simp (disch:=omega) [zG2,DtCSnap.cells,zb8,mkCSnap]
      repeat' first|(exfalso;omega)|(refine zcj (zbe zch zbn) (zc2 _ (by omega)) rfl ?_;simp (disch:=omega) [zG2,DtCSnap.cells,zb8,mkCSnap])|(refine ⟨by omega,?_⟩)|(intro _)
      refine hK _ ?_;clear hK K
      refine zbi rfl (λhc4=>?_) (λhc4=>?_)
      ·try simp at hc4
       all_goals
        refine AW_r rfl rfl λK hK=>?_
        simp (disch:=omega) [zG2,DtCSnap.cells,zb8,mkCSnap]
        repeat' first|(exfalso;omega)|(refine ⟨λ_=>?_,λ_=>?_⟩)|(refine ⟨by omega,?_⟩)|(intro _)
        all_goals (refine hK _ ?_;clear hK K)
        all_goals
         refine zbl (zb5 ?_)
         simp (disch:=omega) [zG2,DtCSnap.cells,zb8,mkCSnap]
         all_goals first | omega|((have e:i=us.length:=by omega);subst e;rw [List.take_of_length_le (by omega)])
      try simp at hc4
      refine zbj ?_
      refine zbo ?_
      refine AW_r rfl rfl λK hK=>?_
      simp (disch:=omega) [zG2,DtCSnap.cells,zb8,mkCSnap]
      repeat' first|(exfalso;omega)|(refine ⟨λ_=>?_,λ_=>?_⟩)|(refine ⟨by omega,?_⟩)|(intro _)
      all_goals (refine hK _ ?_;clear hK K)
      all_goals
       refine AW_r rfl rfl λK hK=>?_
       simp (disch:=omega) [zG2,DtCSnap.cells,zb8,mkCSnap]
       repeat' first|(exfalso;omega)|(refine zcj (zbe zfb (zbe zch zbn)) (zr3 us[i].fChunks.length _ (by omega) (by omega)) rfl ?_;simp (disch:=omega) [zG2,DtCSnap.cells,zb8,mkCSnap])|(refine ⟨by omega,?_⟩)|(intro _)
       refine hK _ ?_;clear hK K
       refine AW_r rfl rfl λK hK=>?_
       simp (disch:=omega) [zG2,DtCSnap.cells,zb8,mkCSnap]
       repeat' first|(refine ⟨by omega,?_⟩)|(intro _)
       refine hK _ ?_;clear hK K
       refine zbi rfl (λhc5=>?_) (λhc5=>?_)
       ·try simp at hc5
        all_goals
         refine AW_r rfl rfl λK hK=>?_
         simp (disch:=omega) [zG2,DtCSnap.cells,zb8,mkCSnap]
         repeat' first|(exfalso;omega)|(refine ⟨λ_=>?_,λ_=>?_⟩)|(refine ⟨by omega,?_⟩)|(intro _)
         all_goals (refine hK _ ?_;clear hK K)
         all_goals
          refine zbl (zb5 ?_)
          simp (disch:=omega) [zG2,DtCSnap.cells,zb8,mkCSnap]
          all_goals first | omega|((have e:i=us.length:=by omega);subst e;rw [List.take_of_length_le (by omega)])
       try simp at hc5
       refine zbj ?_
       refine zbo ?_
       refine zc0 rfl rfl λK hK=>?_
       simp (disch:=omega) [zG2,DtCSnap.cells,zb8,mkCSnap]
       repeat' first|(exfalso;omega)|(refine ⟨λ_=>?_,λ_=>?_⟩)|(refine ⟨by omega,?_⟩)|(intro _)
       all_goals (refine hK _ ?_;clear hK K)
       all_goals
        refine ⟨_,LeS.kp [(0,.sl 3 ((mkS mkCSnap cntCSnap k us).map DtCSnap.cells)),(1,(.g (.int .i64 (k+cntS cntCSnap (us.take (i+1)))))),(5,(.g (.int .i64 (((i+1):Nat)))))] (by simp [KpE,zcb,zby,zbt,zc8];try (first | rfl|(omega;done))),_,?_,i+1,rfl,?_,rfl⟩
        ·omega
        ·omega
  try simp at hc2
  refine zb4 ?_
  refine zbo ?_
  refine AW_r rfl rfl λK hK=>?_
  simp (disch:=omega) [zG2,DtCSnap.cells,zb8,mkCSnap]
  repeat' first|(exfalso;omega)|(refine ⟨λ_=>?_,λ_=>?_⟩)|(refine ⟨by omega,?_⟩)|(intro _)
  all_goals (refine hK _ ?_;clear hK K)
  all_goals
   refine zbl (zb5 ?_)
   simp (disch:=omega) [zG2,DtCSnap.cells,zb8,mkCSnap]
   all_goals first | omega|((have e:i=us.length:=by omega);subst e;rw [List.take_of_length_le (by omega)])
def mkCSet(k:Int)(u:DtCSet):DtCSet:={ fName:=mT (k),fSnaps:=mkS mkCSnap cntCSnap (k+1) u.fSnaps }
def cntCSet(u:DtCSet):Int:=1+cntS cntCSnap u.fSnaps
theorem zdf(u:DtCSet):0≤cntCSet u:=by
 have:=zdk zfe u.fSnaps
 unfold cntCSet
 omega
theorem zvb(u:DtCSet):cntCSet u≤16*(1+DtCSet.sz u):=by
 have:=zs4 zr4 u.fSnaps
 unfold cntCSet
 simp only [DtCSet.sz]
 omega
theorem zxm(us:List DtCSet)(k:Int)(hs:szS DtCSet.sz us≤1048576)(hk:0≤k∧k+cntS cntCSet us≤1073741824):XCall Try.prog 39 [.arr 8 0 us.length,(.g (.int .i64 (k)))] [.own 2 (us.map DtCSet.cells)] (.g (.int .i64 (k+cntS cntCSet us))) [.own 2 ((mkS mkCSet cntCSet k us).map DtCSet.cells)] []:=by
 have hL:us.length≤1048576:=by have:=zc6 DtCSet.sz_nonneg us;omega
 refine zbu Try.func39 (by rfl) (by rfl) (by rw [Try.ntmps39];exact Nat.le_of_ble_eq_true rfl) rfl (by simp) rfl rfl ?_
 rw [Try.ntmps39]
 refine zlg (.own 2 (us.map DtCSet.cells)) (by simp [cvO]<;>assumption) ?_
 refine AW_k [(0,_),(1,_)] ⟨rfl,rfl,trivial⟩ ?_
 refine AW_x rfl rfl λK hK=>?_
 simp (disch:=omega) [zG2,DtCSet.cells,zb7,zbx]
 repeat' first|(refine ⟨by omega,?_⟩)|(intro _)
 refine hK _ ?_;clear hK K
 refine zbf ?_
 refine AW_x rfl rfl λK hK=>?_
 simp (disch:=omega) [zG2,DtCSet.cells,zb7,zbx]
 repeat' first|(refine ⟨by omega,?_⟩)|(intro _)
 refine hK _ ?_;clear hK K
 refine zbm ?_
 refine zbw (λmM sS=>∃(i:Nat),mM=us.length-i∧(i≤us.length)∧sS = { env:=lkE [(0,.arr 8 0 us.length),(1,(.g (.int .i64 (k+cntS cntCSet (us.take i))))),(5,(.g (.int .i64 ((i:Nat)))))],ob:=lk [(8,.own 2 ((mkSR mkCSet cntCSet k us i).map DtCSet.cells))] }) ?_ ?_
 ·refine ⟨_,LeS.kx [(8,8)] [(0,.arr 8 0 us.length),(1,(.g (.int .i64 (k+cntS cntCSet (us.take (0)))))),(5,(.g (.int .i64 (((0):Nat)))))] [(8,.own 2 ((mkSR mkCSet cntCSet k us (0)).map DtCSet.cells))] (by simp [zG3,KpR,renV2,renV,zby];try (first | rfl|(omega;done))) (by simp [zG3,KpOX,renO,plO,cvO,renV,pl1];try (first | rfl|(rw [←zg4 mkCSet cntCSet k us i (by omega),List.map_set];refine zf2 ?_;simp only [DtCSet.cells,mkCSet];repeat' (first | rfl|(omega;done) | congr 1)))) (by rfl) (by simp) (by simp) (by rfl) (by simp [formsX,List.range_succ,zbt,zb0]),_,0,rfl,?_,rfl⟩
  ·simp
 ·rintro mM sS ⟨i,rfl,hi,rfl⟩
  have hln:(mkSR mkCSet cntCSet k us i).length=us.length:=zns _ _ _ _ _ hi
  refine zbf ?_
  refine AW_x rfl rfl λK hK=>?_
  simp (disch:=omega) [zG2,DtCSet.cells,zb7,zbx]
  repeat' first|(refine ⟨by omega,?_⟩)|(intro _)
  refine hK _ ?_;clear hK K
  refine zbi rfl (λhc6=>?_) (λhc6=>?_)
  ·try simp at hc6
   all_goals
    have hcl:=zjm zdf us i (by omega)
    have hcu:cntCSet us[i]=1+cntS cntCSnap us[i].fSnaps:=rfl
    have hcs:=zfd cntCSet us i (by omega)
    have hcn1:=zdk zfe us[i].fSnaps
    have hzn2:=zc6 DtCSnap.sz_nonneg us[i].fSnaps
    have hsE:DtCSet.sz us[i]≤1048576:=by have:=zcn DtCSet.sz_nonneg us us[i] (List.getElem_mem _);simp only [szS] at hs;omega
    simp only [DtCSet.sz] at hsE
    refine zbj ?_
    refine zbo ?_
    refine zbf ?_
    refine zbm ?_
    refine AW_x rfl rfl λK hK=>?_
    simp (disch:=omega) [zG2,DtCSet.cells,zb7,zbx]
    repeat' first|(exfalso;omega)|(refine zgh (zbe zch zbn) (zc2 _ (by omega)) rfl ?_;simp (disch:=omega) [zG2,DtCSet.cells,zb7,zbx])|(refine zgi (zc2 _ (by omega)) (by rfl) ?_ ?_;(focus (simp (disch:=omega) [zG2,DtCSet.cells,zb7,zbx,zbz];done));simp (disch:=omega) [zG2,DtCSet.cells,zb7,zbx])|(refine ⟨λ_=>?_,λ_=>?_⟩)|(refine ⟨by omega,?_⟩)|(intro _)
    all_goals (refine hK _ ?_;clear hK K)
    all_goals
     refine AW_x rfl rfl λK hK=>?_
     simp (disch:=omega) [zG2,DtCSet.cells,zb7,zbx]
     repeat' first|(refine ⟨by omega,?_⟩)|(intro _)
     refine hK _ ?_;clear hK K
     refine zdc rfl rfl λK hK=>?_
     simp (disch:=omega) [zG2,DtCSet.cells,zb7,zbx]
     repeat' first|(exfalso;omega)|(refine XKd_n (n:=8) (i:=i) (f0:=1) (zt9 us[i].fSnaps _ (by omega) (by omega)) ?_ ?_ ?_ ?_ rfl ?_ rfl ?_ ?_;(focus (simp;done));(focus rfl);(focus rfl);(focus (simp [zdo,zdp];done));(focus (simp;done));(focus first | exact ⟨_,zbx _ _ _ _ (by omega),rfl⟩ | exact ⟨_,by rw [List.getElem?_map,znt _ _ _ _ _ (by omega)];rfl,rfl⟩);simp (disch:=omega) [zG2,DtCSet.cells,zb7,zbx])|(refine ⟨by omega,?_⟩)|(intro _)
     refine hK _ ?_;clear hK K
     refine zbo ?_
     refine zdc rfl rfl λK hK=>?_
     simp (disch:=omega) [zG2,DtCSet.cells,zb7,zbx]
     repeat' first|(refine ⟨by omega,?_⟩)|(intro _)
     refine hK _ ?_;clear hK K
     refine ⟨_,LeS.kx [(8,8)] [(0,.arr 8 0 us.length),(1,(.g (.int .i64 (k+cntS cntCSet (us.take (i+1)))))),(5,(.g (.int .i64 (((i+1):Nat)))))] [(8,.own 2 ((mkSR mkCSet cntCSet k us (i+1)).map DtCSet.cells))] (by simp [zG3,KpR,renV2,renV,zby];try (first | rfl|(omega;done))) (by simp [zG3,KpOX,renO,plO,cvO,renV,pl1];try (first | rfl|(rw [←zg4 mkCSet cntCSet k us i (by omega),List.map_set];refine zf2 ?_;simp only [DtCSet.cells,mkCSet];repeat' (first | rfl|(omega;done) | congr 1)))) (by rfl) (by simp) (by simp) (by rfl) (by simp [formsX,List.range_succ,zbt,zb0]),_,?_,i+1,rfl,?_,rfl⟩
     ·omega
     ·omega
  try simp at hc6
  refine zb4 ?_
  refine zbo ?_
  refine AW_x rfl rfl λK hK=>?_
  simp (disch:=omega) [zG2,DtCSet.cells,zb7,zbx]
  repeat' first|(exfalso;omega)|(refine ⟨λ_=>?_,λ_=>?_⟩)|(refine ⟨by omega,?_⟩)|(intro _)
  all_goals (refine hK _ ?_;clear hK K)
  all_goals
   refine zbl (zcd [] [] (by simp [List.range_succ,zbt,zb0,zcb]) (by simp) ?_)
   simp (disch:=omega) [zG2,DtCSet.cells,zb7,zbx]
   all_goals ((have e:i=us.length:=by omega);subst e;rw [zxj _ _ _ _ _ (by omega),List.take_of_length_le (by omega)];exact ⟨rfl,rfl⟩)
theorem zxn(us:List DtCSet)(k:Int)(hs:szS DtCSet.sz us≤1048576)(hk:0≤k∧k+cntS cntCSet us≤1073741824):PCall Try.prog 41 [.sl 2 ((mkS mkCSet cntCSet k us).map DtCSet.cells),(.g (.int .i64 (k)))] (.g (.int .i64 (k+cntS cntCSet us))):=by
 have hL:us.length≤1048576:=by have:=zc6 DtCSet.sz_nonneg us;omega
 refine zbp Try.func41 (by rfl) (by rfl) (by rw [Try.ntmps41];exact Nat.le_of_ble_eq_true rfl) rfl (by decide) ?_
 rw [Try.ntmps41]
 refine AW_k [(0,_),(1,_)] ⟨rfl,rfl,trivial⟩ ?_
 refine AW_r rfl rfl λK hK=>?_
 simp (disch:=omega) [zG2,DtCSet.cells,zb8,mkCSet]
 repeat' first|(refine ⟨by omega,?_⟩)|(intro _)
 refine hK _ ?_;clear hK K
 refine zbf ?_
 refine AW_r rfl rfl λK hK=>?_
 simp (disch:=omega) [zG2,DtCSet.cells,zb8,mkCSet]
 repeat' first|(refine ⟨by omega,?_⟩)|(intro _)
 refine hK _ ?_;clear hK K
 refine zbm ?_
 refine zbw (λmM sS=>∃(i:Nat),mM=us.length-i∧(i≤us.length)∧sS = { env:=lkE [(0,.sl 2 ((mkS mkCSet cntCSet k us).map DtCSet.cells)),(1,(.g (.int .i64 (k+cntS cntCSet (us.take i))))),(5,(.g (.int .i64 ((i:Nat)))))],ob:=formOb [] [] }) ?_ ?_
 ·refine ⟨_,LeS.kp [(0,.sl 2 ((mkS mkCSet cntCSet k us).map DtCSet.cells)),(1,(.g (.int .i64 (k+cntS cntCSet (us.take (0)))))),(5,(.g (.int .i64 (((0):Nat)))))] (by simp [KpE,zcb,zby,zbt,zc8];try (first | rfl|(omega;done))),_,0,rfl,?_,rfl⟩
  ·simp
 ·rintro mM sS ⟨i,rfl,hi,rfl⟩
  have hln:(mkS mkCSet cntCSet k us).length=us.length:=zdp _ _ _ _
  refine zbf ?_
  refine AW_r rfl rfl λK hK=>?_
  simp (disch:=omega) [zG2,DtCSet.cells,zb8,mkCSet]
  repeat' first|(refine ⟨by omega,?_⟩)|(intro _)
  refine hK _ ?_;clear hK K
  refine zbi rfl (λhc7=>?_) (λhc7=>?_)
  ·try simp at hc7
   all_goals
    have hcl:=zjm zdf us i (by omega)
    have hcu:cntCSet us[i]=1+cntS cntCSnap us[i].fSnaps:=rfl
    have hcs:=zfd cntCSet us i (by omega)
    have hcn1:=zdk zfe us[i].fSnaps
    have hzn2:=zc6 DtCSnap.sz_nonneg us[i].fSnaps
    have hsE:DtCSet.sz us[i]≤1048576:=by have:=zcn DtCSet.sz_nonneg us us[i] (List.getElem_mem _);simp only [szS] at hs;omega
    simp only [DtCSet.sz] at hsE
    refine zbj ?_
    refine zbo ?_
    refine zbf ?_
    refine zbm ?_
    refine zbf ?_
    refine AW_q rfl mix (by kernel_rfl) rfl λK hK=>?_
    simp (disch:=omega) [zG2,DtCSet.cells,zb8,mkCSet]
    repeat' first|(exfalso;omega)|(refine zcj (zbe zch zbn) (zc2 _ (by omega)) rfl ?_;simp (disch:=omega) [zG2,DtCSet.cells,zb8,mkCSet])|(refine ⟨λ_=>?_,λ_=>?_⟩)|(refine ⟨by omega,?_⟩)|(intro _)
    all_goals (refine hK _ ?_;clear hK K)
    all_goals
     refine zbi rfl (λhc8=>?_) (λhc8=>?_)
     ·try simp at hc8
      all_goals
       refine AW_r rfl rfl λK hK=>?_
       simp (disch:=omega) [zG2,DtCSet.cells,zb8,mkCSet]
       repeat' first|(exfalso;omega)|(refine ⟨λ_=>?_,λ_=>?_⟩)|(refine ⟨by omega,?_⟩)|(intro _)
       all_goals (refine hK _ ?_;clear hK K)
       all_goals
        refine zbl (zb5 ?_)
        simp (disch:=omega) [zG2,DtCSet.cells,zb8,mkCSet]
        all_goals first | omega|((have e:i=us.length:=by omega);subst e;rw [List.take_of_length_le (by omega)])
     try simp at hc8
     refine zbj ?_
     refine zbo ?_
     refine AW_r rfl rfl λK hK=>?_
     simp (disch:=omega) [zG2,DtCSet.cells,zb8,mkCSet]
     repeat' first|(exfalso;omega)|(refine ⟨λ_=>?_,λ_=>?_⟩)|(refine ⟨by omega,?_⟩)|(intro _)
     all_goals (refine hK _ ?_;clear hK K)
     all_goals
      refine AW_r rfl rfl λK hK=>?_
      simp (disch:=omega) [zG2,DtCSet.cells,zb8,mkCSet]
      repeat' first|(exfalso;omega)|(refine zcj (zbe zfb (zbe zch zbn)) (zva us[i].fSnaps _ (by omega) (by omega)) rfl ?_;simp (disch:=omega) [zG2,DtCSet.cells,zb8,mkCSet])|(refine ⟨by omega,?_⟩)|(intro _)
      refine hK _ ?_;clear hK K
      refine AW_r rfl rfl λK hK=>?_
      simp (disch:=omega) [zG2,DtCSet.cells,zb8,mkCSet]
      repeat' first|(refine ⟨by omega,?_⟩)|(intro _)
      refine hK _ ?_;clear hK K
      refine zbi rfl (λhc9=>?_) (λhc9=>?_)
      ·try simp at hc9
       all_goals
        refine AW_r rfl rfl λK hK=>?_
        simp (disch:=omega) [zG2,DtCSet.cells,zb8,mkCSet]
        repeat' first|(exfalso;omega)|(refine ⟨λ_=>?_,λ_=>?_⟩)|(refine ⟨by omega,?_⟩)|(intro _)
        all_goals (refine hK _ ?_;clear hK K)
        all_goals
         refine zbl (zb5 ?_)
         simp (disch:=omega) [zG2,DtCSet.cells,zb8,mkCSet]
         all_goals first | omega|((have e:i=us.length:=by omega);subst e;rw [List.take_of_length_le (by omega)])
      try simp at hc9
      refine zbj ?_
      refine zbo ?_
      refine zc0 rfl rfl λK hK=>?_
      simp (disch:=omega) [zG2,DtCSet.cells,zb8,mkCSet]
      repeat' first|(exfalso;omega)|(refine ⟨λ_=>?_,λ_=>?_⟩)|(refine ⟨by omega,?_⟩)|(intro _)
      all_goals (refine hK _ ?_;clear hK K)
      all_goals
       refine ⟨_,LeS.kp [(0,.sl 2 ((mkS mkCSet cntCSet k us).map DtCSet.cells)),(1,(.g (.int .i64 (k+cntS cntCSet (us.take (i+1)))))),(5,(.g (.int .i64 (((i+1):Nat)))))] (by simp [KpE,zcb,zby,zbt,zc8];try (first | rfl|(omega;done))),_,?_,i+1,rfl,?_,rfl⟩
       ·omega
       ·omega
  try simp at hc7
  refine zb4 ?_
  refine zbo ?_
  refine AW_r rfl rfl λK hK=>?_
  simp (disch:=omega) [zG2,DtCSet.cells,zb8,mkCSet]
  repeat' first|(exfalso;omega)|(refine ⟨λ_=>?_,λ_=>?_⟩)|(refine ⟨by omega,?_⟩)|(intro _)
  all_goals (refine hK _ ?_;clear hK K)
  all_goals
   refine zbl (zb5 ?_)
   simp (disch:=omega) [zG2,DtCSet.cells,zb8,mkCSet]
   all_goals first | omega|((have e:i=us.length:=by omega);subst e;rw [List.take_of_length_le (by omega)])
def mkCatalog(k:Int)(u:DtCatalog):DtCatalog:={ fSets:=mkS mkCSet cntCSet (k) u.fSets }
def cntCatalog(u:DtCatalog):Int:=cntS cntCSet u.fSets
def mvCatalog(k:Int)(u:DtCatalog):DtCatalog:={ fSets:=mkS mkCSet cntCSet (k) u.fSets }
def cvCatalog(u:DtCatalog):Int:=cntS cntCSet u.fSets
theorem zjv(u:DtCatalog):0≤cvCatalog u:=by
 have:=zdk zdf u.fSets
 unfold cvCatalog
 omega
theorem zr5(u:DtCatalog)(k:Int)(hs:DtCatalog.sz u≤1048576)(hk:0≤k∧k+cvCatalog u≤1073741824):XCall Try.prog 20 [.agg [.arr 8 0 u.fSets.length],(.g (.int .i64 (k)))] [.own 2 (u.fSets.map DtCSet.cells)] (.g (.int .i64 (k+cvCatalog u))) [.own 2 ((mkS mkCSet cntCSet (k) u.fSets).map DtCSet.cells)] []:=by
 simp only [DtCatalog.sz] at hs
 have hz1:=zc6 DtCSet.sz_nonneg u.fSets
 have hy1:=zdk zdf u.fSets
 simp only [cvCatalog] at hk
 simp only [cvCatalog]
 refine zbu Try.func20 (by rfl) (by rfl) (by rw [Try.ntmps20];exact Nat.le_of_ble_eq_true rfl) rfl (by simp) rfl rfl ?_
 rw [Try.ntmps20]
 refine zlg (.own 2 (u.fSets.map DtCSet.cells)) (by simp [cvO]<;>assumption) ?_
 refine AW_k [(0,_),(1,_)] ⟨rfl,rfl,trivial⟩ ?_
 refine AW_x rfl rfl λK hK=>?_
 simp (disch:=omega) [zG2,DtCatalog.cells]
 repeat' first|(refine ⟨by omega,?_⟩)|(intro _)
 refine hK _ ?_;clear hK K
 refine AW_x rfl rfl λK hK=>?_
 simp (disch:=omega) [zG2,DtCatalog.cells]
 repeat' first|(exfalso;omega)|(refine zb6 [8] true [] (zxm u.fSets (k) (by omega) (by omega)) ?_ ?_ ?_;(focus (simp [List.range_succ,nmC];done));(focus (simp (disch:=omega) [zG2,DtCatalog.cells,zbz];done));simp (disch:=omega) [zG2,DtCatalog.cells])|(refine ⟨by omega,?_⟩)|(intro _)
 refine hK _ ?_;clear hK K
 refine AW_x rfl rfl λK hK=>?_
 simp (disch:=omega) [zG2,DtCatalog.cells]
 repeat' first|(refine ⟨by omega,?_⟩)|(intro _)
 refine hK _ ?_;clear hK K
 refine zbl (zcd [] [] (by simp [List.range_succ,zbt,zb0,zcb]) (by simp) ?_)
 simp (disch:=omega) [zG2,DtCatalog.cells]
 all_goals (first | omega | exact ⟨by omega,rfl⟩ | exact ⟨by omega,rfl,rfl⟩ | skip)
theorem zr6(u:DtCatalog)(k:Int)(hs:DtCatalog.sz u≤1048576)(hk:0≤k∧k+cvCatalog u≤1073741824):PCall Try.prog 22 [.agg (DtCatalog.cells (mvCatalog k u)),(.g (.int .i64 (k)))] (.g (.int .i64 (k+cvCatalog u))):=by
 simp only [DtCatalog.sz] at hs
 have hz1:=zc6 DtCSet.sz_nonneg u.fSets
 have hy1:=zdk zdf u.fSets
 simp only [cvCatalog] at hk
 simp only [cvCatalog]
 refine zbp Try.func22 (by rfl) (by rfl) (by rw [Try.ntmps22];exact Nat.le_of_ble_eq_true rfl) rfl (by decide) ?_
 rw [Try.ntmps22]
 refine AW_k [(0,_),(1,_)] ⟨rfl,rfl,trivial⟩ ?_
 refine AW_r rfl rfl λK hK=>?_
 simp (disch:=omega) [zG2,DtCatalog.cells,mvCatalog]
 repeat' first|(refine ⟨by omega,?_⟩)|(intro _)
 refine hK _ ?_;clear hK K
 refine AW_r rfl rfl λK hK=>?_
 simp (disch:=omega) [zG2,DtCatalog.cells,mvCatalog]
 repeat' first|(exfalso;omega)|(refine zcj (zbe zfb (zbe zch zbn)) (zxn u.fSets (k) (by omega) (by omega)) rfl ?_;simp (disch:=omega) [zG2,DtCatalog.cells,mvCatalog])|(refine ⟨by omega,?_⟩)|(intro _)
 refine hK _ ?_;clear hK K
 refine zbf ?_
 refine AW_r rfl rfl λK hK=>?_
 simp (disch:=omega) [zG2,DtCatalog.cells,mvCatalog]
 repeat' first|(refine ⟨by omega,?_⟩)|(intro _)
 refine hK _ ?_;clear hK K
 refine zbi rfl (λhc10=>?_) (λhc10=>?_)
 ·try simp at hc10
  all_goals
   refine AW_r rfl rfl λK hK=>?_
   simp (disch:=omega) [zG2,DtCatalog.cells,mvCatalog]
   repeat' first|(exfalso;omega)|(refine ⟨λ_=>?_,λ_=>?_⟩)|(refine ⟨by omega,?_⟩)|(intro _)
   all_goals (refine hK _ ?_;clear hK K)
   all_goals
    refine zbl (zb5 ?_)
    simp (disch:=omega) [zG2,DtCatalog.cells,mvCatalog]
    all_goals (first | omega | skip)
 try simp at hc10
 refine zbj ?_
 refine zbo ?_
 refine AW_r rfl rfl λK hK=>?_
 simp (disch:=omega) [zG2,DtCatalog.cells,mvCatalog]
 repeat' first|(exfalso;omega)|(refine ⟨λ_=>?_,λ_=>?_⟩)|(refine ⟨by omega,?_⟩)|(intro _)
 all_goals (refine hK _ ?_;clear hK K)
 all_goals
  refine zbl (zb5 ?_)
  simp (disch:=omega) [zG2,DtCatalog.cells,mvCatalog]
  all_goals (first | omega | skip)
def mkSaid(k:Int)(u:DtSaid):DtSaid:={ fClient:=k,fNo:=k+1,fText:=mT (k+1+1) }
def cntSaid(u:DtSaid):Int:=1+1+1
theorem zf3(u:DtSaid):0≤cntSaid u:=by
 unfold cntSaid
 omega
theorem zvc(u:DtSaid):cntSaid u≤16*(1+DtSaid.sz u):=by
 unfold cntSaid
 simp only [DtSaid.sz]
 omega
theorem zxo(us:List DtSaid)(k:Int)(hs:szS DtSaid.sz us≤1048576)(hk:0≤k∧k+cntS cntSaid us≤1073741824):XCall Try.prog 21 [.arr 8 0 us.length,(.g (.int .i64 (k)))] [.own 3 (us.map DtSaid.cells)] (.g (.int .i64 (k+cntS cntSaid us))) [.own 3 ((mkS mkSaid cntSaid k us).map DtSaid.cells)] []:=by
 have hL:us.length≤1048576:=by have:=zc6 DtSaid.sz_nonneg us;omega
 refine zbu Try.func21 (by rfl) (by rfl) (by rw [Try.ntmps21];exact Nat.le_of_ble_eq_true rfl) rfl (by simp) rfl rfl ?_
 rw [Try.ntmps21]
 refine zlg (.own 3 (us.map DtSaid.cells)) (by simp [cvO]<;>assumption) ?_
 refine AW_k [(0,_),(1,_)] ⟨rfl,rfl,trivial⟩ ?_
 refine AW_x rfl rfl λK hK=>?_
 simp (disch:=omega) [zG2,DtSaid.cells,zb7,zbx]
 repeat' first|(refine ⟨by omega,?_⟩)|(intro _)
 refine hK _ ?_;clear hK K
 refine zbf ?_
 refine AW_x rfl rfl λK hK=>?_
 simp (disch:=omega) [zG2,DtSaid.cells,zb7,zbx]
 repeat' first|(refine ⟨by omega,?_⟩)|(intro _)
 refine hK _ ?_;clear hK K
 refine zbm ?_
 refine zbw (λmM sS=>∃(i:Nat),mM=us.length-i∧(i≤us.length)∧sS = { env:=lkE [(0,.arr 8 0 us.length),(1,(.g (.int .i64 (k+cntS cntSaid (us.take i))))),(5,(.g (.int .i64 ((i:Nat)))))],ob:=lk [(8,.own 3 ((mkSR mkSaid cntSaid k us i).map DtSaid.cells))] }) ?_ ?_
 ·refine ⟨_,LeS.kx [(8,8)] [(0,.arr 8 0 us.length),(1,(.g (.int .i64 (k+cntS cntSaid (us.take (0)))))),(5,(.g (.int .i64 (((0):Nat)))))] [(8,.own 3 ((mkSR mkSaid cntSaid k us (0)).map DtSaid.cells))] (by simp [zG3,KpR,renV2,renV,zby];try (first | rfl|(omega;done))) (by simp [zG3,KpOX,renO,plO,cvO,renV,pl1];try (first | rfl|(rw [←zg4 mkSaid cntSaid k us i (by omega),List.map_set];refine zf2 ?_;simp only [DtSaid.cells,mkSaid];repeat' (first | rfl|(omega;done) | congr 1)))) (by rfl) (by simp) (by simp) (by rfl) (by simp [formsX,List.range_succ,zbt,zb0]),_,0,rfl,?_,rfl⟩
  ·simp
 ·rintro mM sS ⟨i,rfl,hi,rfl⟩
  have hln:(mkSR mkSaid cntSaid k us i).length=us.length:=zns _ _ _ _ _ hi
  refine zbf ?_
  refine AW_x rfl rfl λK hK=>?_
  simp (disch:=omega) [zG2,DtSaid.cells,zb7,zbx]
  repeat' first|(refine ⟨by omega,?_⟩)|(intro _)
  refine hK _ ?_;clear hK K
  refine zbi rfl (λhc11=>?_) (λhc11=>?_)
  ·try simp at hc11
   all_goals
    have hcl:=zjm zf3 us i (by omega)
    have hcu:cntSaid us[i]=1+1+1:=rfl
    have hcs:=zfd cntSaid us i (by omega)
    have hsE:DtSaid.sz us[i]≤1048576:=by have:=zcn DtSaid.sz_nonneg us us[i] (List.getElem_mem _);simp only [szS] at hs;omega
    simp only [DtSaid.sz] at hsE
    refine zbj ?_
    refine zbo ?_
    refine zbf ?_
    refine zbm ?_
    refine AW_x rfl rfl λK hK=>?_
    simp (disch:=omega) [zG2,DtSaid.cells,zb7,zbx]
    repeat' first|(exfalso;omega)|(refine ⟨λ_=>?_,λ_=>?_⟩)|(refine ⟨by omega,?_⟩)|(intro _)
    all_goals (refine hK _ ?_;clear hK K)
    all_goals
     refine AW_x rfl rfl λK hK=>?_
     simp (disch:=omega) [zG2,DtSaid.cells,zb7,zbx]
     repeat' first|(refine ⟨by omega,?_⟩)|(intro _)
     refine hK _ ?_;clear hK K
     refine AW_x rfl rfl λK hK=>?_
     simp (disch:=omega) [zG2,DtSaid.cells,zb7,zbx]
     repeat' first|(refine ⟨by omega,?_⟩)|(intro _)
     refine hK _ ?_;clear hK K
     refine AW_x rfl rfl λK hK=>?_
     simp (disch:=omega) [zG2,DtSaid.cells,zb7,zbx]
     repeat' first|(refine ⟨by omega,?_⟩)|(intro _)
     refine hK _ ?_;clear hK K
     refine AW_x rfl rfl λK hK=>?_
     simp (disch:=omega) [zG2,DtSaid.cells,zb7,zbx]
     repeat' first|(exfalso;omega)|(refine zgh (zbe zch zbn) (zc2 _ (by omega)) rfl ?_;simp (disch:=omega) [zG2,DtSaid.cells,zb7,zbx])|(refine zgi (zc2 _ (by omega)) (by rfl) ?_ ?_;(focus (simp (disch:=omega) [zG2,DtSaid.cells,zb7,zbx,zbz];done));simp (disch:=omega) [zG2,DtSaid.cells,zb7,zbx])|(refine ⟨by omega,?_⟩)|(intro _)
     refine hK _ ?_;clear hK K
     refine zdc rfl rfl λK hK=>?_
     simp (disch:=omega) [zG2,DtSaid.cells,zb7,zbx]
     repeat' first|(refine ⟨by omega,?_⟩)|(intro _)
     refine hK _ ?_;clear hK K
     refine zbo ?_
     refine zdc rfl rfl λK hK=>?_
     simp (disch:=omega) [zG2,DtSaid.cells,zb7,zbx]
     repeat' first|(refine ⟨by omega,?_⟩)|(intro _)
     refine hK _ ?_;clear hK K
     refine ⟨_,LeS.kx [(8,8)] [(0,.arr 8 0 us.length),(1,(.g (.int .i64 (k+cntS cntSaid (us.take (i+1)))))),(5,(.g (.int .i64 (((i+1):Nat)))))] [(8,.own 3 ((mkSR mkSaid cntSaid k us (i+1)).map DtSaid.cells))] (by simp [zG3,KpR,renV2,renV,zby];try (first | rfl|(omega;done))) (by simp [zG3,KpOX,renO,plO,cvO,renV,pl1];try (first | rfl|(rw [←zg4 mkSaid cntSaid k us i (by omega),List.map_set];refine zf2 ?_;simp only [DtSaid.cells,mkSaid];repeat' (first | rfl|(omega;done) | congr 1)))) (by rfl) (by simp) (by simp) (by rfl) (by simp [formsX,List.range_succ,zbt,zb0]),_,?_,i+1,rfl,?_,rfl⟩
     ·omega
     ·omega
  try simp at hc11
  refine zb4 ?_
  refine zbo ?_
  refine AW_x rfl rfl λK hK=>?_
  simp (disch:=omega) [zG2,DtSaid.cells,zb7,zbx]
  repeat' first|(exfalso;omega)|(refine ⟨λ_=>?_,λ_=>?_⟩)|(refine ⟨by omega,?_⟩)|(intro _)
  all_goals (refine hK _ ?_;clear hK K)
  all_goals
   refine zbl (zcd [] [] (by simp [List.range_succ,zbt,zb0,zcb]) (by simp) ?_)
   simp (disch:=omega) [zG2,DtSaid.cells,zb7,zbx]
   all_goals ((have e:i=us.length:=by omega);subst e;rw [zxj _ _ _ _ _ (by omega),List.take_of_length_le (by omega)];exact ⟨rfl,rfl⟩)
theorem zxp(us:List DtSaid)(k:Int)(hs:szS DtSaid.sz us≤1048576)(hk:0≤k∧k+cntS cntSaid us≤1073741824):PCall Try.prog 23 [.sl 3 ((mkS mkSaid cntSaid k us).map DtSaid.cells),(.g (.int .i64 (k)))] (.g (.int .i64 (k+cntS cntSaid us))):=by
 have hL:us.length≤1048576:=by have:=zc6 DtSaid.sz_nonneg us;omega
 refine zbp Try.func23 (by rfl) (by rfl) (by rw [Try.ntmps23];exact Nat.le_of_ble_eq_true rfl) rfl (by decide) ?_
 rw [Try.ntmps23]
 refine AW_k [(0,_),(1,_)] ⟨rfl,rfl,trivial⟩ ?_
 refine AW_r rfl rfl λK hK=>?_
 simp (disch:=omega) [zG2,DtSaid.cells,zb8,mkSaid]
 repeat' first|(refine ⟨by omega,?_⟩)|(intro _)
 refine hK _ ?_;clear hK K
 refine zbf ?_
 refine AW_r rfl rfl λK hK=>?_
 simp (disch:=omega) [zG2,DtSaid.cells,zb8,mkSaid]
 repeat' first|(refine ⟨by omega,?_⟩)|(intro _)
 refine hK _ ?_;clear hK K
 refine zbm ?_
 refine zbw (λmM sS=>∃(i:Nat),mM=us.length-i∧(i≤us.length)∧sS = { env:=lkE [(0,.sl 3 ((mkS mkSaid cntSaid k us).map DtSaid.cells)),(1,(.g (.int .i64 (k+cntS cntSaid (us.take i))))),(5,(.g (.int .i64 ((i:Nat)))))],ob:=formOb [] [] }) ?_ ?_
 ·refine ⟨_,LeS.kp [(0,.sl 3 ((mkS mkSaid cntSaid k us).map DtSaid.cells)),(1,(.g (.int .i64 (k+cntS cntSaid (us.take (0)))))),(5,(.g (.int .i64 (((0):Nat)))))] (by simp [KpE,zcb,zby,zbt,zc8];try (first | rfl|(omega;done))),_,0,rfl,?_,rfl⟩
  ·simp
 ·rintro mM sS ⟨i,rfl,hi,rfl⟩
  have hln:(mkS mkSaid cntSaid k us).length=us.length:=zdp _ _ _ _
  refine zbf ?_
  refine AW_r rfl rfl λK hK=>?_
  simp (disch:=omega) [zG2,DtSaid.cells,zb8,mkSaid]
  repeat' first|(refine ⟨by omega,?_⟩)|(intro _)
  refine hK _ ?_;clear hK K
  refine zbi rfl (λhc12=>?_) (λhc12=>?_)
  ·try simp at hc12
   all_goals
    have hcl:=zjm zf3 us i (by omega)
    have hcu:cntSaid us[i]=1+1+1:=rfl
    have hcs:=zfd cntSaid us i (by omega)
    have hsE:DtSaid.sz us[i]≤1048576:=by have:=zcn DtSaid.sz_nonneg us us[i] (List.getElem_mem _);simp only [szS] at hs;omega
    simp only [DtSaid.sz] at hsE
    refine zbj ?_
    refine zbo ?_
    refine zbf ?_
    refine zbm ?_
    refine zbf ?_
    refine AW_r rfl rfl λK hK=>?_
    simp (disch:=omega) [zG2,DtSaid.cells,zb8,mkSaid]
    repeat' first|(exfalso;omega)|(refine ⟨λ_=>?_,λ_=>?_⟩)|(refine ⟨by omega,?_⟩)|(intro _)
    all_goals (refine hK _ ?_;clear hK K)
    all_goals
     refine zbi rfl (λhc13=>?_) (λhc13=>?_)
     ·try simp at hc13
      all_goals
       refine AW_r rfl rfl λK hK=>?_
       simp (disch:=omega) [zG2,DtSaid.cells,zb8,mkSaid]
       repeat' first|(exfalso;omega)|(refine ⟨λ_=>?_,λ_=>?_⟩)|(refine ⟨by omega,?_⟩)|(intro _)
       all_goals (refine hK _ ?_;clear hK K)
       all_goals
        refine zbl (zb5 ?_)
        simp (disch:=omega) [zG2,DtSaid.cells,zb8,mkSaid]
        all_goals first | omega|((have e:i=us.length:=by omega);subst e;rw [List.take_of_length_le (by omega)])
     try simp at hc13
     refine zbj ?_
     refine zbo ?_
     refine AW_r rfl rfl λK hK=>?_
     simp (disch:=omega) [zG2,DtSaid.cells,zb8,mkSaid]
     repeat' first|(exfalso;omega)|(refine ⟨λ_=>?_,λ_=>?_⟩)|(refine ⟨by omega,?_⟩)|(intro _)
     all_goals (refine hK _ ?_;clear hK K)
     all_goals
      refine zbf ?_
      refine AW_r rfl rfl λK hK=>?_
      simp (disch:=omega) [zG2,DtSaid.cells,zb8,mkSaid]
      repeat' first|(refine ⟨by omega,?_⟩)|(intro _)
      refine hK _ ?_;clear hK K
      refine zbi rfl (λhc14=>?_) (λhc14=>?_)
      ·try simp at hc14
       all_goals
        refine AW_r rfl rfl λK hK=>?_
        simp (disch:=omega) [zG2,DtSaid.cells,zb8,mkSaid]
        repeat' first|(exfalso;omega)|(refine ⟨λ_=>?_,λ_=>?_⟩)|(refine ⟨by omega,?_⟩)|(intro _)
        all_goals (refine hK _ ?_;clear hK K)
        all_goals
         refine zbl (zb5 ?_)
         simp (disch:=omega) [zG2,DtSaid.cells,zb8,mkSaid]
         all_goals first | omega|((have e:i=us.length:=by omega);subst e;rw [List.take_of_length_le (by omega)])
      try simp at hc14
      refine zbj ?_
      refine zbo ?_
      refine AW_r rfl rfl λK hK=>?_
      simp (disch:=omega) [zG2,DtSaid.cells,zb8,mkSaid]
      repeat' first|(exfalso;omega)|(refine ⟨λ_=>?_,λ_=>?_⟩)|(refine ⟨by omega,?_⟩)|(intro _)
      all_goals (refine hK _ ?_;clear hK K)
      all_goals
       refine zbf ?_
       refine AW_q rfl mix (by kernel_rfl) rfl λK hK=>?_
       simp (disch:=omega) [zG2,DtSaid.cells,zb8,mkSaid]
       repeat' first|(exfalso;omega)|(refine zcj (zbe zch zbn) (zc2 _ (by omega)) rfl ?_;simp (disch:=omega) [zG2,DtSaid.cells,zb8,mkSaid])|(refine ⟨by omega,?_⟩)|(intro _)
       refine hK _ ?_;clear hK K
       refine zbi rfl (λhc15=>?_) (λhc15=>?_)
       ·try simp at hc15
        all_goals
         refine AW_r rfl rfl λK hK=>?_
         simp (disch:=omega) [zG2,DtSaid.cells,zb8,mkSaid]
         repeat' first|(exfalso;omega)|(refine ⟨λ_=>?_,λ_=>?_⟩)|(refine ⟨by omega,?_⟩)|(intro _)
         all_goals (refine hK _ ?_;clear hK K)
         all_goals
          refine zbl (zb5 ?_)
          simp (disch:=omega) [zG2,DtSaid.cells,zb8,mkSaid]
          all_goals first | omega|((have e:i=us.length:=by omega);subst e;rw [List.take_of_length_le (by omega)])
       try simp at hc15
       refine zbj ?_
       refine zbo ?_
       refine zc0 rfl rfl λK hK=>?_
       simp (disch:=omega) [zG2,DtSaid.cells,zb8,mkSaid]
       repeat' first|(exfalso;omega)|(refine ⟨λ_=>?_,λ_=>?_⟩)|(refine ⟨by omega,?_⟩)|(intro _)
       all_goals (refine hK _ ?_;clear hK K)
       all_goals
        refine zbo ?_
        refine zc0 rfl rfl λK hK=>?_
        simp (disch:=omega) [zG2,DtSaid.cells,zb8,mkSaid]
        repeat' first|(refine ⟨by omega,?_⟩)|(intro _)
        refine hK _ ?_;clear hK K
        refine ⟨_,LeS.kp [(0,.sl 3 ((mkS mkSaid cntSaid k us).map DtSaid.cells)),(1,(.g (.int .i64 (k+cntS cntSaid (us.take (i+1)))))),(5,(.g (.int .i64 (((i+1):Nat)))))] (by simp [KpE,zcb,zby,zbt,zc8];try (first | rfl|(omega;done))),_,?_,i+1,rfl,?_,rfl⟩
        ·omega
        ·omega
  try simp at hc12
  refine zb4 ?_
  refine zbo ?_
  refine AW_r rfl rfl λK hK=>?_
  simp (disch:=omega) [zG2,DtSaid.cells,zb8,mkSaid]
  repeat' first|(exfalso;omega)|(refine ⟨λ_=>?_,λ_=>?_⟩)|(refine ⟨by omega,?_⟩)|(intro _)
  all_goals (refine hK _ ?_;clear hK K)
  all_goals
   refine zbl (zb5 ?_)
   simp (disch:=omega) [zG2,DtSaid.cells,zb8,mkSaid]
   all_goals first | omega|((have e:i=us.length:=by omega);subst e;rw [List.take_of_length_le (by omega)])
def mkState(k:Int)(u:DtState):DtState:={ fCat:={ fSets:=mkS mkCSet cntCSet (k) u.fCat.fSets },fSaid:=mkS mkSaid cntSaid (k+cntS cntCSet u.fCat.fSets) u.fSaid }
def cntState(u:DtState):Int:=cntS cntCSet u.fCat.fSets+cntS cntSaid u.fSaid
theorem zr7(u:DtState):cntState u≤16*(1+DtState.sz u):=by
 have:=zs4 zvb u.fCat.fSets
 have:=zs4 zvc u.fSaid
 unfold cntState
 simp only [DtState.sz,DtCatalog.sz]
 omega
def mvState(k:Int)(u:DtState):DtState:={ fCat:={ fSets:=mkS mkCSet cntCSet (k) u.fCat.fSets },fSaid:=mkS mkSaid cntSaid (k+cntS cntCSet u.fCat.fSets) u.fSaid }
def cvState(u:DtState):Int:=cntS cntCSet u.fCat.fSets+cntS cntSaid u.fSaid
theorem zvd(u:DtState):0≤cvState u:=by
 have:=zdk zdf u.fCat.fSets
 have:=zdk zf3 u.fSaid
 unfold cvState
 omega
theorem zqd(u:DtState)(k:Int)(hs:DtState.sz u≤1048576)(hk:0≤k∧k+cvState u≤1073741824):XCall Try.prog 7 [.agg [.arr 8 0 u.fCat.fSets.length,.arr 9 0 u.fSaid.length],(.g (.int .i64 (k)))] [.own 2 (u.fCat.fSets.map DtCSet.cells),.own 3 (u.fSaid.map DtSaid.cells)] (.g (.int .i64 (k+cvState u))) [.own 2 ((mkS mkCSet cntCSet (k) u.fCat.fSets).map DtCSet.cells),.own 3 ((mkS mkSaid cntSaid (k+cntS cntCSet u.fCat.fSets) u.fSaid).map DtSaid.cells)] []:=by
 simp only [DtState.sz] at hs
 have hz1:=zc6 DtCSet.sz_nonneg u.fCat.fSets
 have hy1:=zdk zdf u.fCat.fSets
 have hz2:=zc6 DtSaid.sz_nonneg u.fSaid
 have hy2:=zdk zf3 u.fSaid
 have hz3:=DtCatalog.sz_nonneg u.fCat
 have hq3:=DtCatalog.sz.eq_1 u.fCat
 have hw3:=zjv u.fCat
 have hv3:=cvCatalog.eq_1 u.fCat
 simp only [cvState] at hk
 simp only [cvState]
 refine zbu Try.func7 (by rfl) (by rfl) (by rw [Try.ntmps7];exact Nat.le_of_ble_eq_true rfl) rfl (by simp) rfl rfl ?_
 rw [Try.ntmps7]
 refine AW_x2 (.own 2 (u.fCat.fSets.map DtCSet.cells)) (.own 3 (u.fSaid.map DtSaid.cells)) (by simp [cvO]<;>assumption) (by simp [cvO]<;>assumption) ?_
 refine AW_k [(0,_),(1,_)] ⟨rfl,rfl,trivial⟩ ?_
 refine AW_x rfl rfl λK hK=>?_
 simp (disch:=omega) [zG2,DtState.cells,DtCatalog.cells]
 repeat' first|(refine ⟨by omega,?_⟩)|(intro _)
 refine hK _ ?_;clear hK K
 refine AW_x rfl rfl λK hK=>?_
 simp (disch:=omega) [zG2,DtState.cells,DtCatalog.cells]
 repeat' first|(exfalso;omega)|(refine zb6 [8] true [] (zr5 u.fCat (k) (by omega) (by omega)) ?_ ?_ ?_;(focus (simp [List.range_succ,nmC];done));(focus (simp (disch:=omega) [zG2,DtState.cells,DtCatalog.cells,zbz];done));simp (disch:=omega) [zG2,DtState.cells,DtCatalog.cells])|(refine ⟨by omega,?_⟩)|(intro _)
 refine hK _ ?_;clear hK K
 refine AW_x rfl rfl λK hK=>?_
 simp (disch:=omega) [zG2,DtState.cells,DtCatalog.cells]
 repeat' first|(exfalso;omega)|(refine zb6 [9] true [] (zxo u.fSaid (k+cvCatalog u.fCat) (by omega) (by omega)) ?_ ?_ ?_;(focus (simp [List.range_succ,nmC];done));(focus (simp (disch:=omega) [zG2,DtState.cells,DtCatalog.cells,zbz];done));simp (disch:=omega) [zG2,DtState.cells,DtCatalog.cells])|(refine ⟨by omega,?_⟩)|(intro _)
 refine hK _ ?_;clear hK K
 refine AW_x rfl rfl λK hK=>?_
 simp (disch:=omega) [zG2,DtState.cells,DtCatalog.cells]
 repeat' first|(refine ⟨by omega,?_⟩)|(intro _)
 refine hK _ ?_;clear hK K
 refine zbl (zcd [] [] (by simp [List.range_succ,zbt,zb0,zcb]) (by simp) ?_)
 simp (disch:=omega) [zG2,DtState.cells,DtCatalog.cells]
 all_goals (first | omega | exact ⟨by omega,rfl⟩ | exact ⟨by omega,rfl,rfl⟩ | skip)
theorem zdw(u:DtState)(k:Int)(hs:DtState.sz u≤1048576)(hk:0≤k∧k+cvState u≤1073741824):PCall Try.prog 8 [.agg (DtState.cells (mvState k u)),(.g (.int .i64 (k)))] (.g (.int .i64 (k+cvState u))):=by
 simp only [DtState.sz] at hs
 have hz1:=zc6 DtCSet.sz_nonneg u.fCat.fSets
 have hy1:=zdk zdf u.fCat.fSets
 have hz2:=zc6 DtSaid.sz_nonneg u.fSaid
 have hy2:=zdk zf3 u.fSaid
 have hz3:=DtCatalog.sz_nonneg u.fCat
 have hq3:=DtCatalog.sz.eq_1 u.fCat
 have hw3:=zjv u.fCat
 have hv3:=cvCatalog.eq_1 u.fCat
 simp only [cvState] at hk
 simp only [cvState]
 refine zbp Try.func8 (by rfl) (by rfl) (by rw [Try.ntmps8];exact Nat.le_of_ble_eq_true rfl) rfl (by decide) ?_
 rw [Try.ntmps8]
 refine AW_k [(0,_),(1,_)] ⟨rfl,rfl,trivial⟩ ?_
 refine AW_r rfl rfl λK hK=>?_
 simp (disch:=omega) [zG2,DtState.cells,DtCatalog.cells,mvState,mvCatalog,cvCatalog]
 repeat' first|(refine ⟨by omega,?_⟩)|(intro _)
 refine hK _ ?_;clear hK K
 refine AW_r rfl rfl λK hK=>?_
 simp (disch:=omega) [zG2,DtState.cells,DtCatalog.cells,mvState,mvCatalog,cvCatalog]
 repeat' first|(exfalso;omega)|(refine zcj (zbe (zca rfl) (zbe zch zbn)) (zr6 u.fCat (k) (by omega) (by omega)) rfl ?_;simp (disch:=omega) [zG2,DtState.cells,DtCatalog.cells,mvState,mvCatalog,cvCatalog])|(refine ⟨by omega,?_⟩)|(intro _)
 refine hK _ ?_;clear hK K
 refine zbf ?_
 refine AW_r rfl rfl λK hK=>?_
 simp (disch:=omega) [zG2,DtState.cells,DtCatalog.cells,mvState,mvCatalog,cvCatalog]
 repeat' first|(refine ⟨by omega,?_⟩)|(intro _)
 refine hK _ ?_;clear hK K
 refine zbi rfl (λhc16=>?_) (λhc16=>?_)
 ·try simp at hc16
  all_goals
   refine AW_r rfl rfl λK hK=>?_
   simp (disch:=omega) [zG2,DtState.cells,DtCatalog.cells,mvState,mvCatalog,cvCatalog]
   repeat' first|(exfalso;omega)|(refine ⟨λ_=>?_,λ_=>?_⟩)|(refine ⟨by omega,?_⟩)|(intro _)
   all_goals (refine hK _ ?_;clear hK K)
   all_goals
    refine zbl (zb5 ?_)
    simp (disch:=omega) [zG2,DtState.cells,DtCatalog.cells,mvState,mvCatalog,cvCatalog]
    all_goals (first | omega | skip)
 try simp at hc16
 refine zbj ?_
 refine zbo ?_
 refine AW_r rfl rfl λK hK=>?_
 simp (disch:=omega) [zG2,DtState.cells,DtCatalog.cells,mvState,mvCatalog,cvCatalog]
 repeat' first|(exfalso;omega)|(refine zcj (zbe zfb (zbe zch zbn)) (zxp u.fSaid (k+cvCatalog u.fCat) (by omega) (by omega)) rfl ?_;simp (disch:=omega) [zG2,DtState.cells,DtCatalog.cells,mvState,mvCatalog,cvCatalog])|(refine ⟨λ_=>?_,λ_=>?_⟩)|(refine ⟨by omega,?_⟩)|(intro _)
 all_goals (refine hK _ ?_;clear hK K)
 all_goals
  refine zbf ?_
  refine AW_r rfl rfl λK hK=>?_
  simp (disch:=omega) [zG2,DtState.cells,DtCatalog.cells,mvState,mvCatalog,cvCatalog]
  repeat' first|(refine ⟨by omega,?_⟩)|(intro _)
  refine hK _ ?_;clear hK K
  refine zbi rfl (λhc17=>?_) (λhc17=>?_)
  ·try simp at hc17
   all_goals
    refine AW_r rfl rfl λK hK=>?_
    simp (disch:=omega) [zG2,DtState.cells,DtCatalog.cells,mvState,mvCatalog,cvCatalog]
    repeat' first|(exfalso;omega)|(refine ⟨λ_=>?_,λ_=>?_⟩)|(refine ⟨by omega,?_⟩)|(intro _)
    all_goals (refine hK _ ?_;clear hK K)
    all_goals
     refine zbl (zb5 ?_)
     simp (disch:=omega) [zG2,DtState.cells,DtCatalog.cells,mvState,mvCatalog,cvCatalog]
     all_goals (first | omega | skip)
  try simp at hc17
  refine zbj ?_
  refine zbo ?_
  refine AW_r rfl rfl λK hK=>?_
  simp (disch:=omega) [zG2,DtState.cells,DtCatalog.cells,mvState,mvCatalog,cvCatalog]
  repeat' first|(exfalso;omega)|(refine ⟨λ_=>?_,λ_=>?_⟩)|(refine ⟨by omega,?_⟩)|(intro _)
  all_goals (refine hK _ ?_;clear hK K)
  all_goals
   refine zbl (zb5 ?_)
   simp (disch:=omega) [zG2,DtState.cells,DtCatalog.cells,mvState,mvCatalog,cvCatalog]
   all_goals (first | omega | skip)
end Go.Proofs.Ytchpfloemfoomaa.Vs
end
section
namespace Go.Proofs.Ytchpfloemfoomaa.Vs
set_option linter.all false
set_option maxRecDepth 100000
theorem l1In(a b c:Int):PCall Try.prog 43 [(.g (.int .i64 (a))),(.g (.int .i64 (b))),(.g (.int .i64 (c)))] (.g (.bool (decide (b≤a)&&decide (a≤c)))):=by
 refine zbp Try.func43 (by rfl) (by rfl) (by rw [Try.ntmps43];exact Nat.le_of_ble_eq_true rfl) rfl (by decide) ?_
 rw [Try.ntmps43]
 refine AW_k [(0,_),(1,_),(2,_)] ⟨rfl,rfl,rfl,trivial⟩ ?_
 refine AW_r rfl rfl λK hK=>?_
 simp (disch:=omega)
 repeat' first|(refine ⟨by omega,?_⟩)|(intro _)
 refine hK _ ?_;clear hK K
 refine AW_r rfl rfl λK hK=>?_
 simp (disch:=omega)
 repeat' first|(exfalso;omega)|(refine ⟨λ_=>?_,λ_=>?_⟩)|(refine ⟨by omega,?_⟩)|(intro _)
 all_goals (refine hK _ ?_;clear hK K)
 all_goals
  refine zbl (zb5 ?_)
  simp (disch:=omega)
  all_goals first | omega|(simp_all;done)|(simp [List.take_of_length_le];done)|((try simp_all);(try simp (disch:=omega) only [zce,Int.tdiv_eq_ediv_of_nonneg,Int.tmod_eq_emod_of_nonneg,and_true,true_and]);done)|((try simp_all);(try simp (disch:=omega) only [zce,Int.tdiv_eq_ediv_of_nonneg,Int.tmod_eq_emod_of_nonneg,and_true,true_and] at *);omega)
theorem zlo(a b c:Int):PCall Try.prog 44 [(.g (.int .i64 (a))),(.g (.int .i64 (b))),(.g (.int .i64 (c)))] (.g (.bool (decide (b≤a)&&decide (a≤c)))):=by
 refine zbp Try.func44 (by rfl) (by rfl) (by rw [Try.ntmps44];exact Nat.le_of_ble_eq_true rfl) rfl (by decide) ?_
 rw [Try.ntmps44]
 refine AW_k [(0,_),(1,_),(2,_)] ⟨rfl,rfl,rfl,trivial⟩ ?_
 refine AW_r rfl rfl λK hK=>?_
 simp (disch:=omega)
 repeat' first|(refine ⟨by omega,?_⟩)|(intro _)
 refine hK _ ?_;clear hK K
 refine AW_r rfl rfl λK hK=>?_
 simp (disch:=omega)
 repeat' first|(exfalso;omega)|(refine ⟨λ_=>?_,λ_=>?_⟩)|(refine ⟨by omega,?_⟩)|(intro _)
 all_goals (refine hK _ ?_;clear hK K)
 all_goals
  refine zbl (zb5 ?_)
  simp (disch:=omega)
  all_goals first | omega|(simp_all;done)|(simp [List.take_of_length_le];done)|((try simp_all);(try simp (disch:=omega) only [zce,Int.tdiv_eq_ediv_of_nonneg,Int.tmod_eq_emod_of_nonneg,and_true,true_and]);done)|((try simp_all);(try simp (disch:=omega) only [zce,Int.tdiv_eq_ediv_of_nonneg,Int.tmod_eq_emod_of_nonneg,and_true,true_and] at *);omega)
def LoB(b:UInt8):Prop:=97≤b.toNat∧b.toNat≤122
def Word(s:List UInt8):Prop:=1≤s.length∧s.length≤8∧∀(j:Nat) b,s[j]? = some b→LoB b
theorem l4Word(s:List UInt8):PCall Try.prog 49 [.s s] (.g (.bool (decB (Word s)))):=by
 refine zbp Try.func49 (by rfl) (by rfl) (by rw [Try.ntmps49];exact Nat.le_of_ble_eq_true rfl) rfl (by decide) ?_
 rw [Try.ntmps49]
 refine AW_k [(0,_)] ⟨rfl,trivial⟩ ?_
 refine AW_r rfl rfl λK hK=>?_
 simp (disch:=omega)
 repeat' first|(refine ⟨by omega,?_⟩)|(intro _)
 refine hK _ ?_;clear hK K
 refine zbf ?_
 refine AW_r rfl rfl λK hK=>?_
 simp (disch:=omega)
 repeat' first|(exfalso;omega)|(refine zcj (zbe zch (zbe zch (zbe zch zbn))) (l1In _ _ _) rfl ?_;simp (disch:=omega))|(refine ⟨by omega,?_⟩)|(intro _)
 refine hK _ ?_;clear hK K
 refine zbi rfl (λhc1=>?_) (λhc1=>?_)
 ·try simp at hc1
  all_goals
   refine AW_r rfl rfl λK hK=>?_
   simp (disch:=omega)
   repeat' first|(exfalso;omega)|(refine ⟨λ_=>?_,λ_=>?_⟩)|(refine ⟨by omega,?_⟩)|(intro _)
   all_goals (refine hK _ ?_;clear hK K)
   all_goals
    refine zbl (zb5 ?_)
    simp (disch:=omega)
    all_goals first|(refine zcx λh=>?_;grind [Word,LoB])|(refine zcw ?_;grind [Word,LoB])
 ·try simp at hc1
  all_goals
   refine zbj ?_
   refine zbo ?_
   refine zbf ?_
   refine AW_r rfl rfl λK hK=>?_
   simp (disch:=omega)
   repeat' first|(exfalso;omega)|(refine ⟨λ_=>?_,λ_=>?_⟩)|(refine ⟨by omega,?_⟩)|(intro _)
   all_goals (refine hK _ ?_;clear hK K)
   all_goals
    refine zbm ?_
    refine zbw (λmM sS=>∃(i:Nat),mM=s.length-i∧(i≤s.length∧∀j b,j<i→s[j]? = some b→LoB b)∧sS = { env:=lkE [(0,.s s),(3,(.g (.int .i64 ((i:Nat)))))],ob:=formOb [] [] }) ?_ ?_
    ·refine ⟨_,LeS.kp [(0,.s s),(3,(.g (.int .i64 (((0):Nat)))))] (by simp [KpE,zcb,zby,zbt];try rfl),_,0,rfl,?_,rfl⟩
     ·simp
    ·rintro mM sS ⟨i,rfl,⟨hi,hpre⟩,rfl⟩
     refine zbf ?_
     refine AW_r rfl rfl λK hK=>?_
     simp (disch:=omega)
     repeat' first|(refine ⟨by omega,?_⟩)|(intro _)
     refine hK _ ?_;clear hK K
     refine zbi rfl (λhc2=>?_) (λhc2=>?_)
     ·try simp at hc2
      all_goals
       have hg:s[i]? = some s[i]:=List.getElem?_eq_getElem (by omega)
       refine zbj ?_
       refine zbo ?_
       refine zbf ?_
       refine zbm ?_
       refine AW_r rfl rfl λK hK=>?_
       simp (disch:=omega)
       repeat' first|(exfalso;omega)|(refine ⟨λ_=>?_,λ_=>?_⟩)|(refine ⟨by omega,?_⟩)|(intro _)
       all_goals (refine hK _ ?_;clear hK K)
       all_goals
        refine zbi rfl (λhc3=>?_) (λhc3=>?_)
        ·try simp at hc3
         all_goals
          refine AW_r rfl rfl λK hK=>?_
          simp (disch:=omega)
          repeat' first|(exfalso;omega)|(refine ⟨λ_=>?_,λ_=>?_⟩)|(refine ⟨by omega,?_⟩)|(intro _)
          all_goals (refine hK _ ?_;clear hK K)
          all_goals
           refine zbl (zb5 ?_)
           simp (disch:=omega)
           all_goals first|(refine zcx λh=>?_;grind [Word,LoB])|(refine zcw ?_;grind [Word,LoB])
        ·try simp at hc3
         all_goals
          refine zbj ?_
          refine zbo ?_
          refine zc0 rfl rfl λK hK=>?_
          simp (disch:=omega)
          repeat' first|(exfalso;omega)|(refine ⟨λ_=>?_,λ_=>?_⟩)|(refine ⟨by omega,?_⟩)|(intro _)
          all_goals (refine hK _ ?_;clear hK K)
          all_goals
           refine ⟨_,LeS.kp [(0,.s s),(3,(.g (.int .i64 (((i+1):Nat)))))] (by simp [KpE,zcb,zby,zbt];try rfl),_,?_,i+1,rfl,?_,rfl⟩
           ·omega
           ·refine ⟨by omega,?_⟩;grind [LoB]
     ·try simp at hc2
      all_goals
       refine zb4 ?_
       refine zbo ?_
       refine AW_r rfl rfl λK hK=>?_
       simp (disch:=omega)
       repeat' first|(exfalso;omega)|(refine ⟨λ_=>?_,λ_=>?_⟩)|(refine ⟨by omega,?_⟩)|(intro _)
       all_goals (refine hK _ ?_;clear hK K)
       all_goals
        refine zbl (zb5 ?_)
        simp (disch:=omega)
        all_goals first|(refine zcx λh=>?_;grind [Word,LoB])|(refine zcw ?_;grind [Word,LoB])
theorem isWord(s:List UInt8)(hs:s.length≤1048576):PCall Try.prog 56 [.s s] (.g (.bool (decB (Word s)))):=by
 refine zbp Try.func56 (by rfl) (by rfl) (by rw [Try.ntmps56];exact Nat.le_of_ble_eq_true rfl) rfl (by decide) ?_
 rw [Try.ntmps56]
 refine AW_k [(0,_)] ⟨rfl,trivial⟩ ?_
 refine AW_r rfl rfl λK hK=>?_
 simp (disch:=omega)
 repeat' first|(refine ⟨by omega,?_⟩)|(intro _)
 refine hK _ ?_;clear hK K
 refine zbf ?_
 refine AW_r rfl rfl λK hK=>?_
 simp (disch:=omega)
 repeat' first|(refine ⟨by omega,?_⟩)|(intro _)
 refine hK _ ?_;clear hK K
 refine zbm ?_
 refine zbw (λmM sS=>∃(i:Nat),mM=s.length-i∧(i≤s.length∧∀j b,j<i→s[j]? = some b→LoB b)∧sS = { env:=lkE [(0,.s s),(3,(.g (.int .i64 ((i:Nat)))))],ob:=formOb [] [] }) ?_ ?_
 ·refine ⟨_,LeS.kp [(0,.s s),(3,(.g (.int .i64 (((0):Nat)))))] (by simp [KpE,zcb,zby,zbt];try rfl),_,0,rfl,?_,rfl⟩
  ·simp
 ·rintro mM sS ⟨i,rfl,⟨hi,hpre⟩,rfl⟩
  refine zbf ?_
  refine AW_r rfl rfl λK hK=>?_
  simp (disch:=omega)
  repeat' first|(refine ⟨by omega,?_⟩)|(intro _)
  refine hK _ ?_;clear hK K
  refine zbi rfl (λhc4=>?_) (λhc4=>?_)
  ·try simp at hc4
   all_goals
    have hg:s[i]? = some s[i]:=List.getElem?_eq_getElem (by omega)
    refine zbj ?_
    refine zbo ?_
    refine zbf ?_
    refine zbm ?_
    refine AW_r rfl rfl λK hK=>?_
    simp (disch:=omega)
    repeat' first|(exfalso;omega)|(refine ⟨λ_=>?_,λ_=>?_⟩)|(refine ⟨by omega,?_⟩)|(intro _)
    all_goals (refine hK _ ?_;clear hK K)
    all_goals
     refine zbi rfl (λhc5=>?_) (λhc5=>?_)
     ·try simp at hc5
      all_goals
       refine AW_r rfl rfl λK hK=>?_
       simp (disch:=omega)
       repeat' first|(exfalso;omega)|(refine ⟨λ_=>?_,λ_=>?_⟩)|(refine ⟨by omega,?_⟩)|(intro _)
       all_goals (refine hK _ ?_;clear hK K)
       all_goals
        refine zbl (zb5 ?_)
        simp (disch:=omega)
        all_goals first|(refine zcx λh=>?_;grind [Word,LoB])|(refine zcw ?_;grind [Word,LoB])|(rw [Bool.eq_iff_iff,zbk];grind [Word,LoB])
     ·try simp at hc5
      all_goals
       refine zbj ?_
       refine zbo ?_
       refine zc0 rfl rfl λK hK=>?_
       simp (disch:=omega)
       repeat' first|(exfalso;omega)|(refine ⟨λ_=>?_,λ_=>?_⟩)|(refine ⟨by omega,?_⟩)|(intro _)
       all_goals (refine hK _ ?_;clear hK K)
       all_goals
        refine ⟨_,LeS.kp [(0,.s s),(3,(.g (.int .i64 (((i+1):Nat)))))] (by simp [KpE,zcb,zby,zbt];try rfl),_,?_,i+1,rfl,?_,rfl⟩
        ·omega
        ·refine ⟨by omega,?_⟩;grind [LoB]
  ·try simp at hc4
   all_goals
    refine zb4 ?_
    refine zbo ?_
    refine AW_r rfl rfl λK hK=>?_
    simp (disch:=omega)
    repeat' first|(exfalso;omega)|(refine zcj (zbe zch (zbe zch (zbe zch zbn))) (zlo _ _ _) rfl ?_;simp (disch:=omega))|(refine ⟨λ_=>?_,λ_=>?_⟩)|(refine ⟨by omega,?_⟩)|(intro _)
    all_goals (refine hK _ ?_;clear hK K)
    all_goals
     refine zbl (zb5 ?_)
     simp (disch:=omega)
     all_goals first|(refine zcx λh=>?_;grind [Word,LoB])|(refine zcw ?_;grind [Word,LoB])|(rw [Bool.eq_iff_iff,zbk];grind [Word,LoB])
end Go.Proofs.Ytchpfloemfoomaa.Vs
end
