import Derived.Test.YtchpfloemfoomaaDoorVs9
import Derived.Test.YtchpfloemfoomaaDoorSM1
section
open Go Go.Proofs Go.Proofs.YtchpfloemfoomaaDoor.Vs
namespace Go.Proofs.YtchpfloemfoomaaDoor.Vs
set_option linter.all false
attribute [local simp] szR
attribute [-simp] szR
theorem zgb(xs ys:List (List UInt8))(hs:szS lenZ xs≤1048576):PCall Tryd.prog 8 [.sl 1 (xs.map cS),.sl 1 (ys.map cS)] (.g (.bool (eqB xs ys))):=by
 have hn:xs.length≤1048576:=by have:=zfv zjn xs;simp only [szS] at hs;omega
 refine zbq Tryd.func8 (by rfl) (by rfl) (by rw [Tryd.ntmps8];exact Nat.le_of_ble_eq_true rfl) rfl (by decide) ?_
 rw [Tryd.ntmps8]
 refine AW_k [(0,_),(1,_)] ⟨rfl,rfl,trivial⟩ ?_
 refine AW_r rfl rfl λK hK=>?_
 simp (disch:=omega)
 repeat' first|(refine ⟨by omega,?_⟩)|(intro _)
 refine hK _ ?_;clear hK K
 refine zbg ?_
 refine AW_r rfl rfl λK hK=>?_
 simp (disch:=omega)
 repeat' first|(refine ⟨by omega,?_⟩)|(intro _)
 refine hK _ ?_;clear hK K
 refine zbm rfl (λhc5=>?_) (λhc5=>?_)
 ·try simp at hc5
  all_goals
   refine AW_r rfl rfl λK hK=>?_
   simp (disch:=omega)
   repeat' first|(exfalso;omega)|(refine ⟨λ_=>?_,λ_=>?_⟩)|(refine ⟨by omega,?_⟩)|(intro _)
   all_goals (refine hK _ ?_;clear hK K)
   all_goals
    refine zbu (zdv ?_)
    simp (disch:=omega)
    all_goals first|(exact zty heq)|(refine zk4 λheq=>?_;subst heq;simp_all [zdw,zda,zbe];done)|(refine (zk4 λheq=>?_).symm;subst heq;simp_all [zdw,zda,zbe];done) | simp_all [zbe]
 try simp at hc5
 refine zbl ?_
 refine zbk ?_
 refine zbg ?_
 refine AW_r rfl rfl λK hK=>?_
 simp (disch:=omega)
 repeat' first|(exfalso;omega)|(refine ⟨λ_=>?_,λ_=>?_⟩)|(refine ⟨by omega,?_⟩)|(intro _)
 all_goals (refine hK _ ?_;clear hK K)
 all_goals
  refine zbh ?_
  refine zbt (λmM sS=>∃(i:Nat),mM=xs.length-i∧(i≤xs.length∧∀j,j<i→xs[j]? = ys[j]?)∧sS = { env:=lkE [(0,.sl 1 (xs.map cS)),(1,.sl 1 (ys.map cS)),(5,(.g (.int .i64 ((i:Nat)))))],ob:=formOb [] [] }) ?_ ?_
  ·refine ⟨_,LeS.kp [(0,.sl 1 (xs.map cS)),(1,.sl 1 (ys.map cS)),(5,(.g (.int .i64 (((0):Nat)))))] (by simp [KpE,zbz,zbj,zbr];try rfl),_,0,rfl,?_,rfl⟩
   ·simp
  ·rintro mM sS ⟨i,rfl,⟨hi,hpre⟩,rfl⟩
   refine zbg ?_
   refine AW_r rfl rfl λK hK=>?_
   simp (disch:=omega) [cS]
   repeat' first|(refine ⟨by omega,?_⟩)|(intro _)
   refine hK _ ?_;clear hK K
   refine zbm rfl (λhc6=>?_) (λhc6=>?_)
   ·try simp at hc6
    all_goals
     have h7:i<ys.length:=by omega
     refine zbl ?_
     refine zbk ?_
     refine zbg ?_
     refine zbh ?_
     refine AW_q rfl mix (by kernel_rfl) rfl λK hK=>?_
     simp (disch:=omega) [cS]
     repeat' first|(exfalso;omega)|(refine ⟨λ_=>?_,λ_=>?_⟩)|(refine ⟨by omega,?_⟩)|(intro _)
     all_goals (refine hK _ ?_;clear hK K)
     all_goals
      refine zbm rfl (λhc7=>?_) (λhc7=>?_)
      ·try simp at hc7
       all_goals
        refine AW_r rfl rfl λK hK=>?_
        simp (disch:=omega) [cS]
        repeat' first|(exfalso;omega)|(refine ⟨λ_=>?_,λ_=>?_⟩)|(refine ⟨by omega,?_⟩)|(intro _)
        all_goals (refine hK _ ?_;clear hK K)
        all_goals
         refine zbu (zdv ?_)
         simp (disch:=omega) [cS]
         all_goals first|(exact zty heq)|(refine zk4 λheq=>?_;subst heq;simp_all [zdw,zda,zbe];done)|(refine (zk4 λheq=>?_).symm;subst heq;simp_all [zdw,zda,zbe];done) | simp_all [zbe]
      try simp at hc7
      refine zbl ?_
      refine zbk ?_
      refine zka rfl rfl λK hK=>?_
      simp (disch:=omega) [cS]
      repeat' first|(exfalso;omega)|(refine ⟨λ_=>?_,λ_=>?_⟩)|(refine ⟨by omega,?_⟩)|(intro _)
      all_goals (refine hK _ ?_;clear hK K)
      all_goals
       refine ⟨_,LeS.kp [(0,.sl 1 (xs.map cS)),(1,.sl 1 (ys.map cS)),(5,(.g (.int .i64 (((i+1):Nat)))))] (by simp [KpE,zbz,zbj,zbr];try rfl),_,?_,i+1,rfl,?_,rfl⟩
       ·omega
       ·refine ⟨by omega,λj hj=>?_⟩
        by_cases hji:j=i
        ·subst hji;simp_all [zdw,zda]
        ·exact hpre j (by omega)
   try simp at hc6
   have hi2:i=xs.length:=by omega
   subst hi2
   have heq:xs=ys:=List.ext_getElem? λj=>by
    by_cases hj:j<xs.length
    ·exact hpre j hj
    ·rw [List.getElem?_eq_none (by omega),List.getElem?_eq_none (by omega)]
   refine zb4 ?_
   refine zbk ?_
   refine AW_r rfl rfl λK hK=>?_
   simp (disch:=omega) [cS]
   repeat' first|(exfalso;omega)|(refine ⟨λ_=>?_,λ_=>?_⟩)|(refine ⟨by omega,?_⟩)|(intro _)
   all_goals (refine hK _ ?_;clear hK K)
   all_goals
    refine zbu (zdv ?_)
    simp (disch:=omega) [cS]
    all_goals first|(exact zty heq)|(refine zk4 λheq=>?_;subst heq;simp_all [zdw,zda,zbe];done)|(refine (zk4 λheq=>?_).symm;subst heq;simp_all [zdw,zda,zbe];done) | simp_all [zbe]
attribute [local simp] szR DtCSnap.cells
attribute [-simp] szR
attribute [local simp] szR
attribute [-simp] DtCSnap.cells
attribute [-simp] szR
attribute [local simp] szR DtCSet.cells
attribute [-simp] szR
attribute [local simp] szR
attribute [-simp] DtCSet.cells
attribute [-simp] szR
attribute [local simp] szR DtCatalog.cells
attribute [-simp] szR
attribute [local simp] szR DtSaid.cells
attribute [-simp] DtCatalog.cells
attribute [-simp] szR
attribute [local simp] szR
attribute [-simp] DtSaid.cells
attribute [-simp] szR
attribute [local simp] szR DtState.cells
attribute [-simp] szR
attribute [local simp] DtCatalog.cells
attribute [-simp] DtCatalog.cells
attribute [local simp] DtCatalog.cells
end Go.Proofs.YtchpfloemfoomaaDoor.Vs
end
