import Derived.Test.YtchpfloemfoomaaDoorVs9
import Derived.Test.YtchpfloemfoomaaDoorSM1
section
namespace Go.Proofs.YtchpfloemfoomaaDoor.Vs
set_option linter.all false
attribute [local simp] szR
def zG0:=And.intro @zfz (And.intro @zb6 @zd7)
theorem zwi(xs:List (List UInt8))(n:Int)(hn:0≤n∧n≤1048576)(hw:(wfS wfL) xs):PCall Tryd.prog 79 [.sl 1 (xs.map cS),(.g (.int .i64 (n)))] (.g (.int .i64 (szR n (szS lenZ xs)))):=by
 have hq:=zbs zch xs
 have hw1:=hw.1
 refine zbe Tryd.func79 (by rfl) (by rfl) (by rw [Tryd.ntmps79];exact Nat.le_of_ble_eq_true rfl) rfl (by decide) ?_
 rw [Tryd.ntmps79]
 refine AW_k [(0,_),(1,_)] ⟨rfl,rfl,trivial⟩ ?_
 refine AW_r rfl rfl λK hK=>?_
 simp (disch:=omega)
 repeat' first|(refine ⟨by omega,?_⟩)|(intro _)
 refine hK _ ?_;clear hK K
 refine AW_r rfl rfl λK hK=>?_
 simp (disch:=omega)
 repeat' first|(refine ⟨by omega,?_⟩)|(intro _)
 refine hK _ ?_;clear hK K
 refine zbh ?_
 refine AW_r rfl rfl λK hK=>?_
 simp (disch:=omega)
 repeat' first|(refine ⟨by omega,?_⟩)|(intro _)
 refine hK _ ?_;clear hK K
 refine zbj rfl (λhc1=>?_) (λhc1=>?_)
 ·try simp at hc1
  all_goals
   refine AW_r rfl rfl λK hK=>?_
   simp (disch:=omega)
   repeat' first|(exfalso;omega)|(refine ⟨λ_=>?_,λ_=>?_⟩)|(refine ⟨by omega,?_⟩)|(intro _)
   all_goals (refine hK _ ?_;clear hK K)
   all_goals
    refine zbm (zbq ?_)
    simp (disch:=omega) [szS]
    all_goals first | omega|(split<;>omega)
 try simp at hc1
 refine zbk ?_
 refine zbn ?_
 refine zbh ?_
 refine AW_r rfl rfl λK hK=>?_
 simp (disch:=omega)
 repeat' first|(exfalso;omega)|(refine ⟨λ_=>?_,λ_=>?_⟩)|(refine ⟨by omega,?_⟩)|(intro _)
 all_goals (refine hK _ ?_;clear hK K)
 all_goals
  refine zbi ?_
  refine zbr (λmM sS=>∃(i:Nat),mM=xs.length-i∧(i≤xs.length∧0≤n-xs.length-sumZ lenZ (xs.take i))∧sS = { env:=lkE [(0,.sl 1 (xs.map cS)),(1,(.g (.int .i64 (n-xs.length-sumZ lenZ (xs.take i))))),(5,(.g (.int .i64 ((i:Nat)))))],ob:=formOb [] [] }) ?_ ?_
  ·refine ⟨_,LeS.kp [(0,.sl 1 (xs.map cS)),(1,(.g (.int .i64 (n-xs.length-sumZ lenZ (xs.take (0)))))),(5,(.g (.int .i64 (((0):Nat)))))] (by simp [zG0,KpE,zcl];try first | rfl | omega),_,0,rfl,?_,rfl⟩
   ·simp [zcl];omega
  ·rintro mM sS ⟨i,rfl,⟨hi,hn⟩,rfl⟩
   have hz:=zbs zch (xs.take i)
   have hz2:=zcp zch xs i
   refine zbh ?_
   refine AW_r rfl rfl λK hK=>?_
   simp (disch:=omega) [cS,lenZ]
   repeat' first|(refine ⟨by omega,?_⟩)|(intro _)
   refine hK _ ?_;clear hK K
   refine zbj rfl (λhc2=>?_) (λhc2=>?_)
   ·try simp at hc2
    all_goals
     have hl:=zgw (f:=lenZ) xs i (by omega)
     have hwE:wfL xs[i]:=hw.2 _ (List.getElem_mem _)
     have hwE2:xs[i].length≤9223372036854775807:=hwE
     simp only [lenZ] at hl
     have hz3:=zcp zch xs (i+1)
     refine zbk ?_
     refine zbn ?_
     refine zbh ?_
     refine zbi ?_
     refine AW_r rfl rfl λK hK=>?_
     simp (disch:=omega) [cS,lenZ]
     repeat' first|(exfalso;omega)|(refine ⟨λ_=>?_,λ_=>?_⟩)|(refine ⟨by omega,?_⟩)|(intro _)
     all_goals (refine hK _ ?_;clear hK K)
     all_goals
      refine AW_r rfl rfl λK hK=>?_
      simp (disch:=omega) [cS,lenZ]
      repeat' first|(refine ⟨by omega,?_⟩)|(intro _)
      refine hK _ ?_;clear hK K
      refine zbj rfl (λhc3=>?_) (λhc3=>?_)
      ·try simp at hc3
       all_goals
        refine AW_r rfl rfl λK hK=>?_
        simp (disch:=omega) [cS,lenZ]
        repeat' first|(exfalso;omega)|(refine ⟨λ_=>?_,λ_=>?_⟩)|(refine ⟨by omega,?_⟩)|(intro _)
        all_goals (refine hK _ ?_;clear hK K)
        all_goals
         refine zbm (zbq ?_)
         simp (disch:=omega) [cS,lenZ,szS]
         all_goals first | omega|(split<;>omega)
      try simp at hc3
      refine zbk ?_
      refine zbn ?_
      refine zco rfl rfl λK hK=>?_
      simp (disch:=omega) [cS,lenZ]
      repeat' first|(exfalso;omega)|(refine ⟨λ_=>?_,λ_=>?_⟩)|(refine ⟨by omega,?_⟩)|(intro _)
      all_goals (refine hK _ ?_;clear hK K)
      all_goals
       refine ⟨_,LeS.kp [(0,.sl 1 (xs.map cS)),(1,(.g (.int .i64 (n-xs.length-sumZ lenZ (xs.take (i+1)))))),(5,(.g (.int .i64 (((i+1):Nat)))))] (by simp [zG0,KpE,zcl];try first | rfl | omega),_,?_,i+1,rfl,?_,rfl⟩
       ·omega
       ·omega
   try simp at hc2
   have hi2:i=xs.length:=by omega
   subst hi2
   simp only [List.take_length] at *
   refine zbx ?_
   refine zbn ?_
   refine AW_r rfl rfl λK hK=>?_
   simp (disch:=omega) [cS,lenZ]
   repeat' first|(exfalso;omega)|(refine ⟨λ_=>?_,λ_=>?_⟩)|(refine ⟨by omega,?_⟩)|(intro _)
   all_goals (refine hK _ ?_;clear hK K)
   all_goals
    refine zbm (zbq ?_)
    simp (disch:=omega) [cS,lenZ,szS]
    all_goals first | omega|(split<;>omega)
attribute [-simp] szR
theorem zwj(xs:List (List UInt8))(hs:szS lenZ xs≤1048576):PCall Tryd.prog 80 [.sl 1 (xs.map cS)] (.sl 1 (xs.map cS)):=by
 have hn:xs.length≤1048576:=by have:=zbs zch xs;simp only [szS] at hs;omega
 refine zbe Tryd.func80 (by rfl) (by rfl) (by rw [Tryd.ntmps80];exact Nat.le_of_ble_eq_true rfl) rfl (by decide) ?_
 rw [Tryd.ntmps80]
 refine AW_k [(0,_)] ⟨rfl,trivial⟩ ?_
 refine AW_r rfl rfl λK hK=>?_
 simp (disch:=omega)
 repeat' first|(refine ⟨by omega,?_⟩)|(intro _)
 refine hK _ ?_;clear hK K
 refine AW_r rfl rfl λK hK=>?_
 simp (disch:=omega)
 repeat' first|(refine ⟨by omega,?_⟩)|(intro _)
 refine hK _ ?_;clear hK K
 refine zbh ?_
 refine AW_r rfl rfl λK hK=>?_
 simp (disch:=omega)
 repeat' first|(refine ⟨by omega,?_⟩)|(intro _)
 refine hK _ ?_;clear hK K
 refine zbi ?_
 refine zbr (λmM sS=>∃(i:Nat) (ys:List (List AV)),mM=xs.length-i∧(i≤xs.length∧ys.length=xs.length∧(∀j,j<i→ys[j]? = (xs.map cS)[j]?)∧(∀y∈ys,y.length=1))∧sS = { env:=lkE [(0,.sl 1 (xs.map cS)),(3,.arr 128 0 xs.length),(4,(.g (.int .i64 ((i:Nat)))))],ob:=upd (formOb [] []) 128 (some (.flat 1 ys)) }) ?_ ?_
 ·refine ⟨_,LeS.kp [(0,.sl 1 (xs.map cS)),(3,.arr 128 0 xs.length),(4,(.g (.int .i64 (((0):Nat)))))] (by simp [zG0,KpE];try rfl),_,0,List.replicate xs.length [.s []],rfl,?_,rfl⟩
  ·simp
 ·rintro mM sS ⟨i,ys,rfl,⟨hi,hl,hpre,hone⟩,rfl⟩
  refine zbh ?_
  refine AW_r rfl rfl λK hK=>?_
  simp (disch:=omega) [cS]
  repeat' first|(refine ⟨by omega,?_⟩)|(intro _)
  refine hK _ ?_;clear hK K
  refine zbj rfl (λhc4=>?_) (λhc4=>?_)
  ·try simp at hc4
   all_goals
    obtain ⟨c1,h6⟩:∃c1,ys[i]'(by omega)=[c1]:=List.length_eq_one_iff.1 (hone _ (List.getElem_mem _))
    refine zbk ?_
    refine zbn ?_
    refine zbh ?_
    refine zbi ?_
    refine zco rfl rfl λK hK=>?_
    simp (disch:=omega) [cS,h6]
    repeat' first|(exfalso;omega)|(refine ⟨λ_=>?_,λ_=>?_⟩)|(refine ⟨by omega,?_⟩)|(intro _)
    all_goals (refine hK _ ?_;clear hK K)
    all_goals
     refine zbn ?_
     refine zco rfl rfl λK hK=>?_
     simp (disch:=omega) [cS,h6]
     repeat' first|(refine ⟨by omega,?_⟩)|(intro _)
     refine hK _ ?_;clear hK K
     refine ⟨_,LeS.kp [(0,.sl 1 (xs.map cS)),(3,.arr 128 0 xs.length),(4,(.g (.int .i64 (((i+1):Nat)))))] (by simp [zG0,KpE];try rfl),_,?_,i+1,ys.set i (cS xs[i]),rfl,?_,?_⟩
     ·omega
     ·refine ⟨by omega,by simpa using hl,λj hj=>?_,λy hy=>?_⟩
      ·by_cases hji:j=i
       ·subst hji;rw [List.getElem?_set_self (by omega),List.getElem?_map,List.getElem?_eq_getElem (by omega)];rfl
       ·rw [List.getElem?_set_ne (by omega)];exact hpre j (by omega)
      ·rcases List.mem_or_eq_of_mem_set hy with hy | rfl
       ·exact hone y hy
       ·rfl
     ·simp [cS]
  try simp at hc4
  have hi2:i=xs.length:=by omega
  subst hi2
  have hys:ys=xs.map cS:=List.ext_getElem? λj=>by
   by_cases hj:j<xs.length
   ·exact hpre j hj
   ·rw [List.getElem?_eq_none (by omega),List.getElem?_eq_none (by simp;omega)]
  subst hys
  refine zbx ?_
  refine zbn ?_
  refine AW_r rfl rfl λK hK=>?_
  simp (disch:=omega) [cS]
  repeat' first|(exfalso;omega)|(refine ⟨λ_=>?_,λ_=>?_⟩)|(refine ⟨by omega,?_⟩)|(intro _)
  all_goals (refine hK _ ?_;clear hK K)
  all_goals
   refine zbm (zbq ?_)
   simp (disch:=omega) [cS]
   all_goals first | omega|(simp_all;done)|(simp [List.take_of_length_le];done)|((try simp_all);(try simp (disch:=omega) only [zbu,Int.tdiv_eq_ediv_of_nonneg,Int.tmod_eq_emod_of_nonneg,and_true,true_and]);done)|((try simp_all);(try simp (disch:=omega) only [zbu,Int.tdiv_eq_ediv_of_nonneg,Int.tmod_eq_emod_of_nonneg,and_true,true_and] at *);omega)
theorem zwk(xs ys:List (List UInt8))(hs:szS lenZ xs≤1048576):PCall Tryd.prog 8 [.sl 1 (xs.map cS),.sl 1 (ys.map cS)] (.g (.bool (eqB xs ys))):=by
 have hn:xs.length≤1048576:=by have:=zbs zch xs;simp only [szS] at hs;omega
 refine zbe Tryd.func8 (by rfl) (by rfl) (by rw [Tryd.ntmps8];exact Nat.le_of_ble_eq_true rfl) rfl (by decide) ?_
 rw [Tryd.ntmps8]
 refine AW_k [(0,_),(1,_)] ⟨rfl,rfl,trivial⟩ ?_
 refine AW_r rfl rfl λK hK=>?_
 simp (disch:=omega)
 repeat' first|(refine ⟨by omega,?_⟩)|(intro _)
 refine hK _ ?_;clear hK K
 refine zbh ?_
 refine AW_r rfl rfl λK hK=>?_
 simp (disch:=omega)
 repeat' first|(refine ⟨by omega,?_⟩)|(intro _)
 refine hK _ ?_;clear hK K
 refine zbj rfl (λhc5=>?_) (λhc5=>?_)
 ·try simp at hc5
  all_goals
   refine AW_r rfl rfl λK hK=>?_
   simp (disch:=omega)
   repeat' first|(exfalso;omega)|(refine ⟨λ_=>?_,λ_=>?_⟩)|(refine ⟨by omega,?_⟩)|(intro _)
   all_goals (refine hK _ ?_;clear hK K)
   all_goals
    refine zbm (zbq ?_)
    simp (disch:=omega)
    all_goals first|(exact zb7 heq)|(refine zb0 λheq=>?_;subst heq;simp_all [zbd,zbc,zbl];done)|(refine (zb0 λheq=>?_).symm;subst heq;simp_all [zbd,zbc,zbl];done) | simp_all [zbl]
 try simp at hc5
 refine zbk ?_
 refine zbn ?_
 refine zbh ?_
 refine AW_r rfl rfl λK hK=>?_
 simp (disch:=omega)
 repeat' first|(exfalso;omega)|(refine ⟨λ_=>?_,λ_=>?_⟩)|(refine ⟨by omega,?_⟩)|(intro _)
 all_goals (refine hK _ ?_;clear hK K)
 all_goals
  refine zbi ?_
  refine zbr (λmM sS=>∃(i:Nat),mM=xs.length-i∧(i≤xs.length∧∀j,j<i→xs[j]? = ys[j]?)∧sS = { env:=lkE [(0,.sl 1 (xs.map cS)),(1,.sl 1 (ys.map cS)),(5,(.g (.int .i64 ((i:Nat)))))],ob:=formOb [] [] }) ?_ ?_
  ·refine ⟨_,LeS.kp [(0,.sl 1 (xs.map cS)),(1,.sl 1 (ys.map cS)),(5,(.g (.int .i64 (((0):Nat)))))] (by simp [zG0,KpE];try rfl),_,0,rfl,?_,rfl⟩
   ·simp
  ·rintro mM sS ⟨i,rfl,⟨hi,hpre⟩,rfl⟩
   refine zbh ?_
   refine AW_r rfl rfl λK hK=>?_
   simp (disch:=omega) [cS]
   repeat' first|(refine ⟨by omega,?_⟩)|(intro _)
   refine hK _ ?_;clear hK K
   refine zbj rfl (λhc6=>?_) (λhc6=>?_)
   ·try simp at hc6
    all_goals
     have h7:i<ys.length:=by omega
     refine zbk ?_
     refine zbn ?_
     refine zbh ?_
     refine zbi ?_
     refine AW_q rfl mix (by kernel_rfl) rfl λK hK=>?_
     simp (disch:=omega) [cS]
     repeat' first|(exfalso;omega)|(refine ⟨λ_=>?_,λ_=>?_⟩)|(refine ⟨by omega,?_⟩)|(intro _)
     all_goals (refine hK _ ?_;clear hK K)
     all_goals
      refine zbj rfl (λhc7=>?_) (λhc7=>?_)
      ·try simp at hc7
       all_goals
        refine AW_r rfl rfl λK hK=>?_
        simp (disch:=omega) [cS]
        repeat' first|(exfalso;omega)|(refine ⟨λ_=>?_,λ_=>?_⟩)|(refine ⟨by omega,?_⟩)|(intro _)
        all_goals (refine hK _ ?_;clear hK K)
        all_goals
         refine zbm (zbq ?_)
         simp (disch:=omega) [cS]
         all_goals first|(exact zb7 heq)|(refine zb0 λheq=>?_;subst heq;simp_all [zbd,zbc,zbl];done)|(refine (zb0 λheq=>?_).symm;subst heq;simp_all [zbd,zbc,zbl];done) | simp_all [zbl]
      try simp at hc7
      refine zbk ?_
      refine zbn ?_
      refine zco rfl rfl λK hK=>?_
      simp (disch:=omega) [cS]
      repeat' first|(exfalso;omega)|(refine ⟨λ_=>?_,λ_=>?_⟩)|(refine ⟨by omega,?_⟩)|(intro _)
      all_goals (refine hK _ ?_;clear hK K)
      all_goals
       refine ⟨_,LeS.kp [(0,.sl 1 (xs.map cS)),(1,.sl 1 (ys.map cS)),(5,(.g (.int .i64 (((i+1):Nat)))))] (by simp [zG0,KpE];try rfl),_,?_,i+1,rfl,?_,rfl⟩
       ·omega
       ·refine ⟨by omega,λj hj=>?_⟩
        by_cases hji:j=i
        ·subst hji;simp_all [zbd,zbc]
        ·exact hpre j (by omega)
   try simp at hc6
   have hi2:i=xs.length:=by omega
   subst hi2
   have heq:xs=ys:=List.ext_getElem? λj=>by
    by_cases hj:j<xs.length
    ·exact hpre j hj
    ·rw [List.getElem?_eq_none (by omega),List.getElem?_eq_none (by omega)]
   refine zbx ?_
   refine zbn ?_
   refine AW_r rfl rfl λK hK=>?_
   simp (disch:=omega) [cS]
   repeat' first|(exfalso;omega)|(refine ⟨λ_=>?_,λ_=>?_⟩)|(refine ⟨by omega,?_⟩)|(intro _)
   all_goals (refine hK _ ?_;clear hK K)
   all_goals
    refine zbm (zbq ?_)
    simp (disch:=omega) [cS]
    all_goals first|(exact zb7 heq)|(refine zb0 λheq=>?_;subst heq;simp_all [zbd,zbc,zbl];done)|(refine (zb0 λheq=>?_).symm;subst heq;simp_all [zbd,zbc,zbl];done) | simp_all [zbl]
attribute [local simp] szR DtCSnap.cells
theorem szCSnap(u:DtCSnap)(n:Int)(hn:0≤n∧n≤1048576)(hw:DtCSnap.wf u):PCall Tryd.prog 74 [.agg (DtCSnap.cells u),(.g (.int .i64 (n)))] (.g (.int .i64 (szR n (DtCSnap.sz u)))):=by
 have ⟨w0,w1,w2⟩:=hw
 have w02:u.fName.length≤9223372036854775807:=w0
 have w12:u.fTag.length≤9223372036854775807:=w1
 have w22:=w2.1
 have z2:=(zcb zch) u.fChunks
 refine zbe Tryd.func74 (by rfl) (by rfl) (by rw [Tryd.ntmps74];exact Nat.le_of_ble_eq_true rfl) rfl (by decide) ?_
 rw [Tryd.ntmps74]
 refine AW_k [(0,_),(1,_)] ⟨rfl,rfl,trivial⟩ ?_
 refine AW_r rfl rfl λK hK=>?_
 simp (disch:=omega)
 repeat' first|(refine ⟨by omega,?_⟩)|(intro _)
 refine hK _ ?_;clear hK K
 refine AW_r rfl rfl λK hK=>?_
 simp (disch:=omega)
 repeat' first|(refine ⟨by omega,?_⟩)|(intro _)
 refine hK _ ?_;clear hK K
 refine zbh ?_
 refine AW_r rfl rfl λK hK=>?_
 simp (disch:=omega)
 repeat' first|(refine ⟨by omega,?_⟩)|(intro _)
 refine hK _ ?_;clear hK K
 refine zbj rfl (λhc8=>?_) (λhc8=>?_)
 ·try simp at hc8
  all_goals
   refine AW_r rfl rfl λK hK=>?_
   simp (disch:=omega)
   repeat' first|(exfalso;omega)|(refine ⟨λ_=>?_,λ_=>?_⟩)|(refine ⟨by omega,?_⟩)|(intro _)
   all_goals (refine hK _ ?_;clear hK K)
   all_goals
    refine zbm (zbq ?_)
    simp (disch:=omega) [DtCSnap.sz]
    all_goals first | omega|(simp_all;done)|(split<;>omega)|(split<;>simp_all<;>omega)|(simp_all [szR];omega)
 try simp at hc8
 refine zbk ?_
 refine zbn ?_
 refine AW_r rfl rfl λK hK=>?_
 simp (disch:=omega)
 repeat' first|(exfalso;omega)|(refine ⟨λ_=>?_,λ_=>?_⟩)|(refine ⟨by omega,?_⟩)|(intro _)
 all_goals (refine hK _ ?_;clear hK K)
 all_goals
  refine zbh ?_
  refine AW_r rfl rfl λK hK=>?_
  simp (disch:=omega)
  repeat' first|(refine ⟨by omega,?_⟩)|(intro _)
  refine hK _ ?_;clear hK K
  refine zbj rfl (λhc9=>?_) (λhc9=>?_)
  ·try simp at hc9
   all_goals
    refine AW_r rfl rfl λK hK=>?_
    simp (disch:=omega)
    repeat' first|(exfalso;omega)|(refine ⟨λ_=>?_,λ_=>?_⟩)|(refine ⟨by omega,?_⟩)|(intro _)
    all_goals (refine hK _ ?_;clear hK K)
    all_goals
     refine zbm (zbq ?_)
     simp (disch:=omega) [DtCSnap.sz]
     all_goals first | omega|(simp_all;done)|(split<;>omega)|(split<;>simp_all<;>omega)|(simp_all [szR];omega)
  try simp at hc9
  refine zbk ?_
  refine zbn ?_
  refine AW_r rfl rfl λK hK=>?_
  simp (disch:=omega)
  repeat' first|(exfalso;omega)|(refine zby (zba zc6 (zba zbz zbg)) (zwi _ _ (by omega) (by assumption)) rfl ?_;simp (disch:=omega))|(refine ⟨λ_=>?_,λ_=>?_⟩)|(refine ⟨by omega,?_⟩)|(intro _)
  all_goals (refine hK _ ?_;clear hK K)
  all_goals
   refine zbh ?_
   refine AW_r rfl rfl λK hK=>?_
   simp (disch:=omega)
   repeat' first|(refine ⟨by omega,?_⟩)|(intro _)
   refine hK _ ?_;clear hK K
   refine zbj rfl (λhc10=>?_) (λhc10=>?_)
   ·try simp at hc10
    all_goals
     refine AW_r rfl rfl λK hK=>?_
     simp (disch:=omega)
     repeat' first|(exfalso;omega)|(refine ⟨λ_=>?_,λ_=>?_⟩)|(refine ⟨by omega,?_⟩)|(intro _)
     all_goals (refine hK _ ?_;clear hK K)
     all_goals
      refine zbm (zbq ?_)
      simp (disch:=omega) [DtCSnap.sz]
      all_goals first | omega|(simp_all;done)|(split<;>omega)|(split<;>simp_all<;>omega)|(simp_all [szR];omega)
   try simp at hc10
   refine zbk ?_
   refine zbn ?_
   refine AW_r rfl rfl λK hK=>?_
   simp (disch:=omega)
   repeat' first|(exfalso;omega)|(refine ⟨λ_=>?_,λ_=>?_⟩)|(refine ⟨by omega,?_⟩)|(intro _)
   all_goals (refine hK _ ?_;clear hK K)
   all_goals
    refine zbm (zbq ?_)
    simp (disch:=omega) [DtCSnap.sz]
    all_goals first | omega|(simp_all;done)|(split<;>omega)|(split<;>simp_all<;>omega)|(simp_all [szR];omega)
attribute [-simp] szR
theorem toCSnap(u:DtCSnap)(hs:DtCSnap.sz u≤1048576):PCall Tryd.prog 75 [.agg (DtCSnap.cells u)] (.agg (DtCSnap.cells u)):=by
 simp only [DtCSnap.sz] at hs
 have z2:=(zcb zch) u.fChunks
 have s0:(u.fName.length:Int)≤1048576:=by omega
 have s1:(u.fTag.length:Int)≤1048576:=by omega
 have s2:szS lenZ u.fChunks≤1048576:=by omega
 refine zbe Tryd.func75 (by rfl) (by rfl) (by rw [Tryd.ntmps75];exact Nat.le_of_ble_eq_true rfl) rfl (by decide) ?_
 rw [Tryd.ntmps75]
 refine AW_k [(0,_)] ⟨rfl,trivial⟩ ?_
 refine AW_r rfl rfl λK hK=>?_
 simp
 repeat' first|(refine ⟨by omega,?_⟩)|(intro _)
 refine hK _ ?_;clear hK K
 refine AW_r rfl rfl λK hK=>?_
 simp
 repeat' first|(refine ⟨by omega,?_⟩)|(intro _)
 refine hK _ ?_;clear hK K
 refine AW_r rfl rfl λK hK=>?_
 simp
 repeat' first|(refine ⟨by omega,?_⟩)|(intro _)
 refine hK _ ?_;clear hK K
 refine AW_r rfl rfl λK hK=>?_
 simp
 repeat' first|(refine ⟨by omega,?_⟩)|(intro _)
 refine hK _ ?_;clear hK K
 refine AW_r rfl rfl λK hK=>?_
 simp
 repeat' first|(refine zby (zba zc6 zbg) (zwj _ (by first | assumption | omega)) rfl ?_;simp)|(refine ⟨by omega,?_⟩)|(intro _)
 refine hK _ ?_;clear hK K
 refine AW_r rfl rfl λK hK=>?_
 simp
 repeat' first|(refine ⟨by omega,?_⟩)|(intro _)
 refine hK _ ?_;clear hK K
 refine zbm (zbq ?_)
 simp
 all_goals first | omega|(simp_all;done)|(simp [List.take_of_length_le];done)|((try simp_all);(try simp (disch:=omega) only [zbu,Int.tdiv_eq_ediv_of_nonneg,Int.tmod_eq_emod_of_nonneg,and_true,true_and]);done)|((try simp_all);(try simp (disch:=omega) only [zbu,Int.tdiv_eq_ediv_of_nonneg,Int.tmod_eq_emod_of_nonneg,and_true,true_and] at *);omega)
theorem eqCSnap(u v:DtCSnap)(hs:DtCSnap.sz u≤1048576):PCall Tryd.prog 78 [.agg (DtCSnap.cells u),.agg (DtCSnap.cells v)] (.g (.bool (eqB u v))):=by
 simp only [DtCSnap.sz] at hs
 have z2:=(zcb zch) u.fChunks
 have s0:(u.fName.length:Int)≤1048576:=by omega
 have s1:(u.fTag.length:Int)≤1048576:=by omega
 have s2:szS lenZ u.fChunks≤1048576:=by omega
 have he:=DtCSnap.ext_iff u v
 refine zbe Tryd.func78 (by rfl) (by rfl) (by rw [Tryd.ntmps78];exact Nat.le_of_ble_eq_true rfl) rfl (by decide) ?_
 rw [Tryd.ntmps78]
 refine AW_k [(0,_),(1,_)] ⟨rfl,rfl,trivial⟩ ?_
 refine AW_r rfl rfl λK hK=>?_
 simp
 repeat' first|(refine ⟨by omega,?_⟩)|(intro _)
 refine hK _ ?_;clear hK K
 refine zbh ?_
 refine AW_r rfl rfl λK hK=>?_
 simp
 repeat' first|(refine ⟨by omega,?_⟩)|(intro _)
 refine hK _ ?_;clear hK K
 refine zbj rfl (λhc11=>?_) (λhc11=>?_)
 ·try simp at hc11
  all_goals
   refine AW_r rfl rfl λK hK=>?_
   simp
   repeat' first|(refine ⟨λ_=>?_,λ_=>?_⟩)|(refine ⟨by omega,?_⟩)|(intro _)
   all_goals (refine hK _ ?_;clear hK K)
   all_goals
    refine zbm (zbq ?_)
    simp
    all_goals first|(refine zb7 (he.mpr ?_);simp_all [zbd,zbc];done)|(refine zb0 λh=>?_;rw [he] at h;simp_all [zbd,zbc,zbl];done)|(refine (zb7 (he.mpr ?_)).symm;simp_all [zbd,zbc];done)|(refine (zb0 λh=>?_).symm;rw [he] at h;simp_all [zbd,zbc,zbl];done)
 try simp at hc11
 refine zbk ?_
 refine zbn ?_
 refine zbh ?_
 refine AW_r rfl rfl λK hK=>?_
 simp
 repeat' first|(refine ⟨λ_=>?_,λ_=>?_⟩)|(refine ⟨by omega,?_⟩)|(intro _)
 all_goals (refine hK _ ?_;clear hK K)
 all_goals
  refine zbj rfl (λhc12=>?_) (λhc12=>?_)
  ·try simp at hc12
   all_goals
    refine AW_r rfl rfl λK hK=>?_
    simp
    repeat' first|(refine ⟨λ_=>?_,λ_=>?_⟩)|(refine ⟨by omega,?_⟩)|(intro _)
    all_goals (refine hK _ ?_;clear hK K)
    all_goals
     refine zbm (zbq ?_)
     simp
     all_goals first|(refine zb7 (he.mpr ?_);simp_all [zbd,zbc];done)|(refine zb0 λh=>?_;rw [he] at h;simp_all [zbd,zbc,zbl];done)|(refine (zb7 (he.mpr ?_)).symm;simp_all [zbd,zbc];done)|(refine (zb0 λh=>?_).symm;rw [he] at h;simp_all [zbd,zbc,zbl];done)
  try simp at hc12
  refine zbk ?_
  refine zbn ?_
  refine zbh ?_
  refine AW_r rfl rfl λK hK=>?_
  simp
  repeat' first|(refine zby (zba zc6 (zba zc6 zbg)) (zwk _ _ (by first | assumption | omega)) rfl ?_;simp)|(refine ⟨λ_=>?_,λ_=>?_⟩)|(refine ⟨by omega,?_⟩)|(intro _)
  all_goals (refine hK _ ?_;clear hK K)
  all_goals
   refine zbj rfl (λhc13=>?_) (λhc13=>?_)
   ·try simp at hc13
    all_goals
     refine AW_r rfl rfl λK hK=>?_
     simp
     repeat' first|(refine ⟨λ_=>?_,λ_=>?_⟩)|(refine ⟨by omega,?_⟩)|(intro _)
     all_goals (refine hK _ ?_;clear hK K)
     all_goals
      refine zbm (zbq ?_)
      simp
      all_goals first|(refine zb7 (he.mpr ?_);simp_all [zbd,zbc];done)|(refine zb0 λh=>?_;rw [he] at h;simp_all [zbd,zbc,zbl];done)|(refine (zb7 (he.mpr ?_)).symm;simp_all [zbd,zbc];done)|(refine (zb0 λh=>?_).symm;rw [he] at h;simp_all [zbd,zbc,zbl];done)
   try simp at hc13
   refine zbk ?_
   refine zbn ?_
   refine AW_r rfl rfl λK hK=>?_
   simp
   repeat' first|(refine ⟨λ_=>?_,λ_=>?_⟩)|(refine ⟨by omega,?_⟩)|(intro _)
   all_goals (refine hK _ ?_;clear hK K)
   all_goals
    refine zbm (zbq ?_)
    simp
    all_goals first|(refine zb7 (he.mpr ?_);simp_all [zbd,zbc];done)|(refine zb0 λh=>?_;rw [he] at h;simp_all [zbd,zbc,zbl];done)|(refine (zb7 (he.mpr ?_)).symm;simp_all [zbd,zbc];done)|(refine (zb0 λh=>?_).symm;rw [he] at h;simp_all [zbd,zbc,zbl];done)
attribute [local simp] szR
attribute [-simp] DtCSnap.cells
theorem szCSnapS(xs:List DtCSnap)(n:Int)(hn:0≤n∧n≤1048576)(hw:(wfS DtCSnap.wf) xs):PCall Tryd.prog 68 [.sl 3 (xs.map DtCSnap.cells),(.g (.int .i64 (n)))] (.g (.int .i64 (szR n (szS DtCSnap.sz xs)))):=by
 have hq:=zbs DtCSnap.sz_nonneg xs
 have hw1:=hw.1
 refine zbe Tryd.func68 (by rfl) (by rfl) (by rw [Tryd.ntmps68];exact Nat.le_of_ble_eq_true rfl) rfl (by decide) ?_
 rw [Tryd.ntmps68]
 refine AW_k [(0,_),(1,_)] ⟨rfl,rfl,trivial⟩ ?_
 refine AW_r rfl rfl λK hK=>?_
 simp (disch:=omega)
 repeat' first|(refine ⟨by omega,?_⟩)|(intro _)
 refine hK _ ?_;clear hK K
 refine AW_r rfl rfl λK hK=>?_
 simp (disch:=omega)
 repeat' first|(refine ⟨by omega,?_⟩)|(intro _)
 refine hK _ ?_;clear hK K
 refine zbh ?_
 refine AW_r rfl rfl λK hK=>?_
 simp (disch:=omega)
 repeat' first|(refine ⟨by omega,?_⟩)|(intro _)
 refine hK _ ?_;clear hK K
 refine zbj rfl (λhc14=>?_) (λhc14=>?_)
 ·try simp at hc14
  all_goals
   refine AW_r rfl rfl λK hK=>?_
   simp (disch:=omega)
   repeat' first|(exfalso;omega)|(refine ⟨λ_=>?_,λ_=>?_⟩)|(refine ⟨by omega,?_⟩)|(intro _)
   all_goals (refine hK _ ?_;clear hK K)
   all_goals
    refine zbm (zbq ?_)
    simp (disch:=omega) [szS]
    all_goals first | omega|(split<;>omega)
 try simp at hc14
 refine zbk ?_
 refine zbn ?_
 refine zbh ?_
 refine AW_r rfl rfl λK hK=>?_
 simp (disch:=omega)
 repeat' first|(exfalso;omega)|(refine ⟨λ_=>?_,λ_=>?_⟩)|(refine ⟨by omega,?_⟩)|(intro _)
 all_goals (refine hK _ ?_;clear hK K)
 all_goals
  refine zbi ?_
  refine zbr (λmM sS=>∃(i:Nat),mM=xs.length-i∧(i≤xs.length∧0≤n-xs.length-sumZ DtCSnap.sz (xs.take i))∧sS = { env:=lkE [(0,.sl 3 (xs.map DtCSnap.cells)),(1,(.g (.int .i64 (n-xs.length-sumZ DtCSnap.sz (xs.take i))))),(5,(.g (.int .i64 ((i:Nat)))))],ob:=formOb [] [] }) ?_ ?_
  ·refine ⟨_,LeS.kp [(0,.sl 3 (xs.map DtCSnap.cells)),(1,(.g (.int .i64 (n-xs.length-sumZ DtCSnap.sz (xs.take (0)))))),(5,(.g (.int .i64 (((0):Nat)))))] (by simp [zG0,KpE,zcl];try first | rfl | omega),_,0,rfl,?_,rfl⟩
   ·simp [zcl];omega
  ·rintro mM sS ⟨i,rfl,⟨hi,hn⟩,rfl⟩
   have hz:=zbs DtCSnap.sz_nonneg (xs.take i)
   have hz2:=zcp DtCSnap.sz_nonneg xs i
   refine zbh ?_
   refine AW_r rfl rfl λK hK=>?_
   simp (disch:=omega) [DtCSnap.cells]
   repeat' first|(refine ⟨by omega,?_⟩)|(intro _)
   refine hK _ ?_;clear hK K
   refine zbj rfl (λhc15=>?_) (λhc15=>?_)
   ·try simp at hc15
    all_goals
     have hl:=zgw (f:=DtCSnap.sz) xs i (by omega)
     have hwE:DtCSnap.wf xs[i]:=hw.2 _ (List.getElem_mem _)
     have hz3:=zcp DtCSnap.sz_nonneg xs (i+1)
     have hzE:=DtCSnap.sz_nonneg xs[i]
     have hszR:szR (n-xs.length-sumZ DtCSnap.sz (xs.take i)) (DtCSnap.sz xs[i])=n-xs.length-sumZ DtCSnap.sz (xs.take (i+1))∨(szR (n-xs.length-sumZ DtCSnap.sz (xs.take i)) (DtCSnap.sz xs[i]) = -1∧n-xs.length-sumZ DtCSnap.sz (xs.take (i+1))<0):=by unfold szR;split<;>omega
     refine zbk ?_
     refine zbn ?_
     refine zbh ?_
     refine zbi ?_
     refine AW_r rfl rfl λK hK=>?_
     simp (disch:=omega) [DtCSnap.cells]
     repeat' first|(exfalso;omega)|(refine zby (zba (zbv rfl) (zba zbz zbg)) (szCSnap _ _ (by omega) (by first | exact hwE | exact hw)) rfl ?_;simp (disch:=omega) [DtCSnap.cells])|(refine ⟨λ_=>?_,λ_=>?_⟩)|(refine ⟨by omega,?_⟩)|(intro _)
     all_goals (refine hK _ ?_;clear hK K)
     all_goals
      refine AW_r rfl rfl λK hK=>?_
      simp (disch:=omega) [DtCSnap.cells]
      repeat' first|(refine ⟨by omega,?_⟩)|(intro _)
      refine hK _ ?_;clear hK K
      refine zbj rfl (λhc16=>?_) (λhc16=>?_)
      ·try simp at hc16
       all_goals
        refine AW_r rfl rfl λK hK=>?_
        simp (disch:=omega) [DtCSnap.cells]
        repeat' first|(exfalso;omega)|(refine ⟨λ_=>?_,λ_=>?_⟩)|(refine ⟨by omega,?_⟩)|(intro _)
        all_goals (refine hK _ ?_;clear hK K)
        all_goals
         refine zbm (zbq ?_)
         simp (disch:=omega) [DtCSnap.cells,szS]
         all_goals first | omega|(split<;>omega)
      try simp at hc16
      refine zbk ?_
      refine zbn ?_
      refine zco rfl rfl λK hK=>?_
      simp (disch:=omega) [DtCSnap.cells]
      repeat' first|(exfalso;omega)|(refine ⟨λ_=>?_,λ_=>?_⟩)|(refine ⟨by omega,?_⟩)|(intro _)
      all_goals (refine hK _ ?_;clear hK K)
      all_goals
       refine ⟨_,LeS.kp [(0,.sl 3 (xs.map DtCSnap.cells)),(1,(.g (.int .i64 (n-xs.length-sumZ DtCSnap.sz (xs.take (i+1)))))),(5,(.g (.int .i64 (((i+1):Nat)))))] (by simp [zG0,KpE,zcl];try first | rfl | omega),_,?_,i+1,rfl,?_,rfl⟩
       ·omega
       ·omega
   try simp at hc15
   have hi2:i=xs.length:=by omega
   subst hi2
   simp only [List.take_length] at *
   refine zbx ?_
   refine zbn ?_
   refine AW_r rfl rfl λK hK=>?_
   simp (disch:=omega) [DtCSnap.cells]
   repeat' first|(exfalso;omega)|(refine ⟨λ_=>?_,λ_=>?_⟩)|(refine ⟨by omega,?_⟩)|(intro _)
   all_goals (refine hK _ ?_;clear hK K)
   all_goals
    refine zbm (zbq ?_)
    simp (disch:=omega) [DtCSnap.cells,szS]
    all_goals first | omega|(split<;>omega)
attribute [-simp] szR
theorem toCSnapS(xs:List DtCSnap)(hs:szS DtCSnap.sz xs≤1048576):PCall Tryd.prog 69 [.sl 3 (xs.map DtCSnap.cells)] (.sl 3 (xs.map DtCSnap.cells)):=by
 have hn:xs.length≤1048576:=by have:=zbs DtCSnap.sz_nonneg xs;simp only [szS] at hs;omega
 refine zbe Tryd.func69 (by rfl) (by rfl) (by rw [Tryd.ntmps69];exact Nat.le_of_ble_eq_true rfl) rfl (by decide) ?_
 rw [Tryd.ntmps69]
 refine AW_k [(0,_)] ⟨rfl,trivial⟩ ?_
 refine AW_r rfl rfl λK hK=>?_
 simp (disch:=omega)
 repeat' first|(refine ⟨by omega,?_⟩)|(intro _)
 refine hK _ ?_;clear hK K
 refine AW_r rfl rfl λK hK=>?_
 simp (disch:=omega)
 repeat' first|(refine ⟨by omega,?_⟩)|(intro _)
 refine hK _ ?_;clear hK K
 refine zbh ?_
 refine AW_r rfl rfl λK hK=>?_
 simp (disch:=omega)
 repeat' first|(refine ⟨by omega,?_⟩)|(intro _)
 refine hK _ ?_;clear hK K
 refine zbi ?_
 refine zbr (λmM sS=>∃(i:Nat) (ys:List (List AV)),mM=xs.length-i∧(i≤xs.length∧ys.length=xs.length∧(∀j,j<i→ys[j]? = (xs.map DtCSnap.cells)[j]?)∧(∀y∈ys,y.length=3))∧sS = { env:=lkE [(0,.sl 3 (xs.map DtCSnap.cells)),(3,.arr 128 0 xs.length),(4,(.g (.int .i64 ((i:Nat)))))],ob:=upd (formOb [] []) 128 (some (.flat 3 ys)) }) ?_ ?_
 ·refine ⟨_,LeS.kp [(0,.sl 3 (xs.map DtCSnap.cells)),(3,.arr 128 0 xs.length),(4,(.g (.int .i64 (((0):Nat)))))] (by simp [zG0,KpE];try rfl),_,0,List.replicate xs.length [.s [],.s [],.g (.slice none 0 0)],rfl,?_,rfl⟩
  ·simp
 ·rintro mM sS ⟨i,ys,rfl,⟨hi,hl,hpre,hone⟩,rfl⟩
  refine zbh ?_
  refine AW_r rfl rfl λK hK=>?_
  simp (disch:=omega) [DtCSnap.cells]
  repeat' first|(refine ⟨by omega,?_⟩)|(intro _)
  refine hK _ ?_;clear hK K
  refine zbj rfl (λhc17=>?_) (λhc17=>?_)
  ·try simp at hc17
   all_goals
    obtain ⟨c1,c2,c3,h6⟩:∃c1 c2 c3,ys[i]'(by omega)=[c1,c2,c3]:=len3 (hone _ (List.getElem_mem _))
    have hsE:DtCSnap.sz xs[i]≤1048576:=by have:=zci DtCSnap.sz_nonneg xs xs[i] (List.getElem_mem _);simp only [szS] at hs;omega
    refine zbk ?_
    refine zbn ?_
    refine zbh ?_
    refine zbi ?_
    refine zco rfl rfl λK hK=>?_
    simp (disch:=omega) [DtCSnap.cells,h6]
    repeat' first|(exfalso;omega)|(refine zby (zba (zbv rfl) zbg) (toCSnap _ (by first | assumption | omega)) rfl ?_;simp (disch:=omega) [DtCSnap.cells,h6])|(refine ⟨λ_=>?_,λ_=>?_⟩)|(refine ⟨by omega,?_⟩)|(intro _)
    all_goals (refine hK _ ?_;clear hK K)
    all_goals
     refine zbn ?_
     refine zco rfl rfl λK hK=>?_
     simp (disch:=omega) [DtCSnap.cells,h6]
     repeat' first|(refine ⟨by omega,?_⟩)|(intro _)
     refine hK _ ?_;clear hK K
     refine ⟨_,LeS.kp [(0,.sl 3 (xs.map DtCSnap.cells)),(3,.arr 128 0 xs.length),(4,(.g (.int .i64 (((i+1):Nat)))))] (by simp [zG0,KpE];try rfl),_,?_,i+1,ys.set i (DtCSnap.cells xs[i]),rfl,?_,?_⟩
     ·omega
     ·refine ⟨by omega,by simpa using hl,λj hj=>?_,λy hy=>?_⟩
      ·by_cases hji:j=i
       ·subst hji;rw [List.getElem?_set_self (by omega),List.getElem?_map,List.getElem?_eq_getElem (by omega)];rfl
       ·rw [List.getElem?_set_ne (by omega)];exact hpre j (by omega)
      ·rcases List.mem_or_eq_of_mem_set hy with hy | rfl
       ·exact hone y hy
       ·rfl
     ·rfl
  try simp at hc17
  have hi2:i=xs.length:=by omega
  subst hi2
  have hys:ys=xs.map DtCSnap.cells:=List.ext_getElem? λj=>by
   by_cases hj:j<xs.length
   ·exact hpre j hj
   ·rw [List.getElem?_eq_none (by omega),List.getElem?_eq_none (by simp;omega)]
  subst hys
  refine zbx ?_
  refine zbn ?_
  refine AW_r rfl rfl λK hK=>?_
  simp (disch:=omega) [DtCSnap.cells]
  repeat' first|(exfalso;omega)|(refine ⟨λ_=>?_,λ_=>?_⟩)|(refine ⟨by omega,?_⟩)|(intro _)
  all_goals (refine hK _ ?_;clear hK K)
  all_goals
   refine zbm (zbq ?_)
   simp (disch:=omega) [DtCSnap.cells]
   all_goals first | omega|(simp_all;done)|(simp [List.take_of_length_le];done)|((try simp_all);(try simp (disch:=omega) only [zbu,Int.tdiv_eq_ediv_of_nonneg,Int.tmod_eq_emod_of_nonneg,and_true,true_and]);done)|((try simp_all);(try simp (disch:=omega) only [zbu,Int.tdiv_eq_ediv_of_nonneg,Int.tmod_eq_emod_of_nonneg,and_true,true_and] at *);omega)
theorem eqCSnapS(xs ys:List DtCSnap)(hs:szS DtCSnap.sz xs≤1048576):PCall Tryd.prog 73 [.sl 3 (xs.map DtCSnap.cells),.sl 3 (ys.map DtCSnap.cells)] (.g (.bool (eqB xs ys))):=by
 have hn:xs.length≤1048576:=by have:=zbs DtCSnap.sz_nonneg xs;simp only [szS] at hs;omega
 refine zbe Tryd.func73 (by rfl) (by rfl) (by rw [Tryd.ntmps73];exact Nat.le_of_ble_eq_true rfl) rfl (by decide) ?_
 rw [Tryd.ntmps73]
 refine AW_k [(0,_),(1,_)] ⟨rfl,rfl,trivial⟩ ?_
 refine AW_r rfl rfl λK hK=>?_
 simp (disch:=omega)
 repeat' first|(refine ⟨by omega,?_⟩)|(intro _)
 refine hK _ ?_;clear hK K
 refine zbh ?_
 refine AW_r rfl rfl λK hK=>?_
 simp (disch:=omega)
 repeat' first|(refine ⟨by omega,?_⟩)|(intro _)
 refine hK _ ?_;clear hK K
 refine zbj rfl (λhc18=>?_) (λhc18=>?_)
 ·try simp at hc18
  all_goals
   refine AW_r rfl rfl λK hK=>?_
   simp (disch:=omega)
   repeat' first|(exfalso;omega)|(refine ⟨λ_=>?_,λ_=>?_⟩)|(refine ⟨by omega,?_⟩)|(intro _)
   all_goals (refine hK _ ?_;clear hK K)
   all_goals
    refine zbm (zbq ?_)
    simp (disch:=omega)
    all_goals first|(exact zb7 heq)|(refine zb0 λheq=>?_;subst heq;simp_all [zbd,zbc,zbl];done)|(refine (zb0 λheq=>?_).symm;subst heq;simp_all [zbd,zbc,zbl];done) | simp_all [zbl]
 try simp at hc18
 refine zbk ?_
 refine zbn ?_
 refine zbh ?_
 refine AW_r rfl rfl λK hK=>?_
 simp (disch:=omega)
 repeat' first|(exfalso;omega)|(refine ⟨λ_=>?_,λ_=>?_⟩)|(refine ⟨by omega,?_⟩)|(intro _)
 all_goals (refine hK _ ?_;clear hK K)
 all_goals
  refine zbi ?_
  refine zbr (λmM sS=>∃(i:Nat),mM=xs.length-i∧(i≤xs.length∧∀j,j<i→xs[j]? = ys[j]?)∧sS = { env:=lkE [(0,.sl 3 (xs.map DtCSnap.cells)),(1,.sl 3 (ys.map DtCSnap.cells)),(5,(.g (.int .i64 ((i:Nat)))))],ob:=formOb [] [] }) ?_ ?_
  ·refine ⟨_,LeS.kp [(0,.sl 3 (xs.map DtCSnap.cells)),(1,.sl 3 (ys.map DtCSnap.cells)),(5,(.g (.int .i64 (((0):Nat)))))] (by simp [zG0,KpE];try rfl),_,0,rfl,?_,rfl⟩
   ·simp
  ·rintro mM sS ⟨i,rfl,⟨hi,hpre⟩,rfl⟩
   refine zbh ?_
   refine AW_r rfl rfl λK hK=>?_
   simp (disch:=omega) [DtCSnap.cells]
   repeat' first|(refine ⟨by omega,?_⟩)|(intro _)
   refine hK _ ?_;clear hK K
   refine zbj rfl (λhc19=>?_) (λhc19=>?_)
   ·try simp at hc19
    all_goals
     have h7:i<ys.length:=by omega
     have hsE:DtCSnap.sz xs[i]≤1048576:=by have:=zci DtCSnap.sz_nonneg xs xs[i] (List.getElem_mem _);simp only [szS] at hs;omega
     refine zbk ?_
     refine zbn ?_
     refine zbh ?_
     refine zbi ?_
     refine AW_q rfl mix (by kernel_rfl) rfl λK hK=>?_
     simp (disch:=omega) [DtCSnap.cells]
     repeat' first|(exfalso;omega)|(refine zby (zba (zbv rfl) (zba (zbv rfl) zbg)) (eqCSnap _ _ (by first | assumption | omega)) rfl ?_;simp (disch:=omega) [DtCSnap.cells])|(refine ⟨λ_=>?_,λ_=>?_⟩)|(refine ⟨by omega,?_⟩)|(intro _)
     all_goals (refine hK _ ?_;clear hK K)
     all_goals
      refine zbj rfl (λhc20=>?_) (λhc20=>?_)
      ·try simp at hc20
       all_goals
        refine AW_r rfl rfl λK hK=>?_
        simp (disch:=omega) [DtCSnap.cells]
        repeat' first|(exfalso;omega)|(refine ⟨λ_=>?_,λ_=>?_⟩)|(refine ⟨by omega,?_⟩)|(intro _)
        all_goals (refine hK _ ?_;clear hK K)
        all_goals
         refine zbm (zbq ?_)
         simp (disch:=omega) [DtCSnap.cells]
         all_goals first|(exact zb7 heq)|(refine zb0 λheq=>?_;subst heq;simp_all [zbd,zbc,zbl];done)|(refine (zb0 λheq=>?_).symm;subst heq;simp_all [zbd,zbc,zbl];done) | simp_all [zbl]
      try simp at hc20
      refine zbk ?_
      refine zbn ?_
      refine zco rfl rfl λK hK=>?_
      simp (disch:=omega) [DtCSnap.cells]
      repeat' first|(exfalso;omega)|(refine ⟨λ_=>?_,λ_=>?_⟩)|(refine ⟨by omega,?_⟩)|(intro _)
      all_goals (refine hK _ ?_;clear hK K)
      all_goals
       refine ⟨_,LeS.kp [(0,.sl 3 (xs.map DtCSnap.cells)),(1,.sl 3 (ys.map DtCSnap.cells)),(5,(.g (.int .i64 (((i+1):Nat)))))] (by simp [zG0,KpE];try rfl),_,?_,i+1,rfl,?_,rfl⟩
       ·omega
       ·refine ⟨by omega,λj hj=>?_⟩
        by_cases hji:j=i
        ·subst hji;simp_all [zbd,zbc]
        ·exact hpre j (by omega)
   try simp at hc19
   have hi2:i=xs.length:=by omega
   subst hi2
   have heq:xs=ys:=List.ext_getElem? λj=>by
    by_cases hj:j<xs.length
    ·exact hpre j hj
    ·rw [List.getElem?_eq_none (by omega),List.getElem?_eq_none (by omega)]
   refine zbx ?_
   refine zbn ?_
   refine AW_r rfl rfl λK hK=>?_
   simp (disch:=omega) [DtCSnap.cells]
   repeat' first|(exfalso;omega)|(refine ⟨λ_=>?_,λ_=>?_⟩)|(refine ⟨by omega,?_⟩)|(intro _)
   all_goals (refine hK _ ?_;clear hK K)
   all_goals
    refine zbm (zbq ?_)
    simp (disch:=omega) [DtCSnap.cells]
    all_goals first|(exact zb7 heq)|(refine zb0 λheq=>?_;subst heq;simp_all [zbd,zbc,zbl];done)|(refine (zb0 λheq=>?_).symm;subst heq;simp_all [zbd,zbc,zbl];done) | simp_all [zbl]
attribute [local simp] szR DtCSet.cells
theorem szCSet(u:DtCSet)(n:Int)(hn:0≤n∧n≤1048576)(hw:DtCSet.wf u):PCall Tryd.prog 57 [.agg (DtCSet.cells u),(.g (.int .i64 (n)))] (.g (.int .i64 (szR n (DtCSet.sz u)))):=by
 have ⟨w0,w1⟩:=hw
 have w02:u.fName.length≤9223372036854775807:=w0
 have w12:=w1.1
 have z1:=(zcb DtCSnap.sz_nonneg) u.fSnaps
 refine zbe Tryd.func57 (by rfl) (by rfl) (by rw [Tryd.ntmps57];exact Nat.le_of_ble_eq_true rfl) rfl (by decide) ?_
 rw [Tryd.ntmps57]
 refine AW_k [(0,_),(1,_)] ⟨rfl,rfl,trivial⟩ ?_
 refine AW_r rfl rfl λK hK=>?_
 simp (disch:=omega)
 repeat' first|(refine ⟨by omega,?_⟩)|(intro _)
 refine hK _ ?_;clear hK K
 refine AW_r rfl rfl λK hK=>?_
 simp (disch:=omega)
 repeat' first|(refine ⟨by omega,?_⟩)|(intro _)
 refine hK _ ?_;clear hK K
 refine zbh ?_
 refine AW_r rfl rfl λK hK=>?_
 simp (disch:=omega)
 repeat' first|(refine ⟨by omega,?_⟩)|(intro _)
 refine hK _ ?_;clear hK K
 refine zbj rfl (λhc21=>?_) (λhc21=>?_)
 ·try simp at hc21
  all_goals
   refine AW_r rfl rfl λK hK=>?_
   simp (disch:=omega)
   repeat' first|(exfalso;omega)|(refine ⟨λ_=>?_,λ_=>?_⟩)|(refine ⟨by omega,?_⟩)|(intro _)
   all_goals (refine hK _ ?_;clear hK K)
   all_goals
    refine zbm (zbq ?_)
    simp (disch:=omega) [DtCSet.sz]
    all_goals first | omega|(simp_all;done)|(split<;>omega)|(split<;>simp_all<;>omega)|(simp_all [szR];omega)
 try simp at hc21
 refine zbk ?_
 refine zbn ?_
 refine AW_r rfl rfl λK hK=>?_
 simp (disch:=omega)
 repeat' first|(exfalso;omega)|(refine zby (zba zc6 (zba zbz zbg)) (szCSnapS _ _ (by omega) (by assumption)) rfl ?_;simp (disch:=omega))|(refine ⟨λ_=>?_,λ_=>?_⟩)|(refine ⟨by omega,?_⟩)|(intro _)
 all_goals (refine hK _ ?_;clear hK K)
 all_goals
  refine zbh ?_
  refine AW_r rfl rfl λK hK=>?_
  simp (disch:=omega)
  repeat' first|(refine ⟨by omega,?_⟩)|(intro _)
  refine hK _ ?_;clear hK K
  refine zbj rfl (λhc22=>?_) (λhc22=>?_)
  ·try simp at hc22
   all_goals
    refine AW_r rfl rfl λK hK=>?_
    simp (disch:=omega)
    repeat' first|(exfalso;omega)|(refine ⟨λ_=>?_,λ_=>?_⟩)|(refine ⟨by omega,?_⟩)|(intro _)
    all_goals (refine hK _ ?_;clear hK K)
    all_goals
     refine zbm (zbq ?_)
     simp (disch:=omega) [DtCSet.sz]
     all_goals first | omega|(simp_all;done)|(split<;>omega)|(split<;>simp_all<;>omega)|(simp_all [szR];omega)
  try simp at hc22
  refine zbk ?_
  refine zbn ?_
  refine AW_r rfl rfl λK hK=>?_
  simp (disch:=omega)
  repeat' first|(exfalso;omega)|(refine ⟨λ_=>?_,λ_=>?_⟩)|(refine ⟨by omega,?_⟩)|(intro _)
  all_goals (refine hK _ ?_;clear hK K)
  all_goals
   refine zbm (zbq ?_)
   simp (disch:=omega) [DtCSet.sz]
   all_goals first | omega|(simp_all;done)|(split<;>omega)|(split<;>simp_all<;>omega)|(simp_all [szR];omega)
attribute [-simp] szR
theorem toCSet(u:DtCSet)(hs:DtCSet.sz u≤1048576):PCall Tryd.prog 61 [.agg (DtCSet.cells u)] (.agg (DtCSet.cells u)):=by
 simp only [DtCSet.sz] at hs
 have z1:=(zcb DtCSnap.sz_nonneg) u.fSnaps
 have s0:(u.fName.length:Int)≤1048576:=by omega
 have s1:szS DtCSnap.sz u.fSnaps≤1048576:=by omega
 refine zbe Tryd.func61 (by rfl) (by rfl) (by rw [Tryd.ntmps61];exact Nat.le_of_ble_eq_true rfl) rfl (by decide) ?_
 rw [Tryd.ntmps61]
 refine AW_k [(0,_)] ⟨rfl,trivial⟩ ?_
 refine AW_r rfl rfl λK hK=>?_
 simp
 repeat' first|(refine ⟨by omega,?_⟩)|(intro _)
 refine hK _ ?_;clear hK K
 refine AW_r rfl rfl λK hK=>?_
 simp
 repeat' first|(refine ⟨by omega,?_⟩)|(intro _)
 refine hK _ ?_;clear hK K
 refine AW_r rfl rfl λK hK=>?_
 simp
 repeat' first|(refine ⟨by omega,?_⟩)|(intro _)
 refine hK _ ?_;clear hK K
 refine AW_r rfl rfl λK hK=>?_
 simp
 repeat' first|(refine zby (zba zc6 zbg) (toCSnapS _ (by first | assumption | omega)) rfl ?_;simp)|(refine ⟨by omega,?_⟩)|(intro _)
 refine hK _ ?_;clear hK K
 refine AW_r rfl rfl λK hK=>?_
 simp
 repeat' first|(refine ⟨by omega,?_⟩)|(intro _)
 refine hK _ ?_;clear hK K
 refine zbm (zbq ?_)
 simp
 all_goals first | omega|(simp_all;done)|(simp [List.take_of_length_le];done)|((try simp_all);(try simp (disch:=omega) only [zbu,Int.tdiv_eq_ediv_of_nonneg,Int.tmod_eq_emod_of_nonneg,and_true,true_and]);done)|((try simp_all);(try simp (disch:=omega) only [zbu,Int.tdiv_eq_ediv_of_nonneg,Int.tmod_eq_emod_of_nonneg,and_true,true_and] at *);omega)
theorem eqCSet(u v:DtCSet)(hs:DtCSet.sz u≤1048576):PCall Tryd.prog 63 [.agg (DtCSet.cells u),.agg (DtCSet.cells v)] (.g (.bool (eqB u v))):=by
 simp only [DtCSet.sz] at hs
 have z1:=(zcb DtCSnap.sz_nonneg) u.fSnaps
 have s0:(u.fName.length:Int)≤1048576:=by omega
 have s1:szS DtCSnap.sz u.fSnaps≤1048576:=by omega
 have he:=DtCSet.ext_iff u v
 refine zbe Tryd.func63 (by rfl) (by rfl) (by rw [Tryd.ntmps63];exact Nat.le_of_ble_eq_true rfl) rfl (by decide) ?_
 rw [Tryd.ntmps63]
 refine AW_k [(0,_),(1,_)] ⟨rfl,rfl,trivial⟩ ?_
 refine AW_r rfl rfl λK hK=>?_
 simp
 repeat' first|(refine ⟨by omega,?_⟩)|(intro _)
 refine hK _ ?_;clear hK K
 refine zbh ?_
 refine AW_r rfl rfl λK hK=>?_
 simp
 repeat' first|(refine ⟨by omega,?_⟩)|(intro _)
 refine hK _ ?_;clear hK K
 refine zbj rfl (λhc23=>?_) (λhc23=>?_)
 ·try simp at hc23
  all_goals
   refine AW_r rfl rfl λK hK=>?_
   simp
   repeat' first|(refine ⟨λ_=>?_,λ_=>?_⟩)|(refine ⟨by omega,?_⟩)|(intro _)
   all_goals (refine hK _ ?_;clear hK K)
   all_goals
    refine zbm (zbq ?_)
    simp
    all_goals first|(refine zb7 (he.mpr ?_);simp_all [zbd,zbc];done)|(refine zb0 λh=>?_;rw [he] at h;simp_all [zbd,zbc,zbl];done)|(refine (zb7 (he.mpr ?_)).symm;simp_all [zbd,zbc];done)|(refine (zb0 λh=>?_).symm;rw [he] at h;simp_all [zbd,zbc,zbl];done)
 try simp at hc23
 refine zbk ?_
 refine zbn ?_
 refine zbh ?_
 refine AW_r rfl rfl λK hK=>?_
 simp
 repeat' first|(refine zby (zba zc6 (zba zc6 zbg)) (eqCSnapS _ _ (by first | assumption | omega)) rfl ?_;simp)|(refine ⟨λ_=>?_,λ_=>?_⟩)|(refine ⟨by omega,?_⟩)|(intro _)
 all_goals (refine hK _ ?_;clear hK K)
 all_goals
  refine zbj rfl (λhc24=>?_) (λhc24=>?_)
  ·try simp at hc24
   all_goals
    refine AW_r rfl rfl λK hK=>?_
    simp
    repeat' first|(refine ⟨λ_=>?_,λ_=>?_⟩)|(refine ⟨by omega,?_⟩)|(intro _)
    all_goals (refine hK _ ?_;clear hK K)
    all_goals
     refine zbm (zbq ?_)
     simp
     all_goals first|(refine zb7 (he.mpr ?_);simp_all [zbd,zbc];done)|(refine zb0 λh=>?_;rw [he] at h;simp_all [zbd,zbc,zbl];done)|(refine (zb7 (he.mpr ?_)).symm;simp_all [zbd,zbc];done)|(refine (zb0 λh=>?_).symm;rw [he] at h;simp_all [zbd,zbc,zbl];done)
  try simp at hc24
  refine zbk ?_
  refine zbn ?_
  refine AW_r rfl rfl λK hK=>?_
  simp
  repeat' first|(refine ⟨λ_=>?_,λ_=>?_⟩)|(refine ⟨by omega,?_⟩)|(intro _)
  all_goals (refine hK _ ?_;clear hK K)
  all_goals
   refine zbm (zbq ?_)
   simp
   all_goals first|(refine zb7 (he.mpr ?_);simp_all [zbd,zbc];done)|(refine zb0 λh=>?_;rw [he] at h;simp_all [zbd,zbc,zbl];done)|(refine (zb7 (he.mpr ?_)).symm;simp_all [zbd,zbc];done)|(refine (zb0 λh=>?_).symm;rw [he] at h;simp_all [zbd,zbc,zbl];done)
attribute [local simp] szR
attribute [-simp] DtCSet.cells
theorem szCSetS(xs:List DtCSet)(n:Int)(hn:0≤n∧n≤1048576)(hw:(wfS DtCSet.wf) xs):PCall Tryd.prog 38 [.sl 2 (xs.map DtCSet.cells),(.g (.int .i64 (n)))] (.g (.int .i64 (szR n (szS DtCSet.sz xs)))):=by
 have hq:=zbs DtCSet.sz_nonneg xs
 have hw1:=hw.1
 refine zbe Tryd.func38 (by rfl) (by rfl) (by rw [Tryd.ntmps38];exact Nat.le_of_ble_eq_true rfl) rfl (by decide) ?_
 rw [Tryd.ntmps38]
 refine AW_k [(0,_),(1,_)] ⟨rfl,rfl,trivial⟩ ?_
 refine AW_r rfl rfl λK hK=>?_
 simp (disch:=omega)
 repeat' first|(refine ⟨by omega,?_⟩)|(intro _)
 refine hK _ ?_;clear hK K
 refine AW_r rfl rfl λK hK=>?_
 simp (disch:=omega)
 repeat' first|(refine ⟨by omega,?_⟩)|(intro _)
 refine hK _ ?_;clear hK K
 refine zbh ?_
 refine AW_r rfl rfl λK hK=>?_
 simp (disch:=omega)
 repeat' first|(refine ⟨by omega,?_⟩)|(intro _)
 refine hK _ ?_;clear hK K
 refine zbj rfl (λhc25=>?_) (λhc25=>?_)
 ·try simp at hc25
  all_goals
   refine AW_r rfl rfl λK hK=>?_
   simp (disch:=omega)
   repeat' first|(exfalso;omega)|(refine ⟨λ_=>?_,λ_=>?_⟩)|(refine ⟨by omega,?_⟩)|(intro _)
   all_goals (refine hK _ ?_;clear hK K)
   all_goals
    refine zbm (zbq ?_)
    simp (disch:=omega) [szS]
    all_goals first | omega|(split<;>omega)
 try simp at hc25
 refine zbk ?_
 refine zbn ?_
 refine zbh ?_
 refine AW_r rfl rfl λK hK=>?_
 simp (disch:=omega)
 repeat' first|(exfalso;omega)|(refine ⟨λ_=>?_,λ_=>?_⟩)|(refine ⟨by omega,?_⟩)|(intro _)
 all_goals (refine hK _ ?_;clear hK K)
 all_goals
  refine zbi ?_
  refine zbr (λmM sS=>∃(i:Nat),mM=xs.length-i∧(i≤xs.length∧0≤n-xs.length-sumZ DtCSet.sz (xs.take i))∧sS = { env:=lkE [(0,.sl 2 (xs.map DtCSet.cells)),(1,(.g (.int .i64 (n-xs.length-sumZ DtCSet.sz (xs.take i))))),(5,(.g (.int .i64 ((i:Nat)))))],ob:=formOb [] [] }) ?_ ?_
  ·refine ⟨_,LeS.kp [(0,.sl 2 (xs.map DtCSet.cells)),(1,(.g (.int .i64 (n-xs.length-sumZ DtCSet.sz (xs.take (0)))))),(5,(.g (.int .i64 (((0):Nat)))))] (by simp [zG0,KpE,zcl];try first | rfl | omega),_,0,rfl,?_,rfl⟩
   ·simp [zcl];omega
  ·rintro mM sS ⟨i,rfl,⟨hi,hn⟩,rfl⟩
   have hz:=zbs DtCSet.sz_nonneg (xs.take i)
   have hz2:=zcp DtCSet.sz_nonneg xs i
   refine zbh ?_
   refine AW_r rfl rfl λK hK=>?_
   simp (disch:=omega) [DtCSet.cells]
   repeat' first|(refine ⟨by omega,?_⟩)|(intro _)
   refine hK _ ?_;clear hK K
   refine zbj rfl (λhc26=>?_) (λhc26=>?_)
   ·try simp at hc26
    all_goals
     have hl:=zgw (f:=DtCSet.sz) xs i (by omega)
     have hwE:DtCSet.wf xs[i]:=hw.2 _ (List.getElem_mem _)
     have hz3:=zcp DtCSet.sz_nonneg xs (i+1)
     have hzE:=DtCSet.sz_nonneg xs[i]
     have hszR:szR (n-xs.length-sumZ DtCSet.sz (xs.take i)) (DtCSet.sz xs[i])=n-xs.length-sumZ DtCSet.sz (xs.take (i+1))∨(szR (n-xs.length-sumZ DtCSet.sz (xs.take i)) (DtCSet.sz xs[i]) = -1∧n-xs.length-sumZ DtCSet.sz (xs.take (i+1))<0):=by unfold szR;split<;>omega
     refine zbk ?_
     refine zbn ?_
     refine zbh ?_
     refine zbi ?_
     refine AW_r rfl rfl λK hK=>?_
     simp (disch:=omega) [DtCSet.cells]
     repeat' first|(exfalso;omega)|(refine zby (zba (zbv rfl) (zba zbz zbg)) (szCSet _ _ (by omega) (by first | exact hwE | exact hw)) rfl ?_;simp (disch:=omega) [DtCSet.cells])|(refine ⟨λ_=>?_,λ_=>?_⟩)|(refine ⟨by omega,?_⟩)|(intro _)
     all_goals (refine hK _ ?_;clear hK K)
     all_goals
      refine AW_r rfl rfl λK hK=>?_
      simp (disch:=omega) [DtCSet.cells]
      repeat' first|(refine ⟨by omega,?_⟩)|(intro _)
      refine hK _ ?_;clear hK K
      refine zbj rfl (λhc27=>?_) (λhc27=>?_)
      ·try simp at hc27
       all_goals
        refine AW_r rfl rfl λK hK=>?_
        simp (disch:=omega) [DtCSet.cells]
        repeat' first|(exfalso;omega)|(refine ⟨λ_=>?_,λ_=>?_⟩)|(refine ⟨by omega,?_⟩)|(intro _)
        all_goals (refine hK _ ?_;clear hK K)
        all_goals
         refine zbm (zbq ?_)
         simp (disch:=omega) [DtCSet.cells,szS]
         all_goals first | omega|(split<;>omega)
      try simp at hc27
      refine zbk ?_
      refine zbn ?_
      refine zco rfl rfl λK hK=>?_
      simp (disch:=omega) [DtCSet.cells]
      repeat' first|(exfalso;omega)|(refine ⟨λ_=>?_,λ_=>?_⟩)|(refine ⟨by omega,?_⟩)|(intro _)
      all_goals (refine hK _ ?_;clear hK K)
      all_goals
       refine ⟨_,LeS.kp [(0,.sl 2 (xs.map DtCSet.cells)),(1,(.g (.int .i64 (n-xs.length-sumZ DtCSet.sz (xs.take (i+1)))))),(5,(.g (.int .i64 (((i+1):Nat)))))] (by simp [zG0,KpE,zcl];try first | rfl | omega),_,?_,i+1,rfl,?_,rfl⟩
       ·omega
       ·omega
   try simp at hc26
   have hi2:i=xs.length:=by omega
   subst hi2
   simp only [List.take_length] at *
   refine zbx ?_
   refine zbn ?_
   refine AW_r rfl rfl λK hK=>?_
   simp (disch:=omega) [DtCSet.cells]
   repeat' first|(exfalso;omega)|(refine ⟨λ_=>?_,λ_=>?_⟩)|(refine ⟨by omega,?_⟩)|(intro _)
   all_goals (refine hK _ ?_;clear hK K)
   all_goals
    refine zbm (zbq ?_)
    simp (disch:=omega) [DtCSet.cells,szS]
    all_goals first | omega|(split<;>omega)
attribute [-simp] szR
theorem toCSetS(xs:List DtCSet)(hs:szS DtCSet.sz xs≤1048576):PCall Tryd.prog 45 [.sl 2 (xs.map DtCSet.cells)] (.sl 2 (xs.map DtCSet.cells)):=by
 have hn:xs.length≤1048576:=by have:=zbs DtCSet.sz_nonneg xs;simp only [szS] at hs;omega
 refine zbe Tryd.func45 (by rfl) (by rfl) (by rw [Tryd.ntmps45];exact Nat.le_of_ble_eq_true rfl) rfl (by decide) ?_
 rw [Tryd.ntmps45]
 refine AW_k [(0,_)] ⟨rfl,trivial⟩ ?_
 refine AW_r rfl rfl λK hK=>?_
 simp (disch:=omega)
 repeat' first|(refine ⟨by omega,?_⟩)|(intro _)
 refine hK _ ?_;clear hK K
 refine AW_r rfl rfl λK hK=>?_
 simp (disch:=omega)
 repeat' first|(refine ⟨by omega,?_⟩)|(intro _)
 refine hK _ ?_;clear hK K
 refine zbh ?_
 refine AW_r rfl rfl λK hK=>?_
 simp (disch:=omega)
 repeat' first|(refine ⟨by omega,?_⟩)|(intro _)
 refine hK _ ?_;clear hK K
 refine zbi ?_
 refine zbr (λmM sS=>∃(i:Nat) (ys:List (List AV)),mM=xs.length-i∧(i≤xs.length∧ys.length=xs.length∧(∀j,j<i→ys[j]? = (xs.map DtCSet.cells)[j]?)∧(∀y∈ys,y.length=2))∧sS = { env:=lkE [(0,.sl 2 (xs.map DtCSet.cells)),(3,.arr 128 0 xs.length),(4,(.g (.int .i64 ((i:Nat)))))],ob:=upd (formOb [] []) 128 (some (.flat 2 ys)) }) ?_ ?_
 ·refine ⟨_,LeS.kp [(0,.sl 2 (xs.map DtCSet.cells)),(3,.arr 128 0 xs.length),(4,(.g (.int .i64 (((0):Nat)))))] (by simp [zG0,KpE];try rfl),_,0,List.replicate xs.length [.s [],.g (.slice none 0 0)],rfl,?_,rfl⟩
  ·simp
 ·rintro mM sS ⟨i,ys,rfl,⟨hi,hl,hpre,hone⟩,rfl⟩
  refine zbh ?_
  refine AW_r rfl rfl λK hK=>?_
  simp (disch:=omega) [DtCSet.cells]
  repeat' first|(refine ⟨by omega,?_⟩)|(intro _)
  refine hK _ ?_;clear hK K
  refine zbj rfl (λhc28=>?_) (λhc28=>?_)
  ·try simp at hc28
   all_goals
    obtain ⟨c1,c2,h6⟩:∃c1 c2,ys[i]'(by omega)=[c1,c2]:=len2 (hone _ (List.getElem_mem _))
    have hsE:DtCSet.sz xs[i]≤1048576:=by have:=zci DtCSet.sz_nonneg xs xs[i] (List.getElem_mem _);simp only [szS] at hs;omega
    refine zbk ?_
    refine zbn ?_
    refine zbh ?_
    refine zbi ?_
    refine zco rfl rfl λK hK=>?_
    simp (disch:=omega) [DtCSet.cells,h6]
    repeat' first|(exfalso;omega)|(refine zby (zba (zbv rfl) zbg) (toCSet _ (by first | assumption | omega)) rfl ?_;simp (disch:=omega) [DtCSet.cells,h6])|(refine ⟨λ_=>?_,λ_=>?_⟩)|(refine ⟨by omega,?_⟩)|(intro _)
    all_goals (refine hK _ ?_;clear hK K)
    all_goals
     refine zbn ?_
     refine zco rfl rfl λK hK=>?_
     simp (disch:=omega) [DtCSet.cells,h6]
     repeat' first|(refine ⟨by omega,?_⟩)|(intro _)
     refine hK _ ?_;clear hK K
     refine ⟨_,LeS.kp [(0,.sl 2 (xs.map DtCSet.cells)),(3,.arr 128 0 xs.length),(4,(.g (.int .i64 (((i+1):Nat)))))] (by simp [zG0,KpE];try rfl),_,?_,i+1,ys.set i (DtCSet.cells xs[i]),rfl,?_,?_⟩
     ·omega
     ·refine ⟨by omega,by simpa using hl,λj hj=>?_,λy hy=>?_⟩
      ·by_cases hji:j=i
       ·subst hji;rw [List.getElem?_set_self (by omega),List.getElem?_map,List.getElem?_eq_getElem (by omega)];rfl
       ·rw [List.getElem?_set_ne (by omega)];exact hpre j (by omega)
      ·rcases List.mem_or_eq_of_mem_set hy with hy | rfl
       ·exact hone y hy
       ·rfl
     ·rfl
  try simp at hc28
  have hi2:i=xs.length:=by omega
  subst hi2
  have hys:ys=xs.map DtCSet.cells:=List.ext_getElem? λj=>by
   by_cases hj:j<xs.length
   ·exact hpre j hj
   ·rw [List.getElem?_eq_none (by omega),List.getElem?_eq_none (by simp;omega)]
  subst hys
  refine zbx ?_
  refine zbn ?_
  refine AW_r rfl rfl λK hK=>?_
  simp (disch:=omega) [DtCSet.cells]
  repeat' first|(exfalso;omega)|(refine ⟨λ_=>?_,λ_=>?_⟩)|(refine ⟨by omega,?_⟩)|(intro _)
  all_goals (refine hK _ ?_;clear hK K)
  all_goals
   refine zbm (zbq ?_)
   simp (disch:=omega) [DtCSet.cells]
   all_goals first | omega|(simp_all;done)|(simp [List.take_of_length_le];done)|((try simp_all);(try simp (disch:=omega) only [zbu,Int.tdiv_eq_ediv_of_nonneg,Int.tmod_eq_emod_of_nonneg,and_true,true_and]);done)|((try simp_all);(try simp (disch:=omega) only [zbu,Int.tdiv_eq_ediv_of_nonneg,Int.tmod_eq_emod_of_nonneg,and_true,true_and] at *);omega)
theorem eqCSetS(xs ys:List DtCSet)(hs:szS DtCSet.sz xs≤1048576):PCall Tryd.prog 51 [.sl 2 (xs.map DtCSet.cells),.sl 2 (ys.map DtCSet.cells)] (.g (.bool (eqB xs ys))):=by
 have hn:xs.length≤1048576:=by have:=zbs DtCSet.sz_nonneg xs;simp only [szS] at hs;omega
 refine zbe Tryd.func51 (by rfl) (by rfl) (by rw [Tryd.ntmps51];exact Nat.le_of_ble_eq_true rfl) rfl (by decide) ?_
 rw [Tryd.ntmps51]
 refine AW_k [(0,_),(1,_)] ⟨rfl,rfl,trivial⟩ ?_
 refine AW_r rfl rfl λK hK=>?_
 simp (disch:=omega)
 repeat' first|(refine ⟨by omega,?_⟩)|(intro _)
 refine hK _ ?_;clear hK K
 refine zbh ?_
 refine AW_r rfl rfl λK hK=>?_
 simp (disch:=omega)
 repeat' first|(refine ⟨by omega,?_⟩)|(intro _)
 refine hK _ ?_;clear hK K
 refine zbj rfl (λhc29=>?_) (λhc29=>?_)
 ·try simp at hc29
  all_goals
   refine AW_r rfl rfl λK hK=>?_
   simp (disch:=omega)
   repeat' first|(exfalso;omega)|(refine ⟨λ_=>?_,λ_=>?_⟩)|(refine ⟨by omega,?_⟩)|(intro _)
   all_goals (refine hK _ ?_;clear hK K)
   all_goals
    refine zbm (zbq ?_)
    simp (disch:=omega)
    all_goals first|(exact zb7 heq)|(refine zb0 λheq=>?_;subst heq;simp_all [zbd,zbc,zbl];done)|(refine (zb0 λheq=>?_).symm;subst heq;simp_all [zbd,zbc,zbl];done) | simp_all [zbl]
 try simp at hc29
 refine zbk ?_
 refine zbn ?_
 refine zbh ?_
 refine AW_r rfl rfl λK hK=>?_
 simp (disch:=omega)
 repeat' first|(exfalso;omega)|(refine ⟨λ_=>?_,λ_=>?_⟩)|(refine ⟨by omega,?_⟩)|(intro _)
 all_goals (refine hK _ ?_;clear hK K)
 all_goals
  refine zbi ?_
  refine zbr (λmM sS=>∃(i:Nat),mM=xs.length-i∧(i≤xs.length∧∀j,j<i→xs[j]? = ys[j]?)∧sS = { env:=lkE [(0,.sl 2 (xs.map DtCSet.cells)),(1,.sl 2 (ys.map DtCSet.cells)),(5,(.g (.int .i64 ((i:Nat)))))],ob:=formOb [] [] }) ?_ ?_
  ·refine ⟨_,LeS.kp [(0,.sl 2 (xs.map DtCSet.cells)),(1,.sl 2 (ys.map DtCSet.cells)),(5,(.g (.int .i64 (((0):Nat)))))] (by simp [zG0,KpE];try rfl),_,0,rfl,?_,rfl⟩
   ·simp
  ·rintro mM sS ⟨i,rfl,⟨hi,hpre⟩,rfl⟩
   refine zbh ?_
   refine AW_r rfl rfl λK hK=>?_
   simp (disch:=omega) [DtCSet.cells]
   repeat' first|(refine ⟨by omega,?_⟩)|(intro _)
   refine hK _ ?_;clear hK K
   refine zbj rfl (λhc30=>?_) (λhc30=>?_)
   ·try simp at hc30
    all_goals
     have h7:i<ys.length:=by omega
     have hsE:DtCSet.sz xs[i]≤1048576:=by have:=zci DtCSet.sz_nonneg xs xs[i] (List.getElem_mem _);simp only [szS] at hs;omega
     refine zbk ?_
     refine zbn ?_
     refine zbh ?_
     refine zbi ?_
     refine AW_q rfl mix (by kernel_rfl) rfl λK hK=>?_
     simp (disch:=omega) [DtCSet.cells]
     repeat' first|(exfalso;omega)|(refine zby (zba (zbv rfl) (zba (zbv rfl) zbg)) (eqCSet _ _ (by first | assumption | omega)) rfl ?_;simp (disch:=omega) [DtCSet.cells])|(refine ⟨λ_=>?_,λ_=>?_⟩)|(refine ⟨by omega,?_⟩)|(intro _)
     all_goals (refine hK _ ?_;clear hK K)
     all_goals
      refine zbj rfl (λhc31=>?_) (λhc31=>?_)
      ·try simp at hc31
       all_goals
        refine AW_r rfl rfl λK hK=>?_
        simp (disch:=omega) [DtCSet.cells]
        repeat' first|(exfalso;omega)|(refine ⟨λ_=>?_,λ_=>?_⟩)|(refine ⟨by omega,?_⟩)|(intro _)
        all_goals (refine hK _ ?_;clear hK K)
        all_goals
         refine zbm (zbq ?_)
         simp (disch:=omega) [DtCSet.cells]
         all_goals first|(exact zb7 heq)|(refine zb0 λheq=>?_;subst heq;simp_all [zbd,zbc,zbl];done)|(refine (zb0 λheq=>?_).symm;subst heq;simp_all [zbd,zbc,zbl];done) | simp_all [zbl]
      try simp at hc31
      refine zbk ?_
      refine zbn ?_
      refine zco rfl rfl λK hK=>?_
      simp (disch:=omega) [DtCSet.cells]
      repeat' first|(exfalso;omega)|(refine ⟨λ_=>?_,λ_=>?_⟩)|(refine ⟨by omega,?_⟩)|(intro _)
      all_goals (refine hK _ ?_;clear hK K)
      all_goals
       refine ⟨_,LeS.kp [(0,.sl 2 (xs.map DtCSet.cells)),(1,.sl 2 (ys.map DtCSet.cells)),(5,(.g (.int .i64 (((i+1):Nat)))))] (by simp [zG0,KpE];try rfl),_,?_,i+1,rfl,?_,rfl⟩
       ·omega
       ·refine ⟨by omega,λj hj=>?_⟩
        by_cases hji:j=i
        ·subst hji;simp_all [zbd,zbc]
        ·exact hpre j (by omega)
   try simp at hc30
   have hi2:i=xs.length:=by omega
   subst hi2
   have heq:xs=ys:=List.ext_getElem? λj=>by
    by_cases hj:j<xs.length
    ·exact hpre j hj
    ·rw [List.getElem?_eq_none (by omega),List.getElem?_eq_none (by omega)]
   refine zbx ?_
   refine zbn ?_
   refine AW_r rfl rfl λK hK=>?_
   simp (disch:=omega) [DtCSet.cells]
   repeat' first|(exfalso;omega)|(refine ⟨λ_=>?_,λ_=>?_⟩)|(refine ⟨by omega,?_⟩)|(intro _)
   all_goals (refine hK _ ?_;clear hK K)
   all_goals
    refine zbm (zbq ?_)
    simp (disch:=omega) [DtCSet.cells]
    all_goals first|(exact zb7 heq)|(refine zb0 λheq=>?_;subst heq;simp_all [zbd,zbc,zbl];done)|(refine (zb0 λheq=>?_).symm;subst heq;simp_all [zbd,zbc,zbl];done) | simp_all [zbl]
attribute [local simp] szR DtCatalog.cells
theorem zwl(u:DtCatalog)(n:Int)(hn:0≤n∧n≤1048576)(hw:DtCatalog.wf u):PCall Tryd.prog 25 [.agg (DtCatalog.cells u),(.g (.int .i64 (n)))] (.g (.int .i64 (szR n (DtCatalog.sz u)))):=by
 have w0:(wfS DtCSet.wf) u.fSets:=hw
 have w02:=w0.1
 have z0:=(zcb DtCSet.sz_nonneg) u.fSets
 refine zbe Tryd.func25 (by rfl) (by rfl) (by rw [Tryd.ntmps25];exact Nat.le_of_ble_eq_true rfl) rfl (by decide) ?_
 rw [Tryd.ntmps25]
 refine AW_k [(0,_),(1,_)] ⟨rfl,rfl,trivial⟩ ?_
 refine AW_r rfl rfl λK hK=>?_
 simp (disch:=omega)
 repeat' first|(refine ⟨by omega,?_⟩)|(intro _)
 refine hK _ ?_;clear hK K
 refine AW_r rfl rfl λK hK=>?_
 simp (disch:=omega)
 repeat' first|(exfalso;omega)|(refine zby (zba zc6 (zba zbz zbg)) (szCSetS _ _ (by omega) (by assumption)) rfl ?_;simp (disch:=omega))|(refine ⟨by omega,?_⟩)|(intro _)
 refine hK _ ?_;clear hK K
 refine zbh ?_
 refine AW_r rfl rfl λK hK=>?_
 simp (disch:=omega)
 repeat' first|(refine ⟨by omega,?_⟩)|(intro _)
 refine hK _ ?_;clear hK K
 refine zbj rfl (λhc32=>?_) (λhc32=>?_)
 ·try simp at hc32
  all_goals
   refine AW_r rfl rfl λK hK=>?_
   simp (disch:=omega)
   repeat' first|(exfalso;omega)|(refine ⟨λ_=>?_,λ_=>?_⟩)|(refine ⟨by omega,?_⟩)|(intro _)
   all_goals (refine hK _ ?_;clear hK K)
   all_goals
    refine zbm (zbq ?_)
    simp (disch:=omega) [DtCatalog.sz]
    all_goals first | omega|(simp_all;done)|(split<;>omega)|(split<;>simp_all<;>omega)|(simp_all [szR];omega)
 try simp at hc32
 refine zbk ?_
 refine zbn ?_
 refine AW_r rfl rfl λK hK=>?_
 simp (disch:=omega)
 repeat' first|(exfalso;omega)|(refine ⟨λ_=>?_,λ_=>?_⟩)|(refine ⟨by omega,?_⟩)|(intro _)
 all_goals (refine hK _ ?_;clear hK K)
 all_goals
  refine zbm (zbq ?_)
  simp (disch:=omega) [DtCatalog.sz]
  all_goals first | omega|(simp_all;done)|(split<;>omega)|(split<;>simp_all<;>omega)|(simp_all [szR];omega)
attribute [-simp] szR
theorem zwm(u:DtCatalog)(hs:DtCatalog.sz u≤1048576):PCall Tryd.prog 29 [.agg (DtCatalog.cells u)] (.agg (DtCatalog.cells u)):=by
 simp only [DtCatalog.sz] at hs
 have z0:=(zcb DtCSet.sz_nonneg) u.fSets
 have s0:szS DtCSet.sz u.fSets≤1048576:=by omega
 refine zbe Tryd.func29 (by rfl) (by rfl) (by rw [Tryd.ntmps29];exact Nat.le_of_ble_eq_true rfl) rfl (by decide) ?_
 rw [Tryd.ntmps29]
 refine AW_k [(0,_)] ⟨rfl,trivial⟩ ?_
 refine AW_r rfl rfl λK hK=>?_
 simp
 repeat' first|(refine ⟨by omega,?_⟩)|(intro _)
 refine hK _ ?_;clear hK K
 refine AW_r rfl rfl λK hK=>?_
 simp
 repeat' first|(refine ⟨by omega,?_⟩)|(intro _)
 refine hK _ ?_;clear hK K
 refine AW_r rfl rfl λK hK=>?_
 simp
 repeat' first|(refine zby (zba zc6 zbg) (toCSetS _ (by first | assumption | omega)) rfl ?_;simp)|(refine ⟨by omega,?_⟩)|(intro _)
 refine hK _ ?_;clear hK K
 refine AW_r rfl rfl λK hK=>?_
 simp
 repeat' first|(refine ⟨by omega,?_⟩)|(intro _)
 refine hK _ ?_;clear hK K
 refine zbm (zbq ?_)
 simp
 all_goals first | omega|(simp_all;done)|(simp [List.take_of_length_le];done)|((try simp_all);(try simp (disch:=omega) only [zbu,Int.tdiv_eq_ediv_of_nonneg,Int.tmod_eq_emod_of_nonneg,and_true,true_and]);done)|((try simp_all);(try simp (disch:=omega) only [zbu,Int.tdiv_eq_ediv_of_nonneg,Int.tmod_eq_emod_of_nonneg,and_true,true_and] at *);omega)
theorem zwn(u v:DtCatalog)(hs:DtCatalog.sz u≤1048576):PCall Tryd.prog 33 [.agg (DtCatalog.cells u),.agg (DtCatalog.cells v)] (.g (.bool (eqB u v))):=by
 simp only [DtCatalog.sz] at hs
 have z0:=(zcb DtCSet.sz_nonneg) u.fSets
 have s0:szS DtCSet.sz u.fSets≤1048576:=by omega
 have he:=DtCatalog.ext_iff u v
 refine zbe Tryd.func33 (by rfl) (by rfl) (by rw [Tryd.ntmps33];exact Nat.le_of_ble_eq_true rfl) rfl (by decide) ?_
 rw [Tryd.ntmps33]
 refine AW_k [(0,_),(1,_)] ⟨rfl,rfl,trivial⟩ ?_
 refine AW_r rfl rfl λK hK=>?_
 simp
 repeat' first|(refine ⟨by omega,?_⟩)|(intro _)
 refine hK _ ?_;clear hK K
 refine zbh ?_
 refine AW_r rfl rfl λK hK=>?_
 simp
 repeat' first|(refine zby (zba zc6 (zba zc6 zbg)) (eqCSetS _ _ (by first | assumption | omega)) rfl ?_;simp)|(refine ⟨by omega,?_⟩)|(intro _)
 refine hK _ ?_;clear hK K
 refine zbj rfl (λhc33=>?_) (λhc33=>?_)
 ·try simp at hc33
  all_goals
   refine AW_r rfl rfl λK hK=>?_
   simp
   repeat' first|(refine ⟨λ_=>?_,λ_=>?_⟩)|(refine ⟨by omega,?_⟩)|(intro _)
   all_goals (refine hK _ ?_;clear hK K)
   all_goals
    refine zbm (zbq ?_)
    simp
    all_goals first|(refine zb7 (he.mpr ?_);simp_all [zbd,zbc];done)|(refine zb0 λh=>?_;rw [he] at h;simp_all [zbd,zbc,zbl];done)|(refine (zb7 (he.mpr ?_)).symm;simp_all [zbd,zbc];done)|(refine (zb0 λh=>?_).symm;rw [he] at h;simp_all [zbd,zbc,zbl];done)
 try simp at hc33
 refine zbk ?_
 refine zbn ?_
 refine AW_r rfl rfl λK hK=>?_
 simp
 repeat' first|(refine ⟨λ_=>?_,λ_=>?_⟩)|(refine ⟨by omega,?_⟩)|(intro _)
 all_goals (refine hK _ ?_;clear hK K)
 all_goals
  refine zbm (zbq ?_)
  simp
  all_goals first|(refine zb7 (he.mpr ?_);simp_all [zbd,zbc];done)|(refine zb0 λh=>?_;rw [he] at h;simp_all [zbd,zbc,zbl];done)|(refine (zb7 (he.mpr ?_)).symm;simp_all [zbd,zbc];done)|(refine (zb0 λh=>?_).symm;rw [he] at h;simp_all [zbd,zbc,zbl];done)
attribute [local simp] szR DtSaid.cells
attribute [-simp] DtCatalog.cells
theorem szSaid(u:DtSaid)(n:Int)(hn:0≤n∧n≤1048576)(hw:DtSaid.wf u):PCall Tryd.prog 39 [.agg (DtSaid.cells u),(.g (.int .i64 (n)))] (.g (.int .i64 (szR n (DtSaid.sz u)))):=by
 have ⟨w0,w1,w2⟩:=hw
 have w22:u.fText.length≤9223372036854775807:=w2
 refine zbe Tryd.func39 (by rfl) (by rfl) (by rw [Tryd.ntmps39];exact Nat.le_of_ble_eq_true rfl) rfl (by decide) ?_
 rw [Tryd.ntmps39]
 refine AW_k [(0,_),(1,_)] ⟨rfl,rfl,trivial⟩ ?_
 refine AW_r rfl rfl λK hK=>?_
 simp (disch:=omega)
 repeat' first|(refine ⟨by omega,?_⟩)|(intro _)
 refine hK _ ?_;clear hK K
 refine AW_r rfl rfl λK hK=>?_
 simp (disch:=omega)
 repeat' first|(refine ⟨by omega,?_⟩)|(intro _)
 refine hK _ ?_;clear hK K
 refine zbh ?_
 refine AW_r rfl rfl λK hK=>?_
 simp (disch:=omega)
 repeat' first|(refine ⟨by omega,?_⟩)|(intro _)
 refine hK _ ?_;clear hK K
 refine zbj rfl (λhc34=>?_) (λhc34=>?_)
 ·try simp at hc34
  all_goals
   refine AW_r rfl rfl λK hK=>?_
   simp (disch:=omega)
   repeat' first|(exfalso;omega)|(refine ⟨λ_=>?_,λ_=>?_⟩)|(refine ⟨by omega,?_⟩)|(intro _)
   all_goals (refine hK _ ?_;clear hK K)
   all_goals
    refine zbm (zbq ?_)
    simp (disch:=omega) [DtSaid.sz]
    all_goals first | omega|(simp_all;done)|(split<;>omega)|(split<;>simp_all<;>omega)|(simp_all [szR];omega)
 try simp at hc34
 refine zbk ?_
 refine zbn ?_
 refine AW_r rfl rfl λK hK=>?_
 simp (disch:=omega)
 repeat' first|(exfalso;omega)|(refine ⟨λ_=>?_,λ_=>?_⟩)|(refine ⟨by omega,?_⟩)|(intro _)
 all_goals (refine hK _ ?_;clear hK K)
 all_goals
  refine zbm (zbq ?_)
  simp (disch:=omega) [DtSaid.sz]
  all_goals first | omega|(simp_all;done)|(split<;>omega)|(split<;>simp_all<;>omega)|(simp_all [szR];omega)
attribute [-simp] szR
theorem toSaid(u:DtSaid)(hs:DtSaid.sz u≤1048576):PCall Tryd.prog 46 [.agg (DtSaid.cells u)] (.agg (DtSaid.cells u)):=by
 simp only [DtSaid.sz] at hs
 have s2:(u.fText.length:Int)≤1048576:=by omega
 refine zbe Tryd.func46 (by rfl) (by rfl) (by rw [Tryd.ntmps46];exact Nat.le_of_ble_eq_true rfl) rfl (by decide) ?_
 rw [Tryd.ntmps46]
 refine AW_k [(0,_)] ⟨rfl,trivial⟩ ?_
 refine AW_r rfl rfl λK hK=>?_
 simp
 repeat' first|(refine ⟨by omega,?_⟩)|(intro _)
 refine hK _ ?_;clear hK K
 refine AW_r rfl rfl λK hK=>?_
 simp
 repeat' first|(refine ⟨by omega,?_⟩)|(intro _)
 refine hK _ ?_;clear hK K
 refine AW_r rfl rfl λK hK=>?_
 simp
 repeat' first|(refine ⟨by omega,?_⟩)|(intro _)
 refine hK _ ?_;clear hK K
 refine AW_r rfl rfl λK hK=>?_
 simp
 repeat' first|(refine ⟨by omega,?_⟩)|(intro _)
 refine hK _ ?_;clear hK K
 refine AW_r rfl rfl λK hK=>?_
 simp
 repeat' first|(refine ⟨by omega,?_⟩)|(intro _)
 refine hK _ ?_;clear hK K
 refine AW_r rfl rfl λK hK=>?_
 simp
 repeat' first|(refine ⟨by omega,?_⟩)|(intro _)
 refine hK _ ?_;clear hK K
 refine zbm (zbq ?_)
 simp
 all_goals first | omega|(simp_all;done)|(simp [List.take_of_length_le];done)|((try simp_all);(try simp (disch:=omega) only [zbu,Int.tdiv_eq_ediv_of_nonneg,Int.tmod_eq_emod_of_nonneg,and_true,true_and]);done)|((try simp_all);(try simp (disch:=omega) only [zbu,Int.tdiv_eq_ediv_of_nonneg,Int.tmod_eq_emod_of_nonneg,and_true,true_and] at *);omega)
theorem eqSaid(u v:DtSaid)(hs:DtSaid.sz u≤1048576):PCall Tryd.prog 52 [.agg (DtSaid.cells u),.agg (DtSaid.cells v)] (.g (.bool (eqB u v))):=by
 simp only [DtSaid.sz] at hs
 have s2:(u.fText.length:Int)≤1048576:=by omega
 have he:=DtSaid.ext_iff u v
 refine zbe Tryd.func52 (by rfl) (by rfl) (by rw [Tryd.ntmps52];exact Nat.le_of_ble_eq_true rfl) rfl (by decide) ?_
 rw [Tryd.ntmps52]
 refine AW_k [(0,_),(1,_)] ⟨rfl,rfl,trivial⟩ ?_
 refine AW_r rfl rfl λK hK=>?_
 simp
 repeat' first|(refine ⟨by omega,?_⟩)|(intro _)
 refine hK _ ?_;clear hK K
 refine zbh ?_
 refine AW_r rfl rfl λK hK=>?_
 simp
 repeat' first|(refine ⟨by omega,?_⟩)|(intro _)
 refine hK _ ?_;clear hK K
 refine zbj rfl (λhc35=>?_) (λhc35=>?_)
 ·try simp at hc35
  all_goals
   refine AW_r rfl rfl λK hK=>?_
   simp
   repeat' first|(refine ⟨λ_=>?_,λ_=>?_⟩)|(refine ⟨by omega,?_⟩)|(intro _)
   all_goals (refine hK _ ?_;clear hK K)
   all_goals
    refine zbm (zbq ?_)
    simp
    all_goals first|(refine zb7 (he.mpr ?_);simp_all [zbd,zbc];done)|(refine zb0 λh=>?_;rw [he] at h;simp_all [zbd,zbc,zbl];done)|(refine (zb7 (he.mpr ?_)).symm;simp_all [zbd,zbc];done)|(refine (zb0 λh=>?_).symm;rw [he] at h;simp_all [zbd,zbc,zbl];done)
 try simp at hc35
 refine zbk ?_
 refine zbn ?_
 refine zbh ?_
 refine AW_r rfl rfl λK hK=>?_
 simp
 repeat' first|(refine ⟨λ_=>?_,λ_=>?_⟩)|(refine ⟨by omega,?_⟩)|(intro _)
 all_goals (refine hK _ ?_;clear hK K)
 all_goals
  refine zbj rfl (λhc36=>?_) (λhc36=>?_)
  ·try simp at hc36
   all_goals
    refine AW_r rfl rfl λK hK=>?_
    simp
    repeat' first|(refine ⟨λ_=>?_,λ_=>?_⟩)|(refine ⟨by omega,?_⟩)|(intro _)
    all_goals (refine hK _ ?_;clear hK K)
    all_goals
     refine zbm (zbq ?_)
     simp
     all_goals first|(refine zb7 (he.mpr ?_);simp_all [zbd,zbc];done)|(refine zb0 λh=>?_;rw [he] at h;simp_all [zbd,zbc,zbl];done)|(refine (zb7 (he.mpr ?_)).symm;simp_all [zbd,zbc];done)|(refine (zb0 λh=>?_).symm;rw [he] at h;simp_all [zbd,zbc,zbl];done)
  try simp at hc36
  refine zbk ?_
  refine zbn ?_
  refine zbh ?_
  refine AW_r rfl rfl λK hK=>?_
  simp
  repeat' first|(refine ⟨λ_=>?_,λ_=>?_⟩)|(refine ⟨by omega,?_⟩)|(intro _)
  all_goals (refine hK _ ?_;clear hK K)
  all_goals
   refine zbj rfl (λhc37=>?_) (λhc37=>?_)
   ·try simp at hc37
    all_goals
     refine AW_r rfl rfl λK hK=>?_
     simp
     repeat' first|(refine ⟨λ_=>?_,λ_=>?_⟩)|(refine ⟨by omega,?_⟩)|(intro _)
     all_goals (refine hK _ ?_;clear hK K)
     all_goals
      refine zbm (zbq ?_)
      simp
      all_goals first|(refine zb7 (he.mpr ?_);simp_all [zbd,zbc];done)|(refine zb0 λh=>?_;rw [he] at h;simp_all [zbd,zbc,zbl];done)|(refine (zb7 (he.mpr ?_)).symm;simp_all [zbd,zbc];done)|(refine (zb0 λh=>?_).symm;rw [he] at h;simp_all [zbd,zbc,zbl];done)
   try simp at hc37
   refine zbk ?_
   refine zbn ?_
   refine AW_r rfl rfl λK hK=>?_
   simp
   repeat' first|(refine ⟨λ_=>?_,λ_=>?_⟩)|(refine ⟨by omega,?_⟩)|(intro _)
   all_goals (refine hK _ ?_;clear hK K)
   all_goals
    refine zbm (zbq ?_)
    simp
    all_goals first|(refine zb7 (he.mpr ?_);simp_all [zbd,zbc];done)|(refine zb0 λh=>?_;rw [he] at h;simp_all [zbd,zbc,zbl];done)|(refine (zb7 (he.mpr ?_)).symm;simp_all [zbd,zbc];done)|(refine (zb0 λh=>?_).symm;rw [he] at h;simp_all [zbd,zbc,zbl];done)
attribute [local simp] szR
attribute [-simp] DtSaid.cells
theorem szSaidS(xs:List DtSaid)(n:Int)(hn:0≤n∧n≤1048576)(hw:(wfS DtSaid.wf) xs):PCall Tryd.prog 26 [.sl 3 (xs.map DtSaid.cells),(.g (.int .i64 (n)))] (.g (.int .i64 (szR n (szS DtSaid.sz xs)))):=by
 have hq:=zbs DtSaid.sz_nonneg xs
 have hw1:=hw.1
 refine zbe Tryd.func26 (by rfl) (by rfl) (by rw [Tryd.ntmps26];exact Nat.le_of_ble_eq_true rfl) rfl (by decide) ?_
 rw [Tryd.ntmps26]
 refine AW_k [(0,_),(1,_)] ⟨rfl,rfl,trivial⟩ ?_
 refine AW_r rfl rfl λK hK=>?_
 simp (disch:=omega)
 repeat' first|(refine ⟨by omega,?_⟩)|(intro _)
 refine hK _ ?_;clear hK K
 refine AW_r rfl rfl λK hK=>?_
 simp (disch:=omega)
 repeat' first|(refine ⟨by omega,?_⟩)|(intro _)
 refine hK _ ?_;clear hK K
 refine zbh ?_
 refine AW_r rfl rfl λK hK=>?_
 simp (disch:=omega)
 repeat' first|(refine ⟨by omega,?_⟩)|(intro _)
 refine hK _ ?_;clear hK K
 refine zbj rfl (λhc38=>?_) (λhc38=>?_)
 ·try simp at hc38
  all_goals
   refine AW_r rfl rfl λK hK=>?_
   simp (disch:=omega)
   repeat' first|(exfalso;omega)|(refine ⟨λ_=>?_,λ_=>?_⟩)|(refine ⟨by omega,?_⟩)|(intro _)
   all_goals (refine hK _ ?_;clear hK K)
   all_goals
    refine zbm (zbq ?_)
    simp (disch:=omega) [szS]
    all_goals first | omega|(split<;>omega)
 try simp at hc38
 refine zbk ?_
 refine zbn ?_
 refine zbh ?_
 refine AW_r rfl rfl λK hK=>?_
 simp (disch:=omega)
 repeat' first|(exfalso;omega)|(refine ⟨λ_=>?_,λ_=>?_⟩)|(refine ⟨by omega,?_⟩)|(intro _)
 all_goals (refine hK _ ?_;clear hK K)
 all_goals
  refine zbi ?_
  refine zbr (λmM sS=>∃(i:Nat),mM=xs.length-i∧(i≤xs.length∧0≤n-xs.length-sumZ DtSaid.sz (xs.take i))∧sS = { env:=lkE [(0,.sl 3 (xs.map DtSaid.cells)),(1,(.g (.int .i64 (n-xs.length-sumZ DtSaid.sz (xs.take i))))),(5,(.g (.int .i64 ((i:Nat)))))],ob:=formOb [] [] }) ?_ ?_
  ·refine ⟨_,LeS.kp [(0,.sl 3 (xs.map DtSaid.cells)),(1,(.g (.int .i64 (n-xs.length-sumZ DtSaid.sz (xs.take (0)))))),(5,(.g (.int .i64 (((0):Nat)))))] (by simp [zG0,KpE,zcl];try first | rfl | omega),_,0,rfl,?_,rfl⟩
   ·simp [zcl];omega
  ·rintro mM sS ⟨i,rfl,⟨hi,hn⟩,rfl⟩
   have hz:=zbs DtSaid.sz_nonneg (xs.take i)
   have hz2:=zcp DtSaid.sz_nonneg xs i
   refine zbh ?_
   refine AW_r rfl rfl λK hK=>?_
   simp (disch:=omega) [DtSaid.cells]
   repeat' first|(refine ⟨by omega,?_⟩)|(intro _)
   refine hK _ ?_;clear hK K
   refine zbj rfl (λhc39=>?_) (λhc39=>?_)
   ·try simp at hc39
    all_goals
     have hl:=zgw (f:=DtSaid.sz) xs i (by omega)
     have hwE:DtSaid.wf xs[i]:=hw.2 _ (List.getElem_mem _)
     have hz3:=zcp DtSaid.sz_nonneg xs (i+1)
     have hzE:=DtSaid.sz_nonneg xs[i]
     have hszR:szR (n-xs.length-sumZ DtSaid.sz (xs.take i)) (DtSaid.sz xs[i])=n-xs.length-sumZ DtSaid.sz (xs.take (i+1))∨(szR (n-xs.length-sumZ DtSaid.sz (xs.take i)) (DtSaid.sz xs[i]) = -1∧n-xs.length-sumZ DtSaid.sz (xs.take (i+1))<0):=by unfold szR;split<;>omega
     refine zbk ?_
     refine zbn ?_
     refine zbh ?_
     refine zbi ?_
     refine AW_r rfl rfl λK hK=>?_
     simp (disch:=omega) [DtSaid.cells]
     repeat' first|(exfalso;omega)|(refine zby (zba (zbv rfl) (zba zbz zbg)) (szSaid _ _ (by omega) (by first | exact hwE | exact hw)) rfl ?_;simp (disch:=omega) [DtSaid.cells])|(refine ⟨λ_=>?_,λ_=>?_⟩)|(refine ⟨by omega,?_⟩)|(intro _)
     all_goals (refine hK _ ?_;clear hK K)
     all_goals
      refine AW_r rfl rfl λK hK=>?_
      simp (disch:=omega) [DtSaid.cells]
      repeat' first|(refine ⟨by omega,?_⟩)|(intro _)
      refine hK _ ?_;clear hK K
      refine zbj rfl (λhc40=>?_) (λhc40=>?_)
      ·try simp at hc40
       all_goals
        refine AW_r rfl rfl λK hK=>?_
        simp (disch:=omega) [DtSaid.cells]
        repeat' first|(exfalso;omega)|(refine ⟨λ_=>?_,λ_=>?_⟩)|(refine ⟨by omega,?_⟩)|(intro _)
        all_goals (refine hK _ ?_;clear hK K)
        all_goals
         refine zbm (zbq ?_)
         simp (disch:=omega) [DtSaid.cells,szS]
         all_goals first | omega|(split<;>omega)
      try simp at hc40
      refine zbk ?_
      refine zbn ?_
      refine zco rfl rfl λK hK=>?_
      simp (disch:=omega) [DtSaid.cells]
      repeat' first|(exfalso;omega)|(refine ⟨λ_=>?_,λ_=>?_⟩)|(refine ⟨by omega,?_⟩)|(intro _)
      all_goals (refine hK _ ?_;clear hK K)
      all_goals
       refine ⟨_,LeS.kp [(0,.sl 3 (xs.map DtSaid.cells)),(1,(.g (.int .i64 (n-xs.length-sumZ DtSaid.sz (xs.take (i+1)))))),(5,(.g (.int .i64 (((i+1):Nat)))))] (by simp [zG0,KpE,zcl];try first | rfl | omega),_,?_,i+1,rfl,?_,rfl⟩
       ·omega
       ·omega
   try simp at hc39
   have hi2:i=xs.length:=by omega
   subst hi2
   simp only [List.take_length] at *
   refine zbx ?_
   refine zbn ?_
   refine AW_r rfl rfl λK hK=>?_
   simp (disch:=omega) [DtSaid.cells]
   repeat' first|(exfalso;omega)|(refine ⟨λ_=>?_,λ_=>?_⟩)|(refine ⟨by omega,?_⟩)|(intro _)
   all_goals (refine hK _ ?_;clear hK K)
   all_goals
    refine zbm (zbq ?_)
    simp (disch:=omega) [DtSaid.cells,szS]
    all_goals first | omega|(split<;>omega)
attribute [-simp] szR
theorem toSaidS(xs:List DtSaid)(hs:szS DtSaid.sz xs≤1048576):PCall Tryd.prog 30 [.sl 3 (xs.map DtSaid.cells)] (.sl 3 (xs.map DtSaid.cells)):=by
 have hn:xs.length≤1048576:=by have:=zbs DtSaid.sz_nonneg xs;simp only [szS] at hs;omega
 refine zbe Tryd.func30 (by rfl) (by rfl) (by rw [Tryd.ntmps30];exact Nat.le_of_ble_eq_true rfl) rfl (by decide) ?_
 rw [Tryd.ntmps30]
 refine AW_k [(0,_)] ⟨rfl,trivial⟩ ?_
 refine AW_r rfl rfl λK hK=>?_
 simp (disch:=omega)
 repeat' first|(refine ⟨by omega,?_⟩)|(intro _)
 refine hK _ ?_;clear hK K
 refine AW_r rfl rfl λK hK=>?_
 simp (disch:=omega)
 repeat' first|(refine ⟨by omega,?_⟩)|(intro _)
 refine hK _ ?_;clear hK K
 refine zbh ?_
 refine AW_r rfl rfl λK hK=>?_
 simp (disch:=omega)
 repeat' first|(refine ⟨by omega,?_⟩)|(intro _)
 refine hK _ ?_;clear hK K
 refine zbi ?_
 refine zbr (λmM sS=>∃(i:Nat) (ys:List (List AV)),mM=xs.length-i∧(i≤xs.length∧ys.length=xs.length∧(∀j,j<i→ys[j]? = (xs.map DtSaid.cells)[j]?)∧(∀y∈ys,y.length=3))∧sS = { env:=lkE [(0,.sl 3 (xs.map DtSaid.cells)),(3,.arr 128 0 xs.length),(4,(.g (.int .i64 ((i:Nat)))))],ob:=upd (formOb [] []) 128 (some (.flat 3 ys)) }) ?_ ?_
 ·refine ⟨_,LeS.kp [(0,.sl 3 (xs.map DtSaid.cells)),(3,.arr 128 0 xs.length),(4,(.g (.int .i64 (((0):Nat)))))] (by simp [zG0,KpE];try rfl),_,0,List.replicate xs.length [.g (.int .i64 0),.g (.int .i64 0),.s []],rfl,?_,rfl⟩
  ·simp
 ·rintro mM sS ⟨i,ys,rfl,⟨hi,hl,hpre,hone⟩,rfl⟩
  refine zbh ?_
  refine AW_r rfl rfl λK hK=>?_
  simp (disch:=omega) [DtSaid.cells]
  repeat' first|(refine ⟨by omega,?_⟩)|(intro _)
  refine hK _ ?_;clear hK K
  refine zbj rfl (λhc41=>?_) (λhc41=>?_)
  ·try simp at hc41
   all_goals
    obtain ⟨c1,c2,c3,h6⟩:∃c1 c2 c3,ys[i]'(by omega)=[c1,c2,c3]:=len3 (hone _ (List.getElem_mem _))
    have hsE:DtSaid.sz xs[i]≤1048576:=by have:=zci DtSaid.sz_nonneg xs xs[i] (List.getElem_mem _);simp only [szS] at hs;omega
    refine zbk ?_
    refine zbn ?_
    refine zbh ?_
    refine zbi ?_
    refine zco rfl rfl λK hK=>?_
    simp (disch:=omega) [DtSaid.cells,h6]
    repeat' first|(exfalso;omega)|(refine zby (zba (zbv rfl) zbg) (toSaid _ (by first | assumption | omega)) rfl ?_;simp (disch:=omega) [DtSaid.cells,h6])|(refine ⟨λ_=>?_,λ_=>?_⟩)|(refine ⟨by omega,?_⟩)|(intro _)
    all_goals (refine hK _ ?_;clear hK K)
    all_goals
     refine zbn ?_
     refine zco rfl rfl λK hK=>?_
     simp (disch:=omega) [DtSaid.cells,h6]
     repeat' first|(refine ⟨by omega,?_⟩)|(intro _)
     refine hK _ ?_;clear hK K
     refine ⟨_,LeS.kp [(0,.sl 3 (xs.map DtSaid.cells)),(3,.arr 128 0 xs.length),(4,(.g (.int .i64 (((i+1):Nat)))))] (by simp [zG0,KpE];try rfl),_,?_,i+1,ys.set i (DtSaid.cells xs[i]),rfl,?_,?_⟩
     ·omega
     ·refine ⟨by omega,by simpa using hl,λj hj=>?_,λy hy=>?_⟩
      ·by_cases hji:j=i
       ·subst hji;rw [List.getElem?_set_self (by omega),List.getElem?_map,List.getElem?_eq_getElem (by omega)];rfl
       ·rw [List.getElem?_set_ne (by omega)];exact hpre j (by omega)
      ·rcases List.mem_or_eq_of_mem_set hy with hy | rfl
       ·exact hone y hy
       ·rfl
     ·rfl
  try simp at hc41
  have hi2:i=xs.length:=by omega
  subst hi2
  have hys:ys=xs.map DtSaid.cells:=List.ext_getElem? λj=>by
   by_cases hj:j<xs.length
   ·exact hpre j hj
   ·rw [List.getElem?_eq_none (by omega),List.getElem?_eq_none (by simp;omega)]
  subst hys
  refine zbx ?_
  refine zbn ?_
  refine AW_r rfl rfl λK hK=>?_
  simp (disch:=omega) [DtSaid.cells]
  repeat' first|(exfalso;omega)|(refine ⟨λ_=>?_,λ_=>?_⟩)|(refine ⟨by omega,?_⟩)|(intro _)
  all_goals (refine hK _ ?_;clear hK K)
  all_goals
   refine zbm (zbq ?_)
   simp (disch:=omega) [DtSaid.cells]
   all_goals first | omega|(simp_all;done)|(simp [List.take_of_length_le];done)|((try simp_all);(try simp (disch:=omega) only [zbu,Int.tdiv_eq_ediv_of_nonneg,Int.tmod_eq_emod_of_nonneg,and_true,true_and]);done)|((try simp_all);(try simp (disch:=omega) only [zbu,Int.tdiv_eq_ediv_of_nonneg,Int.tmod_eq_emod_of_nonneg,and_true,true_and] at *);omega)
theorem eqSaidS(xs ys:List DtSaid)(hs:szS DtSaid.sz xs≤1048576):PCall Tryd.prog 34 [.sl 3 (xs.map DtSaid.cells),.sl 3 (ys.map DtSaid.cells)] (.g (.bool (eqB xs ys))):=by
 have hn:xs.length≤1048576:=by have:=zbs DtSaid.sz_nonneg xs;simp only [szS] at hs;omega
 refine zbe Tryd.func34 (by rfl) (by rfl) (by rw [Tryd.ntmps34];exact Nat.le_of_ble_eq_true rfl) rfl (by decide) ?_
 rw [Tryd.ntmps34]
 refine AW_k [(0,_),(1,_)] ⟨rfl,rfl,trivial⟩ ?_
 refine AW_r rfl rfl λK hK=>?_
 simp (disch:=omega)
 repeat' first|(refine ⟨by omega,?_⟩)|(intro _)
 refine hK _ ?_;clear hK K
 refine zbh ?_
 refine AW_r rfl rfl λK hK=>?_
 simp (disch:=omega)
 repeat' first|(refine ⟨by omega,?_⟩)|(intro _)
 refine hK _ ?_;clear hK K
 refine zbj rfl (λhc42=>?_) (λhc42=>?_)
 ·try simp at hc42
  all_goals
   refine AW_r rfl rfl λK hK=>?_
   simp (disch:=omega)
   repeat' first|(exfalso;omega)|(refine ⟨λ_=>?_,λ_=>?_⟩)|(refine ⟨by omega,?_⟩)|(intro _)
   all_goals (refine hK _ ?_;clear hK K)
   all_goals
    refine zbm (zbq ?_)
    simp (disch:=omega)
    all_goals first|(exact zb7 heq)|(refine zb0 λheq=>?_;subst heq;simp_all [zbd,zbc,zbl];done)|(refine (zb0 λheq=>?_).symm;subst heq;simp_all [zbd,zbc,zbl];done) | simp_all [zbl]
 try simp at hc42
 refine zbk ?_
 refine zbn ?_
 refine zbh ?_
 refine AW_r rfl rfl λK hK=>?_
 simp (disch:=omega)
 repeat' first|(exfalso;omega)|(refine ⟨λ_=>?_,λ_=>?_⟩)|(refine ⟨by omega,?_⟩)|(intro _)
 all_goals (refine hK _ ?_;clear hK K)
 all_goals
  refine zbi ?_
  refine zbr (λmM sS=>∃(i:Nat),mM=xs.length-i∧(i≤xs.length∧∀j,j<i→xs[j]? = ys[j]?)∧sS = { env:=lkE [(0,.sl 3 (xs.map DtSaid.cells)),(1,.sl 3 (ys.map DtSaid.cells)),(5,(.g (.int .i64 ((i:Nat)))))],ob:=formOb [] [] }) ?_ ?_
  ·refine ⟨_,LeS.kp [(0,.sl 3 (xs.map DtSaid.cells)),(1,.sl 3 (ys.map DtSaid.cells)),(5,(.g (.int .i64 (((0):Nat)))))] (by simp [zG0,KpE];try rfl),_,0,rfl,?_,rfl⟩
   ·simp
  ·rintro mM sS ⟨i,rfl,⟨hi,hpre⟩,rfl⟩
   refine zbh ?_
   refine AW_r rfl rfl λK hK=>?_
   simp (disch:=omega) [DtSaid.cells]
   repeat' first|(refine ⟨by omega,?_⟩)|(intro _)
   refine hK _ ?_;clear hK K
   refine zbj rfl (λhc43=>?_) (λhc43=>?_)
   ·try simp at hc43
    all_goals
     have h7:i<ys.length:=by omega
     have hsE:DtSaid.sz xs[i]≤1048576:=by have:=zci DtSaid.sz_nonneg xs xs[i] (List.getElem_mem _);simp only [szS] at hs;omega
     refine zbk ?_
     refine zbn ?_
     refine zbh ?_
     refine zbi ?_
     refine AW_q rfl mix (by kernel_rfl) rfl λK hK=>?_
     simp (disch:=omega) [DtSaid.cells]
     repeat' first|(exfalso;omega)|(refine zby (zba (zbv rfl) (zba (zbv rfl) zbg)) (eqSaid _ _ (by first | assumption | omega)) rfl ?_;simp (disch:=omega) [DtSaid.cells])|(refine ⟨λ_=>?_,λ_=>?_⟩)|(refine ⟨by omega,?_⟩)|(intro _)
     all_goals (refine hK _ ?_;clear hK K)
     all_goals
      refine zbj rfl (λhc44=>?_) (λhc44=>?_)
      ·try simp at hc44
       all_goals
        refine AW_r rfl rfl λK hK=>?_
        simp (disch:=omega) [DtSaid.cells]
        repeat' first|(exfalso;omega)|(refine ⟨λ_=>?_,λ_=>?_⟩)|(refine ⟨by omega,?_⟩)|(intro _)
        all_goals (refine hK _ ?_;clear hK K)
        all_goals
         refine zbm (zbq ?_)
         simp (disch:=omega) [DtSaid.cells]
         all_goals first|(exact zb7 heq)|(refine zb0 λheq=>?_;subst heq;simp_all [zbd,zbc,zbl];done)|(refine (zb0 λheq=>?_).symm;subst heq;simp_all [zbd,zbc,zbl];done) | simp_all [zbl]
      try simp at hc44
      refine zbk ?_
      refine zbn ?_
      refine zco rfl rfl λK hK=>?_
      simp (disch:=omega) [DtSaid.cells]
      repeat' first|(exfalso;omega)|(refine ⟨λ_=>?_,λ_=>?_⟩)|(refine ⟨by omega,?_⟩)|(intro _)
      all_goals (refine hK _ ?_;clear hK K)
      all_goals
       refine ⟨_,LeS.kp [(0,.sl 3 (xs.map DtSaid.cells)),(1,.sl 3 (ys.map DtSaid.cells)),(5,(.g (.int .i64 (((i+1):Nat)))))] (by simp [zG0,KpE];try rfl),_,?_,i+1,rfl,?_,rfl⟩
       ·omega
       ·refine ⟨by omega,λj hj=>?_⟩
        by_cases hji:j=i
        ·subst hji;simp_all [zbd,zbc]
        ·exact hpre j (by omega)
   try simp at hc43
   have hi2:i=xs.length:=by omega
   subst hi2
   have heq:xs=ys:=List.ext_getElem? λj=>by
    by_cases hj:j<xs.length
    ·exact hpre j hj
    ·rw [List.getElem?_eq_none (by omega),List.getElem?_eq_none (by omega)]
   refine zbx ?_
   refine zbn ?_
   refine AW_r rfl rfl λK hK=>?_
   simp (disch:=omega) [DtSaid.cells]
   repeat' first|(exfalso;omega)|(refine ⟨λ_=>?_,λ_=>?_⟩)|(refine ⟨by omega,?_⟩)|(intro _)
   all_goals (refine hK _ ?_;clear hK K)
   all_goals
    refine zbm (zbq ?_)
    simp (disch:=omega) [DtSaid.cells]
    all_goals first|(exact zb7 heq)|(refine zb0 λheq=>?_;subst heq;simp_all [zbd,zbc,zbl];done)|(refine (zb0 λheq=>?_).symm;subst heq;simp_all [zbd,zbc,zbl];done) | simp_all [zbl]
attribute [local simp] szR DtState.cells
theorem zwo(u:DtState)(n:Int)(hn:0≤n∧n≤1048576)(hw:DtState.wf u):PCall Tryd.prog 13 [.agg (DtState.cells u),(.g (.int .i64 (n)))] (.g (.int .i64 (szR n (DtState.sz u)))):=by
 have ⟨w0,w1⟩:=hw
 have z0:=DtCatalog.sz_nonneg u.fCat
 have w12:=w1.1
 have z1:=(zcb DtSaid.sz_nonneg) u.fSaid
 refine zbe Tryd.func13 (by rfl) (by rfl) (by rw [Tryd.ntmps13];exact Nat.le_of_ble_eq_true rfl) rfl (by decide) ?_
 rw [Tryd.ntmps13]
 refine AW_k [(0,_),(1,_)] ⟨rfl,rfl,trivial⟩ ?_
 refine AW_r rfl rfl λK hK=>?_
 simp (disch:=omega)
 repeat' first|(refine ⟨by omega,?_⟩)|(intro _)
 refine hK _ ?_;clear hK K
 refine AW_r rfl rfl λK hK=>?_
 simp (disch:=omega)
 repeat' first|(exfalso;omega)|(refine zby (zba (zbv rfl) (zba zbz zbg)) (zwl _ _ (by omega) (by assumption)) rfl ?_;simp (disch:=omega))|(refine ⟨by omega,?_⟩)|(intro _)
 refine hK _ ?_;clear hK K
 refine zbh ?_
 refine AW_r rfl rfl λK hK=>?_
 simp (disch:=omega)
 repeat' first|(refine ⟨by omega,?_⟩)|(intro _)
 refine hK _ ?_;clear hK K
 refine zbj rfl (λhc45=>?_) (λhc45=>?_)
 ·try simp at hc45
  all_goals
   refine AW_r rfl rfl λK hK=>?_
   simp (disch:=omega)
   repeat' first|(exfalso;omega)|(refine ⟨λ_=>?_,λ_=>?_⟩)|(refine ⟨by omega,?_⟩)|(intro _)
   all_goals (refine hK _ ?_;clear hK K)
   all_goals
    refine zbm (zbq ?_)
    simp (disch:=omega) [DtState.sz]
    all_goals first | omega|(simp_all;done)|(split<;>omega)|(split<;>simp_all<;>omega)|(simp_all [szR];omega)
 try simp at hc45
 refine zbk ?_
 refine zbn ?_
 refine AW_r rfl rfl λK hK=>?_
 simp (disch:=omega)
 repeat' first|(exfalso;omega)|(refine zby (zba zc6 (zba zbz zbg)) (szSaidS _ _ (by omega) (by assumption)) rfl ?_;simp (disch:=omega))|(refine ⟨λ_=>?_,λ_=>?_⟩)|(refine ⟨by omega,?_⟩)|(intro _)
 all_goals (refine hK _ ?_;clear hK K)
 all_goals
  refine zbh ?_
  refine AW_r rfl rfl λK hK=>?_
  simp (disch:=omega)
  repeat' first|(refine ⟨by omega,?_⟩)|(intro _)
  refine hK _ ?_;clear hK K
  refine zbj rfl (λhc46=>?_) (λhc46=>?_)
  ·try simp at hc46
   all_goals
    refine AW_r rfl rfl λK hK=>?_
    simp (disch:=omega)
    repeat' first|(exfalso;omega)|(refine ⟨λ_=>?_,λ_=>?_⟩)|(refine ⟨by omega,?_⟩)|(intro _)
    all_goals (refine hK _ ?_;clear hK K)
    all_goals
     refine zbm (zbq ?_)
     simp (disch:=omega) [DtState.sz]
     all_goals first | omega|(simp_all;done)|(split<;>omega)|(split<;>simp_all<;>omega)|(simp_all [szR];omega)
  try simp at hc46
  refine zbk ?_
  refine zbn ?_
  refine AW_r rfl rfl λK hK=>?_
  simp (disch:=omega)
  repeat' first|(exfalso;omega)|(refine ⟨λ_=>?_,λ_=>?_⟩)|(refine ⟨by omega,?_⟩)|(intro _)
  all_goals (refine hK _ ?_;clear hK K)
  all_goals
   refine zbm (zbq ?_)
   simp (disch:=omega) [DtState.sz]
   all_goals first | omega|(simp_all;done)|(split<;>omega)|(split<;>simp_all<;>omega)|(simp_all [szR];omega)
attribute [-simp] szR
attribute [local simp] DtCatalog.cells
theorem zq8(u:DtState)(hs:DtState.sz u≤1048576):PCall Tryd.prog 15 [.agg (DtState.cells u)] (.agg (DtState.cells u)):=by
 simp only [DtState.sz] at hs
 have z0:=DtCatalog.sz_nonneg u.fCat
 have z1:=(zcb DtSaid.sz_nonneg) u.fSaid
 have s0:DtCatalog.sz u.fCat≤1048576:=by omega
 have s1:szS DtSaid.sz u.fSaid≤1048576:=by omega
 refine zbe Tryd.func15 (by rfl) (by rfl) (by rw [Tryd.ntmps15];exact Nat.le_of_ble_eq_true rfl) rfl (by decide) ?_
 rw [Tryd.ntmps15]
 refine AW_k [(0,_)] ⟨rfl,trivial⟩ ?_
 refine AW_r rfl rfl λK hK=>?_
 simp
 repeat' first|(refine ⟨by omega,?_⟩)|(intro _)
 refine hK _ ?_;clear hK K
 refine AW_r rfl rfl λK hK=>?_
 simp
 repeat' first|(refine ⟨by omega,?_⟩)|(intro _)
 refine hK _ ?_;clear hK K
 refine AW_r rfl rfl λK hK=>?_
 simp
 repeat' first|(refine zby (zba (zbv rfl) zbg) (zwm _ (by first | assumption | omega)) rfl ?_;simp)|(refine ⟨by omega,?_⟩)|(intro _)
 refine hK _ ?_;clear hK K
 refine AW_r rfl rfl λK hK=>?_
 simp
 repeat' first|(refine zby (zba zc6 zbg) (toSaidS _ (by first | assumption | omega)) rfl ?_;simp)|(refine ⟨by omega,?_⟩)|(intro _)
 refine hK _ ?_;clear hK K
 refine AW_r rfl rfl λK hK=>?_
 simp
 repeat' first|(refine ⟨by omega,?_⟩)|(intro _)
 refine hK _ ?_;clear hK K
 refine zbm (zbq ?_)
 simp
 all_goals first | omega|(simp_all;done)|(simp [List.take_of_length_le];done)|((try simp_all);(try simp (disch:=omega) only [zbu,Int.tdiv_eq_ediv_of_nonneg,Int.tmod_eq_emod_of_nonneg,and_true,true_and]);done)|((try simp_all);(try simp (disch:=omega) only [zbu,Int.tdiv_eq_ediv_of_nonneg,Int.tmod_eq_emod_of_nonneg,and_true,true_and] at *);omega)
attribute [-simp] DtCatalog.cells
attribute [local simp] DtCatalog.cells
theorem eqState(u v:DtState)(hs:DtState.sz u≤1048576):PCall Tryd.prog 17 [.agg (DtState.cells u),.agg (DtState.cells v)] (.g (.bool (eqB u v))):=by
 simp only [DtState.sz] at hs
 have z0:=DtCatalog.sz_nonneg u.fCat
 have z1:=(zcb DtSaid.sz_nonneg) u.fSaid
 have s0:DtCatalog.sz u.fCat≤1048576:=by omega
 have s1:szS DtSaid.sz u.fSaid≤1048576:=by omega
 have he:=DtState.ext_iff u v
 refine zbe Tryd.func17 (by rfl) (by rfl) (by rw [Tryd.ntmps17];exact Nat.le_of_ble_eq_true rfl) rfl (by decide) ?_
 rw [Tryd.ntmps17]
 refine AW_k [(0,_),(1,_)] ⟨rfl,rfl,trivial⟩ ?_
 refine AW_r rfl rfl λK hK=>?_
 simp
 repeat' first|(refine ⟨by omega,?_⟩)|(intro _)
 refine hK _ ?_;clear hK K
 refine zbh ?_
 refine AW_r rfl rfl λK hK=>?_
 simp
 repeat' first|(refine zby (zba (zbv rfl) (zba (zbv rfl) zbg)) (zwn _ _ (by first | assumption | omega)) rfl ?_;simp)|(refine ⟨by omega,?_⟩)|(intro _)
 refine hK _ ?_;clear hK K
 refine zbj rfl (λhc47=>?_) (λhc47=>?_)
 ·try simp at hc47
  all_goals
   refine AW_r rfl rfl λK hK=>?_
   simp
   repeat' first|(refine ⟨λ_=>?_,λ_=>?_⟩)|(refine ⟨by omega,?_⟩)|(intro _)
   all_goals (refine hK _ ?_;clear hK K)
   all_goals
    refine zbm (zbq ?_)
    simp
    all_goals first|(refine zb7 (he.mpr ?_);simp_all [zbd,zbc];done)|(refine zb0 λh=>?_;rw [he] at h;simp_all [zbd,zbc,zbl];done)|(refine (zb7 (he.mpr ?_)).symm;simp_all [zbd,zbc];done)|(refine (zb0 λh=>?_).symm;rw [he] at h;simp_all [zbd,zbc,zbl];done)
 try simp at hc47
 refine zbk ?_
 refine zbn ?_
 refine zbh ?_
 refine AW_r rfl rfl λK hK=>?_
 simp
 repeat' first|(refine zby (zba zc6 (zba zc6 zbg)) (eqSaidS _ _ (by first | assumption | omega)) rfl ?_;simp)|(refine ⟨λ_=>?_,λ_=>?_⟩)|(refine ⟨by omega,?_⟩)|(intro _)
 all_goals (refine hK _ ?_;clear hK K)
 all_goals
  refine zbj rfl (λhc48=>?_) (λhc48=>?_)
  ·try simp at hc48
   all_goals
    refine AW_r rfl rfl λK hK=>?_
    simp
    repeat' first|(refine ⟨λ_=>?_,λ_=>?_⟩)|(refine ⟨by omega,?_⟩)|(intro _)
    all_goals (refine hK _ ?_;clear hK K)
    all_goals
     refine zbm (zbq ?_)
     simp
     all_goals first|(refine zb7 (he.mpr ?_);simp_all [zbd,zbc];done)|(refine zb0 λh=>?_;rw [he] at h;simp_all [zbd,zbc,zbl];done)|(refine (zb7 (he.mpr ?_)).symm;simp_all [zbd,zbc];done)|(refine (zb0 λh=>?_).symm;rw [he] at h;simp_all [zbd,zbc,zbl];done)
  try simp at hc48
  refine zbk ?_
  refine zbn ?_
  refine AW_r rfl rfl λK hK=>?_
  simp
  repeat' first|(refine ⟨λ_=>?_,λ_=>?_⟩)|(refine ⟨by omega,?_⟩)|(intro _)
  all_goals (refine hK _ ?_;clear hK K)
  all_goals
   refine zbm (zbq ?_)
   simp
   all_goals first|(refine zb7 (he.mpr ?_);simp_all [zbd,zbc];done)|(refine zb0 λh=>?_;rw [he] at h;simp_all [zbd,zbc,zbl];done)|(refine (zb7 (he.mpr ?_)).symm;simp_all [zbd,zbc];done)|(refine (zb0 λh=>?_).symm;rw [he] at h;simp_all [zbd,zbc,zbl];done)
end Go.Proofs.YtchpfloemfoomaaDoor.Vs
end
