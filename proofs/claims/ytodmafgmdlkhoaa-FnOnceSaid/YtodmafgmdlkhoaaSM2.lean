import Derived.Test.YtodmafgmdlkhoaaSM1
section
namespace Go.Proofs.Ytodmafgmdlkhoaa.Vs
set_option linter.all false
set_option maxRecDepth 100000
theorem len0{α:Type}(l:List α):((l.length:Int)=0)=(l=[]):=by rw [eq_iff_iff,←List.length_eq_zero_iff];omega
def MayP(s:List UInt8)(must:Bool):Prop:=if must then Word s else s=[]
def zeroCmd:DtCmd:=⟨0,0,0,[],[],[],0,[]⟩
def CmdP(c:DtCmd):Prop:=(c.fKind=0∧c=zeroCmd)∨(1≤c.fKind∧c.fKind≤7∧1≤c.fClient∧c.fClient≤9∧1≤c.fNo∧c.fNo≤1000∧(c.fKind≠7→Word c.fSet)∧(c.fKind=7→c.fSet=[])∧(c.fKind=3∨c.fKind=4→Word c.fName)∧(¬(c.fKind=3∨c.fKind=4)→c.fName=[])∧(c.fKind=4→Word c.fTag)∧(c.fKind≠4→c.fTag=[])∧(c.fN≠0→c.fKind=5∧0≤c.fN∧c.fN≤9)∧(c.fKind=3→1≤c.fChunks.length∧c.fChunks.length≤4∧Ch8 c.fChunks)∧(c.fKind≠3→c.fChunks=[]))
theorem l4May(s:List UInt8)(b:Bool):PCall Try.prog 40 [.s s,(.g (.bool (b)))] (.g (.bool (decB (MayP s b)))):=by
 refine zbr Try.func40 (by rfl) (by rfl) (by rw [Try.ntmps40];exact Nat.le_of_ble_eq_true rfl) rfl (by decide) ?_
 rw [Try.ntmps40]
 refine AW_k [(0,_),(1,_)] ⟨rfl,rfl,trivial⟩ ?_
 refine AW_r rfl rfl λK hK=>?_
 simp (disch:=omega)
 repeat' first|(refine ⟨by omega,?_⟩)|(intro _)
 refine hK _ ?_;clear hK K
 refine zbj ?_
 refine AW_r rfl rfl λK hK=>?_
 simp (disch:=omega)
 repeat' first|(refine ⟨by omega,?_⟩)|(intro _)
 refine hK _ ?_;clear hK K
 refine zbi rfl (λhc1=>?_) (λhc1=>?_)
 ·try simp at hc1
  all_goals
   refine AW_r rfl rfl λK hK=>?_
   simp (disch:=omega)
   repeat' first|(exfalso;omega)|(refine zc5 (zbg zf1 zbm) (l4Word _) rfl ?_;simp (disch:=omega))|(refine ⟨λ_=>?_,λ_=>?_⟩)|(refine ⟨by omega,?_⟩)|(intro _)
   all_goals (refine hK _ ?_;clear hK K)
   all_goals
    refine zbp (zcc ?_)
    simp (disch:=omega)
    all_goals first|(simp_all [MayP];done)|(rw [Bool.eq_iff_iff];simp_all [MayP,zba])
 ·try simp at hc1
  all_goals
   refine zbk ?_
   refine zbo ?_
   refine AW_r rfl rfl λK hK=>?_
   simp (disch:=omega)
   repeat' first|(exfalso;omega)|(refine ⟨λ_=>?_,λ_=>?_⟩)|(refine ⟨by omega,?_⟩)|(intro _)
   all_goals (refine hK _ ?_;clear hK K)
   all_goals
    refine zbp (zcc ?_)
    simp (disch:=omega)
    all_goals first|(simp_all [MayP];done)|(rw [Bool.eq_iff_iff];simp_all [MayP,zba])
theorem wordIf(s:List UInt8)(b:Bool)(hs:s.length≤1048576):PCall Try.prog 60 [.s s,(.g (.bool (b)))] (.g (.bool (decB (MayP s b)))):=by
 refine zbr Try.func60 (by rfl) (by rfl) (by rw [Try.ntmps60];exact Nat.le_of_ble_eq_true rfl) rfl (by decide) ?_
 rw [Try.ntmps60]
 refine AW_k [(0,_),(1,_)] ⟨rfl,rfl,trivial⟩ ?_
 refine AW_r rfl rfl λK hK=>?_
 simp (disch:=omega)
 repeat' first|(refine ⟨by omega,?_⟩)|(intro _)
 refine hK _ ?_;clear hK K
 refine zbj ?_
 refine AW_r rfl rfl λK hK=>?_
 simp (disch:=omega)
 repeat' first|(refine ⟨by omega,?_⟩)|(intro _)
 refine hK _ ?_;clear hK K
 refine zbi rfl (λhc2=>?_) (λhc2=>?_)
 ·try simp at hc2
  all_goals
   refine AW_r rfl rfl λK hK=>?_
   simp (disch:=omega)
   repeat' first|(exfalso;omega)|(refine zc5 (zbg zf1 zbm) (isWord _ (by omega)) rfl ?_;simp (disch:=omega))|(refine ⟨λ_=>?_,λ_=>?_⟩)|(refine ⟨by omega,?_⟩)|(intro _)
   all_goals (refine hK _ ?_;clear hK K)
   all_goals
    refine zbp (zcc ?_)
    simp (disch:=omega)
    all_goals first|(simp_all [MayP];done)|(rw [Bool.eq_iff_iff];simp_all [MayP,zba])
 ·try simp at hc2
  all_goals
   refine zbk ?_
   refine zbo ?_
   refine AW_r rfl rfl λK hK=>?_
   simp (disch:=omega)
   repeat' first|(exfalso;omega)|(refine ⟨λ_=>?_,λ_=>?_⟩)|(refine ⟨by omega,?_⟩)|(intro _)
   all_goals (refine hK _ ?_;clear hK K)
   all_goals
    refine zbp (zcc ?_)
    simp (disch:=omega)
    all_goals first|(simp_all [MayP];done)|(rw [Bool.eq_iff_iff];simp_all [MayP,zba])
theorem l4Texts(xs ys:List (List UInt8))(hn:xs.length≤1048576):PCall Try.prog 79 [.sl 1 (xs.map cS),.sl 1 (ys.map cS)] (.g (.bool (eqB xs ys))):=by
 refine zbr Try.func79 (by rfl) (by rfl) (by rw [Try.ntmps79];exact Nat.le_of_ble_eq_true rfl) rfl (by decide) ?_
 rw [Try.ntmps79]
 refine AW_k [(0,_),(1,_)] ⟨rfl,rfl,trivial⟩ ?_
 refine AW_r rfl rfl λK hK=>?_
 simp (disch:=omega)
 repeat' first|(refine ⟨by omega,?_⟩)|(intro _)
 refine hK _ ?_;clear hK K
 refine zbj ?_
 refine AW_r rfl rfl λK hK=>?_
 simp (disch:=omega)
 repeat' first|(refine ⟨by omega,?_⟩)|(intro _)
 refine hK _ ?_;clear hK K
 refine zbi rfl (λhc3=>?_) (λhc3=>?_)
 ·try simp at hc3
  all_goals
   refine AW_r rfl rfl λK hK=>?_
   simp (disch:=omega)
   repeat' first|(exfalso;omega)|(refine ⟨λ_=>?_,λ_=>?_⟩)|(refine ⟨by omega,?_⟩)|(intro _)
   all_goals (refine hK _ ?_;clear hK K)
   all_goals
    refine zbp (zcc ?_)
    simp (disch:=omega)
    all_goals first|(exact zpb heq)|(refine zkn λheq=>?_;subst heq;simp_all;done)
 ·try simp at hc3
  all_goals
   refine zbk ?_
   refine zbo ?_
   refine zbj ?_
   refine AW_r rfl rfl λK hK=>?_
   simp (disch:=omega)
   repeat' first|(exfalso;omega)|(refine ⟨λ_=>?_,λ_=>?_⟩)|(refine ⟨by omega,?_⟩)|(intro _)
   all_goals (refine hK _ ?_;clear hK K)
   all_goals
    refine zbn ?_
    refine zbv (λmM sS=>∃(i:Nat),mM=xs.length-i∧(i≤xs.length∧∀j,j<i→xs[j]? = ys[j]?)∧sS = { env:=lkE [(0,.sl 1 (xs.map cS)),(1,.sl 1 (ys.map cS)),(5,(.g (.int .i64 ((i:Nat)))))],ob:=formOb [] [] }) ?_ ?_
    ·refine ⟨_,LeS.kp [(0,.sl 1 (xs.map cS)),(1,.sl 1 (ys.map cS)),(5,(.g (.int .i64 (((0):Nat)))))] (by simp [KpE,zbx,zbl,zbq];try rfl),_,0,rfl,?_,rfl⟩
     ·simp
    ·rintro mM sS ⟨i,rfl,⟨hi,hpre⟩,rfl⟩
     refine zbj ?_
     refine AW_r rfl rfl λK hK=>?_
     simp (disch:=omega) [cS]
     repeat' first|(refine ⟨by omega,?_⟩)|(intro _)
     refine hK _ ?_;clear hK K
     refine zbi rfl (λhc4=>?_) (λhc4=>?_)
     ·try simp at hc4
      all_goals
       have h7:i<ys.length:=by omega
       refine zbk ?_
       refine zbo ?_
       refine zbj ?_
       refine zbn ?_
       refine AW_q rfl mix (by kernel_rfl) rfl λK hK=>?_
       simp (disch:=omega) [cS]
       repeat' first|(exfalso;omega)|(refine ⟨λ_=>?_,λ_=>?_⟩)|(refine ⟨by omega,?_⟩)|(intro _)
       all_goals (refine hK _ ?_;clear hK K)
       all_goals
        refine zbi rfl (λhc5=>?_) (λhc5=>?_)
        ·try simp at hc5
         all_goals
          refine AW_r rfl rfl λK hK=>?_
          simp (disch:=omega) [cS]
          repeat' first|(exfalso;omega)|(refine ⟨λ_=>?_,λ_=>?_⟩)|(refine ⟨by omega,?_⟩)|(intro _)
          all_goals (refine hK _ ?_;clear hK K)
          all_goals
           refine zbp (zcc ?_)
           simp (disch:=omega) [cS]
           all_goals first|(exact zpb heq)|(refine zkn λheq=>?_;subst heq;simp_all;done)
        ·try simp at hc5
         all_goals
          refine zbk ?_
          refine zbo ?_
          refine zc8 rfl rfl λK hK=>?_
          simp (disch:=omega) [cS]
          repeat' first|(exfalso;omega)|(refine ⟨λ_=>?_,λ_=>?_⟩)|(refine ⟨by omega,?_⟩)|(intro _)
          all_goals (refine hK _ ?_;clear hK K)
          all_goals
           refine ⟨_,LeS.kp [(0,.sl 1 (xs.map cS)),(1,.sl 1 (ys.map cS)),(5,(.g (.int .i64 (((i+1):Nat)))))] (by simp [KpE,zbx,zbl,zbq];try rfl),_,?_,i+1,rfl,?_,rfl⟩
           ·omega
           ·refine ⟨by omega,λj hj=>?_⟩
            by_cases hji:j=i
            ·subst hji;simp_all
            ·exact hpre j (by omega)
     ·try simp at hc4
      all_goals
       have hi2:i=xs.length:=by omega
       subst hi2
       have heq:xs=ys:=List.ext_getElem? λj=>by
        by_cases hj:j<xs.length
        ·exact hpre j hj
        ·rw [List.getElem?_eq_none (by omega),List.getElem?_eq_none (by omega)]
       refine zb0 ?_
       refine zbo ?_
       refine AW_r rfl rfl λK hK=>?_
       simp (disch:=omega) [cS]
       repeat' first|(exfalso;omega)|(refine ⟨λ_=>?_,λ_=>?_⟩)|(refine ⟨by omega,?_⟩)|(intro _)
       all_goals (refine hK _ ?_;clear hK K)
       all_goals
        refine zbp (zcc ?_)
        simp (disch:=omega) [cS]
        all_goals first|(exact zpb heq)|(refine zkn λheq=>?_;subst heq;simp_all;done)
theorem equalS(xs ys:List (List UInt8))(hn:xs.length≤1048576):PCall Try.prog 87 [.sl 1 (xs.map cS),.sl 1 (ys.map cS)] (.g (.bool (eqB xs ys))):=by
 refine zbr Try.func87 (by rfl) (by rfl) (by rw [Try.ntmps87];exact Nat.le_of_ble_eq_true rfl) rfl (by decide) ?_
 rw [Try.ntmps87]
 refine AW_k [(0,_),(1,_)] ⟨rfl,rfl,trivial⟩ ?_
 refine AW_r rfl rfl λK hK=>?_
 simp (disch:=omega)
 repeat' first|(refine ⟨by omega,?_⟩)|(intro _)
 refine hK _ ?_;clear hK K
 refine zbj ?_
 refine AW_r rfl rfl λK hK=>?_
 simp (disch:=omega)
 repeat' first|(refine ⟨by omega,?_⟩)|(intro _)
 refine hK _ ?_;clear hK K
 refine zbi rfl (λhc6=>?_) (λhc6=>?_)
 ·try simp at hc6
  all_goals
   refine AW_r rfl rfl λK hK=>?_
   simp (disch:=omega)
   repeat' first|(exfalso;omega)|(refine ⟨λ_=>?_,λ_=>?_⟩)|(refine ⟨by omega,?_⟩)|(intro _)
   all_goals (refine hK _ ?_;clear hK K)
   all_goals
    refine zbp (zcc ?_)
    simp (disch:=omega)
    all_goals first|(exact zpb heq)|(refine zkn λheq=>?_;subst heq;simp_all;done)
 ·try simp at hc6
  all_goals
   refine zbk ?_
   refine zbo ?_
   refine zbj ?_
   refine AW_r rfl rfl λK hK=>?_
   simp (disch:=omega)
   repeat' first|(exfalso;omega)|(refine ⟨λ_=>?_,λ_=>?_⟩)|(refine ⟨by omega,?_⟩)|(intro _)
   all_goals (refine hK _ ?_;clear hK K)
   all_goals
    refine zbn ?_
    refine zbv (λmM sS=>∃(i:Nat),mM=xs.length-i∧(i≤xs.length∧∀j,j<i→xs[j]? = ys[j]?)∧sS = { env:=lkE [(0,.sl 1 (xs.map cS)),(1,.sl 1 (ys.map cS)),(12,(.g (.int .i64 ((xs.length:Nat))))),(13,(.g (.int .i64 ((i:Nat)))))],ob:=formOb [] [] }) ?_ ?_
    ·refine ⟨_,LeS.kp [(0,.sl 1 (xs.map cS)),(1,.sl 1 (ys.map cS)),(12,(.g (.int .i64 ((xs.length:Nat))))),(13,(.g (.int .i64 (((0):Nat)))))] (by simp [KpE,zbx,zbl,zbq];try rfl),_,0,rfl,?_,rfl⟩
     ·simp
    ·rintro mM sS ⟨i,rfl,⟨hi,hpre⟩,rfl⟩
     refine AW_r rfl rfl λK hK=>?_
     simp (disch:=omega) [cS]
     repeat' first|(refine ⟨by omega,?_⟩)|(intro _)
     refine hK _ ?_;clear hK K
     refine zbj ?_
     refine zbi rfl (λhc7=>?_) (λhc7=>?_)
     ·try simp at hc7
      all_goals
       have h7:i<ys.length:=by omega
       refine zbk ?_
       refine zbo ?_
       refine zbj ?_
       refine zbn ?_
       refine AW_r rfl rfl λK hK=>?_
       simp (disch:=omega) [cS]
       repeat' first|(exfalso;omega)|(refine ⟨λ_=>?_,λ_=>?_⟩)|(refine ⟨by omega,?_⟩)|(intro _)
       all_goals (refine hK _ ?_;clear hK K)
       all_goals
        refine AW_q rfl mix (by kernel_rfl) rfl λK hK=>?_
        simp (disch:=omega) [cS]
        repeat' first|(refine ⟨by omega,?_⟩)|(intro _)
        refine hK _ ?_;clear hK K
        refine zbi rfl (λhc8=>?_) (λhc8=>?_)
        ·try simp at hc8
         all_goals
          refine AW_r rfl rfl λK hK=>?_
          simp (disch:=omega) [cS]
          repeat' first|(exfalso;omega)|(refine ⟨λ_=>?_,λ_=>?_⟩)|(refine ⟨by omega,?_⟩)|(intro _)
          all_goals (refine hK _ ?_;clear hK K)
          all_goals
           refine zbp (zcc ?_)
           simp (disch:=omega) [cS]
           all_goals first|(exact zpb heq)|(refine zkn λheq=>?_;subst heq;simp_all;done)
        ·try simp at hc8
         all_goals
          refine zbk ?_
          refine zbo ?_
          refine zc8 rfl rfl λK hK=>?_
          simp (disch:=omega) [cS]
          repeat' first|(exfalso;omega)|(refine ⟨λ_=>?_,λ_=>?_⟩)|(refine ⟨by omega,?_⟩)|(intro _)
          all_goals (refine hK _ ?_;clear hK K)
          all_goals
           refine ⟨_,LeS.kp [(0,.sl 1 (xs.map cS)),(1,.sl 1 (ys.map cS)),(12,(.g (.int .i64 ((xs.length:Nat))))),(13,(.g (.int .i64 (((i+1):Nat)))))] (by simp [KpE,zbx,zbl,zbq];try rfl),_,?_,i+1,rfl,?_,rfl⟩
           ·omega
           ·refine ⟨by omega,λj hj=>?_⟩
            by_cases hji:j=i
            ·subst hji;simp_all
            ·exact hpre j (by omega)
     ·try simp at hc7
      all_goals
       have hi2:i=xs.length:=by omega
       subst hi2
       have heq:xs=ys:=List.ext_getElem? λj=>by
        by_cases hj:j<xs.length
        ·exact hpre j hj
        ·rw [List.getElem?_eq_none (by omega),List.getElem?_eq_none (by omega)]
       refine zb0 ?_
       refine zbo ?_
       refine AW_r rfl rfl λK hK=>?_
       simp (disch:=omega) [cS]
       repeat' first|(exfalso;omega)|(refine ⟨λ_=>?_,λ_=>?_⟩)|(refine ⟨by omega,?_⟩)|(intro _)
       all_goals (refine hK _ ?_;clear hK K)
       all_goals
        refine zbp (zcc ?_)
        simp (disch:=omega) [cS]
        all_goals first|(exact zpb heq)|(refine zkn λheq=>?_;subst heq;simp_all;done)
attribute [local simp] DtCmd.cells
theorem zvo(a b:DtCmd)(hn:a.fChunks.length≤1048576):PCall Try.prog 39 [.agg (DtCmd.cells a),.agg (DtCmd.cells b)] (.g (.bool (eqB a b))):=by
 have he:=DtCmd.ext_iff a b
 refine zbr Try.func39 (by rfl) (by rfl) (by rw [Try.ntmps39];exact Nat.le_of_ble_eq_true rfl) rfl (by decide) ?_
 rw [Try.ntmps39]
 refine AW_k [(0,_),(1,_)] ⟨rfl,rfl,trivial⟩ ?_
 refine AW_r rfl rfl λK hK=>?_
 simp
 repeat' first|(refine ⟨by omega,?_⟩)|(intro _)
 refine hK _ ?_;clear hK K
 refine AW_r rfl rfl λK hK=>?_
 simp
 repeat' first|(refine zc5 (zbg zf8 (zbg zf8 zbm)) (l4Texts _ _ (by assumption)) rfl ?_;simp)|(refine ⟨λ_=>?_,λ_=>?_⟩)|(refine ⟨by omega,?_⟩)|(intro _)
 all_goals (refine hK _ ?_;clear hK K)
 all_goals
  refine zbp (zcc ?_)
  simp
  all_goals first|(refine zkn λh=>?_;rw [he] at h;simp_all;done)|(rw [Bool.eq_iff_iff,zbd,zbd,he];simp_all;done)|(rw [Bool.eq_iff_iff,zbd,he];simp_all [zbd];done)
theorem zvp(a b:DtCmd)(hn:a.fChunks.length≤1048576):PCall Try.prog 59 [.agg (DtCmd.cells a),.agg (DtCmd.cells b)] (.g (.bool (eqB a b))):=by
 have he:=DtCmd.ext_iff a b
 refine zbr Try.func59 (by rfl) (by rfl) (by rw [Try.ntmps59];exact Nat.le_of_ble_eq_true rfl) rfl (by decide) ?_
 rw [Try.ntmps59]
 refine AW_k [(0,_),(1,_)] ⟨rfl,rfl,trivial⟩ ?_
 refine AW_r rfl rfl λK hK=>?_
 simp
 repeat' first|(refine ⟨by omega,?_⟩)|(intro _)
 refine hK _ ?_;clear hK K
 refine AW_r rfl rfl λK hK=>?_
 simp
 repeat' first|(refine zc5 (zbg zf8 (zbg zf8 zbm)) (equalS _ _ (by assumption)) rfl ?_;simp)|(refine ⟨λ_=>?_,λ_=>?_⟩)|(refine ⟨by omega,?_⟩)|(intro _)
 all_goals (refine hK _ ?_;clear hK K)
 all_goals
  refine zbp (zcc ?_)
  simp
  all_goals first|(refine zkn λh=>?_;rw [he] at h;simp_all;done)|(rw [Bool.eq_iff_iff,zbd,zbd,he];simp_all;done)|(rw [Bool.eq_iff_iff,zbd,he];simp_all [zbd];done)
attribute [local simp] zba zbf
def zG3:=And.intro @zba @zbf
theorem zfg(c:DtCmd)(hs:DtCmd.sz c≤1048576):PCall Try.prog 10 [.agg (DtCmd.cells c)] (.g (.bool (decB (CmdP c)))):=by
 have ⟨hl,hw1,hw2,hw3⟩:c.fChunks.length≤1048576∧c.fSet.length≤1048576∧c.fName.length≤1048576∧c.fTag.length≤1048576:=by have:=zcd zdw c.fChunks;simp only [DtCmd.sz,szS] at hs;omega
 refine zbr Try.func10 (by rfl) (by rfl) (by rw [Try.ntmps10];exact Nat.le_of_ble_eq_true rfl) rfl (by decide) ?_
 rw [Try.ntmps10]
 refine AW_k [(0,_)] ⟨rfl,trivial⟩ ?_
 refine AW_r rfl rfl λK hK=>?_
 simp (disch:=omega)
 repeat' first|(refine ⟨by omega,?_⟩)|(intro _)
 refine hK _ ?_;clear hK K
 refine zbj ?_
 refine AW_r rfl rfl λK hK=>?_
 simp (disch:=omega)
 repeat' first|(exfalso;omega)|(refine zc5 (zbg zco (zbg zco (zbg zco zbm))) (l1In _ _ _) rfl ?_;simp (disch:=omega))|(refine ⟨by omega,?_⟩)|(intro _)
 refine hK _ ?_;clear hK K
 refine zbi rfl (λhc9=>?_) (λhc9=>?_)
 ·try simp [zG3,zbd,zbc] at hc9
  all_goals
   refine AW_r rfl rfl λK hK=>?_
   simp (disch:=omega)
   repeat' first|(exfalso;omega)|(refine ⟨λ_=>?_,λ_=>?_⟩)|(refine ⟨by omega,?_⟩)|(intro _)
   all_goals (refine hK _ ?_;clear hK K)
   all_goals
    refine zbp (zcc ?_)
    simp (disch:=omega)
    all_goals first | grind [CmdP,MayP,Ch8]|(rw [Bool.eq_iff_iff,zba,zbd];grind [CmdP,zeroCmd])|(simp only [CmdP,MayP,Ch8] at *;grind)|(rw [Bool.eq_iff_iff,zba];simp [zba];grind [CmdP,MayP,Ch8])|(rw [Bool.eq_iff_iff,zba,zba];grind [CmdP,MayP,Ch8])|(rw [Bool.eq_iff_iff,zba,beq_iff_eq,len0];grind [CmdP,MayP,Ch8])
 ·try simp [zG3,zbd,zbc] at hc9
  all_goals
   refine zbk ?_
   refine zbo ?_
   refine zbj ?_
   refine AW_r rfl rfl λK hK=>?_
   simp (disch:=omega)
   repeat' first|(exfalso;omega)|(refine ⟨λ_=>?_,λ_=>?_⟩)|(refine ⟨by omega,?_⟩)|(intro _)
   all_goals (refine hK _ ?_;clear hK K)
   all_goals
    refine zbi rfl (λhc10=>?_) (λhc10=>?_)
    ·try simp [zG3,zbd,zbc] at hc10
     all_goals
      refine AW_r rfl rfl λK hK=>?_
      simp (disch:=omega)
      repeat' first|(exfalso;omega)|(refine zc5 (zbg (zbw rfl) (zbg (a:=.agg _) (b:=.agg (DtCmd.cells zeroCmd)) (by simp [DtCmd.cells,zeroCmd,am2_ff,zty,ztx,am1_gg,am1_ss,am1_nl]) zbm)) (zvo c zeroCmd hl) rfl ?_;simp (disch:=omega))|(refine ⟨λ_=>?_,λ_=>?_⟩)|(refine ⟨by omega,?_⟩)|(intro _)
      all_goals (refine hK _ ?_;clear hK K)
      all_goals
       refine zbp (zcc ?_)
       simp (disch:=omega)
       all_goals first | grind [CmdP,MayP,Ch8]|(rw [Bool.eq_iff_iff,zba,zbd];grind [CmdP,zeroCmd])|(simp only [CmdP,MayP,Ch8] at *;grind)|(rw [Bool.eq_iff_iff,zba];simp [zba];grind [CmdP,MayP,Ch8])|(rw [Bool.eq_iff_iff,zba,zba];grind [CmdP,MayP,Ch8])|(rw [Bool.eq_iff_iff,zba,beq_iff_eq,len0];grind [CmdP,MayP,Ch8])
    ·try simp [zG3,zbd,zbc] at hc10
     all_goals
      refine zbk ?_
      refine zbo ?_
      refine AW_r rfl rfl λK hK=>?_
      simp (disch:=omega)
      repeat' first|(exfalso;omega)|(refine ⟨λ_=>?_,λ_=>?_⟩)|(refine ⟨by omega,?_⟩)|(intro _)
      all_goals (refine hK _ ?_;clear hK K)
      all_goals
       refine zbj ?_
       refine AW_r rfl rfl λK hK=>?_
       simp (disch:=omega)
       repeat' first|(exfalso;omega)|(refine zc5 (zbg zco (zbg zco (zbg zco zbm))) (l1In _ _ _) rfl ?_;simp (disch:=omega))|(refine zc5 (zbg zf1 (zbg zco zbm)) (l4May _ _) rfl ?_;simp (disch:=omega))|(refine ⟨λ_=>?_,λ_=>?_⟩)|(refine ⟨by omega,?_⟩)|(intro _)
       all_goals (refine hK _ ?_;clear hK K)
       all_goals
        refine zbi rfl (λhc11=>?_) (λhc11=>?_)
        ·try simp [zG3,zbd,zbc] at hc11
         all_goals
          refine AW_r rfl rfl λK hK=>?_
          simp (disch:=omega)
          repeat' first|(exfalso;omega)|(refine ⟨λ_=>?_,λ_=>?_⟩)|(refine ⟨by omega,?_⟩)|(intro _)
          all_goals (refine hK _ ?_;clear hK K)
          all_goals
           refine zbp (zcc ?_)
           simp (disch:=omega)
           all_goals first | grind [CmdP,MayP,Ch8]|(rw [Bool.eq_iff_iff,zba,zbd];grind [CmdP,zeroCmd])|(simp only [CmdP,MayP,Ch8] at *;grind)|(rw [Bool.eq_iff_iff,zba];simp [zba];grind [CmdP,MayP,Ch8])|(rw [Bool.eq_iff_iff,zba,zba];grind [CmdP,MayP,Ch8])|(rw [Bool.eq_iff_iff,zba,beq_iff_eq,len0];grind [CmdP,MayP,Ch8])
        ·try simp [zG3,zbd,zbc] at hc11
         all_goals
          refine zbk ?_
          refine zbo ?_
          refine zbj ?_
          refine AW_r rfl rfl λK hK=>?_
          simp (disch:=omega)
          repeat' first|(exfalso;omega)|(refine ⟨λ_=>?_,λ_=>?_⟩)|(refine ⟨by omega,?_⟩)|(intro _)
          all_goals (refine hK _ ?_;clear hK K)
          all_goals
           refine zbi rfl (λhc12=>?_) (λhc12=>?_)
           ·try simp [zG3,zbd,zbc] at hc12
            all_goals
             refine AW_r rfl rfl λK hK=>?_
             simp (disch:=omega)
             repeat' first|(exfalso;omega)|(refine ⟨λ_=>?_,λ_=>?_⟩)|(refine ⟨by omega,?_⟩)|(intro _)
             all_goals (refine hK _ ?_;clear hK K)
             all_goals
              refine zbp (zcc ?_)
              simp (disch:=omega)
              all_goals first | grind [CmdP,MayP,Ch8]|(rw [Bool.eq_iff_iff,zba,zbd];grind [CmdP,zeroCmd])|(simp only [CmdP,MayP,Ch8] at *;grind)|(rw [Bool.eq_iff_iff,zba];simp [zba];grind [CmdP,MayP,Ch8])|(rw [Bool.eq_iff_iff,zba,zba];grind [CmdP,MayP,Ch8])|(rw [Bool.eq_iff_iff,zba,beq_iff_eq,len0];grind [CmdP,MayP,Ch8])
           ·try simp [zG3,zbd,zbc] at hc12
            all_goals
             refine zbk ?_
             refine zbo ?_
             refine zbj ?_
             refine AW_r rfl rfl λK hK=>?_
             simp (disch:=omega)
             repeat' first|(exfalso;omega)|(refine zc5 (zbg zco (zbg zco (zbg zco zbm))) (l1In _ _ _) rfl ?_;simp (disch:=omega))|(refine ⟨λ_=>?_,λ_=>?_⟩)|(refine ⟨by omega,?_⟩)|(intro _)
             all_goals (refine hK _ ?_;clear hK K)
             all_goals
              refine zbi rfl (λhc13=>?_) (λhc13=>?_)
              ·try simp [zG3,zbd,zbc] at hc13
               all_goals
                refine AW_r rfl rfl λK hK=>?_
                simp (disch:=omega)
                repeat' first|(exfalso;omega)|(refine ⟨λ_=>?_,λ_=>?_⟩)|(refine ⟨by omega,?_⟩)|(intro _)
                all_goals (refine hK _ ?_;clear hK K)
                all_goals
                 refine zbp (zcc ?_)
                 simp (disch:=omega)
                 all_goals first | grind [CmdP,MayP,Ch8]|(rw [Bool.eq_iff_iff,zba,zbd];grind [CmdP,zeroCmd])|(simp only [CmdP,MayP,Ch8] at *;grind)|(rw [Bool.eq_iff_iff,zba];simp [zba];grind [CmdP,MayP,Ch8])|(rw [Bool.eq_iff_iff,zba,zba];grind [CmdP,MayP,Ch8])|(rw [Bool.eq_iff_iff,zba,beq_iff_eq,len0];grind [CmdP,MayP,Ch8])
              ·try simp [zG3,zbd,zbc] at hc13
               all_goals
                refine zbk ?_
                refine zbo ?_
                refine zbj ?_
                refine AW_r rfl rfl λK hK=>?_
                simp (disch:=omega)
                repeat' first|(exfalso;omega)|(refine ⟨λ_=>?_,λ_=>?_⟩)|(refine ⟨by omega,?_⟩)|(intro _)
                all_goals (refine hK _ ?_;clear hK K)
                all_goals
                 refine zbn ?_
                 refine zbv (λmM sS=>∃(i:Nat),mM=c.fChunks.length-i∧(i≤c.fChunks.length∧∀(j:Nat) x,j<i→c.fChunks[j]? = some x→x.length=8)∧sS = { env:=lkE [(1,.ptr 32 0),(4,(.g (.int .i64 ((i:Nat)))))],ob:=upd (formOb [] []) 32 (some (.cells (DtCmd.cells c))) }) ?_ ?_
                 ·refine ⟨_,LeS.kp [(1,.ptr 32 0),(4,(.g (.int .i64 (((0):Nat)))))] (by simp [KpE,zbx,zbl,zbq];try rfl),_,0,rfl,?_,rfl⟩
                  ·simp
                 ·rintro mM sS ⟨i,rfl,⟨hi,hpre⟩,rfl⟩
                  refine zbj ?_
                  refine AW_r rfl rfl λK hK=>?_
                  simp (disch:=omega) [cS]
                  repeat' first|(refine ⟨by omega,?_⟩)|(intro _)
                  refine hK _ ?_;clear hK K
                  refine zbi rfl (λhc14=>?_) (λhc14=>?_)
                  ·try simp [zG3,zbd,zbc] at hc14
                   all_goals
                    have hg:c.fChunks[i]? = some c.fChunks[i]:=List.getElem?_eq_getElem (by omega)
                    refine zbk ?_
                    refine zbo ?_
                    refine zbj ?_
                    refine zbn ?_
                    refine AW_r rfl rfl λK hK=>?_
                    simp (disch:=omega) [cS]
                    repeat' first|(exfalso;omega)|(refine ⟨λ_=>?_,λ_=>?_⟩)|(refine ⟨by omega,?_⟩)|(intro _)
                    all_goals (refine hK _ ?_;clear hK K)
                    all_goals
                     refine zbi rfl (λhc15=>?_) (λhc15=>?_)
                     ·try simp [zG3,zbd,zbc] at hc15
                      all_goals
                       refine AW_r rfl rfl λK hK=>?_
                       simp (disch:=omega) [cS]
                       repeat' first|(exfalso;omega)|(refine ⟨λ_=>?_,λ_=>?_⟩)|(refine ⟨by omega,?_⟩)|(intro _)
                       all_goals (refine hK _ ?_;clear hK K)
                       all_goals
                        refine zbp (zcc ?_)
                        simp (disch:=omega) [cS]
                        all_goals first | grind [CmdP,MayP,Ch8]|(rw [Bool.eq_iff_iff,zba,zbd];grind [CmdP,zeroCmd])|(simp only [CmdP,MayP,Ch8] at *;grind)|(rw [Bool.eq_iff_iff,zba];simp [zba];grind [CmdP,MayP,Ch8])|(rw [Bool.eq_iff_iff,zba,zba];grind [CmdP,MayP,Ch8])|(rw [Bool.eq_iff_iff,zba,beq_iff_eq,len0];grind [CmdP,MayP,Ch8])
                     ·try simp [zG3,zbd,zbc] at hc15
                      all_goals
                       refine zbk ?_
                       refine zbo ?_
                       refine zc8 rfl rfl λK hK=>?_
                       simp (disch:=omega) [cS]
                       repeat' first|(exfalso;omega)|(refine ⟨λ_=>?_,λ_=>?_⟩)|(refine ⟨by omega,?_⟩)|(intro _)
                       all_goals (refine hK _ ?_;clear hK K)
                       all_goals
                        refine ⟨_,LeS.kp [(1,.ptr 32 0),(4,(.g (.int .i64 (((i+1):Nat)))))] (by simp [KpE,zbx,zbl,zbq];try rfl),_,?_,i+1,rfl,?_,rfl⟩
                        ·omega
                        ·refine ⟨by omega,?_⟩;grind
                  ·try simp [zG3,zbd,zbc] at hc14
                   all_goals
                    refine zb0 ?_
                    refine zbo ?_
                    refine AW_r rfl rfl λK hK=>?_
                    simp (disch:=omega) [cS]
                    repeat' first|(exfalso;omega)|(refine ⟨λ_=>?_,λ_=>?_⟩)|(refine ⟨by omega,?_⟩)|(intro _)
                    all_goals (refine hK _ ?_;clear hK K)
                    all_goals
                     refine zbp (zcc ?_)
                     simp (disch:=omega) [cS]
                     all_goals first | grind [CmdP,MayP,Ch8]|(rw [Bool.eq_iff_iff,zba,zbd];grind [CmdP,zeroCmd])|(simp only [CmdP,MayP,Ch8] at *;grind)|(rw [Bool.eq_iff_iff,zba];simp [zba];grind [CmdP,MayP,Ch8])|(rw [Bool.eq_iff_iff,zba,zba];grind [CmdP,MayP,Ch8])|(rw [Bool.eq_iff_iff,zba,beq_iff_eq,len0];grind [CmdP,MayP,Ch8])
theorem zjo(c:DtCmd)(hs:DtCmd.sz c≤1048576):PCall Try.prog 29 [.agg (DtCmd.cells c)] (.g (.bool (decB (CmdP c)))):=by
 have ⟨hl,hw1,hw2,hw3⟩:c.fChunks.length≤1048576∧c.fSet.length≤1048576∧c.fName.length≤1048576∧c.fTag.length≤1048576:=by have:=zcd zdw c.fChunks;simp only [DtCmd.sz,szS] at hs;omega
 refine zbr Try.func29 (by rfl) (by rfl) (by rw [Try.ntmps29];exact Nat.le_of_ble_eq_true rfl) rfl (by decide) ?_
 rw [Try.ntmps29]
 refine AW_k [(0,_)] ⟨rfl,trivial⟩ ?_
 refine AW_r rfl rfl λK hK=>?_
 simp (disch:=omega)
 repeat' first|(refine ⟨by omega,?_⟩)|(intro _)
 refine hK _ ?_;clear hK K
 refine zbj ?_
 refine AW_r rfl rfl λK hK=>?_
 simp (disch:=omega)
 repeat' first|(refine ⟨by omega,?_⟩)|(intro _)
 refine hK _ ?_;clear hK K
 refine zbi rfl (λhc16=>?_) (λhc16=>?_)
 ·try simp [zG3,zbd,zbc] at hc16
  all_goals
   refine AW_r rfl rfl λK hK=>?_
   simp (disch:=omega)
   repeat' first|(exfalso;omega)|(refine zc5 (zbg (zbw rfl) (zbg (a:=.agg _) (b:=.agg (DtCmd.cells zeroCmd)) (by simp [DtCmd.cells,zeroCmd,am2_ff,zty,ztx,am1_gg,am1_ss,am1_nl]) zbm)) (zvp c zeroCmd hl) rfl ?_;simp (disch:=omega))|(refine ⟨λ_=>?_,λ_=>?_⟩)|(refine ⟨by omega,?_⟩)|(intro _)
   all_goals (refine hK _ ?_;clear hK K)
   all_goals
    refine zbp (zcc ?_)
    simp (disch:=omega)
    all_goals first | grind [CmdP,MayP,Ch8]|(rw [Bool.eq_iff_iff,zba,zbd];grind [CmdP,zeroCmd])|(simp only [CmdP,MayP,Ch8] at *;grind)|(rw [Bool.eq_iff_iff,zba];simp [zba];grind [CmdP,MayP,Ch8])|(rw [Bool.eq_iff_iff,zba,zba];grind [CmdP,MayP,Ch8])|(rw [Bool.eq_iff_iff,zba,beq_iff_eq,len0];grind [CmdP,MayP,Ch8])
 ·try simp [zG3,zbd,zbc] at hc16
  all_goals
   refine zbk ?_
   refine zbo ?_
   refine zbj ?_
   refine AW_r rfl rfl λK hK=>?_
   simp (disch:=omega)
   repeat' first|(exfalso;omega)|(refine zc5 (zbg zco (zbg zco (zbg zco zbm))) (zpe _ _ _) rfl ?_;simp (disch:=omega))|(refine ⟨λ_=>?_,λ_=>?_⟩)|(refine ⟨by omega,?_⟩)|(intro _)
   all_goals (refine hK _ ?_;clear hK K)
   all_goals
    refine zbi rfl (λhc17=>?_) (λhc17=>?_)
    ·try simp [zG3,zbd,zbc] at hc17
     all_goals
      refine AW_r rfl rfl λK hK=>?_
      simp (disch:=omega)
      repeat' first|(exfalso;omega)|(refine ⟨λ_=>?_,λ_=>?_⟩)|(refine ⟨by omega,?_⟩)|(intro _)
      all_goals (refine hK _ ?_;clear hK K)
      all_goals
       refine zbp (zcc ?_)
       simp (disch:=omega)
       all_goals first | grind [CmdP,MayP,Ch8]|(rw [Bool.eq_iff_iff,zba,zbd];grind [CmdP,zeroCmd])|(simp only [CmdP,MayP,Ch8] at *;grind)|(rw [Bool.eq_iff_iff,zba];simp [zba];grind [CmdP,MayP,Ch8])|(rw [Bool.eq_iff_iff,zba,zba];grind [CmdP,MayP,Ch8])|(rw [Bool.eq_iff_iff,zba,beq_iff_eq,len0];grind [CmdP,MayP,Ch8])
    ·try simp [zG3,zbd,zbc] at hc17
     all_goals
      refine zbk ?_
      refine zbo ?_
      refine zbj ?_
      refine AW_r rfl rfl λK hK=>?_
      simp (disch:=omega)
      repeat' first|(exfalso;omega)|(refine zc5 (zbg zf1 (zbg zco zbm)) (wordIf _ _ (by omega)) rfl ?_;simp (disch:=omega))|(refine ⟨λ_=>?_,λ_=>?_⟩)|(refine ⟨by omega,?_⟩)|(intro _)
      all_goals (refine hK _ ?_;clear hK K)
      all_goals
       refine zbi rfl (λhc18=>?_) (λhc18=>?_)
       ·try simp [zG3,zbd,zbc] at hc18
        all_goals
         refine AW_r rfl rfl λK hK=>?_
         simp (disch:=omega)
         repeat' first|(exfalso;omega)|(refine ⟨λ_=>?_,λ_=>?_⟩)|(refine ⟨by omega,?_⟩)|(intro _)
         all_goals (refine hK _ ?_;clear hK K)
         all_goals
          refine zbp (zcc ?_)
          simp (disch:=omega)
          all_goals first | grind [CmdP,MayP,Ch8]|(rw [Bool.eq_iff_iff,zba,zbd];grind [CmdP,zeroCmd])|(simp only [CmdP,MayP,Ch8] at *;grind)|(rw [Bool.eq_iff_iff,zba];simp [zba];grind [CmdP,MayP,Ch8])|(rw [Bool.eq_iff_iff,zba,zba];grind [CmdP,MayP,Ch8])|(rw [Bool.eq_iff_iff,zba,beq_iff_eq,len0];grind [CmdP,MayP,Ch8])
       ·try simp [zG3,zbd,zbc] at hc18
        all_goals
         refine zbk ?_
         refine zbo ?_
         refine zbj ?_
         refine AW_r rfl rfl λK hK=>?_
         simp (disch:=omega)
         repeat' first|(exfalso;omega)|(refine zc5 (zbg zco (zbg zco (zbg zco zbm))) (zpe _ _ _) rfl ?_;simp (disch:=omega))|(refine ⟨λ_=>?_,λ_=>?_⟩)|(refine ⟨by omega,?_⟩)|(intro _)
         all_goals (refine hK _ ?_;clear hK K)
         all_goals
          refine zbi rfl (λhc19=>?_) (λhc19=>?_)
          ·try simp [zG3,zbd,zbc] at hc19
           all_goals
            refine AW_r rfl rfl λK hK=>?_
            simp (disch:=omega)
            repeat' first|(exfalso;omega)|(refine ⟨λ_=>?_,λ_=>?_⟩)|(refine ⟨by omega,?_⟩)|(intro _)
            all_goals (refine hK _ ?_;clear hK K)
            all_goals
             refine zbp (zcc ?_)
             simp (disch:=omega)
             all_goals first | grind [CmdP,MayP,Ch8]|(rw [Bool.eq_iff_iff,zba,zbd];grind [CmdP,zeroCmd])|(simp only [CmdP,MayP,Ch8] at *;grind)|(rw [Bool.eq_iff_iff,zba];simp [zba];grind [CmdP,MayP,Ch8])|(rw [Bool.eq_iff_iff,zba,zba];grind [CmdP,MayP,Ch8])|(rw [Bool.eq_iff_iff,zba,beq_iff_eq,len0];grind [CmdP,MayP,Ch8])
          ·try simp [zG3,zbd,zbc] at hc19
           all_goals
            refine zbk ?_
            refine zbo ?_
            refine zbj ?_
            refine AW_r rfl rfl λK hK=>?_
            simp (disch:=omega)
            repeat' first|(exfalso;omega)|(refine ⟨λ_=>?_,λ_=>?_⟩)|(refine ⟨by omega,?_⟩)|(intro _)
            all_goals (refine hK _ ?_;clear hK K)
            all_goals
             refine zbi rfl (λhc20=>?_) (λhc20=>?_)
             ·try simp [zG3,zbd,zbc] at hc20
              all_goals
               refine AW_r rfl rfl λK hK=>?_
               simp (disch:=omega)
               repeat' first|(exfalso;omega)|(refine zc5 (zbg zco (zbg zco (zbg zco zbm))) (zpe _ _ _) rfl ?_;simp (disch:=omega))|(refine zc5 (zbg zf8 zbm) (zsc _ (by omega)) rfl ?_;simp (disch:=omega))|(refine ⟨λ_=>?_,λ_=>?_⟩)|(refine ⟨by omega,?_⟩)|(intro _)
               all_goals (refine hK _ ?_;clear hK K)
               all_goals
                refine zbp (zcc ?_)
                simp (disch:=omega)
                all_goals first | grind [CmdP,MayP,Ch8]|(rw [Bool.eq_iff_iff,zba,zbd];grind [CmdP,zeroCmd])|(simp only [CmdP,MayP,Ch8] at *;grind)|(rw [Bool.eq_iff_iff,zba];simp [zba];grind [CmdP,MayP,Ch8])|(rw [Bool.eq_iff_iff,zba,zba];grind [CmdP,MayP,Ch8])|(rw [Bool.eq_iff_iff,zba,beq_iff_eq,len0];grind [CmdP,MayP,Ch8])
             ·try simp [zG3,zbd,zbc] at hc20
              all_goals
               refine zbk ?_
               refine zbo ?_
               refine AW_r rfl rfl λK hK=>?_
               simp (disch:=omega)
               repeat' first|(exfalso;omega)|(refine ⟨λ_=>?_,λ_=>?_⟩)|(refine ⟨by omega,?_⟩)|(intro _)
               all_goals (refine hK _ ?_;clear hK K)
               all_goals
                refine zbp (zcc ?_)
                simp (disch:=omega)
                all_goals first | grind [CmdP,MayP,Ch8]|(rw [Bool.eq_iff_iff,zba,zbd];grind [CmdP,zeroCmd])|(simp only [CmdP,MayP,Ch8] at *;grind)|(rw [Bool.eq_iff_iff,zba];simp [zba];grind [CmdP,MayP,Ch8])|(rw [Bool.eq_iff_iff,zba,zba];grind [CmdP,MayP,Ch8])|(rw [Bool.eq_iff_iff,zba,beq_iff_eq,len0];grind [CmdP,MayP,Ch8])
end Go.Proofs.Ytodmafgmdlkhoaa.Vs
end
section
namespace Go.Proofs.Ytodmafgmdlkhoaa.Vs
set_option linter.all false
set_option maxRecDepth 100000
def SaidAt(l:List DtSaid)(i:Nat)(x:DtSaid):Prop:=1≤x.fClient∧x.fClient≤9∧1≤x.fNo∧x.fNo≤1000∧∀y,0<i→l[i-1]? = some y→y.fClient<x.fClient
def StateP(s:DtState):Prop:=CatP s.fCat∧∀(i:Nat) x,s.fSaid[i]? = some x→SaidAt s.fSaid i x
theorem zh3(s:DtState)(hs:DtState.sz s≤1048576):DtCatalog.sz s.fCat≤1048576∧s.fSaid.length≤1048576:=by
 have h0:=zcd DtSaid.sz_nonneg s.fSaid
 have h1:=DtCatalog.sz_nonneg s.fCat
 simp only [DtState.sz,szS] at hs
 omega
def zG4:=And.intro @zcv (And.intro @gE (And.intro @tP (And.intro @zba @zbf)))
def zG5:=And.intro @zbx (And.intro @zbq @zbz)
theorem zcu(s:DtState)(hs:DtState.sz s≤1048576):PCall Try.prog 9 [.agg (DtState.cells s)] (.g (.bool (decB (StateP s)))):=by
 have ⟨hz,hl⟩:=zh3 s hs
 refine zbr Try.func9 (by rfl) (by rfl) (by rw [Try.ntmps9];exact Nat.le_of_ble_eq_true rfl) rfl (by decide) ?_
 rw [Try.ntmps9]
 refine AW_k [(0,_)] ⟨rfl,trivial⟩ ?_
 refine AW_r rfl rfl λK hK=>?_
 simp (disch:=omega) [zG4,DtState.cells,DtCatalog.cells,DtSaid.cells]
 repeat' first|(exfalso;omega)|(refine ⟨λ_=>?_,λ_=>?_⟩)|(refine ⟨by omega,?_⟩)|(intro _)
 all_goals (refine hK _ ?_;clear hK K)
 all_goals
  refine zbj ?_
  refine AW_r rfl rfl λK hK=>?_
  simp (disch:=omega) [zG4,DtState.cells,DtCatalog.cells,DtSaid.cells]
  repeat' first|(exfalso;omega)|(refine zc5 (zbg (zbw rfl) zbm) (zmq _ (by omega)) rfl ?_;simp (disch:=omega) [zG4,DtState.cells,DtCatalog.cells,DtSaid.cells])|(refine ⟨λ_=>?_,λ_=>?_⟩)|(refine ⟨by omega,?_⟩)|(intro _)
  all_goals (refine hK _ ?_;clear hK K)
  all_goals
   refine zbi rfl (λhc1=>?_) (λhc1=>?_)
   ·try simp [zG3,zbd,zbc] at hc1
    all_goals
     refine AW_r rfl rfl λK hK=>?_
     simp (disch:=omega) [zG4,DtState.cells,DtCatalog.cells,DtSaid.cells]
     repeat' first|(exfalso;omega)|(refine ⟨λ_=>?_,λ_=>?_⟩)|(refine ⟨by omega,?_⟩)|(intro _)
     all_goals (refine hK _ ?_;clear hK K)
     all_goals
      refine zbp (zcc ?_)
      simp (disch:=omega) [zG4,DtState.cells,DtCatalog.cells,DtSaid.cells]
      all_goals first | grind [StateP,SaidAt]|(refine zdg λh=>?_;grind [StateP,SaidAt])|(refine zce ?_;grind [StateP,SaidAt])
   ·try simp [zG3,zbd,zbc] at hc1
    all_goals
     refine zbk ?_
     refine zbo ?_
     refine zbj ?_
     refine AW_r rfl rfl λK hK=>?_
     simp (disch:=omega) [zG4,DtState.cells,DtCatalog.cells,DtSaid.cells]
     repeat' first|(exfalso;omega)|(refine ⟨λ_=>?_,λ_=>?_⟩)|(refine ⟨by omega,?_⟩)|(intro _)
     all_goals (refine hK _ ?_;clear hK K)
     all_goals
      refine zbn ?_
      refine zbv (λmM sS=>∃(i:Nat),mM=s.fSaid.length-i∧(i≤s.fSaid.length∧∀(j:Nat) x,j<i→s.fSaid[j]? = some x→SaidAt s.fSaid j x)∧sS = { env:=lkE [(1,.ptr 32 0),(3,(.g (.int .i64 ((i:Nat)))))],ob:=lk [(32,.cells (DtState.cells s))] }) ?_ ?_
      ·refine ⟨_,LeS.ko [(1,.ptr 32 0),(3,(.g (.int .i64 (((0):Nat)))))] [(32,.cells (DtState.cells s))] (by simp [KpE,zbx,zbl,zbq,DtState.cells,DtCatalog.cells];try rfl) (by simp [zG5,KpO,zca,DtState.cells,DtCatalog.cells];try rfl) (by rfl) (by simp) (by rfl),_,0,rfl,?_,rfl⟩
       ·simp
      ·rintro mM sS ⟨i,rfl,⟨hi,hpre⟩,rfl⟩
       refine zbj ?_
       refine AW_r rfl rfl λK hK=>?_
       simp (disch:=omega) [zG4,DtState.cells,DtCatalog.cells,DtSaid.cells]
       repeat' first|(exfalso;omega)|(refine ⟨λ_=>?_,λ_=>?_⟩)|(refine ⟨by omega,?_⟩)|(intro _)
       all_goals (refine hK _ ?_;clear hK K)
       all_goals
        refine zbi rfl (λhc2=>?_) (λhc2=>?_)
        ·try simp [zG3,zbd,zbc] at hc2
         all_goals
          have hg:s.fSaid[i]? = some s.fSaid[i]:=List.getElem?_eq_getElem (by omega)
          have hg':s.fSaid[i-1]? = some s.fSaid[i-1]:=List.getElem?_eq_getElem (by omega)
          rcases Nat.eq_zero_or_pos i with hi0 | hi0
          all_goals
           refine zbk ?_
           refine zbo ?_
           refine zbj ?_
           refine zbn ?_
           refine AW_r rfl rfl λK hK=>?_
           simp (disch:=omega) [zG4,DtState.cells,DtCatalog.cells,DtSaid.cells]
           repeat' first|(exfalso;omega)|(refine ⟨λ_=>?_,λ_=>?_⟩)|(refine ⟨by omega,?_⟩)|(intro _)
           all_goals (refine hK _ ?_;clear hK K)
           all_goals
            refine AW_q rfl mix (by kernel_rfl) rfl λK hK=>?_
            simp (disch:=omega) [zG4,DtState.cells,DtCatalog.cells,DtSaid.cells]
            repeat' first|(exfalso;omega)|(refine zc5 (zbg zco (zbg zco (zbg zco zbm))) (l1In _ _ _) rfl ?_;simp (disch:=omega) [zG4,DtState.cells,DtCatalog.cells,DtSaid.cells])|(refine ⟨λ_=>?_,λ_=>?_⟩)|(refine ⟨by omega,?_⟩)|(intro _)
            all_goals (refine hK _ ?_;clear hK K)
            all_goals
             refine zbi rfl (λhc3=>?_) (λhc3=>?_)
             ·try simp [zG3,zbd,zbc] at hc3
              all_goals
               refine AW_r rfl rfl λK hK=>?_
               simp (disch:=omega) [zG4,DtState.cells,DtCatalog.cells,DtSaid.cells]
               repeat' first|(exfalso;omega)|(refine ⟨λ_=>?_,λ_=>?_⟩)|(refine ⟨by omega,?_⟩)|(intro _)
               all_goals (refine hK _ ?_;clear hK K)
               all_goals
                refine zbp (zcc ?_)
                simp (disch:=omega) [zG4,DtState.cells,DtCatalog.cells,DtSaid.cells]
                all_goals first | grind [StateP,SaidAt]|(refine zdg λh=>?_;grind [StateP,SaidAt])|(refine zce ?_;grind [StateP,SaidAt])
             ·try simp [zG3,zbd,zbc] at hc3
              all_goals
               refine zbk ?_
               refine zbo ?_
               refine zc8 rfl rfl λK hK=>?_
               simp (disch:=omega) [zG4,DtState.cells,DtCatalog.cells,DtSaid.cells]
               repeat' first|(exfalso;omega)|(refine ⟨λ_=>?_,λ_=>?_⟩)|(refine ⟨by omega,?_⟩)|(intro _)
               all_goals (refine hK _ ?_;clear hK K)
               all_goals
                refine ⟨_,LeS.ko [(1,.ptr 32 0),(3,(.g (.int .i64 (((i+1):Nat)))))] [(32,.cells (DtState.cells s))] (by simp [KpE,zbx,zbl,zbq,DtState.cells,DtCatalog.cells];try rfl) (by simp [zG5,KpO,zca,DtState.cells,DtCatalog.cells];try rfl) (by rfl) (by simp) (by rfl),_,?_,i+1,rfl,?_,rfl⟩
                ·omega
                ·refine ⟨by omega,?_⟩;clear hg';grind [SaidAt]
        ·try simp [zG3,zbd,zbc] at hc2
         all_goals
          refine zb0 ?_
          refine zbo ?_
          refine AW_r rfl rfl λK hK=>?_
          simp (disch:=omega) [zG4,DtState.cells,DtCatalog.cells,DtSaid.cells]
          repeat' first|(exfalso;omega)|(refine ⟨λ_=>?_,λ_=>?_⟩)|(refine ⟨by omega,?_⟩)|(intro _)
          all_goals (refine hK _ ?_;clear hK K)
          all_goals
           refine zbp (zcc ?_)
           simp (disch:=omega) [zG4,DtState.cells,DtCatalog.cells,DtSaid.cells]
           all_goals first | grind [StateP,SaidAt]|(refine zdg λh=>?_;grind [StateP,SaidAt])|(refine zce ?_;grind [StateP,SaidAt])
theorem zms(s:DtState)(hs:DtState.sz s≤1048576):PCall Try.prog 28 [.agg (DtState.cells s)] (.g (.bool (decB (StateP s)))):=by
 have ⟨hz,hl⟩:=zh3 s hs
 refine zbr Try.func28 (by rfl) (by rfl) (by rw [Try.ntmps28];exact Nat.le_of_ble_eq_true rfl) rfl (by decide) ?_
 rw [Try.ntmps28]
 refine AW_k [(0,_)] ⟨rfl,trivial⟩ ?_
 refine AW_r rfl rfl λK hK=>?_
 simp (disch:=omega) [zG4,DtState.cells,DtCatalog.cells,DtSaid.cells]
 repeat' first|(exfalso;omega)|(refine ⟨λ_=>?_,λ_=>?_⟩)|(refine ⟨by omega,?_⟩)|(intro _)
 all_goals (refine hK _ ?_;clear hK K)
 all_goals
  refine zbj ?_
  refine AW_r rfl rfl λK hK=>?_
  simp (disch:=omega) [zG4,DtState.cells,DtCatalog.cells,DtSaid.cells]
  repeat' first|(exfalso;omega)|(refine ⟨λ_=>?_,λ_=>?_⟩)|(refine ⟨by omega,?_⟩)|(intro _)
  all_goals (refine hK _ ?_;clear hK K)
  all_goals
   refine zbn ?_
   refine zbv (λmM sS=>∃(i:Nat),mM=s.fSaid.length-i∧(i≤s.fSaid.length∧∀(j:Nat) x,j<i→s.fSaid[j]? = some x→SaidAt s.fSaid j x)∧sS = { env:=lkE [(1,.ptr 32 0),(6,.sl 3 (s.fSaid.map DtSaid.cells)),(7,(.g (.int .i64 ((s.fSaid.length:Nat))))),(8,(.g (.int .i64 ((i:Nat)))))],ob:=lk [(32,.cells (DtState.cells s))] }) ?_ ?_
   ·refine ⟨_,LeS.ko [(1,.ptr 32 0),(6,.sl 3 (s.fSaid.map DtSaid.cells)),(7,(.g (.int .i64 ((s.fSaid.length:Nat))))),(8,(.g (.int .i64 (((0):Nat)))))] [(32,.cells (DtState.cells s))] (by simp [KpE,zbx,zbl,zbq,DtState.cells,DtCatalog.cells];try rfl) (by simp [zG5,KpO,zca,DtState.cells,DtCatalog.cells];try rfl) (by rfl) (by simp) (by rfl),_,0,rfl,?_,rfl⟩
    ·simp
   ·rintro mM sS ⟨i,rfl,⟨hi,hpre⟩,rfl⟩
    refine AW_r rfl rfl λK hK=>?_
    simp (disch:=omega) [zG4,DtState.cells,DtCatalog.cells,DtSaid.cells]
    repeat' first|(exfalso;omega)|(refine ⟨λ_=>?_,λ_=>?_⟩)|(refine ⟨by omega,?_⟩)|(intro _)
    all_goals (refine hK _ ?_;clear hK K)
    all_goals
     refine zbj ?_
     refine zbi rfl (λhc4=>?_) (λhc4=>?_)
     ·try simp [zG3,zbd,zbc] at hc4
      all_goals
       have hg:s.fSaid[i]? = some s.fSaid[i]:=List.getElem?_eq_getElem (by omega)
       have hg':s.fSaid[i-1]? = some s.fSaid[i-1]:=List.getElem?_eq_getElem (by omega)
       rcases Nat.eq_zero_or_pos i with hi0 | hi0
       all_goals
        refine zbk ?_
        refine zbo ?_
        refine zbj ?_
        refine zbn ?_
        refine AW_r rfl rfl λK hK=>?_
        simp (disch:=omega) [zG4,DtState.cells,DtCatalog.cells,DtSaid.cells]
        repeat' first|(exfalso;omega)|(refine ⟨λ_=>?_,λ_=>?_⟩)|(refine ⟨by omega,?_⟩)|(intro _)
        all_goals (refine hK _ ?_;clear hK K)
        all_goals
         refine AW_q rfl mix (by kernel_rfl) rfl λK hK=>?_
         simp (disch:=omega) [zG4,DtState.cells,DtCatalog.cells,DtSaid.cells]
         repeat' first|(exfalso;omega)|(refine zc5 (zbg zco (zbg zco (zbg zco zbm))) (zpe _ _ _) rfl ?_;simp (disch:=omega) [zG4,DtState.cells,DtCatalog.cells,DtSaid.cells])|(refine ⟨λ_=>?_,λ_=>?_⟩)|(refine ⟨by omega,?_⟩)|(intro _)
         all_goals (refine hK _ ?_;clear hK K)
         all_goals
          refine zbi rfl (λhc5=>?_) (λhc5=>?_)
          ·try simp [zG3,zbd,zbc] at hc5
           all_goals
            refine AW_r rfl rfl λK hK=>?_
            simp (disch:=omega) [zG4,DtState.cells,DtCatalog.cells,DtSaid.cells]
            repeat' first|(exfalso;omega)|(refine ⟨λ_=>?_,λ_=>?_⟩)|(refine ⟨by omega,?_⟩)|(intro _)
            all_goals (refine hK _ ?_;clear hK K)
            all_goals
             refine zbp (zcc ?_)
             simp (disch:=omega) [zG4,DtState.cells,DtCatalog.cells,DtSaid.cells]
             all_goals first | grind [StateP,SaidAt]|(refine zdg λh=>?_;grind [StateP,SaidAt])|(refine zce ?_;grind [StateP,SaidAt])|(rw [Bool.eq_iff_iff,zba,zba];grind [StateP,SaidAt])
          ·try simp [zG3,zbd,zbc] at hc5
           all_goals
            refine zbk ?_
            refine zbo ?_
            refine zc8 rfl rfl λK hK=>?_
            simp (disch:=omega) [zG4,DtState.cells,DtCatalog.cells,DtSaid.cells]
            repeat' first|(exfalso;omega)|(refine ⟨λ_=>?_,λ_=>?_⟩)|(refine ⟨by omega,?_⟩)|(intro _)
            all_goals (refine hK _ ?_;clear hK K)
            all_goals
             refine ⟨_,LeS.ko [(1,.ptr 32 0),(6,.sl 3 (s.fSaid.map DtSaid.cells)),(7,(.g (.int .i64 ((s.fSaid.length:Nat))))),(8,(.g (.int .i64 (((i+1):Nat)))))] [(32,.cells (DtState.cells s))] (by simp [KpE,zbx,zbl,zbq,DtState.cells,DtCatalog.cells];try rfl) (by simp [zG5,KpO,zca,DtState.cells,DtCatalog.cells];try rfl) (by rfl) (by simp) (by rfl),_,?_,i+1,rfl,?_,rfl⟩
             ·omega
             ·refine ⟨by omega,?_⟩;clear hg';grind [SaidAt]
     ·try simp [zG3,zbd,zbc] at hc4
      all_goals
       refine zb0 ?_
       refine zbo ?_
       refine AW_r rfl rfl λK hK=>?_
       simp (disch:=omega) [zG4,DtState.cells,DtCatalog.cells,DtSaid.cells]
       repeat' first|(exfalso;omega)|(refine zc5 (zbg (zbw rfl) zbm) (zmr _ (by omega)) rfl ?_;simp (disch:=omega) [zG4,DtState.cells,DtCatalog.cells,DtSaid.cells])|(refine ⟨λ_=>?_,λ_=>?_⟩)|(refine ⟨by omega,?_⟩)|(intro _)
       all_goals (refine hK _ ?_;clear hK K)
       all_goals
        refine zbp (zcc ?_)
        simp (disch:=omega) [zG4,DtState.cells,DtCatalog.cells,DtSaid.cells]
        all_goals first | grind [StateP,SaidAt]|(refine zdg λh=>?_;grind [StateP,SaidAt])|(refine zce ?_;grind [StateP,SaidAt])|(rw [Bool.eq_iff_iff,zba,zba];grind [StateP,SaidAt])
end Go.Proofs.Ytodmafgmdlkhoaa.Vs
end
section
namespace Go.Proofs.Ytodmafgmdlkhoaa.Vs
set_option linter.all false
set_option maxRecDepth 100000
theorem del_eq{α:Type}(l:List α)(k:Nat)(h:k<l.length):List.take ((k:Int)+((l.length-(k+1):Nat):Int)).toNat (l.take k++((l.drop (k+1)).take (l.length-(k+1))++l.drop (k+(l.length-(k+1)))))=l.take k++l.drop (k+1):=by
 have e:((k:Int)+((l.length-(k+1):Nat):Int)).toNat=k+(l.length-(k+1)):=by omega
 rw [e,List.take_of_length_le (l:=l.drop (k+1)) (by simp),←List.append_assoc,List.take_append_of_le_length (by simp;omega),List.take_of_length_le (by simp;omega)]
theorem zck{l:List (List AV)}(h:scR l=true)(k:Nat):scR (l.take k)=true:=List.all_eq_true.2 λx hx=>List.all_eq_true.1 h x (List.mem_of_mem_take hx)
theorem zcs{l:List (List AV)}(h:scR l=true)(k:Nat):scR (l.drop k)=true:=List.all_eq_true.2 λx hx=>List.all_eq_true.1 h x (List.mem_of_mem_drop hx)
theorem zzm(rows:List (List AV))(hs:scR rows=true)(k:Nat)(hk:k<rows.length)(hl:rows.length≤1048576):XCall Try.prog 65 [.arr 8 0 rows.length,(.g (.int .i64 ((k:Nat)))),(.g (.int .i64 ((k:Nat)+1)))] [.own 2 rows] (.arr 16 0 (rows.length-1)) [.dead] [.own 2 (rows.take k++rows.drop (k+1))]:=by
 refine zbt Try.func65 (by rfl) (by rfl) (by rw [Try.ntmps65];exact Nat.le_of_ble_eq_true rfl) rfl (by simp) rfl rfl ?_
 rw [Try.ntmps65]
 refine zh1 (.win 2 rows) (by simp [cvO]<;>assumption) ?_
 refine AW_k [(0,_),(1,_),(2,_)] ⟨rfl,rfl,rfl,trivial⟩ ?_
 refine zmo (sz:=2) (xs:=rows) 8 (by simp [zG5]) (by omega) λc0 hc0=>?_
 refine AW_x rfl rfl λK hK=>?_
 simp (disch:=omega)
 repeat' first|(refine ⟨by omega,?_⟩)|(intro _)
 refine hK _ ?_;clear hK K
 refine AW_x rfl rfl λK hK=>?_
 simp (disch:=omega)
 repeat' first|(refine ⟨by omega,?_⟩)|(intro _)
 refine hK _ ?_;clear hK K
 refine zbj ?_
 refine AW_x rfl rfl λK hK=>?_
 simp (disch:=omega)
 repeat' first|(refine ⟨by omega,?_⟩)|(intro _)
 refine hK _ ?_;clear hK K
 refine zbi rfl (λhc1=>?_) (λhc1=>?_)
 ·try simp at hc1
  all_goals
   refine AW_x rfl rfl λK hK=>?_
   simp (disch:=omega)
   repeat' first|(exfalso;omega)|(refine ⟨λ_=>?_,λ_=>?_⟩)|(refine ⟨by omega,?_⟩)|(intro _)
   all_goals (refine hK _ ?_;clear hK K)
   all_goals
    refine zbp (zb5 [8] [] (by simp [zG5,List.range_succ]) (by simp) ?_)
    simp (disch:=omega)
    all_goals exact ⟨by omega,zck hs _,zcs hs _⟩
 ·try simp at hc1
  all_goals
   refine zbk ?_
   refine zbo ?_
   refine AW_x rfl rfl λK hK=>?_
   simp (disch:=omega)
   repeat' first|(exfalso;omega)|(refine ⟨λ_=>?_,λ_=>?_⟩)|(refine ⟨by omega,?_⟩)|(intro _)
   all_goals (refine hK _ ?_;clear hK K)
   all_goals
    refine AW_d rfl mix (by kernel_rfl) (by kernel_rfl) λK hK=>?_
    simp (disch:=omega)
    repeat' first|(refine ⟨by omega,?_⟩)|(intro _)
    refine hK _ _ (by kernel_rfl) ?_;clear hK K
    refine AW_x rfl rfl λK hK=>?_
    simp (disch:=omega)
    repeat' first|(refine ⟨by omega,?_⟩)|(intro _)
    refine hK _ ?_;clear hK K
    refine zdp (LeS.cwin (sz:=2) (c0:=c0) (xs:=rows.take k++rows.drop (k+1)) 8 (by simp [zG5];exact del_eq rows k hk)) ?_
    refine AW_x rfl rfl λK hK=>?_
    simp (disch:=omega)
    repeat' first|(refine ⟨by omega,?_⟩)|(intro _)
    refine hK _ ?_;clear hK K
    refine zbp (zb5 [8] [] (by simp [zG5,List.range_succ]) (by simp) ?_)
    simp (disch:=omega)
    all_goals exact ⟨by omega,zck hs _,zcs hs _⟩
theorem zda{y:List AV}(hy:∀x∈y,scal0 x=true):scR [y]=true:=by simp [scR];exact hy
theorem take_A{α:Type}(A B:List α)(n:Nat)(h:n=A.length):(A++B).take n=A:=by subst h;simp
theorem drop_A{α:Type}(A B:List α)(n:Nat)(h:n=A.length):(A++B).drop n=B:=by subst h;simp
theorem zht{α:Type}(l:List α)(k:Nat)(h:k<l.length):List.take k (List.take (k+1) l++(List.take (l.length-k) (List.drop k l)++List.drop (k+1+(l.length-k)) l))=l.take k:=by
 rw [List.take_append_of_le_length (by simp;omega),List.take_take,Nat.min_eq_left (by omega)]
theorem zha{α:Type}(y:α)(n k:Nat)(h:k<n):List.take (n+1-k) [y]=[y]:=List.take_of_length_le (by simp;omega)
theorem zhu{α:Type}(l:List α)(k:Nat)(h:k<l.length):List.drop (k+1) (List.take (k+1) l++(List.take (l.length-k) (List.drop k l)++List.drop (k+1+(l.length-k)) l))=l.drop k:=by
 rw [drop_A _ _ _ (by simp;omega),List.take_of_length_le (l:=List.drop k l) (by simp),List.drop_eq_nil_of_le (i:=k+1+(l.length-k)) (by omega),List.append_nil]
theorem ins_q0{α:Type}(l:List α)(y z:α)(k:Nat)(h:k<l.length):List.take k (List.take k l++List.replicate (l.length+1-k) z)++(List.take (l.length+1-k) [y]++List.drop (k+1) (List.take k l++List.replicate (l.length+1-k) z))=(l.take k++[y])++List.replicate (l.length-k) z:=by
 rw [take_A _ _ _ (by simp;omega),zha y _ _ h,List.drop_append,List.drop_eq_nil_of_le (by simp;omega)]
 have e:k+1-(List.take k l).length=1:=by simp;omega
 rw [e,List.drop_replicate,show l.length+1-k-1=l.length-k by omega]
 simp
theorem zhv{α:Type}(l:List α)(y z:α)(k:Nat)(h:k<l.length):List.take (k+1) (List.take k (List.take k l++List.replicate (l.length+1-k) z)++(List.take (l.length+1-k) [y]++List.drop (k+1) (List.take k l++List.replicate (l.length+1-k) z)))=l.take k++[y]:=by
 rw [ins_q0 l y z k h,take_A _ _ _ (by simp;omega)]
theorem zhw{α:Type}(l:List α)(y z:α)(k:Nat)(h:k<l.length):List.drop (k+1+(l.length-k)) (List.take k (List.take k l++List.replicate (l.length+1-k) z)++(List.take (l.length+1-k) [y]++List.drop (k+1) (List.take k l++List.replicate (l.length+1-k) z)))=[]:=by
 rw [ins_q0 l y z k h,List.drop_eq_nil_of_le (by simp;omega)]
theorem zhx{α:Type}(l:List α)(k:Nat):List.take (l.length-k) (List.drop k l)=l.drop k:=List.take_of_length_le (by simp)
attribute [local simp] List.range_succ
theorem zzn(rows:List (List AV))(hs:scR rows=true)(y:List AV)(hy:∀x∈y,scal0 x=true)(k:Nat)(hk:k≤rows.length)(hl:rows.length≤1048576):XCall Try.prog 89 [.arr 8 0 rows.length,(.g (.int .i64 ((k:Nat)))),.arr 9 0 1] [.own 2 rows,.own 2 [y]] (.arr 16 0 (rows.length+1)) [.dead,.dead] [.own 2 (rows.take k++y :: rows.drop k)]:=by
 refine zbt Try.func89 (by rfl) (by rfl) (by rw [Try.ntmps89];exact Nat.le_of_ble_eq_true rfl) rfl (by simp) rfl rfl ?_
 rw [Try.ntmps89]
 refine zx7 (.win 2 rows) (.win 2 [y]) (by simp [cvO]<;>assumption) (by simp [cvO]<;>assumption) ?_
 refine AW_k [(0,_),(1,_),(2,_)] ⟨rfl,rfl,rfl,trivial⟩ ?_
 refine AW_x rfl rfl λK hK=>?_
 simp (disch:=omega)
 repeat' first|(refine ⟨by omega,?_⟩)|(intro _)
 refine hK _ ?_;clear hK K
 refine AW_x rfl rfl λK hK=>?_
 simp (disch:=omega)
 repeat' first|(refine ⟨by omega,?_⟩)|(intro _)
 refine hK _ ?_;clear hK K
 refine AW_x rfl rfl λK hK=>?_
 simp (disch:=omega)
 repeat' first|(refine ⟨by omega,?_⟩)|(intro _)
 refine hK _ ?_;clear hK K
 refine zbj ?_
 refine AW_x rfl rfl λK hK=>?_
 simp (disch:=omega)
 repeat' first|(refine ⟨by omega,?_⟩)|(intro _)
 refine hK _ ?_;clear hK K
 refine zbi rfl (λhc2=>?_) (λhc2=>?_)
 ·try simp at hc2
  all_goals
   refine AW_x rfl rfl λK hK=>?_
   simp (disch:=omega)
   repeat' first|(exfalso;omega)|(refine ⟨λ_=>?_,λ_=>?_⟩)|(refine ⟨by omega,?_⟩)|(intro _)
   all_goals (refine hK _ ?_;clear hK K)
   all_goals
    refine zbp (zb5 [8] [] (by simp [zG5,List.range_succ]) (by simp) ?_)
    simp (disch:=omega)
    all_goals first | omega|(exfalso;simp_all;done)|(obtain rfl:k=rows.length:=(by omega);rw [List.take_of_length_le (by omega),List.drop_eq_nil_of_le (by omega)];exact ⟨rfl,hs,hy⟩)|(have hkl:k<rows.length:=(by omega);rw [zht rows k hkl,zha y _ _ hkl,zhu rows k hkl];exact ⟨rfl,zck hs _,zda hy,zcs hs _⟩)|(have hkl:k<rows.length:=(by omega);rw [zhv rows y _ k hkl,zhx,zhw rows y _ k hkl];exact ⟨by simp,by rw [zd9,zck hs,zda hy];rfl,zcs hs _,rfl⟩) | trace_state
 ·try simp at hc2
  all_goals
   refine zbk ?_
   refine zbo ?_
   refine AW_x rfl rfl λK hK=>?_
   simp (disch:=omega)
   repeat' first|(exfalso;omega)|(refine ⟨λ_=>?_,λ_=>?_⟩)|(refine ⟨by omega,?_⟩)|(intro _)
   all_goals (refine hK _ ?_;clear hK K)
   all_goals
    refine zbj ?_
    refine AW_x rfl rfl λK hK=>?_
    simp (disch:=omega)
    repeat' first|(refine ⟨by omega,?_⟩)|(intro _)
    refine hK _ ?_;clear hK K
    refine zbi rfl (λhc3=>?_) (λhc3=>?_)
    ·try simp at hc3
     all_goals
      refine AW_x rfl rfl λK hK=>?_
      simp (disch:=omega)
      repeat' first|(exfalso;omega)|(refine ⟨λ_=>?_,λ_=>?_⟩)|(refine ⟨by omega,?_⟩)|(intro _)
      all_goals (refine hK _ ?_;clear hK K)
      all_goals
       refine zbp (zb5 [416] [] (by simp [zG5,List.range_succ]) (by simp) ?_)
       simp (disch:=omega)
       all_goals first | omega|(exfalso;simp_all;done)|(obtain rfl:k=rows.length:=(by omega);rw [List.take_of_length_le (by omega),List.drop_eq_nil_of_le (by omega)];exact ⟨rfl,hs,hy⟩)|(have hkl:k<rows.length:=(by omega);rw [zht rows k hkl,zha y _ _ hkl,zhu rows k hkl];exact ⟨rfl,zck hs _,zda hy,zcs hs _⟩)|(have hkl:k<rows.length:=(by omega);rw [zhv rows y _ k hkl,zhx,zhw rows y _ k hkl];exact ⟨by simp,by rw [zd9,zck hs,zda hy];rfl,zcs hs _,rfl⟩) | trace_state
    ·try simp at hc3
     all_goals
      refine zbk ?_
      refine zbo ?_
      refine zbj ?_
      refine zmo (sz:=2) (xs:=rows) 8 (by simp [zG5]) (by omega) λc0 hc0=>?_
      refine AW_x rfl rfl λK hK=>?_
      simp (disch:=omega)
      repeat' first|(exfalso;omega)|(refine ⟨λ_=>?_,λ_=>?_⟩)|(refine ⟨by omega,?_⟩)|(intro _)
      all_goals (refine hK _ ?_;clear hK K)
      all_goals
       refine zbi rfl (λhc4=>?_) (λhc4=>?_)
       ·try simp at hc4
        all_goals
         refine AW_x rfl rfl λK hK=>?_
         simp (disch:=omega)
         repeat' first|(exfalso;omega)|(refine ⟨λ_=>?_,λ_=>?_⟩)|(refine ⟨by omega,?_⟩)|(intro _)
         all_goals (refine hK _ ?_;clear hK K)
         all_goals
          refine zmo (sz:=2) 656 (by simp [zG5];exact rfl) (by simp;omega) λc1 hc1'=>?_
          have hc1:rows.length+1≤c1:=by simp at hc1';omega
          refine AW_x rfl rfl λK hK=>?_
          simp (disch:=omega)
          repeat' first|(refine ⟨by omega,?_⟩)|(intro _)
          refine hK _ ?_;clear hK K
          refine AW_d rfl mix (by kernel_rfl) (by kernel_rfl) λK hK=>?_
          simp (disch:=omega)
          repeat' first|(refine ⟨by omega,?_⟩)|(intro _)
          refine hK _ _ (by kernel_rfl) ?_;clear hK K
          refine zdp (LeS.cwin (sz:=2) (c0:=c1) 656 (by simp [zG5];exact rfl)) ?_
          refine AW_x rfl rfl λK hK=>?_
          simp (disch:=omega)
          repeat' first|(refine ⟨by omega,?_⟩)|(intro _)
          refine hK _ ?_;clear hK K
          refine zbp (zb5 [656] [] (by simp [zG5,List.range_succ]) (by simp) ?_)
          simp (disch:=omega)
          all_goals first | omega|(exfalso;simp_all;done)|(obtain rfl:k=rows.length:=(by omega);rw [List.take_of_length_le (by omega),List.drop_eq_nil_of_le (by omega)];exact ⟨rfl,hs,hy⟩)|(have hkl:k<rows.length:=(by omega);rw [zht rows k hkl,zha y _ _ hkl,zhu rows k hkl];exact ⟨rfl,zck hs _,zda hy,zcs hs _⟩)|(have hkl:k<rows.length:=(by omega);rw [zhv rows y _ k hkl,zhx,zhw rows y _ k hkl];exact ⟨by simp,by rw [zd9,zck hs,zda hy];rfl,zcs hs _,rfl⟩) | trace_state
       ·try simp at hc4
        all_goals
         refine zbk ?_
         refine zbo ?_
         refine AW_x rfl rfl λK hK=>?_
         simp (disch:=omega)
         repeat' first|(exfalso;omega)|(refine ⟨λ_=>?_,λ_=>?_⟩)|(refine ⟨by omega,?_⟩)|(intro _)
         all_goals (refine hK _ ?_;clear hK K)
         all_goals
          refine zbj ?_
          refine AW_x rfl rfl λK hK=>?_
          simp (disch:=omega)
          repeat' first|(exfalso;omega)|(refine XKd_o (sz:=2) (xs:=[y]) (sz':=2) (ys:=rows) (c:=c0) Try.f101 24 4 75 _ Try.func101 (by rfl) (by rfl) (by kernel_rfl) (by kernel_rfl) (by rfl) (by rfl) ⟨rfl,by decide,by simp [zG5],by omega,by simp,by simp [zG5],by omega,by omega⟩ ?_;simp (disch:=omega))|(refine ⟨by omega,?_⟩)|(intro _)
          refine hK _ ?_;clear hK K
          refine zbi rfl (λhc5=>?_) (λhc5=>?_)
          ·try simp at hc5
           all_goals
            refine AW_d rfl mix (by kernel_rfl) (by kernel_rfl) λK hK=>?_
            simp (disch:=omega)
            repeat' first|(exfalso;omega)|(refine ⟨λ_=>?_,λ_=>?_⟩)|(refine ⟨by omega,?_⟩)|(intro _)
            all_goals (refine hK _ _ (by kernel_rfl) ?_;clear hK K)
            all_goals
             refine AW_x rfl rfl λK hK=>?_
             simp (disch:=omega)
             repeat' first|(refine ⟨by omega,?_⟩)|(intro _)
             refine hK _ ?_;clear hK K
             refine zdp (LeS.cwin (sz:=2) (c0:=c0) 8 (by simp [zG5];exact rfl)) ?_
             refine AW_x rfl rfl λK hK=>?_
             simp (disch:=omega)
             repeat' first|(refine ⟨by omega,?_⟩)|(intro _)
             refine hK _ ?_;clear hK K
             refine zbp (zb5 [8] [] (by simp [zG5,List.range_succ]) (by simp) ?_)
             simp (disch:=omega)
             all_goals first | omega|(exfalso;simp_all;done)|(obtain rfl:k=rows.length:=(by omega);rw [List.take_of_length_le (by omega),List.drop_eq_nil_of_le (by omega)];exact ⟨rfl,hs,hy⟩)|(have hkl:k<rows.length:=(by omega);rw [zht rows k hkl,zha y _ _ hkl,zhu rows k hkl];exact ⟨rfl,zck hs _,zda hy,zcs hs _⟩)|(have hkl:k<rows.length:=(by omega);rw [zhv rows y _ k hkl,zhx,zhw rows y _ k hkl];exact ⟨by simp,by rw [zd9,zck hs,zda hy];rfl,zcs hs _,rfl⟩) | trace_state
          ·try simp at hc5
           all_goals
            refine zbk ?_
            refine zbo ?_
            refine AW_x rfl rfl λK hK=>?_
            simp (disch:=omega)
            repeat' first|(exfalso;omega)|(refine ⟨λ_=>?_,λ_=>?_⟩)|(refine ⟨by omega,?_⟩)|(intro _)
            all_goals (refine hK _ ?_;clear hK K)
            all_goals
             refine AW_x rfl rfl λK hK=>?_
             simp (disch:=omega)
             repeat' first|(exfalso;omega)|(refine ⟨by omega,?_⟩)|(intro _)
             refine hK _ ?_;clear hK K
             refine AW_x rfl rfl λK hK=>?_
             simp (disch:=omega)
             repeat' first|(refine ⟨by omega,?_⟩)|(intro _)
             refine hK _ ?_;clear hK K
             refine zbp (zb5 [8] [] (by simp [zG5,List.range_succ]) (by simp) ?_)
             simp (disch:=omega)
             all_goals first | omega|(exfalso;simp_all;done)|(obtain rfl:k=rows.length:=(by omega);rw [List.take_of_length_le (by omega),List.drop_eq_nil_of_le (by omega)];exact ⟨rfl,hs,hy⟩)|(have hkl:k<rows.length:=(by omega);rw [zht rows k hkl,zha y _ _ hkl,zhu rows k hkl];exact ⟨rfl,zck hs _,zda hy,zcs hs _⟩)|(have hkl:k<rows.length:=(by omega);rw [zhv rows y _ k hkl,zhx,zhw rows y _ k hkl];exact ⟨by simp,by rw [zd9,zck hs,zda hy];rfl,zcs hs _,rfl⟩) | trace_state
theorem zzo(rows:List (List AV))(hs:scR rows=true)(y:List AV)(hy:∀x∈y,scal0 x=true)(k:Nat)(hk:k≤rows.length)(hl:rows.length≤1048576):XCall Try.prog 33 [.arr 8 0 rows.length,(.g (.int .i64 ((k:Nat)))),.arr 9 0 1] [.own 3 rows,.own 3 [y]] (.arr 16 0 (rows.length+1)) [.dead,.dead] [.own 3 (rows.take k++y :: rows.drop k)]:=by
 refine zbt Try.func33 (by rfl) (by rfl) (by rw [Try.ntmps33];exact Nat.le_of_ble_eq_true rfl) rfl (by simp) rfl rfl ?_
 rw [Try.ntmps33]
 refine zx7 (.win 3 rows) (.win 3 [y]) (by simp [cvO]<;>assumption) (by simp [cvO]<;>assumption) ?_
 refine AW_k [(0,_),(1,_),(2,_)] ⟨rfl,rfl,rfl,trivial⟩ ?_
 refine AW_x rfl rfl λK hK=>?_
 simp (disch:=omega)
 repeat' first|(refine ⟨by omega,?_⟩)|(intro _)
 refine hK _ ?_;clear hK K
 refine AW_x rfl rfl λK hK=>?_
 simp (disch:=omega)
 repeat' first|(refine ⟨by omega,?_⟩)|(intro _)
 refine hK _ ?_;clear hK K
 refine AW_x rfl rfl λK hK=>?_
 simp (disch:=omega)
 repeat' first|(refine ⟨by omega,?_⟩)|(intro _)
 refine hK _ ?_;clear hK K
 refine zbj ?_
 refine AW_x rfl rfl λK hK=>?_
 simp (disch:=omega)
 repeat' first|(refine ⟨by omega,?_⟩)|(intro _)
 refine hK _ ?_;clear hK K
 refine zbi rfl (λhc6=>?_) (λhc6=>?_)
 ·try simp at hc6
  all_goals
   refine AW_x rfl rfl λK hK=>?_
   simp (disch:=omega)
   repeat' first|(exfalso;omega)|(refine ⟨λ_=>?_,λ_=>?_⟩)|(refine ⟨by omega,?_⟩)|(intro _)
   all_goals (refine hK _ ?_;clear hK K)
   all_goals
    refine zbp (zb5 [8] [] (by simp [zG5,List.range_succ]) (by simp) ?_)
    simp (disch:=omega)
    all_goals first | omega|(exfalso;simp_all;done)|(obtain rfl:k=rows.length:=(by omega);rw [List.take_of_length_le (by omega),List.drop_eq_nil_of_le (by omega)];exact ⟨rfl,hs,hy⟩)|(have hkl:k<rows.length:=(by omega);rw [zht rows k hkl,zha y _ _ hkl,zhu rows k hkl];exact ⟨rfl,zck hs _,zda hy,zcs hs _⟩)|(have hkl:k<rows.length:=(by omega);rw [zhv rows y _ k hkl,zhx,zhw rows y _ k hkl];exact ⟨by simp,by rw [zd9,zck hs,zda hy];rfl,zcs hs _,rfl⟩) | trace_state
 ·try simp at hc6
  all_goals
   refine zbk ?_
   refine zbo ?_
   refine AW_x rfl rfl λK hK=>?_
   simp (disch:=omega)
   repeat' first|(exfalso;omega)|(refine ⟨λ_=>?_,λ_=>?_⟩)|(refine ⟨by omega,?_⟩)|(intro _)
   all_goals (refine hK _ ?_;clear hK K)
   all_goals
    refine zbj ?_
    refine AW_x rfl rfl λK hK=>?_
    simp (disch:=omega)
    repeat' first|(refine ⟨by omega,?_⟩)|(intro _)
    refine hK _ ?_;clear hK K
    refine zbi rfl (λhc7=>?_) (λhc7=>?_)
    ·try simp at hc7
     all_goals
      refine AW_x rfl rfl λK hK=>?_
      simp (disch:=omega)
      repeat' first|(exfalso;omega)|(refine ⟨λ_=>?_,λ_=>?_⟩)|(refine ⟨by omega,?_⟩)|(intro _)
      all_goals (refine hK _ ?_;clear hK K)
      all_goals
       refine zbp (zb5 [416] [] (by simp [zG5,List.range_succ]) (by simp) ?_)
       simp (disch:=omega)
       all_goals first | omega|(exfalso;simp_all;done)|(obtain rfl:k=rows.length:=(by omega);rw [List.take_of_length_le (by omega),List.drop_eq_nil_of_le (by omega)];exact ⟨rfl,hs,hy⟩)|(have hkl:k<rows.length:=(by omega);rw [zht rows k hkl,zha y _ _ hkl,zhu rows k hkl];exact ⟨rfl,zck hs _,zda hy,zcs hs _⟩)|(have hkl:k<rows.length:=(by omega);rw [zhv rows y _ k hkl,zhx,zhw rows y _ k hkl];exact ⟨by simp,by rw [zd9,zck hs,zda hy];rfl,zcs hs _,rfl⟩) | trace_state
    ·try simp at hc7
     all_goals
      refine zbk ?_
      refine zbo ?_
      refine zbj ?_
      refine zmo (sz:=3) (xs:=rows) 8 (by simp [zG5]) (by omega) λc0 hc0=>?_
      refine AW_x rfl rfl λK hK=>?_
      simp (disch:=omega)
      repeat' first|(exfalso;omega)|(refine ⟨λ_=>?_,λ_=>?_⟩)|(refine ⟨by omega,?_⟩)|(intro _)
      all_goals (refine hK _ ?_;clear hK K)
      all_goals
       refine zbi rfl (λhc8=>?_) (λhc8=>?_)
       ·try simp at hc8
        all_goals
         refine AW_x rfl rfl λK hK=>?_
         simp (disch:=omega)
         repeat' first|(exfalso;omega)|(refine ⟨λ_=>?_,λ_=>?_⟩)|(refine ⟨by omega,?_⟩)|(intro _)
         all_goals (refine hK _ ?_;clear hK K)
         all_goals
          refine zmo (sz:=3) 656 (by simp [zG5];exact rfl) (by simp;omega) λc1 hc1'=>?_
          have hc1:rows.length+1≤c1:=by simp at hc1';omega
          refine AW_x rfl rfl λK hK=>?_
          simp (disch:=omega)
          repeat' first|(refine ⟨by omega,?_⟩)|(intro _)
          refine hK _ ?_;clear hK K
          refine AW_d rfl mix (by kernel_rfl) (by kernel_rfl) λK hK=>?_
          simp (disch:=omega)
          repeat' first|(refine ⟨by omega,?_⟩)|(intro _)
          refine hK _ _ (by kernel_rfl) ?_;clear hK K
          refine zdp (LeS.cwin (sz:=3) (c0:=c1) 656 (by simp [zG5];exact rfl)) ?_
          refine AW_x rfl rfl λK hK=>?_
          simp (disch:=omega)
          repeat' first|(refine ⟨by omega,?_⟩)|(intro _)
          refine hK _ ?_;clear hK K
          refine zbp (zb5 [656] [] (by simp [zG5,List.range_succ]) (by simp) ?_)
          simp (disch:=omega)
          all_goals first | omega|(exfalso;simp_all;done)|(obtain rfl:k=rows.length:=(by omega);rw [List.take_of_length_le (by omega),List.drop_eq_nil_of_le (by omega)];exact ⟨rfl,hs,hy⟩)|(have hkl:k<rows.length:=(by omega);rw [zht rows k hkl,zha y _ _ hkl,zhu rows k hkl];exact ⟨rfl,zck hs _,zda hy,zcs hs _⟩)|(have hkl:k<rows.length:=(by omega);rw [zhv rows y _ k hkl,zhx,zhw rows y _ k hkl];exact ⟨by simp,by rw [zd9,zck hs,zda hy];rfl,zcs hs _,rfl⟩) | trace_state
       ·try simp at hc8
        all_goals
         refine zbk ?_
         refine zbo ?_
         refine AW_x rfl rfl λK hK=>?_
         simp (disch:=omega)
         repeat' first|(exfalso;omega)|(refine ⟨λ_=>?_,λ_=>?_⟩)|(refine ⟨by omega,?_⟩)|(intro _)
         all_goals (refine hK _ ?_;clear hK K)
         all_goals
          refine zbj ?_
          refine AW_x rfl rfl λK hK=>?_
          simp (disch:=omega)
          repeat' first|(exfalso;omega)|(refine XKd_o (sz:=3) (xs:=[y]) (sz':=3) (ys:=rows) (c:=c0) Try.f70 27 4 59 _ Try.func70 (by rfl) (by rfl) (by kernel_rfl) (by kernel_rfl) (by rfl) (by rfl) ⟨rfl,by decide,by simp [zG5],by omega,by simp,by simp [zG5],by omega,by omega⟩ ?_;simp (disch:=omega))|(refine ⟨by omega,?_⟩)|(intro _)
          refine hK _ ?_;clear hK K
          refine zbi rfl (λhc9=>?_) (λhc9=>?_)
          ·try simp at hc9
           all_goals
            refine AW_d rfl mix (by kernel_rfl) (by kernel_rfl) λK hK=>?_
            simp (disch:=omega)
            repeat' first|(exfalso;omega)|(refine ⟨λ_=>?_,λ_=>?_⟩)|(refine ⟨by omega,?_⟩)|(intro _)
            all_goals (refine hK _ _ (by kernel_rfl) ?_;clear hK K)
            all_goals
             refine AW_x rfl rfl λK hK=>?_
             simp (disch:=omega)
             repeat' first|(refine ⟨by omega,?_⟩)|(intro _)
             refine hK _ ?_;clear hK K
             refine zdp (LeS.cwin (sz:=3) (c0:=c0) 8 (by simp [zG5];exact rfl)) ?_
             refine AW_x rfl rfl λK hK=>?_
             simp (disch:=omega)
             repeat' first|(refine ⟨by omega,?_⟩)|(intro _)
             refine hK _ ?_;clear hK K
             refine zbp (zb5 [8] [] (by simp [zG5,List.range_succ]) (by simp) ?_)
             simp (disch:=omega)
             all_goals first | omega|(exfalso;simp_all;done)|(obtain rfl:k=rows.length:=(by omega);rw [List.take_of_length_le (by omega),List.drop_eq_nil_of_le (by omega)];exact ⟨rfl,hs,hy⟩)|(have hkl:k<rows.length:=(by omega);rw [zht rows k hkl,zha y _ _ hkl,zhu rows k hkl];exact ⟨rfl,zck hs _,zda hy,zcs hs _⟩)|(have hkl:k<rows.length:=(by omega);rw [zhv rows y _ k hkl,zhx,zhw rows y _ k hkl];exact ⟨by simp,by rw [zd9,zck hs,zda hy];rfl,zcs hs _,rfl⟩) | trace_state
          ·try simp at hc9
           all_goals
            refine zbk ?_
            refine zbo ?_
            refine AW_x rfl rfl λK hK=>?_
            simp (disch:=omega)
            repeat' first|(exfalso;omega)|(refine ⟨λ_=>?_,λ_=>?_⟩)|(refine ⟨by omega,?_⟩)|(intro _)
            all_goals (refine hK _ ?_;clear hK K)
            all_goals
             refine AW_x rfl rfl λK hK=>?_
             simp (disch:=omega)
             repeat' first|(exfalso;omega)|(refine ⟨by omega,?_⟩)|(intro _)
             refine hK _ ?_;clear hK K
             refine AW_x rfl rfl λK hK=>?_
             simp (disch:=omega)
             repeat' first|(refine ⟨by omega,?_⟩)|(intro _)
             refine hK _ ?_;clear hK K
             refine zbp (zb5 [8] [] (by simp [zG5,List.range_succ]) (by simp) ?_)
             simp (disch:=omega)
             all_goals first | omega|(exfalso;simp_all;done)|(obtain rfl:k=rows.length:=(by omega);rw [List.take_of_length_le (by omega),List.drop_eq_nil_of_le (by omega)];exact ⟨rfl,hs,hy⟩)|(have hkl:k<rows.length:=(by omega);rw [zht rows k hkl,zha y _ _ hkl,zhu rows k hkl];exact ⟨rfl,zck hs _,zda hy,zcs hs _⟩)|(have hkl:k<rows.length:=(by omega);rw [zhv rows y _ k hkl,zhx,zhw rows y _ k hkl];exact ⟨by simp,by rw [zd9,zck hs,zda hy];rfl,zcs hs _,rfl⟩) | trace_state
end Go.Proofs.Ytodmafgmdlkhoaa.Vs
end
