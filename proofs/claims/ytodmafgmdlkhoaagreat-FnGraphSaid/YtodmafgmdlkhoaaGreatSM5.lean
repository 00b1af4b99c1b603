import Derived.Test.YtodmafgmdlkhoaaGreatSM3
import Derived.Test.YtodmafgmdlkhoaaGreatSM4
section
open Go Go.Proofs Go.Proofs.YtodmafgmdlkhoaaGreat.Vs
namespace Go.Proofs.YtodmafgmdlkhoaaGreat.Vs
set_option linter.all false
set_option linter.unusedSimpArgs false
set_option linter.unusedVariables false
set_option maxRecDepth 100000
/-! is a part free? -/
def zG13:=And.intro @zb4 (And.intro @gE @tP)
def zG14:=And.intro @zbb (And.intro @zbf (And.intro @zco @zcu))
theorem zp1(l:List DtInst)(p t:List DtId)(hn:l.length≤1048576)(hm:∀x∈l,InstSm x)(hp:InstsP l)(hs3:∀x∈p,(instAt l x).fStatus=3)(hpn:p.length≤1048576)(htn:t.length≤1048576):PCall Tryz.prog 47 [.sl 16 (l.map DtInst.cells),.sl 2 (p.map DtId.cells),.sl 2 (t.map DtId.cells)] (.g (.bool (decB (FreeP l p t)))):=by
 refine zbo Tryz.func47 (by rfl) (by rfl) (by rw [Tryz.ntmps47];exact Nat.le_of_ble_eq_true rfl) rfl (by decide) ?_
 rw [Tryz.ntmps47]
 refine AW_k [(0,_),(1,_),(2,_)] ⟨rfl,rfl,rfl,trivial⟩ ?_
 refine AW_r rfl rfl λK hK=>?_
 simp (disch:=omega) [zG13,DtInst.cells,DtCmd.cells,DtId.cells]
 repeat' first|(refine ⟨by omega,?_⟩)|(intro _)
 refine hK _ ?_;clear hK K
 refine zbj ?_
 refine AW_r rfl rfl λK hK=>?_
 simp (disch:=omega) [zG13,DtInst.cells,DtCmd.cells,DtId.cells]
 repeat' first|(refine ⟨by omega,?_⟩)|(intro _)
 refine hK _ ?_;clear hK K
 refine zbl ?_
 refine zby (λmM sS=>∃(i:Nat),mM=p.length-i∧(i≤p.length∧∀(j:Nat) x,j<i→p[j]? = some x→∀d∈depsL l x,d∈p∨d∈t)∧sS = { env:=lkE [(0,.sl 16 (l.map DtInst.cells)),(1,.sl 2 (p.map DtId.cells)),(2,.sl 2 (t.map DtId.cells)),(11,.sl 2 (p.map DtId.cells)),(12,(.g (.int .i64 ((p.length:Nat))))),(13,(.g (.int .i64 ((i:Nat)))))],ob:=lk [] }) ?_ ?_
 ·refine ⟨_,LeS.ko [(0,.sl 16 (l.map DtInst.cells)),(1,.sl 2 (p.map DtId.cells)),(2,.sl 2 (t.map DtId.cells)),(11,.sl 2 (p.map DtId.cells)),(12,(.g (.int .i64 ((p.length:Nat))))),(13,(.g (.int .i64 (((0):Nat)))))] [] (by simp [KpE,zbt,zbk,zbp,DtId.cells];try rfl) (by simp [KpO,zbt,zbp,zb0,zca,DtId.cells];try rfl) (by rfl) (by simp) (by rfl),_,0,rfl,?_,rfl⟩
  ·simp
 ·rintro mM sS ⟨i,rfl,⟨hi,hpre⟩,rfl⟩
  refine AW_r rfl rfl λK hK=>?_
  simp (disch:=omega) [zG13,DtInst.cells,DtCmd.cells,DtId.cells]
  repeat' first|(refine ⟨by omega,?_⟩)|(intro _)
  refine hK _ ?_;clear hK K
  refine zbj ?_
  refine zbm rfl (λhc1=>?_) (λhc1=>?_)
  ·try simp [zG14,zbe,zbd] at hc1
   all_goals
    have hst:=hs3 p[i] (List.getElem_mem _)
    have hdl:depsL l p[i]=(instAt l p[i]).fDeps:=zj9 hst
    have hdn:=zcl hp p[i]
    have hgp:p[i]? = some p[i]:=List.getElem?_eq_getElem (by omega)
    rw [hdl] at hdn
    refine zbn ?_
    refine zbq ?_
    refine zbj ?_
    refine zbl ?_
    refine AW_r rfl rfl λK hK=>?_
    simp (disch:=omega) [zG13,DtInst.cells,DtCmd.cells,DtId.cells]
    repeat' first|(exfalso;omega)|(refine ⟨λ_=>?_,λ_=>?_⟩)|(refine ⟨by omega,?_⟩)|(intro _)
    all_goals (refine hK _ ?_;clear hK K)
    all_goals
     refine AW_r rfl rfl λK hK=>?_
     simp (disch:=omega) [zG13,DtInst.cells,DtCmd.cells,DtId.cells]
     repeat' first|(exfalso;omega)|(refine zcg (zbc zbw (zbc (zbu rfl) zbi)) (zfu _ _ (by assumption) (by assumption)) rfl ?_;simp (disch:=omega) [zG13,DtInst.cells,DtCmd.cells,DtId.cells])|(refine ⟨by omega,?_⟩)|(intro _)
     refine hK _ ?_;clear hK K
     refine zbl ?_
     refine zby (λmM sS=>∃(k:Nat),mM=(instAt l p[i]).fDeps.length-k∧(k≤(instAt l p[i]).fDeps.length∧∀(j:Nat) d,j<k→(instAt l p[i]).fDeps[j]? = some d→d∈p∨d∈t)∧sS = { env:=lkE [(0,.sl 16 (l.map DtInst.cells)),(1,.sl 2 (p.map DtId.cells)),(2,.sl 2 (t.map DtId.cells)),(11,.sl 2 (p.map DtId.cells)),(12,(.g (.int .i64 ((p.length:Nat))))),(13,(.g (.int .i64 ((i:Nat))))),(20,.sl 2 ((instAt l p[i]).fDeps.map DtId.cells)),(21,(.g (.int .i64 (((instAt l p[i]).fDeps.length:Nat))))),(22,(.g (.int .i64 ((k:Nat)))))],ob:=lk [] }) ?_ ?_
     ·refine ⟨_,LeS.ko [(0,.sl 16 (l.map DtInst.cells)),(1,.sl 2 (p.map DtId.cells)),(2,.sl 2 (t.map DtId.cells)),(11,.sl 2 (p.map DtId.cells)),(12,(.g (.int .i64 ((p.length:Nat))))),(13,(.g (.int .i64 ((i:Nat))))),(20,.sl 2 ((instAt l p[i]).fDeps.map DtId.cells)),(21,(.g (.int .i64 (((instAt l p[i]).fDeps.length:Nat))))),(22,(.g (.int .i64 (((0):Nat)))))] [] (by simp [KpE,zbt,zbk,zbp,DtId.cells];try rfl) (by simp [KpO,zbt,zbp,zb0,zca,DtId.cells];try rfl) (by rfl) (by simp) (by rfl),_,0,rfl,?_,rfl⟩
      ·simp
     ·rintro mM sS ⟨k,rfl,⟨hk,hin⟩,rfl⟩
      refine AW_r rfl rfl λK hK=>?_
      simp (disch:=omega) [zG13,DtInst.cells,DtCmd.cells,DtId.cells]
      repeat' first|(refine ⟨by omega,?_⟩)|(intro _)
      refine hK _ ?_;clear hK K
      refine zbj ?_
      refine zbm rfl (λhc2=>?_) (λhc2=>?_)
      ·try simp [zG14,zbe,zbd] at hc2
       all_goals
        have hgd:(instAt l p[i]).fDeps[k]? = some (instAt l p[i]).fDeps[k]:=List.getElem?_eq_getElem (by omega)
        refine zbn ?_
        refine zbq ?_
        refine zbj ?_
        refine zbl ?_
        refine AW_r rfl rfl λK hK=>?_
        simp (disch:=omega) [zG13,DtInst.cells,DtCmd.cells,DtId.cells]
        repeat' first|(exfalso;omega)|(refine ⟨λ_=>?_,λ_=>?_⟩)|(refine ⟨by omega,?_⟩)|(intro _)
        all_goals (refine hK _ ?_;clear hK K)
        all_goals
         refine AW_r rfl rfl λK hK=>?_
         simp (disch:=omega) [zG13,DtInst.cells,DtCmd.cells,DtId.cells]
         repeat' first|(exfalso;omega)|(refine zcg (zbc zbw (zbc (zbu rfl) zbi)) (zdy _ _ (by omega)) rfl ?_;simp (disch:=omega) [zG13,DtInst.cells,DtCmd.cells,DtId.cells])|(refine ⟨λ_=>?_,λ_=>?_⟩)|(refine ⟨by omega,?_⟩)|(intro _)
         all_goals (refine hK _ ?_;clear hK K)
         all_goals
          refine zbm rfl (λhc3=>?_) (λhc3=>?_)
          ·try simp [zG14,zbe,zbd] at hc3
           all_goals
            refine AW_r rfl rfl λK hK=>?_
            simp (disch:=omega) [zG13,DtInst.cells,DtCmd.cells,DtId.cells]
            repeat' first|(exfalso;omega)|(refine ⟨λ_=>?_,λ_=>?_⟩)|(refine ⟨by omega,?_⟩)|(intro _)
            all_goals (refine hK _ ?_;clear hK K)
            all_goals
             refine zbr (zb6 ?_)
             simp (disch:=omega) [zG13,DtInst.cells,DtCmd.cells,DtId.cells]
             all_goals first|(refine zcb λx hx=>?_;obtain ⟨j,hj⟩:=List.getElem?_of_mem hx;exact hpre j x (by have:=(List.getElem?_eq_some_iff.1 hj).1;omega) hj)|(refine zce λhmay=>?_;have:=hmay p[i] (List.getElem_mem _) (instAt l p[i]).fDeps[k] (by rw [hdl];exact List.getElem_mem _);simp only [zbb,zbf] at *;grind) | trace_state
          ·try simp [zG14,zbe,zbd] at hc3
           all_goals
            refine zbn ?_
            refine zbq ?_
            refine zc8 rfl rfl λK hK=>?_
            simp (disch:=omega) [zG13,DtInst.cells,DtCmd.cells,DtId.cells]
            repeat' first|(exfalso;omega)|(refine ⟨λ_=>?_,λ_=>?_⟩)|(refine ⟨by omega,?_⟩)|(intro _)
            all_goals (refine hK _ ?_;clear hK K)
            all_goals
             refine ⟨_,LeS.ko [(0,.sl 16 (l.map DtInst.cells)),(1,.sl 2 (p.map DtId.cells)),(2,.sl 2 (t.map DtId.cells)),(11,.sl 2 (p.map DtId.cells)),(12,(.g (.int .i64 ((p.length:Nat))))),(13,(.g (.int .i64 ((i:Nat))))),(20,.sl 2 ((instAt l p[i]).fDeps.map DtId.cells)),(21,(.g (.int .i64 (((instAt l p[i]).fDeps.length:Nat))))),(22,(.g (.int .i64 (((k+1):Nat)))))] [] (by simp [KpE,zbt,zbk,zbp,DtId.cells];try rfl) (by simp [KpO,zbt,zbp,zb0,zca,DtId.cells];try rfl) (by rfl) (by simp) (by rfl),_,?_,k+1,rfl,?_,rfl⟩
             ·omega
             ·refine ⟨by omega,λj d hj hd=>?_⟩;by_cases hjk:j=k
              ·subst hjk;rw [hgd] at hd;cases hd;simp only [zbb,zbf] at *;grind
              ·exact hin j d (by omega) hd
      ·try simp [zG14,zbe,zbd] at hc2
       all_goals
        refine zb3 ?_
        refine zbq ?_
        refine zc8 rfl rfl λK hK=>?_
        simp (disch:=omega) [zG13,DtInst.cells,DtCmd.cells,DtId.cells]
        repeat' first|(exfalso;omega)|(refine ⟨λ_=>?_,λ_=>?_⟩)|(refine ⟨by omega,?_⟩)|(intro _)
        all_goals (refine hK _ ?_;clear hK K)
        all_goals
         refine ⟨_,LeS.ko [(0,.sl 16 (l.map DtInst.cells)),(1,.sl 2 (p.map DtId.cells)),(2,.sl 2 (t.map DtId.cells)),(11,.sl 2 (p.map DtId.cells)),(12,(.g (.int .i64 ((p.length:Nat))))),(13,(.g (.int .i64 (((i+1):Nat)))))] [] (by simp [KpE,zbt,zbk,zbp,DtId.cells];try rfl) (by simp [KpO,zbt,zbp,zb0,zca,DtId.cells];try rfl) (by rfl) (by simp) (by rfl),_,?_,i+1,rfl,?_,rfl⟩
         ·omega
         ·refine ⟨by omega,λj x hj hx=>?_⟩;by_cases hji:j=i
          ·subst hji;rw [hgp] at hx;cases hx;rw [hdl];intro d hd;obtain ⟨m,hm2⟩:=List.getElem?_of_mem hd;exact hin m d (by have:=(List.getElem?_eq_some_iff.1 hm2).1;omega) hm2
          ·exact hpre j x (by omega) hx
  ·try simp [zG14,zbe,zbd] at hc1
   all_goals
    refine zb3 ?_
    refine zbq ?_
    refine AW_r rfl rfl λK hK=>?_
    simp (disch:=omega) [zG13,DtInst.cells,DtCmd.cells,DtId.cells]
    repeat' first|(exfalso;omega)|(refine ⟨λ_=>?_,λ_=>?_⟩)|(refine ⟨by omega,?_⟩)|(intro _)
    all_goals (refine hK _ ?_;clear hK K)
    all_goals
     refine zbr (zb6 ?_)
     simp (disch:=omega) [zG13,DtInst.cells,DtCmd.cells,DtId.cells]
     all_goals first|(refine zcb λx hx=>?_;obtain ⟨j,hj⟩:=List.getElem?_of_mem hx;exact hpre j x (by have:=(List.getElem?_eq_some_iff.1 hj).1;omega) hj)|(refine zce λhmay=>?_;have:=hmay p[i] (List.getElem_mem _) (instAt l p[i]).fDeps[k] (by rw [hdl];exact List.getElem_mem _);simp only [zbb,zbf] at *;grind) | trace_state
theorem l12May(l:List DtInst)(p t:List DtId)(hn:l.length≤1048576)(hp:InstsP l)(hpn:p.length≤1048576)(htn:t.length≤1048576):PCall Tryz.prog 89 [.sl 16 (l.map DtInst.cells),.sl 2 (p.map DtId.cells),.sl 2 (t.map DtId.cells)] (.g (.bool (decB (FreeP l p t)))):=by
 refine zbo Tryz.func89 (by rfl) (by rfl) (by rw [Tryz.ntmps89];exact Nat.le_of_ble_eq_true rfl) rfl (by decide) ?_
 rw [Tryz.ntmps89]
 refine AW_k [(0,_),(1,_),(2,_)] ⟨rfl,rfl,rfl,trivial⟩ ?_
 refine AW_r rfl rfl λK hK=>?_
 simp (disch:=omega) [zG13,DtInst.cells,DtCmd.cells,DtId.cells]
 repeat' first|(refine ⟨by omega,?_⟩)|(intro _)
 refine hK _ ?_;clear hK K
 refine zbj ?_
 refine AW_r rfl rfl λK hK=>?_
 simp (disch:=omega) [zG13,DtInst.cells,DtCmd.cells,DtId.cells]
 repeat' first|(refine ⟨by omega,?_⟩)|(intro _)
 refine hK _ ?_;clear hK K
 refine zbl ?_
 refine zby (λmM sS=>∃(i:Nat),mM=p.length-i∧(i≤p.length∧∀(j:Nat) x,j<i→p[j]? = some x→∀d∈depsL l x,d∈p∨d∈t)∧sS = { env:=lkE [(0,.sl 16 (l.map DtInst.cells)),(1,.sl 2 (p.map DtId.cells)),(2,.sl 2 (t.map DtId.cells)),(7,(.g (.int .i64 ((i:Nat)))))],ob:=lk [] }) ?_ ?_
 ·refine ⟨_,LeS.ko [(0,.sl 16 (l.map DtInst.cells)),(1,.sl 2 (p.map DtId.cells)),(2,.sl 2 (t.map DtId.cells)),(7,(.g (.int .i64 (((0):Nat)))))] [] (by simp [KpE,zbt,zbk,zbp,DtId.cells];try rfl) (by simp [KpO,zbt,zbp,zb0,zca,DtId.cells];try rfl) (by rfl) (by simp) (by rfl),_,0,rfl,?_,rfl⟩
  ·simp
 ·rintro mM sS ⟨i,rfl,⟨hi,hpre⟩,rfl⟩
  refine zbj ?_
  refine AW_r rfl rfl λK hK=>?_
  simp (disch:=omega) [zG13,DtInst.cells,DtCmd.cells,DtId.cells]
  repeat' first|(refine ⟨by omega,?_⟩)|(intro _)
  refine hK _ ?_;clear hK K
  refine zbm rfl (λhc4=>?_) (λhc4=>?_)
  ·try simp [zG14,zbe,zbd] at hc4
   all_goals
    have hdn:=zcl hp p[i]
    have hgp:p[i]? = some p[i]:=List.getElem?_eq_getElem (by omega)
    refine zbn ?_
    refine zbq ?_
    refine zbj ?_
    refine zbl ?_
    refine AW_r rfl rfl λK hK=>?_
    simp (disch:=omega) [zG13,DtInst.cells,DtCmd.cells,DtId.cells]
    repeat' first|(exfalso;omega)|(refine zcg (zbc zbw (zbc (zbu rfl) zbi)) (zwy l p[i] (by assumption) (by assumption)) rfl ?_;simp (disch:=omega) [zG13,DtInst.cells,DtCmd.cells,DtId.cells])|(refine ⟨λ_=>?_,λ_=>?_⟩)|(refine ⟨by omega,?_⟩)|(intro _)
    all_goals (refine hK _ ?_;clear hK K)
    all_goals
     refine AW_r rfl rfl λK hK=>?_
     simp (disch:=omega) [zG13,DtInst.cells,DtCmd.cells,DtId.cells]
     repeat' first|(refine ⟨by omega,?_⟩)|(intro _)
     refine hK _ ?_;clear hK K
     refine zbl ?_
     refine zby (λmM sS=>∃(k:Nat),mM=(depsL l p[i]).length-k∧(k≤(depsL l p[i]).length∧∀(j:Nat) d,j<k→(depsL l p[i])[j]? = some d→d∈p∨d∈t)∧sS = { env:=lkE [(0,.sl 16 (l.map DtInst.cells)),(1,.sl 2 (p.map DtId.cells)),(2,.sl 2 (t.map DtId.cells)),(7,(.g (.int .i64 ((i:Nat))))),(8,.sl 2 ((depsL l p[i]).map DtId.cells)),(9,(.g (.int .i64 ((k:Nat)))))],ob:=lk [] }) ?_ ?_
     ·refine ⟨_,LeS.ko [(0,.sl 16 (l.map DtInst.cells)),(1,.sl 2 (p.map DtId.cells)),(2,.sl 2 (t.map DtId.cells)),(7,(.g (.int .i64 ((i:Nat))))),(8,.sl 2 ((depsL l p[i]).map DtId.cells)),(9,(.g (.int .i64 (((0):Nat)))))] [] (by simp [KpE,zbt,zbk,zbp,DtId.cells];try rfl) (by simp [KpO,zbt,zbp,zb0,zca,DtId.cells];try rfl) (by rfl) (by simp) (by rfl),_,0,rfl,?_,rfl⟩
      ·simp
     ·rintro mM sS ⟨k,rfl,⟨hk,hin⟩,rfl⟩
      refine zbj ?_
      refine AW_r rfl rfl λK hK=>?_
      simp (disch:=omega) [zG13,DtInst.cells,DtCmd.cells,DtId.cells]
      repeat' first|(refine ⟨by omega,?_⟩)|(intro _)
      refine hK _ ?_;clear hK K
      refine zbm rfl (λhc5=>?_) (λhc5=>?_)
      ·try simp [zG14,zbe,zbd] at hc5
       all_goals
        have hgd:(depsL l p[i])[k]? = some (depsL l p[i])[k]:=List.getElem?_eq_getElem (by omega)
        refine zbn ?_
        refine zbq ?_
        refine zbj ?_
        refine zbl ?_
        refine AW_r rfl rfl λK hK=>?_
        simp (disch:=omega) [zG13,DtInst.cells,DtCmd.cells,DtId.cells]
        repeat' first|(exfalso;omega)|(refine zcg (zbc zbw (zbc (zbu rfl) zbi)) (l8Has _ _ (by omega)) rfl ?_;simp (disch:=omega) [zG13,DtInst.cells,DtCmd.cells,DtId.cells])|(refine ⟨λ_=>?_,λ_=>?_⟩)|(refine ⟨by omega,?_⟩)|(intro _)
        all_goals (refine hK _ ?_;clear hK K)
        all_goals
         refine zbm rfl (λhc6=>?_) (λhc6=>?_)
         ·try simp [zG14,zbe,zbd] at hc6
          all_goals
           refine AW_r rfl rfl λK hK=>?_
           simp (disch:=omega) [zG13,DtInst.cells,DtCmd.cells,DtId.cells]
           repeat' first|(exfalso;omega)|(refine ⟨λ_=>?_,λ_=>?_⟩)|(refine ⟨by omega,?_⟩)|(intro _)
           all_goals (refine hK _ ?_;clear hK K)
           all_goals
            refine zbr (zb6 ?_)
            simp (disch:=omega) [zG13,DtInst.cells,DtCmd.cells,DtId.cells]
            all_goals first|(refine zcb λx hx=>?_;obtain ⟨j,hj⟩:=List.getElem?_of_mem hx;exact hpre j x (by have:=(List.getElem?_eq_some_iff.1 hj).1;omega) hj)|(refine zce λhmay=>?_;have:=hmay p[i] (List.getElem_mem _) (depsL l p[i])[k] (List.getElem_mem _);simp only [zbb,zbf] at *;grind) | trace_state
         ·try simp [zG14,zbe,zbd] at hc6
          all_goals
           refine zbn ?_
           refine zbq ?_
           refine zc8 rfl rfl λK hK=>?_
           simp (disch:=omega) [zG13,DtInst.cells,DtCmd.cells,DtId.cells]
           repeat' first|(exfalso;omega)|(refine ⟨λ_=>?_,λ_=>?_⟩)|(refine ⟨by omega,?_⟩)|(intro _)
           all_goals (refine hK _ ?_;clear hK K)
           all_goals
            refine ⟨_,LeS.ko [(0,.sl 16 (l.map DtInst.cells)),(1,.sl 2 (p.map DtId.cells)),(2,.sl 2 (t.map DtId.cells)),(7,(.g (.int .i64 ((i:Nat))))),(8,.sl 2 ((depsL l p[i]).map DtId.cells)),(9,(.g (.int .i64 (((k+1):Nat)))))] [] (by simp [KpE,zbt,zbk,zbp,DtId.cells];try rfl) (by simp [KpO,zbt,zbp,zb0,zca,DtId.cells];try rfl) (by rfl) (by simp) (by rfl),_,?_,k+1,rfl,?_,rfl⟩
            ·omega
            ·refine ⟨by omega,λj d hj hd=>?_⟩;by_cases hjk:j=k
             ·subst hjk;rw [hgd] at hd;cases hd;simp only [zbb,zbf] at *;grind
             ·exact hin j d (by omega) hd
      ·try simp [zG14,zbe,zbd] at hc5
       all_goals
        refine zb3 ?_
        refine zbq ?_
        refine zc8 rfl rfl λK hK=>?_
        simp (disch:=omega) [zG13,DtInst.cells,DtCmd.cells,DtId.cells]
        repeat' first|(exfalso;omega)|(refine ⟨λ_=>?_,λ_=>?_⟩)|(refine ⟨by omega,?_⟩)|(intro _)
        all_goals (refine hK _ ?_;clear hK K)
        all_goals
         refine ⟨_,LeS.ko [(0,.sl 16 (l.map DtInst.cells)),(1,.sl 2 (p.map DtId.cells)),(2,.sl 2 (t.map DtId.cells)),(7,(.g (.int .i64 (((i+1):Nat)))))] [] (by simp [KpE,zbt,zbk,zbp,DtId.cells];try rfl) (by simp [KpO,zbt,zbp,zb0,zca,DtId.cells];try rfl) (by rfl) (by simp) (by rfl),_,?_,i+1,rfl,?_,rfl⟩
         ·omega
         ·refine ⟨by omega,λj x hj hx=>?_⟩;by_cases hji:j=i
          ·subst hji;rw [hgp] at hx;cases hx;intro d hd;obtain ⟨m,hm2⟩:=List.getElem?_of_mem hd;exact hin m d (by have:=(List.getElem?_eq_some_iff.1 hm2).1;omega) hm2
          ·exact hpre j x (by omega) hx
  ·try simp [zG14,zbe,zbd] at hc4
   all_goals
    refine zb3 ?_
    refine zbq ?_
    refine AW_r rfl rfl λK hK=>?_
    simp (disch:=omega) [zG13,DtInst.cells,DtCmd.cells,DtId.cells]
    repeat' first|(exfalso;omega)|(refine ⟨λ_=>?_,λ_=>?_⟩)|(refine ⟨by omega,?_⟩)|(intro _)
    all_goals (refine hK _ ?_;clear hK K)
    all_goals
     refine zbr (zb6 ?_)
     simp (disch:=omega) [zG13,DtInst.cells,DtCmd.cells,DtId.cells]
     all_goals first|(refine zcb λx hx=>?_;obtain ⟨j,hj⟩:=List.getElem?_of_mem hx;exact hpre j x (by have:=(List.getElem?_eq_some_iff.1 hj).1;omega) hj)|(refine zce λhmay=>?_;have:=hmay p[i] (List.getElem_mem _) (depsL l p[i])[k] (List.getElem_mem _);simp only [zbb,zbf] at *;grind) | trace_state
/-! a part that is free, as the closure asks it -/
theorem parts2{ob:Nat→Option OB}{m1 m2 m3:Nat}(l:List DtInst)(p t:List DtId)(hok:ObOk ob)(h1:ob m1=some (.cells [.sl 16 (l.map DtInst.cells)]))(h2:ob m2=some (.cells [.arr m3 0 t.length]))(h3:ob m3=some (.win 2 (t.map DtId.cells)))(hn:l.length≤1048576)(hm:∀x∈l,InstSm x)(hp:InstsP l)(hs3:∀x∈p,(instAt l x).fStatus=3)(hpn:p.length≤1048576)(htn:t.length≤1048576):∃fs,INL Tryz.prog 46 fs ob [.sl 2 (p.map DtId.cells),.ptr m1 0,.ptr m2 0] (KQ (.g (.bool (decB (FreeP l p t)))) ob):=by
 refine znj Tryz.func46 (by rfl) (by rfl) (by rw [Tryz.ntmps46];exact Nat.le_of_ble_eq_true rfl) (by rfl) (hok) λfs=>?_
 rw [Tryz.ntmps46]
 refine AW_k [(0,_),(1,_),(2,_)] ⟨rfl,rfl,rfl,trivial⟩ ?_
 refine AW_x rfl rfl λK hK=>?_
 simp (disch:=omega) [zG13,DtId.cells,List.range_succ,zbx,zcm,tupA,noTup,h1,h2,h3,zbh,zbv,and_assoc]
 repeat' first|(refine ⟨by omega,?_⟩)|(intro _)
 refine hK _ ?_;clear hK K
 refine AW_x rfl rfl λK hK=>?_
 simp (disch:=omega) [zG13,DtId.cells,List.range_succ,zbx,zcm,tupA,noTup,h1,h2,h3,zbh,zbv,and_assoc]
 repeat' first|(exfalso;omega)|(refine zcx (zbc zbw (zbc zbw (zbc zbw zbi))) (zp1 l p t hn hm hp hs3 hpn htn) rfl ?_;simp (disch:=omega) [zG13,DtId.cells,List.range_succ,zbx,zcm,tupA,noTup,h1,h2,h3,zbh,zbv,and_assoc])|(refine zcy (zp1 l p t hn hm hp hs3 hpn htn) (by rfl) ?_ ?_;(focus (simp (disch:=omega) [zG13,DtId.cells,List.range_succ,zbx,zcm,tupA,noTup,h1,h2,h3,zbh,zbv,and_assoc,zbh];done));simp (disch:=omega) [zG13,DtId.cells,List.range_succ,zbx,zcm,tupA,noTup,h1,h2,h3,zbh,zbv,and_assoc])|(refine ⟨by omega,?_⟩)|(simp (disch:=omega) [zG13,DtId.cells,List.range_succ,zbx,zcm,tupA,noTup,h1,h2,h3,zbh,zbv,and_assoc])|(intro _)
 refine hK _ ?_;clear hK K
 refine zbr (znk ?_)
 simp (disch:=omega) [zG13,DtId.cells,List.range_succ,zbx,zcm,tupA,noTup,h1,h2,h3,zbh,zbv,and_assoc]
 all_goals trace_state
end Go.Proofs.YtodmafgmdlkhoaaGreat.Vs
end
section
open Go Go.Proofs Go.Proofs.YtodmafgmdlkhoaaGreat.Vs
namespace Go.Proofs.YtodmafgmdlkhoaaGreat.Vs
set_option linter.all false
set_option linter.unusedSimpArgs false
set_option linter.unusedVariables false
set_option maxRecDepth 100000
theorem zfv{l:List DtInst}(hp:InstsP l)(id:DtId):(reachL l id).length≤18:=by
 have:=zc3 hp id
 exact zzf ⟨this.1,λx hx=>zwx hp ((this.2 x).1 hx)⟩
def zG15:=And.intro @List.range_succ (And.intro @zbp @zb0)
def zG16:=And.intro @zbp (And.intro @zb0 (And.intro @zbt @zbv))
theorem zth(l:List DtInst)(id:DtId)(hs:szS DtInst.sz l≤1048576)(hn:l.length≤1048576)(hm:∀x∈l,InstSm x)(hp:InstsP l):XCall Tryz.prog 10 [.sl 16 (l.map DtInst.cells),.agg (DtId.cells id)] [] (.g (.bool (decB (RdyP l id)))) [] []:=by
 have hpb:=zcb hp
 have hrl:=zfv hp id
 have hri:=zzg hp id
 refine zb5 Tryz.func10 (by rfl) (by rfl) (by rw [Tryz.ntmps10];exact Nat.le_of_ble_eq_true rfl) rfl (by simp) rfl rfl ?_
 rw [Tryz.ntmps10]
 refine zfl   ?_
 refine AW_k [(0,_),(1,_)] ⟨rfl,rfl,trivial⟩ ?_
 refine AW_x rfl rfl λK hK=>?_
 simp (disch:=omega) [zG13,DtInst.cells,DtCmd.cells,DtId.cells,zbh,zbv,and_assoc,zcj,zbb,zbf]
 repeat' first|(refine ⟨by omega,?_⟩)|(intro _)
 refine hK _ ?_;clear hK K
 refine zbj ?_
 refine AW_x rfl rfl λK hK=>?_
 simp (disch:=omega) [zG13,DtInst.cells,DtCmd.cells,DtId.cells,zbh,zbv,and_assoc,zcj,zbb,zbf]
 repeat' first|(exfalso;omega)|(refine zcx (zbc zbw zbi) (zct _ (by assumption)) rfl ?_;simp (disch:=omega) [zG13,DtInst.cells,DtCmd.cells,DtId.cells,zbh,zbv,and_assoc,zcj,zbb,zbf])|(refine zcy (zct _ (by assumption)) (by rfl) ?_ ?_;(focus (simp (disch:=omega) [zG13,DtInst.cells,DtCmd.cells,DtId.cells,zbh,zbv,and_assoc,zcj,zbb,zbf,zbh];done));simp (disch:=omega) [zG13,DtInst.cells,DtCmd.cells,DtId.cells,zbh,zbv,and_assoc,zcj,zbb,zbf])|(refine ⟨by omega,?_⟩)|(simp (disch:=omega) [zG13,DtInst.cells,DtCmd.cells,DtId.cells,zbh,zbv,and_assoc,zcj,zbb,zbf])|(intro _)
 refine hK _ ?_;clear hK K
 refine zbm rfl (λhc1=>?_) (λhc1=>?_)
 ·try simp [zG14,zbe,zbd] at hc1
  all_goals
   refine AW_x rfl rfl λK hK=>?_
   simp (disch:=omega) [zG13,DtInst.cells,DtCmd.cells,DtId.cells,zbh,zbv,and_assoc,zcj,zbb,zbf]
   repeat' first|(exfalso;omega)|(refine ⟨λ_=>?_,λ_=>?_⟩)|(refine ⟨by omega,?_⟩)|(simp (disch:=omega) [zG13,DtInst.cells,DtCmd.cells,DtId.cells,zbh,zbv,and_assoc,zcj,zbb,zbf])|(intro _)
   all_goals (refine hK _ ?_;clear hK K)
   all_goals
    refine zbr (zc2 [] [] (by simp [zG15,zbt]) (by simp) ?_)
    simp (disch:=omega) [zG13,DtInst.cells,DtCmd.cells,DtId.cells,zbh,zbv,and_assoc,zcj,zbb,zbf,hpb]
    all_goals first|(exfalso;exact absurd hp (by assumption)) | exact hri.2 λj x hx=>hpre j x (by have:=(List.getElem?_eq_some_iff.1 hx).1;simp at this;omega) (by rw [hys];exact hx) | exact λh=>hc3 (hri.1 h i _ (by rw [←hys];exact hgx)) | trace_state
 ·try simp [zG14,zbe,zbd] at hc1
  all_goals
   refine zbn ?_
   refine zbq ?_
   refine zbj ?_
   refine AW_d rfl mix (by kernel_rfl) (by kernel_rfl) λK hK=>?_
   simp (disch:=omega) [zG13,DtInst.cells,DtCmd.cells,DtId.cells,zbh,zbv,and_assoc,zcj,zbb,zbf]
   repeat' first|(exfalso;omega)|(refine DKd_y [] true [] (ztg l id hs hn hm hp) ?_ (λst' hst=>?_) ?_;(focus (simp [List.range_succ,nmC];done));(focus (simp (disch:=omega) [zG13,DtInst.cells,DtCmd.cells,DtId.cells,zbh,zbv,and_assoc,zcj,zbb,zbf,nmC,List.range_succ] at hst;simp (disch:=omega) [zG13,DtInst.cells,DtCmd.cells,DtId.cells,zbh,zbv,and_assoc,zcj,zbb,zbf,hst,zbh,nmC,List.range_succ];done));simp (disch:=omega) [zG13,DtInst.cells,DtCmd.cells,DtId.cells,zbh,zbv,and_assoc,zcj,zbb,zbf])|(refine ⟨λ_=>?_,λ_=>?_⟩)|(refine ⟨by omega,?_⟩)|(simp (disch:=omega) [zG13,DtInst.cells,DtCmd.cells,DtId.cells,zbh,zbv,and_assoc,zcj,zbb,zbf])|(intro _)
   all_goals (refine hK _ _ (by kernel_rfl) ?_;clear hK K)
   all_goals
    refine zbl ?_
    refine zby (λmM sS=>∃(i:Nat) (ys:List DtId),mM=ys.length-i∧(i≤ys.length∧ys=reachL l id++[id]∧∀(j:Nat) x,j<i→ys[j]? = some x→(instAt l x).fStatus=3)∧sS = { env:=lkE [(0,.sl 16 (l.map DtInst.cells)),(15,.arr 501 0 ys.length),(16,(.g (.int .i64 ((ys.length:Nat))))),(17,(.g (.int .i64 ((i:Nat)))))],ob:=lk [(501,.win 2 (ys.map DtId.cells))] }) ?_ ?_
    ·refine ⟨_,LeS.kx [(501,256)] [(0,.sl 16 (l.map DtInst.cells)),(15,.arr 501 0 (reachL l id++[id]).length),(16,(.g (.int .i64 (((reachL l id++[id]).length:Nat))))),(17,(.g (.int .i64 (((0):Nat)))))] [(501,.win 2 ((reachL l id++[id]).map DtId.cells))] (by simp [zG16,KpR,renV2,renV,zbk,DtId.cells];try rfl) (by simp [zG16,KpOX,renO,plO,cvO,renV,pl1,DtId.cells];try rfl) (by rfl) (by simp) (by simp) (by rfl) (by simp [zG15,formsX]),_,0,reachL l id++[id],rfl,?_,rfl⟩
     ·simp
    ·rintro mM sS ⟨i,ys,rfl,⟨hi,hys,hpre⟩,rfl⟩
     have hyl:ys.length=(reachL l id).length+1:=by rw [hys];simp
     refine AW_x rfl rfl λK hK=>?_
     simp (disch:=omega) [zG13,DtInst.cells,DtCmd.cells,DtId.cells,zbh,zbv,and_assoc,zcj,zbb,zbf]
     repeat' first|(refine ⟨by omega,?_⟩)|(intro _)
     refine hK _ ?_;clear hK K
     refine zbj ?_
     refine zbm rfl (λhc2=>?_) (λhc2=>?_)
     ·try simp [zG14,zbe,zbd] at hc2
      all_goals
       have hgx:ys[i]? = some ys[i]:=List.getElem?_eq_getElem (by omega)
       refine zbn ?_
       refine zbq ?_
       refine zbj ?_
       refine zbl ?_
       refine AW_x rfl rfl λK hK=>?_
       simp (disch:=omega) [zG13,DtInst.cells,DtCmd.cells,DtId.cells,zbh,zbv,and_assoc,zcj,zbb,zbf]
       repeat' first|(exfalso;omega)|(refine ⟨λ_=>?_,λ_=>?_⟩)|(refine ⟨by omega,?_⟩)|(simp (disch:=omega) [zG13,DtInst.cells,DtCmd.cells,DtId.cells,zbh,zbv,and_assoc,zcj,zbb,zbf])|(intro _)
       all_goals (refine hK _ ?_;clear hK K)
       all_goals
        refine AW_x rfl rfl λK hK=>?_
        simp (disch:=omega) [zG13,DtInst.cells,DtCmd.cells,DtId.cells,zbh,zbv,and_assoc,zcj,zbb,zbf]
        repeat' first|(exfalso;omega)|(refine zcx (zbc zbw (zbc (zbu rfl) zbi)) (zfu _ _ (by assumption) (by assumption)) rfl ?_;simp (disch:=omega) [zG13,DtInst.cells,DtCmd.cells,DtId.cells,zbh,zbv,and_assoc,zcj,zbb,zbf])|(refine zcy (zfu _ _ (by assumption) (by assumption)) (by rfl) ?_ ?_;(focus (simp (disch:=omega) [zG13,DtInst.cells,DtCmd.cells,DtId.cells,zbh,zbv,and_assoc,zcj,zbb,zbf,zbh];done));simp (disch:=omega) [zG13,DtInst.cells,DtCmd.cells,DtId.cells,zbh,zbv,and_assoc,zcj,zbb,zbf])|(refine ⟨by omega,?_⟩)|(simp (disch:=omega) [zG13,DtInst.cells,DtCmd.cells,DtId.cells,zbh,zbv,and_assoc,zcj,zbb,zbf])|(intro _)
        refine hK _ ?_;clear hK K
        refine zbm rfl (λhc3=>?_) (λhc3=>?_)
        ·try simp [zG14,zbe,zbd] at hc3
         all_goals
          refine AW_x rfl rfl λK hK=>?_
          simp (disch:=omega) [zG13,DtInst.cells,DtCmd.cells,DtId.cells,zbh,zbv,and_assoc,zcj,zbb,zbf]
          repeat' first|(exfalso;omega)|(refine ⟨λ_=>?_,λ_=>?_⟩)|(refine ⟨by omega,?_⟩)|(simp (disch:=omega) [zG13,DtInst.cells,DtCmd.cells,DtId.cells,zbh,zbv,and_assoc,zcj,zbb,zbf])|(intro _)
          all_goals (refine hK _ ?_;clear hK K)
          all_goals
           refine zbr (zc2 [] [] (by simp [zG15,zbt]) (by simp) ?_)
           simp (disch:=omega) [zG13,DtInst.cells,DtCmd.cells,DtId.cells,zbh,zbv,and_assoc,zcj,zbb,zbf,hpb]
           all_goals first|(exfalso;exact absurd hp (by assumption)) | exact hri.2 λj x hx=>hpre j x (by have:=(List.getElem?_eq_some_iff.1 hx).1;simp at this;omega) (by rw [hys];exact hx) | exact λh=>hc3 (hri.1 h i _ (by rw [←hys];exact hgx)) | trace_state
        ·try simp [zG14,zbe,zbd] at hc3
         all_goals
          refine zbn ?_
          refine zbq ?_
          refine zcc rfl rfl λK hK=>?_
          simp (disch:=omega) [zG13,DtInst.cells,DtCmd.cells,DtId.cells,zbh,zbv,and_assoc,zcj,zbb,zbf]
          repeat' first|(exfalso;omega)|(refine ⟨λ_=>?_,λ_=>?_⟩)|(refine ⟨by omega,?_⟩)|(simp (disch:=omega) [zG13,DtInst.cells,DtCmd.cells,DtId.cells,zbh,zbv,and_assoc,zcj,zbb,zbf])|(intro _)
          all_goals (refine hK _ ?_;clear hK K)
          all_goals
           refine ⟨_,LeS.kx [(501,501)] [(0,.sl 16 (l.map DtInst.cells)),(15,.arr 501 0 (ys).length),(16,(.g (.int .i64 (((ys).length:Nat))))),(17,(.g (.int .i64 (((i+1):Nat)))))] [(501,.win 2 ((ys).map DtId.cells))] (by simp [zG16,KpR,renV2,renV,zbk,DtId.cells];try rfl) (by simp [zG16,KpOX,renO,plO,cvO,renV,pl1,DtId.cells];try rfl) (by rfl) (by simp) (by simp) (by rfl) (by simp [zG15,formsX]),_,?_,i+1,ys,rfl,?_,rfl⟩
           ·omega
           ·refine ⟨by omega,hys,λj x hj hx=>?_⟩;by_cases hji:j=i
            ·subst hji;rw [hgx] at hx;cases hx;assumption
            ·exact hpre j x (by omega) hx
     ·try simp [zG14,zbe,zbd] at hc2
      all_goals
       refine zb3 ?_
       refine zbq ?_
       refine AW_x rfl rfl λK hK=>?_
       simp (disch:=omega) [zG13,DtInst.cells,DtCmd.cells,DtId.cells,zbh,zbv,and_assoc,zcj,zbb,zbf]
       repeat' first|(exfalso;omega)|(refine ⟨λ_=>?_,λ_=>?_⟩)|(refine ⟨by omega,?_⟩)|(simp (disch:=omega) [zG13,DtInst.cells,DtCmd.cells,DtId.cells,zbh,zbv,and_assoc,zcj,zbb,zbf])|(intro _)
       all_goals (refine hK _ ?_;clear hK K)
       all_goals
        refine zbr (zc2 [] [] (by simp [zG15,zbt]) (by simp) ?_)
        simp (disch:=omega) [zG13,DtInst.cells,DtCmd.cells,DtId.cells,zbh,zbv,and_assoc,zcj,zbb,zbf,hpb]
        all_goals first|(exfalso;exact absurd hp (by assumption)) | exact hri.2 λj x hx=>hpre j x (by have:=(List.getElem?_eq_some_iff.1 hx).1;simp at this;omega) (by rw [hys];exact hx) | exact λh=>hc3 (hri.1 h i _ (by rw [←hys];exact hgx)) | trace_state
end Go.Proofs.YtodmafgmdlkhoaaGreat.Vs
end
section
open Go Go.Proofs.YtodmafgmdlkhoaaGreat.Vs Go.Proofs Go.Sort
namespace Go.Proofs.YtodmafgmdlkhoaaGreat.Vs
set_option linter.all false
set_option linter.unusedSimpArgs false
set_option linter.unusedVariables false
set_option maxRecDepth 100000
/-! a part, as the program makes it -/
theorem zh7(l:List DtInst)(id:DtId)(hs:szS DtInst.sz l≤1048576)(hn:l.length≤1048576)(hm:∀x∈l,InstSm x)(hp:InstsP l):PCall Tryz.prog 13 [.sl 16 (l.map DtInst.cells),.agg (DtId.cells id)] (.sl 2 ((reachL l id).map DtId.cells)) :=
 zjz (ztg l id hs hn hm hp) (by simp)
theorem seqL_b{l:List DtInst}(hp:InstsP l)(x:DtId):0≤seqL l x∧seqL l x≤60:=by
 unfold seqL
 rcases zhd l x with ⟨hm,-⟩ | e
 ·have:=zfb hp hm
  exact ⟨this.2.2.2.2.2.2.2.2.1,this.2.2.2.2.2.2.2.2.2.1⟩
 ·rw [e];simp [zeroInst]
theorem part1(l:List DtInst)(a b:DtId)(hn:l.length≤1048576)(hm:∀x∈l,InstSm x)(hp:InstsP l):GCall Tryz.prog 100 [.agg (DtId.cells a),.agg (DtId.cells b),.ptr 0 0] [[.sl 16 (l.map DtInst.cells)]] [] (.g (.int .i64 (cmpS l a b))) []:=by
 have ha:=seqL_b hp a
 have hb:=seqL_b hp b
 have ea:(instAt l a).fSeq=seqL l a:=rfl
 have eb:(instAt l b).fSeq=seqL l b:=rfl
 refine zbo Tryz.func100 (by rfl) (by rfl) (by rw [Tryz.ntmps100];exact Nat.le_of_ble_eq_true rfl) rfl (by decide) ?_
 rw [Tryz.ntmps100]
 refine AW_k [(0,_),(1,_),(2,_)] ⟨rfl,rfl,rfl,trivial⟩ ?_
 refine AW_r rfl rfl λK hK=>?_
 simp (disch:=omega) [zG13,DtInst.cells,DtCmd.cells,DtId.cells]
 repeat' first|(refine ⟨by omega,?_⟩)|(intro _)
 refine hK _ ?_;clear hK K
 refine AW_q rfl mix (by kernel_rfl) rfl λK hK=>?_
 simp (disch:=omega) [zG13,DtInst.cells,DtCmd.cells,DtId.cells]
 repeat' first|(exfalso;omega)|(refine zcg (zbc zbw (zbc (zbu rfl) zbi)) (zfu l _ (by assumption) (by assumption)) rfl ?_;simp (disch:=omega) [zG13,DtInst.cells,DtCmd.cells,DtId.cells])|(refine ⟨by omega,?_⟩)|(intro _)
 refine hK _ ?_;clear hK K
 refine zbj ?_
 refine AW_r rfl rfl λK hK=>?_
 simp (disch:=omega) [zG13,DtInst.cells,DtCmd.cells,DtId.cells]
 repeat' first|(refine ⟨by omega,?_⟩)|(intro _)
 refine hK _ ?_;clear hK K
 refine zbm rfl (λhc1=>?_) (λhc1=>?_)
 ·try simp [zG14,zbe,zbd] at hc1
  all_goals
   refine AW_r rfl rfl λK hK=>?_
   simp (disch:=omega) [zG13,DtInst.cells,DtCmd.cells,DtId.cells]
   repeat' first|(exfalso;omega)|(refine ⟨λ_=>?_,λ_=>?_⟩)|(refine ⟨by omega,?_⟩)|(intro _)
   all_goals (refine hK _ ?_;clear hK K)
   all_goals
    refine zbr (zb6 ?_)
    simp (disch:=omega) [zG13,DtInst.cells,DtCmd.cells,DtId.cells]
    all_goals first|(unfold cmpS;rw [decide_eq_false (by omega),cond_false,ea,eb];done)|(unfold cmpS;rw [decide_eq_true (by omega),cond_true];done) | trace_state
 ·try simp [zG14,zbe,zbd] at hc1
  all_goals
   refine zbn ?_
   refine zbq ?_
   refine AW_r rfl rfl λK hK=>?_
   simp (disch:=omega) [zG13,DtInst.cells,DtCmd.cells,DtId.cells]
   repeat' first|(exfalso;omega)|(refine zcg (zbc (zbu rfl) (zbc (zbu rfl) zbi)) (zhv _ _) rfl ?_;simp (disch:=omega) [zG13,DtInst.cells,DtCmd.cells,DtId.cells])|(refine ⟨λ_=>?_,λ_=>?_⟩)|(refine ⟨by omega,?_⟩)|(intro _)
   all_goals (refine hK _ ?_;clear hK K)
   all_goals
    refine zbr (zb6 ?_)
    simp (disch:=omega) [zG13,DtInst.cells,DtCmd.cells,DtId.cells]
    all_goals first|(unfold cmpS;rw [decide_eq_false (by omega),cond_false,ea,eb];done)|(unfold cmpS;rw [decide_eq_true (by omega),cond_true];done) | trace_state
instance:Inhabited DtId:=⟨⟨0,0⟩⟩
theorem swo_S(l:List DtInst):SWO (ltOf (cmpS l)):=by
 have hl:∀a b,ltOf (cmpS l) a b=decB (sLt l a b):=λa b=>by
  rw [Bool.eq_iff_iff,zbb,←zw4]
  unfold ltOf
  simp
 refine ⟨λx=>?_,λx y z h1 h2=>?_,λx y z h1 h2=>?_⟩
 ·rw [hl,zbf];exact znq l x
 ·rw [hl,zbb] at h1 h2 ⊢;exact zhe h1 h2
 ·rw [hl,zbf] at h1 h2 ⊢
  intro h
  by_cases e:y=x
  ·subst e;exact h2 h
  ·exact h2 (zhe (zw3 h1 (λe2=>e e2.symm)) h)
theorem sortPart(l:List DtInst)(hn:l.length≤1048576)(hm:∀x∈l,InstSm x)(hp:InstsP l)(o:List DtId)(ho:o.length≤1048576):XCall Tryz.prog 38 [.arr 9 0 o.length,.fn 100 [] [.ptr 8 0]] [.cells [.sl 16 (l.map DtInst.cells)],.own 2 (o.map DtId.cells)] (.tup []) [.cells [.sl 16 (l.map DtInst.cells)],.own 2 ((srt (cmpS l) o).map DtId.cells)] []:=by
 refine sortFX1_of (enc:=encId) (λ_=>rfl) (λx v hv=>?_) (cf:=cmpS l) ⟨_,Tryz.func38,by kernel_rfl,by kernel_rfl⟩ (λcb blk cap d w hcmp hH hblk hsz=>?_) (λp cap fv w=>?_) rfl (λx y=>?_) o ho
 ·simp only [encId,List.mem_cons,List.not_mem_nil,or_false] at hv
  rcases hv with rfl | rfl<;>rfl
 ·exact Go.Proofs.AnyQ.slices_SortFunc_total Tryz.laysSort 2 (fun w => Tryz.isAgg31 w) (fun w => Tryz.sizeOf31 w) encId (fun _ => rfl) (fun x v hv => by
   simp only [encId,List.mem_cons,List.not_mem_nil,or_false] at hv
   rcases hv with rfl | rfl<;>rfl) (cmpS l) (swo_S l) _ cb blk 0 cap d w (λargs w=>enters_of Tryz.func100 (by kernel_rfl) rfl args w) hcmp hH hblk hsz (λx y h1 h2=>by
    have hl:∀a b,ltOf (cmpS l) a b=decB (sLt l a b):=λa b=>by
     rw [Bool.eq_iff_iff,zbb,←zw4]
     unfold ltOf
     simp
    rw [hl,zbf] at h1 h2
    exact Classical.byContradiction λh=>h2 (zw3 h1 h))
 ·exact Go.Proofs.AnyF.slices_SortFunc_none Tryz.laysSort p cap fv w
 ·exact part1 l x y hn hm hp
theorem ax2_fp(q:Bool)(st:St)(hs Z:List Nat)(g g':FuncId)(n m o o':Nat):ax2 q st hs Z (.fn g [] [.ptr n o]) (.fn g' [] [.ptr m o'])=(g'=g∧nuX hs m=some n∧o'=o):=by
 apply propext
 constructor
 ·intro h
  obtain ⟨h1,-,h2,-⟩:=h
  exact ⟨h1,h2.1,h2.2⟩
 ·rintro ⟨h1,h2,h3⟩
  exact ⟨h1,rfl,⟨h2,h3⟩,rfl⟩
noncomputable def ptT(l:List DtInst)(id:DtId)(i:Nat):List DtId:=id :: ((reachL l id).take i).filter λd=>!(eqB d id)&&decB (id∈reachL l d)
theorem ptT_0(l:List DtInst)(id:DtId):ptT l id 0=[id]:=by unfold ptT;simp
theorem ptT_e(l:List DtInst)(id:DtId)(i:Nat)(h:(reachL l id).length≤i):ptT l id i=out0 l id:=by unfold ptT out0;rw [List.take_of_length_le h]
theorem ptT_len(l:List DtInst)(id:DtId)(i:Nat):(ptT l id i).length≤i+1:=by
 unfold ptT
 have:=List.length_filter_le (λd=>!(eqB d id)&&decB (id∈reachL l d)) ((reachL l id).take i)
 rw [List.length_take] at this
 simp only [List.length_cons]
 omega
theorem ptT_s(l:List DtInst)(id:DtId)(i:Nat)(h:i<(reachL l id).length):(¬(reachL l id)[i]=id∧id∈reachL l (reachL l id)[i]→ptT l id (i+1)=ptT l id i++[(reachL l id)[i]])∧(¬(¬(reachL l id)[i]=id∧id∈reachL l (reachL l id)[i])→ptT l id (i+1)=ptT l id i):=by
 unfold ptT
 rw [List.take_succ_eq_append_getElem h,List.filter_append,←List.cons_append]
 constructor
 ·rintro ⟨h1,h2⟩
  rw [List.filter_cons_of_pos (by rw [zf9 h1,zcb h2];rfl)]
  rfl
 ·intro hn
  rw [List.filter_cons_of_neg (by
   intro hh
   rw [Bool.and_eq_true,Bool.not_eq_true',zbd,zbb] at hh
   exact hn hh)]
  simp
def zG17:=And.intro @zb4 (And.intro @gE (And.intro @tP (And.intro @zbh (And.intro @zbv (And.intro @and_assoc (And.intro @zbb (And.intro @zbf (And.intro @zbs @ax2_fp))))))))
theorem implPart(l:List DtInst)(id:DtId)(hs:szS DtInst.sz l≤1048576)(hn:l.length≤1048576)(hm:∀x∈l,InstSm x)(hp:InstsP l):XCall Tryz.prog 44 [.sl 16 (l.map DtInst.cells),.agg (DtId.cells id)] [] (.arr 16 0 (partL l id).length) [] [.own 2 ((partL l id).map DtId.cells)]:=by
 have hrl:=zfv hp id
 refine zb5 Tryz.func44 (by rfl) (by rfl) (by rw [Tryz.ntmps44];exact Nat.le_of_ble_eq_true rfl) rfl (by simp) rfl rfl ?_
 rw [Tryz.ntmps44]
 refine zfl   ?_
 refine AW_k [(0,_),(1,_)] ⟨rfl,rfl,trivial⟩ ?_
 refine AW_x rfl rfl λK hK=>?_
 simp (disch:=omega) [zG17,DtInst.cells,DtCmd.cells,DtId.cells]
 repeat' first|(refine ⟨by omega,?_⟩)|(intro _)
 refine hK _ ?_;clear hK K
 refine AW_x rfl rfl λK hK=>?_
 simp (disch:=omega) [zG17,DtInst.cells,DtCmd.cells,DtId.cells]
 repeat' first|(refine ⟨by omega,?_⟩)|(simp (disch:=omega) [zG17,DtInst.cells,DtCmd.cells,DtId.cells])|(intro _)
 refine hK _ ?_;clear hK K
 refine zbj ?_
 refine AW_x rfl rfl λK hK=>?_
 simp (disch:=omega) [zG17,DtInst.cells,DtCmd.cells,DtId.cells]
 repeat' first|(exfalso;omega)|(refine zcx (zbc zbw (zbc (zbu rfl) zbi)) (zh7 l id hs hn hm hp) rfl ?_;simp (disch:=omega) [zG17,DtInst.cells,DtCmd.cells,DtId.cells])|(refine zcy (zh7 l id hs hn hm hp) (by rfl) ?_ ?_;(focus (simp (disch:=omega) [zG17,DtInst.cells,DtCmd.cells,DtId.cells];done));simp (disch:=omega) [zG17,DtInst.cells,DtCmd.cells,DtId.cells])|(refine zcx (zbc zbw (zbc (zbu rfl) zbi)) (zh7 l (reachL l id)[i] hs hn hm hp) rfl ?_;simp (disch:=omega) [zG17,DtInst.cells,DtCmd.cells,DtId.cells])|(refine zcy (zh7 l (reachL l id)[i] hs hn hm hp) (by rfl) ?_ ?_;(focus (simp (disch:=omega) [zG17,DtInst.cells,DtCmd.cells,DtId.cells];done));simp (disch:=omega) [zG17,DtInst.cells,DtCmd.cells,DtId.cells])|(refine ⟨by omega,?_⟩)|(simp (disch:=omega) [zG17,DtInst.cells,DtCmd.cells,DtId.cells])|(intro _)
 refine hK _ ?_;clear hK K
 refine zbl ?_
 refine zby (λmM sS=>∃(i:Nat),mM=(reachL l id).length-i∧(i≤(reachL l id).length)∧sS = { env:=lkE [(2,.ptr 48 0),(3,.ptr 64 0),(5,.arr 501 0 (ptT l id i).length),(12,.sl 2 ((reachL l id).map DtId.cells)),(13,(.g (.int .i64 (((reachL l id).length:Nat))))),(14,(.g (.int .i64 ((i:Nat)))))],ob:=lk [(48,.cells [.sl 16 (l.map DtInst.cells)]),(64,.cells (DtId.cells id)),(501,.win 2 ((ptT l id i).map DtId.cells))] }) ?_ ?_
 ·refine ⟨_,LeS.kx [(48,48),(64,64),(501,160)] [(2,.ptr 48 0),(3,.ptr 64 0),(5,.arr 501 0 (ptT l id (0)).length),(12,.sl 2 ((reachL l id).map DtId.cells)),(13,(.g (.int .i64 (((reachL l id).length:Nat))))),(14,(.g (.int .i64 (((0):Nat)))))] [(48,.cells [.sl 16 (l.map DtInst.cells)]),(64,.cells (DtId.cells id)),(501,.win 2 ((ptT l id (0)).map DtId.cells))] (by simp [zG16,KpR,renV2,renV,zbk,DtId.cells,ptT_0];try (first|(rw [hsx];done)|(rw [hsx];simp;done))) (by simp [zG16,KpOX,renO,plO,cvO,renV,pl1,DtId.cells,ptT_0];try (first|(rw [hsx];done)|(rw [hsx];simp [DtId.cells];done))) (by rfl) (by simp) (by simp) (by rfl) (by simp [zG15,formsX]),_,0,rfl,?_,rfl⟩
  ·simp
 ·rintro mM sS ⟨i,rfl,hi,rfl⟩
  have hpl:=ptT_len l id i
  refine AW_x rfl rfl λK hK=>?_
  simp (disch:=omega) [zG17,DtInst.cells,DtCmd.cells,DtId.cells]
  repeat' first|(refine ⟨by omega,?_⟩)|(intro _)
  refine hK _ ?_;clear hK K
  refine zbj ?_
  refine zbm rfl (λhc2=>?_) (λhc2=>?_)
  ·try simp [zG14,zbe,zbd] at hc2
   all_goals
    have hps:=ptT_s l id i (by omega)
    have hrl2:=zfv hp (reachL l id)[i]
    have hxe:=zd4 (reachL l id)[i] id
    refine zbn ?_
    refine zbq ?_
    refine zbj ?_
    refine zbl ?_
    refine AW_x rfl rfl λK hK=>?_
    simp (disch:=omega) [zG17,DtInst.cells,DtCmd.cells,DtId.cells]
    repeat' first|(exfalso;omega)|(refine ⟨λ_=>?_,λ_=>?_⟩)|(refine ⟨by omega,?_⟩)|(simp (disch:=omega) [zG17,DtInst.cells,DtCmd.cells,DtId.cells])|(intro _)
    all_goals (refine hK _ ?_;clear hK K)
    all_goals
     refine AW_d rfl mix (by kernel_rfl) (by kernel_rfl) λK hK=>?_
     simp (disch:=omega) [zG17,DtInst.cells,DtCmd.cells,DtId.cells]
     repeat' first|(exfalso;omega)|(refine zd9 (λst'=>(zbc zbw (zbc (zbu rfl) zbi))) (zh7 l id hs hn hm hp) rfl ?_;simp (disch:=omega) [zG17,DtInst.cells,DtCmd.cells,DtId.cells])|(refine zfa (zh7 l id hs hn hm hp) (by rfl) (λst' hst=>?_) ?_;(focus (simp (disch:=omega) [zG17,DtInst.cells,DtCmd.cells,DtId.cells] at hst;simp (disch:=omega) [zG17,DtInst.cells,DtCmd.cells,DtId.cells,hst];done));simp (disch:=omega) [zG17,DtInst.cells,DtCmd.cells,DtId.cells])|(refine zd9 (λst'=>(zbc zbw (zbc (zbu rfl) zbi))) (zh7 l (reachL l id)[i] hs hn hm hp) rfl ?_;simp (disch:=omega) [zG17,DtInst.cells,DtCmd.cells,DtId.cells])|(refine zfa (zh7 l (reachL l id)[i] hs hn hm hp) (by rfl) (λst' hst=>?_) ?_;(focus (simp (disch:=omega) [zG17,DtInst.cells,DtCmd.cells,DtId.cells] at hst;simp (disch:=omega) [zG17,DtInst.cells,DtCmd.cells,DtId.cells,hst];done));simp (disch:=omega) [zG17,DtInst.cells,DtCmd.cells,DtId.cells])|(refine zd9 (λst'=>(zbc zbw (zbc (zbu rfl) zbi))) (zdy _ _ (by omega)) rfl ?_;simp (disch:=omega) [zG17,DtInst.cells,DtCmd.cells,DtId.cells])|(refine zfa (zdy _ _ (by omega)) (by rfl) (λst' hst=>?_) ?_;(focus (simp (disch:=omega) [zG17,DtInst.cells,DtCmd.cells,DtId.cells] at hst;simp (disch:=omega) [zG17,DtInst.cells,DtCmd.cells,DtId.cells,hst];done));simp (disch:=omega) [zG17,DtInst.cells,DtCmd.cells,DtId.cells])|(refine ⟨λ_=>?_,λ_=>?_⟩)|(refine ⟨by omega,?_⟩)|(simp (disch:=omega) [zG17,DtInst.cells,DtCmd.cells,DtId.cells])|(intro _)
     all_goals (refine hK _ _ (by kernel_rfl) ?_;clear hK K)
     all_goals
      refine zbm rfl (λhc3=>?_) (λhc3=>?_)
      ·try simp [zG14,zbe,zbd] at hc3
       all_goals
        refine zcc rfl rfl λK hK=>?_
        simp (disch:=omega) [zG17,DtInst.cells,DtCmd.cells,DtId.cells]
        repeat' first|(exfalso;omega)|(refine ⟨λ_=>?_,λ_=>?_⟩)|(refine ⟨by omega,?_⟩)|(simp (disch:=omega) [zG17,DtInst.cells,DtCmd.cells,DtId.cells])|(intro _)
        all_goals (refine hK _ ?_;clear hK K)
        all_goals
         refine zbq ?_
         refine zcc rfl rfl λK hK=>?_
         simp (disch:=omega) [zG17,DtInst.cells,DtCmd.cells,DtId.cells]
         repeat' first|(refine ⟨by omega,?_⟩)|(intro _)
         refine hK _ ?_;clear hK K
         first | have hsx:=hps.1 (by grind) | have hsx:=hps.2 (by grind)
         refine ⟨_,LeS.kx [(48,48),(64,64),(501,512)] [(2,.ptr 48 0),(3,.ptr 64 0),(5,.arr 501 0 (ptT l id (i+1)).length),(12,.sl 2 ((reachL l id).map DtId.cells)),(13,(.g (.int .i64 (((reachL l id).length:Nat))))),(14,(.g (.int .i64 (((i+1):Nat)))))] [(48,.cells [.sl 16 (l.map DtInst.cells)]),(64,.cells (DtId.cells id)),(501,.win 2 ((ptT l id (i+1)).map DtId.cells))] (by simp [zG16,KpR,renV2,renV,zbk,DtId.cells,ptT_0];try (first|(rw [hsx];done)|(rw [hsx];simp;done))) (by simp [zG16,KpOX,renO,plO,cvO,renV,pl1,DtId.cells,ptT_0];try (first|(rw [hsx];done)|(rw [hsx];simp [DtId.cells];done))) (by rfl) (by simp) (by simp) (by rfl) (by simp [zG15,formsX]),_,?_,i+1,rfl,?_,rfl⟩
         ·omega
         ·omega
      ·try simp [zG14,zbe,zbd] at hc3
       all_goals
        refine zbn ?_
        refine zbq ?_
        refine zcc rfl rfl λK hK=>?_
        simp (disch:=omega) [zG17,DtInst.cells,DtCmd.cells,DtId.cells]
        repeat' first|(exfalso;omega)|(refine ⟨λ_=>?_,λ_=>?_⟩)|(refine ⟨by omega,?_⟩)|(simp (disch:=omega) [zG17,DtInst.cells,DtCmd.cells,DtId.cells])|(intro _)
        all_goals (refine hK _ ?_;clear hK K)
        all_goals
         first | have hsx:=hps.1 (by grind) | have hsx:=hps.2 (by grind)
         refine ⟨_,LeS.kx [(48,48),(64,64),(501,501)] [(2,.ptr 48 0),(3,.ptr 64 0),(5,.arr 501 0 (ptT l id (i+1)).length),(12,.sl 2 ((reachL l id).map DtId.cells)),(13,(.g (.int .i64 (((reachL l id).length:Nat))))),(14,(.g (.int .i64 (((i+1):Nat)))))] [(48,.cells [.sl 16 (l.map DtInst.cells)]),(64,.cells (DtId.cells id)),(501,.win 2 ((ptT l id (i+1)).map DtId.cells))] (by simp [zG16,KpR,renV2,renV,zbk,DtId.cells,ptT_0];try (first|(rw [hsx];done)|(rw [hsx];simp;done))) (by simp [zG16,KpOX,renO,plO,cvO,renV,pl1,DtId.cells,ptT_0];try (first|(rw [hsx];done)|(rw [hsx];simp [DtId.cells];done))) (by rfl) (by simp) (by simp) (by rfl) (by simp [zG15,formsX]),_,?_,i+1,rfl,?_,rfl⟩
         ·omega
         ·omega
  ·try simp [zG14,zbe,zbd] at hc2
   all_goals
    refine zb3 ?_
    refine zbq ?_
    refine AW_x rfl rfl λK hK=>?_
    simp (disch:=omega) [zG17,DtInst.cells,DtCmd.cells,DtId.cells]
    repeat' first|(exfalso;omega)|(refine zjy [48,501] false [] (sortPart l hn hm hp (ptT l id i) (by have:=ptT_len l id i;omega)) ?_ ?_ ?_;(focus (simp [List.range_succ,nmC];done));(focus (simp (disch:=omega) [zG17,DtInst.cells,DtCmd.cells,DtId.cells];done));simp (disch:=omega) [zG17,DtInst.cells,DtCmd.cells,DtId.cells])|(refine ⟨λ_=>?_,λ_=>?_⟩)|(refine ⟨by omega,?_⟩)|(simp (disch:=omega) [zG17,DtInst.cells,DtCmd.cells,DtId.cells])|(intro _)
    all_goals (refine hK _ ?_;clear hK K)
    all_goals
     refine AW_x rfl rfl λK hK=>?_
     simp (disch:=omega) [zG17,DtInst.cells,DtCmd.cells,DtId.cells]
     repeat' first|(refine ⟨by omega,?_⟩)|(intro _)
     refine hK _ ?_;clear hK K
     refine zbr (zc2 [501] [] (by simp [zG15,zbt]) (by simp) ?_)
     simp (disch:=omega) [zG17,DtInst.cells,DtCmd.cells,DtId.cells]
     all_goals first|(rw [ptT_e l id i (by omega)];exact ⟨znl (cmpS l) (out0 l id),rfl⟩) | trace_state
end Go.Proofs.YtodmafgmdlkhoaaGreat.Vs
end
section
open Go Go.Proofs Go.Proofs.YtodmafgmdlkhoaaGreat.Vs
namespace Go.Proofs.YtodmafgmdlkhoaaGreat.Vs
set_option linter.all false
set_option linter.unusedSimpArgs false
set_option linter.unusedVariables false
set_option maxRecDepth 100000
set_option maxHeartbeats 4000000
/-! a part, as the reference makes it -/
noncomputable def ixL(l:List DtInst)(x:DtId):Nat:=(cAt l x).toNat
theorem zrk{l:List DtInst}(hp:InstsP l){x:DtId}(h3:(instAt l x).fStatus=3):cAt l x=((ixL l x:Nat):Int)∧∃h:ixL l x<l.length,l[ixL l x]=instAt l x:=by
 rcases zrg hp x with ⟨-,-,h⟩ | ⟨i,hi,h1,h2,-,h4⟩
 ·exact absurd h3 h
 ·have e:ixL l x=i:=by unfold ixL;rw [h1];simp
  exact ⟨by rw [h1,e],by rw [e];exact hi,by rw [h4];congr 1⟩
structure InsI (l:List DtInst) (id:DtId) (i:Nat) (o:List DtId):Prop where
 pw:o.Pairwise (sLt l)
 mem:∀x,x∈o↔∃j y,j<i∧l[j]? = some y∧y.fId=x∧Same l id x
theorem insI_0(l:List DtInst)(id:DtId):InsI l id 0 []:=⟨List.Pairwise.nil,λx=>by simp⟩
theorem zti{l:List DtInst}{id:DtId}{i:Nat}{o:List DtId}(h:InsI l id i o)(hi:i<l.length)(hn:¬Same l id l[i].fId):InsI l id (i+1) o:=by
 refine ⟨h.pw,λx=>?_⟩
 rw [h.mem]
 constructor
 ·rintro ⟨j,y,h1,h2⟩;exact ⟨j,y,by omega,h2⟩
 ·rintro ⟨j,y,h1,h2,h3,h4⟩
  by_cases e:j=i
  ·subst e
   rw [List.getElem?_eq_getElem hi] at h2
   cases h2
   exact absurd (h3 ▸ h4) hn
  ·exact ⟨j,y,by omega,h2,h3,h4⟩
theorem insI_lt{l:List DtInst}(hp:InstsP l){id:DtId}{i:Nat}{o:List DtId}(h:InsI l id i o)(hi:i<l.length):∀x∈o,idLt x l[i].fId:=by
 intro x hx
 obtain ⟨j,y,h1,h2,rfl,-⟩:=(h.mem x).1 hx
 obtain ⟨hj,rfl⟩:=List.getElem?_eq_some_iff.1 h2
 have:=List.pairwise_iff_getElem.1 (zhz hp) j i (by simpa using hj) (by simpa using hi) h1
 simpa using this
theorem zzk{l:List DtInst}(hp:InstsP l){id:DtId}{i:Nat}{o:List DtId}(h:InsI l id i o)(hi:i<l.length)(hs:Same l id l[i].fId){k:Nat}(hk:k≤o.length)(h1:∀(j:Nat) x,k≤j→o[j]? = some x→seqL l l[i].fId<seqL l x)(h2:∀x,0<k→o[k-1]? = some x→seqL l x≤seqL l l[i].fId):InsI l id (i+1) (o.take k++l[i].fId :: o.drop k):=by
 have hlt:=insI_lt hp h hi
 have hpt:∀x∈o.take k,sLt l x l[i].fId:=by
  intro x hx
  obtain ⟨j,hj⟩:=List.getElem?_of_mem hx
  have hjk:j<k:=by have:=(List.getElem?_eq_some_iff.1 hj).1;rw [List.length_take] at this;omega
  rw [List.getElem?_take,if_pos hjk] at hj
  obtain ⟨hjo,rfl⟩:=List.getElem?_eq_some_iff.1 hj
  have hk1:k-1<o.length:=by omega
  have h3:=h2 o[k-1] (by omega) (List.getElem?_eq_getElem hk1)
  have h4:seqL l o[j]≤seqL l o[k-1]:=by
   by_cases e:j=k-1
   ·subst e;omega
   ·rcases List.pairwise_iff_getElem.1 h.pw j (k-1) hjo hk1 (by omega) with h5 | ⟨h5,-⟩<;>omega
  have h5:=hlt _ (List.getElem_mem hjo)
  by_cases e:seqL l o[j]=seqL l l[i].fId
  ·exact .inr ⟨e,h5⟩
  ·exact .inl (by omega)
 have hpd:∀x∈o.drop k,sLt l l[i].fId x:=by
  intro x hx
  obtain ⟨j,hj⟩:=List.getElem?_of_mem hx
  rw [List.getElem?_drop] at hj
  exact .inl (h1 (k+j) x (by omega) hj)
 refine ⟨List.pairwise_append.2 ⟨h.pw.sublist (List.take_sublist _ _),List.pairwise_cons.2 ⟨hpd,h.pw.sublist (List.drop_sublist _ _)⟩,λa ha b hb=>?_⟩,λx=>?_⟩
 ·rcases List.mem_cons.1 hb with rfl | hb
  ·exact hpt a ha
  ·exact zhe (hpt a ha) (hpd b hb)
 ·have e : x ∈ o.take k ++ l[i].fId :: o.drop k ↔ x ∈ o ∨ x = l[i].fId := by
   conv=>rhs;rw [←List.take_append_drop k o]
   simp only [List.mem_append,List.mem_cons]
   constructor
   ·rintro (h | h | h)
    ·exact .inl (.inl h)
    ·exact .inr h
    ·exact .inl (.inr h)
   ·rintro ((h | h) | h)
    ·exact .inl h
    ·exact .inr (.inr h)
    ·exact .inr (.inl h)
  rw [e,h.mem]
  constructor
  ·rintro (⟨j,y,k1,k2⟩ | rfl)
   ·exact ⟨j,y,by omega,k2⟩
   ·exact ⟨i,l[i],by omega,List.getElem?_eq_getElem hi,rfl,hs⟩
  ·rintro ⟨j,y,k1,k2,k3,k4⟩
   by_cases ej:j=i
   ·subst ej
    rw [List.getElem?_eq_getElem hi] at k2
    cases k2
    exact .inr k3.symm
   ·exact .inl ⟨j,y,by omega,k2,k3,k4⟩
theorem insI_len{l:List DtInst}(hp:InstsP l){id:DtId}{i:Nat}{o:List DtId}(h:InsI l id i o):o.length≤18:=by
 refine zjf (h.pw.imp λ{a b} h e=>by subst e;exact znq _ _ h) λx hx=>?_
 obtain ⟨j,y,-,h2,rfl,-⟩:=(h.mem x).1 hx
 exact (zfb hp (List.mem_of_getElem? h2)).1
theorem insI_e{l:List DtInst}(hp:InstsP l){id:DtId}(hr:RdyP l id){o:List DtId}(h:InsI l id l.length o):o=partL l id:=by
 refine zzi hp h.pw λx=>?_
 rw [h.mem]
 constructor
 ·rintro ⟨j,y,-,-,-,h4⟩;exact h4
 ·intro hs
  obtain ⟨-,y,hy,rfl⟩:=zpy hp (zl8 hp hr hs)
  obtain ⟨j,hj⟩:=List.getElem?_of_mem hy
  exact ⟨j,y,(List.getElem?_eq_some_iff.1 hj).1,hj,rfl,hs⟩
theorem insI_st{l:List DtInst}(hp:InstsP l){id:DtId}(hr:RdyP l id){i:Nat}{o:List DtId}(h:InsI l id i o):∀x∈o,(instAt l x).fStatus=3:=by
 intro x hx
 obtain ⟨j,y,-,-,-,h4⟩:=(h.mem x).1 hx
 exact ((zk2 hp x).1 (zl8 hp hr h4)).1
theorem same_iff{l:List DtInst}(hp:InstsP l)(id x:DtId):Same l id x↔x=id∨(x∈reachL l id∧id∈reachL l x):=by
 unfold Same;rw [(zc3 hp id).2,(zc3 hp x).2]
theorem zw9(o:List DtId)(k:Nat)(x:DtId)(hk:k≤o.length):List.take (k+1) (List.take k (o.map DtId.cells)++[DtId.cells x])++List.take (o.length-k) (List.take (o.length-k) (List.drop k (o.map DtId.cells)))=List.take k (o.map DtId.cells)++DtId.cells x :: List.drop k (o.map DtId.cells)∧scR (List.take k (o.map DtId.cells))=true∧scR (List.drop k (o.map DtId.cells))=true:=by
 refine ⟨?_,by rw [←List.map_take];exact zbv _,by rw [←List.map_drop];exact zbv _⟩
 rw [List.take_of_length_le (l:=List.take k (o.map DtId.cells)++[DtId.cells x]) (by simp;omega),List.take_of_length_le (l:=List.drop k (o.map DtId.cells)) (by simp),List.take_of_length_le (l:=List.drop k (o.map DtId.cells)) (by simp)]
 simp
theorem zdk(l:List DtInst)(x:DtId):(instAt l x).fSeq=seqL l x:=(rfl)
def zG18:=And.intro @zb4 (And.intro @gE (And.intro @tP (And.intro @zbh (And.intro @zbv (And.intro @and_assoc (And.intro @zbb (And.intro @zbf (And.intro @zbs (And.intro @zq8 @zwi)))))))))
theorem zzl(l:List DtInst)(id:DtId)(hn:l.length≤1048576)(hp:InstsP l)(hr:RdyP l id):PCall Tryz.prog 88 [.sl 16 (l.map DtInst.cells),.agg (DtId.cells id)] (.sl 2 ((partL l id).map DtId.cells)):=by
 have hrl:=zfv hp id
 refine zdt Tryz.func88 (by rfl) (by rfl) (by rw [Tryz.ntmps88];exact Nat.le_of_ble_eq_true rfl) ?_
 rw [Tryz.ntmps88]
 refine zfl ?_
 refine AW_k [(0,_),(1,_)] ⟨rfl,rfl,trivial⟩ ?_
 refine AW_x rfl rfl λK hK=>?_
 simp (disch:=omega) [zG18,DtInst.cells,DtCmd.cells,DtId.cells]
 repeat' first|(refine ⟨by omega,?_⟩)|(intro _)
 refine hK _ ?_;clear hK K
 refine AW_x rfl rfl λK hK=>?_
 simp (disch:=omega) [zG18,DtInst.cells,DtCmd.cells,DtId.cells]
 repeat' first|(refine ⟨by omega,?_⟩)|(simp (disch:=omega) [zG18,DtInst.cells,DtCmd.cells,DtId.cells])|(intro _)
 refine hK _ ?_;clear hK K
 refine AW_x rfl rfl λK hK=>?_
 simp (disch:=omega) [zG18,DtInst.cells,DtCmd.cells,DtId.cells]
 repeat' first|(exfalso;omega)|(refine zcx (zbc zbw (zbc (zbu rfl) zbi)) (zj3 _ _ (by assumption) (by assumption)) rfl ?_;simp (disch:=omega) [zG18,DtInst.cells,DtCmd.cells,DtId.cells])|(refine zcy (zj3 _ _ (by assumption) (by assumption)) (by rfl) ?_ ?_;(focus (simp (disch:=omega) [zG18,DtInst.cells,DtCmd.cells,DtId.cells];done));simp (disch:=omega) [zG18,DtInst.cells,DtCmd.cells,DtId.cells])|(refine ⟨by omega,?_⟩)|(simp (disch:=omega) [zG18,DtInst.cells,DtCmd.cells,DtId.cells])|(intro _)
 refine hK _ ?_;clear hK K
 refine zbj ?_
 refine AW_x rfl rfl λK hK=>?_
 simp (disch:=omega) [zG18,DtInst.cells,DtCmd.cells,DtId.cells]
 repeat' first|(refine ⟨by omega,?_⟩)|(intro _)
 refine hK _ ?_;clear hK K
 refine zbl ?_
 refine zby (λmM sS=>∃(i:Nat) (o:List DtId),mM=l.length-i∧(i≤l.length∧InsI l id i o)∧sS = { env:=lkE [(0,.sl 16 (l.map DtInst.cells)),(3,.ptr 64 0),(5,.arr 501 0 o.length),(6,.sl 2 ((reachL l id).map DtId.cells)),(7,(.g (.int .i64 ((i:Nat)))))],ob:=lk [(64,.cells (DtId.cells id)),(501,.win 2 (o.map DtId.cells))] }) ?_ ?_
 ·refine ⟨_,LeS.kx [(64,64),(501,192)] [(0,.sl 16 (l.map DtInst.cells)),(3,.ptr 64 0),(5,.arr 501 0 ([]).length),(6,.sl 2 ((reachL l id).map DtId.cells)),(7,(.g (.int .i64 (((0):Nat)))))] [(64,.cells (DtId.cells id)),(501,.win 2 (([]).map DtId.cells))] (by simp [zG16,KpR,renV2,renV,zbk,DtId.cells];try (first | rfl | omega|(rw [Nat.min_eq_left hk];omega))) (by simp [zG16,KpOX,renO,plO,cvO,renV,pl1,DtId.cells];try (first | rfl | exact zw9 o k l[i].fId hk|(have hk0:k=0:=(by assumption);rw [hk0];exact ⟨by simp [List.take_of_length_le,DtId.cells],rfl,by simpa using zbv o⟩))) (by rfl) (by simp) (by simp) (by rfl) (by simp [zG15,formsX]),_,0,[],rfl,?_,rfl⟩
  ·exact ⟨by omega,insI_0 l id⟩
 ·rintro mM sS ⟨i,o,rfl,⟨hi,ho⟩,rfl⟩
  have hol:=insI_len hp ho
  refine zbj ?_
  refine AW_x rfl rfl λK hK=>?_
  simp (disch:=omega) [zG18,DtInst.cells,DtCmd.cells,DtId.cells]
  repeat' first|(refine ⟨by omega,?_⟩)|(simp (disch:=omega) [zG18,DtInst.cells,DtCmd.cells,DtId.cells])|(intro _)
  refine hK _ ?_;clear hK K
  refine zbm rfl (λhc1=>?_) (λhc1=>?_)
  ·try simp [zG14,zbe,zbd] at hc1
   all_goals
    have hsi:=same_iff hp id l[i].fId
    have hrl2:=zfv hp l[i].fId
    have hxe:=zd4 l[i].fId id
    have hst:=insI_st hp hr ho
    have hq1:∀(j:Nat) (h:j<o.length),cAt l o[j]=((ixL l o[j]:Nat):Int):=λj h=>(zrk hp (hst _ (List.getElem_mem h))).1
    have hq2:∀(j:Nat) (h:j<o.length),ixL l o[j]<l.length:=λj h=>(zrk hp (hst _ (List.getElem_mem h))).2.1
    have hq3:∀(j:Nat) (h:j<o.length),l[ixL l o[j]]? = some (instAt l o[j]):=λj h=>by obtain ⟨-,h1,h2⟩:=zrk hp (hst _ (List.getElem_mem h));rw [List.getElem?_eq_getElem h1,h2]
    have hq4:l[i].fSeq=seqL l l[i].fId:=by unfold seqL;rw [ztb hp (by omega)]
    refine zbn ?_
    refine zbq ?_
    refine zbj ?_
    refine zbl ?_
    refine AW_x rfl rfl λK hK=>?_
    simp (disch:=omega) [zG18,DtInst.cells,DtCmd.cells,DtId.cells]
    repeat' first|(exfalso;omega)|(refine ⟨λ_=>?_,λ_=>?_⟩)|(refine ⟨by omega,?_⟩)|(simp (disch:=omega) [zG18,DtInst.cells,DtCmd.cells,DtId.cells])|(intro _)
    all_goals (refine hK _ ?_;clear hK K)
    all_goals
     refine zbj ?_
     refine AW_d rfl mix (by kernel_rfl) (by kernel_rfl) λK hK=>?_
     simp (disch:=omega) [zG18,DtInst.cells,DtCmd.cells,DtId.cells]
     repeat' first|(exfalso;omega)|(refine zd9 (λst'=>(zbc zbw (zbc (zbu rfl) zbi))) (l8Has _ _ (by omega)) rfl ?_;simp (disch:=omega) [zG18,DtInst.cells,DtCmd.cells,DtId.cells])|(refine zfa (l8Has _ _ (by omega)) (by rfl) (λst' hst=>?_) ?_;(focus (simp (disch:=omega) [zG18,DtInst.cells,DtCmd.cells,DtId.cells] at hst;simp (disch:=omega) [zG18,DtInst.cells,DtCmd.cells,DtId.cells,hst];done));simp (disch:=omega) [zG18,DtInst.cells,DtCmd.cells,DtId.cells])|(refine zd9 (λst'=>(zbc zbw (zbc (zbu rfl) zbi))) (zj3 _ _ (by assumption) (by assumption)) rfl ?_;simp (disch:=omega) [zG18,DtInst.cells,DtCmd.cells,DtId.cells])|(refine zfa (zj3 _ _ (by assumption) (by assumption)) (by rfl) (λst' hst=>?_) ?_;(focus (simp (disch:=omega) [zG18,DtInst.cells,DtCmd.cells,DtId.cells] at hst;simp (disch:=omega) [zG18,DtInst.cells,DtCmd.cells,DtId.cells,hst];done));simp (disch:=omega) [zG18,DtInst.cells,DtCmd.cells,DtId.cells])|(refine ⟨λ_=>?_,λ_=>?_⟩)|(refine ⟨by omega,?_⟩)|(simp (disch:=omega) [zG18,DtInst.cells,DtCmd.cells,DtId.cells])|(intro _)
     all_goals (refine hK _ _ (by kernel_rfl) ?_;clear hK K)
     all_goals
      refine zbm rfl (λhc2=>?_) (λhc2=>?_)
      ·try simp [zG14,zbe,zbd] at hc2
       all_goals
        refine zb3 ?_
        refine zbq ?_
        refine zcc rfl rfl λK hK=>?_
        simp (disch:=omega) [zG18,DtInst.cells,DtCmd.cells,DtId.cells]
        repeat' first|(exfalso;omega)|(refine ⟨λ_=>?_,λ_=>?_⟩)|(refine ⟨by omega,?_⟩)|(simp (disch:=omega) [zG18,DtInst.cells,DtCmd.cells,DtId.cells])|(intro _)
        all_goals (refine hK _ ?_;clear hK K)
        all_goals
         refine ⟨_,LeS.kx [(64,64),(501,501)] [(0,.sl 16 (l.map DtInst.cells)),(3,.ptr 64 0),(5,.arr 501 0 (o).length),(6,.sl 2 ((reachL l id).map DtId.cells)),(7,(.g (.int .i64 (((i+1):Nat)))))] [(64,.cells (DtId.cells id)),(501,.win 2 ((o).map DtId.cells))] (by simp [zG16,KpR,renV2,renV,zbk,DtId.cells];try (first | rfl | omega|(rw [Nat.min_eq_left hk];omega))) (by simp [zG16,KpOX,renO,plO,cvO,renV,pl1,DtId.cells];try (first | rfl | exact zw9 o k l[i].fId hk|(have hk0:k=0:=(by assumption);rw [hk0];exact ⟨by simp [List.take_of_length_le,DtId.cells],rfl,by simpa using zbv o⟩))) (by rfl) (by simp) (by simp) (by rfl) (by simp [zG15,formsX]),_,?_,i+1,o,rfl,?_,rfl⟩
         ·omega
         ·first | exact ⟨by omega,zti ho (by omega) (by rw [hsi];grind)⟩ | exact ⟨by omega,zzk hp ho (by omega) (by rw [hsi];grind) hk h1 (by grind)⟩
      ·try simp [zG14,zbe,zbd] at hc2
       all_goals
        refine zbn ?_
        refine zbq ?_
        refine AW_x rfl rfl λK hK=>?_
        simp (disch:=omega) [zG18,DtInst.cells,DtCmd.cells,DtId.cells]
        repeat' first|(exfalso;omega)|(refine ⟨λ_=>?_,λ_=>?_⟩)|(refine ⟨by omega,?_⟩)|(simp (disch:=omega) [zG18,DtInst.cells,DtCmd.cells,DtId.cells])|(intro _)
        all_goals (refine hK _ ?_;clear hK K)
        all_goals
         refine zbj ?_
         refine zbl ?_
         refine zby (λmM sS=>∃(k:Nat),mM=2*k∧(k≤o.length∧∀(j:Nat) x,k≤j→o[j]? = some x→seqL l l[i].fId<seqL l x)∧sS = { env:=lkE [(0,.sl 16 (l.map DtInst.cells)),(3,.ptr 64 0),(5,.arr 501 0 o.length),(6,.sl 2 ((reachL l id).map DtId.cells)),(7,(.g (.int .i64 ((i:Nat))))),(8,.ptr 144 0),(9,(.g (.int .i64 ((k:Nat)))))],ob:=lk [(64,.cells (DtId.cells id)),(144,.cells (DtId.cells l[i].fId)),(501,.win 2 (o.map DtId.cells))] }) ?_ ?_
         ·refine ⟨_,LeS.kx [(64,64),(144,144),(501,501)] [(0,.sl 16 (l.map DtInst.cells)),(3,.ptr 64 0),(5,.arr 501 0 o.length),(6,.sl 2 ((reachL l id).map DtId.cells)),(7,(.g (.int .i64 ((i:Nat))))),(8,.ptr 144 0),(9,(.g (.int .i64 (((o.length):Nat)))))] [(64,.cells (DtId.cells id)),(144,.cells (DtId.cells l[i].fId)),(501,.win 2 (o.map DtId.cells))] (by simp [zG16,KpR,renV2,renV,zbk,DtId.cells];try (first | rfl | omega)) (by simp [zG16,KpOX,renO,plO,cvO,renV,pl1,DtId.cells];try rfl) (by rfl) (by simp) (by simp) (by rfl) (by simp [zG15,formsX]),_,o.length,rfl,?_,rfl⟩
          ·exact ⟨by omega,λj x hj hx=>by have:=(List.getElem?_eq_some_iff.1 hx).1;omega⟩
         ·rintro mM sS ⟨k,rfl,⟨hk,h1⟩,rfl⟩
          refine zbj ?_
          refine AW_d rfl mix (by kernel_rfl) (by kernel_rfl) λK hK=>?_
          simp (disch:=omega) [zG18,DtInst.cells,DtCmd.cells,DtId.cells,hq1,hq2,hq3,hq4,zdk]
          repeat' first|(exfalso;omega)|(refine zd9 (λst'=>(zbc zbw (zbc (zbu rfl) zbi))) (zhc _ _ (by assumption)) rfl ?_;simp (disch:=omega) [zG18,DtInst.cells,DtCmd.cells,DtId.cells,hq1,hq2,hq3,hq4,zdk])|(refine zfa (zhc _ _ (by assumption)) (by rfl) (λst' hst=>?_) ?_;(focus (simp (disch:=omega) [zG18,DtInst.cells,DtCmd.cells,DtId.cells,hq1,hq2,hq3,hq4,zdk] at hst;simp (disch:=omega) [zG18,DtInst.cells,DtCmd.cells,DtId.cells,hq1,hq2,hq3,hq4,zdk,hst];done));simp (disch:=omega) [zG18,DtInst.cells,DtCmd.cells,DtId.cells,hq1,hq2,hq3,hq4,zdk])|(refine ⟨λ_=>?_,λ_=>?_⟩)|(refine ⟨by omega,?_⟩)|(simp (disch:=omega) [zG18,DtInst.cells,DtCmd.cells,DtId.cells,hq1,hq2,hq3,hq4,zdk])|(intro _)
          all_goals (refine hK _ _ (by kernel_rfl) ?_;clear hK K)
          all_goals
           refine zbm rfl (λhc3=>?_) (λhc3=>?_)
           ·try simp [zG14,zbe,zbd] at hc3
            all_goals
             have hgk:o[k-1]? = some o[k-1]:=List.getElem?_eq_getElem (by omega)
             refine zbn ?_
             refine zbq ?_
             refine zbl ?_
             refine zcc rfl rfl λK hK=>?_
             simp (disch:=omega) [zG18,DtInst.cells,DtCmd.cells,DtId.cells,hq1,hq2,hq3,hq4,zdk]
             repeat' first|(exfalso;omega)|(refine ⟨λ_=>?_,λ_=>?_⟩)|(refine ⟨by omega,?_⟩)|(simp (disch:=omega) [zG18,DtInst.cells,DtCmd.cells,DtId.cells,hq1,hq2,hq3,hq4,zdk])|(intro _)
             all_goals (refine hK _ ?_;clear hK K)
             all_goals
              refine ⟨_,LeS.kx [(64,64),(144,144),(501,501)] [(0,.sl 16 (l.map DtInst.cells)),(3,.ptr 64 0),(5,.arr 501 0 o.length),(6,.sl 2 ((reachL l id).map DtId.cells)),(7,(.g (.int .i64 ((i:Nat))))),(8,.ptr 144 0),(9,(.g (.int .i64 (((k-1):Nat)))))] [(64,.cells (DtId.cells id)),(144,.cells (DtId.cells l[i].fId)),(501,.win 2 (o.map DtId.cells))] (by simp [zG16,KpR,renV2,renV,zbk,DtId.cells];try (first | rfl | omega)) (by simp [zG16,KpOX,renO,plO,cvO,renV,pl1,DtId.cells];try rfl) (by rfl) (by simp) (by simp) (by rfl) (by simp [zG15,formsX]),_,?_,k-1,rfl,?_,rfl⟩
              ·omega
              ·refine ⟨by omega,λj x hj hx=>?_⟩;by_cases hjk:j=k-1
               ·subst hjk;rw [hgk] at hx;cases hx;grind
               ·exact h1 j x (by omega) hx
           ·try simp [zG14,zbe,zbd] at hc3
            all_goals
             refine zb3 ?_
             refine zbq ?_
             refine AW_x rfl rfl λK hK=>?_
             simp (disch:=omega) [zG18,DtInst.cells,DtCmd.cells,DtId.cells,hq1,hq2,hq3,hq4,zdk]
             repeat' first|(exfalso;omega)|(refine ⟨λ_=>?_,λ_=>?_⟩)|(refine ⟨by omega,?_⟩)|(simp (disch:=omega) [zG18,DtInst.cells,DtCmd.cells,DtId.cells,hq1,hq2,hq3,hq4,zdk])|(intro _)
             all_goals (refine hK _ ?_;clear hK K)
             all_goals
              refine zq6 rfl mix (by kernel_rfl) (by kernel_rfl) λK hK=>?_
              simp (disch:=omega) [zG18,DtInst.cells,DtCmd.cells,DtId.cells,hq1,hq2,hq3,hq4,zdk]
              repeat' first|(refine ⟨by omega,?_⟩)|(simp (disch:=omega) [zG18,DtInst.cells,DtCmd.cells,DtId.cells,hq1,hq2,hq3,hq4,zdk])|(intro _)
              refine hK _ _ (by kernel_rfl) ?_;clear hK K
              refine zbq ?_
              refine zcc rfl rfl λK hK=>?_
              simp (disch:=omega) [zG18,DtInst.cells,DtCmd.cells,DtId.cells,hq1,hq2,hq3,hq4,zdk]
              repeat' first|(refine ⟨by omega,?_⟩)|(intro _)
              refine hK _ ?_;clear hK K
              refine ⟨_,LeS.kx [(64,64),(501,1296)] [(0,.sl 16 (l.map DtInst.cells)),(3,.ptr 64 0),(5,.arr 501 0 (o.take k++l[i].fId :: o.drop k).length),(6,.sl 2 ((reachL l id).map DtId.cells)),(7,(.g (.int .i64 (((i+1):Nat)))))] [(64,.cells (DtId.cells id)),(501,.win 2 ((o.take k++l[i].fId :: o.drop k).map DtId.cells))] (by simp [zG16,KpR,renV2,renV,zbk,DtId.cells];try (first | rfl | omega|(rw [Nat.min_eq_left hk];omega))) (by simp [zG16,KpOX,renO,plO,cvO,renV,pl1,DtId.cells];try (first | rfl | exact zw9 o k l[i].fId hk|(have hk0:k=0:=(by assumption);rw [hk0];exact ⟨by simp [List.take_of_length_le,DtId.cells],rfl,by simpa using zbv o⟩))) (by rfl) (by simp) (by simp) (by rfl) (by simp [zG15,formsX]),_,?_,i+1,o.take k++l[i].fId :: o.drop k,rfl,?_,rfl⟩
              ·omega
              ·first | exact ⟨by omega,zti ho (by omega) (by rw [hsi];grind)⟩ | exact ⟨by omega,zzk hp ho (by omega) (by rw [hsi];grind) hk h1 (by grind)⟩
  ·try simp [zG14,zbe,zbd] at hc1
   all_goals
    refine zb3 ?_
    refine zbq ?_
    refine AW_x rfl rfl λK hK=>?_
    simp (disch:=omega) [zG18,DtInst.cells,DtCmd.cells,DtId.cells]
    repeat' first|(exfalso;omega)|(refine ⟨λ_=>?_,λ_=>?_⟩)|(refine ⟨by omega,?_⟩)|(simp (disch:=omega) [zG18,DtInst.cells,DtCmd.cells,DtId.cells])|(intro _)
    all_goals (refine hK _ ?_;clear hK K)
    all_goals
     refine zbr (zh6 ?_)
     simp (disch:=omega) [zG18,DtInst.cells,DtCmd.cells,DtId.cells]
     all_goals first|(obtain rfl:i=l.length:=(by omega);rw [insI_e hp hr ho];exact ⟨zjq _ (λ_=>rfl) _,rfl⟩) | trace_state
end Go.Proofs.YtodmafgmdlkhoaaGreat.Vs
end
