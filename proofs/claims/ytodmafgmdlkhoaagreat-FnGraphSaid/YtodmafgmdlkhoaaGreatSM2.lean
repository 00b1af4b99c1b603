import Derived.Test.YtodmafgmdlkhoaaGreatSM1
section
open Go Go.Proofs Go.Proofs.YtodmafgmdlkhoaaGreat.Vs
namespace Go.Proofs.YtodmafgmdlkhoaaGreat.Vs
set_option linter.all false
set_option linter.unusedSimpArgs false
set_option linter.unusedVariables false
set_option maxRecDepth 100000
theorem zbs:eq2 Tryz.prog 31=true:=by kernel_rfl
def IdP(x:DtId):Prop:=0≤x.fRep∧x.fRep≤2∧1≤x.fSlot∧x.fSlot≤6
def idLt(a b:DtId):Prop:=a.fRep<b.fRep∨(a.fRep=b.fRep∧a.fSlot<b.fSlot)
def IdsP(l:List DtId):Prop:=∀(i:Nat) x,l[i]? = some x→IdP x∧∀y,0<i→l[i-1]? = some y→idLt y x
noncomputable def cmpI(a b:DtId):Int:=bif decB (idLt a b) then -1 else bif eqB a b then 0 else 1
theorem zco(a b:DtId):(cmpI a b<0)=idLt a b:=by
 by_cases h:idLt a b
 ·have e:cmpI a b = -1:=by rw [cmpI,zcb h];rfl
  rw [e];simp [h]
 ·have e : 0 ≤ cmpI a b := by
   rw [cmpI,zce h]
   cases eqB a b<;>simp
  simp [h];omega
theorem zcu(a b:DtId):(0≤cmpI a b)=¬idLt a b:=by
 rw [←zco];simp
theorem zd4(a b:DtId):(a=b)=(a.fRep=b.fRep∧a.fSlot=b.fSlot):=DtId.ext_iff a b
def zG2:=And.intro @zb4 (And.intro @gE @tP)
theorem l8Id(x:DtId):PCall Tryz.prog 145 [.agg (DtId.cells x)] (.g (.bool (decB (IdP x)))):=by
 refine zbo Tryz.func145 (by rfl) (by rfl) (by rw [Tryz.ntmps145];exact Nat.le_of_ble_eq_true rfl) rfl (by decide) ?_
 rw [Tryz.ntmps145]
 refine AW_k [(0,_)] ⟨rfl,trivial⟩ ?_
 refine AW_r rfl rfl λK hK=>?_
 simp (disch:=omega) [zG2,DtId.cells,zbb,zbf]
 repeat' first|(refine ⟨by omega,?_⟩)|(intro _)
 refine hK _ ?_;clear hK K
 refine AW_r rfl rfl λK hK=>?_
 simp (disch:=omega) [zG2,DtId.cells,zbb,zbf]
 repeat' first|(exfalso;omega)|(refine zcg (zbc zcs (zbc zcs (zbc zcs zbi))) (l1In _ _ _) rfl ?_;simp (disch:=omega) [zG2,DtId.cells,zbb,zbf])|(refine ⟨λ_=>?_,λ_=>?_⟩)|(refine ⟨by omega,?_⟩)|(intro _)
 all_goals (refine hK _ ?_;clear hK K)
 all_goals
  refine zbr (zb6 ?_)
  simp (disch:=omega) [zG2,DtId.cells,zbb,zbf]
  all_goals first | grind [IdP]|(rw [Bool.eq_iff_iff,zbb];simp;grind [IdP])
theorem idOk(x:DtId):PCall Tryz.prog 129 [.agg (DtId.cells x)] (.g (.bool (decB (IdP x)))):=by
 refine zbo Tryz.func129 (by rfl) (by rfl) (by rw [Tryz.ntmps129];exact Nat.le_of_ble_eq_true rfl) rfl (by decide) ?_
 rw [Tryz.ntmps129]
 refine AW_k [(0,_)] ⟨rfl,trivial⟩ ?_
 refine AW_r rfl rfl λK hK=>?_
 simp (disch:=omega) [zG2,DtId.cells,zbb,zbf]
 repeat' first|(refine ⟨by omega,?_⟩)|(intro _)
 refine hK _ ?_;clear hK K
 refine AW_r rfl rfl λK hK=>?_
 simp (disch:=omega) [zG2,DtId.cells,zbb,zbf]
 repeat' first|(exfalso;omega)|(refine zcg (zbc zcs (zbc zcs (zbc zcs zbi))) (zpu _ _ _) rfl ?_;simp (disch:=omega) [zG2,DtId.cells,zbb,zbf])|(refine ⟨λ_=>?_,λ_=>?_⟩)|(refine ⟨by omega,?_⟩)|(intro _)
 all_goals (refine hK _ ?_;clear hK K)
 all_goals
  refine zbr (zb6 ?_)
  simp (disch:=omega) [zG2,DtId.cells,zbb,zbf]
  all_goals first | grind [IdP]|(rw [Bool.eq_iff_iff,zbb];simp;grind [IdP])
theorem zs9(a b:DtId):PCall Tryz.prog 98 [.agg (DtId.cells a),.agg (DtId.cells b)] (.g (.bool (decB (idLt a b)))):=by
 refine zbo Tryz.func98 (by rfl) (by rfl) (by rw [Tryz.ntmps98];exact Nat.le_of_ble_eq_true rfl) rfl (by decide) ?_
 rw [Tryz.ntmps98]
 refine AW_k [(0,_),(1,_)] ⟨rfl,rfl,trivial⟩ ?_
 refine AW_r rfl rfl λK hK=>?_
 simp (disch:=omega) [zG2,DtId.cells,zbb,zbf]
 repeat' first|(refine ⟨by omega,?_⟩)|(intro _)
 refine hK _ ?_;clear hK K
 refine AW_r rfl rfl λK hK=>?_
 simp (disch:=omega) [zG2,DtId.cells,zbb,zbf]
 repeat' first|(exfalso;omega)|(refine ⟨λ_=>?_,λ_=>?_⟩)|(refine ⟨by omega,?_⟩)|(intro _)
 all_goals (refine hK _ ?_;clear hK K)
 all_goals
  refine zbr (zb6 ?_)
  simp (disch:=omega) [zG2,DtId.cells,zbb,zbf]
  all_goals first | grind [idLt]|(rw [Bool.eq_iff_iff,zbb];simp;grind [idLt])
theorem zhv(a b:DtId):PCall Tryz.prog 39 [.agg (DtId.cells a),.agg (DtId.cells b)] (.g (.int .i64 (cmpI a b))):=by
 have hd:decB (idLt a b)=true∨decB (idLt a b)=false:=by cases decB (idLt a b)<;>simp
 have he:=zd4 a b
 have k1:(a.fRep<b.fRep∨(a.fRep=b.fRep∧a.fSlot<b.fSlot))→cmpI a b = -1:=λh=>by
  have h:idLt a b:=h
  rw [cmpI,zcb h];rfl
 have k2:¬(a.fRep<b.fRep∨(a.fRep=b.fRep∧a.fSlot<b.fSlot))→(a.fRep=b.fRep∧a.fSlot=b.fSlot)→cmpI a b=0:=λh h2=>by
  have h:¬idLt a b:=h
  rw [cmpI,zce h,zld (he.mpr h2)];rfl
 have k3:¬(a.fRep<b.fRep∨(a.fRep=b.fRep∧a.fSlot<b.fSlot))→¬(a.fRep=b.fRep∧a.fSlot=b.fSlot)→cmpI a b=1:=λh h2=>by
  have h:¬idLt a b:=h
  rw [cmpI,zce h,zf9 (λe=>h2 (he.mp e))];rfl
 refine zbo Tryz.func39 (by rfl) (by rfl) (by rw [Tryz.ntmps39];exact Nat.le_of_ble_eq_true rfl) rfl (by decide) ?_
 rw [Tryz.ntmps39]
 refine AW_k [(0,_),(1,_)] ⟨rfl,rfl,trivial⟩ ?_
 refine AW_r rfl rfl λK hK=>?_
 simp (disch:=omega) [zG2,DtId.cells,zbs]
 repeat' first|(refine ⟨by omega,?_⟩)|(intro _)
 refine hK _ ?_;clear hK K
 refine zbj ?_
 refine zbl ?_
 refine AW_r rfl rfl λK hK=>?_
 simp (disch:=omega) [zG2,DtId.cells,zbs]
 repeat' first|(exfalso;omega)|(refine ⟨λ_=>?_,λ_=>?_⟩)|(refine ⟨by omega,?_⟩)|(intro _)
 all_goals (refine hK _ ?_;clear hK K)
 all_goals
  refine zbm rfl (λhc1=>?_) (λhc1=>?_)
  ·try simp [zbb,zbf,zbe,zbd] at hc1
   all_goals
    refine AW_r rfl rfl λK hK=>?_
    simp (disch:=omega) [zG2,DtId.cells,zbs]
    repeat' first|(exfalso;omega)|(refine ⟨λ_=>?_,λ_=>?_⟩)|(refine ⟨by omega,?_⟩)|(intro _)
    all_goals (refine hK _ ?_;clear hK K)
    all_goals
     refine zbr (zb6 ?_)
     simp (disch:=omega) [zG2,DtId.cells,zbs]
     all_goals (clear hd he;grind)
  ·try simp [zbb,zbf,zbe,zbd] at hc1
   all_goals
    refine AW_r rfl rfl λK hK=>?_
    simp (disch:=omega) [zG2,DtId.cells,zbs]
    repeat' first|(exfalso;omega)|(refine ⟨λ_=>?_,λ_=>?_⟩)|(refine ⟨by omega,?_⟩)|(intro _)
    all_goals (refine hK _ ?_;clear hK K)
    all_goals
     refine zbm rfl (λhc2=>?_) (λhc2=>?_)
     ·try simp [zbb,zbf,zbe,zbd] at hc2
      all_goals
       refine AW_r rfl rfl λK hK=>?_
       simp (disch:=omega) [zG2,DtId.cells,zbs]
       repeat' first|(exfalso;omega)|(refine ⟨λ_=>?_,λ_=>?_⟩)|(refine ⟨by omega,?_⟩)|(intro _)
       all_goals (refine hK _ ?_;clear hK K)
       all_goals
        refine zbr (zb6 ?_)
        simp (disch:=omega) [zG2,DtId.cells,zbs]
        all_goals (clear hd he;grind)
     ·try simp [zbb,zbf,zbe,zbd] at hc2
      all_goals
       refine zbn ?_
       refine zbq ?_
       refine AW_r rfl rfl λK hK=>?_
       simp (disch:=omega) [zG2,DtId.cells,zbs]
       repeat' first|(exfalso;omega)|(refine ⟨λ_=>?_,λ_=>?_⟩)|(refine ⟨by omega,?_⟩)|(intro _)
       all_goals (refine hK _ ?_;clear hK K)
       all_goals
        refine zbr (zb6 ?_)
        simp (disch:=omega) [zG2,DtId.cells,zbs]
        all_goals (clear hd he;grind)
def zG3:=And.intro @zbb (And.intro @zbf (And.intro @zco @zcu))
def zG4:=And.intro @zbt (And.intro @zbk @zbp)
theorem specIdsOk(l:List DtId)(hn:l.length≤1048576):PCall Tryz.prog 146 [.sl 2 (l.map DtId.cells)] (.g (.bool (decB (IdsP l)))):=by
 refine zbo Tryz.func146 (by rfl) (by rfl) (by rw [Tryz.ntmps146];exact Nat.le_of_ble_eq_true rfl) rfl (by decide) ?_
 rw [Tryz.ntmps146]
 refine AW_k [(0,_)] ⟨rfl,trivial⟩ ?_
 refine AW_r rfl rfl λK hK=>?_
 simp (disch:=omega) [zG3,zb4,gE,tP,DtId.cells,Classical.not_not]
 repeat' first|(refine ⟨by omega,?_⟩)|(intro _)
 refine hK _ ?_;clear hK K
 refine zbj ?_
 refine AW_r rfl rfl λK hK=>?_
 simp (disch:=omega) [zG3,zb4,gE,tP,DtId.cells,Classical.not_not]
 repeat' first|(refine ⟨by omega,?_⟩)|(intro _)
 refine hK _ ?_;clear hK K
 refine zbl ?_
 refine zby (λmM sS=>∃(i:Nat),mM=l.length-i∧(i≤l.length∧∀(j:Nat) x,j<i→l[j]? = some x→IdP x∧∀y,0<j→l[j-1]? = some y→idLt y x)∧sS = { env:=lkE [(0,.sl 2 (l.map DtId.cells)),(3,(.g (.int .i64 ((i:Nat)))))],ob:=formOb [] [] }) ?_ ?_
 ·refine ⟨_,LeS.kp [(0,.sl 2 (l.map DtId.cells)),(3,(.g (.int .i64 (((0):Nat)))))] (by simp [zG4,KpE];try rfl),_,0,rfl,?_,rfl⟩
  ·simp
 ·rintro mM sS ⟨i,rfl,⟨hi,hpre⟩,rfl⟩
  refine zbj ?_
  refine AW_r rfl rfl λK hK=>?_
  simp (disch:=omega) [zG3,zb4,gE,tP,DtId.cells,Classical.not_not]
  repeat' first|(refine ⟨by omega,?_⟩)|(intro _)
  refine hK _ ?_;clear hK K
  refine zbm rfl (λhc3=>?_) (λhc3=>?_)
  ·try simp [zG3,zbe,zbd] at hc3
   all_goals
    have hg:l[i]? = some l[i]:=List.getElem?_eq_getElem (by omega)
    have hg':l[i-1]? = some l[i-1]:=List.getElem?_eq_getElem (by omega)
    rcases Nat.eq_zero_or_pos i with hi0 | hi0
    all_goals
     refine zbn ?_
     refine zbq ?_
     refine zbj ?_
     refine zbl ?_
     refine AW_q rfl mix (by kernel_rfl) rfl λK hK=>?_
     simp (disch:=omega) [zG3,zb4,gE,tP,DtId.cells,Classical.not_not]
     repeat' first|(exfalso;omega)|(refine zcg (zbc (zbu rfl) zbi) (l8Id _) rfl ?_;simp (disch:=omega) [zG3,zb4,gE,tP,DtId.cells,Classical.not_not])|(refine zcg (zbc (zbu rfl) (zbc (zbu rfl) zbi)) (zs9 _ _) rfl ?_;simp (disch:=omega) [zG3,zb4,gE,tP,DtId.cells,Classical.not_not])|(refine ⟨λ_=>?_,λ_=>?_⟩)|(refine ⟨by omega,?_⟩)|(intro _)
     all_goals (refine hK _ ?_;clear hK K)
     all_goals
      refine zbm rfl (λhc4=>?_) (λhc4=>?_)
      ·try simp [zG3,zbe,zbd] at hc4
       all_goals
        refine AW_r rfl rfl λK hK=>?_
        simp (disch:=omega) [zG3,zb4,gE,tP,DtId.cells,Classical.not_not]
        repeat' first|(exfalso;omega)|(refine ⟨λ_=>?_,λ_=>?_⟩)|(refine ⟨by omega,?_⟩)|(intro _)
        all_goals (refine hK _ ?_;clear hK K)
        all_goals
         refine zbr (zb6 ?_)
         simp (disch:=omega) [zG3,zb4,gE,tP,DtId.cells,Classical.not_not]
         all_goals first | grind [IdsP]|(refine zce λh=>?_;grind [IdsP])|(refine zcb ?_;grind [IdsP])
      ·try simp [zG3,zbe,zbd] at hc4
       all_goals
        refine zbn ?_
        refine zbq ?_
        refine zc8 rfl rfl λK hK=>?_
        simp (disch:=omega) [zG3,zb4,gE,tP,DtId.cells,Classical.not_not]
        repeat' first|(exfalso;omega)|(refine ⟨λ_=>?_,λ_=>?_⟩)|(refine ⟨by omega,?_⟩)|(intro _)
        all_goals (refine hK _ ?_;clear hK K)
        all_goals
         refine ⟨_,LeS.kp [(0,.sl 2 (l.map DtId.cells)),(3,(.g (.int .i64 (((i+1):Nat)))))] (by simp [zG4,KpE];try rfl),_,?_,i+1,rfl,?_,rfl⟩
         ·omega
         ·refine ⟨by omega,?_⟩;clear hg';grind
  ·try simp [zG3,zbe,zbd] at hc3
   all_goals
    refine zb3 ?_
    refine zbq ?_
    refine AW_r rfl rfl λK hK=>?_
    simp (disch:=omega) [zG3,zb4,gE,tP,DtId.cells,Classical.not_not]
    repeat' first|(exfalso;omega)|(refine ⟨λ_=>?_,λ_=>?_⟩)|(refine ⟨by omega,?_⟩)|(intro _)
    all_goals (refine hK _ ?_;clear hK K)
    all_goals
     refine zbr (zb6 ?_)
     simp (disch:=omega) [zG3,zb4,gE,tP,DtId.cells,Classical.not_not]
     all_goals first | grind [IdsP]|(refine zce λh=>?_;grind [IdsP])|(refine zcb ?_;grind [IdsP])
def zG5:=And.intro @zbt (And.intro @zbp (And.intro @zb0 @zca))
theorem implIdsOk(l:List DtId)(hn:l.length≤1048576):PCall Tryz.prog 130 [.sl 2 (l.map DtId.cells)] (.g (.bool (decB (IdsP l)))):=by
 refine zbo Tryz.func130 (by rfl) (by rfl) (by rw [Tryz.ntmps130];exact Nat.le_of_ble_eq_true rfl) rfl (by decide) ?_
 rw [Tryz.ntmps130]
 refine AW_k [(0,_)] ⟨rfl,trivial⟩ ?_
 refine AW_r rfl rfl λK hK=>?_
 simp (disch:=omega) [zG3,zb4,gE,tP,DtId.cells,Classical.not_not]
 repeat' first|(refine ⟨by omega,?_⟩)|(intro _)
 refine hK _ ?_;clear hK K
 refine zbj ?_
 refine AW_r rfl rfl λK hK=>?_
 simp (disch:=omega) [zG3,zb4,gE,tP,DtId.cells,Classical.not_not]
 repeat' first|(refine ⟨by omega,?_⟩)|(intro _)
 refine hK _ ?_;clear hK K
 refine zbl ?_
 refine zby (λmM sS=>∃(i:Nat),mM=l.length-i∧(i≤l.length∧∀(j:Nat) x,j<i→l[j]? = some x→IdP x∧∀y,0<j→l[j-1]? = some y→idLt y x)∧sS = { env:=lkE [(0,.sl 2 (l.map DtId.cells)),(5,.sl 2 (l.map DtId.cells)),(6,(.g (.int .i64 ((l.length:Nat))))),(7,(.g (.int .i64 ((i:Nat)))))],ob:=lk [] }) ?_ ?_
 ·refine ⟨_,LeS.ko [(0,.sl 2 (l.map DtId.cells)),(5,.sl 2 (l.map DtId.cells)),(6,(.g (.int .i64 ((l.length:Nat))))),(7,(.g (.int .i64 (((0):Nat)))))] [] (by simp [zG4,KpE];try rfl) (by simp [zG5,KpO];try rfl) (by rfl) (by simp) (by rfl),_,0,rfl,?_,rfl⟩
  ·simp
 ·rintro mM sS ⟨i,rfl,⟨hi,hpre⟩,rfl⟩
  refine AW_r rfl rfl λK hK=>?_
  simp (disch:=omega) [zG3,zb4,gE,tP,DtId.cells,Classical.not_not]
  repeat' first|(refine ⟨by omega,?_⟩)|(intro _)
  refine hK _ ?_;clear hK K
  refine zbj ?_
  refine zbm rfl (λhc5=>?_) (λhc5=>?_)
  ·try simp [zG3,zbe,zbd] at hc5
   all_goals
    have hg:l[i]? = some l[i]:=List.getElem?_eq_getElem (by omega)
    have hg':l[i-1]? = some l[i-1]:=List.getElem?_eq_getElem (by omega)
    rcases Nat.eq_zero_or_pos i with hi0 | hi0
    all_goals
     refine zbn ?_
     refine zbq ?_
     refine zbj ?_
     refine zbl ?_
     refine AW_r rfl rfl λK hK=>?_
     simp (disch:=omega) [zG3,zb4,gE,tP,DtId.cells,Classical.not_not]
     repeat' first|(exfalso;omega)|(refine ⟨λ_=>?_,λ_=>?_⟩)|(refine ⟨by omega,?_⟩)|(intro _)
     all_goals (refine hK _ ?_;clear hK K)
     all_goals
      refine AW_q rfl mix (by kernel_rfl) rfl λK hK=>?_
      simp (disch:=omega) [zG3,zb4,gE,tP,DtId.cells,Classical.not_not]
      repeat' first|(exfalso;omega)|(refine zcg (zbc (zbu rfl) zbi) (idOk _) rfl ?_;simp (disch:=omega) [zG3,zb4,gE,tP,DtId.cells,Classical.not_not])|(refine zcg (zbc (zbu rfl) (zbc (zbu rfl) zbi)) (zhv _ _) rfl ?_;simp (disch:=omega) [zG3,zb4,gE,tP,DtId.cells,Classical.not_not])|(refine ⟨λ_=>?_,λ_=>?_⟩)|(refine ⟨by omega,?_⟩)|(intro _)
      all_goals (refine hK _ ?_;clear hK K)
      all_goals
       refine zbm rfl (λhc6=>?_) (λhc6=>?_)
       ·try simp [zG3,zbe,zbd] at hc6
        all_goals
         refine AW_r rfl rfl λK hK=>?_
         simp (disch:=omega) [zG3,zb4,gE,tP,DtId.cells,Classical.not_not]
         repeat' first|(exfalso;omega)|(refine ⟨λ_=>?_,λ_=>?_⟩)|(refine ⟨by omega,?_⟩)|(intro _)
         all_goals (refine hK _ ?_;clear hK K)
         all_goals
          refine zbr (zb6 ?_)
          simp (disch:=omega) [zG3,zb4,gE,tP,DtId.cells,Classical.not_not]
          all_goals first | grind [IdsP]|(refine zce λh=>?_;grind [IdsP])|(refine zcb ?_;grind [IdsP])
       ·try simp [zG3,zbe,zbd] at hc6
        all_goals
         refine zbn ?_
         refine zbq ?_
         refine zc8 rfl rfl λK hK=>?_
         simp (disch:=omega) [zG3,zb4,gE,tP,DtId.cells,Classical.not_not]
         repeat' first|(exfalso;omega)|(refine ⟨λ_=>?_,λ_=>?_⟩)|(refine ⟨by omega,?_⟩)|(intro _)
         all_goals (refine hK _ ?_;clear hK K)
         all_goals
          refine ⟨_,LeS.ko [(0,.sl 2 (l.map DtId.cells)),(5,.sl 2 (l.map DtId.cells)),(6,(.g (.int .i64 ((l.length:Nat))))),(7,(.g (.int .i64 (((i+1):Nat)))))] [] (by simp [zG4,KpE];try rfl) (by simp [zG5,KpO];try rfl) (by rfl) (by simp) (by rfl),_,?_,i+1,rfl,?_,rfl⟩
          ·omega
          ·refine ⟨by omega,?_⟩;clear hg';grind
  ·try simp [zG3,zbe,zbd] at hc5
   all_goals
    refine zb3 ?_
    refine zbq ?_
    refine AW_r rfl rfl λK hK=>?_
    simp (disch:=omega) [zG3,zb4,gE,tP,DtId.cells,Classical.not_not]
    repeat' first|(exfalso;omega)|(refine ⟨λ_=>?_,λ_=>?_⟩)|(refine ⟨by omega,?_⟩)|(intro _)
    all_goals (refine hK _ ?_;clear hK K)
    all_goals
     refine zbr (zb6 ?_)
     simp (disch:=omega) [zG3,zb4,gE,tP,DtId.cells,Classical.not_not]
     all_goals first | grind [IdsP]|(refine zce λh=>?_;grind [IdsP])|(refine zcb ?_;grind [IdsP])
theorem l8Has(l:List DtId)(x:DtId)(hn:l.length≤1048576):PCall Tryz.prog 87 [.sl 2 (l.map DtId.cells),.agg (DtId.cells x)] (.g (.bool (decB (x∈l)))):=by
 refine zbo Tryz.func87 (by rfl) (by rfl) (by rw [Tryz.ntmps87];exact Nat.le_of_ble_eq_true rfl) rfl (by decide) ?_
 rw [Tryz.ntmps87]
 refine AW_k [(0,_),(1,_)] ⟨rfl,rfl,trivial⟩ ?_
 refine AW_r rfl rfl λK hK=>?_
 simp (disch:=omega) [zG2,DtId.cells,zbs]
 repeat' first|(refine ⟨by omega,?_⟩)|(intro _)
 refine hK _ ?_;clear hK K
 refine zbj ?_
 refine AW_r rfl rfl λK hK=>?_
 simp (disch:=omega) [zG2,DtId.cells,zbs]
 repeat' first|(refine ⟨by omega,?_⟩)|(intro _)
 refine hK _ ?_;clear hK K
 refine zbl ?_
 refine zby (λmM sS=>∃(i:Nat),mM=l.length-i∧(i≤l.length∧∀(j:Nat) y,j<i→l[j]? = some y→¬(y.fRep=x.fRep∧y.fSlot=x.fSlot))∧sS = { env:=lkE [(0,.sl 2 (l.map DtId.cells)),(3,.ptr 64 0),(5,(.g (.int .i64 ((i:Nat)))))],ob:=lk [(64,.cells (DtId.cells x))] }) ?_ ?_
 ·refine ⟨_,LeS.ko [(0,.sl 2 (l.map DtId.cells)),(3,.ptr 64 0),(5,(.g (.int .i64 (((0):Nat)))))] [(64,.cells (DtId.cells x))] (by simp [zG4,KpE,DtId.cells];try rfl) (by simp [zG5,KpO,DtId.cells];try rfl) (by rfl) (by simp) (by rfl),_,0,rfl,?_,rfl⟩
  ·simp
 ·rintro mM sS ⟨i,rfl,⟨hi,hpre⟩,rfl⟩
  refine zbj ?_
  refine AW_r rfl rfl λK hK=>?_
  simp (disch:=omega) [zG2,DtId.cells,zbs]
  repeat' first|(refine ⟨by omega,?_⟩)|(intro _)
  refine hK _ ?_;clear hK K
  refine zbm rfl (λhc7=>?_) (λhc7=>?_)
  ·try simp [zG3,zbe,zbd] at hc7
   all_goals
    have hg:l[i]? = some l[i]:=List.getElem?_eq_getElem (by omega)
    refine zbn ?_
    refine zbq ?_
    refine zbj ?_
    refine zbl ?_
    refine AW_q rfl mix (by kernel_rfl) rfl λK hK=>?_
    simp (disch:=omega) [zG2,DtId.cells,zbs]
    repeat' first|(exfalso;omega)|(refine ⟨λ_=>?_,λ_=>?_⟩)|(refine ⟨by omega,?_⟩)|(intro _)
    all_goals (refine hK _ ?_;clear hK K)
    all_goals
     refine zbm rfl (λhc8=>?_) (λhc8=>?_)
     ·try simp [zG3,zbe,zbd] at hc8
      all_goals
       refine AW_r rfl rfl λK hK=>?_
       simp (disch:=omega) [zG2,DtId.cells,zbs]
       repeat' first|(exfalso;omega)|(refine ⟨λ_=>?_,λ_=>?_⟩)|(refine ⟨by omega,?_⟩)|(intro _)
       all_goals (refine hK _ ?_;clear hK K)
       all_goals
        refine zbr (zb6 ?_)
        simp (disch:=omega) [zG2,DtId.cells,zbs]
        all_goals first|(refine zce λh=>?_;grind [List.mem_iff_getElem?])|(refine zcb ?_;grind [List.mem_iff_getElem?,zd4])
     ·try simp [zG3,zbe,zbd] at hc8
      all_goals
       refine zbn ?_
       refine zbq ?_
       refine zc8 rfl rfl λK hK=>?_
       simp (disch:=omega) [zG2,DtId.cells,zbs]
       repeat' first|(exfalso;omega)|(refine ⟨λ_=>?_,λ_=>?_⟩)|(refine ⟨by omega,?_⟩)|(intro _)
       all_goals (refine hK _ ?_;clear hK K)
       all_goals
        refine ⟨_,LeS.ko [(0,.sl 2 (l.map DtId.cells)),(3,.ptr 64 0),(5,(.g (.int .i64 (((i+1):Nat)))))] [(64,.cells (DtId.cells x))] (by simp [zG4,KpE,DtId.cells];try rfl) (by simp [zG5,KpO,DtId.cells];try rfl) (by rfl) (by simp) (by rfl),_,?_,i+1,rfl,?_,rfl⟩
        ·omega
        ·refine ⟨by omega,?_⟩;grind
  ·try simp [zG3,zbe,zbd] at hc7
   all_goals
    refine zb3 ?_
    refine zbq ?_
    refine AW_r rfl rfl λK hK=>?_
    simp (disch:=omega) [zG2,DtId.cells,zbs]
    repeat' first|(exfalso;omega)|(refine ⟨λ_=>?_,λ_=>?_⟩)|(refine ⟨by omega,?_⟩)|(intro _)
    all_goals (refine hK _ ?_;clear hK K)
    all_goals
     refine zbr (zb6 ?_)
     simp (disch:=omega) [zG2,DtId.cells,zbs]
     all_goals first|(refine zce λh=>?_;grind [List.mem_iff_getElem?])|(refine zcb ?_;grind [List.mem_iff_getElem?,zd4])
theorem indexId(l:List DtId)(x:DtId)(hn:l.length≤1048576):PCall Tryz.prog 94 [.sl 2 (l.map DtId.cells),.agg (DtId.cells x)] (.g (.int .i64 (idxZ (λy=>eqB x y) l))):=by
 refine zbo Tryz.func94 (by rfl) (by rfl) (by rw [Tryz.ntmps94];exact Nat.le_of_ble_eq_true rfl) rfl (by decide) ?_
 rw [Tryz.ntmps94]
 refine AW_k [(0,_),(1,_)] ⟨rfl,rfl,trivial⟩ ?_
 refine AW_r rfl rfl λK hK=>?_
 simp (disch:=omega) [zG2,DtId.cells,zbs]
 repeat' first|(refine ⟨by omega,?_⟩)|(intro _)
 refine hK _ ?_;clear hK K
 refine zbj ?_
 refine AW_r rfl rfl λK hK=>?_
 simp (disch:=omega) [zG2,DtId.cells,zbs]
 repeat' first|(refine ⟨by omega,?_⟩)|(intro _)
 refine hK _ ?_;clear hK K
 refine zbl ?_
 refine zby (λmM sS=>∃(i:Nat),mM=l.length-i∧(i≤l.length∧∀(j:Nat) y,j<i→l[j]? = some y→eqB x y=false)∧sS = { env:=lkE [(0,.sl 2 (l.map DtId.cells)),(3,.ptr 64 0),(6,.sl 2 (l.map DtId.cells)),(7,(.g (.int .i64 ((l.length:Nat))))),(8,(.g (.int .i64 ((i:Nat)))))],ob:=lk [(64,.cells (DtId.cells x))] }) ?_ ?_
 ·refine ⟨_,LeS.ko [(0,.sl 2 (l.map DtId.cells)),(3,.ptr 64 0),(6,.sl 2 (l.map DtId.cells)),(7,(.g (.int .i64 ((l.length:Nat))))),(8,(.g (.int .i64 (((0):Nat)))))] [(64,.cells (DtId.cells x))] (by simp [zG4,KpE,DtId.cells];try rfl) (by simp [zG5,KpO,DtId.cells];try rfl) (by rfl) (by simp) (by rfl),_,0,rfl,?_,rfl⟩
  ·simp
 ·rintro mM sS ⟨i,rfl,⟨hi,hpre⟩,rfl⟩
  refine AW_r rfl rfl λK hK=>?_
  simp (disch:=omega) [zG2,DtId.cells,zbs]
  repeat' first|(refine ⟨by omega,?_⟩)|(intro _)
  refine hK _ ?_;clear hK K
  refine zbj ?_
  refine zbm rfl (λhc9=>?_) (λhc9=>?_)
  ·try simp [zG3,zbe,zbd] at hc9
   all_goals
    have hg:l[i]? = some l[i]:=List.getElem?_eq_getElem (by omega)
    refine zbn ?_
    refine zbq ?_
    refine zbj ?_
    refine zbl ?_
    refine AW_r rfl rfl λK hK=>?_
    simp (disch:=omega) [zG2,DtId.cells,zbs]
    repeat' first|(exfalso;omega)|(refine ⟨λ_=>?_,λ_=>?_⟩)|(refine ⟨by omega,?_⟩)|(intro _)
    all_goals (refine hK _ ?_;clear hK K)
    all_goals
     refine AW_q rfl mix (by kernel_rfl) rfl λK hK=>?_
     simp (disch:=omega) [zG2,DtId.cells,zbs]
     repeat' first|(refine ⟨by omega,?_⟩)|(intro _)
     refine hK _ ?_;clear hK K
     refine zbm rfl (λhc10=>?_) (λhc10=>?_)
     ·try simp [zG3,zbe,zbd] at hc10
      all_goals
       refine AW_r rfl rfl λK hK=>?_
       simp (disch:=omega) [zG2,DtId.cells,zbs]
       repeat' first|(exfalso;omega)|(refine ⟨λ_=>?_,λ_=>?_⟩)|(refine ⟨by omega,?_⟩)|(intro _)
       all_goals (refine hK _ ?_;clear hK K)
       all_goals
        refine zbr (zb6 ?_)
        simp (disch:=omega) [zG2,DtId.cells,zbs]
        all_goals first|(exact zdx (by assumption) (by simp_all [zbe,zd4]) hpre)|(exact zfh (λj x h=>hpre j x (by omega)))
     ·try simp [zG3,zbe,zbd] at hc10
      all_goals
       refine zbn ?_
       refine zbq ?_
       refine zc8 rfl rfl λK hK=>?_
       simp (disch:=omega) [zG2,DtId.cells,zbs]
       repeat' first|(exfalso;omega)|(refine ⟨λ_=>?_,λ_=>?_⟩)|(refine ⟨by omega,?_⟩)|(intro _)
       all_goals (refine hK _ ?_;clear hK K)
       all_goals
        refine ⟨_,LeS.ko [(0,.sl 2 (l.map DtId.cells)),(3,.ptr 64 0),(6,.sl 2 (l.map DtId.cells)),(7,(.g (.int .i64 ((l.length:Nat))))),(8,(.g (.int .i64 (((i+1):Nat)))))] [(64,.cells (DtId.cells x))] (by simp [zG4,KpE,DtId.cells];try rfl) (by simp [zG5,KpO,DtId.cells];try rfl) (by rfl) (by simp) (by rfl),_,?_,i+1,rfl,?_,rfl⟩
        ·omega
        ·refine ⟨by omega,?_⟩;grind [zbd,zd4]
  ·try simp [zG3,zbe,zbd] at hc9
   all_goals
    refine zb3 ?_
    refine zbq ?_
    refine AW_r rfl rfl λK hK=>?_
    simp (disch:=omega) [zG2,DtId.cells,zbs]
    repeat' first|(exfalso;omega)|(refine ⟨λ_=>?_,λ_=>?_⟩)|(refine ⟨by omega,?_⟩)|(intro _)
    all_goals (refine hK _ ?_;clear hK K)
    all_goals
     refine zbr (zb6 ?_)
     simp (disch:=omega) [zG2,DtId.cells,zbs]
     all_goals first|(exact zdx (by assumption) (by simp_all [zbe,zd4]) hpre)|(exact zfh (λj x h=>hpre j x (by omega)))
theorem zl6{α:Type}(l:List α)(x:α):decide (0≤idxZ (λy=>eqB x y) l)=decB (x∈l):=by
 rw [Bool.eq_iff_iff,zbb]
 simp only [decide_eq_true_eq]
 unfold idxZ
 split
 ·rename_i i h
  obtain ⟨h1,h2,-⟩:=List.findIdx?_eq_some_iff_getElem.1 h
  rw [zbe] at h2
  exact ⟨λ_=>h2 ▸ List.getElem_mem _,λ_=>by omega⟩
 ·rename_i h
  rw [List.findIdx?_eq_none_iff] at h
  refine ⟨λh=>by omega,λhx=>?_⟩
  have:=h x hx
  simp [zl1] at this
theorem zdy(l:List DtId)(x:DtId)(hn:l.length≤1048576):PCall Tryz.prog 37 [.sl 2 (l.map DtId.cells),.agg (DtId.cells x)] (.g (.bool (decB (x∈l)))):=by
 refine zbo Tryz.func37 (by rfl) (by rfl) (by rw [Tryz.ntmps37];exact Nat.le_of_ble_eq_true rfl) rfl (by decide) ?_
 rw [Tryz.ntmps37]
 refine AW_k [(0,_),(1,_)] ⟨rfl,rfl,trivial⟩ ?_
 refine AW_r rfl rfl λK hK=>?_
 simp (disch:=omega) [zG2,DtId.cells,zl6]
 repeat' first|(refine ⟨by omega,?_⟩)|(intro _)
 refine hK _ ?_;clear hK K
 refine AW_r rfl rfl λK hK=>?_
 simp (disch:=omega) [zG2,DtId.cells,zl6]
 repeat' first|(exfalso;omega)|(refine zcg (zbc zbw (zbc (zbu rfl) zbi)) (indexId _ _ (by omega)) rfl ?_;simp (disch:=omega) [zG2,DtId.cells,zl6])|(refine ⟨by omega,?_⟩)|(intro _)
 refine hK _ ?_;clear hK K
 refine zbr (zb6 ?_)
 simp (disch:=omega) [zG2,DtId.cells,zl6]
 all_goals first | omega|(simp_all;done)|(simp [List.take_of_length_le];done)|((try simp_all);(try simp (disch:=omega) only [zb4,Int.tdiv_eq_ediv_of_nonneg,Int.tmod_eq_emod_of_nonneg,and_true,true_and]);done)|((try simp_all);(try simp (disch:=omega) only [zb4,Int.tdiv_eq_ediv_of_nonneg,Int.tmod_eq_emod_of_nonneg,and_true,true_and] at *);omega)
end Go.Proofs.YtodmafgmdlkhoaaGreat.Vs
end
section
open Go Go.Proofs Go.Proofs.YtodmafgmdlkhoaaGreat.Vs
namespace Go.Proofs.YtodmafgmdlkhoaaGreat.Vs
set_option linter.all false
set_option linter.unusedSimpArgs false
set_option linter.unusedVariables false
set_option maxRecDepth 100000
def InstP(x:DtInst):Prop:=IdP x.fId ∧ -1≤x.fBal∧x.fBal≤600 ∧ -1≤x.fVBal∧x.fVBal≤x.fBal∧0≤x.fStatus∧x.fStatus≤3∧CmdP x.fCmd∧0≤x.fSeq∧x.fSeq≤60∧IdsP x.fDeps∧¬x.fId∈x.fDeps∧(x.fStatus≠0∨(x.fVBal = -1∧x.fCmd.fKind=0∧x.fSeq=0∧x.fDeps=[]∧x.fSame=false))
def InstsP(l:List DtInst):Prop:=∀(i:Nat) x,l[i]? = some x→InstP x∧∀y,0<i→l[i-1]? = some y→idLt y.fId x.fId
theorem instSz(x:DtInst)(hs:DtInst.sz x≤1048576):DtCmd.sz x.fCmd≤1048576∧x.fDeps.length≤1048576:=by
 have h1:=DtCmd.sz_nonneg x.fCmd
 simp only [DtInst.sz] at hs
 omega
theorem zwt(l:List DtInst)(hs:szS DtInst.sz l≤1048576):l.length≤1048576∧∀i (h:i<l.length),DtInst.sz l[i]≤1048576:=by
 have h0:=zdh DtInst.sz_nonneg l
 simp only [szS] at hs
 refine ⟨by omega,λi h=>?_⟩
 have h1:=zm6 DtInst.sz_nonneg l l[i] (List.getElem_mem _)
 omega
theorem l8Inst(x:DtInst)(hs:DtInst.sz x≤1048576):PCall Tryz.prog 97 [.agg (DtInst.cells x)] (.g (.bool (decB (InstP x)))):=by
 have ⟨hc,hd⟩:=instSz x hs
 refine zbo Tryz.func97 (by rfl) (by rfl) (by rw [Tryz.ntmps97];exact Nat.le_of_ble_eq_true rfl) rfl (by decide) ?_
 rw [Tryz.ntmps97]
 refine AW_k [(0,_)] ⟨rfl,trivial⟩ ?_
 refine AW_r rfl rfl λK hK=>?_
 simp (disch:=omega) [zG2,DtInst.cells,DtId.cells,DtCmd.cells,zbb,zbf,len0]
 repeat' first|(refine ⟨by omega,?_⟩)|(intro _)
 refine hK _ ?_;clear hK K
 refine zbj ?_
 refine AW_r rfl rfl λK hK=>?_
 simp (disch:=omega) [zG2,DtInst.cells,DtId.cells,DtCmd.cells,zbb,zbf,len0]
 repeat' first|(exfalso;omega)|(refine zcg (zbc (zbu rfl) zbi) (l8Id _) rfl ?_;simp (disch:=omega) [zG2,DtInst.cells,DtId.cells,DtCmd.cells,zbb,zbf,len0])|(refine zcg (zbc zcs (zbc zcs (zbc zcs zbi))) (l1In _ _ _) rfl ?_;simp (disch:=omega) [zG2,DtInst.cells,DtId.cells,DtCmd.cells,zbb,zbf,len0])|(refine zcg (zbc (zbu rfl) zbi) (zs8 _ (by assumption)) rfl ?_;simp (disch:=omega) [zG2,DtInst.cells,DtId.cells,DtCmd.cells,zbb,zbf,len0])|(refine zcg (zbc zbw zbi) (specIdsOk _ (by assumption)) rfl ?_;simp (disch:=omega) [zG2,DtInst.cells,DtId.cells,DtCmd.cells,zbb,zbf,len0])|(refine zcg (zbc zbw (zbc (zbu rfl) zbi)) (l8Has _ _ (by assumption)) rfl ?_;simp (disch:=omega) [zG2,DtInst.cells,DtId.cells,DtCmd.cells,zbb,zbf,len0])|(refine ⟨λ_=>?_,λ_=>?_⟩)|(refine ⟨by omega,?_⟩)|(intro _)
 all_goals (refine hK _ ?_;clear hK K)
 all_goals
  refine zbm rfl (λhc1=>?_) (λhc1=>?_)
  ·try simp [zG3,zbe,zbd] at hc1
   all_goals
    refine AW_r rfl rfl λK hK=>?_
    simp (disch:=omega) [zG2,DtInst.cells,DtId.cells,DtCmd.cells,zbb,zbf,len0]
    repeat' first|(exfalso;omega)|(refine ⟨λ_=>?_,λ_=>?_⟩)|(refine ⟨by omega,?_⟩)|(intro _)
    all_goals (refine hK _ ?_;clear hK K)
    all_goals
     refine zbr (zb6 ?_)
     simp (disch:=omega) [zG2,DtInst.cells,DtId.cells,DtCmd.cells,zbb,zbf,len0]
     all_goals first | grind [InstP]|(refine zce λh=>?_;grind [InstP])|(refine zcb ?_;grind [InstP])|(rw [Bool.eq_iff_iff,zbb];simp;grind [InstP])
  ·try simp [zG3,zbe,zbd] at hc1
   all_goals
    refine zbn ?_
    refine zbq ?_
    refine AW_r rfl rfl λK hK=>?_
    simp (disch:=omega) [zG2,DtInst.cells,DtId.cells,DtCmd.cells,zbb,zbf,len0]
    repeat' first|(exfalso;omega)|(refine ⟨λ_=>?_,λ_=>?_⟩)|(refine ⟨by omega,?_⟩)|(intro _)
    all_goals (refine hK _ ?_;clear hK K)
    all_goals
     refine zbr (zb6 ?_)
     simp (disch:=omega) [zG2,DtInst.cells,DtId.cells,DtCmd.cells,zbb,zbf,len0]
     all_goals first | grind [InstP]|(refine zce λh=>?_;grind [InstP])|(refine zcb ?_;grind [InstP])|(rw [Bool.eq_iff_iff,zbb];simp;grind [InstP])
theorem instOk(x:DtInst)(hs:DtInst.sz x≤1048576):PCall Tryz.prog 90 [.agg (DtInst.cells x)] (.g (.bool (decB (InstP x)))):=by
 have ⟨hc,hd⟩:=instSz x hs
 refine zbo Tryz.func90 (by rfl) (by rfl) (by rw [Tryz.ntmps90];exact Nat.le_of_ble_eq_true rfl) rfl (by decide) ?_
 rw [Tryz.ntmps90]
 refine AW_k [(0,_)] ⟨rfl,trivial⟩ ?_
 refine AW_r rfl rfl λK hK=>?_
 simp (disch:=omega) [zG2,DtInst.cells,DtId.cells,DtCmd.cells,zbb,zbf,len0]
 repeat' first|(refine ⟨by omega,?_⟩)|(intro _)
 refine hK _ ?_;clear hK K
 refine zbj ?_
 refine AW_r rfl rfl λK hK=>?_
 simp (disch:=omega) [zG2,DtInst.cells,DtId.cells,DtCmd.cells,zbb,zbf,len0]
 repeat' first|(exfalso;omega)|(refine zcg (zbc (zbu rfl) zbi) (idOk _) rfl ?_;simp (disch:=omega) [zG2,DtInst.cells,DtId.cells,DtCmd.cells,zbb,zbf,len0])|(refine zcg (zbc zcs (zbc zcs (zbc zcs zbi))) (zpu _ _ _) rfl ?_;simp (disch:=omega) [zG2,DtInst.cells,DtId.cells,DtCmd.cells,zbb,zbf,len0])|(refine zcg (zbc (zbu rfl) zbi) (implCmdOk _ (by assumption)) rfl ?_;simp (disch:=omega) [zG2,DtInst.cells,DtId.cells,DtCmd.cells,zbb,zbf,len0])|(refine zcg (zbc zbw zbi) (implIdsOk _ (by assumption)) rfl ?_;simp (disch:=omega) [zG2,DtInst.cells,DtId.cells,DtCmd.cells,zbb,zbf,len0])|(refine zcg (zbc zbw (zbc (zbu rfl) zbi)) (zdy _ _ (by assumption)) rfl ?_;simp (disch:=omega) [zG2,DtInst.cells,DtId.cells,DtCmd.cells,zbb,zbf,len0])|(refine ⟨λ_=>?_,λ_=>?_⟩)|(refine ⟨by omega,?_⟩)|(intro _)
 all_goals (refine hK _ ?_;clear hK K)
 all_goals
  refine zbm rfl (λhc2=>?_) (λhc2=>?_)
  ·try simp [zG3,zbe,zbd] at hc2
   all_goals
    refine AW_r rfl rfl λK hK=>?_
    simp (disch:=omega) [zG2,DtInst.cells,DtId.cells,DtCmd.cells,zbb,zbf,len0]
    repeat' first|(exfalso;omega)|(refine ⟨λ_=>?_,λ_=>?_⟩)|(refine ⟨by omega,?_⟩)|(intro _)
    all_goals (refine hK _ ?_;clear hK K)
    all_goals
     refine zbr (zb6 ?_)
     simp (disch:=omega) [zG2,DtInst.cells,DtId.cells,DtCmd.cells,zbb,zbf,len0]
     all_goals first | grind [InstP]|(refine zce λh=>?_;grind [InstP])|(refine zcb ?_;grind [InstP])|(rw [Bool.eq_iff_iff,zbb];simp;grind [InstP])
  ·try simp [zG3,zbe,zbd] at hc2
   all_goals
    refine zbn ?_
    refine zbq ?_
    refine AW_r rfl rfl λK hK=>?_
    simp (disch:=omega) [zG2,DtInst.cells,DtId.cells,DtCmd.cells,zbb,zbf,len0]
    repeat' first|(exfalso;omega)|(refine ⟨λ_=>?_,λ_=>?_⟩)|(refine ⟨by omega,?_⟩)|(intro _)
    all_goals (refine hK _ ?_;clear hK K)
    all_goals
     refine zbr (zb6 ?_)
     simp (disch:=omega) [zG2,DtInst.cells,DtId.cells,DtCmd.cells,zbb,zbf,len0]
     all_goals first | grind [InstP]|(refine zce λh=>?_;grind [InstP])|(refine zcb ?_;grind [InstP])|(rw [Bool.eq_iff_iff,zbb];simp;grind [InstP])
theorem zdv(l:List DtInst)(hs:szS DtInst.sz l≤1048576):PCall Tryz.prog 40 [.sl 16 (l.map DtInst.cells)] (.g (.bool (decB (InstsP l)))):=by
 have ⟨hl,hl2⟩:=zwt l hs
 refine zbo Tryz.func40 (by rfl) (by rfl) (by rw [Tryz.ntmps40];exact Nat.le_of_ble_eq_true rfl) rfl (by decide) ?_
 rw [Tryz.ntmps40]
 refine AW_k [(0,_)] ⟨rfl,trivial⟩ ?_
 refine AW_r rfl rfl λK hK=>?_
 simp (disch:=omega) [zG3,zb4,gE,tP,DtInst.cells,DtId.cells,DtCmd.cells,Classical.not_not]
 repeat' first|(refine ⟨by omega,?_⟩)|(intro _)
 refine hK _ ?_;clear hK K
 refine zbj ?_
 refine AW_r rfl rfl λK hK=>?_
 simp (disch:=omega) [zG3,zb4,gE,tP,DtInst.cells,DtId.cells,DtCmd.cells,Classical.not_not]
 repeat' first|(refine ⟨by omega,?_⟩)|(intro _)
 refine hK _ ?_;clear hK K
 refine zbl ?_
 refine zby (λmM sS=>∃(i:Nat),mM=l.length-i∧(i≤l.length∧∀(j:Nat) x,j<i→l[j]? = some x→InstP x∧∀y,0<j→l[j-1]? = some y→idLt y.fId x.fId)∧sS = { env:=lkE [(0,.sl 16 (l.map DtInst.cells)),(3,(.g (.int .i64 ((i:Nat)))))],ob:=formOb [] [] }) ?_ ?_
 ·refine ⟨_,LeS.kp [(0,.sl 16 (l.map DtInst.cells)),(3,(.g (.int .i64 (((0):Nat)))))] (by simp [zG4,KpE];try rfl),_,0,rfl,?_,rfl⟩
  ·simp
 ·rintro mM sS ⟨i,rfl,⟨hi,hpre⟩,rfl⟩
  refine zbj ?_
  refine AW_r rfl rfl λK hK=>?_
  simp (disch:=omega) [zG3,zb4,gE,tP,DtInst.cells,DtId.cells,DtCmd.cells,Classical.not_not]
  repeat' first|(refine ⟨by omega,?_⟩)|(intro _)
  refine hK _ ?_;clear hK K
  refine zbm rfl (λhc3=>?_) (λhc3=>?_)
  ·try simp [zG3,zbe,zbd] at hc3
   all_goals
    have hg:l[i]? = some l[i]:=List.getElem?_eq_getElem (by omega)
    have hg':l[i-1]? = some l[i-1]:=List.getElem?_eq_getElem (by omega)
    have hm:=hl2 i (by omega)
    rcases Nat.eq_zero_or_pos i with hi0 | hi0
    all_goals
     refine zbn ?_
     refine zbq ?_
     refine zbj ?_
     refine zbl ?_
     refine AW_q rfl mix (by kernel_rfl) rfl λK hK=>?_
     simp (disch:=omega) [zG3,zb4,gE,tP,DtInst.cells,DtId.cells,DtCmd.cells,Classical.not_not]
     repeat' first|(exfalso;omega)|(refine zcg (zbc (zbu rfl) zbi) (l8Inst _ (by assumption)) rfl ?_;simp (disch:=omega) [zG3,zb4,gE,tP,DtInst.cells,DtId.cells,DtCmd.cells,Classical.not_not])|(refine zcg (zbc (zbu rfl) (zbc (zbu rfl) zbi)) (zs9 _ _) rfl ?_;simp (disch:=omega) [zG3,zb4,gE,tP,DtInst.cells,DtId.cells,DtCmd.cells,Classical.not_not])|(refine ⟨λ_=>?_,λ_=>?_⟩)|(refine ⟨by omega,?_⟩)|(intro _)
     all_goals (refine hK _ ?_;clear hK K)
     all_goals
      refine zbm rfl (λhc4=>?_) (λhc4=>?_)
      ·try simp [zG3,zbe,zbd] at hc4
       all_goals
        refine AW_r rfl rfl λK hK=>?_
        simp (disch:=omega) [zG3,zb4,gE,tP,DtInst.cells,DtId.cells,DtCmd.cells,Classical.not_not]
        repeat' first|(exfalso;omega)|(refine ⟨λ_=>?_,λ_=>?_⟩)|(refine ⟨by omega,?_⟩)|(intro _)
        all_goals (refine hK _ ?_;clear hK K)
        all_goals
         refine zbr (zb6 ?_)
         simp (disch:=omega) [zG3,zb4,gE,tP,DtInst.cells,DtId.cells,DtCmd.cells,Classical.not_not]
         all_goals first | grind [InstsP]|(refine zce λh=>?_;grind [InstsP])|(refine zcb ?_;grind [InstsP])
      ·try simp [zG3,zbe,zbd] at hc4
       all_goals
        refine zbn ?_
        refine zbq ?_
        refine zc8 rfl rfl λK hK=>?_
        simp (disch:=omega) [zG3,zb4,gE,tP,DtInst.cells,DtId.cells,DtCmd.cells,Classical.not_not]
        repeat' first|(exfalso;omega)|(refine ⟨λ_=>?_,λ_=>?_⟩)|(refine ⟨by omega,?_⟩)|(intro _)
        all_goals (refine hK _ ?_;clear hK K)
        all_goals
         refine ⟨_,LeS.kp [(0,.sl 16 (l.map DtInst.cells)),(3,(.g (.int .i64 (((i+1):Nat)))))] (by simp [zG4,KpE];try rfl),_,?_,i+1,rfl,?_,rfl⟩
         ·omega
         ·refine ⟨by omega,?_⟩;clear hg' hl2;grind
  ·try simp [zG3,zbe,zbd] at hc3
   all_goals
    refine zb3 ?_
    refine zbq ?_
    refine AW_r rfl rfl λK hK=>?_
    simp (disch:=omega) [zG3,zb4,gE,tP,DtInst.cells,DtId.cells,DtCmd.cells,Classical.not_not]
    repeat' first|(exfalso;omega)|(refine ⟨λ_=>?_,λ_=>?_⟩)|(refine ⟨by omega,?_⟩)|(intro _)
    all_goals (refine hK _ ?_;clear hK K)
    all_goals
     refine zbr (zb6 ?_)
     simp (disch:=omega) [zG3,zb4,gE,tP,DtInst.cells,DtId.cells,DtCmd.cells,Classical.not_not]
     all_goals first | grind [InstsP]|(refine zce λh=>?_;grind [InstsP])|(refine zcb ?_;grind [InstsP])
theorem zct(l:List DtInst)(hs:szS DtInst.sz l≤1048576):PCall Tryz.prog 34 [.sl 16 (l.map DtInst.cells)] (.g (.bool (decB (InstsP l)))):=by
 have ⟨hl,hl2⟩:=zwt l hs
 refine zbo Tryz.func34 (by rfl) (by rfl) (by rw [Tryz.ntmps34];exact Nat.le_of_ble_eq_true rfl) rfl (by decide) ?_
 rw [Tryz.ntmps34]
 refine AW_k [(0,_)] ⟨rfl,trivial⟩ ?_
 refine AW_r rfl rfl λK hK=>?_
 simp (disch:=omega) [zG3,zb4,gE,tP,DtInst.cells,DtId.cells,DtCmd.cells,Classical.not_not]
 repeat' first|(refine ⟨by omega,?_⟩)|(intro _)
 refine hK _ ?_;clear hK K
 refine zbj ?_
 refine AW_r rfl rfl λK hK=>?_
 simp (disch:=omega) [zG3,zb4,gE,tP,DtInst.cells,DtId.cells,DtCmd.cells,Classical.not_not]
 repeat' first|(refine ⟨by omega,?_⟩)|(intro _)
 refine hK _ ?_;clear hK K
 refine zbl ?_
 refine zby (λmM sS=>∃(i:Nat),mM=l.length-i∧(i≤l.length∧∀(j:Nat) x,j<i→l[j]? = some x→InstP x∧∀y,0<j→l[j-1]? = some y→idLt y.fId x.fId)∧sS = { env:=lkE [(0,.sl 16 (l.map DtInst.cells)),(5,.sl 16 (l.map DtInst.cells)),(6,(.g (.int .i64 ((l.length:Nat))))),(7,(.g (.int .i64 ((i:Nat)))))],ob:=lk [] }) ?_ ?_
 ·refine ⟨_,LeS.ko [(0,.sl 16 (l.map DtInst.cells)),(5,.sl 16 (l.map DtInst.cells)),(6,(.g (.int .i64 ((l.length:Nat))))),(7,(.g (.int .i64 (((0):Nat)))))] [] (by simp [zG4,KpE];try rfl) (by simp [zG5,KpO];try rfl) (by rfl) (by simp) (by rfl),_,0,rfl,?_,rfl⟩
  ·simp
 ·rintro mM sS ⟨i,rfl,⟨hi,hpre⟩,rfl⟩
  refine AW_r rfl rfl λK hK=>?_
  simp (disch:=omega) [zG3,zb4,gE,tP,DtInst.cells,DtId.cells,DtCmd.cells,Classical.not_not]
  repeat' first|(refine ⟨by omega,?_⟩)|(intro _)
  refine hK _ ?_;clear hK K
  refine zbj ?_
  refine zbm rfl (λhc5=>?_) (λhc5=>?_)
  ·try simp [zG3,zbe,zbd] at hc5
   all_goals
    have hg:l[i]? = some l[i]:=List.getElem?_eq_getElem (by omega)
    have hg':l[i-1]? = some l[i-1]:=List.getElem?_eq_getElem (by omega)
    have hm:=hl2 i (by omega)
    rcases Nat.eq_zero_or_pos i with hi0 | hi0
    all_goals
     refine zbn ?_
     refine zbq ?_
     refine zbj ?_
     refine zbl ?_
     refine AW_r rfl rfl λK hK=>?_
     simp (disch:=omega) [zG3,zb4,gE,tP,DtInst.cells,DtId.cells,DtCmd.cells,Classical.not_not]
     repeat' first|(exfalso;omega)|(refine ⟨λ_=>?_,λ_=>?_⟩)|(refine ⟨by omega,?_⟩)|(intro _)
     all_goals (refine hK _ ?_;clear hK K)
     all_goals
      refine AW_q rfl mix (by kernel_rfl) rfl λK hK=>?_
      simp (disch:=omega) [zG3,zb4,gE,tP,DtInst.cells,DtId.cells,DtCmd.cells,Classical.not_not]
      repeat' first|(exfalso;omega)|(refine zcg (zbc (zbu rfl) zbi) (instOk _ (by assumption)) rfl ?_;simp (disch:=omega) [zG3,zb4,gE,tP,DtInst.cells,DtId.cells,DtCmd.cells,Classical.not_not])|(refine zcg (zbc (zbu rfl) (zbc (zbu rfl) zbi)) (zhv _ _) rfl ?_;simp (disch:=omega) [zG3,zb4,gE,tP,DtInst.cells,DtId.cells,DtCmd.cells,Classical.not_not])|(refine ⟨λ_=>?_,λ_=>?_⟩)|(refine ⟨by omega,?_⟩)|(intro _)
      all_goals (refine hK _ ?_;clear hK K)
      all_goals
       refine zbm rfl (λhc6=>?_) (λhc6=>?_)
       ·try simp [zG3,zbe,zbd] at hc6
        all_goals
         refine AW_r rfl rfl λK hK=>?_
         simp (disch:=omega) [zG3,zb4,gE,tP,DtInst.cells,DtId.cells,DtCmd.cells,Classical.not_not]
         repeat' first|(exfalso;omega)|(refine ⟨λ_=>?_,λ_=>?_⟩)|(refine ⟨by omega,?_⟩)|(intro _)
         all_goals (refine hK _ ?_;clear hK K)
         all_goals
          refine zbr (zb6 ?_)
          simp (disch:=omega) [zG3,zb4,gE,tP,DtInst.cells,DtId.cells,DtCmd.cells,Classical.not_not]
          all_goals first | grind [InstsP]|(refine zce λh=>?_;grind [InstsP])|(refine zcb ?_;grind [InstsP])
       ·try simp [zG3,zbe,zbd] at hc6
        all_goals
         refine zbn ?_
         refine zbq ?_
         refine zc8 rfl rfl λK hK=>?_
         simp (disch:=omega) [zG3,zb4,gE,tP,DtInst.cells,DtId.cells,DtCmd.cells,Classical.not_not]
         repeat' first|(exfalso;omega)|(refine ⟨λ_=>?_,λ_=>?_⟩)|(refine ⟨by omega,?_⟩)|(intro _)
         all_goals (refine hK _ ?_;clear hK K)
         all_goals
          refine ⟨_,LeS.ko [(0,.sl 16 (l.map DtInst.cells)),(5,.sl 16 (l.map DtInst.cells)),(6,(.g (.int .i64 ((l.length:Nat))))),(7,(.g (.int .i64 (((i+1):Nat)))))] [] (by simp [zG4,KpE];try rfl) (by simp [zG5,KpO];try rfl) (by rfl) (by simp) (by rfl),_,?_,i+1,rfl,?_,rfl⟩
          ·omega
          ·refine ⟨by omega,?_⟩;clear hg' hl2;grind
  ·try simp [zG3,zbe,zbd] at hc5
   all_goals
    refine zb3 ?_
    refine zbq ?_
    refine AW_r rfl rfl λK hK=>?_
    simp (disch:=omega) [zG3,zb4,gE,tP,DtInst.cells,DtId.cells,DtCmd.cells,Classical.not_not]
    repeat' first|(exfalso;omega)|(refine ⟨λ_=>?_,λ_=>?_⟩)|(refine ⟨by omega,?_⟩)|(intro _)
    all_goals (refine hK _ ?_;clear hK K)
    all_goals
     refine zbr (zb6 ?_)
     simp (disch:=omega) [zG3,zb4,gE,tP,DtInst.cells,DtId.cells,DtCmd.cells,Classical.not_not]
     all_goals first | grind [InstsP]|(refine zce λh=>?_;grind [InstsP])|(refine zcb ?_;grind [InstsP])
end Go.Proofs.YtodmafgmdlkhoaaGreat.Vs
end
section
open Go Go.Proofs Go.Proofs.YtodmafgmdlkhoaaGreat.Vs
namespace Go.Proofs.YtodmafgmdlkhoaaGreat.Vs
set_option linter.all false
set_option linter.unusedSimpArgs false
set_option linter.unusedVariables false
set_option maxRecDepth 100000
theorem tkm{α β:Type}(l:List α)(f:α→β):List.take l.length (l.map f)=l.map f:=List.take_of_length_le (by simp)
theorem l4Copy(c:DtCmd)(hn:c.fChunks.length≤1048576):PCall Tryz.prog 93 [.agg (DtCmd.cells c)] (.agg (DtCmd.cells c)):=by
 refine zbo Tryz.func93 (by rfl) (by rfl) (by rw [Tryz.ntmps93];exact Nat.le_of_ble_eq_true rfl) rfl (by decide) ?_
 rw [Tryz.ntmps93]
 refine AW_k [(0,_)] ⟨rfl,trivial⟩ ?_
 refine AW_r rfl rfl λK hK=>?_
 simp (disch:=omega) [zG2,DtCmd.cells,aNews,aAppend,aBuildSlice,chunks,tkm]
 repeat' first|(refine ⟨by omega,?_⟩)|(intro _)
 refine hK _ ?_;clear hK K
 refine AW_r rfl rfl λK hK=>?_
 simp (disch:=omega) [zG2,DtCmd.cells,aNews,aAppend,aBuildSlice,chunks,tkm]
 repeat' first|(refine ⟨by omega,?_⟩)|(intro _)
 refine hK _ ?_;clear hK K
 refine AW_r rfl rfl λK hK=>?_
 simp (disch:=omega) [zG2,DtCmd.cells,aNews,aAppend,aBuildSlice,chunks,tkm]
 repeat' first|(refine ⟨by omega,?_⟩)|(intro _)
 refine hK _ ?_;clear hK K
 refine zbr (zb6 ?_)
 simp (disch:=omega) [zG2,DtCmd.cells,aNews,aAppend,aBuildSlice,chunks,tkm]
 all_goals simp [tkm]
theorem l8Copy(x:DtInst)(hn:x.fCmd.fChunks.length≤1048576)(hd:x.fDeps.length≤1048576):PCall Tryz.prog 36 [.agg (DtInst.cells x)] (.agg (DtInst.cells x)):=by
 refine zbo Tryz.func36 (by rfl) (by rfl) (by rw [Tryz.ntmps36];exact Nat.le_of_ble_eq_true rfl) rfl (by decide) ?_
 rw [Tryz.ntmps36]
 refine AW_k [(0,_)] ⟨rfl,trivial⟩ ?_
 refine AW_r rfl rfl λK hK=>?_
 simp (disch:=omega) [zG2,DtInst.cells,DtCmd.cells,aNews,aAppend,aBuildSlice,chunks,tkm]
 repeat' first|(refine ⟨by omega,?_⟩)|(intro _)
 refine hK _ ?_;clear hK K
 refine AW_r rfl rfl λK hK=>?_
 simp (disch:=omega) [zG2,DtInst.cells,DtCmd.cells,aNews,aAppend,aBuildSlice,chunks,tkm]
 repeat' first|(exfalso;omega)|(refine zcg (zbc (zbu rfl) zbi) (l4Copy _ (by assumption)) rfl ?_;simp (disch:=omega) [zG2,DtInst.cells,DtCmd.cells,aNews,aAppend,aBuildSlice,chunks,tkm])|(refine ⟨by omega,?_⟩)|(intro _)
 refine hK _ ?_;clear hK K
 refine AW_r rfl rfl λK hK=>?_
 simp (disch:=omega) [zG2,DtInst.cells,DtCmd.cells,aNews,aAppend,aBuildSlice,chunks,tkm]
 repeat' first|(refine ⟨by omega,?_⟩)|(intro _)
 refine hK _ ?_;clear hK K
 refine AW_r rfl rfl λK hK=>?_
 simp (disch:=omega) [zG2,DtInst.cells,DtCmd.cells,aNews,aAppend,aBuildSlice,chunks,tkm]
 repeat' first|(refine ⟨by omega,?_⟩)|(intro _)
 refine hK _ ?_;clear hK K
 refine zbr (zb6 ?_)
 simp (disch:=omega) [zG2,DtInst.cells,DtCmd.cells,aNews,aAppend,aBuildSlice,chunks,tkm]
 all_goals simp [tkm]
def zeroInst(id:DtId):DtInst:=⟨id,-1,-1,0,zeroCmd,0,[],false⟩
noncomputable def instAt(l:List DtInst)(id:DtId):DtInst:=(l.find? λx=>eqB x.fId id).getD (zeroInst id)
theorem zhb{l:List DtInst}{id:DtId}{i:Nat}(hi:i<l.length)(h:l[i].fId=id)(hb:∀(j:Nat) x,j<i→l[j]? = some x→¬x.fId=id):instAt l id=l[i]:=by
 have:l.find? (λx=>eqB x.fId id)=some l[i]:=by
  rw [List.find?_eq_some_iff_getElem]
  refine ⟨by rw [zbe];exact h,i,hi,rfl,λj hj=>?_⟩
  have:=hb j l[j] hj (List.getElem?_eq_getElem (by omega))
  simp [zf9 this]
 rw [instAt,this];rfl
theorem znp{l:List DtInst}{id:DtId}(hb:∀(j:Nat) x,j<l.length→l[j]? = some x→¬x.fId=id):instAt l id=zeroInst id:=by
 have:l.find? (λx=>eqB x.fId id)=none:=by
  rw [List.find?_eq_none]
  intro x hx
  obtain ⟨j,hj⟩:=List.getElem?_of_mem hx
  have:=hb j x (List.getElem?_eq_some_iff.1 hj).1 hj
  simp [zf9 this]
 rw [instAt,this];rfl
def InstSm(x:DtInst):Prop:=x.fCmd.fChunks.length≤1048576∧x.fDeps.length≤1048576∧DtCmd.sz x.fCmd≤1048576
theorem zpv(l:List DtInst)(id:DtId)(hn:l.length≤1048576)(hm:∀x∈l,InstSm x):PCall Tryz.prog 12 [.sl 16 (l.map DtInst.cells),.agg (DtId.cells id)] (.agg (DtInst.cells (instAt l id))):=by
 refine zbo Tryz.func12 (by rfl) (by rfl) (by rw [Tryz.ntmps12];exact Nat.le_of_ble_eq_true rfl) rfl (by decide) ?_
 rw [Tryz.ntmps12]
 refine AW_k [(0,_),(1,_)] ⟨rfl,rfl,trivial⟩ ?_
 refine AW_r rfl rfl λK hK=>?_
 simp (disch:=omega) [zG2,DtInst.cells,DtCmd.cells,DtId.cells,zbs,aNews,aAppend,aBuildSlice,chunks,tkm]
 repeat' first|(refine ⟨by omega,?_⟩)|(intro _)
 refine hK _ ?_;clear hK K
 refine zbj ?_
 refine AW_r rfl rfl λK hK=>?_
 simp (disch:=omega) [zG2,DtInst.cells,DtCmd.cells,DtId.cells,zbs,aNews,aAppend,aBuildSlice,chunks,tkm]
 repeat' first|(refine ⟨by omega,?_⟩)|(intro _)
 refine hK _ ?_;clear hK K
 refine zbl ?_
 refine zby (λmM sS=>∃(i:Nat),mM=l.length-i∧(i≤l.length∧∀(j:Nat) x,j<i→l[j]? = some x→¬x.fId=id)∧sS = { env:=lkE [(0,.sl 16 (l.map DtInst.cells)),(3,.ptr 64 0),(4,.ptr 80 0),(5,(.g (.int .i64 ((i:Nat)))))],ob:=lk [(64,.cells (DtId.cells id)),(80,.cells [.g (.int .i64 0),.g (.int .i64 0),.g (.int .i64 0),.g (.int .i64 0),.g (.int .i64 0),.g (.int .i64 0),.g (.int .i64 0),.g (.int .i64 0),.s [],.s [],.s [],.g (.int .i64 0),.g (.slice none 0 0),.g (.int .i64 0),.g (.slice none 0 0),.g (.bool false)])] }) ?_ ?_
 ·refine ⟨_,LeS.ko [(0,.sl 16 (l.map DtInst.cells)),(3,.ptr 64 0),(4,.ptr 80 0),(5,(.g (.int .i64 (((0):Nat)))))] [(64,.cells (DtId.cells id)),(80,.cells [.g (.int .i64 0),.g (.int .i64 0),.g (.int .i64 0),.g (.int .i64 0),.g (.int .i64 0),.g (.int .i64 0),.g (.int .i64 0),.g (.int .i64 0),.s [],.s [],.s [],.g (.int .i64 0),.g (.slice none 0 0),.g (.int .i64 0),.g (.slice none 0 0),.g (.bool false)])] (by simp [zG4,KpE,DtId.cells,DtInst.cells];try rfl) (by simp [zG5,KpO,DtId.cells,DtInst.cells];try rfl) (by rfl) (by simp) (by rfl),_,0,rfl,?_,rfl⟩
  ·simp
 ·rintro mM sS ⟨i,rfl,⟨hi,hpre⟩,rfl⟩
  refine zbj ?_
  refine AW_r rfl rfl λK hK=>?_
  simp (disch:=omega) [zG2,DtInst.cells,DtCmd.cells,DtId.cells,zbs,aNews,aAppend,aBuildSlice,chunks,tkm]
  repeat' first|(refine ⟨by omega,?_⟩)|(intro _)
  refine hK _ ?_;clear hK K
  refine zbm rfl (λhc1=>?_) (λhc1=>?_)
  ·try simp [zG3,zbe,zbd] at hc1
   all_goals
    have hg:l[i]? = some l[i]:=List.getElem?_eq_getElem (by omega)
    have hx:=zd4 l[i].fId id
    obtain ⟨hx1,hx2,-⟩:=hm _ (List.getElem_mem (n:=i) (h:=by omega))
    refine zbn ?_
    refine zbq ?_
    refine zbj ?_
    refine zbl ?_
    refine AW_q rfl mix (by kernel_rfl) rfl λK hK=>?_
    simp (disch:=omega) [zG2,DtInst.cells,DtCmd.cells,DtId.cells,zbs,aNews,aAppend,aBuildSlice,chunks,tkm]
    repeat' first|(exfalso;omega)|(refine ⟨λ_=>?_,λ_=>?_⟩)|(refine ⟨by omega,?_⟩)|(intro _)
    all_goals (refine hK _ ?_;clear hK K)
    all_goals
     refine zbm rfl (λhc2=>?_) (λhc2=>?_)
     ·try simp [zG3,zbe,zbd] at hc2
      all_goals
       refine AW_r rfl rfl λK hK=>?_
       simp (disch:=omega) [zG2,DtInst.cells,DtCmd.cells,DtId.cells,zbs,aNews,aAppend,aBuildSlice,chunks,tkm]
       repeat' first|(exfalso;omega)|(refine zcg (zbc (zbu rfl) zbi) (l8Copy _ (by assumption) (by assumption)) rfl ?_;simp (disch:=omega) [zG2,DtInst.cells,DtCmd.cells,DtId.cells,zbs,aNews,aAppend,aBuildSlice,chunks,tkm])|(refine ⟨λ_=>?_,λ_=>?_⟩)|(refine ⟨by omega,?_⟩)|(intro _)
       all_goals (refine hK _ ?_;clear hK K)
       all_goals
        refine zbr (zb6 ?_)
        simp (disch:=omega) [zG2,DtInst.cells,DtCmd.cells,DtId.cells,zbs,aNews,aAppend,aBuildSlice,chunks,tkm]
        all_goals first|(rw [zhb (by assumption) (hx.mpr (by assumption)) hpre];simp;done)|(rw [znp (λj x h=>hpre j x (by omega))];simp [zeroInst,zeroCmd];done)
     ·try simp [zG3,zbe,zbd] at hc2
      all_goals
       refine zbn ?_
       refine zbq ?_
       refine zc8 rfl rfl λK hK=>?_
       simp (disch:=omega) [zG2,DtInst.cells,DtCmd.cells,DtId.cells,zbs,aNews,aAppend,aBuildSlice,chunks,tkm]
       repeat' first|(exfalso;omega)|(refine ⟨λ_=>?_,λ_=>?_⟩)|(refine ⟨by omega,?_⟩)|(intro _)
       all_goals (refine hK _ ?_;clear hK K)
       all_goals
        refine ⟨_,LeS.ko [(0,.sl 16 (l.map DtInst.cells)),(3,.ptr 64 0),(4,.ptr 80 0),(5,(.g (.int .i64 (((i+1):Nat)))))] [(64,.cells (DtId.cells id)),(80,.cells [.g (.int .i64 0),.g (.int .i64 0),.g (.int .i64 0),.g (.int .i64 0),.g (.int .i64 0),.g (.int .i64 0),.g (.int .i64 0),.g (.int .i64 0),.s [],.s [],.s [],.g (.int .i64 0),.g (.slice none 0 0),.g (.int .i64 0),.g (.slice none 0 0),.g (.bool false)])] (by simp [zG4,KpE,DtId.cells,DtInst.cells];try rfl) (by simp [zG5,KpO,DtId.cells,DtInst.cells];try rfl) (by rfl) (by simp) (by rfl),_,?_,i+1,rfl,?_,rfl⟩
        ·omega
        ·refine ⟨by omega,λj x hj hxx=>?_⟩
         by_cases hji:j=i
         ·subst hji;rw [hg] at hxx;cases hxx;rw [hx];grind
         ·exact hpre j x (by omega) hxx
  ·try simp [zG3,zbe,zbd] at hc1
   all_goals
    refine zb3 ?_
    refine zbq ?_
    refine AW_r rfl rfl λK hK=>?_
    simp (disch:=omega) [zG2,DtInst.cells,DtCmd.cells,DtId.cells,zbs,aNews,aAppend,aBuildSlice,chunks,tkm]
    repeat' first|(exfalso;omega)|(refine ⟨λ_=>?_,λ_=>?_⟩)|(refine ⟨by omega,?_⟩)|(intro _)
    all_goals (refine hK _ ?_;clear hK K)
    all_goals
     refine zbr (zb6 ?_)
     simp (disch:=omega) [zG2,DtInst.cells,DtCmd.cells,DtId.cells,zbs,aNews,aAppend,aBuildSlice,chunks,tkm]
     all_goals first|(rw [zhb (by assumption) (hx.mpr (by assumption)) hpre];simp;done)|(rw [znp (λj x h=>hpre j x (by omega))];simp [zeroInst,zeroCmd];done)
end Go.Proofs.YtodmafgmdlkhoaaGreat.Vs
end
section
open Go Go.Proofs Go.Proofs.YtodmafgmdlkhoaaGreat.Vs
namespace Go.Proofs.YtodmafgmdlkhoaaGreat.Vs
set_option linter.all false
set_option linter.unusedSimpArgs false
set_option linter.unusedVariables false
set_option maxRecDepth 100000
theorem copyTexts(l:List (List UInt8))(hn:l.length≤1048576):PCall Tryz.prog 106 [.sl 1 (l.map cS)] (.sl 1 (l.map cS)):=by
 refine zbo Tryz.func106 (by rfl) (by rfl) (by rw [Tryz.ntmps106];exact Nat.le_of_ble_eq_true rfl) rfl (by decide) ?_
 rw [Tryz.ntmps106]
 refine AW_k [(0,_)] ⟨rfl,trivial⟩ ?_
 refine AW_r rfl rfl λK hK=>?_
 simp (disch:=omega) [zG2,aNews,aAppend,tkm,cS]
 repeat' first|(refine ⟨by omega,?_⟩)|(intro _)
 refine hK _ ?_;clear hK K
 refine AW_r rfl rfl λK hK=>?_
 simp (disch:=omega) [zG2,aNews,aAppend,tkm,cS]
 repeat' first|(refine ⟨by omega,?_⟩)|(intro _)
 refine hK _ ?_;clear hK K
 refine zbr (zb6 ?_)
 simp (disch:=omega) [zG2,aNews,aAppend,tkm,cS]
 all_goals simp [tkm]
theorem copyIds(l:List DtId)(hn:l.length≤1048576):PCall Tryz.prog 134 [.sl 2 (l.map DtId.cells)] (.sl 2 (l.map DtId.cells)):=by
 refine zbo Tryz.func134 (by rfl) (by rfl) (by rw [Tryz.ntmps134];exact Nat.le_of_ble_eq_true rfl) rfl (by decide) ?_
 rw [Tryz.ntmps134]
 refine AW_k [(0,_)] ⟨rfl,trivial⟩ ?_
 refine AW_r rfl rfl λK hK=>?_
 simp (disch:=omega) [zG2,aNews,aAppend,tkm,cS]
 repeat' first|(refine ⟨by omega,?_⟩)|(intro _)
 refine hK _ ?_;clear hK K
 refine AW_r rfl rfl λK hK=>?_
 simp (disch:=omega) [zG2,aNews,aAppend,tkm,cS]
 repeat' first|(refine ⟨by omega,?_⟩)|(intro _)
 refine hK _ ?_;clear hK K
 refine zbr (zb6 ?_)
 simp (disch:=omega) [zG2,aNews,aAppend,tkm,cS]
 all_goals simp [tkm]
theorem copyCmd(c:DtCmd)(hn:c.fChunks.length≤1048576):PCall Tryz.prog 133 [.agg (DtCmd.cells c)] (.agg (DtCmd.cells c)):=by
 refine zbo Tryz.func133 (by rfl) (by rfl) (by rw [Tryz.ntmps133];exact Nat.le_of_ble_eq_true rfl) rfl (by decide) ?_
 rw [Tryz.ntmps133]
 refine AW_k [(0,_)] ⟨rfl,trivial⟩ ?_
 refine AW_r rfl rfl λK hK=>?_
 simp (disch:=omega) [zG2,DtCmd.cells]
 repeat' first|(refine ⟨by omega,?_⟩)|(intro _)
 refine hK _ ?_;clear hK K
 refine AW_r rfl rfl λK hK=>?_
 simp (disch:=omega) [zG2,DtCmd.cells]
 repeat' first|(exfalso;omega)|(refine zcg (zbc zbw zbi) (copyTexts _ (by assumption)) rfl ?_;simp (disch:=omega) [zG2,DtCmd.cells])|(refine ⟨by omega,?_⟩)|(intro _)
 refine hK _ ?_;clear hK K
 refine AW_r rfl rfl λK hK=>?_
 simp (disch:=omega) [zG2,DtCmd.cells]
 repeat' first|(refine ⟨by omega,?_⟩)|(intro _)
 refine hK _ ?_;clear hK K
 refine zbr (zb6 ?_)
 simp (disch:=omega) [zG2,DtCmd.cells]
 all_goals simp [tkm]
theorem zze(x:DtInst)(hn:x.fCmd.fChunks.length≤1048576)(hd:x.fDeps.length≤1048576):PCall Tryz.prog 92 [.agg (DtInst.cells x)] (.agg (DtInst.cells x)):=by
 refine zbo Tryz.func92 (by rfl) (by rfl) (by rw [Tryz.ntmps92];exact Nat.le_of_ble_eq_true rfl) rfl (by decide) ?_
 rw [Tryz.ntmps92]
 refine AW_k [(0,_)] ⟨rfl,trivial⟩ ?_
 refine AW_r rfl rfl λK hK=>?_
 simp (disch:=omega) [zG2,DtCmd.cells,DtInst.cells]
 repeat' first|(refine ⟨by omega,?_⟩)|(intro _)
 refine hK _ ?_;clear hK K
 refine AW_r rfl rfl λK hK=>?_
 simp (disch:=omega) [zG2,DtCmd.cells,DtInst.cells]
 repeat' first|(exfalso;omega)|(refine zcg (zbc (zbu rfl) zbi) (copyCmd _ (by assumption)) rfl ?_;simp (disch:=omega) [zG2,DtCmd.cells,DtInst.cells])|(refine ⟨by omega,?_⟩)|(intro _)
 refine hK _ ?_;clear hK K
 refine AW_r rfl rfl λK hK=>?_
 simp (disch:=omega) [zG2,DtCmd.cells,DtInst.cells]
 repeat' first|(exfalso;omega)|(refine zcg (zbc zbw zbi) (copyIds _ (by assumption)) rfl ?_;simp (disch:=omega) [zG2,DtCmd.cells,DtInst.cells])|(refine ⟨by omega,?_⟩)|(intro _)
 refine hK _ ?_;clear hK K
 refine AW_r rfl rfl λK hK=>?_
 simp (disch:=omega) [zG2,DtCmd.cells,DtInst.cells]
 repeat' first|(refine ⟨by omega,?_⟩)|(intro _)
 refine hK _ ?_;clear hK K
 refine zbr (zb6 ?_)
 simp (disch:=omega) [zG2,DtCmd.cells,DtInst.cells]
 all_goals simp [tkm]
theorem inst1(p:DtInst)(id:DtId):GCall Tryz.prog 132 [.agg (DtInst.cells p),.ptr 0 0] [DtId.cells id] [] (.g (.bool (eqB p.fId id))) []:=by
 refine zbo Tryz.func132 (by rfl) (by rfl) (by rw [Tryz.ntmps132];exact Nat.le_of_ble_eq_true rfl) rfl (by decide) ?_
 rw [Tryz.ntmps132]
 refine AW_k [(0,_),(1,_)] ⟨rfl,rfl,trivial⟩ ?_
 refine AW_r rfl rfl λK hK=>?_
 simp [DtInst.cells,DtId.cells,DtCmd.cells,zbs]
 repeat' first|(refine ⟨by omega,?_⟩)|(intro _)
 refine hK _ ?_;clear hK K
 refine AW_r rfl rfl λK hK=>?_
 simp [DtInst.cells,DtId.cells,DtCmd.cells,zbs]
 repeat' first|(refine ⟨by omega,?_⟩)|(intro _)
 refine hK _ ?_;clear hK K
 refine zbr (zb6 ?_)
 simp [DtInst.cells,DtId.cells,DtCmd.cells,zbs]
 all_goals (rw [Bool.eq_iff_iff,zbe,zd4];simp)
theorem zrc{F:FuncId}{id:DtId}{p:DtInst→Bool}(xs:List DtInst)(hn:xs.length≤1048576)(hf:∀x,GCall Tryz.prog F [.agg (DtInst.cells x),.ptr 0 0] [DtId.cells id] [] (.g (.bool (p x))) []):GCall Tryz.prog 131 [.sl 16 (xs.map DtInst.cells),.fn F [] [.ptr 0 0]] [DtId.cells id] [] (.g (.int .i64 (idxZ p xs))) []:=by
 refine zbo Tryz.func131 (by rfl) (by rfl) (by rw [Tryz.ntmps131];exact Nat.le_of_ble_eq_true rfl) rfl (by decide) ?_
 rw [Tryz.ntmps131]
 refine AW_k [(0,_),(1,_)] ⟨rfl,rfl,trivial⟩ ?_
 refine AW_r rfl rfl λK hK=>?_
 simp (disch:=omega) [zG2,DtInst.cells,DtId.cells,DtCmd.cells]
 repeat' first|(refine zjw 0 (.inr rfl) (zc4 (DtId.cells id) rfl) (zbc (zbu rfl) (zbc zga zbi)) (hf _) rfl ?_;try simp (disch:=omega) [zG2,DtInst.cells,DtId.cells,DtCmd.cells])|(refine ⟨by omega,?_⟩)|(intro _)
 refine hK _ ?_;clear hK K
 refine zbj ?_
 refine AW_r rfl rfl λK hK=>?_
 simp (disch:=omega) [zG2,DtInst.cells,DtId.cells,DtCmd.cells]
 repeat' first|(refine zjw 0 (.inr rfl) (zc4 (DtId.cells id) rfl) (zbc (zbu rfl) (zbc zga zbi)) (hf _) rfl ?_;try simp (disch:=omega) [zG2,DtInst.cells,DtId.cells,DtCmd.cells])|(refine ⟨by omega,?_⟩)|(intro _)
 refine hK _ ?_;clear hK K
 refine zbl ?_
 refine zby (λmM sS=>∃(i:Nat),mM=xs.length-i∧(i≤xs.length∧∀j x,j<i→xs[j]? = some x→p x=false)∧sS = { env:=lkE [(0,.sl 16 (xs.map DtInst.cells)),(1,.fn F [] [.ptr 0 0]),(6,.sl 16 (xs.map DtInst.cells)),(7,(.g (.int .i64 ((xs.length:Nat))))),(8,(.g (.int .i64 ((i:Nat)))))],ob:=formOb [DtId.cells id] [] }) ?_ ?_
 ·refine ⟨_,LeS.kp [(0,.sl 16 (xs.map DtInst.cells)),(1,.fn F [] [.ptr 0 0]),(6,.sl 16 (xs.map DtInst.cells)),(7,(.g (.int .i64 ((xs.length:Nat))))),(8,(.g (.int .i64 (((0):Nat)))))] (by simp [zG4,KpE];try rfl),_,0,rfl,?_,rfl⟩
  ·simp
 ·rintro mM sS ⟨i,rfl,⟨hi,hpre⟩,rfl⟩
  refine AW_r rfl rfl λK hK=>?_
  simp (disch:=omega) [zG2,DtInst.cells,DtId.cells,DtCmd.cells]
  repeat' first|(refine zjw 0 (.inr rfl) (zc4 (DtId.cells id) rfl) (zbc (zbu rfl) (zbc zga zbi)) (hf _) rfl ?_;try simp (disch:=omega) [zG2,DtInst.cells,DtId.cells,DtCmd.cells])|(refine ⟨by omega,?_⟩)|(intro _)
  refine hK _ ?_;clear hK K
  refine zbj ?_
  refine zbm rfl (λhc1=>?_) (λhc1=>?_)
  ·try simp [zG3,zbe,zbd] at hc1
   all_goals
    have hg:xs[i]? = some (xs[i]):=List.getElem?_eq_getElem (by omega)
    refine zbn ?_
    refine zbq ?_
    refine zbj ?_
    refine zbl ?_
    refine AW_r rfl rfl λK hK=>?_
    simp (disch:=omega) [zG2,DtInst.cells,DtId.cells,DtCmd.cells]
    repeat' first|(exfalso;omega)|(refine zjw 0 (.inr rfl) (zc4 (DtId.cells id) rfl) (zbc (zbu rfl) (zbc zga zbi)) (hf _) rfl ?_;try simp (disch:=omega) [zG2,DtInst.cells,DtId.cells,DtCmd.cells])|(refine ⟨λ_=>?_,λ_=>?_⟩)|(refine ⟨by omega,?_⟩)|(intro _)
    all_goals (refine hK _ ?_;clear hK K)
    all_goals
     refine AW_r rfl rfl λK hK=>?_
     simp (disch:=omega) [zG2,DtInst.cells,DtId.cells,DtCmd.cells]
     repeat' first|(refine zjw 0 (.inr rfl) (zc4 (DtId.cells id) rfl) (zbc (zbu rfl) (zbc zga zbi)) (hf _) rfl ?_;try simp (disch:=omega) [zG2,DtInst.cells,DtId.cells,DtCmd.cells])|(refine ⟨by omega,?_⟩)|(intro _)
     refine hK _ ?_;clear hK K
     refine zbm rfl (λhc2=>?_) (λhc2=>?_)
     ·try simp [zG3,zbe,zbd] at hc2
      all_goals
       refine AW_r rfl rfl λK hK=>?_
       simp (disch:=omega) [zG2,DtInst.cells,DtId.cells,DtCmd.cells]
       repeat' first|(exfalso;omega)|(refine zjw 0 (.inr rfl) (zc4 (DtId.cells id) rfl) (zbc (zbu rfl) (zbc zga zbi)) (hf _) rfl ?_;try simp (disch:=omega) [zG2,DtInst.cells,DtId.cells,DtCmd.cells])|(refine ⟨λ_=>?_,λ_=>?_⟩)|(refine ⟨by omega,?_⟩)|(intro _)
       all_goals (refine hK _ ?_;clear hK K)
       all_goals
        refine zbr (zb6 ?_)
        simp (disch:=omega) [zG2,DtInst.cells,DtId.cells,DtCmd.cells]
        all_goals first|(exact zdx (by assumption) (by assumption) hpre)|(exact zfh (λj x h=>hpre j x (by omega)))
     ·try simp [zG3,zbe,zbd] at hc2
      all_goals
       refine zbn ?_
       refine zbq ?_
       refine zc8 rfl rfl λK hK=>?_
       simp (disch:=omega) [zG2,DtInst.cells,DtId.cells,DtCmd.cells]
       repeat' first|(exfalso;omega)|(refine zjw 0 (.inr rfl) (zc4 (DtId.cells id) rfl) (zbc (zbu rfl) (zbc zga zbi)) (hf _) rfl ?_;try simp (disch:=omega) [zG2,DtInst.cells,DtId.cells,DtCmd.cells])|(refine ⟨λ_=>?_,λ_=>?_⟩)|(refine ⟨by omega,?_⟩)|(intro _)
       all_goals (refine hK _ ?_;clear hK K)
       all_goals
        refine ⟨_,LeS.kp [(0,.sl 16 (xs.map DtInst.cells)),(1,.fn F [] [.ptr 0 0]),(6,.sl 16 (xs.map DtInst.cells)),(7,(.g (.int .i64 ((xs.length:Nat))))),(8,(.g (.int .i64 (((i+1):Nat)))))] (by simp [zG4,KpE];try rfl),_,?_,i+1,rfl,?_,rfl⟩
        ·omega
        ·refine ⟨by omega,?_⟩;grind
  ·try simp [zG3,zbe,zbd] at hc1
   all_goals
    refine zb3 ?_
    refine zbq ?_
    refine AW_r rfl rfl λK hK=>?_
    simp (disch:=omega) [zG2,DtInst.cells,DtId.cells,DtCmd.cells]
    repeat' first|(exfalso;omega)|(refine zjw 0 (.inr rfl) (zc4 (DtId.cells id) rfl) (zbc (zbu rfl) (zbc zga zbi)) (hf _) rfl ?_;try simp (disch:=omega) [zG2,DtInst.cells,DtId.cells,DtCmd.cells])|(refine ⟨λ_=>?_,λ_=>?_⟩)|(refine ⟨by omega,?_⟩)|(intro _)
    all_goals (refine hK _ ?_;clear hK K)
    all_goals
     refine zbr (zb6 ?_)
     simp (disch:=omega) [zG2,DtInst.cells,DtId.cells,DtCmd.cells]
     all_goals first|(exact zdx (by assumption) (by assumption) hpre)|(exact zfh (λj x h=>hpre j x (by omega)))
noncomputable def iAt(l:List DtInst)(id:DtId):Int:=idxZ (λx=>eqB x.fId id) l
theorem zhw(l:List DtInst)(id:DtId)(hn:l.length≤1048576):PCall Tryz.prog 91 [.sl 16 (l.map DtInst.cells),.agg (DtId.cells id)] (.g (.int .i64 (iAt l id))):=by
 refine zbo Tryz.func91 (by rfl) (by rfl) (by rw [Tryz.ntmps91];exact Nat.le_of_ble_eq_true rfl) rfl (by decide) ?_
 rw [Tryz.ntmps91]
 refine AW_k [(0,_),(1,_)] ⟨rfl,rfl,trivial⟩ ?_
 refine AW_r rfl rfl λK hK=>?_
 simp [DtInst.cells,DtId.cells,DtCmd.cells]
 repeat' first|(refine ⟨by omega,?_⟩)|(intro _)
 refine hK _ ?_;clear hK K
 refine AW_r rfl rfl λK hK=>?_
 simp [DtInst.cells,DtId.cells,DtCmd.cells]
 repeat' first|(refine zjw 64 (.inl rfl) (zc4 (DtId.cells id) rfl) (zbc zbw (zbc am2_fn0 zbi)) (zrc _ hn (λx=>inst1 x id)) rfl ?_;simp [DtInst.cells,DtId.cells,DtCmd.cells])|(refine ⟨by omega,?_⟩)|(intro _)
 refine hK _ ?_;clear hK K
 refine zbr (zb6 ?_)
 simp [DtInst.cells,DtId.cells,DtCmd.cells,iAt]
 all_goals first | omega|(simp_all;done)|(simp [List.take_of_length_le];done)|((try simp_all);(try simp (disch:=omega) only [zb4,Int.tdiv_eq_ediv_of_nonneg,Int.tmod_eq_emod_of_nonneg,and_true,true_and]);done)|((try simp_all);(try simp (disch:=omega) only [zb4,Int.tdiv_eq_ediv_of_nonneg,Int.tmod_eq_emod_of_nonneg,and_true,true_and] at *);omega)
theorem zrd(l:List DtInst)(id:DtId):(∃i,∃h:i<l.length,iAt l id=i∧instAt l id=l[i])∨(iAt l id = -1∧instAt l id=zeroInst id):=by
 unfold iAt idxZ instAt
 cases h:l.findIdx? (λx=>eqB x.fId id) with
 | none =>
  refine .inr ⟨rfl,?_⟩
  rw [List.findIdx?_eq_none_iff] at h
  have:l.find? (λx=>eqB x.fId id)=none:=List.find?_eq_none.2 λx hx=>by simp [h x hx]
  rw [this];rfl
 | some i =>
  obtain ⟨h1,h2,h3⟩:=List.findIdx?_eq_some_iff_getElem.1 h
  refine .inl ⟨i,h1,rfl,?_⟩
  have:l.find? (λx=>eqB x.fId id)=some l[i]:=by
   rw [List.find?_eq_some_iff_getElem]
   exact ⟨h2,i,h1,rfl,λj hj=>by simpa using h3 j hj⟩
  rw [this];rfl
theorem zfu(l:List DtInst)(id:DtId)(hn:l.length≤1048576)(hm:∀x∈l,InstSm x):PCall Tryz.prog 35 [.sl 16 (l.map DtInst.cells),.agg (DtId.cells id)] (.agg (DtInst.cells (instAt l id))):=by
 rcases zrd l id with ⟨i,hi,h1,h2⟩ | ⟨h1,h2⟩
 ·have hx:=hm _ (List.getElem_mem hi)
  have hx1:=hx.1
  have hx2:=hx.2.1
  refine zbo Tryz.func35 (by rfl) (by rfl) (by rw [Tryz.ntmps35];exact Nat.le_of_ble_eq_true rfl) rfl (by decide) ?_
  rw [Tryz.ntmps35]
  refine AW_k [(0,_),(1,_)] ⟨rfl,rfl,trivial⟩ ?_
  refine AW_r rfl rfl λK hK=>?_
  simp (disch:=omega) [zG2,DtInst.cells,DtCmd.cells,DtId.cells,h1,h2]
  repeat' first|(refine ⟨by omega,?_⟩)|(intro _)
  refine hK _ ?_;clear hK K
  refine zbj ?_
  refine AW_r rfl rfl λK hK=>?_
  simp (disch:=omega) [zG2,DtInst.cells,DtCmd.cells,DtId.cells,h1,h2]
  repeat' first|(exfalso;omega)|(refine zcg (zbc zbw (zbc (zbu rfl) zbi)) (zhw _ _ (by assumption)) rfl ?_;simp (disch:=omega) [zG2,DtInst.cells,DtCmd.cells,DtId.cells,h1,h2])|(refine ⟨by omega,?_⟩)|(intro _)
  refine hK _ ?_;clear hK K
  refine AW_r rfl rfl λK hK=>?_
  simp (disch:=omega) [zG2,DtInst.cells,DtCmd.cells,DtId.cells,h1,h2]
  repeat' first|(refine ⟨by omega,?_⟩)|(intro _)
  refine hK _ ?_;clear hK K
  refine zbm rfl (λhc3=>?_) (λhc3=>?_)
  ·try simp [zG3,zbe,zbd] at hc3
   all_goals
    refine AW_r rfl rfl λK hK=>?_
    simp (disch:=omega) [zG2,DtInst.cells,DtCmd.cells,DtId.cells,h1,h2]
    repeat' first|(exfalso;omega)|(refine zcg (zbc (zbu rfl) zbi) (zze _ (by assumption) (by assumption)) rfl ?_;simp (disch:=omega) [zG2,DtInst.cells,DtCmd.cells,DtId.cells,h1,h2])|(refine ⟨λ_=>?_,λ_=>?_⟩)|(refine ⟨by omega,?_⟩)|(intro _)
    all_goals (refine hK _ ?_;clear hK K)
    all_goals
     refine zbr (zb6 ?_)
     simp (disch:=omega) [zG2,DtInst.cells,DtCmd.cells,DtId.cells,h1,h2]
     all_goals simp
  ·try simp [zG3,zbe,zbd] at hc3
   all_goals
    refine zbn ?_
    refine zbq ?_
    refine AW_r rfl rfl λK hK=>?_
    simp (disch:=omega) [zG2,DtInst.cells,DtCmd.cells,DtId.cells,h1,h2]
    repeat' first|(exfalso;omega)|(refine ⟨λ_=>?_,λ_=>?_⟩)|(refine ⟨by omega,?_⟩)|(intro _)
    all_goals (refine hK _ ?_;clear hK K)
    all_goals
     refine zbr (zb6 ?_)
     simp (disch:=omega) [zG2,DtInst.cells,DtCmd.cells,DtId.cells,h1,h2]
     all_goals simp
 ·have e0:=h1
  refine zbo Tryz.func35 (by rfl) (by rfl) (by rw [Tryz.ntmps35];exact Nat.le_of_ble_eq_true rfl) rfl (by decide) ?_
  rw [Tryz.ntmps35]
  refine AW_k [(0,_),(1,_)] ⟨rfl,rfl,trivial⟩ ?_
  refine AW_r rfl rfl λK hK=>?_
  simp (disch:=omega) [zG2,DtInst.cells,DtCmd.cells,DtId.cells,h1,h2,zeroInst,zeroCmd]
  repeat' first|(refine ⟨by omega,?_⟩)|(intro _)
  refine hK _ ?_;clear hK K
  refine zbj ?_
  refine AW_r rfl rfl λK hK=>?_
  simp (disch:=omega) [zG2,DtInst.cells,DtCmd.cells,DtId.cells,h1,h2,zeroInst,zeroCmd]
  repeat' first|(exfalso;omega)|(refine zcg (zbc zbw (zbc (zbu rfl) zbi)) (zhw _ _ (by assumption)) rfl ?_;simp (disch:=omega) [zG2,DtInst.cells,DtCmd.cells,DtId.cells,h1,h2,zeroInst,zeroCmd])|(refine ⟨by omega,?_⟩)|(intro _)
  refine hK _ ?_;clear hK K
  refine AW_r rfl rfl λK hK=>?_
  simp (disch:=omega) [zG2,DtInst.cells,DtCmd.cells,DtId.cells,h1,h2,zeroInst,zeroCmd]
  repeat' first|(refine ⟨by omega,?_⟩)|(intro _)
  refine hK _ ?_;clear hK K
  refine zbm rfl (λhc4=>?_) (λhc4=>?_)
  ·try simp [zG3,zbe,zbd] at hc4
   all_goals
    refine AW_r rfl rfl λK hK=>?_
    simp (disch:=omega) [zG2,DtInst.cells,DtCmd.cells,DtId.cells,h1,h2,zeroInst,zeroCmd]
    repeat' first|(exfalso;omega)|(refine zcg (zbc (zbu rfl) zbi) (zze _ (by assumption) (by assumption)) rfl ?_;simp (disch:=omega) [zG2,DtInst.cells,DtCmd.cells,DtId.cells,h1,h2,zeroInst,zeroCmd])|(refine ⟨λ_=>?_,λ_=>?_⟩)|(refine ⟨by omega,?_⟩)|(intro _)
    all_goals (refine hK _ ?_;clear hK K)
    all_goals
     refine zbr (zb6 ?_)
     simp (disch:=omega) [zG2,DtInst.cells,DtCmd.cells,DtId.cells,h1,h2,zeroInst,zeroCmd]
     all_goals simp
  ·try simp [zG3,zbe,zbd] at hc4
   all_goals
    refine zbn ?_
    refine zbq ?_
    refine AW_r rfl rfl λK hK=>?_
    simp (disch:=omega) [zG2,DtInst.cells,DtCmd.cells,DtId.cells,h1,h2,zeroInst,zeroCmd]
    repeat' first|(exfalso;omega)|(refine ⟨λ_=>?_,λ_=>?_⟩)|(refine ⟨by omega,?_⟩)|(intro _)
    all_goals (refine hK _ ?_;clear hK K)
    all_goals
     refine zbr (zb6 ?_)
     simp (disch:=omega) [zG2,DtInst.cells,DtCmd.cells,DtId.cells,h1,h2,zeroInst,zeroCmd]
     all_goals simp
end Go.Proofs.YtodmafgmdlkhoaaGreat.Vs
end
section
open Go Go.Proofs Go.Proofs.YtodmafgmdlkhoaaGreat.Vs
namespace Go.Proofs.YtodmafgmdlkhoaaGreat.Vs
set_option linter.all false
set_option linter.unusedSimpArgs false
set_option linter.unusedVariables false
set_option maxRecDepth 100000
noncomputable def cAt(l:List DtInst)(id:DtId):Int:=idxZ (λx=>eqB x.fId id&&decide (x.fStatus=3)) l
theorem zhc(l:List DtInst)(id:DtId)(hn:l.length≤1048576):PCall Tryz.prog 86 [.sl 16 (l.map DtInst.cells),.agg (DtId.cells id)] (.g (.int .i64 (cAt l id))):=by
 refine zbo Tryz.func86 (by rfl) (by rfl) (by rw [Tryz.ntmps86];exact Nat.le_of_ble_eq_true rfl) rfl (by decide) ?_
 rw [Tryz.ntmps86]
 refine AW_k [(0,_),(1,_)] ⟨rfl,rfl,trivial⟩ ?_
 refine AW_r rfl rfl λK hK=>?_
 simp (disch:=omega) [zG2,DtInst.cells,DtCmd.cells,DtId.cells,zbs]
 repeat' first|(refine ⟨by omega,?_⟩)|(intro _)
 refine hK _ ?_;clear hK K
 refine zbj ?_
 refine AW_r rfl rfl λK hK=>?_
 simp (disch:=omega) [zG2,DtInst.cells,DtCmd.cells,DtId.cells,zbs]
 repeat' first|(refine ⟨by omega,?_⟩)|(intro _)
 refine hK _ ?_;clear hK K
 refine zbl ?_
 refine zby (λmM sS=>∃(i:Nat),mM=l.length-i∧(i≤l.length∧∀(j:Nat) y,j<i→l[j]? = some y→(eqB y.fId id&&decide (y.fStatus=3))=false)∧sS = { env:=lkE [(0,.sl 16 (l.map DtInst.cells)),(3,.ptr 64 0),(5,(.g (.int .i64 ((i:Nat)))))],ob:=lk [(64,.cells (DtId.cells id))] }) ?_ ?_
 ·refine ⟨_,LeS.ko [(0,.sl 16 (l.map DtInst.cells)),(3,.ptr 64 0),(5,(.g (.int .i64 (((0):Nat)))))] [(64,.cells (DtId.cells id))] (by simp [zG4,KpE,DtId.cells];try rfl) (by simp [zG5,KpO,DtId.cells];try rfl) (by rfl) (by simp) (by rfl),_,0,rfl,?_,rfl⟩
  ·simp
 ·rintro mM sS ⟨i,rfl,⟨hi,hpre⟩,rfl⟩
  refine zbj ?_
  refine AW_r rfl rfl λK hK=>?_
  simp (disch:=omega) [zG2,DtInst.cells,DtCmd.cells,DtId.cells,zbs]
  repeat' first|(refine ⟨by omega,?_⟩)|(intro _)
  refine hK _ ?_;clear hK K
  refine zbm rfl (λhc1=>?_) (λhc1=>?_)
  ·try simp [zG3,zbe,zbd] at hc1
   all_goals
    have hg:l[i]? = some l[i]:=List.getElem?_eq_getElem (by omega)
    have he:=zd4 l[i].fId id
    refine zbn ?_
    refine zbq ?_
    refine zbj ?_
    refine zbl ?_
    refine AW_q rfl mix (by kernel_rfl) rfl λK hK=>?_
    simp (disch:=omega) [zG2,DtInst.cells,DtCmd.cells,DtId.cells,zbs]
    repeat' first|(exfalso;omega)|(refine ⟨λ_=>?_,λ_=>?_⟩)|(refine ⟨by omega,?_⟩)|(intro _)
    all_goals (refine hK _ ?_;clear hK K)
    all_goals
     refine zbm rfl (λhc2=>?_) (λhc2=>?_)
     ·try simp [zG3,zbe,zbd] at hc2
      all_goals
       refine AW_r rfl rfl λK hK=>?_
       simp (disch:=omega) [zG2,DtInst.cells,DtCmd.cells,DtId.cells,zbs]
       repeat' first|(exfalso;omega)|(refine ⟨λ_=>?_,λ_=>?_⟩)|(refine ⟨by omega,?_⟩)|(intro _)
       all_goals (refine hK _ ?_;clear hK K)
       all_goals
        refine zbr (zb6 ?_)
        simp (disch:=omega) [zG2,DtInst.cells,DtCmd.cells,DtId.cells,zbs]
        all_goals first|(exact zdx (by assumption) (by rw [Bool.and_eq_true,zbe];grind) hpre)|(exact zfh (λj x h=>hpre j x (by omega)))
     ·try simp [zG3,zbe,zbd] at hc2
      all_goals
       refine zbn ?_
       refine zbq ?_
       refine zc8 rfl rfl λK hK=>?_
       simp (disch:=omega) [zG2,DtInst.cells,DtCmd.cells,DtId.cells,zbs]
       repeat' first|(exfalso;omega)|(refine ⟨λ_=>?_,λ_=>?_⟩)|(refine ⟨by omega,?_⟩)|(intro _)
       all_goals (refine hK _ ?_;clear hK K)
       all_goals
        refine ⟨_,LeS.ko [(0,.sl 16 (l.map DtInst.cells)),(3,.ptr 64 0),(5,(.g (.int .i64 (((i+1):Nat)))))] [(64,.cells (DtId.cells id))] (by simp [zG4,KpE,DtId.cells];try rfl) (by simp [zG5,KpO,DtId.cells];try rfl) (by rfl) (by simp) (by rfl),_,?_,i+1,rfl,?_,rfl⟩
        ·omega
        ·refine ⟨by omega,λj y hj hy=>?_⟩
         by_cases hji:j=i
         ·subst hji;rw [hg] at hy;cases hy;rw [Bool.and_eq_false_iff,zbd];grind
         ·exact hpre j y (by omega) hy
  ·try simp [zG3,zbe,zbd] at hc1
   all_goals
    refine zb3 ?_
    refine zbq ?_
    refine AW_r rfl rfl λK hK=>?_
    simp (disch:=omega) [zG2,DtInst.cells,DtCmd.cells,DtId.cells,zbs]
    repeat' first|(exfalso;omega)|(refine ⟨λ_=>?_,λ_=>?_⟩)|(refine ⟨by omega,?_⟩)|(intro _)
    all_goals (refine hK _ ?_;clear hK K)
    all_goals
     refine zbr (zb6 ?_)
     simp (disch:=omega) [zG2,DtInst.cells,DtCmd.cells,DtId.cells,zbs]
     all_goals first|(exact zdx (by assumption) (by rw [Bool.and_eq_true,zbe];grind) hpre)|(exact zfh (λj x h=>hpre j x (by omega)))
end Go.Proofs.YtodmafgmdlkhoaaGreat.Vs
end
