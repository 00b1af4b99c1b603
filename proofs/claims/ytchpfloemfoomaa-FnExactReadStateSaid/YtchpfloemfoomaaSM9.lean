import Derived.Test.YtchpfloemfoomaaSM8
import Derived.Test.YtchpfloemfoomaaSM2
section
namespace Go.Proofs.Ytchpfloemfoomaa.Vs
set_option linter.all false
set_option maxRecDepth 100000
set_option maxHeartbeats 4000000
theorem RSI_sz(s:List UInt8):DtState.sz (RSI s).1≤s.length:=by
 unfold RSI
 split
 ·simp [DtState.sz,DtCatalog.sz,szS,zcs]
 ·rename_i h
  exact zs9 (by by_cases g:(readI s).2.2=true;exact absurd (.inl g) h;simpa using g)
attribute [local simp] zbq DtState.cells DtCatalog.cells mvState mvCatalog List.range_succ
def zG24:=And.intro @zbk @zbh
def zG25:=And.intro @List.range_succ (And.intro @zbt (And.intro @zb0 @zcb))
theorem lawReadX(s:List UInt8)(hw:s.length<9223372036854775808):XCall Try.prog 3 [.s s] [] (.g (.bool (true))) [] []:=by
 by_cases hs:s.length≤1048576
 ·have e0:¬1048576<s.length:=by omega
  have hi:=zny s hs
  have hp:=zn1 s hs
  have hz:=RSI_sz s
  rw [rs_eq s hs] at hp
  obtain ⟨X,b,e1⟩:∃X b,RSI s=(X,b):=⟨_,_,rfl⟩
  rw [e1] at hi hp hz
  dsimp only at hi hp hz
  have hcv2:=zr7 X
  have hcn2:=zvd X
  have hcc2:cvState X=cntState X:=rfl
  have hml:(mkS mkCSet cntCSet 1 X.fCat.fSets).length=X.fCat.fSets.length:=zdp _ _ _ _
  have hml3:(mkS mkSaid cntSaid (1+cntS cntCSet X.fCat.fSets) X.fSaid).length=X.fSaid.length:=zdp _ _ _ _
  refine zbu Try.func3 (by rfl) (by rfl) (by rw [Try.ntmps3];exact Nat.le_of_ble_eq_true rfl) rfl (by simp) rfl rfl ?_
  rw [Try.ntmps3]
  refine zf1   ?_
  refine AW_k [(0,_)] ⟨rfl,trivial⟩ ?_
  refine AW_x rfl rfl λK hK=>?_
  simp (disch:=omega) [e0,hml,hml3]
  repeat' first|(refine ⟨by omega,?_⟩)|(intro _)
  refine hK _ ?_;clear hK K
  refine zbf ?_
  refine AW_x rfl rfl λK hK=>?_
  simp (disch:=omega) [e0,hml,hml3]
  repeat' first|(refine ⟨by omega,?_⟩)|(simp (disch:=omega) [e0,hml,hml3])|(intro _)
  refine hK _ ?_;clear hK K
  refine zbi rfl (λhc1=>?_) (λhc1=>?_)
  ·try simp [zG24,zbb,zba] at hc1
   all_goals
    refine AW_x rfl rfl λK hK=>?_
    simp (disch:=omega) [e0,hml,hml3]
    repeat' first|(exfalso;omega)|(refine ⟨λ_=>?_,λ_=>?_⟩)|(refine ⟨by omega,?_⟩)|(simp (disch:=omega) [e0,hml,hml3])|(intro _)
    all_goals (refine hK _ ?_;clear hK K)
    all_goals
     refine zbl (zcd [] [] (by simp [zG25]) (by simp) ?_)
     simp (disch:=omega) [e0,hml,hml3]
     all_goals skip
  try simp [zG24,zbb,zba] at hc1
  refine zbj ?_
  refine zbo ?_
  refine AW_x rfl rfl λK hK=>?_
  simp (disch:=omega) [e0,hml,hml3]
  repeat' first|(exfalso;omega)|(refine zb6 [] true [] (hp) ?_ ?_ ?_;(focus (simp [List.range_succ,nmC];done));(focus (simp (disch:=omega) [e0,hml,hml3,zbz];done));simp (disch:=omega) [e0,hml,hml3])|(refine ⟨λ_=>?_,λ_=>?_⟩)|(refine ⟨by omega,?_⟩)|(simp (disch:=omega) [e0,hml,hml3])|(intro _)
  all_goals (refine hK _ ?_;clear hK K)
  all_goals
   refine AW_x rfl rfl λK hK=>?_
   simp (disch:=omega) [e0,hml,hml3]
   repeat' first|(exfalso;omega)|(refine zb6 [] true [] (hi) ?_ ?_ ?_;(focus (simp [List.range_succ,nmC];done));(focus (simp (disch:=omega) [e0,hml,hml3,zbz];done));simp (disch:=omega) [e0,hml,hml3])|(refine ⟨by omega,?_⟩)|(simp (disch:=omega) [e0,hml,hml3])|(intro _)
   refine hK _ ?_;clear hK K
   refine zbf ?_
   refine AW_x rfl rfl λK hK=>?_
   simp (disch:=omega) [e0,hml,hml3]
   repeat' first|(exfalso;omega)|(refine zgh (zbe (zca rfl) (zbe (zca rfl) zbn)) (zgr X X (by omega)) rfl ?_;simp (disch:=omega) [e0,hml,hml3])|(refine zgi (zgr X X (by omega)) (by rfl) ?_ ?_;(focus (simp (disch:=omega) [e0,hml,hml3,zbz];done));simp (disch:=omega) [e0,hml,hml3])|(refine ⟨λ_=>?_,λ_=>?_⟩)|(refine ⟨by omega,?_⟩)|(simp (disch:=omega) [e0,hml,hml3])|(intro _)
   all_goals (refine hK _ ?_;clear hK K)
   all_goals
    refine zbi rfl (λhc2=>?_) (λhc2=>?_)
    ·try simp [zG24,zbb,zba] at hc2
     all_goals
      refine AW_x rfl rfl λK hK=>?_
      simp (disch:=omega) [e0,hml,hml3]
      repeat' first|(exfalso;omega)|(refine ⟨λ_=>?_,λ_=>?_⟩)|(refine ⟨by omega,?_⟩)|(simp (disch:=omega) [e0,hml,hml3])|(intro _)
      all_goals (refine hK _ ?_;clear hK K)
      all_goals
       refine zbl (zcd [] [] (by simp [zG25]) (by simp) ?_)
       simp (disch:=omega) [e0,hml,hml3]
       all_goals skip
    try simp [zG24,zbb,zba] at hc2
    refine zbj ?_
    refine zbo ?_
    refine AW_x rfl rfl λK hK=>?_
    simp (disch:=omega) [e0,hml,hml3]
    repeat' first|(exfalso;omega)|(refine ⟨λ_=>?_,λ_=>?_⟩)|(refine ⟨by omega,?_⟩)|(simp (disch:=omega) [e0,hml,hml3])|(intro _)
    all_goals (refine hK _ ?_;clear hK K)
    all_goals
     refine AW_x rfl rfl λK hK=>?_
     simp (disch:=omega) [e0,hml,hml3]
     repeat' first|(exfalso;omega)|(refine zb6 [352,353] true [] (zqd X 1 (by omega) (by omega)) ?_ ?_ ?_;(focus (simp [List.range_succ,nmC];done));(focus (simp (disch:=omega) [e0,hml,hml3,zbz];done));simp (disch:=omega) [e0,hml,hml3])|(refine ⟨by omega,?_⟩)|(simp (disch:=omega) [e0,hml,hml3])|(intro _)
     refine hK _ ?_;clear hK K
     refine AW_x rfl rfl λK hK=>?_
     simp (disch:=omega) [e0,hml,hml3]
     repeat' first|(refine ⟨by omega,?_⟩)|(intro _)
     refine hK _ ?_;clear hK K
     refine AW_x rfl rfl λK hK=>?_
     simp (disch:=omega) [e0,hml,hml3]
     repeat' first|(exfalso;omega)|(refine zgh (zbe (zca rfl) (zbe zch zbn)) (zdw X 1 (by omega) (by omega)) rfl ?_;simp (disch:=omega) [e0,hml,hml3])|(refine zgi (zdw X 1 (by omega) (by omega)) (by rfl) ?_ ?_;(focus (simp (disch:=omega) [e0,hml,hml3,zbz];done));simp (disch:=omega) [e0,hml,hml3])|(refine ⟨by omega,?_⟩)|(simp (disch:=omega) [e0,hml,hml3])|(intro _)
     refine hK _ ?_;clear hK K
     refine zbf ?_
     refine AW_x rfl rfl λK hK=>?_
     simp (disch:=omega) [e0,hml,hml3]
     repeat' first|(refine ⟨by omega,?_⟩)|(intro _)
     refine hK _ ?_;clear hK K
     refine zbi rfl (λhc3=>?_) (λhc3=>?_)
     ·try simp [zG24,zbb,zba] at hc3
      all_goals
       refine AW_x rfl rfl λK hK=>?_
       simp (disch:=omega) [e0,hml,hml3]
       repeat' first|(exfalso;omega)|(refine ⟨λ_=>?_,λ_=>?_⟩)|(refine ⟨by omega,?_⟩)|(simp (disch:=omega) [e0,hml,hml3])|(intro _)
       all_goals (refine hK _ ?_;clear hK K)
       all_goals
        refine zbl (zcd [] [] (by simp [zG25]) (by simp) ?_)
        simp (disch:=omega) [e0,hml,hml3]
        all_goals skip
     try simp [zG24,zbb,zba] at hc3
     refine zbj ?_
     refine zbo ?_
     refine zbf ?_
     refine AW_x rfl rfl λK hK=>?_
     simp (disch:=omega) [e0,hml,hml3]
     repeat' first|(exfalso;omega)|(refine ⟨λ_=>?_,λ_=>?_⟩)|(refine ⟨by omega,?_⟩)|(simp (disch:=omega) [e0,hml,hml3])|(intro _)
     all_goals (refine hK _ ?_;clear hK K)
     all_goals
      refine zbi rfl (λhc4=>?_) (λhc4=>?_)
      ·try simp [zG24,zbb,zba] at hc4
       all_goals
        refine AW_x rfl rfl λK hK=>?_
        simp (disch:=omega) [e0,hml,hml3]
        repeat' first|(exfalso;omega)|(refine ⟨λ_=>?_,λ_=>?_⟩)|(refine ⟨by omega,?_⟩)|(simp (disch:=omega) [e0,hml,hml3])|(intro _)
        all_goals (refine hK _ ?_;clear hK K)
        all_goals
         refine zbl (zcd [] [] (by simp [zG25]) (by simp) ?_)
         simp (disch:=omega) [e0,hml,hml3]
         all_goals skip
      try simp [zG24,zbb,zba] at hc4
      refine zbj ?_
      refine zbo ?_
      refine AW_x rfl rfl λK hK=>?_
      simp (disch:=omega) [e0,hml,hml3]
      repeat' first|(exfalso;omega)|(refine zb6 [] true [] (hi) ?_ ?_ ?_;(focus (simp [List.range_succ,nmC];done));(focus (simp (disch:=omega) [e0,hml,hml3,zbz];done));simp (disch:=omega) [e0,hml,hml3])|(refine ⟨λ_=>?_,λ_=>?_⟩)|(refine ⟨by omega,?_⟩)|(simp (disch:=omega) [e0,hml,hml3])|(intro _)
      all_goals (refine hK _ ?_;clear hK K)
      all_goals
       refine zbf ?_
       refine AW_x rfl rfl λK hK=>?_
       simp (disch:=omega) [e0,hml,hml3]
       repeat' first|(exfalso;omega)|(refine zgh (zbe (zca rfl) (zbe (zca rfl) zbn)) (zgr X X (by omega)) rfl ?_;simp (disch:=omega) [e0,hml,hml3])|(refine zgi (zgr X X (by omega)) (by rfl) ?_ ?_;(focus (simp (disch:=omega) [e0,hml,hml3,zbz];done));simp (disch:=omega) [e0,hml,hml3])|(refine ⟨λ_=>?_,λ_=>?_⟩)|(refine ⟨by omega,?_⟩)|(simp (disch:=omega) [e0,hml,hml3])|(intro _)
       all_goals (refine hK _ ?_;clear hK K)
       all_goals
        refine zbi rfl (λhc5=>?_) (λhc5=>?_)
        ·try simp [zG24,zbb,zba] at hc5
         all_goals
          refine AW_x rfl rfl λK hK=>?_
          simp (disch:=omega) [e0,hml,hml3]
          repeat' first|(exfalso;omega)|(refine ⟨λ_=>?_,λ_=>?_⟩)|(refine ⟨by omega,?_⟩)|(simp (disch:=omega) [e0,hml,hml3])|(intro _)
          all_goals (refine hK _ ?_;clear hK K)
          all_goals
           refine zbl (zcd [] [] (by simp [zG25]) (by simp) ?_)
           simp (disch:=omega) [e0,hml,hml3]
           all_goals skip
        try simp [zG24,zbb,zba] at hc5
        refine zbj ?_
        refine zbo ?_
        refine AW_x rfl rfl λK hK=>?_
        simp (disch:=omega) [e0,hml,hml3]
        repeat' first|(exfalso;omega)|(refine ⟨λ_=>?_,λ_=>?_⟩)|(refine ⟨by omega,?_⟩)|(simp (disch:=omega) [e0,hml,hml3])|(intro _)
        all_goals (refine hK _ ?_;clear hK K)
        all_goals
         refine AW_x rfl rfl λK hK=>?_
         simp (disch:=omega) [e0,hml,hml3]
         repeat' first|(exfalso;omega)|(refine zgh (zbe (zca rfl) (zbe zch zbn)) (zdw X 1 (by omega) (by omega)) rfl ?_;simp (disch:=omega) [e0,hml,hml3])|(refine zgi (zdw X 1 (by omega) (by omega)) (by rfl) ?_ ?_;(focus (simp (disch:=omega) [e0,hml,hml3,zbz];done));simp (disch:=omega) [e0,hml,hml3])|(refine ⟨by omega,?_⟩)|(simp (disch:=omega) [e0,hml,hml3])|(intro _)
         refine hK _ ?_;clear hK K
         refine zbf ?_
         refine AW_x rfl rfl λK hK=>?_
         simp (disch:=omega) [e0,hml,hml3]
         repeat' first|(refine ⟨by omega,?_⟩)|(intro _)
         refine hK _ ?_;clear hK K
         refine zbi rfl (λhc6=>?_) (λhc6=>?_)
         ·try simp [zG24,zbb,zba] at hc6
          all_goals
           refine AW_x rfl rfl λK hK=>?_
           simp (disch:=omega) [e0,hml,hml3]
           repeat' first|(exfalso;omega)|(refine ⟨λ_=>?_,λ_=>?_⟩)|(refine ⟨by omega,?_⟩)|(simp (disch:=omega) [e0,hml,hml3])|(intro _)
           all_goals (refine hK _ ?_;clear hK K)
           all_goals
            refine zbl (zcd [] [] (by simp [zG25]) (by simp) ?_)
            simp (disch:=omega) [e0,hml,hml3]
            all_goals skip
         try simp [zG24,zbb,zba] at hc6
         refine zbj ?_
         refine zbo ?_
         refine zbf ?_
         refine AW_x rfl rfl λK hK=>?_
         simp (disch:=omega) [e0,hml,hml3]
         repeat' first|(exfalso;omega)|(refine ⟨λ_=>?_,λ_=>?_⟩)|(refine ⟨by omega,?_⟩)|(simp (disch:=omega) [e0,hml,hml3])|(intro _)
         all_goals (refine hK _ ?_;clear hK K)
         all_goals
          refine zbi rfl (λhc7=>?_) (λhc7=>?_)
          ·try simp [zG24,zbb,zba] at hc7
           all_goals
            refine AW_x rfl rfl λK hK=>?_
            simp (disch:=omega) [e0,hml,hml3]
            repeat' first|(exfalso;omega)|(refine ⟨λ_=>?_,λ_=>?_⟩)|(refine ⟨by omega,?_⟩)|(simp (disch:=omega) [e0,hml,hml3])|(intro _)
            all_goals (refine hK _ ?_;clear hK K)
            all_goals
             refine zbl (zcd [] [] (by simp [zG25]) (by simp) ?_)
             simp (disch:=omega) [e0,hml,hml3]
             all_goals skip
          try simp [zG24,zbb,zba] at hc7
          refine zbj ?_
          refine zbo ?_
          refine AW_x rfl rfl λK hK=>?_
          simp (disch:=omega) [e0,hml,hml3]
          repeat' first|(exfalso;omega)|(refine ⟨λ_=>?_,λ_=>?_⟩)|(refine ⟨by omega,?_⟩)|(simp (disch:=omega) [e0,hml,hml3])|(intro _)
          all_goals (refine hK _ ?_;clear hK K)
          all_goals
           refine zbl (zcd [] [] (by simp [zG25]) (by simp) ?_)
           simp (disch:=omega) [e0,hml,hml3]
           all_goals skip
 ·have e0:1048576<s.length:=by omega
  refine zbu Try.func3 (by rfl) (by rfl) (by rw [Try.ntmps3];exact Nat.le_of_ble_eq_true rfl) rfl (by simp) rfl rfl ?_
  rw [Try.ntmps3]
  refine zf1   ?_
  refine AW_k [(0,_)] ⟨rfl,trivial⟩ ?_
  refine AW_x rfl rfl λK hK=>?_
  simp (disch:=omega) [e0]
  repeat' first|(refine ⟨by omega,?_⟩)|(intro _)
  refine hK _ ?_;clear hK K
  refine zbf ?_
  refine AW_x rfl rfl λK hK=>?_
  simp (disch:=omega) [e0]
  repeat' first|(refine ⟨by omega,?_⟩)|(simp (disch:=omega) [e0])|(intro _)
  refine hK _ ?_;clear hK K
  refine zbi rfl (λhc8=>?_) (λhc8=>?_)
  ·try simp [zG24,zbb,zba] at hc8
   all_goals
    refine AW_x rfl rfl λK hK=>?_
    simp (disch:=omega) [e0]
    repeat' first|(exfalso;omega)|(refine ⟨λ_=>?_,λ_=>?_⟩)|(refine ⟨by omega,?_⟩)|(simp (disch:=omega) [e0])|(intro _)
    all_goals (refine hK _ ?_;clear hK K)
    all_goals
     refine zbl (zcd [] [] (by simp [zG25]) (by simp) ?_)
     simp (disch:=omega) [e0]
     all_goals skip
  try simp [zG24,zbb,zba] at hc8
  refine zbj ?_
  refine zbo ?_
  refine AW_x rfl rfl λK hK=>?_
  simp (disch:=omega) [e0]
  repeat' first|(exfalso;omega)|(refine zb6 [] true [] (hp) ?_ ?_ ?_;(focus (simp [List.range_succ,nmC];done));(focus (simp (disch:=omega) [e0,zbz];done));simp (disch:=omega) [e0])|(refine ⟨λ_=>?_,λ_=>?_⟩)|(refine ⟨by omega,?_⟩)|(simp (disch:=omega) [e0])|(intro _)
  all_goals (refine hK _ ?_;clear hK K)
  all_goals
   refine AW_x rfl rfl λK hK=>?_
   simp (disch:=omega) [e0]
   repeat' first|(exfalso;omega)|(refine zb6 [] true [] (hi) ?_ ?_ ?_;(focus (simp [List.range_succ,nmC];done));(focus (simp (disch:=omega) [e0,zbz];done));simp (disch:=omega) [e0])|(refine ⟨by omega,?_⟩)|(simp (disch:=omega) [e0])|(intro _)
   refine hK _ ?_;clear hK K
   refine zbf ?_
   refine AW_x rfl rfl λK hK=>?_
   simp (disch:=omega) [e0]
   repeat' first|(exfalso;omega)|(refine zgh (zbe (zca rfl) (zbe (zca rfl) zbn)) (zgr X X (by omega)) rfl ?_;simp (disch:=omega) [e0])|(refine zgi (zgr X X (by omega)) (by rfl) ?_ ?_;(focus (simp (disch:=omega) [e0,zbz];done));simp (disch:=omega) [e0])|(refine ⟨λ_=>?_,λ_=>?_⟩)|(refine ⟨by omega,?_⟩)|(simp (disch:=omega) [e0])|(intro _)
   all_goals (refine hK _ ?_;clear hK K)
   all_goals
    refine zbi rfl (λhc9=>?_) (λhc9=>?_)
    ·try simp [zG24,zbb,zba] at hc9
     all_goals
      refine AW_x rfl rfl λK hK=>?_
      simp (disch:=omega) [e0]
      repeat' first|(exfalso;omega)|(refine ⟨λ_=>?_,λ_=>?_⟩)|(refine ⟨by omega,?_⟩)|(simp (disch:=omega) [e0])|(intro _)
      all_goals (refine hK _ ?_;clear hK K)
      all_goals
       refine zbl (zcd [] [] (by simp [zG25]) (by simp) ?_)
       simp (disch:=omega) [e0]
       all_goals skip
    try simp [zG24,zbb,zba] at hc9
    refine zbj ?_
    refine zbo ?_
    refine AW_x rfl rfl λK hK=>?_
    simp (disch:=omega) [e0]
    repeat' first|(exfalso;omega)|(refine ⟨λ_=>?_,λ_=>?_⟩)|(refine ⟨by omega,?_⟩)|(simp (disch:=omega) [e0])|(intro _)
    all_goals (refine hK _ ?_;clear hK K)
    all_goals
     refine AW_x rfl rfl λK hK=>?_
     simp (disch:=omega) [e0]
     repeat' first|(exfalso;omega)|(refine zb6 [352,353] true [] (zqd X 1 (by omega) (by omega)) ?_ ?_ ?_;(focus (simp [List.range_succ,nmC];done));(focus (simp (disch:=omega) [e0,zbz];done));simp (disch:=omega) [e0])|(refine ⟨by omega,?_⟩)|(simp (disch:=omega) [e0])|(intro _)
     refine hK _ ?_;clear hK K
     refine AW_x rfl rfl λK hK=>?_
     simp (disch:=omega) [e0]
     repeat' first|(refine ⟨by omega,?_⟩)|(intro _)
     refine hK _ ?_;clear hK K
     refine AW_x rfl rfl λK hK=>?_
     simp (disch:=omega) [e0]
     repeat' first|(exfalso;omega)|(refine zgh (zbe (zca rfl) (zbe zch zbn)) (zdw X 1 (by omega) (by omega)) rfl ?_;simp (disch:=omega) [e0])|(refine zgi (zdw X 1 (by omega) (by omega)) (by rfl) ?_ ?_;(focus (simp (disch:=omega) [e0,zbz];done));simp (disch:=omega) [e0])|(refine ⟨by omega,?_⟩)|(simp (disch:=omega) [e0])|(intro _)
     refine hK _ ?_;clear hK K
     refine zbf ?_
     refine AW_x rfl rfl λK hK=>?_
     simp (disch:=omega) [e0]
     repeat' first|(refine ⟨by omega,?_⟩)|(intro _)
     refine hK _ ?_;clear hK K
     refine zbi rfl (λhc10=>?_) (λhc10=>?_)
     ·try simp [zG24,zbb,zba] at hc10
      all_goals
       refine AW_x rfl rfl λK hK=>?_
       simp (disch:=omega) [e0]
       repeat' first|(exfalso;omega)|(refine ⟨λ_=>?_,λ_=>?_⟩)|(refine ⟨by omega,?_⟩)|(simp (disch:=omega) [e0])|(intro _)
       all_goals (refine hK _ ?_;clear hK K)
       all_goals
        refine zbl (zcd [] [] (by simp [zG25]) (by simp) ?_)
        simp (disch:=omega) [e0]
        all_goals skip
     try simp [zG24,zbb,zba] at hc10
     refine zbj ?_
     refine zbo ?_
     refine zbf ?_
     refine AW_x rfl rfl λK hK=>?_
     simp (disch:=omega) [e0]
     repeat' first|(exfalso;omega)|(refine ⟨λ_=>?_,λ_=>?_⟩)|(refine ⟨by omega,?_⟩)|(simp (disch:=omega) [e0])|(intro _)
     all_goals (refine hK _ ?_;clear hK K)
     all_goals
      refine zbi rfl (λhc11=>?_) (λhc11=>?_)
      ·try simp [zG24,zbb,zba] at hc11
       all_goals
        refine AW_x rfl rfl λK hK=>?_
        simp (disch:=omega) [e0]
        repeat' first|(exfalso;omega)|(refine ⟨λ_=>?_,λ_=>?_⟩)|(refine ⟨by omega,?_⟩)|(simp (disch:=omega) [e0])|(intro _)
        all_goals (refine hK _ ?_;clear hK K)
        all_goals
         refine zbl (zcd [] [] (by simp [zG25]) (by simp) ?_)
         simp (disch:=omega) [e0]
         all_goals skip
      try simp [zG24,zbb,zba] at hc11
      refine zbj ?_
      refine zbo ?_
      refine AW_x rfl rfl λK hK=>?_
      simp (disch:=omega) [e0]
      repeat' first|(exfalso;omega)|(refine zb6 [] true [] (hi) ?_ ?_ ?_;(focus (simp [List.range_succ,nmC];done));(focus (simp (disch:=omega) [e0,zbz];done));simp (disch:=omega) [e0])|(refine ⟨λ_=>?_,λ_=>?_⟩)|(refine ⟨by omega,?_⟩)|(simp (disch:=omega) [e0])|(intro _)
      all_goals (refine hK _ ?_;clear hK K)
      all_goals
       refine zbf ?_
       refine AW_x rfl rfl λK hK=>?_
       simp (disch:=omega) [e0]
       repeat' first|(exfalso;omega)|(refine zgh (zbe (zca rfl) (zbe (zca rfl) zbn)) (zgr X X (by omega)) rfl ?_;simp (disch:=omega) [e0])|(refine zgi (zgr X X (by omega)) (by rfl) ?_ ?_;(focus (simp (disch:=omega) [e0,zbz];done));simp (disch:=omega) [e0])|(refine ⟨λ_=>?_,λ_=>?_⟩)|(refine ⟨by omega,?_⟩)|(simp (disch:=omega) [e0])|(intro _)
       all_goals (refine hK _ ?_;clear hK K)
       all_goals
        refine zbi rfl (λhc12=>?_) (λhc12=>?_)
        ·try simp [zG24,zbb,zba] at hc12
         all_goals
          refine AW_x rfl rfl λK hK=>?_
          simp (disch:=omega) [e0]
          repeat' first|(exfalso;omega)|(refine ⟨λ_=>?_,λ_=>?_⟩)|(refine ⟨by omega,?_⟩)|(simp (disch:=omega) [e0])|(intro _)
          all_goals (refine hK _ ?_;clear hK K)
          all_goals
           refine zbl (zcd [] [] (by simp [zG25]) (by simp) ?_)
           simp (disch:=omega) [e0]
           all_goals skip
        try simp [zG24,zbb,zba] at hc12
        refine zbj ?_
        refine zbo ?_
        refine AW_x rfl rfl λK hK=>?_
        simp (disch:=omega) [e0]
        repeat' first|(exfalso;omega)|(refine ⟨λ_=>?_,λ_=>?_⟩)|(refine ⟨by omega,?_⟩)|(simp (disch:=omega) [e0])|(intro _)
        all_goals (refine hK _ ?_;clear hK K)
        all_goals
         refine AW_x rfl rfl λK hK=>?_
         simp (disch:=omega) [e0]
         repeat' first|(exfalso;omega)|(refine zgh (zbe (zca rfl) (zbe zch zbn)) (zdw X 1 (by omega) (by omega)) rfl ?_;simp (disch:=omega) [e0])|(refine zgi (zdw X 1 (by omega) (by omega)) (by rfl) ?_ ?_;(focus (simp (disch:=omega) [e0,zbz];done));simp (disch:=omega) [e0])|(refine ⟨by omega,?_⟩)|(simp (disch:=omega) [e0])|(intro _)
         refine hK _ ?_;clear hK K
         refine zbf ?_
         refine AW_x rfl rfl λK hK=>?_
         simp (disch:=omega) [e0]
         repeat' first|(refine ⟨by omega,?_⟩)|(intro _)
         refine hK _ ?_;clear hK K
         refine zbi rfl (λhc13=>?_) (λhc13=>?_)
         ·try simp [zG24,zbb,zba] at hc13
          all_goals
           refine AW_x rfl rfl λK hK=>?_
           simp (disch:=omega) [e0]
           repeat' first|(exfalso;omega)|(refine ⟨λ_=>?_,λ_=>?_⟩)|(refine ⟨by omega,?_⟩)|(simp (disch:=omega) [e0])|(intro _)
           all_goals (refine hK _ ?_;clear hK K)
           all_goals
            refine zbl (zcd [] [] (by simp [zG25]) (by simp) ?_)
            simp (disch:=omega) [e0]
            all_goals skip
         try simp [zG24,zbb,zba] at hc13
         refine zbj ?_
         refine zbo ?_
         refine zbf ?_
         refine AW_x rfl rfl λK hK=>?_
         simp (disch:=omega) [e0]
         repeat' first|(exfalso;omega)|(refine ⟨λ_=>?_,λ_=>?_⟩)|(refine ⟨by omega,?_⟩)|(simp (disch:=omega) [e0])|(intro _)
         all_goals (refine hK _ ?_;clear hK K)
         all_goals
          refine zbi rfl (λhc14=>?_) (λhc14=>?_)
          ·try simp [zG24,zbb,zba] at hc14
           all_goals
            refine AW_x rfl rfl λK hK=>?_
            simp (disch:=omega) [e0]
            repeat' first|(exfalso;omega)|(refine ⟨λ_=>?_,λ_=>?_⟩)|(refine ⟨by omega,?_⟩)|(simp (disch:=omega) [e0])|(intro _)
            all_goals (refine hK _ ?_;clear hK K)
            all_goals
             refine zbl (zcd [] [] (by simp [zG25]) (by simp) ?_)
             simp (disch:=omega) [e0]
             all_goals skip
          try simp [zG24,zbb,zba] at hc14
          refine zbj ?_
          refine zbo ?_
          refine AW_x rfl rfl λK hK=>?_
          simp (disch:=omega) [e0]
          repeat' first|(exfalso;omega)|(refine ⟨λ_=>?_,λ_=>?_⟩)|(refine ⟨by omega,?_⟩)|(simp (disch:=omega) [e0])|(intro _)
          all_goals (refine hK _ ?_;clear hK K)
          all_goals
           refine zbl (zcd [] [] (by simp [zG25]) (by simp) ?_)
           simp (disch:=omega) [e0]
           all_goals skip
theorem lawRead(s:List UInt8)(hw:wfL s):PCall Try.prog 3 [.s s] (.g (.bool (true))):=zt3 (lawReadX s (by unfold wfL at hw;omega))
end Go.Proofs.Ytchpfloemfoomaa.Vs
end
