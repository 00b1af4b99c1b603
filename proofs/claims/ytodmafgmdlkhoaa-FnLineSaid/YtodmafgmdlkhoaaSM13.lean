import Derived.Test.YtodmafgmdlkhoaaSM12
section
namespace Go.Proofs.Ytodmafgmdlkhoaa.Vs
set_option linter.all false
set_option maxRecDepth 100000
set_option maxHeartbeats 4000000
theorem zfl(l:List DtCall)(hs:szS DtCall.sz l≤1048576)(o:List Int)(ho:o.length≤1048576):PCall Try.prog 13 [.sl 11 (l.map DtCall.cells),.sl 1 (o.map cI)] (.g (.bool (fitB l o))):=by
 have h:=zkc (implFits l hs o ho)
 rwa [ztr] at h
theorem zlu(l:List DtCall)(hs:szS DtCall.sz l≤1048576)(o:List Int)(ho:o.length≤1048576):PCall Try.prog 14 [.sl 11 (l.map DtCall.cells),.sl 1 (o.map cI)] (.g (.bool (fitB l o))):=zkc (specFits l hs o ho)
theorem zf8(l:List DtCall)(hs:szS DtCall.sz l≤1048576)(hn:l.length≤1048576):PCall Try.prog 13 [.sl 11 (l.map DtCall.cells),.sl 1 ((optL (linI l)).map cI)] (.g (.bool ((linI l).isSome))):=by
 have h:=zfl l hs (optL (linI l)) (zrk l hn)
 rwa [fit_lin] at h
def zG30:=And.intro @zcj (And.intro @gE (And.intro @tP (And.intro @zbl (And.intro @and_assoc @List.range_succ))))
def zG31:=And.intro @zbq (And.intro @zby @zbz)
def zG32:=And.intro @zcj (And.intro @gE @tP)
def zG33:=And.intro @zcj (And.intro @gE (And.intro @tP @zbl))
theorem lawLineX(l:List Int)(hw:l.length<9223372036854775808):XCall Try.prog 4 [.sl 1 (l.map cU)] [] (.g (.bool (true))) [] []:=by
 by_cases hl:l.length≤1048576
 ·have e:¬1048576<l.length:=by omega
  refine zbs Try.func4 (by rfl) (by rfl) (by rw [Try.ntmps4];exact Nat.le_of_ble_eq_true rfl) rfl (by simp) rfl rfl ?_
  rw [Try.ntmps4]
  refine zf1   ?_
  refine AW_k [(0,_)] ⟨rfl,trivial⟩ ?_
  refine AW_x rfl rfl λK hK=>?_
  simp (disch:=omega) [zG30,DtCall.cells,DtCmd.cells,cI,e]
  repeat' first|(refine ⟨by omega,?_⟩)|(intro _)
  refine hK _ ?_;clear hK K
  refine zbi ?_
  refine AW_x rfl rfl λK hK=>?_
  simp (disch:=omega) [zG30,DtCall.cells,DtCmd.cells,cI,e]
  repeat' first|(exfalso;omega)|(refine zc6 (zbe zce zbo) (zza l hw) rfl ?_;simp (disch:=omega) [zG30,DtCall.cells,DtCmd.cells,cI,e])|(refine zc7 (zza l hw) (by rfl) ?_ ?_;(focus (simp (disch:=omega) [zG30,DtCall.cells,DtCmd.cells,cI,e];done));simp (disch:=omega) [zG30,DtCall.cells,DtCmd.cells,cI,e])|(refine ⟨by omega,?_⟩)|(simp (disch:=omega) [zG30,DtCall.cells,DtCmd.cells,cI,e])|(intro _)
  refine hK _ ?_;clear hK K
  refine zbh rfl (λhc1=>?_) (λhc1=>?_)
  ·try simp [zba,zbf,zbc,zbb] at hc1
   all_goals
    refine AW_x rfl rfl λK hK=>?_
    simp (disch:=omega) [zG30,DtCall.cells,DtCmd.cells,cI,e]
    repeat' first|(exfalso;omega)|(refine ⟨λ_=>?_,λ_=>?_⟩)|(refine ⟨by omega,?_⟩)|(simp (disch:=omega) [zG30,DtCall.cells,DtCmd.cells,cI,e])|(intro _)
    all_goals (refine hK _ ?_;clear hK K)
    all_goals
     refine zbp (zb0 [] [] (by simp [zG31,List.range_succ]) (by simp) ?_)
     simp (disch:=omega) [zG30,DtCall.cells,DtCmd.cells,cI,e]
     all_goals first | rfl | omega|(simp_all;done)|(have:=hlg (by assumption);omega) | trace_state
  ·try simp [zba,zbf,zbc,zbb] at hc1
   all_goals
    refine zbj ?_
    refine zbn ?_
    refine AW_x rfl rfl λK hK=>?_
    simp (disch:=omega) [zG30,DtCall.cells,DtCmd.cells,cI,e]
    repeat' first|(exfalso;omega)|(refine zkx [] false [] (zzb l hl) ?_ ?_ ?_;(focus (simp [List.range_succ,nmC];done));(focus (simp (disch:=omega) [zG30,DtCall.cells,DtCmd.cells,cI,e];done));rintro _ _ _ ⟨gs,o,hgn,hon,hgs,rfl,rfl,rfl⟩;refine ⟨⟨by first | rfl|(simp;done),by first | rfl|(simp;done)⟩,?_⟩;simp (disch:=omega) [zG30,DtCall.cells,DtCmd.cells,cI,e])|(refine ⟨λ_=>?_,λ_=>?_⟩)|(refine ⟨by omega,?_⟩)|(simp (disch:=omega) [zG30,DtCall.cells,DtCmd.cells,cI,e])|(intro _)
    all_goals (refine hK _ ?_;clear hK K)
    all_goals
     have hsl:=ztp hgn hgs
     have hnl:gs.length≤1048576:=by omega
     have hol:o.length≤1048576:=by omega
     have hll:=zrk gs hnl
     have hls:fitB gs o=true→(linI gs).isSome=true:=zzc
     have hlg:(linI gs).isSome=true→(optL (linI gs)).length=gs.length:=lin_len
     refine AW_x rfl rfl λK hK=>?_
     simp (disch:=omega) [zG30,DtCall.cells,DtCmd.cells,cI,e]
     repeat' first|(exfalso;omega)|(refine zc6 (zbe zce (zbe zce zbo)) (zfl gs hsl o hol) rfl ?_;simp (disch:=omega) [zG30,DtCall.cells,DtCmd.cells,cI,e])|(refine zc7 (zfl gs hsl o hol) (by rfl) ?_ ?_;(focus (simp (disch:=omega) [zG30,DtCall.cells,DtCmd.cells,cI,e];done));simp (disch:=omega) [zG30,DtCall.cells,DtCmd.cells,cI,e])|(refine zc6 (zbe zce (zbe zce zbo)) (zf8 gs hsl hnl) rfl ?_;simp (disch:=omega) [zG30,DtCall.cells,DtCmd.cells,cI,e])|(refine zc7 (zf8 gs hsl hnl) (by rfl) ?_ ?_;(focus (simp (disch:=omega) [zG30,DtCall.cells,DtCmd.cells,cI,e];done));simp (disch:=omega) [zG30,DtCall.cells,DtCmd.cells,cI,e])|(refine ⟨by omega,?_⟩)|(simp (disch:=omega) [zG30,DtCall.cells,DtCmd.cells,cI,e])|(intro _)
     refine hK _ ?_;clear hK K
     refine zbi ?_
     refine AW_x rfl rfl λK hK=>?_
     simp (disch:=omega) [zG30,DtCall.cells,DtCmd.cells,cI,e]
     repeat' first|(exfalso;omega)|(refine zc6 (zbe zce (zbe zce zbo)) (zlu gs hsl o hol) rfl ?_;simp (disch:=omega) [zG30,DtCall.cells,DtCmd.cells,cI,e])|(refine zc7 (zlu gs hsl o hol) (by rfl) ?_ ?_;(focus (simp (disch:=omega) [zG30,DtCall.cells,DtCmd.cells,cI,e];done));simp (disch:=omega) [zG30,DtCall.cells,DtCmd.cells,cI,e])|(refine ⟨by omega,?_⟩)|(simp (disch:=omega) [zG30,DtCall.cells,DtCmd.cells,cI,e])|(intro _)
     refine hK _ ?_;clear hK K
     refine zbh rfl (λhc2=>?_) (λhc2=>?_)
     ·try simp [zba,zbf,zbc,zbb] at hc2
      all_goals
       refine AW_x rfl rfl λK hK=>?_
       simp (disch:=omega) [zG30,DtCall.cells,DtCmd.cells,cI,e]
       repeat' first|(exfalso;omega)|(refine ⟨λ_=>?_,λ_=>?_⟩)|(refine ⟨by omega,?_⟩)|(simp (disch:=omega) [zG30,DtCall.cells,DtCmd.cells,cI,e])|(intro _)
       all_goals (refine hK _ ?_;clear hK K)
       all_goals
        refine zbp (zb0 [] [] (by simp [zG31,List.range_succ]) (by simp) ?_)
        simp (disch:=omega) [zG30,DtCall.cells,DtCmd.cells,cI,e]
        all_goals first | rfl | omega|(simp_all;done)|(have:=hlg (by assumption);omega) | trace_state
     ·try simp [zba,zbf,zbc,zbb] at hc2
      all_goals
       refine zbj ?_
       refine zbn ?_
       refine AW_x rfl rfl λK hK=>?_
       simp (disch:=omega) [zG30,DtCall.cells,DtCmd.cells,cI,e]
       repeat' first|(exfalso;omega)|(refine zdh [] true [] (zdy gs hsl) ?_ ?_ ?_;(focus (simp [List.range_succ,nmC];done));(focus (simp (disch:=omega) [zG30,DtCall.cells,DtCmd.cells,cI,e];done));simp (disch:=omega) [zG30,DtCall.cells,DtCmd.cells,cI,e])|(refine zdh [] true [] (zdy ms hsm) ?_ ?_ ?_;(focus (simp [List.range_succ,nmC];done));(focus (simp (disch:=omega) [zG30,DtCall.cells,DtCmd.cells,cI,e];done));simp (disch:=omega) [zG30,DtCall.cells,DtCmd.cells,cI,e])|(refine ⟨λ_=>?_,λ_=>?_⟩)|(refine ⟨by omega,?_⟩)|(simp (disch:=omega) [zG30,DtCall.cells,DtCmd.cells,cI,e])|(intro _)
       all_goals (refine hK _ ?_;clear hK K)
       all_goals
        refine AW_x rfl rfl λK hK=>?_
        simp (disch:=omega) [zG30,DtCall.cells,DtCmd.cells,cI,e]
        repeat' first|(exfalso;omega)|(refine zdh [] true [] (zpy gs hsl) ?_ ?_ ?_;(focus (simp [List.range_succ,nmC];done));(focus (simp (disch:=omega) [zG30,DtCall.cells,DtCmd.cells,cI,e];done));simp (disch:=omega) [zG30,DtCall.cells,DtCmd.cells,cI,e])|(refine ⟨by omega,?_⟩)|(simp (disch:=omega) [zG30,DtCall.cells,DtCmd.cells,cI,e])|(intro _)
        refine hK _ ?_;clear hK K
        refine zbi ?_
        refine AW_x rfl rfl λK hK=>?_
        simp (disch:=omega) [zG30,DtCall.cells,DtCmd.cells,cI,e]
        repeat' first|(exfalso;omega)|(refine zc6 (zbe zce (zbe zce zbo)) (zju (optL (linI gs)) hll) rfl ?_;simp (disch:=omega) [zG30,DtCall.cells,DtCmd.cells,cI,e])|(refine zc7 (zju (optL (linI gs)) hll) (by rfl) ?_ ?_;(focus (simp (disch:=omega) [zG30,DtCall.cells,DtCmd.cells,cI,e];done));simp (disch:=omega) [zG30,DtCall.cells,DtCmd.cells,cI,e])|(refine zc6 (zbe zce (zbe zce zbo)) (zfl gs hsl o hol) rfl ?_;simp (disch:=omega) [zG30,DtCall.cells,DtCmd.cells,cI,e])|(refine zc7 (zfl gs hsl o hol) (by rfl) ?_ ?_;(focus (simp (disch:=omega) [zG30,DtCall.cells,DtCmd.cells,cI,e];done));simp (disch:=omega) [zG30,DtCall.cells,DtCmd.cells,cI,e])|(refine zc6 (zbe zce (zbe zce zbo)) (zf8 gs hsl hnl) rfl ?_;simp (disch:=omega) [zG30,DtCall.cells,DtCmd.cells,cI,e])|(refine zc7 (zf8 gs hsl hnl) (by rfl) ?_ ?_;(focus (simp (disch:=omega) [zG30,DtCall.cells,DtCmd.cells,cI,e];done));simp (disch:=omega) [zG30,DtCall.cells,DtCmd.cells,cI,e])|(refine ⟨λ_=>?_,λ_=>?_⟩)|(refine ⟨by omega,?_⟩)|(simp (disch:=omega) [zG30,DtCall.cells,DtCmd.cells,cI,e])|(intro _)
        all_goals (refine hK _ ?_;clear hK K)
        all_goals
         refine zbh rfl (λhc3=>?_) (λhc3=>?_)
         ·try simp [zba,zbf,zbc,zbb] at hc3
          all_goals
           refine AW_x rfl rfl λK hK=>?_
           simp (disch:=omega) [zG30,DtCall.cells,DtCmd.cells,cI,e]
           repeat' first|(exfalso;omega)|(refine ⟨λ_=>?_,λ_=>?_⟩)|(refine ⟨by omega,?_⟩)|(simp (disch:=omega) [zG30,DtCall.cells,DtCmd.cells,cI,e])|(intro _)
           all_goals (refine hK _ ?_;clear hK K)
           all_goals
            refine zbp (zb0 [] [] (by simp [zG31,List.range_succ]) (by simp) ?_)
            simp (disch:=omega) [zG30,DtCall.cells,DtCmd.cells,cI,e]
            all_goals first | rfl | omega|(simp_all;done)|(have:=hlg (by assumption);omega) | trace_state
         ·try simp [zba,zbf,zbc,zbb] at hc3
          all_goals
           refine zbj ?_
           refine zbn ?_
           refine AW_x rfl rfl λK hK=>?_
           simp (disch:=omega) [zG30,DtCall.cells,DtCmd.cells,cI,e]
           repeat' first|(exfalso;omega)|(refine zkx [] false [] (fresh1 l hl) ?_ ?_ ?_;(focus (simp [List.range_succ,nmC];done));(focus (simp (disch:=omega) [zG30,DtCall.cells,DtCmd.cells,cI,e];done));rintro _ _ _ ⟨fm,hfm,rfl,rfl,rfl⟩;refine ⟨⟨by first | rfl|(simp;done),by first | rfl|(simp;done)⟩,?_⟩;simp (disch:=omega) [zG30,DtCall.cells,DtCmd.cells,cI,e])|(refine zkx [] false [] (zpz fm hfm) ?_ ?_ ?_;(focus (simp [List.range_succ,nmC];done));(focus (simp (disch:=omega) [zG30,DtCall.cells,DtCmd.cells,cI,e];done));rintro _ _ _ ⟨ms,hmn,hms,rfl,rfl,rfl⟩;refine ⟨⟨by first | rfl|(simp;done),by first | rfl|(simp;done)⟩,?_⟩;simp (disch:=omega) [zG30,DtCall.cells,DtCmd.cells,cI,e])|(refine ⟨λ_=>?_,λ_=>?_⟩)|(refine ⟨by omega,?_⟩)|(simp (disch:=omega) [zG30,DtCall.cells,DtCmd.cells,cI,e])|(intro _)
           all_goals (refine hK _ ?_;clear hK K)
           all_goals
            have hsm:=ztp hmn hms
            have hnm:ms.length≤1048576:=by omega
            have hlm:=zrk ms hnm
            refine AW_x rfl rfl λK hK=>?_
            simp (disch:=omega) [zG30,DtCall.cells,DtCmd.cells,cI,e]
            repeat' first|(exfalso;omega)|(refine zdh [] true [] (zdy gs hsl) ?_ ?_ ?_;(focus (simp [List.range_succ,nmC];done));(focus (simp (disch:=omega) [zG30,DtCall.cells,DtCmd.cells,cI,e];done));simp (disch:=omega) [zG30,DtCall.cells,DtCmd.cells,cI,e])|(refine zdh [] true [] (zdy ms hsm) ?_ ?_ ?_;(focus (simp [List.range_succ,nmC];done));(focus (simp (disch:=omega) [zG30,DtCall.cells,DtCmd.cells,cI,e];done));simp (disch:=omega) [zG30,DtCall.cells,DtCmd.cells,cI,e])|(refine ⟨by omega,?_⟩)|(simp (disch:=omega) [zG30,DtCall.cells,DtCmd.cells,cI,e])|(intro _)
            refine hK _ ?_;clear hK K
            refine zbi ?_
            refine AW_x rfl rfl λK hK=>?_
            simp (disch:=omega) [zG30,DtCall.cells,DtCmd.cells,cI,e]
            repeat' first|(refine ⟨by omega,?_⟩)|(intro _)
            refine hK _ ?_;clear hK K
            refine zbm ?_
            refine zbv (λmM sS=>∃(i:Nat),mM=(optL (linI ms)).length-i∧(i≤(optL (linI ms)).length)∧sS = { env:=lkE [(3,.sl 11 (gs.map DtCall.cells)),(6,.arr 528 0 (optL (linI gs)).length),(7,(.g (.bool ((linI gs).isSome)))),(10,.sl 11 (ms.map DtCall.cells)),(11,.arr 1136 0 (optL (linI ms)).length),(12,(.g (.bool ((linI ms).isSome)))),(13,(.g (.int .i64 ((i:Nat)))))],ob:=lk [(528,.own 1 ((optL (linI gs)).map cI)),(1136,.own 1 ((optL (linI ms)).map cI))] }) ?_ ?_
            ·refine ⟨_,LeS.kx [(528,528),(1136,1136)] [(3,.sl 11 (gs.map DtCall.cells)),(6,.arr 528 0 (optL (linI gs)).length),(7,(.g (.bool ((linI gs).isSome)))),(10,.sl 11 (ms.map DtCall.cells)),(11,.arr 1136 0 (optL (linI ms)).length),(12,(.g (.bool ((linI ms).isSome)))),(13,(.g (.int .i64 (((0):Nat)))))] [(528,.own 1 ((optL (linI gs)).map cI)),(1136,.own 1 ((optL (linI ms)).map cI))] (by simp [zG31,KpR,renV2,renV,zbk,cI];try rfl) (by simp [zG31,KpOX,renO,plO,cvO,renV,pl1,cI];try rfl) (by rfl) (by simp) (by simp) (by rfl) (by simp [formsX,List.range_succ,zbq,zby]),_,0,rfl,?_,rfl⟩
             ·simp
            ·rintro mM sS ⟨i,rfl,hi,rfl⟩
             refine zbi ?_
             refine AW_x rfl rfl λK hK=>?_
             simp (disch:=omega) [zG30,DtCall.cells,DtCmd.cells,cI,e]
             repeat' first|(exfalso;omega)|(refine ⟨λ_=>?_,λ_=>?_⟩)|(refine ⟨by omega,?_⟩)|(simp (disch:=omega) [zG30,DtCall.cells,DtCmd.cells,cI,e])|(intro _)
             all_goals (refine hK _ ?_;clear hK K)
             all_goals
              refine zbh rfl (λhc4=>?_) (λhc4=>?_)
              ·try simp [zba,zbf,zbc,zbb] at hc4
               all_goals
                refine zbj ?_
                refine zbn ?_
                refine zbi ?_
                refine zbm ?_
                refine AW_x rfl rfl λK hK=>?_
                simp (disch:=omega) [zG30,DtCall.cells,DtCmd.cells,cI,e]
                repeat' first|(exfalso;omega)|(refine ⟨λ_=>?_,λ_=>?_⟩)|(refine ⟨by omega,?_⟩)|(simp (disch:=omega) [zG30,DtCall.cells,DtCmd.cells,cI,e])|(intro _)
                all_goals (refine hK _ ?_;clear hK K)
                all_goals
                 refine zbm ?_
                 refine zbv (λmM sS=>∃(j:Nat),mM=i-j∧(j≤i)∧sS = { env:=lkE [(3,.sl 11 (gs.map DtCall.cells)),(6,.arr 528 0 (optL (linI gs)).length),(7,(.g (.bool ((linI gs).isSome)))),(10,.sl 11 (ms.map DtCall.cells)),(11,.arr 1136 0 (optL (linI ms)).length),(12,(.g (.bool ((linI ms).isSome)))),(13,(.g (.int .i64 ((i:Nat))))),(14,(.g (.int .i64 ((j:Nat)))))],ob:=lk [(528,.own 1 ((optL (linI gs)).map cI)),(1136,.own 1 ((optL (linI ms)).map cI))] }) ?_ ?_
                 ·refine ⟨_,LeS.kx [(528,528),(1136,1136)] [(3,.sl 11 (gs.map DtCall.cells)),(6,.arr 528 0 (optL (linI gs)).length),(7,(.g (.bool ((linI gs).isSome)))),(10,.sl 11 (ms.map DtCall.cells)),(11,.arr 1136 0 (optL (linI ms)).length),(12,(.g (.bool ((linI ms).isSome)))),(13,(.g (.int .i64 ((i:Nat))))),(14,(.g (.int .i64 (((0):Nat)))))] [(528,.own 1 ((optL (linI gs)).map cI)),(1136,.own 1 ((optL (linI ms)).map cI))] (by simp [zG31,KpR,renV2,renV,zbk,cI];try rfl) (by simp [zG31,KpOX,renO,plO,cvO,renV,pl1,cI];try rfl) (by rfl) (by simp) (by simp) (by rfl) (by simp [formsX,List.range_succ,zbq,zby]),_,0,rfl,?_,rfl⟩
                  ·simp
                 ·rintro mM sS ⟨j,rfl,hj,rfl⟩
                  refine zbi ?_
                  refine AW_x rfl rfl λK hK=>?_
                  simp (disch:=omega) [zG30,DtCall.cells,DtCmd.cells,cI,e]
                  repeat' first|(refine ⟨by omega,?_⟩)|(intro _)
                  refine hK _ ?_;clear hK K
                  refine zbh rfl (λhc5=>?_) (λhc5=>?_)
                  ·try simp [zba,zbf,zbc,zbb] at hc5
                   all_goals
                    have hii:i<(optL (linI ms)).length:=by omega
                    have hjj:j<(optL (linI ms)).length:=by omega
                    obtain ⟨x,hx,hxl⟩:=lin_rng hii
                    obtain ⟨y,hy,hyl⟩:=lin_rng hjj
                    have hlt:=lin_late hii (by omega) hx hy hxl hyl
                    refine zbj ?_
                    refine zbn ?_
                    refine zbi ?_
                    refine zbm ?_
                    refine AW_d rfl mix (by kernel_rfl) (by kernel_rfl) λK hK=>?_
                    simp (disch:=omega) [zG30,DtCall.cells,DtCmd.cells,cI,e,hx,hy,hlt]
                    repeat' first|(exfalso;omega)|(refine ⟨λ_=>?_,λ_=>?_⟩)|(refine ⟨by omega,?_⟩)|(simp (disch:=omega) [zG30,DtCall.cells,DtCmd.cells,cI,e,hx,hy,hlt])|(intro _)
                    all_goals (refine hK _ _ (by kernel_rfl) ?_;clear hK K)
                    all_goals
                     refine zbh rfl (λhc6=>?_) (λhc6=>?_)
                     ·try simp [zba,zbf,zbc,zbb] at hc6
                      all_goals
                       refine AW_x rfl rfl λK hK=>?_
                       simp (disch:=omega) [zG30,DtCall.cells,DtCmd.cells,cI,e,hx,hy,hlt]
                       repeat' first|(exfalso;omega)|(refine ⟨λ_=>?_,λ_=>?_⟩)|(refine ⟨by omega,?_⟩)|(simp (disch:=omega) [zG30,DtCall.cells,DtCmd.cells,cI,e,hx,hy,hlt])|(intro _)
                       all_goals (refine hK _ ?_;clear hK K)
                       all_goals
                        refine zbp (zb0 [] [] (by simp [zG31,List.range_succ]) (by simp) ?_)
                        simp (disch:=omega) [zG30,DtCall.cells,DtCmd.cells,cI,e,hx,hy,hlt]
                        all_goals first | rfl | omega|(simp_all;done)|(have:=hlg (by assumption);omega) | trace_state
                     ·try simp [zba,zbf,zbc,zbb] at hc6
                      all_goals
                       refine zbj ?_
                       refine zbn ?_
                       refine zb3 rfl rfl λK hK=>?_
                       simp (disch:=omega) [zG30,DtCall.cells,DtCmd.cells,cI,e,hx,hy,hlt]
                       repeat' first|(exfalso;omega)|(refine ⟨λ_=>?_,λ_=>?_⟩)|(refine ⟨by omega,?_⟩)|(simp (disch:=omega) [zG30,DtCall.cells,DtCmd.cells,cI,e,hx,hy,hlt])|(intro _)
                       all_goals (refine hK _ ?_;clear hK K)
                       all_goals
                        refine ⟨_,LeS.kx [(528,528),(1136,1136)] [(3,.sl 11 (gs.map DtCall.cells)),(6,.arr 528 0 (optL (linI gs)).length),(7,(.g (.bool ((linI gs).isSome)))),(10,.sl 11 (ms.map DtCall.cells)),(11,.arr 1136 0 (optL (linI ms)).length),(12,(.g (.bool ((linI ms).isSome)))),(13,(.g (.int .i64 ((i:Nat))))),(14,(.g (.int .i64 (((j+1):Nat)))))] [(528,.own 1 ((optL (linI gs)).map cI)),(1136,.own 1 ((optL (linI ms)).map cI))] (by simp [zG31,KpR,renV2,renV,zbk,cI];try rfl) (by simp [zG31,KpOX,renO,plO,cvO,renV,pl1,cI];try rfl) (by rfl) (by simp) (by simp) (by rfl) (by simp [formsX,List.range_succ,zbq,zby]),_,?_,j+1,rfl,?_,rfl⟩
                        ·omega
                        ·omega
                  ·try simp [zba,zbf,zbc,zbb] at hc5
                   all_goals
                    refine zbx ?_
                    refine zbn ?_
                    refine zb3 rfl rfl λK hK=>?_
                    simp (disch:=omega) [zG30,DtCall.cells,DtCmd.cells,cI,e]
                    repeat' first|(exfalso;omega)|(refine ⟨λ_=>?_,λ_=>?_⟩)|(refine ⟨by omega,?_⟩)|(simp (disch:=omega) [zG30,DtCall.cells,DtCmd.cells,cI,e])|(intro _)
                    all_goals (refine hK _ ?_;clear hK K)
                    all_goals
                     refine ⟨_,LeS.kx [(528,528),(1136,1136)] [(3,.sl 11 (gs.map DtCall.cells)),(6,.arr 528 0 (optL (linI gs)).length),(7,(.g (.bool ((linI gs).isSome)))),(10,.sl 11 (ms.map DtCall.cells)),(11,.arr 1136 0 (optL (linI ms)).length),(12,(.g (.bool ((linI ms).isSome)))),(13,(.g (.int .i64 (((i+1):Nat)))))] [(528,.own 1 ((optL (linI gs)).map cI)),(1136,.own 1 ((optL (linI ms)).map cI))] (by simp [zG31,KpR,renV2,renV,zbk,cI];try rfl) (by simp [zG31,KpOX,renO,plO,cvO,renV,pl1,cI];try rfl) (by rfl) (by simp) (by simp) (by rfl) (by simp [formsX,List.range_succ,zbq,zby]),_,?_,i+1,rfl,?_,rfl⟩
                     ·omega
                     ·omega
              ·try simp [zba,zbf,zbc,zbb] at hc4
               all_goals
                refine zbx ?_
                refine zbn ?_
                refine AW_x rfl rfl λK hK=>?_
                simp (disch:=omega) [zG30,DtCall.cells,DtCmd.cells,cI,e]
                repeat' first|(exfalso;omega)|(refine zc6 (zbe zce zbo) (zd7 gs hsl) rfl ?_;simp (disch:=omega) [zG30,DtCall.cells,DtCmd.cells,cI,e])|(refine zc7 (zd7 gs hsl) (by rfl) ?_ ?_;(focus (simp (disch:=omega) [zG30,DtCall.cells,DtCmd.cells,cI,e];done));simp (disch:=omega) [zG30,DtCall.cells,DtCmd.cells,cI,e])|(refine zc6 (zbe zce zbo) (zd6 gs hsl) rfl ?_;simp (disch:=omega) [zG30,DtCall.cells,DtCmd.cells,cI,e])|(refine zc7 (zd6 gs hsl) (by rfl) ?_ ?_;(focus (simp (disch:=omega) [zG30,DtCall.cells,DtCmd.cells,cI,e];done));simp (disch:=omega) [zG30,DtCall.cells,DtCmd.cells,cI,e])|(refine ⟨λ_=>?_,λ_=>?_⟩)|(refine ⟨by omega,?_⟩)|(simp (disch:=omega) [zG30,DtCall.cells,DtCmd.cells,cI,e])|(intro _)
                all_goals (refine hK _ ?_;clear hK K)
                all_goals
                 refine zbp (zb0 [] [] (by simp [zG31,List.range_succ]) (by simp) ?_)
                 simp (disch:=omega) [zG30,DtCall.cells,DtCmd.cells,cI,e]
                 all_goals first | rfl | omega|(simp_all;done)|(have:=hlg (by assumption);omega) | trace_state
 ·have e:1048576<l.length:=by omega
  refine zbs Try.func4 (by rfl) (by rfl) (by rw [Try.ntmps4];exact Nat.le_of_ble_eq_true rfl) rfl (by simp) rfl rfl ?_
  rw [Try.ntmps4]
  refine zf1   ?_
  refine AW_k [(0,_)] ⟨rfl,trivial⟩ ?_
  refine AW_x rfl rfl λK hK=>?_
  simp (disch:=omega) [zG32,e]
  repeat' first|(refine ⟨by omega,?_⟩)|(intro _)
  refine hK _ ?_;clear hK K
  refine zbi ?_
  refine AW_x rfl rfl λK hK=>?_
  simp (disch:=omega) [zG32,e]
  repeat' first|(exfalso;omega)|(refine zc6 (zbe zce zbo) (zza l hw) rfl ?_;simp (disch:=omega) [zG32,e])|(refine zc7 (zza l hw) (by rfl) ?_ ?_;(focus (simp (disch:=omega) [zG33,e];done));simp (disch:=omega) [zG32,e])|(refine ⟨by omega,?_⟩)|(simp (disch:=omega) [zG32,e])|(intro _)
  refine hK _ ?_;clear hK K
  refine zbh rfl (λhc7=>?_) (λhc7=>?_)
  ·try simp [zba,zbf,zbc,zbb] at hc7
   all_goals
    refine AW_x rfl rfl λK hK=>?_
    simp (disch:=omega) [zG32,e]
    repeat' first|(exfalso;omega)|(refine ⟨λ_=>?_,λ_=>?_⟩)|(refine ⟨by omega,?_⟩)|(simp (disch:=omega) [zG32,e])|(intro _)
    all_goals (refine hK _ ?_;clear hK K)
    all_goals
     refine zbp (zb0 [] [] (by simp [zG31,List.range_succ]) (by simp) ?_)
     simp (disch:=omega) [zG32,e]
     all_goals first | rfl | omega|(simp_all;done) | trace_state
  ·try simp [zba,zbf,zbc,zbb] at hc7
   all_goals
    refine zbj ?_
    refine zbn ?_
    refine AW_x rfl rfl λK hK=>?_
    simp (disch:=omega) [zG32,e]
    repeat' first|(exfalso;omega)|(refine zkx [] false [] (zzb l hl) ?_ ?_ ?_;(focus (simp [List.range_succ,nmC];done));(focus (simp (disch:=omega) [zG33,e];done));rintro _ _ _ ⟨gs,o,hgn,hon,hgs,rfl,rfl,rfl⟩;refine ⟨⟨by first | rfl|(simp;done),by first | rfl|(simp;done)⟩,?_⟩;simp (disch:=omega) [zG32,e])|(refine ⟨λ_=>?_,λ_=>?_⟩)|(refine ⟨by omega,?_⟩)|(simp (disch:=omega) [zG32,e])|(intro _)
    all_goals (refine hK _ ?_;clear hK K)
    all_goals
     refine AW_x rfl rfl λK hK=>?_
     simp (disch:=omega) [zG32,e]
     repeat' first|(exfalso;omega)|(refine zc6 (zbe zce (zbe zce zbo)) (zfl gs hsl o hol) rfl ?_;simp (disch:=omega) [zG32,e])|(refine zc7 (zfl gs hsl o hol) (by rfl) ?_ ?_;(focus (simp (disch:=omega) [zG33,e];done));simp (disch:=omega) [zG32,e])|(refine zc6 (zbe zce (zbe zce zbo)) (zf8 gs hsl hnl) rfl ?_;simp (disch:=omega) [zG32,e])|(refine zc7 (zf8 gs hsl hnl) (by rfl) ?_ ?_;(focus (simp (disch:=omega) [zG33,e];done));simp (disch:=omega) [zG32,e])|(refine ⟨by omega,?_⟩)|(simp (disch:=omega) [zG32,e])|(intro _)
     refine hK _ ?_;clear hK K
     refine zbi ?_
     refine AW_x rfl rfl λK hK=>?_
     simp (disch:=omega) [zG32,e]
     repeat' first|(exfalso;omega)|(refine zc6 (zbe zce (zbe zce zbo)) (zlu gs hsl o hol) rfl ?_;simp (disch:=omega) [zG32,e])|(refine zc7 (zlu gs hsl o hol) (by rfl) ?_ ?_;(focus (simp (disch:=omega) [zG33,e];done));simp (disch:=omega) [zG32,e])|(refine ⟨by omega,?_⟩)|(simp (disch:=omega) [zG32,e])|(intro _)
     refine hK _ ?_;clear hK K
     refine zbh rfl (λhc8=>?_) (λhc8=>?_)
     ·try simp [zba,zbf,zbc,zbb] at hc8
      all_goals
       refine AW_x rfl rfl λK hK=>?_
       simp (disch:=omega) [zG32,e]
       repeat' first|(exfalso;omega)|(refine ⟨λ_=>?_,λ_=>?_⟩)|(refine ⟨by omega,?_⟩)|(simp (disch:=omega) [zG32,e])|(intro _)
       all_goals (refine hK _ ?_;clear hK K)
       all_goals
        refine zbp (zb0 [] [] (by simp [zG31,List.range_succ]) (by simp) ?_)
        simp (disch:=omega) [zG32,e]
        all_goals first | rfl | omega|(simp_all;done) | trace_state
     ·try simp [zba,zbf,zbc,zbb] at hc8
      all_goals
       refine zbj ?_
       refine zbn ?_
       refine AW_x rfl rfl λK hK=>?_
       simp (disch:=omega) [zG32,e]
       repeat' first|(exfalso;omega)|(refine zdh [] true [] (zdy gs hsl) ?_ ?_ ?_;(focus (simp [List.range_succ,nmC];done));(focus (simp (disch:=omega) [zG33,e];done));simp (disch:=omega) [zG32,e])|(refine zdh [] true [] (zdy ms hsm) ?_ ?_ ?_;(focus (simp [List.range_succ,nmC];done));(focus (simp (disch:=omega) [zG33,e];done));simp (disch:=omega) [zG32,e])|(refine ⟨λ_=>?_,λ_=>?_⟩)|(refine ⟨by omega,?_⟩)|(simp (disch:=omega) [zG32,e])|(intro _)
       all_goals (refine hK _ ?_;clear hK K)
       all_goals
        refine AW_x rfl rfl λK hK=>?_
        simp (disch:=omega) [zG32,e]
        repeat' first|(exfalso;omega)|(refine zdh [] true [] (zpy gs hsl) ?_ ?_ ?_;(focus (simp [List.range_succ,nmC];done));(focus (simp (disch:=omega) [zG33,e];done));simp (disch:=omega) [zG32,e])|(refine ⟨by omega,?_⟩)|(simp (disch:=omega) [zG32,e])|(intro _)
        refine hK _ ?_;clear hK K
        refine zbi ?_
        refine AW_x rfl rfl λK hK=>?_
        simp (disch:=omega) [zG32,e]
        repeat' first|(exfalso;omega)|(refine zc6 (zbe zce (zbe zce zbo)) (zju (optL (linI gs)) hll) rfl ?_;simp (disch:=omega) [zG32,e])|(refine zc7 (zju (optL (linI gs)) hll) (by rfl) ?_ ?_;(focus (simp (disch:=omega) [zG33,e];done));simp (disch:=omega) [zG32,e])|(refine zc6 (zbe zce (zbe zce zbo)) (zfl gs hsl o hol) rfl ?_;simp (disch:=omega) [zG32,e])|(refine zc7 (zfl gs hsl o hol) (by rfl) ?_ ?_;(focus (simp (disch:=omega) [zG33,e];done));simp (disch:=omega) [zG32,e])|(refine zc6 (zbe zce (zbe zce zbo)) (zf8 gs hsl hnl) rfl ?_;simp (disch:=omega) [zG32,e])|(refine zc7 (zf8 gs hsl hnl) (by rfl) ?_ ?_;(focus (simp (disch:=omega) [zG33,e];done));simp (disch:=omega) [zG32,e])|(refine ⟨λ_=>?_,λ_=>?_⟩)|(refine ⟨by omega,?_⟩)|(simp (disch:=omega) [zG32,e])|(intro _)
        all_goals (refine hK _ ?_;clear hK K)
        all_goals
         refine zbh rfl (λhc9=>?_) (λhc9=>?_)
         ·try simp [zba,zbf,zbc,zbb] at hc9
          all_goals
           refine AW_x rfl rfl λK hK=>?_
           simp (disch:=omega) [zG32,e]
           repeat' first|(exfalso;omega)|(refine ⟨λ_=>?_,λ_=>?_⟩)|(refine ⟨by omega,?_⟩)|(simp (disch:=omega) [zG32,e])|(intro _)
           all_goals (refine hK _ ?_;clear hK K)
           all_goals
            refine zbp (zb0 [] [] (by simp [zG31,List.range_succ]) (by simp) ?_)
            simp (disch:=omega) [zG32,e]
            all_goals first | rfl | omega|(simp_all;done) | trace_state
         ·try simp [zba,zbf,zbc,zbb] at hc9
          all_goals
           refine zbj ?_
           refine zbn ?_
           refine AW_x rfl rfl λK hK=>?_
           simp (disch:=omega) [zG32,e]
           repeat' first|(exfalso;omega)|(refine zkx [] false [] (fresh1 l hl) ?_ ?_ ?_;(focus (simp [List.range_succ,nmC];done));(focus (simp (disch:=omega) [zG33,e];done));rintro _ _ _ ⟨fm,hfm,rfl,rfl,rfl⟩;refine ⟨⟨by first | rfl|(simp;done),by first | rfl|(simp;done)⟩,?_⟩;simp (disch:=omega) [zG32,e])|(refine zkx [] false [] (zpz fm hfm) ?_ ?_ ?_;(focus (simp [List.range_succ,nmC];done));(focus (simp (disch:=omega) [zG33,e];done));rintro _ _ _ ⟨ms,hmn,hms,rfl,rfl,rfl⟩;refine ⟨⟨by first | rfl|(simp;done),by first | rfl|(simp;done)⟩,?_⟩;simp (disch:=omega) [zG32,e])|(refine ⟨λ_=>?_,λ_=>?_⟩)|(refine ⟨by omega,?_⟩)|(simp (disch:=omega) [zG32,e])|(intro _)
           all_goals (refine hK _ ?_;clear hK K)
           all_goals
            refine AW_x rfl rfl λK hK=>?_
            simp (disch:=omega) [zG32,e]
            repeat' first|(exfalso;omega)|(refine zdh [] true [] (zdy gs hsl) ?_ ?_ ?_;(focus (simp [List.range_succ,nmC];done));(focus (simp (disch:=omega) [zG33,e];done));simp (disch:=omega) [zG32,e])|(refine zdh [] true [] (zdy ms hsm) ?_ ?_ ?_;(focus (simp [List.range_succ,nmC];done));(focus (simp (disch:=omega) [zG33,e];done));simp (disch:=omega) [zG32,e])|(refine ⟨by omega,?_⟩)|(simp (disch:=omega) [zG32,e])|(intro _)
            refine hK _ ?_;clear hK K
            refine zbi ?_
            refine AW_x rfl rfl λK hK=>?_
            simp (disch:=omega) [zG32,e]
            repeat' first|(refine ⟨by omega,?_⟩)|(intro _)
            refine hK _ ?_;clear hK K
            refine zbm ?_
            done
theorem lawLine(l:List Int)(hw:wfS wfU8 l):PCall Try.prog 4 [.sl 1 (l.map cU)] (.g (.bool (true))):=zkc (lawLineX l (by have:=hw.1;omega))
end Go.Proofs.Ytodmafgmdlkhoaa.Vs
end
