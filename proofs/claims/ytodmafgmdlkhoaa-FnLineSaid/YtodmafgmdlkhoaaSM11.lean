import Derived.Test.YtodmafgmdlkhoaaSM10
section
namespace Go.Proofs.Ytodmafgmdlkhoaa.Vs
set_option linter.all false
set_option maxRecDepth 100000
set_option maxHeartbeats 2000000
attribute [local simp] DtState.cells DtCatalog.cells DtCall.cells DtCmd.cells zbl and_assoc cI List.range_succ
def zG25:=And.intro @zbq (And.intro @zby @zbz)
theorem implFits(l:List DtCall)(hs:szS DtCall.sz l≤1048576)(o:List Int)(ho:o.length≤1048576):XCall Try.prog 13 [.sl 11 (l.map DtCall.cells),.sl 1 (o.map cI)] [] (.g (.bool (decB (CallsP l∧o.length=l.length∧FitsP l o)))) [] []:=by
 have ⟨hl,hm⟩:=zkr l hs
 refine zbs Try.func13 (by rfl) (by rfl) (by rw [Try.ntmps13];exact Nat.le_of_ble_eq_true rfl) rfl (by simp) rfl rfl ?_
 rw [Try.ntmps13]
 refine zf1   ?_
 refine AW_k [(0,_),(1,_)] ⟨rfl,rfl,trivial⟩ ?_
 refine AW_x rfl rfl λK hK=>?_
 simp (disch:=omega)
 repeat' first|(refine ⟨by omega,?_⟩)|(intro _)
 refine hK _ ?_;clear hK K
 refine zbi ?_
 refine AW_x rfl rfl λK hK=>?_
 simp (disch:=omega)
 repeat' first|(exfalso;omega)|(refine zc6 (zbe zce zbo) (zd7 l hs) rfl ?_;simp (disch:=omega))|(refine zc7 (zd7 l hs) (by rfl) ?_ ?_;(focus (simp (disch:=omega) [zbl];done));simp (disch:=omega))|(refine ⟨λ_=>?_,λ_=>?_⟩)|(refine ⟨by omega,?_⟩)|(simp (disch:=omega))|(intro _)
 all_goals (refine hK _ ?_;clear hK K)
 all_goals
  refine zbh rfl (λhc1=>?_) (λhc1=>?_)
  ·try simp [zba,zbf,zbc,zbb] at hc1
   all_goals
    refine AW_x rfl rfl λK hK=>?_
    simp (disch:=omega)
    repeat' first|(exfalso;omega)|(refine ⟨λ_=>?_,λ_=>?_⟩)|(refine ⟨by omega,?_⟩)|(simp (disch:=omega))|(intro _)
    all_goals (refine hK _ ?_;clear hK K)
    all_goals
     refine zbp (zb0 [] [] (by simp [zG25,List.range_succ]) (by simp) ?_)
     simp (disch:=omega)
     all_goals first | exact zb5 λh=>hc1 (by omega) | exact zb5 λh=>((zbf _).mp (by assumption)) h.1 | exact zb4 ⟨(zba _).mp (by assumption),by omega,λj h=>hpre j (by omega) h⟩|(refine zb5 λh=>?_;have h2:=h.2.2 i hc2;clear h hst hpre hpr;simp only [List.any_eq_false] at h2;grind) | trace_state
  ·try simp [zba,zbf,zbc,zbb] at hc1
   all_goals
    refine zbj ?_
    refine zbn ?_
    refine AW_x rfl rfl λK hK=>?_
    simp (disch:=omega)
    repeat' first|(exfalso;omega)|(refine ⟨λ_=>?_,λ_=>?_⟩)|(refine ⟨by omega,?_⟩)|(simp (disch:=omega))|(intro _)
    all_goals (refine hK _ ?_;clear hK K)
    all_goals
     refine zbi ?_
     refine AW_x rfl rfl λK hK=>?_
     simp (disch:=omega)
     repeat' first|(refine ⟨by omega,?_⟩)|(simp (disch:=omega))|(intro _)
     refine hK _ ?_;clear hK K
     refine zbm ?_
     refine zbv (λmM sS=>∃(i:Nat),mM=o.length-i∧(i≤o.length∧∀j,j<i→FitP l o j)∧sS = { env:=lkE [(0,.sl 11 (l.map DtCall.cells)),(1,.sl 1 (o.map cI)),(5,.ptr 96 0),(21,.sl 1 (o.map cI)),(22,(.g (.int .i64 ((o.length:Nat))))),(23,(.g (.int .i64 ((i:Nat)))))],ob:=lk [(96,.cells [.arr 500 0 (stP l (o.take i)).fCat.fSets.length,.arr 502 0 (stP l (o.take i)).fSaid.length]),(500,.own 2 ((stP l (o.take i)).fCat.fSets.map DtCSet.cells)),(502,.own 3 ((stP l (o.take i)).fSaid.map DtSaid.cells))] }) ?_ ?_
     ·refine ⟨_,LeS.trans (LeS.znc (cs:=[.g (.slice none 0 0),.g (.slice none 0 0)]) 500 2 96 0 (by simp [zG25,zbk]) (by simp [zG25,zbk]) (by rfl)) (LeS.trans (LeS.znc (cs:=[.arr 500 0 0,.g (.slice none 0 0)]) 502 3 96 1 (by simp [zG25,zbk]) (by simp [zG25,zbk]) (by rfl)) (LeS.kx [(96,96),(500,500),(502,502)] [(0,.sl 11 (l.map DtCall.cells)),(1,.sl 1 (o.map cI)),(5,.ptr 96 0),(21,.sl 1 (o.map cI)),(22,(.g (.int .i64 ((o.length:Nat))))),(23,(.g (.int .i64 (((0):Nat)))))] [(96,.cells [.arr 500 0 (stP l (o.take (0))).fCat.fSets.length,.arr 502 0 (stP l (o.take (0))).fSaid.length]),(500,.own 2 ((stP l (o.take (0))).fCat.fSets.map DtCSet.cells)),(502,.own 3 ((stP l (o.take (0))).fSaid.map DtSaid.cells))] (by simp [zG25,KpR,renV2,renV,zbk];first | omega|(rw [hst,hcm];done)|(rw [hst,hcm];rfl) | trace_state) (by simp [zG25,KpOX,renO,plO,cvO,renV,pl1];first | rfl | exact ⟨rfl,rfl,rfl,rfl⟩ | exact ⟨⟨rfl,rfl⟩,rfl,rfl⟩|(rw [hst,hcm];simp;done) | trace_state) (by rfl) (by simp) (by simp) (by rfl) (by simp [formsX,List.range_succ,zbq,zby]))),_,0,rfl,?_,rfl⟩
      ·simp
     ·rintro mM sS ⟨i,rfl,⟨hi,hpre⟩,rfl⟩
      refine AW_x rfl rfl λK hK=>?_
      simp (disch:=omega)
      repeat' first|(refine ⟨by omega,?_⟩)|(intro _)
      refine hK _ ?_;clear hK K
      refine zbi ?_
      refine zbh rfl (λhc2=>?_) (λhc2=>?_)
      ·try simp [zba,zbf,zbc,zbb] at hc2
       all_goals
        have hg:o[i]? = some o[i]:=List.getElem?_eq_getElem (by omega)
        have hpr:∀j∈o.take i,0≤j∧j<(l.length:Int):=λj hj=>by
         obtain ⟨a,ha,rfl⟩:=List.getElem_of_mem hj
         simp only [List.length_take] at ha
         simp only [List.getElem_take]
         have:=hpre a (by omega) (by omega)
         exact ⟨this.1,this.2.1⟩
        have hst:=zx3 l o i (by omega)
        refine zbj ?_
        refine zbn ?_
        refine zbi ?_
        refine zbm ?_
        refine AW_x rfl rfl λK hK=>?_
        simp (disch:=omega)
        repeat' first|(exfalso;omega)|(refine ⟨λ_=>?_,λ_=>?_⟩)|(refine ⟨by omega,?_⟩)|(simp (disch:=omega))|(intro _)
        all_goals (refine hK _ ?_;clear hK K)
        all_goals
         refine zbi ?_
         refine AW_x rfl rfl λK hK=>?_
         simp (disch:=omega)
         repeat' first|(exfalso;omega)|(refine zc6 (zbe zcl (zbe zcl (zbe zcl zbo))) (zkp _ _ _) rfl ?_;simp (disch:=omega))|(refine zc7 (zkp _ _ _) (by rfl) ?_ ?_;(focus (simp (disch:=omega) [zbl];done));simp (disch:=omega))|(refine zc6 (zbe zce (zbe zcl zbo)) (zhk _ (o.take i) (by simp) _ (by simp;omega)) rfl ?_;simp (disch:=omega))|(refine zc7 (zhk _ (o.take i) (by simp) _ (by simp;omega)) (by rfl) ?_ ?_;(focus (simp (disch:=omega) [zbl];done));simp (disch:=omega))|(refine zc6 (zbe zce (zbe zce (zbe zcl zbo))) (zri l _ (o.take i) (by simp) _ (by simp;omega) hpr (by omega)) rfl ?_;simp (disch:=omega))|(refine zc7 (zri l _ (o.take i) (by simp) _ (by simp;omega) hpr (by omega)) (by rfl) ?_ ?_;(focus (simp (disch:=omega) [zbl];done));simp (disch:=omega))|(refine ⟨λ_=>?_,λ_=>?_⟩)|(refine ⟨by omega,?_⟩)|(simp (disch:=omega))|(intro _)
         all_goals (refine hK _ ?_;clear hK K)
         all_goals
          refine zbh rfl (λhc3=>?_) (λhc3=>?_)
          ·try simp [zba,zbf,zbc,zbb] at hc3
           all_goals
            refine AW_x rfl rfl λK hK=>?_
            simp (disch:=omega)
            repeat' first|(exfalso;omega)|(refine ⟨λ_=>?_,λ_=>?_⟩)|(refine ⟨by omega,?_⟩)|(simp (disch:=omega))|(intro _)
            all_goals (refine hK _ ?_;clear hK K)
            all_goals
             refine zbp (zb0 [] [] (by simp [zG25,List.range_succ]) (by simp) ?_)
             simp (disch:=omega)
             all_goals first | exact zb5 λh=>hc1 (by omega) | exact zb5 λh=>((zbf _).mp (by assumption)) h.1 | exact zb4 ⟨(zba _).mp (by assumption),by omega,λj h=>hpre j (by omega) h⟩|(refine zb5 λh=>?_;have h2:=h.2.2 i hc2;clear h hst hpre hpr;simp only [List.any_eq_false] at h2;grind) | trace_state
          ·try simp [zba,zbf,zbc,zbb] at hc3
           all_goals
            refine zbj ?_
            refine zbn ?_
            have hk:o[i].toNat<l.length:=by omega
            have hcm:=zrf (l:=l) (k:=o[i]) hk
            have htm:=zrg (l:=l) (k:=o[i]) hk
            refine AW_d rfl mix (by kernel_rfl) (by kernel_rfl) λK hK=>?_
            simp (disch:=omega)
            repeat' first|(exfalso;omega)|(refine zk0 [] true [] (znk (stP l (o.take i)) l[o[i].toNat].fCmd (zx4 _ _) (hm _ hk)) ?_ (λst' hst=>?_) ?_;(focus (simp [List.range_succ,nmC];done));(focus (simp (disch:=omega) [nmC,List.range_succ] at hst;simp (disch:=omega) [hst,zbl,nmC,List.range_succ];done));simp (disch:=omega))|(refine ⟨λ_=>?_,λ_=>?_⟩)|(refine ⟨by omega,?_⟩)|(simp (disch:=omega))|(intro _)
            all_goals (refine hK _ _ (by kernel_rfl) ?_;clear hK K)
            all_goals
             refine zbi ?_
             refine AW_x rfl rfl λK hK=>?_
             simp (disch:=omega)
             repeat' first|(refine ⟨by omega,?_⟩)|(intro _)
             refine hK _ ?_;clear hK K
             refine zbh rfl (λhc4=>?_) (λhc4=>?_)
             ·try simp [zba,zbf,zbc,zbb] at hc4
              all_goals
               refine AW_x rfl rfl λK hK=>?_
               simp (disch:=omega)
               repeat' first|(exfalso;omega)|(refine ⟨λ_=>?_,λ_=>?_⟩)|(refine ⟨by omega,?_⟩)|(simp (disch:=omega))|(intro _)
               all_goals (refine hK _ ?_;clear hK K)
               all_goals
                refine zbp (zb0 [] [] (by simp [zG25,List.range_succ]) (by simp) ?_)
                simp (disch:=omega)
                all_goals first | exact zb5 λh=>hc1 (by omega) | exact zb5 λh=>((zbf _).mp (by assumption)) h.1 | exact zb4 ⟨(zba _).mp (by assumption),by omega,λj h=>hpre j (by omega) h⟩|(refine zb5 λh=>?_;have h2:=h.2.2 i hc2;clear h hst hpre hpr;simp only [List.any_eq_false] at h2;grind) | trace_state
             ·try simp [zba,zbf,zbc,zbb] at hc4
              all_goals
               refine zbj ?_
               refine zbn ?_
               refine zb3 rfl rfl λK hK=>?_
               simp (disch:=omega)
               repeat' first|(exfalso;omega)|(refine ⟨λ_=>?_,λ_=>?_⟩)|(refine ⟨by omega,?_⟩)|(simp (disch:=omega))|(intro _)
               all_goals (refine hK _ ?_;clear hK K)
               all_goals
                refine zbn ?_
                refine zb3 rfl rfl λK hK=>?_
                simp (disch:=omega)
                repeat' first|(refine ⟨by omega,?_⟩)|(intro _)
                refine hK _ ?_;clear hK K
                refine ⟨_,LeS.kx [(96,96),(500,912),(502,913)] [(0,.sl 11 (l.map DtCall.cells)),(1,.sl 1 (o.map cI)),(5,.ptr 96 0),(21,.sl 1 (o.map cI)),(22,(.g (.int .i64 ((o.length:Nat))))),(23,(.g (.int .i64 (((i+1):Nat)))))] [(96,.cells [.arr 500 0 (stP l (o.take (i+1))).fCat.fSets.length,.arr 502 0 (stP l (o.take (i+1))).fSaid.length]),(500,.own 2 ((stP l (o.take (i+1))).fCat.fSets.map DtCSet.cells)),(502,.own 3 ((stP l (o.take (i+1))).fSaid.map DtSaid.cells))] (by simp [zG25,KpR,renV2,renV,zbk];first | omega|(rw [hst,hcm];done)|(rw [hst,hcm];rfl) | trace_state) (by simp [zG25,KpOX,renO,plO,cvO,renV,pl1];first | rfl | exact ⟨rfl,rfl,rfl,rfl⟩ | exact ⟨⟨rfl,rfl⟩,rfl,rfl⟩|(rw [hst,hcm];simp;done) | trace_state) (by rfl) (by simp) (by simp) (by rfl) (by simp [formsX,List.range_succ,zbq,zby]),_,?_,i+1,rfl,?_,rfl⟩
                ·omega
                ·refine ⟨by omega,λj hj=>?_⟩
                 by_cases e:j<i
                 ·exact hpre j e
                 ·obtain rfl:j=i:=by omega
                  exact λh=>⟨by omega,by omega,by grind,by simp_all,by rw [hcm,htm];exact hc4⟩
      ·try simp [zba,zbf,zbc,zbb] at hc2
       all_goals
        have hil:i=o.length:=by omega
        refine zbx ?_
        refine zbn ?_
        refine AW_x rfl rfl λK hK=>?_
        simp (disch:=omega)
        repeat' first|(exfalso;omega)|(refine ⟨λ_=>?_,λ_=>?_⟩)|(refine ⟨by omega,?_⟩)|(simp (disch:=omega))|(intro _)
        all_goals (refine hK _ ?_;clear hK K)
        all_goals
         refine zbp (zb0 [] [] (by simp [zG25,List.range_succ]) (by simp) ?_)
         simp (disch:=omega)
         all_goals first | exact zb5 λh=>hc1 (by omega) | exact zb5 λh=>((zbf _).mp (by assumption)) h.1 | exact zb4 ⟨(zba _).mp (by assumption),by omega,λj h=>hpre j (by omega) h⟩|(refine zb5 λh=>?_;have h2:=h.2.2 i hc2;clear h hst hpre hpr;simp only [List.any_eq_false] at h2;grind) | trace_state
attribute [local simp] cB zjs
theorem specFits(l:List DtCall)(hs:szS DtCall.sz l≤1048576)(o:List Int)(ho:o.length≤1048576):XCall Try.prog 14 [.sl 11 (l.map DtCall.cells),.sl 1 (o.map cI)] [] (.g (.bool (decB (CallsP l∧o.length=l.length∧FitsQ l o)))) [] []:=by
 have ⟨hl,hm⟩:=zkr l hs
 refine zbs Try.func14 (by rfl) (by rfl) (by rw [Try.ntmps14];exact Nat.le_of_ble_eq_true rfl) rfl (by simp) rfl rfl ?_
 rw [Try.ntmps14]
 refine zf1   ?_
 refine AW_k [(0,_),(1,_)] ⟨rfl,rfl,trivial⟩ ?_
 refine AW_x rfl rfl λK hK=>?_
 simp (disch:=omega)
 repeat' first|(refine ⟨by omega,?_⟩)|(intro _)
 refine hK _ ?_;clear hK K
 refine zbi ?_
 refine AW_x rfl rfl λK hK=>?_
 simp (disch:=omega)
 repeat' first|(exfalso;omega)|(refine zc6 (zbe zce zbo) (zd6 l hs) rfl ?_;simp (disch:=omega))|(refine zc7 (zd6 l hs) (by rfl) ?_ ?_;(focus (simp (disch:=omega) [zbl];done));simp (disch:=omega))|(refine ⟨λ_=>?_,λ_=>?_⟩)|(refine ⟨by omega,?_⟩)|(simp (disch:=omega))|(intro _)
 all_goals (refine hK _ ?_;clear hK K)
 all_goals
  refine zbh rfl (λhc5=>?_) (λhc5=>?_)
  ·try simp [zba,zbf,zbc,zbb] at hc5
   all_goals
    refine AW_x rfl rfl λK hK=>?_
    simp (disch:=omega)
    repeat' first|(exfalso;omega)|(refine ⟨λ_=>?_,λ_=>?_⟩)|(refine ⟨by omega,?_⟩)|(simp (disch:=omega))|(intro _)
    all_goals (refine hK _ ?_;clear hK K)
    all_goals
     refine zbp (zb0 [] [] (by simp [zG25,List.range_succ]) (by simp) ?_)
     simp (disch:=omega)
     all_goals first | exact zb5 λh=>hc5 (by omega) | exact zb5 λh=>((zbf _).mp (by assumption)) h.1 | exact zb4 ⟨(zba _).mp (by assumption),by omega,λj h=>hpre j (by omega) h⟩ | exact zb5 λh=>(h.2.2 i hc6).2.2.1 hc7|(refine zb5 λh=>?_;have h2:=(h.2.2 i hc6).2.2.2.1 j hc8 (by assumption);rw [hlt] at h2;simp at h2;omega)|(refine zb5 λh=>?_;have h2:=h.2.2 i hc6;omega)|(refine zb5 λh=>?_;have h2:=(h.2.2 i hc6).2.2.2.2;rw [hcm,htm] at h2;contradiction) | trace_state
  ·try simp [zba,zbf,zbc,zbb] at hc5
   all_goals
    refine zbj ?_
    refine zbn ?_
    refine AW_x rfl rfl λK hK=>?_
    simp (disch:=omega)
    repeat' first|(exfalso;omega)|(refine ⟨λ_=>?_,λ_=>?_⟩)|(refine ⟨by omega,?_⟩)|(simp (disch:=omega))|(intro _)
    all_goals (refine hK _ ?_;clear hK K)
    all_goals
     refine AW_x rfl rfl λK hK=>?_
     simp (disch:=omega)
     repeat' first|(refine ⟨by omega,?_⟩)|(simp (disch:=omega))|(intro _)
     refine hK _ ?_;clear hK K
     refine zbi ?_
     refine AW_x rfl rfl λK hK=>?_
     simp (disch:=omega)
     repeat' first|(refine ⟨by omega,?_⟩)|(intro _)
     refine hK _ ?_;clear hK K
     refine zbm ?_
     refine zbv (λmM sS=>∃(i:Nat),mM=o.length-i∧(i≤o.length∧∀j,j<i→FitQ l o j)∧sS = { env:=lkE [(0,.sl 11 (l.map DtCall.cells)),(1,.sl 1 (o.map cI)),(5,.arr 501 0 l.length),(6,.ptr 112 0),(7,(.g (.int .i64 ((i:Nat)))))],ob:=lk [(112,.cells [.arr 500 0 (stP l (o.take i)).fCat.fSets.length,.arr 502 0 (stP l (o.take i)).fSaid.length]),(500,.own 2 ((stP l (o.take i)).fCat.fSets.map DtCSet.cells)),(502,.own 3 ((stP l (o.take i)).fSaid.map DtSaid.cells)),(501,.win 1 (seenL l.length (o.take i)))] }) ?_ ?_
     ·refine ⟨_,LeS.trans (LeS.znc (cs:=[.g (.slice none 0 0),.g (.slice none 0 0)]) 500 2 112 0 (by simp [zG25,zbk]) (by simp [zG25,zbk,zc0]) (by rfl)) (LeS.trans (LeS.znc (cs:=[.arr 500 0 0,.g (.slice none 0 0)]) 502 3 112 1 (by simp [zG25,zbk]) (by simp [zG25,zbk,zc0]) (by rfl)) (LeS.kx [(112,112),(500,500),(502,502),(501,400)] [(0,.sl 11 (l.map DtCall.cells)),(1,.sl 1 (o.map cI)),(5,.arr 501 0 l.length),(6,.ptr 112 0),(7,(.g (.int .i64 (((0):Nat)))))] [(112,.cells [.arr 500 0 (stP l (o.take (0))).fCat.fSets.length,.arr 502 0 (stP l (o.take (0))).fSaid.length]),(500,.own 2 ((stP l (o.take (0))).fCat.fSets.map DtCSet.cells)),(502,.own 3 ((stP l (o.take (0))).fSaid.map DtSaid.cells)),(501,.win 1 (seenL l.length (o.take (0))))] (by simp [zG25,KpR,renV2,renV,zbk,zc0];first | omega|(rw [hst,hcm];done)|(rw [hst,hcm];rfl) | trace_state) (by simp [zG25,KpOX,renO,plO,cvO,renV,pl1,zc0];first | rfl | exact ⟨rfl,rfl,rfl,rfl,znl _⟩|(rw [hst,hcm];simp;done) | trace_state) (by rfl) (by simp) (by simp) (by rfl) (by simp [formsX,List.range_succ,zbq,zby]))),_,0,rfl,?_,rfl⟩
      ·simp
     ·rintro mM sS ⟨i,rfl,⟨hi,hpre⟩,rfl⟩
      refine zbi ?_
      refine AW_x rfl rfl λK hK=>?_
      simp (disch:=omega)
      repeat' first|(refine ⟨by omega,?_⟩)|(simp (disch:=omega))|(intro _)
      refine hK _ ?_;clear hK K
      refine zbh rfl (λhc6=>?_) (λhc6=>?_)
      ·try simp [zba,zbf,zbc,zbb] at hc6
       all_goals
        have hg:o[i]? = some o[i]:=List.getElem?_eq_getElem (by omega)
        have hst:=zx3 l o i (by omega)
        have hsk:∀z:Int,0≤z→z<(l.length:Int)→(seenL l.length (o.take i))[z.toNat]? = some (cB (decide (z∈o.take i))):=λz h0 h1=>by
         rw [zlt _ _ _ (by omega),show ((z.toNat:Nat):Int)=z by omega]
        have hts:o.take (i+1)=o.take i++[o[i]]:=List.take_succ_eq_append_getElem (by omega)
        refine zbj ?_
        refine zbn ?_
        refine zbi ?_
        refine zbm ?_
        refine AW_x rfl rfl λK hK=>?_
        simp (disch:=omega) [hsk]
        repeat' first|(exfalso;omega)|(refine ⟨λ_=>?_,λ_=>?_⟩)|(refine ⟨by omega,?_⟩)|(simp (disch:=omega) [hsk])|(intro _)
        all_goals (refine hK _ ?_;clear hK K)
        all_goals
         refine zbi ?_
         refine AW_x rfl rfl λK hK=>?_
         simp (disch:=omega) [hsk]
         repeat' first|(exfalso;omega)|(refine ⟨λ_=>?_,λ_=>?_⟩)|(refine ⟨by omega,?_⟩)|(simp (disch:=omega) [hsk])|(intro _)
         all_goals (refine hK _ ?_;clear hK K)
         all_goals
          refine zbh rfl (λhc7=>?_) (λhc7=>?_)
          ·try simp [zba,zbf,zbc,zbb] at hc7
           all_goals
            refine AW_x rfl rfl λK hK=>?_
            simp (disch:=omega) [hsk]
            repeat' first|(exfalso;omega)|(refine ⟨λ_=>?_,λ_=>?_⟩)|(refine ⟨by omega,?_⟩)|(simp (disch:=omega) [hsk])|(intro _)
            all_goals (refine hK _ ?_;clear hK K)
            all_goals
             refine zbp (zb0 [] [] (by simp [zG25,List.range_succ]) (by simp) ?_)
             simp (disch:=omega) [hsk]
             all_goals first | exact zb5 λh=>hc5 (by omega) | exact zb5 λh=>((zbf _).mp (by assumption)) h.1 | exact zb4 ⟨(zba _).mp (by assumption),by omega,λj h=>hpre j (by omega) h⟩ | exact zb5 λh=>(h.2.2 i hc6).2.2.1 hc7|(refine zb5 λh=>?_;have h2:=(h.2.2 i hc6).2.2.2.1 j hc8 (by assumption);rw [hlt] at h2;simp at h2;omega)|(refine zb5 λh=>?_;have h2:=h.2.2 i hc6;omega)|(refine zb5 λh=>?_;have h2:=(h.2.2 i hc6).2.2.2.2;rw [hcm,htm] at h2;contradiction) | trace_state
          ·try simp [zba,zbf,zbc,zbb] at hc7
           all_goals
            refine zbj ?_
            refine zbn ?_
            have hk:o[i].toNat<l.length:=by omega
            have hcm:=zrf (l:=l) (k:=o[i]) hk
            have htm:=zrg (l:=l) (k:=o[i]) hk
            refine AW_x rfl rfl λK hK=>?_
            simp (disch:=omega) [hsk]
            repeat' first|(exfalso;omega)|(refine ⟨λ_=>?_,λ_=>?_⟩)|(refine ⟨by omega,?_⟩)|(simp (disch:=omega) [hsk])|(intro _)
            all_goals (refine hK _ ?_;clear hK K)
            all_goals
             refine zbi ?_
             refine AW_x rfl rfl λK hK=>?_
             simp (disch:=omega) [hsk]
             repeat' first|(refine ⟨by omega,?_⟩)|(intro _)
             refine hK _ ?_;clear hK K
             refine zbm ?_
             refine zbv (λmM sS=>∃(j:Nat),mM=l.length-j∧(j≤l.length∧∀m:Nat,m<j→(m:Int)∉o.take (i+1)→lateB l m o[i]=false)∧sS = { env:=lkE [(0,.sl 11 (l.map DtCall.cells)),(1,.sl 1 (o.map cI)),(5,.arr 501 0 l.length),(6,.ptr 112 0),(7,(.g (.int .i64 ((i:Nat))))),(8,(.g (.int .i64 (o[i])))),(9,(.g (.int .i64 ((j:Nat)))))],ob:=lk [(112,.cells [.arr 500 0 (stP l (o.take i)).fCat.fSets.length,.arr 502 0 (stP l (o.take i)).fSaid.length]),(500,.own 2 ((stP l (o.take i)).fCat.fSets.map DtCSet.cells)),(502,.own 3 ((stP l (o.take i)).fSaid.map DtSaid.cells)),(501,.win 1 (seenL l.length (o.take (i+1))))] }) ?_ ?_
             ·refine ⟨_,LeS.kx [(112,112),(500,500),(502,502),(501,501)] [(0,.sl 11 (l.map DtCall.cells)),(1,.sl 1 (o.map cI)),(5,.arr 501 0 l.length),(6,.ptr 112 0),(7,(.g (.int .i64 ((i:Nat))))),(8,(.g (.int .i64 (o[i])))),(9,(.g (.int .i64 (((0):Nat)))))] [(112,.cells [.arr 500 0 (stP l (o.take i)).fCat.fSets.length,.arr 502 0 (stP l (o.take i)).fSaid.length]),(500,.own 2 ((stP l (o.take i)).fCat.fSets.map DtCSet.cells)),(502,.own 3 ((stP l (o.take i)).fSaid.map DtSaid.cells)),(501,.win 1 (seenL l.length (o.take (i+1))))] (by simp [zG25,KpR,renV2,renV,zbk,zc0];try rfl) (by simp [zG25,KpOX,renO,plO,cvO,renV,pl1,zc0];first | rfl|(rw [hts];exact znm _ _ _ (by omega)) | trace_state) (by rfl) (by simp) (by simp) (by rfl) (by simp [formsX,List.range_succ,zbq,zby]),_,0,rfl,?_,rfl⟩
              ·exact ⟨by omega,λm hm=>by omega⟩
             ·rintro mM sS ⟨j,rfl,⟨hj,hpj⟩,rfl⟩
              refine zbi ?_
              refine AW_x rfl rfl λK hK=>?_
              simp (disch:=omega) [hsk]
              repeat' first|(refine ⟨by omega,?_⟩)|(simp (disch:=omega) [hsk])|(intro _)
              refine hK _ ?_;clear hK K
              refine zbh rfl (λhc8=>?_) (λhc8=>?_)
              ·try simp [zba,zbf,zbc,zbb] at hc8
               all_goals
                have hgj:l[j]? = some l[j]:=List.getElem?_eq_getElem (by omega)
                have hlt:=zls (l:=l) (k:=(j:Int)) (j:=o[i]) (by omega) hk
                simp only [Int.toNat_natCast] at hlt
                have hsj:=zlt l.length (o.take (i+1)) j (by omega)
                refine zbj ?_
                refine zbn ?_
                refine zbi ?_
                refine zbm ?_
                refine AW_d rfl mix (by kernel_rfl) (by kernel_rfl) λK hK=>?_
                simp (disch:=omega) [hsk,hsj]
                repeat' first|(exfalso;omega)|(refine ⟨λ_=>?_,λ_=>?_⟩)|(refine ⟨by omega,?_⟩)|(simp (disch:=omega) [hsk,hsj])|(intro _)
                all_goals (refine hK _ _ (by kernel_rfl) ?_;clear hK K)
                all_goals
                 refine zbh rfl (λhc9=>?_) (λhc9=>?_)
                 ·try simp [zba,zbf,zbc,zbb] at hc9
                  all_goals
                   refine AW_x rfl rfl λK hK=>?_
                   simp (disch:=omega) [hsk,hsj]
                   repeat' first|(exfalso;omega)|(refine ⟨λ_=>?_,λ_=>?_⟩)|(refine ⟨by omega,?_⟩)|(simp (disch:=omega) [hsk,hsj])|(intro _)
                   all_goals (refine hK _ ?_;clear hK K)
                   all_goals
                    refine zbp (zb0 [] [] (by simp [zG25,List.range_succ]) (by simp) ?_)
                    simp (disch:=omega) [hsk,hsj]
                    all_goals first | exact zb5 λh=>hc5 (by omega) | exact zb5 λh=>((zbf _).mp (by assumption)) h.1 | exact zb4 ⟨(zba _).mp (by assumption),by omega,λj h=>hpre j (by omega) h⟩ | exact zb5 λh=>(h.2.2 i hc6).2.2.1 hc7|(refine zb5 λh=>?_;have h2:=(h.2.2 i hc6).2.2.2.1 j hc8 (by assumption);rw [hlt] at h2;simp at h2;omega)|(refine zb5 λh=>?_;have h2:=h.2.2 i hc6;omega)|(refine zb5 λh=>?_;have h2:=(h.2.2 i hc6).2.2.2.2;rw [hcm,htm] at h2;contradiction) | trace_state
                 ·try simp [zba,zbf,zbc,zbb] at hc9
                  all_goals
                   refine zbj ?_
                   refine zbn ?_
                   refine zb3 rfl rfl λK hK=>?_
                   simp (disch:=omega) [hsk,hsj]
                   repeat' first|(exfalso;omega)|(refine ⟨λ_=>?_,λ_=>?_⟩)|(refine ⟨by omega,?_⟩)|(simp (disch:=omega) [hsk,hsj])|(intro _)
                   all_goals (refine hK _ ?_;clear hK K)
                   all_goals
                    refine ⟨_,LeS.kx [(112,112),(500,500),(502,502),(501,501)] [(0,.sl 11 (l.map DtCall.cells)),(1,.sl 1 (o.map cI)),(5,.arr 501 0 l.length),(6,.ptr 112 0),(7,(.g (.int .i64 ((i:Nat))))),(8,(.g (.int .i64 (o[i])))),(9,(.g (.int .i64 (((j+1):Nat)))))] [(112,.cells [.arr 500 0 (stP l (o.take i)).fCat.fSets.length,.arr 502 0 (stP l (o.take i)).fSaid.length]),(500,.own 2 ((stP l (o.take i)).fCat.fSets.map DtCSet.cells)),(502,.own 3 ((stP l (o.take i)).fSaid.map DtSaid.cells)),(501,.win 1 (seenL l.length (o.take (i+1))))] (by simp [zG25,KpR,renV2,renV,zbk,zc0];try rfl) (by simp [zG25,KpOX,renO,plO,cvO,renV,pl1,zc0];first | rfl|(rw [hts];exact znm _ _ _ (by omega)) | trace_state) (by rfl) (by simp) (by simp) (by rfl) (by simp [formsX,List.range_succ,zbq,zby]),_,?_,j+1,rfl,?_,rfl⟩
                    ·omega
                    ·refine ⟨by omega,λm hm hn=>?_⟩
                     by_cases e:m<j
                     ·exact hpj m e hn
                     ·obtain rfl:m=j:=by omega
                      first|(rw [hlt];exact decide_eq_false (by omega)) | exact absurd (by assumption) hn | trace_state
              ·try simp [zba,zbf,zbc,zbb] at hc8
               all_goals
                refine zbx ?_
                refine zbn ?_
                refine AW_d rfl mix (by kernel_rfl) (by kernel_rfl) λK hK=>?_
                simp (disch:=omega) [hsk]
                repeat' first|(exfalso;omega)|(refine zk0 [] true [] (zh7 (stP l (o.take i)) l[o[i].toNat].fCmd (zx4 _ _) (hm _ hk)) ?_ (λst' hst=>?_) ?_;(focus (simp [List.range_succ,nmC];done));(focus (simp (disch:=omega) [hsk,nmC,List.range_succ] at hst;simp (disch:=omega) [hsk,hst,zbl,nmC,List.range_succ];done));simp (disch:=omega) [hsk])|(refine ⟨λ_=>?_,λ_=>?_⟩)|(refine ⟨by omega,?_⟩)|(simp (disch:=omega) [hsk])|(intro _)
                all_goals (refine hK _ _ (by kernel_rfl) ?_;clear hK K)
                all_goals
                 refine zbi ?_
                 refine AW_x rfl rfl λK hK=>?_
                 simp (disch:=omega) [hsk]
                 repeat' first|(refine ⟨by omega,?_⟩)|(intro _)
                 refine hK _ ?_;clear hK K
                 refine zbh rfl (λhc10=>?_) (λhc10=>?_)
                 ·try simp [zba,zbf,zbc,zbb] at hc10
                  all_goals
                   refine AW_x rfl rfl λK hK=>?_
                   simp (disch:=omega) [hsk]
                   repeat' first|(exfalso;omega)|(refine ⟨λ_=>?_,λ_=>?_⟩)|(refine ⟨by omega,?_⟩)|(simp (disch:=omega) [hsk])|(intro _)
                   all_goals (refine hK _ ?_;clear hK K)
                   all_goals
                    refine zbp (zb0 [] [] (by simp [zG25,List.range_succ]) (by simp) ?_)
                    simp (disch:=omega) [hsk]
                    all_goals first | exact zb5 λh=>hc5 (by omega) | exact zb5 λh=>((zbf _).mp (by assumption)) h.1 | exact zb4 ⟨(zba _).mp (by assumption),by omega,λj h=>hpre j (by omega) h⟩ | exact zb5 λh=>(h.2.2 i hc6).2.2.1 hc7|(refine zb5 λh=>?_;have h2:=(h.2.2 i hc6).2.2.2.1 j hc8 (by assumption);rw [hlt] at h2;simp at h2;omega)|(refine zb5 λh=>?_;have h2:=h.2.2 i hc6;omega)|(refine zb5 λh=>?_;have h2:=(h.2.2 i hc6).2.2.2.2;rw [hcm,htm] at h2;contradiction) | trace_state
                 ·try simp [zba,zbf,zbc,zbb] at hc10
                  all_goals
                   refine zbj ?_
                   refine zbn ?_
                   refine zb3 rfl rfl λK hK=>?_
                   simp (disch:=omega) [hsk]
                   repeat' first|(exfalso;omega)|(refine ⟨λ_=>?_,λ_=>?_⟩)|(refine ⟨by omega,?_⟩)|(simp (disch:=omega) [hsk])|(intro _)
                   all_goals (refine hK _ ?_;clear hK K)
                   all_goals
                    refine zbn ?_
                    refine zb3 rfl rfl λK hK=>?_
                    simp (disch:=omega) [hsk]
                    repeat' first|(refine ⟨by omega,?_⟩)|(intro _)
                    refine hK _ ?_;clear hK K
                    refine ⟨_,LeS.kx [(112,112),(500,1360),(502,1361),(501,501)] [(0,.sl 11 (l.map DtCall.cells)),(1,.sl 1 (o.map cI)),(5,.arr 501 0 l.length),(6,.ptr 112 0),(7,(.g (.int .i64 (((i+1):Nat)))))] [(112,.cells [.arr 500 0 (stP l (o.take (i+1))).fCat.fSets.length,.arr 502 0 (stP l (o.take (i+1))).fSaid.length]),(500,.own 2 ((stP l (o.take (i+1))).fCat.fSets.map DtCSet.cells)),(502,.own 3 ((stP l (o.take (i+1))).fSaid.map DtSaid.cells)),(501,.win 1 (seenL l.length (o.take (i+1))))] (by simp [zG25,KpR,renV2,renV,zbk,zc0];first | omega|(rw [hst,hcm];done)|(rw [hst,hcm];rfl) | trace_state) (by simp [zG25,KpOX,renO,plO,cvO,renV,pl1,zc0];first | rfl | exact ⟨rfl,rfl,rfl,rfl,znl _⟩|(rw [hst,hcm];simp;done) | trace_state) (by rfl) (by simp) (by simp) (by rfl) (by simp [formsX,List.range_succ,zbq,zby]),_,?_,i+1,rfl,?_,rfl⟩
                    ·omega
                    ·refine ⟨by omega,λa ha=>?_⟩
                     by_cases e:a<i
                     ·exact hpre a e
                     ·obtain rfl:a=i:=by omega
                      exact λh=>⟨by omega,by omega,hc7,λm hm hn=>hpj m (by omega) hn,by rw [hcm,htm];assumption⟩
      ·try simp [zba,zbf,zbc,zbb] at hc6
       all_goals
        have hil:i=o.length:=by omega
        refine zbx ?_
        refine zbn ?_
        refine AW_x rfl rfl λK hK=>?_
        simp (disch:=omega)
        repeat' first|(exfalso;omega)|(refine ⟨λ_=>?_,λ_=>?_⟩)|(refine ⟨by omega,?_⟩)|(simp (disch:=omega))|(intro _)
        all_goals (refine hK _ ?_;clear hK K)
        all_goals
         refine zbp (zb0 [] [] (by simp [zG25,List.range_succ]) (by simp) ?_)
         simp (disch:=omega)
         all_goals first | exact zb5 λh=>hc5 (by omega) | exact zb5 λh=>((zbf _).mp (by assumption)) h.1 | exact zb4 ⟨(zba _).mp (by assumption),by omega,λj h=>hpre j (by omega) h⟩ | exact zb5 λh=>(h.2.2 i hc6).2.2.1 hc7|(refine zb5 λh=>?_;have h2:=(h.2.2 i hc6).2.2.2.1 j hc8 (by assumption);rw [hlt] at h2;simp at h2;omega)|(refine zb5 λh=>?_;have h2:=h.2.2 i hc6;omega)|(refine zb5 λh=>?_;have h2:=(h.2.2 i hc6).2.2.2.2;rw [hcm,htm] at h2;contradiction) | trace_state
end Go.Proofs.Ytodmafgmdlkhoaa.Vs
end
section
namespace Go.Proofs.Ytodmafgmdlkhoaa.Vs
set_option linter.all false
/-! the least order that fits -/
/-- One step of the program's search. -/
noncomputable def fitC(l:List DtCall)(p:List Int)(V:Nat→Option (List Int))(k:Nat):Option (List Int):=if (k:Int)∈p∨p.any (lateB l k)=true∨¬stR (stP l p) (cmdA l k)=txtA l k then none else V k
noncomputable def resF(l:List DtCall)(p:List Int)(V:Nat→Option (List Int)):Option (List Int):=if p.length=l.length then some p else (List.range l.length).findSome? (fitC l p V)
noncomputable def fitI(l:List DtCall):Nat→List Int→Option (List Int)
 | 0,p=>resF l p λ_=>none
 | d+1,p=>resF l p λk=>fitI l d (p++[(k:Int)])
/-- One step of the reference's search. -/
def MayP'(l:List DtCall)(p:List Int)(k:Nat):Prop:=∀j:Nat,j<l.length→(j:Int)∈p∨j=k∨lateB l j k=false
noncomputable def fndC(l:List DtCall)(p:List Int)(V:Nat→Option (List Int))(k:Nat):Option (List Int):=if (k:Int)∈p∨decB (MayP' l p k)=false∨¬stR (stP l p) (cmdA l k)=txtA l k then none else (V k).map ((k:Int) :: ·)
noncomputable def allS(l:List DtCall)(p:List Int):Bool:=decB (∀k:Nat,k<l.length→(k:Int)∈p)
noncomputable def resV(l:List DtCall)(p:List Int)(V:Nat→Option (List Int)):Option (List Int):=match (List.range l.length).findSome? (fndC l p V) with
 | some r=>some r
 | none=>if allS l p=true then some [] else none
noncomputable def fndI(l:List DtCall):Nat→List Int→Option (List Int)
 | 0,p=>resV l p λ_=>none
 | d+1,p=>resV l p λk=>fndI l d (p++[(k:Int)])
theorem zpu{α:Type}{f:Nat→Option α}{n k:Nat}(hk:k<n){r:α}(h:f k=some r)(hb:∀j,j<k→f j=none):(List.range n).findSome? f=some r:=by
 induction n with
 | zero=>omega
 | succ n ih =>
  rw [List.range_succ,List.findSome?_append]
  by_cases e:k<n
  ·rw [ih e];rfl
  ·obtain rfl:k=n:=by omega
   have:(List.range k).findSome? f=none:=by
    rw [List.findSome?_eq_none_iff]
    intro x hx
    exact hb x (List.mem_range.1 hx)
   rw [this]
   simp [h]
theorem zno{α:Type}{f:Nat→Option α}{n:Nat}(hb:∀j,j<n→f j=none):(List.range n).findSome? f=none:=by
 rw [List.findSome?_eq_none_iff]
 intro x hx
 exact hb x (List.mem_range.1 hx)
theorem ztn{α:Type}{f:Nat→Option α}{n:Nat}{r:α}(h:(List.range n).findSome? f=some r):∃k,k<n∧f k=some r:=by
 obtain ⟨k,hk,e⟩:=List.exists_of_findSome?_eq_some h
 exact ⟨k,List.mem_range.1 hk,e⟩
theorem find_map{α β:Type}{f:Nat→Option α}{g:Nat→Option β}{m:β→α}{n:Nat}(h:∀k,k<n→f k=(g k).map m):(List.range n).findSome? f=((List.range n).findSome? g).map m:=by
 induction n with
 | zero=>rfl
 | succ n ih =>
  rw [List.range_succ,List.findSome?_append,List.findSome?_append,ih λk hk=>h k (by omega)]
  cases (List.range n).findSome? g with
  | some x=>rfl
  | none=>simp [h n (by omega)]
/-- What the search finds goes on with what it began with, and fits from there on. -/
theorem fitI_ok(l:List DtCall):∀(d:Nat) (q o:List Int),fitI l d q=some o→(∃r,o=q++r)∧o.length=l.length∧∀i,q.length≤i→FitP l o i:=by
 have key:∀(q o:List Int) (V:Nat→Option (List Int)),resF l q V=some o→(∀k o,V k=some o→(∃r,o=(q++[(k:Int)])++r)∧o.length=l.length∧∀i,q.length+1≤i→FitP l o i)→(∃r,o=q++r)∧o.length=l.length∧∀i,q.length≤i→FitP l o i:=by
  intro q o V h hV
  unfold resF at h
  by_cases e:q.length=l.length
  ·rw [if_pos e] at h
   cases h
   exact ⟨⟨[],by simp⟩,e,λi hi h=>by omega⟩
  ·rw [if_neg e] at h
   obtain ⟨k,hk,h⟩:=ztn h
   unfold fitC at h
   split at h
   ·cases h
   ·rename_i hc
    obtain ⟨⟨r,hr⟩,h2,h3⟩:=hV k o h
    refine ⟨⟨[(k:Int)]++r,by rw [hr,List.append_assoc]⟩,h2,λi hi=>?_⟩
    by_cases hi2:q.length+1≤i
    ·exact h3 i hi2
    ·obtain rfl:i=q.length:=by omega
     intro hlt
     have e1:o[q.length]=(k:Int):=by subst hr;simp
     have e2:o.take q.length=q:=by subst hr;simp
     simp only [e1,e2]
     have hc':=not_or.1 hc
     have hc2:=not_or.1 hc'.2
     exact ⟨by omega,by omega,hc'.1,by simpa using hc2.1,Classical.not_not.1 hc2.2⟩
 intro d
 induction d with
 | zero=>intro q o h;exact key q o _ h λk o h=>by cases h
 | succ d ih =>
  intro q o h
  refine key q o _ h λk o h=>?_
  have:=ih _ _ h
  simpa using this
def GoodO(l:List DtCall)(p:List Int):Prop:=∀i,FitQ l p i
theorem good_nil(l:List DtCall):GoodO l []:=λi h=>by simp at h
theorem good_snoc{l:List DtCall}{p:List Int}(h:GoodO l p){k:Nat}(hk:k<l.length)(h1:(k:Int)∉p)(h2:MayP' l p k)(h3:stR (stP l p) (cmdA l k)=txtA l k):GoodO l (p++[(k:Int)]):=by
 intro i hi
 by_cases e:i<p.length
 ·have e1:(p++[(k:Int)])[i]=p[i]:=List.getElem_append_left e
  have e2:(p++[(k:Int)]).take i=p.take i:=List.take_append_of_le_length (by omega)
  have e3:(p++[(k:Int)]).take (i+1)=p.take (i+1):=List.take_append_of_le_length (by omega)
  have:=h i e
  simp only [e1,e2,e3]
  exact this
 ·obtain rfl:i=p.length:=by simp at hi;omega
  have e1:(p++[(k:Int)])[p.length]=(k:Int):=by simp
  have e2:(p++[(k:Int)]).take p.length=p:=by simp
  have e3:(p++[(k:Int)]).take (p.length+1)=p++[(k:Int)]:=List.take_of_length_le (by simp)
  simp only [e1,e2,e3]
  refine ⟨by omega,by omega,h1,λj hj hn=>?_,h3⟩
  simp only [List.mem_append,List.mem_singleton,not_or] at hn
  rcases h2 j hj with h | h | h
  ·exact absurd h hn.1
  ·exact absurd (by omega) hn.2
  ·exact h
theorem good_nd{l:List DtCall}{p:List Int}(h:GoodO l p):p.Nodup:=zkg λi hi=>(h i hi).2.2.1
theorem zrj{l:List DtCall}{p:List Int}(h:GoodO l p):∀x∈p,0≤x∧x<(l.length:Int):=λx hx=>by
 obtain ⟨a,ha,rfl⟩:=List.getElem_of_mem hx
 exact ⟨(h a ha).1,(h a ha).2.1⟩
theorem good_late{l:List DtCall}{p:List Int}(h:GoodO l p){k:Nat}(hk:k<l.length)(hn:(k:Int)∉p):p.any (lateB l k)=false:=by
 rw [List.any_eq_false]
 intro x hx
 obtain ⟨a,ha,rfl⟩:=List.getElem_of_mem hx
 have:=(h a ha).2.2.2.1 k hk λhm=>hn (List.mem_of_mem_take hm)
 simp [this]
theorem not_all{l:List DtCall}{p:List Int}(hl:p.length<l.length):∃k:Nat,k<l.length∧(k:Int)∉p:=by
 refine Classical.byContradiction λhc=>?_
 have h:∀k:Nat,k<l.length→(k:Int)∈p:=λk hk=>Classical.byContradiction λhn=>hc ⟨k,hk,hn⟩
 have:=nd_len (List.range l.length) (p.map Int.toNat) List.nodup_range λx hx=>List.mem_map.2 ⟨x,h x (List.mem_range.1 hx),by simp⟩
 simp at this
 omega
theorem fit_fnd(l:List DtCall):∀(d:Nat) (p:List Int),GoodO l p→l.length=p.length+d→fitI l d p=(fndI l d p).map (p ++ ·):=by
 intro d
 induction d with
 | zero =>
  intro p hg hl
  have hall:∀k:Nat,k<l.length→(k:Int)∈p:=λk hk=>ztm (good_nd hg) (zrj hg) (by omega) k hk
  have h1:(List.range l.length).findSome? (fndC l p λ_=>none)=none:=zno λj hj=>by unfold fndC;rw [if_pos (.inl (hall j hj))]
  have h2:fndI l 0 p=some []:=by
   show resV l p _=_
   unfold resV
   rw [h1]
   simp only
   rw [if_pos (show allS l p=true from zb4 hall)]
  have h3:fitI l 0 p=some p:=by
   show resF l p _=_
   unfold resF
   rw [if_pos (by omega)]
  rw [h2,h3];simp
 | succ d ih =>
  intro p hg hl
  obtain ⟨k0,hk0,hn0⟩:=not_all (l:=l) (p:=p) (by omega)
  have h3:fitI l (d+1) p=(List.range l.length).findSome? (fitC l p λk=>fitI l d (p++[(k:Int)])):=by
   show resF l p _=_
   unfold resF
   rw [if_neg (by omega)]
  have h2:fndI l (d+1) p=(List.range l.length).findSome? (fndC l p λk=>fndI l d (p++[(k:Int)])):=by
   show resV l p _=_
   unfold resV
   have ha:¬allS l p=true:=by unfold allS;rw [zba];exact λh=>hn0 (h k0 hk0)
   split
   ·rename_i h;rw [h]
   ·rename_i h;rw [h,if_neg ha]
  rw [h2,h3]
  refine find_map λk hk=>?_
  unfold fitC fndC
  dsimp only
  by_cases h1:(k:Int)∈p
  ·rw [if_pos (.inl h1),if_pos (.inl h1)];rfl
  ·have hla:=good_late hg hk h1
   by_cases ht:stR (stP l p) (cmdA l k)=txtA l k
   ·by_cases hm:MayP' l p k
    ·have e:=ih (p++[(k:Int)]) (good_snoc hg hk h1 hm ht) (by simp;omega)
     rw [if_neg (by simp [h1,hla,ht]),if_neg (by simp [h1,ht,zbf];exact hm),e,Option.map_map]
     cases fndI l d (p++[(k:Int)]) with
     | none=>rfl
     | some r=>simp
    ·rw [if_neg (by simp [h1,hla,ht]),if_pos (.inr (.inl (zb5 hm)))]
     cases hf:fitI l d (p++[(k:Int)]) with
     | none=>rfl
     | some o =>
      exfalso
      obtain ⟨⟨r,hr⟩,ho,hP⟩:=fitI_ok l d _ _ hf
      apply hm
      intro j hj
      refine Classical.byContradiction λhc=>?_
      simp only [not_or] at hc
      obtain ⟨c1,c2,c3⟩:=hc
      have hnd:o.Nodup:=zkg λi hi hm2=>by
       by_cases e:(p++[(k:Int)]).length≤i
       ·exact (hP i e hi).2.2.1 hm2
       ·have e1:o.take i=(p++[(k:Int)]).take i:=by subst hr;rw [List.take_append_of_le_length (by omega)]
        have e2:o[i]=(p++[(k:Int)])[i]'(by omega):=by subst hr;rw [List.getElem_append_left]
        rw [e1,e2] at hm2
        by_cases e3:i<p.length
        ·rw [List.take_append_of_le_length (by omega),List.getElem_append_left e3] at hm2
         exact (hg i e3).2.2.1 hm2
        ·obtain rfl:i=p.length:=by simp at e;omega
         simp at hm2
         exact h1 hm2
      have hrg:∀x∈o,0≤x∧x<(l.length:Int):=λx hx=>by
       obtain ⟨i,hi,rfl⟩:=List.getElem_of_mem hx
       by_cases e:(p++[(k:Int)]).length≤i
       ·exact ⟨(hP i e hi).1,(hP i e hi).2.1⟩
       ·have e2:o[i]=(p++[(k:Int)])[i]'(by omega):=by subst hr;rw [List.getElem_append_left]
        rw [e2]
        have:=List.getElem_mem (l:=p++[(k:Int)]) (n:=i) (by omega)
        rcases List.mem_append.1 this with hx | hx
        ·exact zrj hg _ hx
        ·rw [List.mem_singleton.1 hx];omega
      obtain ⟨i,hi,e⟩:=List.getElem_of_mem (ztm hnd hrg ho j hj)
      have hil:(p++[(k:Int)]).length≤i:=by
       refine Nat.le_of_not_lt λhil=>?_
       have e2:o[i]=(p++[(k:Int)])[i]'hil:=by subst hr;rw [List.getElem_append_left]
       have:=List.getElem_mem (l:=p++[(k:Int)]) hil
       rw [←e2,e] at this
       rcases List.mem_append.1 this with hx | hx
       ·exact c1 hx
       ·have:=List.mem_singleton.1 hx
        omega
      have h6:=(hP i hil hi).2.2.2.1
      rw [List.any_eq_false] at h6
      have hkm:(k:Int)∈o.take i:=by
       have hpl:p.length<i:=by simp at hil;omega
       refine List.mem_iff_getElem.2 ⟨p.length,by simp;omega,?_⟩
       simp only [List.getElem_take]
       subst hr
       simp
      have:=h6 _ hkm
      rw [e] at this
      simp at this
      exact c3 this
   ·rw [if_pos (.inr (.inr ht)),if_pos (.inr (.inr ht))];rfl
theorem zx6(l:List DtCall):fitI l l.length []=fndI l l.length []:=by
 rw [fit_fnd l l.length [] (good_nil l) (by simp)]
 cases fndI l l.length []<;>simp
end Go.Proofs.Ytodmafgmdlkhoaa.Vs
end
