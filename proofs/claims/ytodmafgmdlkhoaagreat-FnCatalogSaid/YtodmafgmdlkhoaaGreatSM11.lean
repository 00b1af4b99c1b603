import Derived.Test.YtodmafgmdlkhoaaGreatSM10
section
namespace Go.Proofs.YtodmafgmdlkhoaaGreat.Vs
set_option linter.all false
set_option maxRecDepth 100000
set_option maxHeartbeats 2000000
/-- A drawn command, and the place behind it. -/
def cmF(l:List Int)(c:Cur):DtCmd × Cur :=
 if below l 12 c=0 then (⟨0,0,0,[],[],[],0,[]⟩,belowS l 12 c)
 else if below l 8 (cA l c)=0 then
  if below l 6 (belowS l 8 (cA l c))=0 then (setKind (xA l c) (pickZ [-1,0,8,3] (below l 4 (cE l c))),belowS l 4 (cE l c))
  else if below l 6 (belowS l 8 (cA l c))=1 then (setClient (xA l c) (pickZ [0,9,10] (below l 3 (cE l c))),belowS l 3 (cE l c))
  else if below l 6 (belowS l 8 (cA l c))=2 then (setNo (xA l c) (pickZ [0,1000,1001] (below l 3 (cE l c))),belowS l 3 (cE l c))
  else if below l 6 (belowS l 8 (cA l c))=3 then (setSet (xA l c) (([[],[65],[97,98,99,100,101,102,103,104],[97,98,99,100,101,102,103,104,105]]:List (List UInt8)).getD (below l 4 (cE l c)).toNat []),belowS l 4 (cE l c))
  else if below l 6 (belowS l 8 (cA l c))=4 then (setN (xA l c) (pickZ [-1,9,10] (below l 3 (cE l c))),belowS l 3 (cE l c))
  else (addCh (xA l c) (strN (TXT l 9 (cE l c)).1),(TXT l 9 (cE l c)).2)
 else (xA l c,belowS l 8 (cA l c))
attribute [local simp] cmdO
def CmdX(l:List Int)(c:Cur)(r:AV)(wos' fos:List OB):Prop:=r=.agg (cmdO (cmF l c).1 16)∧wos'=[.cells (curC l (cmF l c).2)]∧fos=[.own 1 ((cmF l c).1.fChunks.map cS)]
def zG31:=And.intro @zcf (And.intro @gE (And.intro @tP (And.intro @and_assoc (And.intro @List.range_succ (And.intro @zbo (And.intro @zc3 (And.intro @zbf @zbn)))))))
def zG32:=And.intro @zbr (And.intro @zby @zb0)
theorem l4CmdE(l:List Int)(hl:Code l)(c:Cur):XCallE Tryz.prog 50 [.ptr 8 0] [.cells (curC l c)] 1 (λr w f=>CmdX l c r w f∧CmdF (cmF l c).1):=by
 refine zff Tryz.func50 (by rfl) (by rfl) (by rw [Tryz.ntmps50];exact Nat.le_of_ble_eq_true rfl) (by simp) rfl ?_
 rw [Tryz.ntmps50]
 refine zhs (.cells (curC l c)) (by simp [cvO]<;>assumption) ?_
 refine AW_k [(0,_)] ⟨rfl,trivial⟩ ?_
 refine AW_x rfl rfl λK hK=>?_
 simp (disch:=omega) [zG31,cI,cS,cU,DtCmd.cells,cmdO,zb8,-aAppZ]
 repeat' first|(refine ⟨by omega,?_⟩)|(intro _)
 refine hK _ ?_;clear hK K
 refine zbh ?_
 refine AW_x rfl rfl λK hK=>?_
 simp (disch:=omega) [zG31,cI,cS,cU,DtCmd.cells,cmdO,zb8,-aAppZ]
 repeat' first|(exfalso;omega)|(refine zcw (λ_=>xs_p (xs_g xs_z)) (zkc l hl _ _) rfl rfl ?_;simp (disch:=omega) [zG31,cI,cS,cU,DtCmd.cells,cmdO,zb8,-aAppZ])|(refine ⟨by omega,?_⟩)|(simp (disch:=omega) [zG31,cI,cS,cU,DtCmd.cells,cmdO,zb8,-aAppZ])|(intro _)
 refine hK _ ?_;clear hK K
 refine zbg rfl (λhc1=>?_) (λhc1=>?_)
 ·try simp [zbf,zbn,zbc,zbb] at hc1
  all_goals
   refine AW_x rfl rfl λK hK=>?_
   simp (disch:=omega) [zG31,cI,cS,cU,DtCmd.cells,cmdO,zb8,-aAppZ]
   repeat' first|(exfalso;omega)|(refine ⟨λ_=>?_,λ_=>?_⟩)|(refine ⟨by omega,?_⟩)|(simp (disch:=omega) [zG31,cI,cS,cU,DtCmd.cells,cmdO,zb8,-aAppZ])|(intro _)
   all_goals (refine hK _ ?_;clear hK K)
   all_goals
    refine zbp ⟨(.agg (cmdO ⟨0,0,0,[],[],[],0,[]⟩ 16)),[.cells (curC l (belowS l 12 c))],[.own 1 []],?po,(by simp),(by simp),(by simp [OB.xk]),(zce [1000] [(1000,1)] (by simp [zG32,List.range_succ]) (by simp) ?en)⟩
    case en =>
     simp (disch:=omega) [zG31,cI,cS,cU,DtCmd.cells,cmdO,zb8,-aAppZ]
     all_goals trace_state
    case po=>first|(unfold CmdX;rw [←hxe];exact ⟨⟨rfl,rfl,rfl⟩,hx⟩)|(have hce:cmF l c=(⟨0,0,0,[],[],[],0,[]⟩,belowS l 12 c):=(by simp_all [cmF]);unfold CmdX;rw [hce];exact ⟨⟨rfl,rfl,rfl⟩,by simp [CmdF]⟩)
 ·try simp [zbf,zbn,zbc,zbb] at hc1
  all_goals
   refine zbi ?_
   refine zbm ?_
   refine AW_x rfl rfl λK hK=>?_
   simp (disch:=omega) [zG31,cI,cS,cU,DtCmd.cells,cmdO,zb8,-aAppZ]
   repeat' first|(exfalso;omega)|(refine zd5 [8] false [] (zwh l hl (belowS l 12 c)) ?_ ?_ ?_;(focus (simp [List.range_succ,nmC];done));(focus (simp (disch:=omega) [zG31,cI,cS,cU,DtCmd.cells,cmdO,zb8,-aAppZ];done));simp (disch:=omega) [zG31,cI,cS,cU,DtCmd.cells,cmdO,zb8,-aAppZ])|(refine ⟨λ_=>?_,λ_=>?_⟩)|(refine ⟨by omega,?_⟩)|(simp (disch:=omega) [zG31,cI,cS,cU,DtCmd.cells,cmdO,zb8,-aAppZ])|(intro _)
   all_goals (refine hK _ ?_;clear hK K)
   all_goals
    refine zfk (λsS=>∃(x:DtCmd) (c3:Cur),((x,c3)=cmF l c∧CmdF x)∧sS = { env:=lkE [(2,.ptr 48 0),(3,.ptr 64 0)],ob:=lk [(8,.cells (curC l c3)),(48,.cells [(.g (.int .i64 (0))),(.g (.int .i64 (0))),(.g (.int .i64 (0))),.s [],.s [],.s [],(.g (.int .i64 (0))),.g (.slice none 0 0)]),(64,.cells (cmdO x 501)),(501,.own 1 (x.fChunks.map cS))] }) ?_ ?_
    ·skip
     refine AW_x rfl rfl λK hK=>?_
     simp (disch:=omega) [zG31,cI,cS,cU,DtCmd.cells,cmdO,zb8,-aAppZ]
     repeat' first|(exfalso;omega)|(refine zcw (λ_=>xs_p (xs_g xs_z)) (zkc l hl _ _) rfl rfl ?_;simp (disch:=omega) [zG31,cI,cS,cU,DtCmd.cells,cmdO,zb8,-aAppZ])|(refine ⟨by omega,?_⟩)|(simp (disch:=omega) [zG31,cI,cS,cU,DtCmd.cells,cmdO,zb8,-aAppZ])|(intro _)
     refine hK _ ?_;clear hK K
     refine zbg rfl (λhc2=>?_) (λhc2=>?_)
     ·try simp [zbf,zbn,zbc,zbb] at hc2
      all_goals
       refine AW_x rfl rfl λK hK=>?_
       simp (disch:=omega) [zG31,cI,cS,cU,DtCmd.cells,cmdO,zb8,-aAppZ]
       repeat' first|(exfalso;omega)|(refine zcw (λ_=>xs_p (xs_g xs_z)) (zfb l hl _ _) rfl rfl ?_;simp (disch:=omega) [zG31,cI,cS,cU,DtCmd.cells,cmdO,zb8,-aAppZ])|(refine ⟨λ_=>?_,λ_=>?_⟩)|(refine ⟨by omega,?_⟩)|(simp (disch:=omega) [zG31,cI,cS,cU,DtCmd.cells,cmdO,zb8,-aAppZ])|(intro _)
       all_goals (refine hK _ ?_;clear hK K)
       all_goals
        refine zbj ?_
        refine AW_x rfl rfl λK hK=>?_
        simp (disch:=omega) [zG31,cI,cS,cU,DtCmd.cells,cmdO,zb8,-aAppZ]
        repeat' first|(refine ⟨by omega,?_⟩)|(intro _)
        refine hK _ ?_;clear hK K
        refine zbg rfl (λhc3=>?_) (λhc3=>?_)
        ·try simp [zbf,zbn,zbc,zbb] at hc3
         all_goals
          refine zb4 rfl rfl λK hK=>?_
          simp (disch:=omega) [zG31,cI,cS,cU,DtCmd.cells,cmdO,zb8,-aAppZ]
          repeat' first|(exfalso;omega)|(first | refine zb3 (λ_=>xs_p (xs_a xs_z)) (zb5 l hl _ [-1,0,8,3] (by simp)) rfl rfl rfl (by decide) rfl ?_ | refine zb3 (λ_=>xs_p (xs_a xs_z)) (zb5 l hl _ [0,9,10] (by simp)) rfl rfl rfl (by decide) rfl ?_ | refine zb3 (λ_=>xs_p (xs_a xs_z)) (zb5 l hl _ [0,1000,1001] (by simp)) rfl rfl rfl (by decide) rfl ?_ | refine zb3 (λ_=>xs_p (xs_a xs_z)) (zb5 l hl _ [-1,9,10] (by simp)) rfl rfl rfl (by decide) rfl ?_;simp (disch:=omega) [zG31,cI,cS,cU,DtCmd.cells,cmdO,zb8,-aAppZ])|(refine ⟨λ_=>?_,λ_=>?_⟩)|(refine ⟨by omega,?_⟩)|(simp (disch:=omega) [zG31,cI,cS,cU,DtCmd.cells,cmdO,zb8,-aAppZ])|(intro _)
          all_goals (refine hK _ ?_;clear hK K)
          all_goals
           refine ⟨_,LeS.kx [(8,8),(48,48),(64,64),(501,144)] [(2,.ptr 48 0),(3,.ptr 64 0)] [(8,.cells (curC l (belowS l 4 (cE l c)))),(48,.cells [(.g (.int .i64 (0))),(.g (.int .i64 (0))),(.g (.int .i64 (0))),.s [],.s [],.s [],(.g (.int .i64 (0))),.g (.slice none 0 0)]),(64,.cells (cmdO (setKind (xA l c) (pickZ [-1,0,8,3] (below l 4 (cE l c)))) 501)),(501,.own 1 ((setKind (xA l c) (pickZ [-1,0,8,3] (below l 4 (cE l c)))).fChunks.map cS))] (by simp [zG32,KpR,renV2,renV,zbk,curC,cmdO,xA,cA,cE,setKind,setClient,setNo,setSet,setN,addCh];try (first | with_reducible rfl | omega)) (by simp [zG32,KpOX,renO,plO,cvO,renV,pl1,curC,cmdO,xA,cA,cE,setKind,setClient,setNo,setSet,setN,addCh];try (first | with_reducible rfl | exact zc3 _ | exact ⟨rfl,zc3 _⟩|(simp [cS,zc3];done) | trace_state)) (by rfl) (by simp) (by simp) (by rfl) (by simp [formsX,List.range_succ,zbr,zby]),setKind (xA l c) (pickZ [-1,0,8,3] (below l 4 (cE l c))),belowS l 4 (cE l c),?_,rfl⟩
           ·refine ⟨by simp_all [cmF,cA],?_⟩;have hs6:=(S_bd l (belowS l 12 c)).1;have hq:=zfh hs6 (zc1 _ _);first | exact hq | exact zda hq (zcp _ _ (by simp)) (zdd _ _ (by simp)) | exact zdx hs6 (zc1 _ _) (by rw [zdh];have:=zdw l 9 (cE l c);omega)
        ·try simp [zbf,zbn,zbc,zbb] at hc3
         all_goals
          refine AW_x rfl rfl λK hK=>?_
          simp (disch:=omega) [zG31,cI,cS,cU,DtCmd.cells,cmdO,zb8,-aAppZ]
          repeat' first|(exfalso;omega)|(refine ⟨λ_=>?_,λ_=>?_⟩)|(refine ⟨by omega,?_⟩)|(simp (disch:=omega) [zG31,cI,cS,cU,DtCmd.cells,cmdO,zb8,-aAppZ])|(intro _)
          all_goals (refine hK _ ?_;clear hK K)
          all_goals
           refine zbg rfl (λhc4=>?_) (λhc4=>?_)
           ·try simp [zbf,zbn,zbc,zbb] at hc4
            all_goals
             refine zb4 rfl rfl λK hK=>?_
             simp (disch:=omega) [zG31,cI,cS,cU,DtCmd.cells,cmdO,zb8,-aAppZ]
             repeat' first|(exfalso;omega)|(first | refine zb3 (λ_=>xs_p (xs_a xs_z)) (zb5 l hl _ [-1,0,8,3] (by simp)) rfl rfl rfl (by decide) rfl ?_ | refine zb3 (λ_=>xs_p (xs_a xs_z)) (zb5 l hl _ [0,9,10] (by simp)) rfl rfl rfl (by decide) rfl ?_ | refine zb3 (λ_=>xs_p (xs_a xs_z)) (zb5 l hl _ [0,1000,1001] (by simp)) rfl rfl rfl (by decide) rfl ?_ | refine zb3 (λ_=>xs_p (xs_a xs_z)) (zb5 l hl _ [-1,9,10] (by simp)) rfl rfl rfl (by decide) rfl ?_;simp (disch:=omega) [zG31,cI,cS,cU,DtCmd.cells,cmdO,zb8,-aAppZ])|(refine ⟨λ_=>?_,λ_=>?_⟩)|(refine ⟨by omega,?_⟩)|(simp (disch:=omega) [zG31,cI,cS,cU,DtCmd.cells,cmdO,zb8,-aAppZ])|(intro _)
             all_goals (refine hK _ ?_;clear hK K)
             all_goals
              refine ⟨_,LeS.kx [(8,8),(48,48),(64,64),(501,144)] [(2,.ptr 48 0),(3,.ptr 64 0)] [(8,.cells (curC l (belowS l 3 (cE l c)))),(48,.cells [(.g (.int .i64 (0))),(.g (.int .i64 (0))),(.g (.int .i64 (0))),.s [],.s [],.s [],(.g (.int .i64 (0))),.g (.slice none 0 0)]),(64,.cells (cmdO (setClient (xA l c) (pickZ [0,9,10] (below l 3 (cE l c)))) 501)),(501,.own 1 ((setClient (xA l c) (pickZ [0,9,10] (below l 3 (cE l c)))).fChunks.map cS))] (by simp [zG32,KpR,renV2,renV,zbk,curC,cmdO,xA,cA,cE,setKind,setClient,setNo,setSet,setN,addCh];try (first | with_reducible rfl | omega)) (by simp [zG32,KpOX,renO,plO,cvO,renV,pl1,curC,cmdO,xA,cA,cE,setKind,setClient,setNo,setSet,setN,addCh];try (first | with_reducible rfl | exact zc3 _ | exact ⟨rfl,zc3 _⟩|(simp [cS,zc3];done) | trace_state)) (by rfl) (by simp) (by simp) (by rfl) (by simp [formsX,List.range_succ,zbr,zby]),setClient (xA l c) (pickZ [0,9,10] (below l 3 (cE l c))),belowS l 3 (cE l c),?_,rfl⟩
              ·refine ⟨by simp_all [cmF,cA],?_⟩;have hs6:=(S_bd l (belowS l 12 c)).1;have hq:=zfh hs6 (zc1 _ _);first | exact hq | exact zda hq (zcp _ _ (by simp)) (zdd _ _ (by simp)) | exact zdx hs6 (zc1 _ _) (by rw [zdh];have:=zdw l 9 (cE l c);omega)
           ·try simp [zbf,zbn,zbc,zbb] at hc4
            all_goals
             refine AW_x rfl rfl λK hK=>?_
             simp (disch:=omega) [zG31,cI,cS,cU,DtCmd.cells,cmdO,zb8,-aAppZ]
             repeat' first|(exfalso;omega)|(refine ⟨λ_=>?_,λ_=>?_⟩)|(refine ⟨by omega,?_⟩)|(simp (disch:=omega) [zG31,cI,cS,cU,DtCmd.cells,cmdO,zb8,-aAppZ])|(intro _)
             all_goals (refine hK _ ?_;clear hK K)
             all_goals
              refine zbg rfl (λhc5=>?_) (λhc5=>?_)
              ·try simp [zbf,zbn,zbc,zbb] at hc5
               all_goals
                refine zb4 rfl rfl λK hK=>?_
                simp (disch:=omega) [zG31,cI,cS,cU,DtCmd.cells,cmdO,zb8,-aAppZ]
                repeat' first|(exfalso;omega)|(first | refine zb3 (λ_=>xs_p (xs_a xs_z)) (zb5 l hl _ [-1,0,8,3] (by simp)) rfl rfl rfl (by decide) rfl ?_ | refine zb3 (λ_=>xs_p (xs_a xs_z)) (zb5 l hl _ [0,9,10] (by simp)) rfl rfl rfl (by decide) rfl ?_ | refine zb3 (λ_=>xs_p (xs_a xs_z)) (zb5 l hl _ [0,1000,1001] (by simp)) rfl rfl rfl (by decide) rfl ?_ | refine zb3 (λ_=>xs_p (xs_a xs_z)) (zb5 l hl _ [-1,9,10] (by simp)) rfl rfl rfl (by decide) rfl ?_;simp (disch:=omega) [zG31,cI,cS,cU,DtCmd.cells,cmdO,zb8,-aAppZ])|(refine ⟨λ_=>?_,λ_=>?_⟩)|(refine ⟨by omega,?_⟩)|(simp (disch:=omega) [zG31,cI,cS,cU,DtCmd.cells,cmdO,zb8,-aAppZ])|(intro _)
                all_goals (refine hK _ ?_;clear hK K)
                all_goals
                 refine ⟨_,LeS.kx [(8,8),(48,48),(64,64),(501,144)] [(2,.ptr 48 0),(3,.ptr 64 0)] [(8,.cells (curC l (belowS l 3 (cE l c)))),(48,.cells [(.g (.int .i64 (0))),(.g (.int .i64 (0))),(.g (.int .i64 (0))),.s [],.s [],.s [],(.g (.int .i64 (0))),.g (.slice none 0 0)]),(64,.cells (cmdO (setNo (xA l c) (pickZ [0,1000,1001] (below l 3 (cE l c)))) 501)),(501,.own 1 ((setNo (xA l c) (pickZ [0,1000,1001] (below l 3 (cE l c)))).fChunks.map cS))] (by simp [zG32,KpR,renV2,renV,zbk,curC,cmdO,xA,cA,cE,setKind,setClient,setNo,setSet,setN,addCh];try (first | with_reducible rfl | omega)) (by simp [zG32,KpOX,renO,plO,cvO,renV,pl1,curC,cmdO,xA,cA,cE,setKind,setClient,setNo,setSet,setN,addCh];try (first | with_reducible rfl | exact zc3 _ | exact ⟨rfl,zc3 _⟩|(simp [cS,zc3];done) | trace_state)) (by rfl) (by simp) (by simp) (by rfl) (by simp [formsX,List.range_succ,zbr,zby]),setNo (xA l c) (pickZ [0,1000,1001] (below l 3 (cE l c))),belowS l 3 (cE l c),?_,rfl⟩
                 ·refine ⟨by simp_all [cmF,cA],?_⟩;have hs6:=(S_bd l (belowS l 12 c)).1;have hq:=zfh hs6 (zc1 _ _);first | exact hq | exact zda hq (zcp _ _ (by simp)) (zdd _ _ (by simp)) | exact zdx hs6 (zc1 _ _) (by rw [zdh];have:=zdw l 9 (cE l c);omega)
              ·try simp [zbf,zbn,zbc,zbb] at hc5
               all_goals
                refine AW_x rfl rfl λK hK=>?_
                simp (disch:=omega) [zG31,cI,cS,cU,DtCmd.cells,cmdO,zb8,-aAppZ]
                repeat' first|(exfalso;omega)|(refine ⟨λ_=>?_,λ_=>?_⟩)|(refine ⟨by omega,?_⟩)|(simp (disch:=omega) [zG31,cI,cS,cU,DtCmd.cells,cmdO,zb8,-aAppZ])|(intro _)
                all_goals (refine hK _ ?_;clear hK K)
                all_goals
                 refine zbg rfl (λhc6=>?_) (λhc6=>?_)
                 ·try simp [zbf,zbn,zbc,zbb] at hc6
                  all_goals
                   refine zb4 rfl rfl λK hK=>?_
                   simp (disch:=omega) [zG31,cI,cS,cU,DtCmd.cells,cmdO,zb8,-aAppZ]
                   repeat' first|(exfalso;omega)|(refine zb3 (λ_=>xs_p (xs_a xs_z)) (zgo l hl _ [[],[65],[97,98,99,100,101,102,103,104],[97,98,99,100,101,102,103,104,105]] (by simp)) rfl rfl rfl (by decide) rfl ?_;simp (disch:=omega) [zG31,cI,cS,cU,DtCmd.cells,cmdO,zb8,-aAppZ])|(refine ⟨λ_=>?_,λ_=>?_⟩)|(refine ⟨by omega,?_⟩)|(simp (disch:=omega) [zG31,cI,cS,cU,DtCmd.cells,cmdO,zb8,-aAppZ])|(intro _)
                   all_goals (refine hK _ ?_;clear hK K)
                   all_goals
                    refine ⟨_,LeS.kx [(8,8),(48,48),(64,64),(501,144)] [(2,.ptr 48 0),(3,.ptr 64 0)] [(8,.cells (curC l (belowS l 4 (cE l c)))),(48,.cells [(.g (.int .i64 (0))),(.g (.int .i64 (0))),(.g (.int .i64 (0))),.s [],.s [],.s [],(.g (.int .i64 (0))),.g (.slice none 0 0)]),(64,.cells (cmdO (setSet (xA l c) (([[],[65],[97,98,99,100,101,102,103,104],[97,98,99,100,101,102,103,104,105]]:List (List UInt8)).getD (below l 4 (cE l c)).toNat [])) 501)),(501,.own 1 ((setSet (xA l c) (([[],[65],[97,98,99,100,101,102,103,104],[97,98,99,100,101,102,103,104,105]]:List (List UInt8)).getD (below l 4 (cE l c)).toNat [])).fChunks.map cS))] (by simp [zG32,KpR,renV2,renV,zbk,curC,cmdO,xA,cA,cE,setKind,setClient,setNo,setSet,setN,addCh];try (first | with_reducible rfl | omega)) (by simp [zG32,KpOX,renO,plO,cvO,renV,pl1,curC,cmdO,xA,cA,cE,setKind,setClient,setNo,setSet,setN,addCh];try (first | with_reducible rfl | exact zc3 _ | exact ⟨rfl,zc3 _⟩|(simp [cS,zc3];done) | trace_state)) (by rfl) (by simp) (by simp) (by rfl) (by simp [formsX,List.range_succ,zbr,zby]),setSet (xA l c) (([[],[65],[97,98,99,100,101,102,103,104],[97,98,99,100,101,102,103,104,105]]:List (List UInt8)).getD (below l 4 (cE l c)).toNat []),belowS l 4 (cE l c),?_,rfl⟩
                    ·refine ⟨by simp_all [cmF,cA],?_⟩;have hs6:=(S_bd l (belowS l 12 c)).1;have hq:=zfh hs6 (zc1 _ _);first | exact hq | exact zda hq (zcp _ _ (by simp)) (zdd _ _ (by simp)) | exact zdx hs6 (zc1 _ _) (by rw [zdh];have:=zdw l 9 (cE l c);omega)
                 ·try simp [zbf,zbn,zbc,zbb] at hc6
                  all_goals
                   refine AW_x rfl rfl λK hK=>?_
                   simp (disch:=omega) [zG31,cI,cS,cU,DtCmd.cells,cmdO,zb8,-aAppZ]
                   repeat' first|(exfalso;omega)|(refine ⟨λ_=>?_,λ_=>?_⟩)|(refine ⟨by omega,?_⟩)|(simp (disch:=omega) [zG31,cI,cS,cU,DtCmd.cells,cmdO,zb8,-aAppZ])|(intro _)
                   all_goals (refine hK _ ?_;clear hK K)
                   all_goals
                    refine zbg rfl (λhc7=>?_) (λhc7=>?_)
                    ·try simp [zbf,zbn,zbc,zbb] at hc7
                     all_goals
                      refine zb4 rfl rfl λK hK=>?_
                      simp (disch:=omega) [zG31,cI,cS,cU,DtCmd.cells,cmdO,zb8,-aAppZ]
                      repeat' first|(exfalso;omega)|(first | refine zb3 (λ_=>xs_p (xs_a xs_z)) (zb5 l hl _ [-1,0,8,3] (by simp)) rfl rfl rfl (by decide) rfl ?_ | refine zb3 (λ_=>xs_p (xs_a xs_z)) (zb5 l hl _ [0,9,10] (by simp)) rfl rfl rfl (by decide) rfl ?_ | refine zb3 (λ_=>xs_p (xs_a xs_z)) (zb5 l hl _ [0,1000,1001] (by simp)) rfl rfl rfl (by decide) rfl ?_ | refine zb3 (λ_=>xs_p (xs_a xs_z)) (zb5 l hl _ [-1,9,10] (by simp)) rfl rfl rfl (by decide) rfl ?_;simp (disch:=omega) [zG31,cI,cS,cU,DtCmd.cells,cmdO,zb8,-aAppZ])|(refine ⟨λ_=>?_,λ_=>?_⟩)|(refine ⟨by omega,?_⟩)|(simp (disch:=omega) [zG31,cI,cS,cU,DtCmd.cells,cmdO,zb8,-aAppZ])|(intro _)
                      all_goals (refine hK _ ?_;clear hK K)
                      all_goals
                       refine ⟨_,LeS.kx [(8,8),(48,48),(64,64),(501,144)] [(2,.ptr 48 0),(3,.ptr 64 0)] [(8,.cells (curC l (belowS l 3 (cE l c)))),(48,.cells [(.g (.int .i64 (0))),(.g (.int .i64 (0))),(.g (.int .i64 (0))),.s [],.s [],.s [],(.g (.int .i64 (0))),.g (.slice none 0 0)]),(64,.cells (cmdO (setN (xA l c) (pickZ [-1,9,10] (below l 3 (cE l c)))) 501)),(501,.own 1 ((setN (xA l c) (pickZ [-1,9,10] (below l 3 (cE l c)))).fChunks.map cS))] (by simp [zG32,KpR,renV2,renV,zbk,curC,cmdO,xA,cA,cE,setKind,setClient,setNo,setSet,setN,addCh];try (first | with_reducible rfl | omega)) (by simp [zG32,KpOX,renO,plO,cvO,renV,pl1,curC,cmdO,xA,cA,cE,setKind,setClient,setNo,setSet,setN,addCh];try (first | with_reducible rfl | exact zc3 _ | exact ⟨rfl,zc3 _⟩|(simp [cS,zc3];done) | trace_state)) (by rfl) (by simp) (by simp) (by rfl) (by simp [formsX,List.range_succ,zbr,zby]),setN (xA l c) (pickZ [-1,9,10] (below l 3 (cE l c))),belowS l 3 (cE l c),?_,rfl⟩
                       ·refine ⟨by simp_all [cmF,cA],?_⟩;have hs6:=(S_bd l (belowS l 12 c)).1;have hq:=zfh hs6 (zc1 _ _);first | exact hq | exact zda hq (zcp _ _ (by simp)) (zdd _ _ (by simp)) | exact zdx hs6 (zc1 _ _) (by rw [zdh];have:=zdw l 9 (cE l c);omega)
                    ·try simp [zbf,zbn,zbc,zbb] at hc7
                     all_goals
                      have hs6:=(S_bd l (belowS l 12 c)).1.2.2.2.1
                      refine zhi rfl mix (by kernel_rfl) (by kernel_rfl) λK hK=>?_
                      simp (disch:=omega) [zG31,cI,cS,cU,DtCmd.cells,cmdO,zb8,-aAppZ]
                      repeat' first|(exfalso;omega)|(refine zvy (λ_=>xs_p (xs_g xs_z)) (l1Text l hl _ 9 (by omega)) rfl rfl ?_;simp (disch:=omega) [zG31,cI,cS,cU,DtCmd.cells,cmdO,zb8,-aAppZ])|(refine ⟨λ_=>?_,λ_=>?_⟩)|(refine ⟨by omega,?_⟩)|(simp (disch:=omega) [zG31,cI,cS,cU,DtCmd.cells,cmdO,zb8,-aAppZ])|(intro _)
                      all_goals (refine hK _ _ (by kernel_rfl) ?_;clear hK K)
                      all_goals
                       refine ⟨_,LeS.kx [(8,8),(48,48),(64,64),(501,304)] [(2,.ptr 48 0),(3,.ptr 64 0)] [(8,.cells (curC l ((TXT l 9 (cE l c)).2))),(48,.cells [(.g (.int .i64 (0))),(.g (.int .i64 (0))),(.g (.int .i64 (0))),.s [],.s [],.s [],(.g (.int .i64 (0))),.g (.slice none 0 0)]),(64,.cells (cmdO (addCh (xA l c) (strN (TXT l 9 (cE l c)).1)) 501)),(501,.own 1 ((addCh (xA l c) (strN (TXT l 9 (cE l c)).1)).fChunks.map cS))] (by simp [zG32,KpR,renV2,renV,zbk,curC,cmdO,xA,cA,cE,setKind,setClient,setNo,setSet,setN,addCh];try (first | with_reducible rfl | omega)) (by simp [zG32,KpOX,renO,plO,cvO,renV,pl1,curC,cmdO,xA,cA,cE,setKind,setClient,setNo,setSet,setN,addCh];try (first | with_reducible rfl | exact zc3 _ | exact ⟨rfl,zc3 _⟩|(simp [cS,zc3];done) | trace_state)) (by rfl) (by simp) (by simp) (by rfl) (by simp [formsX,List.range_succ,zbr,zby]),addCh (xA l c) (strN (TXT l 9 (cE l c)).1),(TXT l 9 (cE l c)).2,?_,rfl⟩
                       ·refine ⟨by simp_all [cmF,cA],?_⟩;have hs6:=(S_bd l (belowS l 12 c)).1;have hq:=zfh hs6 (zc1 _ _);first | exact hq | exact zda hq (zcp _ _ (by simp)) (zdd _ _ (by simp)) | exact zdx hs6 (zc1 _ _) (by rw [zdh];have:=zdw l 9 (cE l c);omega)
     ·try simp [zbf,zbn,zbc,zbb] at hc2
      all_goals
       refine zbi ?_
       refine ⟨_,LeS.kx [(8,8),(48,48),(64,64),(501,144)] [(2,.ptr 48 0),(3,.ptr 64 0)] [(8,.cells (curC l (belowS l 8 (cA l c)))),(48,.cells [(.g (.int .i64 (0))),(.g (.int .i64 (0))),(.g (.int .i64 (0))),.s [],.s [],.s [],(.g (.int .i64 (0))),.g (.slice none 0 0)]),(64,.cells (cmdO (xA l c) 501)),(501,.own 1 ((xA l c).fChunks.map cS))] (by simp [zG32,KpR,renV2,renV,zbk,curC,cmdO,xA,cA,cE,setKind,setClient,setNo,setSet,setN,addCh];try (first | with_reducible rfl | omega)) (by simp [zG32,KpOX,renO,plO,cvO,renV,pl1,curC,cmdO,xA,cA,cE,setKind,setClient,setNo,setSet,setN,addCh];try (first | with_reducible rfl | exact zc3 _ | exact ⟨rfl,zc3 _⟩|(simp [cS,zc3];done) | trace_state)) (by rfl) (by simp) (by simp) (by rfl) (by simp [formsX,List.range_succ,zbr,zby]),xA l c,belowS l 8 (cA l c),?_,rfl⟩
       ·refine ⟨by simp_all [cmF,cA],?_⟩;have hs6:=(S_bd l (belowS l 12 c)).1;have hq:=zfh hs6 (zc1 _ _);first | exact hq | exact zda hq (zcp _ _ (by simp)) (zdd _ _ (by simp)) | exact zdx hs6 (zc1 _ _) (by rw [zdh];have:=zdw l 9 (cE l c);omega)
    ·rintro sS ⟨x,c3,⟨hxe,hx⟩,rfl⟩
     refine AW_x rfl rfl λK hK=>?_
     simp (disch:=omega) [zG31,cI,cS,cU,DtCmd.cells,cmdO,zb8,-aAppZ]
     repeat' first|(exfalso;omega)|(refine ⟨λ_=>?_,λ_=>?_⟩)|(refine ⟨by omega,?_⟩)|(simp (disch:=omega) [zG31,cI,cS,cU,DtCmd.cells,cmdO,zb8,-aAppZ])|(intro _)
     all_goals (refine hK _ ?_;clear hK K)
     all_goals
      refine zbp ⟨(.agg (cmdO x 16)),[.cells (curC l c3)],[.own 1 (x.fChunks.map cS)],?po,(by simp),(by simp),(by simp [OB.xk]),(zce [501] [] (by simp [zG32,List.range_succ]) (by simp) ?en)⟩
      case en =>
       simp (disch:=omega) [zG31,cI,cS,cU,DtCmd.cells,cmdO,zb8,-aAppZ]
       all_goals trace_state
      case po=>first|(unfold CmdX;rw [←hxe];exact ⟨⟨rfl,rfl,rfl⟩,hx⟩)|(have hce:cmF l c=(⟨0,0,0,[],[],[],0,[]⟩,belowS l 12 c):=(by simp_all [cmF]);unfold CmdX;rw [hce];exact ⟨⟨rfl,rfl,rfl⟩,by simp [CmdF]⟩)
end Go.Proofs.YtodmafgmdlkhoaaGreat.Vs
end
section
namespace Go.Proofs.YtodmafgmdlkhoaaGreat.Vs
set_option linter.all false
set_option maxRecDepth 100000
set_option maxHeartbeats 2000000
attribute [local simp] cmdO
theorem frz_ok1{fs:List Nat}{st:St}(h:fs=[]):FrzOk fs st:=⟨.inl h,λm hm=>by rw [h] at hm;cases hm⟩
theorem l4CmdX(l:List Int)(hl:Code l)(c:Cur):XCall Tryz.prog 50 [.ptr 8 0] [.cells (curC l c)] (.agg (cmdO (cmF l c).1 16)) [.cells (curC l (cmF l c).2)] [.own 1 ((cmF l c).1.fChunks.map cS)]:=by
 refine zpb ?_ rfl rfl
 obtain ⟨h1,h2,h3⟩:=l4CmdE l hl c
 refine ⟨h1,h2,λw I β χ vs g1 g2 g3 g4 g5 g6 g7=>(h3 w I β χ vs g1 g2 g3 g4 g5 g6 g7).mono ?_⟩
 rintro e w' ⟨r',w'',f',⟨hh,-⟩,h⟩
 exact ⟨r',w'',f',hh,h⟩
theorem cmF_F(l:List Int)(hl:Code l)(c:Cur):CmdF (cmF l c).1:=by
 unfold cmF
 have hs6:=(S_bd l (belowS l 12 c)).1
 have hq:=zfh hs6 (zc1 _ _)
 repeat' split
 all_goals first | exact hq | exact zda hq (zcp _ _ (by simp)) (zdd _ _ (by simp)) | exact zdx hs6 (zc1 _ _) (by rw [zdh];have:=zdw l 9 (cE l c);omega)|(simp [CmdF];done)
def CatD(r:AV)(wos' fos:List OB):Prop:=∃(s:DtCatalog) (m:DtCmd),CaG s∧CmdF m∧r=.tup [.agg (DtCatalog.cells s),.agg (DtCmd.cells m)]∧wos'=[]∧fos=[]
theorem zth(l:List Int)(hl:Code l):XCallE Tryz.prog 19 [.sl 1 (l.map cU)] [] 0 CatD:=by
 refine zf1 Tryz.func19 (by rfl) (by rfl) (by rw [Tryz.ntmps19];exact Nat.le_of_ble_eq_true rfl) (by simp) rfl rfl ?_
 rw [Tryz.ntmps19]
 refine AW_y0   ?_
 refine AW_k [(0,_)] ⟨rfl,trivial⟩ ?_
 refine AW_x rfl rfl λK hK=>?_
 simp (disch:=omega) [zG31,cI,cS,cU,cmdO,DtCatalog.cells,DtCmd.cells]
 repeat' first|(refine ⟨by omega,?_⟩)|(intro _)
 refine hK _ ?_;clear hK K
 refine AW_x rfl rfl λK hK=>?_
 simp (disch:=omega) [zG31,cI,cS,cU,cmdO,DtCatalog.cells,DtCmd.cells]
 repeat' first|(exfalso;omega)|(refine zd5 [] false [] (l1New l hl) ?_ ?_ ?_;(focus (simp [List.range_succ,nmC];done));(focus (simp (disch:=omega) [zG31,cI,cS,cU,cmdO,DtCatalog.cells,DtCmd.cells];done));simp (disch:=omega) [zG31,cI,cS,cU,cmdO,DtCatalog.cells,DtCmd.cells])|(refine ⟨by omega,?_⟩)|(simp (disch:=omega) [zG31,cI,cS,cU,cmdO,DtCatalog.cells,DtCmd.cells])|(intro _)
 refine hK _ ?_;clear hK K
 refine AW_x rfl rfl λK hK=>?_
 simp (disch:=omega) [zG31,cI,cS,cU,cmdO,DtCatalog.cells,DtCmd.cells]
 repeat' first|(exfalso;omega)|(refine XKd_e [128] false [] (l15Some l hl (cur0 l)) ?_ ?_ ?_;(focus (simp [List.range_succ,nmC];done));(focus (simp (disch:=omega) [zG31,cI,cS,cU,cmdO,DtCatalog.cells,DtCmd.cells];done));rintro _ _ _ ⟨s,c1,hG,rfl,rfl,rfl⟩;refine ⟨⟨by first | rfl|(simp;done),by first | rfl|(simp;done)⟩,?_⟩;simp (disch:=omega) [zG31,cI,cS,cU,cmdO,DtCatalog.cells,DtCmd.cells])|(refine ⟨by omega,?_⟩)|(simp (disch:=omega) [zG31,cI,cS,cU,cmdO,DtCatalog.cells,DtCmd.cells])|(intro _)
 refine hK _ ?_;clear hK K
 have hz:=cmF_F l hl c1
 obtain ⟨z,hze⟩:∃z,z=(cmF l c1).1:=⟨_,rfl⟩
 rw [←hze] at hz
 refine AW_d rfl mix (by kernel_rfl) (by kernel_rfl) λK hK=>?_
 simp (disch:=omega) [zG31,cI,cS,cU,cmdO,DtCatalog.cells,DtCmd.cells]
 repeat' first|(exfalso;omega)|(refine zmj [128] false [] (l4CmdX l hl c1) ?_ (λst' hst=>?_) ?_;(focus (simp [List.range_succ,nmC];done));(focus (simp (disch:=omega) [zG31,cI,cS,cU,cmdO,DtCatalog.cells,DtCmd.cells,nmC] at hst;simp (disch:=omega) [zG31,cI,cS,cU,cmdO,DtCatalog.cells,DtCmd.cells,hst,nmC];done));simp (disch:=omega) [zG31,cI,cS,cU,cmdO,DtCatalog.cells,DtCmd.cells])|(refine ⟨by omega,?_⟩)|(simp (disch:=omega) [zG31,cI,cS,cU,cmdO,DtCatalog.cells,DtCmd.cells])|(intro _)
 refine hK _ _ (by kernel_rfl) ?_;clear hK K
 rw [←hze]
 refine zd3 (LeS.frzR 208 (o:=.own 1 (z.fChunks.map cS)) (sz:=1) (xs:=z.fChunks.map cS) (frz_ok1 (by decide)) (by simp [formsX,List.range_succ]) (by simp [zG32,updL]) ⟨rfl,rfl⟩) ?_
 refine zd3 (LeS.vwC 64 7 208 (sz:=1) (xs:=z.fChunks.map cS) (cs:=cmdO z 208) (off:=0) (len:=z.fChunks.length) (by simp [zG32,updL,cmdO]) rfl (by simp [zb0]) (by simp)) ?_
 refine zpx (.tup [.agg (DtCatalog.cells s),.agg (DtCmd.cells z)]) [] [] ?po (by simp) (by simp) (by simp [OB.xk]) (zce [] [] (by simp [zG32,List.range_succ]) (by simp) ?en)
 case en =>
  simp (disch:=omega) [zG31,cI,cS,cU,cmdO,DtCatalog.cells,DtCmd.cells]
  all_goals trace_state
 case po=>exact ⟨s,z,hG,hz,rfl,rfl,rfl⟩
end Go.Proofs.YtodmafgmdlkhoaaGreat.Vs
end
section
namespace Go.Proofs.YtodmafgmdlkhoaaGreat.Vs
set_option linter.all false
set_option maxRecDepth 100000
set_option maxHeartbeats 4000000
def zG33:=And.intro @zcf (And.intro @gE @tP)
theorem sameTexts(xs ys:List (List UInt8))(hn:xs.length≤1048576):PCall Tryz.prog 22 [.sl 1 (xs.map cS),.sl 1 (ys.map cS)] (.g (.bool (eqB xs ys))):=by
 refine zbq Tryz.func22 (by rfl) (by rfl) (by rw [Tryz.ntmps22];exact Nat.le_of_ble_eq_true rfl) rfl (by decide) ?_
 rw [Tryz.ntmps22]
 refine AW_k [(0,_),(1,_)] ⟨rfl,rfl,trivial⟩ ?_
 refine AW_r rfl rfl λK hK=>?_
 simp (disch:=omega) [zG33]
 repeat' first|(refine ⟨by omega,?_⟩)|(intro _)
 refine hK _ ?_;clear hK K
 refine zbh ?_
 refine AW_r rfl rfl λK hK=>?_
 simp (disch:=omega) [zG33]
 repeat' first|(refine ⟨by omega,?_⟩)|(intro _)
 refine hK _ ?_;clear hK K
 refine zbg rfl (λhc1=>?_) (λhc1=>?_)
 ·try simp at hc1
  all_goals
   refine AW_r rfl rfl λK hK=>?_
   simp (disch:=omega) [zG33]
   repeat' first|(exfalso;omega)|(refine ⟨λ_=>?_,λ_=>?_⟩)|(refine ⟨by omega,?_⟩)|(intro _)
   all_goals (refine hK _ ?_;clear hK K)
   all_goals
    refine zbp (zcb ?_)
    simp (disch:=omega) [zG33]
    all_goals first|(exact zhl heq)|(refine zg3 λheq=>?_;subst heq;simp_all;done)
 ·try simp at hc1
  all_goals
   refine zbi ?_
   refine zbm ?_
   refine zbh ?_
   refine AW_r rfl rfl λK hK=>?_
   simp (disch:=omega) [zG33]
   repeat' first|(exfalso;omega)|(refine ⟨λ_=>?_,λ_=>?_⟩)|(refine ⟨by omega,?_⟩)|(intro _)
   all_goals (refine hK _ ?_;clear hK K)
   all_goals
    refine zbj ?_
    refine zbs (λmM sS=>∃(i:Nat),mM=xs.length-i∧(i≤xs.length∧∀j,j<i→xs[j]? = ys[j]?)∧sS = { env:=lkE [(0,.sl 1 (xs.map cS)),(1,.sl 1 (ys.map cS)),(5,(.g (.int .i64 ((i:Nat)))))],ob:=formOb [] [] }) ?_ ?_
    ·refine ⟨_,LeS.kp [(0,.sl 1 (xs.map cS)),(1,.sl 1 (ys.map cS)),(5,(.g (.int .i64 (((0):Nat)))))] (by simp [KpE,zb0,zbk,zbr];try rfl),_,0,rfl,?_,rfl⟩
     ·simp
    ·rintro mM sS ⟨i,rfl,⟨hi,hpre⟩,rfl⟩
     refine zbh ?_
     refine AW_r rfl rfl λK hK=>?_
     simp (disch:=omega) [zG33,cS]
     repeat' first|(refine ⟨by omega,?_⟩)|(intro _)
     refine hK _ ?_;clear hK K
     refine zbg rfl (λhc2=>?_) (λhc2=>?_)
     ·try simp at hc2
      all_goals
       have h7:i<ys.length:=by omega
       refine zbi ?_
       refine zbm ?_
       refine zbh ?_
       refine zbj ?_
       refine AW_q rfl mix (by kernel_rfl) rfl λK hK=>?_
       simp (disch:=omega) [zG33,cS]
       repeat' first|(exfalso;omega)|(refine ⟨λ_=>?_,λ_=>?_⟩)|(refine ⟨by omega,?_⟩)|(intro _)
       all_goals (refine hK _ ?_;clear hK K)
       all_goals
        refine zbg rfl (λhc3=>?_) (λhc3=>?_)
        ·try simp at hc3
         all_goals
          refine AW_r rfl rfl λK hK=>?_
          simp (disch:=omega) [zG33,cS]
          repeat' first|(exfalso;omega)|(refine ⟨λ_=>?_,λ_=>?_⟩)|(refine ⟨by omega,?_⟩)|(intro _)
          all_goals (refine hK _ ?_;clear hK K)
          all_goals
           refine zbp (zcb ?_)
           simp (disch:=omega) [zG33,cS]
           all_goals first|(exact zhl heq)|(refine zg3 λheq=>?_;subst heq;simp_all;done)
        ·try simp at hc3
         all_goals
          refine zbi ?_
          refine zbm ?_
          refine zcv rfl rfl λK hK=>?_
          simp (disch:=omega) [zG33,cS]
          repeat' first|(exfalso;omega)|(refine ⟨λ_=>?_,λ_=>?_⟩)|(refine ⟨by omega,?_⟩)|(intro _)
          all_goals (refine hK _ ?_;clear hK K)
          all_goals
           refine ⟨_,LeS.kp [(0,.sl 1 (xs.map cS)),(1,.sl 1 (ys.map cS)),(5,(.g (.int .i64 (((i+1):Nat)))))] (by simp [KpE,zb0,zbk,zbr];try rfl),_,?_,i+1,rfl,?_,rfl⟩
           ·omega
           ·refine ⟨by omega,λj hj=>?_⟩
            by_cases hji:j=i
            ·subst hji;simp_all
            ·exact hpre j (by omega)
     ·try simp at hc2
      all_goals
       have hi2:i=xs.length:=by omega
       subst hi2
       have heq:xs=ys:=List.ext_getElem? λj=>by
        by_cases hj:j<xs.length
        ·exact hpre j hj
        ·rw [List.getElem?_eq_none (by omega),List.getElem?_eq_none (by omega)]
       refine zbx ?_
       refine zbm ?_
       refine AW_r rfl rfl λK hK=>?_
       simp (disch:=omega) [zG33,cS]
       repeat' first|(exfalso;omega)|(refine ⟨λ_=>?_,λ_=>?_⟩)|(refine ⟨by omega,?_⟩)|(intro _)
       all_goals (refine hK _ ?_;clear hK K)
       all_goals
        refine zbp (zcb ?_)
        simp (disch:=omega) [zG33,cS]
        all_goals first|(exact zhl heq)|(refine zg3 λheq=>?_;subst heq;simp_all;done)
theorem hasText(xs:List (List UInt8))(x:List UInt8)(hn:xs.length≤1048576):PCall Tryz.prog 30 [.sl 1 (xs.map cS),.s x] (.g (.bool (decB (x∈xs)))):=by
 refine zbq Tryz.func30 (by rfl) (by rfl) (by rw [Tryz.ntmps30];exact Nat.le_of_ble_eq_true rfl) rfl (by decide) ?_
 rw [Tryz.ntmps30]
 refine AW_k [(0,_),(1,_)] ⟨rfl,rfl,trivial⟩ ?_
 refine AW_r rfl rfl λK hK=>?_
 simp (disch:=omega) [zG33]
 repeat' first|(refine ⟨by omega,?_⟩)|(intro _)
 refine hK _ ?_;clear hK K
 refine zbh ?_
 refine AW_r rfl rfl λK hK=>?_
 simp (disch:=omega) [zG33]
 repeat' first|(refine ⟨by omega,?_⟩)|(intro _)
 refine hK _ ?_;clear hK K
 refine zbj ?_
 refine zbs (λmM sS=>∃(i:Nat),mM=xs.length-i∧(i≤xs.length∧∀j,j<i→xs[j]? ≠ some x)∧sS = { env:=lkE [(0,.sl 1 (xs.map cS)),(1,.s x),(5,(.g (.int .i64 ((i:Nat)))))],ob:=formOb [] [] }) ?_ ?_
 ·refine ⟨_,LeS.kp [(0,.sl 1 (xs.map cS)),(1,.s x),(5,(.g (.int .i64 (((0):Nat)))))] (by simp [KpE,zb0,zbk,zbr];try rfl),_,0,rfl,?_,rfl⟩
  ·simp
 ·rintro mM sS ⟨i,rfl,⟨hi,hpre⟩,rfl⟩
  refine zbh ?_
  refine AW_r rfl rfl λK hK=>?_
  simp (disch:=omega) [zG33,cS]
  repeat' first|(refine ⟨by omega,?_⟩)|(intro _)
  refine hK _ ?_;clear hK K
  refine zbg rfl (λhc4=>?_) (λhc4=>?_)
  ·try simp at hc4
   all_goals
    refine zbi ?_
    refine zbm ?_
    refine zbh ?_
    refine zbj ?_
    refine AW_r rfl rfl λK hK=>?_
    simp (disch:=omega) [zG33,cS]
    repeat' first|(exfalso;omega)|(refine ⟨λ_=>?_,λ_=>?_⟩)|(refine ⟨by omega,?_⟩)|(intro _)
    all_goals (refine hK _ ?_;clear hK K)
    all_goals
     refine zbg rfl (λhc5=>?_) (λhc5=>?_)
     ·try simp at hc5
      all_goals
       refine AW_r rfl rfl λK hK=>?_
       simp (disch:=omega) [zG33,cS]
       repeat' first|(exfalso;omega)|(refine ⟨λ_=>?_,λ_=>?_⟩)|(refine ⟨by omega,?_⟩)|(intro _)
       all_goals (refine hK _ ?_;clear hK K)
       all_goals
        refine zbp (zcb ?_)
        simp (disch:=omega) [zG33,cS]
        all_goals first|(refine zcc ?_;rw [←hc5];exact List.getElem_mem _)|(refine zco λhx=>?_;obtain ⟨j,hj,he⟩:=List.getElem_of_mem hx;exact hpre j (by omega) (by rw [List.getElem?_eq_getElem hj,he])) | trace_state
     ·try simp at hc5
      all_goals
       refine zbi ?_
       refine zbm ?_
       refine zcv rfl rfl λK hK=>?_
       simp (disch:=omega) [zG33,cS]
       repeat' first|(exfalso;omega)|(refine ⟨λ_=>?_,λ_=>?_⟩)|(refine ⟨by omega,?_⟩)|(intro _)
       all_goals (refine hK _ ?_;clear hK K)
       all_goals
        refine ⟨_,LeS.kp [(0,.sl 1 (xs.map cS)),(1,.s x),(5,(.g (.int .i64 (((i+1):Nat)))))] (by simp [KpE,zb0,zbk,zbr];try rfl),_,?_,i+1,rfl,?_,rfl⟩
        ·omega
        ·refine ⟨by omega,λj hj=>?_⟩
         by_cases hji:j=i
         ·subst hji;simp_all
         ·exact hpre j (by omega)
  ·try simp at hc4
   all_goals
    have hi2:i=xs.length:=by omega
    refine zbx ?_
    refine zbm ?_
    refine AW_r rfl rfl λK hK=>?_
    simp (disch:=omega) [zG33,cS]
    repeat' first|(exfalso;omega)|(refine ⟨λ_=>?_,λ_=>?_⟩)|(refine ⟨by omega,?_⟩)|(intro _)
    all_goals (refine hK _ ?_;clear hK K)
    all_goals
     refine zbp (zcb ?_)
     simp (disch:=omega) [zG33,cS]
     all_goals first|(refine zcc ?_;rw [←hc5];exact List.getElem_mem _)|(refine zco λhx=>?_;obtain ⟨j,hj,he⟩:=List.getElem_of_mem hx;exact hpre j (by omega) (by rw [List.getElem?_eq_getElem hj,he])) | trace_state
theorem zq2(l:List Int)(hn:l.length<9223372036854775808):PCall Tryz.prog 5 [.sl 1 (l.map cU)] (.g (.bool (decide (1048576<l.length)))):=by
 refine zbq Tryz.func5 (by rfl) (by rfl) (by rw [Tryz.ntmps5];exact Nat.le_of_ble_eq_true rfl) rfl (by decide) ?_
 rw [Tryz.ntmps5]
 refine AW_k [(0,_)] ⟨rfl,trivial⟩ ?_
 refine AW_r rfl rfl λK hK=>?_
 simp (disch:=omega) [zG33]
 repeat' first|(refine ⟨by omega,?_⟩)|(intro _)
 refine hK _ ?_;clear hK K
 refine AW_r rfl rfl λK hK=>?_
 simp (disch:=omega) [zG33]
 repeat' first|(refine ⟨by omega,?_⟩)|(intro _)
 refine hK _ ?_;clear hK K
 refine zbp (zcb ?_)
 simp (disch:=omega) [zG33]
 all_goals (first | done|(congr 1;omega)|(simp;omega) | trace_state)
end Go.Proofs.YtodmafgmdlkhoaaGreat.Vs
end
