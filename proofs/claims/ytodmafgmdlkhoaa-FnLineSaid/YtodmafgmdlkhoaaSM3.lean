import Derived.Test.YtodmafgmdlkhoaaSM2
import Derived.Test.YtodmafgmdlkhoaaSM1
import Derived.Test.YtodmafgmdlkhoaaVs9
section
namespace Go.Proofs.Ytodmafgmdlkhoaa.Vs
set_option linter.all false
set_option maxRecDepth 100000
set_option maxHeartbeats 2000000
theorem zbw{P:Program}{st:St}(nm:Nat)(ts:List TypeId)(s:AV)(n o l:Nat):aAppZ P st nm ts s (.arr n o l)=none:=by
 unfold aAppZ
 split
 ·rename_i h;cases h
 ·rfl
def CmdF(x:DtCmd):Prop:=x.fSet.length≤16∧x.fName.length≤16∧x.fTag.length≤16∧x.fChunks.length≤5∧∀t∈x.fChunks,t.length≤16
theorem zjp{x:DtCmd}(h:CmdD x):CmdF x:=⟨h.1,h.2.1,h.2.2.1,by have:=h.2.2.2.1;omega,h.2.2.2.2⟩
def setKind(x:DtCmd)(n:Int):DtCmd:={ x with fKind:=n }
def setClient(x:DtCmd)(n:Int):DtCmd:={ x with fClient:=n }
def setNo(x:DtCmd)(n:Int):DtCmd:={ x with fNo:=n }
def setSet(x:DtCmd)(n:List UInt8):DtCmd:={ x with fSet:=n }
def setN(x:DtCmd)(n:Int):DtCmd:={ x with fN:=n }
def addCh(x:DtCmd)(t:List UInt8):DtCmd:={ x with fChunks:=x.fChunks++[t] }
theorem zgw{x:DtCmd}{t:List UInt8}(h:CmdF x)(ht:t.length≤16):CmdF (setSet x t):=⟨ht,h.2⟩
theorem zh4{x:DtCmd}{t:List UInt8}(h:CmdD x)(ht:t.length≤16):CmdF (addCh x t):=by
 obtain ⟨h1,h2,h3,h4,h5⟩:=h
 refine ⟨h1,h2,h3,by show (x.fChunks++[t]).length≤5;simp;omega,λu hu=>?_⟩
 rcases List.mem_append.1 hu with hu | hu
 ·exact h5 u hu
 ·rw [List.mem_singleton] at hu;rwa [hu]
def cA(l:List Int)(c:Cur):Cur:=(S6 l (belowS l 12 c)).c
def xA(l:List Int)(c:Cur):DtCmd:=(S6 l (belowS l 12 c)).x
def cE(l:List Int)(c:Cur):Cur:=belowS l 6 (belowS l 8 (cA l c))
attribute [local simp] cmdO
def CmdE(l:List Int)(r:AV)(wos' fos:List OB):Prop:=∃(x:DtCmd) (c':Cur),CmdF x∧r=.agg (cmdO x 16)∧wos'=[.cells (curC l c')]∧fos=[.own 1 (x.fChunks.map cS)]
def zG6:=And.intro @zcj (And.intro @gE (And.intro @tP (And.intro @and_assoc (And.intro @List.range_succ (And.intro @zbl (And.intro @zfc (And.intro @zba @zbf)))))))
def zG7:=And.intro @zbq (And.intro @zby @zbz)
def zG8:=And.intro @List.range_succ (And.intro @zbq @zby)
theorem l4Cmd(l:List Int)(hl:Code l)(c:Cur):XCallE Try.prog 24 [.ptr 8 0] [.cells (curC l c)] 1 (CmdE l):=by
 refine zdf Try.func24 (by rfl) (by rfl) (by rw [Try.ntmps24];exact Nat.le_of_ble_eq_true rfl) (by simp) rfl ?_
 rw [Try.ntmps24]
 refine zhl (.cells (curC l c)) (by simp [cvO]<;>assumption) ?_
 refine AW_k [(0,_)] ⟨rfl,trivial⟩ ?_
 refine AW_x rfl rfl λK hK=>?_
 simp (disch:=omega) [zG6,cI,cS,cU,DtCmd.cells,cmdO,zbw,-aAppZ]
 repeat' first|(refine ⟨by omega,?_⟩)|(intro _)
 refine hK _ ?_;clear hK K
 refine zbi ?_
 refine AW_x rfl rfl λK hK=>?_
 simp (disch:=omega) [zG6,cI,cS,cU,DtCmd.cells,cmdO,zbw,-aAppZ]
 repeat' first|(exfalso;omega)|(refine zcs (λ_=>xs_p (xs_g xs_z)) (zko l hl _ _) rfl rfl ?_;simp (disch:=omega) [zG6,cI,cS,cU,DtCmd.cells,cmdO,zbw,-aAppZ])|(refine ⟨by omega,?_⟩)|(simp (disch:=omega) [zG6,cI,cS,cU,DtCmd.cells,cmdO,zbw,-aAppZ])|(intro _)
 refine hK _ ?_;clear hK K
 refine zbh rfl (λhc1=>?_) (λhc1=>?_)
 ·try simp [zba,zbf,zbc,zbb] at hc1
  all_goals
   refine AW_x rfl rfl λK hK=>?_
   simp (disch:=omega) [zG6,cI,cS,cU,DtCmd.cells,cmdO,zbw,-aAppZ]
   repeat' first|(exfalso;omega)|(refine ⟨λ_=>?_,λ_=>?_⟩)|(refine ⟨by omega,?_⟩)|(simp (disch:=omega) [zG6,cI,cS,cU,DtCmd.cells,cmdO,zbw,-aAppZ])|(intro _)
   all_goals (refine hK _ ?_;clear hK K)
   all_goals
    refine zbp ⟨(.agg (cmdO ⟨0,0,0,[],[],[],0,[]⟩ 16)),[.cells (curC l (belowS l 12 c))],[.own 1 []],?po,(by simp),(by simp),(by simp [OB.xk]),(zb0 [1000] [(1000,1)] (by simp [zG7,List.range_succ]) (by simp) ?en)⟩
    case en =>
     simp (disch:=omega) [zG6,cI,cS,cU,DtCmd.cells,cmdO,zbw,-aAppZ]
     all_goals trace_state
    case po=>first | exact ⟨x,c3,hx,rfl,rfl,rfl⟩ | exact ⟨⟨0,0,0,[],[],[],0,[]⟩,_,by simp [CmdF],rfl,rfl,rfl⟩
 ·try simp [zba,zbf,zbc,zbb] at hc1
  all_goals
   refine zbj ?_
   refine zbn ?_
   refine AW_x rfl rfl λK hK=>?_
   simp (disch:=omega) [zG6,cI,cS,cU,DtCmd.cells,cmdO,zbw,-aAppZ]
   repeat' first|(exfalso;omega)|(refine zdh [8] false [] (l4Right l hl (belowS l 12 c)) ?_ ?_ ?_;(focus (simp [List.range_succ,nmC];done));(focus (simp (disch:=omega) [zG6,cI,cS,cU,DtCmd.cells,cmdO,zbw,-aAppZ];done));simp (disch:=omega) [zG6,cI,cS,cU,DtCmd.cells,cmdO,zbw,-aAppZ])|(refine ⟨λ_=>?_,λ_=>?_⟩)|(refine ⟨by omega,?_⟩)|(simp (disch:=omega) [zG6,cI,cS,cU,DtCmd.cells,cmdO,zbw,-aAppZ])|(intro _)
   all_goals (refine hK _ ?_;clear hK K)
   all_goals
    refine zfw (λsS=>∃(x:DtCmd) (c3:Cur),(CmdF x)∧sS = { env:=lkE [(2,.ptr 48 0),(3,.ptr 64 0)],ob:=lk [(8,.cells (curC l c3)),(48,.cells [(.g (.int .i64 (0))),(.g (.int .i64 (0))),(.g (.int .i64 (0))),.s [],.s [],.s [],(.g (.int .i64 (0))),.g (.slice none 0 0)]),(64,.cells (cmdO x 501)),(501,.own 1 (x.fChunks.map cS))] }) ?_ ?_
    ·skip
     refine AW_x rfl rfl λK hK=>?_
     simp (disch:=omega) [zG6,cI,cS,cU,DtCmd.cells,cmdO,zbw,-aAppZ]
     repeat' first|(exfalso;omega)|(refine zcs (λ_=>xs_p (xs_g xs_z)) (zko l hl _ _) rfl rfl ?_;simp (disch:=omega) [zG6,cI,cS,cU,DtCmd.cells,cmdO,zbw,-aAppZ])|(refine ⟨by omega,?_⟩)|(simp (disch:=omega) [zG6,cI,cS,cU,DtCmd.cells,cmdO,zbw,-aAppZ])|(intro _)
     refine hK _ ?_;clear hK K
     refine zbh rfl (λhc2=>?_) (λhc2=>?_)
     ·try simp [zba,zbf,zbc,zbb] at hc2
      all_goals
       refine AW_x rfl rfl λK hK=>?_
       simp (disch:=omega) [zG6,cI,cS,cU,DtCmd.cells,cmdO,zbw,-aAppZ]
       repeat' first|(exfalso;omega)|(refine zcs (λ_=>xs_p (xs_g xs_z)) (zdi l hl _ _) rfl rfl ?_;simp (disch:=omega) [zG6,cI,cS,cU,DtCmd.cells,cmdO,zbw,-aAppZ])|(refine ⟨λ_=>?_,λ_=>?_⟩)|(refine ⟨by omega,?_⟩)|(simp (disch:=omega) [zG6,cI,cS,cU,DtCmd.cells,cmdO,zbw,-aAppZ])|(intro _)
       all_goals (refine hK _ ?_;clear hK K)
       all_goals
        refine zbm ?_
        refine AW_x rfl rfl λK hK=>?_
        simp (disch:=omega) [zG6,cI,cS,cU,DtCmd.cells,cmdO,zbw,-aAppZ]
        repeat' first|(refine ⟨by omega,?_⟩)|(intro _)
        refine hK _ ?_;clear hK K
        refine zbh rfl (λhc3=>?_) (λhc3=>?_)
        ·try simp [zba,zbf,zbc,zbb] at hc3
         all_goals
          refine zb3 rfl rfl λK hK=>?_
          simp (disch:=omega) [zG6,cI,cS,cU,DtCmd.cells,cmdO,zbw,-aAppZ]
          repeat' first|(exfalso;omega)|(first | refine zcm (λ_=>xs_p (xs_a xs_z)) (zc1 l hl _ [-1,0,8,3] (by simp)) rfl rfl rfl (by decide) rfl ?_ | refine zcm (λ_=>xs_p (xs_a xs_z)) (zc1 l hl _ [0,9,10] (by simp)) rfl rfl rfl (by decide) rfl ?_ | refine zcm (λ_=>xs_p (xs_a xs_z)) (zc1 l hl _ [0,1000,1001] (by simp)) rfl rfl rfl (by decide) rfl ?_ | refine zcm (λ_=>xs_p (xs_a xs_z)) (zc1 l hl _ [-1,9,10] (by simp)) rfl rfl rfl (by decide) rfl ?_;simp (disch:=omega) [zG6,cI,cS,cU,DtCmd.cells,cmdO,zbw,-aAppZ])|(refine ⟨λ_=>?_,λ_=>?_⟩)|(refine ⟨by omega,?_⟩)|(simp (disch:=omega) [zG6,cI,cS,cU,DtCmd.cells,cmdO,zbw,-aAppZ])|(intro _)
          all_goals (refine hK _ ?_;clear hK K)
          all_goals
           refine ⟨_,LeS.kx [(8,8),(48,48),(64,64),(501,144)] [(2,.ptr 48 0),(3,.ptr 64 0)] [(8,.cells (curC l (belowS l 4 (cE l c)))),(48,.cells [(.g (.int .i64 (0))),(.g (.int .i64 (0))),(.g (.int .i64 (0))),.s [],.s [],.s [],(.g (.int .i64 (0))),.g (.slice none 0 0)]),(64,.cells (cmdO (setKind (xA l c) (pickZ [-1,0,8,3] (below l 4 (cE l c)))) 501)),(501,.own 1 ((setKind (xA l c) (pickZ [-1,0,8,3] (below l 4 (cE l c)))).fChunks.map cS))] (by simp [zG7,KpR,renV2,renV,zbk,curC,cmdO,xA,cA,cE,setKind,setClient,setNo,setSet,setN,addCh];try (first | with_reducible rfl | omega)) (by simp [zG7,KpOX,renO,plO,cvO,renV,pl1,curC,cmdO,xA,cA,cE,setKind,setClient,setNo,setSet,setN,addCh];try (first | with_reducible rfl | exact zfc _ | exact ⟨rfl,zfc _⟩|(simp [cS,zfc];done) | trace_state)) (by rfl) (by simp) (by simp) (by rfl) (by simp [zG8,formsX]),setKind (xA l c) (pickZ [-1,0,8,3] (below l 4 (cE l c))),belowS l 4 (cE l c),?_,rfl⟩
           ·have hs6:=(S_bd l (belowS l 12 c)).1;have hq:=zjp hs6;first | exact hq | exact zgw hq (zds _ _ (by simp)) | exact zh4 hs6 (by rw [zgv];have:=zh3 l 9 (cE l c);omega)
        ·try simp [zba,zbf,zbc,zbb] at hc3
         all_goals
          refine AW_x rfl rfl λK hK=>?_
          simp (disch:=omega) [zG6,cI,cS,cU,DtCmd.cells,cmdO,zbw,-aAppZ]
          repeat' first|(exfalso;omega)|(refine ⟨λ_=>?_,λ_=>?_⟩)|(refine ⟨by omega,?_⟩)|(simp (disch:=omega) [zG6,cI,cS,cU,DtCmd.cells,cmdO,zbw,-aAppZ])|(intro _)
          all_goals (refine hK _ ?_;clear hK K)
          all_goals
           refine zbh rfl (λhc4=>?_) (λhc4=>?_)
           ·try simp [zba,zbf,zbc,zbb] at hc4
            all_goals
             refine zb3 rfl rfl λK hK=>?_
             simp (disch:=omega) [zG6,cI,cS,cU,DtCmd.cells,cmdO,zbw,-aAppZ]
             repeat' first|(exfalso;omega)|(first | refine zcm (λ_=>xs_p (xs_a xs_z)) (zc1 l hl _ [-1,0,8,3] (by simp)) rfl rfl rfl (by decide) rfl ?_ | refine zcm (λ_=>xs_p (xs_a xs_z)) (zc1 l hl _ [0,9,10] (by simp)) rfl rfl rfl (by decide) rfl ?_ | refine zcm (λ_=>xs_p (xs_a xs_z)) (zc1 l hl _ [0,1000,1001] (by simp)) rfl rfl rfl (by decide) rfl ?_ | refine zcm (λ_=>xs_p (xs_a xs_z)) (zc1 l hl _ [-1,9,10] (by simp)) rfl rfl rfl (by decide) rfl ?_;simp (disch:=omega) [zG6,cI,cS,cU,DtCmd.cells,cmdO,zbw,-aAppZ])|(refine ⟨λ_=>?_,λ_=>?_⟩)|(refine ⟨by omega,?_⟩)|(simp (disch:=omega) [zG6,cI,cS,cU,DtCmd.cells,cmdO,zbw,-aAppZ])|(intro _)
             all_goals (refine hK _ ?_;clear hK K)
             all_goals
              refine ⟨_,LeS.kx [(8,8),(48,48),(64,64),(501,144)] [(2,.ptr 48 0),(3,.ptr 64 0)] [(8,.cells (curC l (belowS l 3 (cE l c)))),(48,.cells [(.g (.int .i64 (0))),(.g (.int .i64 (0))),(.g (.int .i64 (0))),.s [],.s [],.s [],(.g (.int .i64 (0))),.g (.slice none 0 0)]),(64,.cells (cmdO (setClient (xA l c) (pickZ [0,9,10] (below l 3 (cE l c)))) 501)),(501,.own 1 ((setClient (xA l c) (pickZ [0,9,10] (below l 3 (cE l c)))).fChunks.map cS))] (by simp [zG7,KpR,renV2,renV,zbk,curC,cmdO,xA,cA,cE,setKind,setClient,setNo,setSet,setN,addCh];try (first | with_reducible rfl | omega)) (by simp [zG7,KpOX,renO,plO,cvO,renV,pl1,curC,cmdO,xA,cA,cE,setKind,setClient,setNo,setSet,setN,addCh];try (first | with_reducible rfl | exact zfc _ | exact ⟨rfl,zfc _⟩|(simp [cS,zfc];done) | trace_state)) (by rfl) (by simp) (by simp) (by rfl) (by simp [zG8,formsX]),setClient (xA l c) (pickZ [0,9,10] (below l 3 (cE l c))),belowS l 3 (cE l c),?_,rfl⟩
              ·have hs6:=(S_bd l (belowS l 12 c)).1;have hq:=zjp hs6;first | exact hq | exact zgw hq (zds _ _ (by simp)) | exact zh4 hs6 (by rw [zgv];have:=zh3 l 9 (cE l c);omega)
           ·try simp [zba,zbf,zbc,zbb] at hc4
            all_goals
             refine AW_x rfl rfl λK hK=>?_
             simp (disch:=omega) [zG6,cI,cS,cU,DtCmd.cells,cmdO,zbw,-aAppZ]
             repeat' first|(exfalso;omega)|(refine ⟨λ_=>?_,λ_=>?_⟩)|(refine ⟨by omega,?_⟩)|(simp (disch:=omega) [zG6,cI,cS,cU,DtCmd.cells,cmdO,zbw,-aAppZ])|(intro _)
             all_goals (refine hK _ ?_;clear hK K)
             all_goals
              refine zbh rfl (λhc5=>?_) (λhc5=>?_)
              ·try simp [zba,zbf,zbc,zbb] at hc5
               all_goals
                refine zb3 rfl rfl λK hK=>?_
                simp (disch:=omega) [zG6,cI,cS,cU,DtCmd.cells,cmdO,zbw,-aAppZ]
                repeat' first|(exfalso;omega)|(first | refine zcm (λ_=>xs_p (xs_a xs_z)) (zc1 l hl _ [-1,0,8,3] (by simp)) rfl rfl rfl (by decide) rfl ?_ | refine zcm (λ_=>xs_p (xs_a xs_z)) (zc1 l hl _ [0,9,10] (by simp)) rfl rfl rfl (by decide) rfl ?_ | refine zcm (λ_=>xs_p (xs_a xs_z)) (zc1 l hl _ [0,1000,1001] (by simp)) rfl rfl rfl (by decide) rfl ?_ | refine zcm (λ_=>xs_p (xs_a xs_z)) (zc1 l hl _ [-1,9,10] (by simp)) rfl rfl rfl (by decide) rfl ?_;simp (disch:=omega) [zG6,cI,cS,cU,DtCmd.cells,cmdO,zbw,-aAppZ])|(refine ⟨λ_=>?_,λ_=>?_⟩)|(refine ⟨by omega,?_⟩)|(simp (disch:=omega) [zG6,cI,cS,cU,DtCmd.cells,cmdO,zbw,-aAppZ])|(intro _)
                all_goals (refine hK _ ?_;clear hK K)
                all_goals
                 refine ⟨_,LeS.kx [(8,8),(48,48),(64,64),(501,144)] [(2,.ptr 48 0),(3,.ptr 64 0)] [(8,.cells (curC l (belowS l 3 (cE l c)))),(48,.cells [(.g (.int .i64 (0))),(.g (.int .i64 (0))),(.g (.int .i64 (0))),.s [],.s [],.s [],(.g (.int .i64 (0))),.g (.slice none 0 0)]),(64,.cells (cmdO (setNo (xA l c) (pickZ [0,1000,1001] (below l 3 (cE l c)))) 501)),(501,.own 1 ((setNo (xA l c) (pickZ [0,1000,1001] (below l 3 (cE l c)))).fChunks.map cS))] (by simp [zG7,KpR,renV2,renV,zbk,curC,cmdO,xA,cA,cE,setKind,setClient,setNo,setSet,setN,addCh];try (first | with_reducible rfl | omega)) (by simp [zG7,KpOX,renO,plO,cvO,renV,pl1,curC,cmdO,xA,cA,cE,setKind,setClient,setNo,setSet,setN,addCh];try (first | with_reducible rfl | exact zfc _ | exact ⟨rfl,zfc _⟩|(simp [cS,zfc];done) | trace_state)) (by rfl) (by simp) (by simp) (by rfl) (by simp [zG8,formsX]),setNo (xA l c) (pickZ [0,1000,1001] (below l 3 (cE l c))),belowS l 3 (cE l c),?_,rfl⟩
                 ·have hs6:=(S_bd l (belowS l 12 c)).1;have hq:=zjp hs6;first | exact hq | exact zgw hq (zds _ _ (by simp)) | exact zh4 hs6 (by rw [zgv];have:=zh3 l 9 (cE l c);omega)
              ·try simp [zba,zbf,zbc,zbb] at hc5
               all_goals
                refine AW_x rfl rfl λK hK=>?_
                simp (disch:=omega) [zG6,cI,cS,cU,DtCmd.cells,cmdO,zbw,-aAppZ]
                repeat' first|(exfalso;omega)|(refine ⟨λ_=>?_,λ_=>?_⟩)|(refine ⟨by omega,?_⟩)|(simp (disch:=omega) [zG6,cI,cS,cU,DtCmd.cells,cmdO,zbw,-aAppZ])|(intro _)
                all_goals (refine hK _ ?_;clear hK K)
                all_goals
                 refine zbh rfl (λhc6=>?_) (λhc6=>?_)
                 ·try simp [zba,zbf,zbc,zbb] at hc6
                  all_goals
                   refine zb3 rfl rfl λK hK=>?_
                   simp (disch:=omega) [zG6,cI,cS,cU,DtCmd.cells,cmdO,zbw,-aAppZ]
                   repeat' first|(exfalso;omega)|(refine zcm (λ_=>xs_p (xs_a xs_z)) (zgy l hl _ [[],[65],[97,98,99,100,101,102,103,104],[97,98,99,100,101,102,103,104,105]] (by simp)) rfl rfl rfl (by decide) rfl ?_;simp (disch:=omega) [zG6,cI,cS,cU,DtCmd.cells,cmdO,zbw,-aAppZ])|(refine ⟨λ_=>?_,λ_=>?_⟩)|(refine ⟨by omega,?_⟩)|(simp (disch:=omega) [zG6,cI,cS,cU,DtCmd.cells,cmdO,zbw,-aAppZ])|(intro _)
                   all_goals (refine hK _ ?_;clear hK K)
                   all_goals
                    refine ⟨_,LeS.kx [(8,8),(48,48),(64,64),(501,144)] [(2,.ptr 48 0),(3,.ptr 64 0)] [(8,.cells (curC l (belowS l 4 (cE l c)))),(48,.cells [(.g (.int .i64 (0))),(.g (.int .i64 (0))),(.g (.int .i64 (0))),.s [],.s [],.s [],(.g (.int .i64 (0))),.g (.slice none 0 0)]),(64,.cells (cmdO (setSet (xA l c) (([[],[65],[97,98,99,100,101,102,103,104],[97,98,99,100,101,102,103,104,105]]:List (List UInt8)).getD (below l 4 (cE l c)).toNat [])) 501)),(501,.own 1 ((setSet (xA l c) (([[],[65],[97,98,99,100,101,102,103,104],[97,98,99,100,101,102,103,104,105]]:List (List UInt8)).getD (below l 4 (cE l c)).toNat [])).fChunks.map cS))] (by simp [zG7,KpR,renV2,renV,zbk,curC,cmdO,xA,cA,cE,setKind,setClient,setNo,setSet,setN,addCh];try (first | with_reducible rfl | omega)) (by simp [zG7,KpOX,renO,plO,cvO,renV,pl1,curC,cmdO,xA,cA,cE,setKind,setClient,setNo,setSet,setN,addCh];try (first | with_reducible rfl | exact zfc _ | exact ⟨rfl,zfc _⟩|(simp [cS,zfc];done) | trace_state)) (by rfl) (by simp) (by simp) (by rfl) (by simp [zG8,formsX]),setSet (xA l c) (([[],[65],[97,98,99,100,101,102,103,104],[97,98,99,100,101,102,103,104,105]]:List (List UInt8)).getD (below l 4 (cE l c)).toNat []),belowS l 4 (cE l c),?_,rfl⟩
                    ·have hs6:=(S_bd l (belowS l 12 c)).1;have hq:=zjp hs6;first | exact hq | exact zgw hq (zds _ _ (by simp)) | exact zh4 hs6 (by rw [zgv];have:=zh3 l 9 (cE l c);omega)
                 ·try simp [zba,zbf,zbc,zbb] at hc6
                  all_goals
                   refine AW_x rfl rfl λK hK=>?_
                   simp (disch:=omega) [zG6,cI,cS,cU,DtCmd.cells,cmdO,zbw,-aAppZ]
                   repeat' first|(exfalso;omega)|(refine ⟨λ_=>?_,λ_=>?_⟩)|(refine ⟨by omega,?_⟩)|(simp (disch:=omega) [zG6,cI,cS,cU,DtCmd.cells,cmdO,zbw,-aAppZ])|(intro _)
                   all_goals (refine hK _ ?_;clear hK K)
                   all_goals
                    refine zbh rfl (λhc7=>?_) (λhc7=>?_)
                    ·try simp [zba,zbf,zbc,zbb] at hc7
                     all_goals
                      refine zb3 rfl rfl λK hK=>?_
                      simp (disch:=omega) [zG6,cI,cS,cU,DtCmd.cells,cmdO,zbw,-aAppZ]
                      repeat' first|(exfalso;omega)|(first | refine zcm (λ_=>xs_p (xs_a xs_z)) (zc1 l hl _ [-1,0,8,3] (by simp)) rfl rfl rfl (by decide) rfl ?_ | refine zcm (λ_=>xs_p (xs_a xs_z)) (zc1 l hl _ [0,9,10] (by simp)) rfl rfl rfl (by decide) rfl ?_ | refine zcm (λ_=>xs_p (xs_a xs_z)) (zc1 l hl _ [0,1000,1001] (by simp)) rfl rfl rfl (by decide) rfl ?_ | refine zcm (λ_=>xs_p (xs_a xs_z)) (zc1 l hl _ [-1,9,10] (by simp)) rfl rfl rfl (by decide) rfl ?_;simp (disch:=omega) [zG6,cI,cS,cU,DtCmd.cells,cmdO,zbw,-aAppZ])|(refine ⟨λ_=>?_,λ_=>?_⟩)|(refine ⟨by omega,?_⟩)|(simp (disch:=omega) [zG6,cI,cS,cU,DtCmd.cells,cmdO,zbw,-aAppZ])|(intro _)
                      all_goals (refine hK _ ?_;clear hK K)
                      all_goals
                       refine ⟨_,LeS.kx [(8,8),(48,48),(64,64),(501,144)] [(2,.ptr 48 0),(3,.ptr 64 0)] [(8,.cells (curC l (belowS l 3 (cE l c)))),(48,.cells [(.g (.int .i64 (0))),(.g (.int .i64 (0))),(.g (.int .i64 (0))),.s [],.s [],.s [],(.g (.int .i64 (0))),.g (.slice none 0 0)]),(64,.cells (cmdO (setN (xA l c) (pickZ [-1,9,10] (below l 3 (cE l c)))) 501)),(501,.own 1 ((setN (xA l c) (pickZ [-1,9,10] (below l 3 (cE l c)))).fChunks.map cS))] (by simp [zG7,KpR,renV2,renV,zbk,curC,cmdO,xA,cA,cE,setKind,setClient,setNo,setSet,setN,addCh];try (first | with_reducible rfl | omega)) (by simp [zG7,KpOX,renO,plO,cvO,renV,pl1,curC,cmdO,xA,cA,cE,setKind,setClient,setNo,setSet,setN,addCh];try (first | with_reducible rfl | exact zfc _ | exact ⟨rfl,zfc _⟩|(simp [cS,zfc];done) | trace_state)) (by rfl) (by simp) (by simp) (by rfl) (by simp [zG8,formsX]),setN (xA l c) (pickZ [-1,9,10] (below l 3 (cE l c))),belowS l 3 (cE l c),?_,rfl⟩
                       ·have hs6:=(S_bd l (belowS l 12 c)).1;have hq:=zjp hs6;first | exact hq | exact zgw hq (zds _ _ (by simp)) | exact zh4 hs6 (by rw [zgv];have:=zh3 l 9 (cE l c);omega)
                    ·try simp [zba,zbf,zbc,zbb] at hc7
                     all_goals
                      have hs6:=(S_bd l (belowS l 12 c)).1.2.2.2.1
                      refine zh2 rfl mix (by kernel_rfl) (by kernel_rfl) λK hK=>?_
                      simp (disch:=omega) [zG6,cI,cS,cU,DtCmd.cells,cmdO,zbw,-aAppZ]
                      repeat' first|(exfalso;omega)|(refine zqv (λ_=>xs_p (xs_g xs_z)) (l1Text l hl _ 9 (by omega)) rfl rfl ?_;simp (disch:=omega) [zG6,cI,cS,cU,DtCmd.cells,cmdO,zbw,-aAppZ])|(refine ⟨λ_=>?_,λ_=>?_⟩)|(refine ⟨by omega,?_⟩)|(simp (disch:=omega) [zG6,cI,cS,cU,DtCmd.cells,cmdO,zbw,-aAppZ])|(intro _)
                      all_goals (refine hK _ _ (by kernel_rfl) ?_;clear hK K)
                      all_goals
                       refine ⟨_,LeS.kx [(8,8),(48,48),(64,64),(501,304)] [(2,.ptr 48 0),(3,.ptr 64 0)] [(8,.cells (curC l ((TXT l 9 (cE l c)).2))),(48,.cells [(.g (.int .i64 (0))),(.g (.int .i64 (0))),(.g (.int .i64 (0))),.s [],.s [],.s [],(.g (.int .i64 (0))),.g (.slice none 0 0)]),(64,.cells (cmdO (addCh (xA l c) (strN (TXT l 9 (cE l c)).1)) 501)),(501,.own 1 ((addCh (xA l c) (strN (TXT l 9 (cE l c)).1)).fChunks.map cS))] (by simp [zG7,KpR,renV2,renV,zbk,curC,cmdO,xA,cA,cE,setKind,setClient,setNo,setSet,setN,addCh];try (first | with_reducible rfl | omega)) (by simp [zG7,KpOX,renO,plO,cvO,renV,pl1,curC,cmdO,xA,cA,cE,setKind,setClient,setNo,setSet,setN,addCh];try (first | with_reducible rfl | exact zfc _ | exact ⟨rfl,zfc _⟩|(simp [cS,zfc];done) | trace_state)) (by rfl) (by simp) (by simp) (by rfl) (by simp [zG8,formsX]),addCh (xA l c) (strN (TXT l 9 (cE l c)).1),(TXT l 9 (cE l c)).2,?_,rfl⟩
                       ·have hs6:=(S_bd l (belowS l 12 c)).1;have hq:=zjp hs6;first | exact hq | exact zgw hq (zds _ _ (by simp)) | exact zh4 hs6 (by rw [zgv];have:=zh3 l 9 (cE l c);omega)
     ·try simp [zba,zbf,zbc,zbb] at hc2
      all_goals
       refine zbj ?_
       refine ⟨_,LeS.kx [(8,8),(48,48),(64,64),(501,144)] [(2,.ptr 48 0),(3,.ptr 64 0)] [(8,.cells (curC l (belowS l 8 (cA l c)))),(48,.cells [(.g (.int .i64 (0))),(.g (.int .i64 (0))),(.g (.int .i64 (0))),.s [],.s [],.s [],(.g (.int .i64 (0))),.g (.slice none 0 0)]),(64,.cells (cmdO (xA l c) 501)),(501,.own 1 ((xA l c).fChunks.map cS))] (by simp [zG7,KpR,renV2,renV,zbk,curC,cmdO,xA,cA,cE,setKind,setClient,setNo,setSet,setN,addCh];try (first | with_reducible rfl | omega)) (by simp [zG7,KpOX,renO,plO,cvO,renV,pl1,curC,cmdO,xA,cA,cE,setKind,setClient,setNo,setSet,setN,addCh];try (first | with_reducible rfl | exact zfc _ | exact ⟨rfl,zfc _⟩|(simp [cS,zfc];done) | trace_state)) (by rfl) (by simp) (by simp) (by rfl) (by simp [zG8,formsX]),xA l c,belowS l 8 (cA l c),?_,rfl⟩
       ·have hs6:=(S_bd l (belowS l 12 c)).1;have hq:=zjp hs6;first | exact hq | exact zgw hq (zds _ _ (by simp)) | exact zh4 hs6 (by rw [zgv];have:=zh3 l 9 (cE l c);omega)
    ·rintro sS ⟨x,c3,hx,rfl⟩
     refine AW_x rfl rfl λK hK=>?_
     simp (disch:=omega) [zG6,cI,cS,cU,DtCmd.cells,cmdO,zbw,-aAppZ]
     repeat' first|(exfalso;omega)|(refine ⟨λ_=>?_,λ_=>?_⟩)|(refine ⟨by omega,?_⟩)|(simp (disch:=omega) [zG6,cI,cS,cU,DtCmd.cells,cmdO,zbw,-aAppZ])|(intro _)
     all_goals (refine hK _ ?_;clear hK K)
     all_goals
      refine zbp ⟨(.agg (cmdO x 16)),[.cells (curC l c3)],[.own 1 (x.fChunks.map cS)],?po,(by simp),(by simp),(by simp [OB.xk]),(zb0 [501] [] (by simp [zG7,List.range_succ]) (by simp) ?en)⟩
      case en =>
       simp (disch:=omega) [zG6,cI,cS,cU,DtCmd.cells,cmdO,zbw,-aAppZ]
       all_goals trace_state
      case po=>first | exact ⟨x,c3,hx,rfl,rfl,rfl⟩ | exact ⟨⟨0,0,0,[],[],[],0,[]⟩,_,by simp [CmdF],rfl,rfl,rfl⟩
end Go.Proofs.Ytodmafgmdlkhoaa.Vs
end
section
namespace Go.Proofs.Ytodmafgmdlkhoaa.Vs
set_option linter.all false
set_option maxRecDepth 100000
set_option maxHeartbeats 2000000
attribute [local simp] cmdO
def pkS(l:List Int)(c:Cur):List UInt8:=([[97],[98],[97,98],[99],[100],[101],[102]]:List (List UInt8)).getD (below l 7 c).toNat []
def CmdsE(l:List Int)(m:Nat)(r:AV)(wos' fos:List OB):Prop:=∃(cs:List DtCmd) (c':Cur),cs.length≤m∧(∀x∈cs,CmdF x)∧r=.arr 16 0 cs.length∧wos'=[.cells (curC l c')]∧fos=[.own 8 (cs.map DtCmd.cells)]
theorem l15Cmds(l:List Int)(hl:Code l)(c:Cur)(m:Nat)(hm:m≤1000)(hm0:0<m):XCallE Try.prog 83 [.ptr 8 0,(.g (.int .i64 ((m:Nat))))] [.cells (curC l c)] 1 (CmdsE l m):=by
 refine zdf Try.func83 (by rfl) (by rfl) (by rw [Try.ntmps83];exact Nat.le_of_ble_eq_true rfl) (by simp) rfl ?_
 rw [Try.ntmps83]
 refine zhl (.cells (curC l c)) (by simp [cvO]<;>assumption) ?_
 refine AW_k [(0,_),(1,_)] ⟨rfl,rfl,trivial⟩ ?_
 refine AW_x rfl rfl λK hK=>?_
 simp (disch:=omega) [zG6,cI,cS,cU,DtCmd.cells,cmdO,zbw,-aAppZ]
 repeat' first|(refine ⟨by omega,?_⟩)|(intro _)
 refine hK _ ?_;clear hK K
 refine AW_x rfl rfl λK hK=>?_
 simp (disch:=omega) [zG6,cI,cS,cU,DtCmd.cells,cmdO,zbw,-aAppZ]
 repeat' first|(refine ⟨by omega,?_⟩)|(simp (disch:=omega) [zG6,cI,cS,cU,DtCmd.cells,cmdO,zbw,-aAppZ])|(intro _)
 refine hK _ ?_;clear hK K
 refine zbi ?_
 refine AW_x rfl rfl λK hK=>?_
 simp (disch:=omega) [zG6,cI,cS,cU,DtCmd.cells,cmdO,zbw,-aAppZ]
 repeat' first|(exfalso;omega)|(refine zcs (λ_=>xs_p (xs_g xs_z)) (zdi l hl _ _) rfl rfl ?_;simp (disch:=omega) [zG6,cI,cS,cU,DtCmd.cells,cmdO,zbw,-aAppZ])|(refine ⟨by omega,?_⟩)|(simp (disch:=omega) [zG6,cI,cS,cU,DtCmd.cells,cmdO,zbw,-aAppZ])|(intro _)
 refine hK _ ?_;clear hK K
 refine zbm ?_
 have hb7:=zc5 l m c
 refine zbv (λmM sS=>∃(n:Nat) (cs:List DtCmd) (c2:Cur),mM=2*n∧(n+cs.length≤m∧∀x∈cs,CmdF x)∧sS = { env:=lkE [(0,.ptr 8 0),(5,.arr 501 0 cs.length),(6,(.g (.int .i64 ((n:Nat)))))],ob:=lk [(8,.cells (curC l c2)),(501,.own 8 (cs.map DtCmd.cells))] }) ?_ ?_
 ·refine ⟨_,LeS.kx [(8,8),(501,144)] [(0,.ptr 8 0),(5,.arr 501 0 ([]).length),(6,(.g (.int .i64 ((((below l m c).toNat):Nat)))))] [(8,.cells (curC l (belowS l m c))),(501,.own 8 (([]).map DtCmd.cells))] (by simp [zG7,KpR,renV2,renV,zbk,curC,DtCmd.cells,cmdO];try (first | with_reducible rfl | omega)) (by simp [zG7,KpOX,renO,plO,cvO,renV,pl1,curC,DtCmd.cells,cmdO];try (first | with_reducible rfl|(simp [DtCmd.cells,zbl];done) | trace_state)) (by rfl) (by simp) (by simp) (by rfl) (by simp [zG8,formsX]),_,(below l m c).toNat,[],belowS l m c,rfl,?_,rfl⟩
  ·exact ⟨by simp;omega,by simp⟩
 ·rintro mM sS ⟨n,cs,c2,rfl,⟨hnl,hd⟩,rfl⟩
  refine zbi ?_
  refine AW_x rfl rfl λK hK=>?_
  simp (disch:=omega) [zG6,cI,cS,cU,DtCmd.cells,cmdO,zbw,-aAppZ]
  repeat' first|(refine ⟨by omega,?_⟩)|(intro _)
  refine hK _ ?_;clear hK K
  refine zbh rfl (λhc1=>?_) (λhc1=>?_)
  ·try simp [zba,zbf,zbc,zbb] at hc1
   all_goals
    have hs6:=(S_bd l c2).1
    refine zbj ?_
    refine zbn ?_
    refine zbi ?_
    refine zbm ?_
    refine AW_x rfl rfl λK hK=>?_
    simp (disch:=omega) [zG6,cI,cS,cU,DtCmd.cells,cmdO,zbw,-aAppZ]
    repeat' first|(exfalso;omega)|(refine zdh [8] false [] (l4Right l hl c2) ?_ ?_ ?_;(focus (simp [List.range_succ,nmC];done));(focus (simp (disch:=omega) [zG6,cI,cS,cU,DtCmd.cells,cmdO,zbw,-aAppZ];done));simp (disch:=omega) [zG6,cI,cS,cU,DtCmd.cells,cmdO,zbw,-aAppZ])|(refine ⟨λ_=>?_,λ_=>?_⟩)|(refine ⟨by omega,?_⟩)|(simp (disch:=omega) [zG6,cI,cS,cU,DtCmd.cells,cmdO,zbw,-aAppZ])|(intro _)
    all_goals (refine hK _ ?_;clear hK K)
    all_goals
     refine zfw (λsS=>∃(x:DtCmd) (c3:Cur),(CmdF x)∧sS = { env:=lkE [(0,.ptr 8 0),(5,.arr 501 0 cs.length),(6,(.g (.int .i64 ((n:Nat))))),(7,.ptr 128 0)],ob:=lk [(8,.cells (curC l c3)),(501,.own 8 (cs.map DtCmd.cells)),(128,.cells (cmdO x 502)),(502,.own 1 (x.fChunks.map cS))] }) ?_ ?_
     ·skip
      refine AW_x rfl rfl λK hK=>?_
      simp (disch:=omega) [zG6,cI,cS,cU,DtCmd.cells,cmdO,zbw,-aAppZ]
      repeat' first|(exfalso;omega)|(refine zcs (λ_=>xs_p (xs_g xs_z)) (zko l hl _ _) rfl rfl ?_;simp (disch:=omega) [zG6,cI,cS,cU,DtCmd.cells,cmdO,zbw,-aAppZ])|(refine ⟨by omega,?_⟩)|(simp (disch:=omega) [zG6,cI,cS,cU,DtCmd.cells,cmdO,zbw,-aAppZ])|(intro _)
      refine hK _ ?_;clear hK K
      refine zbh rfl (λhc2=>?_) (λhc2=>?_)
      ·try simp [zba,zbf,zbc,zbb] at hc2
       all_goals
        refine zh2 rfl mix (by kernel_rfl) (by kernel_rfl) λK hK=>?_
        simp (disch:=omega) [zG6,cI,cS,cU,DtCmd.cells,cmdO,zbw,-aAppZ]
        repeat' first|(exfalso;omega)|(refine DKd_cur2 (λ_=>xs_p (xs_a xs_z)) (zgy l hl _ [[97],[98],[97,98],[99],[100],[101],[102]] (by simp)) rfl rfl rfl (by decide) rfl ?_;simp (disch:=omega) [zG6,cI,cS,cU,DtCmd.cells,cmdO,zbw,-aAppZ])|(refine ⟨λ_=>?_,λ_=>?_⟩)|(refine ⟨by omega,?_⟩)|(simp (disch:=omega) [zG6,cI,cS,cU,DtCmd.cells,cmdO,zbw,-aAppZ])|(intro _)
        all_goals (refine hK _ _ (by kernel_rfl) ?_;clear hK K)
        all_goals
         refine ⟨_,LeS.trans (LeS.znc (cs:=[(.g (.int .i64 (1))),(.g (.int .i64 ((S6 l c2).x.fClient))),(.g (.int .i64 ((S6 l c2).x.fNo))),.s (pkS l (belowS l 4 (S6 l c2).c)),.s [],.s [],(.g (.int .i64 (0))),.g (.slice none 0 0)]) 502 1 128 7 (by simp [zG7,zbk]) (by simp [zG7,zbk,curC,cmdO,pkS]) (by rfl)) (LeS.kx [(8,8),(501,501),(128,128),(502,502)] [(0,.ptr 8 0),(5,.arr 501 0 cs.length),(6,(.g (.int .i64 ((n:Nat))))),(7,.ptr 128 0)] [(8,.cells (curC l (belowS l 7 (belowS l 4 (S6 l c2).c)))),(501,.own 8 (cs.map DtCmd.cells)),(128,.cells (cmdO (DtCmd.mk 1 (S6 l c2).x.fClient (S6 l c2).x.fNo (pkS l (belowS l 4 (S6 l c2).c)) [] [] 0 []) 502)),(502,.own 1 ((DtCmd.mk 1 (S6 l c2).x.fClient (S6 l c2).x.fNo (pkS l (belowS l 4 (S6 l c2).c)) [] [] 0 []).fChunks.map cS))] (by simp [zG7,KpR,renV2,renV,zbk,curC,cmdO,pkS];try (first | with_reducible rfl | omega)) (by simp [zG7,KpOX,renO,plO,cvO,renV,pl1,curC,cmdO,pkS];try (first | with_reducible rfl|(simp [cS];done) | trace_state)) (by rfl) (by simp) (by simp) (by rfl) (by simp [zG8,formsX])),DtCmd.mk 1 (S6 l c2).x.fClient (S6 l c2).x.fNo (pkS l (belowS l 4 (S6 l c2).c)) [] [] 0 [],belowS l 7 (belowS l 4 (S6 l c2).c),?_,rfl⟩
         ·first | exact zjp hs6 | exact ⟨zds _ _ (by simp),by simp,by simp,by simp,by simp⟩
      ·try simp [zba,zbf,zbc,zbb] at hc2
       all_goals
        refine zbj ?_
        refine ⟨_,LeS.kx [(8,8),(501,501),(128,128),(502,288)] [(0,.ptr 8 0),(5,.arr 501 0 cs.length),(6,(.g (.int .i64 ((n:Nat))))),(7,.ptr 128 0)] [(8,.cells (curC l (belowS l 4 (S6 l c2).c))),(501,.own 8 (cs.map DtCmd.cells)),(128,.cells (cmdO ((S6 l c2).x) 502)),(502,.own 1 (((S6 l c2).x).fChunks.map cS))] (by simp [zG7,KpR,renV2,renV,zbk,curC,cmdO,pkS];try (first | with_reducible rfl | omega)) (by simp [zG7,KpOX,renO,plO,cvO,renV,pl1,curC,cmdO,pkS];try (first | with_reducible rfl|(simp [cS];done) | trace_state)) (by rfl) (by simp) (by simp) (by rfl) (by simp [zG8,formsX]),(S6 l c2).x,belowS l 4 (S6 l c2).c,?_,rfl⟩
        ·first | exact zjp hs6 | exact ⟨zds _ _ (by simp),by simp,by simp,by simp,by simp⟩
     ·rintro sS ⟨x,c3,hx,rfl⟩
      refine zfw (λsS=>∃(y:DtCmd) (c4:Cur),(CmdF y)∧sS = { env:=lkE [(0,.ptr 8 0),(5,.arr 501 0 cs.length),(6,(.g (.int .i64 ((n:Nat))))),(7,.ptr 128 0)],ob:=lk [(8,.cells (curC l c4)),(501,.own 8 (cs.map DtCmd.cells)),(128,.cells (cmdO y 502)),(502,.own 1 (y.fChunks.map cS))] }) ?_ ?_
      ·skip
       refine AW_x rfl rfl λK hK=>?_
       simp (disch:=omega) [zG6,cI,cS,cU,DtCmd.cells,cmdO,zbw,-aAppZ]
       repeat' first|(exfalso;omega)|(refine zcs (λ_=>xs_p (xs_g xs_z)) (zko l hl _ _) rfl rfl ?_;simp (disch:=omega) [zG6,cI,cS,cU,DtCmd.cells,cmdO,zbw,-aAppZ])|(refine ⟨λ_=>?_,λ_=>?_⟩)|(refine ⟨by omega,?_⟩)|(simp (disch:=omega) [zG6,cI,cS,cU,DtCmd.cells,cmdO,zbw,-aAppZ])|(intro _)
       all_goals (refine hK _ ?_;clear hK K)
       all_goals
        refine zbh rfl (λhc3=>?_) (λhc3=>?_)
        ·try simp [zba,zbf,zbc,zbb] at hc3
         all_goals
          refine zb3 rfl rfl λK hK=>?_
          simp (disch:=omega) [zG6,cI,cS,cU,DtCmd.cells,cmdO,zbw,-aAppZ]
          repeat' first|(exfalso;omega)|(refine zkx [8] false [] (l4Cmd l hl (belowS l 15 c3)) ?_ ?_ ?_;(focus (simp [List.range_succ,nmC];done));(focus (simp (disch:=omega) [zG6,cI,cS,cU,DtCmd.cells,cmdO,zbw,-aAppZ];done));rintro _ _ _ ⟨z,cz,hz,rfl,rfl,rfl⟩;refine ⟨⟨by first | rfl|(simp;done),by first | rfl|(simp;done)⟩,?_⟩;simp (disch:=omega) [zG6,cI,cS,cU,DtCmd.cells,cmdO,zbw,-aAppZ])|(refine ⟨λ_=>?_,λ_=>?_⟩)|(refine ⟨by omega,?_⟩)|(simp (disch:=omega) [zG6,cI,cS,cU,DtCmd.cells,cmdO,zbw,-aAppZ])|(intro _)
          all_goals (refine hK _ ?_;clear hK K)
          all_goals
           refine ⟨_,LeS.kx [(8,8),(501,501),(128,128),(502,512)] [(0,.ptr 8 0),(5,.arr 501 0 cs.length),(6,(.g (.int .i64 ((n:Nat))))),(7,.ptr 128 0)] [(8,.cells (curC l (cz))),(501,.own 8 (cs.map DtCmd.cells)),(128,.cells (cmdO (z) 502)),(502,.own 1 ((z).fChunks.map cS))] (by simp [zG7,KpR,renV2,renV,zbk,curC,cmdO];try (first | with_reducible rfl | omega)) (by simp [zG7,KpOX,renO,plO,cvO,renV,pl1,curC,cmdO];try (first | with_reducible rfl | trace_state)) (by rfl) (by simp) (by simp) (by rfl) (by simp [zG8,formsX]),z,cz,?_,rfl⟩
           ·first | exact hz | exact hx
        ·try simp [zba,zbf,zbc,zbb] at hc3
         all_goals
          refine zbj ?_
          refine ⟨_,LeS.kx [(8,8),(501,501),(128,128),(502,502)] [(0,.ptr 8 0),(5,.arr 501 0 cs.length),(6,(.g (.int .i64 ((n:Nat))))),(7,.ptr 128 0)] [(8,.cells (curC l (belowS l 15 c3))),(501,.own 8 (cs.map DtCmd.cells)),(128,.cells (cmdO (x) 502)),(502,.own 1 ((x).fChunks.map cS))] (by simp [zG7,KpR,renV2,renV,zbk,curC,cmdO];try (first | with_reducible rfl | omega)) (by simp [zG7,KpOX,renO,plO,cvO,renV,pl1,curC,cmdO];try (first | with_reducible rfl | trace_state)) (by rfl) (by simp) (by simp) (by rfl) (by simp [zG8,formsX]),x,belowS l 15 c3,?_,rfl⟩
          ·first | exact hz | exact hx
      ·rintro sS ⟨y,c4,hy,rfl⟩
       refine zb3 rfl rfl λK hK=>?_
       simp (disch:=omega) [zG6,cI,cS,cU,DtCmd.cells,cmdO,zbw,-aAppZ]
       repeat' first|(exfalso;omega)|(refine ⟨λ_=>?_,λ_=>?_⟩)|(refine ⟨by omega,?_⟩)|(simp (disch:=omega) [zG6,cI,cS,cU,DtCmd.cells,cmdO,zbw,-aAppZ])|(intro _)
       all_goals (refine hK _ ?_;clear hK K)
       all_goals
        refine zbn ?_
        refine zb3 rfl rfl λK hK=>?_
        simp (disch:=omega) [zG6,cI,cS,cU,DtCmd.cells,cmdO,zbw,-aAppZ]
        repeat' first|(refine ⟨by omega,?_⟩)|(intro _)
        refine hK _ ?_;clear hK K
        refine ⟨_,LeS.kx [(8,8),(501,576)] [(0,.ptr 8 0),(5,.arr 501 0 (cs++[y]).length),(6,(.g (.int .i64 (((n-1):Nat)))))] [(8,.cells (curC l (c4))),(501,.own 8 ((cs++[y]).map DtCmd.cells))] (by simp [zG7,KpR,renV2,renV,zbk,curC,DtCmd.cells,cmdO];try (first | with_reducible rfl | omega)) (by simp [zG7,KpOX,renO,plO,cvO,renV,pl1,curC,DtCmd.cells,cmdO];try (first | with_reducible rfl|(simp [DtCmd.cells,zbl];done) | trace_state)) (by rfl) (by simp) (by simp) (by rfl) (by simp [zG8,formsX]),_,?_,n-1,cs++[y],c4,rfl,?_,rfl⟩
        ·omega
        ·exact ⟨by simp;omega,λu hu=>by rcases List.mem_append.1 hu with hu | hu;exact hd u hu;rw [List.mem_singleton] at hu;subst hu;exact hy⟩
  ·try simp [zba,zbf,zbc,zbb] at hc1
   all_goals
    refine zbx ?_
    refine zbn ?_
    refine AW_x rfl rfl λK hK=>?_
    simp (disch:=omega) [zG6,cI,cS,cU,DtCmd.cells,cmdO,zbw,-aAppZ]
    repeat' first|(exfalso;omega)|(refine ⟨λ_=>?_,λ_=>?_⟩)|(refine ⟨by omega,?_⟩)|(simp (disch:=omega) [zG6,cI,cS,cU,DtCmd.cells,cmdO,zbw,-aAppZ])|(intro _)
    all_goals (refine hK _ ?_;clear hK K)
    all_goals
     refine zh0 (.arr 16 0 cs.length) [.cells (curC l c2)] [.own 8 (cs.map DtCmd.cells)] ?po (by simp) (by simp) (by simp [OB.xk]) (zb0 [501] [] (by simp [zG7,List.range_succ]) (by simp) ?en)
     case en =>
      simp (disch:=omega) [zG6,cI,cS,cU,DtCmd.cells,cmdO,zbw,-aAppZ]
      all_goals trace_state
     case po=>exact ⟨cs,c2,by omega,hd,rfl,rfl,rfl⟩
end Go.Proofs.Ytodmafgmdlkhoaa.Vs
end
section
namespace Go.Proofs.Ytodmafgmdlkhoaa.Vs
set_option linter.all false
set_option maxRecDepth 100000
set_option maxHeartbeats 2000000
theorem set_F{cs:List DtCmd}(h:∀x∈cs,CmdF x){i:Nat}{y:DtCmd}(hy:CmdF y):∀x∈cs.set i y,CmdF x:=by
 intro x hx
 rcases List.mem_or_eq_of_mem_set hx with hx | rfl
 ·exact h x hx
 ·exact hy
theorem l16Cmds(l:List Int)(hl:Code l)(c:Cur)(m:Nat)(hm:m≤1000)(hm0:0<m):XCallE Try.prog 51 [.ptr 8 0,(.g (.int .i64 ((m:Nat))))] [.cells (curC l c)] 1 (CmdsE l m):=by
 refine zdf Try.func51 (by rfl) (by rfl) (by rw [Try.ntmps51];exact Nat.le_of_ble_eq_true rfl) (by simp) rfl ?_
 rw [Try.ntmps51]
 refine zhl (.cells (curC l c)) (by simp [cvO]<;>assumption) ?_
 refine AW_k [(0,_),(1,_)] ⟨rfl,rfl,trivial⟩ ?_
 refine AW_x rfl rfl λK hK=>?_
 simp (disch:=omega) [zG6,cI,cS,cU,DtCmd.cells]
 repeat' first|(refine ⟨by omega,?_⟩)|(intro _)
 refine hK _ ?_;clear hK K
 refine AW_x rfl rfl λK hK=>?_
 simp (disch:=omega) [zG6,cI,cS,cU,DtCmd.cells]
 repeat' first|(exfalso;omega)|(refine zkx [8] false [] (l15Cmds l hl c m hm hm0) ?_ ?_ ?_;(focus (simp [List.range_succ,nmC];done));(focus (simp (disch:=omega) [zG6,cI,cS,cU,DtCmd.cells];done));rintro _ _ _ ⟨cs,c1,hlen,hd,rfl,rfl,rfl⟩;refine ⟨⟨by first | rfl|(simp;done),by first | rfl|(simp;done)⟩,?_⟩;simp (disch:=omega) [zG6,cI,cS,cU,DtCmd.cells])|(refine ⟨by omega,?_⟩)|(simp (disch:=omega) [zG6,cI,cS,cU,DtCmd.cells])|(intro _)
 refine hK _ ?_;clear hK K
 refine zbi ?_
 refine AW_x rfl rfl λK hK=>?_
 simp (disch:=omega) [zG6,cI,cS,cU,DtCmd.cells]
 repeat' first|(refine ⟨by omega,?_⟩)|(intro _)
 refine hK _ ?_;clear hK K
 refine zbm ?_
 have hcz:True:=trivial
 refine zbv (λmM sS=>∃(i:Nat) (cs2:List DtCmd) (c2:Cur),mM=cs.length-i∧(i≤cs.length∧cs2.length=cs.length∧∀x∈cs2,CmdF x)∧sS = { env:=lkE [(0,.ptr 8 0),(5,.arr 160 0 cs2.length),(6,(.g (.int .i64 ((i:Nat)))))],ob:=lk [(8,.cells (curC l c2)),(160,.own 8 (cs2.map DtCmd.cells))] }) ?_ ?_
 ·refine ⟨_,LeS.kx [(8,8),(160,160)] [(0,.ptr 8 0),(5,.arr 160 0 (cs).length),(6,(.g (.int .i64 (((0):Nat)))))] [(8,.cells (curC l (c1))),(160,.own 8 ((cs).map DtCmd.cells))] (by simp [zG7,KpR,renV2,renV,zbk,curC,hcz,setNo];try (first | with_reducible rfl | omega|(simp;done))) (by simp [zG7,KpOX,renO,plO,cvO,renV,pl1,curC,hcz,setNo];try (first | with_reducible rfl | exact congrArg (List.set _ _) rfl | trace_state)) (by rfl) (by simp) (by simp) (by rfl) (by simp [zG8,formsX]),_,0,cs,c1,rfl,?_,rfl⟩
  ·exact ⟨by omega,rfl,hd⟩
 ·rintro mM sS ⟨i,cs2,c2,rfl,⟨hi,hle,hd2⟩,rfl⟩
  refine zbi ?_
  refine AW_x rfl rfl λK hK=>?_
  simp (disch:=omega) [zG6,cI,cS,cU,DtCmd.cells]
  repeat' first|(refine ⟨by omega,?_⟩)|(simp (disch:=omega) [zG6,cI,cS,cU,DtCmd.cells])|(intro _)
  refine hK _ ?_;clear hK K
  refine zbh rfl (λhc1=>?_) (λhc1=>?_)
  ·try simp [zba,zbf,zbc,zbb] at hc1
   all_goals
    have hi2:i<cs2.length:=by omega
    refine zbj ?_
    refine zbn ?_
    refine zbi ?_
    refine zbm ?_
    refine AW_x rfl rfl λK hK=>?_
    simp (disch:=omega) [zG6,cI,cS,cU,DtCmd.cells]
    repeat' first|(exfalso;omega)|(refine zcs (λ_=>xs_p (xs_g xs_z)) (zko l hl _ _) rfl rfl ?_;simp (disch:=omega) [zG6,cI,cS,cU,DtCmd.cells])|(refine ⟨λ_=>?_,λ_=>?_⟩)|(refine ⟨by omega,?_⟩)|(simp (disch:=omega) [zG6,cI,cS,cU,DtCmd.cells])|(intro _)
    all_goals (refine hK _ ?_;clear hK K)
    all_goals
     refine zbh rfl (λhc2=>?_) (λhc2=>?_)
     ·try simp [zba,zbf,zbc,zbb] at hc2
      all_goals
       refine zb3 rfl rfl λK hK=>?_
       simp (disch:=omega) [zG6,cI,cS,cU,DtCmd.cells]
       repeat' first|(exfalso;omega)|(refine ⟨λ_=>?_,λ_=>?_⟩)|(refine ⟨by omega,?_⟩)|(simp (disch:=omega) [zG6,cI,cS,cU,DtCmd.cells])|(intro _)
       all_goals (refine hK _ ?_;clear hK K)
       all_goals
        refine zbn ?_
        refine zb3 rfl rfl λK hK=>?_
        simp (disch:=omega) [zG6,cI,cS,cU,DtCmd.cells]
        repeat' first|(refine ⟨by omega,?_⟩)|(intro _)
        refine hK _ ?_;clear hK K
        have hcz:True:=trivial
        refine ⟨_,LeS.kx [(8,8),(160,160)] [(0,.ptr 8 0),(5,.arr 160 0 (cs2.set i (setNo cs2[i] (1+(i:Int)))).length),(6,(.g (.int .i64 (((i+1):Nat)))))] [(8,.cells (curC l (belowS l 5 c2))),(160,.own 8 ((cs2.set i (setNo cs2[i] (1+(i:Int)))).map DtCmd.cells))] (by simp [zG7,KpR,renV2,renV,zbk,curC,hcz,setNo];try (first | with_reducible rfl | omega|(simp;done))) (by simp [zG7,KpOX,renO,plO,cvO,renV,pl1,curC,hcz,setNo];try (first | with_reducible rfl | exact congrArg (List.set _ _) rfl | trace_state)) (by rfl) (by simp) (by simp) (by rfl) (by simp [zG8,formsX]),_,?_,i+1,cs2.set i (setNo cs2[i] (1+(i:Int))),belowS l 5 c2,rfl,?_,rfl⟩
        ·omega
        ·first | exact ⟨by omega,hle,hd2⟩ | exact ⟨by omega,by simp;omega,set_F hd2 (hd2 cs2[i] (List.getElem_mem _))⟩
     ·try simp [zba,zbf,zbc,zbb] at hc2
      all_goals
       refine zbj ?_
       refine zbn ?_
       refine zb3 rfl rfl λK hK=>?_
       simp (disch:=omega) [zG6,cI,cS,cU,DtCmd.cells]
       repeat' first|(exfalso;omega)|(refine ⟨λ_=>?_,λ_=>?_⟩)|(refine ⟨by omega,?_⟩)|(simp (disch:=omega) [zG6,cI,cS,cU,DtCmd.cells])|(intro _)
       all_goals (refine hK _ ?_;clear hK K)
       all_goals
        first | have hE:∃cz,cz=belowS l 5 c2∧below l 5 c2=0:=⟨_,rfl,by assumption⟩ | have hE:∃cz,cz=c2∧True:=⟨_,rfl,trivial⟩
        obtain ⟨cz,hcz,-⟩:=hE
        refine ⟨_,LeS.kx [(8,8),(160,160)] [(0,.ptr 8 0),(5,.arr 160 0 (cs2).length),(6,(.g (.int .i64 (((i+1):Nat)))))] [(8,.cells (curC l (cz))),(160,.own 8 ((cs2).map DtCmd.cells))] (by simp [zG7,KpR,renV2,renV,zbk,curC,hcz,setNo];try (first | with_reducible rfl | omega|(simp;done))) (by simp [zG7,KpOX,renO,plO,cvO,renV,pl1,curC,hcz,setNo];try (first | with_reducible rfl | exact congrArg (List.set _ _) rfl | trace_state)) (by rfl) (by simp) (by simp) (by rfl) (by simp [zG8,formsX]),_,?_,i+1,cs2,cz,rfl,?_,rfl⟩
        ·omega
        ·first | exact ⟨by omega,hle,hd2⟩ | exact ⟨by omega,by simp;omega,set_F hd2 (hd2 cs2[i] (List.getElem_mem _))⟩
  ·try simp [zba,zbf,zbc,zbb] at hc1
   all_goals
    refine zbx ?_
    refine zbn ?_
    refine AW_x rfl rfl λK hK=>?_
    simp (disch:=omega) [zG6,cI,cS,cU,DtCmd.cells]
    repeat' first|(exfalso;omega)|(refine ⟨λ_=>?_,λ_=>?_⟩)|(refine ⟨by omega,?_⟩)|(simp (disch:=omega) [zG6,cI,cS,cU,DtCmd.cells])|(intro _)
    all_goals (refine hK _ ?_;clear hK K)
    all_goals
     refine zh0 (.arr 16 0 cs2.length) [.cells (curC l c2)] [.own 8 (cs2.map DtCmd.cells)] ?po (by simp) (by simp) (by simp [OB.xk]) (zb0 [160] [] (by simp [zG7,List.range_succ]) (by simp) ?en)
     case en =>
      simp (disch:=omega) [zG6,cI,cS,cU,DtCmd.cells]
      all_goals trace_state
     case po=>exact ⟨cs2,c2,by omega,hd2,rfl,rfl,rfl⟩
end Go.Proofs.Ytodmafgmdlkhoaa.Vs
end
section
namespace Go.Proofs.Ytodmafgmdlkhoaa.Vs
set_option linter.all false
set_option maxRecDepth 100000
/-- Marks. -/
def mkL{α:Type}(f:Int→α)(k:Int)(n:Nat):List α:=(List.range n).map λj=>f (k+(j:Nat))
def mkR{α:Type}(f:Int→α)(k:Int)(l:List α)(i:Nat):List α:=mkL f k i++l.drop i
def mB(k:Int):Bool:=k.tmod 3==0
/-- Decimal digits. -/
def dg(n:Nat)(out:List UInt8):List UInt8:=if n=0 then out else dg (n / 10) (strN [IntKind.u8.wrap (48+(n:Int) % 10)]++out)
termination_by n
decreasing_by omega
def mT(k:Int):List UInt8:=if k≤0 then [109,48] else 109 :: dg k.toNat []
/-- A copy under way. -/
def cpR{α:Type}(z:α)(l:List α)(i:Nat):List α:=l.take i++List.replicate (l.length-i) z
/-- Marks of a row of structs. -/
def mkS{α:Type}(mk:Int→α→α)(cnt:α→Int):Int→List α→List α
 | _,[]=>[]
 | k,u :: us=>mk k u :: mkS mk cnt (k+cnt u) us
def cntS{α:Type}(cnt:α→Int)(us:List α):Int:=us.foldr (λu n=>cnt u+n) 0
def mkSR{α:Type}(mk:Int→α→α)(cnt:α→Int)(k:Int)(us:List α)(i:Nat):List α:=mkS mk cnt k (us.take i)++us.drop i
/-- A copy of structs under way. -/
def cpS{α:Type}(z:List AV)(f:α→List AV)(us:List α)(i:Nat):List (List AV):=(us.take i).map f++List.replicate (us.length-i) z
end Go.Proofs.Ytodmafgmdlkhoaa.Vs
end
section
namespace Go.Proofs.Ytodmafgmdlkhoaa.Vs
set_option linter.all false
end Go.Proofs.Ytodmafgmdlkhoaa.Vs
end
section
namespace Go.Proofs.Ytodmafgmdlkhoaa.Vs
set_option linter.all false
set_option maxRecDepth 100000
theorem len_szS{α:Type}{f:α→Int}(hf:∀x,0≤f x)(l:List α):(l.length:Int)≤szS f l:=by have:=zck hf l;unfold szS;omega
end Go.Proofs.Ytodmafgmdlkhoaa.Vs
end
section
namespace Go.Proofs.Ytodmafgmdlkhoaa.Vs
set_option linter.all false
set_option maxRecDepth 100000
theorem l1In(a b c:Int):PCall Try.prog 38 [(.g (.int .i64 (a))),(.g (.int .i64 (b))),(.g (.int .i64 (c)))] (.g (.bool (decide (b≤a)&&decide (a≤c)))):=by
 refine zbr Try.func38 (by rfl) (by rfl) (by rw [Try.ntmps38];exact Nat.le_of_ble_eq_true rfl) rfl (by decide) ?_
 rw [Try.ntmps38]
 refine AW_k [(0,_),(1,_),(2,_)] ⟨rfl,rfl,rfl,trivial⟩ ?_
 refine AW_r rfl rfl λK hK=>?_
 simp (disch:=omega)
 repeat' first|(refine ⟨by omega,?_⟩)|(intro _)
 refine hK _ ?_;clear hK K
 refine AW_r rfl rfl λK hK=>?_
 simp (disch:=omega)
 repeat' first|(exfalso;omega)|(refine ⟨λ_=>?_,λ_=>?_⟩)|(refine ⟨by omega,?_⟩)|(intro _)
 all_goals (refine hK _ ?_;clear hK K)
 all_goals
  refine zbp (zcb ?_)
  simp (disch:=omega)
  all_goals first | omega|(simp_all;done)|(simp [List.take_of_length_le];done)|((try simp_all);(try simp (disch:=omega) only [zcj,Int.tdiv_eq_ediv_of_nonneg,Int.tmod_eq_emod_of_nonneg,and_true,true_and]);done)|((try simp_all);(try simp (disch:=omega) only [zcj,Int.tdiv_eq_ediv_of_nonneg,Int.tmod_eq_emod_of_nonneg,and_true,true_and] at *);omega)
theorem zkp(a b c:Int):PCall Try.prog 45 [(.g (.int .i64 (a))),(.g (.int .i64 (b))),(.g (.int .i64 (c)))] (.g (.bool (decide (b≤a)&&decide (a≤c)))):=by
 refine zbr Try.func45 (by rfl) (by rfl) (by rw [Try.ntmps45];exact Nat.le_of_ble_eq_true rfl) rfl (by decide) ?_
 rw [Try.ntmps45]
 refine AW_k [(0,_),(1,_),(2,_)] ⟨rfl,rfl,rfl,trivial⟩ ?_
 refine AW_r rfl rfl λK hK=>?_
 simp (disch:=omega)
 repeat' first|(refine ⟨by omega,?_⟩)|(intro _)
 refine hK _ ?_;clear hK K
 refine AW_r rfl rfl λK hK=>?_
 simp (disch:=omega)
 repeat' first|(exfalso;omega)|(refine ⟨λ_=>?_,λ_=>?_⟩)|(refine ⟨by omega,?_⟩)|(intro _)
 all_goals (refine hK _ ?_;clear hK K)
 all_goals
  refine zbp (zcb ?_)
  simp (disch:=omega)
  all_goals first | omega|(simp_all;done)|(simp [List.take_of_length_le];done)|((try simp_all);(try simp (disch:=omega) only [zcj,Int.tdiv_eq_ediv_of_nonneg,Int.tmod_eq_emod_of_nonneg,and_true,true_and]);done)|((try simp_all);(try simp (disch:=omega) only [zcj,Int.tdiv_eq_ediv_of_nonneg,Int.tmod_eq_emod_of_nonneg,and_true,true_and] at *);omega)
def LoB(b:UInt8):Prop:=97≤b.toNat∧b.toNat≤122
def Word(s:List UInt8):Prop:=1≤s.length∧s.length≤8∧∀(j:Nat) b,s[j]? = some b→LoB b
theorem l4Word(s:List UInt8):PCall Try.prog 76 [.s s] (.g (.bool (decB (Word s)))):=by
 refine zbr Try.func76 (by rfl) (by rfl) (by rw [Try.ntmps76];exact Nat.le_of_ble_eq_true rfl) rfl (by decide) ?_
 rw [Try.ntmps76]
 refine AW_k [(0,_)] ⟨rfl,trivial⟩ ?_
 refine AW_r rfl rfl λK hK=>?_
 simp (disch:=omega)
 repeat' first|(refine ⟨by omega,?_⟩)|(intro _)
 refine hK _ ?_;clear hK K
 refine zbi ?_
 refine AW_r rfl rfl λK hK=>?_
 simp (disch:=omega)
 repeat' first|(exfalso;omega)|(refine zdg (zbe zcl (zbe zcl (zbe zcl zbo))) (l1In _ _ _) rfl ?_;simp (disch:=omega))|(refine ⟨by omega,?_⟩)|(intro _)
 refine hK _ ?_;clear hK K
 refine zbh rfl (λhc1=>?_) (λhc1=>?_)
 ·try simp at hc1
  all_goals
   refine AW_r rfl rfl λK hK=>?_
   simp (disch:=omega)
   repeat' first|(exfalso;omega)|(refine ⟨λ_=>?_,λ_=>?_⟩)|(refine ⟨by omega,?_⟩)|(intro _)
   all_goals (refine hK _ ?_;clear hK K)
   all_goals
    refine zbp (zcb ?_)
    simp (disch:=omega)
    all_goals first|(refine zb5 λh=>?_;grind [Word,LoB])|(refine zb4 ?_;grind [Word,LoB])
 ·try simp at hc1
  all_goals
   refine zbj ?_
   refine zbn ?_
   refine zbi ?_
   refine AW_r rfl rfl λK hK=>?_
   simp (disch:=omega)
   repeat' first|(exfalso;omega)|(refine ⟨λ_=>?_,λ_=>?_⟩)|(refine ⟨by omega,?_⟩)|(intro _)
   all_goals (refine hK _ ?_;clear hK K)
   all_goals
    refine zbm ?_
    refine zbv (λmM sS=>∃(i:Nat),mM=s.length-i∧(i≤s.length∧∀j b,j<i→s[j]? = some b→LoB b)∧sS = { env:=lkE [(0,.s s),(3,(.g (.int .i64 ((i:Nat)))))],ob:=formOb [] [] }) ?_ ?_
    ·refine ⟨_,LeS.kp [(0,.s s),(3,(.g (.int .i64 (((0):Nat)))))] (by simp [KpE,zbz,zbk,zbq];try rfl),_,0,rfl,?_,rfl⟩
     ·simp
    ·rintro mM sS ⟨i,rfl,⟨hi,hpre⟩,rfl⟩
     refine zbi ?_
     refine AW_r rfl rfl λK hK=>?_
     simp (disch:=omega)
     repeat' first|(refine ⟨by omega,?_⟩)|(intro _)
     refine hK _ ?_;clear hK K
     refine zbh rfl (λhc2=>?_) (λhc2=>?_)
     ·try simp at hc2
      all_goals
       have hg:s[i]? = some s[i]:=List.getElem?_eq_getElem (by omega)
       refine zbj ?_
       refine zbn ?_
       refine zbi ?_
       refine zbm ?_
       refine AW_r rfl rfl λK hK=>?_
       simp (disch:=omega)
       repeat' first|(exfalso;omega)|(refine ⟨λ_=>?_,λ_=>?_⟩)|(refine ⟨by omega,?_⟩)|(intro _)
       all_goals (refine hK _ ?_;clear hK K)
       all_goals
        refine zbh rfl (λhc3=>?_) (λhc3=>?_)
        ·try simp at hc3
         all_goals
          refine AW_r rfl rfl λK hK=>?_
          simp (disch:=omega)
          repeat' first|(exfalso;omega)|(refine ⟨λ_=>?_,λ_=>?_⟩)|(refine ⟨by omega,?_⟩)|(intro _)
          all_goals (refine hK _ ?_;clear hK K)
          all_goals
           refine zbp (zcb ?_)
           simp (disch:=omega)
           all_goals first|(refine zb5 λh=>?_;grind [Word,LoB])|(refine zb4 ?_;grind [Word,LoB])
        ·try simp at hc3
         all_goals
          refine zbj ?_
          refine zbn ?_
          refine zc8 rfl rfl λK hK=>?_
          simp (disch:=omega)
          repeat' first|(exfalso;omega)|(refine ⟨λ_=>?_,λ_=>?_⟩)|(refine ⟨by omega,?_⟩)|(intro _)
          all_goals (refine hK _ ?_;clear hK K)
          all_goals
           refine ⟨_,LeS.kp [(0,.s s),(3,(.g (.int .i64 (((i+1):Nat)))))] (by simp [KpE,zbz,zbk,zbq];try rfl),_,?_,i+1,rfl,?_,rfl⟩
           ·omega
           ·refine ⟨by omega,?_⟩;grind [LoB]
     ·try simp at hc2
      all_goals
       refine zbx ?_
       refine zbn ?_
       refine AW_r rfl rfl λK hK=>?_
       simp (disch:=omega)
       repeat' first|(exfalso;omega)|(refine ⟨λ_=>?_,λ_=>?_⟩)|(refine ⟨by omega,?_⟩)|(intro _)
       all_goals (refine hK _ ?_;clear hK K)
       all_goals
        refine zbp (zcb ?_)
        simp (disch:=omega)
        all_goals first|(refine zb5 λh=>?_;grind [Word,LoB])|(refine zb4 ?_;grind [Word,LoB])
theorem isWord(s:List UInt8)(hs:s.length≤1048576):PCall Try.prog 88 [.s s] (.g (.bool (decB (Word s)))):=by
 refine zbr Try.func88 (by rfl) (by rfl) (by rw [Try.ntmps88];exact Nat.le_of_ble_eq_true rfl) rfl (by decide) ?_
 rw [Try.ntmps88]
 refine AW_k [(0,_)] ⟨rfl,trivial⟩ ?_
 refine AW_r rfl rfl λK hK=>?_
 simp (disch:=omega)
 repeat' first|(refine ⟨by omega,?_⟩)|(intro _)
 refine hK _ ?_;clear hK K
 refine zbi ?_
 refine AW_r rfl rfl λK hK=>?_
 simp (disch:=omega)
 repeat' first|(refine ⟨by omega,?_⟩)|(intro _)
 refine hK _ ?_;clear hK K
 refine zbm ?_
 refine zbv (λmM sS=>∃(i:Nat),mM=s.length-i∧(i≤s.length∧∀j b,j<i→s[j]? = some b→LoB b)∧sS = { env:=lkE [(0,.s s),(3,(.g (.int .i64 ((i:Nat)))))],ob:=formOb [] [] }) ?_ ?_
 ·refine ⟨_,LeS.kp [(0,.s s),(3,(.g (.int .i64 (((0):Nat)))))] (by simp [KpE,zbz,zbk,zbq];try rfl),_,0,rfl,?_,rfl⟩
  ·simp
 ·rintro mM sS ⟨i,rfl,⟨hi,hpre⟩,rfl⟩
  refine zbi ?_
  refine AW_r rfl rfl λK hK=>?_
  simp (disch:=omega)
  repeat' first|(refine ⟨by omega,?_⟩)|(intro _)
  refine hK _ ?_;clear hK K
  refine zbh rfl (λhc4=>?_) (λhc4=>?_)
  ·try simp at hc4
   all_goals
    have hg:s[i]? = some s[i]:=List.getElem?_eq_getElem (by omega)
    refine zbj ?_
    refine zbn ?_
    refine zbi ?_
    refine zbm ?_
    refine AW_r rfl rfl λK hK=>?_
    simp (disch:=omega)
    repeat' first|(exfalso;omega)|(refine ⟨λ_=>?_,λ_=>?_⟩)|(refine ⟨by omega,?_⟩)|(intro _)
    all_goals (refine hK _ ?_;clear hK K)
    all_goals
     refine zbh rfl (λhc5=>?_) (λhc5=>?_)
     ·try simp at hc5
      all_goals
       refine AW_r rfl rfl λK hK=>?_
       simp (disch:=omega)
       repeat' first|(exfalso;omega)|(refine ⟨λ_=>?_,λ_=>?_⟩)|(refine ⟨by omega,?_⟩)|(intro _)
       all_goals (refine hK _ ?_;clear hK K)
       all_goals
        refine zbp (zcb ?_)
        simp (disch:=omega)
        all_goals first|(refine zb5 λh=>?_;grind [Word,LoB])|(refine zb4 ?_;grind [Word,LoB])|(rw [Bool.eq_iff_iff,zba];grind [Word,LoB])
     ·try simp at hc5
      all_goals
       refine zbj ?_
       refine zbn ?_
       refine zc8 rfl rfl λK hK=>?_
       simp (disch:=omega)
       repeat' first|(exfalso;omega)|(refine ⟨λ_=>?_,λ_=>?_⟩)|(refine ⟨by omega,?_⟩)|(intro _)
       all_goals (refine hK _ ?_;clear hK K)
       all_goals
        refine ⟨_,LeS.kp [(0,.s s),(3,(.g (.int .i64 (((i+1):Nat)))))] (by simp [KpE,zbz,zbk,zbq];try rfl),_,?_,i+1,rfl,?_,rfl⟩
        ·omega
        ·refine ⟨by omega,?_⟩;grind [LoB]
  ·try simp at hc4
   all_goals
    refine zbx ?_
    refine zbn ?_
    refine AW_r rfl rfl λK hK=>?_
    simp (disch:=omega)
    repeat' first|(exfalso;omega)|(refine zdg (zbe zcl (zbe zcl (zbe zcl zbo))) (zkp _ _ _) rfl ?_;simp (disch:=omega))|(refine ⟨λ_=>?_,λ_=>?_⟩)|(refine ⟨by omega,?_⟩)|(intro _)
    all_goals (refine hK _ ?_;clear hK K)
    all_goals
     refine zbp (zcb ?_)
     simp (disch:=omega)
     all_goals first|(refine zb5 λh=>?_;grind [Word,LoB])|(refine zb4 ?_;grind [Word,LoB])|(rw [Bool.eq_iff_iff,zba];grind [Word,LoB])
end Go.Proofs.Ytodmafgmdlkhoaa.Vs
end
