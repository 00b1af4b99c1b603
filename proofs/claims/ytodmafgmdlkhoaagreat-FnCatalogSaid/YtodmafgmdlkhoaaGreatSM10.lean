import Derived.Test.YtodmafgmdlkhoaaGreatSM9
import Derived.Test.YtodmafgmdlkhoaaGreatSM2
import Derived.Test.YtodmafgmdlkhoaaGreatSM3
import Derived.Test.YtodmafgmdlkhoaaGreatSM4
import Derived.Test.YtodmafgmdlkhoaaGreatSM8
section
namespace Go.Proofs.YtodmafgmdlkhoaaGreat.Vs
set_option linter.all false
set_option maxRecDepth 100000
set_option maxHeartbeats 2000000
theorem zb8{P:Program}{st:St}(nm:Nat)(ts:List TypeId)(s:AV)(n o l:Nat):aAppZ P st nm ts s (.arr n o l)=none:=by
 unfold aAppZ
 split
 ·rename_i h;cases h
 ·rfl
def CmdF(x:DtCmd):Prop:=(x.fSet.length≤16∧x.fSet≠[111,108,100])∧x.fName.length≤16∧x.fTag.length≤16∧x.fChunks.length≤5∧∀t∈x.fChunks,t.length≤16
theorem zdd(xs:List (List UInt8))(n:Nat)(h:∀x∈xs,x≠[111,108,100]):xs.getD n []≠[111,108,100]:=by
 rw [List.getD_eq_getElem?_getD]
 cases hx:xs[n]? with
 | none=>simp
 | some x=>exact h x (List.mem_of_getElem? hx)
theorem zc1(l:List Int)(c:Cur):(S6 l c).x.fSet≠[111,108,100]:=by
 have e6:(S6 l c).x.fSet=(S5 l c).x.fSet:=by unfold S6;split<;>rfl
 have e5:(S5 l c).x.fSet=(S4 l c).x.fSet:=by unfold S5;split<;>rfl
 have e4:(S4 l c).x.fSet=(S3 l c).x.fSet:=by unfold S4;split<;>rfl
 have e3:(S3 l c).x.fSet=(S2 l c).x.fSet:=by unfold S3;split<;>rfl
 have e1:(S1 l c).x.fSet=[]:=by unfold S1;split<;>rfl
 rw [e6,e5,e4,e3]
 unfold S2
 split
 ·rw [e1];simp
 ·exact zdd _ _ (by simp)
theorem zfh{x:DtCmd}(h:CmdD x)(ho:x.fSet≠[111,108,100]):CmdF x:=⟨⟨h.1,ho⟩,h.2.1,h.2.2.1,by have:=h.2.2.2.1;omega,h.2.2.2.2⟩
def setKind(x:DtCmd)(n:Int):DtCmd:={ x with fKind:=n }
def setClient(x:DtCmd)(n:Int):DtCmd:={ x with fClient:=n }
def setNo(x:DtCmd)(n:Int):DtCmd:={ x with fNo:=n }
def setSet(x:DtCmd)(n:List UInt8):DtCmd:={ x with fSet:=n }
def setN(x:DtCmd)(n:Int):DtCmd:={ x with fN:=n }
def addCh(x:DtCmd)(t:List UInt8):DtCmd:={ x with fChunks:=x.fChunks++[t] }
theorem zda{x:DtCmd}{t:List UInt8}(h:CmdF x)(ht:t.length≤16)(ho:t≠[111,108,100]):CmdF (setSet x t):=⟨⟨ht,ho⟩,h.2⟩
theorem zdx{x:DtCmd}{t:List UInt8}(h:CmdD x)(ho:x.fSet≠[111,108,100])(ht:t.length≤16):CmdF (addCh x t):=by
 obtain ⟨h1,h2,h3,h4,h5⟩:=h
 refine ⟨⟨h1,ho⟩,h2,h3,by show (x.fChunks++[t]).length≤5;simp;omega,λu hu=>?_⟩
 rcases List.mem_append.1 hu with hu | hu
 ·exact h5 u hu
 ·rw [List.mem_singleton] at hu;rwa [hu]
def cA(l:List Int)(c:Cur):Cur:=(S6 l (belowS l 12 c)).c
def xA(l:List Int)(c:Cur):DtCmd:=(S6 l (belowS l 12 c)).x
def cE(l:List Int)(c:Cur):Cur:=belowS l 6 (belowS l 8 (cA l c))
attribute [local simp] cmdO
def CmdE(l:List Int)(r:AV)(wos' fos:List OB):Prop:=∃(x:DtCmd) (c':Cur),CmdF x∧r=.agg (cmdO x 16)∧wos'=[.cells (curC l c')]∧fos=[.own 1 (x.fChunks.map cS)]
def zG27:=And.intro @zcf (And.intro @gE (And.intro @tP (And.intro @and_assoc (And.intro @List.range_succ (And.intro @zbo (And.intro @zc3 (And.intro @zbf (And.intro @zbn @zb8))))))))
def zG28:=And.intro @zbf @zbn
def zG29:=And.intro @zbr (And.intro @zby @zb0)
def zG30:=And.intro @List.range_succ (And.intro @zbr @zby)
theorem l4Cmd(l:List Int)(hl:Code l)(c:Cur):XCallE Tryz.prog 50 [.ptr 8 0] [.cells (curC l c)] 1 (CmdE l):=by
 refine zff Tryz.func50 (by rfl) (by rfl) (by rw [Tryz.ntmps50];exact Nat.le_of_ble_eq_true rfl) (by simp) rfl ?_
 rw [Tryz.ntmps50]
 refine zhs (.cells (curC l c)) (by simp [cvO]<;>assumption) ?_
 refine AW_k [(0,_)] ⟨rfl,trivial⟩ ?_
 refine AW_x rfl rfl λK hK=>?_
 simp (disch:=omega) [zG27,cI,cS,cU,DtCmd.cells,cmdO,-aAppZ]
 repeat' first|(refine ⟨by omega,?_⟩)|(intro _)
 refine hK _ ?_;clear hK K
 refine zbh ?_
 refine AW_x rfl rfl λK hK=>?_
 simp (disch:=omega) [zG27,cI,cS,cU,DtCmd.cells,cmdO,-aAppZ]
 repeat' first|(exfalso;omega)|(refine zcw (λ_=>xs_p (xs_g xs_z)) (zkc l hl _ _) rfl rfl ?_;simp (disch:=omega) [zG27,cI,cS,cU,DtCmd.cells,cmdO,-aAppZ])|(refine ⟨by omega,?_⟩)|(simp (disch:=omega) [zG27,cI,cS,cU,DtCmd.cells,cmdO,-aAppZ])|(intro _)
 refine hK _ ?_;clear hK K
 refine zbg rfl (λhc1=>?_) (λhc1=>?_)
 ·try simp [zG28,zbc,zbb] at hc1
  all_goals
   refine AW_x rfl rfl λK hK=>?_
   simp (disch:=omega) [zG27,cI,cS,cU,DtCmd.cells,cmdO,-aAppZ]
   repeat' first|(exfalso;omega)|(refine ⟨λ_=>?_,λ_=>?_⟩)|(refine ⟨by omega,?_⟩)|(simp (disch:=omega) [zG27,cI,cS,cU,DtCmd.cells,cmdO,-aAppZ])|(intro _)
   all_goals (refine hK _ ?_;clear hK K)
   all_goals
    refine zbp ⟨(.agg (cmdO ⟨0,0,0,[],[],[],0,[]⟩ 16)),[.cells (curC l (belowS l 12 c))],[.own 1 []],?po,(by simp),(by simp),(by simp [OB.xk]),(zce [1000] [(1000,1)] (by simp [zG29,List.range_succ]) (by simp) ?en)⟩
    case en =>
     simp (disch:=omega) [zG27,cI,cS,cU,DtCmd.cells,cmdO,-aAppZ]
     all_goals trace_state
    case po=>first | exact ⟨x,c3,hx,rfl,rfl,rfl⟩ | exact ⟨⟨0,0,0,[],[],[],0,[]⟩,_,by simp [CmdF],rfl,rfl,rfl⟩
 ·try simp [zG28,zbc,zbb] at hc1
  all_goals
   refine zbi ?_
   refine zbm ?_
   refine AW_x rfl rfl λK hK=>?_
   simp (disch:=omega) [zG27,cI,cS,cU,DtCmd.cells,cmdO,-aAppZ]
   repeat' first|(exfalso;omega)|(refine zd5 [8] false [] (zwh l hl (belowS l 12 c)) ?_ ?_ ?_;(focus (simp [List.range_succ,nmC];done));(focus (simp (disch:=omega) [zG27,cI,cS,cU,DtCmd.cells,cmdO,-aAppZ];done));simp (disch:=omega) [zG27,cI,cS,cU,DtCmd.cells,cmdO,-aAppZ])|(refine ⟨λ_=>?_,λ_=>?_⟩)|(refine ⟨by omega,?_⟩)|(simp (disch:=omega) [zG27,cI,cS,cU,DtCmd.cells,cmdO,-aAppZ])|(intro _)
   all_goals (refine hK _ ?_;clear hK K)
   all_goals
    refine zfk (λsS=>∃(x:DtCmd) (c3:Cur),(CmdF x)∧sS = { env:=lkE [(2,.ptr 48 0),(3,.ptr 64 0)],ob:=lk [(8,.cells (curC l c3)),(48,.cells [(.g (.int .i64 (0))),(.g (.int .i64 (0))),(.g (.int .i64 (0))),.s [],.s [],.s [],(.g (.int .i64 (0))),.g (.slice none 0 0)]),(64,.cells (cmdO x 501)),(501,.own 1 (x.fChunks.map cS))] }) ?_ ?_
    ·skip
     refine AW_x rfl rfl λK hK=>?_
     simp (disch:=omega) [zG27,cI,cS,cU,DtCmd.cells,cmdO,-aAppZ]
     repeat' first|(exfalso;omega)|(refine zcw (λ_=>xs_p (xs_g xs_z)) (zkc l hl _ _) rfl rfl ?_;simp (disch:=omega) [zG27,cI,cS,cU,DtCmd.cells,cmdO,-aAppZ])|(refine ⟨by omega,?_⟩)|(simp (disch:=omega) [zG27,cI,cS,cU,DtCmd.cells,cmdO,-aAppZ])|(intro _)
     refine hK _ ?_;clear hK K
     refine zbg rfl (λhc2=>?_) (λhc2=>?_)
     ·try simp [zG28,zbc,zbb] at hc2
      all_goals
       refine AW_x rfl rfl λK hK=>?_
       simp (disch:=omega) [zG27,cI,cS,cU,DtCmd.cells,cmdO,-aAppZ]
       repeat' first|(exfalso;omega)|(refine zcw (λ_=>xs_p (xs_g xs_z)) (zfb l hl _ _) rfl rfl ?_;simp (disch:=omega) [zG27,cI,cS,cU,DtCmd.cells,cmdO,-aAppZ])|(refine ⟨λ_=>?_,λ_=>?_⟩)|(refine ⟨by omega,?_⟩)|(simp (disch:=omega) [zG27,cI,cS,cU,DtCmd.cells,cmdO,-aAppZ])|(intro _)
       all_goals (refine hK _ ?_;clear hK K)
       all_goals
        refine zbj ?_
        refine AW_x rfl rfl λK hK=>?_
        simp (disch:=omega) [zG27,cI,cS,cU,DtCmd.cells,cmdO,-aAppZ]
        repeat' first|(refine ⟨by omega,?_⟩)|(intro _)
        refine hK _ ?_;clear hK K
        refine zbg rfl (λhc3=>?_) (λhc3=>?_)
        ·try simp [zG28,zbc,zbb] at hc3
         all_goals
          refine zb4 rfl rfl λK hK=>?_
          simp (disch:=omega) [zG27,cI,cS,cU,DtCmd.cells,cmdO,-aAppZ]
          repeat' first|(exfalso;omega)|(first | refine zb3 (λ_=>xs_p (xs_a xs_z)) (zb5 l hl _ [-1,0,8,3] (by simp)) rfl rfl rfl (by decide) rfl ?_ | refine zb3 (λ_=>xs_p (xs_a xs_z)) (zb5 l hl _ [0,9,10] (by simp)) rfl rfl rfl (by decide) rfl ?_ | refine zb3 (λ_=>xs_p (xs_a xs_z)) (zb5 l hl _ [0,1000,1001] (by simp)) rfl rfl rfl (by decide) rfl ?_ | refine zb3 (λ_=>xs_p (xs_a xs_z)) (zb5 l hl _ [-1,9,10] (by simp)) rfl rfl rfl (by decide) rfl ?_;simp (disch:=omega) [zG27,cI,cS,cU,DtCmd.cells,cmdO,-aAppZ])|(refine ⟨λ_=>?_,λ_=>?_⟩)|(refine ⟨by omega,?_⟩)|(simp (disch:=omega) [zG27,cI,cS,cU,DtCmd.cells,cmdO,-aAppZ])|(intro _)
          all_goals (refine hK _ ?_;clear hK K)
          all_goals
           refine ⟨_,LeS.kx [(8,8),(48,48),(64,64),(501,144)] [(2,.ptr 48 0),(3,.ptr 64 0)] [(8,.cells (curC l (belowS l 4 (cE l c)))),(48,.cells [(.g (.int .i64 (0))),(.g (.int .i64 (0))),(.g (.int .i64 (0))),.s [],.s [],.s [],(.g (.int .i64 (0))),.g (.slice none 0 0)]),(64,.cells (cmdO (setKind (xA l c) (pickZ [-1,0,8,3] (below l 4 (cE l c)))) 501)),(501,.own 1 ((setKind (xA l c) (pickZ [-1,0,8,3] (below l 4 (cE l c)))).fChunks.map cS))] (by simp [zG29,KpR,renV2,renV,zbk,curC,cmdO,xA,cA,cE,setKind,setClient,setNo,setSet,setN,addCh];try (first | with_reducible rfl | omega)) (by simp [zG29,KpOX,renO,plO,cvO,renV,pl1,curC,cmdO,xA,cA,cE,setKind,setClient,setNo,setSet,setN,addCh];try (first | with_reducible rfl | exact zc3 _ | exact ⟨rfl,zc3 _⟩|(simp [cS,zc3];done) | trace_state)) (by rfl) (by simp) (by simp) (by rfl) (by simp [zG30,formsX]),setKind (xA l c) (pickZ [-1,0,8,3] (below l 4 (cE l c))),belowS l 4 (cE l c),?_,rfl⟩
           ·have hs6:=(S_bd l (belowS l 12 c)).1;have hq:=zfh hs6 (zc1 _ _);first | exact hq | exact zda hq (zcp _ _ (by simp)) (zdd _ _ (by simp)) | exact zdx hs6 (zc1 _ _) (by rw [zdh];have:=zdw l 9 (cE l c);omega)
        ·try simp [zG28,zbc,zbb] at hc3
         all_goals
          refine AW_x rfl rfl λK hK=>?_
          simp (disch:=omega) [zG27,cI,cS,cU,DtCmd.cells,cmdO,-aAppZ]
          repeat' first|(exfalso;omega)|(refine ⟨λ_=>?_,λ_=>?_⟩)|(refine ⟨by omega,?_⟩)|(simp (disch:=omega) [zG27,cI,cS,cU,DtCmd.cells,cmdO,-aAppZ])|(intro _)
          all_goals (refine hK _ ?_;clear hK K)
          all_goals
           refine zbg rfl (λhc4=>?_) (λhc4=>?_)
           ·try simp [zG28,zbc,zbb] at hc4
            all_goals
             refine zb4 rfl rfl λK hK=>?_
             simp (disch:=omega) [zG27,cI,cS,cU,DtCmd.cells,cmdO,-aAppZ]
             repeat' first|(exfalso;omega)|(first | refine zb3 (λ_=>xs_p (xs_a xs_z)) (zb5 l hl _ [-1,0,8,3] (by simp)) rfl rfl rfl (by decide) rfl ?_ | refine zb3 (λ_=>xs_p (xs_a xs_z)) (zb5 l hl _ [0,9,10] (by simp)) rfl rfl rfl (by decide) rfl ?_ | refine zb3 (λ_=>xs_p (xs_a xs_z)) (zb5 l hl _ [0,1000,1001] (by simp)) rfl rfl rfl (by decide) rfl ?_ | refine zb3 (λ_=>xs_p (xs_a xs_z)) (zb5 l hl _ [-1,9,10] (by simp)) rfl rfl rfl (by decide) rfl ?_;simp (disch:=omega) [zG27,cI,cS,cU,DtCmd.cells,cmdO,-aAppZ])|(refine ⟨λ_=>?_,λ_=>?_⟩)|(refine ⟨by omega,?_⟩)|(simp (disch:=omega) [zG27,cI,cS,cU,DtCmd.cells,cmdO,-aAppZ])|(intro _)
             all_goals (refine hK _ ?_;clear hK K)
             all_goals
              refine ⟨_,LeS.kx [(8,8),(48,48),(64,64),(501,144)] [(2,.ptr 48 0),(3,.ptr 64 0)] [(8,.cells (curC l (belowS l 3 (cE l c)))),(48,.cells [(.g (.int .i64 (0))),(.g (.int .i64 (0))),(.g (.int .i64 (0))),.s [],.s [],.s [],(.g (.int .i64 (0))),.g (.slice none 0 0)]),(64,.cells (cmdO (setClient (xA l c) (pickZ [0,9,10] (below l 3 (cE l c)))) 501)),(501,.own 1 ((setClient (xA l c) (pickZ [0,9,10] (below l 3 (cE l c)))).fChunks.map cS))] (by simp [zG29,KpR,renV2,renV,zbk,curC,cmdO,xA,cA,cE,setKind,setClient,setNo,setSet,setN,addCh];try (first | with_reducible rfl | omega)) (by simp [zG29,KpOX,renO,plO,cvO,renV,pl1,curC,cmdO,xA,cA,cE,setKind,setClient,setNo,setSet,setN,addCh];try (first | with_reducible rfl | exact zc3 _ | exact ⟨rfl,zc3 _⟩|(simp [cS,zc3];done) | trace_state)) (by rfl) (by simp) (by simp) (by rfl) (by simp [zG30,formsX]),setClient (xA l c) (pickZ [0,9,10] (below l 3 (cE l c))),belowS l 3 (cE l c),?_,rfl⟩
              ·have hs6:=(S_bd l (belowS l 12 c)).1;have hq:=zfh hs6 (zc1 _ _);first | exact hq | exact zda hq (zcp _ _ (by simp)) (zdd _ _ (by simp)) | exact zdx hs6 (zc1 _ _) (by rw [zdh];have:=zdw l 9 (cE l c);omega)
           ·try simp [zG28,zbc,zbb] at hc4
            all_goals
             refine AW_x rfl rfl λK hK=>?_
             simp (disch:=omega) [zG27,cI,cS,cU,DtCmd.cells,cmdO,-aAppZ]
             repeat' first|(exfalso;omega)|(refine ⟨λ_=>?_,λ_=>?_⟩)|(refine ⟨by omega,?_⟩)|(simp (disch:=omega) [zG27,cI,cS,cU,DtCmd.cells,cmdO,-aAppZ])|(intro _)
             all_goals (refine hK _ ?_;clear hK K)
             all_goals
              refine zbg rfl (λhc5=>?_) (λhc5=>?_)
              ·try simp [zG28,zbc,zbb] at hc5
               all_goals
                refine zb4 rfl rfl λK hK=>?_
                simp (disch:=omega) [zG27,cI,cS,cU,DtCmd.cells,cmdO,-aAppZ]
                repeat' first|(exfalso;omega)|(first | refine zb3 (λ_=>xs_p (xs_a xs_z)) (zb5 l hl _ [-1,0,8,3] (by simp)) rfl rfl rfl (by decide) rfl ?_ | refine zb3 (λ_=>xs_p (xs_a xs_z)) (zb5 l hl _ [0,9,10] (by simp)) rfl rfl rfl (by decide) rfl ?_ | refine zb3 (λ_=>xs_p (xs_a xs_z)) (zb5 l hl _ [0,1000,1001] (by simp)) rfl rfl rfl (by decide) rfl ?_ | refine zb3 (λ_=>xs_p (xs_a xs_z)) (zb5 l hl _ [-1,9,10] (by simp)) rfl rfl rfl (by decide) rfl ?_;simp (disch:=omega) [zG27,cI,cS,cU,DtCmd.cells,cmdO,-aAppZ])|(refine ⟨λ_=>?_,λ_=>?_⟩)|(refine ⟨by omega,?_⟩)|(simp (disch:=omega) [zG27,cI,cS,cU,DtCmd.cells,cmdO,-aAppZ])|(intro _)
                all_goals (refine hK _ ?_;clear hK K)
                all_goals
                 refine ⟨_,LeS.kx [(8,8),(48,48),(64,64),(501,144)] [(2,.ptr 48 0),(3,.ptr 64 0)] [(8,.cells (curC l (belowS l 3 (cE l c)))),(48,.cells [(.g (.int .i64 (0))),(.g (.int .i64 (0))),(.g (.int .i64 (0))),.s [],.s [],.s [],(.g (.int .i64 (0))),.g (.slice none 0 0)]),(64,.cells (cmdO (setNo (xA l c) (pickZ [0,1000,1001] (below l 3 (cE l c)))) 501)),(501,.own 1 ((setNo (xA l c) (pickZ [0,1000,1001] (below l 3 (cE l c)))).fChunks.map cS))] (by simp [zG29,KpR,renV2,renV,zbk,curC,cmdO,xA,cA,cE,setKind,setClient,setNo,setSet,setN,addCh];try (first | with_reducible rfl | omega)) (by simp [zG29,KpOX,renO,plO,cvO,renV,pl1,curC,cmdO,xA,cA,cE,setKind,setClient,setNo,setSet,setN,addCh];try (first | with_reducible rfl | exact zc3 _ | exact ⟨rfl,zc3 _⟩|(simp [cS,zc3];done) | trace_state)) (by rfl) (by simp) (by simp) (by rfl) (by simp [zG30,formsX]),setNo (xA l c) (pickZ [0,1000,1001] (below l 3 (cE l c))),belowS l 3 (cE l c),?_,rfl⟩
                 ·have hs6:=(S_bd l (belowS l 12 c)).1;have hq:=zfh hs6 (zc1 _ _);first | exact hq | exact zda hq (zcp _ _ (by simp)) (zdd _ _ (by simp)) | exact zdx hs6 (zc1 _ _) (by rw [zdh];have:=zdw l 9 (cE l c);omega)
              ·try simp [zG28,zbc,zbb] at hc5
               all_goals
                refine AW_x rfl rfl λK hK=>?_
                simp (disch:=omega) [zG27,cI,cS,cU,DtCmd.cells,cmdO,-aAppZ]
                repeat' first|(exfalso;omega)|(refine ⟨λ_=>?_,λ_=>?_⟩)|(refine ⟨by omega,?_⟩)|(simp (disch:=omega) [zG27,cI,cS,cU,DtCmd.cells,cmdO,-aAppZ])|(intro _)
                all_goals (refine hK _ ?_;clear hK K)
                all_goals
                 refine zbg rfl (λhc6=>?_) (λhc6=>?_)
                 ·try simp [zG28,zbc,zbb] at hc6
                  all_goals
                   refine zb4 rfl rfl λK hK=>?_
                   simp (disch:=omega) [zG27,cI,cS,cU,DtCmd.cells,cmdO,-aAppZ]
                   repeat' first|(exfalso;omega)|(refine zb3 (λ_=>xs_p (xs_a xs_z)) (zgo l hl _ [[],[65],[97,98,99,100,101,102,103,104],[97,98,99,100,101,102,103,104,105]] (by simp)) rfl rfl rfl (by decide) rfl ?_;simp (disch:=omega) [zG27,cI,cS,cU,DtCmd.cells,cmdO,-aAppZ])|(refine ⟨λ_=>?_,λ_=>?_⟩)|(refine ⟨by omega,?_⟩)|(simp (disch:=omega) [zG27,cI,cS,cU,DtCmd.cells,cmdO,-aAppZ])|(intro _)
                   all_goals (refine hK _ ?_;clear hK K)
                   all_goals
                    refine ⟨_,LeS.kx [(8,8),(48,48),(64,64),(501,144)] [(2,.ptr 48 0),(3,.ptr 64 0)] [(8,.cells (curC l (belowS l 4 (cE l c)))),(48,.cells [(.g (.int .i64 (0))),(.g (.int .i64 (0))),(.g (.int .i64 (0))),.s [],.s [],.s [],(.g (.int .i64 (0))),.g (.slice none 0 0)]),(64,.cells (cmdO (setSet (xA l c) (([[],[65],[97,98,99,100,101,102,103,104],[97,98,99,100,101,102,103,104,105]]:List (List UInt8)).getD (below l 4 (cE l c)).toNat [])) 501)),(501,.own 1 ((setSet (xA l c) (([[],[65],[97,98,99,100,101,102,103,104],[97,98,99,100,101,102,103,104,105]]:List (List UInt8)).getD (below l 4 (cE l c)).toNat [])).fChunks.map cS))] (by simp [zG29,KpR,renV2,renV,zbk,curC,cmdO,xA,cA,cE,setKind,setClient,setNo,setSet,setN,addCh];try (first | with_reducible rfl | omega)) (by simp [zG29,KpOX,renO,plO,cvO,renV,pl1,curC,cmdO,xA,cA,cE,setKind,setClient,setNo,setSet,setN,addCh];try (first | with_reducible rfl | exact zc3 _ | exact ⟨rfl,zc3 _⟩|(simp [cS,zc3];done) | trace_state)) (by rfl) (by simp) (by simp) (by rfl) (by simp [zG30,formsX]),setSet (xA l c) (([[],[65],[97,98,99,100,101,102,103,104],[97,98,99,100,101,102,103,104,105]]:List (List UInt8)).getD (below l 4 (cE l c)).toNat []),belowS l 4 (cE l c),?_,rfl⟩
                    ·have hs6:=(S_bd l (belowS l 12 c)).1;have hq:=zfh hs6 (zc1 _ _);first | exact hq | exact zda hq (zcp _ _ (by simp)) (zdd _ _ (by simp)) | exact zdx hs6 (zc1 _ _) (by rw [zdh];have:=zdw l 9 (cE l c);omega)
                 ·try simp [zG28,zbc,zbb] at hc6
                  all_goals
                   refine AW_x rfl rfl λK hK=>?_
                   simp (disch:=omega) [zG27,cI,cS,cU,DtCmd.cells,cmdO,-aAppZ]
                   repeat' first|(exfalso;omega)|(refine ⟨λ_=>?_,λ_=>?_⟩)|(refine ⟨by omega,?_⟩)|(simp (disch:=omega) [zG27,cI,cS,cU,DtCmd.cells,cmdO,-aAppZ])|(intro _)
                   all_goals (refine hK _ ?_;clear hK K)
                   all_goals
                    refine zbg rfl (λhc7=>?_) (λhc7=>?_)
                    ·try simp [zG28,zbc,zbb] at hc7
                     all_goals
                      refine zb4 rfl rfl λK hK=>?_
                      simp (disch:=omega) [zG27,cI,cS,cU,DtCmd.cells,cmdO,-aAppZ]
                      repeat' first|(exfalso;omega)|(first | refine zb3 (λ_=>xs_p (xs_a xs_z)) (zb5 l hl _ [-1,0,8,3] (by simp)) rfl rfl rfl (by decide) rfl ?_ | refine zb3 (λ_=>xs_p (xs_a xs_z)) (zb5 l hl _ [0,9,10] (by simp)) rfl rfl rfl (by decide) rfl ?_ | refine zb3 (λ_=>xs_p (xs_a xs_z)) (zb5 l hl _ [0,1000,1001] (by simp)) rfl rfl rfl (by decide) rfl ?_ | refine zb3 (λ_=>xs_p (xs_a xs_z)) (zb5 l hl _ [-1,9,10] (by simp)) rfl rfl rfl (by decide) rfl ?_;simp (disch:=omega) [zG27,cI,cS,cU,DtCmd.cells,cmdO,-aAppZ])|(refine ⟨λ_=>?_,λ_=>?_⟩)|(refine ⟨by omega,?_⟩)|(simp (disch:=omega) [zG27,cI,cS,cU,DtCmd.cells,cmdO,-aAppZ])|(intro _)
                      all_goals (refine hK _ ?_;clear hK K)
                      all_goals
                       refine ⟨_,LeS.kx [(8,8),(48,48),(64,64),(501,144)] [(2,.ptr 48 0),(3,.ptr 64 0)] [(8,.cells (curC l (belowS l 3 (cE l c)))),(48,.cells [(.g (.int .i64 (0))),(.g (.int .i64 (0))),(.g (.int .i64 (0))),.s [],.s [],.s [],(.g (.int .i64 (0))),.g (.slice none 0 0)]),(64,.cells (cmdO (setN (xA l c) (pickZ [-1,9,10] (below l 3 (cE l c)))) 501)),(501,.own 1 ((setN (xA l c) (pickZ [-1,9,10] (below l 3 (cE l c)))).fChunks.map cS))] (by simp [zG29,KpR,renV2,renV,zbk,curC,cmdO,xA,cA,cE,setKind,setClient,setNo,setSet,setN,addCh];try (first | with_reducible rfl | omega)) (by simp [zG29,KpOX,renO,plO,cvO,renV,pl1,curC,cmdO,xA,cA,cE,setKind,setClient,setNo,setSet,setN,addCh];try (first | with_reducible rfl | exact zc3 _ | exact ⟨rfl,zc3 _⟩|(simp [cS,zc3];done) | trace_state)) (by rfl) (by simp) (by simp) (by rfl) (by simp [zG30,formsX]),setN (xA l c) (pickZ [-1,9,10] (below l 3 (cE l c))),belowS l 3 (cE l c),?_,rfl⟩
                       ·have hs6:=(S_bd l (belowS l 12 c)).1;have hq:=zfh hs6 (zc1 _ _);first | exact hq | exact zda hq (zcp _ _ (by simp)) (zdd _ _ (by simp)) | exact zdx hs6 (zc1 _ _) (by rw [zdh];have:=zdw l 9 (cE l c);omega)
                    ·try simp [zG28,zbc,zbb] at hc7
                     all_goals
                      have hs6:=(S_bd l (belowS l 12 c)).1.2.2.2.1
                      refine zhi rfl mix (by kernel_rfl) (by kernel_rfl) λK hK=>?_
                      simp (disch:=omega) [zG27,cI,cS,cU,DtCmd.cells,cmdO,-aAppZ]
                      repeat' first|(exfalso;omega)|(refine zvy (λ_=>xs_p (xs_g xs_z)) (l1Text l hl _ 9 (by omega)) rfl rfl ?_;simp (disch:=omega) [zG27,cI,cS,cU,DtCmd.cells,cmdO,-aAppZ])|(refine ⟨λ_=>?_,λ_=>?_⟩)|(refine ⟨by omega,?_⟩)|(simp (disch:=omega) [zG27,cI,cS,cU,DtCmd.cells,cmdO,-aAppZ])|(intro _)
                      all_goals (refine hK _ _ (by kernel_rfl) ?_;clear hK K)
                      all_goals
                       refine ⟨_,LeS.kx [(8,8),(48,48),(64,64),(501,304)] [(2,.ptr 48 0),(3,.ptr 64 0)] [(8,.cells (curC l ((TXT l 9 (cE l c)).2))),(48,.cells [(.g (.int .i64 (0))),(.g (.int .i64 (0))),(.g (.int .i64 (0))),.s [],.s [],.s [],(.g (.int .i64 (0))),.g (.slice none 0 0)]),(64,.cells (cmdO (addCh (xA l c) (strN (TXT l 9 (cE l c)).1)) 501)),(501,.own 1 ((addCh (xA l c) (strN (TXT l 9 (cE l c)).1)).fChunks.map cS))] (by simp [zG29,KpR,renV2,renV,zbk,curC,cmdO,xA,cA,cE,setKind,setClient,setNo,setSet,setN,addCh];try (first | with_reducible rfl | omega)) (by simp [zG29,KpOX,renO,plO,cvO,renV,pl1,curC,cmdO,xA,cA,cE,setKind,setClient,setNo,setSet,setN,addCh];try (first | with_reducible rfl | exact zc3 _ | exact ⟨rfl,zc3 _⟩|(simp [cS,zc3];done) | trace_state)) (by rfl) (by simp) (by simp) (by rfl) (by simp [zG30,formsX]),addCh (xA l c) (strN (TXT l 9 (cE l c)).1),(TXT l 9 (cE l c)).2,?_,rfl⟩
                       ·have hs6:=(S_bd l (belowS l 12 c)).1;have hq:=zfh hs6 (zc1 _ _);first | exact hq | exact zda hq (zcp _ _ (by simp)) (zdd _ _ (by simp)) | exact zdx hs6 (zc1 _ _) (by rw [zdh];have:=zdw l 9 (cE l c);omega)
     ·try simp [zG28,zbc,zbb] at hc2
      all_goals
       refine zbi ?_
       refine ⟨_,LeS.kx [(8,8),(48,48),(64,64),(501,144)] [(2,.ptr 48 0),(3,.ptr 64 0)] [(8,.cells (curC l (belowS l 8 (cA l c)))),(48,.cells [(.g (.int .i64 (0))),(.g (.int .i64 (0))),(.g (.int .i64 (0))),.s [],.s [],.s [],(.g (.int .i64 (0))),.g (.slice none 0 0)]),(64,.cells (cmdO (xA l c) 501)),(501,.own 1 ((xA l c).fChunks.map cS))] (by simp [zG29,KpR,renV2,renV,zbk,curC,cmdO,xA,cA,cE,setKind,setClient,setNo,setSet,setN,addCh];try (first | with_reducible rfl | omega)) (by simp [zG29,KpOX,renO,plO,cvO,renV,pl1,curC,cmdO,xA,cA,cE,setKind,setClient,setNo,setSet,setN,addCh];try (first | with_reducible rfl | exact zc3 _ | exact ⟨rfl,zc3 _⟩|(simp [cS,zc3];done) | trace_state)) (by rfl) (by simp) (by simp) (by rfl) (by simp [zG30,formsX]),xA l c,belowS l 8 (cA l c),?_,rfl⟩
       ·have hs6:=(S_bd l (belowS l 12 c)).1;have hq:=zfh hs6 (zc1 _ _);first | exact hq | exact zda hq (zcp _ _ (by simp)) (zdd _ _ (by simp)) | exact zdx hs6 (zc1 _ _) (by rw [zdh];have:=zdw l 9 (cE l c);omega)
    ·rintro sS ⟨x,c3,hx,rfl⟩
     refine AW_x rfl rfl λK hK=>?_
     simp (disch:=omega) [zG27,cI,cS,cU,DtCmd.cells,cmdO,-aAppZ]
     repeat' first|(exfalso;omega)|(refine ⟨λ_=>?_,λ_=>?_⟩)|(refine ⟨by omega,?_⟩)|(simp (disch:=omega) [zG27,cI,cS,cU,DtCmd.cells,cmdO,-aAppZ])|(intro _)
     all_goals (refine hK _ ?_;clear hK K)
     all_goals
      refine zbp ⟨(.agg (cmdO x 16)),[.cells (curC l c3)],[.own 1 (x.fChunks.map cS)],?po,(by simp),(by simp),(by simp [OB.xk]),(zce [501] [] (by simp [zG29,List.range_succ]) (by simp) ?en)⟩
      case en =>
       simp (disch:=omega) [zG27,cI,cS,cU,DtCmd.cells,cmdO,-aAppZ]
       all_goals trace_state
      case po=>first | exact ⟨x,c3,hx,rfl,rfl,rfl⟩ | exact ⟨⟨0,0,0,[],[],[],0,[]⟩,_,by simp [CmdF],rfl,rfl,rfl⟩
end Go.Proofs.YtodmafgmdlkhoaaGreat.Vs
end
section
namespace Go.Proofs.YtodmafgmdlkhoaaGreat.Vs
set_option linter.all false
set_option maxRecDepth 100000
set_option maxHeartbeats 2000000
attribute [local simp] cmdO
def pkS(l:List Int)(c:Cur):List UInt8:=([[97],[98],[97,98],[99],[100],[101],[102]]:List (List UInt8)).getD (below l 7 c).toNat []
def CmdsE(l:List Int)(m:Nat)(r:AV)(wos' fos:List OB):Prop:=∃(cs:List DtCmd) (c':Cur),cs.length≤m∧(∀x∈cs,CmdF x)∧r=.arr 16 0 cs.length∧wos'=[.cells (curC l c')]∧fos=[.own 8 (cs.map DtCmd.cells)]
theorem l15Cmds(l:List Int)(hl:Code l)(c:Cur)(m:Nat)(hm:m≤1000)(hm0:0<m):XCallE Tryz.prog 102 [.ptr 8 0,(.g (.int .i64 ((m:Nat))))] [.cells (curC l c)] 1 (CmdsE l m):=by
 refine zff Tryz.func102 (by rfl) (by rfl) (by rw [Tryz.ntmps102];exact Nat.le_of_ble_eq_true rfl) (by simp) rfl ?_
 rw [Tryz.ntmps102]
 refine zhs (.cells (curC l c)) (by simp [cvO]<;>assumption) ?_
 refine AW_k [(0,_),(1,_)] ⟨rfl,rfl,trivial⟩ ?_
 refine AW_x rfl rfl λK hK=>?_
 simp (disch:=omega) [zG27,cI,cS,cU,DtCmd.cells,cmdO,-aAppZ]
 repeat' first|(refine ⟨by omega,?_⟩)|(intro _)
 refine hK _ ?_;clear hK K
 refine AW_x rfl rfl λK hK=>?_
 simp (disch:=omega) [zG27,cI,cS,cU,DtCmd.cells,cmdO,-aAppZ]
 repeat' first|(refine ⟨by omega,?_⟩)|(simp (disch:=omega) [zG27,cI,cS,cU,DtCmd.cells,cmdO,-aAppZ])|(intro _)
 refine hK _ ?_;clear hK K
 refine zbh ?_
 refine AW_x rfl rfl λK hK=>?_
 simp (disch:=omega) [zG27,cI,cS,cU,DtCmd.cells,cmdO,-aAppZ]
 repeat' first|(exfalso;omega)|(refine zcw (λ_=>xs_p (xs_g xs_z)) (zfb l hl _ _) rfl rfl ?_;simp (disch:=omega) [zG27,cI,cS,cU,DtCmd.cells,cmdO,-aAppZ])|(refine ⟨by omega,?_⟩)|(simp (disch:=omega) [zG27,cI,cS,cU,DtCmd.cells,cmdO,-aAppZ])|(intro _)
 refine hK _ ?_;clear hK K
 refine zbj ?_
 have hb7:=zdu l m c
 refine zbs (λmM sS=>∃(n:Nat) (cs:List DtCmd) (c2:Cur),mM=2*n∧(n+cs.length≤m∧∀x∈cs,CmdF x)∧sS = { env:=lkE [(0,.ptr 8 0),(5,.arr 501 0 cs.length),(6,(.g (.int .i64 ((n:Nat)))))],ob:=lk [(8,.cells (curC l c2)),(501,.own 8 (cs.map DtCmd.cells))] }) ?_ ?_
 ·refine ⟨_,LeS.kx [(8,8),(501,144)] [(0,.ptr 8 0),(5,.arr 501 0 ([]).length),(6,(.g (.int .i64 ((((below l m c).toNat):Nat)))))] [(8,.cells (curC l (belowS l m c))),(501,.own 8 (([]).map DtCmd.cells))] (by simp [zG29,KpR,renV2,renV,zbk,curC,DtCmd.cells,cmdO];try (first | with_reducible rfl | omega)) (by simp [zG29,KpOX,renO,plO,cvO,renV,pl1,curC,DtCmd.cells,cmdO];try (first | with_reducible rfl|(simp [DtCmd.cells,zbo];done) | trace_state)) (by rfl) (by simp) (by simp) (by rfl) (by simp [zG30,formsX]),_,(below l m c).toNat,[],belowS l m c,rfl,?_,rfl⟩
  ·exact ⟨by simp;omega,by simp⟩
 ·rintro mM sS ⟨n,cs,c2,rfl,⟨hnl,hd⟩,rfl⟩
  refine zbh ?_
  refine AW_x rfl rfl λK hK=>?_
  simp (disch:=omega) [zG27,cI,cS,cU,DtCmd.cells,cmdO,-aAppZ]
  repeat' first|(refine ⟨by omega,?_⟩)|(intro _)
  refine hK _ ?_;clear hK K
  refine zbg rfl (λhc1=>?_) (λhc1=>?_)
  ·try simp [zG28,zbc,zbb] at hc1
   all_goals
    have hs6:=(S_bd l c2).1
    refine zbi ?_
    refine zbm ?_
    refine zbh ?_
    refine zbj ?_
    refine AW_x rfl rfl λK hK=>?_
    simp (disch:=omega) [zG27,cI,cS,cU,DtCmd.cells,cmdO,-aAppZ]
    repeat' first|(exfalso;omega)|(refine zd5 [8] false [] (zwh l hl c2) ?_ ?_ ?_;(focus (simp [List.range_succ,nmC];done));(focus (simp (disch:=omega) [zG27,cI,cS,cU,DtCmd.cells,cmdO,-aAppZ];done));simp (disch:=omega) [zG27,cI,cS,cU,DtCmd.cells,cmdO,-aAppZ])|(refine ⟨λ_=>?_,λ_=>?_⟩)|(refine ⟨by omega,?_⟩)|(simp (disch:=omega) [zG27,cI,cS,cU,DtCmd.cells,cmdO,-aAppZ])|(intro _)
    all_goals (refine hK _ ?_;clear hK K)
    all_goals
     refine zfk (λsS=>∃(x:DtCmd) (c3:Cur),(CmdF x)∧sS = { env:=lkE [(0,.ptr 8 0),(5,.arr 501 0 cs.length),(6,(.g (.int .i64 ((n:Nat))))),(7,.ptr 128 0)],ob:=lk [(8,.cells (curC l c3)),(501,.own 8 (cs.map DtCmd.cells)),(128,.cells (cmdO x 502)),(502,.own 1 (x.fChunks.map cS))] }) ?_ ?_
     ·skip
      refine AW_x rfl rfl λK hK=>?_
      simp (disch:=omega) [zG27,cI,cS,cU,DtCmd.cells,cmdO,-aAppZ]
      repeat' first|(exfalso;omega)|(refine zcw (λ_=>xs_p (xs_g xs_z)) (zkc l hl _ _) rfl rfl ?_;simp (disch:=omega) [zG27,cI,cS,cU,DtCmd.cells,cmdO,-aAppZ])|(refine ⟨by omega,?_⟩)|(simp (disch:=omega) [zG27,cI,cS,cU,DtCmd.cells,cmdO,-aAppZ])|(intro _)
      refine hK _ ?_;clear hK K
      refine zbg rfl (λhc2=>?_) (λhc2=>?_)
      ·try simp [zG28,zbc,zbb] at hc2
       all_goals
        refine zhi rfl mix (by kernel_rfl) (by kernel_rfl) λK hK=>?_
        simp (disch:=omega) [zG27,cI,cS,cU,DtCmd.cells,cmdO,-aAppZ]
        repeat' first|(exfalso;omega)|(refine zxe (λ_=>xs_p (xs_a xs_z)) (zgo l hl _ [[97],[98],[97,98],[99],[100],[101],[102]] (by simp)) rfl rfl rfl (by decide) rfl ?_;simp (disch:=omega) [zG27,cI,cS,cU,DtCmd.cells,cmdO,-aAppZ])|(refine ⟨λ_=>?_,λ_=>?_⟩)|(refine ⟨by omega,?_⟩)|(simp (disch:=omega) [zG27,cI,cS,cU,DtCmd.cells,cmdO,-aAppZ])|(intro _)
        all_goals (refine hK _ _ (by kernel_rfl) ?_;clear hK K)
        all_goals
         refine ⟨_,LeS.trans (LeS.znc (cs:=[(.g (.int .i64 (1))),(.g (.int .i64 ((S6 l c2).x.fClient))),(.g (.int .i64 ((S6 l c2).x.fNo))),.s (pkS l (belowS l 4 (S6 l c2).c)),.s [],.s [],(.g (.int .i64 (0))),.g (.slice none 0 0)]) 502 1 128 7 (by simp [zG29,zbk]) (by simp [zG29,zbk,curC,cmdO,pkS]) (by rfl)) (LeS.kx [(8,8),(501,501),(128,128),(502,502)] [(0,.ptr 8 0),(5,.arr 501 0 cs.length),(6,(.g (.int .i64 ((n:Nat))))),(7,.ptr 128 0)] [(8,.cells (curC l (belowS l 7 (belowS l 4 (S6 l c2).c)))),(501,.own 8 (cs.map DtCmd.cells)),(128,.cells (cmdO (DtCmd.mk 1 (S6 l c2).x.fClient (S6 l c2).x.fNo (pkS l (belowS l 4 (S6 l c2).c)) [] [] 0 []) 502)),(502,.own 1 ((DtCmd.mk 1 (S6 l c2).x.fClient (S6 l c2).x.fNo (pkS l (belowS l 4 (S6 l c2).c)) [] [] 0 []).fChunks.map cS))] (by simp [zG29,KpR,renV2,renV,zbk,curC,cmdO,pkS];try (first | with_reducible rfl | omega)) (by simp [zG29,KpOX,renO,plO,cvO,renV,pl1,curC,cmdO,pkS];try (first | with_reducible rfl|(simp [cS];done) | trace_state)) (by rfl) (by simp) (by simp) (by rfl) (by simp [zG30,formsX])),DtCmd.mk 1 (S6 l c2).x.fClient (S6 l c2).x.fNo (pkS l (belowS l 4 (S6 l c2).c)) [] [] 0 [],belowS l 7 (belowS l 4 (S6 l c2).c),?_,rfl⟩
         ·first | exact zfh hs6 (zc1 _ _) | exact ⟨⟨zcp _ _ (by simp),zdd _ _ (by simp)⟩,by simp,by simp,by simp,by simp⟩
      ·try simp [zG28,zbc,zbb] at hc2
       all_goals
        refine zbi ?_
        refine ⟨_,LeS.kx [(8,8),(501,501),(128,128),(502,288)] [(0,.ptr 8 0),(5,.arr 501 0 cs.length),(6,(.g (.int .i64 ((n:Nat))))),(7,.ptr 128 0)] [(8,.cells (curC l (belowS l 4 (S6 l c2).c))),(501,.own 8 (cs.map DtCmd.cells)),(128,.cells (cmdO ((S6 l c2).x) 502)),(502,.own 1 (((S6 l c2).x).fChunks.map cS))] (by simp [zG29,KpR,renV2,renV,zbk,curC,cmdO,pkS];try (first | with_reducible rfl | omega)) (by simp [zG29,KpOX,renO,plO,cvO,renV,pl1,curC,cmdO,pkS];try (first | with_reducible rfl|(simp [cS];done) | trace_state)) (by rfl) (by simp) (by simp) (by rfl) (by simp [zG30,formsX]),(S6 l c2).x,belowS l 4 (S6 l c2).c,?_,rfl⟩
        ·first | exact zfh hs6 (zc1 _ _) | exact ⟨⟨zcp _ _ (by simp),zdd _ _ (by simp)⟩,by simp,by simp,by simp,by simp⟩
     ·rintro sS ⟨x,c3,hx,rfl⟩
      refine zfk (λsS=>∃(y:DtCmd) (c4:Cur),(CmdF y)∧sS = { env:=lkE [(0,.ptr 8 0),(5,.arr 501 0 cs.length),(6,(.g (.int .i64 ((n:Nat))))),(7,.ptr 128 0)],ob:=lk [(8,.cells (curC l c4)),(501,.own 8 (cs.map DtCmd.cells)),(128,.cells (cmdO y 502)),(502,.own 1 (y.fChunks.map cS))] }) ?_ ?_
      ·skip
       refine AW_x rfl rfl λK hK=>?_
       simp (disch:=omega) [zG27,cI,cS,cU,DtCmd.cells,cmdO,-aAppZ]
       repeat' first|(exfalso;omega)|(refine zcw (λ_=>xs_p (xs_g xs_z)) (zkc l hl _ _) rfl rfl ?_;simp (disch:=omega) [zG27,cI,cS,cU,DtCmd.cells,cmdO,-aAppZ])|(refine ⟨λ_=>?_,λ_=>?_⟩)|(refine ⟨by omega,?_⟩)|(simp (disch:=omega) [zG27,cI,cS,cU,DtCmd.cells,cmdO,-aAppZ])|(intro _)
       all_goals (refine hK _ ?_;clear hK K)
       all_goals
        refine zbg rfl (λhc3=>?_) (λhc3=>?_)
        ·try simp [zG28,zbc,zbb] at hc3
         all_goals
          refine zb4 rfl rfl λK hK=>?_
          simp (disch:=omega) [zG27,cI,cS,cU,DtCmd.cells,cmdO,-aAppZ]
          repeat' first|(exfalso;omega)|(refine XKd_e [8] false [] (l4Cmd l hl (belowS l 15 c3)) ?_ ?_ ?_;(focus (simp [List.range_succ,nmC];done));(focus (simp (disch:=omega) [zG27,cI,cS,cU,DtCmd.cells,cmdO,-aAppZ];done));rintro _ _ _ ⟨z,cz,hz,rfl,rfl,rfl⟩;refine ⟨⟨by first | rfl|(simp;done),by first | rfl|(simp;done)⟩,?_⟩;simp (disch:=omega) [zG27,cI,cS,cU,DtCmd.cells,cmdO,-aAppZ])|(refine ⟨λ_=>?_,λ_=>?_⟩)|(refine ⟨by omega,?_⟩)|(simp (disch:=omega) [zG27,cI,cS,cU,DtCmd.cells,cmdO,-aAppZ])|(intro _)
          all_goals (refine hK _ ?_;clear hK K)
          all_goals
           refine ⟨_,LeS.kx [(8,8),(501,501),(128,128),(502,512)] [(0,.ptr 8 0),(5,.arr 501 0 cs.length),(6,(.g (.int .i64 ((n:Nat))))),(7,.ptr 128 0)] [(8,.cells (curC l (cz))),(501,.own 8 (cs.map DtCmd.cells)),(128,.cells (cmdO (z) 502)),(502,.own 1 ((z).fChunks.map cS))] (by simp [zG29,KpR,renV2,renV,zbk,curC,cmdO];try (first | with_reducible rfl | omega)) (by simp [zG29,KpOX,renO,plO,cvO,renV,pl1,curC,cmdO];try (first | with_reducible rfl | trace_state)) (by rfl) (by simp) (by simp) (by rfl) (by simp [zG30,formsX]),z,cz,?_,rfl⟩
           ·first | exact hz | exact hx
        ·try simp [zG28,zbc,zbb] at hc3
         all_goals
          refine zbi ?_
          refine ⟨_,LeS.kx [(8,8),(501,501),(128,128),(502,502)] [(0,.ptr 8 0),(5,.arr 501 0 cs.length),(6,(.g (.int .i64 ((n:Nat))))),(7,.ptr 128 0)] [(8,.cells (curC l (belowS l 15 c3))),(501,.own 8 (cs.map DtCmd.cells)),(128,.cells (cmdO (x) 502)),(502,.own 1 ((x).fChunks.map cS))] (by simp [zG29,KpR,renV2,renV,zbk,curC,cmdO];try (first | with_reducible rfl | omega)) (by simp [zG29,KpOX,renO,plO,cvO,renV,pl1,curC,cmdO];try (first | with_reducible rfl | trace_state)) (by rfl) (by simp) (by simp) (by rfl) (by simp [zG30,formsX]),x,belowS l 15 c3,?_,rfl⟩
          ·first | exact hz | exact hx
      ·rintro sS ⟨y,c4,hy,rfl⟩
       refine zb4 rfl rfl λK hK=>?_
       simp (disch:=omega) [zG27,cI,cS,cU,DtCmd.cells,cmdO,-aAppZ]
       repeat' first|(exfalso;omega)|(refine ⟨λ_=>?_,λ_=>?_⟩)|(refine ⟨by omega,?_⟩)|(simp (disch:=omega) [zG27,cI,cS,cU,DtCmd.cells,cmdO,-aAppZ])|(intro _)
       all_goals (refine hK _ ?_;clear hK K)
       all_goals
        refine zbm ?_
        refine zb4 rfl rfl λK hK=>?_
        simp (disch:=omega) [zG27,cI,cS,cU,DtCmd.cells,cmdO,-aAppZ]
        repeat' first|(refine ⟨by omega,?_⟩)|(intro _)
        refine hK _ ?_;clear hK K
        refine ⟨_,LeS.kx [(8,8),(501,576)] [(0,.ptr 8 0),(5,.arr 501 0 (cs++[y]).length),(6,(.g (.int .i64 (((n-1):Nat)))))] [(8,.cells (curC l (c4))),(501,.own 8 ((cs++[y]).map DtCmd.cells))] (by simp [zG29,KpR,renV2,renV,zbk,curC,DtCmd.cells,cmdO];try (first | with_reducible rfl | omega)) (by simp [zG29,KpOX,renO,plO,cvO,renV,pl1,curC,DtCmd.cells,cmdO];try (first | with_reducible rfl|(simp [DtCmd.cells,zbo];done) | trace_state)) (by rfl) (by simp) (by simp) (by rfl) (by simp [zG30,formsX]),_,?_,n-1,cs++[y],c4,rfl,?_,rfl⟩
        ·omega
        ·exact ⟨by simp;omega,λu hu=>by rcases List.mem_append.1 hu with hu | hu;exact hd u hu;rw [List.mem_singleton] at hu;subst hu;exact hy⟩
  ·try simp [zG28,zbc,zbb] at hc1
   all_goals
    refine zbx ?_
    refine zbm ?_
    refine AW_x rfl rfl λK hK=>?_
    simp (disch:=omega) [zG27,cI,cS,cU,DtCmd.cells,cmdO,-aAppZ]
    repeat' first|(exfalso;omega)|(refine ⟨λ_=>?_,λ_=>?_⟩)|(refine ⟨by omega,?_⟩)|(simp (disch:=omega) [zG27,cI,cS,cU,DtCmd.cells,cmdO,-aAppZ])|(intro _)
    all_goals (refine hK _ ?_;clear hK K)
    all_goals
     refine zpx (.arr 16 0 cs.length) [.cells (curC l c2)] [.own 8 (cs.map DtCmd.cells)] ?po (by simp) (by simp) (by simp [OB.xk]) (zce [501] [] (by simp [zG29,List.range_succ]) (by simp) ?en)
     case en =>
      simp (disch:=omega) [zG27,cI,cS,cU,DtCmd.cells,cmdO,-aAppZ]
      all_goals trace_state
     case po=>exact ⟨cs,c2,by omega,hd,rfl,rfl,rfl⟩
end Go.Proofs.YtodmafgmdlkhoaaGreat.Vs
end
section
namespace Go.Proofs.YtodmafgmdlkhoaaGreat.Vs
set_option linter.all false
set_option maxRecDepth 100000
/-! what a command leaves as it was -/
theorem catS_same{c:DtCatalog}(h:CatP c){m:DtCmd}(ht:catR c m=bNone∨catR c m=bExists∨catR c m=bFull∨m.fKind=6∨m.fKind=7):catC c m=c:=by
 have key:catS c m=c.fSets:=by
  by_cases hm:CmdP m
  ·by_cases h0:m.fKind=0
   ·exact (zqs h hm h0).1
   ·by_cases h1:m.fKind=1
    ·obtain ⟨e1,e2⟩:=zqt h hm h1
     rw [e1]
     rw [e2] at ht
     unfold creS
     unfold creR at ht
     split
     ·rfl
     ·rename_i ha
      rw [if_neg ha] at ht
      split
      ·rfl
      ·rename_i hb
       rw [if_neg hb] at ht
       rcases ht with ht | ht | ht | ht | ht
       ·exact absurd ht (by decide)
       ·exact absurd ht (by decide)
       ·exact absurd ht (by decide)
       ·omega
       ·omega
    ·by_cases h7:m.fKind=7
     ·exact (zqu h hm h7).1
     ·by_cases hf:findS c.fSets m.fSet<0
      ·exact (znj h hm h0 h1 h7 hf).1
      ·obtain ⟨k,hkz⟩:=Int.eq_ofNat_of_zero_le (Int.not_lt.1 hf)
       have hk:=zjh hkz
       obtain ⟨e1,e2⟩:=cat_k h hm h0 h1 h7 hkz
       rw [e1]
       rw [e2] at ht
       by_cases h2:m.fKind=2
       ·rw [(set_2 h2).2] at ht
        rcases ht with ht | ht | ht | ht | ht
        ·exact absurd ht (by decide)
        ·exact absurd ht (by decide)
        ·exact absurd ht (by decide)
        ·omega
        ·omega
       ·by_cases h3:m.fKind=3
        ·rw [(zqq hk h3).2] at ht
         rw [(zqq hk h3).1]
         unfold comR at ht
         unfold comS
         split
         ·exact List.set_getElem_self _
         ·rename_i ha
          rw [if_neg ha] at ht
          split
          ·exact List.set_getElem_self _
          ·rename_i hb
           rw [if_neg hb] at ht
           rcases ht with ht | ht | ht | ht | ht
           ·exact absurd ht (by decide)
           ·exact absurd ht (by decide)
           ·exact absurd ht (by decide)
           ·omega
           ·omega
        ·by_cases h4:m.fKind=4
         ·rw [(zz3 hk h4).2] at ht
          rw [(zz3 hk h4).1]
          unfold tagR at ht
          unfold tagS
          by_cases ha:0≤findN c.fSets[k].fSnaps m.fName
          ·rw [if_pos ha] at ht
           rcases ht with ht | ht | ht | ht | ht
           ·exact absurd ht (by decide)
           ·exact absurd ht (by decide)
           ·exact absurd ht (by decide)
           ·omega
           ·omega
          ·rw [dif_neg λhh=>ha hh.1]
           exact List.set_getElem_self _
         ·by_cases h5:m.fKind=5
          ·rw [(set_5 hk h5).2] at ht
           rcases ht with ht | ht | ht | ht | ht
           ·have:=congrArg List.length ht;simp [digN,bNone] at this
           ·have:=congrArg List.length ht;simp [digN,bExists] at this
           ·have:=congrArg List.length ht;simp [digN,bFull] at this
           ·omega
           ·omega
          ·exact (set_6 hk h2 h3 h4 h5).1
  ·exact (zqr h hm).1
 unfold catC
 rw [key]
/-! the chunks of a catalog -/
theorem mem_snC{l:List DtCSnap}{x:List UInt8}:x∈snC l↔∃p∈l,x∈p.fChunks:=by
 unfold snC
 simp only [List.mem_flatten,List.mem_map]
 constructor
 ·rintro ⟨-,⟨p,hp,rfl⟩,hx⟩;exact ⟨p,hp,hx⟩
 ·rintro ⟨p,hp,hx⟩;exact ⟨_,⟨p,hp,rfl⟩,hx⟩
theorem zwi{l:List DtCSet}{x:List UInt8}:x∈seC l↔∃s∈l,∃p∈s.fSnaps,x∈p.fChunks:=by
 unfold seC
 simp only [List.mem_flatten,List.mem_map]
 constructor
 ·rintro ⟨-,⟨s,hs,rfl⟩,hx⟩
  exact ⟨s,hs,mem_snC.1 hx⟩
 ·rintro ⟨s,hs,hx⟩
  exact ⟨_,⟨s,hs,rfl⟩,mem_snC.2 hx⟩
theorem zq0{α:Type}{f:α→Int}(hf:∀a,0≤f a):∀ {l:List α} {a:α},a∈l→1≤f a→1≤sumZ f l
 | b :: l,a,h,h1=>by
  rw [zcn]
  have h2:=zbv hf l
  have h3:=hf b
  rcases List.mem_cons.1 h with rfl | h
  ·omega
  ·have:=zq0 hf h h1;omega
theorem zm5{α:Type}{f:α→Int}:∀ {l:List α},(∀a∈l,f a=0)→sumZ f l=0
 | [],_=>by rw [zcj]
 | b :: l,h=>by rw [zcn,h b (by simp),zm5 λa ha=>h a (by simp [ha])];omega
theorem refs_pos{c:DtCatalog}{x:List UInt8}(h:x∈allL c):1≤refs c x:=by
 by_cases hP:CatP c
 ·rw [zmq hP] at h
  obtain ⟨s,hs,p,hp,hx⟩:=zwi.1 ((zk4 _ _).1 h)
  unfold refs
  rw [zcc hP]
  show 1≤sumZ (cntSR x) c.fSets
  refine zq0 (zqb x) hs (zq0 (zk2 x) hp ?_)
  unfold cntPR
  rw [zcc hx];decide
 ·rw [zkb hP] at h;cases h
theorem refs_zero(c:DtCatalog)(x:List UInt8)(hx:x.length≠8):refs c x=0:=by
 unfold refs
 by_cases hP:CatP c
 ·rw [zcc hP]
  show sumZ (cntSR x) c.fSets=0
  refine zm5 λs hs=>zm5 λp hp=>?_
  have:x∉p.fChunks:=λh=>hx ((seC_cat c hP).2 x (zwi.2 ⟨s,hs,p,hp,h⟩))
  unfold cntPR
  rw [zco this];rfl
 ·rw [zco hP];rfl
theorem allL_asc(c:DtCatalog):(allL c).Pairwise (· < ·):=by
 by_cases hP:CatP c
 ·rw [zmq hP];exact zxi _
 ·rw [zkb hP];exact List.Pairwise.nil
/-- A commit's chunks are in the catalog. -/
theorem commit_in{c:DtCatalog}(h:CatP c){m:DtCmd}(hm:CmdP m)(h3:m.fKind=3)(ht:catR c m=bOk):∀x∈m.fChunks,x∈allL (catC c m):=by
 intro x hx
 have hP:=zg7 c m
 rw [zmq hP]
 refine (zk4 _ _).2 (zwi.2 ?_)
 have h0:¬m.fKind=0:=by omega
 have h1:¬m.fKind=1:=by omega
 have h7:¬m.fKind=7:=by omega
 by_cases hf:findS c.fSets m.fSet<0
 ·rw [(znj h hm h0 h1 h7 hf).2] at ht;exact absurd ht (by decide)
 ·obtain ⟨k,hkz⟩:=Int.eq_ofNat_of_zero_le (Int.not_lt.1 hf)
  have hk:=zjh hkz
  obtain ⟨e1,e2⟩:=cat_k h hm h0 h1 h7 hkz
  rw [e2,(zqq hk h3).2] at ht
  have e3:(catC c m).fSets=c.fSets.set k (comS c.fSets[k] m):=by
   show catS c m=_
   rw [e1,(zqq hk h3).1]
  refine ⟨comS c.fSets[k] m,by rw [e3];exact List.mem_set hk _,?_⟩
  unfold comR at ht
  unfold comS
  split at ht
  ·exact absurd ht (by decide)
  ·rename_i ha
   split at ht
   ·exact absurd ht (by decide)
   ·rename_i hb
    rw [if_neg ha,if_neg hb]
    exact ⟨⟨m.fName,[],m.fChunks⟩,by simp,hx⟩
end Go.Proofs.YtodmafgmdlkhoaaGreat.Vs
end
section
namespace Go.Proofs.YtodmafgmdlkhoaaGreat.Vs
set_option linter.all false
set_option maxRecDepth 100000
set_option maxHeartbeats 2000000
theorem zx0{x:DtCmd}(h:CmdF x):DtCmd.sz x≤200:=by
 obtain ⟨⟨h1,-⟩,h2,h3,h4,h5⟩:=h
 have key:∀(xs:List (List UInt8)),(∀t∈xs,t.length≤16)→sumZ lenZ xs≤16*xs.length:=by
  intro xs
  induction xs with
  | nil=>intro _;simp [zcj]
  | cons x xs ih =>
   intro h
   have ih:=ih λt ht=>h t (List.mem_cons_of_mem _ ht)
   have:=h x List.mem_cons_self
   rw [zcn]
   simp only [lenZ,List.length_cons] at *
   omega
 have:=key _ h5
 unfold DtCmd.sz szS
 omega
theorem cmdsF_sz{cs:List DtCmd}(h:∀x∈cs,CmdF x):szS DtCmd.sz cs≤201*cs.length:=by
 induction cs with
 | nil=>simp [szS,zcj]
 | cons x cs ih =>
  have h1:=ih λt ht=>h t (List.mem_cons_of_mem _ ht)
  have h2:=zx0 (h x List.mem_cons_self)
  unfold szS at h1 ⊢
  rw [zcn]
  simp only [List.length_cons] at *
  omega
section
variable {fs:List Nat}{st:St}
theorem RWs_mem{w:World}:∀(ps:List (AV × Value)) (F:List Nat),RWs w ps F→∀p∈ps,∃F',(∀b∈F',b∈F)∧RW w p.1 p.2 F'
 | [],_,_,p,hp=>by cases hp
 | q :: ps,F,h,p,hp=>by
  rw [RWs] at h
  obtain ⟨F1,F2,rfl,h1,h2⟩:=h
  rcases List.mem_cons.1 hp with rfl | hp
  ·exact ⟨F1,λb hb=>List.mem_append.2 (.inl hb),h1⟩
  ·obtain ⟨F',h3,h4⟩:=RWs_mem ps F2 h2 p hp
   exact ⟨F',λb hb=>List.mem_append.2 (.inr (h3 b hb)),h4⟩
/-- A row whose cells' rows are parked: these are frozen, the cells told. -/
theorem LeS.frzP(n pk:Nat){s:Nat}{xs ys:List (List AV)}{ps:List (AV × Value)}(hf:FrzOk fs st)(hpf:pk∉fs)(hnp:n≠pk)(hn:st.ob n=some (.win s xs))(hp:st.ob pk=some (.park ps))
 (hl:ys.length=xs.length) (hy:∀(i:Nat) y,ys[i]? = some y→∃x,xs[i]? = some x∧x.length=y.length∧∀(j:Nat) c,y[j]? = some c→x[j]? = some c∨∃v,x[j]? = some (.g v)∧(c,v)∈ps) :
 LeS fs st { st with ob:=upd (upd st.ob pk (some .dead)) n (some (.win s ys)) }:=by
 rintro C a w hfs ⟨I,β,φ,hC⟩
 obtain ⟨hp1,hp2⟩:=hC.ob pk _ hp
 have hC2:=hC.frzPart hp (o':=.dead) (zmm hC hfs hf hpf hp rfl) (hC.wok pk _ hp rfl) (φ pk) [] (λb hb=>⟨hb,by simp⟩) (by simp) rfl (by simp)
 have hn2:upd st.ob pk (some OB.dead) n=some (.win s xs):=by rw [zba _ _ hnp];exact hn
 have hdom:∀k,upd (upd st.ob pk (some OB.dead)) n (some (OB.win s ys)) k=none→upd st.ob pk (some OB.dead) k=none:=by
  intro k h
  by_cases e:k=n
  ·subst e;simp [zbe] at h
  ·rwa [zba _ _ e] at h
 refine ⟨_,β,_,hC2.move (λ_=>False) (Evo.refl _ w) (λ_ hf=>hf.elim) (λ_ hb=>hb) (λ_ hb=>.inl hb) (λ_ _ h=>h) ?_ (λk h=>hC2.dom k (hdom k h)) (λk h=>hC2.fdom k (hdom k h)) hC2.sep hC2.nimm hC2.flt ?_ ?_⟩
 ·intro k o h
  by_cases e:k=n
  ·subst e
   simp only [zbe,Option.some.injEq] at h
   subst h
   obtain ⟨bl,b1,b2,b3,b4,b5⟩:=hC2.ob k _ hn2
   refine .inr ⟨bl,b1,b2,b3,by rw [hl];exact b4,b5.imp id ?_⟩
   rintro ⟨c1,c2,c3⟩
   refine ⟨c1,c2,?_⟩
   rw [zfj] at c3 ⊢
   intro i y hyi
   obtain ⟨x,hx,hxl,hxy⟩:=hy i y hyi
   obtain ⟨d1,d2⟩:=c3 i x hx
   refine ⟨by rw [←hxl];exact d1,?_⟩
   rw [zdn] at d2 ⊢
   intro j c hc
   rcases hxy j c hc with h1 | ⟨v,h1,h2⟩
   ·exact d2 j c h1
   ·obtain ⟨v',e1,e2,e3⟩:=d2 j _ h1
    cases e2
    obtain ⟨F',g1,g2⟩:=RWs_mem ps _ hp2 (c,v) h2
    have hri:=RW_RI (I:=λb=>I b∨b∈φ pk) c v F' (λb hb=>.inr (g1 b hb)) g2
    exact ⟨v,e1,zhy _ _ hri,ztk _ _ hri⟩
  ·rw [zba _ _ e] at h
   exact .inl ⟨h,rfl,λ_ _ hf=>hf⟩
 ·intro k o h hwr b hb
  by_cases e:k=n
  ·subst e;exact hC2.wok k _ hn2 rfl b hb
  ·rw [zba _ _ e] at h;exact hC2.wok k o h hwr b hb
 ·intro k s' zs h b hb
  by_cases e:k=n
  ·subst e;simp [zbe] at h
  ·rw [zba _ _ e] at h;exact hC2.fnew k s' zs h b hb
/-- A cell of an own row's element that holds a nil row, told as an empty row. -/
theorem LeS.nilW(m i j sz:Nat){s:Nat}{zs ys:List (List AV)}{x:List AV}(hm:st.ob m=some (.win s zs))(hi:zs[i]? = some x)(hj:x[j]? = some (.g (.slice none 0 0)))(hy:ys=zs.set i (x.set j (.sl sz []))):LeS fs st { st with ob:=upd st.ob m (some (.win s ys)) }:=by
 subst hy
 rintro C a w hfs ⟨I,β,φ,hC⟩
 have hdom:∀k,upd st.ob m (some (OB.win s (zs.set i (x.set j (.sl sz []))))) k=none→st.ob k=none:=by
  intro k h
  by_cases e:k=m
  ·subst e;simp [zbe] at h
  ·rwa [zba _ _ e] at h
 refine ⟨I,β,φ,hC.move (λ_=>False) (Evo.refl _ w) (λ_ hf=>hf.elim) (λ_ hb=>hb) (λ_ hb=>.inl hb) (λ_ _ h=>h) ?_ (λk h=>hC.dom k (hdom k h)) (λk h=>hC.fdom k (hdom k h)) hC.sep hC.nimm hC.flt ?_ ?_⟩
 ·intro k o h
  by_cases e:k=m
  ·subst e
   simp only [zbe,Option.some.injEq] at h
   subst h
   obtain ⟨bl,b1,b2,b3,b4,b5⟩:=hC.ob k _ hm
   refine .inr ⟨bl,b1,b2,b3,by simpa using b4,b5.imp id ?_⟩
   rintro ⟨c1,c2,c3⟩
   refine ⟨c1,c2,?_⟩
   rw [zfj] at c3 ⊢
   intro p y hp
   rw [List.getElem?_set] at hp
   by_cases hip:i=p
   ·subst hip
    rw [if_pos rfl] at hp
    have hlt:=(List.getElem?_eq_some_iff.1 hi).1
    rw [if_pos hlt] at hp;cases hp
    obtain ⟨d1,d2⟩:=c3 i x hi
    refine ⟨by simpa using d1,?_⟩
    rw [zdn] at d2 ⊢
    intro q c hc
    rw [List.getElem?_set] at hc
    by_cases hq:j=q
    ·subst hq
     have hlt2:=(List.getElem?_eq_some_iff.1 hj).1
     rw [if_pos rfl,if_pos hlt2] at hc;cases hc
     obtain ⟨v,h1,h2,h3⟩:=d2 j _ hj
     have hri:RI w I (.sl sz []) v:=by
      cases h2
      rw [RI]
      exact ⟨none,0,rfl,by simp,.inl rfl⟩
     exact ⟨v,h1,zhy _ _ hri,h3⟩
    ·rw [if_neg hq] at hc;exact d2 q c hc
   ·rw [if_neg hip] at hp;exact c3 p y hp
  ·rw [zba _ _ e] at h
   exact .inl ⟨h,rfl,λ_ _ hf=>hf⟩
 ·intro k o h hwr b hb
  by_cases e:k=m
  ·subst e;exact hC.wok k _ hm rfl b hb
  ·rw [zba _ _ e] at h;exact hC.wok k o h hwr b hb
 ·intro k s ys h b hb
  by_cases e:k=m
  ·subst e;simp [zbe] at h
  ·rw [zba _ _ e] at h;exact hC.fnew k s ys h b hb
end
theorem zx1{α:Type}(f:α→Int)(l:List α)(x:α):szS f (l++[x])=szS f l+f x+1:=by
 unfold szS
 have:∀l:List α,sumZ f (l++[x])=sumZ f l+f x:=by
  intro l
  induction l with
  | nil=>simp [zcj,zcn]
  | cons y l ih=>rw [List.cons_append,zcn,zcn,ih];omega
 rw [this]
 simp only [List.length_append,List.length_cons,List.length_nil]
 omega
def CaG(c:DtCatalog):Prop:=DtCatalog.sz c≤20000
def addSetC(c:DtCatalog)(n:List UInt8):DtCatalog:={ fSets:=c.fSets++[⟨n,[]⟩] }
def addSnap(c:DtCatalog)(h:0<c.fSets.length):DtCatalog:={ fSets:=c.fSets.set 0 (DtCSet.mk c.fSets[0].fName (c.fSets[0].fSnaps++[⟨[120],[],[]⟩])) }
def noName(c:DtCatalog)(h:0<c.fSets.length):DtCatalog:={ fSets:=c.fSets.set 0 (DtCSet.mk [] c.fSets[0].fSnaps) }
theorem zx2(l:List DtCSet)(h:0<l.length)(x:DtCSet)(d:Int)(hx:DtCSet.sz x≤DtCSet.sz l[0]+d):szS DtCSet.sz (l.set 0 x)≤szS DtCSet.sz l+d:=by
 cases l with
 | nil=>simp at h
 | cons y l =>
  have hx:DtCSet.sz x≤DtCSet.sz y+d:=hx
  simp only [List.set_cons_zero,szS,zcn,List.length_cons]
  omega
theorem zq1{c:DtCatalog}(h:DtCatalog.sz c≤10000)(n:List UInt8)(hn:n.length≤100):CaG (addSetC c n):=by
 have:=zx1 DtCSet.sz c.fSets ⟨n,[]⟩
 unfold CaG
 simp only [DtCatalog.sz,addSetC] at h ⊢
 rw [this]
 have h2:DtCSet.sz ⟨n,[]⟩≤200:=by simp [DtCSet.sz,szS,zcj];omega
 omega
theorem zlf{c:DtCatalog}(h:DtCatalog.sz c≤10000)(h0:0<c.fSets.length):CaG (addSnap c h0):=by
 unfold CaG
 have h1:DtCSet.sz (DtCSet.mk c.fSets[0].fName (c.fSets[0].fSnaps++[⟨[120],[],[]⟩]))≤DtCSet.sz c.fSets[0]+200:=by
  have:=zx1 DtCSnap.sz c.fSets[0].fSnaps ⟨[120],[],[]⟩
  simp only [DtCSet.sz]
  rw [this]
  have h2:DtCSnap.sz ⟨[120],[],[]⟩≤100:=by simp [DtCSnap.sz,szS,zcj]
  omega
 have:=zx2 c.fSets h0 _ 200 h1
 simp only [DtCatalog.sz,addSnap] at h ⊢
 omega
theorem zlg{c:DtCatalog}(h:DtCatalog.sz c≤10000)(h0:0<c.fSets.length):CaG (noName c h0):=by
 unfold CaG
 have h1:DtCSet.sz (DtCSet.mk [] c.fSets[0].fSnaps)≤DtCSet.sz c.fSets[0]+0:=by
  simp only [DtCSet.sz]
  simp only [List.length_nil]
  omega
 have:=zx2 c.fSets h0 _ 0 h1
 simp only [DtCatalog.sz,noName] at h ⊢
 omega
theorem zwj{c:DtCatalog}(h:DtCatalog.sz c≤20000):c.fSets.length≤20000:=by
 have h2:=zbv DtCSet.sz_nonneg c.fSets
 simp only [DtCatalog.sz,szS] at h
 omega
theorem caG_len2{c:DtCatalog}(h:DtCatalog.sz c≤20000)(h0:0<c.fSets.length):c.fSets[0].fSnaps.length≤20000:=by
 obtain ⟨cs⟩:=c
 cases cs with
 | nil=>simp at h0
 | cons y l =>
  have h2:=zbv DtCSet.sz_nonneg l
  have h3:=zbv DtCSnap.sz_nonneg y.fSnaps
  simp only [DtCatalog.sz,DtCSet.sz,szS,zcn,List.length_cons] at h
  show y.fSnaps.length≤20000
  omega
theorem immP(ls:List DtCSnap):immR (ls.map DtCSnap.cells)=true:=zwx _ (λ_=>rfl) ls
theorem told_len{s:DtCatalog}{zs:List SetV}(hz:zs.map (·.1)=s.fSets){h0:0<s.fSets.length}{y:List AV}:((addSnap s h0).fSets.map DtCSet.cells).length=((zs.map setV).set 0 y).length:=by
 rw [List.length_map,List.length_set,List.length_map]
 show (s.fSets.set 0 _).length=_
 rw [List.length_set,←hz,List.length_map]
theorem told_0{s:DtCatalog}{zs:List SetV}(hz:zs.map (·.1)=s.fSets)(hkz:0<zs.length)(h0:0<s.fSets.length):∀(i:Nat) y,((addSnap s h0).fSets.map DtCSet.cells)[i]? = some y→∃x,((zs.map setV).set 0 [.s s.fSets[0].fName,.sl 3 ((s.fSets[0].fSnaps++[DtCSnap.mk [120] [] []]).map DtCSnap.cells)])[i]? = some x∧x.length=y.length∧∀(j:Nat) c,y[j]? = some c→x[j]? = some c∨∃v,x[j]? = some (.g v)∧(c,v)∈(zs.take 0).flatMap setP++(zs.drop (0+1)).flatMap setP:=by
 intro i y hy
 by_cases e:i=0
 ·subst e
  refine ⟨_,zmv hkz _,?_⟩
  have:y=DtCSet.cells (DtCSet.mk s.fSets[0].fName (s.fSets[0].fSnaps++[⟨[120],[],[]⟩])):=by
   simp only [addSnap,List.getElem?_map,List.getElem?_set_self h0,Option.map_some,Option.some.injEq] at hy
   exact hy.symm
  subst this
  exact ⟨rfl,λj c hc=>.inl hc⟩
 ·have hy2 : (s.fSets.map DtCSet.cells)[i]? = some y := by
   simp only [addSnap,List.getElem?_map,List.getElem?_set_ne (Ne.symm e)] at hy ⊢
   exact hy
  rw [List.getElem?_set_ne (Ne.symm e),List.getElem?_map]
  rw [←hz,List.map_map,List.getElem?_map] at hy2
  cases hzi:zs[i]? with
  | none=>rw [hzi] at hy2;cases hy2
  | some z =>
   rw [hzi] at hy2
   simp only [Option.map_some,Option.some.injEq] at hy2
   subst hy2
   refine ⟨_,rfl,rfl,λj c hc=>?_⟩
   have hmem:z∈zs.drop (0+1):=by
    obtain ⟨hi,rfl⟩:=List.getElem?_eq_some_iff.1 hzi
    refine List.mem_iff_getElem.2 ⟨i-1,by simp;omega,?_⟩
    rw [List.getElem_drop]
    congr 1;omega
   match j,hc with
   | 0,hc=>exact .inl hc
   | 1,hc =>
    right
    refine ⟨z.2 1,rfl,List.mem_append.2 (.inr (List.mem_flatMap.2 ⟨z,hmem,?_⟩))⟩
    have:c=.sl 3 (z.1.fSnaps.map DtCSnap.cells):=by
     have h:some (AV.sl 3 (z.1.fSnaps.map DtCSnap.cells))=some c:=hc
     exact (Option.some.inj h).symm
    subst this
    exact List.mem_singleton.2 rfl
   | j+2,hc=>exact absurd hc (by simp [DtCSet.cells])
theorem immS(ls:List DtCSet):immR (ls.map DtCSet.cells)=true:=zwx _ (λ_=>rfl) ls
theorem zlh{xs:List (List AV)}(h:immR xs=true){k:Nat}{x:List AV}(hx:x.all imm0=true):immR (xs.set k x)=true:=by
 unfold immR at h ⊢
 rw [List.all_eq_true] at h ⊢
 intro y hy
 rcases List.mem_or_eq_of_mem_set hy with hy | rfl
 ·exact h y hy
 ·exact hx
theorem zcy{zs:List SetV}(h:0<zs.length)(y:List AV):((zs.map setV).set 0 y)[0]? = some y:=by simp [h]
def CatE(l:List Int)(r:AV)(wos' fos:List OB):Prop:=∃(s:DtCatalog) (c':Cur),CaG s∧r=.agg (DtCatalog.cells s)∧wos'=[.cells (curC l c')]∧fos=[]
theorem l15Some(l:List Int)(hl:Code l)(c:Cur):XCallE Tryz.prog 49 [.ptr 8 0] [.cells (curC l c)] 0 (CatE l):=by
 refine zf1 Tryz.func49 (by rfl) (by rfl) (by rw [Tryz.ntmps49];exact Nat.le_of_ble_eq_true rfl) (by simp) rfl rfl ?_
 rw [Tryz.ntmps49]
 refine AW_y1 (.cells (curC l c)) (by simp [cvO]<;>assumption) ?_
 refine AW_k [(0,_)] ⟨rfl,trivial⟩ ?_
 refine AW_x rfl rfl λK hK=>?_
 simp (disch:=omega) [zG27,zcy,cI,cS,cU,DtCSet.cells,DtCSnap.cells,zbw,DtCatalog.cells,-aAppZ]
 repeat' first|(refine ⟨by omega,?_⟩)|(intro _)
 refine hK _ ?_;clear hK K
 refine AW_x rfl rfl λK hK=>?_
 simp (disch:=omega) [zG27,zcy,cI,cS,cU,DtCSet.cells,DtCSnap.cells,zbw,DtCatalog.cells,-aAppZ]
 repeat' first|(exfalso;omega)|(refine XKd_e [8] false [] (l15Cmds l hl c 24 (by omega) (by omega)) ?_ ?_ ?_;(focus (simp [List.range_succ,nmC];done));(focus (simp (disch:=omega) [zG27,zcy,cI,cS,cU,DtCSet.cells,DtCSnap.cells,zbw,DtCatalog.cells,-aAppZ];done));rintro _ _ _ ⟨cs,c1,hlen,hd,rfl,rfl,rfl⟩;refine ⟨⟨by first | rfl|(simp;done),by first | rfl|(simp;done)⟩,?_⟩;simp (disch:=omega) [zG27,zcy,cI,cS,cU,DtCSet.cells,DtCSnap.cells,zbw,DtCatalog.cells,-aAppZ])|(refine zd5 [] true [] (specPlay cs (by have:=cmdsF_sz hd;omega) (by omega)) ?_ ?_ ?_;(focus (simp [List.range_succ,nmC];done));(focus (simp (disch:=omega) [zG27,zcy,cI,cS,cU,DtCSet.cells,DtCSnap.cells,zbw,DtCatalog.cells,-aAppZ];done));simp (disch:=omega) [zG27,zcy,cI,cS,cU,DtCSet.cells,DtCSnap.cells,zbw,DtCatalog.cells,-aAppZ])|(refine ⟨by omega,?_⟩)|(simp (disch:=omega) [zG27,zcy,cI,cS,cU,DtCSet.cells,DtCSnap.cells,zbw,DtCatalog.cells,-aAppZ])|(intro _)
 refine hK _ ?_;clear hK K
 refine zfk (λsS=>∃(s2:DtCatalog) (c3:Cur),(CaG s2)∧sS = { env:=lkE [(2,.ptr 48 0),(3,.ptr 64 0)],ob:=lk [(8,.cells (curC l c3)),(48,.cells [.g (.slice none 0 0)]),(64,.cells [.arr 501 0 s2.fSets.length]),(501,.win 2 (s2.fSets.map DtCSet.cells))] }) ?_ ?_
 ·skip
  have hI:DtCatalog.sz (playC cs)≤10000:=by have:=zqy (zxx cs);omega
  obtain ⟨s,hs⟩:∃s,playC cs=s:=⟨_,rfl⟩
  rw [hs] at hI
  simp only [hs]
  have hL:=zwj (c:=s) (by omega)
  refine AW_x rfl rfl λK hK=>?_
  simp (disch:=omega) [zG27,zcy,cI,cS,cU,DtCSet.cells,DtCSnap.cells,zbw,DtCatalog.cells,-aAppZ]
  repeat' first|(exfalso;omega)|(refine zcw (λ_=>xs_p (xs_g xs_z)) (zkc l hl _ _) rfl rfl ?_;simp (disch:=omega) [zG27,zcy,cI,cS,cU,DtCSet.cells,DtCSnap.cells,zbw,DtCatalog.cells,-aAppZ])|(refine ⟨λ_=>?_,λ_=>?_⟩)|(refine ⟨by omega,?_⟩)|(simp (disch:=omega) [zG27,zcy,cI,cS,cU,DtCSet.cells,DtCSnap.cells,zbw,DtCatalog.cells,-aAppZ])|(intro _)
  all_goals (refine hK _ ?_;clear hK K)
  all_goals
   refine zbg rfl (λhc1=>?_) (λhc1=>?_)
   ·try simp [zG28,zbc,zbb] at hc1
    all_goals
     have h0:0<s.fSets.length:=by first | assumption | omega
     refine AW_x rfl rfl λK hK=>?_
     simp (disch:=omega) [zG27,zcy,cI,cS,cU,DtCSet.cells,DtCSnap.cells,zbw,DtCatalog.cells,-aAppZ]
     repeat' first|(exfalso;omega)|(refine zcw (λ_=>xs_p (xs_g xs_z)) (zfb l hl _ _) rfl rfl ?_;simp (disch:=omega) [zG27,zcy,cI,cS,cU,DtCSet.cells,DtCSnap.cells,zbw,DtCatalog.cells,-aAppZ])|(refine ⟨λ_=>?_,λ_=>?_⟩)|(refine ⟨by omega,?_⟩)|(simp (disch:=omega) [zG27,zcy,cI,cS,cU,DtCSet.cells,DtCSnap.cells,zbw,DtCatalog.cells,-aAppZ])|(intro _)
     all_goals (refine hK _ ?_;clear hK K)
     all_goals
      refine zbj ?_
      refine AW_x rfl rfl λK hK=>?_
      simp (disch:=omega) [zG27,zcy,cI,cS,cU,DtCSet.cells,DtCSnap.cells,zbw,DtCatalog.cells,-aAppZ]
      repeat' first|(refine ⟨by omega,?_⟩)|(intro _)
      refine hK _ ?_;clear hK K
      refine zbg rfl (λhc2=>?_) (λhc2=>?_)
      ·try simp [zG28,zbc,zbb] at hc2
       all_goals
        refine zd3 (LeS.frzN 144 (sz:=2) (xs:=s.fSets.map DtCSet.cells) (zkd (cs:=curC l (belowS l 3 (belowS l 10 c1))) (by simp [zG29,updL])) (by simp [formsX,List.range_succ]) (by simp [zG29,updL])) ?_
        refine zhi rfl mix (by kernel_rfl) (by kernel_rfl) λK hK=>?_
        simp (disch:=omega) [zG27,zcy,cI,cS,cU,DtCSet.cells,DtCSnap.cells,zbw,DtCatalog.cells,-aAppZ]
        repeat' first|(exfalso;omega)|(refine zxe (λ_=>xs_p (xs_a xs_z)) (zgo l hl _ [[97],[122,122],[90]] (by simp)) rfl rfl rfl (by decide) rfl ?_;simp (disch:=omega) [zG27,zcy,cI,cS,cU,DtCSet.cells,DtCSnap.cells,zbw,DtCatalog.cells,-aAppZ])|(refine ⟨λ_=>?_,λ_=>?_⟩)|(refine ⟨by omega,?_⟩)|(simp (disch:=omega) [zG27,zcy,cI,cS,cU,DtCSet.cells,DtCSnap.cells,zbw,DtCatalog.cells,-aAppZ])|(intro _)
        all_goals (refine hK _ _ (by kernel_rfl) ?_;clear hK K)
        all_goals
         have hcz:True:=trivial
         refine ⟨_,LeS.trans (LeS.nilW 560 s.fSets.length 1 3 (s:=2) (zs:=s.fSets.map DtCSet.cells++[[.s (([[97],[122,122],[90]]:List (List UInt8)).getD (below l 3 (belowS l 3 (belowS l 10 c1))).toNat []),.g (.slice none 0 0)]]) (ys:=(s.fSets++[DtCSet.mk (([[97],[122,122],[90]]:List (List UInt8)).getD (below l 3 (belowS l 3 (belowS l 10 c1))).toNat []) []]).map DtCSet.cells) (x:=[.s (([[97],[122,122],[90]]:List (List UInt8)).getD (below l 3 (belowS l 3 (belowS l 10 c1))).toNat []),.g (.slice none 0 0)]) (by simp [zG29,updL,zbo]) (by simp) rfl (by simp [DtCSet.cells])) (LeS.kw [(8,8),(48,48),(64,64),(501,560)] [(2,.ptr 48 0),(3,.ptr 64 0)] [(8,.cells (curC l (belowS l 3 (belowS l 3 (belowS l 10 c1))))),(48,.cells [.g (.slice none 0 0)]),(64,.cells [.arr 501 0 (addSetC s (([[97],[122,122],[90]]:List (List UInt8)).getD (below l 3 (belowS l 3 (belowS l 10 c1))).toNat [])).fSets.length]),(501,.win 2 ((addSetC s (([[97],[122,122],[90]]:List (List UInt8)).getD (below l 3 (belowS l 3 (belowS l 10 c1))).toNat [])).fSets.map DtCSet.cells))] (by simp [zG29,KpR,renV2,renV,zbk,curC,zdz,immS,addSetC,addSnap,noName,DtCSet.cells,hcz];try (first | with_reducible rfl | omega|(simp;done))) (by simp [zG29,KpOW,wnO,renO,plO,cvO,renV,pl1,curC,zdz,immS,addSetC,addSnap,noName,DtCSet.cells,hcz];try (first | with_reducible rfl | exact .inr (zdz (immS _)) | exact .inr (zdz (by rw [zkz,immS];rfl)) | exact .inr (zdz (zlh (immS _) rfl)) | trace_state)) (by rfl) (by simp) (by simp) (by rfl) (by simp [zG30,formsX])),addSetC s (([[97],[122,122],[90]]:List (List UInt8)).getD (below l 3 (belowS l 3 (belowS l 10 c1))).toNat []),belowS l 3 (belowS l 3 (belowS l 10 c1)),?_,rfl⟩
         ·first | exact (show DtCatalog.sz s≤20000 by omega) | exact zq1 hI _ (by have:=zcp [[97],[122,122],[90]] (below l 3 (belowS l 3 (belowS l 10 c1))).toNat (by simp);omega) | exact zlf hI _ | exact zlg hI _
      ·try simp [zG28,zbc,zbb] at hc2
       all_goals
        refine AW_x rfl rfl λK hK=>?_
        simp (disch:=omega) [zG27,zcy,cI,cS,cU,DtCSet.cells,DtCSnap.cells,zbw,DtCatalog.cells,-aAppZ]
        repeat' first|(exfalso;omega)|(refine ⟨λ_=>?_,λ_=>?_⟩)|(refine ⟨by omega,?_⟩)|(simp (disch:=omega) [zG27,zcy,cI,cS,cU,DtCSet.cells,DtCSnap.cells,zbw,DtCatalog.cells,-aAppZ])|(intro _)
        all_goals (refine hK _ ?_;clear hK K)
        all_goals
         refine zbg rfl (λhc3=>?_) (λhc3=>?_)
         ·try simp [zG28,zbc,zbb] at hc3
          all_goals
           refine zft 144 901 902 0 h0 (by simp [zG29]) (by simp [zG29]) (by simp [zG29]) (by decide) (by decide) (by decide) λzs hz=>?_
           have hkz:0<zs.length:=by rw [←hz] at h0;simpa using h0
           have hL2:=caG_len2 (c:=s) (by omega) h0
           refine zd3 (LeS.frzN 902 (sz:=3) (xs:=s.fSets[0].fSnaps.map DtCSnap.cells) (zkd (cs:=curC l (belowS l 3 (belowS l 10 c1))) (by simp [zG29,updL])) (by simp [formsX,List.range_succ]) (by simp [zG29,updL])) ?_
           refine zhi rfl mix (by kernel_rfl) (by kernel_rfl) λK hK=>?_
           simp (disch:=omega) [zG27,zcy,cI,cS,cU,DtCSet.cells,DtCSnap.cells,zbw,DtCatalog.cells,-aAppZ]
           repeat' first|(exfalso;omega)|(refine ⟨λ_=>?_,λ_=>?_⟩)|(refine ⟨by omega,?_⟩)|(simp (disch:=omega) [zG27,zcy,cI,cS,cU,DtCSet.cells,DtCSnap.cells,zbw,DtCatalog.cells,-aAppZ])|(intro _)
           all_goals (refine hK _ _ (by kernel_rfl) ?_;clear hK K)
           all_goals
            have hcz:True:=trivial
            refine ⟨_,LeS.trans (LeS.trans (LeS.nilW 768 s.fSets[0].fSnaps.length 2 1 (s:=3) (zs:=s.fSets[0].fSnaps.map DtCSnap.cells++[[.s [120],.s [],.g (.slice none 0 0)]]) (ys:=(s.fSets[0].fSnaps++[DtCSnap.mk [120] [] []]).map DtCSnap.cells) (x:=[.s [120],.s [],.g (.slice none 0 0)]) (by simp [zG29,updL,zbo]) (by simp) rfl (by simp [DtCSnap.cells])) (LeS.trans (LeS.frzR 768 (o:=.win 3 ((s.fSets[0].fSnaps++[DtCSnap.mk [120] [] []]).map DtCSnap.cells)) (sz:=3) (xs:=(s.fSets[0].fSnaps++[DtCSnap.mk [120] [] []]).map DtCSnap.cells) (zkd (cs:=curC l (belowS l 3 (belowS l 10 c1))) (by simp [zG29,updL])) (by simp [formsX,List.range_succ]) (by simp [zG29,updL]) ⟨rfl,rfl,immP _⟩) (LeS.trans (LeS.vwW 144 0 1 768 (s:=2) (zs:=(zs.map setV).set 0 [.s s.fSets[0].fName,.arr 768 0 (s.fSets[0].fSnaps.length+1)]) (ys:=(zs.map setV).set 0 [.s s.fSets[0].fName,.sl 3 ((s.fSets[0].fSnaps++[DtCSnap.mk [120] [] []]).map DtCSnap.cells)]) (x:=[.s s.fSets[0].fName,.arr 768 0 (s.fSets[0].fSnaps.length+1)]) (off:=0) (len:=s.fSets[0].fSnaps.length+1) (sz:=3) (xs:=(s.fSets[0].fSnaps++[DtCSnap.mk [120] [] []]).map DtCSnap.cells) (by simp [zG29,updL]) (zmv hkz _) rfl (by simp [zb0]) (by simp) (by simp [List.set_set,List.take_of_length_le])) (LeS.frzP 144 901 (s:=2) (xs:=(zs.map setV).set 0 [.s s.fSets[0].fName,.sl 3 ((s.fSets[0].fSnaps++[DtCSnap.mk [120] [] []]).map DtCSnap.cells)]) (ys:=(addSnap s h0).fSets.map DtCSet.cells) (ps:=(zs.take 0).flatMap setP++(zs.drop (0+1)).flatMap setP) (zkd (cs:=curC l (belowS l 3 (belowS l 10 c1))) (by simp [zG29,updL])) (by simp [formsX,List.range_succ]) (by decide) (by simp [zG29,updL]) (by simp [zG29,updL]) (told_len hz) (told_0 hz hkz h0))))) (LeS.kw [(8,8),(48,48),(64,64),(501,144)] [(2,.ptr 48 0),(3,.ptr 64 0)] [(8,.cells (curC l (belowS l 3 (belowS l 10 c1)))),(48,.cells [.g (.slice none 0 0)]),(64,.cells [.arr 501 0 (addSnap s h0).fSets.length]),(501,.win 2 ((addSnap s h0).fSets.map DtCSet.cells))] (by simp [zG29,KpR,renV2,renV,zbk,curC,zdz,immS,addSetC,addSnap,noName,DtCSet.cells,hcz];try (first | with_reducible rfl | omega|(simp;done))) (by simp [zG29,KpOW,wnO,renO,plO,cvO,renV,pl1,curC,zdz,immS,addSetC,addSnap,noName,DtCSet.cells,hcz];try (first | with_reducible rfl | exact .inr (zdz (immS _)) | exact .inr (zdz (by rw [zkz,immS];rfl)) | exact .inr (zdz (zlh (immS _) rfl)) | trace_state)) (by rfl) (by simp) (by simp) (by rfl) (by simp [zG30,formsX])),addSnap s h0,belowS l 3 (belowS l 10 c1),?_,rfl⟩
            ·first | exact (show DtCatalog.sz s≤20000 by omega) | exact zq1 hI _ (by have:=zcp [[97],[122,122],[90]] (below l 3 (belowS l 3 (belowS l 10 c1))).toNat (by simp);omega) | exact zlf hI _ | exact zlg hI _
         ·try simp [zG28,zbc,zbb] at hc3
          all_goals
           refine zb4 rfl rfl λK hK=>?_
           simp (disch:=omega) [zG27,zcy,cI,cS,cU,DtCSet.cells,DtCSnap.cells,zbw,DtCatalog.cells,-aAppZ]
           repeat' first|(exfalso;omega)|(refine ⟨λ_=>?_,λ_=>?_⟩)|(refine ⟨by omega,?_⟩)|(simp (disch:=omega) [zG27,zcy,cI,cS,cU,DtCSet.cells,DtCSnap.cells,zbw,DtCatalog.cells,-aAppZ])|(intro _)
           all_goals (refine hK _ ?_;clear hK K)
           all_goals
            have hcz:True:=trivial
            refine ⟨_,LeS.trans (LeS.frzN 144 (sz:=2) (xs:=(noName s h0).fSets.map DtCSet.cells) (zkd (cs:=curC l (belowS l 3 (belowS l 10 c1))) (by simp [zG29,updL])) (by simp [formsX,List.range_succ]) (by simp [zG29,updL,noName,DtCSet.cells,List.map_set])) (LeS.kw [(8,8),(48,48),(64,64),(501,144)] [(2,.ptr 48 0),(3,.ptr 64 0)] [(8,.cells (curC l (belowS l 3 (belowS l 10 c1)))),(48,.cells [.g (.slice none 0 0)]),(64,.cells [.arr 501 0 (noName s h0).fSets.length]),(501,.win 2 ((noName s h0).fSets.map DtCSet.cells))] (by simp [zG29,KpR,renV2,renV,zbk,curC,zdz,immS,addSetC,addSnap,noName,DtCSet.cells,hcz];try (first | with_reducible rfl | omega|(simp;done))) (by simp [zG29,KpOW,wnO,renO,plO,cvO,renV,pl1,curC,zdz,immS,addSetC,addSnap,noName,DtCSet.cells,hcz];try (first | with_reducible rfl | exact .inr (zdz (immS _)) | exact .inr (zdz (by rw [zkz,immS];rfl)) | exact .inr (zdz (zlh (immS _) rfl)) | trace_state)) (by rfl) (by simp) (by simp) (by rfl) (by simp [zG30,formsX])),noName s h0,belowS l 3 (belowS l 10 c1),?_,rfl⟩
            ·first | exact (show DtCatalog.sz s≤20000 by omega) | exact zq1 hI _ (by have:=zcp [[97],[122,122],[90]] (below l 3 (belowS l 3 (belowS l 10 c1))).toNat (by simp);omega) | exact zlf hI _ | exact zlg hI _
   ·try simp [zG28,zbc,zbb] at hc1
    all_goals
     refine zbi ?_
     first | have hE:∃cz,cz=belowS l 10 c1∧below l 10 c1=0:=⟨_,rfl,by assumption⟩ | have hE:∃cz,cz=belowS l 10 c1∧¬below l 10 c1=0:=⟨_,rfl,by assumption⟩ | have hE:∃cz,cz=c1∧True:=⟨_,rfl,trivial⟩
     obtain ⟨cz,hcz,-⟩:=hE
     refine ⟨_,LeS.trans (LeS.frzN 144 (sz:=2) (xs:=s.fSets.map DtCSet.cells) (zkd (cs:=curC l cz) (by simp [zG29,updL,hcz])) (by simp [formsX,List.range_succ]) (by simp [zG29,updL])) (LeS.kw [(8,8),(48,48),(64,64),(501,144)] [(2,.ptr 48 0),(3,.ptr 64 0)] [(8,.cells (curC l (cz))),(48,.cells [.g (.slice none 0 0)]),(64,.cells [.arr 501 0 (s).fSets.length]),(501,.win 2 ((s).fSets.map DtCSet.cells))] (by simp [zG29,KpR,renV2,renV,zbk,curC,zdz,immS,addSetC,addSnap,noName,DtCSet.cells,hcz];try (first | with_reducible rfl | omega|(simp;done))) (by simp [zG29,KpOW,wnO,renO,plO,cvO,renV,pl1,curC,zdz,immS,addSetC,addSnap,noName,DtCSet.cells,hcz];try (first | with_reducible rfl | exact .inr (zdz (immS _)) | exact .inr (zdz (by rw [zkz,immS];rfl)) | exact .inr (zdz (zlh (immS _) rfl)) | trace_state)) (by rfl) (by simp) (by simp) (by rfl) (by simp [zG30,formsX])),s,cz,?_,rfl⟩
     ·first | exact (show DtCatalog.sz s≤20000 by omega) | exact zq1 hI _ (by have:=zcp [[97],[122,122],[90]] (below l 3 (belowS l 3 (belowS l 10 c1))).toNat (by simp);omega) | exact zlf hI _ | exact zlg hI _
 ·rintro sS ⟨s2,c3,hG2,rfl⟩
  refine AW_x rfl rfl λK hK=>?_
  simp (disch:=omega) [zG27,zcy,cI,cS,cU,DtCSet.cells,DtCSnap.cells,zbw,DtCatalog.cells,-aAppZ]
  repeat' first|(exfalso;omega)|(refine ⟨λ_=>?_,λ_=>?_⟩)|(refine ⟨by omega,?_⟩)|(simp (disch:=omega) [zG27,zcy,cI,cS,cU,DtCSet.cells,DtCSnap.cells,zbw,DtCatalog.cells,-aAppZ])|(intro _)
  all_goals (refine hK _ ?_;clear hK K)
  all_goals
   refine zd3 (LeS.frzR 501 (o:=.win 2 (s2.fSets.map DtCSet.cells)) (sz:=2) (xs:=s2.fSets.map DtCSet.cells) (zkd (cs:=curC l c3) (by simp [zG29,updL])) (by simp [formsX,List.range_succ]) (by simp [zG29,updL]) ⟨rfl,rfl,immS _⟩) ?_
   refine zd3 (LeS.vwC 48 0 501 (sz:=2) (xs:=s2.fSets.map DtCSet.cells) (cs:=[.arr 501 0 s2.fSets.length]) (off:=0) (len:=s2.fSets.length) (by simp [zG29,updL,zbo]) (by simp) (by simp [zb0]) (by simp)) ?_
   refine zpx (.agg (DtCatalog.cells s2)) [.cells (curC l c3)] [] ?po (by simp) (by simp) (by simp [OB.xk]) (zce [] [] (by simp [zG29,List.range_succ]) (by simp) ?en)
   case en =>
    simp (disch:=omega) [zG27,zcy,cI,cS,cU,DtCSet.cells,DtCSnap.cells,zbw,DtCatalog.cells,-aAppZ]
    all_goals trace_state
   case po=>exact ⟨s2,c3,hG2,rfl,rfl,rfl⟩
end Go.Proofs.YtodmafgmdlkhoaaGreat.Vs
end
