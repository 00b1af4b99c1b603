import Derived.Test.YtodmafgmdlkhoaaDoorSM5
import Derived.Test.YtodmafgmdlkhoaaDoorSM4
import Derived.Test.YtodmafgmdlkhoaaDoorSM2
section
namespace Go.Proofs.YtodmafgmdlkhoaaDoor.Vs
set_option linter.all false
set_option maxRecDepth 100000
set_option maxHeartbeats 2000000
theorem zbx{P:Program}{st:St}(nm:Nat)(ts:List TypeId)(s:AV)(n o l:Nat):aAppZ P st nm ts s (.arr n o l)=none:=by
 unfold aAppZ
 split
 ·rename_i h;cases h
 ·rfl
def CmdF(x:DtCmd):Prop:=(x.fSet.length≤16∧x.fSet≠[111,108,100])∧x.fName.length≤16∧x.fTag.length≤16∧x.fChunks.length≤5∧∀t∈x.fChunks,t.length≤16
theorem zvw(xs:List (List UInt8))(n:Nat)(h:∀x∈xs,x≠[111,108,100]):xs.getD n []≠[111,108,100]:=by
 rw [List.getD_eq_getElem?_getD]
 cases hx:xs[n]? with
 | none=>simp
 | some x=>exact h x (List.mem_of_getElem? hx)
theorem zjo(l:List Int)(c:Cur):(S6 l c).x.fSet≠[111,108,100]:=by
 have e6:(S6 l c).x.fSet=(S5 l c).x.fSet:=by unfold S6;split<;>rfl
 have e5:(S5 l c).x.fSet=(S4 l c).x.fSet:=by unfold S5;split<;>rfl
 have e4:(S4 l c).x.fSet=(S3 l c).x.fSet:=by unfold S4;split<;>rfl
 have e3:(S3 l c).x.fSet=(S2 l c).x.fSet:=by unfold S3;split<;>rfl
 have e1:(S1 l c).x.fSet=[]:=by unfold S1;split<;>rfl
 rw [e6,e5,e4,e3]
 unfold S2
 split
 ·rw [e1];simp
 ·exact zvw _ _ (by simp)
theorem zku{x:DtCmd}(h:CmdD x)(ho:x.fSet≠[111,108,100]):CmdF x:=⟨⟨h.1,ho⟩,h.2.1,h.2.2.1,by have:=h.2.2.2.1;omega,h.2.2.2.2⟩
def setKind(x:DtCmd)(n:Int):DtCmd:={ x with fKind:=n }
def setClient(x:DtCmd)(n:Int):DtCmd:={ x with fClient:=n }
def setNo(x:DtCmd)(n:Int):DtCmd:={ x with fNo:=n }
def setSet(x:DtCmd)(n:List UInt8):DtCmd:={ x with fSet:=n }
def setN(x:DtCmd)(n:Int):DtCmd:={ x with fN:=n }
def addCh(x:DtCmd)(t:List UInt8):DtCmd:={ x with fChunks:=x.fChunks++[t] }
theorem setSet_F{x:DtCmd}{t:List UInt8}(h:CmdF x)(ht:t.length≤16)(ho:t≠[111,108,100]):CmdF (setSet x t):=⟨⟨ht,ho⟩,h.2⟩
theorem addCh_F{x:DtCmd}{t:List UInt8}(h:CmdD x)(ho:x.fSet≠[111,108,100])(ht:t.length≤16):CmdF (addCh x t):=by
 obtain ⟨h1,h2,h3,h4,h5⟩:=h
 refine ⟨⟨h1,ho⟩,h2,h3,by show (x.fChunks++[t]).length≤5;simp;omega,λu hu=>?_⟩
 rcases List.mem_append.1 hu with hu | hu
 ·exact h5 u hu
 ·rw [List.mem_singleton] at hu;rwa [hu]
def cA(l:List Int)(c:Cur):Cur:=(S6 l (belowS l 12 c)).c
def xA(l:List Int)(c:Cur):DtCmd:=(S6 l (belowS l 12 c)).x
def cE(l:List Int)(c:Cur):Cur:=belowS l 6 (belowS l 8 (cA l c))
attribute [local simp] cmdO
def CmdE(l:List Int)(r:AV)(wos' fos:List OB):Prop:=∃(x:DtCmd) (c':Cur),CmdF x∧r=.agg (cmdO x 16)∧wos'=[.cells (curC l c')]∧fos=[.own 1 (x.fChunks.map cS)]
def zG16:=And.intro @zcj (And.intro @gE (And.intro @tP (And.intro @and_assoc (And.intro @List.range_succ (And.intro @zbv (And.intro @zgd (And.intro @zbk @zbl)))))))
def zG17:=And.intro @zbk @zbl
def zG18:=And.intro @zbr (And.intro @zbz @zce)
def zG19:=And.intro @List.range_succ (And.intro @zbr @zbz)
theorem l4Cmd(l:List Int)(hl:Code l)(c:Cur):XCallE Tryd.prog 69 [.ptr 8 0] [.cells (curC l c)] 1 (CmdE l):=by
 refine zcy Tryd.func69 (by rfl) (by rfl) (by rw [Tryd.ntmps69];exact Nat.le_of_ble_eq_true rfl) (by simp) rfl ?_
 rw [Tryd.ntmps69]
 refine zhn (.cells (curC l c)) (by simp [cvO]<;>assumption) ?_
 refine AW_k [(0,_)] ⟨rfl,trivial⟩ ?_
 refine AW_x rfl rfl λK hK=>?_
 simp (disch:=omega) [zG16,cI,cS,cU,DtCmd.cells,cmdO,zbx,-aAppZ]
 refine hK _ ?_;clear hK K
 refine zbe ?_
 refine AW_x rfl rfl λK hK=>?_
 simp (disch:=omega) [zG16,cI,cS,cU,DtCmd.cells,cmdO,zbx,-aAppZ]
 repeat' first|(refine zco (λ_=>xs_p (xs_g xs_z)) (zkt l hl _ _) rfl rfl ?_;simp (disch:=omega) [zG16,cI,cS,cU,DtCmd.cells,cmdO,zbx,-aAppZ]) | fail
 refine hK _ ?_;clear hK K
 refine zbg rfl (λhc1=>?_) (λhc1=>?_)
 ·try simp [zG17,zbc,zba] at hc1
  refine AW_x rfl rfl λK hK=>?_
  simp (disch:=omega) [zG16,cI,cS,cU,DtCmd.cells,cmdO,zbx,-aAppZ]
  refine hK _ ?_;clear hK K
  refine zbo ⟨(.agg (cmdO ⟨0,0,0,[],[],[],0,[]⟩ 16)),[.cells (curC l (belowS l 12 c))],[.own 1 []],?po,(by simp),(by simp),(by simp [OB.xk]),(zb7 [1000] [(1000,1)] (by simp [zG18,List.range_succ]) (by simp) ?en)⟩
  case en =>
   simp (disch:=omega) [zG16,cI,cS,cU,DtCmd.cells,cmdO,zbx,-aAppZ]
  case po=>exact ⟨⟨0,0,0,[],[],[],0,[]⟩,_,by simp [CmdF],rfl,rfl,rfl⟩
 ·try simp [zG17,zbc,zba] at hc1
  refine zbh ?_
  refine zbm ?_
  refine AW_x rfl rfl λK hK=>?_
  simp (disch:=omega) [zG16,cI,cS,cU,DtCmd.cells,cmdO,zbx,-aAppZ]
  repeat' first|(refine zch [8] false [] (l4Right l hl (belowS l 12 c)) ?_ ?_ ?_;(focus (simp [List.range_succ,nmC];done));(focus (simp (disch:=omega) [zG16,cI,cS,cU,DtCmd.cells,cmdO,zbx,-aAppZ];done));simp (disch:=omega) [zG16,cI,cS,cU,DtCmd.cells,cmdO,zbx,-aAppZ]) | fail
  refine hK _ ?_;clear hK K
  refine zfz (λsS=>∃(x:DtCmd) (c3:Cur),(CmdF x)∧sS = { env:=lkE [(2,.ptr 48 0),(3,.ptr 64 0)],ob:=lk [(8,.cells (curC l c3)),(48,.cells [(.g (.int .i64 (0))),(.g (.int .i64 (0))),(.g (.int .i64 (0))),.s [],.s [],.s [],(.g (.int .i64 (0))),.g (.slice none 0 0)]),(64,.cells (cmdO x 501)),(501,.own 1 (x.fChunks.map cS))] }) ?_ ?_
  ·skip
   refine AW_x rfl rfl λK hK=>?_
   simp (disch:=omega) [zG16,cI,cS,cU,DtCmd.cells,cmdO,zbx,-aAppZ]
   repeat' first|(refine zco (λ_=>xs_p (xs_g xs_z)) (zkt l hl _ _) rfl rfl ?_;simp (disch:=omega) [zG16,cI,cS,cU,DtCmd.cells,cmdO,zbx,-aAppZ]) | fail
   refine hK _ ?_;clear hK K
   refine zbg rfl (λhc2=>?_) (λhc2=>?_)
   ·try simp [zG17,zbc,zba] at hc2
    refine AW_x rfl rfl λK hK=>?_
    simp (disch:=omega) [zG16,cI,cS,cU,DtCmd.cells,cmdO,zbx,-aAppZ]
    repeat' first|(refine zco (λ_=>xs_p (xs_g xs_z)) (zdi l hl _ _) rfl rfl ?_;simp (disch:=omega) [zG16,cI,cS,cU,DtCmd.cells,cmdO,zbx,-aAppZ]) | fail
    refine hK _ ?_;clear hK K
    refine zbi ?_
    refine AW_x rfl rfl λK hK=>?_
    simp (disch:=omega) [zG16,cI,cS,cU,DtCmd.cells,cmdO,zbx,-aAppZ]
    refine hK _ ?_;clear hK K
    refine zbg rfl (λhc3=>?_) (λhc3=>?_)
    ·try simp [zG17,zbc,zba] at hc3
     refine zb4 rfl rfl λK hK=>?_
     simp (disch:=omega) [zG16,cI,cS,cU,DtCmd.cells,cmdO,zbx,-aAppZ]
     repeat' first|(refine zft (λ_=>xs_p (xs_a xs_z)) (zg5 l hl _ [-1,0,8,3] (by simp)) rfl rfl rfl (by decide) rfl ?_)|(simp (disch:=omega) [zG16,cI,cS,cU,DtCmd.cells,cmdO,zbx,-aAppZ])
     refine hK _ ?_;clear hK K
     refine ⟨_,LeS.kx [(8,8),(48,48),(64,64),(501,144)] [(2,.ptr 48 0),(3,.ptr 64 0)] [(8,.cells (curC l (belowS l 4 (cE l c)))),(48,.cells [(.g (.int .i64 (0))),(.g (.int .i64 (0))),(.g (.int .i64 (0))),.s [],.s [],.s [],(.g (.int .i64 (0))),.g (.slice none 0 0)]),(64,.cells (cmdO (setKind (xA l c) (pickZ [-1,0,8,3] (below l 4 (cE l c)))) 501)),(501,.own 1 ((setKind (xA l c) (pickZ [-1,0,8,3] (below l 4 (cE l c)))).fChunks.map cS))] (by simp [zG18,KpR,renV2,renV,zbj,curC,cmdO,xA,cA,cE,setKind,setClient,setNo,setSet,setN,addCh]) (by simp [zG18,KpOX,renO,plO,cvO,renV,pl1,curC,cmdO,xA,cA,cE,setKind,setClient,setNo,setSet,setN,addCh];try trace_state) (by rfl) (by simp) (by simp) (by rfl) (by simp [zG19,formsX]),setKind (xA l c) (pickZ [-1,0,8,3] (below l 4 (cE l c))),belowS l 4 (cE l c),?_,rfl⟩
     ·have hs6:=(S_bd l (belowS l 12 c)).1;have hq:=zku hs6 (zjo _ _);exact hq
    ·try simp [zG17,zbc,zba] at hc3
     refine AW_x rfl rfl λK hK=>?_
     simp (disch:=omega) [zG16,cI,cS,cU,DtCmd.cells,cmdO,zbx,-aAppZ]
     refine hK _ ?_;clear hK K
     refine zbg rfl (λhc4=>?_) (λhc4=>?_)
     ·try simp [zG17,zbc,zba] at hc4
      refine zb4 rfl rfl λK hK=>?_
      simp (disch:=omega) [zG16,cI,cS,cU,DtCmd.cells,cmdO,zbx,-aAppZ]
      repeat' first|(refine zft (λ_=>xs_p (xs_a xs_z)) (zg5 l hl _ [0,9,10] (by simp)) rfl rfl rfl (by decide) rfl ?_)|(simp (disch:=omega) [zG16,cI,cS,cU,DtCmd.cells,cmdO,zbx,-aAppZ])
      refine hK _ ?_;clear hK K
      refine ⟨_,LeS.kx [(8,8),(48,48),(64,64),(501,144)] [(2,.ptr 48 0),(3,.ptr 64 0)] [(8,.cells (curC l (belowS l 3 (cE l c)))),(48,.cells [(.g (.int .i64 (0))),(.g (.int .i64 (0))),(.g (.int .i64 (0))),.s [],.s [],.s [],(.g (.int .i64 (0))),.g (.slice none 0 0)]),(64,.cells (cmdO (setClient (xA l c) (pickZ [0,9,10] (below l 3 (cE l c)))) 501)),(501,.own 1 ((setClient (xA l c) (pickZ [0,9,10] (below l 3 (cE l c)))).fChunks.map cS))] (by simp [zG18,KpR,renV2,renV,zbj,curC,cmdO,xA,cA,cE,setKind,setClient,setNo,setSet,setN,addCh]) (by simp [zG18,KpOX,renO,plO,cvO,renV,pl1,curC,cmdO,xA,cA,cE,setKind,setClient,setNo,setSet,setN,addCh];try trace_state) (by rfl) (by simp) (by simp) (by rfl) (by simp [zG19,formsX]),setClient (xA l c) (pickZ [0,9,10] (below l 3 (cE l c))),belowS l 3 (cE l c),?_,rfl⟩
      ·have hs6:=(S_bd l (belowS l 12 c)).1;have hq:=zku hs6 (zjo _ _);exact hq
     ·try simp [zG17,zbc,zba] at hc4
      refine AW_x rfl rfl λK hK=>?_
      simp (disch:=omega) [zG16,cI,cS,cU,DtCmd.cells,cmdO,zbx,-aAppZ]
      refine hK _ ?_;clear hK K
      refine zbg rfl (λhc5=>?_) (λhc5=>?_)
      ·try simp [zG17,zbc,zba] at hc5
       refine zb4 rfl rfl λK hK=>?_
       simp (disch:=omega) [zG16,cI,cS,cU,DtCmd.cells,cmdO,zbx,-aAppZ]
       repeat' first|(refine zft (λ_=>xs_p (xs_a xs_z)) (zg5 l hl _ [0,1000,1001] (by simp)) rfl rfl rfl (by decide) rfl ?_)|(simp (disch:=omega) [zG16,cI,cS,cU,DtCmd.cells,cmdO,zbx,-aAppZ])
       refine hK _ ?_;clear hK K
       refine ⟨_,LeS.kx [(8,8),(48,48),(64,64),(501,144)] [(2,.ptr 48 0),(3,.ptr 64 0)] [(8,.cells (curC l (belowS l 3 (cE l c)))),(48,.cells [(.g (.int .i64 (0))),(.g (.int .i64 (0))),(.g (.int .i64 (0))),.s [],.s [],.s [],(.g (.int .i64 (0))),.g (.slice none 0 0)]),(64,.cells (cmdO (setNo (xA l c) (pickZ [0,1000,1001] (below l 3 (cE l c)))) 501)),(501,.own 1 ((setNo (xA l c) (pickZ [0,1000,1001] (below l 3 (cE l c)))).fChunks.map cS))] (by simp [zG18,KpR,renV2,renV,zbj,curC,cmdO,xA,cA,cE,setKind,setClient,setNo,setSet,setN,addCh]) (by simp [zG18,KpOX,renO,plO,cvO,renV,pl1,curC,cmdO,xA,cA,cE,setKind,setClient,setNo,setSet,setN,addCh];try trace_state) (by rfl) (by simp) (by simp) (by rfl) (by simp [zG19,formsX]),setNo (xA l c) (pickZ [0,1000,1001] (below l 3 (cE l c))),belowS l 3 (cE l c),?_,rfl⟩
       ·have hs6:=(S_bd l (belowS l 12 c)).1;have hq:=zku hs6 (zjo _ _);exact hq
      ·try simp [zG17,zbc,zba] at hc5
       refine AW_x rfl rfl λK hK=>?_
       simp (disch:=omega) [zG16,cI,cS,cU,DtCmd.cells,cmdO,zbx,-aAppZ]
       refine hK _ ?_;clear hK K
       refine zbg rfl (λhc6=>?_) (λhc6=>?_)
       ·try simp [zG17,zbc,zba] at hc6
        refine zb4 rfl rfl λK hK=>?_
        simp (disch:=omega) [zG16,cI,cS,cU,DtCmd.cells,cmdO,zbx,-aAppZ]
        repeat' first|(refine zft (λ_=>xs_p (xs_a xs_z)) (zsm l hl _ [[],[65],[97,98,99,100,101,102,103,104],[97,98,99,100,101,102,103,104,105]] (by simp)) rfl rfl rfl (by decide) rfl ?_;simp (disch:=omega) [zG16,cI,cS,cU,DtCmd.cells,cmdO,zbx,-aAppZ]) | fail
        refine hK _ ?_;clear hK K
        refine ⟨_,LeS.kx [(8,8),(48,48),(64,64),(501,144)] [(2,.ptr 48 0),(3,.ptr 64 0)] [(8,.cells (curC l (belowS l 4 (cE l c)))),(48,.cells [(.g (.int .i64 (0))),(.g (.int .i64 (0))),(.g (.int .i64 (0))),.s [],.s [],.s [],(.g (.int .i64 (0))),.g (.slice none 0 0)]),(64,.cells (cmdO (setSet (xA l c) (([[],[65],[97,98,99,100,101,102,103,104],[97,98,99,100,101,102,103,104,105]]:List (List UInt8)).getD (below l 4 (cE l c)).toNat [])) 501)),(501,.own 1 ((setSet (xA l c) (([[],[65],[97,98,99,100,101,102,103,104],[97,98,99,100,101,102,103,104,105]]:List (List UInt8)).getD (below l 4 (cE l c)).toNat [])).fChunks.map cS))] (by simp [zG18,KpR,renV2,renV,zbj,curC,cmdO,xA,cA,cE,setKind,setClient,setNo,setSet,setN,addCh]) (by simp [zG18,KpOX,renO,plO,cvO,renV,pl1,curC,cmdO,xA,cA,cE,setKind,setClient,setNo,setSet,setN,addCh];try trace_state) (by rfl) (by simp) (by simp) (by rfl) (by simp [zG19,formsX]),setSet (xA l c) (([[],[65],[97,98,99,100,101,102,103,104],[97,98,99,100,101,102,103,104,105]]:List (List UInt8)).getD (below l 4 (cE l c)).toNat []),belowS l 4 (cE l c),?_,rfl⟩
        ·have hs6:=(S_bd l (belowS l 12 c)).1;have hq:=zku hs6 (zjo _ _);exact setSet_F hq (zjn _ _ (by simp)) (zvw _ _ (by simp))
       ·try simp [zG17,zbc,zba] at hc6
        refine AW_x rfl rfl λK hK=>?_
        simp (disch:=omega) [zG16,cI,cS,cU,DtCmd.cells,cmdO,zbx,-aAppZ]
        refine hK _ ?_;clear hK K
        refine zbg rfl (λhc7=>?_) (λhc7=>?_)
        ·try simp [zG17,zbc,zba] at hc7
         refine zb4 rfl rfl λK hK=>?_
         simp (disch:=omega) [zG16,cI,cS,cU,DtCmd.cells,cmdO,zbx,-aAppZ]
         repeat' first|((refine zft (λ_=>xs_p (xs_a xs_z)) (zg5 l hl _ [-1,9,10] (by simp)) rfl rfl rfl (by decide) rfl ?_;simp (disch:=omega) [zG16,cI,cS,cU,DtCmd.cells,cmdO,zbx,-aAppZ])) | fail
         refine hK _ ?_;clear hK K
         refine ⟨_,LeS.kx [(8,8),(48,48),(64,64),(501,144)] [(2,.ptr 48 0),(3,.ptr 64 0)] [(8,.cells (curC l (belowS l 3 (cE l c)))),(48,.cells [(.g (.int .i64 (0))),(.g (.int .i64 (0))),(.g (.int .i64 (0))),.s [],.s [],.s [],(.g (.int .i64 (0))),.g (.slice none 0 0)]),(64,.cells (cmdO (setN (xA l c) (pickZ [-1,9,10] (below l 3 (cE l c)))) 501)),(501,.own 1 ((setN (xA l c) (pickZ [-1,9,10] (below l 3 (cE l c)))).fChunks.map cS))] (by simp [zG18,KpR,renV2,renV,zbj,curC,cmdO,xA,cA,cE,setKind,setClient,setNo,setSet,setN,addCh]) (by simp [zG18,KpOX,renO,plO,cvO,renV,pl1,curC,cmdO,xA,cA,cE,setKind,setClient,setNo,setSet,setN,addCh];try trace_state) (by rfl) (by simp) (by simp) (by rfl) (by simp [zG19,formsX]),setN (xA l c) (pickZ [-1,9,10] (below l 3 (cE l c))),belowS l 3 (cE l c),?_,rfl⟩
         ·have hs6:=(S_bd l (belowS l 12 c)).1;have hq:=zku hs6 (zjo _ _);exact hq
        ·try simp [zG17,zbc,zba] at hc7
         have hs6:=(S_bd l (belowS l 12 c)).1.2.2.2.1
         refine zje rfl mix (by kernel_rfl) (by kernel_rfl) λK hK=>?_
         simp (disch:=omega) [zG16,cI,cS,cU,DtCmd.cells,cmdO,zbx,-aAppZ]
         repeat' first|(refine zmt (λ_=>xs_p (xs_g xs_z)) (l1Text l hl _ 9 (by omega)) rfl rfl ?_;simp (disch:=omega) [zG16,cI,cS,cU,DtCmd.cells,cmdO,zbx,-aAppZ])|(refine ⟨by omega,?_⟩) | fail
         refine hK _ _ (by kernel_rfl) ?_;clear hK K
         refine ⟨_,LeS.kx [(8,8),(48,48),(64,64),(501,304)] [(2,.ptr 48 0),(3,.ptr 64 0)] [(8,.cells (curC l ((TXT l 9 (cE l c)).2))),(48,.cells [(.g (.int .i64 (0))),(.g (.int .i64 (0))),(.g (.int .i64 (0))),.s [],.s [],.s [],(.g (.int .i64 (0))),.g (.slice none 0 0)]),(64,.cells (cmdO (addCh (xA l c) (strN (TXT l 9 (cE l c)).1)) 501)),(501,.own 1 ((addCh (xA l c) (strN (TXT l 9 (cE l c)).1)).fChunks.map cS))] (by simp [zG18,KpR,renV2,renV,zbj,curC,cmdO,xA,cA,cE,setKind,setClient,setNo,setSet,setN,addCh]) (by simp [zG18,KpOX,renO,plO,cvO,renV,pl1,curC,cmdO,xA,cA,cE,setKind,setClient,setNo,setSet,setN,addCh];try ((simp [cS,zgd];done))) (by rfl) (by simp) (by simp) (by rfl) (by simp [zG19,formsX]),addCh (xA l c) (strN (TXT l 9 (cE l c)).1),(TXT l 9 (cE l c)).2,?_,rfl⟩
         ·have hs6:=(S_bd l (belowS l 12 c)).1;have hq:=zku hs6 (zjo _ _);(exact addCh_F hs6 (zjo _ _) (by rw [zkh];have:=zki l 9 (cE l c);omega))
   ·try simp [zG17,zbc,zba] at hc2
    refine zbh ?_
    refine ⟨_,LeS.kx [(8,8),(48,48),(64,64),(501,144)] [(2,.ptr 48 0),(3,.ptr 64 0)] [(8,.cells (curC l (belowS l 8 (cA l c)))),(48,.cells [(.g (.int .i64 (0))),(.g (.int .i64 (0))),(.g (.int .i64 (0))),.s [],.s [],.s [],(.g (.int .i64 (0))),.g (.slice none 0 0)]),(64,.cells (cmdO (xA l c) 501)),(501,.own 1 ((xA l c).fChunks.map cS))] (by simp [zG18,KpR,renV2,renV,zbj,curC,cmdO,xA,cA,cE,setKind,setClient,setNo,setSet,setN,addCh]) (by simp [zG18,KpOX,renO,plO,cvO,renV,pl1,curC,cmdO,xA,cA,cE,setKind,setClient,setNo,setSet,setN,addCh];try trace_state) (by rfl) (by simp) (by simp) (by rfl) (by simp [zG19,formsX]),xA l c,belowS l 8 (cA l c),?_,rfl⟩
    ·have hs6:=(S_bd l (belowS l 12 c)).1;have hq:=zku hs6 (zjo _ _);exact hq
  ·rintro sS ⟨x,c3,hx,rfl⟩
   refine AW_x rfl rfl λK hK=>?_
   simp (disch:=omega) [zG16,cI,cS,cU,DtCmd.cells,cmdO,zbx,-aAppZ]
   refine hK _ ?_;clear hK K
   refine zbo ⟨(.agg (cmdO x 16)),[.cells (curC l c3)],[.own 1 (x.fChunks.map cS)],?po,(by simp),(by simp),(by simp [OB.xk]),(zb7 [501] [] (by simp [zG18,List.range_succ]) (by simp) ?en)⟩
   case en =>
    simp (disch:=omega) [zG16,cI,cS,cU,DtCmd.cells,cmdO,zbx,-aAppZ]
   case po=>exact ⟨x,c3,hx,rfl,rfl,rfl⟩
end Go.Proofs.YtodmafgmdlkhoaaDoor.Vs
end
section
namespace Go.Proofs.YtodmafgmdlkhoaaDoor.Vs
set_option linter.all false
set_option maxRecDepth 100000
set_option maxHeartbeats 2000000
attribute [local simp] cmdO
def pkS(l:List Int)(c:Cur):List UInt8:=([[97],[98],[97,98],[99],[100],[101],[102]]:List (List UInt8)).getD (below l 7 c).toNat []
def CmdsE(l:List Int)(m:Nat)(r:AV)(wos' fos:List OB):Prop:=∃(cs:List DtCmd) (c':Cur),cs.length≤m∧(∀x∈cs,CmdF x)∧r=.arr 16 0 cs.length∧wos'=[.cells (curC l c')]∧fos=[.own 8 (cs.map DtCmd.cells)]
theorem l15Cmds(l:List Int)(hl:Code l)(c:Cur)(m:Nat)(hm:m≤1000)(hm0:0<m):XCallE Tryd.prog 57 [.ptr 8 0,(.g (.int .i64 ((m:Nat))))] [.cells (curC l c)] 1 (CmdsE l m):=by
 refine zcy Tryd.func57 (by rfl) (by rfl) (by rw [Tryd.ntmps57];exact Nat.le_of_ble_eq_true rfl) (by simp) rfl ?_
 rw [Tryd.ntmps57]
 refine zhn (.cells (curC l c)) (by simp [cvO]<;>assumption) ?_
 refine AW_k [(0,_),(1,_)] ⟨rfl,rfl,trivial⟩ ?_
 refine AW_x rfl rfl λK hK=>?_
 simp (disch:=omega) [zG16,cI,cS,cU,DtCmd.cells,cmdO,zbx,-aAppZ]
 refine hK _ ?_;clear hK K
 refine AW_x rfl rfl λK hK=>?_
 simp (disch:=omega) [zG16,cI,cS,cU,DtCmd.cells,cmdO,zbx,-aAppZ]
 refine hK _ ?_;clear hK K
 refine zbe ?_
 refine AW_x rfl rfl λK hK=>?_
 simp (disch:=omega) [zG16,cI,cS,cU,DtCmd.cells,cmdO,zbx,-aAppZ]
 repeat' first|(refine zco (λ_=>xs_p (xs_g xs_z)) (zdi l hl _ _) rfl rfl ?_;simp (disch:=omega) [zG16,cI,cS,cU,DtCmd.cells,cmdO,zbx,-aAppZ]) | fail
 refine hK _ ?_;clear hK K
 refine zbi ?_
 have hb7:=zc5 l m c
 refine zbt (λmM sS=>∃(n:Nat) (cs:List DtCmd) (c2:Cur),mM=2*n∧(n+cs.length≤m∧∀x∈cs,CmdF x)∧sS = { env:=lkE [(0,.ptr 8 0),(5,.arr 501 0 cs.length),(6,(.g (.int .i64 ((n:Nat)))))],ob:=lk [(8,.cells (curC l c2)),(501,.own 8 (cs.map DtCmd.cells))] }) ?_ ?_
 ·refine ⟨_,LeS.kx [(8,8),(501,144)] [(0,.ptr 8 0),(5,.arr 501 0 ([]).length),(6,(.g (.int .i64 ((((below l m c).toNat):Nat)))))] [(8,.cells (curC l (belowS l m c))),(501,.own 8 (([]).map DtCmd.cells))] (by simp [zG18,KpR,renV2,renV,zbj,curC,DtCmd.cells,cmdO];try omega) (by simp [zG18,KpOX,renO,plO,cvO,renV,pl1,curC,DtCmd.cells,cmdO];try trace_state) (by rfl) (by simp) (by simp) (by rfl) (by simp [zG19,formsX]),_,(below l m c).toNat,[],belowS l m c,rfl,?_,rfl⟩
  ·exact ⟨by simp;omega,by simp⟩
 ·rintro mM sS ⟨n,cs,c2,rfl,⟨hnl,hd⟩,rfl⟩
  refine zbe ?_
  refine AW_x rfl rfl λK hK=>?_
  simp (disch:=omega) [zG16,cI,cS,cU,DtCmd.cells,cmdO,zbx,-aAppZ]
  refine hK _ ?_;clear hK K
  refine zbg rfl (λhc1=>?_) (λhc1=>?_)
  ·try simp [zG17,zbc,zba] at hc1
   have hs6:=(S_bd l c2).1
   refine zbh ?_
   refine zbm ?_
   refine zbe ?_
   refine zbi ?_
   refine AW_x rfl rfl λK hK=>?_
   simp (disch:=omega) [zG16,cI,cS,cU,DtCmd.cells,cmdO,zbx,-aAppZ]
   repeat' first|(refine zch [8] false [] (l4Right l hl c2) ?_ ?_ ?_;(focus (simp [List.range_succ,nmC];done));(focus (simp (disch:=omega) [zG16,cI,cS,cU,DtCmd.cells,cmdO,zbx,-aAppZ];done));simp (disch:=omega) [zG16,cI,cS,cU,DtCmd.cells,cmdO,zbx,-aAppZ]) | fail
   refine hK _ ?_;clear hK K
   refine zfz (λsS=>∃(x:DtCmd) (c3:Cur),(CmdF x)∧sS = { env:=lkE [(0,.ptr 8 0),(5,.arr 501 0 cs.length),(6,(.g (.int .i64 ((n:Nat))))),(7,.ptr 128 0)],ob:=lk [(8,.cells (curC l c3)),(501,.own 8 (cs.map DtCmd.cells)),(128,.cells (cmdO x 502)),(502,.own 1 (x.fChunks.map cS))] }) ?_ ?_
   ·skip
    refine AW_x rfl rfl λK hK=>?_
    simp (disch:=omega) [zG16,cI,cS,cU,DtCmd.cells,cmdO,zbx,-aAppZ]
    repeat' first|(refine zco (λ_=>xs_p (xs_g xs_z)) (zkt l hl _ _) rfl rfl ?_;simp (disch:=omega) [zG16,cI,cS,cU,DtCmd.cells,cmdO,zbx,-aAppZ]) | fail
    refine hK _ ?_;clear hK K
    refine zbg rfl (λhc2=>?_) (λhc2=>?_)
    ·try simp [zG17,zbc,zba] at hc2
     refine zje rfl mix (by kernel_rfl) (by kernel_rfl) λK hK=>?_
     simp (disch:=omega) [zG16,cI,cS,cU,DtCmd.cells,cmdO,zbx,-aAppZ]
     repeat' first|(refine zwz (λ_=>xs_p (xs_a xs_z)) (zsm l hl _ [[97],[98],[97,98],[99],[100],[101],[102]] (by simp)) rfl rfl rfl (by decide) rfl ?_;simp (disch:=omega) [zG16,cI,cS,cU,DtCmd.cells,cmdO,zbx,-aAppZ]) | fail
     refine hK _ _ (by kernel_rfl) ?_;clear hK K
     refine ⟨_,LeS.trans (LeS.znc (cs:=[(.g (.int .i64 (1))),(.g (.int .i64 ((S6 l c2).x.fClient))),(.g (.int .i64 ((S6 l c2).x.fNo))),.s (pkS l (belowS l 4 (S6 l c2).c)),.s [],.s [],(.g (.int .i64 (0))),.g (.slice none 0 0)]) 502 1 128 7 (by simp [zG18,zbj]) (by simp [zG18,zbj,curC,cmdO,pkS]) (by rfl)) (LeS.kx [(8,8),(501,501),(128,128),(502,502)] [(0,.ptr 8 0),(5,.arr 501 0 cs.length),(6,(.g (.int .i64 ((n:Nat))))),(7,.ptr 128 0)] [(8,.cells (curC l (belowS l 7 (belowS l 4 (S6 l c2).c)))),(501,.own 8 (cs.map DtCmd.cells)),(128,.cells (cmdO (DtCmd.mk 1 (S6 l c2).x.fClient (S6 l c2).x.fNo (pkS l (belowS l 4 (S6 l c2).c)) [] [] 0 []) 502)),(502,.own 1 ((DtCmd.mk 1 (S6 l c2).x.fClient (S6 l c2).x.fNo (pkS l (belowS l 4 (S6 l c2).c)) [] [] 0 []).fChunks.map cS))] (by simp [zG18,KpR,renV2,renV,zbj,curC,cmdO,pkS]) (by simp [zG18,KpOX,renO,plO,cvO,renV,pl1,curC,cmdO,pkS];try trace_state) (by rfl) (by simp) (by simp) (by rfl) (by simp [zG19,formsX])),DtCmd.mk 1 (S6 l c2).x.fClient (S6 l c2).x.fNo (pkS l (belowS l 4 (S6 l c2).c)) [] [] 0 [],belowS l 7 (belowS l 4 (S6 l c2).c),?_,rfl⟩
     ·exact ⟨⟨zjn _ _ (by simp),zvw _ _ (by simp)⟩,by simp,by simp,by simp,by simp⟩
    ·try simp [zG17,zbc,zba] at hc2
     refine zbh ?_
     refine ⟨_,LeS.kx [(8,8),(501,501),(128,128),(502,288)] [(0,.ptr 8 0),(5,.arr 501 0 cs.length),(6,(.g (.int .i64 ((n:Nat))))),(7,.ptr 128 0)] [(8,.cells (curC l (belowS l 4 (S6 l c2).c))),(501,.own 8 (cs.map DtCmd.cells)),(128,.cells (cmdO ((S6 l c2).x) 502)),(502,.own 1 (((S6 l c2).x).fChunks.map cS))] (by simp [zG18,KpR,renV2,renV,zbj,curC,cmdO,pkS]) (by simp [zG18,KpOX,renO,plO,cvO,renV,pl1,curC,cmdO,pkS];try trace_state) (by rfl) (by simp) (by simp) (by rfl) (by simp [zG19,formsX]),(S6 l c2).x,belowS l 4 (S6 l c2).c,?_,rfl⟩
     ·exact zku hs6 (zjo _ _)
   ·rintro sS ⟨x,c3,hx,rfl⟩
    refine zfz (λsS=>∃(y:DtCmd) (c4:Cur),(CmdF y)∧sS = { env:=lkE [(0,.ptr 8 0),(5,.arr 501 0 cs.length),(6,(.g (.int .i64 ((n:Nat))))),(7,.ptr 128 0)],ob:=lk [(8,.cells (curC l c4)),(501,.own 8 (cs.map DtCmd.cells)),(128,.cells (cmdO y 502)),(502,.own 1 (y.fChunks.map cS))] }) ?_ ?_
    ·skip
     refine AW_x rfl rfl λK hK=>?_
     simp (disch:=omega) [zG16,cI,cS,cU,DtCmd.cells,cmdO,zbx,-aAppZ]
     repeat' first|(refine zco (λ_=>xs_p (xs_g xs_z)) (zkt l hl _ _) rfl rfl ?_;simp (disch:=omega) [zG16,cI,cS,cU,DtCmd.cells,cmdO,zbx,-aAppZ]) | fail
     refine hK _ ?_;clear hK K
     refine zbg rfl (λhc3=>?_) (λhc3=>?_)
     ·try simp [zG17,zbc,zba] at hc3
      refine zb4 rfl rfl λK hK=>?_
      simp (disch:=omega) [zG16,cI,cS,cU,DtCmd.cells,cmdO,zbx,-aAppZ]
      repeat' first|(refine zr3 [8] false [] (l4Cmd l hl (belowS l 15 c3)) ?_ ?_ ?_;(focus (simp [List.range_succ,nmC];done));(focus (simp (disch:=omega) [zG16,cI,cS,cU,DtCmd.cells,cmdO,zbx,-aAppZ];done));rintro _ _ _ ⟨z,cz,hz,rfl,rfl,rfl⟩;refine ⟨⟨by rfl,by rfl⟩,?_⟩;simp (disch:=omega) [zG16,cI,cS,cU,DtCmd.cells,cmdO,zbx,-aAppZ]) | fail
      refine hK _ ?_;clear hK K
      refine ⟨_,LeS.kx [(8,8),(501,501),(128,128),(502,512)] [(0,.ptr 8 0),(5,.arr 501 0 cs.length),(6,(.g (.int .i64 ((n:Nat))))),(7,.ptr 128 0)] [(8,.cells (curC l (cz))),(501,.own 8 (cs.map DtCmd.cells)),(128,.cells (cmdO (z) 502)),(502,.own 1 ((z).fChunks.map cS))] (by simp [zG18,KpR,renV2,renV,zbj,curC,cmdO]) (by simp [zG18,KpOX,renO,plO,cvO,renV,pl1,curC,cmdO];try trace_state) (by rfl) (by simp) (by simp) (by rfl) (by simp [zG19,formsX]),z,cz,?_,rfl⟩
      ·exact hz
     ·try simp [zG17,zbc,zba] at hc3
      refine zbh ?_
      refine ⟨_,LeS.kx [(8,8),(501,501),(128,128),(502,502)] [(0,.ptr 8 0),(5,.arr 501 0 cs.length),(6,(.g (.int .i64 ((n:Nat))))),(7,.ptr 128 0)] [(8,.cells (curC l (belowS l 15 c3))),(501,.own 8 (cs.map DtCmd.cells)),(128,.cells (cmdO (x) 502)),(502,.own 1 ((x).fChunks.map cS))] (by simp [zG18,KpR,renV2,renV,zbj,curC,cmdO]) (by simp [zG18,KpOX,renO,plO,cvO,renV,pl1,curC,cmdO];try trace_state) (by rfl) (by simp) (by simp) (by rfl) (by simp [zG19,formsX]),x,belowS l 15 c3,?_,rfl⟩
      ·exact hx
    ·rintro sS ⟨y,c4,hy,rfl⟩
     refine zb4 rfl rfl λK hK=>?_
     simp (disch:=omega) [zG16,cI,cS,cU,DtCmd.cells,cmdO,zbx,-aAppZ]
     repeat' first|(refine ⟨by omega,?_⟩) | fail
     refine hK _ ?_;clear hK K
     refine zbm ?_
     refine zb4 rfl rfl λK hK=>?_
     simp (disch:=omega) [zG16,cI,cS,cU,DtCmd.cells,cmdO,zbx,-aAppZ]
     refine hK _ ?_;clear hK K
     refine ⟨_,LeS.kx [(8,8),(501,576)] [(0,.ptr 8 0),(5,.arr 501 0 (cs++[y]).length),(6,(.g (.int .i64 (((n-1):Nat)))))] [(8,.cells (curC l (c4))),(501,.own 8 ((cs++[y]).map DtCmd.cells))] (by simp [zG18,KpR,renV2,renV,zbj,curC,DtCmd.cells,cmdO];try omega) (by simp [zG18,KpOX,renO,plO,cvO,renV,pl1,curC,DtCmd.cells,cmdO];try trace_state) (by rfl) (by simp) (by simp) (by rfl) (by simp [zG19,formsX]),_,?_,n-1,cs++[y],c4,rfl,?_,rfl⟩
     ·omega
     ·exact ⟨by simp;omega,λu hu=>by rcases List.mem_append.1 hu with hu | hu;exact hd u hu;rw [List.mem_singleton] at hu;subst hu;exact hy⟩
  ·try simp [zG17,zbc,zba] at hc1
   refine zbw ?_
   refine zbm ?_
   refine AW_x rfl rfl λK hK=>?_
   simp (disch:=omega) [zG16,cI,cS,cU,DtCmd.cells,cmdO,zbx,-aAppZ]
   refine hK _ ?_;clear hK K
   refine zmk (.arr 16 0 cs.length) [.cells (curC l c2)] [.own 8 (cs.map DtCmd.cells)] ?po (by simp) (by simp) (by simp [OB.xk]) (zb7 [501] [] (by simp [zG18,List.range_succ]) (by simp) ?en)
   case en =>
    simp (disch:=omega) [zG16,cI,cS,cU,DtCmd.cells,cmdO,zbx,-aAppZ]
   case po=>exact ⟨cs,c2,by omega,hd,rfl,rfl,rfl⟩
end Go.Proofs.YtodmafgmdlkhoaaDoor.Vs
end
section
namespace Go.Proofs.YtodmafgmdlkhoaaDoor.Vs
set_option linter.all false
set_option maxRecDepth 100000
set_option maxHeartbeats 2000000
theorem set_F{cs:List DtCmd}(h:∀x∈cs,CmdF x){i:Nat}{y:DtCmd}(hy:CmdF y):∀x∈cs.set i y,CmdF x:=by
 intro x hx
 rcases List.mem_or_eq_of_mem_set hx with hx | rfl
 ·exact h x hx
 ·exact hy
theorem l16Cmds(l:List Int)(hl:Code l)(c:Cur)(m:Nat)(hm:m≤1000)(hm0:0<m):XCallE Tryd.prog 37 [.ptr 8 0,(.g (.int .i64 ((m:Nat))))] [.cells (curC l c)] 1 (CmdsE l m):=by
 refine zcy Tryd.func37 (by rfl) (by rfl) (by rw [Tryd.ntmps37];exact Nat.le_of_ble_eq_true rfl) (by simp) rfl ?_
 rw [Tryd.ntmps37]
 refine zhn (.cells (curC l c)) (by simp [cvO]<;>assumption) ?_
 refine AW_k [(0,_),(1,_)] ⟨rfl,rfl,trivial⟩ ?_
 refine AW_x rfl rfl λK hK=>?_
 simp (disch:=omega) [zG16,cI,cS,cU,DtCmd.cells]
 refine hK _ ?_;clear hK K
 refine AW_x rfl rfl λK hK=>?_
 simp (disch:=omega) [zG16,cI,cS,cU,DtCmd.cells]
 repeat' first|(refine zr3 [8] false [] (l15Cmds l hl c m hm hm0) ?_ ?_ ?_;(focus (simp [List.range_succ,nmC];done));(focus (simp (disch:=omega) [zG16,cI,cS,cU,DtCmd.cells];done));rintro _ _ _ ⟨cs,c1,hlen,hd,rfl,rfl,rfl⟩;refine ⟨⟨by rfl,by rfl⟩,?_⟩;simp (disch:=omega) [zG16,cI,cS,cU,DtCmd.cells]) | fail
 refine hK _ ?_;clear hK K
 refine zbe ?_
 refine AW_x rfl rfl λK hK=>?_
 simp (disch:=omega) [zG16,cI,cS,cU,DtCmd.cells]
 refine hK _ ?_;clear hK K
 refine zbi ?_
 have hcz:True:=trivial
 refine zbt (λmM sS=>∃(i:Nat) (cs2:List DtCmd) (c2:Cur),mM=cs.length-i∧(i≤cs.length∧cs2.length=cs.length∧∀x∈cs2,CmdF x)∧sS = { env:=lkE [(0,.ptr 8 0),(5,.arr 160 0 cs2.length),(6,(.g (.int .i64 ((i:Nat)))))],ob:=lk [(8,.cells (curC l c2)),(160,.own 8 (cs2.map DtCmd.cells))] }) ?_ ?_
 ·refine ⟨_,LeS.kx [(8,8),(160,160)] [(0,.ptr 8 0),(5,.arr 160 0 (cs).length),(6,(.g (.int .i64 (((0):Nat)))))] [(8,.cells (curC l (c1))),(160,.own 8 ((cs).map DtCmd.cells))] (by simp [zG18,KpR,renV2,renV,zbj,curC,hcz,setNo]) (by simp [zG18,KpOX,renO,plO,cvO,renV,pl1,curC,hcz,setNo];try trace_state) (by rfl) (by simp) (by simp) (by rfl) (by simp [zG19,formsX]),_,0,cs,c1,rfl,?_,rfl⟩
  ·exact ⟨by omega,rfl,hd⟩
 ·rintro mM sS ⟨i,cs2,c2,rfl,⟨hi,hle,hd2⟩,rfl⟩
  refine zbe ?_
  refine AW_x rfl rfl λK hK=>?_
  simp (disch:=omega) [zG16,cI,cS,cU,DtCmd.cells]
  refine hK _ ?_;clear hK K
  refine zbg rfl (λhc1=>?_) (λhc1=>?_)
  ·try simp [zG17,zbc,zba] at hc1
   have hi2:i<cs2.length:=by omega
   refine zbh ?_
   refine zbm ?_
   refine zbe ?_
   refine zbi ?_
   refine AW_x rfl rfl λK hK=>?_
   simp (disch:=omega) [zG16,cI,cS,cU,DtCmd.cells]
   repeat' first|(refine zco (λ_=>xs_p (xs_g xs_z)) (zkt l hl _ _) rfl rfl ?_;simp (disch:=omega) [zG16,cI,cS,cU,DtCmd.cells])|(refine ⟨λ_=>?_,λ_=>?_⟩)|(refine ⟨by omega,?_⟩) | fail
   all_goals (refine hK _ ?_;clear hK K)
   all_goals
    refine zbg rfl (λhc2=>?_) (λhc2=>?_)
    ·try simp [zG17,zbc,zba] at hc2
     all_goals
      refine zb4 rfl rfl λK hK=>?_
      simp (disch:=omega) [zG16,cI,cS,cU,DtCmd.cells]
      repeat' first|(refine ⟨by omega,?_⟩) | fail
      refine hK _ ?_;clear hK K
      refine zbm ?_
      refine zb4 rfl rfl λK hK=>?_
      simp (disch:=omega) [zG16,cI,cS,cU,DtCmd.cells]
      refine hK _ ?_;clear hK K
      have hcz:True:=trivial
      refine ⟨_,LeS.kx [(8,8),(160,160)] [(0,.ptr 8 0),(5,.arr 160 0 (cs2.set i (setNo cs2[i] (1+(i:Int)))).length),(6,(.g (.int .i64 (((i+1):Nat)))))] [(8,.cells (curC l (belowS l 5 c2))),(160,.own 8 ((cs2.set i (setNo cs2[i] (1+(i:Int)))).map DtCmd.cells))] (by simp [zG18,KpR,renV2,renV,zbj,curC,hcz,setNo]) (by simp [zG18,KpOX,renO,plO,cvO,renV,pl1,curC,hcz,setNo];try exact congrArg (List.set _ _) rfl) (by rfl) (by simp) (by simp) (by rfl) (by simp [zG19,formsX]),_,?_,i+1,cs2.set i (setNo cs2[i] (1+(i:Int))),belowS l 5 c2,rfl,?_,rfl⟩
      ·omega
      ·(exact ⟨by omega,by simp;omega,set_F hd2 (hd2 cs2[i] (List.getElem_mem _))⟩)
    ·try simp [zG17,zbc,zba] at hc2
     all_goals
      refine zbh ?_
      refine zbm ?_
      refine zb4 rfl rfl λK hK=>?_
      simp (disch:=omega) [zG16,cI,cS,cU,DtCmd.cells]
      all_goals (refine hK _ ?_;clear hK K)
      all_goals
       first | have hE:∃cz,cz=belowS l 5 c2∧below l 5 c2=0:=⟨_,rfl,by assumption⟩ | have hE:∃cz,cz=c2∧True:=⟨_,rfl,trivial⟩
       obtain ⟨cz,hcz,-⟩:=hE
       refine ⟨_,LeS.kx [(8,8),(160,160)] [(0,.ptr 8 0),(5,.arr 160 0 (cs2).length),(6,(.g (.int .i64 (((i+1):Nat)))))] [(8,.cells (curC l (cz))),(160,.own 8 ((cs2).map DtCmd.cells))] (by simp [zG18,KpR,renV2,renV,zbj,curC,hcz,setNo]) (by simp [zG18,KpOX,renO,plO,cvO,renV,pl1,curC,hcz,setNo];try trace_state) (by rfl) (by simp) (by simp) (by rfl) (by simp [zG19,formsX]),_,?_,i+1,cs2,cz,rfl,?_,rfl⟩
       ·omega
       ·exact ⟨by omega,hle,hd2⟩
  ·try simp [zG17,zbc,zba] at hc1
   refine zbw ?_
   refine zbm ?_
   refine AW_x rfl rfl λK hK=>?_
   simp (disch:=omega) [zG16,cI,cS,cU,DtCmd.cells]
   refine hK _ ?_;clear hK K
   refine zmk (.arr 16 0 cs2.length) [.cells (curC l c2)] [.own 8 (cs2.map DtCmd.cells)] ?po (by simp) (by simp) (by simp [OB.xk]) (zb7 [160] [] (by simp [zG18,List.range_succ]) (by simp) ?en)
   case en =>
    simp (disch:=omega) [zG16,cI,cS,cU,DtCmd.cells]
   case po=>exact ⟨cs2,c2,by omega,hd2,rfl,rfl,rfl⟩
end Go.Proofs.YtodmafgmdlkhoaaDoor.Vs
end
section
namespace Go.Proofs.YtodmafgmdlkhoaaDoor.Vs
set_option linter.all false
set_option maxRecDepth 100000
set_option maxHeartbeats 2000000
theorem cmd_sz2(l:List DtCmd)(hs:szS DtCmd.sz l≤1048576)(i:Nat)(h:i<l.length):DtCmd.sz l[i]≤1048576:=by
 have h1:=zda DtCmd.sz_nonneg l l[i] (List.getElem_mem _)
 unfold szS at hs;omega
attribute [local simp] DtState.cells DtCatalog.cells DtCmd.cells zbv and_assoc zw8 cS List.range_succ
attribute [-simp] aAppC aAppZ
theorem specSplay(l:List DtCmd)(hs:szS DtCmd.sz l≤1048576)(hn:l.length≤1048576):XCall Tryd.prog 36 [.sl 8 (l.map DtCmd.cells)] [] (.tup [.agg [.arr 16 0 (splC l).fCat.fSets.length,.arr 17 0 (splC l).fSaid.length],.arr 18 0 l.length]) [] [.own 2 ((splC l).fCat.fSets.map DtCSet.cells),.own 3 ((splC l).fSaid.map DtSaid.cells),.own 1 ((splR l).map cS)]:=by
 refine zbq Tryd.func36 (by rfl) (by rfl) (by rw [Tryd.ntmps36];exact Nat.le_of_ble_eq_true rfl) rfl (by simp) rfl rfl ?_
 rw [Tryd.ntmps36]
 refine zdk   ?_
 refine AW_k [(0,_)] ⟨rfl,trivial⟩ ?_
 refine AW_x rfl rfl λK hK=>?_
 simp (disch:=omega)
 refine hK _ ?_;clear hK K
 refine AW_x rfl rfl λK hK=>?_
 simp (disch:=omega)
 refine hK _ ?_;clear hK K
 refine AW_x rfl rfl λK hK=>?_
 simp (disch:=omega)
 refine hK _ ?_;clear hK K
 refine zbe ?_
 refine AW_x rfl rfl λK hK=>?_
 simp (disch:=omega)
 refine hK _ ?_;clear hK K
 refine zbi ?_
 refine zbt (λmM sS=>∃(i:Nat),mM=l.length-i∧(i≤l.length)∧sS = { env:=lkE [(0,.sl 8 (l.map DtCmd.cells)),(2,.ptr 48 0),(4,.ptr 80 0),(5,.arr 501 0 i),(6,(.g (.int .i64 ((i:Nat)))))],ob:=lk [(48,.cells [.g (.slice none 0 0),.g (.slice none 0 0)]),(80,.cells [.arr 500 0 (splC (l.take i)).fCat.fSets.length,.arr 502 0 (splC (l.take i)).fSaid.length]),(500,.own 2 ((splC (l.take i)).fCat.fSets.map DtCSet.cells)),(502,.own 3 ((splC (l.take i)).fSaid.map DtSaid.cells)),(501,.win 1 ((splR (l.take i)).map cS))] }) ?_ ?_
 ·refine ⟨_,LeS.trans (LeS.znc (cs:=[.g (.slice none 0 0),.g (.slice none 0 0)]) 500 2 80 0 (by simp [zG18,zbj]) (by simp [zG18,zbj]) (by rfl)) (LeS.trans (LeS.znc (cs:=[.arr 500 0 0,.g (.slice none 0 0)]) 502 3 80 1 (by simp [zG18,zbj]) (by simp [zG18,zbj]) (by rfl)) (LeS.kx [(48,48),(80,80),(500,500),(502,502),(501,176)] [(0,.sl 8 (l.map DtCmd.cells)),(2,.ptr 48 0),(4,.ptr 80 0),(5,.arr 501 0 (0)),(6,(.g (.int .i64 (((0):Nat)))))] [(48,.cells [.g (.slice none 0 0),.g (.slice none 0 0)]),(80,.cells [.arr 500 0 (splC (l.take (0))).fCat.fSets.length,.arr 502 0 (splC (l.take (0))).fSaid.length]),(500,.own 2 ((splC (l.take (0))).fCat.fSets.map DtCSet.cells)),(502,.own 3 ((splC (l.take (0))).fSaid.map DtSaid.cells)),(501,.win 1 ((splR (l.take (0))).map cS))] (by simp [zG18,KpR,renV2,renV,zbj];trace_state) (by simp [zG18,KpOX,renO,plO,cvO,renV,pl1];exact ⟨rfl,rfl,rfl,rfl,rfl⟩) (by rfl) (by simp) (by simp) (by rfl) (by simp [zG19,formsX]))),_,0,rfl,?_,rfl⟩
  ·simp
 ·rintro mM sS ⟨i,rfl,hi,rfl⟩
  refine zbe ?_
  refine AW_x rfl rfl λK hK=>?_
  simp (disch:=omega)
  refine hK _ ?_;clear hK K
  refine zbg rfl (λhc1=>?_) (λhc1=>?_)
  ·try simp [zG17,zbc,zba] at hc1
   have ⟨htc,htr⟩:=spl_take l i (by omega)
   have hrl:=splR_lenT l i hi
   refine zbh ?_
   refine zbm ?_
   refine zbe ?_
   refine zbi ?_
   refine AW_d rfl mix (by kernel_rfl) (by kernel_rfl) λK hK=>?_
   simp (disch:=omega)
   repeat' first|(refine DKd_y [] true [] (zvu (splC (l.take i)) l[i] (splC_sz _) (cmd_sz2 l hs i (by omega))) ?_ (λst' hst=>?_) ?_;(focus (simp [List.range_succ,nmC];done));(focus (simp (disch:=omega) [nmC,List.range_succ] at hst;simp (disch:=omega) [hst,zbv,nmC,List.range_succ];done));simp (disch:=omega))|(refine ⟨by omega,?_⟩) | fail
   refine hK _ _ (by kernel_rfl) ?_;clear hK K
   refine AW_x rfl rfl λK hK=>?_
   simp (disch:=omega)
   refine hK _ ?_;clear hK K
   refine zb4 rfl rfl λK hK=>?_
   simp (disch:=omega)
   repeat' first|(refine ⟨by omega,?_⟩) | fail
   refine hK _ ?_;clear hK K
   refine zbm ?_
   refine zb4 rfl rfl λK hK=>?_
   simp (disch:=omega)
   refine hK _ ?_;clear hK K
   refine ⟨_,LeS.kx [(48,48),(80,80),(500,384),(502,385),(501,496)] [(0,.sl 8 (l.map DtCmd.cells)),(2,.ptr 48 0),(4,.ptr 80 0),(5,.arr 501 0 (i+1)),(6,(.g (.int .i64 (((i+1):Nat)))))] [(48,.cells [.g (.slice none 0 0),.g (.slice none 0 0)]),(80,.cells [.arr 500 0 (splC (l.take (i+1))).fCat.fSets.length,.arr 502 0 (splC (l.take (i+1))).fSaid.length]),(500,.own 2 ((splC (l.take (i+1))).fCat.fSets.map DtCSet.cells)),(502,.own 3 ((splC (l.take (i+1))).fSaid.map DtSaid.cells)),(501,.win 1 ((splR (l.take (i+1))).map cS))] (by simp [zG18,KpR,renV2,renV,zbj];trace_state) (by simp [zG18,KpOX,renO,plO,cvO,renV,pl1];(rw [htc,htr];simp [cS];done)) (by rfl) (by simp) (by simp) (by rfl) (by simp [zG19,formsX]),_,?_,i+1,rfl,?_,rfl⟩
   ·omega
   ·omega
  try simp [zG17,zbc,zba] at hc1
  have hil:i=l.length:=by omega
  refine zbw ?_
  refine zbm ?_
  refine AW_x rfl rfl λK hK=>?_
  simp (disch:=omega)
  refine hK _ ?_;clear hK K
  refine zbo (zb7 [500,502,501] [] (by simp [zG18,List.range_succ]) (by simp) ?_)
  simp (disch:=omega)
  (subst hil;rw [List.take_length];exact ⟨rfl,rfl,rfl,rfl,rfl,rfl⟩)
end Go.Proofs.YtodmafgmdlkhoaaDoor.Vs
end
section
namespace Go.Proofs.YtodmafgmdlkhoaaDoor.Vs
set_option linter.all false
set_option maxRecDepth 100000
set_option maxHeartbeats 2000000
theorem cmdF_sz1{x:DtCmd}(h:CmdF x):DtCmd.sz x≤200:=by
 obtain ⟨⟨h1,-⟩,h2,h3,h4,h5⟩:=h
 have key:∀(xs:List (List UInt8)),(∀t∈xs,t.length≤16)→sumZ lenZ xs≤16*xs.length:=by
  intro xs
  induction xs with
  | nil=>intro _;simp [zcr]
  | cons x xs ih =>
   intro h
   have ih:=ih λt ht=>h t (List.mem_cons_of_mem _ ht)
   have:=h x List.mem_cons_self
   rw [zcu]
   simp only [lenZ,List.length_cons] at *
   omega
 have:=key _ h5
 unfold DtCmd.sz szS
 omega
theorem cmdsF_sz{cs:List DtCmd}(h:∀x∈cs,CmdF x):szS DtCmd.sz cs≤201*cs.length:=by
 induction cs with
 | nil=>simp [szS,zcr]
 | cons x cs ih =>
  have h1:=ih λt ht=>h t (List.mem_cons_of_mem _ ht)
  have h2:=cmdF_sz1 (h x List.mem_cons_self)
  unfold szS at h1 ⊢
  rw [zcu]
  simp only [List.length_cons] at *
  omega
section
variable {fs:List Nat}{st:St}
/-- A cell of an own row's element that holds a nil row, told as an empty row. -/
theorem LeS.nilW(m i j sz:Nat){s:Nat}{zs ys:List (List AV)}{x:List AV}(hm:st.ob m=some (.win s zs))(hi:zs[i]? = some x)(hj:x[j]? = some (.g (.slice none 0 0)))(hy:ys=zs.set i (x.set j (.sl sz []))):LeS fs st { st with ob:=upd st.ob m (some (.win s ys)) }:=by
 subst hy
 rintro C a w hfs ⟨I,β,φ,hC⟩
 have hdom:∀k,upd st.ob m (some (OB.win s (zs.set i (x.set j (.sl sz []))))) k=none→st.ob k=none:=by
  intro k h
  by_cases e:k=m
  ·subst e;simp [zbd] at h
  ·rwa [zbb _ _ e] at h
 refine ⟨I,β,φ,hC.move (λ_=>False) (Evo.refl _ w) (λ_ hf=>hf.elim) (λ_ hb=>hb) (λ_ hb=>.inl hb) (λ_ _ h=>h) ?_ (λk h=>hC.dom k (hdom k h)) (λk h=>hC.fdom k (hdom k h)) hC.sep hC.nimm hC.flt ?_ ?_⟩
 ·intro k o h
  by_cases e:k=m
  ·subst e
   simp only [zbd,Option.some.injEq] at h
   subst h
   obtain ⟨bl,b1,b2,b3,b4,b5⟩:=hC.ob k _ hm
   refine .inr ⟨bl,b1,b2,b3,by simpa using b4,b5.imp id ?_⟩
   rintro ⟨c1,c2,c3⟩
   refine ⟨c1,c2,?_⟩
   rw [zfx] at c3 ⊢
   intro p y hp
   rw [List.getElem?_set] at hp
   by_cases hip:i=p
   ·subst hip
    rw [if_pos rfl] at hp
    have hlt:=(List.getElem?_eq_some_iff.1 hi).1
    rw [if_pos hlt] at hp;cases hp
    obtain ⟨d1,d2⟩:=c3 i x hi
    refine ⟨by simpa using d1,?_⟩
    rw [zdt] at d2 ⊢
    intro q c hc
    rw [List.getElem?_set] at hc
    by_cases hq:j=q
    ·subst hq
     have hlt2:=(List.getElem?_eq_some_iff.1 hj).1
     rw [if_pos rfl,if_pos hlt2] at hc;cases hc
     obtain ⟨v,h1,h2,h3⟩:=d2 j _ hj
     have hri:RI w I (.sl sz []) v:=by
      cases h2
      rw [RI]
      exact ⟨none,0,rfl,by simp,.inl rfl⟩
     exact ⟨v,h1,zlu _ _ hri,h3⟩
    ·rw [if_neg hq] at hc;exact d2 q c hc
   ·rw [if_neg hip] at hp;exact c3 p y hp
  ·rw [zbb _ _ e] at h
   exact .inl ⟨h,rfl,λ_ _ hf=>hf⟩
 ·intro k o h hwr b hb
  by_cases e:k=m
  ·subst e;exact hC.wok k _ hm rfl b hb
  ·rw [zbb _ _ e] at h;exact hC.wok k o h hwr b hb
 ·intro k s ys h b hb
  by_cases e:k=m
  ·subst e;simp [zbd] at h
  ·rw [zbb _ _ e] at h;exact hC.fnew k s ys h b hb
end
def StG(s:DtState):Prop:=DtState.sz s≤20000∧NoOld s.fCat
theorem stG_spl{cs:List DtCmd}(h:∀x∈cs,CmdF x):StG (splC cs):=⟨by have:=stI_sz (zvv cs);omega,noOld_spl cs λx hx=>(h x hx).1.2⟩
def addSaid(s:DtState)(x:DtSaid):DtState:={ s with fSaid:=s.fSaid++[x] }
def addSet(s:DtState):DtState:={ s with fCat:={ fSets:=s.fCat.fSets++[⟨[],[]⟩] } }
def setSaid(s:DtState)(h:0<s.fSaid.length)(n:Int):DtState:={ s with fSaid:=s.fSaid.set 0 { s.fSaid[0] with fNo:=n } }
theorem zxm{α:Type}(f:α→Int)(l:List α)(x:α):szS f (l++[x])=szS f l+f x+1:=by
 unfold szS
 have:∀l:List α,sumZ f (l++[x])=sumZ f l+f x:=by
  intro l
  induction l with
  | nil=>simp [zcr,zcu]
  | cons y l ih=>rw [List.cons_append,zcu,zcu,ih];omega
 rw [this]
 simp only [List.length_append,List.length_cons,List.length_nil]
 omega
theorem stG_said{s:DtState}(h:StG s)(a b:Int)(hs:DtState.sz s≤10000):StG (addSaid s ⟨a,b,[]⟩):=by
 refine ⟨?_,h.2⟩
 have:=zxm DtSaid.sz s.fSaid ⟨a,b,[]⟩
 simp only [DtState.sz,addSaid] at hs ⊢
 rw [this]
 have:DtSaid.sz ⟨a,b,[]⟩≤100:=by simp [DtSaid.sz]
 omega
theorem stG_set{s:DtState}(h:StG s)(hs:DtState.sz s≤10000):StG (addSet s):=by
 refine ⟨?_,λx hx=>?_⟩
 ·have:=zxm DtCSet.sz s.fCat.fSets ⟨[],[]⟩
  simp only [DtState.sz,DtCatalog.sz,addSet] at hs ⊢
  rw [this]
  have:DtCSet.sz ⟨[],[]⟩≤100:=by simp [DtCSet.sz,szS,zcr]
  omega
 ·rcases List.mem_append.1 hx with hx | hx
  ·exact h.2 x hx
  ·rw [List.mem_singleton] at hx;subst hx;simp [bOld]
theorem szS_set0(l:List DtSaid)(h:0<l.length)(x:DtSaid)(hx:DtSaid.sz x=DtSaid.sz l[0]):szS DtSaid.sz (l.set 0 x)=szS DtSaid.sz l:=by
 cases l with
 | nil=>simp at h
 | cons y l =>
  have hx:DtSaid.sz x=DtSaid.sz y:=hx
  simp only [List.set_cons_zero,szS,zcu,List.length_cons,hx]
theorem stG_len{s:DtState}(h:DtState.sz s≤20000):s.fSaid.length≤20000∧s.fCat.fSets.length≤20000:=by
 have h1:=zb9 DtSaid.sz_nonneg s.fSaid
 have h2:=zb9 DtCSet.sz_nonneg s.fCat.fSets
 simp only [DtState.sz,DtCatalog.sz,szS] at h
 constructor<;>omega
theorem stG_no{s:DtState}(h:StG s)(h0:0<s.fSaid.length)(n:Int):StG (setSaid s h0 n):=by
 refine ⟨?_,h.2⟩
 have e:=szS_set0 s.fSaid h0 { s.fSaid[0] with fNo:=n } rfl
 have:=h.1
 simp only [DtState.sz,setSaid] at this ⊢
 rw [e];exact this
theorem immS(ls:List DtCSet):immR (ls.map DtCSet.cells)=true:=immR_map _ (λ_=>rfl) ls
theorem zcx(l:List DtSaid):scR (l.map DtSaid.cells)=true:=zd8 DtSaid.cells (λ_=>rfl) l
def SomeE(l:List Int)(r:AV)(wos' fos:List OB):Prop:=∃(s:DtState) (c':Cur),StG s∧r=.agg (DtState.cells s)∧wos'=[.cells (curC l c')]∧fos=[]
theorem l16Some(l:List Int)(hl:Code l)(c:Cur):XCallE Tryd.prog 16 [.ptr 8 0] [.cells (curC l c)] 0 (SomeE l):=by
 refine zdb Tryd.func16 (by rfl) (by rfl) (by rw [Tryd.ntmps16];exact Nat.le_of_ble_eq_true rfl) (by simp) rfl rfl ?_
 rw [Tryd.ntmps16]
 refine AW_y1 (.cells (curC l c)) (by simp [cvO]<;>assumption) ?_
 refine AW_k [(0,_)] ⟨rfl,trivial⟩ ?_
 refine AW_x rfl rfl λK hK=>?_
 simp (disch:=omega) [zG16,cI,cS,cU,DtSaid.cells,DtCSet.cells,DtState.cells,DtCatalog.cells,zcx,zbx,-aAppZ]
 refine hK _ ?_;clear hK K
 refine AW_x rfl rfl λK hK=>?_
 simp (disch:=omega) [zG16,cI,cS,cU,DtSaid.cells,DtCSet.cells,DtState.cells,DtCatalog.cells,zcx,zbx,-aAppZ]
 repeat' first|(refine zr3 [8] false [] (l16Cmds l hl c 20 (by omega) (by omega)) ?_ ?_ ?_;(focus (simp [List.range_succ,nmC];done));(focus (simp (disch:=omega) [zG16,cI,cS,cU,DtSaid.cells,DtCSet.cells,DtState.cells,DtCatalog.cells,zcx,zbx,-aAppZ];done));rintro _ _ _ ⟨cs,c1,hlen,hd,rfl,rfl,rfl⟩;refine ⟨⟨by rfl,by rfl⟩,?_⟩;simp (disch:=omega) [zG16,cI,cS,cU,DtSaid.cells,DtCSet.cells,DtState.cells,DtCatalog.cells,zcx,zbx,-aAppZ])|(refine zch [] true [] (specSplay cs (by have:=cmdsF_sz hd;omega) (by omega)) ?_ ?_ ?_;(focus (simp [List.range_succ,nmC];done));(focus (simp (disch:=omega) [zG16,cI,cS,cU,DtSaid.cells,DtCSet.cells,DtState.cells,DtCatalog.cells,zcx,zbx,-aAppZ];done));simp (disch:=omega) [zG16,cI,cS,cU,DtSaid.cells,DtCSet.cells,DtState.cells,DtCatalog.cells,zcx,zbx,-aAppZ]) | fail
 refine hK _ ?_;clear hK K
 refine zfz (λsS=>∃(s2:DtState) (c3:Cur),(StG s2)∧sS = { env:=lkE [(2,.ptr 48 0),(3,.ptr 64 0)],ob:=lk [(8,.cells (curC l c3)),(48,.cells [.g (.slice none 0 0),.g (.slice none 0 0)]),(64,.cells [.arr 501 0 s2.fCat.fSets.length,.arr 502 0 s2.fSaid.length]),(501,.win 2 (s2.fCat.fSets.map DtCSet.cells)),(502,.own 3 (s2.fSaid.map DtSaid.cells))] }) ?_ ?_
 ·skip
  have hG:=stG_spl hd
  have hI:=stI_sz (zvv cs)
  obtain ⟨s,hs⟩:∃s,splC cs=s:=⟨_,rfl⟩
  rw [hs] at hG hI
  simp only [hs]
  have hL:=stG_len hG.1
  refine zgl (LeS.frzN 144 (sz:=2) (xs:=s.fCat.fSets.map DtCSet.cells) (zxl (cs:=curC l c1) (by simp [zG18,updL])) (by simp [formsX,List.range_succ]) (by simp [zG18,updL])) ?_
  refine AW_x rfl rfl λK hK=>?_
  simp (disch:=omega) [zG16,cI,cS,cU,DtSaid.cells,DtCSet.cells,DtState.cells,DtCatalog.cells,zcx,zbx,-aAppZ]
  repeat' first|(refine zco (λ_=>xs_p (xs_g xs_z)) (zkt l hl _ _) rfl rfl ?_;simp (disch:=omega) [zG16,cI,cS,cU,DtSaid.cells,DtCSet.cells,DtState.cells,DtCatalog.cells,zcx,zbx,-aAppZ]) | fail
  refine hK _ ?_;clear hK K
  refine zbg rfl (λhc1=>?_) (λhc1=>?_)
  ·try simp [zG17,zbc,zba] at hc1
   refine AW_x rfl rfl λK hK=>?_
   simp (disch:=omega) [zG16,cI,cS,cU,DtSaid.cells,DtCSet.cells,DtState.cells,DtCatalog.cells,zcx,zbx,-aAppZ]
   repeat' first|(refine zco (λ_=>xs_p (xs_g xs_z)) (zdi l hl _ _) rfl rfl ?_;simp (disch:=omega) [zG16,cI,cS,cU,DtSaid.cells,DtCSet.cells,DtState.cells,DtCatalog.cells,zcx,zbx,-aAppZ]) | fail
   refine hK _ ?_;clear hK K
   refine zbi ?_
   refine AW_x rfl rfl λK hK=>?_
   simp (disch:=omega) [zG16,cI,cS,cU,DtSaid.cells,DtCSet.cells,DtState.cells,DtCatalog.cells,zcx,zbx,-aAppZ]
   refine hK _ ?_;clear hK K
   refine zbg rfl (λhc2=>?_) (λhc2=>?_)
   ·try simp [zG17,zbc,zba] at hc2
    have hb10:=zc5 l 10 (belowS l 3 (belowS l 10 c1))
    refine zje rfl mix (by kernel_rfl) (by kernel_rfl) λK hK=>?_
    simp (disch:=omega) [zG16,cI,cS,cU,DtSaid.cells,DtCSet.cells,DtState.cells,DtCatalog.cells,zcx,zbx,-aAppZ]
    repeat' first|(refine zmt (λ_=>xs_p (xs_g xs_z)) (zdi l hl _ _) rfl rfl ?_;simp (disch:=omega) [zG16,cI,cS,cU,DtSaid.cells,DtCSet.cells,DtState.cells,DtCatalog.cells,zcx,zbx,-aAppZ])|(refine ⟨by omega,?_⟩) | fail
    refine hK _ _ (by kernel_rfl) ?_;clear hK K
    refine ⟨_,LeS.kw [(8,8),(48,48),(64,64),(501,144),(502,576)] [(2,.ptr 48 0),(3,.ptr 64 0)] [(8,.cells (curC l (belowS l 10 (belowS l 3 (belowS l 10 c1))))),(48,.cells [.g (.slice none 0 0),.g (.slice none 0 0)]),(64,.cells [.arr 501 0 (addSaid s ⟨1+below l 10 (belowS l 3 (belowS l 10 c1)),3,[]⟩).fCat.fSets.length,.arr 502 0 (addSaid s ⟨1+below l 10 (belowS l 3 (belowS l 10 c1)),3,[]⟩).fSaid.length]),(501,.win 2 ((addSaid s ⟨1+below l 10 (belowS l 3 (belowS l 10 c1)),3,[]⟩).fCat.fSets.map DtCSet.cells)),(502,.own 3 ((addSaid s ⟨1+below l 10 (belowS l 3 (belowS l 10 c1)),3,[]⟩).fSaid.map DtSaid.cells))] (by simp [zG18,KpR,renV2,renV,zbj,curC,zg4,immS,addSaid,addSet,setSaid,DtSaid.cells,DtCSet.cells,zcx]) (by simp [zG18,KpOW,wnO,renO,plO,cvO,renV,pl1,curC,zg4,immS,addSaid,addSet,setSaid,DtSaid.cells,DtCSet.cells,zcx];try trace_state) (by rfl) (by simp) (by simp) (by rfl) (by simp [zG19,formsX]),addSaid s ⟨1+below l 10 (belowS l 3 (belowS l 10 c1)),3,[]⟩,belowS l 10 (belowS l 3 (belowS l 10 c1)),?_,rfl⟩
    ·exact stG_said hG _ _ hI
   ·try simp [zG17,zbc,zba] at hc2
    refine AW_x rfl rfl λK hK=>?_
    simp (disch:=omega) [zG16,cI,cS,cU,DtSaid.cells,DtCSet.cells,DtState.cells,DtCatalog.cells,zcx,zbx,-aAppZ]
    refine hK _ ?_;clear hK K
    refine zbg rfl (λhc3=>?_) (λhc3=>?_)
    ·try simp [zG17,zbc,zba] at hc3
     refine zb4 rfl rfl λK hK=>?_
     simp (disch:=omega) [zG16,cI,cS,cU,DtSaid.cells,DtCSet.cells,DtState.cells,DtCatalog.cells,zcx,zbx,-aAppZ]
     repeat' first|(refine ⟨by omega,?_⟩) | fail
     refine hK _ ?_;clear hK K
     refine ⟨_,LeS.trans (LeS.nilW 720 s.fCat.fSets.length 1 3 (s:=2) (zs:=s.fCat.fSets.map DtCSet.cells++[[.s [],.g (.slice none 0 0)]]) (ys:=(s.fCat.fSets++[DtCSet.mk [] []]).map DtCSet.cells) (x:=[.s [],.g (.slice none 0 0)]) (by simp [zG18,updL,zbv]) (by simp) rfl (by simp [DtCSet.cells])) (LeS.kw [(8,8),(48,48),(64,64),(501,720),(502,145)] [(2,.ptr 48 0),(3,.ptr 64 0)] [(8,.cells (curC l (belowS l 3 (belowS l 10 c1)))),(48,.cells [.g (.slice none 0 0),.g (.slice none 0 0)]),(64,.cells [.arr 501 0 (addSet s).fCat.fSets.length,.arr 502 0 (addSet s).fSaid.length]),(501,.win 2 ((addSet s).fCat.fSets.map DtCSet.cells)),(502,.own 3 ((addSet s).fSaid.map DtSaid.cells))] (by simp [zG18,KpR,renV2,renV,zbj,curC,zg4,immS,addSaid,addSet,setSaid,DtSaid.cells,DtCSet.cells,zcx]) (by simp [zG18,KpOW,wnO,renO,plO,cvO,renV,pl1,curC,zg4,immS,addSaid,addSet,setSaid,DtSaid.cells,DtCSet.cells,zcx];try ((exact .inr (zg4 (by rw [immR_app,immS];rfl))))) (by rfl) (by simp) (by simp) (by rfl) (by simp [zG19,formsX])),addSet s,belowS l 3 (belowS l 10 c1),?_,rfl⟩
     ·exact stG_set hG hI
    ·try simp [zG17,zbc,zba] at hc3
     refine AW_x rfl rfl λK hK=>?_
     simp (disch:=omega) [zG16,cI,cS,cU,DtSaid.cells,DtCSet.cells,DtState.cells,DtCatalog.cells,zcx,zbx,-aAppZ]
     refine hK _ ?_;clear hK K
     refine zbg rfl (λhc4=>?_) (λhc4=>?_)
     ·try simp [zG17,zbc,zba] at hc4
      refine zje rfl mix (by kernel_rfl) (by kernel_rfl) λK hK=>?_
      simp (disch:=omega) [zG16,cI,cS,cU,DtSaid.cells,DtCSet.cells,DtState.cells,DtCatalog.cells,zcx,zbx,-aAppZ]
      repeat' first|(refine zwz (λ_=>xs_p (xs_a xs_z)) (zg5 l hl _ [0,1000,1001] (by simp)) rfl rfl rfl (by decide) rfl ?_;simp (disch:=omega) [zG16,cI,cS,cU,DtSaid.cells,DtCSet.cells,DtState.cells,DtCatalog.cells,zcx,zbx,-aAppZ])|(refine ⟨by omega,?_⟩) | fail
      refine hK _ _ (by kernel_rfl) ?_;clear hK K
      refine ⟨_,LeS.kw [(8,8),(48,48),(64,64),(501,144),(502,145)] [(2,.ptr 48 0),(3,.ptr 64 0)] [(8,.cells (curC l (belowS l 3 (belowS l 3 (belowS l 10 c1))))),(48,.cells [.g (.slice none 0 0),.g (.slice none 0 0)]),(64,.cells [.arr 501 0 (setSaid s (by omega) (pickZ [0,1000,1001] (below l 3 (belowS l 3 (belowS l 10 c1))))).fCat.fSets.length,.arr 502 0 (setSaid s (by omega) (pickZ [0,1000,1001] (below l 3 (belowS l 3 (belowS l 10 c1))))).fSaid.length]),(501,.win 2 ((setSaid s (by omega) (pickZ [0,1000,1001] (below l 3 (belowS l 3 (belowS l 10 c1))))).fCat.fSets.map DtCSet.cells)),(502,.own 3 ((setSaid s (by omega) (pickZ [0,1000,1001] (below l 3 (belowS l 3 (belowS l 10 c1))))).fSaid.map DtSaid.cells))] (by simp [zG18,KpR,renV2,renV,zbj,curC,zg4,immS,addSaid,addSet,setSaid,DtSaid.cells,DtCSet.cells,zcx]) (by simp [zG18,KpOW,wnO,renO,plO,cvO,renV,pl1,curC,zg4,immS,addSaid,addSet,setSaid,DtSaid.cells,DtCSet.cells,zcx];try trace_state) (by rfl) (by simp) (by simp) (by rfl) (by simp [zG19,formsX]),setSaid s (by omega) (pickZ [0,1000,1001] (below l 3 (belowS l 3 (belowS l 10 c1)))),belowS l 3 (belowS l 3 (belowS l 10 c1)),?_,rfl⟩
      ·exact stG_no hG _ _
     ·try simp [zG17,zbc,zba] at hc4
      refine zbh ?_
      refine ⟨_,LeS.kw [(8,8),(48,48),(64,64),(501,144),(502,145)] [(2,.ptr 48 0),(3,.ptr 64 0)] [(8,.cells (curC l (belowS l 3 (belowS l 10 c1)))),(48,.cells [.g (.slice none 0 0),.g (.slice none 0 0)]),(64,.cells [.arr 501 0 (s).fCat.fSets.length,.arr 502 0 (s).fSaid.length]),(501,.win 2 ((s).fCat.fSets.map DtCSet.cells)),(502,.own 3 ((s).fSaid.map DtSaid.cells))] (by simp [zG18,KpR,renV2,renV,zbj,curC,zg4,immS,addSaid,addSet,setSaid,DtSaid.cells,DtCSet.cells,zcx]) (by simp [zG18,KpOW,wnO,renO,plO,cvO,renV,pl1,curC,zg4,immS,addSaid,addSet,setSaid,DtSaid.cells,DtCSet.cells,zcx];try trace_state) (by rfl) (by simp) (by simp) (by rfl) (by simp [zG19,formsX]),s,belowS l 3 (belowS l 10 c1),?_,rfl⟩
      ·exact hG
  ·try simp [zG17,zbc,zba] at hc1
   refine zbh ?_
   refine ⟨_,LeS.kw [(8,8),(48,48),(64,64),(501,144),(502,145)] [(2,.ptr 48 0),(3,.ptr 64 0)] [(8,.cells (curC l (belowS l 10 c1))),(48,.cells [.g (.slice none 0 0),.g (.slice none 0 0)]),(64,.cells [.arr 501 0 (s).fCat.fSets.length,.arr 502 0 (s).fSaid.length]),(501,.win 2 ((s).fCat.fSets.map DtCSet.cells)),(502,.own 3 ((s).fSaid.map DtSaid.cells))] (by simp [zG18,KpR,renV2,renV,zbj,curC,zg4,immS,addSaid,addSet,setSaid,DtSaid.cells,DtCSet.cells,zcx]) (by simp [zG18,KpOW,wnO,renO,plO,cvO,renV,pl1,curC,zg4,immS,addSaid,addSet,setSaid,DtSaid.cells,DtCSet.cells,zcx];try trace_state) (by rfl) (by simp) (by simp) (by rfl) (by simp [zG19,formsX]),s,belowS l 10 c1,?_,rfl⟩
   ·exact hG
 ·rintro sS ⟨s2,c3,hG2,rfl⟩
  refine AW_x rfl rfl λK hK=>?_
  simp (disch:=omega) [zG16,cI,cS,cU,DtSaid.cells,DtCSet.cells,DtState.cells,DtCatalog.cells,zcx,zbx,-aAppZ]
  refine hK _ ?_;clear hK K
  refine zgl (LeS.frzR 501 (o:=.win 2 (s2.fCat.fSets.map DtCSet.cells)) (sz:=2) (xs:=s2.fCat.fSets.map DtCSet.cells) (zxl (cs:=curC l c3) (by simp [zG18,updL])) (by simp [formsX,List.range_succ]) (by simp [zG18,updL]) ⟨rfl,rfl,immS _⟩) ?_
  refine zgl (LeS.frzR 502 (o:=.own 3 (s2.fSaid.map DtSaid.cells)) (sz:=3) (xs:=s2.fSaid.map DtSaid.cells) (zxl (cs:=curC l c3) (by simp [zG18,updL])) (by simp [formsX,List.range_succ]) (by simp [zG18,updL]) ⟨rfl,rfl⟩) ?_
  refine zgl (LeS.vwC 48 0 501 (sz:=2) (xs:=s2.fCat.fSets.map DtCSet.cells) (cs:=[.arr 501 0 s2.fCat.fSets.length,.arr 502 0 s2.fSaid.length]) (off:=0) (len:=s2.fCat.fSets.length) (by simp [zG18,updL,zbv]) (by simp) (by simp [zce]) (by simp)) ?_
  refine zgl (LeS.vwC 48 1 502 (sz:=3) (xs:=s2.fSaid.map DtSaid.cells) (cs:=[.sl 2 (s2.fCat.fSets.map DtCSet.cells),.arr 502 0 s2.fSaid.length]) (off:=0) (len:=s2.fSaid.length) (by simp [zG18,updL,zbv]) (by simp) (by simp [zce]) (by simp)) ?_
  refine zmk (.agg (DtState.cells s2)) [.cells (curC l c3)] [] ?po (by simp) (by simp) (by simp [OB.xk]) (zb7 [] [] (by simp [zG18,List.range_succ]) (by simp) ?en)
  case en =>
   simp (disch:=omega) [zG16,cI,cS,cU,DtSaid.cells,DtCSet.cells,DtState.cells,DtCatalog.cells,zcx,zbx,-aAppZ]
  case po=>exact ⟨s2,c3,hG2,rfl,rfl,rfl⟩
end Go.Proofs.YtodmafgmdlkhoaaDoor.Vs
end
section
namespace Go.Proofs.YtodmafgmdlkhoaaDoor.Vs
set_option linter.all false
set_option maxRecDepth 100000
/-- Seven bits a byte. -/
def varB(n:Nat):List UInt8:=if n<128 then [UInt8.ofNat n] else UInt8.ofNat (128+n % 128) :: varB (n / 128)
termination_by n
decreasing_by omega
theorem zgo{n:Nat}(h:n<128):varB n=[UInt8.ofNat n]:=by unfold varB;rw [if_pos h]
theorem zkj{n:Nat}(h:¬n<128):varB n=UInt8.ofNat (128+n % 128) :: varB (n / 128):=by rw [varB];rw [if_neg h]
theorem zxn:∀(k n:Nat),n<128^(k+1)→(varB n).length≤k+1
 | 0,n,h=>by rw [zgo (by simpa using h)];simp
 | k+1,n,h=>by
  by_cases h2:n<128
  ·rw [zgo h2];simp
  ·rw [zkj h2]
   have:=zxn k (n / 128) (by rw [Nat.pow_succ] at h;omega)
   simp;omega
def varZ(n:Int):List UInt8:=if 0≤n∧n≤562949953421311 then varB n.toNat else []
theorem zcf(n:Int):(varZ n).length≤7:=by
 unfold varZ
 split
 ·rename_i h
  have h7:(128:Nat)^7=562949953421312:=by decide
  exact zxn 6 n.toNat (by omega)
 ·simp
def cB8v(n:Int):List AV:=[.g (.int .u8 n)]
theorem zm3:∀ns:List Int,numsOf (ns.map cB8v)=some ns
 | []=>rfl
 | n :: ns=>by
  have:=zm3 ns
  simp only [List.map_cons,cB8v,numsOf] at this ⊢
  rw [this];rfl
theorem zm4:∀(ns:List Int) (m:Int),numsOf (ns.map cB8v++[[.g (.int .u8 m)]])=some (ns++[m]):=by
 intro ns m
 have:=zm3 (ns++[m])
 simpa [cB8v] using this
theorem zca(ns:List Int):(strN ns).length=ns.length:=by simp [strN]
theorem tk1v(acc:List Int):List.take acc.length (acc.map cB8v)=acc.map cB8v:=List.take_of_length_le (by simp)
theorem tk2v(acc:List Int)(y:List AV):List.take (acc.length+1) (acc.map cB8v++[y])=acc.map cB8v++[y]:=List.take_of_length_le (by simp)
theorem tdivNv(m:Nat):(m:Int).tdiv 128=((m / 128:Nat):Int):=by rw [Int.tdiv_eq_ediv_of_nonneg (by omega)];rfl
theorem tmodNv(m:Nat):(m:Int).tmod 128=((m % 128:Nat):Int):=by rw [Int.tmod_eq_emod_of_nonneg (by omega)];rfl
theorem zg7{n:Int}(h0:0≤n)(h1:n<256):IntKind.u8.wrap n=n:=by
 simp [IntKind.wrap,IntKind.bits,IntKind.signed]
 omega
theorem shrNv(m:Nat):(m:Int).fdiv (2^min 7 IntKind.i64.bits)=((m / 128:Nat):Int):=by
 have:min 7 IntKind.i64.bits=7:=rfl
 rw [this,Int.fdiv_eq_ediv_of_nonneg _ (by decide)]
 rfl
theorem bothNv(m:Nat):IntKind.i64.wrap (((IntKind.i64.wrap ((m % 2^IntKind.i64.bits &&& 127 % 2^IntKind.i64.bits:Nat):Int) % 2^IntKind.i64.bits).toNat ||| 128 % 2^IntKind.i64.bits:Nat):Int)=((128+m % 128:Nat):Int):=by
 have hb:IntKind.i64.bits=64:=rfl
 rw [hb]
 have h1:m % 2^64 &&& 127 % 2^64=m % 128:=by
  have:=Nat.and_two_pow_sub_one_eq_mod (m % 2^64) 7
  have e:(127:Nat) % 2^64=2^7-1:=by decide
  rw [e,this];omega
 rw [h1,zcj (n:=((m % 128:Nat):Int)) (by omega) (by omega)]
 have h2:(((m % 128:Nat):Int) % 2^64).toNat=m % 128:=by omega
 rw [h2]
 have h3:m % 128 ||| 128 % 2^64=128+m % 128:=by
  have:=Nat.two_pow_add_eq_or_of_lt (i:=7) (b:=m % 128) (by omega) 1
  rw [Nat.or_comm,show (128:Nat) % 2^64=2^7*1 by decide,←this]
 rw [h3,zcj (by omega) (by omega)]
theorem zjp(acc:List Int)(m:Nat):strN (acc++[(m:Int)])=strN acc++[UInt8.ofNat m]:=by simp [strN]
def zG20:=And.intro @zcj (And.intro @zc0 (And.intro @zg7 (And.intro @tk1v (And.intro @tk2v (And.intro @zm4 (And.intro @tdivNv @tmodNv))))))
theorem zhy(n:Int):PCall Tryd.prog 29 [(.g (.int .i64 (n)))] (.s (varZ n)):=by
 by_cases hn:0≤n∧n≤562949953421311
 ·have hz:varZ n=varB n.toNat:=by unfold varZ;rw [if_pos hn]
  have hl:=zcf n
  rw [hz] at hl ⊢
  refine zbp Tryd.func29 (by rfl) (by rfl) (by rw [Tryd.ntmps29];exact Nat.le_of_ble_eq_true rfl) rfl (by decide) ?_
  rw [Tryd.ntmps29]
  refine AW_k [(0,_)] ⟨rfl,trivial⟩ ?_
  refine AW_r rfl rfl λK hK=>?_
  simp (disch:=omega) [zG20,List.getElem?_eq_getElem,aNews,aAppend,aBuildSlice,chunks]
  refine hK _ ?_;clear hK K
  refine zbe ?_
  refine AW_r rfl rfl λK hK=>?_
  simp (disch:=omega) [zG20,List.getElem?_eq_getElem,aNews,aAppend,aBuildSlice,chunks]
  repeat' first|(refine zci (zbf zcb (zbf zcb (zbf zcb zbn))) (l1In _ _ _) rfl ?_;simp (disch:=omega) [zG20,List.getElem?_eq_getElem,aNews,aAppend,aBuildSlice,chunks]) | fail
  refine hK _ ?_;clear hK K
  refine zbg rfl (λhc1=>?_) (λhc1=>?_)
  ·try simp [zG17,zbc,zba] at hc1
   refine AW_r rfl rfl λK hK=>?_
   simp (disch:=omega) [zG20,List.getElem?_eq_getElem,aNews,aAppend,aBuildSlice,chunks]
   repeat' first|(exfalso;omega)
  ·try simp [zG17,zbc,zba] at hc1
   refine zbh ?_
   refine zbm ?_
   refine AW_r rfl rfl λK hK=>?_
   simp (disch:=omega) [zG20,List.getElem?_eq_getElem,aNews,aAppend,aBuildSlice,chunks]
   refine hK _ ?_;clear hK K
   refine zbe ?_
   refine zbi ?_
   refine zbt (λmM sS=>∃(acc:List Int) (m:Nat),mM=m+1∧(strN acc++varB m=varB n.toNat∧m≤n.toNat)∧sS = { env:=lkE [(0,(.g (.int .i64 ((m:Nat))))),(3,.arr 128 0 acc.length)],ob:=lk [(128,.flat 1 (acc.map cB8v))] }) ?_ ?_
   ·refine ⟨_,LeS.kr [(128,128)] [(0,(.g (.int .i64 (((n.toNat):Nat))))),(3,.arr 128 0 ([]).length)] [(128,.flat 1 (([]).map cB8v))] (by simp [zG18,KpR,renV2,renV,zbj,cB8v];try omega) (by simp [zG18,KpOR,renO,renV,zb5,cB8v]) (by rfl) (by rfl) (by simp) (by simp) (by rfl) (by simp [forms]),_,[],n.toNat,rfl,?_,rfl⟩
    ·simp [strN]
   ·rintro mM sS ⟨acc,m,rfl,⟨hv,hm⟩,rfl⟩
    have hal:acc.length≤7:=by have:=congrArg List.length hv;simp [zca] at this;omega
    refine zbe ?_
    refine AW_r rfl rfl λK hK=>?_
    simp (disch:=omega) [zG20,List.getElem?_eq_getElem,aNews,aAppend,aBuildSlice,chunks]
    refine hK _ ?_;clear hK K
    refine zbg rfl (λhc2=>?_) (λhc2=>?_)
    ·try simp [zG17,zbc,zba] at hc2
     have hge:=zkj (n:=m) (by omega)
     refine zbh ?_
     refine zbm ?_
     refine zbi ?_
     refine AW_r rfl rfl λK hK=>?_
     simp (disch:=omega) [zG20,List.getElem?_eq_getElem,aNews,aAppend,aBuildSlice,chunks]
     repeat' first|(refine ⟨by omega,?_⟩) | fail
     refine hK _ ?_;clear hK K
     refine zc6 rfl rfl λK hK=>?_
     simp (disch:=omega) [zG20,List.getElem?_eq_getElem,aNews,aAppend,aBuildSlice,chunks]
     refine hK _ ?_;clear hK K
     refine ⟨_,LeS.kr [(128,272)] [(0,(.g (.int .i64 (((m / 128):Nat))))),(3,.arr 128 0 (acc++[128+((m % 128:Nat):Int)]).length)] [(128,.flat 1 ((acc++[128+((m % 128:Nat):Int)]).map cB8v))] (by simp [zG18,KpR,renV2,renV,zbj,cB8v]) (by simp [zG18,KpOR,renO,renV,zb5,cB8v]) (by rfl) (by rfl) (by simp) (by simp) (by rfl) (by simp [forms]),_,?_,acc++[128+((m % 128:Nat):Int)],m / 128,rfl,?_,rfl⟩
     ·omega
     ·refine ⟨?_,by omega⟩
      rw [hge] at hv
      rw [←hv,show (128+((m % 128:Nat):Int))=((128+m % 128:Nat):Int) by omega,zjp]
      simp
    ·try simp [zG17,zbc,zba] at hc2
     refine zbw ?_
     refine zbm ?_
     refine AW_r rfl rfl λK hK=>?_
     simp (disch:=omega) [zG20,List.getElem?_eq_getElem,aNews,aAppend,aBuildSlice,chunks]
     repeat' first|(refine ⟨by omega,?_⟩) | fail
     refine hK _ ?_;clear hK K
     refine zbo (zcc ?_)
     simp (disch:=omega) [zG20,List.getElem?_eq_getElem,aNews,aAppend,aBuildSlice,chunks]
     (rw [zjp,←hv,zgo (by omega)];done)
 ·have hz:varZ n=[]:=by unfold varZ;rw [if_neg hn]
  rw [hz]
  have hn':n<0∨562949953421311<n:=by omega
  refine zbp Tryd.func29 (by rfl) (by rfl) (by rw [Tryd.ntmps29];exact Nat.le_of_ble_eq_true rfl) rfl (by decide) ?_
  rw [Tryd.ntmps29]
  refine AW_k [(0,_)] ⟨rfl,trivial⟩ ?_
  refine AW_r rfl rfl λK hK=>?_
  simp (disch:=omega) [zG20,List.getElem?_eq_getElem,aNews,aAppend,aBuildSlice,chunks]
  refine hK _ ?_;clear hK K
  refine zbe (AW_r rfl rfl λK hK=>?_)
  simp (disch:=omega) [zG20,List.getElem?_eq_getElem,aNews,aAppend,aBuildSlice,chunks]
  refine zci (zbf zcb (zbf zcb (zbf zcb zbn))) (l1In _ _ _) rfl ?_
  simp (disch:=omega) [zG20,List.getElem?_eq_getElem,aNews,aAppend,aBuildSlice,chunks]
  refine hK _ ?_;clear hK K
  refine zbg (t:=true) (by simp;omega) (λ_=>?_) (λh=>by simp at h)
  refine AW_r rfl rfl λK hK=>?_
  simp (disch:=omega) [zG20,List.getElem?_eq_getElem,aNews,aAppend,aBuildSlice,chunks]
  refine hK _ ?_;clear hK K
  refine zbo (zcc ?_)
  simp (disch:=omega) [zG20,List.getElem?_eq_getElem,aNews,aAppend,aBuildSlice,chunks]
def zG21:=And.intro @zcj (And.intro @zc0 (And.intro @zg7 (And.intro @tk1v (And.intro @tk2v (And.intro @zm4 (And.intro @bothNv @shrNv))))))
theorem zhz(n:Int):PCall Tryd.prog 18 [(.g (.int .i64 (n)))] (.s (varZ n)):=by
 by_cases hn:0≤n∧n≤562949953421311
 ·have hz:varZ n=varB n.toNat:=by unfold varZ;rw [if_pos hn]
  have hl:=zcf n
  rw [hz] at hl ⊢
  refine zbp Tryd.func18 (by rfl) (by rfl) (by rw [Tryd.ntmps18];exact Nat.le_of_ble_eq_true rfl) rfl (by decide) ?_
  rw [Tryd.ntmps18]
  refine AW_k [(0,_)] ⟨rfl,trivial⟩ ?_
  refine AW_r rfl rfl λK hK=>?_
  simp (disch:=omega) [zG21,List.getElem?_eq_getElem,aNews,aAppend,aBuildSlice,chunks]
  refine hK _ ?_;clear hK K
  refine zbe ?_
  refine AW_r rfl rfl λK hK=>?_
  simp (disch:=omega) [zG21,List.getElem?_eq_getElem,aNews,aAppend,aBuildSlice,chunks]
  repeat' first|(refine zci (zbf zcb (zbf zcb (zbf zcb zbn))) (zn4 _ _ _) rfl ?_;simp (disch:=omega) [zG21,List.getElem?_eq_getElem,aNews,aAppend,aBuildSlice,chunks]) | fail
  refine hK _ ?_;clear hK K
  refine zbg rfl (λhc3=>?_) (λhc3=>?_)
  ·try simp [zG17,zbc,zba] at hc3
   refine AW_r rfl rfl λK hK=>?_
   simp (disch:=omega) [zG21,List.getElem?_eq_getElem,aNews,aAppend,aBuildSlice,chunks]
   repeat' first|(exfalso;omega)
  ·try simp [zG17,zbc,zba] at hc3
   refine zbh ?_
   refine zbm ?_
   refine AW_r rfl rfl λK hK=>?_
   simp (disch:=omega) [zG21,List.getElem?_eq_getElem,aNews,aAppend,aBuildSlice,chunks]
   refine hK _ ?_;clear hK K
   refine zbe ?_
   refine zbi ?_
   refine zbt (λmM sS=>∃(acc:List Int) (m:Nat),mM=m+1∧(strN acc++varB m=varB n.toNat∧m≤n.toNat)∧sS = { env:=lkE [(0,(.g (.int .i64 ((m:Nat))))),(3,.arr 128 0 acc.length)],ob:=lk [(128,.flat 1 (acc.map cB8v))] }) ?_ ?_
   ·refine ⟨_,LeS.kr [(128,128)] [(0,(.g (.int .i64 (((n.toNat):Nat))))),(3,.arr 128 0 ([]).length)] [(128,.flat 1 (([]).map cB8v))] (by simp [zG18,KpR,renV2,renV,zbj,cB8v];try omega) (by simp [zG18,KpOR,renO,renV,zb5,cB8v]) (by rfl) (by rfl) (by simp) (by simp) (by rfl) (by simp [forms]),_,[],n.toNat,rfl,?_,rfl⟩
    ·simp [strN]
   ·rintro mM sS ⟨acc,m,rfl,⟨hv,hm⟩,rfl⟩
    have hal:acc.length≤7:=by have:=congrArg List.length hv;simp [zca] at this;omega
    refine zbe ?_
    refine AW_r rfl rfl λK hK=>?_
    simp (disch:=omega) [zG21,List.getElem?_eq_getElem,aNews,aAppend,aBuildSlice,chunks]
    refine hK _ ?_;clear hK K
    refine zbg rfl (λhc4=>?_) (λhc4=>?_)
    ·try simp [zG17,zbc,zba] at hc4
     have hge:=zkj (n:=m) (by omega)
     refine zbh ?_
     refine zbm ?_
     refine zbi ?_
     refine AW_r rfl rfl λK hK=>?_
     simp (disch:=omega) [zG21,List.getElem?_eq_getElem,aNews,aAppend,aBuildSlice,chunks]
     repeat' first|(refine ⟨by omega,?_⟩) | fail
     refine hK _ ?_;clear hK K
     refine zc6 rfl rfl λK hK=>?_
     simp (disch:=omega) [zG21,List.getElem?_eq_getElem,aNews,aAppend,aBuildSlice,chunks]
     refine hK _ ?_;clear hK K
     refine ⟨_,LeS.kr [(128,272)] [(0,(.g (.int .i64 (((m / 128):Nat))))),(3,.arr 128 0 (acc++[128+((m % 128:Nat):Int)]).length)] [(128,.flat 1 ((acc++[128+((m % 128:Nat):Int)]).map cB8v))] (by simp [zG18,KpR,renV2,renV,zbj,cB8v]) (by simp [zG18,KpOR,renO,renV,zb5,cB8v]) (by rfl) (by rfl) (by simp) (by simp) (by rfl) (by simp [forms]),_,?_,acc++[128+((m % 128:Nat):Int)],m / 128,rfl,?_,rfl⟩
     ·omega
     ·refine ⟨?_,by omega⟩
      rw [hge] at hv
      rw [←hv,show (128+((m % 128:Nat):Int))=((128+m % 128:Nat):Int) by omega,zjp]
      simp
    ·try simp [zG17,zbc,zba] at hc4
     refine zbw ?_
     refine zbm ?_
     refine AW_r rfl rfl λK hK=>?_
     simp (disch:=omega) [zG21,List.getElem?_eq_getElem,aNews,aAppend,aBuildSlice,chunks]
     repeat' first|(refine ⟨by omega,?_⟩) | fail
     refine hK _ ?_;clear hK K
     refine zbo (zcc ?_)
     simp (disch:=omega) [zG21,List.getElem?_eq_getElem,aNews,aAppend,aBuildSlice,chunks]
     (rw [zjp,←hv,zgo (by omega)];done)
 ·have hz:varZ n=[]:=by unfold varZ;rw [if_neg hn]
  rw [hz]
  have hn':n<0∨562949953421311<n:=by omega
  refine zbp Tryd.func18 (by rfl) (by rfl) (by rw [Tryd.ntmps18];exact Nat.le_of_ble_eq_true rfl) rfl (by decide) ?_
  rw [Tryd.ntmps18]
  refine AW_k [(0,_)] ⟨rfl,trivial⟩ ?_
  refine AW_r rfl rfl λK hK=>?_
  simp (disch:=omega) [zG21,List.getElem?_eq_getElem,aNews,aAppend,aBuildSlice,chunks]
  refine hK _ ?_;clear hK K
  refine zbe (AW_r rfl rfl λK hK=>?_)
  simp (disch:=omega) [zG21,List.getElem?_eq_getElem,aNews,aAppend,aBuildSlice,chunks]
  refine zci (zbf zcb (zbf zcb (zbf zcb zbn))) (zn4 _ _ _) rfl ?_
  simp (disch:=omega) [zG21,List.getElem?_eq_getElem,aNews,aAppend,aBuildSlice,chunks]
  refine hK _ ?_;clear hK K
  refine zbg (t:=true) (by simp;omega) (λ_=>?_) (λh=>by simp at h)
  refine AW_r rfl rfl λK hK=>?_
  simp (disch:=omega) [zG21,List.getElem?_eq_getElem,aNews,aAppend,aBuildSlice,chunks]
  refine hK _ ?_;clear hK K
  refine zbo (zcc ?_)
  simp (disch:=omega) [zG21,List.getElem?_eq_getElem,aNews,aAppend,aBuildSlice,chunks]
def piece(s:List UInt8):List UInt8:=varZ s.length++s
theorem zqn(s:List UInt8)(hs:s.length≤1048576):PCall Tryd.prog 30 [.s s] (.s (piece s)):=by
 have hl:=zcf s.length
 refine zbp Tryd.func30 (by rfl) (by rfl) (by rw [Tryd.ntmps30];exact Nat.le_of_ble_eq_true rfl) rfl (by decide) ?_
 rw [Tryd.ntmps30]
 refine AW_k [(0,_)] ⟨rfl,trivial⟩ ?_
 refine AW_r rfl rfl λK hK=>?_
 simp (disch:=omega) [zcj,List.getElem?_eq_getElem,zc0,zg7,piece]
 refine hK _ ?_;clear hK K
 refine AW_r rfl rfl λK hK=>?_
 simp (disch:=omega) [zcj,List.getElem?_eq_getElem,zc0,zg7,piece]
 repeat' first|(refine zci (zbf zcb zbn) (zhy _) rfl ?_;simp (disch:=omega) [zcj,List.getElem?_eq_getElem,zc0,zg7,piece])|(refine ⟨by omega,?_⟩) | fail
 refine hK _ ?_;clear hK K
 refine zbo (zcc ?_)
 simp (disch:=omega) [zcj,List.getElem?_eq_getElem,zc0,zg7,piece]
theorem sized(s:List UInt8)(hs:s.length≤1048576):PCall Tryd.prog 19 [.s s] (.s (piece s)):=by
 have hl:=zcf s.length
 refine zbp Tryd.func19 (by rfl) (by rfl) (by rw [Tryd.ntmps19];exact Nat.le_of_ble_eq_true rfl) rfl (by decide) ?_
 rw [Tryd.ntmps19]
 refine AW_k [(0,_)] ⟨rfl,trivial⟩ ?_
 refine AW_r rfl rfl λK hK=>?_
 simp (disch:=omega) [zcj,List.getElem?_eq_getElem,zc0,zg7,piece]
 refine hK _ ?_;clear hK K
 refine AW_r rfl rfl λK hK=>?_
 simp (disch:=omega) [zcj,List.getElem?_eq_getElem,zc0,zg7,piece]
 repeat' first|(refine zci (zbf zcb zbn) (zhz _) rfl ?_;simp (disch:=omega) [zcj,List.getElem?_eq_getElem,zc0,zg7,piece])|(refine ⟨by omega,?_⟩) | fail
 refine hK _ ?_;clear hK K
 refine zbo (zcc ?_)
 simp (disch:=omega) [zcj,List.getElem?_eq_getElem,zc0,zg7,piece]
end Go.Proofs.YtodmafgmdlkhoaaDoor.Vs
end
