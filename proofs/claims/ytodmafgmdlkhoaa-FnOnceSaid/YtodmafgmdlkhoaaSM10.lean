import Derived.Test.YtodmafgmdlkhoaaSM9
import Derived.Test.YtodmafgmdlkhoaaSM7
import Derived.Test.YtodmafgmdlkhoaaSM2
section
namespace Go.Proofs.Ytodmafgmdlkhoaa.Vs
set_option linter.all false
set_option maxRecDepth 100000
set_option maxHeartbeats 2000000
attribute [local simp] cmdO
def pkS(l:List Int)(c:Cur):List UInt8:=([[97],[98],[97,98],[99],[100],[101],[102]]:List (List UInt8)).getD (below l 7 c).toNat []
def CmdsE(l:List Int)(m:Nat)(r:AV)(wos' fos:List OB):Prop:=∃(cs:List DtCmd) (c':Cur),cs.length≤m∧(∀x∈cs,CmdF x)∧r=.arr 16 0 cs.length∧wos'=[.cells (curC l c')]∧fos=[.own 8 (cs.map DtCmd.cells)]
def zG21:=And.intro @zcv (And.intro @gE (And.intro @tP (And.intro @and_assoc (And.intro @List.range_succ (And.intro @zbe (And.intro @zci (And.intro @zba @zbf)))))))
def zG22:=And.intro @zbq (And.intro @zbz @zbx)
def zG23:=And.intro @List.range_succ (And.intro @zbq @zbz)
def zG24:=And.intro @zba @zbf
theorem l15Cmds(l:List Int)(hl:Code l)(c:Cur)(m:Nat)(hm:m≤1000)(hm0:0<m):XCallE Try.prog 83 [.ptr 8 0,(.g (.int .i64 ((m:Nat))))] [.cells (curC l c)] 1 (CmdsE l m):=by
 refine zfe Try.func83 (by rfl) (by rfl) (by rw [Try.ntmps83];exact Nat.le_of_ble_eq_true rfl) (by simp) rfl ?_
 rw [Try.ntmps83]
 refine zh1 (.cells (curC l c)) (by simp [cvO]<;>assumption) ?_
 refine AW_k [(0,_),(1,_)] ⟨rfl,rfl,trivial⟩ ?_
 refine AW_x rfl rfl λK hK=>?_
 simp (disch:=omega) [zG21,cI,cS,cU,DtCmd.cells,cmdO,zbs,-aAppZ]
 repeat' first|(refine ⟨by omega,?_⟩)|(intro _)
 refine hK _ ?_;clear hK K
 refine AW_x rfl rfl λK hK=>?_
 simp (disch:=omega) [zG21,cI,cS,cU,DtCmd.cells,cmdO,zbs,-aAppZ]
 repeat' first|(refine ⟨by omega,?_⟩)|(simp (disch:=omega) [zG21,cI,cS,cU,DtCmd.cells,cmdO,zbs,-aAppZ])|(intro _)
 refine hK _ ?_;clear hK K
 refine zbj ?_
 refine AW_x rfl rfl λK hK=>?_
 simp (disch:=omega) [zG21,cI,cS,cU,DtCmd.cells,cmdO,zbs,-aAppZ]
 repeat' first|(exfalso;omega)|(refine zc3 (λ_=>xs_p (xs_g xs_z)) (zdx l hl _ _) rfl rfl ?_;simp (disch:=omega) [zG21,cI,cS,cU,DtCmd.cells,cmdO,zbs,-aAppZ])|(refine ⟨by omega,?_⟩)|(simp (disch:=omega) [zG21,cI,cS,cU,DtCmd.cells,cmdO,zbs,-aAppZ])|(intro _)
 refine hK _ ?_;clear hK K
 refine zbn ?_
 have hb7:=zdh l m c
 refine zbv (λmM sS=>∃(n:Nat) (cs:List DtCmd) (c2:Cur),mM=2*n∧(n+cs.length≤m∧∀x∈cs,CmdF x)∧sS = { env:=lkE [(0,.ptr 8 0),(5,.arr 501 0 cs.length),(6,(.g (.int .i64 ((n:Nat)))))],ob:=lk [(8,.cells (curC l c2)),(501,.own 8 (cs.map DtCmd.cells))] }) ?_ ?_
 ·refine ⟨_,LeS.kx [(8,8),(501,144)] [(0,.ptr 8 0),(5,.arr 501 0 ([]).length),(6,(.g (.int .i64 ((((below l m c).toNat):Nat)))))] [(8,.cells (curC l (belowS l m c))),(501,.own 8 (([]).map DtCmd.cells))] (by simp [zG22,KpR,renV2,renV,zbl,curC,DtCmd.cells,cmdO];try (first | with_reducible rfl | omega)) (by simp [zG22,KpOX,renO,plO,cvO,renV,pl1,curC,DtCmd.cells,cmdO];try (first | with_reducible rfl|(simp [DtCmd.cells,zbe];done) | trace_state)) (by rfl) (by simp) (by simp) (by rfl) (by simp [zG23,formsX]),_,(below l m c).toNat,[],belowS l m c,rfl,?_,rfl⟩
  ·exact ⟨by simp;omega,by simp⟩
 ·rintro mM sS ⟨n,cs,c2,rfl,⟨hnl,hd⟩,rfl⟩
  refine zbj ?_
  refine AW_x rfl rfl λK hK=>?_
  simp (disch:=omega) [zG21,cI,cS,cU,DtCmd.cells,cmdO,zbs,-aAppZ]
  repeat' first|(refine ⟨by omega,?_⟩)|(intro _)
  refine hK _ ?_;clear hK K
  refine zbi rfl (λhc1=>?_) (λhc1=>?_)
  ·try simp [zG24,zbd,zbc] at hc1
   all_goals
    have hs6:=(S_bd l c2).1
    refine zbk ?_
    refine zbo ?_
    refine zbj ?_
    refine zbn ?_
    refine AW_x rfl rfl λK hK=>?_
    simp (disch:=omega) [zG21,cI,cS,cU,DtCmd.cells,cmdO,zbs,-aAppZ]
    repeat' first|(exfalso;omega)|(refine zc9 [8] false [] (l4Right l hl c2) ?_ ?_ ?_;(focus (simp [List.range_succ,nmC];done));(focus (simp (disch:=omega) [zG21,cI,cS,cU,DtCmd.cells,cmdO,zbs,-aAppZ];done));simp (disch:=omega) [zG21,cI,cS,cU,DtCmd.cells,cmdO,zbs,-aAppZ])|(refine ⟨λ_=>?_,λ_=>?_⟩)|(refine ⟨by omega,?_⟩)|(simp (disch:=omega) [zG21,cI,cS,cU,DtCmd.cells,cmdO,zbs,-aAppZ])|(intro _)
    all_goals (refine hK _ ?_;clear hK K)
    all_goals
     refine zf2 (λsS=>∃(x:DtCmd) (c3:Cur),(CmdF x)∧sS = { env:=lkE [(0,.ptr 8 0),(5,.arr 501 0 cs.length),(6,(.g (.int .i64 ((n:Nat))))),(7,.ptr 128 0)],ob:=lk [(8,.cells (curC l c3)),(501,.own 8 (cs.map DtCmd.cells)),(128,.cells (cmdO x 502)),(502,.own 1 (x.fChunks.map cS))] }) ?_ ?_
     ·skip
      refine AW_x rfl rfl λK hK=>?_
      simp (disch:=omega) [zG21,cI,cS,cU,DtCmd.cells,cmdO,zbs,-aAppZ]
      repeat' first|(exfalso;omega)|(refine zc3 (λ_=>xs_p (xs_g xs_z)) (zko l hl _ _) rfl rfl ?_;simp (disch:=omega) [zG21,cI,cS,cU,DtCmd.cells,cmdO,zbs,-aAppZ])|(refine ⟨by omega,?_⟩)|(simp (disch:=omega) [zG21,cI,cS,cU,DtCmd.cells,cmdO,zbs,-aAppZ])|(intro _)
      refine hK _ ?_;clear hK K
      refine zbi rfl (λhc2=>?_) (λhc2=>?_)
      ·try simp [zG24,zbd,zbc] at hc2
       all_goals
        refine zhn rfl mix (by kernel_rfl) (by kernel_rfl) λK hK=>?_
        simp (disch:=omega) [zG21,cI,cS,cU,DtCmd.cells,cmdO,zbs,-aAppZ]
        repeat' first|(exfalso;omega)|(refine zwv (λ_=>xs_p (xs_a xs_z)) (zhb l hl _ [[97],[98],[97,98],[99],[100],[101],[102]] (by simp)) rfl rfl rfl (by decide) rfl ?_;simp (disch:=omega) [zG21,cI,cS,cU,DtCmd.cells,cmdO,zbs,-aAppZ])|(refine ⟨λ_=>?_,λ_=>?_⟩)|(refine ⟨by omega,?_⟩)|(simp (disch:=omega) [zG21,cI,cS,cU,DtCmd.cells,cmdO,zbs,-aAppZ])|(intro _)
        all_goals (refine hK _ _ (by kernel_rfl) ?_;clear hK K)
        all_goals
         refine ⟨_,LeS.trans (LeS.znc (cs:=[(.g (.int .i64 (1))),(.g (.int .i64 ((S6 l c2).x.fClient))),(.g (.int .i64 ((S6 l c2).x.fNo))),.s (pkS l (belowS l 4 (S6 l c2).c)),.s [],.s [],(.g (.int .i64 (0))),.g (.slice none 0 0)]) 502 1 128 7 (by simp [zG22,zbl]) (by simp [zG22,zbl,curC,cmdO,pkS]) (by rfl)) (LeS.kx [(8,8),(501,501),(128,128),(502,502)] [(0,.ptr 8 0),(5,.arr 501 0 cs.length),(6,(.g (.int .i64 ((n:Nat))))),(7,.ptr 128 0)] [(8,.cells (curC l (belowS l 7 (belowS l 4 (S6 l c2).c)))),(501,.own 8 (cs.map DtCmd.cells)),(128,.cells (cmdO (DtCmd.mk 1 (S6 l c2).x.fClient (S6 l c2).x.fNo (pkS l (belowS l 4 (S6 l c2).c)) [] [] 0 []) 502)),(502,.own 1 ((DtCmd.mk 1 (S6 l c2).x.fClient (S6 l c2).x.fNo (pkS l (belowS l 4 (S6 l c2).c)) [] [] 0 []).fChunks.map cS))] (by simp [zG22,KpR,renV2,renV,zbl,curC,cmdO,pkS];try (first | with_reducible rfl | omega)) (by simp [zG22,KpOX,renO,plO,cvO,renV,pl1,curC,cmdO,pkS];try (first | with_reducible rfl|(simp [cS];done) | trace_state)) (by rfl) (by simp) (by simp) (by rfl) (by simp [zG23,formsX])),DtCmd.mk 1 (S6 l c2).x.fClient (S6 l c2).x.fNo (pkS l (belowS l 4 (S6 l c2).c)) [] [] 0 [],belowS l 7 (belowS l 4 (S6 l c2).c),?_,rfl⟩
         ·first | exact zjv hs6 (zfk _ _) | exact ⟨⟨zdv _ _ (by simp),zgh _ _ (by simp)⟩,by simp,by simp,by simp,by simp⟩
      ·try simp [zG24,zbd,zbc] at hc2
       all_goals
        refine zbk ?_
        refine ⟨_,LeS.kx [(8,8),(501,501),(128,128),(502,288)] [(0,.ptr 8 0),(5,.arr 501 0 cs.length),(6,(.g (.int .i64 ((n:Nat))))),(7,.ptr 128 0)] [(8,.cells (curC l (belowS l 4 (S6 l c2).c))),(501,.own 8 (cs.map DtCmd.cells)),(128,.cells (cmdO ((S6 l c2).x) 502)),(502,.own 1 (((S6 l c2).x).fChunks.map cS))] (by simp [zG22,KpR,renV2,renV,zbl,curC,cmdO,pkS];try (first | with_reducible rfl | omega)) (by simp [zG22,KpOX,renO,plO,cvO,renV,pl1,curC,cmdO,pkS];try (first | with_reducible rfl|(simp [cS];done) | trace_state)) (by rfl) (by simp) (by simp) (by rfl) (by simp [zG23,formsX]),(S6 l c2).x,belowS l 4 (S6 l c2).c,?_,rfl⟩
        ·first | exact zjv hs6 (zfk _ _) | exact ⟨⟨zdv _ _ (by simp),zgh _ _ (by simp)⟩,by simp,by simp,by simp,by simp⟩
     ·rintro sS ⟨x,c3,hx,rfl⟩
      refine zf2 (λsS=>∃(y:DtCmd) (c4:Cur),(CmdF y)∧sS = { env:=lkE [(0,.ptr 8 0),(5,.arr 501 0 cs.length),(6,(.g (.int .i64 ((n:Nat))))),(7,.ptr 128 0)],ob:=lk [(8,.cells (curC l c4)),(501,.own 8 (cs.map DtCmd.cells)),(128,.cells (cmdO y 502)),(502,.own 1 (y.fChunks.map cS))] }) ?_ ?_
      ·skip
       refine AW_x rfl rfl λK hK=>?_
       simp (disch:=omega) [zG21,cI,cS,cU,DtCmd.cells,cmdO,zbs,-aAppZ]
       repeat' first|(exfalso;omega)|(refine zc3 (λ_=>xs_p (xs_g xs_z)) (zko l hl _ _) rfl rfl ?_;simp (disch:=omega) [zG21,cI,cS,cU,DtCmd.cells,cmdO,zbs,-aAppZ])|(refine ⟨λ_=>?_,λ_=>?_⟩)|(refine ⟨by omega,?_⟩)|(simp (disch:=omega) [zG21,cI,cS,cU,DtCmd.cells,cmdO,zbs,-aAppZ])|(intro _)
       all_goals (refine hK _ ?_;clear hK K)
       all_goals
        refine zbi rfl (λhc3=>?_) (λhc3=>?_)
        ·try simp [zG24,zbd,zbc] at hc3
         all_goals
          refine zb6 rfl rfl λK hK=>?_
          simp (disch:=omega) [zG21,cI,cS,cU,DtCmd.cells,cmdO,zbs,-aAppZ]
          repeat' first|(exfalso;omega)|(refine zt3 [8] false [] (l4Cmd l hl (belowS l 15 c3)) ?_ ?_ ?_;(focus (simp [List.range_succ,nmC];done));(focus (simp (disch:=omega) [zG21,cI,cS,cU,DtCmd.cells,cmdO,zbs,-aAppZ];done));rintro _ _ _ ⟨z,cz,hz,rfl,rfl,rfl⟩;refine ⟨⟨by first | rfl|(simp;done),by first | rfl|(simp;done)⟩,?_⟩;simp (disch:=omega) [zG21,cI,cS,cU,DtCmd.cells,cmdO,zbs,-aAppZ])|(refine ⟨λ_=>?_,λ_=>?_⟩)|(refine ⟨by omega,?_⟩)|(simp (disch:=omega) [zG21,cI,cS,cU,DtCmd.cells,cmdO,zbs,-aAppZ])|(intro _)
          all_goals (refine hK _ ?_;clear hK K)
          all_goals
           refine ⟨_,LeS.kx [(8,8),(501,501),(128,128),(502,512)] [(0,.ptr 8 0),(5,.arr 501 0 cs.length),(6,(.g (.int .i64 ((n:Nat))))),(7,.ptr 128 0)] [(8,.cells (curC l (cz))),(501,.own 8 (cs.map DtCmd.cells)),(128,.cells (cmdO (z) 502)),(502,.own 1 ((z).fChunks.map cS))] (by simp [zG22,KpR,renV2,renV,zbl,curC,cmdO];try (first | with_reducible rfl | omega)) (by simp [zG22,KpOX,renO,plO,cvO,renV,pl1,curC,cmdO];try (first | with_reducible rfl | trace_state)) (by rfl) (by simp) (by simp) (by rfl) (by simp [zG23,formsX]),z,cz,?_,rfl⟩
           ·first | exact hz | exact hx
        ·try simp [zG24,zbd,zbc] at hc3
         all_goals
          refine zbk ?_
          refine ⟨_,LeS.kx [(8,8),(501,501),(128,128),(502,502)] [(0,.ptr 8 0),(5,.arr 501 0 cs.length),(6,(.g (.int .i64 ((n:Nat))))),(7,.ptr 128 0)] [(8,.cells (curC l (belowS l 15 c3))),(501,.own 8 (cs.map DtCmd.cells)),(128,.cells (cmdO (x) 502)),(502,.own 1 ((x).fChunks.map cS))] (by simp [zG22,KpR,renV2,renV,zbl,curC,cmdO];try (first | with_reducible rfl | omega)) (by simp [zG22,KpOX,renO,plO,cvO,renV,pl1,curC,cmdO];try (first | with_reducible rfl | trace_state)) (by rfl) (by simp) (by simp) (by rfl) (by simp [zG23,formsX]),x,belowS l 15 c3,?_,rfl⟩
          ·first | exact hz | exact hx
      ·rintro sS ⟨y,c4,hy,rfl⟩
       refine zb6 rfl rfl λK hK=>?_
       simp (disch:=omega) [zG21,cI,cS,cU,DtCmd.cells,cmdO,zbs,-aAppZ]
       repeat' first|(exfalso;omega)|(refine ⟨λ_=>?_,λ_=>?_⟩)|(refine ⟨by omega,?_⟩)|(simp (disch:=omega) [zG21,cI,cS,cU,DtCmd.cells,cmdO,zbs,-aAppZ])|(intro _)
       all_goals (refine hK _ ?_;clear hK K)
       all_goals
        refine zbo ?_
        refine zb6 rfl rfl λK hK=>?_
        simp (disch:=omega) [zG21,cI,cS,cU,DtCmd.cells,cmdO,zbs,-aAppZ]
        repeat' first|(refine ⟨by omega,?_⟩)|(intro _)
        refine hK _ ?_;clear hK K
        refine ⟨_,LeS.kx [(8,8),(501,576)] [(0,.ptr 8 0),(5,.arr 501 0 (cs++[y]).length),(6,(.g (.int .i64 (((n-1):Nat)))))] [(8,.cells (curC l (c4))),(501,.own 8 ((cs++[y]).map DtCmd.cells))] (by simp [zG22,KpR,renV2,renV,zbl,curC,DtCmd.cells,cmdO];try (first | with_reducible rfl | omega)) (by simp [zG22,KpOX,renO,plO,cvO,renV,pl1,curC,DtCmd.cells,cmdO];try (first | with_reducible rfl|(simp [DtCmd.cells,zbe];done) | trace_state)) (by rfl) (by simp) (by simp) (by rfl) (by simp [zG23,formsX]),_,?_,n-1,cs++[y],c4,rfl,?_,rfl⟩
        ·omega
        ·exact ⟨by simp;omega,λu hu=>by rcases List.mem_append.1 hu with hu | hu;exact hd u hu;rw [List.mem_singleton] at hu;subst hu;exact hy⟩
  ·try simp [zG24,zbd,zbc] at hc1
   all_goals
    refine zb0 ?_
    refine zbo ?_
    refine AW_x rfl rfl λK hK=>?_
    simp (disch:=omega) [zG21,cI,cS,cU,DtCmd.cells,cmdO,zbs,-aAppZ]
    repeat' first|(exfalso;omega)|(refine ⟨λ_=>?_,λ_=>?_⟩)|(refine ⟨by omega,?_⟩)|(simp (disch:=omega) [zG21,cI,cS,cU,DtCmd.cells,cmdO,zbs,-aAppZ])|(intro _)
    all_goals (refine hK _ ?_;clear hK K)
    all_goals
     refine zme (.arr 16 0 cs.length) [.cells (curC l c2)] [.own 8 (cs.map DtCmd.cells)] ?po (by simp) (by simp) (by simp [OB.xk]) (zb5 [501] [] (by simp [zG22,List.range_succ]) (by simp) ?en)
     case en =>
      simp (disch:=omega) [zG21,cI,cS,cU,DtCmd.cells,cmdO,zbs,-aAppZ]
      all_goals trace_state
     case po=>exact ⟨cs,c2,by omega,hd,rfl,rfl,rfl⟩
end Go.Proofs.Ytodmafgmdlkhoaa.Vs
end
section
namespace Go.Proofs.Ytodmafgmdlkhoaa.Vs
set_option linter.all false
set_option maxRecDepth 100000
set_option maxHeartbeats 2000000
theorem set_F{cs:List DtCmd}(h:∀x∈cs,CmdF x){i:Nat}{y:DtCmd}(hy:CmdF y):∀x∈cs.set i y,CmdF x:=by
 intro x hx
 rcases List.mem_or_eq_of_mem_set hx with hx | rfl
 ·exact h x hx
 ·exact hy
theorem l16Cmds(l:List Int)(hl:Code l)(c:Cur)(m:Nat)(hm:m≤1000)(hm0:0<m):XCallE Try.prog 51 [.ptr 8 0,(.g (.int .i64 ((m:Nat))))] [.cells (curC l c)] 1 (CmdsE l m):=by
 refine zfe Try.func51 (by rfl) (by rfl) (by rw [Try.ntmps51];exact Nat.le_of_ble_eq_true rfl) (by simp) rfl ?_
 rw [Try.ntmps51]
 refine zh1 (.cells (curC l c)) (by simp [cvO]<;>assumption) ?_
 refine AW_k [(0,_),(1,_)] ⟨rfl,rfl,trivial⟩ ?_
 refine AW_x rfl rfl λK hK=>?_
 simp (disch:=omega) [zG21,cI,cS,cU,DtCmd.cells]
 repeat' first|(refine ⟨by omega,?_⟩)|(intro _)
 refine hK _ ?_;clear hK K
 refine AW_x rfl rfl λK hK=>?_
 simp (disch:=omega) [zG21,cI,cS,cU,DtCmd.cells]
 repeat' first|(exfalso;omega)|(refine zt3 [8] false [] (l15Cmds l hl c m hm hm0) ?_ ?_ ?_;(focus (simp [List.range_succ,nmC];done));(focus (simp (disch:=omega) [zG21,cI,cS,cU,DtCmd.cells];done));rintro _ _ _ ⟨cs,c1,hlen,hd,rfl,rfl,rfl⟩;refine ⟨⟨by first | rfl|(simp;done),by first | rfl|(simp;done)⟩,?_⟩;simp (disch:=omega) [zG21,cI,cS,cU,DtCmd.cells])|(refine ⟨by omega,?_⟩)|(simp (disch:=omega) [zG21,cI,cS,cU,DtCmd.cells])|(intro _)
 refine hK _ ?_;clear hK K
 refine zbj ?_
 refine AW_x rfl rfl λK hK=>?_
 simp (disch:=omega) [zG21,cI,cS,cU,DtCmd.cells]
 repeat' first|(refine ⟨by omega,?_⟩)|(intro _)
 refine hK _ ?_;clear hK K
 refine zbn ?_
 have hcz:True:=trivial
 refine zbv (λmM sS=>∃(i:Nat) (cs2:List DtCmd) (c2:Cur),mM=cs.length-i∧(i≤cs.length∧cs2.length=cs.length∧∀x∈cs2,CmdF x)∧sS = { env:=lkE [(0,.ptr 8 0),(5,.arr 160 0 cs2.length),(6,(.g (.int .i64 ((i:Nat)))))],ob:=lk [(8,.cells (curC l c2)),(160,.own 8 (cs2.map DtCmd.cells))] }) ?_ ?_
 ·refine ⟨_,LeS.kx [(8,8),(160,160)] [(0,.ptr 8 0),(5,.arr 160 0 (cs).length),(6,(.g (.int .i64 (((0):Nat)))))] [(8,.cells (curC l (c1))),(160,.own 8 ((cs).map DtCmd.cells))] (by simp [zG22,KpR,renV2,renV,zbl,curC,hcz,setNo];try (first | with_reducible rfl | omega|(simp;done))) (by simp [zG22,KpOX,renO,plO,cvO,renV,pl1,curC,hcz,setNo];try (first | with_reducible rfl | exact congrArg (List.set _ _) rfl | trace_state)) (by rfl) (by simp) (by simp) (by rfl) (by simp [zG23,formsX]),_,0,cs,c1,rfl,?_,rfl⟩
  ·exact ⟨by omega,rfl,hd⟩
 ·rintro mM sS ⟨i,cs2,c2,rfl,⟨hi,hle,hd2⟩,rfl⟩
  refine zbj ?_
  refine AW_x rfl rfl λK hK=>?_
  simp (disch:=omega) [zG21,cI,cS,cU,DtCmd.cells]
  repeat' first|(refine ⟨by omega,?_⟩)|(simp (disch:=omega) [zG21,cI,cS,cU,DtCmd.cells])|(intro _)
  refine hK _ ?_;clear hK K
  refine zbi rfl (λhc1=>?_) (λhc1=>?_)
  ·try simp [zG24,zbd,zbc] at hc1
   all_goals
    have hi2:i<cs2.length:=by omega
    refine zbk ?_
    refine zbo ?_
    refine zbj ?_
    refine zbn ?_
    refine AW_x rfl rfl λK hK=>?_
    simp (disch:=omega) [zG21,cI,cS,cU,DtCmd.cells]
    repeat' first|(exfalso;omega)|(refine zc3 (λ_=>xs_p (xs_g xs_z)) (zko l hl _ _) rfl rfl ?_;simp (disch:=omega) [zG21,cI,cS,cU,DtCmd.cells])|(refine ⟨λ_=>?_,λ_=>?_⟩)|(refine ⟨by omega,?_⟩)|(simp (disch:=omega) [zG21,cI,cS,cU,DtCmd.cells])|(intro _)
    all_goals (refine hK _ ?_;clear hK K)
    all_goals
     refine zbi rfl (λhc2=>?_) (λhc2=>?_)
     ·try simp [zG24,zbd,zbc] at hc2
      all_goals
       refine zb6 rfl rfl λK hK=>?_
       simp (disch:=omega) [zG21,cI,cS,cU,DtCmd.cells]
       repeat' first|(exfalso;omega)|(refine ⟨λ_=>?_,λ_=>?_⟩)|(refine ⟨by omega,?_⟩)|(simp (disch:=omega) [zG21,cI,cS,cU,DtCmd.cells])|(intro _)
       all_goals (refine hK _ ?_;clear hK K)
       all_goals
        refine zbo ?_
        refine zb6 rfl rfl λK hK=>?_
        simp (disch:=omega) [zG21,cI,cS,cU,DtCmd.cells]
        repeat' first|(refine ⟨by omega,?_⟩)|(intro _)
        refine hK _ ?_;clear hK K
        have hcz:True:=trivial
        refine ⟨_,LeS.kx [(8,8),(160,160)] [(0,.ptr 8 0),(5,.arr 160 0 (cs2.set i (setNo cs2[i] (1+(i:Int)))).length),(6,(.g (.int .i64 (((i+1):Nat)))))] [(8,.cells (curC l (belowS l 5 c2))),(160,.own 8 ((cs2.set i (setNo cs2[i] (1+(i:Int)))).map DtCmd.cells))] (by simp [zG22,KpR,renV2,renV,zbl,curC,hcz,setNo];try (first | with_reducible rfl | omega|(simp;done))) (by simp [zG22,KpOX,renO,plO,cvO,renV,pl1,curC,hcz,setNo];try (first | with_reducible rfl | exact congrArg (List.set _ _) rfl | trace_state)) (by rfl) (by simp) (by simp) (by rfl) (by simp [zG23,formsX]),_,?_,i+1,cs2.set i (setNo cs2[i] (1+(i:Int))),belowS l 5 c2,rfl,?_,rfl⟩
        ·omega
        ·first | exact ⟨by omega,hle,hd2⟩ | exact ⟨by omega,by simp;omega,set_F hd2 (hd2 cs2[i] (List.getElem_mem _))⟩
     ·try simp [zG24,zbd,zbc] at hc2
      all_goals
       refine zbk ?_
       refine zbo ?_
       refine zb6 rfl rfl λK hK=>?_
       simp (disch:=omega) [zG21,cI,cS,cU,DtCmd.cells]
       repeat' first|(exfalso;omega)|(refine ⟨λ_=>?_,λ_=>?_⟩)|(refine ⟨by omega,?_⟩)|(simp (disch:=omega) [zG21,cI,cS,cU,DtCmd.cells])|(intro _)
       all_goals (refine hK _ ?_;clear hK K)
       all_goals
        first | have hE:∃cz,cz=belowS l 5 c2∧below l 5 c2=0:=⟨_,rfl,by assumption⟩ | have hE:∃cz,cz=c2∧True:=⟨_,rfl,trivial⟩
        obtain ⟨cz,hcz,-⟩:=hE
        refine ⟨_,LeS.kx [(8,8),(160,160)] [(0,.ptr 8 0),(5,.arr 160 0 (cs2).length),(6,(.g (.int .i64 (((i+1):Nat)))))] [(8,.cells (curC l (cz))),(160,.own 8 ((cs2).map DtCmd.cells))] (by simp [zG22,KpR,renV2,renV,zbl,curC,hcz,setNo];try (first | with_reducible rfl | omega|(simp;done))) (by simp [zG22,KpOX,renO,plO,cvO,renV,pl1,curC,hcz,setNo];try (first | with_reducible rfl | exact congrArg (List.set _ _) rfl | trace_state)) (by rfl) (by simp) (by simp) (by rfl) (by simp [zG23,formsX]),_,?_,i+1,cs2,cz,rfl,?_,rfl⟩
        ·omega
        ·first | exact ⟨by omega,hle,hd2⟩ | exact ⟨by omega,by simp;omega,set_F hd2 (hd2 cs2[i] (List.getElem_mem _))⟩
  ·try simp [zG24,zbd,zbc] at hc1
   all_goals
    refine zb0 ?_
    refine zbo ?_
    refine AW_x rfl rfl λK hK=>?_
    simp (disch:=omega) [zG21,cI,cS,cU,DtCmd.cells]
    repeat' first|(exfalso;omega)|(refine ⟨λ_=>?_,λ_=>?_⟩)|(refine ⟨by omega,?_⟩)|(simp (disch:=omega) [zG21,cI,cS,cU,DtCmd.cells])|(intro _)
    all_goals (refine hK _ ?_;clear hK K)
    all_goals
     refine zme (.arr 16 0 cs2.length) [.cells (curC l c2)] [.own 8 (cs2.map DtCmd.cells)] ?po (by simp) (by simp) (by simp [OB.xk]) (zb5 [160] [] (by simp [zG22,List.range_succ]) (by simp) ?en)
     case en =>
      simp (disch:=omega) [zG21,cI,cS,cU,DtCmd.cells]
      all_goals trace_state
     case po=>exact ⟨cs2,c2,by omega,hd2,rfl,rfl,rfl⟩
end Go.Proofs.Ytodmafgmdlkhoaa.Vs
end
section
namespace Go.Proofs.Ytodmafgmdlkhoaa.Vs
set_option linter.all false
set_option maxRecDepth 100000
set_option maxHeartbeats 2000000
theorem cmd_sz2(l:List DtCmd)(hs:szS DtCmd.sz l≤1048576)(i:Nat)(h:i<l.length):DtCmd.sz l[i]≤1048576:=by
 have h1:=zdk DtCmd.sz_nonneg l l[i] (List.getElem_mem _)
 unfold szS at hs;omega
attribute [local simp] DtState.cells DtCatalog.cells DtCmd.cells zbe and_assoc scR_cS cS List.range_succ
attribute [-simp] aAppC aAppZ
theorem specSplay(l:List DtCmd)(hs:szS DtCmd.sz l≤1048576)(hn:l.length≤1048576):XCall Try.prog 50 [.sl 8 (l.map DtCmd.cells)] [] (.tup [.agg [.arr 16 0 (splC l).fCat.fSets.length,.arr 17 0 (splC l).fSaid.length],.arr 18 0 l.length]) [] [.own 2 ((splC l).fCat.fSets.map DtCSet.cells),.own 3 ((splC l).fSaid.map DtSaid.cells),.own 1 ((splR l).map cS)]:=by
 refine zbt Try.func50 (by rfl) (by rfl) (by rw [Try.ntmps50];exact Nat.le_of_ble_eq_true rfl) rfl (by simp) rfl rfl ?_
 rw [Try.ntmps50]
 refine zhm   ?_
 refine AW_k [(0,_)] ⟨rfl,trivial⟩ ?_
 refine AW_x rfl rfl λK hK=>?_
 simp (disch:=omega)
 repeat' first|(refine ⟨by omega,?_⟩)|(intro _)
 refine hK _ ?_;clear hK K
 refine AW_x rfl rfl λK hK=>?_
 simp (disch:=omega)
 repeat' first|(refine ⟨by omega,?_⟩)|(simp (disch:=omega))|(intro _)
 refine hK _ ?_;clear hK K
 refine AW_x rfl rfl λK hK=>?_
 simp (disch:=omega)
 repeat' first|(refine ⟨by omega,?_⟩)|(simp (disch:=omega))|(intro _)
 refine hK _ ?_;clear hK K
 refine zbj ?_
 refine AW_x rfl rfl λK hK=>?_
 simp (disch:=omega)
 repeat' first|(refine ⟨by omega,?_⟩)|(intro _)
 refine hK _ ?_;clear hK K
 refine zbn ?_
 refine zbv (λmM sS=>∃(i:Nat),mM=l.length-i∧(i≤l.length)∧sS = { env:=lkE [(0,.sl 8 (l.map DtCmd.cells)),(2,.ptr 48 0),(4,.ptr 80 0),(5,.arr 501 0 i),(6,(.g (.int .i64 ((i:Nat)))))],ob:=lk [(48,.cells [.g (.slice none 0 0),.g (.slice none 0 0)]),(80,.cells [.arr 500 0 (splC (l.take i)).fCat.fSets.length,.arr 502 0 (splC (l.take i)).fSaid.length]),(500,.own 2 ((splC (l.take i)).fCat.fSets.map DtCSet.cells)),(502,.own 3 ((splC (l.take i)).fSaid.map DtSaid.cells)),(501,.win 1 ((splR (l.take i)).map cS))] }) ?_ ?_
 ·refine ⟨_,LeS.trans (LeS.znc (cs:=[.g (.slice none 0 0),.g (.slice none 0 0)]) 500 2 80 0 (by simp [zG22,zbl]) (by simp [zG22,zbl]) (by rfl)) (LeS.trans (LeS.znc (cs:=[.arr 500 0 0,.g (.slice none 0 0)]) 502 3 80 1 (by simp [zG22,zbl]) (by simp [zG22,zbl]) (by rfl)) (LeS.kx [(48,48),(80,80),(500,500),(502,502),(501,176)] [(0,.sl 8 (l.map DtCmd.cells)),(2,.ptr 48 0),(4,.ptr 80 0),(5,.arr 501 0 (0)),(6,(.g (.int .i64 (((0):Nat)))))] [(48,.cells [.g (.slice none 0 0),.g (.slice none 0 0)]),(80,.cells [.arr 500 0 (splC (l.take (0))).fCat.fSets.length,.arr 502 0 (splC (l.take (0))).fSaid.length]),(500,.own 2 ((splC (l.take (0))).fCat.fSets.map DtCSet.cells)),(502,.own 3 ((splC (l.take (0))).fSaid.map DtSaid.cells)),(501,.win 1 ((splR (l.take (0))).map cS))] (by simp [zG22,KpR,renV2,renV,zbl];first | omega|(rw [htc];done)|(rw [htc];rfl) | trace_state) (by simp [zG22,KpOX,renO,plO,cvO,renV,pl1];first | rfl | exact ⟨⟨rfl,rfl⟩,rfl,rfl,rfl⟩ | exact ⟨rfl,rfl,rfl,rfl,rfl⟩|(rw [htc,htr];simp [cS];done) | trace_state) (by rfl) (by simp) (by simp) (by rfl) (by simp [zG23,formsX]))),_,0,rfl,?_,rfl⟩
  ·simp
 ·rintro mM sS ⟨i,rfl,hi,rfl⟩
  refine zbj ?_
  refine AW_x rfl rfl λK hK=>?_
  simp (disch:=omega)
  repeat' first|(refine ⟨by omega,?_⟩)|(simp (disch:=omega))|(intro _)
  refine hK _ ?_;clear hK K
  refine zbi rfl (λhc1=>?_) (λhc1=>?_)
  ·try simp [zG24,zbd,zbc] at hc1
   all_goals
    have ⟨htc,htr⟩:=spl_take l i (by omega)
    have hrl:=splR_lenT l i hi
    refine zbk ?_
    refine zbo ?_
    refine zbj ?_
    refine zbn ?_
    refine AW_d rfl mix (by kernel_rfl) (by kernel_rfl) λK hK=>?_
    simp (disch:=omega)
    repeat' first|(exfalso;omega)|(refine zr7 [] true [] (zh6 (splC (l.take i)) l[i] (splC_sz _) (cmd_sz2 l hs i (by omega))) ?_ (λst' hst=>?_) ?_;(focus (simp [List.range_succ,nmC];done));(focus (simp (disch:=omega) [nmC,List.range_succ] at hst;simp (disch:=omega) [hst,zbe,nmC,List.range_succ];done));simp (disch:=omega))|(refine ⟨λ_=>?_,λ_=>?_⟩)|(refine ⟨by omega,?_⟩)|(simp (disch:=omega))|(intro _)
    all_goals (refine hK _ _ (by kernel_rfl) ?_;clear hK K)
    all_goals
     refine AW_x rfl rfl λK hK=>?_
     simp (disch:=omega)
     repeat' first|(refine ⟨by omega,?_⟩)|(simp (disch:=omega))|(intro _)
     refine hK _ ?_;clear hK K
     refine zb6 rfl rfl λK hK=>?_
     simp (disch:=omega)
     repeat' first|(refine ⟨by omega,?_⟩)|(simp (disch:=omega))|(intro _)
     refine hK _ ?_;clear hK K
     refine zbo ?_
     refine zb6 rfl rfl λK hK=>?_
     simp (disch:=omega)
     repeat' first|(refine ⟨by omega,?_⟩)|(intro _)
     refine hK _ ?_;clear hK K
     refine ⟨_,LeS.kx [(48,48),(80,80),(500,384),(502,385),(501,496)] [(0,.sl 8 (l.map DtCmd.cells)),(2,.ptr 48 0),(4,.ptr 80 0),(5,.arr 501 0 (i+1)),(6,(.g (.int .i64 (((i+1):Nat)))))] [(48,.cells [.g (.slice none 0 0),.g (.slice none 0 0)]),(80,.cells [.arr 500 0 (splC (l.take (i+1))).fCat.fSets.length,.arr 502 0 (splC (l.take (i+1))).fSaid.length]),(500,.own 2 ((splC (l.take (i+1))).fCat.fSets.map DtCSet.cells)),(502,.own 3 ((splC (l.take (i+1))).fSaid.map DtSaid.cells)),(501,.win 1 ((splR (l.take (i+1))).map cS))] (by simp [zG22,KpR,renV2,renV,zbl];first | omega|(rw [htc];done)|(rw [htc];rfl) | trace_state) (by simp [zG22,KpOX,renO,plO,cvO,renV,pl1];first | rfl | exact ⟨⟨rfl,rfl⟩,rfl,rfl,rfl⟩ | exact ⟨rfl,rfl,rfl,rfl,rfl⟩|(rw [htc,htr];simp [cS];done) | trace_state) (by rfl) (by simp) (by simp) (by rfl) (by simp [zG23,formsX]),_,?_,i+1,rfl,?_,rfl⟩
     ·omega
     ·omega
  try simp [zG24,zbd,zbc] at hc1
  have hil:i=l.length:=by omega
  refine zb0 ?_
  refine zbo ?_
  refine AW_x rfl rfl λK hK=>?_
  simp (disch:=omega)
  repeat' first|(exfalso;omega)|(refine ⟨λ_=>?_,λ_=>?_⟩)|(refine ⟨by omega,?_⟩)|(simp (disch:=omega))|(intro _)
  all_goals (refine hK _ ?_;clear hK K)
  all_goals
   refine zbp (zb5 [500,502,501] [] (by simp [zG22,List.range_succ]) (by simp) ?_)
   simp (disch:=omega)
   all_goals first|(subst hil;rw [List.take_length];exact ⟨rfl,rfl,rfl,rfl,rfl,rfl⟩) | trace_state
end Go.Proofs.Ytodmafgmdlkhoaa.Vs
end
section
namespace Go.Proofs.Ytodmafgmdlkhoaa.Vs
set_option linter.all false
set_option maxRecDepth 100000
set_option maxHeartbeats 2000000
theorem zxn{x:DtCmd}(h:CmdF x):DtCmd.sz x≤200:=by
 obtain ⟨⟨h1,-⟩,h2,h3,h4,h5⟩:=h
 have key:∀(xs:List (List UInt8)),(∀t∈xs,t.length≤16)→sumZ lenZ xs≤16*xs.length:=by
  intro xs
  induction xs with
  | nil=>intro _;simp [zgw]
  | cons x xs ih =>
   intro h
   have ih:=ih λt ht=>h t (List.mem_cons_of_mem _ ht)
   have:=h x List.mem_cons_self
   rw [zc4]
   simp only [lenZ,List.length_cons] at *
   omega
 have:=key _ h5
 unfold DtCmd.sz szS
 omega
theorem cmdsF_sz{cs:List DtCmd}(h:∀x∈cs,CmdF x):szS DtCmd.sz cs≤201*cs.length:=by
 induction cs with
 | nil=>simp [szS,zgw]
 | cons x cs ih =>
  have h1:=ih λt ht=>h t (List.mem_cons_of_mem _ ht)
  have h2:=zxn (h x List.mem_cons_self)
  unfold szS at h1 ⊢
  rw [zc4]
  simp only [List.length_cons] at *
  omega
section
variable {fs:List Nat}{st:St}
/-- A cell of an own row's element that holds a nil row, told as an empty row. -/
theorem LeS.nilW(m i j sz:Nat){s:Nat}{zs ys:List (List AV)}{x:List AV}(hm:st.ob m=some (.win s zs))(hi:zs[i]? = some x)(hj:x[j]? = some (.g (.slice none 0 0)))(hy:ys=zs.set i (x.set j (.sl sz []))):LeS fs st { st with ob:=upd st.ob m (some (.win s ys)) }:=by
 subst hy
 rintro C a w hfs ⟨I,β,φ,hC⟩
 have hdom:∀k,upd st.ob m (some (OB.win s (zs.set i (x.set j (.sl sz []))))) k=none→st.ob k=none:=by
  intro k h
  by_cases e:k=m
  ·subst e;simp [zbh] at h
  ·rwa [zbb _ _ e] at h
 refine ⟨I,β,φ,hC.move (λ_=>False) (Evo.refl _ w) (λ_ hf=>hf.elim) (λ_ hb=>hb) (λ_ hb=>.inl hb) (λ_ _ h=>h) ?_ (λk h=>hC.dom k (hdom k h)) (λk h=>hC.fdom k (hdom k h)) hC.sep hC.nimm hC.flt ?_ ?_⟩
 ·intro k o h
  by_cases e:k=m
  ·subst e
   simp only [zbh,Option.some.injEq] at h
   subst h
   obtain ⟨bl,b1,b2,b3,b4,b5⟩:=hC.ob k _ hm
   refine .inr ⟨bl,b1,b2,b3,by simpa using b4,b5.imp id ?_⟩
   rintro ⟨c1,c2,c3⟩
   refine ⟨c1,c2,?_⟩
   rw [zgd] at c3 ⊢
   intro p y hp
   rw [List.getElem?_set] at hp
   by_cases hip:i=p
   ·subst hip
    rw [if_pos rfl] at hp
    have hlt:=(List.getElem?_eq_some_iff.1 hi).1
    rw [if_pos hlt] at hp;cases hp
    obtain ⟨d1,d2⟩:=c3 i x hi
    refine ⟨by simpa using d1,?_⟩
    rw [zd4] at d2 ⊢
    intro q c hc
    rw [List.getElem?_set] at hc
    by_cases hq:j=q
    ·subst hq
     have hlt2:=(List.getElem?_eq_some_iff.1 hj).1
     rw [if_pos rfl,if_pos hlt2] at hc;cases hc
     obtain ⟨v,h1,h2,h3⟩:=d2 j _ hj
     have hri:RI w I (.sl sz []) v:=by
      cases h2
      rw [RI]
      exact ⟨none,0,rfl,by simp,.inl rfl⟩
     exact ⟨v,h1,zlp _ _ hri,h3⟩
    ·rw [if_neg hq] at hc;exact d2 q c hc
   ·rw [if_neg hip] at hp;exact c3 p y hp
  ·rw [zbb _ _ e] at h
   exact .inl ⟨h,rfl,λ_ _ hf=>hf⟩
 ·intro k o h hwr b hb
  by_cases e:k=m
  ·subst e;exact hC.wok k _ hm rfl b hb
  ·rw [zbb _ _ e] at h;exact hC.wok k o h hwr b hb
 ·intro k s ys h b hb
  by_cases e:k=m
  ·subst e;simp [zbh] at h
  ·rw [zbb _ _ e] at h;exact hC.fnew k s ys h b hb
end
def StG(s:DtState):Prop:=DtState.sz s≤20000∧NoOld s.fCat
theorem stG_spl{cs:List DtCmd}(h:∀x∈cs,CmdF x):StG (splC cs):=⟨by have:=stI_sz (zvx cs);omega,noOld_spl cs λx hx=>(h x hx).1.2⟩
def addSaid(s:DtState)(x:DtSaid):DtState:={ s with fSaid:=s.fSaid++[x] }
def addSet(s:DtState):DtState:={ s with fCat:={ fSets:=s.fCat.fSets++[⟨[],[]⟩] } }
def setSaid(s:DtState)(h:0<s.fSaid.length)(n:Int):DtState:={ s with fSaid:=s.fSaid.set 0 { s.fSaid[0] with fNo:=n } }
theorem zxo{α:Type}(f:α→Int)(l:List α)(x:α):szS f (l++[x])=szS f l+f x+1:=by
 unfold szS
 have:∀l:List α,sumZ f (l++[x])=sumZ f l+f x:=by
  intro l
  induction l with
  | nil=>simp [zgw,zc4]
  | cons y l ih=>rw [List.cons_append,zc4,zc4,ih];omega
 rw [this]
 simp only [List.length_append,List.length_cons,List.length_nil]
 omega
theorem zjw{s:DtState}(h:StG s)(a b:Int)(hs:DtState.sz s≤10000):StG (addSaid s ⟨a,b,[]⟩):=by
 refine ⟨?_,h.2⟩
 have:=zxo DtSaid.sz s.fSaid ⟨a,b,[]⟩
 simp only [DtState.sz,addSaid] at hs ⊢
 rw [this]
 have:DtSaid.sz ⟨a,b,[]⟩≤100:=by simp [DtSaid.sz]
 omega
theorem znd{s:DtState}(h:StG s)(hs:DtState.sz s≤10000):StG (addSet s):=by
 refine ⟨?_,λx hx=>?_⟩
 ·have:=zxo DtCSet.sz s.fCat.fSets ⟨[],[]⟩
  simp only [DtState.sz,DtCatalog.sz,addSet] at hs ⊢
  rw [this]
  have:DtCSet.sz ⟨[],[]⟩≤100:=by simp [DtCSet.sz,szS,zgw]
  omega
 ·rcases List.mem_append.1 hx with hx | hx
  ·exact h.2 x hx
  ·rw [List.mem_singleton] at hx;subst hx;simp [bOld]
theorem szS_set0(l:List DtSaid)(h:0<l.length)(x:DtSaid)(hx:DtSaid.sz x=DtSaid.sz l[0]):szS DtSaid.sz (l.set 0 x)=szS DtSaid.sz l:=by
 cases l with
 | nil=>simp at h
 | cons y l =>
  have hx:DtSaid.sz x=DtSaid.sz y:=hx
  simp only [List.set_cons_zero,szS,zc4,List.length_cons,hx]
theorem zvy{s:DtState}(h:DtState.sz s≤20000):s.fSaid.length≤20000∧s.fCat.fSets.length≤20000:=by
 have h1:=zcd DtSaid.sz_nonneg s.fSaid
 have h2:=zcd DtCSet.sz_nonneg s.fCat.fSets
 simp only [DtState.sz,DtCatalog.sz,szS] at h
 constructor<;>omega
theorem zsx{s:DtState}(h:StG s)(h0:0<s.fSaid.length)(n:Int):StG (setSaid s h0 n):=by
 refine ⟨?_,h.2⟩
 have e:=szS_set0 s.fSaid h0 { s.fSaid[0] with fNo:=n } rfl
 have:=h.1
 simp only [DtState.sz,setSaid] at this ⊢
 rw [e];exact this
theorem immS(ls:List DtCSet):immR (ls.map DtCSet.cells)=true:=immR_map _ (λ_=>rfl) ls
theorem zcn(l:List DtSaid):scR (l.map DtSaid.cells)=true:=zd2 DtSaid.cells (λ_=>rfl) l
def SomeE(l:List Int)(r:AV)(wos' fos:List OB):Prop:=∃(s:DtState) (c':Cur),StG s∧r=.agg (DtState.cells s)∧wos'=[.cells (curC l c')]∧fos=[]
theorem l16Some(l:List Int)(hl:Code l)(c:Cur):XCallE Try.prog 23 [.ptr 8 0] [.cells (curC l c)] 0 (SomeE l):=by
 refine zf3 Try.func23 (by rfl) (by rfl) (by rw [Try.ntmps23];exact Nat.le_of_ble_eq_true rfl) (by simp) rfl rfl ?_
 rw [Try.ntmps23]
 refine AW_y1 (.cells (curC l c)) (by simp [cvO]<;>assumption) ?_
 refine AW_k [(0,_)] ⟨rfl,trivial⟩ ?_
 refine AW_x rfl rfl λK hK=>?_
 simp (disch:=omega) [zG21,cI,cS,cU,DtSaid.cells,DtCSet.cells,DtState.cells,DtCatalog.cells,zcn,zbs,-aAppZ]
 repeat' first|(refine ⟨by omega,?_⟩)|(intro _)
 refine hK _ ?_;clear hK K
 refine AW_x rfl rfl λK hK=>?_
 simp (disch:=omega) [zG21,cI,cS,cU,DtSaid.cells,DtCSet.cells,DtState.cells,DtCatalog.cells,zcn,zbs,-aAppZ]
 repeat' first|(exfalso;omega)|(refine zt3 [8] false [] (l16Cmds l hl c 20 (by omega) (by omega)) ?_ ?_ ?_;(focus (simp [List.range_succ,nmC];done));(focus (simp (disch:=omega) [zG21,cI,cS,cU,DtSaid.cells,DtCSet.cells,DtState.cells,DtCatalog.cells,zcn,zbs,-aAppZ];done));rintro _ _ _ ⟨cs,c1,hlen,hd,rfl,rfl,rfl⟩;refine ⟨⟨by first | rfl|(simp;done),by first | rfl|(simp;done)⟩,?_⟩;simp (disch:=omega) [zG21,cI,cS,cU,DtSaid.cells,DtCSet.cells,DtState.cells,DtCatalog.cells,zcn,zbs,-aAppZ])|(refine zc9 [] true [] (specSplay cs (by have:=cmdsF_sz hd;omega) (by omega)) ?_ ?_ ?_;(focus (simp [List.range_succ,nmC];done));(focus (simp (disch:=omega) [zG21,cI,cS,cU,DtSaid.cells,DtCSet.cells,DtState.cells,DtCatalog.cells,zcn,zbs,-aAppZ];done));simp (disch:=omega) [zG21,cI,cS,cU,DtSaid.cells,DtCSet.cells,DtState.cells,DtCatalog.cells,zcn,zbs,-aAppZ])|(refine ⟨by omega,?_⟩)|(simp (disch:=omega) [zG21,cI,cS,cU,DtSaid.cells,DtCSet.cells,DtState.cells,DtCatalog.cells,zcn,zbs,-aAppZ])|(intro _)
 refine hK _ ?_;clear hK K
 refine zf2 (λsS=>∃(s2:DtState) (c3:Cur),(StG s2)∧sS = { env:=lkE [(2,.ptr 48 0),(3,.ptr 64 0)],ob:=lk [(8,.cells (curC l c3)),(48,.cells [.g (.slice none 0 0),.g (.slice none 0 0)]),(64,.cells [.arr 501 0 s2.fCat.fSets.length,.arr 502 0 s2.fSaid.length]),(501,.win 2 (s2.fCat.fSets.map DtCSet.cells)),(502,.own 3 (s2.fSaid.map DtSaid.cells))] }) ?_ ?_
 ·skip
  have hG:=stG_spl hd
  have hI:=stI_sz (zvx cs)
  obtain ⟨s,hs⟩:∃s,splC cs=s:=⟨_,rfl⟩
  rw [hs] at hG hI
  simp only [hs]
  have hL:=zvy hG.1
  refine zdp (LeS.frzN 144 (sz:=2) (xs:=s.fCat.fSets.map DtCSet.cells) (zxm (cs:=curC l c1) (by simp [zG22,updL])) (by simp [formsX,List.range_succ]) (by simp [zG22,updL])) ?_
  refine AW_x rfl rfl λK hK=>?_
  simp (disch:=omega) [zG21,cI,cS,cU,DtSaid.cells,DtCSet.cells,DtState.cells,DtCatalog.cells,zcn,zbs,-aAppZ]
  repeat' first|(exfalso;omega)|(refine zc3 (λ_=>xs_p (xs_g xs_z)) (zko l hl _ _) rfl rfl ?_;simp (disch:=omega) [zG21,cI,cS,cU,DtSaid.cells,DtCSet.cells,DtState.cells,DtCatalog.cells,zcn,zbs,-aAppZ])|(refine ⟨by omega,?_⟩)|(simp (disch:=omega) [zG21,cI,cS,cU,DtSaid.cells,DtCSet.cells,DtState.cells,DtCatalog.cells,zcn,zbs,-aAppZ])|(intro _)
  refine hK _ ?_;clear hK K
  refine zbi rfl (λhc1=>?_) (λhc1=>?_)
  ·try simp [zG24,zbd,zbc] at hc1
   all_goals
    refine AW_x rfl rfl λK hK=>?_
    simp (disch:=omega) [zG21,cI,cS,cU,DtSaid.cells,DtCSet.cells,DtState.cells,DtCatalog.cells,zcn,zbs,-aAppZ]
    repeat' first|(exfalso;omega)|(refine zc3 (λ_=>xs_p (xs_g xs_z)) (zdx l hl _ _) rfl rfl ?_;simp (disch:=omega) [zG21,cI,cS,cU,DtSaid.cells,DtCSet.cells,DtState.cells,DtCatalog.cells,zcn,zbs,-aAppZ])|(refine ⟨λ_=>?_,λ_=>?_⟩)|(refine ⟨by omega,?_⟩)|(simp (disch:=omega) [zG21,cI,cS,cU,DtSaid.cells,DtCSet.cells,DtState.cells,DtCatalog.cells,zcn,zbs,-aAppZ])|(intro _)
    all_goals (refine hK _ ?_;clear hK K)
    all_goals
     refine zbn ?_
     refine AW_x rfl rfl λK hK=>?_
     simp (disch:=omega) [zG21,cI,cS,cU,DtSaid.cells,DtCSet.cells,DtState.cells,DtCatalog.cells,zcn,zbs,-aAppZ]
     repeat' first|(refine ⟨by omega,?_⟩)|(intro _)
     refine hK _ ?_;clear hK K
     refine zbi rfl (λhc2=>?_) (λhc2=>?_)
     ·try simp [zG24,zbd,zbc] at hc2
      all_goals
       have hb10:=zdh l 10 (belowS l 3 (belowS l 10 c1))
       refine zhn rfl mix (by kernel_rfl) (by kernel_rfl) λK hK=>?_
       simp (disch:=omega) [zG21,cI,cS,cU,DtSaid.cells,DtCSet.cells,DtState.cells,DtCatalog.cells,zcn,zbs,-aAppZ]
       repeat' first|(exfalso;omega)|(refine zmn (λ_=>xs_p (xs_g xs_z)) (zdx l hl _ _) rfl rfl ?_;simp (disch:=omega) [zG21,cI,cS,cU,DtSaid.cells,DtCSet.cells,DtState.cells,DtCatalog.cells,zcn,zbs,-aAppZ])|(refine ⟨λ_=>?_,λ_=>?_⟩)|(refine ⟨by omega,?_⟩)|(simp (disch:=omega) [zG21,cI,cS,cU,DtSaid.cells,DtCSet.cells,DtState.cells,DtCatalog.cells,zcn,zbs,-aAppZ])|(intro _)
       all_goals (refine hK _ _ (by kernel_rfl) ?_;clear hK K)
       all_goals
        refine ⟨_,LeS.kw [(8,8),(48,48),(64,64),(501,144),(502,576)] [(2,.ptr 48 0),(3,.ptr 64 0)] [(8,.cells (curC l (belowS l 10 (belowS l 3 (belowS l 10 c1))))),(48,.cells [.g (.slice none 0 0),.g (.slice none 0 0)]),(64,.cells [.arr 501 0 (addSaid s ⟨1+below l 10 (belowS l 3 (belowS l 10 c1)),3,[]⟩).fCat.fSets.length,.arr 502 0 (addSaid s ⟨1+below l 10 (belowS l 3 (belowS l 10 c1)),3,[]⟩).fSaid.length]),(501,.win 2 ((addSaid s ⟨1+below l 10 (belowS l 3 (belowS l 10 c1)),3,[]⟩).fCat.fSets.map DtCSet.cells)),(502,.own 3 ((addSaid s ⟨1+below l 10 (belowS l 3 (belowS l 10 c1)),3,[]⟩).fSaid.map DtSaid.cells))] (by simp [zG22,KpR,renV2,renV,zbl,curC,zdz,immS,addSaid,addSet,setSaid,DtSaid.cells,DtCSet.cells,zcn];try (first | with_reducible rfl | omega|(simp;done))) (by simp [zG22,KpOW,wnO,renO,plO,cvO,renV,pl1,curC,zdz,immS,addSaid,addSet,setSaid,DtSaid.cells,DtCSet.cells,zcn];try (first | with_reducible rfl|(simp [DtSaid.cells,zcn,zbe];done) | exact .inr (zdz (immS _)) | exact .inr (zdz (by rw [zjm,immS];rfl)) | trace_state)) (by rfl) (by simp) (by simp) (by rfl) (by simp [zG23,formsX]),addSaid s ⟨1+below l 10 (belowS l 3 (belowS l 10 c1)),3,[]⟩,belowS l 10 (belowS l 3 (belowS l 10 c1)),?_,rfl⟩
        ·first | exact hG | exact zjw hG _ _ hI | exact znd hG hI | exact zsx hG _ _
     ·try simp [zG24,zbd,zbc] at hc2
      all_goals
       refine AW_x rfl rfl λK hK=>?_
       simp (disch:=omega) [zG21,cI,cS,cU,DtSaid.cells,DtCSet.cells,DtState.cells,DtCatalog.cells,zcn,zbs,-aAppZ]
       repeat' first|(exfalso;omega)|(refine ⟨λ_=>?_,λ_=>?_⟩)|(refine ⟨by omega,?_⟩)|(simp (disch:=omega) [zG21,cI,cS,cU,DtSaid.cells,DtCSet.cells,DtState.cells,DtCatalog.cells,zcn,zbs,-aAppZ])|(intro _)
       all_goals (refine hK _ ?_;clear hK K)
       all_goals
        refine zbi rfl (λhc3=>?_) (λhc3=>?_)
        ·try simp [zG24,zbd,zbc] at hc3
         all_goals
          refine zb6 rfl rfl λK hK=>?_
          simp (disch:=omega) [zG21,cI,cS,cU,DtSaid.cells,DtCSet.cells,DtState.cells,DtCatalog.cells,zcn,zbs,-aAppZ]
          repeat' first|(exfalso;omega)|(refine ⟨λ_=>?_,λ_=>?_⟩)|(refine ⟨by omega,?_⟩)|(simp (disch:=omega) [zG21,cI,cS,cU,DtSaid.cells,DtCSet.cells,DtState.cells,DtCatalog.cells,zcn,zbs,-aAppZ])|(intro _)
          all_goals (refine hK _ ?_;clear hK K)
          all_goals
           refine ⟨_,LeS.trans (LeS.nilW 720 s.fCat.fSets.length 1 3 (s:=2) (zs:=s.fCat.fSets.map DtCSet.cells++[[.s [],.g (.slice none 0 0)]]) (ys:=(s.fCat.fSets++[DtCSet.mk [] []]).map DtCSet.cells) (x:=[.s [],.g (.slice none 0 0)]) (by simp [zG22,updL,zbe]) (by simp) rfl (by simp [DtCSet.cells])) (LeS.kw [(8,8),(48,48),(64,64),(501,720),(502,145)] [(2,.ptr 48 0),(3,.ptr 64 0)] [(8,.cells (curC l (belowS l 3 (belowS l 10 c1)))),(48,.cells [.g (.slice none 0 0),.g (.slice none 0 0)]),(64,.cells [.arr 501 0 (addSet s).fCat.fSets.length,.arr 502 0 (addSet s).fSaid.length]),(501,.win 2 ((addSet s).fCat.fSets.map DtCSet.cells)),(502,.own 3 ((addSet s).fSaid.map DtSaid.cells))] (by simp [zG22,KpR,renV2,renV,zbl,curC,zdz,immS,addSaid,addSet,setSaid,DtSaid.cells,DtCSet.cells,zcn];try (first | with_reducible rfl | omega|(simp;done))) (by simp [zG22,KpOW,wnO,renO,plO,cvO,renV,pl1,curC,zdz,immS,addSaid,addSet,setSaid,DtSaid.cells,DtCSet.cells,zcn];try (first | with_reducible rfl|(simp [DtSaid.cells,zcn,zbe];done) | exact .inr (zdz (immS _)) | exact .inr (zdz (by rw [zjm,immS];rfl)) | trace_state)) (by rfl) (by simp) (by simp) (by rfl) (by simp [zG23,formsX])),addSet s,belowS l 3 (belowS l 10 c1),?_,rfl⟩
           ·first | exact hG | exact zjw hG _ _ hI | exact znd hG hI | exact zsx hG _ _
        ·try simp [zG24,zbd,zbc] at hc3
         all_goals
          refine AW_x rfl rfl λK hK=>?_
          simp (disch:=omega) [zG21,cI,cS,cU,DtSaid.cells,DtCSet.cells,DtState.cells,DtCatalog.cells,zcn,zbs,-aAppZ]
          repeat' first|(exfalso;omega)|(refine ⟨λ_=>?_,λ_=>?_⟩)|(refine ⟨by omega,?_⟩)|(simp (disch:=omega) [zG21,cI,cS,cU,DtSaid.cells,DtCSet.cells,DtState.cells,DtCatalog.cells,zcn,zbs,-aAppZ])|(intro _)
          all_goals (refine hK _ ?_;clear hK K)
          all_goals
           refine zbi rfl (λhc4=>?_) (λhc4=>?_)
           ·try simp [zG24,zbd,zbc] at hc4
            all_goals
             refine zhn rfl mix (by kernel_rfl) (by kernel_rfl) λK hK=>?_
             simp (disch:=omega) [zG21,cI,cS,cU,DtSaid.cells,DtCSet.cells,DtState.cells,DtCatalog.cells,zcn,zbs,-aAppZ]
             repeat' first|(exfalso;omega)|(refine zwv (λ_=>xs_p (xs_a xs_z)) (zcz l hl _ [0,1000,1001] (by simp)) rfl rfl rfl (by decide) rfl ?_;simp (disch:=omega) [zG21,cI,cS,cU,DtSaid.cells,DtCSet.cells,DtState.cells,DtCatalog.cells,zcn,zbs,-aAppZ])|(refine ⟨λ_=>?_,λ_=>?_⟩)|(refine ⟨by omega,?_⟩)|(simp (disch:=omega) [zG21,cI,cS,cU,DtSaid.cells,DtCSet.cells,DtState.cells,DtCatalog.cells,zcn,zbs,-aAppZ])|(intro _)
             all_goals (refine hK _ _ (by kernel_rfl) ?_;clear hK K)
             all_goals
              refine ⟨_,LeS.kw [(8,8),(48,48),(64,64),(501,144),(502,145)] [(2,.ptr 48 0),(3,.ptr 64 0)] [(8,.cells (curC l (belowS l 3 (belowS l 3 (belowS l 10 c1))))),(48,.cells [.g (.slice none 0 0),.g (.slice none 0 0)]),(64,.cells [.arr 501 0 (setSaid s (by omega) (pickZ [0,1000,1001] (below l 3 (belowS l 3 (belowS l 10 c1))))).fCat.fSets.length,.arr 502 0 (setSaid s (by omega) (pickZ [0,1000,1001] (below l 3 (belowS l 3 (belowS l 10 c1))))).fSaid.length]),(501,.win 2 ((setSaid s (by omega) (pickZ [0,1000,1001] (below l 3 (belowS l 3 (belowS l 10 c1))))).fCat.fSets.map DtCSet.cells)),(502,.own 3 ((setSaid s (by omega) (pickZ [0,1000,1001] (below l 3 (belowS l 3 (belowS l 10 c1))))).fSaid.map DtSaid.cells))] (by simp [zG22,KpR,renV2,renV,zbl,curC,zdz,immS,addSaid,addSet,setSaid,DtSaid.cells,DtCSet.cells,zcn];try (first | with_reducible rfl | omega|(simp;done))) (by simp [zG22,KpOW,wnO,renO,plO,cvO,renV,pl1,curC,zdz,immS,addSaid,addSet,setSaid,DtSaid.cells,DtCSet.cells,zcn];try (first | with_reducible rfl|(simp [DtSaid.cells,zcn,zbe];done) | exact .inr (zdz (immS _)) | exact .inr (zdz (by rw [zjm,immS];rfl)) | trace_state)) (by rfl) (by simp) (by simp) (by rfl) (by simp [zG23,formsX]),setSaid s (by omega) (pickZ [0,1000,1001] (below l 3 (belowS l 3 (belowS l 10 c1)))),belowS l 3 (belowS l 3 (belowS l 10 c1)),?_,rfl⟩
              ·first | exact hG | exact zjw hG _ _ hI | exact znd hG hI | exact zsx hG _ _
           ·try simp [zG24,zbd,zbc] at hc4
            all_goals
             refine zbk ?_
             refine ⟨_,LeS.kw [(8,8),(48,48),(64,64),(501,144),(502,145)] [(2,.ptr 48 0),(3,.ptr 64 0)] [(8,.cells (curC l (belowS l 3 (belowS l 10 c1)))),(48,.cells [.g (.slice none 0 0),.g (.slice none 0 0)]),(64,.cells [.arr 501 0 (s).fCat.fSets.length,.arr 502 0 (s).fSaid.length]),(501,.win 2 ((s).fCat.fSets.map DtCSet.cells)),(502,.own 3 ((s).fSaid.map DtSaid.cells))] (by simp [zG22,KpR,renV2,renV,zbl,curC,zdz,immS,addSaid,addSet,setSaid,DtSaid.cells,DtCSet.cells,zcn];try (first | with_reducible rfl | omega|(simp;done))) (by simp [zG22,KpOW,wnO,renO,plO,cvO,renV,pl1,curC,zdz,immS,addSaid,addSet,setSaid,DtSaid.cells,DtCSet.cells,zcn];try (first | with_reducible rfl|(simp [DtSaid.cells,zcn,zbe];done) | exact .inr (zdz (immS _)) | exact .inr (zdz (by rw [zjm,immS];rfl)) | trace_state)) (by rfl) (by simp) (by simp) (by rfl) (by simp [zG23,formsX]),s,belowS l 3 (belowS l 10 c1),?_,rfl⟩
             ·first | exact hG | exact zjw hG _ _ hI | exact znd hG hI | exact zsx hG _ _
  ·try simp [zG24,zbd,zbc] at hc1
   all_goals
    refine zbk ?_
    refine ⟨_,LeS.kw [(8,8),(48,48),(64,64),(501,144),(502,145)] [(2,.ptr 48 0),(3,.ptr 64 0)] [(8,.cells (curC l (belowS l 10 c1))),(48,.cells [.g (.slice none 0 0),.g (.slice none 0 0)]),(64,.cells [.arr 501 0 (s).fCat.fSets.length,.arr 502 0 (s).fSaid.length]),(501,.win 2 ((s).fCat.fSets.map DtCSet.cells)),(502,.own 3 ((s).fSaid.map DtSaid.cells))] (by simp [zG22,KpR,renV2,renV,zbl,curC,zdz,immS,addSaid,addSet,setSaid,DtSaid.cells,DtCSet.cells,zcn];try (first | with_reducible rfl | omega|(simp;done))) (by simp [zG22,KpOW,wnO,renO,plO,cvO,renV,pl1,curC,zdz,immS,addSaid,addSet,setSaid,DtSaid.cells,DtCSet.cells,zcn];try (first | with_reducible rfl|(simp [DtSaid.cells,zcn,zbe];done) | exact .inr (zdz (immS _)) | exact .inr (zdz (by rw [zjm,immS];rfl)) | trace_state)) (by rfl) (by simp) (by simp) (by rfl) (by simp [zG23,formsX]),s,belowS l 10 c1,?_,rfl⟩
    ·first | exact hG | exact zjw hG _ _ hI | exact znd hG hI | exact zsx hG _ _
 ·rintro sS ⟨s2,c3,hG2,rfl⟩
  refine AW_x rfl rfl λK hK=>?_
  simp (disch:=omega) [zG21,cI,cS,cU,DtSaid.cells,DtCSet.cells,DtState.cells,DtCatalog.cells,zcn,zbs,-aAppZ]
  repeat' first|(exfalso;omega)|(refine ⟨λ_=>?_,λ_=>?_⟩)|(refine ⟨by omega,?_⟩)|(simp (disch:=omega) [zG21,cI,cS,cU,DtSaid.cells,DtCSet.cells,DtState.cells,DtCatalog.cells,zcn,zbs,-aAppZ])|(intro _)
  all_goals (refine hK _ ?_;clear hK K)
  all_goals
   refine zdp (LeS.frzR 501 (o:=.win 2 (s2.fCat.fSets.map DtCSet.cells)) (sz:=2) (xs:=s2.fCat.fSets.map DtCSet.cells) (zxm (cs:=curC l c3) (by simp [zG22,updL])) (by simp [formsX,List.range_succ]) (by simp [zG22,updL]) ⟨rfl,rfl,immS _⟩) ?_
   refine zdp (LeS.frzR 502 (o:=.own 3 (s2.fSaid.map DtSaid.cells)) (sz:=3) (xs:=s2.fSaid.map DtSaid.cells) (zxm (cs:=curC l c3) (by simp [zG22,updL])) (by simp [formsX,List.range_succ]) (by simp [zG22,updL]) ⟨rfl,rfl⟩) ?_
   refine zdp (LeS.vwC 48 0 501 (sz:=2) (xs:=s2.fCat.fSets.map DtCSet.cells) (cs:=[.arr 501 0 s2.fCat.fSets.length,.arr 502 0 s2.fSaid.length]) (off:=0) (len:=s2.fCat.fSets.length) (by simp [zG22,updL,zbe]) (by simp) (by simp [zbx]) (by simp)) ?_
   refine zdp (LeS.vwC 48 1 502 (sz:=3) (xs:=s2.fSaid.map DtSaid.cells) (cs:=[.sl 2 (s2.fCat.fSets.map DtCSet.cells),.arr 502 0 s2.fSaid.length]) (off:=0) (len:=s2.fSaid.length) (by simp [zG22,updL,zbe]) (by simp) (by simp [zbx]) (by simp)) ?_
   refine zme (.agg (DtState.cells s2)) [.cells (curC l c3)] [] ?po (by simp) (by simp) (by simp [OB.xk]) (zb5 [] [] (by simp [zG22,List.range_succ]) (by simp) ?en)
   case en =>
    simp (disch:=omega) [zG21,cI,cS,cU,DtSaid.cells,DtCSet.cells,DtState.cells,DtCatalog.cells,zcn,zbs,-aAppZ]
    all_goals trace_state
   case po=>exact ⟨s2,c3,hG2,rfl,rfl,rfl⟩
end Go.Proofs.Ytodmafgmdlkhoaa.Vs
end
section
namespace Go.Proofs.Ytodmafgmdlkhoaa.Vs
set_option linter.all false
set_option maxRecDepth 100000
set_option maxHeartbeats 2000000
def cmN(x:DtCmd)(a b:Int):DtCmd:={ x with fClient:=a,fNo:=b }
theorem frz_ok1{fs:List Nat}{st:St}(h:fs=[]):FrzOk fs st:=⟨.inl h,λm hm=>by rw [h] at hm;cases hm⟩
def DoD(r:AV)(wos' fos:List OB):Prop:=∃(s:DtState) (m:DtCmd),StG s∧CmdF m∧r=.tup [.agg (DtState.cells s),.agg (DtCmd.cells m)]∧wos'=[]∧fos=[]
theorem zne(l:List Int)(hl:Code l):XCallE Try.prog 6 [.sl 1 (l.map cU)] [] 0 DoD:=by
 refine zf3 Try.func6 (by rfl) (by rfl) (by rw [Try.ntmps6];exact Nat.le_of_ble_eq_true rfl) (by simp) rfl rfl ?_
 rw [Try.ntmps6]
 refine AW_y0   ?_
 refine AW_k [(0,_)] ⟨rfl,trivial⟩ ?_
 refine AW_x rfl rfl λK hK=>?_
 simp (disch:=omega) [zG21,cI,cS,cU,cmdO,DtSaid.cells,DtState.cells,DtCatalog.cells,DtCmd.cells]
 repeat' first|(refine ⟨by omega,?_⟩)|(intro _)
 refine hK _ ?_;clear hK K
 refine AW_x rfl rfl λK hK=>?_
 simp (disch:=omega) [zG21,cI,cS,cU,cmdO,DtSaid.cells,DtState.cells,DtCatalog.cells,DtCmd.cells]
 repeat' first|(exfalso;omega)|(refine zc9 [] false [] (l1New l hl) ?_ ?_ ?_;(focus (simp [List.range_succ,nmC];done));(focus (simp (disch:=omega) [zG21,cI,cS,cU,cmdO,DtSaid.cells,DtState.cells,DtCatalog.cells,DtCmd.cells];done));simp (disch:=omega) [zG21,cI,cS,cU,cmdO,DtSaid.cells,DtState.cells,DtCatalog.cells,DtCmd.cells])|(refine ⟨by omega,?_⟩)|(simp (disch:=omega) [zG21,cI,cS,cU,cmdO,DtSaid.cells,DtState.cells,DtCatalog.cells,DtCmd.cells])|(intro _)
 refine hK _ ?_;clear hK K
 refine AW_x rfl rfl λK hK=>?_
 simp (disch:=omega) [zG21,cI,cS,cU,cmdO,DtSaid.cells,DtState.cells,DtCatalog.cells,DtCmd.cells]
 repeat' first|(exfalso;omega)|(refine zt3 [160] false [] (l16Some l hl (cur0 l)) ?_ ?_ ?_;(focus (simp [List.range_succ,nmC];done));(focus (simp (disch:=omega) [zG21,cI,cS,cU,cmdO,DtSaid.cells,DtState.cells,DtCatalog.cells,DtCmd.cells];done));rintro _ _ _ ⟨s,c1,hG,rfl,rfl,rfl⟩;refine ⟨⟨by first | rfl|(simp;done),by first | rfl|(simp;done)⟩,?_⟩;simp (disch:=omega) [zG21,cI,cS,cU,cmdO,DtSaid.cells,DtState.cells,DtCatalog.cells,DtCmd.cells])|(refine ⟨by omega,?_⟩)|(simp (disch:=omega) [zG21,cI,cS,cU,cmdO,DtSaid.cells,DtState.cells,DtCatalog.cells,DtCmd.cells])|(intro _)
 refine hK _ ?_;clear hK K
 refine AW_x rfl rfl λK hK=>?_
 simp (disch:=omega) [zG21,cI,cS,cU,cmdO,DtSaid.cells,DtState.cells,DtCatalog.cells,DtCmd.cells]
 repeat' first|(exfalso;omega)|(refine zt3 [160] false [] (l4Cmd l hl c1) ?_ ?_ ?_;(focus (simp [List.range_succ,nmC];done));(focus (simp (disch:=omega) [zG21,cI,cS,cU,cmdO,DtSaid.cells,DtState.cells,DtCatalog.cells,DtCmd.cells];done));rintro _ _ _ ⟨z,c2,hz,rfl,rfl,rfl⟩;refine ⟨⟨by first | rfl|(simp;done),by first | rfl|(simp;done)⟩,?_⟩;simp (disch:=omega) [zG21,cI,cS,cU,cmdO,DtSaid.cells,DtState.cells,DtCatalog.cells,DtCmd.cells])|(refine ⟨by omega,?_⟩)|(simp (disch:=omega) [zG21,cI,cS,cU,cmdO,DtSaid.cells,DtState.cells,DtCatalog.cells,DtCmd.cells])|(intro _)
 refine hK _ ?_;clear hK K
 refine zf2 (λsS=>∃(m:DtCmd) (c3:Cur),(CmdF m)∧sS = { env:=lkE [(2,.ptr 48 0),(3,.ptr 64 0),(5,.ptr 96 0),(6,.ptr 112 0)],ob:=lk [(48,.cells [.g (.slice none 0 0),.g (.slice none 0 0)]),(64,.cells [(.g (.int .i64 (0))),(.g (.int .i64 (0))),(.g (.int .i64 (0))),.s [],.s [],.s [],(.g (.int .i64 (0))),.g (.slice none 0 0)]),(96,.cells (DtState.cells s)),(112,.cells (cmdO m 501)),(501,.own 1 (m.fChunks.map cS))] }) ?_ ?_
 ·skip
  have hL:=zvy hG.1
  refine AW_x rfl rfl λK hK=>?_
  simp (disch:=omega) [zG21,cI,cS,cU,cmdO,DtSaid.cells,DtState.cells,DtCatalog.cells,DtCmd.cells]
  repeat' first|(exfalso;omega)|(refine zc3 (λ_=>xs_p (xs_g xs_z)) (zko l hl _ _) rfl rfl ?_;simp (disch:=omega) [zG21,cI,cS,cU,cmdO,DtSaid.cells,DtState.cells,DtCatalog.cells,DtCmd.cells])|(refine ⟨λ_=>?_,λ_=>?_⟩)|(refine ⟨by omega,?_⟩)|(simp (disch:=omega) [zG21,cI,cS,cU,cmdO,DtSaid.cells,DtState.cells,DtCatalog.cells,DtCmd.cells])|(intro _)
  all_goals (refine hK _ ?_;clear hK K)
  all_goals
   refine zbi rfl (λhc1=>?_) (λhc1=>?_)
   ·try simp [zG24,zbd,zbc] at hc1
    all_goals
     have h0l:0<s.fSaid.length:=by first | assumption | omega
     have hbk:=zdh l (s.fSaid.length:Int) (belowS l 3 c2)
     have hk0:0≤below l (s.fSaid.length:Int) (belowS l 3 c2):=hbk.1
     have hkl:(below l (s.fSaid.length:Int) (belowS l 3 c2)).toNat<s.fSaid.length:=by have:=hbk.2 (by omega);omega
     have hkz:below l (s.fSaid.length:Int) (belowS l 3 c2)<s.fSaid.length:=by omega
     refine AW_d rfl mix (by kernel_rfl) (by kernel_rfl) λK hK=>?_
     simp (disch:=omega) [zG21,cI,cS,cU,cmdO,DtSaid.cells,DtState.cells,DtCatalog.cells,DtCmd.cells]
     repeat' first|(exfalso;omega)|(refine zmn (λ_=>xs_p (xs_g xs_z)) (zdx l hl _ _) rfl rfl ?_;simp (disch:=omega) [zG21,cI,cS,cU,cmdO,DtSaid.cells,DtState.cells,DtCatalog.cells,DtCmd.cells])|(refine ⟨λ_=>?_,λ_=>?_⟩)|(refine ⟨by omega,?_⟩)|(simp (disch:=omega) [zG21,cI,cS,cU,cmdO,DtSaid.cells,DtState.cells,DtCatalog.cells,DtCmd.cells])|(intro _)
     all_goals (refine hK _ _ (by kernel_rfl) ?_;clear hK K)
     all_goals
      refine AW_x rfl rfl λK hK=>?_
      simp (disch:=omega) [zG21,cI,cS,cU,cmdO,DtSaid.cells,DtState.cells,DtCatalog.cells,DtCmd.cells]
      repeat' first|(refine ⟨by omega,?_⟩)|(intro _)
      refine hK _ ?_;clear hK K
      refine zbi rfl (λhc2=>?_) (λhc2=>?_)
      ·try simp [zG24,zbd,zbc] at hc2
       all_goals
        refine AW_x rfl rfl λK hK=>?_
        simp (disch:=omega) [zG21,cI,cS,cU,cmdO,DtSaid.cells,DtState.cells,DtCatalog.cells,DtCmd.cells]
        repeat' first|(exfalso;omega)|(refine ⟨λ_=>?_,λ_=>?_⟩)|(refine ⟨by omega,?_⟩)|(simp (disch:=omega) [zG21,cI,cS,cU,cmdO,DtSaid.cells,DtState.cells,DtCatalog.cells,DtCmd.cells])|(intro _)
        all_goals (refine hK _ ?_;clear hK K)
        all_goals
         refine zhn rfl mix (by kernel_rfl) (by kernel_rfl) λK hK=>?_
         simp (disch:=omega) [zG21,cI,cS,cU,cmdO,DtSaid.cells,DtState.cells,DtCatalog.cells,DtCmd.cells]
         repeat' first|(exfalso;omega)|(refine zmn (λ_=>xs_p (xs_g xs_z)) (zdx l hl _ _) rfl rfl ?_;simp (disch:=omega) [zG21,cI,cS,cU,cmdO,DtSaid.cells,DtState.cells,DtCatalog.cells,DtCmd.cells])|(refine ⟨by omega,?_⟩)|(simp (disch:=omega) [zG21,cI,cS,cU,cmdO,DtSaid.cells,DtState.cells,DtCatalog.cells,DtCmd.cells])|(intro _)
         refine hK _ _ (by kernel_rfl) ?_;clear hK K
         refine ⟨_,LeS.kx [(48,48),(64,64),(96,96),(112,112),(501,224)] [(2,.ptr 48 0),(3,.ptr 64 0),(5,.ptr 96 0),(6,.ptr 112 0)] [(48,.cells [.g (.slice none 0 0),.g (.slice none 0 0)]),(64,.cells [(.g (.int .i64 (0))),(.g (.int .i64 (0))),(.g (.int .i64 (0))),.s [],.s [],.s [],(.g (.int .i64 (0))),.g (.slice none 0 0)]),(96,.cells (DtState.cells s)),(112,.cells (cmdO (cmN z s.fSaid[(below l (s.fSaid.length:Int) (belowS l 3 c2)).toNat].fClient (IntKind.i64.wrap (IntKind.i64.wrap (s.fSaid[(below l (s.fSaid.length:Int) (belowS l 3 c2)).toNat].fNo+below l 3 (belowS l (s.fSaid.length:Int) (belowS l 3 c2)))-1))) 501)),(501,.own 1 ((cmN z s.fSaid[(below l (s.fSaid.length:Int) (belowS l 3 c2)).toNat].fClient (IntKind.i64.wrap (IntKind.i64.wrap (s.fSaid[(below l (s.fSaid.length:Int) (belowS l 3 c2)).toNat].fNo+below l 3 (belowS l (s.fSaid.length:Int) (belowS l 3 c2)))-1))).fChunks.map cS))] (by simp [zG22,KpR,renV2,renV,zbl,cmdO,cmN,DtState.cells,DtCatalog.cells];try (first | with_reducible rfl | omega|(simp;done))) (by simp [zG22,KpOX,renO,plO,cvO,renV,pl1,cmdO,cmN,DtState.cells,DtCatalog.cells];try (first | with_reducible rfl | trace_state)) (by rfl) (by simp) (by simp) (by rfl) (by simp [zG23,formsX]),cmN z s.fSaid[(below l (s.fSaid.length:Int) (belowS l 3 c2)).toNat].fClient (IntKind.i64.wrap (IntKind.i64.wrap (s.fSaid[(below l (s.fSaid.length:Int) (belowS l 3 c2)).toNat].fNo+below l 3 (belowS l (s.fSaid.length:Int) (belowS l 3 c2)))-1)),c2,?_,rfl⟩
         ·first | exact hz | exact ⟨hz.1,hz.2⟩
      ·try simp [zG24,zbd,zbc] at hc2
       all_goals
        refine zbk ?_
        refine ⟨_,LeS.kx [(48,48),(64,64),(96,96),(112,112),(501,224)] [(2,.ptr 48 0),(3,.ptr 64 0),(5,.ptr 96 0),(6,.ptr 112 0)] [(48,.cells [.g (.slice none 0 0),.g (.slice none 0 0)]),(64,.cells [(.g (.int .i64 (0))),(.g (.int .i64 (0))),(.g (.int .i64 (0))),.s [],.s [],.s [],(.g (.int .i64 (0))),.g (.slice none 0 0)]),(96,.cells (DtState.cells s)),(112,.cells (cmdO (z) 501)),(501,.own 1 ((z).fChunks.map cS))] (by simp [zG22,KpR,renV2,renV,zbl,cmdO,cmN,DtState.cells,DtCatalog.cells];try (first | with_reducible rfl | omega|(simp;done))) (by simp [zG22,KpOX,renO,plO,cvO,renV,pl1,cmdO,cmN,DtState.cells,DtCatalog.cells];try (first | with_reducible rfl | trace_state)) (by rfl) (by simp) (by simp) (by rfl) (by simp [zG23,formsX]),z,c2,?_,rfl⟩
        ·first | exact hz | exact ⟨hz.1,hz.2⟩
   ·try simp [zG24,zbd,zbc] at hc1
    all_goals
     refine zbk ?_
     refine ⟨_,LeS.kx [(48,48),(64,64),(96,96),(112,112),(501,224)] [(2,.ptr 48 0),(3,.ptr 64 0),(5,.ptr 96 0),(6,.ptr 112 0)] [(48,.cells [.g (.slice none 0 0),.g (.slice none 0 0)]),(64,.cells [(.g (.int .i64 (0))),(.g (.int .i64 (0))),(.g (.int .i64 (0))),.s [],.s [],.s [],(.g (.int .i64 (0))),.g (.slice none 0 0)]),(96,.cells (DtState.cells s)),(112,.cells (cmdO (z) 501)),(501,.own 1 ((z).fChunks.map cS))] (by simp [zG22,KpR,renV2,renV,zbl,cmdO,cmN,DtState.cells,DtCatalog.cells];try (first | with_reducible rfl | omega|(simp;done))) (by simp [zG22,KpOX,renO,plO,cvO,renV,pl1,cmdO,cmN,DtState.cells,DtCatalog.cells];try (first | with_reducible rfl | trace_state)) (by rfl) (by simp) (by simp) (by rfl) (by simp [zG23,formsX]),z,c2,?_,rfl⟩
     ·first | exact hz | exact ⟨hz.1,hz.2⟩
 ·rintro sS ⟨m,c3,hm,rfl⟩
  refine AW_d rfl mix (by kernel_rfl) (by kernel_rfl) λK hK=>?_
  simp (disch:=omega) [zG21,cI,cS,cU,cmdO,DtSaid.cells,DtState.cells,DtCatalog.cells,DtCmd.cells]
  repeat' first|(exfalso;omega)|(refine ⟨λ_=>?_,λ_=>?_⟩)|(refine ⟨by omega,?_⟩)|(simp (disch:=omega) [zG21,cI,cS,cU,cmdO,DtSaid.cells,DtState.cells,DtCatalog.cells,DtCmd.cells])|(intro _)
  all_goals (refine hK _ _ (by kernel_rfl) ?_;clear hK K)
  all_goals
   refine zdp (LeS.frzR 501 (o:=.own 1 (m.fChunks.map cS)) (sz:=1) (xs:=m.fChunks.map cS) (frz_ok1 (by decide)) (by simp [formsX,List.range_succ]) (by simp [zG22,updL]) ⟨rfl,rfl⟩) ?_
   refine zdp (LeS.vwC 64 7 501 (sz:=1) (xs:=m.fChunks.map cS) (cs:=cmdO m 501) (off:=0) (len:=m.fChunks.length) (by simp [zG22,updL,cmdO]) rfl (by simp [zbx]) (by simp)) ?_
   refine zme (.tup [.agg (DtState.cells s),.agg (DtCmd.cells m)]) [] [] ?po (by simp) (by simp) (by simp [OB.xk]) (zb5 [] [] (by simp [zG22,List.range_succ]) (by simp) ?en)
   case en =>
    simp (disch:=omega) [zG21,cI,cS,cU,cmdO,DtSaid.cells,DtState.cells,DtCatalog.cells,DtCmd.cells]
    all_goals trace_state
   case po=>exact ⟨s,m,hG,hm,rfl,rfl,rfl⟩
end Go.Proofs.Ytodmafgmdlkhoaa.Vs
end
section
namespace Go.Proofs.Ytodmafgmdlkhoaa.Vs
set_option linter.all false
set_option maxRecDepth 100000
/-- Seven bits a byte. -/
def varB(n:Nat):List UInt8:=if n<128 then [UInt8.ofNat n] else UInt8.ofNat (128+n % 128) :: varB (n / 128)
termination_by n
decreasing_by omega
theorem zqr{n:Nat}(h:n<128):varB n=[UInt8.ofNat n]:=by unfold varB;rw [if_pos h]
theorem varB_ge{n:Nat}(h:¬n<128):varB n=UInt8.ofNat (128+n % 128) :: varB (n / 128):=by rw [varB];rw [if_neg h]
theorem zxp:∀(k n:Nat),n<128^(k+1)→(varB n).length≤k+1
 | 0,n,h=>by rw [zqr (by simpa using h)];simp
 | k+1,n,h=>by
  by_cases h2:n<128
  ·rw [zqr h2];simp
  ·rw [varB_ge h2]
   have:=zxp k (n / 128) (by rw [Nat.pow_succ] at h;omega)
   simp;omega
def varZ(n:Int):List UInt8:=if 0≤n∧n≤562949953421311 then varB n.toNat else []
theorem zdo(n:Int):(varZ n).length≤7:=by
 unfold varZ
 split
 ·rename_i h
  have h7:(128:Nat)^7=562949953421312:=by decide
  exact zxp 6 n.toNat (by omega)
 ·simp
def cB8v(n:Int):List AV:=[.g (.int .u8 n)]
theorem znf:∀ns:List Int,numsOf (ns.map cB8v)=some ns
 | []=>rfl
 | n :: ns=>by
  have:=znf ns
  simp only [List.map_cons,cB8v,numsOf] at this ⊢
  rw [this];rfl
theorem zvz:∀(ns:List Int) (m:Int),numsOf (ns.map cB8v++[[.g (.int .u8 m)]])=some (ns++[m]):=by
 intro ns m
 have:=znf (ns++[m])
 simpa [cB8v] using this
theorem strN_lenv(ns:List Int):(strN ns).length=ns.length:=by simp [strN]
theorem tk1v(acc:List Int):List.take acc.length (acc.map cB8v)=acc.map cB8v:=List.take_of_length_le (by simp)
theorem tk2v(acc:List Int)(y:List AV):List.take (acc.length+1) (acc.map cB8v++[y])=acc.map cB8v++[y]:=List.take_of_length_le (by simp)
theorem tdivNv(m:Nat):(m:Int).tdiv 128=((m / 128:Nat):Int):=by rw [Int.tdiv_eq_ediv_of_nonneg (by omega)];rfl
theorem tmodNv(m:Nat):(m:Int).tmod 128=((m % 128:Nat):Int):=by rw [Int.tmod_eq_emod_of_nonneg (by omega)];rfl
theorem zsy{n:Int}(h0:0≤n)(h1:n<256):IntKind.u8.wrap n=n:=by
 simp [IntKind.wrap,IntKind.bits,IntKind.signed]
 omega
theorem zng(acc:List Int)(m:Nat):strN (acc++[(m:Int)])=strN acc++[UInt8.ofNat m]:=by simp [strN]
def zG25:=And.intro @zcv (And.intro @zfs (And.intro @zsy (And.intro @tk1v (And.intro @tk2v (And.intro @zvz (And.intro @tdivNv @tmodNv))))))
theorem zkh(n:Int):PCall Try.prog 41 [(.g (.int .i64 (n)))] (.s (varZ n)):=by
 by_cases hn:0≤n∧n≤562949953421311
 ·have hz:varZ n=varB n.toNat:=by unfold varZ;rw [if_pos hn]
  have hl:=zdo n
  rw [hz] at hl ⊢
  refine zbr Try.func41 (by rfl) (by rfl) (by rw [Try.ntmps41];exact Nat.le_of_ble_eq_true rfl) rfl (by decide) ?_
  rw [Try.ntmps41]
  refine AW_k [(0,_)] ⟨rfl,trivial⟩ ?_
  refine AW_r rfl rfl λK hK=>?_
  simp (disch:=omega) [zG25,List.getElem?_eq_getElem,aNews,aAppend,aBuildSlice,chunks]
  repeat' first|(refine ⟨by omega,?_⟩)|(intro _)
  refine hK _ ?_;clear hK K
  refine zbj ?_
  refine AW_r rfl rfl λK hK=>?_
  simp (disch:=omega) [zG25,List.getElem?_eq_getElem,aNews,aAppend,aBuildSlice,chunks]
  repeat' first|(exfalso;omega)|(refine zc5 (zbg zco (zbg zco (zbg zco zbm))) (l1In _ _ _) rfl ?_;simp (disch:=omega) [zG25,List.getElem?_eq_getElem,aNews,aAppend,aBuildSlice,chunks])|(refine ⟨by omega,?_⟩)|(intro _)
  refine hK _ ?_;clear hK K
  refine zbi rfl (λhc1=>?_) (λhc1=>?_)
  ·try simp [zG24,zbd,zbc] at hc1
   all_goals
    refine AW_r rfl rfl λK hK=>?_
    simp (disch:=omega) [zG25,List.getElem?_eq_getElem,aNews,aAppend,aBuildSlice,chunks]
    repeat' first|(exfalso;omega)|(refine ⟨λ_=>?_,λ_=>?_⟩)|(refine ⟨by omega,?_⟩)|(intro _)
    all_goals (refine hK _ ?_;clear hK K)
    all_goals
     refine zbp (zcc ?_)
     simp (disch:=omega) [zG25,List.getElem?_eq_getElem,aNews,aAppend,aBuildSlice,chunks]
     all_goals first|(rw [zng,←hv,zqr (by omega)];done)
  ·try simp [zG24,zbd,zbc] at hc1
   all_goals
    refine zbk ?_
    refine zbo ?_
    refine AW_r rfl rfl λK hK=>?_
    simp (disch:=omega) [zG25,List.getElem?_eq_getElem,aNews,aAppend,aBuildSlice,chunks]
    repeat' first|(exfalso;omega)|(refine ⟨λ_=>?_,λ_=>?_⟩)|(refine ⟨by omega,?_⟩)|(intro _)
    all_goals (refine hK _ ?_;clear hK K)
    all_goals
     refine zbj ?_
     refine zbn ?_
     refine zbv (λmM sS=>∃(acc:List Int) (m:Nat),mM=m+1∧(strN acc++varB m=varB n.toNat∧m≤n.toNat)∧sS = { env:=lkE [(0,(.g (.int .i64 ((m:Nat))))),(3,.arr 128 0 acc.length)],ob:=lk [(128,.flat 1 (acc.map cB8v))] }) ?_ ?_
     ·refine ⟨_,LeS.kr [(128,128)] [(0,(.g (.int .i64 (((n.toNat):Nat))))),(3,.arr 128 0 ([]).length)] [(128,.flat 1 (([]).map cB8v))] (by simp [zG22,KpR,renV2,renV,zbl,cB8v];try omega) (by simp [zG22,KpOR,renO,renV,zca,cB8v];try rfl) (by rfl) (by rfl) (by simp) (by simp) (by rfl) (by simp [forms]),_,[],n.toNat,rfl,?_,rfl⟩
      ·simp [strN]
     ·rintro mM sS ⟨acc,m,rfl,⟨hv,hm⟩,rfl⟩
      have hal:acc.length≤7:=by have:=congrArg List.length hv;simp [strN_lenv] at this;omega
      refine zbj ?_
      refine AW_r rfl rfl λK hK=>?_
      simp (disch:=omega) [zG25,List.getElem?_eq_getElem,aNews,aAppend,aBuildSlice,chunks]
      repeat' first|(refine ⟨by omega,?_⟩)|(intro _)
      refine hK _ ?_;clear hK K
      refine zbi rfl (λhc2=>?_) (λhc2=>?_)
      ·try simp [zG24,zbd,zbc] at hc2
       all_goals
        have hge:=varB_ge (n:=m) (by omega)
        refine zbk ?_
        refine zbo ?_
        refine zbn ?_
        refine AW_r rfl rfl λK hK=>?_
        simp (disch:=omega) [zG25,List.getElem?_eq_getElem,aNews,aAppend,aBuildSlice,chunks]
        repeat' first|(exfalso;omega)|(refine ⟨λ_=>?_,λ_=>?_⟩)|(refine ⟨by omega,?_⟩)|(intro _)
        all_goals (refine hK _ ?_;clear hK K)
        all_goals
         refine zc8 rfl rfl λK hK=>?_
         simp (disch:=omega) [zG25,List.getElem?_eq_getElem,aNews,aAppend,aBuildSlice,chunks]
         repeat' first|(refine ⟨by omega,?_⟩)|(intro _)
         refine hK _ ?_;clear hK K
         refine ⟨_,LeS.kr [(128,272)] [(0,(.g (.int .i64 (((m / 128):Nat))))),(3,.arr 128 0 (acc++[128+((m % 128:Nat):Int)]).length)] [(128,.flat 1 ((acc++[128+((m % 128:Nat):Int)]).map cB8v))] (by simp [zG22,KpR,renV2,renV,zbl,cB8v];try simp (disch:=omega) [zcv,cB8v];try omega) (by simp [zG22,KpOR,renO,renV,zca,cB8v];try rfl) (by rfl) (by rfl) (by simp) (by simp) (by rfl) (by simp [forms]),_,?_,acc++[128+((m % 128:Nat):Int)],m / 128,rfl,?_,rfl⟩
         ·omega
         ·refine ⟨?_,by omega⟩
          rw [hge] at hv
          rw [←hv,show (128+((m % 128:Nat):Int))=((128+m % 128:Nat):Int) by omega,zng]
          simp
      ·try simp [zG24,zbd,zbc] at hc2
       all_goals
        refine zb0 ?_
        refine zbo ?_
        refine AW_r rfl rfl λK hK=>?_
        simp (disch:=omega) [zG25,List.getElem?_eq_getElem,aNews,aAppend,aBuildSlice,chunks]
        repeat' first|(exfalso;omega)|(refine ⟨λ_=>?_,λ_=>?_⟩)|(refine ⟨by omega,?_⟩)|(intro _)
        all_goals (refine hK _ ?_;clear hK K)
        all_goals
         refine zbp (zcc ?_)
         simp (disch:=omega) [zG25,List.getElem?_eq_getElem,aNews,aAppend,aBuildSlice,chunks]
         all_goals first|(rw [zng,←hv,zqr (by omega)];done)
 ·have hz:varZ n=[]:=by unfold varZ;rw [if_neg hn]
  rw [hz]
  have hn':n<0∨562949953421311<n:=by omega
  refine zbr Try.func41 (by rfl) (by rfl) (by rw [Try.ntmps41];exact Nat.le_of_ble_eq_true rfl) rfl (by decide) ?_
  rw [Try.ntmps41]
  refine AW_k [(0,_)] ⟨rfl,trivial⟩ ?_
  refine AW_r rfl rfl λK hK=>?_
  simp (disch:=omega) [zG25,List.getElem?_eq_getElem,aNews,aAppend,aBuildSlice,chunks]
  refine hK _ ?_;clear hK K
  refine zbj (AW_r rfl rfl λK hK=>?_)
  simp (disch:=omega) [zG25,List.getElem?_eq_getElem,aNews,aAppend,aBuildSlice,chunks]
  refine zc5 (zbg zco (zbg zco (zbg zco zbm))) (l1In _ _ _) rfl ?_
  simp (disch:=omega) [zG25,List.getElem?_eq_getElem,aNews,aAppend,aBuildSlice,chunks]
  refine hK _ ?_;clear hK K
  refine zbi (t:=true) (by simp;omega) (λ_=>?_) (λh=>by simp at h)
  refine AW_r rfl rfl λK hK=>?_
  simp (disch:=omega) [zG25,List.getElem?_eq_getElem,aNews,aAppend,aBuildSlice,chunks]
  repeat' first|(refine ⟨by omega,?_⟩)|(intro _)
  refine hK _ ?_;clear hK K
  refine zbp (zcc ?_)
  simp (disch:=omega) [zG25,List.getElem?_eq_getElem,aNews,aAppend,aBuildSlice,chunks]
  all_goals first | omega|(simp_all;done)|(simp [List.take_of_length_le];done)|((try simp_all);(try simp (disch:=omega) only [zcv,Int.tdiv_eq_ediv_of_nonneg,Int.tmod_eq_emod_of_nonneg,and_true,true_and]);done)|((try simp_all);(try simp (disch:=omega) only [zcv,Int.tdiv_eq_ediv_of_nonneg,Int.tmod_eq_emod_of_nonneg,and_true,true_and] at *);omega)
def piece(s:List UInt8):List UInt8:=varZ s.length++s
theorem zqs(s:List UInt8)(hs:s.length≤1048576):PCall Try.prog 42 [.s s] (.s (piece s)):=by
 have hl:=zdo s.length
 refine zbr Try.func42 (by rfl) (by rfl) (by rw [Try.ntmps42];exact Nat.le_of_ble_eq_true rfl) rfl (by decide) ?_
 rw [Try.ntmps42]
 refine AW_k [(0,_)] ⟨rfl,trivial⟩ ?_
 refine AW_r rfl rfl λK hK=>?_
 simp (disch:=omega) [zcv,List.getElem?_eq_getElem,zfs,zsy,piece]
 repeat' first|(refine ⟨by omega,?_⟩)|(intro _)
 refine hK _ ?_;clear hK K
 refine AW_r rfl rfl λK hK=>?_
 simp (disch:=omega) [zcv,List.getElem?_eq_getElem,zfs,zsy,piece]
 repeat' first|(exfalso;omega)|(refine zc5 (zbg zco zbm) (zkh _) rfl ?_;simp (disch:=omega) [zcv,List.getElem?_eq_getElem,zfs,zsy,piece])|(refine ⟨by omega,?_⟩)|(intro _)
 refine hK _ ?_;clear hK K
 refine zbp (zcc ?_)
 simp (disch:=omega) [zcv,List.getElem?_eq_getElem,zfs,zsy,piece]
 all_goals first | omega|(simp_all;done)|(simp [List.take_of_length_le];done)|((try simp_all);(try simp (disch:=omega) only [zcv,Int.tdiv_eq_ediv_of_nonneg,Int.tmod_eq_emod_of_nonneg,and_true,true_and]);done)|((try simp_all);(try simp (disch:=omega) only [zcv,Int.tdiv_eq_ediv_of_nonneg,Int.tmod_eq_emod_of_nonneg,and_true,true_and] at *);omega)
end Go.Proofs.Ytodmafgmdlkhoaa.Vs
end
