import Derived.Test.YtodmafgmdlkhoaaSM8
section
namespace Go.Proofs.Ytodmafgmdlkhoaa.Vs
set_option linter.all false
set_option maxRecDepth 100000
set_option maxHeartbeats 1000000
theorem putG_s(x:DtSaid)(p:Bool)(l:List DtSaid)(i:Nat)(h:i<l.length):putG x p (l.drop i)=(if p=false∧x.fClient≤l[i].fClient then [x] else [])++((if l[i].fClient=x.fClient then [] else [l[i]])++putG x (p || decide (x.fClient≤l[i].fClient)) (l.drop (i+1))):=by
 rw [List.drop_eq_getElem_cons h,putG]
attribute [local simp] DtSaid.cells zbl and_assoc zcw
def zG20:=And.intro @zbz (And.intro @zbq @zby)
def zG21:=And.intro @zba @zbf
theorem l16PutX(l:List DtSaid)(hl:l.length≤1048576)(x:DtSaid):XCall Try.prog 36 [.sl 3 (l.map DtSaid.cells),.agg (DtSaid.cells x)] [] (.arr 16 0 (putG x false l).length) [] [.own 3 ((putG x false l).map DtSaid.cells)]:=by
 refine zbs Try.func36 (by rfl) (by rfl) (by rw [Try.ntmps36];exact Nat.le_of_ble_eq_true rfl) rfl (by simp) rfl rfl ?_
 rw [Try.ntmps36]
 refine zf1   ?_
 refine AW_k [(0,_),(1,_)] ⟨rfl,rfl,trivial⟩ ?_
 refine AW_x rfl rfl λK hK=>?_
 simp (disch:=omega)
 repeat' first|(refine ⟨by omega,?_⟩)|(intro _)
 refine hK _ ?_;clear hK K
 refine AW_x rfl rfl λK hK=>?_
 simp (disch:=omega)
 repeat' first|(refine ⟨by omega,?_⟩)|(simp (disch:=omega))|(intro _)
 refine hK _ ?_;clear hK K
 refine AW_x rfl rfl λK hK=>?_
 simp (disch:=omega)
 repeat' first|(refine ⟨by omega,?_⟩)|(intro _)
 refine hK _ ?_;clear hK K
 refine zbi ?_
 refine AW_x rfl rfl λK hK=>?_
 simp (disch:=omega)
 repeat' first|(refine ⟨by omega,?_⟩)|(intro _)
 refine hK _ ?_;clear hK K
 refine zbm ?_
 refine zbv (λmM sS=>∃(i:Nat) (o:List DtSaid) (p:Bool),mM=l.length-i∧(i≤l.length∧o++putG x p (l.drop i)=putG x false l∧o.length≤2*i)∧sS = { env:=lkE [(0,.sl 3 (l.map DtSaid.cells)),(3,.ptr 64 0),(5,.arr 904 0 o.length),(6,(.g (.bool (p)))),(7,(.g (.int .i64 ((i:Nat)))))],ob:=lk [(64,.cells (DtSaid.cells x)),(904,.win 3 (o.map DtSaid.cells))] }) ?_ ?_
 ·refine ⟨_,LeS.kx [(64,64),(904,144)] [(0,.sl 3 (l.map DtSaid.cells)),(3,.ptr 64 0),(5,.arr 904 0 ([]).length),(6,(.g (.bool ((false))))),(7,(.g (.int .i64 (((0):Nat)))))] [(64,.cells (DtSaid.cells x)),(904,.win 3 (([]).map DtSaid.cells))] (by simp [zG20,KpR,renV2,renV,zbk,DtSaid.cells,zcw];first|(simp;done) | omega | trace_state) (by simp [zG20,KpOX,renO,plO,cvO,renV,pl1,DtSaid.cells,zcw];first | rfl|(simp [DtSaid.cells];done)|(rw [zfd];simp [DtSaid.cells,zcw];done) | trace_state) (by rfl) (by simp) (by simp) (by rfl) (by simp [formsX,List.range_succ,zbq,zby]),_,0,[],false,rfl,?_,rfl⟩
  ·exact ⟨by omega,by simp,by simp⟩
 ·rintro mM sS ⟨i,o,p,rfl,⟨hi,hpo,hol⟩,rfl⟩
  refine zbi ?_
  refine AW_x rfl rfl λK hK=>?_
  simp (disch:=omega)
  repeat' first|(refine ⟨by omega,?_⟩)|(simp (disch:=omega))|(intro _)
  refine hK _ ?_;clear hK K
  refine zbh rfl (λhc1=>?_) (λhc1=>?_)
  ·try simp [zG21,zbc,zbb] at hc1
   all_goals
    have hg:l[i]? = some l[i]:=List.getElem?_eq_getElem (by omega)
    have hps:=putG_s x p l i (by omega)
    refine zbj ?_
    refine zbn ?_
    refine zbi ?_
    refine zbm ?_
    refine zbi ?_
    refine AW_d rfl mix (by kernel_rfl) (by kernel_rfl) λK hK=>?_
    simp (disch:=omega)
    repeat' first|(exfalso;omega)|(refine ⟨λ_=>?_,λ_=>?_⟩)|(refine ⟨by omega,?_⟩)|(simp (disch:=omega))|(intro _)
    all_goals (refine hK _ _ (by kernel_rfl) ?_;clear hK K)
    all_goals
     refine zbh rfl (λhc2=>?_) (λhc2=>?_)
     ·try simp [zG21,zbc,zbb] at hc2
      all_goals
       refine AW_x rfl rfl λK hK=>?_
       simp (disch:=omega)
       repeat' first|(exfalso;omega)|(refine ⟨λ_=>?_,λ_=>?_⟩)|(refine ⟨by omega,?_⟩)|(simp (disch:=omega))|(intro _)
       all_goals (refine hK _ ?_;clear hK K)
       all_goals
        refine zb3 rfl rfl λK hK=>?_
        simp (disch:=omega)
        repeat' first|(refine ⟨by omega,?_⟩)|(intro _)
        refine hK _ ?_;clear hK K
        refine zbn ?_
        refine AW_d rfl mix (by kernel_rfl) (by kernel_rfl) λK hK=>?_
        simp (disch:=omega)
        repeat' first|(refine ⟨by omega,?_⟩)|(intro _)
        refine hK _ _ (by kernel_rfl) ?_;clear hK K
        refine zbh rfl (λhc3=>?_) (λhc3=>?_)
        ·try simp [zG21,zbc,zbb] at hc3
         all_goals
          refine zb3 rfl rfl λK hK=>?_
          simp (disch:=omega)
          repeat' first|(exfalso;omega)|(refine ⟨λ_=>?_,λ_=>?_⟩)|(refine ⟨by omega,?_⟩)|(simp (disch:=omega))|(intro _)
          all_goals (refine hK _ ?_;clear hK K)
          all_goals
           refine zbn ?_
           refine zb3 rfl rfl λK hK=>?_
           simp (disch:=omega)
           repeat' first|(refine ⟨by omega,?_⟩)|(intro _)
           refine hK _ ?_;clear hK K
           refine ⟨_,LeS.kx [(64,64),(904,736)] [(0,.sl 3 (l.map DtSaid.cells)),(3,.ptr 64 0),(5,.arr 904 0 (o++[x]++[l[i]]).length),(6,(.g (.bool ((true))))),(7,(.g (.int .i64 (((i+1):Nat)))))] [(64,.cells (DtSaid.cells x)),(904,.win 3 ((o++[x]++[l[i]]).map DtSaid.cells))] (by simp [zG20,KpR,renV2,renV,zbk,DtSaid.cells,zcw];first|(simp;done) | omega | trace_state) (by simp [zG20,KpOX,renO,plO,cvO,renV,pl1,DtSaid.cells,zcw];first | rfl|(simp [DtSaid.cells];done)|(rw [zfd];simp [DtSaid.cells,zcw];done) | trace_state) (by rfl) (by simp) (by simp) (by rfl) (by simp [formsX,List.range_succ,zbq,zby]),_,?_,i+1,o++[x]++[l[i]],true,rfl,?_,rfl⟩
           ·omega
           ·refine ⟨by omega,?_,by (try simp);omega⟩
            rw [←hpo,hps]
            clear hpo hps hg
            first|(simp_all;done)|(have hd:x.fClient≤l[i].fClient:=(by omega);simp_all;done)|(rw [if_neg (by omega),decide_eq_false (p:=x.fClient≤l[i].fClient) (by omega),Bool.or_false,if_neg (by omega)];simp;done) | trace_state
        ·try simp [zG21,zbc,zbb] at hc3
         all_goals
          refine zbj ?_
          refine zbn ?_
          refine zb3 rfl rfl λK hK=>?_
          simp (disch:=omega)
          repeat' first|(exfalso;omega)|(refine ⟨λ_=>?_,λ_=>?_⟩)|(refine ⟨by omega,?_⟩)|(simp (disch:=omega))|(intro _)
          all_goals (refine hK _ ?_;clear hK K)
          all_goals
           refine ⟨_,LeS.kx [(64,64),(904,496)] [(0,.sl 3 (l.map DtSaid.cells)),(3,.ptr 64 0),(5,.arr 904 0 (o++[x]).length),(6,(.g (.bool ((true))))),(7,(.g (.int .i64 (((i+1):Nat)))))] [(64,.cells (DtSaid.cells x)),(904,.win 3 ((o++[x]).map DtSaid.cells))] (by simp [zG20,KpR,renV2,renV,zbk,DtSaid.cells,zcw];first|(simp;done) | omega | trace_state) (by simp [zG20,KpOX,renO,plO,cvO,renV,pl1,DtSaid.cells,zcw];first | rfl|(simp [DtSaid.cells];done)|(rw [zfd];simp [DtSaid.cells,zcw];done) | trace_state) (by rfl) (by simp) (by simp) (by rfl) (by simp [formsX,List.range_succ,zbq,zby]),_,?_,i+1,o++[x],true,rfl,?_,rfl⟩
           ·omega
           ·refine ⟨by omega,?_,by (try simp);omega⟩
            rw [←hpo,hps]
            clear hpo hps hg
            first|(simp_all;done)|(have hd:x.fClient≤l[i].fClient:=(by omega);simp_all;done)|(rw [if_neg (by omega),decide_eq_false (p:=x.fClient≤l[i].fClient) (by omega),Bool.or_false,if_neg (by omega)];simp;done) | trace_state
     ·try simp [zG21,zbc,zbb] at hc2
      all_goals
       refine zbj ?_
       refine zbn ?_
       refine AW_d rfl mix (by kernel_rfl) (by kernel_rfl) λK hK=>?_
       simp (disch:=omega)
       repeat' first|(exfalso;omega)|(refine ⟨λ_=>?_,λ_=>?_⟩)|(refine ⟨by omega,?_⟩)|(simp (disch:=omega))|(intro _)
       all_goals (refine hK _ _ (by kernel_rfl) ?_;clear hK K)
       all_goals
        refine zbh rfl (λhc4=>?_) (λhc4=>?_)
        ·try simp [zG21,zbc,zbb] at hc4
         all_goals
          refine zb3 rfl rfl λK hK=>?_
          simp (disch:=omega)
          repeat' first|(exfalso;omega)|(refine ⟨λ_=>?_,λ_=>?_⟩)|(refine ⟨by omega,?_⟩)|(simp (disch:=omega))|(intro _)
          all_goals (refine hK _ ?_;clear hK K)
          all_goals
           refine zbn ?_
           refine zb3 rfl rfl λK hK=>?_
           simp (disch:=omega)
           repeat' first|(refine ⟨by omega,?_⟩)|(intro _)
           refine hK _ ?_;clear hK K
           refine ⟨_,LeS.kx [(64,64),(904,736)] [(0,.sl 3 (l.map DtSaid.cells)),(3,.ptr 64 0),(5,.arr 904 0 (o++[l[i]]).length),(6,(.g (.bool ((p))))),(7,(.g (.int .i64 (((i+1):Nat)))))] [(64,.cells (DtSaid.cells x)),(904,.win 3 ((o++[l[i]]).map DtSaid.cells))] (by simp [zG20,KpR,renV2,renV,zbk,DtSaid.cells,zcw];first|(simp;done) | omega | trace_state) (by simp [zG20,KpOX,renO,plO,cvO,renV,pl1,DtSaid.cells,zcw];first | rfl|(simp [DtSaid.cells];done)|(rw [zfd];simp [DtSaid.cells,zcw];done) | trace_state) (by rfl) (by simp) (by simp) (by rfl) (by simp [formsX,List.range_succ,zbq,zby]),_,?_,i+1,o++[l[i]],p,rfl,?_,rfl⟩
           ·omega
           ·refine ⟨by omega,?_,by (try simp);omega⟩
            rw [←hpo,hps]
            clear hpo hps hg
            first|(simp_all;done)|(have hd:x.fClient≤l[i].fClient:=(by omega);simp_all;done)|(rw [if_neg (by omega),decide_eq_false (p:=x.fClient≤l[i].fClient) (by omega),Bool.or_false,if_neg (by omega)];simp;done) | trace_state
        ·try simp [zG21,zbc,zbb] at hc4
         all_goals
          refine zbj ?_
          refine zbn ?_
          refine zb3 rfl rfl λK hK=>?_
          simp (disch:=omega)
          repeat' first|(exfalso;omega)|(refine ⟨λ_=>?_,λ_=>?_⟩)|(refine ⟨by omega,?_⟩)|(simp (disch:=omega))|(intro _)
          all_goals (refine hK _ ?_;clear hK K)
          all_goals
           refine ⟨_,LeS.kx [(64,64),(904,904)] [(0,.sl 3 (l.map DtSaid.cells)),(3,.ptr 64 0),(5,.arr 904 0 (o).length),(6,(.g (.bool ((p))))),(7,(.g (.int .i64 (((i+1):Nat)))))] [(64,.cells (DtSaid.cells x)),(904,.win 3 ((o).map DtSaid.cells))] (by simp [zG20,KpR,renV2,renV,zbk,DtSaid.cells,zcw];first|(simp;done) | omega | trace_state) (by simp [zG20,KpOX,renO,plO,cvO,renV,pl1,DtSaid.cells,zcw];first | rfl|(simp [DtSaid.cells];done)|(rw [zfd];simp [DtSaid.cells,zcw];done) | trace_state) (by rfl) (by simp) (by simp) (by rfl) (by simp [formsX,List.range_succ,zbq,zby]),_,?_,i+1,o,p,rfl,?_,rfl⟩
           ·omega
           ·refine ⟨by omega,?_,by (try simp);omega⟩
            rw [←hpo,hps]
            clear hpo hps hg
            first|(simp_all;done)|(have hd:x.fClient≤l[i].fClient:=(by omega);simp_all;done)|(rw [if_neg (by omega),decide_eq_false (p:=x.fClient≤l[i].fClient) (by omega),Bool.or_false,if_neg (by omega)];simp;done) | trace_state
  ·try simp [zG21,zbc,zbb] at hc1
   all_goals
    have hil:i=l.length:=by omega
    refine zbx ?_
    refine zbn ?_
    refine zbi ?_
    refine AW_x rfl rfl λK hK=>?_
    simp (disch:=omega)
    repeat' first|(exfalso;omega)|(refine ⟨λ_=>?_,λ_=>?_⟩)|(refine ⟨by omega,?_⟩)|(simp (disch:=omega))|(intro _)
    all_goals (refine hK _ ?_;clear hK K)
    all_goals
     refine zbh rfl (λhc5=>?_) (λhc5=>?_)
     ·try simp [zG21,zbc,zbb] at hc5
      all_goals
       refine zb3 rfl rfl λK hK=>?_
       simp (disch:=omega)
       repeat' first|(exfalso;omega)|(refine ⟨λ_=>?_,λ_=>?_⟩)|(refine ⟨by omega,?_⟩)|(simp (disch:=omega))|(intro _)
       all_goals (refine hK _ ?_;clear hK K)
       all_goals
        refine zbn ?_
        refine AW_x rfl rfl λK hK=>?_
        simp (disch:=omega)
        repeat' first|(refine ⟨by omega,?_⟩)|(intro _)
        refine hK _ ?_;clear hK K
        refine zbp (zb0 [832] [] (by simp [zG20,List.range_succ]) (by simp) ?_)
        simp (disch:=omega)
        all_goals first|(subst hil;rw [List.drop_length,putG,if_neg (by simp [hc5])] at hpo;rw [←hpo];simp [DtSaid.cells];done)|(subst hil;rw [List.drop_length,putG,if_pos hc5,List.append_nil] at hpo;rw [←hpo];exact ⟨rfl,rfl⟩) | trace_state
     ·try simp [zG21,zbc,zbb] at hc5
      all_goals
       refine zbj ?_
       refine zbn ?_
       refine AW_x rfl rfl λK hK=>?_
       simp (disch:=omega)
       repeat' first|(exfalso;omega)|(refine ⟨λ_=>?_,λ_=>?_⟩)|(refine ⟨by omega,?_⟩)|(simp (disch:=omega))|(intro _)
       all_goals (refine hK _ ?_;clear hK K)
       all_goals
        refine zbp (zb0 [904] [] (by simp [zG20,List.range_succ]) (by simp) ?_)
        simp (disch:=omega)
        all_goals first|(subst hil;rw [List.drop_length,putG,if_neg (by simp [hc5])] at hpo;rw [←hpo];simp [DtSaid.cells];done)|(subst hil;rw [List.drop_length,putG,if_pos hc5,List.append_nil] at hpo;rw [←hpo];exact ⟨rfl,rfl⟩) | trace_state
end Go.Proofs.Ytodmafgmdlkhoaa.Vs
end
section
namespace Go.Proofs.Ytodmafgmdlkhoaa.Vs
set_option linter.all false
set_option maxRecDepth 100000
set_option maxHeartbeats 2000000
theorem AW_wn{P:Program}{nt:Nat}{fs:List Nat}{Q:AExit→St→Prop}{st:St}{c:Go.Code}(n:Nat){sz:Nat}{xs:List (List AV)}(hs:scR xs=true)(hob:st.ob n=some (.own sz xs))(h:AW P nt fs c Q { st with ob:=upd st.ob n (some (.win sz xs)) }):AW P nt fs c Q st:=by
 refine zda (LeS.cv λk=>?_) h
 by_cases e:k=n
 ·subst e
  exact .inr ⟨_,.win sz xs,hob,by simp [upd],⟨rfl,rfl,hs⟩⟩
 ·exact .inl (by have : (k == n) = false := by simpa using e
                 simp [upd,this])
theorem saidI_bd(s:DtState)(m:DtCmd):saidI s m<(s.fSaid.length:Int):=by
 by_cases h:0≤saidI s m
 ·have:=zcz h;omega
 ·omega
theorem idxSaid(s:DtState)(m:DtCmd)(hl:s.fSaid.length≤1048576):GCall Try.prog 30 [.sl 3 (s.fSaid.map DtSaid.cells),.fn 31 [] [.ptr 0 0]] [DtCmd.cells m] [] (.g (.int .i64 (saidI s m))) []:=zrd rfl _ hl (λx=>stateDo1 x m)
theorem zwl(l:List DtSaid)(x:DtSaid)(z:Int)(h0:0≤z)(hk:z≤(l.length:Int))(hl:l.length≤1048576):XCall Try.prog 33 [.arr 8 0 l.length,(.g (.int .i64 (z))),.arr 9 0 1] [.own 3 (l.map DtSaid.cells),.own 3 [DtSaid.cells x]] (.arr 16 0 (l.length+1)) [.dead,.dead] [.own 3 ((l.take z.toNat++x :: l.drop z.toNat).map DtSaid.cells)]:=by
 obtain ⟨k,rfl⟩:=Int.eq_ofNat_of_zero_le h0
 have h:=insertSaid (l.map DtSaid.cells) (zcw l) (DtSaid.cells x) (by simp [DtSaid.cells]) k (by simp;omega) (by simpa using hl)
 simpa using h
theorem sd_f{s:DtState}{m:DtCmd}(h:¬StateP s):(stC s m).fCat.fSets=[]∧(stC s m).fSaid=[]∧stR s m=[]∧(stC s m).fCat.fSets=[]∧(stC s m).fSaid=[]:=by
 have ⟨h1,h2⟩:=st_f h (m:=m);rw [h1,h2];exact ⟨rfl,rfl,rfl,rfl,rfl⟩
abbrev StSame (s:DtState) (m:DtCmd) (t:List UInt8):Prop:=(stC s m).fCat.fSets.length=s.fCat.fSets.length∧(stC s m).fSaid.length=s.fSaid.length∧stR s m=t∧List.map DtCSet.cells (stC s m).fCat.fSets=List.map DtCSet.cells s.fCat.fSets∧List.map DtSaid.cells (stC s m).fSaid=List.map DtSaid.cells s.fSaid
theorem zcg{s:DtState}{m:DtCmd}{t:List UInt8}(h:stC s m=s∧stR s m=t):StSame s m t:=by
 unfold StSame;rw [h.1,h.2];exact ⟨rfl,rfl,rfl,rfl,rfl⟩
attribute [local simp] DtState.cells DtCatalog.cells DtSaid.cells DtCmd.cells zbl and_assoc zcw List.range_succ newS
theorem znk(s:DtState)(m:DtCmd)(hs:DtState.sz s≤1048576)(hm:DtCmd.sz m≤1048576):XCall Try.prog 7 [.agg (DtState.cells s),.agg (DtCmd.cells m)] [] (.tup [.agg [.arr 16 0 (stC s m).fCat.fSets.length,.arr 17 0 (stC s m).fSaid.length],.s (stR s m)]) [] [.own 2 ((stC s m).fCat.fSets.map DtCSet.cells),.own 3 ((stC s m).fSaid.map DtSaid.cells)]:=by
 have ⟨hz,hl⟩:=zkf s hs
 refine zbs Try.func7 (by rfl) (by rfl) (by rw [Try.ntmps7];exact Nat.le_of_ble_eq_true rfl) rfl (by simp) rfl rfl ?_
 rw [Try.ntmps7]
 refine zf1   ?_
 refine AW_k [(0,_),(1,_)] ⟨rfl,rfl,trivial⟩ ?_
 refine AW_x rfl rfl λK hK=>?_
 simp (disch:=omega)
 repeat' first|(refine ⟨by omega,?_⟩)|(intro _)
 refine hK _ ?_;clear hK K
 refine AW_x rfl rfl λK hK=>?_
 simp (disch:=omega)
 repeat' first|(exfalso;omega)|(refine zdh [] true [] (copyStateX s hs) ?_ ?_ ?_;(focus (simp [List.range_succ,nmC];done));(focus (simp (disch:=omega) [zbl];done));simp (disch:=omega))|(refine ⟨by omega,?_⟩)|(simp (disch:=omega))|(intro _)
 refine hK _ ?_;clear hK K
 refine zbi ?_
 refine AW_x rfl rfl λK hK=>?_
 simp (disch:=omega)
 repeat' first|(exfalso;omega)|(refine zc6 (zbe (zb6 rfl) zbo) (zm8 s (by omega)) rfl ?_;simp (disch:=omega))|(refine zc7 (zm8 s (by omega)) (by rfl) ?_ ?_;(focus (simp (disch:=omega) [zbl];done));simp (disch:=omega))|(refine ⟨by omega,?_⟩)|(simp (disch:=omega))|(intro _)
 refine hK _ ?_;clear hK K
 refine zbh rfl (λhc1=>?_) (λhc1=>?_)
 ·try simp [zG21,zbc,zbb] at hc1
  all_goals
   refine AW_x rfl rfl λK hK=>?_
   simp (disch:=omega)
   repeat' first|(exfalso;omega)|(refine ⟨λ_=>?_,λ_=>?_⟩)|(refine ⟨by omega,?_⟩)|(simp (disch:=omega))|(intro _)
   all_goals (refine hK _ ?_;clear hK K)
   all_goals
    refine zbp (zb0 [1000,1001] [(1000,2),(1001,3)] (by simp [zG20,List.range_succ]) (by simp) ?_)
    simp (disch:=omega)
    all_goals first | exact sd_f hc1 | exact zcg (st_m hc1 (by simp_all [zba,zbf])) | exact zcg (zwk hc1 ((zba _).mp (by assumption)) hc2 (by assumption) (by assumption) (by assumption)) | exact zcg (znf hc1 ((zba _).mp (by assumption)) hc2 (by assumption) (by assumption) (by assumption))|(have ⟨h1,h2⟩:=zng hc1 ((zba _).mp (by assumption)) hc2 (by assumption) (by assumption) (by omega);rw [h1,h2];exact ⟨rfl,by simp,rfl,rfl,by simp [newS,DtSaid.cells]⟩)|(have ⟨h1,h2⟩:=znh hc1 ((zba _).mp (by assumption)) hc2 (by assumption) (by assumption);rw [h1,h2];exact ⟨rfl,by simp;omega,rfl,rfl,by simp [newS,DtSaid.cells]⟩)|(have ⟨h1,h2⟩:=zni hc1 ((zba _).mp (by assumption)) hc2 (by omega);rw [h1,h2];exact ⟨rfl,by simp,rfl,rfl,by simp [newS,DtSaid.cells]⟩) | trace_state
 ·try simp [zG21,zbc,zbb] at hc1
  all_goals
   refine zbj ?_
   refine zbn ?_
   refine zbi ?_
   refine AW_x rfl rfl λK hK=>?_
   simp (disch:=omega)
   repeat' first|(exfalso;omega)|(refine zc6 (zbe (zb6 rfl) zbo) (zg9 m (by omega)) rfl ?_;simp (disch:=omega))|(refine zc7 (zg9 m (by omega)) (by rfl) ?_ ?_;(focus (simp (disch:=omega) [zbl];done));simp (disch:=omega))|(refine ⟨λ_=>?_,λ_=>?_⟩)|(refine ⟨by omega,?_⟩)|(simp (disch:=omega))|(intro _)
   all_goals (refine hK _ ?_;clear hK K)
   all_goals
    refine zbh rfl (λhc2=>?_) (λhc2=>?_)
    ·try simp [zG21,zbc,zbb] at hc2
     all_goals
      refine AW_x rfl rfl λK hK=>?_
      simp (disch:=omega)
      repeat' first|(exfalso;omega)|(refine ⟨λ_=>?_,λ_=>?_⟩)|(refine ⟨by omega,?_⟩)|(simp (disch:=omega))|(intro _)
      all_goals (refine hK _ ?_;clear hK K)
      all_goals
       refine zbp (zb0 [224,225] [] (by simp [zG20,List.range_succ]) (by simp) ?_)
       simp (disch:=omega)
       all_goals first | exact sd_f hc1 | exact zcg (st_m hc1 (by simp_all [zba,zbf])) | exact zcg (zwk hc1 ((zba _).mp (by assumption)) hc2 (by assumption) (by assumption) (by assumption)) | exact zcg (znf hc1 ((zba _).mp (by assumption)) hc2 (by assumption) (by assumption) (by assumption))|(have ⟨h1,h2⟩:=zng hc1 ((zba _).mp (by assumption)) hc2 (by assumption) (by assumption) (by omega);rw [h1,h2];exact ⟨rfl,by simp,rfl,rfl,by simp [newS,DtSaid.cells]⟩)|(have ⟨h1,h2⟩:=znh hc1 ((zba _).mp (by assumption)) hc2 (by assumption) (by assumption);rw [h1,h2];exact ⟨rfl,by simp;omega,rfl,rfl,by simp [newS,DtSaid.cells]⟩)|(have ⟨h1,h2⟩:=zni hc1 ((zba _).mp (by assumption)) hc2 (by omega);rw [h1,h2];exact ⟨rfl,by simp,rfl,rfl,by simp [newS,DtSaid.cells]⟩) | trace_state
    ·try simp [zG21,zbc,zbb] at hc2
     all_goals
      refine zbj ?_
      refine zbn ?_
      refine AW_x rfl rfl λK hK=>?_
      simp (disch:=omega)
      repeat' first|(exfalso;omega)|(refine XKd_r1 64 (.inl rfl) (zbt (DtCmd.cells m) rfl) (zbe zce (zbe zvs zbo)) (idxSaid s m hl) rfl ?_;simp (disch:=omega))|(refine ⟨λ_=>?_,λ_=>?_⟩)|(refine ⟨by omega,?_⟩)|(simp (disch:=omega))|(intro _)
      all_goals (refine hK _ ?_;clear hK K)
      all_goals
       have hbd:=saidI_bd s m
       refine AW_d rfl mix (by kernel_rfl) (by kernel_rfl) λK hK=>?_
       simp (disch:=omega)
       repeat' first|(exfalso;omega)|(refine ⟨λ_=>?_,λ_=>?_⟩)|(refine ⟨by omega,?_⟩)|(simp (disch:=omega))|(intro _)
       all_goals (refine hK _ _ (by kernel_rfl) ?_;clear hK K)
       all_goals
        refine zbi ?_
        refine AW_d rfl mix (by kernel_rfl) (by kernel_rfl) λK hK=>?_
        simp (disch:=omega)
        repeat' first|(exfalso;omega)|(refine ⟨λ_=>?_,λ_=>?_⟩)|(refine ⟨by omega,?_⟩)|(simp (disch:=omega))|(intro _)
        all_goals (refine hK _ _ (by kernel_rfl) ?_;clear hK K)
        all_goals
         refine zbh rfl (λhc3=>?_) (λhc3=>?_)
         ·try simp [zG21,zbc,zbb] at hc3
          all_goals
           refine AW_d rfl mix (by kernel_rfl) (by kernel_rfl) λK hK=>?_
           simp (disch:=omega)
           repeat' first|(exfalso;omega)|(refine ⟨λ_=>?_,λ_=>?_⟩)|(refine ⟨by omega,?_⟩)|(simp (disch:=omega))|(intro _)
           all_goals (refine hK _ _ (by kernel_rfl) ?_;clear hK K)
           all_goals
            refine zbp (zb0 [224,225] [] (by simp [zG20,List.range_succ]) (by simp) ?_)
            simp (disch:=omega)
            all_goals first | exact sd_f hc1 | exact zcg (st_m hc1 (by simp_all [zba,zbf])) | exact zcg (zwk hc1 ((zba _).mp (by assumption)) hc2 (by assumption) (by assumption) (by assumption)) | exact zcg (znf hc1 ((zba _).mp (by assumption)) hc2 (by assumption) (by assumption) (by assumption))|(have ⟨h1,h2⟩:=zng hc1 ((zba _).mp (by assumption)) hc2 (by assumption) (by assumption) (by omega);rw [h1,h2];exact ⟨rfl,by simp,rfl,rfl,by simp [newS,DtSaid.cells]⟩)|(have ⟨h1,h2⟩:=znh hc1 ((zba _).mp (by assumption)) hc2 (by assumption) (by assumption);rw [h1,h2];exact ⟨rfl,by simp;omega,rfl,rfl,by simp [newS,DtSaid.cells]⟩)|(have ⟨h1,h2⟩:=zni hc1 ((zba _).mp (by assumption)) hc2 (by omega);rw [h1,h2];exact ⟨rfl,by simp,rfl,rfl,by simp [newS,DtSaid.cells]⟩) | trace_state
         ·try simp [zG21,zbc,zbb] at hc3
          all_goals
           refine zbj ?_
           refine zbn ?_
           refine zbi ?_
           refine AW_d rfl mix (by kernel_rfl) (by kernel_rfl) λK hK=>?_
           simp (disch:=omega)
           repeat' first|(exfalso;omega)|(refine ⟨λ_=>?_,λ_=>?_⟩)|(refine ⟨by omega,?_⟩)|(simp (disch:=omega))|(intro _)
           all_goals (refine hK _ _ (by kernel_rfl) ?_;clear hK K)
           all_goals
            refine zbh rfl (λhc4=>?_) (λhc4=>?_)
            ·try simp [zG21,zbc,zbb] at hc4
             all_goals
              refine AW_x rfl rfl λK hK=>?_
              simp (disch:=omega)
              repeat' first|(exfalso;omega)|(refine ⟨λ_=>?_,λ_=>?_⟩)|(refine ⟨by omega,?_⟩)|(simp (disch:=omega))|(intro _)
              all_goals (refine hK _ ?_;clear hK K)
              all_goals
               refine zbp (zb0 [224,225] [] (by simp [zG20,List.range_succ]) (by simp) ?_)
               simp (disch:=omega)
               all_goals first | exact sd_f hc1 | exact zcg (st_m hc1 (by simp_all [zba,zbf])) | exact zcg (zwk hc1 ((zba _).mp (by assumption)) hc2 (by assumption) (by assumption) (by assumption)) | exact zcg (znf hc1 ((zba _).mp (by assumption)) hc2 (by assumption) (by assumption) (by assumption))|(have ⟨h1,h2⟩:=zng hc1 ((zba _).mp (by assumption)) hc2 (by assumption) (by assumption) (by omega);rw [h1,h2];exact ⟨rfl,by simp,rfl,rfl,by simp [newS,DtSaid.cells]⟩)|(have ⟨h1,h2⟩:=znh hc1 ((zba _).mp (by assumption)) hc2 (by assumption) (by assumption);rw [h1,h2];exact ⟨rfl,by simp;omega,rfl,rfl,by simp [newS,DtSaid.cells]⟩)|(have ⟨h1,h2⟩:=zni hc1 ((zba _).mp (by assumption)) hc2 (by omega);rw [h1,h2];exact ⟨rfl,by simp,rfl,rfl,by simp [newS,DtSaid.cells]⟩) | trace_state
            ·try simp [zG21,zbc,zbb] at hc4
             all_goals
              refine zbj ?_
              refine zbn ?_
              refine AW_x rfl rfl λK hK=>?_
              simp (disch:=omega)
              repeat' first|(exfalso;omega)|(refine zdh [] true [] (implCatC s.fCat m hz hm) ?_ ?_ ?_;(focus (simp [List.range_succ,nmC];done));(focus (simp (disch:=omega) [zbl];done));simp (disch:=omega))|(refine ⟨λ_=>?_,λ_=>?_⟩)|(refine ⟨by omega,?_⟩)|(simp (disch:=omega))|(intro _)
              all_goals (refine hK _ ?_;clear hK K)
              all_goals
               refine AW_x rfl rfl λK hK=>?_
               simp (disch:=omega)
               repeat' first|(refine ⟨by omega,?_⟩)|(simp (disch:=omega))|(intro _)
               refine hK _ ?_;clear hK K
               refine AW_x rfl rfl λK hK=>?_
               simp (disch:=omega)
               repeat' first|(refine ⟨by omega,?_⟩)|(simp (disch:=omega))|(intro _)
               refine hK _ ?_;clear hK K
               refine zbi ?_
               refine zbm ?_
               refine AW_x rfl rfl λK hK=>?_
               simp (disch:=omega)
               repeat' first|(refine ⟨by omega,?_⟩)|(intro _)
               refine hK _ ?_;clear hK K
               refine zbh rfl (λhc5=>?_) (λhc5=>?_)
               ·try simp [zG21,zbc,zbb] at hc5
                all_goals
                 refine zb3 rfl rfl λK hK=>?_
                 simp (disch:=omega)
                 repeat' first|(exfalso;omega)|(refine ⟨λ_=>?_,λ_=>?_⟩)|(refine ⟨by omega,?_⟩)|(simp (disch:=omega))|(intro _)
                 all_goals (refine hK _ ?_;clear hK K)
                 all_goals
                  refine zbn ?_
                  refine AW_x rfl rfl λK hK=>?_
                  simp (disch:=omega)
                  repeat' first|(refine ⟨by omega,?_⟩)|(simp (disch:=omega))|(intro _)
                  refine hK _ ?_;clear hK K
                  refine zbp (zb0 [1296,225] [] (by simp [zG20,List.range_succ]) (by simp) ?_)
                  simp (disch:=omega)
                  all_goals first | exact sd_f hc1 | exact zcg (st_m hc1 (by simp_all [zba,zbf])) | exact zcg (zwk hc1 ((zba _).mp (by assumption)) hc2 (by assumption) (by assumption) (by assumption)) | exact zcg (znf hc1 ((zba _).mp (by assumption)) hc2 (by assumption) (by assumption) (by assumption))|(have ⟨h1,h2⟩:=zng hc1 ((zba _).mp (by assumption)) hc2 (by assumption) (by assumption) (by omega);rw [h1,h2];exact ⟨rfl,by simp,rfl,rfl,by simp [newS,DtSaid.cells]⟩)|(have ⟨h1,h2⟩:=znh hc1 ((zba _).mp (by assumption)) hc2 (by assumption) (by assumption);rw [h1,h2];exact ⟨rfl,by simp;omega,rfl,rfl,by simp [newS,DtSaid.cells]⟩)|(have ⟨h1,h2⟩:=zni hc1 ((zba _).mp (by assumption)) hc2 (by omega);rw [h1,h2];exact ⟨rfl,by simp,rfl,rfl,by simp [newS,DtSaid.cells]⟩) | trace_state
               ·try simp [zG21,zbc,zbb] at hc5
                all_goals
                 refine AW_x rfl rfl λK hK=>?_
                 simp (disch:=omega)
                 repeat' first|(exfalso;omega)|(refine ⟨λ_=>?_,λ_=>?_⟩)|(refine ⟨by omega,?_⟩)|(simp (disch:=omega))|(intro _)
                 all_goals (refine hK _ ?_;clear hK K)
                 all_goals
                  refine zbh rfl (λhc6=>?_) (λhc6=>?_)
                  ·try simp [zG21,zbc,zbb] at hc6
                   all_goals
                    refine zb3 rfl rfl λK hK=>?_
                    simp (disch:=omega)
                    repeat' first|(exfalso;omega)|(refine zdh [225,1792] true [] (zwl s.fSaid (newS m (catR s.fCat m)) (saidI s m) (by omega) (by omega) hl) ?_ ?_ ?_;(focus (simp [List.range_succ,nmC];done));(focus (simp (disch:=omega) [zbl];done));simp (disch:=omega))|(refine ⟨λ_=>?_,λ_=>?_⟩)|(refine ⟨by omega,?_⟩)|(simp (disch:=omega))|(intro _)
                    all_goals (refine hK _ ?_;clear hK K)
                    all_goals
                     refine zbn ?_
                     refine AW_x rfl rfl λK hK=>?_
                     simp (disch:=omega)
                     repeat' first|(refine ⟨by omega,?_⟩)|(simp (disch:=omega))|(intro _)
                     refine hK _ ?_;clear hK K
                     refine zbp (zb0 [1296,1808] [] (by simp [zG20,List.range_succ]) (by simp) ?_)
                     simp (disch:=omega)
                     all_goals first | exact sd_f hc1 | exact zcg (st_m hc1 (by simp_all [zba,zbf])) | exact zcg (zwk hc1 ((zba _).mp (by assumption)) hc2 (by assumption) (by assumption) (by assumption)) | exact zcg (znf hc1 ((zba _).mp (by assumption)) hc2 (by assumption) (by assumption) (by assumption))|(have ⟨h1,h2⟩:=zng hc1 ((zba _).mp (by assumption)) hc2 (by assumption) (by assumption) (by omega);rw [h1,h2];exact ⟨rfl,by simp,rfl,rfl,by simp [newS,DtSaid.cells]⟩)|(have ⟨h1,h2⟩:=znh hc1 ((zba _).mp (by assumption)) hc2 (by assumption) (by assumption);rw [h1,h2];exact ⟨rfl,by simp;omega,rfl,rfl,by simp [newS,DtSaid.cells]⟩)|(have ⟨h1,h2⟩:=zni hc1 ((zba _).mp (by assumption)) hc2 (by omega);rw [h1,h2];exact ⟨rfl,by simp,rfl,rfl,by simp [newS,DtSaid.cells]⟩) | trace_state
                  ·try simp [zG21,zbc,zbb] at hc6
                   all_goals
                    refine AW_wn (sz:=3) 225 (zcw s.fSaid) (by simp [zG20]) ?_
                    refine zb3 rfl rfl λK hK=>?_
                    simp (disch:=omega)
                    repeat' first|(exfalso;omega)|(refine ⟨λ_=>?_,λ_=>?_⟩)|(refine ⟨by omega,?_⟩)|(simp (disch:=omega))|(intro _)
                    all_goals (refine hK _ ?_;clear hK K)
                    all_goals
                     refine zbn ?_
                     refine AW_x rfl rfl λK hK=>?_
                     simp (disch:=omega)
                     repeat' first|(refine ⟨by omega,?_⟩)|(simp (disch:=omega))|(intro _)
                     refine hK _ ?_;clear hK K
                     refine zbp (zb0 [1296,1536] [] (by simp [zG20,List.range_succ]) (by simp) ?_)
                     simp (disch:=omega)
                     all_goals first | exact sd_f hc1 | exact zcg (st_m hc1 (by simp_all [zba,zbf])) | exact zcg (zwk hc1 ((zba _).mp (by assumption)) hc2 (by assumption) (by assumption) (by assumption)) | exact zcg (znf hc1 ((zba _).mp (by assumption)) hc2 (by assumption) (by assumption) (by assumption))|(have ⟨h1,h2⟩:=zng hc1 ((zba _).mp (by assumption)) hc2 (by assumption) (by assumption) (by omega);rw [h1,h2];exact ⟨rfl,by simp,rfl,rfl,by simp [newS,DtSaid.cells]⟩)|(have ⟨h1,h2⟩:=znh hc1 ((zba _).mp (by assumption)) hc2 (by assumption) (by assumption);rw [h1,h2];exact ⟨rfl,by simp;omega,rfl,rfl,by simp [newS,DtSaid.cells]⟩)|(have ⟨h1,h2⟩:=zni hc1 ((zba _).mp (by assumption)) hc2 (by omega);rw [h1,h2];exact ⟨rfl,by simp,rfl,rfl,by simp [newS,DtSaid.cells]⟩) | trace_state
end Go.Proofs.Ytodmafgmdlkhoaa.Vs
end
section
namespace Go.Proofs.Ytodmafgmdlkhoaa.Vs
set_option linter.all false
set_option maxRecDepth 100000
set_option maxHeartbeats 2000000
attribute [local simp] DtState.cells DtCatalog.cells DtSaid.cells DtCmd.cells zbl and_assoc zcw List.range_succ newS
theorem zh7(s:DtState)(m:DtCmd)(hs:DtState.sz s≤1048576)(hm:DtCmd.sz m≤1048576):XCall Try.prog 8 [.agg (DtState.cells s),.agg (DtCmd.cells m)] [] (.tup [.agg [.arr 16 0 (stC s m).fCat.fSets.length,.arr 17 0 (stC s m).fSaid.length],.s (stR s m)]) [] [.own 2 ((stC s m).fCat.fSets.map DtCSet.cells),.own 3 ((stC s m).fSaid.map DtSaid.cells)]:=by
 have ⟨hz,hl⟩:=zkf s hs
 refine zbs Try.func8 (by rfl) (by rfl) (by rw [Try.ntmps8];exact Nat.le_of_ble_eq_true rfl) rfl (by simp) rfl rfl ?_
 rw [Try.ntmps8]
 refine zf1   ?_
 refine AW_k [(0,_),(1,_)] ⟨rfl,rfl,trivial⟩ ?_
 refine AW_x rfl rfl λK hK=>?_
 simp (disch:=omega)
 repeat' first|(refine ⟨by omega,?_⟩)|(intro _)
 refine hK _ ?_;clear hK K
 refine zbi ?_
 refine AW_x rfl rfl λK hK=>?_
 simp (disch:=omega)
 repeat' first|(exfalso;omega)|(refine zc6 (zbe (zb6 rfl) zbo) (zm7 s (by omega)) rfl ?_;simp (disch:=omega))|(refine zc7 (zm7 s (by omega)) (by rfl) ?_ ?_;(focus (simp (disch:=omega) [zbl];done));simp (disch:=omega))|(refine ⟨by omega,?_⟩)|(simp (disch:=omega))|(intro _)
 refine hK _ ?_;clear hK K
 refine zbh rfl (λhc1=>?_) (λhc1=>?_)
 ·try simp [zG21,zbc,zbb] at hc1
  all_goals
   refine AW_x rfl rfl λK hK=>?_
   simp (disch:=omega)
   repeat' first|(exfalso;omega)|(refine ⟨λ_=>?_,λ_=>?_⟩)|(refine ⟨by omega,?_⟩)|(simp (disch:=omega))|(intro _)
   all_goals (refine hK _ ?_;clear hK K)
   all_goals
    refine zbp (zb0 [1000,1001] [(1000,2),(1001,3)] (by simp [zG20,List.range_succ]) (by simp) ?_)
    simp (disch:=omega)
    all_goals first | exact sd_f hc1 | exact zcg (st_m hc1 (by simp_all [zba,zbf])) | exact zcg (ztk hc1 (by simp_all [zba,zbf]) (by simp_all [zba,zbf]) (by assumption) (by assumption) (by assumption)) | exact zcg (znj hc1 (by simp_all [zba,zbf]) (by simp_all [zba,zbf]) (by assumption) (by assumption) (by assumption))|(simp only [newS] at hpg;rw [hgo.1,hgo.2,hpg];exact ⟨rfl,rfl,rfl,rfl,rfl⟩) | trace_state
 ·try simp [zG21,zbc,zbb] at hc1
  all_goals
   refine zbj ?_
   refine zbn ?_
   refine AW_x rfl rfl λK hK=>?_
   simp (disch:=omega)
   repeat' first|(exfalso;omega)|(refine zdh [] true [] (l16CopyX s hs) ?_ ?_ ?_;(focus (simp [List.range_succ,nmC];done));(focus (simp (disch:=omega) [zbl];done));simp (disch:=omega))|(refine ⟨λ_=>?_,λ_=>?_⟩)|(refine ⟨by omega,?_⟩)|(simp (disch:=omega))|(intro _)
   all_goals (refine hK _ ?_;clear hK K)
   all_goals
    refine zbi ?_
    refine AW_x rfl rfl λK hK=>?_
    simp (disch:=omega)
    repeat' first|(exfalso;omega)|(refine zc6 (zbe (zb6 rfl) zbo) (zfy m (by omega)) rfl ?_;simp (disch:=omega))|(refine zc7 (zfy m (by omega)) (by rfl) ?_ ?_;(focus (simp (disch:=omega) [zbl];done));simp (disch:=omega))|(refine ⟨λ_=>?_,λ_=>?_⟩)|(refine ⟨by omega,?_⟩)|(simp (disch:=omega))|(intro _)
    all_goals (refine hK _ ?_;clear hK K)
    all_goals
     refine zbh rfl (λhc2=>?_) (λhc2=>?_)
     ·try simp [zG21,zbc,zbb] at hc2
      all_goals
       refine AW_x rfl rfl λK hK=>?_
       simp (disch:=omega)
       repeat' first|(exfalso;omega)|(refine ⟨λ_=>?_,λ_=>?_⟩)|(refine ⟨by omega,?_⟩)|(simp (disch:=omega))|(intro _)
       all_goals (refine hK _ ?_;clear hK K)
       all_goals
        refine zbp (zb0 [256,257] [] (by simp [zG20,List.range_succ]) (by simp) ?_)
        simp (disch:=omega)
        all_goals first | exact sd_f hc1 | exact zcg (st_m hc1 (by simp_all [zba,zbf])) | exact zcg (ztk hc1 (by simp_all [zba,zbf]) (by simp_all [zba,zbf]) (by assumption) (by assumption) (by assumption)) | exact zcg (znj hc1 (by simp_all [zba,zbf]) (by simp_all [zba,zbf]) (by assumption) (by assumption) (by assumption))|(simp only [newS] at hpg;rw [hgo.1,hgo.2,hpg];exact ⟨rfl,rfl,rfl,rfl,rfl⟩) | trace_state
     ·try simp [zG21,zbc,zbb] at hc2
      all_goals
       refine zbj ?_
       refine zbn ?_
       refine zbi ?_
       refine AW_x rfl rfl λK hK=>?_
       simp (disch:=omega)
       repeat' first|(exfalso;omega)|(refine ⟨λ_=>?_,λ_=>?_⟩)|(refine ⟨by omega,?_⟩)|(simp (disch:=omega))|(intro _)
       all_goals (refine hK _ ?_;clear hK K)
       all_goals
        refine zbm ?_
        refine zbv (λmM sS=>∃(i:Nat),mM=s.fSaid.length-i∧(i≤s.fSaid.length∧∀j (hj:j<s.fSaid.length),j<i→s.fSaid[j].fClient=m.fClient→s.fSaid[j].fNo<m.fNo)∧sS = { env:=lkE [(2,.ptr 48 0),(3,.ptr 64 0),(4,.ptr 80 0),(5,.s []),(6,.ptr 112 0),(7,(.g (.int .i64 ((i:Nat)))))],ob:=lk [(48,.cells (DtState.cells s)),(64,.cells (DtCmd.cells m)),(80,.cells [.g (.slice none 0 0),.g (.slice none 0 0)]),(112,.cells [.arr 256 0 s.fCat.fSets.length,.arr 257 0 s.fSaid.length]),(256,.own 2 (s.fCat.fSets.map DtCSet.cells)),(257,.own 3 (s.fSaid.map DtSaid.cells))] }) ?_ ?_
        ·refine ⟨_,LeS.kx [(48,48),(64,64),(80,80),(112,112),(256,256),(257,257)] [(2,.ptr 48 0),(3,.ptr 64 0),(4,.ptr 80 0),(5,.s []),(6,.ptr 112 0),(7,(.g (.int .i64 (((0):Nat)))))] [(48,.cells (DtState.cells s)),(64,.cells (DtCmd.cells m)),(80,.cells [.g (.slice none 0 0),.g (.slice none 0 0)]),(112,.cells [.arr 256 0 s.fCat.fSets.length,.arr 257 0 s.fSaid.length]),(256,.own 2 (s.fCat.fSets.map DtCSet.cells)),(257,.own 3 (s.fSaid.map DtSaid.cells))] (by simp [zG20,KpR,renV2,renV,zbk,DtState.cells,DtCatalog.cells,DtCmd.cells,List.range_succ];first|(simp;done) | omega | trace_state) (by simp [zG20,KpOX,renO,plO,cvO,renV,pl1,DtState.cells,DtCatalog.cells,DtCmd.cells,List.range_succ];first | rfl|(simp;done) | trace_state) (by rfl) (by simp) (by simp) (by rfl) (by simp [formsX,List.range_succ,zbq,zby]),_,0,rfl,?_,rfl⟩
         ·exact ⟨by omega,λj hj h=>by omega⟩
        ·rintro mM sS ⟨i,rfl,⟨hi,hpre⟩,rfl⟩
         refine zbi ?_
         refine AW_x rfl rfl λK hK=>?_
         simp (disch:=omega)
         repeat' first|(refine ⟨by omega,?_⟩)|(simp (disch:=omega))|(intro _)
         refine hK _ ?_;clear hK K
         refine zbh rfl (λhc3=>?_) (λhc3=>?_)
         ·try simp [zG21,zbc,zbb] at hc3
          all_goals
           have hg:s.fSaid[i]? = some s.fSaid[i]:=List.getElem?_eq_getElem (by omega)
           refine zbj ?_
           refine zbn ?_
           refine zbi ?_
           refine zbm ?_
           refine zbi ?_
           refine AW_d rfl mix (by kernel_rfl) (by kernel_rfl) λK hK=>?_
           simp (disch:=omega)
           repeat' first|(exfalso;omega)|(refine ⟨λ_=>?_,λ_=>?_⟩)|(refine ⟨by omega,?_⟩)|(simp (disch:=omega))|(intro _)
           all_goals (refine hK _ _ (by kernel_rfl) ?_;clear hK K)
           all_goals
            refine zbh rfl (λhc4=>?_) (λhc4=>?_)
            ·try simp [zG21,zbc,zbb] at hc4
             all_goals
              refine zbx ?_
              refine zbn ?_
              refine zb3 rfl rfl λK hK=>?_
              simp (disch:=omega)
              repeat' first|(exfalso;omega)|(refine ⟨λ_=>?_,λ_=>?_⟩)|(refine ⟨by omega,?_⟩)|(simp (disch:=omega))|(intro _)
              all_goals (refine hK _ ?_;clear hK K)
              all_goals
               refine ⟨_,LeS.kx [(48,48),(64,64),(80,80),(112,112),(256,256),(257,257)] [(2,.ptr 48 0),(3,.ptr 64 0),(4,.ptr 80 0),(5,.s []),(6,.ptr 112 0),(7,(.g (.int .i64 (((i+1):Nat)))))] [(48,.cells (DtState.cells s)),(64,.cells (DtCmd.cells m)),(80,.cells [.g (.slice none 0 0),.g (.slice none 0 0)]),(112,.cells [.arr 256 0 s.fCat.fSets.length,.arr 257 0 s.fSaid.length]),(256,.own 2 (s.fCat.fSets.map DtCSet.cells)),(257,.own 3 (s.fSaid.map DtSaid.cells))] (by simp [zG20,KpR,renV2,renV,zbk,DtState.cells,DtCatalog.cells,DtCmd.cells,List.range_succ];first|(simp;done) | omega | trace_state) (by simp [zG20,KpOX,renO,plO,cvO,renV,pl1,DtState.cells,DtCatalog.cells,DtCmd.cells,List.range_succ];first | rfl|(simp;done) | trace_state) (by rfl) (by simp) (by simp) (by rfl) (by simp [formsX,List.range_succ,zbq,zby]),_,?_,i+1,rfl,?_,rfl⟩
               ·omega
               ·refine ⟨by omega,λj hj h e=>?_⟩
                by_cases hji:j=i
                ·subst hji;first | omega|(simp_all;omega) | simp_all
                ·exact hpre j hj (by omega) e
            ·try simp [zG21,zbc,zbb] at hc4
             all_goals
              refine zbj ?_
              refine zbn ?_
              refine zbi ?_
              refine AW_d rfl mix (by kernel_rfl) (by kernel_rfl) λK hK=>?_
              simp (disch:=omega)
              repeat' first|(exfalso;omega)|(refine ⟨λ_=>?_,λ_=>?_⟩)|(refine ⟨by omega,?_⟩)|(simp (disch:=omega))|(intro _)
              all_goals (refine hK _ _ (by kernel_rfl) ?_;clear hK K)
              all_goals
               refine zbh rfl (λhc5=>?_) (λhc5=>?_)
               ·try simp [zG21,zbc,zbb] at hc5
                all_goals
                 refine AW_d rfl mix (by kernel_rfl) (by kernel_rfl) λK hK=>?_
                 simp (disch:=omega)
                 repeat' first|(exfalso;omega)|(refine ⟨λ_=>?_,λ_=>?_⟩)|(refine ⟨by omega,?_⟩)|(simp (disch:=omega))|(intro _)
                 all_goals (refine hK _ _ (by kernel_rfl) ?_;clear hK K)
                 all_goals
                  refine zbp (zb0 [256,257] [] (by simp [zG20,List.range_succ]) (by simp) ?_)
                  simp (disch:=omega)
                  all_goals first | exact sd_f hc1 | exact zcg (st_m hc1 (by simp_all [zba,zbf])) | exact zcg (ztk hc1 (by simp_all [zba,zbf]) (by simp_all [zba,zbf]) (by assumption) (by assumption) (by assumption)) | exact zcg (znj hc1 (by simp_all [zba,zbf]) (by simp_all [zba,zbf]) (by assumption) (by assumption) (by assumption))|(simp only [newS] at hpg;rw [hgo.1,hgo.2,hpg];exact ⟨rfl,rfl,rfl,rfl,rfl⟩) | trace_state
               ·try simp [zG21,zbc,zbb] at hc5
                all_goals
                 refine zbj ?_
                 refine zbn ?_
                 refine AW_d rfl mix (by kernel_rfl) (by kernel_rfl) λK hK=>?_
                 simp (disch:=omega)
                 repeat' first|(exfalso;omega)|(refine ⟨λ_=>?_,λ_=>?_⟩)|(refine ⟨by omega,?_⟩)|(simp (disch:=omega))|(intro _)
                 all_goals (refine hK _ _ (by kernel_rfl) ?_;clear hK K)
                 all_goals
                  refine zbh rfl (λhc6=>?_) (λhc6=>?_)
                  ·try simp [zG21,zbc,zbb] at hc6
                   all_goals
                    refine AW_x rfl rfl λK hK=>?_
                    simp (disch:=omega)
                    repeat' first|(exfalso;omega)|(refine ⟨λ_=>?_,λ_=>?_⟩)|(refine ⟨by omega,?_⟩)|(simp (disch:=omega))|(intro _)
                    all_goals (refine hK _ ?_;clear hK K)
                    all_goals
                     refine zbp (zb0 [256,257] [] (by simp [zG20,List.range_succ]) (by simp) ?_)
                     simp (disch:=omega)
                     all_goals first | exact sd_f hc1 | exact zcg (st_m hc1 (by simp_all [zba,zbf])) | exact zcg (ztk hc1 (by simp_all [zba,zbf]) (by simp_all [zba,zbf]) (by assumption) (by assumption) (by assumption)) | exact zcg (znj hc1 (by simp_all [zba,zbf]) (by simp_all [zba,zbf]) (by assumption) (by assumption) (by assumption))|(simp only [newS] at hpg;rw [hgo.1,hgo.2,hpg];exact ⟨rfl,rfl,rfl,rfl,rfl⟩) | trace_state
                  ·try simp [zG21,zbc,zbb] at hc6
                   all_goals
                    refine zbj ?_
                    refine zbn ?_
                    refine zb3 rfl rfl λK hK=>?_
                    simp (disch:=omega)
                    repeat' first|(exfalso;omega)|(refine ⟨λ_=>?_,λ_=>?_⟩)|(refine ⟨by omega,?_⟩)|(simp (disch:=omega))|(intro _)
                    all_goals (refine hK _ ?_;clear hK K)
                    all_goals
                     refine ⟨_,LeS.kx [(48,48),(64,64),(80,80),(112,112),(256,256),(257,257)] [(2,.ptr 48 0),(3,.ptr 64 0),(4,.ptr 80 0),(5,.s []),(6,.ptr 112 0),(7,(.g (.int .i64 (((i+1):Nat)))))] [(48,.cells (DtState.cells s)),(64,.cells (DtCmd.cells m)),(80,.cells [.g (.slice none 0 0),.g (.slice none 0 0)]),(112,.cells [.arr 256 0 s.fCat.fSets.length,.arr 257 0 s.fSaid.length]),(256,.own 2 (s.fCat.fSets.map DtCSet.cells)),(257,.own 3 (s.fSaid.map DtSaid.cells))] (by simp [zG20,KpR,renV2,renV,zbk,DtState.cells,DtCatalog.cells,DtCmd.cells,List.range_succ];first|(simp;done) | omega | trace_state) (by simp [zG20,KpOX,renO,plO,cvO,renV,pl1,DtState.cells,DtCatalog.cells,DtCmd.cells,List.range_succ];first | rfl|(simp;done) | trace_state) (by rfl) (by simp) (by simp) (by rfl) (by simp [formsX,List.range_succ,zbq,zby]),_,?_,i+1,rfl,?_,rfl⟩
                     ·omega
                     ·refine ⟨by omega,λj hj h e=>?_⟩
                      by_cases hji:j=i
                      ·subst hji;first | omega|(simp_all;omega) | simp_all
                      ·exact hpre j hj (by omega) e
         ·try simp [zG21,zbc,zbb] at hc3
          all_goals
           have hpg:putG (newS m (catR s.fCat m)) false s.fSaid=putL (newS m (catR s.fCat m)) s.fSaid:=putG_L _ _ (zlp hc1)
           have hgo:=st_go hc1 (by simp_all [zba,zbf]) (by simp_all [zba,zbf]) (λj hj e=>hpre j hj (by omega) e)
           refine zbx ?_
           refine zbn ?_
           refine AW_x rfl rfl λK hK=>?_
           simp (disch:=omega)
           repeat' first|(exfalso;omega)|(refine zdh [] true [] (specCatC s.fCat m hz hm) ?_ ?_ ?_;(focus (simp [List.range_succ,nmC];done));(focus (simp (disch:=omega) [zbl];done));simp (disch:=omega))|(refine ⟨λ_=>?_,λ_=>?_⟩)|(refine ⟨by omega,?_⟩)|(simp (disch:=omega))|(intro _)
           all_goals (refine hK _ ?_;clear hK K)
           all_goals
            refine AW_x rfl rfl λK hK=>?_
            simp (disch:=omega)
            repeat' first|(refine ⟨by omega,?_⟩)|(simp (disch:=omega))|(intro _)
            refine hK _ ?_;clear hK K
            refine AW_x rfl rfl λK hK=>?_
            simp (disch:=omega)
            repeat' first|(exfalso;omega)|(refine zdh [] true [] (l16PutX s.fSaid hl (newS m (catR s.fCat m))) ?_ ?_ ?_;(focus (simp [List.range_succ,nmC];done));(focus (simp (disch:=omega) [zbl];done));simp (disch:=omega))|(refine ⟨by omega,?_⟩)|(simp (disch:=omega))|(intro _)
            refine hK _ ?_;clear hK K
            refine AW_x rfl rfl λK hK=>?_
            simp (disch:=omega)
            repeat' first|(refine ⟨by omega,?_⟩)|(simp (disch:=omega))|(intro _)
            refine hK _ ?_;clear hK K
            refine zbp (zb0 [1152,1360] [] (by simp [zG20,List.range_succ]) (by simp) ?_)
            simp (disch:=omega)
            all_goals first | exact sd_f hc1 | exact zcg (st_m hc1 (by simp_all [zba,zbf])) | exact zcg (ztk hc1 (by simp_all [zba,zbf]) (by simp_all [zba,zbf]) (by assumption) (by assumption) (by assumption)) | exact zcg (znj hc1 (by simp_all [zba,zbf]) (by simp_all [zba,zbf]) (by assumption) (by assumption) (by assumption))|(simp only [newS] at hpg;rw [hgo.1,hgo.2,hpg];exact ⟨rfl,rfl,rfl,rfl,rfl⟩) | trace_state
end Go.Proofs.Ytodmafgmdlkhoaa.Vs
end
section
namespace Go.Proofs.Ytodmafgmdlkhoaa.Vs
set_option linter.all false
/-! states in a row of commands -/
theorem zre(c:DtCatalog)(m:DtCmd):(catR c m).length≤200:=by
 by_cases h:CatP c
 ·by_cases hm:CmdP m
  ·have hsets:∀k (hk:k<c.fSets.length),SetP c.fSets[k]:=λk hk=>(h.2 k _ (List.getElem?_eq_getElem hk)).1
   by_cases h0:m.fKind=0
   ·rw [(zq7 h hm h0).2];simp
   ·by_cases h1:m.fKind=1
    ·rw [(zq8 h hm h1).2];unfold creR;(repeat' split)<;>decide
    ·by_cases h7:m.fKind=7
     ·rw [(zq9 h hm h7).2]
      have:=zxr 8 (namL c.fSets) λx hx=>by
       obtain ⟨s,hs',rfl⟩:=List.mem_map.1 hx
       obtain ⟨k,hk,rfl⟩:=List.getElem_of_mem hs'
       exact (hsets k hk).1.2.1
      rw [zfi] at this
      have:=h.1
      omega
     ·by_cases hf:findS c.fSets m.fSet<0
      ·rw [(zra h hm h0 h1 h7 hf).2];decide
      ·obtain ⟨k,hkz⟩:=Int.eq_ofNat_of_zero_le (Int.not_lt.1 hf)
       have hk:=zln hkz
       rw [(cat_k h hm h0 h1 h7 hkz).2]
       by_cases h2:m.fKind=2
       ·rw [(set_2 h2).2];decide
       ·by_cases h3:m.fKind=3
        ·rw [(set_3 hk h3).2];unfold comR;(repeat' split)<;>decide
        ·by_cases h4:m.fKind=4
         ·rw [(set_4 hk h4).2];unfold tagR;split<;>decide
         ·by_cases h5:m.fKind=5
          ·rw [(set_5 hk h5).2];simp [digN]
          ·rw [(set_6 hk h2 h3 h4 h5).2]
           have:=zxr 17 (tldL c.fSets[k]) λx hx=>by
            obtain ⟨p,hp,rfl⟩:=List.mem_map.1 hx
            obtain ⟨j,hj,rfl⟩:=List.getElem_of_mem hp
            have h3:=((hsets k hk).2.2 j _ (List.getElem?_eq_getElem hj)).1
            have ha:(c.fSets[k].fSnaps[j]).fName.length≤8:=by grind [SnapP,Word]
            have hb:(c.fSets[k].fSnaps[j]).fTag.length≤8:=by grind [SnapP,Word]
            simp only [List.length_append,List.length_cons]
            omega
           have h4:=(hsets k hk).2.1
           have h5:(tldL c.fSets[k]).length=c.fSets[k].fSnaps.length:=by simp [tldL]
           rw [h5] at this
           omega
  ·rw [(zq6 h hm).2];simp
 ·rw [(zq5 h).2];simp
def SaidW(x:DtSaid):Prop:=1≤x.fClient∧x.fClient≤9∧1≤x.fNo∧x.fNo≤1000
theorem stateP_of{s:DtState}(h1:CatP s.fCat)(h2:∀x∈s.fSaid,SaidW x)(h3:Cl s.fSaid):StateP s:=by
 refine ⟨h1,λi x hx=>?_⟩
 obtain ⟨hi,rfl⟩:=List.getElem?_eq_some_iff.1 hx
 obtain ⟨a,b,c,d⟩:=h2 _ (List.getElem_mem hi)
 refine ⟨a,b,c,d,λy h0 hy=>?_⟩
 obtain ⟨hj,rfl⟩:=List.getElem?_eq_some_iff.1 hy
 exact List.pairwise_iff_getElem.1 h3 (i-1) i hj hi (by omega)
theorem zx1{s:DtState}(h:StateP s):∀x∈s.fSaid,SaidW x:=by
 intro x hx
 obtain ⟨i,hi,rfl⟩:=List.getElem_of_mem hx
 have:=h.2 i _ (List.getElem?_eq_getElem hi)
 exact ⟨this.1,this.2.1,this.2.2.1,this.2.2.2.1⟩
theorem zlr(x:DtSaid):∀(l:List DtSaid) (y:DtSaid),y∈putL x l→y=x∨y∈l
 | [],y,h=>by rw [putL] at h;exact .inl (List.mem_singleton.1 h)
 | z :: l,y,h=>by
  rw [putL] at h
  split at h
  ·rcases List.mem_cons.1 h with rfl | h
   ·exact .inr List.mem_cons_self
   ·exact (zlr x l y h).imp id (List.mem_cons_of_mem _)
  ·split at h
   ·rcases List.mem_cons.1 h with rfl | h
    ·exact .inl rfl
    ·exact .inr (List.mem_cons_of_mem _ h)
   ·rcases List.mem_cons.1 h with rfl | h
    ·exact .inl rfl
    ·exact .inr h
theorem putL_cl(x:DtSaid):∀(l:List DtSaid),Cl l→Cl (putL x l)
 | [],_=>by rw [putL];exact List.pairwise_singleton _ _
 | z :: l,h=>by
  obtain ⟨h1,h2⟩:=List.pairwise_cons.1 h
  rw [putL]
  split
  ·refine List.pairwise_cons.2 ⟨λy hy=>?_,putL_cl x l h2⟩
   rcases zlr x l y hy with rfl | hy
   ·assumption
   ·exact h1 y hy
  ·split
   ·refine List.pairwise_cons.2 ⟨λy hy=>?_,h2⟩
    have:=h1 y hy
    omega
   ·refine List.pairwise_cons.2 ⟨λy hy=>?_,h⟩
    rcases List.mem_cons.1 hy with rfl | hy
    ·omega
    ·have:=h1 y hy
     omega
theorem cl_len:∀(l:List DtSaid) (a:Int),Cl l→(∀x∈l,a<x.fClient∧x.fClient≤9)→a≤9→(l.length:Int)≤9-a
 | [],a,_,_,h=>by simp;omega
 | z :: l,a,h,hb,ha=>by
  obtain ⟨h1,h2⟩:=List.pairwise_cons.1 h
  have hz:=hb z List.mem_cons_self
  have:=cl_len l z.fClient h2 (λx hx=>⟨h1 x hx,(hb x (List.mem_cons_of_mem _ hx)).2⟩) hz.2
  simp only [List.length_cons]
  omega
/-- A state that came out of commands. -/
def StI(s:DtState):Prop:=StateP s∧∀x∈s.fSaid,x.fText.length≤200
theorem catP_nil':CatP { fSets:=[] }:=⟨by simp,by simp⟩
def st0S:DtState:={ fCat:={ fSets:=[] },fSaid:=[] }
theorem stI_nil:StI st0S:=⟨⟨catP_nil',by simp [st0S]⟩,by simp [st0S]⟩
theorem stN_P{s:DtState}(h:StateP s){m:DtCmd}(hm:CmdP m)(h0:¬m.fKind=0):StateP (stN s m):=by
 refine stateP_of (catP_step _ _) (λx hx=>?_) (putL_cl _ _ (zlp h))
 rcases zlr _ _ _ hx with rfl | hx
 ·have:=hm.resolve_left λhh=>h0 hh.1
  exact ⟨this.2.2.1,this.2.2.2.1,this.2.2.2.2.1,this.2.2.2.2.2.1⟩
 ·exact zx1 h x hx
theorem stN_I{s:DtState}(h:StI s){m:DtCmd}(hm:CmdP m)(h0:¬m.fKind=0):StI (stN s m):=by
 refine ⟨stN_P h.1 hm h0,λx hx=>?_⟩
 rcases zlr _ _ _ hx with rfl | hx
 ·exact zre _ _
 ·exact h.2 x hx
theorem stC_or(s:DtState)(m:DtCmd)(h:StateP s):stC s m=s∨(CmdP m∧¬m.fKind=0∧stC s m=stN s m):=by
 by_cases hm:CmdP m∧¬m.fKind=0
 ·cases hx:hitS s m with
  | none=>exact .inr ⟨hm.1,hm.2,(st_no h hm.1 hm.2 hx).1⟩
  | some x =>
   have:=(zkq h hm.1 hm.2 hx).1
   split at this
   ·exact .inl this
   ·exact .inr ⟨hm.1,hm.2,this⟩
 ·exact .inl (st_m h hm).1
theorem stC_I{s:DtState}(h:StI s)(m:DtCmd):StI (stC s m):=by
 rcases stC_or s m h.1 with e | ⟨h1,h2,e⟩
 ·rw [e];exact h
 ·rw [e];exact stN_I h h1 h2
theorem said_len9{s:DtState}(h:StateP s):s.fSaid.length≤9:=by
 have:=cl_len s.fSaid 0 (zlp h) (λx hx=>by have:=zx1 h x hx;unfold SaidW at this;omega) (by omega)
 omega
theorem stI_sz{s:DtState}(h:StI s):DtState.sz s≤10000:=by
 have h1:=catP_sz h.1.1
 have h2:=said_len9 h.1
 have h3:=zne 200 s.fSaid (f:=DtSaid.sz) λx hx=>by
  have:=h.2 x hx
  unfold DtSaid.sz;omega
 unfold DtState.sz szS
 omega
theorem stI_sz'{s:DtState}(h:StI s):DtState.sz s≤1048576:=by have:=stI_sz h;omega
noncomputable def splS(l:List DtCmd):DtState × List (List UInt8):=l.foldl (λx m=>(stC x.1 m,x.2++[stR x.1 m])) (st0S,[])
noncomputable def splC(l:List DtCmd):DtState:=(splS l).1
noncomputable def splR(l:List DtCmd):List (List UInt8):=(splS l).2
end Go.Proofs.Ytodmafgmdlkhoaa.Vs
end
