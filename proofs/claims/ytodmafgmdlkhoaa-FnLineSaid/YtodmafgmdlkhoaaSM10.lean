import Derived.Test.YtodmafgmdlkhoaaSM3
import Derived.Test.YtodmafgmdlkhoaaSM9
import Derived.Test.YtodmafgmdlkhoaaSM4
section
namespace Go.Proofs.Ytodmafgmdlkhoaa.Vs
set_option linter.all false
set_option maxRecDepth 100000
set_option maxHeartbeats 2000000
def CallF(g:DtCall):Prop:=CmdF g.fCmd∧g.fText.length≤200
theorem hitS_mem{s:DtState}{m:DtCmd}{x:DtSaid}(h:hitS s m=some x):x∈s.fSaid:=by
 unfold hitS at h
 split at h
 ·split at h
  ·cases h;exact List.getElem_mem _
  ·cases h
 ·cases h
theorem stR_len{s:DtState}(h:StI s)(m:DtCmd):(stR s m).length≤200:=by
 by_cases hm:CmdP m∧¬m.fKind=0
 ·cases hx:hitS s m with
  | none=>rw [(st_no h.1 hm.1 hm.2 hx).2];exact zre _ _
  | some x =>
   rw [(zkq h.1 hm.1 hm.2 hx).2]
   split
   ·exact h.2 x (hitS_mem hx)
   ·split
    ·simp [bOld]
    ·exact zre _ _
 ·rw [(st_m h.1 hm).2];simp
theorem zfz(xs:List (List UInt8))(i:Nat)(h:∀t∈xs,t.length≤200):(xs.getD i []).length≤200:=by
 rw [List.getD_eq_getElem?_getD]
 cases hg:xs[i]? with
 | none=>simp
 | some t=>exact h t (List.mem_of_getElem? hg)
theorem zwm{x:DtCmd}(h:CmdF x):DtCmd.sz x≤1048576:=by
 obtain ⟨h1,h2,h3,h4,h5⟩:=h
 have key:∀(xs:List (List UInt8)),(∀t∈xs,t.length≤16)→sumZ lenZ xs≤16*xs.length:=by
  intro xs
  induction xs with
  | nil=>intro _;simp [zjj]
  | cons x xs ih =>
   intro h
   have ih:=ih λt ht=>h t (List.mem_cons_of_mem _ ht)
   have:=h x List.mem_cons_self
   rw [zgk]
   simp only [lenZ,List.length_cons] at *
   omega
 have:=key _ h5
 unfold DtCmd.sz szS
 omega
theorem immC(gs:List DtCall):immR (gs.map DtCall.cells)=true:=zw1 _ (λ_=>rfl) gs
theorem immM(cs:List DtCmd):immR (cs.map DtCmd.cells)=true:=zw1 _ (λ_=>rfl) cs
attribute [local simp] immC immM
theorem add_C{gs:List DtCall}(h:∀g∈gs,CallF g){y:DtCall}(hy:CallF y):∀g∈gs++[y],CallF g:=by
 intro g hg
 rcases List.mem_append.1 hg with hg | hg
 ·exact h g hg
 ·rw [List.mem_singleton] at hg;rwa [hg]
theorem zgx{gs:List DtCall}(h:∀g∈gs,CallF g){k:Nat}{y:DtCall}(hy:CallF y):∀g∈gs.set k y,CallF g:=by
 intro g hg
 rcases List.mem_or_eq_of_mem_set hg with hg | rfl
 ·exact h g hg
 ·exact hy
theorem zfj{xs:List (List AV)}(h:immR xs=true){k:Nat}{x:List AV}(hx:x.all imm0=true):immR (xs.set k x)=true:=by
 unfold immR at h ⊢
 rw [List.all_eq_true] at h ⊢
 intro y hy
 rcases List.mem_or_eq_of_mem_set hy with hy | rfl
 ·exact h y hy
 ·exact hx
def callO(g:DtCall)(m:DtCmd)(n:Nat):List AV:=[.g (.int .i64 g.fStart),.g (.int .i64 g.fEnd),.g (.int .i64 m.fKind),.g (.int .i64 m.fClient),.g (.int .i64 m.fNo),.s m.fSet,.s m.fName,.s m.fTag,.g (.int .i64 m.fN),.arr n 0 m.fChunks.length,.s g.fText]
def setText(x:DtCall)(t:List UInt8):DtCall:={ x with fText:=t }
def setEnd(x:DtCall)(t:Int):DtCall:={ x with fEnd:=t }
def setCmd(x:DtCall)(t:DtCmd):DtCall:={ x with fCmd:=t }
def cGG(l:List Int)(n:Int)(c3:Cur):Cur:=belowS l 4 (belowS l n (belowS l 5 c3))
noncomputable def cl1(l:List Int)(c2:Cur)(i:Nat)(s:DtState)(x:DtCmd):DtCall:=⟨10*i-below l 12 c2,10*i+1+below l 12 (belowS l 12 c2),x,stR s x⟩
def FitsE(l:List Int)(r:AV)(wos' fos:List OB):Prop:=∃(gs:List DtCall) (o:List Int) (c':Cur),gs.length≤6∧o.length=gs.length∧(∀g∈gs,CallF g)∧r=.tup [.sl 11 (gs.map DtCall.cells),.sl 1 (o.map cI)]∧wos'=[.cells (curC l c')]∧fos=[]
def zG22:=And.intro @zcj (And.intro @gE (And.intro @tP (And.intro @and_assoc (And.intro @List.range_succ (And.intro @zbl (And.intro @zfc (And.intro @zba (And.intro @zbf @zbw))))))))
def zG23:=And.intro @zbz (And.intro @zbq @zby)
def zG24:=And.intro @zba @zbf
theorem zx2(l:List Int)(hl:Code l)(c:Cur):XCallE Try.prog 44 [.ptr 8 0] [.cells (curC l c)] 0 (FitsE l):=by
 refine zfx Try.func44 (by rfl) (by rfl) (by rw [Try.ntmps44];exact Nat.le_of_ble_eq_true rfl) (by simp) rfl rfl ?_
 rw [Try.ntmps44]
 refine AW_y1 (.cells (curC l c)) (by simp [cvO]<;>assumption) ?_
 refine AW_k [(0,_)] ⟨rfl,trivial⟩ ?_
 refine AW_x rfl rfl λK hK=>?_
 simp (disch:=omega) [zG22,cI,cS,cU,cmdO,DtCmd.cells,DtState.cells,DtCatalog.cells,DtCall.cells,-aAppZ]
 repeat' first|(refine ⟨by omega,?_⟩)|(intro _)
 refine hK _ ?_;clear hK K
 refine AW_x rfl rfl λK hK=>?_
 simp (disch:=omega) [zG22,cI,cS,cU,cmdO,DtCmd.cells,DtState.cells,DtCatalog.cells,DtCall.cells,-aAppZ]
 repeat' first|(refine ⟨by omega,?_⟩)|(simp (disch:=omega) [zG22,cI,cS,cU,cmdO,DtCmd.cells,DtState.cells,DtCatalog.cells,DtCall.cells,-aAppZ])|(intro _)
 refine hK _ ?_;clear hK K
 refine AW_x rfl rfl λK hK=>?_
 simp (disch:=omega) [zG22,cI,cS,cU,cmdO,DtCmd.cells,DtState.cells,DtCatalog.cells,DtCall.cells,-aAppZ]
 repeat' first|(refine ⟨by omega,?_⟩)|(simp (disch:=omega) [zG22,cI,cS,cU,cmdO,DtCmd.cells,DtState.cells,DtCatalog.cells,DtCall.cells,-aAppZ])|(intro _)
 refine hK _ ?_;clear hK K
 refine AW_x rfl rfl λK hK=>?_
 simp (disch:=omega) [zG22,cI,cS,cU,cmdO,DtCmd.cells,DtState.cells,DtCatalog.cells,DtCall.cells,-aAppZ]
 repeat' first|(exfalso;omega)|(refine zkx [8] false [] (l16Cmds l hl c 6 (by omega) (by omega)) ?_ ?_ ?_;(focus (simp [List.range_succ,nmC];done));(focus (simp (disch:=omega) [zG22,cI,cS,cU,cmdO,DtCmd.cells,DtState.cells,DtCatalog.cells,DtCall.cells,-aAppZ];done));rintro _ _ _ ⟨cs,c1,hlen,hd,rfl,rfl,rfl⟩;refine ⟨⟨by first | rfl|(simp;done),by first | rfl|(simp;done)⟩,?_⟩;simp (disch:=omega) [zG22,cI,cS,cU,cmdO,DtCmd.cells,DtState.cells,DtCatalog.cells,DtCall.cells,-aAppZ])|(refine ⟨by omega,?_⟩)|(simp (disch:=omega) [zG22,cI,cS,cU,cmdO,DtCmd.cells,DtState.cells,DtCatalog.cells,DtCall.cells,-aAppZ])|(intro _)
 refine hK _ ?_;clear hK K
 refine zda (LeS.frzR 304 (o:=.own 8 (cs.map DtCmd.cells)) (sz:=8) (xs:=cs.map DtCmd.cells) (zm3 (cs:=curC l c1) (by simp [zG23,updL])) (by simp [formsX,List.range_succ]) (by simp [zG23,updL]) ⟨rfl,rfl⟩) ?_
 refine zda (LeS.vwT 6 304 (sz:=8) (xs:=cs.map DtCmd.cells) (off:=0) (len:=cs.length) (by simp [zbz]) (by simp [zbz]) (by simp)) ?_
 refine AW_x rfl rfl λK hK=>?_
 simp (disch:=omega) [zG22,cI,cS,cU,cmdO,DtCmd.cells,DtState.cells,DtCatalog.cells,DtCall.cells,-aAppZ]
 repeat' first|(refine ⟨by omega,?_⟩)|(simp (disch:=omega) [zG22,cI,cS,cU,cmdO,DtCmd.cells,DtState.cells,DtCatalog.cells,DtCall.cells,-aAppZ])|(intro _)
 refine hK _ ?_;clear hK K
 refine zbi ?_
 refine zda (LeS.nilC 128 0 2 (cs:=[.g (.slice none 0 0),.g (.slice none 0 0)]) (by simp [zG23,updL]) (by simp)) ?_
 refine zda (LeS.nilC 128 1 3 (cs:=[.sl 2 [],.g (.slice none 0 0)]) (by simp [zG23,updL]) (by simp)) ?_
 refine AW_x rfl rfl λK hK=>?_
 simp (disch:=omega) [zG22,cI,cS,cU,cmdO,DtCmd.cells,DtState.cells,DtCatalog.cells,DtCall.cells,-aAppZ]
 repeat' first|(refine ⟨by omega,?_⟩)|(intro _)
 refine hK _ ?_;clear hK K
 refine zbm ?_
 refine zbv (λmM sS=>∃(i:Nat) (s:DtState) (gs:List DtCall) (o:List Int) (c2:Cur),mM=cs.length-i∧(i≤cs.length∧StI s∧gs.length≤i∧o.length=gs.length∧∀g∈gs,CallF g)∧sS = { env:=lkE [(0,.ptr 8 0),(4,.arr 256 0 gs.length),(5,.arr 272 0 o.length),(6,.sl 8 (cs.map DtCmd.cells)),(7,.ptr 128 0),(8,(.g (.int .i64 ((i:Nat)))))],ob:=lk [(8,.cells (curC l c2)),(128,.cells (DtState.cells s)),(256,.win 11 (gs.map DtCall.cells)),(272,.own 1 (o.map cI))] }) ?_ ?_
 ·refine ⟨_,LeS.kw [(8,8),(128,128),(256,256),(272,272)] [(0,.ptr 8 0),(4,.arr 256 0 ([]).length),(5,.arr 272 0 ([]).length),(6,.sl 8 (cs.map DtCmd.cells)),(7,.ptr 128 0),(8,(.g (.int .i64 (((0):Nat)))))] [(8,.cells (curC l (c1))),(128,.cells (DtState.cells (st0S))),(256,.win 11 (([]).map DtCall.cells)),(272,.own 1 (([]).map cI))] (by simp [zG23,KpR,renV2,renV,zbk,curC,DtState.cells,DtCall.cells,cl1,cI,zc3,immC,st0S];try (first | with_reducible rfl | omega)) (by simp [zG23,KpOW,wnO,renO,plO,cvO,renV,pl1,curC,DtState.cells,DtCall.cells,cl1,cI,zc3,immC,st0S];try (first | with_reducible rfl | exact ⟨.inr (zc3 (by rw [zqw,immC gs];rfl)),by rw [ho]⟩ | trace_state)) (by rfl) (by simp) (by simp) (by rfl) (by simp [formsX,List.range_succ,zbq,zby]),_,0,st0S,[],[],c1,rfl,?_,rfl⟩
  ·exact ⟨by omega,stI_nil,by simp,rfl,by simp⟩
 ·rintro mM sS ⟨i,s,gs,o,c2,rfl,⟨hi,hs,hg,ho,hgs⟩,rfl⟩
  refine zbi ?_
  refine AW_x rfl rfl λK hK=>?_
  simp (disch:=omega) [zG22,cI,cS,cU,cmdO,DtCmd.cells,DtState.cells,DtCatalog.cells,DtCall.cells,-aAppZ]
  repeat' first|(refine ⟨by omega,?_⟩)|(simp (disch:=omega) [zG22,cI,cS,cU,cmdO,DtCmd.cells,DtState.cells,DtCatalog.cells,DtCall.cells,-aAppZ])|(intro _)
  refine hK _ ?_;clear hK K
  refine zbh rfl (λhc1=>?_) (λhc1=>?_)
  ·try simp [zG24,zbc,zbb] at hc1
   all_goals
    have hbx:=zc5 l 12 c2
    have hby:=zc5 l 12 (belowS l 12 c2)
    have hw1:IntKind.i64.wrap (10*(i:Int)-below l 12 c2)=10*i-below l 12 c2:=zcj (by omega) (by omega)
    have hw2:IntKind.i64.wrap (10*(i:Int)+1+below l 12 (belowS l 12 c2))=10*i+1+below l 12 (belowS l 12 c2):=zcj (by omega) (by omega)
    refine zbj ?_
    refine zbn ?_
    refine zbi ?_
    refine zbm ?_
    refine zbi ?_
    refine AW_x rfl rfl λK hK=>?_
    simp (disch:=omega) [zG22,cI,cS,cU,cmdO,DtCmd.cells,DtState.cells,DtCatalog.cells,DtCall.cells,-aAppZ]
    repeat' first|(exfalso;omega)|(refine zc6 (zbe (zb6 rfl) zbo) (zfy cs[i] (zwm (hd _ (List.getElem_mem _)))) rfl ?_;simp (disch:=omega) [zG22,cI,cS,cU,cmdO,DtCmd.cells,DtState.cells,DtCatalog.cells,DtCall.cells,-aAppZ])|(refine zc7 (zfy cs[i] (zwm (hd _ (List.getElem_mem _)))) (by rfl) ?_ ?_;(focus (simp (disch:=omega) [zG22,cI,cS,cU,cmdO,DtCmd.cells,DtState.cells,DtCatalog.cells,DtCall.cells,-aAppZ];done));simp (disch:=omega) [zG22,cI,cS,cU,cmdO,DtCmd.cells,DtState.cells,DtCatalog.cells,DtCall.cells,-aAppZ])|(refine ⟨λ_=>?_,λ_=>?_⟩)|(refine ⟨by omega,?_⟩)|(simp (disch:=omega) [zG22,cI,cS,cU,cmdO,DtCmd.cells,DtState.cells,DtCatalog.cells,DtCall.cells,-aAppZ])|(intro _)
    all_goals (refine hK _ ?_;clear hK K)
    all_goals
     refine zbh rfl (λhc2=>?_) (λhc2=>?_)
     ·try simp [zG24,zbc,zbb] at hc2
      all_goals
       refine zbx ?_
       refine zbn ?_
       refine zb3 rfl rfl λK hK=>?_
       simp (disch:=omega) [zG22,cI,cS,cU,cmdO,DtCmd.cells,DtState.cells,DtCatalog.cells,DtCall.cells,-aAppZ]
       repeat' first|(exfalso;omega)|(refine ⟨λ_=>?_,λ_=>?_⟩)|(refine ⟨by omega,?_⟩)|(simp (disch:=omega) [zG22,cI,cS,cU,cmdO,DtCmd.cells,DtState.cells,DtCatalog.cells,DtCall.cells,-aAppZ])|(intro _)
       all_goals (refine hK _ ?_;clear hK K)
       all_goals
        refine ⟨_,LeS.kw [(8,8),(128,128),(256,256),(272,272)] [(0,.ptr 8 0),(4,.arr 256 0 (gs).length),(5,.arr 272 0 (o).length),(6,.sl 8 (cs.map DtCmd.cells)),(7,.ptr 128 0),(8,(.g (.int .i64 (((i+1):Nat)))))] [(8,.cells (curC l (c2))),(128,.cells (DtState.cells (s))),(256,.win 11 ((gs).map DtCall.cells)),(272,.own 1 ((o).map cI))] (by simp [zG23,KpR,renV2,renV,zbk,curC,DtState.cells,DtCall.cells,cl1,cI,zc3,immC,st0S];try (first | with_reducible rfl | omega)) (by simp [zG23,KpOW,wnO,renO,plO,cvO,renV,pl1,curC,DtState.cells,DtCall.cells,cl1,cI,zc3,immC,st0S];try (first | with_reducible rfl | exact ⟨.inr (zc3 (by rw [zqw,immC gs];rfl)),by rw [ho]⟩ | trace_state)) (by rfl) (by simp) (by simp) (by rfl) (by simp [formsX,List.range_succ,zbq,zby]),_,?_,i+1,s,gs,o,c2,rfl,?_,rfl⟩
        ·omega
        ·first | exact ⟨by omega,hs,by omega,ho,hgs⟩ | exact ⟨by omega,stC_I hs _,by simp;omega,by simp [ho],add_C hgs ⟨hd _ (List.getElem_mem _),stR_len hs _⟩⟩
     ·try simp [zG24,zbc,zbb] at hc2
      all_goals
       refine zbj ?_
       refine zbn ?_
       refine AW_d rfl mix (by kernel_rfl) (by kernel_rfl) λK hK=>?_
       simp (disch:=omega) [zG22,cI,cS,cU,cmdO,DtCmd.cells,DtState.cells,DtCatalog.cells,DtCall.cells,-aAppZ]
       repeat' first|(exfalso;omega)|(refine zk0 [] true [] (zh7 s cs[i] (stI_sz' hs) (zwm (hd _ (List.getElem_mem _)))) ?_ (λst' hst=>?_) ?_;(focus (simp [List.range_succ,nmC];done));(focus (simp (disch:=omega) [zG22,cI,cS,cU,cmdO,DtCmd.cells,DtState.cells,DtCatalog.cells,DtCall.cells,-aAppZ,nmC] at hst;simp (disch:=omega) [zG22,cI,cS,cU,cmdO,DtCmd.cells,DtState.cells,DtCatalog.cells,DtCall.cells,-aAppZ,hst,nmC];done));simp (disch:=omega) [zG22,cI,cS,cU,cmdO,DtCmd.cells,DtState.cells,DtCatalog.cells,DtCall.cells,-aAppZ])|(refine ⟨λ_=>?_,λ_=>?_⟩)|(refine ⟨by omega,?_⟩)|(simp (disch:=omega) [zG22,cI,cS,cU,cmdO,DtCmd.cells,DtState.cells,DtCatalog.cells,DtCall.cells,-aAppZ])|(intro _)
       all_goals (refine hK _ _ (by kernel_rfl) ?_;clear hK K)
       all_goals
        refine AW_x rfl rfl λK hK=>?_
        simp (disch:=omega) [zG22,cI,cS,cU,cmdO,DtCmd.cells,DtState.cells,DtCatalog.cells,DtCall.cells,-aAppZ]
        repeat' first|(refine ⟨by omega,?_⟩)|(simp (disch:=omega) [zG22,cI,cS,cU,cmdO,DtCmd.cells,DtState.cells,DtCatalog.cells,DtCall.cells,-aAppZ])|(intro _)
        refine hK _ ?_;clear hK K
        refine zda (LeS.frzR 752 (o:=.own 2 ((stC s cs[i]).fCat.fSets.map DtCSet.cells)) (sz:=2) (xs:=(stC s cs[i]).fCat.fSets.map DtCSet.cells) (zm3 (cs:=curC l c2) (by simp [zG23,updL])) (by simp [formsX,List.range_succ]) (by simp [zG23,updL]) ⟨rfl,rfl⟩) ?_
        refine zda (LeS.frzR 753 (o:=.own 3 ((stC s cs[i]).fSaid.map DtSaid.cells)) (sz:=3) (xs:=(stC s cs[i]).fSaid.map DtSaid.cells) (zm3 (cs:=curC l c2) (by simp [zG23,updL])) (by simp [formsX,List.range_succ]) (by simp [zG23,updL]) ⟨rfl,rfl⟩) ?_
        refine zda (LeS.vwC 128 0 752 (sz:=2) (xs:=(stC s cs[i]).fCat.fSets.map DtCSet.cells) (cs:=[.arr 752 0 (stC s cs[i]).fCat.fSets.length,.arr 753 0 (stC s cs[i]).fSaid.length]) (off:=0) (len:=(stC s cs[i]).fCat.fSets.length) (by simp [zG23,updL,zbl]) (by simp) (by simp [zbz]) (by simp)) ?_
        refine zda (LeS.vwC 128 1 753 (sz:=3) (xs:=(stC s cs[i]).fSaid.map DtSaid.cells) (cs:=[.sl 2 ((stC s cs[i]).fCat.fSets.map DtCSet.cells),.arr 753 0 (stC s cs[i]).fSaid.length]) (off:=0) (len:=(stC s cs[i]).fSaid.length) (by simp [zG23,updL,zbl]) (by simp) (by simp [zbz]) (by simp)) ?_
        refine AW_x rfl rfl λK hK=>?_
        simp (disch:=omega) [zG22,cI,cS,cU,cmdO,DtCmd.cells,DtState.cells,DtCatalog.cells,DtCall.cells,-aAppZ]
        repeat' first|(exfalso;omega)|(refine zcs (λ_=>xs_p (xs_g xs_z)) (zdi l hl _ _) rfl rfl ?_;simp (disch:=omega) [zG22,cI,cS,cU,cmdO,DtCmd.cells,DtState.cells,DtCatalog.cells,DtCall.cells,-aAppZ])|(refine ⟨by omega,?_⟩)|(simp (disch:=omega) [zG22,cI,cS,cU,cmdO,DtCmd.cells,DtState.cells,DtCatalog.cells,DtCall.cells,-aAppZ])|(intro _)
        refine hK _ ?_;clear hK K
        refine AW_d rfl mix (by kernel_rfl) (by kernel_rfl) λK hK=>?_
        simp (disch:=omega) [zG22,cI,cS,cU,cmdO,DtCmd.cells,DtState.cells,DtCatalog.cells,DtCall.cells,-aAppZ]
        repeat' first|(exfalso;omega)|(refine zqv (λ_=>xs_p (xs_g xs_z)) (zdi l hl _ _) rfl rfl ?_;simp (disch:=omega) [zG22,cI,cS,cU,cmdO,DtCmd.cells,DtState.cells,DtCatalog.cells,DtCall.cells,-aAppZ])|(refine ⟨by omega,?_⟩)|(simp (disch:=omega) [zG22,cI,cS,cU,cmdO,DtCmd.cells,DtState.cells,DtCatalog.cells,DtCall.cells,-aAppZ])|(intro _)
        refine hK _ _ (by kernel_rfl) ?_;clear hK K
        refine zb3 rfl rfl λK hK=>?_
        simp (disch:=omega) [zG22,cI,cS,cU,cmdO,DtCmd.cells,DtState.cells,DtCatalog.cells,DtCall.cells,-aAppZ]
        repeat' first|(refine ⟨by omega,?_⟩)|(simp (disch:=omega) [zG22,cI,cS,cU,cmdO,DtCmd.cells,DtState.cells,DtCatalog.cells,DtCall.cells,-aAppZ])|(intro _)
        refine hK _ ?_;clear hK K
        refine zbn ?_
        refine zb3 rfl rfl λK hK=>?_
        simp (disch:=omega) [zG22,cI,cS,cU,cmdO,DtCmd.cells,DtState.cells,DtCatalog.cells,DtCall.cells,-aAppZ]
        repeat' first|(refine ⟨by omega,?_⟩)|(intro _)
        refine hK _ ?_;clear hK K
        refine ⟨_,LeS.kw [(8,8),(128,128),(256,1136),(272,1216)] [(0,.ptr 8 0),(4,.arr 256 0 (gs++[cl1 l c2 i s cs[i]]).length),(5,.arr 272 0 (o++[(gs.length:Int)]).length),(6,.sl 8 (cs.map DtCmd.cells)),(7,.ptr 128 0),(8,(.g (.int .i64 (((i+1):Nat)))))] [(8,.cells (curC l (belowS l 12 (belowS l 12 c2)))),(128,.cells (DtState.cells (stC s cs[i]))),(256,.win 11 ((gs++[cl1 l c2 i s cs[i]]).map DtCall.cells)),(272,.own 1 ((o++[(gs.length:Int)]).map cI))] (by simp [zG23,KpR,renV2,renV,zbk,curC,DtState.cells,DtCall.cells,cl1,cI,zc3,immC,st0S];try (first | with_reducible rfl | omega)) (by simp [zG23,KpOW,wnO,renO,plO,cvO,renV,pl1,curC,DtState.cells,DtCall.cells,cl1,cI,zc3,immC,st0S];try (first | with_reducible rfl | exact ⟨.inr (zc3 (by rw [zqw,immC gs];rfl)),by rw [ho]⟩ | trace_state)) (by rfl) (by simp) (by simp) (by rfl) (by simp [formsX,List.range_succ,zbq,zby]),_,?_,i+1,stC s cs[i],gs++[cl1 l c2 i s cs[i]],o++[(gs.length:Int)],belowS l 12 (belowS l 12 c2),rfl,?_,rfl⟩
        ·omega
        ·first | exact ⟨by omega,hs,by omega,ho,hgs⟩ | exact ⟨by omega,stC_I hs _,by simp;omega,by simp [ho],add_C hgs ⟨hd _ (List.getElem_mem _),stR_len hs _⟩⟩
  ·try simp [zG24,zbc,zbb] at hc1
   all_goals
    refine zbx ?_
    refine zbn ?_
    refine zfw (λsS=>∃(gs2:List DtCall) (o2:List Int) (c3:Cur),(gs2.length≤6∧o2.length=gs2.length∧∀g∈gs2,CallF g)∧sS = { env:=lkE [(0,.ptr 8 0),(4,.arr 256 0 gs2.length),(5,.arr 272 0 o2.length)],ob:=lk [(8,.cells (curC l c3)),(256,.win 11 (gs2.map DtCall.cells)),(272,.own 1 (o2.map cI))] }) ?_ ?_
    ·skip
     refine AW_x rfl rfl λK hK=>?_
     simp (disch:=omega) [zG22,cI,cS,cU,cmdO,DtCmd.cells,DtState.cells,DtCatalog.cells,DtCall.cells,-aAppZ]
     repeat' first|(exfalso;omega)|(refine zcs (λ_=>xs_p (xs_g xs_z)) (zko l hl _ _) rfl rfl ?_;simp (disch:=omega) [zG22,cI,cS,cU,cmdO,DtCmd.cells,DtState.cells,DtCatalog.cells,DtCall.cells,-aAppZ])|(refine ⟨λ_=>?_,λ_=>?_⟩)|(refine ⟨by omega,?_⟩)|(simp (disch:=omega) [zG22,cI,cS,cU,cmdO,DtCmd.cells,DtState.cells,DtCatalog.cells,DtCall.cells,-aAppZ])|(intro _)
     all_goals (refine hK _ ?_;clear hK K)
     all_goals
      refine zbh rfl (λhc3=>?_) (λhc3=>?_)
      ·try simp [zG24,zbc,zbb] at hc3
       all_goals
        refine AW_x rfl rfl λK hK=>?_
        simp (disch:=omega) [zG22,cI,cS,cU,cmdO,DtCmd.cells,DtState.cells,DtCatalog.cells,DtCall.cells,-aAppZ]
        repeat' first|(exfalso;omega)|(refine zcs (λ_=>xs_p (xs_g xs_z)) (zdi l hl _ _) rfl rfl ?_;simp (disch:=omega) [zG22,cI,cS,cU,cmdO,DtCmd.cells,DtState.cells,DtCatalog.cells,DtCall.cells,-aAppZ])|(refine ⟨λ_=>?_,λ_=>?_⟩)|(refine ⟨by omega,?_⟩)|(simp (disch:=omega) [zG22,cI,cS,cU,cmdO,DtCmd.cells,DtState.cells,DtCatalog.cells,DtCall.cells,-aAppZ])|(intro _)
        all_goals (refine hK _ ?_;clear hK K)
        all_goals
         have hlp:1<gs.length:=by first | assumption | omega
         have hbk:=zc5 l ((gs.length:Int)-1) (belowS l 2 c2)
         obtain ⟨k,hk⟩:∃k:Nat,below l ((gs.length:Int)-1) (belowS l 2 c2)=k:=⟨_,(Int.toNat_of_nonneg hbk.1).symm⟩
         simp only [hk]
         have hkl:k+1<gs.length:=by have:=hbk.2 (by omega);omega
         refine AW_x rfl rfl λK hK=>?_
         simp (disch:=omega) [zG22,cI,cS,cU,cmdO,DtCmd.cells,DtState.cells,DtCatalog.cells,DtCall.cells,-aAppZ]
         repeat' first|(refine ⟨by omega,?_⟩)|(simp (disch:=omega) [zG22,cI,cS,cU,cmdO,DtCmd.cells,DtState.cells,DtCatalog.cells,DtCall.cells,-aAppZ])|(intro _)
         refine hK _ ?_;clear hK K
         refine AW_x rfl rfl λK hK=>?_
         simp (disch:=omega) [zG22,cI,cS,cU,cmdO,DtCmd.cells,DtState.cells,DtCatalog.cells,DtCall.cells,-aAppZ]
         repeat' first|(refine ⟨by omega,?_⟩)|(simp (disch:=omega) [zG22,cI,cS,cU,cmdO,DtCmd.cells,DtState.cells,DtCatalog.cells,DtCall.cells,-aAppZ])|(intro _)
         refine hK _ ?_;clear hK K
         refine AW_x rfl rfl λK hK=>?_
         simp (disch:=omega) [zG22,cI,cS,cU,cmdO,DtCmd.cells,DtState.cells,DtCatalog.cells,DtCall.cells,-aAppZ]
         repeat' first|(refine ⟨by omega,?_⟩)|(simp (disch:=omega) [zG22,cI,cS,cU,cmdO,DtCmd.cells,DtState.cells,DtCatalog.cells,DtCall.cells,-aAppZ])|(intro _)
         refine hK _ ?_;clear hK K
         refine AW_x rfl rfl λK hK=>?_
         simp (disch:=omega) [zG22,cI,cS,cU,cmdO,DtCmd.cells,DtState.cells,DtCatalog.cells,DtCall.cells,-aAppZ]
         repeat' first|(refine ⟨by omega,?_⟩)|(simp (disch:=omega) [zG22,cI,cS,cU,cmdO,DtCmd.cells,DtState.cells,DtCatalog.cells,DtCall.cells,-aAppZ])|(intro _)
         refine hK _ ?_;clear hK K
         refine zb3 rfl rfl λK hK=>?_
         simp (disch:=omega) [zG22,cI,cS,cU,cmdO,DtCmd.cells,DtState.cells,DtCatalog.cells,DtCall.cells,-aAppZ]
         repeat' first|(refine ⟨by omega,?_⟩)|(simp (disch:=omega) [zG22,cI,cS,cU,cmdO,DtCmd.cells,DtState.cells,DtCatalog.cells,DtCall.cells,-aAppZ])|(intro _)
         refine hK _ ?_;clear hK K
         have hcz:True:=trivial
         refine ⟨_,LeS.kw [(8,8),(256,256),(272,272)] [(0,.ptr 8 0),(4,.arr 256 0 ((gs.set k gs[k+1]).set (k+1) gs[k]).length),(5,.arr 272 0 ((o.set k ((k:Int)+1)).set (k+1) (k:Int)).length)] [(8,.cells (curC l (belowS l ((gs.length:Int)-1) (belowS l 2 c2)))),(256,.win 11 (((gs.set k gs[k+1]).set (k+1) gs[k]).map DtCall.cells)),(272,.own 1 (((o.set k ((k:Int)+1)).set (k+1) (k:Int)).map cI))] (by simp [zG23,KpR,renV2,renV,zbk,curC,DtCall.cells,cI,zc3,immC,hcz];try (first | with_reducible rfl | omega|(simp;done))) (by simp [zG23,KpOW,wnO,renO,plO,cvO,renV,pl1,curC,DtCall.cells,cI,zc3,immC,hcz];try (first | with_reducible rfl | exact .inr (zc3 (zfj (zfj (immC gs) rfl) rfl)) | trace_state)) (by rfl) (by simp) (by simp) (by rfl) (by simp [formsX,List.range_succ,zbq,zby]),(gs.set k gs[k+1]).set (k+1) gs[k],(o.set k ((k:Int)+1)).set (k+1) (k:Int),belowS l ((gs.length:Int)-1) (belowS l 2 c2),?_,rfl⟩
         ·first | exact ⟨by omega,ho,hgs⟩ | exact ⟨by simp;omega,by simp [ho],zgx (zgx hgs (hgs _ (List.getElem_mem _))) (hgs _ (List.getElem_mem _))⟩
      ·try simp [zG24,zbc,zbb] at hc3
       all_goals
        refine zbj ?_
        first | have hE:∃cz,cz=belowS l 2 c2∧below l 2 c2=0:=⟨_,rfl,by assumption⟩ | have hE:∃cz,cz=belowS l 2 c2∧¬below l 2 c2=0:=⟨_,rfl,by assumption⟩ | have hE:∃cz,cz=c2∧True:=⟨_,rfl,trivial⟩
        obtain ⟨cz,hcz,-⟩:=hE
        refine ⟨_,LeS.kw [(8,8),(256,256),(272,272)] [(0,.ptr 8 0),(4,.arr 256 0 (gs).length),(5,.arr 272 0 (o).length)] [(8,.cells (curC l (cz))),(256,.win 11 ((gs).map DtCall.cells)),(272,.own 1 ((o).map cI))] (by simp [zG23,KpR,renV2,renV,zbk,curC,DtCall.cells,cI,zc3,immC,hcz];try (first | with_reducible rfl | omega|(simp;done))) (by simp [zG23,KpOW,wnO,renO,plO,cvO,renV,pl1,curC,DtCall.cells,cI,zc3,immC,hcz];try (first | with_reducible rfl | exact .inr (zc3 (zfj (zfj (immC gs) rfl) rfl)) | trace_state)) (by rfl) (by simp) (by simp) (by rfl) (by simp [formsX,List.range_succ,zbq,zby]),gs,o,cz,?_,rfl⟩
        ·first | exact ⟨by omega,ho,hgs⟩ | exact ⟨by simp;omega,by simp [ho],zgx (zgx hgs (hgs _ (List.getElem_mem _))) (hgs _ (List.getElem_mem _))⟩
    ·rintro sS ⟨gs2,o2,c3,⟨hg2,ho2,hgs2⟩,rfl⟩
     refine zfw (λsS=>∃(gs3:List DtCall) (o3:List Int) (c4:Cur),(gs3.length≤6∧o3.length=gs3.length∧∀g∈gs3,CallF g)∧sS = { env:=lkE [(4,.arr 256 0 gs3.length),(5,.arr 272 0 o3.length)],ob:=lk [(8,.cells (curC l c4)),(256,.win 11 (gs3.map DtCall.cells)),(272,.own 1 (o3.map cI))] }) ?_ ?_
     ·skip
      refine AW_x rfl rfl λK hK=>?_
      simp (disch:=omega) [zG22,cI,cS,cU,cmdO,DtCmd.cells,DtState.cells,DtCatalog.cells,DtCall.cells,-aAppZ]
      repeat' first|(exfalso;omega)|(refine zcs (λ_=>xs_p (xs_g xs_z)) (zko l hl _ _) rfl rfl ?_;simp (disch:=omega) [zG22,cI,cS,cU,cmdO,DtCmd.cells,DtState.cells,DtCatalog.cells,DtCall.cells,-aAppZ])|(refine ⟨λ_=>?_,λ_=>?_⟩)|(refine ⟨by omega,?_⟩)|(simp (disch:=omega) [zG22,cI,cS,cU,cmdO,DtCmd.cells,DtState.cells,DtCatalog.cells,DtCall.cells,-aAppZ])|(intro _)
      all_goals (refine hK _ ?_;clear hK K)
      all_goals
       refine zbh rfl (λhc4=>?_) (λhc4=>?_)
       ·try simp [zG24,zbc,zbb] at hc4
        all_goals
         refine AW_x rfl rfl λK hK=>?_
         simp (disch:=omega) [zG22,cI,cS,cU,cmdO,DtCmd.cells,DtState.cells,DtCatalog.cells,DtCall.cells,-aAppZ]
         repeat' first|(exfalso;omega)|(refine zcs (λ_=>xs_p (xs_g xs_z)) (zdi l hl _ _) rfl rfl ?_;simp (disch:=omega) [zG22,cI,cS,cU,cmdO,DtCmd.cells,DtState.cells,DtCatalog.cells,DtCall.cells,-aAppZ])|(refine ⟨λ_=>?_,λ_=>?_⟩)|(refine ⟨by omega,?_⟩)|(simp (disch:=omega) [zG22,cI,cS,cU,cmdO,DtCmd.cells,DtState.cells,DtCatalog.cells,DtCall.cells,-aAppZ])|(intro _)
         all_goals (refine hK _ ?_;clear hK K)
         all_goals
          have hlp2:0<gs2.length:=by first | assumption | omega
          have hbk2:=zc5 l (gs2.length:Int) (belowS l 5 c3)
          obtain ⟨k2,hk2⟩:∃k2:Nat,below l (gs2.length:Int) (belowS l 5 c3)=k2:=⟨_,(Int.toNat_of_nonneg hbk2.1).symm⟩
          simp only [hk2]
          have hkl2:k2<gs2.length:=by have:=hbk2.2 (by omega);omega
          refine AW_x rfl rfl λK hK=>?_
          simp (disch:=omega) [zG22,cI,cS,cU,cmdO,DtCmd.cells,DtState.cells,DtCatalog.cells,DtCall.cells,-aAppZ]
          repeat' first|(exfalso;omega)|(refine zcs (λ_=>xs_p (xs_g xs_z)) (zdi l hl _ _) rfl rfl ?_;simp (disch:=omega) [zG22,cI,cS,cU,cmdO,DtCmd.cells,DtState.cells,DtCatalog.cells,DtCall.cells,-aAppZ])|(refine ⟨by omega,?_⟩)|(simp (disch:=omega) [zG22,cI,cS,cU,cmdO,DtCmd.cells,DtState.cells,DtCatalog.cells,DtCall.cells,-aAppZ])|(intro _)
          refine hK _ ?_;clear hK K
          refine zbm ?_
          refine AW_x rfl rfl λK hK=>?_
          simp (disch:=omega) [zG22,cI,cS,cU,cmdO,DtCmd.cells,DtState.cells,DtCatalog.cells,DtCall.cells,-aAppZ]
          repeat' first|(refine ⟨by omega,?_⟩)|(intro _)
          refine hK _ ?_;clear hK K
          refine zbh rfl (λhc5=>?_) (λhc5=>?_)
          ·try simp [zG24,zbc,zbb] at hc5
           all_goals
            refine zb3 rfl rfl λK hK=>?_
            simp (disch:=omega) [zG22,cI,cS,cU,cmdO,DtCmd.cells,DtState.cells,DtCatalog.cells,DtCall.cells,-aAppZ]
            repeat' first|(exfalso;omega)|(refine zcm (λ_=>xs_p (xs_a xs_z)) (zgy l hl _ [[111,107],[110,111,110,101],[101,120,105,115,116,115],[]] (by simp)) rfl rfl rfl (by decide) rfl ?_;simp (disch:=omega) [zG22,cI,cS,cU,cmdO,DtCmd.cells,DtState.cells,DtCatalog.cells,DtCall.cells,-aAppZ])|(refine ⟨λ_=>?_,λ_=>?_⟩)|(refine ⟨by omega,?_⟩)|(simp (disch:=omega) [zG22,cI,cS,cU,cmdO,DtCmd.cells,DtState.cells,DtCatalog.cells,DtCall.cells,-aAppZ])|(intro _)
            all_goals (refine hK _ ?_;clear hK K)
            all_goals
             have hcz:True:=trivial
             refine ⟨_,LeS.kw [(8,8),(256,256),(272,272)] [(4,.arr 256 0 (gs2.set k2 (setText gs2[k2] (([[111,107],[110,111,110,101],[101,120,105,115,116,115],[]]:List (List UInt8)).getD (below l 4 (cGG l gs2.length c3)).toNat []))).length),(5,.arr 272 0 (o2).length)] [(8,.cells (curC l (belowS l 4 (cGG l gs2.length c3)))),(256,.win 11 ((gs2.set k2 (setText gs2[k2] (([[111,107],[110,111,110,101],[101,120,105,115,116,115],[]]:List (List UInt8)).getD (below l 4 (cGG l gs2.length c3)).toNat []))).map DtCall.cells)),(272,.own 1 ((o2).map cI))] (by simp [zG23,KpR,renV2,renV,zbk,curC,DtCall.cells,cI,zc3,immC,hcz,setText,setEnd,setCmd,cGG];try (first | with_reducible rfl | omega|(simp;done))) (by simp [zG23,KpOW,wnO,renO,plO,cvO,renV,pl1,curC,DtCall.cells,cI,zc3,immC,hcz,setText,setEnd,setCmd,cGG];try (first | with_reducible rfl | exact .inr (zc3 (zfj (immC gs2) rfl)) | trace_state)) (by rfl) (by simp) (by simp) (by rfl) (by simp [formsX,List.range_succ,zbq,zby]),gs2.set k2 (setText gs2[k2] (([[111,107],[110,111,110,101],[101,120,105,115,116,115],[]]:List (List UInt8)).getD (below l 4 (cGG l gs2.length c3)).toNat [])),o2,belowS l 4 (cGG l gs2.length c3),?_,rfl⟩
             ·first | exact ⟨hg2,ho2,hgs2⟩ | exact ⟨by simpa using hg2,by simpa using ho2,zgx hgs2 (show CallF (setEnd gs2[k2] _) from hgs2 gs2[k2] (List.getElem_mem _))⟩ | exact ⟨by simpa using hg2,by simpa using ho2,zgx hgs2 ⟨(hgs2 gs2[k2] (List.getElem_mem _)).1,zfz _ _ (by simp)⟩⟩ | exact ⟨by simpa using hg2,by simpa using ho2,hgs2⟩ | exact ⟨by simpa using hg2,by simpa using ho2,zgx hgs2 ⟨hz,(hgs2 gs2[k2] (List.getElem_mem _)).2⟩⟩
          ·try simp [zG24,zbc,zbb] at hc5
           all_goals
            refine AW_x rfl rfl λK hK=>?_
            simp (disch:=omega) [zG22,cI,cS,cU,cmdO,DtCmd.cells,DtState.cells,DtCatalog.cells,DtCall.cells,-aAppZ]
            repeat' first|(exfalso;omega)|(refine ⟨λ_=>?_,λ_=>?_⟩)|(refine ⟨by omega,?_⟩)|(simp (disch:=omega) [zG22,cI,cS,cU,cmdO,DtCmd.cells,DtState.cells,DtCatalog.cells,DtCall.cells,-aAppZ])|(intro _)
            all_goals (refine hK _ ?_;clear hK K)
            all_goals
             refine zbh rfl (λhc6=>?_) (λhc6=>?_)
             ·try simp [zG24,zbc,zbb] at hc6
              all_goals
               refine zh2 rfl mix (by kernel_rfl) (by kernel_rfl) λK hK=>?_
               simp (disch:=omega) [zG22,cI,cS,cU,cmdO,DtCmd.cells,DtState.cells,DtCatalog.cells,DtCall.cells,-aAppZ]
               repeat' first|(exfalso;omega)|(refine zqv (λ_=>xs_p (xs_g xs_z)) (zdi l hl _ _) rfl rfl ?_;simp (disch:=omega) [zG22,cI,cS,cU,cmdO,DtCmd.cells,DtState.cells,DtCatalog.cells,DtCall.cells,-aAppZ])|(refine ⟨λ_=>?_,λ_=>?_⟩)|(refine ⟨by omega,?_⟩)|(simp (disch:=omega) [zG22,cI,cS,cU,cmdO,DtCmd.cells,DtState.cells,DtCatalog.cells,DtCall.cells,-aAppZ])|(intro _)
               all_goals (refine hK _ _ (by kernel_rfl) ?_;clear hK K)
               all_goals
                have hcz:True:=trivial
                refine ⟨_,LeS.kw [(8,8),(256,256),(272,272)] [(4,.arr 256 0 (gs2.set k2 (setEnd gs2[k2] (IntKind.i64.wrap (gs2[k2].fStart+below l 2 (cGG l gs2.length c3))))).length),(5,.arr 272 0 (o2).length)] [(8,.cells (curC l (belowS l 2 (cGG l gs2.length c3)))),(256,.win 11 ((gs2.set k2 (setEnd gs2[k2] (IntKind.i64.wrap (gs2[k2].fStart+below l 2 (cGG l gs2.length c3))))).map DtCall.cells)),(272,.own 1 ((o2).map cI))] (by simp [zG23,KpR,renV2,renV,zbk,curC,DtCall.cells,cI,zc3,immC,hcz,setText,setEnd,setCmd,cGG];try (first | with_reducible rfl | omega|(simp;done))) (by simp [zG23,KpOW,wnO,renO,plO,cvO,renV,pl1,curC,DtCall.cells,cI,zc3,immC,hcz,setText,setEnd,setCmd,cGG];try (first | with_reducible rfl | exact .inr (zc3 (zfj (immC gs2) rfl)) | trace_state)) (by rfl) (by simp) (by simp) (by rfl) (by simp [formsX,List.range_succ,zbq,zby]),gs2.set k2 (setEnd gs2[k2] (IntKind.i64.wrap (gs2[k2].fStart+below l 2 (cGG l gs2.length c3)))),o2,belowS l 2 (cGG l gs2.length c3),?_,rfl⟩
                ·first | exact ⟨hg2,ho2,hgs2⟩ | exact ⟨by simpa using hg2,by simpa using ho2,zgx hgs2 (show CallF (setEnd gs2[k2] _) from hgs2 gs2[k2] (List.getElem_mem _))⟩ | exact ⟨by simpa using hg2,by simpa using ho2,zgx hgs2 ⟨(hgs2 gs2[k2] (List.getElem_mem _)).1,zfz _ _ (by simp)⟩⟩ | exact ⟨by simpa using hg2,by simpa using ho2,hgs2⟩ | exact ⟨by simpa using hg2,by simpa using ho2,zgx hgs2 ⟨hz,(hgs2 gs2[k2] (List.getElem_mem _)).2⟩⟩
             ·try simp [zG24,zbc,zbb] at hc6
              all_goals
               refine AW_x rfl rfl λK hK=>?_
               simp (disch:=omega) [zG22,cI,cS,cU,cmdO,DtCmd.cells,DtState.cells,DtCatalog.cells,DtCall.cells,-aAppZ]
               repeat' first|(exfalso;omega)|(refine ⟨λ_=>?_,λ_=>?_⟩)|(refine ⟨by omega,?_⟩)|(simp (disch:=omega) [zG22,cI,cS,cU,cmdO,DtCmd.cells,DtState.cells,DtCatalog.cells,DtCall.cells,-aAppZ])|(intro _)
               all_goals (refine hK _ ?_;clear hK K)
               all_goals
                refine zbh rfl (λhc7=>?_) (λhc7=>?_)
                ·try simp [zG24,zbc,zbb] at hc7
                 all_goals
                  have hb9:=zc5 l 9 (cGG l gs2.length c3)
                  unfold cGG at hb9
                  refine zb3 rfl rfl λK hK=>?_
                  simp (disch:=omega) [zG22,cI,cS,cU,cmdO,DtCmd.cells,DtState.cells,DtCatalog.cells,DtCall.cells,-aAppZ]
                  repeat' first|(exfalso;omega)|(refine zcs (λ_=>xs_p (xs_g xs_z)) (zdi l hl _ _) rfl rfl ?_;simp (disch:=omega) [zG22,cI,cS,cU,cmdO,DtCmd.cells,DtState.cells,DtCatalog.cells,DtCall.cells,-aAppZ])|(refine ⟨λ_=>?_,λ_=>?_⟩)|(refine ⟨by omega,?_⟩)|(simp (disch:=omega) [zG22,cI,cS,cU,cmdO,DtCmd.cells,DtState.cells,DtCatalog.cells,DtCall.cells,-aAppZ])|(intro _)
                  all_goals (refine hK _ ?_;clear hK K)
                  all_goals
                   have hcz:True:=trivial
                   refine ⟨_,LeS.kw [(8,8),(256,256),(272,272)] [(4,.arr 256 0 (gs2).length),(5,.arr 272 0 (o2.set k2 (below l 9 (cGG l gs2.length c3)-1)).length)] [(8,.cells (curC l (belowS l 9 (cGG l gs2.length c3)))),(256,.win 11 ((gs2).map DtCall.cells)),(272,.own 1 ((o2.set k2 (below l 9 (cGG l gs2.length c3)-1)).map cI))] (by simp [zG23,KpR,renV2,renV,zbk,curC,DtCall.cells,cI,zc3,immC,hcz,setText,setEnd,setCmd,cGG];try (first | with_reducible rfl | omega|(simp;done))) (by simp [zG23,KpOW,wnO,renO,plO,cvO,renV,pl1,curC,DtCall.cells,cI,zc3,immC,hcz,setText,setEnd,setCmd,cGG];try (first | with_reducible rfl | exact .inr (zc3 (zfj (immC gs2) rfl)) | trace_state)) (by rfl) (by simp) (by simp) (by rfl) (by simp [formsX,List.range_succ,zbq,zby]),gs2,o2.set k2 (below l 9 (cGG l gs2.length c3)-1),belowS l 9 (cGG l gs2.length c3),?_,rfl⟩
                   ·first | exact ⟨hg2,ho2,hgs2⟩ | exact ⟨by simpa using hg2,by simpa using ho2,zgx hgs2 (show CallF (setEnd gs2[k2] _) from hgs2 gs2[k2] (List.getElem_mem _))⟩ | exact ⟨by simpa using hg2,by simpa using ho2,zgx hgs2 ⟨(hgs2 gs2[k2] (List.getElem_mem _)).1,zfz _ _ (by simp)⟩⟩ | exact ⟨by simpa using hg2,by simpa using ho2,hgs2⟩ | exact ⟨by simpa using hg2,by simpa using ho2,zgx hgs2 ⟨hz,(hgs2 gs2[k2] (List.getElem_mem _)).2⟩⟩
                ·try simp [zG24,zbc,zbb] at hc7
                 all_goals
                  refine zb3 rfl rfl λK hK=>?_
                  simp (disch:=omega) [zG22,cI,cS,cU,cmdO,DtCmd.cells,DtState.cells,DtCatalog.cells,DtCall.cells,-aAppZ]
                  repeat' first|(exfalso;omega)|(refine zkx [8] false [] (l4Cmd l hl (belowS l 4 (belowS l gs2.length (belowS l 5 c3)))) ?_ ?_ ?_;(focus (simp [List.range_succ,nmC];done));(focus (simp (disch:=omega) [zG22,cI,cS,cU,cmdO,DtCmd.cells,DtState.cells,DtCatalog.cells,DtCall.cells,-aAppZ];done));rintro _ _ _ ⟨z,cy,hz,rfl,rfl,rfl⟩;refine ⟨⟨by first | rfl|(simp;done),by first | rfl|(simp;done)⟩,?_⟩;simp (disch:=omega) [zG22,cI,cS,cU,cmdO,DtCmd.cells,DtState.cells,DtCatalog.cells,DtCall.cells,-aAppZ])|(refine ⟨λ_=>?_,λ_=>?_⟩)|(refine ⟨by omega,?_⟩)|(simp (disch:=omega) [zG22,cI,cS,cU,cmdO,DtCmd.cells,DtState.cells,DtCatalog.cells,DtCall.cells,-aAppZ])|(intro _)
                  all_goals (refine hK _ ?_;clear hK K)
                  all_goals
                   have hcz:True:=trivial
                   refine ⟨_,LeS.trans (LeS.trans (LeS.frzR 2112 (o:=.own 1 (z.fChunks.map cS)) (sz:=1) (xs:=z.fChunks.map cS) (zm3 (cs:=curC l cy) (by simp [zG23,updL])) (by simp [formsX,List.range_succ]) (by simp [zG23,updL]) ⟨rfl,rfl⟩) (LeS.vwW 256 k2 9 2112 (s:=11) (zs:=(gs2.map DtCall.cells).set k2 (callO gs2[k2] z 2112)) (ys:=(gs2.set k2 (setCmd gs2[k2] z)).map DtCall.cells) (x:=callO gs2[k2] z 2112) (off:=0) (len:=z.fChunks.length) (sz:=1) (xs:=z.fChunks.map cS) (by simp [zG23,updL,callO]) (by simp [hkl2]) rfl (by simp [zbz]) (by simp) (by simp [callO,setCmd,DtCall.cells,List.map_set,List.set_set,zbl]))) (LeS.kw [(8,8),(256,256),(272,272)] [(4,.arr 256 0 (gs2.set k2 (setCmd gs2[k2] z)).length),(5,.arr 272 0 (o2).length)] [(8,.cells (curC l (cy))),(256,.win 11 ((gs2.set k2 (setCmd gs2[k2] z)).map DtCall.cells)),(272,.own 1 ((o2).map cI))] (by simp [zG23,KpR,renV2,renV,zbk,curC,DtCall.cells,cI,zc3,immC,hcz,setText,setEnd,setCmd,cGG];try (first | with_reducible rfl | omega|(simp;done))) (by simp [zG23,KpOW,wnO,renO,plO,cvO,renV,pl1,curC,DtCall.cells,cI,zc3,immC,hcz,setText,setEnd,setCmd,cGG];try (first | with_reducible rfl | exact .inr (zc3 (zfj (immC gs2) rfl)) | trace_state)) (by rfl) (by simp) (by simp) (by rfl) (by simp [formsX,List.range_succ,zbq,zby])),gs2.set k2 (setCmd gs2[k2] z),o2,cy,?_,rfl⟩
                   ·first | exact ⟨hg2,ho2,hgs2⟩ | exact ⟨by simpa using hg2,by simpa using ho2,zgx hgs2 (show CallF (setEnd gs2[k2] _) from hgs2 gs2[k2] (List.getElem_mem _))⟩ | exact ⟨by simpa using hg2,by simpa using ho2,zgx hgs2 ⟨(hgs2 gs2[k2] (List.getElem_mem _)).1,zfz _ _ (by simp)⟩⟩ | exact ⟨by simpa using hg2,by simpa using ho2,hgs2⟩ | exact ⟨by simpa using hg2,by simpa using ho2,zgx hgs2 ⟨hz,(hgs2 gs2[k2] (List.getElem_mem _)).2⟩⟩
       ·try simp [zG24,zbc,zbb] at hc4
        all_goals
         refine zbj ?_
         first | have hE:∃cz,cz=belowS l 5 c3∧below l 5 c3=0:=⟨_,rfl,by assumption⟩ | have hE:∃cz,cz=belowS l 5 c3∧¬below l 5 c3=0:=⟨_,rfl,by assumption⟩ | have hE:∃cz,cz=c3∧True:=⟨_,rfl,trivial⟩
         obtain ⟨cz,hcz,-⟩:=hE
         refine ⟨_,LeS.kw [(8,8),(256,256),(272,272)] [(4,.arr 256 0 (gs2).length),(5,.arr 272 0 (o2).length)] [(8,.cells (curC l (cz))),(256,.win 11 ((gs2).map DtCall.cells)),(272,.own 1 ((o2).map cI))] (by simp [zG23,KpR,renV2,renV,zbk,curC,DtCall.cells,cI,zc3,immC,hcz,setText,setEnd,setCmd,cGG];try (first | with_reducible rfl | omega|(simp;done))) (by simp [zG23,KpOW,wnO,renO,plO,cvO,renV,pl1,curC,DtCall.cells,cI,zc3,immC,hcz,setText,setEnd,setCmd,cGG];try (first | with_reducible rfl | exact .inr (zc3 (zfj (immC gs2) rfl)) | trace_state)) (by rfl) (by simp) (by simp) (by rfl) (by simp [formsX,List.range_succ,zbq,zby]),gs2,o2,cz,?_,rfl⟩
         ·first | exact ⟨hg2,ho2,hgs2⟩ | exact ⟨by simpa using hg2,by simpa using ho2,zgx hgs2 (show CallF (setEnd gs2[k2] _) from hgs2 gs2[k2] (List.getElem_mem _))⟩ | exact ⟨by simpa using hg2,by simpa using ho2,zgx hgs2 ⟨(hgs2 gs2[k2] (List.getElem_mem _)).1,zfz _ _ (by simp)⟩⟩ | exact ⟨by simpa using hg2,by simpa using ho2,hgs2⟩ | exact ⟨by simpa using hg2,by simpa using ho2,zgx hgs2 ⟨hz,(hgs2 gs2[k2] (List.getElem_mem _)).2⟩⟩
     ·rintro sS ⟨gs3,o3,c4,⟨hg3,ho3,hgs3⟩,rfl⟩
      refine zda (LeS.frzR 256 (o:=.win 11 (gs3.map DtCall.cells)) (sz:=11) (xs:=gs3.map DtCall.cells) (zm3 (cs:=curC l c4) (by simp [zG23,updL])) (by simp [formsX,List.range_succ]) (by simp [zG23,updL]) ⟨rfl,rfl,immC gs3⟩) ?_
      refine zda (LeS.vwT 4 256 (sz:=11) (xs:=gs3.map DtCall.cells) (off:=0) (len:=gs3.length) (by simp [zbz]) (by simp [zbz]) (by simp)) ?_
      refine zda (LeS.frzR 272 (o:=.own 1 (o3.map cI)) (sz:=1) (xs:=o3.map cI) (zm3 (cs:=curC l c4) (by simp [zG23,updL])) (by simp [formsX,List.range_succ]) (by simp [zG23,updL]) ⟨rfl,rfl⟩) ?_
      refine zda (LeS.vwT 5 272 (sz:=1) (xs:=o3.map cI) (off:=0) (len:=o3.length) (by simp [zG23,zbk]) (by simp [zbz]) (by simp)) ?_
      refine AW_x rfl rfl λK hK=>?_
      simp (disch:=omega) [zG22,cI,cS,cU,cmdO,DtCmd.cells,DtState.cells,DtCatalog.cells,DtCall.cells,-aAppZ]
      repeat' first|(exfalso;omega)|(refine ⟨λ_=>?_,λ_=>?_⟩)|(refine ⟨by omega,?_⟩)|(simp (disch:=omega) [zG22,cI,cS,cU,cmdO,DtCmd.cells,DtState.cells,DtCatalog.cells,DtCall.cells,-aAppZ])|(intro _)
      all_goals (refine hK _ ?_;clear hK K)
      all_goals
       refine zh0 (.tup [.sl 11 (gs3.map DtCall.cells),.sl 1 (o3.map cI)]) [.cells (curC l c4)] [] ?po (by simp) (by simp) (by simp [OB.xk]) (zb0 [] [] (by simp [zG23,List.range_succ]) (by simp) ?en)
       case en =>
        simp (disch:=omega) [zG22,cI,cS,cU,cmdO,DtCmd.cells,DtState.cells,DtCatalog.cells,DtCall.cells,-aAppZ]
        all_goals trace_state
       case po=>exact ⟨gs3,o3,c4,hg3,ho3,hgs3,rfl,rfl,rfl⟩
end Go.Proofs.Ytodmafgmdlkhoaa.Vs
end
section
namespace Go.Proofs.Ytodmafgmdlkhoaa.Vs
set_option linter.all false
/-! what an order of calls is -/
def lateB(l:List DtCall)(k j:Int):Bool:=match l[k.toNat]?,l[j.toNat]? with
 | some a,some b=>decide (a.fEnd<b.fStart)
 | _,_=>false
theorem zls{l:List DtCall}{k j:Int}(hk:k.toNat<l.length)(hj:j.toNat<l.length):lateB l k j=decide (l[k.toNat].fEnd<l[j.toNat].fStart):=by unfold lateB;rw [List.getElem?_eq_getElem hk,List.getElem?_eq_getElem hj]
def cmdA(l:List DtCall)(k:Int):DtCmd:=match l[k.toNat]? with
 | some c=>c.fCmd
 | none=>zeroCmd
def txtA(l:List DtCall)(k:Int):List UInt8:=match l[k.toNat]? with
 | some c=>c.fText
 | none=>[]
theorem zrf{l:List DtCall}{k:Int}(hk:k.toNat<l.length):cmdA l k=l[k.toNat].fCmd:=by unfold cmdA;rw [List.getElem?_eq_getElem hk]
theorem zrg{l:List DtCall}{k:Int}(hk:k.toNat<l.length):txtA l k=l[k.toNat].fText:=by unfold txtA;rw [List.getElem?_eq_getElem hk]
noncomputable def stP(l:List DtCall)(p:List Int):DtState:=p.foldl (λs k=>stC s (cmdA l k)) st0S
theorem stP_nil(l:List DtCall):stP l []=st0S:=rfl
theorem zrh(l:List DtCall)(p:List Int)(k:Int):stP l (p++[k])=stC (stP l p) (cmdA l k):=by unfold stP;rw [List.foldl_append];rfl
theorem zx3(l:List DtCall)(o:List Int)(i:Nat)(h:i<o.length):stP l (o.take (i+1))=stC (stP l (o.take i)) (cmdA l o[i]):=by rw [List.take_succ_eq_append_getElem h,zrh]
theorem stP_I(l:List DtCall)(p:List Int):StI (stP l p):=by
 have key:∀(p:List Int) (s:DtState),StI s→StI (p.foldl (λs k=>stC s (cmdA l k)) s):=by
  intro p
  induction p with
  | nil=>intro s hs;exact hs
  | cons k p ih=>intro s hs;exact ih _ (stC_I hs _)
 exact key p _ stI_nil
theorem zx4(l:List DtCall)(p:List Int):DtState.sz (stP l p)≤1048576:=stI_sz' (stP_I l p)
/-- What the program asks of the place i. -/
def FitP(l:List DtCall)(o:List Int)(i:Nat):Prop:=∀h:i<o.length,0≤o[i]∧o[i]<(l.length:Int)∧o[i]∉o.take i∧(o.take i).any (lateB l o[i])=false∧stR (stP l (o.take i)) (cmdA l o[i])=txtA l o[i]
/-- What the reference asks of it. -/
def FitQ(l:List DtCall)(o:List Int)(i:Nat):Prop:=∀h:i<o.length,0≤o[i]∧o[i]<(l.length:Int)∧o[i]∉o.take i∧(∀j:Nat,j<l.length→(j:Int)∉o.take (i+1)→lateB l j o[i]=false)∧stR (stP l (o.take i)) (cmdA l o[i])=txtA l o[i]
def FitsP(l:List DtCall)(o:List Int):Prop:=∀i,FitP l o i
def FitsQ(l:List DtCall)(o:List Int):Prop:=∀i,FitQ l o i
theorem zkg{o:List Int}(h:∀(i:Nat) (hi:i<o.length),o[i]∉o.take i):o.Nodup:=by
 refine List.pairwise_iff_getElem.2 λi j hi hj hij e=>h j hj ?_
 rw [←e]
 exact List.mem_iff_getElem.2 ⟨i,by simp;omega,by simp⟩
theorem nd_len:∀(l m:List Nat),l.Nodup→(∀x∈l,x∈m)→l.length≤m.length
 | [],m,_,_=>by simp
 | a :: l,m,h,hs=>by
  obtain ⟨h1,h2⟩:=List.nodup_cons.1 h
  have ha:=hs a List.mem_cons_self
  have:=nd_len l (m.erase a) h2 λx hx=>(List.mem_erase_of_ne (λe=>h1 (by rw [←e];exact hx))).2 (hs x (List.mem_cons_of_mem _ hx))
  rw [List.length_erase_of_mem ha] at this
  have hm:0<m.length:=List.length_pos_of_mem ha
  simp only [List.length_cons]
  omega
theorem ztm{o:List Int}{n:Nat}(hn:o.Nodup)(hr:∀x∈o,0≤x∧x<(n:Int))(hl:o.length=n)(j:Nat)(hj:j<n):(j:Int)∈o:=by
 have h1:(o.map Int.toNat).Nodup:=by
  refine List.pairwise_iff_getElem.2 λa b ha hb hab e=>?_
  simp only [List.length_map] at ha hb
  simp only [List.getElem_map] at e
  have x1:=hr _ (List.getElem_mem ha)
  have x2:=hr _ (List.getElem_mem hb)
  exact List.pairwise_iff_getElem.1 hn a b ha hb hab (by omega)
 refine Classical.byContradiction λhj2=>?_
 have:=nd_len (o.map Int.toNat) ((List.range n).erase j) h1 λx hx=>by
  obtain ⟨y,hy,rfl⟩:=List.mem_map.1 hx
  have hy2:=hr y hy
  refine (List.mem_erase_of_ne λe=>hj2 ?_).2 (List.mem_range.2 (by omega))
  have:y=(j:Int):=by omega
  rw [←this];exact hy
 rw [List.length_erase_of_mem (List.mem_range.2 hj),List.length_map,List.length_range] at this
 omega
theorem zx5{l:List DtCall}{o:List Int}(hl:o.length=l.length):FitsP l o↔FitsQ l o:=by
 constructor
 ·intro h i hi
  obtain ⟨h1,h2,h3,h4,h5⟩:=h i hi
  refine ⟨h1,h2,h3,λj hj hjn=>?_,h5⟩
  have hnd:=zkg λi hi=>(h i hi).2.2.1
  have hm:=ztm (n:=l.length) hnd (λx hx=>by
   obtain ⟨a,ha,rfl⟩:=List.getElem_of_mem hx
   exact ⟨(h a ha).1,(h a ha).2.1⟩) hl j hj
  obtain ⟨p,hp,e⟩:=List.getElem_of_mem hm
  have hpi:i<p:=by
   refine Nat.lt_of_not_le λhpi=>hjn ?_
   exact List.mem_iff_getElem.2 ⟨p,by simp;omega,by simp [e]⟩
  have h6:=(h p hp).2.2.2.1
  rw [List.any_eq_false] at h6
  have:=h6 o[i] (List.mem_iff_getElem.2 ⟨i,by simp;omega,by simp⟩)
  rw [e] at this
  simpa using this
 ·intro h i hi
  obtain ⟨h1,h2,h3,h4,h5⟩:=h i hi
  refine ⟨h1,h2,h3,?_,h5⟩
  rw [List.any_eq_false]
  intro x hx
  obtain ⟨j,hj,rfl⟩:=List.getElem_of_mem hx
  simp only [List.length_take] at hj
  simp only [List.getElem_take]
  have hj2:j<o.length:=by omega
  obtain ⟨-,-,-,g4,-⟩:=h j hj2
  have:=g4 o[i].toNat (by omega) (λhm=>h3 (by
   rw [show ((o[i].toNat:Nat):Int)=o[i] by omega] at hm
   exact List.take_subset_take_left _ (by omega) hm))
  rw [show ((o[i].toNat:Nat):Int)=o[i] by omega] at this
  simp [this]
def seenL(n:Nat)(p:List Int):List (List AV):=(List.range n).map λj:Nat=>cB (decide ((j:Int)∈p))
theorem zjs(n:Nat)(p:List Int):(seenL n p).length=n:=by simp [seenL]
theorem znl(n:Nat):seenL n []=List.replicate n [.g (.bool false)]:=by
 refine List.ext_getElem (by simp [seenL]) λi h1 h2=>?_
 simp [seenL,cB]
theorem zlt(n:Nat)(p:List Int)(j:Nat)(h:j<n):(seenL n p)[j]? = some (cB (decide ((j:Int)∈p))):=by simp [seenL,h]
theorem znm(n:Nat)(p:List Int)(k:Int)(h0:0≤k):(seenL n p).set k.toNat (cB true)=seenL n (p++[k]):=by
 refine List.ext_getElem (by simp [seenL]) λi h1 h2=>?_
 rw [List.getElem_set]
 simp only [seenL,List.getElem_map,List.getElem_range]
 by_cases e:k.toNat=i
 ·rw [if_pos e]
  have:(i:Int)=k:=by omega
  simp [this]
 ·rw [if_neg e]
  have:¬(i:Int)=k:=by omega
  simp [this]
theorem zc0(n:Nat)(p:List Int):scR (seenL n p)=true:=zdn (λj:Nat=>cB (decide ((j:Int)∈p))) (λ_=>rfl) _
theorem seenL_setN(n:Nat)(p:List Int)(i:Nat):(seenL n p).set i [.g (.bool true)]=seenL n (p++[(i:Int)]):=by
 have:=znm n p (i:Int) (by omega)
 simpa [cB] using this
theorem zpt(n:Nat)(p:List Int):List.flatMap (λy=>List.flatMap names1 y) (seenL n p)=[]:=by
 unfold seenL
 induction List.range n with
 | nil=>rfl
 | cons x p ih=>rw [List.map_cons,List.flatMap_cons,ih];rfl
end Go.Proofs.Ytodmafgmdlkhoaa.Vs
end
section
namespace Go.Proofs.Ytodmafgmdlkhoaa.Vs
set_option linter.all false
set_option maxRecDepth 100000
def CallAt(c:DtCall):Prop:=c.fStart<c.fEnd∧CmdP c.fCmd∧c.fCmd.fKind≠0
def CallsP(l:List DtCall):Prop:=l.length≤8∧∀(i:Nat) c,l[i]? = some c→CallAt c
theorem zkr(l:List DtCall)(hs:szS DtCall.sz l≤1048576):l.length≤1048576∧∀i (h:i<l.length),DtCmd.sz l[i].fCmd≤1048576:=by
 have h0:=zck DtCall.sz_nonneg l
 simp only [szS] at hs
 refine ⟨by omega,λi h=>?_⟩
 have h1:=zdu DtCall.sz_nonneg l l[i] (List.getElem_mem _)
 simp only [DtCall.sz] at h1
 omega
attribute [local simp] DtCall.cells DtCmd.cells zba zbf
theorem zd6(l:List DtCall)(hs:szS DtCall.sz l≤1048576):PCall Try.prog 21 [.sl 11 (l.map DtCall.cells)] (.g (.bool (decB (CallsP l)))):=by
 have ⟨hl,hl2⟩:=zkr l hs
 refine zbr Try.func21 (by rfl) (by rfl) (by rw [Try.ntmps21];exact Nat.le_of_ble_eq_true rfl) rfl (by decide) ?_
 rw [Try.ntmps21]
 refine AW_k [(0,_)] ⟨rfl,trivial⟩ ?_
 refine AW_r rfl rfl λK hK=>?_
 simp (disch:=omega)
 repeat' first|(refine ⟨by omega,?_⟩)|(intro _)
 refine hK _ ?_;clear hK K
 refine zbi ?_
 refine AW_r rfl rfl λK hK=>?_
 simp (disch:=omega)
 repeat' first|(refine ⟨by omega,?_⟩)|(intro _)
 refine hK _ ?_;clear hK K
 refine zbh rfl (λhc1=>?_) (λhc1=>?_)
 ·try simp [zG24,zbc,zbb] at hc1
  all_goals
   refine AW_r rfl rfl λK hK=>?_
   simp (disch:=omega)
   repeat' first|(exfalso;omega)|(refine ⟨λ_=>?_,λ_=>?_⟩)|(refine ⟨by omega,?_⟩)|(intro _)
   all_goals (refine hK _ ?_;clear hK K)
   all_goals
    refine zbp (zcb ?_)
    simp (disch:=omega)
    all_goals first | grind [CallsP,CallAt]|(refine zb5 λh=>?_;grind [CallsP,CallAt])|(refine zb4 ?_;grind [CallsP,CallAt])
 ·try simp [zG24,zbc,zbb] at hc1
  all_goals
   refine zbj ?_
   refine zbn ?_
   refine zbi ?_
   refine AW_r rfl rfl λK hK=>?_
   simp (disch:=omega)
   repeat' first|(exfalso;omega)|(refine ⟨λ_=>?_,λ_=>?_⟩)|(refine ⟨by omega,?_⟩)|(intro _)
   all_goals (refine hK _ ?_;clear hK K)
   all_goals
    refine zbm ?_
    refine zbv (λmM sS=>∃(i:Nat),mM=l.length-i∧(i≤l.length∧∀(j:Nat) x,j<i→l[j]? = some x→CallAt x)∧sS = { env:=lkE [(0,.sl 11 (l.map DtCall.cells)),(3,(.g (.int .i64 ((i:Nat)))))],ob:=formOb [] [] }) ?_ ?_
    ·refine ⟨_,LeS.kp [(0,.sl 11 (l.map DtCall.cells)),(3,(.g (.int .i64 (((0):Nat)))))] (by simp [KpE,zbz,zbk,zbq];try rfl),_,0,rfl,?_,rfl⟩
     ·simp
    ·rintro mM sS ⟨i,rfl,⟨hi,hpre⟩,rfl⟩
     refine zbi ?_
     refine AW_r rfl rfl λK hK=>?_
     simp (disch:=omega)
     repeat' first|(refine ⟨by omega,?_⟩)|(intro _)
     refine hK _ ?_;clear hK K
     refine zbh rfl (λhc2=>?_) (λhc2=>?_)
     ·try simp [zG24,zbc,zbb] at hc2
      all_goals
       have hg:l[i]? = some l[i]:=List.getElem?_eq_getElem (by omega)
       have hm:=hl2 i (by omega)
       refine zbj ?_
       refine zbn ?_
       refine zbi ?_
       refine zbm ?_
       refine AW_q rfl mix (by kernel_rfl) rfl λK hK=>?_
       simp (disch:=omega)
       repeat' first|(exfalso;omega)|(refine zdg (zbe (zb6 rfl) zbo) (zfy _ (by omega)) rfl ?_;simp (disch:=omega))|(refine ⟨λ_=>?_,λ_=>?_⟩)|(refine ⟨by omega,?_⟩)|(intro _)
       all_goals (refine hK _ ?_;clear hK K)
       all_goals
        refine zbh rfl (λhc3=>?_) (λhc3=>?_)
        ·try simp [zG24,zbc,zbb] at hc3
         all_goals
          refine AW_r rfl rfl λK hK=>?_
          simp (disch:=omega)
          repeat' first|(exfalso;omega)|(refine ⟨λ_=>?_,λ_=>?_⟩)|(refine ⟨by omega,?_⟩)|(intro _)
          all_goals (refine hK _ ?_;clear hK K)
          all_goals
           refine zbp (zcb ?_)
           simp (disch:=omega)
           all_goals first | grind [CallsP,CallAt]|(refine zb5 λh=>?_;grind [CallsP,CallAt])|(refine zb4 ?_;grind [CallsP,CallAt])
        ·try simp [zG24,zbc,zbb] at hc3
         all_goals
          refine zbj ?_
          refine zbn ?_
          refine zc8 rfl rfl λK hK=>?_
          simp (disch:=omega)
          repeat' first|(exfalso;omega)|(refine ⟨λ_=>?_,λ_=>?_⟩)|(refine ⟨by omega,?_⟩)|(intro _)
          all_goals (refine hK _ ?_;clear hK K)
          all_goals
           refine ⟨_,LeS.kp [(0,.sl 11 (l.map DtCall.cells)),(3,(.g (.int .i64 (((i+1):Nat)))))] (by simp [KpE,zbz,zbk,zbq];try rfl),_,?_,i+1,rfl,?_,rfl⟩
           ·omega
           ·refine ⟨by omega,?_⟩;grind [CallAt]
     ·try simp [zG24,zbc,zbb] at hc2
      all_goals
       refine zbx ?_
       refine zbn ?_
       refine AW_r rfl rfl λK hK=>?_
       simp (disch:=omega)
       repeat' first|(exfalso;omega)|(refine ⟨λ_=>?_,λ_=>?_⟩)|(refine ⟨by omega,?_⟩)|(intro _)
       all_goals (refine hK _ ?_;clear hK K)
       all_goals
        refine zbp (zcb ?_)
        simp (disch:=omega)
        all_goals first | grind [CallsP,CallAt]|(refine zb5 λh=>?_;grind [CallsP,CallAt])|(refine zb4 ?_;grind [CallsP,CallAt])
theorem zd7(l:List DtCall)(hs:szS DtCall.sz l≤1048576):PCall Try.prog 20 [.sl 11 (l.map DtCall.cells)] (.g (.bool (decB (CallsP l)))):=by
 have ⟨hl,hl2⟩:=zkr l hs
 refine zbr Try.func20 (by rfl) (by rfl) (by rw [Try.ntmps20];exact Nat.le_of_ble_eq_true rfl) rfl (by decide) ?_
 rw [Try.ntmps20]
 refine AW_k [(0,_)] ⟨rfl,trivial⟩ ?_
 refine AW_r rfl rfl λK hK=>?_
 simp (disch:=omega)
 repeat' first|(refine ⟨by omega,?_⟩)|(intro _)
 refine hK _ ?_;clear hK K
 refine zbi ?_
 refine AW_r rfl rfl λK hK=>?_
 simp (disch:=omega)
 repeat' first|(refine ⟨by omega,?_⟩)|(intro _)
 refine hK _ ?_;clear hK K
 refine zbm ?_
 refine zbv (λmM sS=>∃(i:Nat),mM=l.length-i∧(i≤l.length∧∀(j:Nat) x,j<i→l[j]? = some x→CallAt x)∧sS = { env:=lkE [(0,.sl 11 (l.map DtCall.cells)),(5,.sl 11 (l.map DtCall.cells)),(6,(.g (.int .i64 ((l.length:Nat))))),(7,(.g (.int .i64 ((i:Nat)))))],ob:=lk [] }) ?_ ?_
 ·refine ⟨_,LeS.ko [(0,.sl 11 (l.map DtCall.cells)),(5,.sl 11 (l.map DtCall.cells)),(6,(.g (.int .i64 ((l.length:Nat))))),(7,(.g (.int .i64 (((0):Nat)))))] [] (by simp [KpE,zbz,zbk,zbq];try rfl) (by simp [zG23,KpO,zcc];try rfl) (by rfl) (by simp) (by rfl),_,0,rfl,?_,rfl⟩
  ·simp
 ·rintro mM sS ⟨i,rfl,⟨hi,hpre⟩,rfl⟩
  refine AW_r rfl rfl λK hK=>?_
  simp (disch:=omega)
  repeat' first|(refine ⟨by omega,?_⟩)|(intro _)
  refine hK _ ?_;clear hK K
  refine zbi ?_
  refine zbh rfl (λhc4=>?_) (λhc4=>?_)
  ·try simp [zG24,zbc,zbb] at hc4
   all_goals
    have hg:l[i]? = some l[i]:=List.getElem?_eq_getElem (by omega)
    have hm:=hl2 i (by omega)
    refine zbj ?_
    refine zbn ?_
    refine zbi ?_
    refine zbm ?_
    refine AW_r rfl rfl λK hK=>?_
    simp (disch:=omega)
    repeat' first|(exfalso;omega)|(refine ⟨λ_=>?_,λ_=>?_⟩)|(refine ⟨by omega,?_⟩)|(intro _)
    all_goals (refine hK _ ?_;clear hK K)
    all_goals
     refine AW_r rfl rfl λK hK=>?_
     simp (disch:=omega)
     repeat' first|(exfalso;omega)|(refine zdg (zbe (zb6 rfl) zbo) (zg9 _ (by omega)) rfl ?_;simp (disch:=omega))|(refine ⟨λ_=>?_,λ_=>?_⟩)|(refine ⟨by omega,?_⟩)|(intro _)
     all_goals (refine hK _ ?_;clear hK K)
     all_goals
      refine zbh rfl (λhc5=>?_) (λhc5=>?_)
      ·try simp [zG24,zbc,zbb] at hc5
       all_goals
        refine AW_r rfl rfl λK hK=>?_
        simp (disch:=omega)
        repeat' first|(exfalso;omega)|(refine ⟨λ_=>?_,λ_=>?_⟩)|(refine ⟨by omega,?_⟩)|(intro _)
        all_goals (refine hK _ ?_;clear hK K)
        all_goals
         refine zbp (zcb ?_)
         simp (disch:=omega)
         all_goals first | grind [CallsP,CallAt]|(refine zb5 λh=>?_;grind [CallsP,CallAt])|(refine zb4 ?_;grind [CallsP,CallAt])|(rw [Bool.eq_iff_iff,zba];simp;grind [CallsP,CallAt])
      ·try simp [zG24,zbc,zbb] at hc5
       all_goals
        refine zbj ?_
        refine zbn ?_
        refine zc8 rfl rfl λK hK=>?_
        simp (disch:=omega)
        repeat' first|(exfalso;omega)|(refine ⟨λ_=>?_,λ_=>?_⟩)|(refine ⟨by omega,?_⟩)|(intro _)
        all_goals (refine hK _ ?_;clear hK K)
        all_goals
         refine ⟨_,LeS.ko [(0,.sl 11 (l.map DtCall.cells)),(5,.sl 11 (l.map DtCall.cells)),(6,(.g (.int .i64 ((l.length:Nat))))),(7,(.g (.int .i64 (((i+1):Nat)))))] [] (by simp [KpE,zbz,zbk,zbq];try rfl) (by simp [zG23,KpO,zcc];try rfl) (by rfl) (by simp) (by rfl),_,?_,i+1,rfl,?_,rfl⟩
         ·omega
         ·refine ⟨by omega,?_⟩;grind [CallAt]
  ·try simp [zG24,zbc,zbb] at hc4
   all_goals
    refine zbx ?_
    refine zbn ?_
    refine AW_r rfl rfl λK hK=>?_
    simp (disch:=omega)
    repeat' first|(exfalso;omega)|(refine ⟨λ_=>?_,λ_=>?_⟩)|(refine ⟨by omega,?_⟩)|(intro _)
    all_goals (refine hK _ ?_;clear hK K)
    all_goals
     refine zbp (zcb ?_)
     simp (disch:=omega)
     all_goals first | grind [CallsP,CallAt]|(refine zb5 λh=>?_;grind [CallsP,CallAt])|(refine zb4 ?_;grind [CallsP,CallAt])|(rw [Bool.eq_iff_iff,zba];simp;grind [CallsP,CallAt])
end Go.Proofs.Ytodmafgmdlkhoaa.Vs
end
section
namespace Go.Proofs.Ytodmafgmdlkhoaa.Vs
set_option linter.all false
set_option maxRecDepth 100000
set_option maxHeartbeats 2000000
section
variable {P:Program}{q:Bool}{rest:List CO}{K:St→Prop}{st:St}{dst:Option Nat}{f:FuncId}{l l':List AV}{r:AV}
theorem zhb(n m:Nat)(hnm:n≠m){cs cs' ds ds':List AV}(ho:st.ob n=some (.cells cs)∨st.ob n=some (.rocells cs))(ho2:st.ob m=some (.cells ds)∨st.ob m=some (.rocells ds))(hm:am1s st (nuOf [n,m] []) cs cs')(hm2:am1s st (nuOf [n,m] []) ds ds')(ha:am2s st (nuOf [n,m] []) l l')(hp:GCall P f l' [cs',ds'] [] r [])(hs:scal r=true)(hk:creg P q rest (putC st dst r []) K):CKd P q rest K st dst f l:=by
 refine ⟨r,[],⟨[n,m],[],l',[cs',ds'],[],[],hp,rfl,rfl,rfl,by simp,by simpa using hnm,ha,⟨⟨cs,ho,hm⟩,⟨ds,ho2,hm2⟩,rfl⟩,rfl,?_⟩,λ_=>rfl,hk⟩
 simp [hs,zipW]
theorem zf7{n m off:Nat}:am2 st (nuOf [n,m] []) (.ptr m off) (.ptr 1 off):=⟨rfl,rfl⟩
theorem zwn{n m off off':Nat}{g:FuncId}:am2 st (nuOf [n,m] []) (.fn g [] [.ptr n off,.ptr m off']) (.fn g [] [.ptr 0 off,.ptr 1 off']):=⟨rfl,rfl,⟨⟨rfl,rfl⟩,⟨rfl,rfl⟩,rfl⟩⟩
theorem zks{n m off:Nat}:am2 st (nuOf [n,m] []) (.ptr n off) (.ptr 0 off):=⟨rfl,rfl⟩
end
theorem zf0(cs ds:List AV)(n:Nat):formOb [cs,ds] [] n=if n=0 then some (.rocells cs) else if n=1 then some (.rocells ds) else none:=by
 unfold formOb
 by_cases h:n=0
 ·subst h;simp
 ·by_cases h1:n=1
  ·subst h1;simp
  ·rw [if_neg h,if_neg h1]
   split
   ·obtain ⟨k,rfl⟩:∃k,n=k+2:=⟨n-2,by omega⟩
    simp
   ·simp
attribute [local simp] cI
theorem indexI(l:List Int)(x:Int)(hn:l.length≤1048576):PCall Try.prog 80 [.sl 1 (l.map cI),(.g (.int .i64 (x)))] (.g (.int .i64 (idxZ (λy=>decide (x=y)) l))):=by
 refine zbr Try.func80 (by rfl) (by rfl) (by rw [Try.ntmps80];exact Nat.le_of_ble_eq_true rfl) rfl (by decide) ?_
 rw [Try.ntmps80]
 refine AW_k [(0,_),(1,_)] ⟨rfl,rfl,trivial⟩ ?_
 refine AW_r rfl rfl λK hK=>?_
 simp (disch:=omega)
 repeat' first|(refine ⟨by omega,?_⟩)|(intro _)
 refine hK _ ?_;clear hK K
 refine zbi ?_
 refine AW_r rfl rfl λK hK=>?_
 simp (disch:=omega)
 repeat' first|(refine ⟨by omega,?_⟩)|(intro _)
 refine hK _ ?_;clear hK K
 refine zbm ?_
 refine zbv (λmM sS=>∃(i:Nat),mM=l.length-i∧(i≤l.length∧∀(j:Nat) y,j<i→l[j]? = some y→decide (x=y)=false)∧sS = { env:=lkE [(0,.sl 1 (l.map cI)),(1,(.g (.int .i64 (x)))),(6,.sl 1 (l.map cI)),(7,(.g (.int .i64 ((l.length:Nat))))),(8,(.g (.int .i64 ((i:Nat)))))],ob:=formOb [] [] }) ?_ ?_
 ·refine ⟨_,LeS.kp [(0,.sl 1 (l.map cI)),(1,(.g (.int .i64 (x)))),(6,.sl 1 (l.map cI)),(7,(.g (.int .i64 ((l.length:Nat))))),(8,(.g (.int .i64 (((0):Nat)))))] (by simp [KpE,zbz,zbk,zbq];try rfl),_,0,rfl,?_,rfl⟩
  ·simp
 ·rintro mM sS ⟨i,rfl,⟨hi,hpre⟩,rfl⟩
  refine AW_r rfl rfl λK hK=>?_
  simp (disch:=omega)
  repeat' first|(refine ⟨by omega,?_⟩)|(intro _)
  refine hK _ ?_;clear hK K
  refine zbi ?_
  refine zbh rfl (λhc1=>?_) (λhc1=>?_)
  ·try simp [zG24,zbc,zbb] at hc1
   all_goals
    have hg:l[i]? = some l[i]:=List.getElem?_eq_getElem (by omega)
    refine zbj ?_
    refine zbn ?_
    refine zbi ?_
    refine zbm ?_
    refine AW_r rfl rfl λK hK=>?_
    simp (disch:=omega)
    repeat' first|(exfalso;omega)|(refine ⟨λ_=>?_,λ_=>?_⟩)|(refine ⟨by omega,?_⟩)|(intro _)
    all_goals (refine hK _ ?_;clear hK K)
    all_goals
     refine AW_r rfl rfl λK hK=>?_
     simp (disch:=omega)
     repeat' first|(refine ⟨by omega,?_⟩)|(intro _)
     refine hK _ ?_;clear hK K
     refine zbh rfl (λhc2=>?_) (λhc2=>?_)
     ·try simp [zG24,zbc,zbb] at hc2
      all_goals
       refine AW_r rfl rfl λK hK=>?_
       simp (disch:=omega)
       repeat' first|(exfalso;omega)|(refine ⟨λ_=>?_,λ_=>?_⟩)|(refine ⟨by omega,?_⟩)|(intro _)
       all_goals (refine hK _ ?_;clear hK K)
       all_goals
        refine zbp (zcb ?_)
        simp (disch:=omega)
        all_goals first|(exact zch (by assumption) (by simp_all) hpre)|(exact zc4 (λj x h=>hpre j x (by omega))) | trace_state
     try simp [zG24,zbc,zbb] at hc2
     refine zbj ?_
     refine zbn ?_
     refine zc8 rfl rfl λK hK=>?_
     simp (disch:=omega)
     repeat' first|(exfalso;omega)|(refine ⟨λ_=>?_,λ_=>?_⟩)|(refine ⟨by omega,?_⟩)|(intro _)
     all_goals (refine hK _ ?_;clear hK K)
     all_goals
      refine ⟨_,LeS.kp [(0,.sl 1 (l.map cI)),(1,(.g (.int .i64 (x)))),(6,.sl 1 (l.map cI)),(7,(.g (.int .i64 ((l.length:Nat))))),(8,(.g (.int .i64 (((i+1):Nat)))))] (by simp [KpE,zbz,zbk,zbq];try rfl),_,?_,i+1,rfl,?_,rfl⟩
      ·omega
      ·refine ⟨by omega,?_⟩;grind
  try simp [zG24,zbc,zbb] at hc1
  refine zbx ?_
  refine zbn ?_
  refine AW_r rfl rfl λK hK=>?_
  simp (disch:=omega)
  repeat' first|(exfalso;omega)|(refine ⟨λ_=>?_,λ_=>?_⟩)|(refine ⟨by omega,?_⟩)|(intro _)
  all_goals (refine hK _ ?_;clear hK K)
  all_goals
   refine zbp (zcb ?_)
   simp (disch:=omega)
   all_goals first|(exact zch (by assumption) (by simp_all) hpre)|(exact zc4 (λj x h=>hpre j x (by omega))) | trace_state
theorem zfk{α:Type}(l:List α)(p:α→Bool):decide (0≤idxZ p l)=l.any p:=by
 rw [Bool.eq_iff_iff]
 simp only [decide_eq_true_eq,List.any_eq_true]
 unfold idxZ
 split
 ·rename_i i h
  obtain ⟨h1,h2,-⟩:=List.findIdx?_eq_some_iff_getElem.1 h
  exact ⟨λ_=>⟨_,List.getElem_mem h1,h2⟩,λ_=>by omega⟩
 ·rename_i h
  rw [List.findIdx?_eq_none_iff] at h
  exact ⟨λh=>by omega,λ⟨x,hx,e⟩=>by simp [h x hx] at e⟩
theorem containsI(l:List Int)(x:Int)(hn:l.length≤1048576):PCall Try.prog 46 [.sl 1 (l.map cI),(.g (.int .i64 (x)))] (.g (.bool (l.any λy=>decide (x=y)))):=by
 refine zbr Try.func46 (by rfl) (by rfl) (by rw [Try.ntmps46];exact Nat.le_of_ble_eq_true rfl) rfl (by decide) ?_
 rw [Try.ntmps46]
 refine AW_k [(0,_),(1,_)] ⟨rfl,rfl,trivial⟩ ?_
 refine AW_r rfl rfl λK hK=>?_
 simp (disch:=omega) [cI,zfk]
 repeat' first|(refine ⟨by omega,?_⟩)|(intro _)
 refine hK _ ?_;clear hK K
 refine AW_r rfl rfl λK hK=>?_
 simp (disch:=omega) [cI,zfk]
 repeat' first|(exfalso;omega)|(refine zdg (zbe zce (zbe zcl zbo)) (indexI _ _ (by omega)) rfl ?_;simp (disch:=omega) [cI,zfk])|(refine ⟨by omega,?_⟩)|(intro _)
 refine hK _ ?_;clear hK K
 refine zbp (zcb ?_)
 simp (disch:=omega) [cI,zfk]
 all_goals first | omega|(simp_all;done)|(simp [List.take_of_length_le];done)|((try simp_all);(try simp (disch:=omega) only [zcj,Int.tdiv_eq_ediv_of_nonneg,Int.tmod_eq_emod_of_nonneg,and_true,true_and]);done)|((try simp_all);(try simp (disch:=omega) only [zcj,Int.tdiv_eq_ediv_of_nonneg,Int.tmod_eq_emod_of_nonneg,and_true,true_and] at *);omega)
theorem zhk(ys:List (List AV))(l:List Int)(hy:ys=l.map cI)(x:Int)(hn:l.length≤1048576):PCall Try.prog 46 [.sl 1 ys,(.g (.int .i64 (x)))] (.g (.bool (l.any λy=>decide (x=y)))):=by subst hy;exact containsI l x hn
attribute [local simp] DtCall.cells DtCmd.cells zf0
theorem isLate1(l:List DtCall)(j k:Int)(hj:0≤j∧j<(l.length:Int))(hk:0≤k∧k<(l.length:Int)):GCall Try.prog 82 [(.g (.int .i64 (j))),.ptr 0 0,.ptr 1 0] [[.sl 11 (l.map DtCall.cells)],[(.g (.int .i64 (k)))]] [] (.g (.bool (lateB l k j))) []:=by
 have e:=zls (l:=l) (k:=k) (j:=j) (by omega) (by omega)
 refine zbr Try.func82 (by rfl) (by rfl) (by rw [Try.ntmps82];exact Nat.le_of_ble_eq_true rfl) rfl (by decide) ?_
 rw [Try.ntmps82]
 refine AW_k [(0,_),(1,_),(2,_)] ⟨rfl,rfl,rfl,trivial⟩ ?_
 refine AW_r rfl rfl λK hK=>?_
 simp (disch:=omega)
 repeat' first|(refine ⟨by omega,?_⟩)|(intro _)
 refine hK _ ?_;clear hK K
 refine AW_q rfl mix (by kernel_rfl) rfl λK hK=>?_
 simp (disch:=omega)
 repeat' first|(refine ⟨by omega,?_⟩)|(intro _)
 refine hK _ ?_;clear hK K
 refine zbp (zcb ?_)
 simp (disch:=omega)
 all_goals first|(rw [e];done) | trace_state
attribute [-simp] DtCall.cells DtCmd.cells zf0
theorem znn{F:FuncId}{cs ds:List AV}(hcs:cs.all plain1=true)(hds:ds.all plain1=true){p:Int→Bool}(xs:List Int)(hn:xs.length≤1048576)(hf:∀x∈xs,GCall Try.prog F [(.g (.int .i64 (x))),.ptr 0 0,.ptr 1 0] [cs,ds] [] (.g (.bool (p x))) []):GCall Try.prog 99 [.sl 1 (xs.map cI),.fn F [] [.ptr 0 0,.ptr 1 0]] [cs,ds] [] (.g (.int .i64 (idxZ p xs))) []:=by
 refine zbr Try.func99 (by rfl) (by rfl) (by rw [Try.ntmps99];exact Nat.le_of_ble_eq_true rfl) rfl (by decide) ?_
 rw [Try.ntmps99]
 refine AW_k [(0,_),(1,_)] ⟨rfl,rfl,trivial⟩ ?_
 refine AW_r rfl rfl λK hK=>?_
 simp (disch:=omega)
 repeat' first|(refine zhb 0 1 (by decide) (.inr rfl) (.inr rfl) (zbt cs hcs) (zbt ds hds) (zbe zcl (zbe zks (zbe zf7 zbo))) (hf _ (List.getElem_mem _)) rfl ?_;try simp (disch:=omega))|(refine ⟨by omega,?_⟩)|(intro _)
 refine hK _ ?_;clear hK K
 refine zbi ?_
 refine AW_r rfl rfl λK hK=>?_
 simp (disch:=omega)
 repeat' first|(refine zhb 0 1 (by decide) (.inr rfl) (.inr rfl) (zbt cs hcs) (zbt ds hds) (zbe zcl (zbe zks (zbe zf7 zbo))) (hf _ (List.getElem_mem _)) rfl ?_;try simp (disch:=omega))|(refine ⟨by omega,?_⟩)|(intro _)
 refine hK _ ?_;clear hK K
 refine zbm ?_
 refine zbv (λmM sS=>∃(i:Nat),mM=xs.length-i∧(i≤xs.length∧∀j x,j<i→xs[j]? = some x→p x=false)∧sS = { env:=lkE [(0,.sl 1 (xs.map cI)),(1,.fn F [] [.ptr 0 0,.ptr 1 0]),(6,.sl 1 (xs.map cI)),(7,(.g (.int .i64 ((xs.length:Nat))))),(8,(.g (.int .i64 ((i:Nat)))))],ob:=formOb [cs,ds] [] }) ?_ ?_
 ·refine ⟨_,LeS.kp [(0,.sl 1 (xs.map cI)),(1,.fn F [] [.ptr 0 0,.ptr 1 0]),(6,.sl 1 (xs.map cI)),(7,(.g (.int .i64 ((xs.length:Nat))))),(8,(.g (.int .i64 (((0):Nat)))))] (by simp [KpE,zbz,zbk,zbq];try rfl),_,0,rfl,?_,rfl⟩
  ·simp
 ·rintro mM sS ⟨i,rfl,⟨hi,hpre⟩,rfl⟩
  refine AW_r rfl rfl λK hK=>?_
  simp (disch:=omega)
  repeat' first|(refine zhb 0 1 (by decide) (.inr rfl) (.inr rfl) (zbt cs hcs) (zbt ds hds) (zbe zcl (zbe zks (zbe zf7 zbo))) (hf _ (List.getElem_mem _)) rfl ?_;try simp (disch:=omega))|(refine ⟨by omega,?_⟩)|(intro _)
  refine hK _ ?_;clear hK K
  refine zbi ?_
  refine zbh rfl (λhc3=>?_) (λhc3=>?_)
  ·try simp [zG24,zbc,zbb] at hc3
   all_goals
    have hg:xs[i]? = some (xs[i]):=List.getElem?_eq_getElem (by omega)
    refine zbj ?_
    refine zbn ?_
    refine zbi ?_
    refine zbm ?_
    refine AW_r rfl rfl λK hK=>?_
    simp (disch:=omega)
    repeat' first|(exfalso;omega)|(refine zhb 0 1 (by decide) (.inr rfl) (.inr rfl) (zbt cs hcs) (zbt ds hds) (zbe zcl (zbe zks (zbe zf7 zbo))) (hf _ (List.getElem_mem _)) rfl ?_;try simp (disch:=omega))|(refine ⟨λ_=>?_,λ_=>?_⟩)|(refine ⟨by omega,?_⟩)|(intro _)
    all_goals (refine hK _ ?_;clear hK K)
    all_goals
     refine AW_r rfl rfl λK hK=>?_
     simp (disch:=omega)
     repeat' first|(refine zhb 0 1 (by decide) (.inr rfl) (.inr rfl) (zbt cs hcs) (zbt ds hds) (zbe zcl (zbe zks (zbe zf7 zbo))) (hf _ (List.getElem_mem _)) rfl ?_;try simp (disch:=omega))|(refine ⟨by omega,?_⟩)|(intro _)
     refine hK _ ?_;clear hK K
     refine zbh rfl (λhc4=>?_) (λhc4=>?_)
     ·try simp [zG24,zbc,zbb] at hc4
      all_goals
       refine AW_r rfl rfl λK hK=>?_
       simp (disch:=omega)
       repeat' first|(exfalso;omega)|(refine zhb 0 1 (by decide) (.inr rfl) (.inr rfl) (zbt cs hcs) (zbt ds hds) (zbe zcl (zbe zks (zbe zf7 zbo))) (hf _ (List.getElem_mem _)) rfl ?_;try simp (disch:=omega))|(refine ⟨λ_=>?_,λ_=>?_⟩)|(refine ⟨by omega,?_⟩)|(intro _)
       all_goals (refine hK _ ?_;clear hK K)
       all_goals
        refine zbp (zcb ?_)
        simp (disch:=omega)
        all_goals first|(exact zch (by assumption) (by assumption) hpre)|(exact zc4 (λj x h=>hpre j x (by omega))) | trace_state
     try simp [zG24,zbc,zbb] at hc4
     refine zbj ?_
     refine zbn ?_
     refine zc8 rfl rfl λK hK=>?_
     simp (disch:=omega)
     repeat' first|(exfalso;omega)|(refine zhb 0 1 (by decide) (.inr rfl) (.inr rfl) (zbt cs hcs) (zbt ds hds) (zbe zcl (zbe zks (zbe zf7 zbo))) (hf _ (List.getElem_mem _)) rfl ?_;try simp (disch:=omega))|(refine ⟨λ_=>?_,λ_=>?_⟩)|(refine ⟨by omega,?_⟩)|(intro _)
     all_goals (refine hK _ ?_;clear hK K)
     all_goals
      refine ⟨_,LeS.kp [(0,.sl 1 (xs.map cI)),(1,.fn F [] [.ptr 0 0,.ptr 1 0]),(6,.sl 1 (xs.map cI)),(7,(.g (.int .i64 ((xs.length:Nat))))),(8,(.g (.int .i64 (((i+1):Nat)))))] (by simp [KpE,zbz,zbk,zbq];try rfl),_,?_,i+1,rfl,?_,rfl⟩
      ·omega
      ·refine ⟨by omega,?_⟩;grind
  try simp [zG24,zbc,zbb] at hc3
  refine zbx ?_
  refine zbn ?_
  refine AW_r rfl rfl λK hK=>?_
  simp (disch:=omega)
  repeat' first|(exfalso;omega)|(refine zhb 0 1 (by decide) (.inr rfl) (.inr rfl) (zbt cs hcs) (zbt ds hds) (zbe zcl (zbe zks (zbe zf7 zbo))) (hf _ (List.getElem_mem _)) rfl ?_;try simp (disch:=omega))|(refine ⟨λ_=>?_,λ_=>?_⟩)|(refine ⟨by omega,?_⟩)|(intro _)
  all_goals (refine hK _ ?_;clear hK K)
  all_goals
   refine zbp (zcb ?_)
   simp (disch:=omega)
   all_goals first|(exact zch (by assumption) (by assumption) hpre)|(exact zc4 (λj x h=>hpre j x (by omega))) | trace_state
theorem zn3{F:FuncId}{cs ds:List AV}(hcs:cs.all plain1=true)(hds:ds.all plain1=true){p:Int→Bool}(xs:List Int)(hn:xs.length≤1048576)(hf:∀x∈xs,GCall Try.prog F [(.g (.int .i64 (x))),.ptr 0 0,.ptr 1 0] [cs,ds] [] (.g (.bool (p x))) []):GCall Try.prog 81 [.sl 1 (xs.map cI),.fn F [] [.ptr 0 0,.ptr 1 0]] [cs,ds] [] (.g (.bool (xs.any p))) []:=by
 refine zbr Try.func81 (by rfl) (by rfl) (by rw [Try.ntmps81];exact Nat.le_of_ble_eq_true rfl) rfl (by decide) ?_
 rw [Try.ntmps81]
 refine AW_k [(0,_),(1,_)] ⟨rfl,rfl,trivial⟩ ?_
 refine AW_r rfl rfl λK hK=>?_
 simp (disch:=omega) [zfk,zf0]
 repeat' first|(refine zhb 0 1 (by decide) (.inr rfl) (.inr rfl) (zbt cs hcs) (zbt ds hds) (zbe zce (zbe zwn zbo)) (znn hcs hds xs hn hf) rfl ?_;try simp (disch:=omega) [zfk,zf0])|(refine ⟨by omega,?_⟩)|(intro _)
 refine hK _ ?_;clear hK K
 refine AW_r rfl rfl λK hK=>?_
 simp (disch:=omega) [zfk,zf0]
 repeat' first|(exfalso;omega)|(refine zhb 0 1 (by decide) (.inr rfl) (.inr rfl) (zbt cs hcs) (zbt ds hds) (zbe zce (zbe zwn zbo)) (znn hcs hds xs hn hf) rfl ?_;try simp (disch:=omega) [zfk,zf0])|(refine ⟨by omega,?_⟩)|(intro _)
 refine hK _ ?_;clear hK K
 refine zbp (zcb ?_)
 simp (disch:=omega) [zfk,zf0]
 all_goals first | omega|(simp_all;done)|(simp [List.take_of_length_le];done)|((try simp_all);(try simp (disch:=omega) only [zcj,Int.tdiv_eq_ediv_of_nonneg,Int.tmod_eq_emod_of_nonneg,and_true,true_and]);done)|((try simp_all);(try simp (disch:=omega) only [zcj,Int.tdiv_eq_ediv_of_nonneg,Int.tmod_eq_emod_of_nonneg,and_true,true_and] at *);omega)
theorem isLate(l:List DtCall)(p:List Int)(k:Int)(hn:p.length≤1048576)(hp:∀j∈p,0≤j∧j<(l.length:Int))(hk:0≤k∧k<(l.length:Int)):PCall Try.prog 47 [.sl 11 (l.map DtCall.cells),.sl 1 (p.map cI),(.g (.int .i64 (k)))] (.g (.bool (p.any (lateB l k)))):=by
 refine zbr Try.func47 (by rfl) (by rfl) (by rw [Try.ntmps47];exact Nat.le_of_ble_eq_true rfl) rfl (by decide) ?_
 rw [Try.ntmps47]
 refine AW_k [(0,_),(1,_),(2,_)] ⟨rfl,rfl,rfl,trivial⟩ ?_
 refine AW_r rfl rfl λK hK=>?_
 simp (disch:=omega)
 repeat' first|(refine ⟨by omega,?_⟩)|(intro _)
 refine hK _ ?_;clear hK K
 refine AW_r rfl rfl λK hK=>?_
 simp (disch:=omega)
 repeat' first|(exfalso;omega)|(refine zhb 64 96 (by decide) (.inl rfl) (.inl rfl) (zbt [.sl 11 (l.map DtCall.cells)] rfl) (zbt [(.g (.int .i64 (k)))] rfl) (zbe zce (zbe zwn zbo)) (zn3 rfl rfl p hn (λj hj=>isLate1 l j k (hp j hj) hk)) rfl ?_;simp (disch:=omega))|(refine ⟨by omega,?_⟩)|(intro _)
 refine hK _ ?_;clear hK K
 refine zbp (zcb ?_)
 simp (disch:=omega)
 all_goals first | rfl | trace_state
theorem zri(l:List DtCall)(ys:List (List AV))(p:List Int)(hy:ys=p.map cI)(k:Int)(hn:p.length≤1048576)(hp:∀j∈p,0≤j∧j<(l.length:Int))(hk:0≤k∧k<(l.length:Int)):PCall Try.prog 47 [.sl 11 (l.map DtCall.cells),.sl 1 ys,(.g (.int .i64 (k)))] (.g (.bool (p.any (lateB l k)))):=by subst hy;exact isLate l p k hn hp hk
end Go.Proofs.Ytodmafgmdlkhoaa.Vs
end
