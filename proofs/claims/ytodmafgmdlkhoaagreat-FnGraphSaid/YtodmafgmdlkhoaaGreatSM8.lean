import Derived.Test.YtodmafgmdlkhoaaGreatSM7
import Derived.Test.YtodmafgmdlkhoaaGreatVs10
import Derived.Test.YtodmafgmdlkhoaaGreatSM1
section
open Go Go.Proofs Go.Proofs.YtodmafgmdlkhoaaGreat.Vs
namespace Go.Proofs.YtodmafgmdlkhoaaGreat.Vs
set_option linter.all false
set_option linter.unusedSimpArgs false
set_option linter.unusedVariables false
set_option maxRecDepth 100000
set_option maxHeartbeats 4000000
attribute [local simp] instO
def PutE(ls:List DtInst)(x:DtInst)(r:AV)(wos' fos:List OB):Prop:=∃l':List DtInst,l'.length≤ls.length+1∧(∀y∈l',y∈ls∨y=x)∧r=.arr 16 0 l'.length∧wos'=[.dead,.dead,.dead]∧fos=[.own 16 (l'.map DtInst.cells)]
def zG28:=And.intro @zb4 (And.intro @gE (And.intro @tP (And.intro @znu (And.intro @zbs (And.intro @and_assoc (And.intro @List.range_succ (And.intro @one_int (And.intro @one_bool @one_slice))))))))
def zG29:=And.intro @zbp (And.intro @zb0 @zbt)
def zG30:=And.intro @List.range_succ (And.intro @zbp @zb0)
theorem l8Put(ls:List DtInst)(x:DtInst)(hl:ls.length≤1000):XCallE Tryz.prog 84 [.arr 8 0 ls.length,.agg (instO x 9 10)] [.own 16 (ls.map DtInst.cells),.own 1 (x.fCmd.fChunks.map cS),.own 2 (x.fDeps.map DtId.cells)] 1 (PutE ls x):=by
 refine zdn Tryz.func84 (by rfl) (by rfl) (by rw [Tryz.ntmps84];exact Nat.le_of_ble_eq_true rfl) (by simp) rfl ?_
 rw [Tryz.ntmps84]
 refine AW_y3 (.own 16 (ls.map DtInst.cells)) (.own 1 (x.fCmd.fChunks.map cS)) (.own 2 (x.fDeps.map DtId.cells)) (by simp [cvO]<;>assumption) (by simp [cvO]<;>assumption) (by simp [cvO]<;>assumption) ?_
 refine AW_k [(0,_),(1,_)] ⟨rfl,rfl,trivial⟩ ?_
 refine ztm 8 901 (us:=ls) (by simp [zbp]) (by simp [zbp,zb0]) λzs hz hone=>?_
 subst hz
 have hzl:zs.length≤1000:=by simpa using hl
 refine AW_x rfl rfl λK hK=>?_
 simp (disch:=omega) [zG28,DtInst.cells,DtCmd.cells,DtId.cells,instO,-Value.oneCell']
 repeat' first|(refine ⟨by omega,?_⟩)|(intro _)
 refine hK _ ?_;clear hK K
 refine AW_x rfl rfl λK hK=>?_
 simp (disch:=omega) [zG28,DtInst.cells,DtCmd.cells,DtId.cells,instO,-Value.oneCell']
 repeat' first|(refine ⟨by omega,?_⟩)|(simp (disch:=omega) [zG28,DtInst.cells,DtCmd.cells,DtId.cells,instO,-Value.oneCell'])|(intro _)
 refine hK _ ?_;clear hK K
 refine AW_x rfl rfl λK hK=>?_
 simp (disch:=omega) [zG28,DtInst.cells,DtCmd.cells,DtId.cells,instO,-Value.oneCell']
 repeat' first|(refine ⟨by omega,?_⟩)|(intro _)
 refine hK _ ?_;clear hK K
 refine zbj ?_
 refine AW_x rfl rfl λK hK=>?_
 simp (disch:=omega) [zG28,DtInst.cells,DtCmd.cells,DtId.cells,instO,-Value.oneCell']
 repeat' first|(refine ⟨by omega,?_⟩)|(intro _)
 refine hK _ ?_;clear hK K
 refine zbl ?_
 refine zby (λmM sS=>∃(i:Nat) (put:Bool) (ka kb:List InstV),mM=zs.length-i∧(PutI zs i put ka kb)∧sS = { env:=lkE [(0,.arr 8 0 zs.length),(3,.ptr 64 0),(5,.arr 501 0 (rowP ka kb x put).length),(6,(.g (.bool (put)))),(7,(.g (.int .i64 ((i:Nat)))))],ob:=lk [(8,.win 16 (zs.map instV)),(9,.own 1 (x.fCmd.fChunks.map cS)),(10,.own 2 (x.fDeps.map DtId.cells)),(64,.cells (instO x 9 10)),(501,.win 16 (rowP ka kb x put)),(901,.park (zs.flatMap instP))] }) ?_ ?_
 ·refine ⟨_,LeS.kw [(8,8),(9,9),(10,10),(64,64),(501,144),(901,901)] [(0,.arr 8 0 zs.length),(3,.ptr 64 0),(5,.arr 501 0 (rowP ([]) ([]) x (false)).length),(6,(.g (.bool ((false))))),(7,(.g (.int .i64 (((0):Nat)))))] [(8,.win 16 (zs.map instV)),(9,.own 1 (x.fCmd.fChunks.map cS)),(10,.own 2 (x.fDeps.map DtId.cells)),(64,.cells (instO x 9 10)),(501,.win 16 (rowP ([]) ([]) x (false))),(901,.park (zs.flatMap instP))] (by simp [zG29,KpR,renV2,renV,zbk,zcz,zhj,zp4,zc5,zdr,instO];try (first | rfl|(rw [←zg0];simp;done))) (by simp [zG29,KpOW,wnO,renO,plO,cvO,renV,pl1,zcz,zhj,zp4,zc5,zdr,instO];try (first | rfl | exact .inr (by rw [←zg0];exact zxf ka2 kb2 x put2 zs[i] rfl rfl) | trace_state)) (by rfl) (by simp) (by simp) (by rfl) (by simp [zG30,formsX]),_,0,false,[],[],rfl,?_,rfl⟩
  ·exact putI_0 zs
 ·rintro mM sS ⟨i,put,ka,kb,rfl,hi,rfl⟩
  have hrl:=zzo hi x
  refine zbj ?_
  refine AW_x rfl rfl λK hK=>?_
  simp (disch:=omega) [zG28,DtInst.cells,DtCmd.cells,DtId.cells,instO,-Value.oneCell']
  repeat' first|(refine ⟨by omega,?_⟩)|(simp (disch:=omega) [zG28,DtInst.cells,DtCmd.cells,DtId.cells,instO,-Value.oneCell'])|(intro _)
  refine hK _ ?_;clear hK K
  refine zbm rfl (λhc1=>?_) (λhc1=>?_)
  ·try simp [zbb,zbf,zbe,zbd,zco,zcu] at hc1
   all_goals
    have ho12:(zs[i].snd 12).oneCell'=true:=hone _ (List.getElem_mem _) 12
    have ho14:(zs[i].snd 14).oneCell'=true:=hone _ (List.getElem_mem _) 14
    refine zbn ?_
    refine zbq ?_
    refine zbj ?_
    refine zbl ?_
    refine zfk (λsS=>∃(put2:Bool) (ka2 kb2:List InstV),(PutI zs i put2 ka2 kb2)∧sS = { env:=lkE [(0,.arr 8 0 zs.length),(3,.ptr 64 0),(5,.arr 501 0 (rowP ka2 kb2 x put2).length),(6,(.g (.bool (put2)))),(7,(.g (.int .i64 ((i:Nat)))))],ob:=lk [(8,.win 16 (zs.map instV)),(9,.own 1 (x.fCmd.fChunks.map cS)),(10,.own 2 (x.fDeps.map DtId.cells)),(64,.cells (instO x 9 10)),(501,.win 16 (rowP ka2 kb2 x put2)),(901,.park (zs.flatMap instP))] }) ?_ ?_
    ·skip
     refine AW_d rfl mix (by kernel_rfl) (by kernel_rfl) λK hK=>?_
     simp (disch:=omega) [zG28,DtInst.cells,DtCmd.cells,DtId.cells,instO,-Value.oneCell',ho12,ho14]
     repeat' first|(exfalso;omega)|(refine zd9 (λst'=>(zbc (zbu rfl) (zbc (zbu rfl) zbi))) (zs9 _ _) rfl ?_;simp (disch:=omega) [zG28,DtInst.cells,DtCmd.cells,DtId.cells,instO,-Value.oneCell',ho12,ho14])|(refine zfa (zs9 _ _) (by rfl) (λst' hst=>?_) ?_;(focus (simp (disch:=omega) [zG28,DtInst.cells,DtCmd.cells,DtId.cells,instO,-Value.oneCell',ho12,ho14] at hst;simp (disch:=omega) [zG28,DtInst.cells,DtCmd.cells,DtId.cells,instO,-Value.oneCell',ho12,ho14,hst,zbh];done));simp (disch:=omega) [zG28,DtInst.cells,DtCmd.cells,DtId.cells,instO,-Value.oneCell',ho12,ho14])|(refine ⟨λ_=>?_,λ_=>?_⟩)|(refine ⟨by omega,?_⟩)|(simp (disch:=omega) [zG28,DtInst.cells,DtCmd.cells,DtId.cells,instO,-Value.oneCell',ho12,ho14])|(intro _)
     all_goals (refine hK _ _ (by kernel_rfl) ?_;clear hK K)
     all_goals
      refine zbm rfl (λhc2=>?_) (λhc2=>?_)
      ·try simp [zbb,zbf,zbe,zbd,zco,zcu] at hc2
       all_goals
        refine AW_x rfl rfl λK hK=>?_
        simp (disch:=omega) [zG28,DtInst.cells,DtCmd.cells,DtId.cells,instO,-Value.oneCell',ho12,ho14]
        repeat' first|(exfalso;omega)|(refine ⟨λ_=>?_,λ_=>?_⟩)|(refine ⟨by omega,?_⟩)|(simp (disch:=omega) [zG28,DtInst.cells,DtCmd.cells,DtId.cells,instO,-Value.oneCell',ho12,ho14])|(intro _)
        all_goals (refine hK _ ?_;clear hK K)
        all_goals
         refine zcc rfl rfl λK hK=>?_
         simp (disch:=omega) [zG28,DtInst.cells,DtCmd.cells,DtId.cells,instO,-Value.oneCell',ho12,ho14]
         repeat' first|(refine ⟨by omega,?_⟩)|(intro _)
         refine hK _ ?_;clear hK K
         have hpf:put=false:=by first | assumption | grind
         subst hpf
         refine ⟨_,LeS.kw [(8,8),(9,9),(10,10),(64,64),(501,512),(901,901)] [(0,.arr 8 0 zs.length),(3,.ptr 64 0),(5,.arr 501 0 (rowP (ka) ([]) x (true)).length),(6,(.g (.bool ((true))))),(7,(.g (.int .i64 ((i:Nat)))))] [(8,.win 16 (zs.map instV)),(9,.own 1 (x.fCmd.fChunks.map cS)),(10,.own 2 (x.fDeps.map DtId.cells)),(64,.cells (instO x 9 10)),(501,.win 16 (rowP (ka) ([]) x (true))),(901,.park (zs.flatMap instP))] (by simp [zG29,KpR,renV2,renV,zbk,zcz,zhj,zc5,zdr,instO];try (first | rfl|(rw [zka,zkb];simp;done))) (by simp [zG29,KpOW,wnO,renO,plO,cvO,renV,pl1,zcz,zhj,zc5,zdr,instO];try (first | rfl | exact .inr (by rw [zka,zkb];exact zhi ka [] x rfl rfl) | trace_state)) (by rfl) (by simp) (by simp) (by rfl) (by simp [zG30,formsX]),true,ka,[],?_,rfl⟩
         ·first | exact hi | exact zzm hi
      ·try simp [zbb,zbf,zbe,zbd,zco,zcu] at hc2
       all_goals
        refine zbn ?_
        refine ⟨_,LeS.kw [(8,8),(9,9),(10,10),(64,64),(501,501),(901,901)] [(0,.arr 8 0 zs.length),(3,.ptr 64 0),(5,.arr 501 0 (rowP (ka) (kb) x (put)).length),(6,(.g (.bool ((put))))),(7,(.g (.int .i64 ((i:Nat)))))] [(8,.win 16 (zs.map instV)),(9,.own 1 (x.fCmd.fChunks.map cS)),(10,.own 2 (x.fDeps.map DtId.cells)),(64,.cells (instO x 9 10)),(501,.win 16 (rowP (ka) (kb) x (put))),(901,.park (zs.flatMap instP))] (by simp [zG29,KpR,renV2,renV,zbk,zcz,zhj,zc5,zdr,instO];try (first | rfl|(rw [zka,zkb];simp;done))) (by simp [zG29,KpOW,wnO,renO,plO,cvO,renV,pl1,zcz,zhj,zc5,zdr,instO];try (first | rfl | exact .inr (by rw [zka,zkb];exact zhi ka [] x rfl rfl) | trace_state)) (by rfl) (by simp) (by simp) (by rfl) (by simp [zG30,formsX]),put,ka,kb,?_,rfl⟩
        ·first | exact hi | exact zzm hi
    ·rintro sS ⟨put2,ka2,kb2,hi2,rfl⟩
     have hrl2:=zzo hi2 x
     refine AW_d rfl mix (by kernel_rfl) (by kernel_rfl) λK hK=>?_
     simp (disch:=omega) [zG28,DtInst.cells,DtCmd.cells,DtId.cells,instO,-Value.oneCell',ho12,ho14]
     repeat' first|(exfalso;omega)|(refine ⟨λ_=>?_,λ_=>?_⟩)|(refine ⟨by omega,?_⟩)|(simp (disch:=omega) [zG28,DtInst.cells,DtCmd.cells,DtId.cells,instO,-Value.oneCell',ho12,ho14])|(intro _)
     all_goals (refine hK _ _ (by kernel_rfl) ?_;clear hK K)
     all_goals
      refine zbm rfl (λhc3=>?_) (λhc3=>?_)
      ·try simp [zbb,zbf,zbe,zbd,zco,zcu] at hc3
       all_goals
        refine zcc rfl rfl λK hK=>?_
        simp (disch:=omega) [zG28,DtInst.cells,DtCmd.cells,DtId.cells,instO,-Value.oneCell',ho12,ho14]
        repeat' first|(exfalso;omega)|(refine ⟨λ_=>?_,λ_=>?_⟩)|(refine ⟨by omega,?_⟩)|(simp (disch:=omega) [zG28,DtInst.cells,DtCmd.cells,DtId.cells,instO,-Value.oneCell',ho12,ho14])|(intro _)
        all_goals (refine hK _ ?_;clear hK K)
        all_goals
         refine zbq ?_
         refine zcc rfl rfl λK hK=>?_
         simp (disch:=omega) [zG28,DtInst.cells,DtCmd.cells,DtId.cells,instO,-Value.oneCell',ho12,ho14]
         repeat' first|(refine ⟨by omega,?_⟩)|(intro _)
         refine hK _ ?_;clear hK K
         refine ⟨_,LeS.kw [(8,8),(9,9),(10,10),(64,64),(501,752),(901,901)] [(0,.arr 8 0 zs.length),(3,.ptr 64 0),(5,.arr 501 0 (rowP (addA put2 ka2 zs[i]) (addB put2 kb2 zs[i]) x (put2)).length),(6,(.g (.bool ((put2))))),(7,(.g (.int .i64 (((i+1):Nat)))))] [(8,.win 16 (zs.map instV)),(9,.own 1 (x.fCmd.fChunks.map cS)),(10,.own 2 (x.fDeps.map DtId.cells)),(64,.cells (instO x 9 10)),(501,.win 16 (rowP (addA put2 ka2 zs[i]) (addB put2 kb2 zs[i]) x (put2))),(901,.park (zs.flatMap instP))] (by simp [zG29,KpR,renV2,renV,zbk,zcz,zhj,zp4,zc5,zdr,instO];try (first | rfl|(rw [←zg0];simp;done))) (by simp [zG29,KpOW,wnO,renO,plO,cvO,renV,pl1,zcz,zhj,zp4,zc5,zdr,instO];try (first | rfl | exact .inr (by rw [←zg0];exact zxf ka2 kb2 x put2 zs[i] rfl rfl) | trace_state)) (by rfl) (by simp) (by simp) (by rfl) (by simp [zG30,formsX]),_,?_,i+1,put2,addA put2 ka2 zs[i],addB put2 kb2 zs[i],rfl,?_,rfl⟩
         ·omega
         ·first | exact ztl hi2 (by omega) | exact zzn hi2 (by omega)
      ·try simp [zbb,zbf,zbe,zbd,zco,zcu] at hc3
       all_goals
        refine zbn ?_
        refine zbq ?_
        refine zcc rfl rfl λK hK=>?_
        simp (disch:=omega) [zG28,DtInst.cells,DtCmd.cells,DtId.cells,instO,-Value.oneCell',ho12,ho14]
        repeat' first|(exfalso;omega)|(refine ⟨λ_=>?_,λ_=>?_⟩)|(refine ⟨by omega,?_⟩)|(simp (disch:=omega) [zG28,DtInst.cells,DtCmd.cells,DtId.cells,instO,-Value.oneCell',ho12,ho14])|(intro _)
        all_goals (refine hK _ ?_;clear hK K)
        all_goals
         refine ⟨_,LeS.kw [(8,8),(9,9),(10,10),(64,64),(501,501),(901,901)] [(0,.arr 8 0 zs.length),(3,.ptr 64 0),(5,.arr 501 0 (rowP (ka2) (kb2) x (put2)).length),(6,(.g (.bool ((put2))))),(7,(.g (.int .i64 (((i+1):Nat)))))] [(8,.win 16 (zs.map instV)),(9,.own 1 (x.fCmd.fChunks.map cS)),(10,.own 2 (x.fDeps.map DtId.cells)),(64,.cells (instO x 9 10)),(501,.win 16 (rowP (ka2) (kb2) x (put2))),(901,.park (zs.flatMap instP))] (by simp [zG29,KpR,renV2,renV,zbk,zcz,zhj,zp4,zc5,zdr,instO];try (first | rfl|(rw [←zg0];simp;done))) (by simp [zG29,KpOW,wnO,renO,plO,cvO,renV,pl1,zcz,zhj,zp4,zc5,zdr,instO];try (first | rfl | exact .inr (by rw [←zg0];exact zxf ka2 kb2 x put2 zs[i] rfl rfl) | trace_state)) (by rfl) (by simp) (by simp) (by rfl) (by simp [zG30,formsX]),_,?_,i+1,put2,ka2,kb2,rfl,?_,rfl⟩
         ·omega
         ·first | exact ztl hi2 (by omega) | exact zzn hi2 (by omega)
  ·try simp [zbb,zbf,zbe,zbd,zco,zcu] at hc1
   all_goals
    refine zb3 ?_
    refine zbq ?_
    refine zfk (λsS=>∃(ka kb:List InstV),(∃p,ka.Sublist (zs.take p)∧kb.Sublist (zs.drop p))∧sS = { env:=lkE [(5,.arr 501 0 (ka.length+1+kb.length))],ob:=lk [(8,.win 16 (zs.map instV)),(9,.own 1 (x.fCmd.fChunks.map cS)),(10,.own 2 (x.fDeps.map DtId.cells)),(501,.win 16 (ka.map instV++instO x 9 10 :: kb.map instV)),(901,.park (zs.flatMap instP))] }) ?_ ?_
    ·skip
     refine AW_x rfl rfl λK hK=>?_
     simp (disch:=omega) [zG28,DtInst.cells,DtCmd.cells,DtId.cells,instO,-Value.oneCell']
     repeat' first|(exfalso;omega)|(refine ⟨λ_=>?_,λ_=>?_⟩)|(refine ⟨by omega,?_⟩)|(simp (disch:=omega) [zG28,DtInst.cells,DtCmd.cells,DtId.cells,instO,-Value.oneCell'])|(intro _)
     all_goals (refine hK _ ?_;clear hK K)
     all_goals
      refine zbm rfl (λhc4=>?_) (λhc4=>?_)
      ·try simp [zbb,zbf,zbe,zbd,zco,zcu] at hc4
       all_goals
        refine zcc rfl rfl λK hK=>?_
        simp (disch:=omega) [zG28,DtInst.cells,DtCmd.cells,DtId.cells,instO,-Value.oneCell']
        repeat' first|(exfalso;omega)|(refine ⟨λ_=>?_,λ_=>?_⟩)|(refine ⟨by omega,?_⟩)|(simp (disch:=omega) [zG28,DtInst.cells,DtCmd.cells,DtId.cells,instO,-Value.oneCell'])|(intro _)
        all_goals (refine hK _ ?_;clear hK K)
        all_goals
         have hpf:put=false:=by first | assumption | simp_all
         subst hpf
         refine ⟨_,LeS.kw [(8,8),(9,9),(10,10),(501,848),(901,901)] [(5,.arr 501 0 ((ka).length+1+([]).length))] [(8,.win 16 (zs.map instV)),(9,.own 1 (x.fCmd.fChunks.map cS)),(10,.own 2 (x.fDeps.map DtId.cells)),(501,.win 16 ((ka).map instV++instO x 9 10 :: ([]).map instV)),(901,.park (zs.flatMap instP))] (by simp [zG29,KpR,renV2,renV,zbk,zcz,zhi,instO];try (first | rfl|(rw [zka];simp;done)|(rw [zkb];simp;omega))) (by simp [zG29,KpOW,wnO,renO,plO,cvO,renV,pl1,zcz,zhi,instO];try (first | rfl | exact .inr (by rw [zka];exact zhi ka [] x rfl rfl) | exact .inr (by rw [zkb];exact zhi ka kb x rfl rfl) | trace_state)) (by rfl) (by simp) (by simp) (by rfl) (by simp [zG30,formsX]),ka,[],?_,rfl⟩
         ·first | exact putI_e hi (by omega) | exact ⟨zs.length,by have:=(hi.no rfl).2.trans (List.take_sublist i zs);simpa using this,by simp⟩
      ·try simp [zbb,zbf,zbe,zbd,zco,zcu] at hc4
       all_goals
        refine zbn ?_
        have hpt:put=true:=by first | assumption | simp_all
        subst hpt
        refine ⟨_,LeS.kw [(8,8),(9,9),(10,10),(501,501),(901,901)] [(5,.arr 501 0 ((ka).length+1+(kb).length))] [(8,.win 16 (zs.map instV)),(9,.own 1 (x.fCmd.fChunks.map cS)),(10,.own 2 (x.fDeps.map DtId.cells)),(501,.win 16 ((ka).map instV++instO x 9 10 :: (kb).map instV)),(901,.park (zs.flatMap instP))] (by simp [zG29,KpR,renV2,renV,zbk,zcz,zhi,instO];try (first | rfl|(rw [zka];simp;done)|(rw [zkb];simp;omega))) (by simp [zG29,KpOW,wnO,renO,plO,cvO,renV,pl1,zcz,zhi,instO];try (first | rfl | exact .inr (by rw [zka];exact zhi ka [] x rfl rfl) | exact .inr (by rw [zkb];exact zhi ka kb x rfl rfl) | trace_state)) (by rfl) (by simp) (by simp) (by rfl) (by simp [zG30,formsX]),ka,kb,?_,rfl⟩
        ·first | exact putI_e hi (by omega) | exact ⟨zs.length,by have:=(hi.no rfl).2.trans (List.take_sublist i zs);simpa using this,by simp⟩
    ·rintro sS ⟨ka,kb,hp,rfl⟩
     obtain ⟨p,hp1,hp2⟩:=hp
     refine AW_putEnd (x:=x) 501 901 p hp1 hp2 (by simp [zbp]) (by simp [zbp]) (by simp [zbp]) (by simp [zbp]) (by decide) (by decide) (by decide) (by decide) (by decide) ?_
     refine AW_x rfl rfl λK hK=>?_
     simp (disch:=omega) [zG28,DtInst.cells,DtCmd.cells,DtId.cells,instO,-Value.oneCell']
     repeat' first|(exfalso;omega)|(refine ⟨λ_=>?_,λ_=>?_⟩)|(refine ⟨by omega,?_⟩)|(simp (disch:=omega) [zG28,DtInst.cells,DtCmd.cells,DtId.cells,instO,-Value.oneCell'])|(intro _)
     all_goals (refine hK _ ?_;clear hK K)
     all_goals
      refine zqx (.arr 16 0 (ka.length+1+kb.length)) [.dead,.dead,.dead] [.own 16 ((ka.map (·.1)++x :: kb.map (·.1)).map DtInst.cells)] ?po (by simp) (by simp) (by simp [OB.xk]) (zc2 [501] [] (by simp [zG29,List.range_succ]) (by simp) ?en)
      case en =>
       simp (disch:=omega) [zG28,DtInst.cells,DtCmd.cells,DtId.cells,instO,-Value.oneCell']
       all_goals trace_state
      case po=>(have hsp:=sub_put (x:=x) hp1 hp2;exact ⟨ka.map (·.1)++x :: kb.map (·.1),by simpa using hsp.1,hsp.2,by simp;omega,rfl,rfl⟩)
end Go.Proofs.YtodmafgmdlkhoaaGreat.Vs
end
section
open Go Go.Proofs Go.Proofs.YtodmafgmdlkhoaaGreat.Vs
namespace Go.Proofs.YtodmafgmdlkhoaaGreat.Vs
set_option linter.all false
set_option linter.unusedSimpArgs false
set_option linter.unusedVariables false
set_option maxRecDepth 100000
/-! ### Draws -/
/-- A code of bytes, not a great one. -/
def Code(l:List Int):Prop:=l.length≤1048576
def andZ(a b:Int):Int:=IntKind.i64.wrap (BitVec.ofInt IntKind.i64.bits a &&& BitVec.ofInt IntKind.i64.bits b).toNat
def xorZ(a b:Int):Int:=IntKind.i64.wrap (BitVec.ofInt IntKind.i64.bits a ^^^ BitVec.ofInt IntKind.i64.bits b).toNat
theorem zb8(a b:Int):IntKind.i64.wrap (BitVec.ofInt IntKind.i64.bits a &&& BitVec.ofInt IntKind.i64.bits b).toNat=andZ a b:=(rfl)
theorem zb9(a b:Int):IntKind.i64.wrap (BitVec.ofInt IntKind.i64.bits a ^^^ BitVec.ofInt IntKind.i64.bits b).toNat=xorZ a b:=(rfl)
theorem andZ_bd(a b:Int)(n:Nat)(hb:(BitVec.ofInt 64 b).toNat=n)(hn:n<9223372036854775808):0≤andZ a b∧andZ a b≤n:=by
 have h:(BitVec.ofInt IntKind.i64.bits a &&& BitVec.ofInt IntKind.i64.bits b).toNat≤n:=by
  rw [BitVec.toNat_and]
  exact Nat.le_trans Nat.and_le_right (Nat.le_of_eq hb)
 unfold andZ
 rw [zb4 (by omega) (by omega)]
 omega
/-- The number that a code is mixed to. -/
def mixN(l:List Int):Nat→Int
 | 0=>IntKind.i64.wrap (10101+l.length)
 | k+1=>andZ (IntKind.i64.wrap (IntKind.i64.wrap (IntKind.i64.wrap (mixN l k*131)+IntKind.i64.wrap (l.getD k 0))+7)) 1073741823
def cur0(l:List Int):Cur:=⟨0,mixN l (min l.length 4000)⟩
def zG31:=And.intro @zb4 (And.intro @gE @tP)
theorem l1New(l:List Int)(hl:Code l):XCall Tryz.prog 31 [.sl 1 (l.map cU)] [] (.ptr 16 0) [] [.cells (curC l (cur0 l))]:=by
 unfold Code at hl
 refine zb5 Tryz.func31 (by rfl) (by rfl) (by rw [Tryz.ntmps31];exact Nat.le_of_ble_eq_true rfl) rfl (by simp) rfl rfl ?_
 rw [Tryz.ntmps31]
 refine zfl   ?_
 refine AW_k [(0,_)] ⟨rfl,trivial⟩ ?_
 refine AW_x rfl rfl λK hK=>?_
 simp (disch:=omega) [zG31,cU,↓zb8,↓zb9]
 repeat' first|(refine ⟨by omega,?_⟩)|(intro _)
 refine hK _ ?_;clear hK K
 refine AW_x rfl rfl λK hK=>?_
 simp (disch:=omega) [zG31,cU,↓zb8,↓zb9]
 repeat' first|(refine ⟨by omega,?_⟩)|(intro _)
 refine hK _ ?_;clear hK K
 refine zbj ?_
 refine AW_x rfl rfl λK hK=>?_
 simp (disch:=omega) [zG31,cU,↓zb8,↓zb9]
 repeat' first|(refine ⟨by omega,?_⟩)|(intro _)
 refine hK _ ?_;clear hK K
 refine zbl ?_
 refine zby (λmM sS=>∃(i:Nat),mM=l.length-i∧(i≤l.length∧i≤4000)∧sS = { env:=lkE [(0,.sl 1 (l.map cU)),(3,(.g (.int .i64 (mixN l i)))),(4,(.g (.int .i64 ((i:Nat)))))],ob:=lk [] }) ?_ ?_
 ·refine ⟨_,LeS.kx [] [(0,.sl 1 (l.map cU)),(3,(.g (.int .i64 (mixN l (0))))),(4,(.g (.int .i64 (((0):Nat)))))] [] (by simp [zG29,KpR,renV2,renV,zbk];try (first | rfl|(simp (disch:=omega) [mixN,zb4];done)|(rw [mixN];simp [List.getElem?_eq_getElem, *];done))) (by simp [zG29,KpOX,renO,plO,cvO,renV,pl1];try rfl) (by rfl) (by simp) (by simp) (by rfl) (by simp [zG30,formsX]),_,0,rfl,?_,rfl⟩
  ·simp
 ·rintro mM sS ⟨i,rfl,⟨hi,hi2⟩,rfl⟩
  refine zbj ?_
  refine AW_x rfl rfl λK hK=>?_
  simp (disch:=omega) [zG31,cU,↓zb8,↓zb9]
  repeat' first|(exfalso;omega)|(refine ⟨λ_=>?_,λ_=>?_⟩)|(refine ⟨by omega,?_⟩)|(intro _)
  all_goals (refine hK _ ?_;clear hK K)
  all_goals
   refine zbm rfl (λhc1=>?_) (λhc1=>?_)
   ·try simp at hc1
    all_goals
     refine zbn ?_
     refine zbq ?_
     refine zbj ?_
     refine zbl ?_
     refine zcc rfl rfl λK hK=>?_
     simp (disch:=omega) [zG31,cU,↓zb8,↓zb9]
     repeat' first|(exfalso;omega)|(refine ⟨λ_=>?_,λ_=>?_⟩)|(refine ⟨by omega,?_⟩)|(intro _)
     all_goals (refine hK _ ?_;clear hK K)
     all_goals
      refine zbq ?_
      refine zcc rfl rfl λK hK=>?_
      simp (disch:=omega) [zG31,cU,↓zb8,↓zb9]
      repeat' first|(refine ⟨by omega,?_⟩)|(intro _)
      refine hK _ ?_;clear hK K
      refine ⟨_,LeS.kx [] [(0,.sl 1 (l.map cU)),(3,(.g (.int .i64 (mixN l (i+1))))),(4,(.g (.int .i64 (((i+1):Nat)))))] [] (by simp [zG29,KpR,renV2,renV,zbk];try (first | rfl|(simp (disch:=omega) [mixN,zb4];done)|(rw [mixN];simp [List.getElem?_eq_getElem, *];done))) (by simp [zG29,KpOX,renO,plO,cvO,renV,pl1];try rfl) (by rfl) (by simp) (by simp) (by rfl) (by simp [zG30,formsX]),_,?_,i+1,rfl,?_,rfl⟩
      ·omega
      ·omega
   try simp at hc1
   refine zb3 ?_
   refine zbq ?_
   refine AW_x rfl rfl λK hK=>?_
   simp (disch:=omega) [zG31,cU,↓zb8,↓zb9]
   repeat' first|(exfalso;omega)|(refine ⟨λ_=>?_,λ_=>?_⟩)|(refine ⟨by omega,?_⟩)|(intro _)
   all_goals (refine hK _ ?_;clear hK K)
   all_goals
    refine zbr (zc2 [512] [] (by simp [zG29,List.range_succ]) (by simp) ?_)
    simp (disch:=omega) [zG31,cU,↓zb8,↓zb9,curC]
    all_goals (unfold cur0;have e:i=min l.length 4000:=(by omega);rw [←e];exact ⟨rfl,rfl⟩)
def nxH(h:Int):Int:=IntKind.i64.wrap (IntKind.i64.wrap (h*6364136223846793005)+1442695040888963407)
def rawX(h:Int):Int:=andZ (xorZ (h.fdiv (2^min 33 IntKind.i64.bits)) (h.fdiv (2^min 45 IntKind.i64.bits))) 255
def byte(l:List Int)(c:Cur):Int:=if c.i<l.length then andZ (IntKind.i64.wrap (rawX (nxH c.h)+IntKind.i64.wrap (l.getD c.i 0))) 255 else rawX (nxH c.h)
def stp(l:List Int)(c:Cur):Cur:=⟨if c.i<l.length then c.i+1 else c.i,nxH c.h⟩
theorem zrn(l:List Int)(c:Cur):0≤byte l c∧byte l c≤255:=by
 unfold byte rawX
 split<;>exact andZ_bd _ _ 255 (by decide) (by decide)
theorem ztn(l:List Int)(hl:Code l)(c:Cur):XCall Tryz.prog 124 [.ptr 8 0] [.cells (curC l c)] (.g (.int .i64 (byte l c))) [.cells (curC l (stp l c))] []:=by
 unfold Code at hl
 unfold curC
 refine zb5 Tryz.func124 (by rfl) (by rfl) (by rw [Tryz.ntmps124];exact Nat.le_of_ble_eq_true rfl) rfl (by simp) rfl rfl ?_
 rw [Tryz.ntmps124]
 refine AW_x1 (.cells [.sl 1 (l.map cU),.g (.int .i64 (c.i:Int)),.g (.int .i64 c.h)]) (by simp [cvO]<;>assumption) ?_
 refine AW_k [(0,_)] ⟨rfl,trivial⟩ ?_
 refine AW_x rfl rfl λK hK=>?_
 simp (disch:=omega) [zG31,cU,curC,↓zb8,↓zb9]
 repeat' first|(refine ⟨by omega,?_⟩)|(intro _)
 refine hK _ ?_;clear hK K
 refine AW_x rfl rfl λK hK=>?_
 simp (disch:=omega) [zG31,cU,curC,↓zb8,↓zb9]
 repeat' first|(refine ⟨by omega,?_⟩)|(intro _)
 refine hK _ ?_;clear hK K
 refine AW_d rfl mix (by kernel_rfl) (by kernel_rfl) λK hK=>?_
 simp (disch:=omega) [zG31,cU,curC,↓zb8,↓zb9]
 repeat' first|(refine ⟨by omega,?_⟩)|(intro _)
 refine hK _ _ (by kernel_rfl) ?_;clear hK K
 refine zbj ?_
 refine AW_d rfl mix (by kernel_rfl) (by kernel_rfl) λK hK=>?_
 simp (disch:=omega) [zG31,cU,curC,↓zb8,↓zb9]
 repeat' first|(refine ⟨by omega,?_⟩)|(intro _)
 refine hK _ _ (by kernel_rfl) ?_;clear hK K
 refine zbm rfl (λhc2=>?_) (λhc2=>?_)
 ·try simp at hc2
  all_goals
   refine AW_d rfl mix (by kernel_rfl) (by kernel_rfl) λK hK=>?_
   simp (disch:=omega) [zG31,cU,curC,↓zb8,↓zb9]
   repeat' first|(exfalso;omega)|(refine ⟨λ_=>?_,λ_=>?_⟩)|(refine ⟨by omega,?_⟩)|(intro _)
   all_goals (refine hK _ _ (by kernel_rfl) ?_;clear hK K)
   all_goals
    refine zcc rfl rfl λK hK=>?_
    simp (disch:=omega) [zG31,cU,curC,↓zb8,↓zb9]
    repeat' first|(refine ⟨by omega,?_⟩)|(intro _)
    refine hK _ ?_;clear hK K
    refine zbq ?_
    refine AW_x rfl rfl λK hK=>?_
    simp (disch:=omega) [zG31,cU,curC,↓zb8,↓zb9]
    repeat' first|(refine ⟨by omega,?_⟩)|(intro _)
    refine hK _ ?_;clear hK K
    refine zbr (zc2 [] [] (by simp [zG29,List.range_succ]) (by simp) ?_)
    simp (disch:=omega) [zG31,cU,curC,↓zb8,↓zb9,curC]
    all_goals first|(simp [byte,stp,rawX,nxH,hc2,List.getElem?_eq_getElem];done)|(simp [byte,stp,rawX,nxH,Nat.not_lt.2 hc2];done)
 try simp at hc2
 refine zbn ?_
 refine zbq ?_
 refine AW_x rfl rfl λK hK=>?_
 simp (disch:=omega) [zG31,cU,curC,↓zb8,↓zb9]
 repeat' first|(exfalso;omega)|(refine ⟨λ_=>?_,λ_=>?_⟩)|(refine ⟨by omega,?_⟩)|(intro _)
 all_goals (refine hK _ ?_;clear hK K)
 all_goals
  refine zbr (zc2 [] [] (by simp [zG29,List.range_succ]) (by simp) ?_)
  simp (disch:=omega) [zG31,cU,curC,↓zb8,↓zb9,curC]
  all_goals first|(simp [byte,stp,rawX,nxH,hc2,List.getElem?_eq_getElem];done)|(simp [byte,stp,rawX,nxH,Nat.not_lt.2 hc2];done)
def stp4(l:List Int)(c:Cur):Cur:=stp l (stp l (stp l (stp l c)))
def four(l:List Int)(c:Cur):Int:=byte l c*16777216+byte l (stp l c)*65536+byte l (stp l (stp l c))*256+byte l (stp l (stp l (stp l c)))
def below(l:List Int)(n:Int)(c:Cur):Int:=if n≤0 then 0 else if n≤256 then byte l c % n else four l c % n
def belowS(l:List Int)(n:Int)(c:Cur):Cur:=if n≤0 then c else if n≤256 then stp l c else stp4 l c
theorem zcv(l:List Int)(n:Int)(c:Cur):0≤below l n c∧(0<n→below l n c<n):=by
 unfold below
 split
 ·omega
 ·split
  ·have:=Int.emod_nonneg (byte l c) (show n≠0 by omega);have:=Int.emod_lt_of_pos (byte l c) (show 0<n by omega);omega
  ·have:=Int.emod_nonneg (four l c) (show n≠0 by omega);have:=Int.emod_lt_of_pos (four l c) (show 0<n by omega);omega
theorem zc7(l:List Int)(hl:Code l)(c:Cur)(n:Int):XCall Tryz.prog 81 [.ptr 8 0,(.g (.int .i64 (n)))] [.cells (curC l c)] (.g (.int .i64 (below l n c))) [.cells (curC l (belowS l n c))] []:=by
 have h1:=zrn l c;have h2:=zrn l (stp l c);have h3:=zrn l (stp l (stp l c));have h4:=zrn l (stp l (stp l (stp l c)))
 refine zb5 Tryz.func81 (by rfl) (by rfl) (by rw [Tryz.ntmps81];exact Nat.le_of_ble_eq_true rfl) rfl (by simp) rfl rfl ?_
 rw [Tryz.ntmps81]
 refine AW_x1 (.cells (curC l c)) (by simp [cvO]<;>assumption) ?_
 refine AW_k [(0,_),(1,_)] ⟨rfl,rfl,trivial⟩ ?_
 refine AW_x rfl rfl λK hK=>?_
 simp (disch:=omega) [zG31,cU,↓zb8,↓zb9]
 repeat' first|(refine ⟨by omega,?_⟩)|(intro _)
 refine hK _ ?_;clear hK K
 refine zbj ?_
 refine AW_x rfl rfl λK hK=>?_
 simp (disch:=omega) [zG31,cU,↓zb8,↓zb9]
 repeat' first|(refine ⟨by omega,?_⟩)|(intro _)
 refine hK _ ?_;clear hK K
 refine zbm rfl (λhc3=>?_) (λhc3=>?_)
 ·try simp at hc3
  all_goals
   refine AW_x rfl rfl λK hK=>?_
   simp (disch:=omega) [zG31,cU,↓zb8,↓zb9]
   repeat' first|(exfalso;omega)|(refine ⟨λ_=>?_,λ_=>?_⟩)|(refine ⟨by omega,?_⟩)|(intro _)
   all_goals (refine hK _ ?_;clear hK K)
   all_goals
    refine zbr (zc2 [] [] (by simp [zG29,List.range_succ]) (by simp) ?_)
    simp (disch:=omega) [zG31,cU,↓zb8,↓zb9]
    all_goals (unfold below belowS stp4 four;simp only [Int.not_le.2, *,if_true,if_false,ite_true,ite_false];first | exact ⟨rfl,rfl⟩|(simp (disch:=omega) [Int.tmod_eq_emod_of_nonneg];done) | trace_state)
 try simp at hc3
 refine zbn ?_
 refine zbq ?_
 refine zbj ?_
 refine AW_x rfl rfl λK hK=>?_
 simp (disch:=omega) [zG31,cU,↓zb8,↓zb9]
 repeat' first|(exfalso;omega)|(refine ⟨λ_=>?_,λ_=>?_⟩)|(refine ⟨by omega,?_⟩)|(intro _)
 all_goals (refine hK _ ?_;clear hK K)
 all_goals
  refine zbm rfl (λhc4=>?_) (λhc4=>?_)
  ·try simp at hc4
   all_goals
    refine AW_x rfl rfl λK hK=>?_
    simp (disch:=omega) [zG31,cU,↓zb8,↓zb9]
    repeat' first|(exfalso;omega)|(refine zci (λ_=>xs_p xs_z) (ztn l hl _) rfl rfl ?_;simp (disch:=omega) [zG31,cU,↓zb8,↓zb9])|(refine ⟨λ_=>?_,λ_=>?_⟩)|(refine ⟨by omega,?_⟩)|(intro _)
    all_goals (refine hK _ ?_;clear hK K)
    all_goals
     refine zbr (zc2 [] [] (by simp [zG29,List.range_succ]) (by simp) ?_)
     simp (disch:=omega) [zG31,cU,↓zb8,↓zb9]
     all_goals (unfold below belowS stp4 four;simp only [Int.not_le.2, *,if_true,if_false,ite_true,ite_false];first | exact ⟨rfl,rfl⟩|(simp (disch:=omega) [Int.tmod_eq_emod_of_nonneg];done) | trace_state)
  try simp at hc4
  refine zbn ?_
  refine zbq ?_
  refine AW_x rfl rfl λK hK=>?_
  simp (disch:=omega) [zG31,cU,↓zb8,↓zb9]
  repeat' first|(exfalso;omega)|(refine zci (λ_=>xs_p xs_z) (ztn l hl _) rfl rfl ?_;simp (disch:=omega) [zG31,cU,↓zb8,↓zb9])|(refine ⟨λ_=>?_,λ_=>?_⟩)|(refine ⟨by omega,?_⟩)|(intro _)
  all_goals (refine hK _ ?_;clear hK K)
  all_goals
   refine AW_x rfl rfl λK hK=>?_
   simp (disch:=omega) [zG31,cU,↓zb8,↓zb9]
   repeat' first|(exfalso;omega)|(refine zci (λ_=>xs_p xs_z) (ztn l hl _) rfl rfl ?_;simp (disch:=omega) [zG31,cU,↓zb8,↓zb9])|(refine ⟨by omega,?_⟩)|(intro _)
   refine hK _ ?_;clear hK K
   refine AW_x rfl rfl λK hK=>?_
   simp (disch:=omega) [zG31,cU,↓zb8,↓zb9]
   repeat' first|(exfalso;omega)|(refine zci (λ_=>xs_p xs_z) (ztn l hl _) rfl rfl ?_;simp (disch:=omega) [zG31,cU,↓zb8,↓zb9])|(refine ⟨by omega,?_⟩)|(intro _)
   refine hK _ ?_;clear hK K
   refine AW_x rfl rfl λK hK=>?_
   simp (disch:=omega) [zG31,cU,↓zb8,↓zb9]
   repeat' first|(exfalso;omega)|(refine zci (λ_=>xs_p xs_z) (ztn l hl _) rfl rfl ?_;simp (disch:=omega) [zG31,cU,↓zb8,↓zb9])|(refine ⟨by omega,?_⟩)|(intro _)
   refine hK _ ?_;clear hK K
   refine AW_x rfl rfl λK hK=>?_
   simp (disch:=omega) [zG31,cU,↓zb8,↓zb9]
   repeat' first|(refine ⟨by omega,?_⟩)|(intro _)
   refine hK _ ?_;clear hK K
   refine zbr (zc2 [] [] (by simp [zG29,List.range_succ]) (by simp) ?_)
   simp (disch:=omega) [zG31,cU,↓zb8,↓zb9]
   all_goals (unfold below belowS stp4 four;simp only [Int.not_le.2, *,if_true,if_false,ite_true,ite_false];first | exact ⟨rfl,rfl⟩|(simp (disch:=omega) [Int.tmod_eq_emod_of_nonneg];done) | trace_state)
theorem zkc(l:List Int)(hl:Code l)(c:Cur)(n:Int):XCall Tryz.prog 83 [.ptr 8 0,(.g (.int .i64 (n)))] [.cells (curC l c)] (.g (.bool (decide (below l n c=0)))) [.cells (curC l (belowS l n c))] []:=by
 refine zb5 Tryz.func83 (by rfl) (by rfl) (by rw [Tryz.ntmps83];exact Nat.le_of_ble_eq_true rfl) rfl (by simp) rfl rfl ?_
 rw [Tryz.ntmps83]
 refine AW_x1 (.cells (curC l c)) (by simp [cvO]<;>assumption) ?_
 refine AW_k [(0,_),(1,_)] ⟨rfl,rfl,trivial⟩ ?_
 refine AW_x rfl rfl λK hK=>?_
 simp (disch:=omega) [zG31,cU,↓zb8,↓zb9]
 repeat' first|(refine ⟨by omega,?_⟩)|(intro _)
 refine hK _ ?_;clear hK K
 refine AW_x rfl rfl λK hK=>?_
 simp (disch:=omega) [zG31,cU,↓zb8,↓zb9]
 repeat' first|(exfalso;omega)|(refine zci (λ_=>xs_p (xs_g xs_z)) (zc7 l hl _ _) rfl rfl ?_;simp (disch:=omega) [zG31,cU,↓zb8,↓zb9])|(refine ⟨by omega,?_⟩)|(intro _)
 refine hK _ ?_;clear hK K
 refine zbr (zc2 [] [] (by simp [zG29,List.range_succ]) (by simp) ?_)
 simp (disch:=omega) [zG31,cU,↓zb8,↓zb9]
 all_goals first | rfl|(simp;done) | trace_state
def pickZ(xs:List Int)(n:Int):Int:=xs.getD n.toNat 0
theorem zhk(l:List Int)(hl:Code l)(c:Cur)(xs:List Int)(hx:0<xs.length∧xs.length≤1048576):XCall Tryz.prog 104 [.ptr 8 0,.arr 9 0 xs.length] [.cells (curC l c),.own 1 (xs.map cI)] (.g (.int .i64 (pickZ xs (below l xs.length c)))) [.cells (curC l (belowS l xs.length c)),.own 1 (xs.map cI)] []:=by
 have hb:=zcv l xs.length c
 refine zb5 Tryz.func104 (by rfl) (by rfl) (by rw [Tryz.ntmps104];exact Nat.le_of_ble_eq_true rfl) rfl (by simp) rfl rfl ?_
 rw [Tryz.ntmps104]
 refine AW_x2 (.cells (curC l c)) (.own 1 (xs.map cI)) (by simp [cvO]<;>assumption) (by simp [cvO]<;>assumption) ?_
 refine AW_k [(0,_),(1,_)] ⟨rfl,rfl,trivial⟩ ?_
 refine AW_x rfl rfl λK hK=>?_
 simp (disch:=omega) [zG31,cI,cS,cU,↓zb8,↓zb9]
 repeat' first|(refine ⟨by omega,?_⟩)|(intro _)
 refine hK _ ?_;clear hK K
 refine AW_x rfl rfl λK hK=>?_
 simp (disch:=omega) [zG31,cI,cS,cU,↓zb8,↓zb9]
 repeat' first|(exfalso;omega)|(refine zci (λ_=>xs_p (xs_g xs_z)) (zc7 l hl _ _) rfl rfl ?_;simp (disch:=omega) [zG31,cI,cS,cU,↓zb8,↓zb9])|(refine ⟨by omega,?_⟩)|(intro _)
 refine hK _ ?_;clear hK K
 refine zbr (zc2 [] [] (by simp [zG29,List.range_succ]) (by simp) ?_)
 simp (disch:=omega) [zG31,cI,cS,cU,↓zb8,↓zb9,cI]
 all_goals (unfold pickZ;simp [List.getElem?_eq_getElem, *];done)
theorem zkd(l:List Int)(hl:Code l)(c:Cur)(xs:List (List UInt8))(hx:0<xs.length∧xs.length≤1048576):XCall Tryz.prog 103 [.ptr 8 0,.arr 9 0 xs.length] [.cells (curC l c),.own 1 (xs.map cS)] (.s (xs.getD (below l xs.length c).toNat [])) [.cells (curC l (belowS l xs.length c)),.own 1 (xs.map cS)] []:=by
 have hb:=zcv l xs.length c
 refine zb5 Tryz.func103 (by rfl) (by rfl) (by rw [Tryz.ntmps103];exact Nat.le_of_ble_eq_true rfl) rfl (by simp) rfl rfl ?_
 rw [Tryz.ntmps103]
 refine AW_x2 (.cells (curC l c)) (.own 1 (xs.map cS)) (by simp [cvO]<;>assumption) (by simp [cvO]<;>assumption) ?_
 refine AW_k [(0,_),(1,_)] ⟨rfl,rfl,trivial⟩ ?_
 refine AW_x rfl rfl λK hK=>?_
 simp (disch:=omega) [zG31,cI,cS,cU,↓zb8,↓zb9]
 repeat' first|(refine ⟨by omega,?_⟩)|(intro _)
 refine hK _ ?_;clear hK K
 refine AW_x rfl rfl λK hK=>?_
 simp (disch:=omega) [zG31,cI,cS,cU,↓zb8,↓zb9]
 repeat' first|(exfalso;omega)|(refine zci (λ_=>xs_p (xs_g xs_z)) (zc7 l hl _ _) rfl rfl ?_;simp (disch:=omega) [zG31,cI,cS,cU,↓zb8,↓zb9])|(refine ⟨by omega,?_⟩)|(intro _)
 refine hK _ ?_;clear hK K
 refine zbr (zc2 [] [] (by simp [zG29,List.range_succ]) (by simp) ?_)
 simp (disch:=omega) [zG31,cI,cS,cU,↓zb8,↓zb9,cS]
 all_goals (simp [List.getElem?_eq_getElem, *];done)
end Go.Proofs.YtodmafgmdlkhoaaGreat.Vs
end
section
open Go Go.Proofs Go.Proofs.YtodmafgmdlkhoaaGreat.Vs
namespace Go.Proofs.YtodmafgmdlkhoaaGreat.Vs
set_option linter.all false
set_option linter.unusedSimpArgs false
set_option linter.unusedVariables false
set_option maxRecDepth 100000
set_option maxHeartbeats 2000000
attribute [local simp ↓] zwm zOr_eq zwn zwo zwp zwq
attribute [local simp] zno zAnd_w zs7 zNot_w
theorem zke(x:Int):PCall Tryz.prog 181 [(.g (.int .i64 (x)))] (.g (.int .i64 (x % 4294967296))):=by
 refine zbo Tryz.func181 (by rfl) (by rfl) (by rw [Tryz.ntmps181];exact Nat.le_of_ble_eq_true rfl) rfl (by decide) ?_
 rw [Tryz.ntmps181]
 refine AW_k [(0,_)] ⟨rfl,trivial⟩ ?_
 refine AW_r rfl rfl λK hK=>?_
 simp (disch:=omega)
 repeat' first|(refine ⟨by omega,?_⟩)|(intro _)
 refine hK _ ?_;clear hK K
 refine AW_r rfl rfl λK hK=>?_
 simp (disch:=omega)
 repeat' first|(refine ⟨by omega,?_⟩)|(intro _)
 refine hK _ ?_;clear hK K
 refine zbr (zb6 ?_)
 simp (disch:=omega)
 all_goals first | rfl | trace_state
theorem wrapU{n:Int}(h:0≤n∧n<18446744073709551616):IntKind.u64.wrap n=n:=by
 simp [IntKind.wrap,IntKind.bits,IntKind.signed]
 omega
theorem zhl(x:W32)(z:Int)(hz:0<z∧z<32):PCall Tryz.prog 180 [(.g (.int .i64 (wI x))),.g (.int .u64 z)] (.g (.int .i64 (wI (x.rotateRight z.toNat)))):=by
 have hw:=wrapU (n:=32-z) (by omega)
 have hr:=rot_w x z hz
 refine zbo Tryz.func180 (by rfl) (by rfl) (by rw [Tryz.ntmps180];exact Nat.le_of_ble_eq_true rfl) rfl (by decide) ?_
 rw [Tryz.ntmps180]
 refine AW_k [(0,_),(1,_)] ⟨rfl,rfl,trivial⟩ ?_
 refine AW_r rfl rfl λK hK=>?_
 simp (disch:=omega) [hw,hr]
 repeat' first|(refine ⟨by omega,?_⟩)|(intro _)
 refine hK _ ?_;clear hK K
 refine AW_r rfl rfl λK hK=>?_
 simp (disch:=omega) [hw,hr]
 repeat' first|(exfalso;omega)|(refine zcg (zbc zcs zbi) (zke _) rfl ?_;simp (disch:=omega) [hw,hr])|(refine ⟨by omega,?_⟩)|(intro _)
 refine hK _ ?_;clear hK K
 refine zbr (zb6 ?_)
 simp (disch:=omega) [hw,hr]
 all_goals first | rfl | exact hr | trace_state
attribute [local simp] cW shaK List.map_cons List.map_nil
attribute [-simp] zno zAnd_w zs7 zNot_w
theorem l3Keys:PCall Tryz.prog 175 [] (.sl 1 (shaK.map cW)):=by
 refine zbo Tryz.func175 (by rfl) (by rfl) (by rw [Tryz.ntmps175];exact Nat.le_of_ble_eq_true rfl) rfl (by decide) ?_
 rw [Tryz.ntmps175]
 refine AW_k [] trivial ?_
 refine AW_r rfl rfl λK hK=>?_
 simp (disch:=omega)
 repeat' first|(refine ⟨by omega,?_⟩)|(intro _)
 refine hK _ ?_;clear hK K
 refine AW_r rfl rfl λK hK=>?_
 simp (disch:=omega)
 repeat' first|(refine ⟨by omega,?_⟩)|(intro _)
 refine hK _ ?_;clear hK K
 refine zbr (zb6 ?_)
 simp (disch:=omega) [wI]
 all_goals first | rfl | trace_state
end Go.Proofs.YtodmafgmdlkhoaaGreat.Vs
end
section
open Go Go.Proofs Go.Proofs.YtodmafgmdlkhoaaGreat.Vs
namespace Go.Proofs.YtodmafgmdlkhoaaGreat.Vs
set_option linter.all false
set_option linter.unusedSimpArgs false
set_option linter.unusedVariables false
set_option maxRecDepth 100000
set_option maxHeartbeats 4000000
attribute [local simp ↓] zwm zOr_eq zwn zwo zwp zwq
/-- The words of a block. -/
def wd(b:List UInt8)(j:Nat):W32:=(sch b 64).getD j 0
theorem sch_at(b:List UInt8)(i j:Nat)(h:j<i)(hi:i≤64):(sch b i)[j]? = some (wd b j):=by
 rw [sch_get b i j h]
 unfold wd
 rw [List.getD_eq_getElem?_getD,sch_get b 64 j (by omega)]
 have:j<(sch b (j+1)).length:=by rw [zgy];omega
 rw [List.getElem?_eq_getElem this];rfl
def kd(j:Nat):W32:=shaK.getD j 0
theorem kd_at(j:Nat)(h:j<64):shaK[j]? = some (kd j):=by unfold kd;rw [List.getD_eq_getElem?_getD,List.getElem?_eq_getElem (by rw [zzd];exact h),Option.getD_some]
def schR(b:List UInt8)(i:Nat):List (List AV):=(sch b i).map cW++List.replicate (64-i) [.g (.int .i64 0)]
theorem zdl(b:List UInt8)(i:Nat)(h:i≤64):(schR b i).length=64:=by unfold schR;simp [zgy];omega
theorem zkf(b:List UInt8)(i j:Nat)(h:j<i)(hi:i≤64):(schR b i)[j]? = some (cW (wd b j)):=by
 unfold schR
 rw [List.getElem?_append_left (by simp [zgy];omega),List.getElem?_map,sch_at b i j h hi];rfl
theorem zzp(b:List UInt8)(i:Nat)(h:i<64)(x:W32)(hx:sch b (i+1)=sch b i++[x]):(schR b i).set i (cW x)=schR b (i+1):=by
 unfold schR
 rw [hx,List.set_append_right _ _ (by simp [zgy]),show 64-i=(64-(i+1))+1 by omega,List.replicate_succ]
 simp [zgy]
theorem zds(b:List UInt8)(i:Nat):scR (schR b i)=true:=by
 unfold schR
 rw [scR_app,zkl cW (λ_=>rfl)]
 simp
 induction (64-i) with
 | zero=>rfl
 | succ n ih=>rw [List.replicate_succ];simpa [scR] using ih
theorem schR_z(b:List UInt8)(i:Nat)(h:i<64):(schR b i)[i]? = some [.g (.int .i64 0)]:=by
 unfold schR
 rw [List.getElem?_append_right (by simp [zgy])]
 simp [zgy,List.getElem?_replicate]
 omega
theorem or_add(a b n:Nat)(h:b<2^n):a*2^n ||| b=a*2^n+b:=by rw [←Nat.shiftLeft_eq,Nat.shiftLeft_add_eq_or_of_lt h]
theorem word_z{p0 p1 p2 p3:Nat}(h0:p0<256)(h1:p1<256)(h2:p2<256)(h3:p3<256):zOr (zOr (zOr (zShl (IntKind.i64.wrap (p0:Int)) 24) (zShl (IntKind.i64.wrap (p1:Int)) 16)) (zShl (IntKind.i64.wrap (p2:Int)) 8)) (IntKind.i64.wrap (p3:Int))=wI (BitVec.ofNat 32 ((p0*256+p1)*65536+p2*256+p3)):=by
 have e1:p0*2^24 ||| p1*2^16=p0*2^24+p1*2^16:=or_add _ _ 24 (by omega)
 have e2:(p0*2^24+p1*2^16) ||| p2*2^8=p0*2^24+p1*2^16+p2*2^8:=by
  have:=or_add (p0*2^8+p1) (p2*2^8) 16 (by omega)
  rw [show (p0*2^8+p1)*2^16=p0*2^24+p1*2^16 by omega] at this
  exact this
 have e3:(p0*2^24+p1*2^16+p2*2^8) ||| p3=p0*2^24+p1*2^16+p2*2^8+p3:=by
  have:=or_add ((p0*2^8+p1)*2^8+p2) p3 8 (by omega)
  rw [show ((p0*2^8+p1)*2^8+p2)*2^8=p0*2^24+p1*2^16+p2*2^8 by omega] at this
  exact this
 rw [zn8 (by omega),zn8 (by omega),zn8 (by omega),zn8 (by omega),zl5 p0 24 24 rfl (by omega) (by omega),zl5 p1 16 16 rfl (by omega) (by omega),zl5 p2 8 8 rfl (by omega) (by omega)]
 rw [zrb (by omega) (by omega),e1,zrb (by omega) (by omega),e2,zrb (by omega) (by omega),e3]
 unfold wI
 rw [BitVec.toNat_ofNat,Nat.mod_eq_of_lt (by omega)]
 omega
theorem la_step(b:List UInt8)(hb:b.length=64)(i:Nat)(hi:i<16)(h0:(4*(i:Int)).toNat<b.length)(h1:(4*(i:Int)+1).toNat<b.length)(h2:(4*(i:Int)+2).toNat<b.length)(h3:(4*(i:Int)+3).toNat<b.length):(schR b i).set i (((schR b i)[i]?.getD []).set 0 (AV.g (.int .i64 (zOr (zOr (zOr (zShl (IntKind.i64.wrap (b[(4*(i:Int)).toNat].toNat:Int)) 24) (zShl (IntKind.i64.wrap (b[(4*(i:Int)+1).toNat].toNat:Int)) 16)) (zShl (IntKind.i64.wrap (b[(4*(i:Int)+2).toNat].toNat:Int)) 8)) (IntKind.i64.wrap (b[(4*(i:Int)+3).toNat].toNat:Int))))))=schR b (i+1):=by
 rw [word_z (UInt8.toNat_lt _) (UInt8.toNat_lt _) (UInt8.toNat_lt _) (UInt8.toNat_lt _),schR_z b i (by omega)]
 refine zzp b i (by omega) _ ?_
 have g:∀(z:Int) (n:Nat) (h:z.toNat<b.length),z.toNat=n→b.getD n 0=b[z.toNat]:=λz n h e=>by subst e;rw [List.getD_eq_getElem?_getD,List.getElem?_eq_getElem h];rfl
 rw [sch,if_pos hi,wrd,g _ (4*i) h0 (by omega),g _ (4*i+1) h1 (by omega),g _ (4*i+2) h2 (by omega),g _ (4*i+3) h3 (by omega)]
theorem zfq(x:Int):IntKind.i64.wrap x % 4294967296=x % 4294967296:=by
 simp [IntKind.wrap,IntKind.bits,IntKind.signed]
 split<;>omega
theorem wrap_l(x y:Int):(IntKind.i64.wrap x+y) % 4294967296=(x+y) % 4294967296:=by have:=zfq x;omega
theorem zShr_3(x:W32):zShr (wI x) 3=wI (x >>> 3):=by
 have h:=zShr_w x 3 (by omega)
 rw [show (3:Int).toNat=3 from rfl] at h
 exact h
theorem zShr_10(x:W32):zShr (wI x) 10=wI (x >>> 10):=by
 have h:=zShr_w x 10 (by omega)
 rw [show (10:Int).toNat=10 from rfl] at h
 exact h
theorem sch_D(b:List UInt8)(i j:Nat)(h:j<i)(hi:i≤64):(sch b i).getD j 0=wd b j:=by rw [List.getD_eq_getElem?_getD,sch_at b i j h hi,Option.getD_some]
theorem lb_step(b:List UInt8)(i:Nat)(h1:16≤i)(hi:i<64):(schR b i).set i (((schR b i)[i]?.getD []).set 0 (AV.g (.int .i64 (IntKind.i64.wrap (IntKind.i64.wrap (IntKind.i64.wrap (wI (wd b (i-16))+zXor (wI (BitVec.rotateRight (wd b (i-15)) 7 ^^^ BitVec.rotateRight (wd b (i-15)) 18)) (zShr (wI (wd b (i-15))) 3))+wI (wd b (i-7)))+zXor (wI (BitVec.rotateRight (wd b (i-2)) 17 ^^^ BitVec.rotateRight (wd b (i-2)) 19)) (zShr (wI (wd b (i-2))) 10)) % 4294967296))))=schR b (i+1):=by
 rw [zShr_3,zShr_10,zs7,zs7,schR_z b i hi,zfq,wrap_l]
 have e:∀a s c t:W32,(IntKind.i64.wrap (wI a+wI s)+wI c+wI t) % 4294967296=wI (a+s+c+t):=λa s c t=>by
  refine zwl _ _ (zwl _ _ ?_ _ _ (zpt c)) _ _ (zpt t)
  rw [zfq,add_w]
 rw [e]
 refine zzp b i hi _ ?_
 rw [sch,if_neg (by omega),sch_D b i _ (by omega) (by omega),sch_D b i _ (by omega) (by omega),sch_D b i _ (by omega) (by omega),sch_D b i _ (by omega) (by omega)]
 rfl
theorem zN_w(e:W32):zXor (if IntKind.i64.signed=true then -1 else 9223372036854775807) (wI e) % 4294967296=wI (~~~e):=not_w e
theorem sumC(a b:W32):IntKind.i64.wrap (wI a+wI b) % 4294967296=wI (a+b):=by rw [zfq,add_w]
theorem sumT(a s c k w:W32):IntKind.i64.wrap (IntKind.i64.wrap (IntKind.i64.wrap (IntKind.i64.wrap (wI a+wI s)+wI c)+wI k)+wI w) % 4294967296=wI (a+s+c+k+w):=by
 rw [zfq]
 refine zwl _ _ ?_ _ _ (zpt w)
 rw [zfq]
 refine zwl _ _ ?_ _ _ (zpt k)
 rw [zfq]
 refine zwl _ _ ?_ _ _ (zpt c)
 exact sumC a s
theorem sumA(a s c k w p q:W32):IntKind.i64.wrap (IntKind.i64.wrap (IntKind.i64.wrap (IntKind.i64.wrap (IntKind.i64.wrap (wI a+wI s)+wI c)+wI k)+wI w)+IntKind.i64.wrap (wI p+wI q)) % 4294967296=wI (a+s+c+k+w+(p+q)):=by
 rw [zfq]
 exact zwl _ _ (sumT a s c k w) _ _ (sumC p q)
theorem sumB(d a s c k w:W32):IntKind.i64.wrap (wI d+IntKind.i64.wrap (IntKind.i64.wrap (IntKind.i64.wrap (IntKind.i64.wrap (wI a+wI s)+wI c)+wI k)+wI w)) % 4294967296=wI (d+(a+s+c+k+w)):=by
 rw [zfq]
 exact zwl _ _ (zpt d) _ _ (sumT a s c k w)
theorem zto(b:List UInt8)(h:W8)(i:Nat):runW b h (i+1)=rnd (kd i) (wd b i) (runW b h i):=by rw [runW];rfl
theorem ztp(b:List UInt8)(h:W8):runW b h 0=h:=rfl
theorem ztq(k w:W32)(v:W8):(rnd k w v).cells=[[AV.g (.int .i64 (wI (v.h+(BitVec.rotateRight v.e 6 ^^^ BitVec.rotateRight v.e 11 ^^^ BitVec.rotateRight v.e 25)+(v.e &&& v.f ^^^ ~~~v.e &&& v.g)+k+w+((BitVec.rotateRight v.a 2 ^^^ BitVec.rotateRight v.a 13 ^^^ BitVec.rotateRight v.a 22)+(v.a &&& v.b ^^^ v.a &&& v.c ^^^ v.b &&& v.c)))))],[AV.g (.int .i64 (wI v.a))],[AV.g (.int .i64 (wI v.b))],[AV.g (.int .i64 (wI v.c))],[AV.g (.int .i64 (wI (v.d+(v.h+(BitVec.rotateRight v.e 6 ^^^ BitVec.rotateRight v.e 11 ^^^ BitVec.rotateRight v.e 25)+(v.e &&& v.f ^^^ ~~~v.e &&& v.g)+k+w))))],[AV.g (.int .i64 (wI v.e))],[AV.g (.int .i64 (wI v.f))],[AV.g (.int .i64 (wI v.g))]]:=rfl
theorem tk_len(h:W8)(i:Nat)(hi:i≤8):(h.cells.take i).length=i:=by rw [List.length_take];exact Nat.min_eq_left hi
theorem zzq(h:W8)(i:Nat):scR (h.cells.take i)=true:=by
 by_cases hi:i<8
 ·have:i=0∨i=1∨i=2∨i=3∨i=4∨i=5∨i=6∨i=7:=by omega
  rcases this with rfl | rfl | rfl | rfl | rfl | rfl | rfl | rfl<;>rfl
 ·rw [List.take_of_length_le (by show 8≤i;omega)];rfl
def W8.get(v:W8):Nat→W32
 | 0=>v.a | 1=>v.b | 2=>v.c | 3=>v.d | 4=>v.e | 5=>v.f | 6=>v.g | _=>v.h
theorem znv(v:W8)(i:Nat)(h:i<8):v.cells[i]? = some (cW (v.get i)):=by
 have:i=0∨i=1∨i=2∨i=3∨i=4∨i=5∨i=6∨i=7:=by omega
 rcases this with rfl | rfl | rfl | rfl | rfl | rfl | rfl | rfl<;>rfl
theorem ztr(h v:W8)(i:Nat)(hi:i<8):(add8 h v).cells.take (i+1)=(add8 h v).cells.take i++[cW (h.get i+v.get i)]:=by
 have:i=0∨i=1∨i=2∨i=3∨i=4∨i=5∨i=6∨i=7:=by omega
 rcases this with rfl | rfl | rfl | rfl | rfl | rfl | rfl | rfl<;>rfl
theorem cells_len(v:W8):v.cells.length=8:=rfl
theorem zcr(v:W8):scR v.cells=true:=rfl
theorem row8(h:W8):List.take 8 h.cells=h.cells:=rfl
attribute [local simp] cW zdl cells_len row8 zzd zno zAnd_w zs7 zNot_w zN_w sumA sumB sumC zcr
theorem l3Block(h:W8)(b:List UInt8)(hb:b.length=64):XCall Tryz.prog 176 [.sl 1 h.cells,.s b,.sl 1 (shaK.map cW)] [] (.arr 16 0 8) [] [.own 1 (blk h b).cells]:=by
 refine zb5 Tryz.func176 (by rfl) (by rfl) (by rw [Tryz.ntmps176];exact Nat.le_of_ble_eq_true rfl) rfl (by simp) rfl rfl ?_
 rw [Tryz.ntmps176]
 refine zfl   ?_
 refine AW_k [(0,_),(1,_),(2,_)] ⟨rfl,rfl,rfl,trivial⟩ ?_
 refine AW_x rfl rfl λK hK=>?_
 simp (disch:=omega)
 repeat' first|(refine ⟨by omega,?_⟩)|(intro _)
 refine hK _ ?_;clear hK K
 refine AW_x rfl rfl λK hK=>?_
 simp (disch:=omega)
 repeat' first|(refine ⟨by omega,?_⟩)|(intro _)
 refine hK _ ?_;clear hK K
 refine zbj ?_
 refine AW_x rfl rfl λK hK=>?_
 simp (disch:=omega)
 repeat' first|(refine ⟨by omega,?_⟩)|(intro _)
 refine hK _ ?_;clear hK K
 refine zbl ?_
 refine zby (λmM sS=>∃(i:Nat),mM=16-i∧(i≤16)∧sS = { env:=lkE [(0,.sl 1 h.cells),(1,.s b),(2,.sl 1 (shaK.map cW)),(7,.arr 501 0 64),(8,(.g (.int .i64 ((i:Nat)))))],ob:=lk [(501,.win 1 (schR b i))] }) ?_ ?_
 ·refine ⟨_,LeS.kx [(501,336)] [(0,.sl 1 h.cells),(1,.s b),(2,.sl 1 (shaK.map cW)),(7,.arr 501 0 64),(8,(.g (.int .i64 (((0):Nat)))))] [(501,.win 1 (schR b (0)))] (by simp [zG29,KpR,renV2,renV,zbk,zds,zdl];try rfl) (by simp [zG29,KpOX,renO,plO,cvO,renV,pl1,zds,zdl];first|(simp [schR,sch];done) | exact la_step b hb i hi2 _ _ _ _ | trace_state) (by rfl) (by simp) (by simp) (by rfl) (by simp [zG30,formsX]),_,0,rfl,?_,rfl⟩
  ·simp
 ·rintro mM sS ⟨i,rfl,hi,rfl⟩
  refine zbj ?_
  refine AW_x rfl rfl λK hK=>?_
  simp (disch:=omega)
  repeat' first|(refine ⟨by omega,?_⟩)|(intro _)
  refine hK _ ?_;clear hK K
  refine zbm rfl (λhc1=>?_) (λhc1=>?_)
  ·try simp at hc1
   all_goals
    have hi2:i<16:=by omega
    refine zbn ?_
    refine zbq ?_
    refine zbj ?_
    refine zbl ?_
    refine zq6 rfl mix (by kernel_rfl) (by kernel_rfl) λK hK=>?_
    simp (disch:=omega)
    repeat' first|(exfalso;omega)|(refine ⟨λ_=>?_,λ_=>?_⟩)|(refine ⟨by omega,?_⟩)|(simp (disch:=omega))|(intro _)
    all_goals (refine hK _ _ (by kernel_rfl) ?_;clear hK K)
    all_goals
     refine zbq ?_
     refine zcc rfl rfl λK hK=>?_
     simp (disch:=omega)
     repeat' first|(refine ⟨by omega,?_⟩)|(intro _)
     refine hK _ ?_;clear hK K
     refine ⟨_,LeS.kx [(501,501)] [(0,.sl 1 h.cells),(1,.s b),(2,.sl 1 (shaK.map cW)),(7,.arr 501 0 64),(8,(.g (.int .i64 (((i+1):Nat)))))] [(501,.win 1 (schR b (i+1)))] (by simp [zG29,KpR,renV2,renV,zbk,zds,zdl];try rfl) (by simp [zG29,KpOX,renO,plO,cvO,renV,pl1,zds,zdl];first|(simp [schR,sch];done) | exact la_step b hb i hi2 _ _ _ _ | trace_state) (by rfl) (by simp) (by simp) (by rfl) (by simp [zG30,formsX]),_,?_,i+1,rfl,?_,rfl⟩
     ·omega
     ·omega
  ·try simp at hc1
   all_goals
    have hil:i=16:=by omega
    subst hil
    refine zb3 ?_
    refine zbq ?_
    refine zbj ?_
    refine AW_x rfl rfl λK hK=>?_
    simp (disch:=omega)
    repeat' first|(exfalso;omega)|(refine ⟨λ_=>?_,λ_=>?_⟩)|(refine ⟨by omega,?_⟩)|(simp (disch:=omega))|(intro _)
    all_goals (refine hK _ ?_;clear hK K)
    all_goals
     refine zbl ?_
     refine zby (λmM sS=>∃(i:Nat),mM=64-i∧(16≤i∧i≤64)∧sS = { env:=lkE [(0,.sl 1 h.cells),(1,.s b),(2,.sl 1 (shaK.map cW)),(7,.arr 501 0 64),(9,(.g (.int .i64 ((i:Nat)))))],ob:=lk [(501,.win 1 (schR b i))] }) ?_ ?_
     ·refine ⟨_,LeS.kx [(501,501)] [(0,.sl 1 h.cells),(1,.s b),(2,.sl 1 (shaK.map cW)),(7,.arr 501 0 64),(9,(.g (.int .i64 (((16):Nat)))))] [(501,.win 1 (schR b (16)))] (by simp [zG29,KpR,renV2,renV,zbk,zds,zdl];try rfl) (by simp [zG29,KpOX,renO,plO,cvO,renV,pl1,zds,zdl];first|(simp;done) | exact lb_step b i hi1 hi2 | trace_state) (by rfl) (by simp) (by simp) (by rfl) (by simp [zG30,formsX]),_,16,rfl,?_,rfl⟩
      ·simp
     ·rintro mM sS ⟨i,rfl,⟨hi1,hi⟩,rfl⟩
      refine zbj ?_
      refine AW_x rfl rfl λK hK=>?_
      simp (disch:=omega)
      repeat' first|(refine ⟨by omega,?_⟩)|(intro _)
      refine hK _ ?_;clear hK K
      refine zbm rfl (λhc2=>?_) (λhc2=>?_)
      ·try simp at hc2
       all_goals
        have hi2:i<64:=by omega
        have g15:(schR b i)[((i:Int)-15).toNat]? = some (cW (wd b (i-15))):=by rw [show ((i:Int)-15).toNat=i-15 by omega];exact zkf b i _ (by omega) hi
        have g2:(schR b i)[((i:Int)-2).toNat]? = some (cW (wd b (i-2))):=by rw [show ((i:Int)-2).toNat=i-2 by omega];exact zkf b i _ (by omega) hi
        have g16:(schR b i)[((i:Int)-16).toNat]? = some (cW (wd b (i-16))):=by rw [show ((i:Int)-16).toNat=i-16 by omega];exact zkf b i _ (by omega) hi
        have g7:(schR b i)[((i:Int)-7).toNat]? = some (cW (wd b (i-7))):=by rw [show ((i:Int)-7).toNat=i-7 by omega];exact zkf b i _ (by omega) hi
        refine zbn ?_
        refine zbq ?_
        refine zbj ?_
        refine zbl ?_
        refine AW_d rfl mix (by kernel_rfl) (by kernel_rfl) λK hK=>?_
        simp (disch:=omega) [g15,g2,g16,g7]
        repeat' first|(exfalso;omega)|(refine zd9 (λst'=>(zbc zcs (zbc zcs zbi))) (zhl _ _ (by decide)) rfl ?_;simp (disch:=omega) [g15,g2,g16,g7])|(refine zfa (zhl _ _ (by decide)) (by rfl) (λst' hst=>?_) ?_;(focus (simp (disch:=omega) [g15,g2,g16,g7] at hst;simp (disch:=omega) [g15,g2,g16,g7,hst,zbh];done));simp (disch:=omega) [g15,g2,g16,g7])|(refine ⟨λ_=>?_,λ_=>?_⟩)|(refine ⟨by omega,?_⟩)|(simp (disch:=omega) [g15,g2,g16,g7])|(intro _)
        all_goals (refine hK _ _ (by kernel_rfl) ?_;clear hK K)
        all_goals
         refine AW_d rfl mix (by kernel_rfl) (by kernel_rfl) λK hK=>?_
         simp (disch:=omega) [g15,g2,g16,g7]
         repeat' first|(exfalso;omega)|(refine zd9 (λst'=>(zbc zcs (zbc zcs zbi))) (zhl _ _ (by decide)) rfl ?_;simp (disch:=omega) [g15,g2,g16,g7])|(refine zfa (zhl _ _ (by decide)) (by rfl) (λst' hst=>?_) ?_;(focus (simp (disch:=omega) [g15,g2,g16,g7] at hst;simp (disch:=omega) [g15,g2,g16,g7,hst,zbh];done));simp (disch:=omega) [g15,g2,g16,g7])|(refine ⟨by omega,?_⟩)|(simp (disch:=omega) [g15,g2,g16,g7])|(intro _)
         refine hK _ _ (by kernel_rfl) ?_;clear hK K
         refine zq6 rfl mix (by kernel_rfl) (by kernel_rfl) λK hK=>?_
         simp (disch:=omega) [g15,g2,g16,g7]
         repeat' first|(exfalso;omega)|(refine zd9 (λst'=>(zbc zcs zbi)) (zke _) rfl ?_;simp (disch:=omega) [g15,g2,g16,g7])|(refine zfa (zke _) (by rfl) (λst' hst=>?_) ?_;(focus (simp (disch:=omega) [g15,g2,g16,g7] at hst;simp (disch:=omega) [g15,g2,g16,g7,hst,zbh];done));simp (disch:=omega) [g15,g2,g16,g7])|(refine ⟨by omega,?_⟩)|(simp (disch:=omega) [g15,g2,g16,g7])|(intro _)
         refine hK _ _ (by kernel_rfl) ?_;clear hK K
         refine zbq ?_
         refine zcc rfl rfl λK hK=>?_
         simp (disch:=omega) [g15,g2,g16,g7]
         repeat' first|(refine ⟨by omega,?_⟩)|(intro _)
         refine hK _ ?_;clear hK K
         refine ⟨_,LeS.kx [(501,501)] [(0,.sl 1 h.cells),(1,.s b),(2,.sl 1 (shaK.map cW)),(7,.arr 501 0 64),(9,(.g (.int .i64 (((i+1):Nat)))))] [(501,.win 1 (schR b (i+1)))] (by simp [zG29,KpR,renV2,renV,zbk,zds,zdl];try rfl) (by simp [zG29,KpOX,renO,plO,cvO,renV,pl1,zds,zdl];first|(simp;done) | exact lb_step b i hi1 hi2 | trace_state) (by rfl) (by simp) (by simp) (by rfl) (by simp [zG30,formsX]),_,?_,i+1,rfl,?_,rfl⟩
         ·omega
         ·omega
      ·try simp at hc2
       all_goals
        have hil:i=64:=by omega
        subst hil
        refine zb3 ?_
        refine zbq ?_
        refine AW_x rfl rfl λK hK=>?_
        simp (disch:=omega)
        repeat' first|(exfalso;omega)|(refine ⟨λ_=>?_,λ_=>?_⟩)|(refine ⟨by omega,?_⟩)|(simp (disch:=omega))|(intro _)
        all_goals (refine hK _ ?_;clear hK K)
        all_goals
         refine zbj ?_
         refine AW_x rfl rfl λK hK=>?_
         simp (disch:=omega)
         repeat' first|(refine ⟨by omega,?_⟩)|(intro _)
         refine hK _ ?_;clear hK K
         refine zbl ?_
         refine zby (λmM sS=>∃(i:Nat),mM=64-i∧(i≤64)∧sS = { env:=lkE [(0,.sl 1 h.cells),(2,.sl 1 (shaK.map cW)),(7,.arr 501 0 64),(12,.arr 502 0 8),(13,(.g (.int .i64 ((i:Nat)))))],ob:=lk [(501,.win 1 (schR b 64)),(502,.win 1 (runW b h i).cells)] }) ?_ ?_
         ·refine ⟨_,LeS.kx [(501,501),(502,1968)] [(0,.sl 1 h.cells),(2,.sl 1 (shaK.map cW)),(7,.arr 501 0 64),(12,.arr 502 0 8),(13,(.g (.int .i64 (((0):Nat)))))] [(501,.win 1 (schR b 64)),(502,.win 1 (runW b h (0)).cells)] (by simp [zG29,KpR,renV2,renV,zbk,zds,zdl,zcr,cells_len];first|(simp;done)|(with_reducible rfl) | exact (show _=W8.cells _ from rfl) | trace_state) (by simp [zG29,KpOX,renO,plO,cvO,renV,pl1,zds,zdl,zcr,cells_len];first|(rw [zto,hv,ztq];done)|(rw [ztp];done) | trace_state) (by rfl) (by simp) (by simp) (by rfl) (by simp [zG30,formsX]),_,0,rfl,?_,rfl⟩
          ·simp
         ·rintro mM sS ⟨i,rfl,hi,rfl⟩
          refine zbj ?_
          refine AW_x rfl rfl λK hK=>?_
          simp (disch:=omega)
          repeat' first|(refine ⟨by omega,?_⟩)|(intro _)
          refine hK _ ?_;clear hK K
          refine zbm rfl (λhc3=>?_) (λhc3=>?_)
          ·try simp at hc3
           all_goals
            have hi2:i<64:=by omega
            have gw:(schR b 64)[i]? = some (cW (wd b i)):=zkf b 64 i hi2 (by omega)
            have gk:=kd_at i hi2
            obtain ⟨v,hv⟩:∃v,runW b h i=v:=⟨_,rfl⟩
            rw [hv]
            refine zbn ?_
            refine zbq ?_
            refine zbj ?_
            refine zbl ?_
            refine AW_x rfl rfl λK hK=>?_
            simp (disch:=omega) [gw,gk,W8.cells]
            repeat' first|(exfalso;omega)|(refine ⟨λ_=>?_,λ_=>?_⟩)|(refine ⟨by omega,?_⟩)|(simp (disch:=omega) [gw,gk,W8.cells])|(intro _)
            all_goals (refine hK _ ?_;clear hK K)
            all_goals
             refine AW_x rfl rfl λK hK=>?_
             simp (disch:=omega) [gw,gk,W8.cells]
             repeat' first|(refine ⟨by omega,?_⟩)|(intro _)
             refine hK _ ?_;clear hK K
             refine AW_d rfl mix (by kernel_rfl) (by kernel_rfl) λK hK=>?_
             simp (disch:=omega) [gw,gk,W8.cells]
             repeat' first|(exfalso;omega)|(refine zd9 (λst'=>(zbc zcs (zbc zcs zbi))) (zhl _ _ (by decide)) rfl ?_;simp (disch:=omega) [gw,gk,W8.cells])|(refine zfa (zhl _ _ (by decide)) (by rfl) (λst' hst=>?_) ?_;(focus (simp (disch:=omega) [gw,gk,W8.cells] at hst;simp (disch:=omega) [gw,gk,W8.cells,hst,zbh];done));simp (disch:=omega) [gw,gk,W8.cells])|(refine zd9 (λst'=>(zbc zcs zbi)) (zke _) rfl ?_;simp (disch:=omega) [gw,gk,W8.cells])|(refine zfa (zke _) (by rfl) (λst' hst=>?_) ?_;(focus (simp (disch:=omega) [gw,gk,W8.cells] at hst;simp (disch:=omega) [gw,gk,W8.cells,hst,zbh];done));simp (disch:=omega) [gw,gk,W8.cells])|(refine ⟨by omega,?_⟩)|(simp (disch:=omega) [gw,gk,W8.cells])|(intro _)
             refine hK _ _ (by kernel_rfl) ?_;clear hK K
             refine AW_d rfl mix (by kernel_rfl) (by kernel_rfl) λK hK=>?_
             simp (disch:=omega) [gw,gk,W8.cells]
             repeat' first|(exfalso;omega)|(refine zd9 (λst'=>(zbc zcs (zbc zcs zbi))) (zhl _ _ (by decide)) rfl ?_;simp (disch:=omega) [gw,gk,W8.cells])|(refine zfa (zhl _ _ (by decide)) (by rfl) (λst' hst=>?_) ?_;(focus (simp (disch:=omega) [gw,gk,W8.cells] at hst;simp (disch:=omega) [gw,gk,W8.cells,hst,zbh];done));simp (disch:=omega) [gw,gk,W8.cells])|(refine ⟨by omega,?_⟩)|(simp (disch:=omega) [gw,gk,W8.cells])|(intro _)
             refine hK _ _ (by kernel_rfl) ?_;clear hK K
             refine zq6 rfl mix (by kernel_rfl) (by kernel_rfl) λK hK=>?_
             simp (disch:=omega) [gw,gk,W8.cells]
             repeat' first|(exfalso;omega)|(refine zd9 (λst'=>(zbc zcs zbi)) (zke _) rfl ?_;simp (disch:=omega) [gw,gk,W8.cells])|(refine zfa (zke _) (by rfl) (λst' hst=>?_) ?_;(focus (simp (disch:=omega) [gw,gk,W8.cells] at hst;simp (disch:=omega) [gw,gk,W8.cells,hst,zbh];done));simp (disch:=omega) [gw,gk,W8.cells])|(refine ⟨by omega,?_⟩)|(simp (disch:=omega) [gw,gk,W8.cells])|(intro _)
             refine hK _ _ (by kernel_rfl) ?_;clear hK K
             refine zbq ?_
             refine zcc rfl rfl λK hK=>?_
             simp (disch:=omega) [gw,gk,W8.cells]
             repeat' first|(refine ⟨by omega,?_⟩)|(intro _)
             refine hK _ ?_;clear hK K
             refine ⟨_,LeS.kx [(501,501),(502,3616)] [(0,.sl 1 h.cells),(2,.sl 1 (shaK.map cW)),(7,.arr 501 0 64),(12,.arr 502 0 8),(13,(.g (.int .i64 (((i+1):Nat)))))] [(501,.win 1 (schR b 64)),(502,.win 1 (runW b h (i+1)).cells)] (by simp [zG29,KpR,renV2,renV,zbk,zds,zdl,zcr,cells_len];first|(simp;done)|(with_reducible rfl) | exact (show _=W8.cells _ from rfl) | trace_state) (by simp [zG29,KpOX,renO,plO,cvO,renV,pl1,zds,zdl,zcr,cells_len];first|(rw [zto,hv,ztq];done)|(rw [ztp];done) | trace_state) (by rfl) (by simp) (by simp) (by rfl) (by simp [zG30,formsX]),_,?_,i+1,rfl,?_,rfl⟩
             ·omega
             ·omega
          ·try simp at hc3
           all_goals
            have hil:i=64:=by omega
            subst hil
            obtain ⟨v,hv⟩:∃v,runW b h 64=v:=⟨_,rfl⟩
            rw [hv]
            refine zb3 ?_
            refine zbq ?_
            refine AW_x rfl rfl λK hK=>?_
            simp (disch:=omega)
            repeat' first|(exfalso;omega)|(refine ⟨λ_=>?_,λ_=>?_⟩)|(refine ⟨by omega,?_⟩)|(simp (disch:=omega))|(intro _)
            all_goals (refine hK _ ?_;clear hK K)
            all_goals
             refine zbj ?_
             refine AW_x rfl rfl λK hK=>?_
             simp (disch:=omega)
             repeat' first|(refine ⟨by omega,?_⟩)|(intro _)
             refine hK _ ?_;clear hK K
             refine zbl ?_
             refine zby (λmM sS=>∃(i:Nat),mM=8-i∧(i≤8)∧sS = { env:=lkE [(0,.sl 1 h.cells),(12,.arr 502 0 8),(18,.arr 503 0 i),(19,(.g (.int .i64 ((i:Nat)))))],ob:=lk [(502,.win 1 v.cells),(503,.win 1 ((add8 h v).cells.take i))] }) ?_ ?_
             ·refine ⟨_,LeS.kx [(502,502),(503,3632)] [(0,.sl 1 h.cells),(12,.arr 502 0 8),(18,.arr 503 0 (0)),(19,(.g (.int .i64 (((0):Nat)))))] [(502,.win 1 v.cells),(503,.win 1 ((add8 h v).cells.take (0)))] (by simp [zG29,KpR,renV2,renV,zbk,zcr,cells_len,zzq];first|(simp;done) | omega | trace_state) (by simp [zG29,KpOX,renO,plO,cvO,renV,pl1,zcr,cells_len,zzq];first | rfl|(rw [ztr _ _ _ hi2,List.take_of_length_le (by simp [htl])];rfl) | trace_state) (by rfl) (by simp) (by simp) (by rfl) (by simp [zG30,formsX]),_,0,rfl,?_,rfl⟩
              ·simp
             ·rintro mM sS ⟨i,rfl,hi,rfl⟩
              have htl:=tk_len (add8 h v) i hi
              refine zbj ?_
              refine AW_x rfl rfl λK hK=>?_
              simp (disch:=omega) [htl]
              repeat' first|(refine ⟨by omega,?_⟩)|(intro _)
              refine hK _ ?_;clear hK K
              refine zbm rfl (λhc4=>?_) (λhc4=>?_)
              ·try simp at hc4
               all_goals
                have hi2:i<8:=by omega
                have gh:=znv h i hi2
                have gv:=znv v i hi2
                refine zbn ?_
                refine zbq ?_
                refine zbj ?_
                refine zbl ?_
                refine zq6 rfl mix (by kernel_rfl) (by kernel_rfl) λK hK=>?_
                simp (disch:=omega) [htl,gh,gv]
                repeat' first|(exfalso;omega)|(refine zd9 (λst'=>(zbc zcs zbi)) (zke _) rfl ?_;simp (disch:=omega) [htl,gh,gv])|(refine zfa (zke _) (by rfl) (λst' hst=>?_) ?_;(focus (simp (disch:=omega) [htl,gh,gv] at hst;simp (disch:=omega) [htl,gh,gv,hst,zbh];done));simp (disch:=omega) [htl,gh,gv])|(refine ⟨λ_=>?_,λ_=>?_⟩)|(refine ⟨by omega,?_⟩)|(simp (disch:=omega) [htl,gh,gv])|(intro _)
                all_goals (refine hK _ _ (by kernel_rfl) ?_;clear hK K)
                all_goals
                 refine zbq ?_
                 refine zcc rfl rfl λK hK=>?_
                 simp (disch:=omega) [htl,gh,gv]
                 repeat' first|(refine ⟨by omega,?_⟩)|(intro _)
                 refine hK _ ?_;clear hK K
                 refine ⟨_,LeS.kx [(502,502),(503,3904)] [(0,.sl 1 h.cells),(12,.arr 502 0 8),(18,.arr 503 0 (i+1)),(19,(.g (.int .i64 (((i+1):Nat)))))] [(502,.win 1 v.cells),(503,.win 1 ((add8 h v).cells.take (i+1)))] (by simp [zG29,KpR,renV2,renV,zbk,zcr,cells_len,zzq];first|(simp;done) | omega | trace_state) (by simp [zG29,KpOX,renO,plO,cvO,renV,pl1,zcr,cells_len,zzq];first | rfl|(rw [ztr _ _ _ hi2,List.take_of_length_le (by simp [htl])];rfl) | trace_state) (by rfl) (by simp) (by simp) (by rfl) (by simp [zG30,formsX]),_,?_,i+1,rfl,?_,rfl⟩
                 ·omega
                 ·omega
              ·try simp at hc4
               all_goals
                have hil:i=8:=by omega
                subst hil
                refine zb3 ?_
                refine zbq ?_
                refine AW_x rfl rfl λK hK=>?_
                simp (disch:=omega) [htl]
                repeat' first|(exfalso;omega)|(refine ⟨λ_=>?_,λ_=>?_⟩)|(refine ⟨by omega,?_⟩)|(simp (disch:=omega) [htl])|(intro _)
                all_goals (refine hK _ ?_;clear hK K)
                all_goals
                 refine zbr (zc2 [503] [] (by simp [zG29,List.range_succ]) (by simp) ?_)
                 simp (disch:=omega) [htl]
                 all_goals first|(unfold blk;rw [hv];done) | trace_state
end Go.Proofs.YtodmafgmdlkhoaaGreat.Vs
end
