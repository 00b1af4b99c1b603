import Derived.Test.YtodmafgmdlkhoaaGreatSM5
section
open Go Go.Proofs Go.Proofs.YtodmafgmdlkhoaaGreat.Vs
namespace Go.Proofs.YtodmafgmdlkhoaaGreat.Vs
set_option linter.all false
set_option linter.unusedSimpArgs false
set_option linter.unusedVariables false
set_option maxRecDepth 100000
set_option maxHeartbeats 4000000
/-! all parts, as the reference makes them -/
theorem scR_flat(l:List (List DtId)):scR (l.map (List.map DtId.cells)).flatten=true:=by rw [←List.map_flatten];exact zbv _
theorem zhh(l:List (List DtId)):immR (l.map cP)=true:=zjq _ (λ_=>rfl) l
structure SpI (l:List DtInst) (out out2:List (List DtId)) (fd:Bool) (i:Nat):Prop where
 le:i≤l.length
 no:fd=false→out2=out∧∀(j:Nat) x,j<i→l[j]? = some x→¬CandP l out.flatten x.fId
 yes:fd=true→∃p,nextP l out=some p∧out2=out++[p]
theorem spI_0(l:List DtInst)(out:List (List DtId)):SpI l out out false 0:=⟨by omega,λ_=>⟨rfl,λj x h=>by omega⟩,λh=>by cases h⟩
theorem zrl{l:List DtInst}{out out2:List (List DtId)}{fd:Bool}{i:Nat}(h:SpI l out out2 fd i)(hi:i<l.length)(hf:fd=false)(hc:¬CandP l out2.flatten l[i].fId):SpI l out out2 fd (i+1):=by
 rw [(h.no hf).1] at hc
 refine ⟨by omega,λ_=>⟨(h.no hf).1,λj x hj hx=>?_⟩,λh2=>by rw [hf] at h2;cases h2⟩
 by_cases e:j=i
 ·subst e;rw [List.getElem?_eq_getElem hi] at hx;cases hx;exact hc
 ·exact (h.no hf).2 j x (by omega) hx
theorem zxa{l:List DtInst}(hp:InstsP l){out out2:List (List DtId)}{fd:Bool}{i:Nat}(h:SpI l out out2 fd i)(hi:i<l.length)(hf:fd=false)(ho:OutOk l out)(hc:CandP l out2.flatten l[i].fId):SpI l out (out2++[partL l l[i].fId]) true (i+1):=by
 rw [(h.no hf).1] at hc
 exact ⟨by omega,λh=>(by cases h),λ_=>⟨_,nextP_hit hp ho hi (h.no hf).2 hc,by rw [(h.no hf).1]⟩⟩
theorem spI_len{l:List DtInst}(hp:InstsP l){out out2:List (List DtId)}{fd:Bool}{i:Nat}(hi:PInv l out)(h:SpI l out out2 fd i):OutOk l out2:=by
 cases fd with
 | false=>rw [(h.no rfl).1];exact hi.1
 | true=>obtain ⟨p,h1,rfl⟩:=h.yes rfl;exact (pinv_s hp hi h1).1.1
def zG19:=And.intro @zb4 (And.intro @gE (And.intro @tP (And.intro @zbh (And.intro @zbv (And.intro @and_assoc (And.intro @zbb (And.intro @zbf (And.intro @zbs (And.intro @zq8 (And.intro @zwi (And.intro @pcE_nil @zhh)))))))))))
def zG20:=And.intro @zbp (And.intro @zb0 (And.intro @zbt (And.intro @zbv (And.intro @zc5 (And.intro @zhh (And.intro @zzb (And.intro @zs5 (And.intro @zdr (And.intro @imm0_sl @scR_flat)))))))))
def zG21:=And.intro @zbb (And.intro @zbf (And.intro @zco @zcu))
theorem specParts(l:List DtInst)(hs:szS DtInst.sz l≤1048576)(hn:l.length≤1048576)(hp:InstsP l):PCall Tryz.prog 33 [.sl 16 (l.map DtInst.cells)] (.sl 1 ((partsL l).map cP)):=by
 have hpb:=zcb hp
 refine zdt Tryz.func33 (by rfl) (by rfl) (by rw [Tryz.ntmps33];exact Nat.le_of_ble_eq_true rfl) ?_
 rw [Tryz.ntmps33]
 refine zfl ?_
 refine AW_k [(0,_)] ⟨rfl,trivial⟩ ?_
 refine AW_x rfl rfl λK hK=>?_
 simp (disch:=omega) [zG19,DtInst.cells,DtCmd.cells,DtId.cells,cP,-List.length_flatten,-List.map_flatten]
 repeat' first|(refine ⟨by omega,?_⟩)|(intro _)
 refine hK _ ?_;clear hK K
 refine AW_x rfl rfl λK hK=>?_
 simp (disch:=omega) [zG19,DtInst.cells,DtCmd.cells,DtId.cells,cP,-List.length_flatten,-List.map_flatten]
 repeat' first|(refine ⟨by omega,?_⟩)|(simp (disch:=omega) [zG19,DtInst.cells,DtCmd.cells,DtId.cells,cP,-List.length_flatten,-List.map_flatten])|(intro _)
 refine hK _ ?_;clear hK K
 refine AW_x rfl rfl λK hK=>?_
 simp (disch:=omega) [zG19,DtInst.cells,DtCmd.cells,DtId.cells,cP,-List.length_flatten,-List.map_flatten]
 repeat' first|(refine ⟨by omega,?_⟩)|(simp (disch:=omega) [zG19,DtInst.cells,DtCmd.cells,DtId.cells,cP,-List.length_flatten,-List.map_flatten])|(intro _)
 refine hK _ ?_;clear hK K
 refine zbj ?_
 refine zbl ?_
 refine zby (λmM sS=>∃(out:List (List DtId)),mM=(leftR l out).length∧(PInv l out)∧sS = { env:=lkE [(0,.sl 16 (l.map DtInst.cells)),(3,.arr 501 0 out.length),(4,.arr 502 0 out.flatten.length)],ob:=lk [(501,.win 1 (out.map cP)),(502,.win 2 (out.flatten.map DtId.cells))] }) ?_ ?_
 ·refine ⟨_,LeS.kw [(501,144),(502,160)] [(0,.sl 16 (l.map DtInst.cells)),(3,.arr 501 0 ([]).length),(4,.arr 502 0 ([]).flatten.length)] [(501,.win 1 (([]).map cP)),(502,.win 2 (([]).flatten.map DtId.cells))] (by simp [zG20,KpR,renV2,renV,zbk,DtId.cells,cP];try rfl) (by simp [zG20,KpOW,wnO,renO,plO,cvO,renV,pl1,DtId.cells,cP];try rfl) (by rfl) (by simp) (by simp) (by rfl) (by simp [formsX,List.range_succ,zbp,zb0]),_,[],rfl,?_,rfl⟩
  ·exact pinv_0 l
 ·rintro mM sS ⟨out,rfl,ho,rfl⟩
  have ⟨hl1,hl2,hl3⟩:=zl9 hp ho.1
  refine zbj ?_
  refine AW_x rfl rfl λK hK=>?_
  simp (disch:=omega) [zG19,DtInst.cells,DtCmd.cells,DtId.cells,cP,-List.length_flatten,-List.map_flatten]
  repeat' first|(exfalso;omega)|(refine zcx (zbc zbw zbi) (zdv _ (by assumption)) rfl ?_;simp (disch:=omega) [zG19,DtInst.cells,DtCmd.cells,DtId.cells,cP,-List.length_flatten,-List.map_flatten])|(refine zcy (zdv _ (by assumption)) (by rfl) ?_ ?_;(focus (simp (disch:=omega) [zG19,DtInst.cells,DtCmd.cells,DtId.cells,cP,-List.length_flatten,-List.map_flatten];done));simp (disch:=omega) [zG19,DtInst.cells,DtCmd.cells,DtId.cells,cP,-List.length_flatten,-List.map_flatten])|(refine ⟨by omega,?_⟩)|(simp (disch:=omega) [zG19,DtInst.cells,DtCmd.cells,DtId.cells,cP,-List.length_flatten,-List.map_flatten])|(intro _)
  refine hK _ ?_;clear hK K
  refine zbm rfl (λhc1=>?_) (λhc1=>?_)
  ·try simp [zG21,zbe,zbd] at hc1
   all_goals
    refine zbn ?_
    refine zbq ?_
    refine zbl ?_
    refine AW_x rfl rfl λK hK=>?_
    simp (disch:=omega) [zG19,DtInst.cells,DtCmd.cells,DtId.cells,cP,-List.length_flatten,-List.map_flatten]
    repeat' first|(exfalso;omega)|(refine ⟨λ_=>?_,λ_=>?_⟩)|(refine ⟨by omega,?_⟩)|(simp (disch:=omega) [zG19,DtInst.cells,DtCmd.cells,DtId.cells,cP,-List.length_flatten,-List.map_flatten])|(intro _)
    all_goals (refine hK _ ?_;clear hK K)
    all_goals
     refine zbj ?_
     refine AW_x rfl rfl λK hK=>?_
     simp (disch:=omega) [zG19,DtInst.cells,DtCmd.cells,DtId.cells,cP,-List.length_flatten,-List.map_flatten]
     repeat' first|(refine ⟨by omega,?_⟩)|(intro _)
     refine hK _ ?_;clear hK K
     refine zbl ?_
     refine zby (λmM sS=>∃(i:Nat) (fd:Bool) (out2:List (List DtId)),mM=l.length-i∧(SpI l out out2 fd i)∧sS = { env:=lkE [(0,.sl 16 (l.map DtInst.cells)),(3,.arr 501 0 out2.length),(4,.arr 502 0 out2.flatten.length),(5,(.g (.bool (fd)))),(6,(.g (.int .i64 ((i:Nat)))))],ob:=lk [(501,.win 1 (out2.map cP)),(502,.win 2 (out2.flatten.map DtId.cells))] }) ?_ ?_
     ·refine ⟨_,LeS.kw [(501,501),(502,502)] [(0,.sl 16 (l.map DtInst.cells)),(3,.arr 501 0 (out).length),(4,.arr 502 0 (out).flatten.length),(5,(.g (.bool ((false))))),(6,(.g (.int .i64 (((0):Nat)))))] [(501,.win 1 ((out).map cP)),(502,.win 2 ((out).flatten.map DtId.cells))] (by simp [zG20,KpR,renV2,renV,zbk,DtId.cells,cP];try rfl) (by simp [zG20,KpOW,wnO,renO,plO,cvO,renV,pl1,DtId.cells,cP];try rfl) (by rfl) (by simp) (by simp) (by rfl) (by simp [formsX,List.range_succ,zbp,zb0]),_,0,false,out,rfl,?_,rfl⟩
      ·exact spI_0 l out
     ·rintro mM sS ⟨i,fd,out2,rfl,hi,rfl⟩
      have hio:=spI_len hp ho hi
      have ⟨hm1,hm2,hm3⟩:=zl9 hp hio
      refine zbj ?_
      refine AW_x rfl rfl λK hK=>?_
      simp (disch:=omega) [zG19,DtInst.cells,DtCmd.cells,DtId.cells,cP,-List.length_flatten,-List.map_flatten]
      repeat' first|(exfalso;omega)|(refine ⟨λ_=>?_,λ_=>?_⟩)|(refine ⟨by omega,?_⟩)|(simp (disch:=omega) [zG19,DtInst.cells,DtCmd.cells,DtId.cells,cP,-List.length_flatten,-List.map_flatten])|(intro _)
      all_goals (refine hK _ ?_;clear hK K)
      all_goals
       refine zbm rfl (λhc2=>?_) (λhc2=>?_)
       ·try simp [zG21,zbe,zbd] at hc2
        all_goals
         have hpl:=zhf hp (id:=l[i].fId) (zfb hp (List.getElem_mem _)).1
         refine zbn ?_
         refine zbq ?_
         refine zbj ?_
         refine zbl ?_
         refine zbj ?_
         refine AW_x rfl rfl λK hK=>?_
         simp (disch:=omega) [zG19,DtInst.cells,DtCmd.cells,DtId.cells,cP,-List.length_flatten,-List.map_flatten]
         repeat' first|(exfalso;omega)|(refine zcx (zbc zbw (zbc (zbu rfl) zbi)) (l8Has out2.flatten l[i].fId (by omega)) rfl ?_;simp (disch:=omega) [zG19,DtInst.cells,DtCmd.cells,DtId.cells,cP,-List.length_flatten,-List.map_flatten])|(refine zcy (l8Has out2.flatten l[i].fId (by omega)) (by rfl) ?_ ?_;(focus (simp (disch:=omega) [zG19,DtInst.cells,DtCmd.cells,DtId.cells,cP,-List.length_flatten,-List.map_flatten];done));simp (disch:=omega) [zG19,DtInst.cells,DtCmd.cells,DtId.cells,cP,-List.length_flatten,-List.map_flatten])|(refine zcx (zbc zbw (zbc (zbu rfl) zbi)) (zj4 l l[i].fId hn hp) rfl ?_;simp (disch:=omega) [zG19,DtInst.cells,DtCmd.cells,DtId.cells,cP,-List.length_flatten,-List.map_flatten])|(refine zcy (zj4 l l[i].fId hn hp) (by rfl) ?_ ?_;(focus (simp (disch:=omega) [zG19,DtInst.cells,DtCmd.cells,DtId.cells,cP,-List.length_flatten,-List.map_flatten];done));simp (disch:=omega) [zG19,DtInst.cells,DtCmd.cells,DtId.cells,cP,-List.length_flatten,-List.map_flatten])|(refine ⟨λ_=>?_,λ_=>?_⟩)|(refine ⟨by omega,?_⟩)|(simp (disch:=omega) [zG19,DtInst.cells,DtCmd.cells,DtId.cells,cP,-List.length_flatten,-List.map_flatten])|(intro _)
         all_goals (refine hK _ ?_;clear hK K)
         all_goals
          refine zbm rfl (λhc3=>?_) (λhc3=>?_)
          ·try simp [zG21,zbe,zbd] at hc3
           all_goals
            refine zb3 ?_
            refine zbq ?_
            refine zcc rfl rfl λK hK=>?_
            simp (disch:=omega) [zG19,DtInst.cells,DtCmd.cells,DtId.cells,cP,-List.length_flatten,-List.map_flatten]
            repeat' first|(exfalso;omega)|(refine ⟨λ_=>?_,λ_=>?_⟩)|(refine ⟨by omega,?_⟩)|(simp (disch:=omega) [zG19,DtInst.cells,DtCmd.cells,DtId.cells,cP,-List.length_flatten,-List.map_flatten])|(intro _)
            all_goals (refine hK _ ?_;clear hK K)
            all_goals
             refine ⟨_,LeS.kw [(501,501),(502,502)] [(0,.sl 16 (l.map DtInst.cells)),(3,.arr 501 0 (out2).length),(4,.arr 502 0 (out2).flatten.length),(5,(.g (.bool ((fd))))),(6,(.g (.int .i64 (((i+1):Nat)))))] [(501,.win 1 ((out2).map cP)),(502,.win 2 ((out2).flatten.map DtId.cells))] (by simp [zG20,KpR,renV2,renV,zbk,DtId.cells,cP];try rfl) (by simp [zG20,KpOW,wnO,renO,plO,cvO,renV,pl1,DtId.cells,cP];try rfl) (by rfl) (by simp) (by simp) (by rfl) (by simp [formsX,List.range_succ,zbp,zb0]),_,?_,i+1,fd,out2,rfl,?_,rfl⟩
             ·omega
             ·first | exact zrl hi (by omega) (by assumption) (λhc=>by unfold CandP at hc;rw [List.mem_flatten] at hc;grind) | exact zxa hp hi (by omega) (by assumption) ho.1 (by unfold CandP;rw [List.mem_flatten];grind) | trace_state
          ·try simp [zG21,zbe,zbd] at hc3
           all_goals
            refine zbn ?_
            refine zbq ?_
            refine AW_x rfl rfl λK hK=>?_
            simp (disch:=omega) [zG19,DtInst.cells,DtCmd.cells,DtId.cells,cP,-List.length_flatten,-List.map_flatten]
            repeat' first|(exfalso;omega)|(refine zcx (zbc zbw (zbc (zbu rfl) zbi)) (zzl l l[i].fId hn hp (by assumption)) rfl ?_;simp (disch:=omega) [zG19,DtInst.cells,DtCmd.cells,DtId.cells,cP,-List.length_flatten,-List.map_flatten])|(refine zcy (zzl l l[i].fId hn hp (by assumption)) (by rfl) ?_ ?_;(focus (simp (disch:=omega) [zG19,DtInst.cells,DtCmd.cells,DtId.cells,cP,-List.length_flatten,-List.map_flatten];done));simp (disch:=omega) [zG19,DtInst.cells,DtCmd.cells,DtId.cells,cP,-List.length_flatten,-List.map_flatten])|(refine ⟨λ_=>?_,λ_=>?_⟩)|(refine ⟨by omega,?_⟩)|(simp (disch:=omega) [zG19,DtInst.cells,DtCmd.cells,DtId.cells,cP,-List.length_flatten,-List.map_flatten])|(intro _)
            all_goals (refine hK _ ?_;clear hK K)
            all_goals
             refine AW_x rfl rfl λK hK=>?_
             simp (disch:=omega) [zG19,DtInst.cells,DtCmd.cells,DtId.cells,cP,-List.length_flatten,-List.map_flatten]
             repeat' first|(exfalso;omega)|(refine zcx (zbc zbw (zbc zbw (zbc zbw zbi))) (l12May l (partL l l[i].fId) out2.flatten hn hp (by omega) (by omega)) rfl ?_;simp (disch:=omega) [zG19,DtInst.cells,DtCmd.cells,DtId.cells,cP,-List.length_flatten,-List.map_flatten])|(refine zcy (l12May l (partL l l[i].fId) out2.flatten hn hp (by omega) (by omega)) (by rfl) ?_ ?_;(focus (simp (disch:=omega) [zG19,DtInst.cells,DtCmd.cells,DtId.cells,cP,-List.length_flatten,-List.map_flatten];done));simp (disch:=omega) [zG19,DtInst.cells,DtCmd.cells,DtId.cells,cP,-List.length_flatten,-List.map_flatten])|(refine ⟨by omega,?_⟩)|(simp (disch:=omega) [zG19,DtInst.cells,DtCmd.cells,DtId.cells,cP,-List.length_flatten,-List.map_flatten])|(intro _)
             refine hK _ ?_;clear hK K
             refine zbm rfl (λhc4=>?_) (λhc4=>?_)
             ·try simp [zG21,zbe,zbd] at hc4
              all_goals
               refine AW_x rfl rfl λK hK=>?_
               simp (disch:=omega) [zG19,DtInst.cells,DtCmd.cells,DtId.cells,cP,-List.length_flatten,-List.map_flatten]
               repeat' first|(exfalso;omega)|(refine ⟨λ_=>?_,λ_=>?_⟩)|(refine ⟨by omega,?_⟩)|(simp (disch:=omega) [zG19,DtInst.cells,DtCmd.cells,DtId.cells,cP,-List.length_flatten,-List.map_flatten])|(intro _)
               all_goals (refine hK _ ?_;clear hK K)
               all_goals
                refine AW_x rfl rfl λK hK=>?_
                simp (disch:=omega) [zG19,DtInst.cells,DtCmd.cells,DtId.cells,cP,-List.length_flatten,-List.map_flatten]
                repeat' first|(refine ⟨by omega,?_⟩)|(simp (disch:=omega) [zG19,DtInst.cells,DtCmd.cells,DtId.cells,cP,-List.length_flatten,-List.map_flatten])|(intro _)
                refine hK _ ?_;clear hK K
                refine zcc rfl rfl λK hK=>?_
                simp (disch:=omega) [zG19,DtInst.cells,DtCmd.cells,DtId.cells,cP,-List.length_flatten,-List.map_flatten]
                repeat' first|(refine ⟨by omega,?_⟩)|(intro _)
                refine hK _ ?_;clear hK K
                refine zbq ?_
                refine zcc rfl rfl λK hK=>?_
                simp (disch:=omega) [zG19,DtInst.cells,DtCmd.cells,DtId.cells,cP,-List.length_flatten,-List.map_flatten]
                repeat' first|(refine ⟨by omega,?_⟩)|(intro _)
                refine hK _ ?_;clear hK K
                refine ⟨_,LeS.kw [(501,864),(502,912)] [(0,.sl 16 (l.map DtInst.cells)),(3,.arr 501 0 (out2++[partL l l[i].fId]).length),(4,.arr 502 0 (out2++[partL l l[i].fId]).flatten.length),(5,(.g (.bool ((true))))),(6,(.g (.int .i64 (((i+1):Nat)))))] [(501,.win 1 ((out2++[partL l l[i].fId]).map cP)),(502,.win 2 ((out2++[partL l l[i].fId]).flatten.map DtId.cells))] (by simp [zG20,KpR,renV2,renV,zbk,DtId.cells,cP];try rfl) (by simp [zG20,KpOW,wnO,renO,plO,cvO,renV,pl1,DtId.cells,cP];try rfl) (by rfl) (by simp) (by simp) (by rfl) (by simp [formsX,List.range_succ,zbp,zb0]),_,?_,i+1,true,out2++[partL l l[i].fId],rfl,?_,rfl⟩
                ·omega
                ·first | exact zrl hi (by omega) (by assumption) (λhc=>by unfold CandP at hc;rw [List.mem_flatten] at hc;grind) | exact zxa hp hi (by omega) (by assumption) ho.1 (by unfold CandP;rw [List.mem_flatten];grind) | trace_state
             ·try simp [zG21,zbe,zbd] at hc4
              all_goals
               refine zbn ?_
               refine zbq ?_
               refine zcc rfl rfl λK hK=>?_
               simp (disch:=omega) [zG19,DtInst.cells,DtCmd.cells,DtId.cells,cP,-List.length_flatten,-List.map_flatten]
               repeat' first|(exfalso;omega)|(refine ⟨λ_=>?_,λ_=>?_⟩)|(refine ⟨by omega,?_⟩)|(simp (disch:=omega) [zG19,DtInst.cells,DtCmd.cells,DtId.cells,cP,-List.length_flatten,-List.map_flatten])|(intro _)
               all_goals (refine hK _ ?_;clear hK K)
               all_goals
                refine ⟨_,LeS.kw [(501,501),(502,502)] [(0,.sl 16 (l.map DtInst.cells)),(3,.arr 501 0 (out2).length),(4,.arr 502 0 (out2).flatten.length),(5,(.g (.bool ((fd))))),(6,(.g (.int .i64 (((i+1):Nat)))))] [(501,.win 1 ((out2).map cP)),(502,.win 2 ((out2).flatten.map DtId.cells))] (by simp [zG20,KpR,renV2,renV,zbk,DtId.cells,cP];try rfl) (by simp [zG20,KpOW,wnO,renO,plO,cvO,renV,pl1,DtId.cells,cP];try rfl) (by rfl) (by simp) (by simp) (by rfl) (by simp [formsX,List.range_succ,zbp,zb0]),_,?_,i+1,fd,out2,rfl,?_,rfl⟩
                ·omega
                ·first | exact zrl hi (by omega) (by assumption) (λhc=>by unfold CandP at hc;rw [List.mem_flatten] at hc;grind) | exact zxa hp hi (by omega) (by assumption) ho.1 (by unfold CandP;rw [List.mem_flatten];grind) | trace_state
       ·try simp [zG21,zbe,zbd] at hc2
        all_goals
         have hle:=hi.le
         refine zb3 ?_
         refine zbq ?_
         refine AW_x rfl rfl λK hK=>?_
         simp (disch:=omega) [zG19,DtInst.cells,DtCmd.cells,DtId.cells,cP,-List.length_flatten,-List.map_flatten]
         repeat' first|(exfalso;omega)|(refine ⟨λ_=>?_,λ_=>?_⟩)|(refine ⟨by omega,?_⟩)|(simp (disch:=omega) [zG19,DtInst.cells,DtCmd.cells,DtId.cells,cP,-List.length_flatten,-List.map_flatten])|(intro _)
         all_goals (refine hK _ ?_;clear hK K)
         all_goals
          refine zbm rfl (λhc5=>?_) (λhc5=>?_)
          ·try simp [zG21,zbe,zbd] at hc5
           all_goals
            refine AW_x rfl rfl λK hK=>?_
            simp (disch:=omega) [zG19,DtInst.cells,DtCmd.cells,DtId.cells,cP,-List.length_flatten,-List.map_flatten]
            repeat' first|(exfalso;omega)|(refine ⟨λ_=>?_,λ_=>?_⟩)|(refine ⟨by omega,?_⟩)|(simp (disch:=omega) [zG19,DtInst.cells,DtCmd.cells,DtId.cells,cP,-List.length_flatten,-List.map_flatten])|(intro _)
            all_goals (refine hK _ ?_;clear hK K)
            all_goals
             refine zbr (zh6 ?_)
             simp (disch:=omega) [zG19,DtInst.cells,DtCmd.cells,DtId.cells,cP,-List.length_flatten,-List.map_flatten,hpb]
             all_goals first|(exfalso;simp_all;done)|(have hfd:fd=false:=(by assumption);have hno:=hi.no hfd;have hil:i=l.length:=(by have:=hi.le;rcases hc2 with h | h<;>first | omega | simp_all);rw [zlg ho (zp0 hp ho.1 (by rw [←hil];exact hno.2)),hno.1]) | trace_state
          ·try simp [zG21,zbe,zbd] at hc5
           all_goals
            refine zbn ?_
            obtain ⟨p,hn1,hn2⟩:=hi.yes (by simp_all)
            have hpi:=pinv_s hp ho hn1
            rw [←hn2] at hpi
            refine ⟨_,LeS.kw [(501,501),(502,502)] [(0,.sl 16 (l.map DtInst.cells)),(3,.arr 501 0 (out2).length),(4,.arr 502 0 (out2).flatten.length)] [(501,.win 1 ((out2).map cP)),(502,.win 2 ((out2).flatten.map DtId.cells))] (by simp [zG20,KpR,renV2,renV,zbk,DtId.cells,cP];try rfl) (by simp [zG20,KpOW,wnO,renO,plO,cvO,renV,pl1,DtId.cells,cP];try rfl) (by rfl) (by simp) (by simp) (by rfl) (by simp [formsX,List.range_succ,zbp,zb0]),_,?_,out2,rfl,?_,rfl⟩
            ·omega
            ·exact hpi.1
  ·try simp [zG21,zbe,zbd] at hc1
   all_goals
    refine zb3 ?_
    refine zbq ?_
    refine AW_x rfl rfl λK hK=>?_
    simp (disch:=omega) [zG19,DtInst.cells,DtCmd.cells,DtId.cells,cP,-List.length_flatten,-List.map_flatten]
    repeat' first|(exfalso;omega)|(refine ⟨λ_=>?_,λ_=>?_⟩)|(refine ⟨by omega,?_⟩)|(simp (disch:=omega) [zG19,DtInst.cells,DtCmd.cells,DtId.cells,cP,-List.length_flatten,-List.map_flatten])|(intro _)
    all_goals (refine hK _ ?_;clear hK K)
    all_goals
     refine zbr (zh6 ?_)
     simp (disch:=omega) [zG19,DtInst.cells,DtCmd.cells,DtId.cells,cP,-List.length_flatten,-List.map_flatten,hpb]
     all_goals first|(exfalso;simp_all;done)|(have hfd:fd=false:=(by assumption);have hno:=hi.no hfd;have hil:i=l.length:=(by have:=hi.le;rcases hc2 with h | h<;>first | omega | simp_all);rw [zlg ho (zp0 hp ho.1 (by rw [←hil];exact hno.2)),hno.1]) | trace_state
end Go.Proofs.YtodmafgmdlkhoaaGreat.Vs
end
section
open Go Go.Proofs Go.Proofs.YtodmafgmdlkhoaaGreat.Vs
namespace Go.Proofs.YtodmafgmdlkhoaaGreat.Vs
set_option linter.all false
set_option linter.unusedSimpArgs false
set_option linter.unusedVariables false
set_option maxRecDepth 100000
set_option maxHeartbeats 4000000
/-! all parts, as the program makes them -/
theorem zk6(l:List DtInst)(id:DtId)(hs:szS DtInst.sz l≤1048576)(hn:l.length≤1048576)(hm:∀x∈l,InstSm x)(hp:InstsP l):PCall Tryz.prog 10 [.sl 16 (l.map DtInst.cells),.agg (DtId.cells id)] (.g (.bool (decB (RdyP l id)))):=zps (zth l id hs hn hm hp)
theorem ztj(l:List DtInst)(id:DtId)(hs:szS DtInst.sz l≤1048576)(hn:l.length≤1048576)(hm:∀x∈l,InstSm x)(hp:InstsP l):PCall Tryz.prog 44 [.sl 16 (l.map DtInst.cells),.agg (DtId.cells id)] (.sl 2 ((partL l id).map DtId.cells)):=zjz (implPart l id hs hn hm hp) (by simp)
theorem ztk{l:List DtInst}{i:Nat}(h:i<l.length)(h1:¬partL l l[i].fId∈leftT l i)(h2:RdyP l l[i].fId):leftT l (i+1)=leftT l i++[partL l l[i].fId]:=by
 rw [leftT_s l i h];unfold leftF;rw [zcb h1,zcb h2];rfl
theorem zp2{l:List DtInst}{i:Nat}(h:i<l.length)(h1:partL l l[i].fId∈leftT l i∨¬RdyP l l[i].fId):leftT l (i+1)=leftT l i:=by
 rw [leftT_s l i h];unfold leftF
 rcases h1 with h1 | h1
 ·rw [zce (p:=partL l l[i].fId∉leftT l i) (λk=>k h1),Bool.and_false];rfl
 ·rw [zce h1,Bool.false_and];rfl
theorem known_any{l:List DtInst}(hp:InstsP l)(i:Nat)(x:DtId):(leftT l i).any (λp=>decB (x∈p))=decB (partL l x∈leftT l i):=by
 rw [Bool.eq_iff_iff,zbb,←ztf hp (zj6 hp i).1,List.any_eq_true]
 simp only [zbb]
theorem leftT_pl{l:List DtInst}(hp:InstsP l)(i:Nat):∀p∈leftT l i,p.length≤18:=λp h=>by
 obtain ⟨a,ha,rfl⟩:=(zj6 hp i).1 p h
 exact zhf hp (zpy hp ha).1
theorem zrm{l:List DtInst}(hp:InstsP l)(out:List (List DtId)):∀p∈leftR l out,p.length≤18∧∀x∈p,(instAt l x).fStatus=3:=λp h=>by
 have h1:=(zhg hp).1 p (zj7 h).1
 refine ⟨?_,λx hx=>(zw6 hp h1 x hx).2⟩
 obtain ⟨a,ha,rfl⟩:=h1
 exact zhf hp (zpy hp ha).1
theorem leftR_len{l:List DtInst}(hp:InstsP l)(out:List (List DtId)):(leftR l out).length≤18:=Nat.le_trans (List.length_filter_le _ _) (zhg hp).2.2
theorem delRowsP{ob:Nat→Option OB}{n:Nat}(xs:List (List DtId))(hok:ObOk ob)(hob:ob n=some (.win 1 (xs.map cP)))(k:Nat)(hk:k<xs.length)(hl:xs.length≤1048576):∃fs,INL Tryz.prog 48 fs ob [.arr n 0 xs.length,(.g (.int .i64 ((k:Nat)))),(.g (.int .i64 ((k:Nat)+1)))] (KQ (AV.arr n 0 (xs.length-1)) (upd ob n (some (.win 1 ((xs.take k++xs.drop (k+1)).map cP))))):=by
 have:=delRows (xs.map cP) hok hob k (by simpa using hk) (by simpa using hl)
 rw [List.length_map,←List.map_take,←List.map_drop,←List.map_append] at this
 exact this
theorem zxb{l:List DtInst}{out:List (List DtId)}(h:(leftR l out).length≤0):nextP l out=none:=by
 rw [zrj,List.eq_nil_of_length_eq_zero (Nat.le_zero.1 h)];rfl
def zG22:=And.intro @zc5 (And.intro @zhh (And.intro @zzb (And.intro @zs5 (And.intro @zdr @imm0_sl))))
theorem implParts(l:List DtInst)(hs:szS DtInst.sz l≤1048576)(hn:l.length≤1048576)(hm:∀x∈l,InstSm x)(hp:InstsP l):PCall Tryz.prog 15 [.sl 16 (l.map DtInst.cells)] (.sl 1 ((partsL l).map cP)):=by
 have hpb:=zcb hp
 refine zdt Tryz.func15 (by rfl) (by rfl) (by rw [Tryz.ntmps15];exact Nat.le_of_ble_eq_true rfl) ?_
 rw [Tryz.ntmps15]
 refine zfl ?_
 refine AW_k [(0,_)] ⟨rfl,trivial⟩ ?_
 refine AW_x rfl rfl λK hK=>?_
 simp (disch:=omega) [zG19,DtInst.cells,DtCmd.cells,DtId.cells,cP,-List.length_flatten,-List.map_flatten]
 repeat' first|(refine ⟨by omega,?_⟩)|(intro _)
 refine hK _ ?_;clear hK K
 refine zbj ?_
 refine AW_x rfl rfl λK hK=>?_
 simp (disch:=omega) [zG19,DtInst.cells,DtCmd.cells,DtId.cells,cP,-List.length_flatten,-List.map_flatten]
 repeat' first|(exfalso;omega)|(refine zcx (zbc zbw zbi) (zct _ (by assumption)) rfl ?_;simp (disch:=omega) [zG19,DtInst.cells,DtCmd.cells,DtId.cells,cP,-List.length_flatten,-List.map_flatten])|(refine zcy (zct _ (by assumption)) (by rfl) ?_ ?_;(focus (simp (disch:=omega) [zG19,DtInst.cells,DtCmd.cells,DtId.cells,cP,-List.length_flatten,-List.map_flatten];done));simp (disch:=omega) [zG19,DtInst.cells,DtCmd.cells,DtId.cells,cP,-List.length_flatten,-List.map_flatten])|(refine ⟨by omega,?_⟩)|(simp (disch:=omega) [zG19,DtInst.cells,DtCmd.cells,DtId.cells,cP,-List.length_flatten,-List.map_flatten])|(intro _)
 refine hK _ ?_;clear hK K
 refine zbm rfl (λhc1=>?_) (λhc1=>?_)
 ·try simp [zG21,zbe,zbd] at hc1
  all_goals
   refine AW_x rfl rfl λK hK=>?_
   simp (disch:=omega) [zG19,DtInst.cells,DtCmd.cells,DtId.cells,cP,-List.length_flatten,-List.map_flatten]
   repeat' first|(exfalso;omega)|(refine ⟨λ_=>?_,λ_=>?_⟩)|(refine ⟨by omega,?_⟩)|(simp (disch:=omega) [zG19,DtInst.cells,DtCmd.cells,DtId.cells,cP,-List.length_flatten,-List.map_flatten])|(intro _)
   all_goals (refine hK _ ?_;clear hK K)
   all_goals
    refine zbr (zh6 ?_)
    simp (disch:=omega) [zG19,DtInst.cells,DtCmd.cells,DtId.cells,cP,-List.length_flatten,-List.map_flatten,hpb]
    all_goals first|(exfalso;simp_all;done)|(rw [zlg ho (zxb (by first | omega|(rw [hc4];simp)))];done)|(rw [zlg ho ((zj8 l out).elim (·.2) (λ⟨k,hk,h1,h2⟩=>by omega))];done) | trace_state
 ·try simp [zG21,zbe,zbd] at hc1
  all_goals
   refine zbn ?_
   refine zbq ?_
   refine AW_x rfl rfl λK hK=>?_
   simp (disch:=omega) [zG19,DtInst.cells,DtCmd.cells,DtId.cells,cP,-List.length_flatten,-List.map_flatten]
   repeat' first|(exfalso;omega)|(refine ⟨λ_=>?_,λ_=>?_⟩)|(refine ⟨by omega,?_⟩)|(simp (disch:=omega) [zG19,DtInst.cells,DtCmd.cells,DtId.cells,cP,-List.length_flatten,-List.map_flatten])|(intro _)
   all_goals (refine hK _ ?_;clear hK K)
   all_goals
    refine zbj ?_
    refine AW_x rfl rfl λK hK=>?_
    simp (disch:=omega) [zG19,DtInst.cells,DtCmd.cells,DtId.cells,cP,-List.length_flatten,-List.map_flatten]
    repeat' first|(refine ⟨by omega,?_⟩)|(simp (disch:=omega) [zG19,DtInst.cells,DtCmd.cells,DtId.cells,cP,-List.length_flatten,-List.map_flatten])|(intro _)
    refine hK _ ?_;clear hK K
    refine zbl ?_
    refine zby (λmM sS=>∃(i:Nat),mM=l.length-i∧(i≤l.length)∧sS = { env:=lkE [(1,.ptr 32 0),(3,.arr 501 0 (leftT l i).length),(14,.sl 16 (l.map DtInst.cells)),(15,(.g (.int .i64 ((l.length:Nat))))),(16,(.g (.int .i64 ((i:Nat)))))],ob:=lk [(32,.cells [.sl 16 (l.map DtInst.cells)]),(501,.win 1 ((leftT l i).map cP))] }) ?_ ?_
    ·refine ⟨_,LeS.kw [(32,32),(501,224)] [(1,.ptr 32 0),(3,.arr 501 0 (leftT l (0)).length),(14,.sl 16 (l.map DtInst.cells)),(15,(.g (.int .i64 ((l.length:Nat))))),(16,(.g (.int .i64 (((0):Nat)))))] [(32,.cells [.sl 16 (l.map DtInst.cells)]),(501,.win 1 ((leftT l (0)).map cP))] (by simp [zG20,KpR,renV2,renV,zbk,DtId.cells,cP,zk4];try (first | rfl|(rw [hsx];done)|(rw [hsx];simp;done))) (by simp [zG20,KpOW,wnO,renO,plO,cvO,renV,pl1,DtId.cells,cP,zk4];try (first | rfl|(rw [hsx];done)|(rw [hsx];simp [zG22,cP];done))) (by rfl) (by simp) (by simp) (by rfl) (by simp [formsX,List.range_succ,zbp,zb0]),_,0,rfl,?_,rfl⟩
     ·simp
    ·rintro mM sS ⟨i,rfl,hi,rfl⟩
     have hli:=zj6 hp i
     have hln:=hli.2.2
     refine AW_x rfl rfl λK hK=>?_
     simp (disch:=omega) [zG19,DtInst.cells,DtCmd.cells,DtId.cells,cP,-List.length_flatten,-List.map_flatten]
     repeat' first|(refine ⟨by omega,?_⟩)|(intro _)
     refine hK _ ?_;clear hK K
     refine zbj ?_
     refine zbm rfl (λhc2=>?_) (λhc2=>?_)
     ·try simp [zG21,zbe,zbd] at hc2
      all_goals
       have hkn:=known_any hp i l[i].fId
       have hpl:=zhf hp (id:=l[i].fId) (zfb hp (List.getElem_mem _)).1
       refine zbn ?_
       refine zbq ?_
       refine zbj ?_
       refine zbl ?_
       refine AW_x rfl rfl λK hK=>?_
       simp (disch:=omega) [zG19,DtInst.cells,DtCmd.cells,DtId.cells,cP,-List.length_flatten,-List.map_flatten,hkn]
       repeat' first|(exfalso;omega)|(refine ⟨λ_=>?_,λ_=>?_⟩)|(refine ⟨by omega,?_⟩)|(simp (disch:=omega) [zG19,DtInst.cells,DtCmd.cells,DtId.cells,cP,-List.length_flatten,-List.map_flatten,hkn])|(intro _)
       all_goals (refine hK _ ?_;clear hK K)
       all_goals
        refine AW_x rfl rfl λK hK=>?_
        simp (disch:=omega) [zG19,DtInst.cells,DtCmd.cells,DtId.cells,cP,-List.length_flatten,-List.map_flatten,hkn]
        repeat' first|(exfalso;omega)|(refine zlp (zre (n:=501) (q:=λp=>decB (l[i].fId∈p)) (leftT l i) (by exact zza (zni rfl) rfl) (by simp [zbt,zbp,zb0]) (by omega) (λp hpm=>parts1 l[i] p (by exact zza (zni rfl) rfl) (by simp [zbt,zbp,zb0,DtInst.cells,DtCmd.cells,DtId.cells]) (by have:=leftT_pl hp i p hpm;omega))) ?_;rintro _ _ ⟨rfl,rfl⟩;simp (disch:=omega) [zG19,DtInst.cells,DtCmd.cells,DtId.cells,cP,-List.length_flatten,-List.map_flatten,hkn])|(refine ⟨by omega,?_⟩)|(simp (disch:=omega) [zG19,DtInst.cells,DtCmd.cells,DtId.cells,cP,-List.length_flatten,-List.map_flatten,hkn])|(intro _)
        refine hK _ ?_;clear hK K
        refine AW_x rfl rfl λK hK=>?_
        simp (disch:=omega) [zG19,DtInst.cells,DtCmd.cells,DtId.cells,cP,-List.length_flatten,-List.map_flatten,hkn]
        repeat' first|(exfalso;omega)|(refine zcx (zbc zbw (zbc (zbu rfl) zbi)) (zk6 l l[i].fId hs hn hm hp) rfl ?_;simp (disch:=omega) [zG19,DtInst.cells,DtCmd.cells,DtId.cells,cP,-List.length_flatten,-List.map_flatten,hkn])|(refine zcy (zk6 l l[i].fId hs hn hm hp) (by rfl) ?_ ?_;(focus (simp (disch:=omega) [zG19,DtInst.cells,DtCmd.cells,DtId.cells,cP,-List.length_flatten,-List.map_flatten,hkn];done));simp (disch:=omega) [zG19,DtInst.cells,DtCmd.cells,DtId.cells,cP,-List.length_flatten,-List.map_flatten,hkn])|(refine ⟨λ_=>?_,λ_=>?_⟩)|(refine ⟨by omega,?_⟩)|(simp (disch:=omega) [zG19,DtInst.cells,DtCmd.cells,DtId.cells,cP,-List.length_flatten,-List.map_flatten,hkn])|(intro _)
        all_goals (refine hK _ ?_;clear hK K)
        all_goals
         refine zbm rfl (λhc3=>?_) (λhc3=>?_)
         ·try simp [zG21,zbe,zbd] at hc3
          all_goals
           refine zcc rfl rfl λK hK=>?_
           simp (disch:=omega) [zG19,DtInst.cells,DtCmd.cells,DtId.cells,cP,-List.length_flatten,-List.map_flatten,hkn]
           repeat' first|(exfalso;omega)|(refine zcx (zbc zbw (zbc (zbu rfl) zbi)) (ztj l l[i].fId hs hn hm hp) rfl ?_;simp (disch:=omega) [zG19,DtInst.cells,DtCmd.cells,DtId.cells,cP,-List.length_flatten,-List.map_flatten,hkn])|(refine zcy (ztj l l[i].fId hs hn hm hp) (by rfl) ?_ ?_;(focus (simp (disch:=omega) [zG19,DtInst.cells,DtCmd.cells,DtId.cells,cP,-List.length_flatten,-List.map_flatten,hkn];done));simp (disch:=omega) [zG19,DtInst.cells,DtCmd.cells,DtId.cells,cP,-List.length_flatten,-List.map_flatten,hkn])|(refine ⟨λ_=>?_,λ_=>?_⟩)|(refine ⟨by omega,?_⟩)|(simp (disch:=omega) [zG19,DtInst.cells,DtCmd.cells,DtId.cells,cP,-List.length_flatten,-List.map_flatten,hkn])|(intro _)
           all_goals (refine hK _ ?_;clear hK K)
           all_goals
            refine zbq ?_
            refine zcc rfl rfl λK hK=>?_
            simp (disch:=omega) [zG19,DtInst.cells,DtCmd.cells,DtId.cells,cP,-List.length_flatten,-List.map_flatten,hkn]
            repeat' first|(refine ⟨by omega,?_⟩)|(intro _)
            refine hK _ ?_;clear hK K
            first | have hsx:=ztk (l:=l) (i:=i) (by omega) (by assumption) (by assumption) | have hsx:=zp2 (l:=l) (i:=i) (by omega) (by grind)
            refine ⟨_,LeS.kw [(32,32),(501,608)] [(1,.ptr 32 0),(3,.arr 501 0 (leftT l (i+1)).length),(14,.sl 16 (l.map DtInst.cells)),(15,(.g (.int .i64 ((l.length:Nat))))),(16,(.g (.int .i64 (((i+1):Nat)))))] [(32,.cells [.sl 16 (l.map DtInst.cells)]),(501,.win 1 ((leftT l (i+1)).map cP))] (by simp [zG20,KpR,renV2,renV,zbk,DtId.cells,cP,zk4];try (first | rfl|(rw [hsx];done)|(rw [hsx];simp;done))) (by simp [zG20,KpOW,wnO,renO,plO,cvO,renV,pl1,DtId.cells,cP,zk4];try (first | rfl|(rw [hsx];done)|(rw [hsx];simp [zG22,cP];done))) (by rfl) (by simp) (by simp) (by rfl) (by simp [formsX,List.range_succ,zbp,zb0]),_,?_,i+1,rfl,?_,rfl⟩
            ·omega
            ·omega
         ·try simp [zG21,zbe,zbd] at hc3
          all_goals
           refine zbn ?_
           refine zbq ?_
           refine zcc rfl rfl λK hK=>?_
           simp (disch:=omega) [zG19,DtInst.cells,DtCmd.cells,DtId.cells,cP,-List.length_flatten,-List.map_flatten,hkn]
           repeat' first|(exfalso;omega)|(refine ⟨λ_=>?_,λ_=>?_⟩)|(refine ⟨by omega,?_⟩)|(simp (disch:=omega) [zG19,DtInst.cells,DtCmd.cells,DtId.cells,cP,-List.length_flatten,-List.map_flatten,hkn])|(intro _)
           all_goals (refine hK _ ?_;clear hK K)
           all_goals
            first | have hsx:=ztk (l:=l) (i:=i) (by omega) (by assumption) (by assumption) | have hsx:=zp2 (l:=l) (i:=i) (by omega) (by grind)
            refine ⟨_,LeS.kw [(32,32),(501,501)] [(1,.ptr 32 0),(3,.arr 501 0 (leftT l (i+1)).length),(14,.sl 16 (l.map DtInst.cells)),(15,(.g (.int .i64 ((l.length:Nat))))),(16,(.g (.int .i64 (((i+1):Nat)))))] [(32,.cells [.sl 16 (l.map DtInst.cells)]),(501,.win 1 ((leftT l (i+1)).map cP))] (by simp [zG20,KpR,renV2,renV,zbk,DtId.cells,cP,zk4];try (first | rfl|(rw [hsx];done)|(rw [hsx];simp;done))) (by simp [zG20,KpOW,wnO,renO,plO,cvO,renV,pl1,DtId.cells,cP,zk4];try (first | rfl|(rw [hsx];done)|(rw [hsx];simp [zG22,cP];done))) (by rfl) (by simp) (by simp) (by rfl) (by simp [formsX,List.range_succ,zbp,zb0]),_,?_,i+1,rfl,?_,rfl⟩
            ·omega
            ·omega
     ·try simp [zG21,zbe,zbd] at hc2
      all_goals
       refine zb3 ?_
       refine zbq ?_
       refine AW_x rfl rfl λK hK=>?_
       simp (disch:=omega) [zG19,DtInst.cells,DtCmd.cells,DtId.cells,cP,-List.length_flatten,-List.map_flatten]
       repeat' first|(exfalso;omega)|(refine ⟨λ_=>?_,λ_=>?_⟩)|(refine ⟨by omega,?_⟩)|(simp (disch:=omega) [zG19,DtInst.cells,DtCmd.cells,DtId.cells,cP,-List.length_flatten,-List.map_flatten])|(intro _)
       all_goals (refine hK _ ?_;clear hK K)
       all_goals
        refine AW_x rfl rfl λK hK=>?_
        simp (disch:=omega) [zG19,DtInst.cells,DtCmd.cells,DtId.cells,cP,-List.length_flatten,-List.map_flatten]
        repeat' first|(refine ⟨by omega,?_⟩)|(simp (disch:=omega) [zG19,DtInst.cells,DtCmd.cells,DtId.cells,cP,-List.length_flatten,-List.map_flatten])|(intro _)
        refine hK _ ?_;clear hK K
        refine zbj ?_
        refine zbl ?_
        have hle:=leftT_e l i (by omega)
        simp only [hle]
        refine zby (λmM sS=>∃(out:List (List DtId)),mM=(leftR l out).length∧(PInv l out)∧sS = { env:=lkE [(1,.ptr 32 0),(3,.arr 501 0 (leftR l out).length),(7,.arr 502 0 out.length),(8,.ptr 144 0)],ob:=lk [(32,.cells [.sl 16 (l.map DtInst.cells)]),(144,.cells [.arr 503 0 out.flatten.length]),(501,.win 1 ((leftR l out).map cP)),(502,.win 1 (out.map cP)),(503,.win 2 (out.flatten.map DtId.cells))] }) ?_ ?_
        ·refine ⟨_,LeS.kw [(32,32),(144,144),(501,501),(502,640),(503,656)] [(1,.ptr 32 0),(3,.arr 501 0 (leftR l ([])).length),(7,.arr 502 0 ([]).length),(8,.ptr 144 0)] [(32,.cells [.sl 16 (l.map DtInst.cells)]),(144,.cells [.arr 503 0 ([]).flatten.length]),(501,.win 1 ((leftR l ([])).map cP)),(502,.win 1 (([]).map cP)),(503,.win 2 (([]).flatten.map DtId.cells))] (by simp [zG20,KpR,renV2,renV,zbk,DtId.cells,cP,zk5];try (first | rfl|(rw [hdel];simp;omega)|(rw [hdel];simp;done))) (by simp [zG20,KpOW,wnO,renO,plO,cvO,renV,pl1,DtId.cells,cP,zk5];try (first | rfl|(rw [hdel];simp [zG22,cP];done) | exact .inr (zq9 (by rw [←List.map_take,←List.map_drop,←List.map_append];exact zhh _) (by rw [hdel];simp)) | trace_state)) (by rfl) (by simp) (by simp) (by rfl) (by simp [formsX,List.range_succ,zbp,zb0]),_,[],rfl,?_,rfl⟩
         ·exact pinv_0 l
        ·rintro mM sS ⟨out,rfl,ho,rfl⟩
         have ⟨hl1,hl2,hl3⟩:=zl9 hp ho.1
         have hrl:=leftR_len hp out
         refine zbj ?_
         refine AW_x rfl rfl λK hK=>?_
         simp (disch:=omega) [zG19,DtInst.cells,DtCmd.cells,DtId.cells,cP,-List.length_flatten,-List.map_flatten]
         repeat' first|(refine ⟨by omega,?_⟩)|(simp (disch:=omega) [zG19,DtInst.cells,DtCmd.cells,DtId.cells,cP,-List.length_flatten,-List.map_flatten])|(intro _)
         refine hK _ ?_;clear hK K
         refine zbm rfl (λhc4=>?_) (λhc4=>?_)
         ·try simp [zG21,zbe,zbd] at hc4
          all_goals
           refine zbn ?_
           refine zbq ?_
           refine zbl ?_
           refine AW_x rfl rfl λK hK=>?_
           simp (disch:=omega) [zG19,DtInst.cells,DtCmd.cells,DtId.cells,cP,-List.length_flatten,-List.map_flatten]
           repeat' first|(exfalso;omega)|(refine zlp (zpw (n:=501) (q:=λp=>decB (FreeP l p out.flatten)) (leftR l out) (by exact zni rfl) (by simp [zbt,zbp,zb0]) (by omega) (λp hpm=>parts2 (m3:=503) l p out.flatten (by exact zni rfl) (by simp [zbt,zbp,zb0]) (by simp [zbt,zbp,zb0,-List.length_flatten]) (by simp [zbt,zbp,zb0,-List.map_flatten]) hn hm hp (zrm hp out p hpm).2 (by have:=(zrm hp out p hpm).1;omega) (by omega))) ?_;rintro _ _ ⟨rfl,rfl⟩;simp (disch:=omega) [zG19,DtInst.cells,DtCmd.cells,DtId.cells,cP,-List.length_flatten,-List.map_flatten])|(refine ⟨λ_=>?_,λ_=>?_⟩)|(refine ⟨by omega,?_⟩)|(simp (disch:=omega) [zG19,DtInst.cells,DtCmd.cells,DtId.cells,cP,-List.length_flatten,-List.map_flatten])|(intro _)
           all_goals (refine hK _ ?_;clear hK K)
           all_goals
            refine zbj ?_
            refine AW_x rfl rfl λK hK=>?_
            simp (disch:=omega) [zG19,DtInst.cells,DtCmd.cells,DtId.cells,cP,-List.length_flatten,-List.map_flatten]
            repeat' first|(refine ⟨by omega,?_⟩)|(intro _)
            refine hK _ ?_;clear hK K
            refine zbm rfl (λhc5=>?_) (λhc5=>?_)
            ·try simp [zG21,zbe,zbd] at hc5
             all_goals
              refine zb3 ?_
              refine zbq ?_
              refine AW_x rfl rfl λK hK=>?_
              simp (disch:=omega) [zG19,DtInst.cells,DtCmd.cells,DtId.cells,cP,-List.length_flatten,-List.map_flatten]
              repeat' first|(exfalso;omega)|(refine ⟨λ_=>?_,λ_=>?_⟩)|(refine ⟨by omega,?_⟩)|(simp (disch:=omega) [zG19,DtInst.cells,DtCmd.cells,DtId.cells,cP,-List.length_flatten,-List.map_flatten])|(intro _)
              all_goals (refine hK _ ?_;clear hK K)
              all_goals
               refine zbr (zh6 ?_)
               simp (disch:=omega) [zG19,DtInst.cells,DtCmd.cells,DtId.cells,cP,-List.length_flatten,-List.map_flatten,hpb]
               all_goals first|(exfalso;simp_all;done)|(rw [zlg ho (zxb (by first | omega|(rw [hc4];simp)))];done)|(rw [zlg ho ((zj8 l out).elim (·.2) (λ⟨k,hk,h1,h2⟩=>by omega))];done) | trace_state
            ·try simp [zG21,zbe,zbd] at hc5
             all_goals
              refine zbn ?_
              refine zbq ?_
              obtain ⟨k,hk,hix,hnx⟩:∃k,∃hk:k<(leftR l out).length,idxZ (λp=>decB (FreeP l p out.flatten)) (leftR l out)=k∧nextP l out=some (leftR l out)[k]:=(zj8 l out).resolve_left λh=>by omega
              simp only [hix]
              have hkl:=(zrm hp out _ (List.getElem_mem hk)).1
              refine AW_x rfl rfl λK hK=>?_
              simp (disch:=omega) [zG19,DtInst.cells,DtCmd.cells,DtId.cells,cP,-List.length_flatten,-List.map_flatten]
              repeat' first|(exfalso;omega)|(refine ⟨λ_=>?_,λ_=>?_⟩)|(refine ⟨by omega,?_⟩)|(simp (disch:=omega) [zG19,DtInst.cells,DtCmd.cells,DtId.cells,cP,-List.length_flatten,-List.map_flatten])|(intro _)
              all_goals (refine hK _ ?_;clear hK K)
              all_goals
               refine AW_d rfl mix (by kernel_rfl) (by kernel_rfl) λK hK=>?_
               simp (disch:=omega) [zG19,DtInst.cells,DtCmd.cells,DtId.cells,cP,-List.length_flatten,-List.map_flatten]
               repeat' first|(refine ⟨by omega,?_⟩)|(simp (disch:=omega) [zG19,DtInst.cells,DtCmd.cells,DtId.cells,cP,-List.length_flatten,-List.map_flatten])|(intro _)
               refine hK _ _ (by kernel_rfl) ?_;clear hK K
               refine zg2 (LeS.kw [(32,32),(144,144),(501,501),(502,896),(503,992)] [(1,.ptr 32 0),(3,.arr 501 0 (leftR l out).length),(7,.arr 502 0 (out.length+1)),(8,.ptr 144 0),(9,(.g (.int .i64 ((k:Nat)))))] [(32,.cells [.sl 16 (l.map DtInst.cells)]),(144,.cells [.arr 503 0 (out.flatten.length+(leftR l out)[k].length)]),(501,.win 1 ((leftR l out).map cP)),(502,.win 1 ((out++[(leftR l out)[k]]).map cP)),(503,.win 2 ((out++[(leftR l out)[k]]).flatten.map DtId.cells))] (by simp [KpR,renV2,renV,zbt,zbk,zbp,zb0]) (by simp [zG20,KpOW,wnO,renO,plO,cvO,renV,pl1,DtId.cells,cP]) (by rfl) (by simp) (by simp) (by rfl) (by simp [formsX,List.range_succ,zbp,zb0])) ?_
               refine zcc rfl rfl λK hK=>?_
               simp (disch:=omega) [zG19,DtInst.cells,DtCmd.cells,DtId.cells,cP,-List.length_flatten,-List.map_flatten]
               repeat' first|(exfalso;omega)|(refine zlp (delRowsP (n:=501) (leftR l out) (by exact zni rfl) (by simp [zbt,zbp,zb0]) k hk (by omega)) ?_;rintro _ _ ⟨rfl,rfl⟩;simp (disch:=omega) [zG19,DtInst.cells,DtCmd.cells,DtId.cells,cP,-List.length_flatten,-List.map_flatten])|(refine ⟨by omega,?_⟩)|(simp (disch:=omega) [zG19,DtInst.cells,DtCmd.cells,DtId.cells,cP,-List.length_flatten,-List.map_flatten])|(intro _)
               refine hK _ ?_;clear hK K
               have hpi:=pinv_s hp ho hnx
               have hdel:=znr hp hk
               refine ⟨_,LeS.kw [(32,32),(144,144),(501,501),(502,502),(503,503)] [(1,.ptr 32 0),(3,.arr 501 0 (leftR l (out++[(leftR l out)[k]])).length),(7,.arr 502 0 (out++[(leftR l out)[k]]).length),(8,.ptr 144 0)] [(32,.cells [.sl 16 (l.map DtInst.cells)]),(144,.cells [.arr 503 0 (out++[(leftR l out)[k]]).flatten.length]),(501,.win 1 ((leftR l (out++[(leftR l out)[k]])).map cP)),(502,.win 1 ((out++[(leftR l out)[k]]).map cP)),(503,.win 2 ((out++[(leftR l out)[k]]).flatten.map DtId.cells))] (by simp [zG20,KpR,renV2,renV,zbk,DtId.cells,cP,zk5];try (first | rfl|(rw [hdel];simp;omega)|(rw [hdel];simp;done))) (by simp [zG20,KpOW,wnO,renO,plO,cvO,renV,pl1,DtId.cells,cP,zk5];try (first | rfl|(rw [hdel];simp [zG22,cP];done) | exact .inr (zq9 (by rw [←List.map_take,←List.map_drop,←List.map_append];exact zhh _) (by rw [hdel];simp)) | trace_state)) (by rfl) (by simp) (by simp) (by rfl) (by simp [formsX,List.range_succ,zbp,zb0]),_,?_,out++[(leftR l out)[k]],rfl,?_,rfl⟩
               ·omega
               ·exact hpi.1
         ·try simp [zG21,zbe,zbd] at hc4
          all_goals
           refine zb3 ?_
           refine zbq ?_
           refine AW_x rfl rfl λK hK=>?_
           simp (disch:=omega) [zG19,DtInst.cells,DtCmd.cells,DtId.cells,cP,-List.length_flatten,-List.map_flatten]
           repeat' first|(exfalso;omega)|(refine ⟨λ_=>?_,λ_=>?_⟩)|(refine ⟨by omega,?_⟩)|(simp (disch:=omega) [zG19,DtInst.cells,DtCmd.cells,DtId.cells,cP,-List.length_flatten,-List.map_flatten])|(intro _)
           all_goals (refine hK _ ?_;clear hK K)
           all_goals
            refine zbr (zh6 ?_)
            simp (disch:=omega) [zG19,DtInst.cells,DtCmd.cells,DtId.cells,cP,-List.length_flatten,-List.map_flatten,hpb]
            all_goals first|(exfalso;simp_all;done)|(rw [zlg ho (zxb (by first | omega|(rw [hc4];simp)))];done)|(rw [zlg ho ((zj8 l out).elim (·.2) (λ⟨k,hk,h1,h2⟩=>by omega))];done) | trace_state
end Go.Proofs.YtodmafgmdlkhoaaGreat.Vs
end
