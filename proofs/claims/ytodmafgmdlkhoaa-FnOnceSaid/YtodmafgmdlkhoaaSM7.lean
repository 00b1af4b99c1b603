import Derived.Test.YtodmafgmdlkhoaaSM6
import Derived.Test.YtodmafgmdlkhoaaVs9
import Derived.Test.YtodmafgmdlkhoaaSM1
section
namespace Go.Proofs.Ytodmafgmdlkhoaa.Vs
set_option linter.all false
set_option maxRecDepth 100000
set_option maxHeartbeats 2000000
theorem AW_wn{P:Program}{nt:Nat}{fs:List Nat}{Q:AExit→St→Prop}{st:St}{c:Go.Code}(n:Nat){sz:Nat}{xs:List (List AV)}(hs:scR xs=true)(hob:st.ob n=some (.own sz xs))(h:AW P nt fs c Q { st with ob:=upd st.ob n (some (.win sz xs)) }):AW P nt fs c Q st:=by
 refine zdp (LeS.cv λk=>?_) h
 by_cases e:k=n
 ·subst e
  exact .inr ⟨_,.win sz xs,hob,by simp [upd],⟨rfl,rfl,hs⟩⟩
 ·exact .inl (by have : (k == n) = false := by simpa using e
                 simp [upd,this])
theorem saidI_bd(s:DtState)(m:DtCmd):saidI s m<(s.fSaid.length:Int):=by
 by_cases h:0≤saidI s m
 ·have:=zc2 h;omega
 ·omega
theorem idxSaid(s:DtState)(m:DtCmd)(hl:s.fSaid.length≤1048576):GCall Try.prog 30 [.sl 3 (s.fSaid.map DtSaid.cells),.fn 31 [] [.ptr 0 0]] [DtCmd.cells m] [] (.g (.int .i64 (saidI s m))) []:=zqq rfl _ hl (λx=>stateDo1 x m)
theorem zvw(l:List DtSaid)(x:DtSaid)(z:Int)(h0:0≤z)(hk:z≤(l.length:Int))(hl:l.length≤1048576):XCall Try.prog 33 [.arr 8 0 l.length,(.g (.int .i64 (z))),.arr 9 0 1] [.own 3 (l.map DtSaid.cells),.own 3 [DtSaid.cells x]] (.arr 16 0 (l.length+1)) [.dead,.dead] [.own 3 ((l.take z.toNat++x :: l.drop z.toNat).map DtSaid.cells)]:=by
 obtain ⟨k,rfl⟩:=Int.eq_ofNat_of_zero_le h0
 have h:=zzo (l.map DtSaid.cells) (zcy l) (DtSaid.cells x) (by simp [DtSaid.cells]) k (by simp;omega) (by simpa using hl)
 simpa using h
theorem sd_f{s:DtState}{m:DtCmd}(h:¬StateP s):(stC s m).fCat.fSets=[]∧(stC s m).fSaid=[]∧stR s m=[]∧(stC s m).fCat.fSets=[]∧(stC s m).fSaid=[]:=by
 have ⟨h1,h2⟩:=st_f h (m:=m);rw [h1,h2];exact ⟨rfl,rfl,rfl,rfl,rfl⟩
abbrev StSame (s:DtState) (m:DtCmd) (t:List UInt8):Prop:=(stC s m).fCat.fSets.length=s.fCat.fSets.length∧(stC s m).fSaid.length=s.fSaid.length∧stR s m=t∧List.map DtCSet.cells (stC s m).fCat.fSets=List.map DtCSet.cells s.fCat.fSets∧List.map DtSaid.cells (stC s m).fSaid=List.map DtSaid.cells s.fSaid
theorem zch{s:DtState}{m:DtCmd}{t:List UInt8}(h:stC s m=s∧stR s m=t):StSame s m t:=by
 unfold StSame;rw [h.1,h.2];exact ⟨rfl,rfl,rfl,rfl,rfl⟩
attribute [local simp] DtState.cells DtCatalog.cells DtSaid.cells DtCmd.cells zbe and_assoc zcy List.range_succ newS
def zG13:=And.intro @List.range_succ (And.intro @zbq (And.intro @zbz @zbx))
theorem zdl(s:DtState)(m:DtCmd)(hs:DtState.sz s≤1048576)(hm:DtCmd.sz m≤1048576):XCall Try.prog 7 [.agg (DtState.cells s),.agg (DtCmd.cells m)] [] (.tup [.agg [.arr 16 0 (stC s m).fCat.fSets.length,.arr 17 0 (stC s m).fSaid.length],.s (stR s m)]) [] [.own 2 ((stC s m).fCat.fSets.map DtCSet.cells),.own 3 ((stC s m).fSaid.map DtSaid.cells)]:=by
 have ⟨hz,hl⟩:=zh3 s hs
 refine zbt Try.func7 (by rfl) (by rfl) (by rw [Try.ntmps7];exact Nat.le_of_ble_eq_true rfl) rfl (by simp) rfl rfl ?_
 rw [Try.ntmps7]
 refine zhm   ?_
 refine AW_k [(0,_),(1,_)] ⟨rfl,rfl,trivial⟩ ?_
 refine AW_x rfl rfl λK hK=>?_
 simp (disch:=omega)
 repeat' first|(refine ⟨by omega,?_⟩)|(intro _)
 refine hK _ ?_;clear hK K
 refine AW_x rfl rfl λK hK=>?_
 simp (disch:=omega)
 repeat' first|(exfalso;omega)|(refine zc9 [] true [] (zzx s hs) ?_ ?_ ?_;(focus (simp [List.range_succ,nmC];done));(focus (simp (disch:=omega) [zbe];done));simp (disch:=omega))|(refine ⟨by omega,?_⟩)|(simp (disch:=omega))|(intro _)
 refine hK _ ?_;clear hK K
 refine zbj ?_
 refine AW_x rfl rfl λK hK=>?_
 simp (disch:=omega)
 repeat' first|(exfalso;omega)|(refine zd5 (zbg (zbw rfl) zbm) (zms s (by omega)) rfl ?_;simp (disch:=omega))|(refine zd6 (zms s (by omega)) (by rfl) ?_ ?_;(focus (simp (disch:=omega) [zbe];done));simp (disch:=omega))|(refine ⟨by omega,?_⟩)|(simp (disch:=omega))|(intro _)
 refine hK _ ?_;clear hK K
 refine zbi rfl (λhc1=>?_) (λhc1=>?_)
 ·try simp [zba,zbf,zbd,zbc] at hc1
  all_goals
   refine AW_x rfl rfl λK hK=>?_
   simp (disch:=omega)
   repeat' first|(exfalso;omega)|(refine ⟨λ_=>?_,λ_=>?_⟩)|(refine ⟨by omega,?_⟩)|(simp (disch:=omega))|(intro _)
   all_goals (refine hK _ ?_;clear hK K)
   all_goals
    refine zbp (zb5 [1000,1001] [(1000,2),(1001,3)] (by simp [zG13]) (by simp) ?_)
    simp (disch:=omega)
    all_goals first | exact sd_f hc1 | exact zch (st_m hc1 (by simp_all [zba,zbf])) | exact zch (zvv hc1 ((zba _).mp (by assumption)) hc2 (by assumption) (by assumption) (by assumption)) | exact zch (zm4 hc1 ((zba _).mp (by assumption)) hc2 (by assumption) (by assumption) (by assumption))|(have ⟨h1,h2⟩:=zm5 hc1 ((zba _).mp (by assumption)) hc2 (by assumption) (by assumption) (by omega);rw [h1,h2];exact ⟨rfl,by simp,rfl,rfl,by simp [newS,DtSaid.cells]⟩)|(have ⟨h1,h2⟩:=zm6 hc1 ((zba _).mp (by assumption)) hc2 (by assumption) (by assumption);rw [h1,h2];exact ⟨rfl,by simp;omega,rfl,rfl,by simp [newS,DtSaid.cells]⟩)|(have ⟨h1,h2⟩:=zm7 hc1 ((zba _).mp (by assumption)) hc2 (by omega);rw [h1,h2];exact ⟨rfl,by simp,rfl,rfl,by simp [newS,DtSaid.cells]⟩) | trace_state
 ·try simp [zba,zbf,zbd,zbc] at hc1
  all_goals
   refine zbk ?_
   refine zbo ?_
   refine zbj ?_
   refine AW_x rfl rfl λK hK=>?_
   simp (disch:=omega)
   repeat' first|(exfalso;omega)|(refine zd5 (zbg (zbw rfl) zbm) (zjo m (by omega)) rfl ?_;simp (disch:=omega))|(refine zd6 (zjo m (by omega)) (by rfl) ?_ ?_;(focus (simp (disch:=omega) [zbe];done));simp (disch:=omega))|(refine ⟨λ_=>?_,λ_=>?_⟩)|(refine ⟨by omega,?_⟩)|(simp (disch:=omega))|(intro _)
   all_goals (refine hK _ ?_;clear hK K)
   all_goals
    refine zbi rfl (λhc2=>?_) (λhc2=>?_)
    ·try simp [zba,zbf,zbd,zbc] at hc2
     all_goals
      refine AW_x rfl rfl λK hK=>?_
      simp (disch:=omega)
      repeat' first|(exfalso;omega)|(refine ⟨λ_=>?_,λ_=>?_⟩)|(refine ⟨by omega,?_⟩)|(simp (disch:=omega))|(intro _)
      all_goals (refine hK _ ?_;clear hK K)
      all_goals
       refine zbp (zb5 [224,225] [] (by simp [zG13]) (by simp) ?_)
       simp (disch:=omega)
       all_goals first | exact sd_f hc1 | exact zch (st_m hc1 (by simp_all [zba,zbf])) | exact zch (zvv hc1 ((zba _).mp (by assumption)) hc2 (by assumption) (by assumption) (by assumption)) | exact zch (zm4 hc1 ((zba _).mp (by assumption)) hc2 (by assumption) (by assumption) (by assumption))|(have ⟨h1,h2⟩:=zm5 hc1 ((zba _).mp (by assumption)) hc2 (by assumption) (by assumption) (by omega);rw [h1,h2];exact ⟨rfl,by simp,rfl,rfl,by simp [newS,DtSaid.cells]⟩)|(have ⟨h1,h2⟩:=zm6 hc1 ((zba _).mp (by assumption)) hc2 (by assumption) (by assumption);rw [h1,h2];exact ⟨rfl,by simp;omega,rfl,rfl,by simp [newS,DtSaid.cells]⟩)|(have ⟨h1,h2⟩:=zm7 hc1 ((zba _).mp (by assumption)) hc2 (by omega);rw [h1,h2];exact ⟨rfl,by simp,rfl,rfl,by simp [newS,DtSaid.cells]⟩) | trace_state
    ·try simp [zba,zbf,zbd,zbc] at hc2
     all_goals
      refine zbk ?_
      refine zbo ?_
      refine AW_x rfl rfl λK hK=>?_
      simp (disch:=omega)
      repeat' first|(exfalso;omega)|(refine XKd_r1 64 (.inl rfl) (zb4 (DtCmd.cells m) rfl) (zbg zf8 (zbg zt0 zbm)) (idxSaid s m hl) rfl ?_;simp (disch:=omega))|(refine ⟨λ_=>?_,λ_=>?_⟩)|(refine ⟨by omega,?_⟩)|(simp (disch:=omega))|(intro _)
      all_goals (refine hK _ ?_;clear hK K)
      all_goals
       have hbd:=saidI_bd s m
       refine AW_d rfl mix (by kernel_rfl) (by kernel_rfl) λK hK=>?_
       simp (disch:=omega)
       repeat' first|(exfalso;omega)|(refine ⟨λ_=>?_,λ_=>?_⟩)|(refine ⟨by omega,?_⟩)|(simp (disch:=omega))|(intro _)
       all_goals (refine hK _ _ (by kernel_rfl) ?_;clear hK K)
       all_goals
        refine zbj ?_
        refine AW_d rfl mix (by kernel_rfl) (by kernel_rfl) λK hK=>?_
        simp (disch:=omega)
        repeat' first|(exfalso;omega)|(refine ⟨λ_=>?_,λ_=>?_⟩)|(refine ⟨by omega,?_⟩)|(simp (disch:=omega))|(intro _)
        all_goals (refine hK _ _ (by kernel_rfl) ?_;clear hK K)
        all_goals
         refine zbi rfl (λhc3=>?_) (λhc3=>?_)
         ·try simp [zba,zbf,zbd,zbc] at hc3
          all_goals
           refine AW_d rfl mix (by kernel_rfl) (by kernel_rfl) λK hK=>?_
           simp (disch:=omega)
           repeat' first|(exfalso;omega)|(refine ⟨λ_=>?_,λ_=>?_⟩)|(refine ⟨by omega,?_⟩)|(simp (disch:=omega))|(intro _)
           all_goals (refine hK _ _ (by kernel_rfl) ?_;clear hK K)
           all_goals
            refine zbp (zb5 [224,225] [] (by simp [zG13]) (by simp) ?_)
            simp (disch:=omega)
            all_goals first | exact sd_f hc1 | exact zch (st_m hc1 (by simp_all [zba,zbf])) | exact zch (zvv hc1 ((zba _).mp (by assumption)) hc2 (by assumption) (by assumption) (by assumption)) | exact zch (zm4 hc1 ((zba _).mp (by assumption)) hc2 (by assumption) (by assumption) (by assumption))|(have ⟨h1,h2⟩:=zm5 hc1 ((zba _).mp (by assumption)) hc2 (by assumption) (by assumption) (by omega);rw [h1,h2];exact ⟨rfl,by simp,rfl,rfl,by simp [newS,DtSaid.cells]⟩)|(have ⟨h1,h2⟩:=zm6 hc1 ((zba _).mp (by assumption)) hc2 (by assumption) (by assumption);rw [h1,h2];exact ⟨rfl,by simp;omega,rfl,rfl,by simp [newS,DtSaid.cells]⟩)|(have ⟨h1,h2⟩:=zm7 hc1 ((zba _).mp (by assumption)) hc2 (by omega);rw [h1,h2];exact ⟨rfl,by simp,rfl,rfl,by simp [newS,DtSaid.cells]⟩) | trace_state
         ·try simp [zba,zbf,zbd,zbc] at hc3
          all_goals
           refine zbk ?_
           refine zbo ?_
           refine zbj ?_
           refine AW_d rfl mix (by kernel_rfl) (by kernel_rfl) λK hK=>?_
           simp (disch:=omega)
           repeat' first|(exfalso;omega)|(refine ⟨λ_=>?_,λ_=>?_⟩)|(refine ⟨by omega,?_⟩)|(simp (disch:=omega))|(intro _)
           all_goals (refine hK _ _ (by kernel_rfl) ?_;clear hK K)
           all_goals
            refine zbi rfl (λhc4=>?_) (λhc4=>?_)
            ·try simp [zba,zbf,zbd,zbc] at hc4
             all_goals
              refine AW_x rfl rfl λK hK=>?_
              simp (disch:=omega)
              repeat' first|(exfalso;omega)|(refine ⟨λ_=>?_,λ_=>?_⟩)|(refine ⟨by omega,?_⟩)|(simp (disch:=omega))|(intro _)
              all_goals (refine hK _ ?_;clear hK K)
              all_goals
               refine zbp (zb5 [224,225] [] (by simp [zG13]) (by simp) ?_)
               simp (disch:=omega)
               all_goals first | exact sd_f hc1 | exact zch (st_m hc1 (by simp_all [zba,zbf])) | exact zch (zvv hc1 ((zba _).mp (by assumption)) hc2 (by assumption) (by assumption) (by assumption)) | exact zch (zm4 hc1 ((zba _).mp (by assumption)) hc2 (by assumption) (by assumption) (by assumption))|(have ⟨h1,h2⟩:=zm5 hc1 ((zba _).mp (by assumption)) hc2 (by assumption) (by assumption) (by omega);rw [h1,h2];exact ⟨rfl,by simp,rfl,rfl,by simp [newS,DtSaid.cells]⟩)|(have ⟨h1,h2⟩:=zm6 hc1 ((zba _).mp (by assumption)) hc2 (by assumption) (by assumption);rw [h1,h2];exact ⟨rfl,by simp;omega,rfl,rfl,by simp [newS,DtSaid.cells]⟩)|(have ⟨h1,h2⟩:=zm7 hc1 ((zba _).mp (by assumption)) hc2 (by omega);rw [h1,h2];exact ⟨rfl,by simp,rfl,rfl,by simp [newS,DtSaid.cells]⟩) | trace_state
            ·try simp [zba,zbf,zbd,zbc] at hc4
             all_goals
              refine zbk ?_
              refine zbo ?_
              refine AW_x rfl rfl λK hK=>?_
              simp (disch:=omega)
              repeat' first|(exfalso;omega)|(refine zc9 [] true [] (implCatC s.fCat m hz hm) ?_ ?_ ?_;(focus (simp [List.range_succ,nmC];done));(focus (simp (disch:=omega) [zbe];done));simp (disch:=omega))|(refine ⟨λ_=>?_,λ_=>?_⟩)|(refine ⟨by omega,?_⟩)|(simp (disch:=omega))|(intro _)
              all_goals (refine hK _ ?_;clear hK K)
              all_goals
               refine AW_x rfl rfl λK hK=>?_
               simp (disch:=omega)
               repeat' first|(refine ⟨by omega,?_⟩)|(simp (disch:=omega))|(intro _)
               refine hK _ ?_;clear hK K
               refine AW_x rfl rfl λK hK=>?_
               simp (disch:=omega)
               repeat' first|(refine ⟨by omega,?_⟩)|(simp (disch:=omega))|(intro _)
               refine hK _ ?_;clear hK K
               refine zbj ?_
               refine zbn ?_
               refine AW_x rfl rfl λK hK=>?_
               simp (disch:=omega)
               repeat' first|(refine ⟨by omega,?_⟩)|(intro _)
               refine hK _ ?_;clear hK K
               refine zbi rfl (λhc5=>?_) (λhc5=>?_)
               ·try simp [zba,zbf,zbd,zbc] at hc5
                all_goals
                 refine zb6 rfl rfl λK hK=>?_
                 simp (disch:=omega)
                 repeat' first|(exfalso;omega)|(refine ⟨λ_=>?_,λ_=>?_⟩)|(refine ⟨by omega,?_⟩)|(simp (disch:=omega))|(intro _)
                 all_goals (refine hK _ ?_;clear hK K)
                 all_goals
                  refine zbo ?_
                  refine AW_x rfl rfl λK hK=>?_
                  simp (disch:=omega)
                  repeat' first|(refine ⟨by omega,?_⟩)|(simp (disch:=omega))|(intro _)
                  refine hK _ ?_;clear hK K
                  refine zbp (zb5 [1296,225] [] (by simp [zG13]) (by simp) ?_)
                  simp (disch:=omega)
                  all_goals first | exact sd_f hc1 | exact zch (st_m hc1 (by simp_all [zba,zbf])) | exact zch (zvv hc1 ((zba _).mp (by assumption)) hc2 (by assumption) (by assumption) (by assumption)) | exact zch (zm4 hc1 ((zba _).mp (by assumption)) hc2 (by assumption) (by assumption) (by assumption))|(have ⟨h1,h2⟩:=zm5 hc1 ((zba _).mp (by assumption)) hc2 (by assumption) (by assumption) (by omega);rw [h1,h2];exact ⟨rfl,by simp,rfl,rfl,by simp [newS,DtSaid.cells]⟩)|(have ⟨h1,h2⟩:=zm6 hc1 ((zba _).mp (by assumption)) hc2 (by assumption) (by assumption);rw [h1,h2];exact ⟨rfl,by simp;omega,rfl,rfl,by simp [newS,DtSaid.cells]⟩)|(have ⟨h1,h2⟩:=zm7 hc1 ((zba _).mp (by assumption)) hc2 (by omega);rw [h1,h2];exact ⟨rfl,by simp,rfl,rfl,by simp [newS,DtSaid.cells]⟩) | trace_state
               ·try simp [zba,zbf,zbd,zbc] at hc5
                all_goals
                 refine AW_x rfl rfl λK hK=>?_
                 simp (disch:=omega)
                 repeat' first|(exfalso;omega)|(refine ⟨λ_=>?_,λ_=>?_⟩)|(refine ⟨by omega,?_⟩)|(simp (disch:=omega))|(intro _)
                 all_goals (refine hK _ ?_;clear hK K)
                 all_goals
                  refine zbi rfl (λhc6=>?_) (λhc6=>?_)
                  ·try simp [zba,zbf,zbd,zbc] at hc6
                   all_goals
                    refine zb6 rfl rfl λK hK=>?_
                    simp (disch:=omega)
                    repeat' first|(exfalso;omega)|(refine zc9 [225,1792] true [] (zvw s.fSaid (newS m (catR s.fCat m)) (saidI s m) (by omega) (by omega) hl) ?_ ?_ ?_;(focus (simp [List.range_succ,nmC];done));(focus (simp (disch:=omega) [zbe];done));simp (disch:=omega))|(refine ⟨λ_=>?_,λ_=>?_⟩)|(refine ⟨by omega,?_⟩)|(simp (disch:=omega))|(intro _)
                    all_goals (refine hK _ ?_;clear hK K)
                    all_goals
                     refine zbo ?_
                     refine AW_x rfl rfl λK hK=>?_
                     simp (disch:=omega)
                     repeat' first|(refine ⟨by omega,?_⟩)|(simp (disch:=omega))|(intro _)
                     refine hK _ ?_;clear hK K
                     refine zbp (zb5 [1296,1808] [] (by simp [zG13]) (by simp) ?_)
                     simp (disch:=omega)
                     all_goals first | exact sd_f hc1 | exact zch (st_m hc1 (by simp_all [zba,zbf])) | exact zch (zvv hc1 ((zba _).mp (by assumption)) hc2 (by assumption) (by assumption) (by assumption)) | exact zch (zm4 hc1 ((zba _).mp (by assumption)) hc2 (by assumption) (by assumption) (by assumption))|(have ⟨h1,h2⟩:=zm5 hc1 ((zba _).mp (by assumption)) hc2 (by assumption) (by assumption) (by omega);rw [h1,h2];exact ⟨rfl,by simp,rfl,rfl,by simp [newS,DtSaid.cells]⟩)|(have ⟨h1,h2⟩:=zm6 hc1 ((zba _).mp (by assumption)) hc2 (by assumption) (by assumption);rw [h1,h2];exact ⟨rfl,by simp;omega,rfl,rfl,by simp [newS,DtSaid.cells]⟩)|(have ⟨h1,h2⟩:=zm7 hc1 ((zba _).mp (by assumption)) hc2 (by omega);rw [h1,h2];exact ⟨rfl,by simp,rfl,rfl,by simp [newS,DtSaid.cells]⟩) | trace_state
                  ·try simp [zba,zbf,zbd,zbc] at hc6
                   all_goals
                    refine AW_wn (sz:=3) 225 (zcy s.fSaid) (by simp [zbx,zbq,zbz]) ?_
                    refine zb6 rfl rfl λK hK=>?_
                    simp (disch:=omega)
                    repeat' first|(exfalso;omega)|(refine ⟨λ_=>?_,λ_=>?_⟩)|(refine ⟨by omega,?_⟩)|(simp (disch:=omega))|(intro _)
                    all_goals (refine hK _ ?_;clear hK K)
                    all_goals
                     refine zbo ?_
                     refine AW_x rfl rfl λK hK=>?_
                     simp (disch:=omega)
                     repeat' first|(refine ⟨by omega,?_⟩)|(simp (disch:=omega))|(intro _)
                     refine hK _ ?_;clear hK K
                     refine zbp (zb5 [1296,1536] [] (by simp [zG13]) (by simp) ?_)
                     simp (disch:=omega)
                     all_goals first | exact sd_f hc1 | exact zch (st_m hc1 (by simp_all [zba,zbf])) | exact zch (zvv hc1 ((zba _).mp (by assumption)) hc2 (by assumption) (by assumption) (by assumption)) | exact zch (zm4 hc1 ((zba _).mp (by assumption)) hc2 (by assumption) (by assumption) (by assumption))|(have ⟨h1,h2⟩:=zm5 hc1 ((zba _).mp (by assumption)) hc2 (by assumption) (by assumption) (by omega);rw [h1,h2];exact ⟨rfl,by simp,rfl,rfl,by simp [newS,DtSaid.cells]⟩)|(have ⟨h1,h2⟩:=zm6 hc1 ((zba _).mp (by assumption)) hc2 (by assumption) (by assumption);rw [h1,h2];exact ⟨rfl,by simp;omega,rfl,rfl,by simp [newS,DtSaid.cells]⟩)|(have ⟨h1,h2⟩:=zm7 hc1 ((zba _).mp (by assumption)) hc2 (by omega);rw [h1,h2];exact ⟨rfl,by simp,rfl,rfl,by simp [newS,DtSaid.cells]⟩) | trace_state
end Go.Proofs.Ytodmafgmdlkhoaa.Vs
end
section
namespace Go.Proofs.Ytodmafgmdlkhoaa.Vs
set_option linter.all false
set_option maxRecDepth 100000
set_option maxHeartbeats 2000000
attribute [local simp] DtState.cells DtCatalog.cells DtSaid.cells DtCmd.cells zbe and_assoc zcy List.range_succ newS
theorem zh6(s:DtState)(m:DtCmd)(hs:DtState.sz s≤1048576)(hm:DtCmd.sz m≤1048576):XCall Try.prog 8 [.agg (DtState.cells s),.agg (DtCmd.cells m)] [] (.tup [.agg [.arr 16 0 (stC s m).fCat.fSets.length,.arr 17 0 (stC s m).fSaid.length],.s (stR s m)]) [] [.own 2 ((stC s m).fCat.fSets.map DtCSet.cells),.own 3 ((stC s m).fSaid.map DtSaid.cells)]:=by
 have ⟨hz,hl⟩:=zh3 s hs
 refine zbt Try.func8 (by rfl) (by rfl) (by rw [Try.ntmps8];exact Nat.le_of_ble_eq_true rfl) rfl (by simp) rfl rfl ?_
 rw [Try.ntmps8]
 refine zhm   ?_
 refine AW_k [(0,_),(1,_)] ⟨rfl,rfl,trivial⟩ ?_
 refine AW_x rfl rfl λK hK=>?_
 simp (disch:=omega)
 repeat' first|(refine ⟨by omega,?_⟩)|(intro _)
 refine hK _ ?_;clear hK K
 refine zbj ?_
 refine AW_x rfl rfl λK hK=>?_
 simp (disch:=omega)
 repeat' first|(exfalso;omega)|(refine zd5 (zbg (zbw rfl) zbm) (zcu s (by omega)) rfl ?_;simp (disch:=omega))|(refine zd6 (zcu s (by omega)) (by rfl) ?_ ?_;(focus (simp (disch:=omega) [zbe];done));simp (disch:=omega))|(refine ⟨by omega,?_⟩)|(simp (disch:=omega))|(intro _)
 refine hK _ ?_;clear hK K
 refine zbi rfl (λhc1=>?_) (λhc1=>?_)
 ·try simp [zba,zbf,zbd,zbc] at hc1
  all_goals
   refine AW_x rfl rfl λK hK=>?_
   simp (disch:=omega)
   repeat' first|(exfalso;omega)|(refine ⟨λ_=>?_,λ_=>?_⟩)|(refine ⟨by omega,?_⟩)|(simp (disch:=omega))|(intro _)
   all_goals (refine hK _ ?_;clear hK K)
   all_goals
    refine zbp (zb5 [1000,1001] [(1000,2),(1001,3)] (by simp [zG13]) (by simp) ?_)
    simp (disch:=omega)
    all_goals first | exact sd_f hc1 | exact zch (st_m hc1 (by simp_all [zba,zbf])) | exact zch (zph hc1 (by simp_all [zba,zbf]) (by simp_all [zba,zbf]) (by assumption) (by assumption) (by assumption)) | exact zch (zkg hc1 (by simp_all [zba,zbf]) (by simp_all [zba,zbf]) (by assumption) (by assumption) (by assumption))|(simp only [newS] at hpg;rw [hgo.1,hgo.2,hpg];exact ⟨rfl,rfl,rfl,rfl,rfl⟩) | trace_state
 ·try simp [zba,zbf,zbd,zbc] at hc1
  all_goals
   refine zbk ?_
   refine zbo ?_
   refine AW_x rfl rfl λK hK=>?_
   simp (disch:=omega)
   repeat' first|(exfalso;omega)|(refine zc9 [] true [] (l16CopyX s hs) ?_ ?_ ?_;(focus (simp [List.range_succ,nmC];done));(focus (simp (disch:=omega) [zbe];done));simp (disch:=omega))|(refine ⟨λ_=>?_,λ_=>?_⟩)|(refine ⟨by omega,?_⟩)|(simp (disch:=omega))|(intro _)
   all_goals (refine hK _ ?_;clear hK K)
   all_goals
    refine zbj ?_
    refine AW_x rfl rfl λK hK=>?_
    simp (disch:=omega)
    repeat' first|(exfalso;omega)|(refine zd5 (zbg (zbw rfl) zbm) (zfg m (by omega)) rfl ?_;simp (disch:=omega))|(refine zd6 (zfg m (by omega)) (by rfl) ?_ ?_;(focus (simp (disch:=omega) [zbe];done));simp (disch:=omega))|(refine ⟨λ_=>?_,λ_=>?_⟩)|(refine ⟨by omega,?_⟩)|(simp (disch:=omega))|(intro _)
    all_goals (refine hK _ ?_;clear hK K)
    all_goals
     refine zbi rfl (λhc2=>?_) (λhc2=>?_)
     ·try simp [zba,zbf,zbd,zbc] at hc2
      all_goals
       refine AW_x rfl rfl λK hK=>?_
       simp (disch:=omega)
       repeat' first|(exfalso;omega)|(refine ⟨λ_=>?_,λ_=>?_⟩)|(refine ⟨by omega,?_⟩)|(simp (disch:=omega))|(intro _)
       all_goals (refine hK _ ?_;clear hK K)
       all_goals
        refine zbp (zb5 [256,257] [] (by simp [zG13]) (by simp) ?_)
        simp (disch:=omega)
        all_goals first | exact sd_f hc1 | exact zch (st_m hc1 (by simp_all [zba,zbf])) | exact zch (zph hc1 (by simp_all [zba,zbf]) (by simp_all [zba,zbf]) (by assumption) (by assumption) (by assumption)) | exact zch (zkg hc1 (by simp_all [zba,zbf]) (by simp_all [zba,zbf]) (by assumption) (by assumption) (by assumption))|(simp only [newS] at hpg;rw [hgo.1,hgo.2,hpg];exact ⟨rfl,rfl,rfl,rfl,rfl⟩) | trace_state
     ·try simp [zba,zbf,zbd,zbc] at hc2
      all_goals
       refine zbk ?_
       refine zbo ?_
       refine zbj ?_
       refine AW_x rfl rfl λK hK=>?_
       simp (disch:=omega)
       repeat' first|(exfalso;omega)|(refine ⟨λ_=>?_,λ_=>?_⟩)|(refine ⟨by omega,?_⟩)|(simp (disch:=omega))|(intro _)
       all_goals (refine hK _ ?_;clear hK K)
       all_goals
        refine zbn ?_
        refine zbv (λmM sS=>∃(i:Nat),mM=s.fSaid.length-i∧(i≤s.fSaid.length∧∀j (hj:j<s.fSaid.length),j<i→s.fSaid[j].fClient=m.fClient→s.fSaid[j].fNo<m.fNo)∧sS = { env:=lkE [(2,.ptr 48 0),(3,.ptr 64 0),(4,.ptr 80 0),(5,.s []),(6,.ptr 112 0),(7,(.g (.int .i64 ((i:Nat)))))],ob:=lk [(48,.cells (DtState.cells s)),(64,.cells (DtCmd.cells m)),(80,.cells [.g (.slice none 0 0),.g (.slice none 0 0)]),(112,.cells [.arr 256 0 s.fCat.fSets.length,.arr 257 0 s.fSaid.length]),(256,.own 2 (s.fCat.fSets.map DtCSet.cells)),(257,.own 3 (s.fSaid.map DtSaid.cells))] }) ?_ ?_
        ·refine ⟨_,LeS.kx [(48,48),(64,64),(80,80),(112,112),(256,256),(257,257)] [(2,.ptr 48 0),(3,.ptr 64 0),(4,.ptr 80 0),(5,.s []),(6,.ptr 112 0),(7,(.g (.int .i64 (((0):Nat)))))] [(48,.cells (DtState.cells s)),(64,.cells (DtCmd.cells m)),(80,.cells [.g (.slice none 0 0),.g (.slice none 0 0)]),(112,.cells [.arr 256 0 s.fCat.fSets.length,.arr 257 0 s.fSaid.length]),(256,.own 2 (s.fCat.fSets.map DtCSet.cells)),(257,.own 3 (s.fSaid.map DtSaid.cells))] (by simp [zG13,KpR,renV2,renV,zbl,DtState.cells,DtCatalog.cells,DtCmd.cells];first|(simp;done) | omega | trace_state) (by simp [zG13,KpOX,renO,plO,cvO,renV,pl1,DtState.cells,DtCatalog.cells,DtCmd.cells];first | rfl|(simp;done) | trace_state) (by rfl) (by simp) (by simp) (by rfl) (by simp [formsX,List.range_succ,zbq,zbz]),_,0,rfl,?_,rfl⟩
         ·exact ⟨by omega,λj hj h=>by omega⟩
        ·rintro mM sS ⟨i,rfl,⟨hi,hpre⟩,rfl⟩
         refine zbj ?_
         refine AW_x rfl rfl λK hK=>?_
         simp (disch:=omega)
         repeat' first|(refine ⟨by omega,?_⟩)|(simp (disch:=omega))|(intro _)
         refine hK _ ?_;clear hK K
         refine zbi rfl (λhc3=>?_) (λhc3=>?_)
         ·try simp [zba,zbf,zbd,zbc] at hc3
          all_goals
           have hg:s.fSaid[i]? = some s.fSaid[i]:=List.getElem?_eq_getElem (by omega)
           refine zbk ?_
           refine zbo ?_
           refine zbj ?_
           refine zbn ?_
           refine zbj ?_
           refine AW_d rfl mix (by kernel_rfl) (by kernel_rfl) λK hK=>?_
           simp (disch:=omega)
           repeat' first|(exfalso;omega)|(refine ⟨λ_=>?_,λ_=>?_⟩)|(refine ⟨by omega,?_⟩)|(simp (disch:=omega))|(intro _)
           all_goals (refine hK _ _ (by kernel_rfl) ?_;clear hK K)
           all_goals
            refine zbi rfl (λhc4=>?_) (λhc4=>?_)
            ·try simp [zba,zbf,zbd,zbc] at hc4
             all_goals
              refine zb0 ?_
              refine zbo ?_
              refine zb6 rfl rfl λK hK=>?_
              simp (disch:=omega)
              repeat' first|(exfalso;omega)|(refine ⟨λ_=>?_,λ_=>?_⟩)|(refine ⟨by omega,?_⟩)|(simp (disch:=omega))|(intro _)
              all_goals (refine hK _ ?_;clear hK K)
              all_goals
               refine ⟨_,LeS.kx [(48,48),(64,64),(80,80),(112,112),(256,256),(257,257)] [(2,.ptr 48 0),(3,.ptr 64 0),(4,.ptr 80 0),(5,.s []),(6,.ptr 112 0),(7,(.g (.int .i64 (((i+1):Nat)))))] [(48,.cells (DtState.cells s)),(64,.cells (DtCmd.cells m)),(80,.cells [.g (.slice none 0 0),.g (.slice none 0 0)]),(112,.cells [.arr 256 0 s.fCat.fSets.length,.arr 257 0 s.fSaid.length]),(256,.own 2 (s.fCat.fSets.map DtCSet.cells)),(257,.own 3 (s.fSaid.map DtSaid.cells))] (by simp [zG13,KpR,renV2,renV,zbl,DtState.cells,DtCatalog.cells,DtCmd.cells];first|(simp;done) | omega | trace_state) (by simp [zG13,KpOX,renO,plO,cvO,renV,pl1,DtState.cells,DtCatalog.cells,DtCmd.cells];first | rfl|(simp;done) | trace_state) (by rfl) (by simp) (by simp) (by rfl) (by simp [formsX,List.range_succ,zbq,zbz]),_,?_,i+1,rfl,?_,rfl⟩
               ·omega
               ·refine ⟨by omega,λj hj h e=>?_⟩
                by_cases hji:j=i
                ·subst hji;first | omega|(simp_all;omega) | simp_all
                ·exact hpre j hj (by omega) e
            ·try simp [zba,zbf,zbd,zbc] at hc4
             all_goals
              refine zbk ?_
              refine zbo ?_
              refine zbj ?_
              refine AW_d rfl mix (by kernel_rfl) (by kernel_rfl) λK hK=>?_
              simp (disch:=omega)
              repeat' first|(exfalso;omega)|(refine ⟨λ_=>?_,λ_=>?_⟩)|(refine ⟨by omega,?_⟩)|(simp (disch:=omega))|(intro _)
              all_goals (refine hK _ _ (by kernel_rfl) ?_;clear hK K)
              all_goals
               refine zbi rfl (λhc5=>?_) (λhc5=>?_)
               ·try simp [zba,zbf,zbd,zbc] at hc5
                all_goals
                 refine AW_d rfl mix (by kernel_rfl) (by kernel_rfl) λK hK=>?_
                 simp (disch:=omega)
                 repeat' first|(exfalso;omega)|(refine ⟨λ_=>?_,λ_=>?_⟩)|(refine ⟨by omega,?_⟩)|(simp (disch:=omega))|(intro _)
                 all_goals (refine hK _ _ (by kernel_rfl) ?_;clear hK K)
                 all_goals
                  refine zbp (zb5 [256,257] [] (by simp [zG13]) (by simp) ?_)
                  simp (disch:=omega)
                  all_goals first | exact sd_f hc1 | exact zch (st_m hc1 (by simp_all [zba,zbf])) | exact zch (zph hc1 (by simp_all [zba,zbf]) (by simp_all [zba,zbf]) (by assumption) (by assumption) (by assumption)) | exact zch (zkg hc1 (by simp_all [zba,zbf]) (by simp_all [zba,zbf]) (by assumption) (by assumption) (by assumption))|(simp only [newS] at hpg;rw [hgo.1,hgo.2,hpg];exact ⟨rfl,rfl,rfl,rfl,rfl⟩) | trace_state
               ·try simp [zba,zbf,zbd,zbc] at hc5
                all_goals
                 refine zbk ?_
                 refine zbo ?_
                 refine AW_d rfl mix (by kernel_rfl) (by kernel_rfl) λK hK=>?_
                 simp (disch:=omega)
                 repeat' first|(exfalso;omega)|(refine ⟨λ_=>?_,λ_=>?_⟩)|(refine ⟨by omega,?_⟩)|(simp (disch:=omega))|(intro _)
                 all_goals (refine hK _ _ (by kernel_rfl) ?_;clear hK K)
                 all_goals
                  refine zbi rfl (λhc6=>?_) (λhc6=>?_)
                  ·try simp [zba,zbf,zbd,zbc] at hc6
                   all_goals
                    refine AW_x rfl rfl λK hK=>?_
                    simp (disch:=omega)
                    repeat' first|(exfalso;omega)|(refine ⟨λ_=>?_,λ_=>?_⟩)|(refine ⟨by omega,?_⟩)|(simp (disch:=omega))|(intro _)
                    all_goals (refine hK _ ?_;clear hK K)
                    all_goals
                     refine zbp (zb5 [256,257] [] (by simp [zG13]) (by simp) ?_)
                     simp (disch:=omega)
                     all_goals first | exact sd_f hc1 | exact zch (st_m hc1 (by simp_all [zba,zbf])) | exact zch (zph hc1 (by simp_all [zba,zbf]) (by simp_all [zba,zbf]) (by assumption) (by assumption) (by assumption)) | exact zch (zkg hc1 (by simp_all [zba,zbf]) (by simp_all [zba,zbf]) (by assumption) (by assumption) (by assumption))|(simp only [newS] at hpg;rw [hgo.1,hgo.2,hpg];exact ⟨rfl,rfl,rfl,rfl,rfl⟩) | trace_state
                  ·try simp [zba,zbf,zbd,zbc] at hc6
                   all_goals
                    refine zbk ?_
                    refine zbo ?_
                    refine zb6 rfl rfl λK hK=>?_
                    simp (disch:=omega)
                    repeat' first|(exfalso;omega)|(refine ⟨λ_=>?_,λ_=>?_⟩)|(refine ⟨by omega,?_⟩)|(simp (disch:=omega))|(intro _)
                    all_goals (refine hK _ ?_;clear hK K)
                    all_goals
                     refine ⟨_,LeS.kx [(48,48),(64,64),(80,80),(112,112),(256,256),(257,257)] [(2,.ptr 48 0),(3,.ptr 64 0),(4,.ptr 80 0),(5,.s []),(6,.ptr 112 0),(7,(.g (.int .i64 (((i+1):Nat)))))] [(48,.cells (DtState.cells s)),(64,.cells (DtCmd.cells m)),(80,.cells [.g (.slice none 0 0),.g (.slice none 0 0)]),(112,.cells [.arr 256 0 s.fCat.fSets.length,.arr 257 0 s.fSaid.length]),(256,.own 2 (s.fCat.fSets.map DtCSet.cells)),(257,.own 3 (s.fSaid.map DtSaid.cells))] (by simp [zG13,KpR,renV2,renV,zbl,DtState.cells,DtCatalog.cells,DtCmd.cells];first|(simp;done) | omega | trace_state) (by simp [zG13,KpOX,renO,plO,cvO,renV,pl1,DtState.cells,DtCatalog.cells,DtCmd.cells];first | rfl|(simp;done) | trace_state) (by rfl) (by simp) (by simp) (by rfl) (by simp [formsX,List.range_succ,zbq,zbz]),_,?_,i+1,rfl,?_,rfl⟩
                     ·omega
                     ·refine ⟨by omega,λj hj h e=>?_⟩
                      by_cases hji:j=i
                      ·subst hji;first | omega|(simp_all;omega) | simp_all
                      ·exact hpre j hj (by omega) e
         ·try simp [zba,zbf,zbd,zbc] at hc3
          all_goals
           have hpg:putG (newS m (catR s.fCat m)) false s.fSaid=putL (newS m (catR s.fCat m)) s.fSaid:=putG_L _ _ (zlg hc1)
           have hgo:=st_go hc1 (by simp_all [zba,zbf]) (by simp_all [zba,zbf]) (λj hj e=>hpre j hj (by omega) e)
           refine zb0 ?_
           refine zbo ?_
           refine AW_x rfl rfl λK hK=>?_
           simp (disch:=omega)
           repeat' first|(exfalso;omega)|(refine zc9 [] true [] (specCatC s.fCat m hz hm) ?_ ?_ ?_;(focus (simp [List.range_succ,nmC];done));(focus (simp (disch:=omega) [zbe];done));simp (disch:=omega))|(refine ⟨λ_=>?_,λ_=>?_⟩)|(refine ⟨by omega,?_⟩)|(simp (disch:=omega))|(intro _)
           all_goals (refine hK _ ?_;clear hK K)
           all_goals
            refine AW_x rfl rfl λK hK=>?_
            simp (disch:=omega)
            repeat' first|(refine ⟨by omega,?_⟩)|(simp (disch:=omega))|(intro _)
            refine hK _ ?_;clear hK K
            refine AW_x rfl rfl λK hK=>?_
            simp (disch:=omega)
            repeat' first|(exfalso;omega)|(refine zc9 [] true [] (l16PutX s.fSaid hl (newS m (catR s.fCat m))) ?_ ?_ ?_;(focus (simp [List.range_succ,nmC];done));(focus (simp (disch:=omega) [zbe];done));simp (disch:=omega))|(refine ⟨by omega,?_⟩)|(simp (disch:=omega))|(intro _)
            refine hK _ ?_;clear hK K
            refine AW_x rfl rfl λK hK=>?_
            simp (disch:=omega)
            repeat' first|(refine ⟨by omega,?_⟩)|(simp (disch:=omega))|(intro _)
            refine hK _ ?_;clear hK K
            refine zbp (zb5 [1152,1360] [] (by simp [zG13]) (by simp) ?_)
            simp (disch:=omega)
            all_goals first | exact sd_f hc1 | exact zch (st_m hc1 (by simp_all [zba,zbf])) | exact zch (zph hc1 (by simp_all [zba,zbf]) (by simp_all [zba,zbf]) (by assumption) (by assumption) (by assumption)) | exact zch (zkg hc1 (by simp_all [zba,zbf]) (by simp_all [zba,zbf]) (by assumption) (by assumption) (by assumption))|(simp only [newS] at hpg;rw [hgo.1,hgo.2,hpg];exact ⟨rfl,rfl,rfl,rfl,rfl⟩) | trace_state
end Go.Proofs.Ytodmafgmdlkhoaa.Vs
end
section
namespace Go.Proofs.Ytodmafgmdlkhoaa.Vs
set_option linter.all false
/-! states in a row of commands -/
theorem zxe(c:DtCatalog)(m:DtCmd):(catR c m).length≤200:=by
 by_cases h:CatP c
 ·by_cases hm:CmdP m
  ·have hsets:∀k (hk:k<c.fSets.length),SetP c.fSets[k]:=λk hk=>(h.2 k _ (List.getElem?_eq_getElem hk)).1
   by_cases h0:m.fKind=0
   ·rw [(zmy h hm h0).2];simp
   ·by_cases h1:m.fKind=1
    ·rw [(zmz h hm h1).2];unfold creR;(repeat' split)<;>decide
    ·by_cases h7:m.fKind=7
     ·rw [(zm0 h hm h7).2]
      have:=zw4 8 (namL c.fSets) λx hx=>by
       obtain ⟨s,hs',rfl⟩:=List.mem_map.1 hx
       obtain ⟨k,hk,rfl⟩:=List.getElem_of_mem hs'
       exact (hsets k hk).1.2.1
      rw [zfo] at this
      have:=h.1
      omega
     ·by_cases hf:findS c.fSets m.fSet<0
      ·rw [(zm1 h hm h0 h1 h7 hf).2];decide
      ·obtain ⟨k,hkz⟩:=Int.eq_ofNat_of_zero_le (Int.not_lt.1 hf)
       have hk:=zjq hkz
       rw [(zzv h hm h0 h1 h7 hkz).2]
       by_cases h2:m.fKind=2
       ·rw [(zzs h2).2];decide
       ·by_cases h3:m.fKind=3
        ·rw [(zsi hk h3).2];unfold comR;(repeat' split)<;>decide
        ·by_cases h4:m.fKind=4
         ·rw [(zvr hk h4).2];unfold tagR;split<;>decide
         ·by_cases h5:m.fKind=5
          ·rw [(zzt hk h5).2];simp [digN]
          ·rw [(zzu hk h2 h3 h4 h5).2]
           have:=zw4 17 (tldL c.fSets[k]) λx hx=>by
            obtain ⟨p,hp,rfl⟩:=List.mem_map.1 hx
            obtain ⟨j,hj,rfl⟩:=List.getElem_of_mem hp
            have h3:=((hsets k hk).2.2 j _ (List.getElem?_eq_getElem hj)).1
            have ha:(c.fSets[k].fSnaps[j]).fName.length≤8:=by grind [SnapP,Word]
            have hb:(c.fSets[k].fSnaps[j]).fTag.length≤8:=by grind [SnapP,Word]
            simp only [List.length_append,List.length_cons]
            omega
           have h4:=(hsets k hk).2.1
           have h5:(tldL c.fSets[k]).length=c.fSets[k].fSnaps.length:=by simp [tldL]
           rw [h5] at this
           omega
  ·rw [(zmx h hm).2];simp
 ·rw [(zmw h).2];simp
def SaidW(x:DtSaid):Prop:=1≤x.fClient∧x.fClient≤9∧1≤x.fNo∧x.fNo≤1000
theorem stateP_of{s:DtState}(h1:CatP s.fCat)(h2:∀x∈s.fSaid,SaidW x)(h3:Cl s.fSaid):StateP s:=by
 refine ⟨h1,λi x hx=>?_⟩
 obtain ⟨hi,rfl⟩:=List.getElem?_eq_some_iff.1 hx
 obtain ⟨a,b,c,d⟩:=h2 _ (List.getElem_mem hi)
 refine ⟨a,b,c,d,λy h0 hy=>?_⟩
 obtain ⟨hj,rfl⟩:=List.getElem?_eq_some_iff.1 hy
 exact List.pairwise_iff_getElem.1 h3 (i-1) i hj hi (by omega)
theorem zxf{s:DtState}(h:StateP s):∀x∈s.fSaid,SaidW x:=by
 intro x hx
 obtain ⟨i,hi,rfl⟩:=List.getElem_of_mem hx
 have:=h.2 i _ (List.getElem?_eq_getElem hi)
 exact ⟨this.1,this.2.1,this.2.2.1,this.2.2.2.1⟩
theorem zli(x:DtSaid):∀(l:List DtSaid) (y:DtSaid),y∈putL x l→y=x∨y∈l
 | [],y,h=>by rw [putL] at h;exact .inl (List.mem_singleton.1 h)
 | z :: l,y,h=>by
  rw [putL] at h
  split at h
  ·rcases List.mem_cons.1 h with rfl | h
   ·exact .inr List.mem_cons_self
   ·exact (zli x l y h).imp id (List.mem_cons_of_mem _)
  ·split at h
   ·rcases List.mem_cons.1 h with rfl | h
    ·exact .inl rfl
    ·exact .inr (List.mem_cons_of_mem _ h)
   ·rcases List.mem_cons.1 h with rfl | h
    ·exact .inl rfl
    ·exact .inr h
theorem putL_cl(x:DtSaid):∀(l:List DtSaid),Cl l→Cl (putL x l)
 | [],_=>by rw [putL];exact List.pairwise_singleton _ _
 | z :: l,h=>by
  obtain ⟨h1,h2⟩:=List.pairwise_cons.1 h
  rw [putL]
  split
  ·refine List.pairwise_cons.2 ⟨λy hy=>?_,putL_cl x l h2⟩
   rcases zli x l y hy with rfl | hy
   ·assumption
   ·exact h1 y hy
  ·split
   ·refine List.pairwise_cons.2 ⟨λy hy=>?_,h2⟩
    have:=h1 y hy
    omega
   ·refine List.pairwise_cons.2 ⟨λy hy=>?_,h⟩
    rcases List.mem_cons.1 hy with rfl | hy
    ·omega
    ·have:=h1 y hy
     omega
theorem cl_len:∀(l:List DtSaid) (a:Int),Cl l→(∀x∈l,a<x.fClient∧x.fClient≤9)→a≤9→(l.length:Int)≤9-a
 | [],a,_,_,h=>by simp;omega
 | z :: l,a,h,hb,ha=>by
  obtain ⟨h1,h2⟩:=List.pairwise_cons.1 h
  have hz:=hb z List.mem_cons_self
  have:=cl_len l z.fClient h2 (λx hx=>⟨h1 x hx,(hb x (List.mem_cons_of_mem _ hx)).2⟩) hz.2
  simp only [List.length_cons]
  omega
/-- A state that came out of commands. -/
def StI(s:DtState):Prop:=StateP s∧∀x∈s.fSaid,x.fText.length≤200
theorem catP_nil':CatP { fSets:=[] }:=⟨by simp,by simp⟩
def st0S:DtState:={ fCat:={ fSets:=[] },fSaid:=[] }
theorem stI_nil:StI st0S:=⟨⟨catP_nil',by simp [st0S]⟩,by simp [st0S]⟩
theorem stN_P{s:DtState}(h:StateP s){m:DtCmd}(hm:CmdP m)(h0:¬m.fKind=0):StateP (stN s m):=by
 refine stateP_of (catP_step _ _) (λx hx=>?_) (putL_cl _ _ (zlg h))
 rcases zli _ _ _ hx with rfl | hx
 ·have:=hm.resolve_left λhh=>h0 hh.1
  exact ⟨this.2.2.1,this.2.2.2.1,this.2.2.2.2.1,this.2.2.2.2.2.1⟩
 ·exact zxf h x hx
theorem stN_I{s:DtState}(h:StI s){m:DtCmd}(hm:CmdP m)(h0:¬m.fKind=0):StI (stN s m):=by
 refine ⟨stN_P h.1 hm h0,λx hx=>?_⟩
 rcases zli _ _ _ hx with rfl | hx
 ·exact zxe _ _
 ·exact h.2 x hx
theorem zxg(s:DtState)(m:DtCmd)(h:StateP s):stC s m=s∨(CmdP m∧¬m.fKind=0∧stC s m=stN s m):=by
 by_cases hm:CmdP m∧¬m.fKind=0
 ·cases hx:hitS s m with
  | none=>exact .inr ⟨hm.1,hm.2,(zvu h hm.1 hm.2 hx).1⟩
  | some x =>
   have:=(zjs h hm.1 hm.2 hx).1
   split at this
   ·exact .inl this
   ·exact .inr ⟨hm.1,hm.2,this⟩
 ·exact .inl (st_m h hm).1
theorem stC_P{s:DtState}(h:StateP s)(m:DtCmd):StateP (stC s m):=by
 rcases zxg s m h with e | ⟨h1,h2,e⟩
 ·rw [e];exact h
 ·rw [e];exact stN_P h h1 h2
theorem stC_I{s:DtState}(h:StI s)(m:DtCmd):StI (stC s m):=by
 rcases zxg s m h.1 with e | ⟨h1,h2,e⟩
 ·rw [e];exact h
 ·rw [e];exact stN_I h h1 h2
theorem zso{s:DtState}(h:StateP s):s.fSaid.length≤9:=by
 have:=cl_len s.fSaid 0 (zlg h) (λx hx=>by have:=zxf h x hx;unfold SaidW at this;omega) (by omega)
 omega
theorem stI_sz{s:DtState}(h:StI s):DtState.sz s≤10000:=by
 have h1:=catP_sz h.1.1
 have h2:=zso h.1
 have h3:=zm3 200 s.fSaid (f:=DtSaid.sz) λx hx=>by
  have:=h.2 x hx
  unfold DtSaid.sz;omega
 unfold DtState.sz szS
 omega
theorem stI_sz'{s:DtState}(h:StI s):DtState.sz s≤1048576:=by have:=stI_sz h;omega
noncomputable def splS(l:List DtCmd):DtState × List (List UInt8):=l.foldl (λx m=>(stC x.1 m,x.2++[stR x.1 m])) (st0S,[])
noncomputable def splC(l:List DtCmd):DtState:=(splS l).1
noncomputable def splR(l:List DtCmd):List (List UInt8):=(splS l).2
theorem spl_take(l:List DtCmd)(i:Nat)(h:i<l.length):splC (l.take (i+1))=stC (splC (l.take i)) l[i]∧splR (l.take (i+1))=splR (l.take i)++[stR (splC (l.take i)) l[i]]:=by
 unfold splC splR splS
 rw [List.take_succ_eq_append_getElem h,List.foldl_append]
 exact ⟨rfl,rfl⟩
theorem zvx(l:List DtCmd):StI (splC l):=by
 have key:∀(l:List DtCmd) (x:DtState × List (List UInt8)),StI x.1→StI (l.foldl (λx m=>(stC x.1 m,x.2++[stR x.1 m])) x).1:=by
  intro l
  induction l with
  | nil=>intro x hx;exact hx
  | cons m l ih=>intro x hx;exact ih _ (stC_I hx m)
 exact key l _ stI_nil
theorem splC_sz(l:List DtCmd):DtState.sz (splC l)≤1048576:=stI_sz' (zvx l)
theorem splR_len(l:List DtCmd):(splR l).length=l.length:=by
 have key:∀(l:List DtCmd) (x:DtState × List (List UInt8)),(l.foldl (λx m=>(stC x.1 m,x.2++[stR x.1 m])) x).2.length=x.2.length+l.length:=by
  intro l
  induction l with
  | nil=>intro x;rfl
  | cons m l ih=>intro x;rw [List.foldl_cons,ih];simp;omega
 have:=key l (st0S,[])
 unfold splR splS
 rw [this];simp
theorem splR_lenT(l:List DtCmd)(i:Nat)(h:i≤l.length):(splR (l.take i)).length=i:=by rw [splR_len,List.length_take];omega
end Go.Proofs.Ytodmafgmdlkhoaa.Vs
end
section
namespace Go.Proofs.Ytodmafgmdlkhoaa.Vs
set_option linter.all false
/-! no reply to a drawn command is the word "old", but where it stands for one -/
def NoOld(c:DtCatalog):Prop:=∀x∈c.fSets,x.fName≠bOld
theorem zzy(l:List DtCSet)(k:Nat)(m:DtCmd):∀x∈setS l k m,∃y∈l,y.fName=x.fName:=by
 intro x hx
 have self:x∈l→∃y∈l,y.fName=x.fName:=λh=>⟨x,h,rfl⟩
 by_cases h2:m.fKind=2
 ·rw [(zzs h2).1] at hx
  rcases List.mem_append.1 hx with hx | hx
  ·exact self (List.mem_of_mem_take hx)
  ·exact self (List.mem_of_mem_drop hx)
 ·by_cases hk:k<l.length
  ·have key : ∀ s : DtCSet, s.fName = l[k].fName → x ∈ l.set k s → ∃ y ∈ l, y.fName = x.fName := by
    intro s hs h
    rcases List.mem_or_eq_of_mem_set h with h | rfl
    ·exact self h
    ·exact ⟨l[k],List.getElem_mem _,hs.symm⟩
   by_cases h3:m.fKind=3
   ·rw [(zsi hk h3).1] at hx
    refine key _ ?_ hx
    unfold comS
    split
    ·rfl
    ·split<;>rfl
   ·by_cases h4:m.fKind=4
    ·rw [(zvr hk h4).1] at hx
     refine key _ ?_ hx
     unfold tagS
     split<;>rfl
    ·by_cases h5:m.fKind=5
     ·rw [(zzt hk h5).1] at hx
      exact key (pruS l[k] m.fN) rfl hx
     ·rw [(zzu hk h2 h3 h4 h5).1] at hx
      exact self hx
  ·unfold setS at hx
   rw [if_neg h2,dif_neg hk] at hx
   exact self hx
theorem zzz(c:DtCatalog)(m:DtCmd):∀x∈catS c m,(∃y∈c.fSets,y.fName=x.fName)∨x.fName=m.fSet:=by
 intro x hx
 have self:x∈c.fSets→(∃y∈c.fSets,y.fName=x.fName)∨x.fName=m.fSet:=λh=>.inl ⟨x,h,rfl⟩
 by_cases h:CatP c
 ·by_cases hm:CmdP m
  ·by_cases h0:m.fKind=0
   ·rw [(zmy h hm h0).1] at hx;exact self hx
   ·by_cases h1:m.fKind=1
    ·rw [(zmz h hm h1).1] at hx
     unfold creS at hx
     split at hx
     ·exact self hx
     ·split at hx
      ·exact self hx
      ·rcases List.mem_append.1 hx with hx | hx
       ·exact self (List.mem_of_mem_take hx)
       ·rcases List.mem_cons.1 hx with rfl | hx
        ·exact .inr rfl
        ·exact self (List.mem_of_mem_drop hx)
    ·by_cases h7:m.fKind=7
     ·rw [(zm0 h hm h7).1] at hx;exact self hx
     ·by_cases hf:findS c.fSets m.fSet<0
      ·rw [(zm1 h hm h0 h1 h7 hf).1] at hx;exact self hx
      ·obtain ⟨k,hkz⟩:=Int.eq_ofNat_of_zero_le (Int.not_lt.1 hf)
       rw [(zzv h hm h0 h1 h7 hkz).1] at hx
       exact .inl (zzy _ _ _ x hx)
  ·rw [(zmx h hm).1] at hx;exact self hx
 ·rw [(zmw h).1] at hx;cases hx
theorem zz0{c:DtCatalog}(h:NoOld c){m:DtCmd}(hm:m.fSet≠bOld):NoOld (catC c m):=by
 intro x hx
 rcases zzz c m x hx with ⟨y,hy,e⟩ | e
 ·rw [←e];exact h y hy
 ·rw [e];exact hm
theorem spc_old{l:List (List UInt8)}(b:UInt8)(hb:b≠111∧b≠108∧b≠100)(h:∀x∈l,b∈x):spc l≠bOld:=by
 intro e
 cases l with
 | nil=>simp [spc,bOld] at e
 | cons y l =>
  have:b∈spc (y :: l):=by unfold spc;exact List.mem_append.2 (.inl (h y (by simp)))
  rw [e] at this
  simp [bOld] at this
  obtain ⟨h1,h2,h3⟩:=hb
  rcases this with h | h | h
  ·exact h1 h
  ·exact h2 h
  ·exact h3 h
theorem spc_names{l:List (List UInt8)}(h:∀x∈l,x≠bOld):spc l≠bOld:=by
 intro e
 cases l with
 | nil=>simp [spc,bOld] at e
 | cons y l =>
  cases l with
  | nil=>exact h y (by simp) (by simpa [spc] using e)
  | cons z l =>
   have:(32:UInt8)∈spc (y :: z :: l):=by unfold spc;simp
   rw [e] at this
   simp [bOld] at this
theorem zxh{c:DtCatalog}(hn:NoOld c)(m:DtCmd):catR c m≠bOld:=by
 by_cases h:CatP c
 ·by_cases hm:CmdP m
  ·by_cases h0:m.fKind=0
   ·rw [(zmy h hm h0).2];simp [bOld]
   ·by_cases h1:m.fKind=1
    ·rw [(zmz h hm h1).2];unfold creR;(repeat' split)<;>decide
    ·by_cases h7:m.fKind=7
     ·rw [(zm0 h hm h7).2]
      refine spc_names λx hx=>?_
      obtain ⟨s,hs',rfl⟩:=List.mem_map.1 hx
      exact hn s hs'
     ·by_cases hf:findS c.fSets m.fSet<0
      ·rw [(zm1 h hm h0 h1 h7 hf).2];decide
      ·obtain ⟨k,hkz⟩:=Int.eq_ofNat_of_zero_le (Int.not_lt.1 hf)
       have hk:=zjq hkz
       rw [(zzv h hm h0 h1 h7 hkz).2]
       by_cases h2:m.fKind=2
       ·rw [(zzs h2).2];decide
       ·by_cases h3:m.fKind=3
        ·rw [(zsi hk h3).2];unfold comR;(repeat' split)<;>decide
        ·by_cases h4:m.fKind=4
         ·rw [(zvr hk h4).2];unfold tagR;split<;>decide
         ·by_cases h5:m.fKind=5
          ·rw [(zzt hk h5).2];intro e;have:=congrArg List.length e;simp [digN,bOld] at this
          ·rw [(zzu hk h2 h3 h4 h5).2]
           refine spc_old 58 (by decide) λx hx=>?_
           obtain ⟨p,hp,rfl⟩:=List.mem_map.1 hx
           simp
  ·rw [(zmx h hm).2];simp [bOld]
 ·rw [(zmw h).2];simp [bOld]
theorem noOld_st{s:DtState}(h:NoOld s.fCat){m:DtCmd}(hm:m.fSet≠bOld):NoOld (stC s m).fCat:=by
 by_cases hP:StateP s
 ·rcases zxg s m hP with e | ⟨-,-,e⟩
  ·rw [e];exact h
  ·rw [e];exact zz0 h hm
 ·rw [(st_f hP).1];intro x hx;cases hx
theorem noOld_spl:∀l:List DtCmd,(∀x∈l,x.fSet≠bOld)→NoOld (splC l).fCat:=by
 have key:∀(l:List DtCmd) (x:DtState × List (List UInt8)),(∀x∈l,x.fSet≠bOld)→NoOld x.1.fCat→NoOld (l.foldl (λx m=>(stC x.1 m,x.2++[stR x.1 m])) x).1.fCat:=by
  intro l
  induction l with
  | nil=>intro x _ h;exact h
  | cons m l ih =>
   intro x hl h
   exact ih _ (λy hy=>hl y (List.mem_cons_of_mem _ hy)) (noOld_st h (hl m List.mem_cons_self))
 intro l h
 exact key l _ h (λx hx=>by cases hx)
/-! what a command leaves behind -/
theorem zxi(x:DtSaid):∀l:List DtSaid,x∈putL x l
 | []=>by rw [putL];exact List.mem_singleton.2 rfl
 | z :: l=>by
  rw [putL]
  split
  ·exact List.mem_cons_of_mem _ (zxi x l)
  ·split
   ·exact List.mem_cons_self
   ·exact List.mem_cons_self
theorem zxj{s:DtState}(hP:StateP s)(hn:NoOld s.fCat){m:DtCmd}(hm:CmdP m)(h0:¬m.fKind=0)(ht:stR s m≠bOld):∃i,∃h:i<(stC s m).fSaid.length,(stC s m).fSaid[i].fClient=m.fClient∧(stC s m).fSaid[i].fNo=m.fNo∧(stC s m).fSaid[i].fText=stR s m:=by
 have new:stC s m=stN s m→stR s m=catR s.fCat m→∃i,∃h:i<(stC s m).fSaid.length,(stC s m).fSaid[i].fClient=m.fClient∧(stC s m).fSaid[i].fNo=m.fNo∧(stC s m).fSaid[i].fText=stR s m:=by
  intro e1 e2
  have hmem:=zxi (newS m (catR s.fCat m)) s.fSaid
  obtain ⟨i,hi,e⟩:=List.getElem_of_mem hmem
  rw [e1,e2]
  refine ⟨i,hi,?_⟩
  have e3:(stN s m).fSaid[i]'hi=newS m (catR s.fCat m):=e
  rw [e3]
  exact ⟨rfl,rfl,rfl⟩
 cases hx:hitS s m with
 | none=>exact new (zvu hP hm h0 hx).1 (zvu hP hm h0 hx).2
 | some x =>
  obtain ⟨e1,e2⟩:=zjs hP hm h0 hx
  by_cases a:x.fNo=m.fNo
  ·rw [if_pos (by omega)] at e1
   rw [if_pos a] at e2
   have hxm:x∈s.fSaid∧x.fClient=m.fClient:=by
    unfold hitS at hx
    split at hx
    ·split at hx
     ·rename_i he;cases hx;exact ⟨List.getElem_mem _,he⟩
     ·cases hx
    ·cases hx
   obtain ⟨i,hi,e⟩:=List.getElem_of_mem hxm.1
   rw [e1,e2]
   exact ⟨i,hi,by rw [e];exact hxm.2,by rw [e];exact a,by rw [e]⟩
  ·by_cases b:m.fNo<x.fNo
   ·rw [if_neg a,if_pos b] at e2;exact absurd e2 ht
   ·rw [if_neg (by omega)] at e1
    rw [if_neg a,if_neg b] at e2
    exact new e1 e2
/-- Asked again. -/
theorem zz1{s:DtState}(hP:StateP s)(hn:NoOld s.fCat){m:DtCmd}(hm:CmdP m)(h0:¬m.fKind=0)(ht:stR s m≠bOld):stC (stC s m) m=stC s m∧stR (stC s m) m=stR s m:=by
 obtain ⟨i,hi,h1,h2,h3⟩:=zxj hP hn hm h0 ht
 have:=zph (stC_P hP m) hm h0 hi h1 h2
 rw [h3] at this
 exact this
def oldM(m:DtCmd):DtCmd:={ m with fNo:=m.fNo-1 }
theorem zz2{s:DtState}(hP:StateP s)(hn:NoOld s.fCat){m:DtCmd}(hm:CmdP m)(h0:¬m.fKind=0)(ht:stR s m≠bOld)(h1:¬m.fNo=1):stC (stC s m) (oldM m)=stC s m∧stR (stC s m) (oldM m)=bOld:=by
 obtain ⟨i,hi,e1,e2,e3⟩:=zxj hP hn hm h0 ht
 have hm2:CmdP (oldM m):=by
  rcases hm with hm | hm
  ·exact absurd hm.1 h0
  ·right
   obtain ⟨a,b,c,d,e,f,g⟩:=hm
   exact ⟨a,b,c,d,by show 1≤m.fNo-1;omega,by show m.fNo-1≤1000;omega,g⟩
 exact zkg (stC_P hP m) hm2 h0 hi e1 (by rw [e2];show m.fNo-1<m.fNo;omega)
/-- What leaves the state as it was. -/
theorem once_same{s:DtState}(hP:StateP s)(hn:NoOld s.fCat){m:DtCmd}(h:¬CmdP m∨m.fKind=0∨stR s m=bOld):stC s m=s:=by
 by_cases hm:CmdP m∧¬m.fKind=0
 ·have ht : stR s m = bOld := by
   rcases h with h | h | h
   ·exact absurd hm.1 h
   ·exact absurd h hm.2
   ·exact h
  cases hx:hitS s m with
  | none=>exact absurd ((zvu hP hm.1 hm.2 hx).2.symm.trans ht) (zxh hn m)
  | some x =>
   obtain ⟨e1,e2⟩:=zjs hP hm.1 hm.2 hx
   by_cases a:m.fNo≤x.fNo
   ·rw [e1,if_pos a]
   ·rw [e2,if_neg (by omega),if_neg (by omega)] at ht
    exact absurd ht (zxh hn m)
 ·exact (st_m hP hm).1
end Go.Proofs.Ytodmafgmdlkhoaa.Vs
end
section
namespace Go.Proofs.Ytodmafgmdlkhoaa.Vs
set_option linter.all false
set_option maxRecDepth 100000
/-! ### Draws -/
/-- A code of bytes, not a great one. -/
def Code(l:List Int):Prop:=l.length≤1048576
def andZ(a b:Int):Int:=IntKind.i64.wrap (BitVec.ofInt IntKind.i64.bits a &&& BitVec.ofInt IntKind.i64.bits b).toNat
def xorZ(a b:Int):Int:=IntKind.i64.wrap (BitVec.ofInt IntKind.i64.bits a ^^^ BitVec.ofInt IntKind.i64.bits b).toNat
theorem zb7(a b:Int):IntKind.i64.wrap (BitVec.ofInt IntKind.i64.bits a &&& BitVec.ofInt IntKind.i64.bits b).toNat=andZ a b:=(rfl)
theorem zb8(a b:Int):IntKind.i64.wrap (BitVec.ofInt IntKind.i64.bits a ^^^ BitVec.ofInt IntKind.i64.bits b).toNat=xorZ a b:=(rfl)
theorem andZ_bd(a b:Int)(n:Nat)(hb:(BitVec.ofInt 64 b).toNat=n)(hn:n<9223372036854775808):0≤andZ a b∧andZ a b≤n:=by
 have h:(BitVec.ofInt IntKind.i64.bits a &&& BitVec.ofInt IntKind.i64.bits b).toNat≤n:=by
  rw [BitVec.toNat_and]
  exact Nat.le_trans Nat.and_le_right (Nat.le_of_eq hb)
 unfold andZ
 rw [zcv (by omega) (by omega)]
 omega
/-- The number that a code is mixed to. -/
def mixN(l:List Int):Nat→Int
 | 0=>IntKind.i64.wrap (10101+l.length)
 | k+1=>andZ (IntKind.i64.wrap (IntKind.i64.wrap (IntKind.i64.wrap (mixN l k*131)+IntKind.i64.wrap (l.getD k 0))+7)) 1073741823
def cur0(l:List Int):Cur:=⟨0,mixN l (min l.length 4000)⟩
def zG14:=And.intro @zcv (And.intro @gE @tP)
theorem l1New(l:List Int)(hl:Code l):XCall Try.prog 22 [.sl 1 (l.map cU)] [] (.ptr 16 0) [] [.cells (curC l (cur0 l))]:=by
 unfold Code at hl
 refine zbt Try.func22 (by rfl) (by rfl) (by rw [Try.ntmps22];exact Nat.le_of_ble_eq_true rfl) rfl (by simp) rfl rfl ?_
 rw [Try.ntmps22]
 refine zhm   ?_
 refine AW_k [(0,_)] ⟨rfl,trivial⟩ ?_
 refine AW_x rfl rfl λK hK=>?_
 simp (disch:=omega) [zG14,cU,↓zb7,↓zb8]
 repeat' first|(refine ⟨by omega,?_⟩)|(intro _)
 refine hK _ ?_;clear hK K
 refine AW_x rfl rfl λK hK=>?_
 simp (disch:=omega) [zG14,cU,↓zb7,↓zb8]
 repeat' first|(refine ⟨by omega,?_⟩)|(intro _)
 refine hK _ ?_;clear hK K
 refine zbj ?_
 refine AW_x rfl rfl λK hK=>?_
 simp (disch:=omega) [zG14,cU,↓zb7,↓zb8]
 repeat' first|(refine ⟨by omega,?_⟩)|(intro _)
 refine hK _ ?_;clear hK K
 refine zbn ?_
 refine zbv (λmM sS=>∃(i:Nat),mM=l.length-i∧(i≤l.length∧i≤4000)∧sS = { env:=lkE [(0,.sl 1 (l.map cU)),(3,(.g (.int .i64 (mixN l i)))),(4,(.g (.int .i64 ((i:Nat)))))],ob:=lk [] }) ?_ ?_
 ·refine ⟨_,LeS.kx [] [(0,.sl 1 (l.map cU)),(3,(.g (.int .i64 (mixN l (0))))),(4,(.g (.int .i64 (((0):Nat)))))] [] (by simp [KpR,renV2,renV,zbx,zbl,zbq,zbz];try (first | rfl|(simp (disch:=omega) [mixN,zcv];done)|(rw [mixN];simp [List.getElem?_eq_getElem, *];done))) (by simp [KpOX,renO,plO,cvO,renV,pl1,zbq,zbz,zbx];try rfl) (by rfl) (by simp) (by simp) (by rfl) (by simp [formsX,List.range_succ,zbq,zbz]),_,0,rfl,?_,rfl⟩
  ·simp
 ·rintro mM sS ⟨i,rfl,⟨hi,hi2⟩,rfl⟩
  refine zbj ?_
  refine AW_x rfl rfl λK hK=>?_
  simp (disch:=omega) [zG14,cU,↓zb7,↓zb8]
  repeat' first|(exfalso;omega)|(refine ⟨λ_=>?_,λ_=>?_⟩)|(refine ⟨by omega,?_⟩)|(intro _)
  all_goals (refine hK _ ?_;clear hK K)
  all_goals
   refine zbi rfl (λhc1=>?_) (λhc1=>?_)
   ·try simp at hc1
    all_goals
     refine zbk ?_
     refine zbo ?_
     refine zbj ?_
     refine zbn ?_
     refine zb6 rfl rfl λK hK=>?_
     simp (disch:=omega) [zG14,cU,↓zb7,↓zb8]
     repeat' first|(exfalso;omega)|(refine ⟨λ_=>?_,λ_=>?_⟩)|(refine ⟨by omega,?_⟩)|(intro _)
     all_goals (refine hK _ ?_;clear hK K)
     all_goals
      refine zbo ?_
      refine zb6 rfl rfl λK hK=>?_
      simp (disch:=omega) [zG14,cU,↓zb7,↓zb8]
      repeat' first|(refine ⟨by omega,?_⟩)|(intro _)
      refine hK _ ?_;clear hK K
      refine ⟨_,LeS.kx [] [(0,.sl 1 (l.map cU)),(3,(.g (.int .i64 (mixN l (i+1))))),(4,(.g (.int .i64 (((i+1):Nat)))))] [] (by simp [KpR,renV2,renV,zbx,zbl,zbq,zbz];try (first | rfl|(simp (disch:=omega) [mixN,zcv];done)|(rw [mixN];simp [List.getElem?_eq_getElem, *];done))) (by simp [KpOX,renO,plO,cvO,renV,pl1,zbq,zbz,zbx];try rfl) (by rfl) (by simp) (by simp) (by rfl) (by simp [formsX,List.range_succ,zbq,zbz]),_,?_,i+1,rfl,?_,rfl⟩
      ·omega
      ·omega
   try simp at hc1
   refine zb0 ?_
   refine zbo ?_
   refine AW_x rfl rfl λK hK=>?_
   simp (disch:=omega) [zG14,cU,↓zb7,↓zb8]
   repeat' first|(exfalso;omega)|(refine ⟨λ_=>?_,λ_=>?_⟩)|(refine ⟨by omega,?_⟩)|(intro _)
   all_goals (refine hK _ ?_;clear hK K)
   all_goals
    refine zbp (zb5 [512] [] (by simp [zG13]) (by simp) ?_)
    simp (disch:=omega) [zG14,cU,↓zb7,↓zb8,curC]
    all_goals (unfold cur0;have e:i=min l.length 4000:=(by omega);rw [←e];exact ⟨rfl,rfl⟩)
def nxH(h:Int):Int:=IntKind.i64.wrap (IntKind.i64.wrap (h*6364136223846793005)+1442695040888963407)
def rawX(h:Int):Int:=andZ (xorZ (h.fdiv (2^min 33 IntKind.i64.bits)) (h.fdiv (2^min 45 IntKind.i64.bits))) 255
def byte(l:List Int)(c:Cur):Int:=if c.i<l.length then andZ (IntKind.i64.wrap (rawX (nxH c.h)+IntKind.i64.wrap (l.getD c.i 0))) 255 else rawX (nxH c.h)
def stp(l:List Int)(c:Cur):Cur:=⟨if c.i<l.length then c.i+1 else c.i,nxH c.h⟩
theorem zm8(l:List Int)(c:Cur):0≤byte l c∧byte l c≤255:=by
 unfold byte rawX
 split<;>exact andZ_bd _ _ 255 (by decide) (by decide)
theorem zpi(l:List Int)(hl:Code l)(c:Cur):XCall Try.prog 56 [.ptr 8 0] [.cells (curC l c)] (.g (.int .i64 (byte l c))) [.cells (curC l (stp l c))] []:=by
 unfold Code at hl
 unfold curC
 refine zbt Try.func56 (by rfl) (by rfl) (by rw [Try.ntmps56];exact Nat.le_of_ble_eq_true rfl) rfl (by simp) rfl rfl ?_
 rw [Try.ntmps56]
 refine zh1 (.cells [.sl 1 (l.map cU),.g (.int .i64 (c.i:Int)),.g (.int .i64 c.h)]) (by simp [cvO]<;>assumption) ?_
 refine AW_k [(0,_)] ⟨rfl,trivial⟩ ?_
 refine AW_x rfl rfl λK hK=>?_
 simp (disch:=omega) [zG14,cU,curC,↓zb7,↓zb8]
 repeat' first|(refine ⟨by omega,?_⟩)|(intro _)
 refine hK _ ?_;clear hK K
 refine AW_x rfl rfl λK hK=>?_
 simp (disch:=omega) [zG14,cU,curC,↓zb7,↓zb8]
 repeat' first|(refine ⟨by omega,?_⟩)|(intro _)
 refine hK _ ?_;clear hK K
 refine AW_d rfl mix (by kernel_rfl) (by kernel_rfl) λK hK=>?_
 simp (disch:=omega) [zG14,cU,curC,↓zb7,↓zb8]
 repeat' first|(refine ⟨by omega,?_⟩)|(intro _)
 refine hK _ _ (by kernel_rfl) ?_;clear hK K
 refine zbj ?_
 refine AW_d rfl mix (by kernel_rfl) (by kernel_rfl) λK hK=>?_
 simp (disch:=omega) [zG14,cU,curC,↓zb7,↓zb8]
 repeat' first|(refine ⟨by omega,?_⟩)|(intro _)
 refine hK _ _ (by kernel_rfl) ?_;clear hK K
 refine zbi rfl (λhc2=>?_) (λhc2=>?_)
 ·try simp at hc2
  all_goals
   refine AW_d rfl mix (by kernel_rfl) (by kernel_rfl) λK hK=>?_
   simp (disch:=omega) [zG14,cU,curC,↓zb7,↓zb8]
   repeat' first|(exfalso;omega)|(refine ⟨λ_=>?_,λ_=>?_⟩)|(refine ⟨by omega,?_⟩)|(intro _)
   all_goals (refine hK _ _ (by kernel_rfl) ?_;clear hK K)
   all_goals
    refine zb6 rfl rfl λK hK=>?_
    simp (disch:=omega) [zG14,cU,curC,↓zb7,↓zb8]
    repeat' first|(refine ⟨by omega,?_⟩)|(intro _)
    refine hK _ ?_;clear hK K
    refine zbo ?_
    refine AW_x rfl rfl λK hK=>?_
    simp (disch:=omega) [zG14,cU,curC,↓zb7,↓zb8]
    repeat' first|(refine ⟨by omega,?_⟩)|(intro _)
    refine hK _ ?_;clear hK K
    refine zbp (zb5 [] [] (by simp [zG13]) (by simp) ?_)
    simp (disch:=omega) [zG14,cU,curC,↓zb7,↓zb8,curC]
    all_goals first|(simp [byte,stp,rawX,nxH,hc2,List.getElem?_eq_getElem];done)|(simp [byte,stp,rawX,nxH,Nat.not_lt.2 hc2];done)
 try simp at hc2
 refine zbk ?_
 refine zbo ?_
 refine AW_x rfl rfl λK hK=>?_
 simp (disch:=omega) [zG14,cU,curC,↓zb7,↓zb8]
 repeat' first|(exfalso;omega)|(refine ⟨λ_=>?_,λ_=>?_⟩)|(refine ⟨by omega,?_⟩)|(intro _)
 all_goals (refine hK _ ?_;clear hK K)
 all_goals
  refine zbp (zb5 [] [] (by simp [zG13]) (by simp) ?_)
  simp (disch:=omega) [zG14,cU,curC,↓zb7,↓zb8,curC]
  all_goals first|(simp [byte,stp,rawX,nxH,hc2,List.getElem?_eq_getElem];done)|(simp [byte,stp,rawX,nxH,Nat.not_lt.2 hc2];done)
def stp4(l:List Int)(c:Cur):Cur:=stp l (stp l (stp l (stp l c)))
def four(l:List Int)(c:Cur):Int:=byte l c*16777216+byte l (stp l c)*65536+byte l (stp l (stp l c))*256+byte l (stp l (stp l (stp l c)))
def below(l:List Int)(n:Int)(c:Cur):Int:=if n≤0 then 0 else if n≤256 then byte l c % n else four l c % n
def belowS(l:List Int)(n:Int)(c:Cur):Cur:=if n≤0 then c else if n≤256 then stp l c else stp4 l c
theorem zdh(l:List Int)(n:Int)(c:Cur):0≤below l n c∧(0<n→below l n c<n):=by
 unfold below
 split
 ·omega
 ·split
  ·have:=Int.emod_nonneg (byte l c) (show n≠0 by omega);have:=Int.emod_lt_of_pos (byte l c) (show 0<n by omega);omega
  ·have:=Int.emod_nonneg (four l c) (show n≠0 by omega);have:=Int.emod_lt_of_pos (four l c) (show 0<n by omega);omega
theorem zdx(l:List Int)(hl:Code l)(c:Cur)(n:Int):XCall Try.prog 26 [.ptr 8 0,(.g (.int .i64 (n)))] [.cells (curC l c)] (.g (.int .i64 (below l n c))) [.cells (curC l (belowS l n c))] []:=by
 have h1:=zm8 l c;have h2:=zm8 l (stp l c);have h3:=zm8 l (stp l (stp l c));have h4:=zm8 l (stp l (stp l (stp l c)))
 refine zbt Try.func26 (by rfl) (by rfl) (by rw [Try.ntmps26];exact Nat.le_of_ble_eq_true rfl) rfl (by simp) rfl rfl ?_
 rw [Try.ntmps26]
 refine zh1 (.cells (curC l c)) (by simp [cvO]<;>assumption) ?_
 refine AW_k [(0,_),(1,_)] ⟨rfl,rfl,trivial⟩ ?_
 refine AW_x rfl rfl λK hK=>?_
 simp (disch:=omega) [zG14,cU,↓zb7,↓zb8]
 repeat' first|(refine ⟨by omega,?_⟩)|(intro _)
 refine hK _ ?_;clear hK K
 refine zbj ?_
 refine AW_x rfl rfl λK hK=>?_
 simp (disch:=omega) [zG14,cU,↓zb7,↓zb8]
 repeat' first|(refine ⟨by omega,?_⟩)|(intro _)
 refine hK _ ?_;clear hK K
 refine zbi rfl (λhc3=>?_) (λhc3=>?_)
 ·try simp at hc3
  all_goals
   refine AW_x rfl rfl λK hK=>?_
   simp (disch:=omega) [zG14,cU,↓zb7,↓zb8]
   repeat' first|(exfalso;omega)|(refine ⟨λ_=>?_,λ_=>?_⟩)|(refine ⟨by omega,?_⟩)|(intro _)
   all_goals (refine hK _ ?_;clear hK K)
   all_goals
    refine zbp (zb5 [] [] (by simp [zG13]) (by simp) ?_)
    simp (disch:=omega) [zG14,cU,↓zb7,↓zb8]
    all_goals (unfold below belowS stp4 four;simp only [Int.not_le.2, *,if_true,if_false,ite_true,ite_false];first | exact ⟨rfl,rfl⟩|(simp (disch:=omega) [Int.tmod_eq_emod_of_nonneg];done) | trace_state)
 try simp at hc3
 refine zbk ?_
 refine zbo ?_
 refine zbj ?_
 refine AW_x rfl rfl λK hK=>?_
 simp (disch:=omega) [zG14,cU,↓zb7,↓zb8]
 repeat' first|(exfalso;omega)|(refine ⟨λ_=>?_,λ_=>?_⟩)|(refine ⟨by omega,?_⟩)|(intro _)
 all_goals (refine hK _ ?_;clear hK K)
 all_goals
  refine zbi rfl (λhc4=>?_) (λhc4=>?_)
  ·try simp at hc4
   all_goals
    refine AW_x rfl rfl λK hK=>?_
    simp (disch:=omega) [zG14,cU,↓zb7,↓zb8]
    repeat' first|(exfalso;omega)|(refine zc3 (λ_=>xs_p xs_z) (zpi l hl _) rfl rfl ?_;simp (disch:=omega) [zG14,cU,↓zb7,↓zb8])|(refine ⟨λ_=>?_,λ_=>?_⟩)|(refine ⟨by omega,?_⟩)|(intro _)
    all_goals (refine hK _ ?_;clear hK K)
    all_goals
     refine zbp (zb5 [] [] (by simp [zG13]) (by simp) ?_)
     simp (disch:=omega) [zG14,cU,↓zb7,↓zb8]
     all_goals (unfold below belowS stp4 four;simp only [Int.not_le.2, *,if_true,if_false,ite_true,ite_false];first | exact ⟨rfl,rfl⟩|(simp (disch:=omega) [Int.tmod_eq_emod_of_nonneg];done) | trace_state)
  try simp at hc4
  refine zbk ?_
  refine zbo ?_
  refine AW_x rfl rfl λK hK=>?_
  simp (disch:=omega) [zG14,cU,↓zb7,↓zb8]
  repeat' first|(exfalso;omega)|(refine zc3 (λ_=>xs_p xs_z) (zpi l hl _) rfl rfl ?_;simp (disch:=omega) [zG14,cU,↓zb7,↓zb8])|(refine ⟨λ_=>?_,λ_=>?_⟩)|(refine ⟨by omega,?_⟩)|(intro _)
  all_goals (refine hK _ ?_;clear hK K)
  all_goals
   refine AW_x rfl rfl λK hK=>?_
   simp (disch:=omega) [zG14,cU,↓zb7,↓zb8]
   repeat' first|(exfalso;omega)|(refine zc3 (λ_=>xs_p xs_z) (zpi l hl _) rfl rfl ?_;simp (disch:=omega) [zG14,cU,↓zb7,↓zb8])|(refine ⟨by omega,?_⟩)|(intro _)
   refine hK _ ?_;clear hK K
   refine AW_x rfl rfl λK hK=>?_
   simp (disch:=omega) [zG14,cU,↓zb7,↓zb8]
   repeat' first|(exfalso;omega)|(refine zc3 (λ_=>xs_p xs_z) (zpi l hl _) rfl rfl ?_;simp (disch:=omega) [zG14,cU,↓zb7,↓zb8])|(refine ⟨by omega,?_⟩)|(intro _)
   refine hK _ ?_;clear hK K
   refine AW_x rfl rfl λK hK=>?_
   simp (disch:=omega) [zG14,cU,↓zb7,↓zb8]
   repeat' first|(exfalso;omega)|(refine zc3 (λ_=>xs_p xs_z) (zpi l hl _) rfl rfl ?_;simp (disch:=omega) [zG14,cU,↓zb7,↓zb8])|(refine ⟨by omega,?_⟩)|(intro _)
   refine hK _ ?_;clear hK K
   refine AW_x rfl rfl λK hK=>?_
   simp (disch:=omega) [zG14,cU,↓zb7,↓zb8]
   repeat' first|(refine ⟨by omega,?_⟩)|(intro _)
   refine hK _ ?_;clear hK K
   refine zbp (zb5 [] [] (by simp [zG13]) (by simp) ?_)
   simp (disch:=omega) [zG14,cU,↓zb7,↓zb8]
   all_goals (unfold below belowS stp4 four;simp only [Int.not_le.2, *,if_true,if_false,ite_true,ite_false];first | exact ⟨rfl,rfl⟩|(simp (disch:=omega) [Int.tmod_eq_emod_of_nonneg];done) | trace_state)
theorem zko(l:List Int)(hl:Code l)(c:Cur)(n:Int):XCall Try.prog 25 [.ptr 8 0,(.g (.int .i64 (n)))] [.cells (curC l c)] (.g (.bool (decide (below l n c=0)))) [.cells (curC l (belowS l n c))] []:=by
 refine zbt Try.func25 (by rfl) (by rfl) (by rw [Try.ntmps25];exact Nat.le_of_ble_eq_true rfl) rfl (by simp) rfl rfl ?_
 rw [Try.ntmps25]
 refine zh1 (.cells (curC l c)) (by simp [cvO]<;>assumption) ?_
 refine AW_k [(0,_),(1,_)] ⟨rfl,rfl,trivial⟩ ?_
 refine AW_x rfl rfl λK hK=>?_
 simp (disch:=omega) [zG14,cU,↓zb7,↓zb8]
 repeat' first|(refine ⟨by omega,?_⟩)|(intro _)
 refine hK _ ?_;clear hK K
 refine AW_x rfl rfl λK hK=>?_
 simp (disch:=omega) [zG14,cU,↓zb7,↓zb8]
 repeat' first|(exfalso;omega)|(refine zc3 (λ_=>xs_p (xs_g xs_z)) (zdx l hl _ _) rfl rfl ?_;simp (disch:=omega) [zG14,cU,↓zb7,↓zb8])|(refine ⟨by omega,?_⟩)|(intro _)
 refine hK _ ?_;clear hK K
 refine zbp (zb5 [] [] (by simp [zG13]) (by simp) ?_)
 simp (disch:=omega) [zG14,cU,↓zb7,↓zb8]
 all_goals first | rfl|(simp;done) | trace_state
def pickZ(xs:List Int)(n:Int):Int:=xs.getD n.toNat 0
theorem zcz(l:List Int)(hl:Code l)(c:Cur)(xs:List Int)(hx:0<xs.length∧xs.length≤1048576):XCall Try.prog 52 [.ptr 8 0,.arr 9 0 xs.length] [.cells (curC l c),.own 1 (xs.map cI)] (.g (.int .i64 (pickZ xs (below l xs.length c)))) [.cells (curC l (belowS l xs.length c)),.own 1 (xs.map cI)] []:=by
 have hb:=zdh l xs.length c
 refine zbt Try.func52 (by rfl) (by rfl) (by rw [Try.ntmps52];exact Nat.le_of_ble_eq_true rfl) rfl (by simp) rfl rfl ?_
 rw [Try.ntmps52]
 refine zx7 (.cells (curC l c)) (.own 1 (xs.map cI)) (by simp [cvO]<;>assumption) (by simp [cvO]<;>assumption) ?_
 refine AW_k [(0,_),(1,_)] ⟨rfl,rfl,trivial⟩ ?_
 refine AW_x rfl rfl λK hK=>?_
 simp (disch:=omega) [zG14,cI,cS,cU,↓zb7,↓zb8]
 repeat' first|(refine ⟨by omega,?_⟩)|(intro _)
 refine hK _ ?_;clear hK K
 refine AW_x rfl rfl λK hK=>?_
 simp (disch:=omega) [zG14,cI,cS,cU,↓zb7,↓zb8]
 repeat' first|(exfalso;omega)|(refine zc3 (λ_=>xs_p (xs_g xs_z)) (zdx l hl _ _) rfl rfl ?_;simp (disch:=omega) [zG14,cI,cS,cU,↓zb7,↓zb8])|(refine ⟨by omega,?_⟩)|(intro _)
 refine hK _ ?_;clear hK K
 refine zbp (zb5 [] [] (by simp [zG13]) (by simp) ?_)
 simp (disch:=omega) [zG14,cI,cS,cU,↓zb7,↓zb8,cI]
 all_goals (unfold pickZ;simp [List.getElem?_eq_getElem, *];done)
theorem zhb(l:List Int)(hl:Code l)(c:Cur)(xs:List (List UInt8))(hx:0<xs.length∧xs.length≤1048576):XCall Try.prog 54 [.ptr 8 0,.arr 9 0 xs.length] [.cells (curC l c),.own 1 (xs.map cS)] (.s (xs.getD (below l xs.length c).toNat [])) [.cells (curC l (belowS l xs.length c)),.own 1 (xs.map cS)] []:=by
 have hb:=zdh l xs.length c
 refine zbt Try.func54 (by rfl) (by rfl) (by rw [Try.ntmps54];exact Nat.le_of_ble_eq_true rfl) rfl (by simp) rfl rfl ?_
 rw [Try.ntmps54]
 refine zx7 (.cells (curC l c)) (.own 1 (xs.map cS)) (by simp [cvO]<;>assumption) (by simp [cvO]<;>assumption) ?_
 refine AW_k [(0,_),(1,_)] ⟨rfl,rfl,trivial⟩ ?_
 refine AW_x rfl rfl λK hK=>?_
 simp (disch:=omega) [zG14,cI,cS,cU,↓zb7,↓zb8]
 repeat' first|(refine ⟨by omega,?_⟩)|(intro _)
 refine hK _ ?_;clear hK K
 refine AW_x rfl rfl λK hK=>?_
 simp (disch:=omega) [zG14,cI,cS,cU,↓zb7,↓zb8]
 repeat' first|(exfalso;omega)|(refine zc3 (λ_=>xs_p (xs_g xs_z)) (zdx l hl _ _) rfl rfl ?_;simp (disch:=omega) [zG14,cI,cS,cU,↓zb7,↓zb8])|(refine ⟨by omega,?_⟩)|(intro _)
 refine hK _ ?_;clear hK K
 refine zbp (zb5 [] [] (by simp [zG13]) (by simp) ?_)
 simp (disch:=omega) [zG14,cI,cS,cU,↓zb7,↓zb8,cS]
 all_goals (simp [List.getElem?_eq_getElem, *];done)
end Go.Proofs.Ytodmafgmdlkhoaa.Vs
end
section
namespace Go.Proofs.Ytodmafgmdlkhoaa.Vs
set_option linter.all false
set_option maxRecDepth 100000
set_option maxHeartbeats 2000000
attribute [local simp ↓] zvi zOr_eq zvj zvk zvl zvm
attribute [local simp] zmp zAnd_w zsb zNot_w
theorem zjt(x:Int):PCall Try.prog 110 [(.g (.int .i64 (x)))] (.g (.int .i64 (x % 4294967296))):=by
 refine zbr Try.func110 (by rfl) (by rfl) (by rw [Try.ntmps110];exact Nat.le_of_ble_eq_true rfl) rfl (by decide) ?_
 rw [Try.ntmps110]
 refine AW_k [(0,_)] ⟨rfl,trivial⟩ ?_
 refine AW_r rfl rfl λK hK=>?_
 simp (disch:=omega)
 repeat' first|(refine ⟨by omega,?_⟩)|(intro _)
 refine hK _ ?_;clear hK K
 refine AW_r rfl rfl λK hK=>?_
 simp (disch:=omega)
 repeat' first|(refine ⟨by omega,?_⟩)|(intro _)
 refine hK _ ?_;clear hK K
 refine zbp (zcc ?_)
 simp (disch:=omega)
 all_goals first | rfl | trace_state
theorem wrapU{n:Int}(h:0≤n∧n<18446744073709551616):IntKind.u64.wrap n=n:=by
 simp [IntKind.wrap,IntKind.bits,IntKind.signed]
 omega
theorem zhc(x:W32)(z:Int)(hz:0<z∧z<32):PCall Try.prog 109 [(.g (.int .i64 (wI x))),.g (.int .u64 z)] (.g (.int .i64 (wI (x.rotateRight z.toNat)))):=by
 have hw:=wrapU (n:=32-z) (by omega)
 have hr:=rot_w x z hz
 refine zbr Try.func109 (by rfl) (by rfl) (by rw [Try.ntmps109];exact Nat.le_of_ble_eq_true rfl) rfl (by decide) ?_
 rw [Try.ntmps109]
 refine AW_k [(0,_),(1,_)] ⟨rfl,rfl,trivial⟩ ?_
 refine AW_r rfl rfl λK hK=>?_
 simp (disch:=omega) [hw,hr]
 repeat' first|(refine ⟨by omega,?_⟩)|(intro _)
 refine hK _ ?_;clear hK K
 refine AW_r rfl rfl λK hK=>?_
 simp (disch:=omega) [hw,hr]
 repeat' first|(exfalso;omega)|(refine zc5 (zbg zco zbm) (zjt _) rfl ?_;simp (disch:=omega) [hw,hr])|(refine ⟨by omega,?_⟩)|(intro _)
 refine hK _ ?_;clear hK K
 refine zbp (zcc ?_)
 simp (disch:=omega) [hw,hr]
 all_goals first | rfl | exact hr | trace_state
attribute [local simp] cW shaK List.map_cons List.map_nil
attribute [-simp] zmp zAnd_w zsb zNot_w
theorem l3Keys:PCall Try.prog 106 [] (.sl 1 (shaK.map cW)):=by
 refine zbr Try.func106 (by rfl) (by rfl) (by rw [Try.ntmps106];exact Nat.le_of_ble_eq_true rfl) rfl (by decide) ?_
 rw [Try.ntmps106]
 refine AW_k [] trivial ?_
 refine AW_r rfl rfl λK hK=>?_
 simp (disch:=omega)
 repeat' first|(refine ⟨by omega,?_⟩)|(intro _)
 refine hK _ ?_;clear hK K
 refine AW_r rfl rfl λK hK=>?_
 simp (disch:=omega)
 repeat' first|(refine ⟨by omega,?_⟩)|(intro _)
 refine hK _ ?_;clear hK K
 refine zbp (zcc ?_)
 simp (disch:=omega) [wI]
 all_goals first | rfl | trace_state
end Go.Proofs.Ytodmafgmdlkhoaa.Vs
end
