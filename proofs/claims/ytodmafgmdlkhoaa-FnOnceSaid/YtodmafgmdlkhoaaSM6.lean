import Derived.Test.YtodmafgmdlkhoaaSM5
import Derived.Test.YtodmafgmdlkhoaaSM2
section
namespace Go.Proofs.Ytodmafgmdlkhoaa.Vs
set_option linter.all false
set_option maxRecDepth 100000
set_option maxHeartbeats 1000000
theorem dB_t{p:Prop}(h:decB p=true):p:=by rwa [zba] at h
theorem dB_f{p:Prop}(h:decB p=false):¬p:=by rwa [zbf] at h
theorem nam_at(l:List DtCSet)(i:Nat)(h:i<l.length)(hb:(spc (namL l)).length≤1073741824):spc ((namL l).take (i+1))=(if i=0 then [] else spc ((namL l).take i)++[32])++l[i].fName∧(spc ((namL l).take i)).length+l[i].fName.length+1≤1073741825:=by
 have hl:i<(namL l).length:=by simpa [namL] using h
 have e:(namL l)[i]=l[i].fName:=by simp [namL]
 have h1:=zlb (namL l) i hl
 have h2:=(zw1 (namL l) i hl hb).1
 rw [e] at h2
 refine ⟨?_,by omega⟩
 rw [h1,e]
 split<;>simp
attribute [local simp] DtCatalog.cells DtCmd.cells DtCSet.cells zbe and_assoc zcg len0
def zG11:=And.intro @zba @zbf
def zG12:=And.intro @zbq (And.intro @zbz @zbx)
theorem specCatDo(c:DtCatalog)(m:DtCmd)(hs:DtCatalog.sz c≤1048576)(hm:DtCmd.sz m≤1048576)(hch:m.fChunks.length≤1048576):XCall Try.prog 35 [.agg (DtCatalog.cells c),.agg (DtCmd.cells m)] [] (.tup [.agg [.arr 16 0 (catS c m).length],.s (catR c m)]) [] [.own 2 ((catS c m).map DtCSet.cells)]:=by
 have hB:=zqh c hs
 have hB1:=hB.1
 refine zbt Try.func35 (by rfl) (by rfl) (by rw [Try.ntmps35];exact Nat.le_of_ble_eq_true rfl) rfl (by simp) rfl rfl ?_
 rw [Try.ntmps35]
 refine zhm   ?_
 refine AW_k [(0,_),(1,_)] ⟨rfl,rfl,trivial⟩ ?_
 refine AW_x rfl rfl λK hK=>?_
 simp (disch:=omega)
 repeat' first|(refine ⟨by omega,?_⟩)|(intro _)
 refine hK _ ?_;clear hK K
 refine zbj ?_
 refine AW_x rfl rfl λK hK=>?_
 simp (disch:=omega)
 repeat' first|(exfalso;omega)|(refine zd5 (zbg (zbw rfl) zbm) (zmq c (by omega)) rfl ?_;simp (disch:=omega))|(refine zd6 (zmq c (by omega)) (by rfl) ?_ ?_;(focus (simp (disch:=omega) [zbe];done));simp (disch:=omega))|(refine ⟨by omega,?_⟩)|(simp (disch:=omega))|(intro _)
 refine hK _ ?_;clear hK K
 refine zbi rfl (λhc1=>?_) (λhc1=>?_)
 ·try simp [zG11,zbd,zbc] at hc1
  all_goals
   refine AW_x rfl rfl λK hK=>?_
   simp (disch:=omega)
   repeat' first|(exfalso;omega)|(refine ⟨λ_=>?_,λ_=>?_⟩)|(refine ⟨by omega,?_⟩)|(simp (disch:=omega))|(intro _)
   all_goals (refine hK _ ?_;clear hK K)
   all_goals
    refine zbp (zb5 [1000] [(1000,2)] (by simp [zG12,List.range_succ]) (by simp) ?_)
    simp (disch:=omega)
    all_goals first|(have ⟨h1,h2⟩:=zmw hc1 (m:=m);exact ⟨h1,h2,h1⟩)|(have ⟨h1,h2⟩:=zmx hc1 (dB_f ‹decB (CmdP m)=false›);rw [h1,h2];exact ⟨rfl,rfl,rfl⟩)|(have ⟨h1,h2⟩:=zmy hc1 (dB_t ‹decB (CmdP m)=true›) hc2;rw [h1,h2];exact ⟨rfl,rfl,rfl⟩)|(have ⟨h1,h2⟩:=zmz hc1 (dB_t ‹decB (CmdP m)=true›) hc3;rw [h1,h2];exact ⟨rfl,rfl,rfl⟩)|(have ⟨h1,h2⟩:=zm0 hc1 (dB_t ‹decB (CmdP m)=true›) hc4;rw [h1,h2,htf];exact ⟨rfl,rfl,rfl⟩)|(have ⟨h1,h2⟩:=zm1 hc1 (dB_t ‹decB (CmdP m)=true›) hc2 hc3 hc4 hc7;rw [h1,h2];exact ⟨rfl,rfl,rfl⟩)|(rw [hS,hR];exact ⟨rfl,rfl,rfl⟩) | trace_state
 ·try simp [zG11,zbd,zbc] at hc1
  all_goals
   refine zbk ?_
   refine zbo ?_
   obtain ⟨hb1,hb2,hb3,hb4⟩:=catP_bd hc1
   refine AW_x rfl rfl λK hK=>?_
   simp (disch:=omega)
   repeat' first|(exfalso;omega)|(refine zc9 [] true [] (zwz c hB) ?_ ?_ ?_;(focus (simp [List.range_succ,nmC];done));(focus (simp (disch:=omega) [zbe];done));simp (disch:=omega))|(refine ⟨λ_=>?_,λ_=>?_⟩)|(refine ⟨by omega,?_⟩)|(simp (disch:=omega))|(intro _)
   all_goals (refine hK _ ?_;clear hK K)
   all_goals
    refine zbj ?_
    refine AW_x rfl rfl λK hK=>?_
    simp (disch:=omega)
    repeat' first|(exfalso;omega)|(refine zd5 (zbg (zbw rfl) zbm) (zfg m (by omega)) rfl ?_;simp (disch:=omega))|(refine zd6 (zfg m (by omega)) (by rfl) ?_ ?_;(focus (simp (disch:=omega) [zbe];done));simp (disch:=omega))|(refine ⟨λ_=>?_,λ_=>?_⟩)|(refine ⟨by omega,?_⟩)|(simp (disch:=omega))|(intro _)
    all_goals (refine hK _ ?_;clear hK K)
    all_goals
     refine zbi rfl (λhc2=>?_) (λhc2=>?_)
     ·try simp [zG11,zbd,zbc] at hc2
      all_goals
       refine AW_x rfl rfl λK hK=>?_
       simp (disch:=omega)
       repeat' first|(exfalso;omega)|(refine ⟨λ_=>?_,λ_=>?_⟩)|(refine ⟨by omega,?_⟩)|(simp (disch:=omega))|(intro _)
       all_goals (refine hK _ ?_;clear hK K)
       all_goals
        refine zbp (zb5 [320] [] (by simp [zG12,List.range_succ]) (by simp) ?_)
        simp (disch:=omega)
        all_goals first|(have ⟨h1,h2⟩:=zmw hc1 (m:=m);exact ⟨h1,h2,h1⟩)|(have ⟨h1,h2⟩:=zmx hc1 (dB_f ‹decB (CmdP m)=false›);rw [h1,h2];exact ⟨rfl,rfl,rfl⟩)|(have ⟨h1,h2⟩:=zmy hc1 (dB_t ‹decB (CmdP m)=true›) hc2;rw [h1,h2];exact ⟨rfl,rfl,rfl⟩)|(have ⟨h1,h2⟩:=zmz hc1 (dB_t ‹decB (CmdP m)=true›) hc3;rw [h1,h2];exact ⟨rfl,rfl,rfl⟩)|(have ⟨h1,h2⟩:=zm0 hc1 (dB_t ‹decB (CmdP m)=true›) hc4;rw [h1,h2,htf];exact ⟨rfl,rfl,rfl⟩)|(have ⟨h1,h2⟩:=zm1 hc1 (dB_t ‹decB (CmdP m)=true›) hc2 hc3 hc4 hc7;rw [h1,h2];exact ⟨rfl,rfl,rfl⟩)|(rw [hS,hR];exact ⟨rfl,rfl,rfl⟩) | trace_state
     ·try simp [zG11,zbd,zbc] at hc2
      all_goals
       refine zbk ?_
       refine zbo ?_
       refine zbj ?_
       refine AW_x rfl rfl λK hK=>?_
       simp (disch:=omega)
       repeat' first|(exfalso;omega)|(refine ⟨λ_=>?_,λ_=>?_⟩)|(refine ⟨by omega,?_⟩)|(simp (disch:=omega))|(intro _)
       all_goals (refine hK _ ?_;clear hK K)
       all_goals
        refine zbi rfl (λhc3=>?_) (λhc3=>?_)
        ·try simp [zG11,zbd,zbc] at hc3
         all_goals
          refine AW_x rfl rfl λK hK=>?_
          simp (disch:=omega)
          repeat' first|(exfalso;omega)|(refine zc9 [320] true [] (zzw c.fSets (by omega) (by omega) m.fSet) ?_ ?_ ?_;(focus (simp [List.range_succ,nmC];done));(focus (simp (disch:=omega) [zbe];done));simp (disch:=omega))|(refine ⟨λ_=>?_,λ_=>?_⟩)|(refine ⟨by omega,?_⟩)|(simp (disch:=omega))|(intro _)
          all_goals (refine hK _ ?_;clear hK K)
          all_goals
           refine AW_x rfl rfl λK hK=>?_
           simp (disch:=omega)
           repeat' first|(refine ⟨by omega,?_⟩)|(simp (disch:=omega))|(intro _)
           refine hK _ ?_;clear hK K
           refine zbp (zb5 [592] [] (by simp [zG12,List.range_succ]) (by simp) ?_)
           simp (disch:=omega)
           all_goals first|(have ⟨h1,h2⟩:=zmw hc1 (m:=m);exact ⟨h1,h2,h1⟩)|(have ⟨h1,h2⟩:=zmx hc1 (dB_f ‹decB (CmdP m)=false›);rw [h1,h2];exact ⟨rfl,rfl,rfl⟩)|(have ⟨h1,h2⟩:=zmy hc1 (dB_t ‹decB (CmdP m)=true›) hc2;rw [h1,h2];exact ⟨rfl,rfl,rfl⟩)|(have ⟨h1,h2⟩:=zmz hc1 (dB_t ‹decB (CmdP m)=true›) hc3;rw [h1,h2];exact ⟨rfl,rfl,rfl⟩)|(have ⟨h1,h2⟩:=zm0 hc1 (dB_t ‹decB (CmdP m)=true›) hc4;rw [h1,h2,htf];exact ⟨rfl,rfl,rfl⟩)|(have ⟨h1,h2⟩:=zm1 hc1 (dB_t ‹decB (CmdP m)=true›) hc2 hc3 hc4 hc7;rw [h1,h2];exact ⟨rfl,rfl,rfl⟩)|(rw [hS,hR];exact ⟨rfl,rfl,rfl⟩) | trace_state
        ·try simp [zG11,zbd,zbc] at hc3
         all_goals
          refine zbk ?_
          refine zbo ?_
          refine zbj ?_
          refine AW_x rfl rfl λK hK=>?_
          simp (disch:=omega)
          repeat' first|(exfalso;omega)|(refine ⟨λ_=>?_,λ_=>?_⟩)|(refine ⟨by omega,?_⟩)|(simp (disch:=omega))|(intro _)
          all_goals (refine hK _ ?_;clear hK K)
          all_goals
           refine zbi rfl (λhc4=>?_) (λhc4=>?_)
           ·try simp [zG11,zbd,zbc] at hc4
            all_goals
             refine AW_x rfl rfl λK hK=>?_
             simp (disch:=omega)
             repeat' first|(exfalso;omega)|(refine ⟨λ_=>?_,λ_=>?_⟩)|(refine ⟨by omega,?_⟩)|(simp (disch:=omega))|(intro _)
             all_goals (refine hK _ ?_;clear hK K)
             all_goals
              refine zbj ?_
              refine AW_x rfl rfl λK hK=>?_
              simp (disch:=omega)
              repeat' first|(refine ⟨by omega,?_⟩)|(intro _)
              refine hK _ ?_;clear hK K
              refine zbn ?_
              refine zbv (λmM sS=>∃(i:Nat),mM=c.fSets.length-i∧(i≤c.fSets.length)∧sS = { env:=lkE [(3,.ptr 64 0),(4,.ptr 80 0),(6,.ptr 112 0),(9,.s (spc ((namL c.fSets).take i))),(10,(.g (.int .i64 ((i:Nat)))))],ob:=lk [(64,.cells (DtCmd.cells m)),(80,.cells [.g (.slice none 0 0)]),(112,.cells [.arr 320 0 c.fSets.length]),(320,.own 2 (c.fSets.map DtCSet.cells))] }) ?_ ?_
              ·refine ⟨_,LeS.kx [(64,64),(80,80),(112,112),(320,320)] [(3,.ptr 64 0),(4,.ptr 80 0),(6,.ptr 112 0),(9,.s (spc ((namL c.fSets).take (0)))),(10,(.g (.int .i64 (((0):Nat)))))] [(64,.cells (DtCmd.cells m)),(80,.cells [.g (.slice none 0 0)]),(112,.cells [.arr 320 0 c.fSets.length]),(320,.own 2 (c.fSets.map DtCSet.cells))] (by simp [zG12,KpR,renV2,renV,zbl,DtCSet.cells,DtCmd.cells];all_goals first | rfl|(simp [spc];done)|(rw [htk];split<;>first | rfl|(simp [spc];done)|(subst_vars;simp [spc];done)|(exfalso;omega)|(simp_all;done)) | trace_state) (by simp [zG12,KpOX,renO,plO,cvO,renV,pl1,DtCSet.cells,DtCmd.cells];try rfl) (by rfl) (by simp) (by simp) (by rfl) (by simp [formsX,List.range_succ,zbq,zbz]),_,0,rfl,?_,rfl⟩
               ·simp
              ·rintro mM sS ⟨i,rfl,hi,rfl⟩
               refine zbj ?_
               refine AW_x rfl rfl λK hK=>?_
               simp (disch:=omega)
               repeat' first|(refine ⟨by omega,?_⟩)|(simp (disch:=omega))|(intro _)
               refine hK _ ?_;clear hK K
               refine zbi rfl (λhc5=>?_) (λhc5=>?_)
               ·try simp [zG11,zbd,zbc] at hc5
                all_goals
                 have hg:(c.fSets.map DtCSet.cells)[i]? = some (DtCSet.cells (c.fSets[i]'(by omega))):=by rw [List.getElem?_map,List.getElem?_eq_getElem (by omega)];rfl
                 have ⟨htk,hbd⟩:=nam_at c.fSets i (by omega) hb3
                 refine zbk ?_
                 refine zbo ?_
                 refine zbj ?_
                 refine zbn ?_
                 refine zbj ?_
                 refine AW_x rfl rfl λK hK=>?_
                 simp (disch:=omega)
                 repeat' first|(exfalso;omega)|(refine ⟨λ_=>?_,λ_=>?_⟩)|(refine ⟨by omega,?_⟩)|(simp (disch:=omega))|(intro _)
                 all_goals (refine hK _ ?_;clear hK K)
                 all_goals
                  refine zbi rfl (λhc6=>?_) (λhc6=>?_)
                  ·try simp [zG11,zbd,zbc] at hc6
                   all_goals
                    refine zb6 rfl rfl λK hK=>?_
                    simp (disch:=omega)
                    repeat' first|(exfalso;omega)|(refine ⟨λ_=>?_,λ_=>?_⟩)|(refine ⟨by omega,?_⟩)|(simp (disch:=omega))|(intro _)
                    all_goals (refine hK _ ?_;clear hK K)
                    all_goals
                     refine zbo ?_
                     refine zb6 rfl rfl λK hK=>?_
                     simp (disch:=omega)
                     repeat' first|(refine ⟨by omega,?_⟩)|(intro _)
                     refine hK _ ?_;clear hK K
                     refine zbo ?_
                     refine zb6 rfl rfl λK hK=>?_
                     simp (disch:=omega)
                     repeat' first|(refine ⟨by omega,?_⟩)|(intro _)
                     refine hK _ ?_;clear hK K
                     refine ⟨_,LeS.kx [(64,64),(80,80),(112,112),(320,320)] [(3,.ptr 64 0),(4,.ptr 80 0),(6,.ptr 112 0),(9,.s (spc ((namL c.fSets).take (i+1)))),(10,(.g (.int .i64 (((i+1):Nat)))))] [(64,.cells (DtCmd.cells m)),(80,.cells [.g (.slice none 0 0)]),(112,.cells [.arr 320 0 c.fSets.length]),(320,.own 2 (c.fSets.map DtCSet.cells))] (by simp [zG12,KpR,renV2,renV,zbl,DtCSet.cells,DtCmd.cells];all_goals first | rfl|(simp [spc];done)|(rw [htk];split<;>first | rfl|(simp [spc];done)|(subst_vars;simp [spc];done)|(exfalso;omega)|(simp_all;done)) | trace_state) (by simp [zG12,KpOX,renO,plO,cvO,renV,pl1,DtCSet.cells,DtCmd.cells];try rfl) (by rfl) (by simp) (by simp) (by rfl) (by simp [formsX,List.range_succ,zbq,zbz]),_,?_,i+1,rfl,?_,rfl⟩
                     ·omega
                     ·omega
                  ·try simp [zG11,zbd,zbc] at hc6
                   all_goals
                    refine zbk ?_
                    refine zbo ?_
                    refine zb6 rfl rfl λK hK=>?_
                    simp (disch:=omega)
                    repeat' first|(exfalso;omega)|(refine ⟨λ_=>?_,λ_=>?_⟩)|(refine ⟨by omega,?_⟩)|(simp (disch:=omega))|(intro _)
                    all_goals (refine hK _ ?_;clear hK K)
                    all_goals
                     refine zbo ?_
                     refine zb6 rfl rfl λK hK=>?_
                     simp (disch:=omega)
                     repeat' first|(refine ⟨by omega,?_⟩)|(intro _)
                     refine hK _ ?_;clear hK K
                     refine ⟨_,LeS.kx [(64,64),(80,80),(112,112),(320,320)] [(3,.ptr 64 0),(4,.ptr 80 0),(6,.ptr 112 0),(9,.s (spc ((namL c.fSets).take (i+1)))),(10,(.g (.int .i64 (((i+1):Nat)))))] [(64,.cells (DtCmd.cells m)),(80,.cells [.g (.slice none 0 0)]),(112,.cells [.arr 320 0 c.fSets.length]),(320,.own 2 (c.fSets.map DtCSet.cells))] (by simp [zG12,KpR,renV2,renV,zbl,DtCSet.cells,DtCmd.cells];all_goals first | rfl|(simp [spc];done)|(rw [htk];split<;>first | rfl|(simp [spc];done)|(subst_vars;simp [spc];done)|(exfalso;omega)|(simp_all;done)) | trace_state) (by simp [zG12,KpOX,renO,plO,cvO,renV,pl1,DtCSet.cells,DtCmd.cells];try rfl) (by rfl) (by simp) (by simp) (by rfl) (by simp [formsX,List.range_succ,zbq,zbz]),_,?_,i+1,rfl,?_,rfl⟩
                     ·omega
                     ·omega
               ·try simp [zG11,zbd,zbc] at hc5
                all_goals
                 have htf:(namL c.fSets).take i=namL c.fSets:=List.take_of_length_le (by simp [namL];omega)
                 refine zb0 ?_
                 refine zbo ?_
                 refine AW_x rfl rfl λK hK=>?_
                 simp (disch:=omega)
                 repeat' first|(exfalso;omega)|(refine ⟨λ_=>?_,λ_=>?_⟩)|(refine ⟨by omega,?_⟩)|(simp (disch:=omega))|(intro _)
                 all_goals (refine hK _ ?_;clear hK K)
                 all_goals
                  refine zbp (zb5 [320] [] (by simp [zG12,List.range_succ]) (by simp) ?_)
                  simp (disch:=omega)
                  all_goals first|(have ⟨h1,h2⟩:=zmw hc1 (m:=m);exact ⟨h1,h2,h1⟩)|(have ⟨h1,h2⟩:=zmx hc1 (dB_f ‹decB (CmdP m)=false›);rw [h1,h2];exact ⟨rfl,rfl,rfl⟩)|(have ⟨h1,h2⟩:=zmy hc1 (dB_t ‹decB (CmdP m)=true›) hc2;rw [h1,h2];exact ⟨rfl,rfl,rfl⟩)|(have ⟨h1,h2⟩:=zmz hc1 (dB_t ‹decB (CmdP m)=true›) hc3;rw [h1,h2];exact ⟨rfl,rfl,rfl⟩)|(have ⟨h1,h2⟩:=zm0 hc1 (dB_t ‹decB (CmdP m)=true›) hc4;rw [h1,h2,htf];exact ⟨rfl,rfl,rfl⟩)|(have ⟨h1,h2⟩:=zm1 hc1 (dB_t ‹decB (CmdP m)=true›) hc2 hc3 hc4 hc7;rw [h1,h2];exact ⟨rfl,rfl,rfl⟩)|(rw [hS,hR];exact ⟨rfl,rfl,rfl⟩) | trace_state
           ·try simp [zG11,zbd,zbc] at hc4
            all_goals
             refine zbk ?_
             refine zbo ?_
             refine AW_x rfl rfl λK hK=>?_
             simp (disch:=omega)
             repeat' first|(exfalso;omega)|(refine zd5 (zbg (zbw rfl) (zbg zf1 zbm)) (l15At c m.fSet (by omega)) rfl ?_;simp (disch:=omega))|(refine zd6 (l15At c m.fSet (by omega)) (by rfl) ?_ ?_;(focus (simp (disch:=omega) [zbe];done));simp (disch:=omega))|(refine ⟨λ_=>?_,λ_=>?_⟩)|(refine ⟨by omega,?_⟩)|(simp (disch:=omega))|(intro _)
             all_goals (refine hK _ ?_;clear hK K)
             all_goals
              refine zbj ?_
              refine AW_x rfl rfl λK hK=>?_
              simp (disch:=omega)
              repeat' first|(refine ⟨by omega,?_⟩)|(intro _)
              refine hK _ ?_;clear hK K
              refine zbi rfl (λhc7=>?_) (λhc7=>?_)
              ·try simp [zG11,zbd,zbc] at hc7
               all_goals
                refine AW_x rfl rfl λK hK=>?_
                simp (disch:=omega)
                repeat' first|(exfalso;omega)|(refine ⟨λ_=>?_,λ_=>?_⟩)|(refine ⟨by omega,?_⟩)|(simp (disch:=omega))|(intro _)
                all_goals (refine hK _ ?_;clear hK K)
                all_goals
                 refine zbp (zb5 [320] [] (by simp [zG12,List.range_succ]) (by simp) ?_)
                 simp (disch:=omega)
                 all_goals first|(have ⟨h1,h2⟩:=zmw hc1 (m:=m);exact ⟨h1,h2,h1⟩)|(have ⟨h1,h2⟩:=zmx hc1 (dB_f ‹decB (CmdP m)=false›);rw [h1,h2];exact ⟨rfl,rfl,rfl⟩)|(have ⟨h1,h2⟩:=zmy hc1 (dB_t ‹decB (CmdP m)=true›) hc2;rw [h1,h2];exact ⟨rfl,rfl,rfl⟩)|(have ⟨h1,h2⟩:=zmz hc1 (dB_t ‹decB (CmdP m)=true›) hc3;rw [h1,h2];exact ⟨rfl,rfl,rfl⟩)|(have ⟨h1,h2⟩:=zm0 hc1 (dB_t ‹decB (CmdP m)=true›) hc4;rw [h1,h2,htf];exact ⟨rfl,rfl,rfl⟩)|(have ⟨h1,h2⟩:=zm1 hc1 (dB_t ‹decB (CmdP m)=true›) hc2 hc3 hc4 hc7;rw [h1,h2];exact ⟨rfl,rfl,rfl⟩)|(rw [hS,hR];exact ⟨rfl,rfl,rfl⟩) | trace_state
              ·try simp [zG11,zbd,zbc] at hc7
               all_goals
                refine zbk ?_
                refine zbo ?_
                obtain ⟨k,hkz⟩:=Int.eq_ofNat_of_zero_le hc7
                have hk:=zjq hkz
                have hmz:CmdP m∧¬m.fKind=0:=⟨dB_t ‹_›,hc2⟩
                have ⟨hS,hR⟩:=zzv hc1 hmz.1 hmz.2 hc3 hc4 hkz
                have hN:m.fKind=5→0≤m.fN∧m.fN≤9:=by have:=hmz.1;clear hS hR;intro h5;simp only [CmdP] at this;by_cases h0:m.fN=0<;>grind
                simp only [hkz]
                refine AW_x rfl rfl λK hK=>?_
                simp (disch:=omega)
                repeat' first|(exfalso;omega)|(refine zc9 [320] true [] (l15SetX c.fSets (by omega) k hk m (hb2 k hk) (hb4 k hk) hN hch) ?_ ?_ ?_;(focus (simp [List.range_succ,nmC];done));(focus (simp (disch:=omega) [zbe];done));simp (disch:=omega))|(refine ⟨λ_=>?_,λ_=>?_⟩)|(refine ⟨by omega,?_⟩)|(simp (disch:=omega))|(intro _)
                all_goals (refine hK _ ?_;clear hK K)
                all_goals
                 refine AW_x rfl rfl λK hK=>?_
                 simp (disch:=omega)
                 repeat' first|(refine ⟨by omega,?_⟩)|(simp (disch:=omega))|(intro _)
                 refine hK _ ?_;clear hK K
                 refine zbp (zb5 [1232] [] (by simp [zG12,List.range_succ]) (by simp) ?_)
                 simp (disch:=omega)
                 all_goals first|(have ⟨h1,h2⟩:=zmw hc1 (m:=m);exact ⟨h1,h2,h1⟩)|(have ⟨h1,h2⟩:=zmx hc1 (dB_f ‹decB (CmdP m)=false›);rw [h1,h2];exact ⟨rfl,rfl,rfl⟩)|(have ⟨h1,h2⟩:=zmy hc1 (dB_t ‹decB (CmdP m)=true›) hc2;rw [h1,h2];exact ⟨rfl,rfl,rfl⟩)|(have ⟨h1,h2⟩:=zmz hc1 (dB_t ‹decB (CmdP m)=true›) hc3;rw [h1,h2];exact ⟨rfl,rfl,rfl⟩)|(have ⟨h1,h2⟩:=zm0 hc1 (dB_t ‹decB (CmdP m)=true›) hc4;rw [h1,h2,htf];exact ⟨rfl,rfl,rfl⟩)|(have ⟨h1,h2⟩:=zm1 hc1 (dB_t ‹decB (CmdP m)=true›) hc2 hc3 hc4 hc7;rw [h1,h2];exact ⟨rfl,rfl,rfl⟩)|(rw [hS,hR];exact ⟨rfl,rfl,rfl⟩) | trace_state
end Go.Proofs.Ytodmafgmdlkhoaa.Vs
end
section
namespace Go.Proofs.Ytodmafgmdlkhoaa.Vs
set_option linter.all false
/-! a command leaves a catalog valid -/
theorem zlf:∀(x y z:List UInt8),Op.bytesLess x y=true→Op.bytesLess y z=true→Op.bytesLess x z=true
 | [],[],_,h,_=>by simp [Op.bytesLess] at h
 | [],_ :: _,[],_,h=>by simp [Op.bytesLess] at h
 | [],_ :: _,_ :: _,_,_=>by simp [Op.bytesLess]
 | _ :: _,[],_,h,_=>by simp [Op.bytesLess] at h
 | _ :: _,_ :: _,[],_,h=>by simp [Op.bytesLess] at h
 | a :: x,b :: y,c :: z,h1,h2=>by
  simp only [Op.bytesLess,Bool.or_eq_true,Bool.and_eq_true,decide_eq_true_eq,beq_iff_eq] at h1 h2 ⊢
  rcases h1 with h1 | ⟨rfl,h1⟩
  ·rcases h2 with h2 | ⟨rfl,h2⟩
   ·exact .inl (UInt8.lt_trans h1 h2)
   ·exact .inl h1
  ·rcases h2 with h2 | ⟨rfl,h2⟩
   ·exact .inl h2
   ·exact .inr ⟨rfl,zlf x y z h1 h2⟩
theorem bl_tot:∀(x y:List UInt8),Op.bytesLess x y=false→x≠y→Op.bytesLess y x=true
 | [],[],_,h=>(h rfl).elim
 | [],_ :: _,h,_=>by simp [Op.bytesLess] at h
 | _ :: _,[],_,_=>by simp [Op.bytesLess]
 | a :: x,b :: y,h,hne=>by
  simp only [Op.bytesLess,Bool.or_eq_false_iff,decide_eq_false_iff_not,Bool.and_eq_false_iff,beq_eq_false_iff_ne] at h
  simp only [Op.bytesLess,Bool.or_eq_true,Bool.and_eq_true,decide_eq_true_eq,beq_iff_eq]
  by_cases e:a=b
  ·subst e
   refine .inr ⟨rfl,bl_tot x y (h.2.resolve_left (λh=>h rfl)) λe=>hne (by rw [e])⟩
  ·refine .inl ?_
   have:=h.1
   rw [UInt8.lt_iff_toNat_lt] at this ⊢
   have hn:a.toNat≠b.toNat:=λhh=>e (UInt8.toNat_inj.1 hh)
   omega
theorem zw9:∀(l:List DtCSnap),(l.map (·.fName)).Nodup→∀(k:Nat) p,l[k]? = some p→findN l p.fName=k:=by
 intro l hnd k p hp
 obtain ⟨hk,rfl⟩:=List.getElem?_eq_some_iff.1 hp
 unfold findN
 refine zct hk (by rw [zbd]) λj x hj hx=>?_
 obtain ⟨hj2,rfl⟩:=List.getElem?_eq_some_iff.1 hx
 rw [zbc]
 intro e
 have:=List.pairwise_iff_getElem.1 hnd j k (by simpa using hj2) (by simpa using hk) hj
 simp only [List.getElem_map] at this
 exact this e
theorem nd_findN(l:List DtCSnap)(h:∀(k:Nat) p,l[k]? = some p→findN l p.fName=k):(l.map (·.fName)).Nodup:=by
 refine List.pairwise_iff_getElem.2 λj k hj hk hjk e=>?_
 simp only [List.length_map] at hj hk
 simp only [List.getElem_map] at e
 have h1:=h j _ (List.getElem?_eq_getElem hj)
 have h2:=h k _ (List.getElem?_eq_getElem hk)
 rw [e,h2] at h1
 omega
def SetN(s:DtCSet):Prop:=Word s.fName∧s.fSnaps.length≤5∧(∀p∈s.fSnaps,SnapP p)∧(s.fSnaps.map (·.fName)).Nodup
theorem zxa(s:DtCSet):SetP s↔SetN s:=by
 constructor
 ·rintro ⟨h1,h2,h3⟩
  refine ⟨h1,h2,λp hp=>?_,nd_findN _ λk p h=>(h3 k p h).2⟩
  obtain ⟨k,hk⟩:=List.getElem?_of_mem hp
  exact (h3 k p hk).1
 ·rintro ⟨h1,h2,h3,h4⟩
  exact ⟨h1,h2,λk p h=>⟨h3 p (List.mem_of_getElem? h),zw9 _ h4 k p h⟩⟩
abbrev lessS (s t:DtCSet):Prop:=Op.bytesLess s.fName t.fName=true
def CatN(l:List DtCSet):Prop:=l.length≤5∧(∀s∈l,SetN s)∧l.Pairwise lessS
theorem zsk:∀(l:List DtCSet),(∀(i:Nat) s t,l[i]? = some t→l[i+1]? = some s→lessS t s)→l.Pairwise lessS
 | [],_=>List.Pairwise.nil
 | [a],_=>List.pairwise_singleton _ _
 | a :: b :: l,h=>by
  have ih:=zsk (b :: l) λi s t h1 h2=>h (i+1) s t (by simpa using h1) (by simpa using h2)
  refine List.pairwise_cons.2 ⟨λx hx=>?_,ih⟩
  have hab:lessS a b:=h 0 b a rfl rfl
  rcases List.mem_cons.1 hx with rfl | hx
  ·exact hab
  ·exact zlf _ _ _ hab ((List.pairwise_cons.1 ih).1 x hx)
theorem zqo(c:DtCatalog):CatP c↔CatN c.fSets:=by
 constructor
 ·rintro ⟨h1,h2⟩
  refine ⟨h1,λs hs=>?_,zsk _ λi s t ht hs=>?_⟩
  ·obtain ⟨k,hk⟩:=List.getElem?_of_mem hs
   exact (zxa s).1 (h2 k s hk).1
  ·exact (h2 (i+1) s hs).2 t (by omega) ht
 ·rintro ⟨h1,h2,h3⟩
  refine ⟨h1,λi s hs=>⟨(zxa s).2 (h2 s (List.mem_of_getElem? hs)),λt hi ht=>?_⟩⟩
  obtain ⟨hk,rfl⟩:=List.getElem?_eq_some_iff.1 hs
  obtain ⟨hj,rfl⟩:=List.getElem?_eq_some_iff.1 ht
  exact List.pairwise_iff_getElem.1 h3 (i-1) i hj hk (by omega)
theorem zsl(n:List UInt8):∀(l:List DtCSet),∀s∈l.take (lessN l n),Op.bytesLess s.fName n=true
 | [],s,h=>by simp at h
 | a :: l,s,h=>by
  by_cases e:Op.bytesLess a.fName n=true
  ·simp only [lessN,e,if_true,List.take_succ_cons,List.mem_cons] at h
   rcases h with rfl | h
   ·exact e
   ·exact zsl n l s h
  ·simp only [lessN,e,if_false,List.take_zero] at h;cases h
theorem zsm(n:List UInt8):∀(l:List DtCSet),l.Pairwise lessS→(∀s∈l,s.fName≠n)→∀s∈l.drop (lessN l n),Op.bytesLess n s.fName=true
 | [],_,_,s,h=>by simp at h
 | a :: l,hp,hne,s,h=>by
  by_cases e:Op.bytesLess a.fName n=true
  ·simp only [lessN,e,if_true,List.drop_succ_cons] at h
   exact zsm n l (List.pairwise_cons.1 hp).2 (λs hs=>hne s (List.mem_cons_of_mem _ hs)) s h
  ·simp only [lessN,e,if_false,List.drop_zero] at h
   have ha:=bl_tot a.fName n (by simpa using e) (hne a List.mem_cons_self)
   rcases List.mem_cons.1 h with rfl | h
   ·exact ha
   ·exact zlf _ _ _ ha ((List.pairwise_cons.1 hp).1 s h)
theorem creN{l:List DtCSet}(h:CatN l)(n:List UInt8)(hn:Word n):CatN (creS l n):=by
 by_cases h1:0≤findS l n
 ·rw [(zsf h1).1];exact h
 ·by_cases h2:(l.length:Int)=5
  ·rw [(zsg (by omega) h2).1];exact h
  ·rw [(zsh (by omega) h2).1]
   obtain ⟨g1,g2,g3⟩:=h
   have hne:∀s∈l,s.fName≠n:=λs hs=>by
    obtain ⟨k,hk,rfl⟩:=List.getElem_of_mem hs
    exact zw8 (by omega) k hk
   have hll:=lessN_le l n
   refine ⟨by simp;omega,λs hs=>?_,?_⟩
   ·rcases List.mem_append.1 hs with hs | hs
    ·exact g2 s (List.mem_of_mem_take hs)
    ·rcases List.mem_cons.1 hs with rfl | hs
     ·exact ⟨hn,by simp,by simp,by simp⟩
     ·exact g2 s (List.mem_of_mem_drop hs)
   ·have ht:=zsl n l
    have hd:=zsm n l g3 hne
    refine List.pairwise_append.2 ⟨g3.sublist (List.take_sublist _ _),List.pairwise_cons.2 ⟨λs hs=>hd s hs,g3.sublist (List.drop_sublist _ _)⟩,λa ha b hb=>?_⟩
    rcases List.mem_cons.1 hb with rfl | hb
    ·exact ht a ha
    ·exact zlf _ _ _ (ht a ha) (hd b hb)
theorem zqp{l:List DtCSet}(h:CatN l){k:Nat}(hk:k<l.length){x:DtCSet}(hx:SetN x)(hn:x.fName=l[k].fName):CatN (l.set k x):=by
 obtain ⟨g1,g2,g3⟩:=h
 refine ⟨by simpa using g1,λs hs=>?_,?_⟩
 ·rcases List.mem_or_eq_of_mem_set hs with hs | rfl
  ·exact g2 s hs
  ·exact hx
 ·have key:∀l:List DtCSet,l.Pairwise lessS↔(l.map (·.fName)).Pairwise λa b=>Op.bytesLess a b=true:=λl=>by rw [List.pairwise_map]
  rw [key] at g3 ⊢
  have e:(l.set k x).map (·.fName)=l.map (·.fName):=by
   rw [List.map_set,hn]
   have:(l.map (·.fName))[k]'(by simpa using hk)=l[k].fName:=by simp
   rw [←this,List.set_getElem_self]
  rw [e];exact g3
theorem setN_com{s:DtCSet}(h:SetN s){m:DtCmd}(hw:Word m.fName)(hc:1≤m.fChunks.length∧m.fChunks.length≤4∧Ch8 m.fChunks):SetN (comS s m)∧(comS s m).fName=s.fName:=by
 by_cases h1:0≤findN s.fSnaps m.fName
 ·rw [(com_e h1).1];exact ⟨h,rfl⟩
 ·by_cases h2:(s.fSnaps.length:Int)=5
  ·rw [(com_f (by omega) h2).1];exact ⟨h,rfl⟩
  ·rw [(com_k (by omega) h2).1]
   obtain ⟨g1,g2,g3,g4⟩:=h
   refine ⟨⟨g1,by simp;omega,λp hp=>?_,?_⟩,rfl⟩
   ·rcases List.mem_append.1 hp with hp | hp
    ·exact g3 p hp
    ·rw [List.mem_singleton] at hp
     subst hp
     exact ⟨hw,.inl rfl,hc.1,hc.2.1,hc.2.2⟩
   ·rw [List.map_append,List.nodup_append]
    refine ⟨g4,by simp,λa ha b hb=>?_⟩
    simp only [List.map_cons,List.map_nil,List.mem_singleton] at hb
    subst hb
    rintro rfl
    obtain ⟨p,hp,e⟩:=List.mem_map.1 ha
    obtain ⟨k,hk,rfl⟩:=List.getElem_of_mem hp
    have:=zw9 _ g4 k _ (List.getElem?_eq_getElem hk)
    rw [e] at this
    omega
theorem setN_tag{s:DtCSet}(h:SetN s){m:DtCmd}(hw:Word m.fTag):SetN (tagS s m)∧(tagS s m).fName=s.fName:=by
 by_cases h1:0≤findN s.fSnaps m.fName
 ·have hj:=zmt (λp=>eqB p.fName m.fName) s.fSnaps (by have:=h1;unfold findN at this;omega)
  change (findN s.fSnaps m.fName).toNat<s.fSnaps.length at hj
  rw [(tag_k h1 hj).1]
  obtain ⟨g1,g2,g3,g4⟩:=h
  refine ⟨⟨g1,by simpa using g2,λp hp=>?_,?_⟩,rfl⟩
  ·rcases List.mem_or_eq_of_mem_set hp with hp | rfl
   ·exact g3 p hp
   ·have:=g3 _ (List.getElem_mem hj)
    exact ⟨this.1,.inr hw,this.2.2⟩
  ·have e : (s.fSnaps.set (findN s.fSnaps m.fName).toNat { s.fSnaps[(findN s.fSnaps m.fName).toNat] with fTag := m.fTag }).map (·.fName) = s.fSnaps.map (·.fName) := by
    rw [List.map_set]
    have:(s.fSnaps.map (·.fName))[(findN s.fSnaps m.fName).toNat]'(by simpa using hj)=s.fSnaps[(findN s.fSnaps m.fName).toNat].fName:=by simp
    simp only [←this]
    rw [List.set_getElem_self]
   show (List.map (·.fName) (s.fSnaps.set _ _)).Nodup
   rw [e];exact g4
 ·rw [(tag_n (by omega)).1];exact ⟨h,rfl⟩
theorem setN_pru{s:DtCSet}(h:SetN s)(n:Int):SetN (pruS s n)∧(pruS s n).fName=s.fName:=by
 obtain ⟨g1,g2,g3,g4⟩:=h
 have hs:(pruS s n).fSnaps.Sublist s.fSnaps:=zqk _ _ _
 exact ⟨⟨g1,Nat.le_trans hs.length_le g2,λp hp=>g3 p (hs.subset hp),g4.sublist (hs.map _)⟩,rfl⟩
theorem catN_step{c:DtCatalog}(h:CatP c)(m:DtCmd):CatN (catS c m):=by
 have hN:=(zqo c).1 h
 by_cases hm:CmdP m
 ·by_cases h0:m.fKind=0
  ·rw [(zmy h hm h0).1];exact hN
  ·obtain ⟨-,k7,-,-,-,-,w1,-,w2,-,w3,-,-,w4,-⟩:=hm.resolve_left λhh=>h0 hh.1
   by_cases h1:m.fKind=1
   ·rw [(zmz h hm h1).1]
    exact creN hN _ (w1 (by omega))
   ·by_cases h7:m.fKind=7
    ·rw [(zm0 h hm h7).1];exact hN
    ·by_cases hf:findS c.fSets m.fSet<0
     ·rw [(zm1 h hm h0 h1 h7 hf).1];exact hN
     ·obtain ⟨k,hkz⟩:=Int.eq_ofNat_of_zero_le (Int.not_lt.1 hf)
      have hk:=zjq hkz
      rw [(zzv h hm h0 h1 h7 hkz).1]
      have hs:=hN.2.1 _ (List.getElem_mem hk)
      by_cases h2:m.fKind=2
      ·rw [(zzs h2).1]
       have hsub:=zvt c.fSets k
       exact ⟨Nat.le_trans hsub.length_le hN.1,λs hs=>hN.2.1 s (hsub.subset hs),hN.2.2.sublist hsub⟩
      ·by_cases h3:m.fKind=3
       ·rw [(zsi hk h3).1]
        have:=setN_com hs (w2 (.inl h3)) (w4 h3)
        exact zqp hN hk this.1 this.2
       ·by_cases h4:m.fKind=4
        ·rw [(zvr hk h4).1]
         have:=setN_tag hs (w3 h4)
         exact zqp hN hk this.1 this.2
        ·by_cases h5:m.fKind=5
         ·rw [(zzt hk h5).1]
          have:=setN_pru hs m.fN
          exact zqp hN hk this.1 this.2
         ·rw [(zzu hk h2 h3 h4 h5).1];exact hN
 ·rw [(zmx h hm).1];exact hN
theorem catP_nil:CatP { fSets:=[] }:=⟨by simp,by simp⟩
/-- The catalog behind a command. -/
noncomputable def catC(c:DtCatalog)(m:DtCmd):DtCatalog:={ fSets:=catS c m }
theorem catP_step(c:DtCatalog)(m:DtCmd):CatP (catC c m):=by
 by_cases h:CatP c
 ·exact (zqo _).2 (catN_step h m)
 ·unfold catC;rw [(zmw h).1];exact catP_nil
theorem zm3{α:Type}{f:α→Int}(B:Int):∀(l:List α),(∀x∈l,f x≤B)→sumZ f l≤l.length*B
 | [],_=>by simp [zgw]
 | a :: l,h=>by
  have h1:=h a List.mem_cons_self
  have h2:=zm3 B l λx hx=>h x (List.mem_cons_of_mem _ hx)
  rw [zc4,List.length_cons]
  have:((l.length+1:Nat):Int)*B=(l.length:Int)*B+B:=by rw [Int.natCast_add,Int.add_mul];simp
  omega
theorem catP_sz{c:DtCatalog}(h:CatP c):DtCatalog.sz c≤5000:=by
 obtain ⟨h1,h2,-⟩:=(zqo c).1 h
 have hp:∀p,SnapP p→DtCSnap.sz p≤60:=by
  rintro p ⟨a1,a2,a3,a4,a5⟩
  have b1:p.fTag.length≤8:=by rcases a2 with a2 | a2<;>first | exact a2.2.1 | simp [a2]
  have b2:sumZ lenZ p.fChunks≤p.fChunks.length*8:=zm3 8 _ λx hx=>by
   obtain ⟨k,hk⟩:=List.getElem?_of_mem hx
   have:=a5 k x hk
   unfold lenZ;omega
  have:=a1.2.1
  unfold DtCSnap.sz szS
  omega
 have hs:∀s∈c.fSets,DtCSet.sz s≤400:=by
  intro s hs
  obtain ⟨a1,a2,a3,-⟩:=h2 s hs
  have b2:=zm3 60 s.fSnaps λp hp'=>hp p (a3 p hp')
  have:=a1.2.1
  unfold DtCSet.sz szS
  omega
 have b:=zm3 400 c.fSets hs
 unfold DtCatalog.sz szS
 omega
end Go.Proofs.Ytodmafgmdlkhoaa.Vs
end
section
namespace Go.Proofs.Ytodmafgmdlkhoaa.Vs
set_option linter.all false
/-! what a command does to a state -/
def bOld:List UInt8:=[111,108,100]
noncomputable def saidI(s:DtState)(m:DtCmd):Int:=idxZ (λx:DtSaid=>decide (m.fClient≤x.fClient)) s.fSaid
def newS(m:DtCmd)(t:List UInt8):DtSaid:={ fClient:=m.fClient,fNo:=m.fNo,fText:=t }
def putL(x:DtSaid):List DtSaid→List DtSaid
 | []=>[x]
 | y :: l=>if y.fClient<x.fClient then y :: putL x l else if y.fClient=x.fClient then x :: l else x :: y :: l
theorem zxb(x:DtSaid):∀l:List DtSaid,(∀j (h:j<l.length),l[j].fClient<x.fClient)→putL x l=l++[x]
 | [],_=>rfl
 | y :: l,h=>by
  have h0:=h 0 (by simp)
  simp only [List.getElem_cons_zero] at h0
  rw [putL,if_pos h0,zxb x l λj hj=>h (j+1) (by simpa using hj)];rfl
theorem zxc(x:DtSaid):∀(l:List DtSaid) (k:Nat) (hk:k<l.length),(∀j (h:j<l.length),j<k→l[j].fClient<x.fClient)→l[k].fClient=x.fClient→putL x l=l.set k x
 | [],k,hk,_,_=>by simp at hk
 | y :: l,0,_,_,h=>by
  simp only [List.getElem_cons_zero] at h
  rw [putL,if_neg (by omega),if_pos h];rfl
 | y :: l,k+1,hk,h,h2=>by
  have h0:=h 0 (by simp) (by omega)
  simp only [List.getElem_cons_zero] at h0
  rw [putL,if_pos h0,zxc x l k (by simpa using hk) (λj hj hjk=>h (j+1) (by simpa using hj) (by omega)) h2];rfl
theorem zxd(x:DtSaid):∀(l:List DtSaid) (k:Nat) (hk:k<l.length),(∀j (h:j<l.length),j<k→l[j].fClient<x.fClient)→x.fClient<l[k].fClient→putL x l=l.take k++x :: l.drop k
 | [],k,hk,_,_=>by simp at hk
 | y :: l,0,_,_,h=>by
  simp only [List.getElem_cons_zero] at h
  rw [putL,if_neg (by omega),if_neg (by omega)];rfl
 | y :: l,k+1,hk,h,h2=>by
  have h0:=h 0 (by simp) (by omega)
  simp only [List.getElem_cons_zero] at h0
  rw [putL,if_pos h0,zxd x l k (by simpa using hk) (λj hj hjk=>h (j+1) (by simpa using hj) (by omega)) h2];rfl
def putG(x:DtSaid):Bool→List DtSaid→List DtSaid
 | p,[]=>if p=true then [] else [x]
 | p,y :: l=>(if p=false∧x.fClient≤y.fClient then [x] else [])++((if y.fClient=x.fClient then [] else [y])++putG x (p || decide (x.fClient≤y.fClient)) l)
def Cl(l:List DtSaid):Prop:=l.Pairwise λa b=>a.fClient<b.fClient
theorem putG_t(x:DtSaid):∀l:List DtSaid,(∀y∈l,x.fClient<y.fClient)→putG x true l=l
 | [],_=>rfl
 | y :: l,h=>by
  have h0:=h y List.mem_cons_self
  rw [putG,if_neg (by simp),if_neg (by omega),Bool.true_or,putG_t x l λz hz=>h z (List.mem_cons_of_mem _ hz)];rfl
theorem putG_L(x:DtSaid):∀l:List DtSaid,Cl l→putG x false l=putL x l
 | [],_=>rfl
 | y :: l,h=>by
  obtain ⟨h1,h2⟩:=List.pairwise_cons.1 h
  rw [putG,putL]
  by_cases e:y.fClient<x.fClient
  ·have:decide (x.fClient≤y.fClient)=false:=by simp;omega
   rw [if_pos e,if_neg (by omega),if_neg (by omega),this,Bool.false_or,putG_L x l h2];rfl
  ·have hd:decide (x.fClient≤y.fClient)=true:=by simp;omega
   rw [if_neg e,if_pos ⟨rfl,by omega⟩,hd,Bool.false_or,putG_t x l λz hz=>by have:=h1 z hz;omega]
   by_cases e2:y.fClient=x.fClient
   ·rw [if_pos e2,if_pos e2];rfl
   ·rw [if_neg e2,if_neg e2];rfl
theorem zlg{s:DtState}(h:StateP s):Cl s.fSaid:=by
 have key:∀l:List DtSaid,(∀(i:Nat) a b,l[i]? = some a→l[i+1]? = some b→a.fClient<b.fClient)→Cl l:=by
  intro l
  induction l with
  | nil=>intro _;exact List.Pairwise.nil
  | cons a l ih =>
   intro h
   have h2:=ih λi x y hx hy=>h (i+1) x y (by simpa using hx) (by simpa using hy)
   refine List.pairwise_cons.2 ⟨λy hy=>?_,h2⟩
   cases l with
   | nil=>cases hy
   | cons b l =>
    have hab:=h 0 a b rfl rfl
    rcases List.mem_cons.1 hy with rfl | hy
    ·exact hab
    ·have:=(List.pairwise_cons.1 h2).1 y hy
     omega
 exact key _ λi a b ha hb=>(h.2 (i+1) b hb).2.2.2.2 a (by omega) ha
theorem zc2{s:DtState}{m:DtCmd}(h:0≤saidI s m):(saidI s m).toNat<s.fSaid.length:=zmt _ _ h
theorem idxZ_k{α:Type}{p:α→Bool}{l:List α}(h:0≤idxZ p l)(hk:(idxZ p l).toNat<l.length):p l[(idxZ p l).toNat]=true∧∀j (hj:j<l.length),j<(idxZ p l).toNat→p l[j]=false:=by
 cases hf:l.findIdx? p with
 | none=>unfold idxZ at h;rw [hf] at h;simp at h
 | some i =>
  obtain ⟨h1,h2,h3⟩:=List.findIdx?_eq_some_iff_getElem.1 hf
  have e:(idxZ p l).toNat=i:=by unfold idxZ;rw [hf];rfl
  simp only [e]
  exact ⟨h2,λj hj hji=>by simpa using h3 j hji⟩
theorem idxZ_no{α:Type}{p:α→Bool}{l:List α}(h:idxZ p l<0)(j:Nat)(hj:j<l.length):p l[j]=false:=by
 unfold idxZ at h
 split at h
 ·omega
 ·rename_i h2
  rw [List.findIdx?_eq_none_iff] at h2
  exact h2 _ (List.getElem_mem hj)
noncomputable def hitS(s:DtState)(m:DtCmd):Option DtSaid:=if h:0≤saidI s m then (if (s.fSaid[(saidI s m).toNat]'(zc2 h)).fClient=m.fClient then some (s.fSaid[(saidI s m).toNat]'(zc2 h)) else none) else none
noncomputable def stN(s:DtState)(m:DtCmd):DtState:={ fCat:=catC s.fCat m,fSaid:=putL (newS m (catR s.fCat m)) s.fSaid }
noncomputable def stC(s:DtState)(m:DtCmd):DtState:=if decB (StateP s)=true then (if decB (CmdP m)=true∧¬m.fKind=0 then (match hitS s m with
 | some x=>if m.fNo≤x.fNo then s else stN s m
 | none=>stN s m) else s) else { fCat:={ fSets:=[] },fSaid:=[] }
noncomputable def stR(s:DtState)(m:DtCmd):List UInt8:=if decB (StateP s)=true then (if decB (CmdP m)=true∧¬m.fKind=0 then (match hitS s m with
 | some x=>if x.fNo=m.fNo then x.fText else if m.fNo<x.fNo then bOld else catR s.fCat m
 | none=>catR s.fCat m) else []) else []
section
variable {s:DtState}{m:DtCmd}
theorem st_f(h:¬StateP s):stC s m = { fCat:={ fSets:=[] },fSaid:=[] }∧stR s m=[]:=by unfold stC stR;rw [if_neg (by rw [zba];exact h),if_neg (by rw [zba];exact h)];exact ⟨rfl,rfl⟩
theorem st_m(h:StateP s)(hm:¬(CmdP m∧¬m.fKind=0)):stC s m=s∧stR s m=[]:=by unfold stC stR;rw [if_pos (zce h),if_pos (zce h),if_neg (by rw [zba];exact hm),if_neg (by rw [zba];exact hm)];exact ⟨rfl,rfl⟩
theorem zjs(h:StateP s)(hm:CmdP m)(h0:¬m.fKind=0){x:DtSaid}(hx:hitS s m=some x):stC s m=(if m.fNo≤x.fNo then s else stN s m)∧stR s m=(if x.fNo=m.fNo then x.fText else if m.fNo<x.fNo then bOld else catR s.fCat m):=by
 unfold stC stR
 have hc:decB (CmdP m)=true∧¬m.fKind=0:=⟨zce hm,h0⟩
 rw [if_pos (zce h),if_pos (zce h),if_pos hc,if_pos hc,hx]
 exact ⟨rfl,rfl⟩
theorem zvu(h:StateP s)(hm:CmdP m)(h0:¬m.fKind=0)(hx:hitS s m=none):stC s m=stN s m∧stR s m=catR s.fCat m:=by
 unfold stC stR
 have hc:decB (CmdP m)=true∧¬m.fKind=0:=⟨zce hm,h0⟩
 rw [if_pos (zce h),if_pos (zce h),if_pos hc,if_pos hc,hx]
 exact ⟨rfl,rfl⟩
theorem zlh(h:0≤saidI s m)(he:(s.fSaid[(saidI s m).toNat]'(zc2 h)).fClient=m.fClient):hitS s m=some (s.fSaid[(saidI s m).toNat]'(zc2 h)):=by unfold hitS;rw [dif_pos h,if_pos he]
theorem hit_none(h:0≤saidI s m)(he:¬(s.fSaid[(saidI s m).toNat]'(zc2 h)).fClient=m.fClient):hitS s m=none:=by unfold hitS;rw [dif_pos h,if_neg he]
theorem hit_neg(h:saidI s m<0):hitS s m=none:=by unfold hitS;rw [dif_neg (by omega)]
theorem zvv(h:StateP s)(hm:CmdP m)(h0:¬m.fKind=0)(hz:0≤saidI s m)(he:(s.fSaid[(saidI s m).toNat]'(zc2 hz)).fClient=m.fClient)(hn:(s.fSaid[(saidI s m).toNat]'(zc2 hz)).fNo=m.fNo):stC s m=s∧stR s m=(s.fSaid[(saidI s m).toNat]'(zc2 hz)).fText:=by
 have ⟨h1,h2⟩:=zjs h hm h0 (zlh hz he)
 rw [h1,h2,if_pos (by omega),if_pos hn];exact ⟨rfl,rfl⟩
theorem zm4(h:StateP s)(hm:CmdP m)(h0:¬m.fKind=0)(hz:0≤saidI s m)(he:(s.fSaid[(saidI s m).toNat]'(zc2 hz)).fClient=m.fClient)(hn:m.fNo<(s.fSaid[(saidI s m).toNat]'(zc2 hz)).fNo):stC s m=s∧stR s m=bOld:=by
 have ⟨h1,h2⟩:=zjs h hm h0 (zlh hz he)
 rw [h1,h2,if_pos (by omega),if_neg (by omega),if_pos hn];exact ⟨rfl,rfl⟩
theorem said_lt(hz:0≤saidI s m)(j:Nat)(hj:j<s.fSaid.length)(hjk:j<(saidI s m).toNat):s.fSaid[j].fClient<m.fClient:=by
 have:=(idxZ_k hz (zc2 hz)).2 j hj hjk
 simpa using this
theorem said_ge(hz:0≤saidI s m):m.fClient≤(s.fSaid[(saidI s m).toNat]'(zc2 hz)).fClient:=by
 have:=(idxZ_k hz (zc2 hz)).1
 exact of_decide_eq_true this
theorem zm5(h:StateP s)(hm:CmdP m)(h0:¬m.fKind=0)(hz:0≤saidI s m)(he:(s.fSaid[(saidI s m).toNat]'(zc2 hz)).fClient=m.fClient)(hn:(s.fSaid[(saidI s m).toNat]'(zc2 hz)).fNo<m.fNo):stC s m = { fCat:=catC s.fCat m,fSaid:=s.fSaid.set (saidI s m).toNat (newS m (catR s.fCat m)) }∧stR s m=catR s.fCat m:=by
 have ⟨h1,h2⟩:=zjs h hm h0 (zlh hz he)
 rw [h1,h2,if_neg (by omega),if_neg (by omega),if_neg (by omega),stN,zxc _ _ _ (zc2 hz) (said_lt hz) he];exact ⟨rfl,rfl⟩
theorem zm6(h:StateP s)(hm:CmdP m)(h0:¬m.fKind=0)(hz:0≤saidI s m)(he:¬(s.fSaid[(saidI s m).toNat]'(zc2 hz)).fClient=m.fClient):stC s m = { fCat:=catC s.fCat m,fSaid:=s.fSaid.take (saidI s m).toNat++newS m (catR s.fCat m) :: s.fSaid.drop (saidI s m).toNat }∧stR s m=catR s.fCat m:=by
 have ⟨h1,h2⟩:=zvu h hm h0 (hit_none hz he)
 have hg:=said_ge hz
 rw [h1,h2,stN,zxd _ _ _ (zc2 hz) (said_lt hz) (by show m.fClient<_;omega)];exact ⟨rfl,rfl⟩
theorem zm7(h:StateP s)(hm:CmdP m)(h0:¬m.fKind=0)(hz:saidI s m<0):stC s m = { fCat:=catC s.fCat m,fSaid:=s.fSaid++[newS m (catR s.fCat m)] }∧stR s m=catR s.fCat m:=by
 have ⟨h1,h2⟩:=zvu h hm h0 (hit_neg hz)
 rw [h1,h2,stN,zxb _ _ λj hj=>by have:=idxZ_no hz j hj;show _<m.fClient;simpa using this];exact ⟨rfl,rfl⟩
/-- The place of a client that is there. -/
theorem saidI_at(h:StateP s){i:Nat}(hi:i<s.fSaid.length)(he:s.fSaid[i].fClient=m.fClient):saidI s m=i:=by
 refine zct hi (by simp;omega) λj x hj hx=>?_
 obtain ⟨hj2,rfl⟩:=List.getElem?_eq_some_iff.1 hx
 have:=List.pairwise_iff_getElem.1 (zlg h) j i hj2 hi hj
 simp;omega
theorem hit_at(h:StateP s){i:Nat}(hi:i<s.fSaid.length)(he:s.fSaid[i].fClient=m.fClient):hitS s m=some s.fSaid[i]:=by
 have hz:=saidI_at h hi he
 have h2:0≤saidI s m:=by omega
 have e:s.fSaid[(saidI s m).toNat]'(zc2 h2)=s.fSaid[i]:=by simp only [hz,Int.toNat_natCast]
 rw [zlh h2 (by rw [e];exact he),e]
theorem zph(h:StateP s)(hm:CmdP m)(h0:¬m.fKind=0){i:Nat}(hi:i<s.fSaid.length)(he:s.fSaid[i].fClient=m.fClient)(hn:s.fSaid[i].fNo=m.fNo):stC s m=s∧stR s m=s.fSaid[i].fText:=by
 have ⟨h1,h2⟩:=zjs h hm h0 (hit_at h hi he)
 rw [h1,h2,if_pos (by omega),if_pos hn];exact ⟨rfl,rfl⟩
theorem zkg(h:StateP s)(hm:CmdP m)(h0:¬m.fKind=0){i:Nat}(hi:i<s.fSaid.length)(he:s.fSaid[i].fClient=m.fClient)(hn:m.fNo<s.fSaid[i].fNo):stC s m=s∧stR s m=bOld:=by
 have ⟨h1,h2⟩:=zjs h hm h0 (hit_at h hi he)
 rw [h1,h2,if_pos (by omega),if_neg (by omega),if_pos hn];exact ⟨rfl,rfl⟩
theorem st_go(h:StateP s)(hm:CmdP m)(h0:¬m.fKind=0)(hall:∀j (hj:j<s.fSaid.length),s.fSaid[j].fClient=m.fClient→s.fSaid[j].fNo<m.fNo):stC s m=stN s m∧stR s m=catR s.fCat m:=by
 cases hx:hitS s m with
 | none=>exact zvu h hm h0 hx
 | some x =>
  have:x.fNo<m.fNo:=by
   unfold hitS at hx
   split at hx
   ·rename_i hz
    split at hx
    ·rename_i he
     cases hx
     exact hall _ _ he
    ·cases hx
   ·cases hx
  have ⟨h1,h2⟩:=zjs h hm h0 hx
  rw [h1,h2,if_neg (by omega),if_neg (by omega),if_neg (by omega)];exact ⟨rfl,rfl⟩
end
end Go.Proofs.Ytodmafgmdlkhoaa.Vs
end
section
namespace Go.Proofs.Ytodmafgmdlkhoaa.Vs
set_option linter.all false
set_option maxRecDepth 100000
set_option maxHeartbeats 1000000
theorem zsn(m:DtCmd)(hm:DtCmd.sz m≤1048576):m.fChunks.length≤1048576:=by
 have:=len_szS zdw m.fChunks
 simp only [DtCmd.sz] at hm
 omega
theorem implCatC(c:DtCatalog)(m:DtCmd)(hs:DtCatalog.sz c≤1048576)(hm:DtCmd.sz m≤1048576):XCall Try.prog 32 [.agg (DtCatalog.cells c),.agg (DtCmd.cells m)] [] (.tup [.agg [.arr 16 0 (catC c m).fSets.length],.s (catR c m)]) [] [.own 2 ((catC c m).fSets.map DtCSet.cells)]:=implCatDo c m hs hm (zsn m hm)
theorem specCatC(c:DtCatalog)(m:DtCmd)(hs:DtCatalog.sz c≤1048576)(hm:DtCmd.sz m≤1048576):XCall Try.prog 35 [.agg (DtCatalog.cells c),.agg (DtCmd.cells m)] [] (.tup [.agg [.arr 16 0 (catC c m).fSets.length],.s (catR c m)]) [] [.own 2 ((catC c m).fSets.map DtCSet.cells)]:=specCatDo c m hs hm (zsn m hm)
end Go.Proofs.Ytodmafgmdlkhoaa.Vs
end
section
namespace Go.Proofs.Ytodmafgmdlkhoaa.Vs
set_option linter.all false
set_option maxRecDepth 100000
set_option maxHeartbeats 1000000
section
variable {P:Program}{rest:List CO}{K:St→Prop}{st:St}{dst:Option Nat}{f:FuncId}{l l':List AV}{r:AV}
theorem XKd_r1(n:Nat){cs cs':List AV}(ho:st.ob n=some (.cells cs)∨st.ob n=some (.rocells cs))(hm:am1s st (nuOf [n] []) cs cs')(ha:am2s st (nuOf [n] []) l l')(hp:GCall P f l' [cs'] [] r [])(hs:scal r=true)(hk:xreg P rest (putC st dst r []) K):XKd P rest K st dst f l:=by
 refine .inl ⟨r,[],.inl ⟨[n],[],l',[cs'],[],[],hp,rfl,rfl,rfl,by simp,by simp,ha,⟨⟨cs,ho,hm⟩,rfl⟩,rfl,?_⟩,hk⟩
 simp [hs,zipW]
end
attribute [local simp] DtSaid.cells DtCmd.cells
theorem stateDo1(x:DtSaid)(m:DtCmd):GCall Try.prog 31 [.agg (DtSaid.cells x),.ptr 0 0] [DtCmd.cells m] [] (.g (.bool (decide (m.fClient≤x.fClient)))) []:=by
 refine zbr Try.func31 (by rfl) (by rfl) (by rw [Try.ntmps31];exact Nat.le_of_ble_eq_true rfl) rfl (by decide) ?_
 rw [Try.ntmps31]
 refine AW_k [(0,_),(1,_)] ⟨rfl,rfl,trivial⟩ ?_
 refine AW_r rfl rfl λK hK=>?_
 simp
 repeat' first|(refine ⟨by omega,?_⟩)|(intro _)
 refine hK _ ?_;clear hK K
 refine AW_r rfl rfl λK hK=>?_
 simp
 repeat' first|(refine ⟨by omega,?_⟩)|(intro _)
 refine hK _ ?_;clear hK K
 refine zbp (zcc ?_)
 simp
 all_goals first | rfl|(simp;done) | trace_state
attribute [-simp] DtCmd.cells
theorem zqq{F:FuncId}{cs:List AV}(hcs:cs.all plain1=true){p:DtSaid→Bool}(xs:List DtSaid)(hn:xs.length≤1048576)(hf:∀x,GCall Try.prog F [.agg (DtSaid.cells x),.ptr 0 0] [cs] [] (.g (.bool (p x))) []):GCall Try.prog 30 [.sl 3 (xs.map DtSaid.cells),.fn F [] [.ptr 0 0]] [cs] [] (.g (.int .i64 (idxZ p xs))) []:=by
 refine zbr Try.func30 (by rfl) (by rfl) (by rw [Try.ntmps30];exact Nat.le_of_ble_eq_true rfl) rfl (by decide) ?_
 rw [Try.ntmps30]
 refine AW_k [(0,_),(1,_)] ⟨rfl,rfl,trivial⟩ ?_
 refine AW_r rfl rfl λK hK=>?_
 simp (disch:=omega)
 repeat' first|(refine zdb 0 (.inr rfl) (zb4 cs hcs) (zbg (zbw rfl) (zbg zcq zbm)) (hf _) rfl ?_;try simp (disch:=omega))|(refine ⟨by omega,?_⟩)|(intro _)
 refine hK _ ?_;clear hK K
 refine zbj ?_
 refine AW_r rfl rfl λK hK=>?_
 simp (disch:=omega)
 repeat' first|(refine zdb 0 (.inr rfl) (zb4 cs hcs) (zbg (zbw rfl) (zbg zcq zbm)) (hf _) rfl ?_;try simp (disch:=omega))|(refine ⟨by omega,?_⟩)|(intro _)
 refine hK _ ?_;clear hK K
 refine zbn ?_
 refine zbv (λmM sS=>∃(i:Nat),mM=xs.length-i∧(i≤xs.length∧∀j x,j<i→xs[j]? = some x→p x=false)∧sS = { env:=lkE [(0,.sl 3 (xs.map DtSaid.cells)),(1,.fn F [] [.ptr 0 0]),(6,.sl 3 (xs.map DtSaid.cells)),(7,(.g (.int .i64 ((xs.length:Nat))))),(8,(.g (.int .i64 ((i:Nat)))))],ob:=formOb [cs] [] }) ?_ ?_
 ·refine ⟨_,LeS.kp [(0,.sl 3 (xs.map DtSaid.cells)),(1,.fn F [] [.ptr 0 0]),(6,.sl 3 (xs.map DtSaid.cells)),(7,(.g (.int .i64 ((xs.length:Nat))))),(8,(.g (.int .i64 (((0):Nat)))))] (by simp [KpE,zbx,zbl,zbq];try rfl),_,0,rfl,?_,rfl⟩
  ·simp
 ·rintro mM sS ⟨i,rfl,⟨hi,hpre⟩,rfl⟩
  refine AW_r rfl rfl λK hK=>?_
  simp (disch:=omega)
  repeat' first|(refine zdb 0 (.inr rfl) (zb4 cs hcs) (zbg (zbw rfl) (zbg zcq zbm)) (hf _) rfl ?_;try simp (disch:=omega))|(refine ⟨by omega,?_⟩)|(intro _)
  refine hK _ ?_;clear hK K
  refine zbj ?_
  refine zbi rfl (λhc1=>?_) (λhc1=>?_)
  ·try simp [zG11,zbd,zbc] at hc1
   all_goals
    have hg:xs[i]? = some (xs[i]):=List.getElem?_eq_getElem (by omega)
    refine zbk ?_
    refine zbo ?_
    refine zbj ?_
    refine zbn ?_
    refine AW_r rfl rfl λK hK=>?_
    simp (disch:=omega)
    repeat' first|(exfalso;omega)|(refine zdb 0 (.inr rfl) (zb4 cs hcs) (zbg (zbw rfl) (zbg zcq zbm)) (hf _) rfl ?_;try simp (disch:=omega))|(refine ⟨λ_=>?_,λ_=>?_⟩)|(refine ⟨by omega,?_⟩)|(intro _)
    all_goals (refine hK _ ?_;clear hK K)
    all_goals
     refine AW_r rfl rfl λK hK=>?_
     simp (disch:=omega)
     repeat' first|(refine zdb 0 (.inr rfl) (zb4 cs hcs) (zbg (zbw rfl) (zbg zcq zbm)) (hf _) rfl ?_;try simp (disch:=omega))|(refine ⟨by omega,?_⟩)|(intro _)
     refine hK _ ?_;clear hK K
     refine zbi rfl (λhc2=>?_) (λhc2=>?_)
     ·try simp [zG11,zbd,zbc] at hc2
      all_goals
       refine AW_r rfl rfl λK hK=>?_
       simp (disch:=omega)
       repeat' first|(exfalso;omega)|(refine zdb 0 (.inr rfl) (zb4 cs hcs) (zbg (zbw rfl) (zbg zcq zbm)) (hf _) rfl ?_;try simp (disch:=omega))|(refine ⟨λ_=>?_,λ_=>?_⟩)|(refine ⟨by omega,?_⟩)|(intro _)
       all_goals (refine hK _ ?_;clear hK K)
       all_goals
        refine zbp (zcc ?_)
        simp (disch:=omega)
        all_goals first|(exact zct (by assumption) (by assumption) hpre)|(exact zdr (λj x h=>hpre j x (by omega)))
     try simp [zG11,zbd,zbc] at hc2
     refine zbk ?_
     refine zbo ?_
     refine zc8 rfl rfl λK hK=>?_
     simp (disch:=omega)
     repeat' first|(exfalso;omega)|(refine zdb 0 (.inr rfl) (zb4 cs hcs) (zbg (zbw rfl) (zbg zcq zbm)) (hf _) rfl ?_;try simp (disch:=omega))|(refine ⟨λ_=>?_,λ_=>?_⟩)|(refine ⟨by omega,?_⟩)|(intro _)
     all_goals (refine hK _ ?_;clear hK K)
     all_goals
      refine ⟨_,LeS.kp [(0,.sl 3 (xs.map DtSaid.cells)),(1,.fn F [] [.ptr 0 0]),(6,.sl 3 (xs.map DtSaid.cells)),(7,(.g (.int .i64 ((xs.length:Nat))))),(8,(.g (.int .i64 (((i+1):Nat)))))] (by simp [KpE,zbx,zbl,zbq];try rfl),_,?_,i+1,rfl,?_,rfl⟩
      ·omega
      ·refine ⟨by omega,?_⟩;grind
  try simp [zG11,zbd,zbc] at hc1
  refine zb0 ?_
  refine zbo ?_
  refine AW_r rfl rfl λK hK=>?_
  simp (disch:=omega)
  repeat' first|(exfalso;omega)|(refine zdb 0 (.inr rfl) (zb4 cs hcs) (zbg (zbw rfl) (zbg zcq zbm)) (hf _) rfl ?_;try simp (disch:=omega))|(refine ⟨λ_=>?_,λ_=>?_⟩)|(refine ⟨by omega,?_⟩)|(intro _)
  all_goals (refine hK _ ?_;clear hK K)
  all_goals
   refine zbp (zcc ?_)
   simp (disch:=omega)
   all_goals first|(exact zct (by assumption) (by assumption) hpre)|(exact zdr (λj x h=>hpre j x (by omega)))
theorem zcy(l:List DtSaid):scR (l.map DtSaid.cells)=true:=zd2 DtSaid.cells (λ_=>rfl) l
attribute [local simp] DtState.cells DtCatalog.cells DtCmd.cells zbe and_assoc zcy
theorem zzx(s:DtState)(hs:DtState.sz s≤1048576):XCall Try.prog 27 [.agg (DtState.cells s)] [] (.agg [.arr 16 0 s.fCat.fSets.length,.arr 17 0 s.fSaid.length]) [] [.own 2 (s.fCat.fSets.map DtCSet.cells),.own 3 (s.fSaid.map DtSaid.cells)]:=by
 have ⟨hz,hl⟩:=zh3 s hs
 have hB:=zqh s.fCat hz
 refine zbt Try.func27 (by rfl) (by rfl) (by rw [Try.ntmps27];exact Nat.le_of_ble_eq_true rfl) rfl (by simp) rfl rfl ?_
 rw [Try.ntmps27]
 refine zhm   ?_
 refine AW_k [(0,_)] ⟨rfl,trivial⟩ ?_
 refine AW_x rfl rfl λK hK=>?_
 simp (disch:=omega)
 repeat' first|(refine ⟨by omega,?_⟩)|(intro _)
 refine hK _ ?_;clear hK K
 refine AW_d rfl mix (by kernel_rfl) (by kernel_rfl) λK hK=>?_
 simp (disch:=omega)
 repeat' first|(exfalso;omega)|(refine zr7 [] true [] (zwy s.fCat hB) ?_ (λst' hst=>?_) ?_;(focus (simp [List.range_succ,nmC];done));(focus (simp (disch:=omega) [nmC,List.range_succ] at hst;simp (disch:=omega) [hst,zbe,nmC,List.range_succ];done));simp (disch:=omega))|(refine ⟨by omega,?_⟩)|(simp (disch:=omega))|(intro _)
 refine hK _ _ (by kernel_rfl) ?_;clear hK K
 refine zbp (zb5 [96,144] [] (by simp [zG12,List.range_succ]) (by simp) ?_)
 simp (disch:=omega)
 all_goals first | rfl | exact ⟨rfl,rfl⟩ | trace_state
theorem l16CopyX(s:DtState)(hs:DtState.sz s≤1048576):XCall Try.prog 34 [.agg (DtState.cells s)] [] (.agg [.arr 16 0 s.fCat.fSets.length,.arr 17 0 s.fSaid.length]) [] [.own 2 (s.fCat.fSets.map DtCSet.cells),.own 3 (s.fSaid.map DtSaid.cells)]:=by
 have ⟨hz,hl⟩:=zh3 s hs
 have hB:=zqh s.fCat hz
 refine zbt Try.func34 (by rfl) (by rfl) (by rw [Try.ntmps34];exact Nat.le_of_ble_eq_true rfl) rfl (by simp) rfl rfl ?_
 rw [Try.ntmps34]
 refine zhm   ?_
 refine AW_k [(0,_)] ⟨rfl,trivial⟩ ?_
 refine AW_x rfl rfl λK hK=>?_
 simp (disch:=omega)
 repeat' first|(refine ⟨by omega,?_⟩)|(intro _)
 refine hK _ ?_;clear hK K
 refine AW_d rfl mix (by kernel_rfl) (by kernel_rfl) λK hK=>?_
 simp (disch:=omega)
 repeat' first|(exfalso;omega)|(refine zr7 [] true [] (zwz s.fCat hB) ?_ (λst' hst=>?_) ?_;(focus (simp [List.range_succ,nmC];done));(focus (simp (disch:=omega) [nmC,List.range_succ] at hst;simp (disch:=omega) [hst,zbe,nmC,List.range_succ];done));simp (disch:=omega))|(refine ⟨by omega,?_⟩)|(simp (disch:=omega))|(intro _)
 refine hK _ _ (by kernel_rfl) ?_;clear hK K
 refine zbp (zb5 [96,160] [] (by simp [zG12,List.range_succ]) (by simp) ?_)
 simp (disch:=omega)
 all_goals first | rfl | exact ⟨rfl,rfl⟩ | trace_state
end Go.Proofs.Ytodmafgmdlkhoaa.Vs
end
section
namespace Go.Proofs.Ytodmafgmdlkhoaa.Vs
set_option linter.all false
set_option maxRecDepth 100000
set_option maxHeartbeats 1000000
theorem putG_s(x:DtSaid)(p:Bool)(l:List DtSaid)(i:Nat)(h:i<l.length):putG x p (l.drop i)=(if p=false∧x.fClient≤l[i].fClient then [x] else [])++((if l[i].fClient=x.fClient then [] else [l[i]])++putG x (p || decide (x.fClient≤l[i].fClient)) (l.drop (i+1))):=by
 rw [List.drop_eq_getElem_cons h,putG]
attribute [local simp] DtSaid.cells zbe and_assoc zcy
theorem l16PutX(l:List DtSaid)(hl:l.length≤1048576)(x:DtSaid):XCall Try.prog 36 [.sl 3 (l.map DtSaid.cells),.agg (DtSaid.cells x)] [] (.arr 16 0 (putG x false l).length) [] [.own 3 ((putG x false l).map DtSaid.cells)]:=by
 refine zbt Try.func36 (by rfl) (by rfl) (by rw [Try.ntmps36];exact Nat.le_of_ble_eq_true rfl) rfl (by simp) rfl rfl ?_
 rw [Try.ntmps36]
 refine zhm   ?_
 refine AW_k [(0,_),(1,_)] ⟨rfl,rfl,trivial⟩ ?_
 refine AW_x rfl rfl λK hK=>?_
 simp (disch:=omega)
 repeat' first|(refine ⟨by omega,?_⟩)|(intro _)
 refine hK _ ?_;clear hK K
 refine AW_x rfl rfl λK hK=>?_
 simp (disch:=omega)
 repeat' first|(refine ⟨by omega,?_⟩)|(simp (disch:=omega))|(intro _)
 refine hK _ ?_;clear hK K
 refine AW_x rfl rfl λK hK=>?_
 simp (disch:=omega)
 repeat' first|(refine ⟨by omega,?_⟩)|(intro _)
 refine hK _ ?_;clear hK K
 refine zbj ?_
 refine AW_x rfl rfl λK hK=>?_
 simp (disch:=omega)
 repeat' first|(refine ⟨by omega,?_⟩)|(intro _)
 refine hK _ ?_;clear hK K
 refine zbn ?_
 refine zbv (λmM sS=>∃(i:Nat) (o:List DtSaid) (p:Bool),mM=l.length-i∧(i≤l.length∧o++putG x p (l.drop i)=putG x false l∧o.length≤2*i)∧sS = { env:=lkE [(0,.sl 3 (l.map DtSaid.cells)),(3,.ptr 64 0),(5,.arr 904 0 o.length),(6,(.g (.bool (p)))),(7,(.g (.int .i64 ((i:Nat)))))],ob:=lk [(64,.cells (DtSaid.cells x)),(904,.win 3 (o.map DtSaid.cells))] }) ?_ ?_
 ·refine ⟨_,LeS.kx [(64,64),(904,144)] [(0,.sl 3 (l.map DtSaid.cells)),(3,.ptr 64 0),(5,.arr 904 0 ([]).length),(6,(.g (.bool ((false))))),(7,(.g (.int .i64 (((0):Nat)))))] [(64,.cells (DtSaid.cells x)),(904,.win 3 (([]).map DtSaid.cells))] (by simp [zG12,KpR,renV2,renV,zbl,DtSaid.cells,zcy];first|(simp;done) | omega | trace_state) (by simp [zG12,KpOX,renO,plO,cvO,renV,pl1,DtSaid.cells,zcy];first | rfl|(simp [DtSaid.cells];done)|(rw [zfh];simp [DtSaid.cells,zcy];done) | trace_state) (by rfl) (by simp) (by simp) (by rfl) (by simp [formsX,List.range_succ,zbq,zbz]),_,0,[],false,rfl,?_,rfl⟩
  ·exact ⟨by omega,by simp,by simp⟩
 ·rintro mM sS ⟨i,o,p,rfl,⟨hi,hpo,hol⟩,rfl⟩
  refine zbj ?_
  refine AW_x rfl rfl λK hK=>?_
  simp (disch:=omega)
  repeat' first|(refine ⟨by omega,?_⟩)|(simp (disch:=omega))|(intro _)
  refine hK _ ?_;clear hK K
  refine zbi rfl (λhc1=>?_) (λhc1=>?_)
  ·try simp [zG11,zbd,zbc] at hc1
   all_goals
    have hg:l[i]? = some l[i]:=List.getElem?_eq_getElem (by omega)
    have hps:=putG_s x p l i (by omega)
    refine zbk ?_
    refine zbo ?_
    refine zbj ?_
    refine zbn ?_
    refine zbj ?_
    refine AW_d rfl mix (by kernel_rfl) (by kernel_rfl) λK hK=>?_
    simp (disch:=omega)
    repeat' first|(exfalso;omega)|(refine ⟨λ_=>?_,λ_=>?_⟩)|(refine ⟨by omega,?_⟩)|(simp (disch:=omega))|(intro _)
    all_goals (refine hK _ _ (by kernel_rfl) ?_;clear hK K)
    all_goals
     refine zbi rfl (λhc2=>?_) (λhc2=>?_)
     ·try simp [zG11,zbd,zbc] at hc2
      all_goals
       refine AW_x rfl rfl λK hK=>?_
       simp (disch:=omega)
       repeat' first|(exfalso;omega)|(refine ⟨λ_=>?_,λ_=>?_⟩)|(refine ⟨by omega,?_⟩)|(simp (disch:=omega))|(intro _)
       all_goals (refine hK _ ?_;clear hK K)
       all_goals
        refine zb6 rfl rfl λK hK=>?_
        simp (disch:=omega)
        repeat' first|(refine ⟨by omega,?_⟩)|(intro _)
        refine hK _ ?_;clear hK K
        refine zbo ?_
        refine AW_d rfl mix (by kernel_rfl) (by kernel_rfl) λK hK=>?_
        simp (disch:=omega)
        repeat' first|(refine ⟨by omega,?_⟩)|(intro _)
        refine hK _ _ (by kernel_rfl) ?_;clear hK K
        refine zbi rfl (λhc3=>?_) (λhc3=>?_)
        ·try simp [zG11,zbd,zbc] at hc3
         all_goals
          refine zb6 rfl rfl λK hK=>?_
          simp (disch:=omega)
          repeat' first|(exfalso;omega)|(refine ⟨λ_=>?_,λ_=>?_⟩)|(refine ⟨by omega,?_⟩)|(simp (disch:=omega))|(intro _)
          all_goals (refine hK _ ?_;clear hK K)
          all_goals
           refine zbo ?_
           refine zb6 rfl rfl λK hK=>?_
           simp (disch:=omega)
           repeat' first|(refine ⟨by omega,?_⟩)|(intro _)
           refine hK _ ?_;clear hK K
           refine ⟨_,LeS.kx [(64,64),(904,736)] [(0,.sl 3 (l.map DtSaid.cells)),(3,.ptr 64 0),(5,.arr 904 0 (o++[x]++[l[i]]).length),(6,(.g (.bool ((true))))),(7,(.g (.int .i64 (((i+1):Nat)))))] [(64,.cells (DtSaid.cells x)),(904,.win 3 ((o++[x]++[l[i]]).map DtSaid.cells))] (by simp [zG12,KpR,renV2,renV,zbl,DtSaid.cells,zcy];first|(simp;done) | omega | trace_state) (by simp [zG12,KpOX,renO,plO,cvO,renV,pl1,DtSaid.cells,zcy];first | rfl|(simp [DtSaid.cells];done)|(rw [zfh];simp [DtSaid.cells,zcy];done) | trace_state) (by rfl) (by simp) (by simp) (by rfl) (by simp [formsX,List.range_succ,zbq,zbz]),_,?_,i+1,o++[x]++[l[i]],true,rfl,?_,rfl⟩
           ·omega
           ·refine ⟨by omega,?_,by (try simp);omega⟩
            rw [←hpo,hps]
            clear hpo hps hg
            first|(simp_all;done)|(have hd:x.fClient≤l[i].fClient:=(by omega);simp_all;done)|(rw [if_neg (by omega),decide_eq_false (p:=x.fClient≤l[i].fClient) (by omega),Bool.or_false,if_neg (by omega)];simp;done) | trace_state
        ·try simp [zG11,zbd,zbc] at hc3
         all_goals
          refine zbk ?_
          refine zbo ?_
          refine zb6 rfl rfl λK hK=>?_
          simp (disch:=omega)
          repeat' first|(exfalso;omega)|(refine ⟨λ_=>?_,λ_=>?_⟩)|(refine ⟨by omega,?_⟩)|(simp (disch:=omega))|(intro _)
          all_goals (refine hK _ ?_;clear hK K)
          all_goals
           refine ⟨_,LeS.kx [(64,64),(904,496)] [(0,.sl 3 (l.map DtSaid.cells)),(3,.ptr 64 0),(5,.arr 904 0 (o++[x]).length),(6,(.g (.bool ((true))))),(7,(.g (.int .i64 (((i+1):Nat)))))] [(64,.cells (DtSaid.cells x)),(904,.win 3 ((o++[x]).map DtSaid.cells))] (by simp [zG12,KpR,renV2,renV,zbl,DtSaid.cells,zcy];first|(simp;done) | omega | trace_state) (by simp [zG12,KpOX,renO,plO,cvO,renV,pl1,DtSaid.cells,zcy];first | rfl|(simp [DtSaid.cells];done)|(rw [zfh];simp [DtSaid.cells,zcy];done) | trace_state) (by rfl) (by simp) (by simp) (by rfl) (by simp [formsX,List.range_succ,zbq,zbz]),_,?_,i+1,o++[x],true,rfl,?_,rfl⟩
           ·omega
           ·refine ⟨by omega,?_,by (try simp);omega⟩
            rw [←hpo,hps]
            clear hpo hps hg
            first|(simp_all;done)|(have hd:x.fClient≤l[i].fClient:=(by omega);simp_all;done)|(rw [if_neg (by omega),decide_eq_false (p:=x.fClient≤l[i].fClient) (by omega),Bool.or_false,if_neg (by omega)];simp;done) | trace_state
     ·try simp [zG11,zbd,zbc] at hc2
      all_goals
       refine zbk ?_
       refine zbo ?_
       refine AW_d rfl mix (by kernel_rfl) (by kernel_rfl) λK hK=>?_
       simp (disch:=omega)
       repeat' first|(exfalso;omega)|(refine ⟨λ_=>?_,λ_=>?_⟩)|(refine ⟨by omega,?_⟩)|(simp (disch:=omega))|(intro _)
       all_goals (refine hK _ _ (by kernel_rfl) ?_;clear hK K)
       all_goals
        refine zbi rfl (λhc4=>?_) (λhc4=>?_)
        ·try simp [zG11,zbd,zbc] at hc4
         all_goals
          refine zb6 rfl rfl λK hK=>?_
          simp (disch:=omega)
          repeat' first|(exfalso;omega)|(refine ⟨λ_=>?_,λ_=>?_⟩)|(refine ⟨by omega,?_⟩)|(simp (disch:=omega))|(intro _)
          all_goals (refine hK _ ?_;clear hK K)
          all_goals
           refine zbo ?_
           refine zb6 rfl rfl λK hK=>?_
           simp (disch:=omega)
           repeat' first|(refine ⟨by omega,?_⟩)|(intro _)
           refine hK _ ?_;clear hK K
           refine ⟨_,LeS.kx [(64,64),(904,736)] [(0,.sl 3 (l.map DtSaid.cells)),(3,.ptr 64 0),(5,.arr 904 0 (o++[l[i]]).length),(6,(.g (.bool ((p))))),(7,(.g (.int .i64 (((i+1):Nat)))))] [(64,.cells (DtSaid.cells x)),(904,.win 3 ((o++[l[i]]).map DtSaid.cells))] (by simp [zG12,KpR,renV2,renV,zbl,DtSaid.cells,zcy];first|(simp;done) | omega | trace_state) (by simp [zG12,KpOX,renO,plO,cvO,renV,pl1,DtSaid.cells,zcy];first | rfl|(simp [DtSaid.cells];done)|(rw [zfh];simp [DtSaid.cells,zcy];done) | trace_state) (by rfl) (by simp) (by simp) (by rfl) (by simp [formsX,List.range_succ,zbq,zbz]),_,?_,i+1,o++[l[i]],p,rfl,?_,rfl⟩
           ·omega
           ·refine ⟨by omega,?_,by (try simp);omega⟩
            rw [←hpo,hps]
            clear hpo hps hg
            first|(simp_all;done)|(have hd:x.fClient≤l[i].fClient:=(by omega);simp_all;done)|(rw [if_neg (by omega),decide_eq_false (p:=x.fClient≤l[i].fClient) (by omega),Bool.or_false,if_neg (by omega)];simp;done) | trace_state
        ·try simp [zG11,zbd,zbc] at hc4
         all_goals
          refine zbk ?_
          refine zbo ?_
          refine zb6 rfl rfl λK hK=>?_
          simp (disch:=omega)
          repeat' first|(exfalso;omega)|(refine ⟨λ_=>?_,λ_=>?_⟩)|(refine ⟨by omega,?_⟩)|(simp (disch:=omega))|(intro _)
          all_goals (refine hK _ ?_;clear hK K)
          all_goals
           refine ⟨_,LeS.kx [(64,64),(904,904)] [(0,.sl 3 (l.map DtSaid.cells)),(3,.ptr 64 0),(5,.arr 904 0 (o).length),(6,(.g (.bool ((p))))),(7,(.g (.int .i64 (((i+1):Nat)))))] [(64,.cells (DtSaid.cells x)),(904,.win 3 ((o).map DtSaid.cells))] (by simp [zG12,KpR,renV2,renV,zbl,DtSaid.cells,zcy];first|(simp;done) | omega | trace_state) (by simp [zG12,KpOX,renO,plO,cvO,renV,pl1,DtSaid.cells,zcy];first | rfl|(simp [DtSaid.cells];done)|(rw [zfh];simp [DtSaid.cells,zcy];done) | trace_state) (by rfl) (by simp) (by simp) (by rfl) (by simp [formsX,List.range_succ,zbq,zbz]),_,?_,i+1,o,p,rfl,?_,rfl⟩
           ·omega
           ·refine ⟨by omega,?_,by (try simp);omega⟩
            rw [←hpo,hps]
            clear hpo hps hg
            first|(simp_all;done)|(have hd:x.fClient≤l[i].fClient:=(by omega);simp_all;done)|(rw [if_neg (by omega),decide_eq_false (p:=x.fClient≤l[i].fClient) (by omega),Bool.or_false,if_neg (by omega)];simp;done) | trace_state
  ·try simp [zG11,zbd,zbc] at hc1
   all_goals
    have hil:i=l.length:=by omega
    refine zb0 ?_
    refine zbo ?_
    refine zbj ?_
    refine AW_x rfl rfl λK hK=>?_
    simp (disch:=omega)
    repeat' first|(exfalso;omega)|(refine ⟨λ_=>?_,λ_=>?_⟩)|(refine ⟨by omega,?_⟩)|(simp (disch:=omega))|(intro _)
    all_goals (refine hK _ ?_;clear hK K)
    all_goals
     refine zbi rfl (λhc5=>?_) (λhc5=>?_)
     ·try simp [zG11,zbd,zbc] at hc5
      all_goals
       refine zb6 rfl rfl λK hK=>?_
       simp (disch:=omega)
       repeat' first|(exfalso;omega)|(refine ⟨λ_=>?_,λ_=>?_⟩)|(refine ⟨by omega,?_⟩)|(simp (disch:=omega))|(intro _)
       all_goals (refine hK _ ?_;clear hK K)
       all_goals
        refine zbo ?_
        refine AW_x rfl rfl λK hK=>?_
        simp (disch:=omega)
        repeat' first|(refine ⟨by omega,?_⟩)|(intro _)
        refine hK _ ?_;clear hK K
        refine zbp (zb5 [832] [] (by simp [zG12,List.range_succ]) (by simp) ?_)
        simp (disch:=omega)
        all_goals first|(subst hil;rw [List.drop_length,putG,if_neg (by simp [hc5])] at hpo;rw [←hpo];simp [DtSaid.cells];done)|(subst hil;rw [List.drop_length,putG,if_pos hc5,List.append_nil] at hpo;rw [←hpo];exact ⟨rfl,rfl⟩) | trace_state
     ·try simp [zG11,zbd,zbc] at hc5
      all_goals
       refine zbk ?_
       refine zbo ?_
       refine AW_x rfl rfl λK hK=>?_
       simp (disch:=omega)
       repeat' first|(exfalso;omega)|(refine ⟨λ_=>?_,λ_=>?_⟩)|(refine ⟨by omega,?_⟩)|(simp (disch:=omega))|(intro _)
       all_goals (refine hK _ ?_;clear hK K)
       all_goals
        refine zbp (zb5 [904] [] (by simp [zG12,List.range_succ]) (by simp) ?_)
        simp (disch:=omega)
        all_goals first|(subst hil;rw [List.drop_length,putG,if_neg (by simp [hc5])] at hpo;rw [←hpo];simp [DtSaid.cells];done)|(subst hil;rw [List.drop_length,putG,if_pos hc5,List.append_nil] at hpo;rw [←hpo];exact ⟨rfl,rfl⟩) | trace_state
end Go.Proofs.Ytodmafgmdlkhoaa.Vs
end
