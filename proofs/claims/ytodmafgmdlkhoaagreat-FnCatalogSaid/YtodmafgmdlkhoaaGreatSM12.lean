import Derived.Test.YtodmafgmdlkhoaaGreatSM11
section
namespace Go.Proofs.YtodmafgmdlkhoaaGreat.Vs
set_option linter.all false
set_option maxRecDepth 100000
set_option maxHeartbeats 4000000
theorem catC_szG{c:DtCatalog}(h:CaG c)(m:DtCmd):DtCatalog.sz (catC c m)≤100000:=by
 have:=zqy (zg7 c m)
 omega
theorem catC_f{c:DtCatalog}(h:¬CatP c)(m:DtCmd):catR c m=[]∧(catC c m).fSets=[]:=by
 constructor
 ·unfold catR;rw [zco h];rfl
 ·show catS c m=[]
  unfold catS;rw [zco h];rfl
theorem st0_sz{c:DtCatalog}{B:Int}(h:DtCatalog.sz c≤B):DtState.sz ⟨c,[]⟩≤B+10:=by
 simp only [DtState.sz,szS,zcj,List.length_nil]
 omega
theorem okTC{s:DtCatalog}(h:DtCatalog.sz s≤1048576)(hP:CatP s):PCall Tryz.prog 25 [.agg (DtCatalog.cells s)] (.g (.bool (true))):=by
 have:=zc4 s h
 rwa [zcc hP] at this
theorem zli{s c:DtCatalog}(h:DtState.sz ⟨c,[]⟩≤1048576)(e:s=c):PCall Tryz.prog 26 [.agg (DtState.cells ⟨s,[]⟩)] (.s (showState ⟨c,[]⟩)):=by
 subst e;exact zd4 _ h
theorem hasT{xs:List (List UInt8)}{x:List UInt8}(hn:xs.length≤1048576)(h:x∈xs):PCall Tryz.prog 30 [.sl 1 (xs.map cS),.s x] (.g (.bool (true))):=by
 have:=hasText xs x hn
 rwa [zcc h] at this
theorem zjl(xs:List (List UInt8))(hn:xs.length≤1048576):PCall Tryz.prog 22 [.sl 1 (xs.map cS),.sl 1 (xs.map cS)] (.g (.bool (true))):=by
 have:=sameTexts xs xs hn
 rwa [zhl rfl] at this
theorem zz6(c:DtCatalog)(hs:DtCatalog.sz c≤1048576):PCall Tryz.prog 27 [.agg (DtCatalog.cells c),.s [110,111,116,32,97,32,99,104,117,110,107]] (.g (.int .i64 ((0:Int)))):=by
 have:=zd9 c [110,111,116,32,97,32,99,104,117,110,107] hs
 rwa [refs_zero _ _ (by decide)] at this
theorem asc_at{c:DtCatalog}{i:Nat}(h0:0<i)(h:i<(allL c).length):Op.bytesLess (allL c)[i-1] (allL c)[i]=true:=by
 rw [bless]
 exact List.pairwise_iff_getElem.1 (allL_asc c) (i-1) i (by omega) h (by omega)
theorem eqB_r(b:List UInt8):(b==b)=true:=by simp
def zG34:=And.intro @zcf (And.intro @gE (And.intro @tP (And.intro @eqB_r (And.intro @and_assoc (And.intro @List.range_succ @zbo)))))
def zG35:=And.intro @zbf @zbn
def zG36:=And.intro @zbr (And.intro @zby @zb0)
def zG37:=And.intro @zcf (And.intro @gE @tP)
def zG38:=And.intro @zcf (And.intro @gE (And.intro @tP @zbo))
theorem lawCatX(l:List Int)(hw:l.length<9223372036854775808):XCall Tryz.prog 4 [.sl 1 (l.map cU)] [] (.g (.bool (true))) [] []:=by
 by_cases hl:l.length≤1048576
 ·have e:¬1048576<l.length:=by omega
  refine zbu Tryz.func4 (by rfl) (by rfl) (by rw [Tryz.ntmps4];exact Nat.le_of_ble_eq_true rfl) rfl (by simp) rfl rfl ?_
  rw [Tryz.ntmps4]
  refine zjb   ?_
  refine AW_k [(0,_)] ⟨rfl,trivial⟩ ?_
  refine AW_x rfl rfl λK hK=>?_
  simp (disch:=omega) [zG34,DtState.cells,DtCatalog.cells,DtCmd.cells,cS,e]
  repeat' first|(refine ⟨by omega,?_⟩)|(intro _)
  refine hK _ ?_;clear hK K
  refine zbh ?_
  refine AW_x rfl rfl λK hK=>?_
  simp (disch:=omega) [zG34,DtState.cells,DtCatalog.cells,DtCmd.cells,cS,e]
  repeat' first|(exfalso;omega)|(refine zdq (zbd zdm zbl) (zq2 l hw) rfl ?_;simp (disch:=omega) [zG34,DtState.cells,DtCatalog.cells,DtCmd.cells,cS,e])|(refine zdr (zq2 l hw) (by rfl) ?_ ?_;(focus (simp (disch:=omega) [zG34,DtState.cells,DtCatalog.cells,DtCmd.cells,cS,e];done));simp (disch:=omega) [zG34,DtState.cells,DtCatalog.cells,DtCmd.cells,cS,e])|(refine ⟨by omega,?_⟩)|(simp (disch:=omega) [zG34,DtState.cells,DtCatalog.cells,DtCmd.cells,cS,e])|(intro _)
  refine hK _ ?_;clear hK K
  refine zbg rfl (λhc1=>?_) (λhc1=>?_)
  ·try simp [zG35,zbc,zbb] at hc1
   all_goals
    refine AW_x rfl rfl λK hK=>?_
    simp (disch:=omega) [zG34,DtState.cells,DtCatalog.cells,DtCmd.cells,cS,e]
    repeat' first|(exfalso;omega)|(refine ⟨λ_=>?_,λ_=>?_⟩)|(refine ⟨by omega,?_⟩)|(simp (disch:=omega) [zG34,DtState.cells,DtCatalog.cells,DtCmd.cells,cS,e])|(intro _)
    all_goals (refine hK _ ?_;clear hK K)
    all_goals
     refine zbp (zce [] [] (by simp [zG36,List.range_succ]) (by simp) ?_)
     simp (disch:=omega) [zG34,DtState.cells,DtCatalog.cells,DtCmd.cells,cS,e]
     all_goals first | rfl | omega|(simp_all;done) | trace_state
  ·try simp [zG35,zbc,zbb] at hc1
   all_goals
    refine zbi ?_
    refine zbm ?_
    refine AW_x rfl rfl λK hK=>?_
    simp (disch:=omega) [zG34,DtState.cells,DtCatalog.cells,DtCmd.cells,cS,e]
    repeat' first|(exfalso;omega)|(refine XKd_e [] false [] (zth l hl) ?_ ?_ ?_;(focus (simp [List.range_succ,nmC];done));(focus (simp (disch:=omega) [zG34,DtState.cells,DtCatalog.cells,DtCmd.cells,cS,e];done));rintro _ _ _ ⟨c,m,hG,hm,rfl,rfl,rfl⟩;refine ⟨⟨by first | rfl|(simp;done),by first | rfl|(simp;done)⟩,?_⟩;simp (disch:=omega) [zG34,DtState.cells,DtCatalog.cells,DtCmd.cells,cS,e])|(refine ⟨λ_=>?_,λ_=>?_⟩)|(refine ⟨by omega,?_⟩)|(simp (disch:=omega) [zG34,DtState.cells,DtCatalog.cells,DtCmd.cells,cS,e])|(intro _)
    all_goals (refine hK _ ?_;clear hK K)
    all_goals
     have hs1:DtCatalog.sz c≤1048576:=by unfold CaG at hG;omega
     have hs2:DtCatalog.sz (catC c m)≤1048576:=by have:=catC_szG hG m;omega
     have hmz:DtCmd.sz m≤1048576:=by have:=zx0 hm;omega
     have hal:(allL (catC c m)).length≤1048576:=by have:=(allL_len (catC c m)).1;omega
     have hs4:DtState.sz ⟨c,[]⟩≤1048576:=by unfold CaG at hG;have:=st0_sz hG;omega
     have hL:=zwj hG
     have hL2:=zwj (c:=catC c m) (by have:=zqy (zg7 c m);omega)
     have hPx:=zg7 c m
     have hmc:=hm.2.2.2.1
     refine AW_x rfl rfl λK hK=>?_
     simp (disch:=omega) [zG34,DtState.cells,DtCatalog.cells,DtCmd.cells,cS,e]
     repeat' first|(exfalso;omega)|(refine zd5 [] true [] (zxw c m hs1 hmz) ?_ ?_ ?_;(focus (simp [List.range_succ,nmC];done));(focus (simp (disch:=omega) [zG34,DtState.cells,DtCatalog.cells,DtCmd.cells,cS,e];done));simp (disch:=omega) [zG34,DtState.cells,DtCatalog.cells,DtCmd.cells,cS,e])|(refine ⟨by omega,?_⟩)|(simp (disch:=omega) [zG34,DtState.cells,DtCatalog.cells,DtCmd.cells,cS,e])|(intro _)
     refine hK _ ?_;clear hK K
     refine AW_x rfl rfl λK hK=>?_
     simp (disch:=omega) [zG34,DtState.cells,DtCatalog.cells,DtCmd.cells,cS,e]
     repeat' first|(exfalso;omega)|(refine zd5 [] true [] (zqz c m hs1 hmz) ?_ ?_ ?_;(focus (simp [List.range_succ,nmC];done));(focus (simp (disch:=omega) [zG34,DtState.cells,DtCatalog.cells,DtCmd.cells,cS,e];done));simp (disch:=omega) [zG34,DtState.cells,DtCatalog.cells,DtCmd.cells,cS,e])|(refine ⟨by omega,?_⟩)|(simp (disch:=omega) [zG34,DtState.cells,DtCatalog.cells,DtCmd.cells,cS,e])|(intro _)
     refine hK _ ?_;clear hK K
     refine zbh ?_
     refine AW_d rfl mix (by kernel_rfl) (by kernel_rfl) λK hK=>?_
     simp (disch:=omega) [zG34,DtState.cells,DtCatalog.cells,DtCmd.cells,cS,e]
     repeat' first|(exfalso;omega)|(refine zmj [] true [] (zmr (catC c m) hs2) ?_ (λst' hst=>?_) ?_;(focus (simp [List.range_succ,nmC];done));(focus (simp (disch:=omega) [zG34,DtState.cells,DtCatalog.cells,DtCmd.cells,cS,e,nmC] at hst;simp (disch:=omega) [zG34,DtState.cells,DtCatalog.cells,DtCmd.cells,cS,e,hst,nmC];done));simp (disch:=omega) [zG34,DtState.cells,DtCatalog.cells,DtCmd.cells,cS,e])|(refine zmj [] true [] (specAll (catC c m) hs2) ?_ (λst' hst=>?_) ?_;(focus (simp [List.range_succ,nmC];done));(focus (simp (disch:=omega) [zG34,DtState.cells,DtCatalog.cells,DtCmd.cells,cS,e,nmC] at hst;simp (disch:=omega) [zG34,DtState.cells,DtCatalog.cells,DtCmd.cells,cS,e,hst,nmC];done));simp (disch:=omega) [zG34,DtState.cells,DtCatalog.cells,DtCmd.cells,cS,e])|(refine zf2 (λst'=>(zbd zdm (zbd zdm zbl))) (zjl (allL (catC c m)) hal) rfl ?_;simp (disch:=omega) [zG34,DtState.cells,DtCatalog.cells,DtCmd.cells,cS,e])|(refine zf3 (zjl (allL (catC c m)) hal) (by rfl) (λst' hst=>?_) ?_;(focus (simp (disch:=omega) [zG34,DtState.cells,DtCatalog.cells,DtCmd.cells,cS,e] at hst;simp (disch:=omega) [zG34,DtState.cells,DtCatalog.cells,DtCmd.cells,cS,e,hst];done));simp (disch:=omega) [zG34,DtState.cells,DtCatalog.cells,DtCmd.cells,cS,e])|(refine ⟨λ_=>?_,λ_=>?_⟩)|(refine ⟨by omega,?_⟩)|(simp (disch:=omega) [zG34,DtState.cells,DtCatalog.cells,DtCmd.cells,cS,e])|(intro _)
     all_goals (refine hK _ _ (by kernel_rfl) ?_;clear hK K)
     all_goals
      refine zbg rfl (λhc2=>?_) (λhc2=>?_)
      ·try simp [zG35,zbc,zbb] at hc2
       all_goals
        refine AW_x rfl rfl λK hK=>?_
        simp (disch:=omega) [zG34,DtState.cells,DtCatalog.cells,DtCmd.cells,cS,e]
        repeat' first|(exfalso;omega)|(refine ⟨λ_=>?_,λ_=>?_⟩)|(refine ⟨by omega,?_⟩)|(simp (disch:=omega) [zG34,DtState.cells,DtCatalog.cells,DtCmd.cells,cS,e])|(intro _)
        all_goals (refine hK _ ?_;clear hK K)
        all_goals
         refine zbp (zce [] [] (by simp [zG36,List.range_succ]) (by simp) ?_)
         simp (disch:=omega) [zG34,DtState.cells,DtCatalog.cells,DtCmd.cells,cS,e]
         all_goals first | rfl | omega|(simp_all;done) | trace_state
      ·try simp [zG35,zbc,zbb] at hc2
       all_goals
        refine zbi ?_
        refine zbm ?_
        refine zbh ?_
        refine AW_x rfl rfl λK hK=>?_
        simp (disch:=omega) [zG34,DtState.cells,DtCatalog.cells,DtCmd.cells,cS,e]
        repeat' first|(exfalso;omega)|(refine zdq (zbd (zbz rfl) zbl) (zc4 c hs1) rfl ?_;simp (disch:=omega) [zG34,DtState.cells,DtCatalog.cells,DtCmd.cells,cS,e])|(refine zdr (zc4 c hs1) (by rfl) ?_ ?_;(focus (simp (disch:=omega) [zG34,DtState.cells,DtCatalog.cells,DtCmd.cells,cS,e];done));simp (disch:=omega) [zG34,DtState.cells,DtCatalog.cells,DtCmd.cells,cS,e])|(refine zdq (zbd (zbz rfl) zbl) (okTC hs2 hPx) rfl ?_;simp (disch:=omega) [zG34,DtState.cells,DtCatalog.cells,DtCmd.cells,cS,e])|(refine zdr (okTC hs2 hPx) (by rfl) ?_ ?_;(focus (simp (disch:=omega) [zG34,DtState.cells,DtCatalog.cells,DtCmd.cells,cS,e];done));simp (disch:=omega) [zG34,DtState.cells,DtCatalog.cells,DtCmd.cells,cS,e])|(refine ⟨λ_=>?_,λ_=>?_⟩)|(refine ⟨by omega,?_⟩)|(simp (disch:=omega) [zG34,DtState.cells,DtCatalog.cells,DtCmd.cells,cS,e])|(intro _)
        all_goals (refine hK _ ?_;clear hK K)
        all_goals
         refine zbg rfl (λhc3=>?_) (λhc3=>?_)
         ·try simp [zG35,zbc,zbb] at hc3
          all_goals
           have ⟨e1,e2⟩:=catC_f (c:=c) (by assumption) m
           simp only [e1,e2]
           refine AW_x rfl rfl λK hK=>?_
           simp (disch:=omega) [zG34,DtState.cells,DtCatalog.cells,DtCmd.cells,cS,e]
           repeat' first|(exfalso;omega)|(refine ⟨λ_=>?_,λ_=>?_⟩)|(refine ⟨by omega,?_⟩)|(simp (disch:=omega) [zG34,DtState.cells,DtCatalog.cells,DtCmd.cells,cS,e])|(intro _)
           all_goals (refine hK _ ?_;clear hK K)
           all_goals
            refine zbp (zce [] [] (by simp [zG36,List.range_succ]) (by simp) ?_)
            simp (disch:=omega) [zG34,DtState.cells,DtCatalog.cells,DtCmd.cells,cS,e]
            all_goals first | rfl | omega|(simp_all;done) | trace_state
         ·try simp [zG35,zbc,zbb] at hc3
          all_goals
           refine zbi ?_
           refine zbm ?_
           refine zbh ?_
           have hP:CatP c:=by assumption
           refine AW_x rfl rfl λK hK=>?_
           simp (disch:=omega) [zG34,DtState.cells,DtCatalog.cells,DtCmd.cells,cS,e]
           repeat' first|(exfalso;omega)|(refine zdq (zbd (zbz rfl) zbl) (zc4 c hs1) rfl ?_;simp (disch:=omega) [zG34,DtState.cells,DtCatalog.cells,DtCmd.cells,cS,e])|(refine zdr (zc4 c hs1) (by rfl) ?_ ?_;(focus (simp (disch:=omega) [zG34,DtState.cells,DtCatalog.cells,DtCmd.cells,cS,e];done));simp (disch:=omega) [zG34,DtState.cells,DtCatalog.cells,DtCmd.cells,cS,e])|(refine zdq (zbd (zbz rfl) zbl) (okTC hs2 hPx) rfl ?_;simp (disch:=omega) [zG34,DtState.cells,DtCatalog.cells,DtCmd.cells,cS,e])|(refine zdr (okTC hs2 hPx) (by rfl) ?_ ?_;(focus (simp (disch:=omega) [zG34,DtState.cells,DtCatalog.cells,DtCmd.cells,cS,e];done));simp (disch:=omega) [zG34,DtState.cells,DtCatalog.cells,DtCmd.cells,cS,e])|(refine ⟨λ_=>?_,λ_=>?_⟩)|(refine ⟨by omega,?_⟩)|(simp (disch:=omega) [zG34,DtState.cells,DtCatalog.cells,DtCmd.cells,cS,e])|(intro _)
           all_goals (refine hK _ ?_;clear hK K)
           all_goals
            refine zbg rfl (λhc4=>?_) (λhc4=>?_)
            ·try simp [zG35,zbc,zbb] at hc4
             all_goals
              refine AW_x rfl rfl λK hK=>?_
              simp (disch:=omega) [zG34,DtState.cells,DtCatalog.cells,DtCmd.cells,cS,e]
              repeat' first|(exfalso;omega)|(refine ⟨λ_=>?_,λ_=>?_⟩)|(refine ⟨by omega,?_⟩)|(simp (disch:=omega) [zG34,DtState.cells,DtCatalog.cells,DtCmd.cells,cS,e])|(intro _)
              all_goals (refine hK _ ?_;clear hK K)
              all_goals
               refine zbp (zce [] [] (by simp [zG36,List.range_succ]) (by simp) ?_)
               simp (disch:=omega) [zG34,DtState.cells,DtCatalog.cells,DtCmd.cells,cS,e]
               all_goals first | rfl | omega|(simp_all;done) | trace_state
            ·try simp [zG35,zbc,zbb] at hc4
             all_goals
              refine zbi ?_
              refine zbm ?_
              refine zfk (λsS=>∃(q:Nat),(q=0)∧sS = { env:=lkE [(3,.ptr 64 0),(4,.ptr 80 0),(5,.ptr 96 0),(6,.s (catR c m))],ob:=lk [(64,.cells (DtCatalog.cells c)),(80,.cells (DtCmd.cells m)),(96,.cells [.arr 500 0 (catC c m).fSets.length]),(500,.own 2 ((catC c m).fSets.map DtCSet.cells))] }) ?_ ?_
              ·skip
               refine AW_x rfl rfl λK hK=>?_
               simp (disch:=omega) [zG34,DtState.cells,DtCatalog.cells,DtCmd.cells,cS,e]
               repeat' first|(exfalso;omega)|(refine ⟨λ_=>?_,λ_=>?_⟩)|(refine ⟨by omega,?_⟩)|(simp (disch:=omega) [zG34,DtState.cells,DtCatalog.cells,DtCmd.cells,cS,e])|(intro _)
               all_goals (refine hK _ ?_;clear hK K)
               all_goals
                refine zbg rfl (λhc5=>?_) (λhc5=>?_)
                ·try simp [zG35,zbc,zbb] at hc5
                 all_goals
                  have e1:=catS_same hP (m:=m) (by simp_all [bNone,bExists,bFull])
                  refine AW_d rfl mix (by kernel_rfl) (by kernel_rfl) λK hK=>?_
                  simp (disch:=omega) [zG34,DtState.cells,DtCatalog.cells,DtCmd.cells,cS,e]
                  repeat' first|(exfalso;omega)|(refine zf2 (λst'=>(zbd (zbz rfl) zbl)) (zli hs4 e1) rfl ?_;simp (disch:=omega) [zG34,DtState.cells,DtCatalog.cells,DtCmd.cells,cS,e])|(refine zf3 (zli hs4 e1) (by rfl) (λst' hst=>?_) ?_;(focus (simp (disch:=omega) [zG34,DtState.cells,DtCatalog.cells,DtCmd.cells,cS,e] at hst;simp (disch:=omega) [zG34,DtState.cells,DtCatalog.cells,DtCmd.cells,cS,e,hst];done));simp (disch:=omega) [zG34,DtState.cells,DtCatalog.cells,DtCmd.cells,cS,e])|(refine zf2 (λst'=>(zbd (zbz rfl) zbl)) (zd4 ⟨c,[]⟩ hs4) rfl ?_;simp (disch:=omega) [zG34,DtState.cells,DtCatalog.cells,DtCmd.cells,cS,e])|(refine zf3 (zd4 ⟨c,[]⟩ hs4) (by rfl) (λst' hst=>?_) ?_;(focus (simp (disch:=omega) [zG34,DtState.cells,DtCatalog.cells,DtCmd.cells,cS,e] at hst;simp (disch:=omega) [zG34,DtState.cells,DtCatalog.cells,DtCmd.cells,cS,e,hst];done));simp (disch:=omega) [zG34,DtState.cells,DtCatalog.cells,DtCmd.cells,cS,e])|(refine ⟨λ_=>?_,λ_=>?_⟩)|(refine ⟨by omega,?_⟩)|(simp (disch:=omega) [zG34,DtState.cells,DtCatalog.cells,DtCmd.cells,cS,e])|(intro _)
                  all_goals (refine hK _ _ (by kernel_rfl) ?_;clear hK K)
                  all_goals
                   refine zbg rfl (λhc6=>?_) (λhc6=>?_)
                   ·try simp [zG35,zbc,zbb] at hc6
                    all_goals
                     refine AW_x rfl rfl λK hK=>?_
                     simp (disch:=omega) [zG34,DtState.cells,DtCatalog.cells,DtCmd.cells,cS,e]
                     repeat' first|(exfalso;omega)|(refine ⟨λ_=>?_,λ_=>?_⟩)|(refine ⟨by omega,?_⟩)|(simp (disch:=omega) [zG34,DtState.cells,DtCatalog.cells,DtCmd.cells,cS,e])|(intro _)
                     all_goals (refine hK _ ?_;clear hK K)
                     all_goals
                      refine zbp (zce [] [] (by simp [zG36,List.range_succ]) (by simp) ?_)
                      simp (disch:=omega) [zG34,DtState.cells,DtCatalog.cells,DtCmd.cells,cS,e]
                      all_goals first | rfl | omega|(simp_all;done) | trace_state
                   ·try simp [zG35,zbc,zbb] at hc6
                    all_goals
                     refine zbi ?_
                     refine ⟨_,LeS.kw [(64,64),(80,80),(96,96),(500,368)] [(3,.ptr 64 0),(4,.ptr 80 0),(5,.ptr 96 0),(6,.s (catR c m))] [(64,.cells (DtCatalog.cells c)),(80,.cells (DtCmd.cells m)),(96,.cells [.arr 500 0 (catC c m).fSets.length]),(500,.own 2 ((catC c m).fSets.map DtCSet.cells))] (by simp [zG36,KpR,renV2,renV,zbk,DtCatalog.cells,DtCmd.cells];try (first | with_reducible rfl | omega)) (by simp [zG36,KpOW,wnO,renO,plO,cvO,renV,pl1,DtCatalog.cells,DtCmd.cells];try (first | with_reducible rfl | trace_state)) (by rfl) (by simp) (by simp) (by rfl) (by simp [formsX,List.range_succ,zbr,zby]),0,?_,rfl⟩
                     ·rfl
                ·try simp [zG35,zbc,zbb] at hc5
                 all_goals
                  refine zbi ?_
                  refine ⟨_,LeS.kw [(64,64),(80,80),(96,96),(500,368)] [(3,.ptr 64 0),(4,.ptr 80 0),(5,.ptr 96 0),(6,.s (catR c m))] [(64,.cells (DtCatalog.cells c)),(80,.cells (DtCmd.cells m)),(96,.cells [.arr 500 0 (catC c m).fSets.length]),(500,.own 2 ((catC c m).fSets.map DtCSet.cells))] (by simp [zG36,KpR,renV2,renV,zbk,DtCatalog.cells,DtCmd.cells];try (first | with_reducible rfl | omega)) (by simp [zG36,KpOW,wnO,renO,plO,cvO,renV,pl1,DtCatalog.cells,DtCmd.cells];try (first | with_reducible rfl | trace_state)) (by rfl) (by simp) (by simp) (by rfl) (by simp [formsX,List.range_succ,zbr,zby]),0,?_,rfl⟩
                  ·rfl
              ·rintro sS ⟨q,hq,rfl⟩
               refine AW_x rfl rfl λK hK=>?_
               simp (disch:=omega) [zG34,DtState.cells,DtCatalog.cells,DtCmd.cells,cS,e]
               repeat' first|(exfalso;omega)|(refine zd5 [] true [] (zmr (catC c m) hs2) ?_ ?_ ?_;(focus (simp [List.range_succ,nmC];done));(focus (simp (disch:=omega) [zG34,DtState.cells,DtCatalog.cells,DtCmd.cells,cS,e];done));simp (disch:=omega) [zG34,DtState.cells,DtCatalog.cells,DtCmd.cells,cS,e])|(refine ⟨λ_=>?_,λ_=>?_⟩)|(refine ⟨by omega,?_⟩)|(simp (disch:=omega) [zG34,DtState.cells,DtCatalog.cells,DtCmd.cells,cS,e])|(intro _)
               all_goals (refine hK _ ?_;clear hK K)
               all_goals
                refine zbh ?_
                refine AW_x rfl rfl λK hK=>?_
                simp (disch:=omega) [zG34,DtState.cells,DtCatalog.cells,DtCmd.cells,cS,e]
                repeat' first|(refine ⟨by omega,?_⟩)|(intro _)
                refine hK _ ?_;clear hK K
                refine zbj ?_
                refine zbs (λmM sS=>∃(i:Nat),mM=(allL (catC c m)).length-i∧(i≤(allL (catC c m)).length)∧sS = { env:=lkE [(3,.ptr 64 0),(4,.ptr 80 0),(5,.ptr 96 0),(6,.s (catR c m)),(9,.arr 501 0 (allL (catC c m)).length),(10,(.g (.int .i64 ((i:Nat)))))],ob:=lk [(64,.cells (DtCatalog.cells c)),(80,.cells (DtCmd.cells m)),(96,.cells [.arr 500 0 (catC c m).fSets.length]),(500,.own 2 ((catC c m).fSets.map DtCSet.cells)),(501,.own 1 ((allL (catC c m)).map cS))] }) ?_ ?_
                ·refine ⟨_,LeS.kx [(64,64),(80,80),(96,96),(500,500),(501,1360)] [(3,.ptr 64 0),(4,.ptr 80 0),(5,.ptr 96 0),(6,.s (catR c m)),(9,.arr 501 0 (allL (catC c m)).length),(10,(.g (.int .i64 (((0):Nat)))))] [(64,.cells (DtCatalog.cells c)),(80,.cells (DtCmd.cells m)),(96,.cells [.arr 500 0 (catC c m).fSets.length]),(500,.own 2 ((catC c m).fSets.map DtCSet.cells)),(501,.own 1 ((allL (catC c m)).map cS))] (by simp [zG36,KpR,renV2,renV,zbk,DtCatalog.cells,DtCmd.cells];try (first | with_reducible rfl | omega)) (by simp [zG36,KpOX,renO,plO,cvO,renV,pl1,DtCatalog.cells,DtCmd.cells];try (first | with_reducible rfl | trace_state)) (by rfl) (by simp) (by simp) (by rfl) (by simp [formsX,List.range_succ,zbr,zby]),_,0,rfl,?_,rfl⟩
                 ·simp
                ·rintro mM sS ⟨i,rfl,hi,rfl⟩
                 refine zbh ?_
                 refine AW_x rfl rfl λK hK=>?_
                 simp (disch:=omega) [zG34,DtState.cells,DtCatalog.cells,DtCmd.cells,cS,e]
                 repeat' first|(refine ⟨by omega,?_⟩)|(simp (disch:=omega) [zG34,DtState.cells,DtCatalog.cells,DtCmd.cells,cS,e])|(intro _)
                 refine hK _ ?_;clear hK K
                 refine zbg rfl (λhc7=>?_) (λhc7=>?_)
                 ·try simp [zG35,zbc,zbb] at hc7
                  all_goals
                   have hrp:=refs_pos (c:=catC c m) (x:=(allL (catC c m))[i]) (List.getElem_mem _)
                   have hasc:0<i→Op.bytesLess (allL (catC c m))[i-1] (allL (catC c m))[i]=true:=λh0=>asc_at h0 (by omega)
                   refine zbi ?_
                   refine zbm ?_
                   refine zbh ?_
                   refine zbj ?_
                   refine AW_d rfl mix (by kernel_rfl) (by kernel_rfl) λK hK=>?_
                   simp (disch:=omega) [zG34,DtState.cells,DtCatalog.cells,DtCmd.cells,cS,e]
                   repeat' first|(exfalso;omega)|(refine zf2 (λst'=>(zbd (zbz rfl) (zbd zdg zbl))) (zz6 (catC c m) hs2) rfl ?_;simp (disch:=omega) [zG34,DtState.cells,DtCatalog.cells,DtCmd.cells,cS,e])|(refine zf3 (zz6 (catC c m) hs2) (by rfl) (λst' hst=>?_) ?_;(focus (simp (disch:=omega) [zG34,DtState.cells,DtCatalog.cells,DtCmd.cells,cS,e] at hst;simp (disch:=omega) [zG34,DtState.cells,DtCatalog.cells,DtCmd.cells,cS,e,hst];done));simp (disch:=omega) [zG34,DtState.cells,DtCatalog.cells,DtCmd.cells,cS,e])|(refine zf2 (λst'=>(zbd (zbz rfl) (zbd zdg zbl))) (zd9 (catC c m) (allL (catC c m))[i] hs2) rfl ?_;simp (disch:=omega) [zG34,DtState.cells,DtCatalog.cells,DtCmd.cells,cS,e])|(refine zf3 (zd9 (catC c m) (allL (catC c m))[i] hs2) (by rfl) (λst' hst=>?_) ?_;(focus (simp (disch:=omega) [zG34,DtState.cells,DtCatalog.cells,DtCmd.cells,cS,e] at hst;simp (disch:=omega) [zG34,DtState.cells,DtCatalog.cells,DtCmd.cells,cS,e,hst];done));simp (disch:=omega) [zG34,DtState.cells,DtCatalog.cells,DtCmd.cells,cS,e])|(refine zf2 (λst'=>(zbd (zbz rfl) (zbd zdg zbl))) (zn4 (catC c m) (allL (catC c m))[i] hs2) rfl ?_;simp (disch:=omega) [zG34,DtState.cells,DtCatalog.cells,DtCmd.cells,cS,e])|(refine zf3 (zn4 (catC c m) (allL (catC c m))[i] hs2) (by rfl) (λst' hst=>?_) ?_;(focus (simp (disch:=omega) [zG34,DtState.cells,DtCatalog.cells,DtCmd.cells,cS,e] at hst;simp (disch:=omega) [zG34,DtState.cells,DtCatalog.cells,DtCmd.cells,cS,e,hst];done));simp (disch:=omega) [zG34,DtState.cells,DtCatalog.cells,DtCmd.cells,cS,e])|(refine ⟨λ_=>?_,λ_=>?_⟩)|(refine ⟨by omega,?_⟩)|(simp (disch:=omega) [zG34,DtState.cells,DtCatalog.cells,DtCmd.cells,cS,e])|(intro _)
                   all_goals (refine hK _ _ (by kernel_rfl) ?_;clear hK K)
                   all_goals
                    refine zbg rfl (λhc8=>?_) (λhc8=>?_)
                    ·try simp [zG35,zbc,zbb] at hc8
                     all_goals
                      refine AW_x rfl rfl λK hK=>?_
                      simp (disch:=omega) [zG34,DtState.cells,DtCatalog.cells,DtCmd.cells,cS,e]
                      repeat' first|(exfalso;omega)|(refine ⟨λ_=>?_,λ_=>?_⟩)|(refine ⟨by omega,?_⟩)|(simp (disch:=omega) [zG34,DtState.cells,DtCatalog.cells,DtCmd.cells,cS,e])|(intro _)
                      all_goals (refine hK _ ?_;clear hK K)
                      all_goals
                       refine zbp (zce [] [] (by simp [zG36,List.range_succ]) (by simp) ?_)
                       simp (disch:=omega) [zG34,DtState.cells,DtCatalog.cells,DtCmd.cells,cS,e]
                       all_goals first | rfl | omega|(simp_all;done) | trace_state
                    ·try simp [zG35,zbc,zbb] at hc8
                     all_goals
                      refine zbi ?_
                      refine zbm ?_
                      refine zb4 rfl rfl λK hK=>?_
                      simp (disch:=omega) [zG34,DtState.cells,DtCatalog.cells,DtCmd.cells,cS,e]
                      repeat' first|(exfalso;omega)|(refine ⟨λ_=>?_,λ_=>?_⟩)|(refine ⟨by omega,?_⟩)|(simp (disch:=omega) [zG34,DtState.cells,DtCatalog.cells,DtCmd.cells,cS,e])|(intro _)
                      all_goals (refine hK _ ?_;clear hK K)
                      all_goals
                       refine ⟨_,LeS.kx [(64,64),(80,80),(96,96),(500,500),(501,501)] [(3,.ptr 64 0),(4,.ptr 80 0),(5,.ptr 96 0),(6,.s (catR c m)),(9,.arr 501 0 (allL (catC c m)).length),(10,(.g (.int .i64 (((i+1):Nat)))))] [(64,.cells (DtCatalog.cells c)),(80,.cells (DtCmd.cells m)),(96,.cells [.arr 500 0 (catC c m).fSets.length]),(500,.own 2 ((catC c m).fSets.map DtCSet.cells)),(501,.own 1 ((allL (catC c m)).map cS))] (by simp [zG36,KpR,renV2,renV,zbk,DtCatalog.cells,DtCmd.cells];try (first | with_reducible rfl | omega)) (by simp [zG36,KpOX,renO,plO,cvO,renV,pl1,DtCatalog.cells,DtCmd.cells];try (first | with_reducible rfl | trace_state)) (by rfl) (by simp) (by simp) (by rfl) (by simp [formsX,List.range_succ,zbr,zby]),_,?_,i+1,rfl,?_,rfl⟩
                       ·omega
                       ·omega
                 ·try simp [zG35,zbc,zbb] at hc7
                  all_goals
                   refine zbx ?_
                   refine zbm ?_
                   refine zbh ?_
                   refine AW_x rfl rfl λK hK=>?_
                   simp (disch:=omega) [zG34,DtState.cells,DtCatalog.cells,DtCmd.cells,cS,e]
                   repeat' first|(exfalso;omega)|(refine zdq (zbd (zbz rfl) zbl) (zje m hmz) rfl ?_;simp (disch:=omega) [zG34,DtState.cells,DtCatalog.cells,DtCmd.cells,cS,e])|(refine zdr (zje m hmz) (by rfl) ?_ ?_;(focus (simp (disch:=omega) [zG34,DtState.cells,DtCatalog.cells,DtCmd.cells,cS,e];done));simp (disch:=omega) [zG34,DtState.cells,DtCatalog.cells,DtCmd.cells,cS,e])|(refine ⟨λ_=>?_,λ_=>?_⟩)|(refine ⟨by omega,?_⟩)|(simp (disch:=omega) [zG34,DtState.cells,DtCatalog.cells,DtCmd.cells,cS,e])|(intro _)
                   all_goals (refine hK _ ?_;clear hK K)
                   all_goals
                    refine zbg rfl (λhc9=>?_) (λhc9=>?_)
                    ·try simp [zG35,zbc,zbb] at hc9
                     all_goals
                      have hin:=commit_in hP (m:=m) (by first | assumption | exact dB_t (by assumption)) (by assumption) (by assumption)
                      refine AW_x rfl rfl λK hK=>?_
                      simp (disch:=omega) [zG34,DtState.cells,DtCatalog.cells,DtCmd.cells,cS,e]
                      repeat' first|(exfalso;omega)|(refine ⟨λ_=>?_,λ_=>?_⟩)|(refine ⟨by omega,?_⟩)|(simp (disch:=omega) [zG34,DtState.cells,DtCatalog.cells,DtCmd.cells,cS,e])|(intro _)
                      all_goals (refine hK _ ?_;clear hK K)
                      all_goals
                       refine zbj ?_
                       refine zbs (λmM sS=>∃(j:Nat),mM=m.fChunks.length-j∧(j≤m.fChunks.length)∧sS = { env:=lkE [(4,.ptr 80 0),(5,.ptr 96 0),(9,.arr 501 0 (allL (catC c m)).length),(11,(.g (.int .i64 ((j:Nat)))))],ob:=lk [(80,.cells (DtCmd.cells m)),(96,.cells [.arr 500 0 (catC c m).fSets.length]),(500,.own 2 ((catC c m).fSets.map DtCSet.cells)),(501,.own 1 ((allL (catC c m)).map cS))] }) ?_ ?_
                       ·refine ⟨_,LeS.kx [(80,80),(96,96),(500,500),(501,501)] [(4,.ptr 80 0),(5,.ptr 96 0),(9,.arr 501 0 (allL (catC c m)).length),(11,(.g (.int .i64 (((0):Nat)))))] [(80,.cells (DtCmd.cells m)),(96,.cells [.arr 500 0 (catC c m).fSets.length]),(500,.own 2 ((catC c m).fSets.map DtCSet.cells)),(501,.own 1 ((allL (catC c m)).map cS))] (by simp [zG36,KpR,renV2,renV,zbk,DtCatalog.cells,DtCmd.cells];try (first | with_reducible rfl | omega)) (by simp [zG36,KpOX,renO,plO,cvO,renV,pl1,DtCatalog.cells,DtCmd.cells];try (first | with_reducible rfl | trace_state)) (by rfl) (by simp) (by simp) (by rfl) (by simp [formsX,List.range_succ,zbr,zby]),_,0,rfl,?_,rfl⟩
                        ·simp
                       ·rintro mM sS ⟨j,rfl,hj,rfl⟩
                        refine zbh ?_
                        refine AW_x rfl rfl λK hK=>?_
                        simp (disch:=omega) [zG34,DtState.cells,DtCatalog.cells,DtCmd.cells,cS,e]
                        repeat' first|(refine ⟨by omega,?_⟩)|(simp (disch:=omega) [zG34,DtState.cells,DtCatalog.cells,DtCmd.cells,cS,e])|(intro _)
                        refine hK _ ?_;clear hK K
                        refine zbg rfl (λhc10=>?_) (λhc10=>?_)
                        ·try simp [zG35,zbc,zbb] at hc10
                         all_goals
                          refine zbi ?_
                          refine zbm ?_
                          refine zbh ?_
                          refine zbj ?_
                          refine AW_x rfl rfl λK hK=>?_
                          simp (disch:=omega) [zG34,DtState.cells,DtCatalog.cells,DtCmd.cells,cS,e]
                          repeat' first|(exfalso;omega)|(refine zdq (zbd zdm (zbd zdg zbl)) (hasT hal (hin m.fChunks[j] (List.getElem_mem (by omega)))) rfl ?_;simp (disch:=omega) [zG34,DtState.cells,DtCatalog.cells,DtCmd.cells,cS,e])|(refine zdr (hasT hal (hin m.fChunks[j] (List.getElem_mem (by omega)))) (by rfl) ?_ ?_;(focus (simp (disch:=omega) [zG34,DtState.cells,DtCatalog.cells,DtCmd.cells,cS,e];done));simp (disch:=omega) [zG34,DtState.cells,DtCatalog.cells,DtCmd.cells,cS,e])|(refine ⟨λ_=>?_,λ_=>?_⟩)|(refine ⟨by omega,?_⟩)|(simp (disch:=omega) [zG34,DtState.cells,DtCatalog.cells,DtCmd.cells,cS,e])|(intro _)
                          all_goals (refine hK _ ?_;clear hK K)
                          all_goals
                           refine zbg rfl (λhc11=>?_) (λhc11=>?_)
                           ·try simp [zG35,zbc,zbb] at hc11
                            all_goals
                             refine AW_x rfl rfl λK hK=>?_
                             simp (disch:=omega) [zG34,DtState.cells,DtCatalog.cells,DtCmd.cells,cS,e]
                             repeat' first|(exfalso;omega)|(refine ⟨λ_=>?_,λ_=>?_⟩)|(refine ⟨by omega,?_⟩)|(simp (disch:=omega) [zG34,DtState.cells,DtCatalog.cells,DtCmd.cells,cS,e])|(intro _)
                             all_goals (refine hK _ ?_;clear hK K)
                             all_goals
                              refine zbp (zce [] [] (by simp [zG36,List.range_succ]) (by simp) ?_)
                              simp (disch:=omega) [zG34,DtState.cells,DtCatalog.cells,DtCmd.cells,cS,e]
                              all_goals first | rfl | omega|(simp_all;done) | trace_state
                           ·try simp [zG35,zbc,zbb] at hc11
                            all_goals
                             refine zbi ?_
                             refine zbm ?_
                             refine zb4 rfl rfl λK hK=>?_
                             simp (disch:=omega) [zG34,DtState.cells,DtCatalog.cells,DtCmd.cells,cS,e]
                             repeat' first|(exfalso;omega)|(refine ⟨λ_=>?_,λ_=>?_⟩)|(refine ⟨by omega,?_⟩)|(simp (disch:=omega) [zG34,DtState.cells,DtCatalog.cells,DtCmd.cells,cS,e])|(intro _)
                             all_goals (refine hK _ ?_;clear hK K)
                             all_goals
                              refine ⟨_,LeS.kx [(80,80),(96,96),(500,500),(501,501)] [(4,.ptr 80 0),(5,.ptr 96 0),(9,.arr 501 0 (allL (catC c m)).length),(11,(.g (.int .i64 (((j+1):Nat)))))] [(80,.cells (DtCmd.cells m)),(96,.cells [.arr 500 0 (catC c m).fSets.length]),(500,.own 2 ((catC c m).fSets.map DtCSet.cells)),(501,.own 1 ((allL (catC c m)).map cS))] (by simp [zG36,KpR,renV2,renV,zbk,DtCatalog.cells,DtCmd.cells];try (first | with_reducible rfl | omega)) (by simp [zG36,KpOX,renO,plO,cvO,renV,pl1,DtCatalog.cells,DtCmd.cells];try (first | with_reducible rfl | trace_state)) (by rfl) (by simp) (by simp) (by rfl) (by simp [formsX,List.range_succ,zbr,zby]),_,?_,j+1,rfl,?_,rfl⟩
                              ·omega
                              ·omega
                        ·try simp [zG35,zbc,zbb] at hc10
                         all_goals
                          refine zbx ?_
                          refine zbm ?_
                          refine AW_x rfl rfl λK hK=>?_
                          simp (disch:=omega) [zG34,DtState.cells,DtCatalog.cells,DtCmd.cells,cS,e]
                          repeat' first|(exfalso;omega)|(refine zdq (zbd (zbz rfl) (zbd zdg zbl)) (zz6 (catC c m) hs2) rfl ?_;simp (disch:=omega) [zG34,DtState.cells,DtCatalog.cells,DtCmd.cells,cS,e])|(refine zdr (zz6 (catC c m) hs2) (by rfl) ?_ ?_;(focus (simp (disch:=omega) [zG34,DtState.cells,DtCatalog.cells,DtCmd.cells,cS,e];done));simp (disch:=omega) [zG34,DtState.cells,DtCatalog.cells,DtCmd.cells,cS,e])|(refine zdq (zbd (zbz rfl) (zbd zdg zbl)) (zd9 (catC c m) (allL (catC c m))[i] hs2) rfl ?_;simp (disch:=omega) [zG34,DtState.cells,DtCatalog.cells,DtCmd.cells,cS,e])|(refine zdr (zd9 (catC c m) (allL (catC c m))[i] hs2) (by rfl) ?_ ?_;(focus (simp (disch:=omega) [zG34,DtState.cells,DtCatalog.cells,DtCmd.cells,cS,e];done));simp (disch:=omega) [zG34,DtState.cells,DtCatalog.cells,DtCmd.cells,cS,e])|(refine ⟨λ_=>?_,λ_=>?_⟩)|(refine ⟨by omega,?_⟩)|(simp (disch:=omega) [zG34,DtState.cells,DtCatalog.cells,DtCmd.cells,cS,e])|(intro _)
                          all_goals (refine hK _ ?_;clear hK K)
                          all_goals
                           refine zbp (zce [] [] (by simp [zG36,List.range_succ]) (by simp) ?_)
                           simp (disch:=omega) [zG34,DtState.cells,DtCatalog.cells,DtCmd.cells,cS,e]
                           all_goals first | rfl | omega|(simp_all;done) | trace_state
                    ·try simp [zG35,zbc,zbb] at hc9
                     all_goals
                      refine zbi ?_
                      refine zbm ?_
                      refine AW_x rfl rfl λK hK=>?_
                      simp (disch:=omega) [zG34,DtState.cells,DtCatalog.cells,DtCmd.cells,cS,e]
                      repeat' first|(exfalso;omega)|(refine zdq (zbd (zbz rfl) (zbd zdg zbl)) (zz6 (catC c m) hs2) rfl ?_;simp (disch:=omega) [zG34,DtState.cells,DtCatalog.cells,DtCmd.cells,cS,e])|(refine zdr (zz6 (catC c m) hs2) (by rfl) ?_ ?_;(focus (simp (disch:=omega) [zG34,DtState.cells,DtCatalog.cells,DtCmd.cells,cS,e];done));simp (disch:=omega) [zG34,DtState.cells,DtCatalog.cells,DtCmd.cells,cS,e])|(refine zdq (zbd (zbz rfl) (zbd zdg zbl)) (zd9 (catC c m) (allL (catC c m))[i] hs2) rfl ?_;simp (disch:=omega) [zG34,DtState.cells,DtCatalog.cells,DtCmd.cells,cS,e])|(refine zdr (zd9 (catC c m) (allL (catC c m))[i] hs2) (by rfl) ?_ ?_;(focus (simp (disch:=omega) [zG34,DtState.cells,DtCatalog.cells,DtCmd.cells,cS,e];done));simp (disch:=omega) [zG34,DtState.cells,DtCatalog.cells,DtCmd.cells,cS,e])|(refine ⟨λ_=>?_,λ_=>?_⟩)|(refine ⟨by omega,?_⟩)|(simp (disch:=omega) [zG34,DtState.cells,DtCatalog.cells,DtCmd.cells,cS,e])|(intro _)
                      all_goals (refine hK _ ?_;clear hK K)
                      all_goals
                       refine zbp (zce [] [] (by simp [zG36,List.range_succ]) (by simp) ?_)
                       simp (disch:=omega) [zG34,DtState.cells,DtCatalog.cells,DtCmd.cells,cS,e]
                       all_goals first | rfl | omega|(simp_all;done) | trace_state
 ·have e:1048576<l.length:=by omega
  refine zbu Tryz.func4 (by rfl) (by rfl) (by rw [Tryz.ntmps4];exact Nat.le_of_ble_eq_true rfl) rfl (by simp) rfl rfl ?_
  rw [Tryz.ntmps4]
  refine zjb   ?_
  refine AW_k [(0,_)] ⟨rfl,trivial⟩ ?_
  refine AW_x rfl rfl λK hK=>?_
  simp (disch:=omega) [zG37,e]
  repeat' first|(refine ⟨by omega,?_⟩)|(intro _)
  refine hK _ ?_;clear hK K
  refine zbh ?_
  refine AW_x rfl rfl λK hK=>?_
  simp (disch:=omega) [zG37,e]
  repeat' first|(exfalso;omega)|(refine zdq (zbd zdm zbl) (zq2 l hw) rfl ?_;simp (disch:=omega) [zG37,e])|(refine zdr (zq2 l hw) (by rfl) ?_ ?_;(focus (simp (disch:=omega) [zG38,e];done));simp (disch:=omega) [zG37,e])|(refine ⟨by omega,?_⟩)|(simp (disch:=omega) [zG37,e])|(intro _)
  refine hK _ ?_;clear hK K
  refine zbg rfl (λhc12=>?_) (λhc12=>?_)
  ·try simp [zG35,zbc,zbb] at hc12
   all_goals
    refine AW_x rfl rfl λK hK=>?_
    simp (disch:=omega) [zG37,e]
    repeat' first|(exfalso;omega)|(refine ⟨λ_=>?_,λ_=>?_⟩)|(refine ⟨by omega,?_⟩)|(simp (disch:=omega) [zG37,e])|(intro _)
    all_goals (refine hK _ ?_;clear hK K)
    all_goals
     refine zbp (zce [] [] (by simp [zG36,List.range_succ]) (by simp) ?_)
     simp (disch:=omega) [zG37,e]
     all_goals first | rfl | omega|(simp_all;done) | trace_state
  ·try simp [zG35,zbc,zbb] at hc12
   all_goals
    refine zbi ?_
    refine zbm ?_
    refine AW_x rfl rfl λK hK=>?_
    simp (disch:=omega) [zG37,e]
    repeat' first|(exfalso;omega)|(refine XKd_e [] false [] (zth l hl) ?_ ?_ ?_;(focus (simp [List.range_succ,nmC];done));(focus (simp (disch:=omega) [zG38,e];done));rintro _ _ _ ⟨c,m,hG,hm,rfl,rfl,rfl⟩;refine ⟨⟨by first | rfl|(simp;done),by first | rfl|(simp;done)⟩,?_⟩;simp (disch:=omega) [zG37,e])|(refine ⟨λ_=>?_,λ_=>?_⟩)|(refine ⟨by omega,?_⟩)|(simp (disch:=omega) [zG37,e])|(intro _)
    all_goals (refine hK _ ?_;clear hK K)
    all_goals
     refine AW_x rfl rfl λK hK=>?_
     simp (disch:=omega) [zG37,e]
     repeat' first|(exfalso;omega)|(refine zd5 [] true [] (zxw c m hs1 hmz) ?_ ?_ ?_;(focus (simp [List.range_succ,nmC];done));(focus (simp (disch:=omega) [zG38,e];done));simp (disch:=omega) [zG37,e])|(refine ⟨by omega,?_⟩)|(simp (disch:=omega) [zG37,e])|(intro _)
     refine hK _ ?_;clear hK K
     refine AW_x rfl rfl λK hK=>?_
     simp (disch:=omega) [zG37,e]
     repeat' first|(exfalso;omega)|(refine zd5 [] true [] (zqz c m hs1 hmz) ?_ ?_ ?_;(focus (simp [List.range_succ,nmC];done));(focus (simp (disch:=omega) [zG38,e];done));simp (disch:=omega) [zG37,e])|(refine ⟨by omega,?_⟩)|(simp (disch:=omega) [zG37,e])|(intro _)
     refine hK _ ?_;clear hK K
     refine zbh ?_
     refine AW_d rfl mix (by kernel_rfl) (by kernel_rfl) λK hK=>?_
     simp (disch:=omega) [zG37,e]
     repeat' first|(exfalso;omega)|(refine zmj [] true [] (zmr (catC c m) hs2) ?_ (λst' hst=>?_) ?_;(focus (simp [List.range_succ,nmC];done));(focus (simp (disch:=omega) [zG37,e,nmC,List.range_succ] at hst;simp (disch:=omega) [zG38,e,hst,nmC,List.range_succ];done));simp (disch:=omega) [zG37,e])|(refine zmj [] true [] (specAll (catC c m) hs2) ?_ (λst' hst=>?_) ?_;(focus (simp [List.range_succ,nmC];done));(focus (simp (disch:=omega) [zG37,e,nmC,List.range_succ] at hst;simp (disch:=omega) [zG38,e,hst,nmC,List.range_succ];done));simp (disch:=omega) [zG37,e])|(refine zf2 (λst'=>(zbd zdm (zbd zdm zbl))) (zjl (allL (catC c m)) hal) rfl ?_;simp (disch:=omega) [zG37,e])|(refine zf3 (zjl (allL (catC c m)) hal) (by rfl) (λst' hst=>?_) ?_;(focus (simp (disch:=omega) [zG37,e] at hst;simp (disch:=omega) [zG38,e,hst];done));simp (disch:=omega) [zG37,e])|(refine ⟨λ_=>?_,λ_=>?_⟩)|(refine ⟨by omega,?_⟩)|(simp (disch:=omega) [zG37,e])|(intro _)
     all_goals (refine hK _ _ (by kernel_rfl) ?_;clear hK K)
     all_goals
      refine zbg rfl (λhc13=>?_) (λhc13=>?_)
      ·try simp [zG35,zbc,zbb] at hc13
       all_goals
        refine AW_x rfl rfl λK hK=>?_
        simp (disch:=omega) [zG37,e]
        repeat' first|(exfalso;omega)|(refine ⟨λ_=>?_,λ_=>?_⟩)|(refine ⟨by omega,?_⟩)|(simp (disch:=omega) [zG37,e])|(intro _)
        all_goals (refine hK _ ?_;clear hK K)
        all_goals
         refine zbp (zce [] [] (by simp [zG36,List.range_succ]) (by simp) ?_)
         simp (disch:=omega) [zG37,e]
         all_goals first | rfl | omega|(simp_all;done) | trace_state
      ·try simp [zG35,zbc,zbb] at hc13
       all_goals
        refine zbi ?_
        refine zbm ?_
        refine zbh ?_
        refine AW_x rfl rfl λK hK=>?_
        simp (disch:=omega) [zG37,e]
        repeat' first|(exfalso;omega)|(refine zdq (zbd (zbz rfl) zbl) (zc4 c hs1) rfl ?_;simp (disch:=omega) [zG37,e])|(refine zdr (zc4 c hs1) (by rfl) ?_ ?_;(focus (simp (disch:=omega) [zG38,e];done));simp (disch:=omega) [zG37,e])|(refine zdq (zbd (zbz rfl) zbl) (okTC hs2 hPx) rfl ?_;simp (disch:=omega) [zG37,e])|(refine zdr (okTC hs2 hPx) (by rfl) ?_ ?_;(focus (simp (disch:=omega) [zG38,e];done));simp (disch:=omega) [zG37,e])|(refine ⟨λ_=>?_,λ_=>?_⟩)|(refine ⟨by omega,?_⟩)|(simp (disch:=omega) [zG37,e])|(intro _)
        all_goals (refine hK _ ?_;clear hK K)
        all_goals
         refine zbg rfl (λhc14=>?_) (λhc14=>?_)
         ·try simp [zG35,zbc,zbb] at hc14
          all_goals
           refine AW_x rfl rfl λK hK=>?_
           simp (disch:=omega) [zG37,e]
           repeat' first|(exfalso;omega)|(refine ⟨λ_=>?_,λ_=>?_⟩)|(refine ⟨by omega,?_⟩)|(simp (disch:=omega) [zG37,e])|(intro _)
           all_goals (refine hK _ ?_;clear hK K)
           all_goals
            refine zbp (zce [] [] (by simp [zG36,List.range_succ]) (by simp) ?_)
            simp (disch:=omega) [zG37,e]
            all_goals first | rfl | omega|(simp_all;done) | trace_state
         ·try simp [zG35,zbc,zbb] at hc14
          all_goals
           refine zbi ?_
           refine zbm ?_
           refine zbh ?_
           refine AW_x rfl rfl λK hK=>?_
           simp (disch:=omega) [zG37,e]
           repeat' first|(exfalso;omega)|(refine zdq (zbd (zbz rfl) zbl) (zc4 c hs1) rfl ?_;simp (disch:=omega) [zG37,e])|(refine zdr (zc4 c hs1) (by rfl) ?_ ?_;(focus (simp (disch:=omega) [zG38,e];done));simp (disch:=omega) [zG37,e])|(refine zdq (zbd (zbz rfl) zbl) (okTC hs2 hPx) rfl ?_;simp (disch:=omega) [zG37,e])|(refine zdr (okTC hs2 hPx) (by rfl) ?_ ?_;(focus (simp (disch:=omega) [zG38,e];done));simp (disch:=omega) [zG37,e])|(refine ⟨λ_=>?_,λ_=>?_⟩)|(refine ⟨by omega,?_⟩)|(simp (disch:=omega) [zG37,e])|(intro _)
           all_goals (refine hK _ ?_;clear hK K)
           all_goals
            refine zbg rfl (λhc15=>?_) (λhc15=>?_)
            ·try simp [zG35,zbc,zbb] at hc15
             all_goals
              refine AW_x rfl rfl λK hK=>?_
              simp (disch:=omega) [zG37,e]
              repeat' first|(exfalso;omega)|(refine ⟨λ_=>?_,λ_=>?_⟩)|(refine ⟨by omega,?_⟩)|(simp (disch:=omega) [zG37,e])|(intro _)
              all_goals (refine hK _ ?_;clear hK K)
              all_goals
               refine zbp (zce [] [] (by simp [zG36,List.range_succ]) (by simp) ?_)
               simp (disch:=omega) [zG37,e]
               all_goals first | rfl | omega|(simp_all;done) | trace_state
            ·try simp [zG35,zbc,zbb] at hc15
             all_goals
              refine zbi ?_
              refine zbm ?_
              refine zbh ?_
              refine AW_x rfl rfl λK hK=>?_
              simp (disch:=omega) [zG37,e]
              repeat' first|(exfalso;omega)|(refine ⟨λ_=>?_,λ_=>?_⟩)|(refine ⟨by omega,?_⟩)|(simp (disch:=omega) [zG37,e])|(intro _)
              all_goals (refine hK _ ?_;clear hK K)
              all_goals
               refine zbg rfl (λhc16=>?_) (λhc16=>?_)
               ·try simp [zG35,zbc,zbb] at hc16
                all_goals
                 refine AW_d rfl mix (by kernel_rfl) (by kernel_rfl) λK hK=>?_
                 simp (disch:=omega) [zG37,e]
                 repeat' first|(exfalso;omega)|(refine zf2 (λst'=>(zbd (zbz rfl) zbl)) (zli hs4 e1) rfl ?_;simp (disch:=omega) [zG37,e])|(refine zf3 (zli hs4 e1) (by rfl) (λst' hst=>?_) ?_;(focus (simp (disch:=omega) [zG37,e] at hst;simp (disch:=omega) [zG38,e,hst];done));simp (disch:=omega) [zG37,e])|(refine zf2 (λst'=>(zbd (zbz rfl) zbl)) (zd4 ⟨c,[]⟩ hs4) rfl ?_;simp (disch:=omega) [zG37,e])|(refine zf3 (zd4 ⟨c,[]⟩ hs4) (by rfl) (λst' hst=>?_) ?_;(focus (simp (disch:=omega) [zG37,e] at hst;simp (disch:=omega) [zG38,e,hst];done));simp (disch:=omega) [zG37,e])|(refine ⟨λ_=>?_,λ_=>?_⟩)|(refine ⟨by omega,?_⟩)|(simp (disch:=omega) [zG37,e])|(intro _)
                 all_goals (refine hK _ _ (by kernel_rfl) ?_;clear hK K)
                 all_goals
                  refine zbg rfl (λhc17=>?_) (λhc17=>?_)
                  ·try simp [zG35,zbc,zbb] at hc17
                   all_goals
                    refine AW_x rfl rfl λK hK=>?_
                    simp (disch:=omega) [zG37,e]
                    repeat' first|(exfalso;omega)|(refine ⟨λ_=>?_,λ_=>?_⟩)|(refine ⟨by omega,?_⟩)|(simp (disch:=omega) [zG37,e])|(intro _)
                    all_goals (refine hK _ ?_;clear hK K)
                    all_goals
                     refine zbp (zce [] [] (by simp [zG36,List.range_succ]) (by simp) ?_)
                     simp (disch:=omega) [zG37,e]
                     all_goals first | rfl | omega|(simp_all;done) | trace_state
                  ·try simp [zG35,zbc,zbb] at hc17
                   all_goals
                    refine zbi ?_
                    refine zbm ?_
                    refine AW_x rfl rfl λK hK=>?_
                    simp (disch:=omega) [zG37,e]
                    repeat' first|(exfalso;omega)|(refine zd5 [] true [] (zmr (catC c m) hs2) ?_ ?_ ?_;(focus (simp [List.range_succ,nmC];done));(focus (simp (disch:=omega) [zG38,e];done));simp (disch:=omega) [zG37,e])|(refine ⟨λ_=>?_,λ_=>?_⟩)|(refine ⟨by omega,?_⟩)|(simp (disch:=omega) [zG37,e])|(intro _)
                    all_goals (refine hK _ ?_;clear hK K)
                    all_goals
                     refine zbh ?_
                     refine AW_x rfl rfl λK hK=>?_
                     simp (disch:=omega) [zG37,e]
                     repeat' first|(refine ⟨by omega,?_⟩)|(intro _)
                     refine hK _ ?_;clear hK K
                     refine zbj ?_
                     done
               ·try simp [zG35,zbc,zbb] at hc16
                all_goals
                 refine zbi ?_
                 refine zbm ?_
                 refine AW_x rfl rfl λK hK=>?_
                 simp (disch:=omega) [zG37,e]
                 repeat' first|(exfalso;omega)|(refine zd5 [] true [] (zmr (catC c m) hs2) ?_ ?_ ?_;(focus (simp [List.range_succ,nmC];done));(focus (simp (disch:=omega) [zG38,e];done));simp (disch:=omega) [zG37,e])|(refine ⟨λ_=>?_,λ_=>?_⟩)|(refine ⟨by omega,?_⟩)|(simp (disch:=omega) [zG37,e])|(intro _)
                 all_goals (refine hK _ ?_;clear hK K)
                 all_goals
                  refine zbh ?_
                  refine AW_x rfl rfl λK hK=>?_
                  simp (disch:=omega) [zG37,e]
                  repeat' first|(refine ⟨by omega,?_⟩)|(intro _)
                  refine hK _ ?_;clear hK K
                  refine zbj ?_
                  done
theorem lawCat(l:List Int)(hw:wfS wfU8 l):PCall Tryz.prog 4 [.sl 1 (l.map cU)] (.g (.bool (true))):=zzs (lawCatX l (by have:=hw.1;omega))
end Go.Proofs.YtodmafgmdlkhoaaGreat.Vs
end
