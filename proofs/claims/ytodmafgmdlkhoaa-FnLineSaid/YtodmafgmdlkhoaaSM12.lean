import Derived.Test.YtodmafgmdlkhoaaSM11
import Derived.Test.YtodmafgmdlkhoaaSM10
section
namespace Go.Proofs.Ytodmafgmdlkhoaa.Vs
set_option linter.all false
set_option maxRecDepth 100000
set_option maxHeartbeats 2000000
def optL(o:Option (List Int)):List Int:=o.getD []
abbrev FitX (l:List DtCall) (p:List Int) (r:Option (List Int)):Prop:=XCall Try.prog 48 [.sl 11 (l.map DtCall.cells),.agg (DtState.cells (stP l p)),.arr 8 0 p.length] [.own 1 (p.map cI)] (.tup [.arr 16 0 (optL r).length,(.g (.bool (r.isSome)))]) [.dead] [.own 1 ((optL r).map cI)]
theorem znp{l:List DtCall}{p:List Int}{V:Nat→Option (List Int)}(h:p.length=l.length):resF l p V=some p:=by unfold resF;rw [if_pos h]
theorem zkh{l:List DtCall}{p:List Int}{V:Nat→Option (List Int)}(h:¬p.length=l.length){k:Nat}(hk:k<l.length){r:List Int}(hr:fitC l p V k=some r)(hb:∀j,j<k→fitC l p V j=none):resF l p V=some r:=by unfold resF;rw [if_neg h,zpu hk hr hb]
theorem znq{l:List DtCall}{p:List Int}{V:Nat→Option (List Int)}(h:¬p.length=l.length)(hb:∀j,j<l.length→fitC l p V j=none):resF l p V=none:=by unfold resF;rw [if_neg h,zno hb]
theorem zdx(l:List Int):scR (l.map cI)=true:=zdn cI (λ_=>rfl) l
theorem zx7(p:List Int):List.flatMap (λy=>List.flatMap names1 y) (List.map cI p)=[]:=by
 induction p with
 | nil=>rfl
 | cons x p ih=>rw [List.map_cons,List.flatMap_cons,ih];rfl
attribute [local simp] zx7 DtState.cells DtCatalog.cells DtCall.cells DtCmd.cells zbl and_assoc cI List.range_succ
attribute [-simp] aAppC aAppZ
def zG26:=And.intro @zba @zbf
def zG27:=And.intro @zbz (And.intro @zbq @zby)
def zG28:=And.intro @List.range_succ (And.intro @zbq @zby)
theorem fitStep(l:List DtCall)(hs:szS DtCall.sz l≤1048576)(p:List Int)(hpr:∀j∈p,0≤j∧j<(l.length:Int))(hpl:p.length≤l.length)(V:Nat→Option (List Int))(H:¬p.length=l.length→∀k,k<l.length→(k:Int)∉p→FitX l (p++[(k:Int)]) (V k)):FitX l p (resF l p V):=by
 have ⟨hl,hm⟩:=zkr l hs
 refine zbs Try.func48 (by rfl) (by rfl) (by rw [Try.ntmps48];exact Nat.le_of_ble_eq_true rfl) rfl (by simp) rfl rfl ?_
 rw [Try.ntmps48]
 refine zhl (.own 1 (p.map cI)) (by simp [cvO]<;>assumption) ?_
 refine AW_k [(0,_),(1,_),(2,_)] ⟨rfl,rfl,rfl,trivial⟩ ?_
 refine AW_x rfl rfl λK hK=>?_
 simp (disch:=omega)
 repeat' first|(refine ⟨by omega,?_⟩)|(intro _)
 refine hK _ ?_;clear hK K
 refine zbi ?_
 refine AW_x rfl rfl λK hK=>?_
 simp (disch:=omega)
 repeat' first|(refine ⟨by omega,?_⟩)|(simp (disch:=omega))|(intro _)
 refine hK _ ?_;clear hK K
 refine zbh rfl (λhc1=>?_) (λhc1=>?_)
 ·try simp [zG26,zbc,zbb] at hc1
  all_goals
   refine AW_x rfl rfl λK hK=>?_
   simp (disch:=omega)
   repeat' first|(exfalso;omega)|(refine ⟨λ_=>?_,λ_=>?_⟩)|(refine ⟨by omega,?_⟩)|(simp (disch:=omega))|(intro _)
   all_goals (refine hK _ ?_;clear hK K)
   all_goals
    refine zbp (zb0 [8] [] (by simp [zG27,List.range_succ]) (by simp) ?_)
    simp (disch:=omega)
    all_goals first|(rw [znp (by omega)];exact ⟨rfl,rfl,rfl⟩)|(obtain ⟨r,hr⟩:=Option.isSome_iff_exists.1 hc5;have hf:fitC l p V i=some r:=(by unfold fitC;rw [if_neg (by simp [hni,hcm,htm,hc4,hc3,List.any_eq_true];try exact hc3),hr]);rw [zkh (by omega) hc2 hf hpre,hr];exact ⟨rfl,rfl,rfl⟩)|(rw [znq (by omega) (λj hj=>hpre j (by omega))];exact ⟨rfl,rfl,rfl⟩) | trace_state
 ·try simp [zG26,zbc,zbb] at hc1
  all_goals
   refine zbj ?_
   refine zbn ?_
   refine zbi ?_
   refine AW_x rfl rfl λK hK=>?_
   simp (disch:=omega)
   repeat' first|(exfalso;omega)|(refine ⟨λ_=>?_,λ_=>?_⟩)|(refine ⟨by omega,?_⟩)|(simp (disch:=omega))|(intro _)
   all_goals (refine hK _ ?_;clear hK K)
   all_goals
    refine zbm ?_
    refine zbv (λmM sS=>∃(i:Nat),mM=l.length-i∧(i≤l.length∧∀j,j<i→fitC l p V j=none)∧sS = { env:=lkE [(0,.sl 11 (l.map DtCall.cells)),(2,.arr 8 0 p.length),(4,.ptr 80 0),(20,.sl 11 (l.map DtCall.cells)),(21,(.g (.int .i64 ((l.length:Nat))))),(22,(.g (.int .i64 ((i:Nat)))))],ob:=lk [(8,.own 1 (p.map cI)),(80,.cells (DtState.cells (stP l p)))] }) ?_ ?_
    ·refine ⟨_,LeS.kx [(8,8),(80,80)] [(0,.sl 11 (l.map DtCall.cells)),(2,.arr 8 0 p.length),(4,.ptr 80 0),(20,.sl 11 (l.map DtCall.cells)),(21,(.g (.int .i64 ((l.length:Nat))))),(22,(.g (.int .i64 (((0):Nat)))))] [(8,.own 1 (p.map cI)),(80,.cells (DtState.cells (stP l p)))] (by simp [zG27,KpR,renV2,renV,zbk,DtState.cells,DtCatalog.cells,zdx];try rfl) (by simp [zG27,KpOX,renO,plO,cvO,renV,pl1,DtState.cells,DtCatalog.cells,zdx];try rfl) (by rfl) (by simp) (by simp) (by rfl) (by simp [zG28,formsX]),_,0,rfl,?_,rfl⟩
     ·simp
    ·rintro mM sS ⟨i,rfl,⟨hi,hpre⟩,rfl⟩
     refine AW_x rfl rfl λK hK=>?_
     simp (disch:=omega)
     repeat' first|(refine ⟨by omega,?_⟩)|(intro _)
     refine hK _ ?_;clear hK K
     refine zbi ?_
     refine zbh rfl (λhc2=>?_) (λhc2=>?_)
     ·try simp [zG26,zbc,zbb] at hc2
      all_goals
       have hg:l[i]? = some l[i]:=List.getElem?_eq_getElem (by omega)
       have hcm:cmdA l (i:Int)=l[i].fCmd:=zrf (l:=l) (k:=(i:Int)) (by simpa using hc2)
       have htm:txtA l (i:Int)=l[i].fText:=zrg (l:=l) (k:=(i:Int)) (by simpa using hc2)
       refine zbj ?_
       refine zbn ?_
       refine zbi ?_
       refine zbm ?_
       refine AW_x rfl rfl λK hK=>?_
       simp (disch:=omega)
       repeat' first|(exfalso;omega)|(refine ⟨λ_=>?_,λ_=>?_⟩)|(refine ⟨by omega,?_⟩)|(simp (disch:=omega))|(intro _)
       all_goals (refine hK _ ?_;clear hK K)
       all_goals
        refine zbi ?_
        refine AW_x rfl rfl λK hK=>?_
        simp (disch:=omega)
        repeat' first|(exfalso;omega)|(refine zc6 (zbe zce (zbe zcl zbo)) (zhk _ p rfl (i:Int) (by omega)) rfl ?_;simp (disch:=omega))|(refine zc7 (zhk _ p rfl (i:Int) (by omega)) (by rfl) ?_ ?_;(focus (simp (disch:=omega) [zbl];done));simp (disch:=omega))|(refine zc6 (zbe zce (zbe zce (zbe zcl zbo))) (zri l _ p rfl (i:Int) (by omega) hpr (by omega)) rfl ?_;simp (disch:=omega))|(refine zc7 (zri l _ p rfl (i:Int) (by omega) hpr (by omega)) (by rfl) ?_ ?_;(focus (simp (disch:=omega) [zbl];done));simp (disch:=omega))|(refine ⟨λ_=>?_,λ_=>?_⟩)|(refine ⟨by omega,?_⟩)|(simp (disch:=omega))|(intro _)
        all_goals (refine hK _ ?_;clear hK K)
        all_goals
         refine zbh rfl (λhc3=>?_) (λhc3=>?_)
         ·try simp [zG26,zbc,zbb] at hc3
          all_goals
           refine zbx ?_
           refine zbn ?_
           refine zb3 rfl rfl λK hK=>?_
           simp (disch:=omega)
           repeat' first|(exfalso;omega)|(refine ⟨λ_=>?_,λ_=>?_⟩)|(refine ⟨by omega,?_⟩)|(simp (disch:=omega))|(intro _)
           all_goals (refine hK _ ?_;clear hK K)
           all_goals
            refine ⟨_,LeS.kx [(8,8),(80,80)] [(0,.sl 11 (l.map DtCall.cells)),(2,.arr 8 0 p.length),(4,.ptr 80 0),(20,.sl 11 (l.map DtCall.cells)),(21,(.g (.int .i64 ((l.length:Nat))))),(22,(.g (.int .i64 (((i+1):Nat)))))] [(8,.own 1 (p.map cI)),(80,.cells (DtState.cells (stP l p)))] (by simp [zG27,KpR,renV2,renV,zbk,DtState.cells,DtCatalog.cells,zdx];try rfl) (by simp [zG27,KpOX,renO,plO,cvO,renV,pl1,DtState.cells,DtCatalog.cells,zdx];try rfl) (by rfl) (by simp) (by simp) (by rfl) (by simp [zG28,formsX]),_,?_,i+1,rfl,?_,rfl⟩
            ·omega
            ·refine ⟨by omega,λj hj=>?_⟩
             by_cases e:j<i
             ·exact hpre j e
             ·obtain rfl:j=i:=by omega
              unfold fitC
              first|(rw [if_pos (.inl (by assumption))];done)|(rw [if_pos (.inr (.inl (List.any_eq_true.2 hc3)))];done)|(rw [if_pos (.inr (.inr (by rw [hcm,htm];exact hc4)))];done)|(split<;>first | rfl | assumption) | trace_state
         ·try simp [zG26,zbc,zbb] at hc3
          all_goals
           refine zbj ?_
           refine zbn ?_
           refine AW_x rfl rfl λK hK=>?_
           simp (disch:=omega)
           repeat' first|(exfalso;omega)|(refine zdh [] true [] (znk (stP l p) l[i].fCmd (zx4 _ _) (hm _ hc2)) ?_ ?_ ?_;(focus (simp [List.range_succ,nmC];done));(focus (simp (disch:=omega) [zbl];done));simp (disch:=omega))|(refine ⟨λ_=>?_,λ_=>?_⟩)|(refine ⟨by omega,?_⟩)|(simp (disch:=omega))|(intro _)
           all_goals (refine hK _ ?_;clear hK K)
           all_goals
            refine zbi ?_
            refine AW_x rfl rfl λK hK=>?_
            simp (disch:=omega)
            repeat' first|(refine ⟨by omega,?_⟩)|(intro _)
            refine hK _ ?_;clear hK K
            refine zbh rfl (λhc4=>?_) (λhc4=>?_)
            ·try simp [zG26,zbc,zbb] at hc4
             all_goals
              refine zbx ?_
              refine zbn ?_
              refine zb3 rfl rfl λK hK=>?_
              simp (disch:=omega)
              repeat' first|(exfalso;omega)|(refine ⟨λ_=>?_,λ_=>?_⟩)|(refine ⟨by omega,?_⟩)|(simp (disch:=omega))|(intro _)
              all_goals (refine hK _ ?_;clear hK K)
              all_goals
               refine ⟨_,LeS.kx [(8,8),(80,80)] [(0,.sl 11 (l.map DtCall.cells)),(2,.arr 8 0 p.length),(4,.ptr 80 0),(20,.sl 11 (l.map DtCall.cells)),(21,(.g (.int .i64 ((l.length:Nat))))),(22,(.g (.int .i64 (((i+1):Nat)))))] [(8,.own 1 (p.map cI)),(80,.cells (DtState.cells (stP l p)))] (by simp [zG27,KpR,renV2,renV,zbk,DtState.cells,DtCatalog.cells,zdx];try rfl) (by simp [zG27,KpOX,renO,plO,cvO,renV,pl1,DtState.cells,DtCatalog.cells,zdx];try rfl) (by rfl) (by simp) (by simp) (by rfl) (by simp [zG28,formsX]),_,?_,i+1,rfl,?_,rfl⟩
               ·omega
               ·refine ⟨by omega,λj hj=>?_⟩
                by_cases e:j<i
                ·exact hpre j e
                ·obtain rfl:j=i:=by omega
                 unfold fitC
                 first|(rw [if_pos (.inl (by assumption))];done)|(rw [if_pos (.inr (.inl (List.any_eq_true.2 hc3)))];done)|(rw [if_pos (.inr (.inr (by rw [hcm,htm];exact hc4)))];done)|(split<;>first | rfl | assumption) | trace_state
            ·try simp [zG26,zbc,zbb] at hc4
             all_goals
              refine zbj ?_
              refine zbn ?_
              refine AW_wn (sz:=1) 8 (zdx p) (by simp [zG27]) ?_
              have hni:(i:Int)∉p:=by grind
              have hH:FitX l (p++[(i:Int)]) (V i):=H (by omega) i hc2 hni
              rw [FitX,zrh,hcm] at hH
              refine AW_d rfl mix (by kernel_rfl) (by kernel_rfl) λK hK=>?_
              simp (disch:=omega)
              repeat' first|(exfalso;omega)|(refine zk0 [896] true [] (hH) ?_ (λst' hst=>?_) ?_;(focus (simp [List.range_succ,nmC];done));(focus (simp (disch:=omega) [nmC,List.range_succ] at hst;simp (disch:=omega) [hst,zbl,nmC,List.range_succ];done));simp (disch:=omega))|(refine ⟨λ_=>?_,λ_=>?_⟩)|(refine ⟨by omega,?_⟩)|(simp (disch:=omega))|(intro _)
              all_goals (refine hK _ _ (by kernel_rfl) ?_;clear hK K)
              all_goals
               refine AW_x rfl rfl λK hK=>?_
               simp (disch:=omega)
               repeat' first|(refine ⟨by omega,?_⟩)|(intro _)
               refine hK _ ?_;clear hK K
               refine zbh rfl (λhc5=>?_) (λhc5=>?_)
               ·try simp [zG26,zbc,zbb] at hc5
                all_goals
                 refine AW_x rfl rfl λK hK=>?_
                 simp (disch:=omega)
                 repeat' first|(exfalso;omega)|(refine ⟨λ_=>?_,λ_=>?_⟩)|(refine ⟨by omega,?_⟩)|(simp (disch:=omega))|(intro _)
                 all_goals (refine hK _ ?_;clear hK K)
                 all_goals
                  refine zbp (zb0 [912] [] (by simp [zG27,List.range_succ]) (by simp) ?_)
                  simp (disch:=omega)
                  all_goals first|(rw [znp (by omega)];exact ⟨rfl,rfl,rfl⟩)|(obtain ⟨r,hr⟩:=Option.isSome_iff_exists.1 hc5;have hf:fitC l p V i=some r:=(by unfold fitC;rw [if_neg (by simp [hni,hcm,htm,hc4,hc3,List.any_eq_true];try exact hc3),hr]);rw [zkh (by omega) hc2 hf hpre,hr];exact ⟨rfl,rfl,rfl⟩)|(rw [znq (by omega) (λj hj=>hpre j (by omega))];exact ⟨rfl,rfl,rfl⟩) | trace_state
               ·try simp [zG26,zbc,zbb] at hc5
                all_goals
                 refine zbj ?_
                 refine zbn ?_
                 refine zb3 rfl rfl λK hK=>?_
                 simp (disch:=omega)
                 repeat' first|(exfalso;omega)|(refine ⟨λ_=>?_,λ_=>?_⟩)|(refine ⟨by omega,?_⟩)|(simp (disch:=omega))|(intro _)
                 all_goals (refine hK _ ?_;clear hK K)
                 all_goals
                  refine ⟨_,LeS.kx [(8,8),(80,80)] [(0,.sl 11 (l.map DtCall.cells)),(2,.arr 8 0 p.length),(4,.ptr 80 0),(20,.sl 11 (l.map DtCall.cells)),(21,(.g (.int .i64 ((l.length:Nat))))),(22,(.g (.int .i64 (((i+1):Nat)))))] [(8,.own 1 (p.map cI)),(80,.cells (DtState.cells (stP l p)))] (by simp [zG27,KpR,renV2,renV,zbk,DtState.cells,DtCatalog.cells,zdx];try rfl) (by simp [zG27,KpOX,renO,plO,cvO,renV,pl1,DtState.cells,DtCatalog.cells,zdx];try rfl) (by rfl) (by simp) (by simp) (by rfl) (by simp [zG28,formsX]),_,?_,i+1,rfl,?_,rfl⟩
                  ·omega
                  ·refine ⟨by omega,λj hj=>?_⟩
                   by_cases e:j<i
                   ·exact hpre j e
                   ·obtain rfl:j=i:=by omega
                    unfold fitC
                    first|(rw [if_pos (.inl (by assumption))];done)|(rw [if_pos (.inr (.inl (List.any_eq_true.2 hc3)))];done)|(rw [if_pos (.inr (.inr (by rw [hcm,htm];exact hc4)))];done)|(split<;>first | rfl | assumption) | trace_state
     ·try simp [zG26,zbc,zbb] at hc2
      all_goals
       have hil:i=l.length:=by omega
       refine zbx ?_
       refine zbn ?_
       refine AW_x rfl rfl λK hK=>?_
       simp (disch:=omega)
       repeat' first|(exfalso;omega)|(refine ⟨λ_=>?_,λ_=>?_⟩)|(refine ⟨by omega,?_⟩)|(simp (disch:=omega))|(intro _)
       all_goals (refine hK _ ?_;clear hK K)
       all_goals
        refine zbp (zb0 [1000] [(1000,1)] (by simp [zG27,List.range_succ]) (by simp) ?_)
        simp (disch:=omega)
        all_goals first|(rw [znp (by omega)];exact ⟨rfl,rfl,rfl⟩)|(obtain ⟨r,hr⟩:=Option.isSome_iff_exists.1 hc5;have hf:fitC l p V i=some r:=(by unfold fitC;rw [if_neg (by simp [hni,hcm,htm,hc4,hc3,List.any_eq_true];try exact hc3),hr]);rw [zkh (by omega) hc2 hf hpre,hr];exact ⟨rfl,rfl,rfl⟩)|(rw [znq (by omega) (λj hj=>hpre j (by omega))];exact ⟨rfl,rfl,rfl⟩) | trace_state
abbrev FndX (l:List DtCall) (p:List Int) (r:Option (List Int)):Prop:=XCall Try.prog 49 [.sl 11 (l.map DtCall.cells),.sl 1 (seenL l.length p),.agg (DtState.cells (stP l p))] [] (.tup [.arr 16 0 (optL r).length,(.g (.bool (r.isSome)))]) [] [.own 1 ((optL r).map cI)]
def MayT(l:List DtCall)(p:List Int)(i j:Nat):Prop:=∀a:Nat,a<j→(a:Int)∈p∨a=i∨lateB l a i=false
theorem zjt(l:List DtCall)(p:List Int)(i j:Nat):decB (MayT l p i (j+1))=(decB (MayT l p i j)&&(decide ((j:Int)∈p) ||(decide ((j:Int)=(i:Int)) || !lateB l j i))):=by
 rw [Bool.eq_iff_iff]
 simp only [zba,Bool.and_eq_true,Bool.or_eq_true,decide_eq_true_eq,Bool.not_eq_true']
 constructor
 ·intro h
  refine ⟨λa ha=>h a (by omega),?_⟩
  rcases h j (by omega) with h | h | h
  ·exact .inl h
  ·exact .inr (.inl (by omega))
  ·exact .inr (.inr h)
 ·rintro ⟨h1,h2⟩ a ha
  by_cases e:a<j
  ·exact h1 a e
  ·obtain rfl:a=j:=by omega
   rcases h2 with h | h | h
   ·exact .inl h
   ·exact .inr (.inl (by omega))
   ·exact .inr (.inr h)
theorem zpv{l:List DtCall}{p:List Int}{i j:Nat}{m:Bool}(hj:j=l.length)(h:m=decB (MayT l p i j)):decB (MayP' l p i)=m:=by subst hj;exact h.symm
theorem zx8{l:List DtCall}{p:List Int}{b:Bool}{i:Nat}(hi:i=l.length)(h0:b=false→∀j:Nat,j<i→(j:Int)∈p)(h1:b=true→∃j:Nat,j<l.length∧(j:Int)∉p):allS l p = !b:=by
 cases b with
 | false=>exact zb4 λk hk=>h0 rfl k (by omega)
 | true =>
  obtain ⟨j,hj,hn⟩:=h1 rfl
  exact zb5 λh=>hn (h j hj)
theorem zpw{l:List DtCall}{p:List Int}{V:Nat→Option (List Int)}{k:Nat}(hk:k<l.length){r:List Int}(hr:fndC l p V k=some r)(hb:∀j,j<k→fndC l p V j=none):resV l p V=some r:=by unfold resV;rw [zpu hk hr hb]
theorem zto{l:List DtCall}{p:List Int}{V:Nat→Option (List Int)}(hb:∀j,j<l.length→fndC l p V j=none):optL (resV l p V)=[]∧(resV l p V).isSome=allS l p:=by
 unfold resV
 rw [zno hb]
 simp only
 cases allS l p<;>exact ⟨rfl,rfl⟩
theorem zpx(n:Nat)(p:List Int):(seenL n p).take n=seenL n p:=List.take_of_length_le (by rw [zjs];omega)
attribute [local simp] zpt zjs zpx cB
theorem fndStep(l:List DtCall)(hs:szS DtCall.sz l≤1048576)(p:List Int)(V:Nat→Option (List Int))(hV:∀k,(optL (V k)).length≤1048576)(H:∀k,k<l.length→(k:Int)∉p→FndX l (p++[(k:Int)]) (V k)):FndX l p (resV l p V):=by
 have ⟨hl,hm⟩:=zkr l hs
 refine zbs Try.func49 (by rfl) (by rfl) (by rw [Try.ntmps49];exact Nat.le_of_ble_eq_true rfl) rfl (by simp) rfl rfl ?_
 rw [Try.ntmps49]
 refine zf1   ?_
 refine AW_k [(0,_),(1,_),(2,_)] ⟨rfl,rfl,rfl,trivial⟩ ?_
 refine AW_x rfl rfl λK hK=>?_
 simp (disch:=omega)
 repeat' first|(refine ⟨by omega,?_⟩)|(intro _)
 refine hK _ ?_;clear hK K
 refine AW_x rfl rfl λK hK=>?_
 simp (disch:=omega)
 repeat' first|(refine ⟨by omega,?_⟩)|(intro _)
 refine hK _ ?_;clear hK K
 refine zbi ?_
 refine AW_x rfl rfl λK hK=>?_
 simp (disch:=omega)
 repeat' first|(refine ⟨by omega,?_⟩)|(intro _)
 refine hK _ ?_;clear hK K
 refine zbm ?_
 refine zbv (λmM sS=>∃(i:Nat) (b:Bool),mM=l.length-i∧(i≤l.length∧(∀j,j<i→fndC l p V j=none)∧(b=false→∀j:Nat,j<i→(j:Int)∈p)∧(b=true→∃j:Nat,j<l.length∧(j:Int)∉p))∧sS = { env:=lkE [(0,.sl 11 (l.map DtCall.cells)),(1,.sl 1 (seenL l.length p)),(5,.ptr 96 0),(8,(.g (.bool (b)))),(9,(.g (.int .i64 ((i:Nat)))))],ob:=lk [(96,.cells (DtState.cells (stP l p)))] }) ?_ ?_
 ·refine ⟨_,LeS.kx [(96,96)] [(0,.sl 11 (l.map DtCall.cells)),(1,.sl 1 (seenL l.length p)),(5,.ptr 96 0),(8,(.g (.bool ((false))))),(9,(.g (.int .i64 (((0):Nat)))))] [(96,.cells (DtState.cells (stP l p)))] (by simp [zG27,KpR,renV2,renV,zbk,DtState.cells,DtCatalog.cells,zdx,zc0];try rfl) (by simp [zG27,KpOX,renO,plO,cvO,renV,pl1,DtState.cells,DtCatalog.cells,zdx,zc0];try rfl) (by rfl) (by simp) (by simp) (by rfl) (by simp [zG28,formsX]),_,0,false,rfl,?_,rfl⟩
  ·simp
 ·rintro mM sS ⟨i,b,rfl,⟨hi,hpre,hb0,hb1⟩,rfl⟩
  refine zbi ?_
  refine AW_x rfl rfl λK hK=>?_
  simp (disch:=omega)
  repeat' first|(refine ⟨by omega,?_⟩)|(simp (disch:=omega))|(intro _)
  refine hK _ ?_;clear hK K
  refine zbh rfl (λhc6=>?_) (λhc6=>?_)
  ·try simp [zG26,zbc,zbb] at hc6
   all_goals
    have hi2:i<l.length:=by omega
    have hg:l[i]? = some l[i]:=List.getElem?_eq_getElem (by omega)
    have hcm:cmdA l (i:Int)=l[i].fCmd:=zrf (l:=l) (k:=(i:Int)) (by simpa using hi2)
    have htm:txtA l (i:Int)=l[i].fText:=zrg (l:=l) (k:=(i:Int)) (by simpa using hi2)
    have hsi:=zlt l.length p i hi2
    refine zbj ?_
    refine zbn ?_
    refine zbi ?_
    refine zbm ?_
    refine zbi ?_
    refine AW_x rfl rfl λK hK=>?_
    simp (disch:=omega) [hsi]
    repeat' first|(exfalso;omega)|(refine ⟨λ_=>?_,λ_=>?_⟩)|(refine ⟨by omega,?_⟩)|(simp (disch:=omega) [hsi])|(intro _)
    all_goals (refine hK _ ?_;clear hK K)
    all_goals
     refine zbh rfl (λhc7=>?_) (λhc7=>?_)
     ·try simp [zG26,zbc,zbb] at hc7
      all_goals
       refine zbx ?_
       refine zbn ?_
       refine zb3 rfl rfl λK hK=>?_
       simp (disch:=omega) [hsi]
       repeat' first|(exfalso;omega)|(refine ⟨λ_=>?_,λ_=>?_⟩)|(refine ⟨by omega,?_⟩)|(simp (disch:=omega) [hsi])|(intro _)
       all_goals (refine hK _ ?_;clear hK K)
       all_goals
        refine ⟨_,LeS.kx [(96,96)] [(0,.sl 11 (l.map DtCall.cells)),(1,.sl 1 (seenL l.length p)),(5,.ptr 96 0),(8,(.g (.bool ((b))))),(9,(.g (.int .i64 (((i+1):Nat)))))] [(96,.cells (DtState.cells (stP l p)))] (by simp [zG27,KpR,renV2,renV,zbk,DtState.cells,DtCatalog.cells,zdx,zc0];try rfl) (by simp [zG27,KpOX,renO,plO,cvO,renV,pl1,DtState.cells,DtCatalog.cells,zdx,zc0];try rfl) (by rfl) (by simp) (by simp) (by rfl) (by simp [zG28,formsX]),_,?_,i+1,b,rfl,?_,rfl⟩
        ·omega
        ·refine ⟨by omega,λa ha=>?_,?_,?_⟩
         ·by_cases e:a<i
          ·exact hpre a e
          ·obtain rfl:a=i:=by omega
           unfold fndC
           first|(rw [if_pos (.inl (by assumption))];done)|(rw [if_pos (.inr (.inl (by rw [zpv hjl hpm];assumption)))];done)|(rw [if_pos (.inr (.inr (by rw [hcm,htm];assumption)))];done)|(split<;>first | rfl|(simp_all;done)) | trace_state
         ·first | exact λh a ha=>if e:a<i then hb0 h a e else (by have:a=i:=(by omega);subst this;assumption) | exact λh=>(by cases h)
         ·first | exact hb1 | exact λ_=>⟨i,hi2,hc7⟩
     ·try simp [zG26,zbc,zbb] at hc7
      all_goals
       refine zbj ?_
       refine zbn ?_
       refine AW_x rfl rfl λK hK=>?_
       simp (disch:=omega) [hsi]
       repeat' first|(exfalso;omega)|(refine ⟨λ_=>?_,λ_=>?_⟩)|(refine ⟨by omega,?_⟩)|(simp (disch:=omega) [hsi])|(intro _)
       all_goals (refine hK _ ?_;clear hK K)
       all_goals
        refine AW_x rfl rfl λK hK=>?_
        simp (disch:=omega) [hsi]
        repeat' first|(refine ⟨by omega,?_⟩)|(intro _)
        refine hK _ ?_;clear hK K
        refine zbi ?_
        refine AW_x rfl rfl λK hK=>?_
        simp (disch:=omega) [hsi]
        repeat' first|(refine ⟨by omega,?_⟩)|(intro _)
        refine hK _ ?_;clear hK K
        refine zbm ?_
        refine zbv (λmM sS=>∃(j:Nat) (m:Bool),mM=l.length-j∧(j≤l.length∧m=decB (MayT l p i j))∧sS = { env:=lkE [(0,.sl 11 (l.map DtCall.cells)),(1,.sl 1 (seenL l.length p)),(5,.ptr 96 0),(8,(.g (.bool (true)))),(9,(.g (.int .i64 ((i:Nat))))),(10,(.g (.bool (m)))),(11,(.g (.int .i64 ((j:Nat)))))],ob:=lk [(96,.cells (DtState.cells (stP l p)))] }) ?_ ?_
        ·refine ⟨_,LeS.kx [(96,96)] [(0,.sl 11 (l.map DtCall.cells)),(1,.sl 1 (seenL l.length p)),(5,.ptr 96 0),(8,(.g (.bool (true)))),(9,(.g (.int .i64 ((i:Nat))))),(10,(.g (.bool ((true))))),(11,(.g (.int .i64 (((0):Nat)))))] [(96,.cells (DtState.cells (stP l p)))] (by simp [zG27,KpR,renV2,renV,zbk,DtState.cells,DtCatalog.cells];first|(simp;done) | omega|(rw [zjt,←hpm];clear hsj hsi hgj hg hpm;simp_all;done)|(have hx:m=true:=(by assumption);rw [zjt,←hpm,hlt,hx,decide_eq_false (p:=(j:Int)∈p) (by assumption),decide_eq_false (p:=(j:Int)=(i:Int)) (by assumption),Bool.eq_iff_iff];simp;done) | trace_state) (by simp [zG27,KpOX,renO,plO,cvO,renV,pl1,DtState.cells,DtCatalog.cells];try rfl) (by rfl) (by simp) (by simp) (by rfl) (by simp [zG28,formsX]),_,0,true,rfl,?_,rfl⟩
         ·exact ⟨by omega,(zb4 λa ha=>by omega).symm⟩
        ·rintro mM sS ⟨j,m,rfl,⟨hj,hpm⟩,rfl⟩
         refine zbi ?_
         refine AW_x rfl rfl λK hK=>?_
         simp (disch:=omega) [hsi]
         repeat' first|(refine ⟨by omega,?_⟩)|(simp (disch:=omega) [hsi])|(intro _)
         refine hK _ ?_;clear hK K
         refine zbh rfl (λhc8=>?_) (λhc8=>?_)
         ·try simp [zG26,zbc,zbb] at hc8
          all_goals
           have hgj:l[j]? = some l[j]:=List.getElem?_eq_getElem (by omega)
           have hlt:=zls (l:=l) (k:=(j:Int)) (j:=(i:Int)) (by simp;omega) (by simp;omega)
           simp only [Int.toNat_natCast] at hlt
           have hsj:=zlt l.length p j (by omega)
           refine zbj ?_
           refine zbn ?_
           refine zbi ?_
           refine zbm ?_
           refine zh2 rfl mix (by kernel_rfl) (by kernel_rfl) λK hK=>?_
           simp (disch:=omega) [hsi,hsj]
           repeat' first|(exfalso;omega)|(refine ⟨λ_=>?_,λ_=>?_⟩)|(refine ⟨by omega,?_⟩)|(simp (disch:=omega) [hsi,hsj])|(intro _)
           all_goals (refine hK _ _ (by kernel_rfl) ?_;clear hK K)
           all_goals
            refine zbn ?_
            refine zb3 rfl rfl λK hK=>?_
            simp (disch:=omega) [hsi,hsj]
            repeat' first|(refine ⟨by omega,?_⟩)|(intro _)
            refine hK _ ?_;clear hK K
            refine ⟨_,LeS.kx [(96,96)] [(0,.sl 11 (l.map DtCall.cells)),(1,.sl 1 (seenL l.length p)),(5,.ptr 96 0),(8,(.g (.bool (true)))),(9,(.g (.int .i64 ((i:Nat))))),(10,(.g (.bool ((decB (MayT l p i (j+1))))))),(11,(.g (.int .i64 (((j+1):Nat)))))] [(96,.cells (DtState.cells (stP l p)))] (by simp [zG27,KpR,renV2,renV,zbk,DtState.cells,DtCatalog.cells];first|(simp;done) | omega|(rw [zjt,←hpm];clear hsj hsi hgj hg hpm;simp_all;done)|(have hx:m=true:=(by assumption);rw [zjt,←hpm,hlt,hx,decide_eq_false (p:=(j:Int)∈p) (by assumption),decide_eq_false (p:=(j:Int)=(i:Int)) (by assumption),Bool.eq_iff_iff];simp;done) | trace_state) (by simp [zG27,KpOX,renO,plO,cvO,renV,pl1,DtState.cells,DtCatalog.cells];try rfl) (by rfl) (by simp) (by simp) (by rfl) (by simp [zG28,formsX]),_,?_,j+1,decB (MayT l p i (j+1)),rfl,?_,rfl⟩
            ·omega
            ·first | exact ⟨by omega,rfl⟩ | trace_state
         ·try simp [zG26,zbc,zbb] at hc8
          all_goals
           have hjl:j=l.length:=by omega
           refine zbx ?_
           refine zbn ?_
           refine zbi ?_
           refine AW_x rfl rfl λK hK=>?_
           simp (disch:=omega) [hsi]
           repeat' first|(exfalso;omega)|(refine ⟨λ_=>?_,λ_=>?_⟩)|(refine ⟨by omega,?_⟩)|(simp (disch:=omega) [hsi])|(intro _)
           all_goals (refine hK _ ?_;clear hK K)
           all_goals
            refine zbh rfl (λhc9=>?_) (λhc9=>?_)
            ·try simp [zG26,zbc,zbb] at hc9
             all_goals
              refine zbx ?_
              refine zbn ?_
              refine zb3 rfl rfl λK hK=>?_
              simp (disch:=omega) [hsi]
              repeat' first|(exfalso;omega)|(refine ⟨λ_=>?_,λ_=>?_⟩)|(refine ⟨by omega,?_⟩)|(simp (disch:=omega) [hsi])|(intro _)
              all_goals (refine hK _ ?_;clear hK K)
              all_goals
               refine ⟨_,LeS.kx [(96,96)] [(0,.sl 11 (l.map DtCall.cells)),(1,.sl 1 (seenL l.length p)),(5,.ptr 96 0),(8,(.g (.bool ((true))))),(9,(.g (.int .i64 (((i+1):Nat)))))] [(96,.cells (DtState.cells (stP l p)))] (by simp [zG27,KpR,renV2,renV,zbk,DtState.cells,DtCatalog.cells,zdx,zc0];try rfl) (by simp [zG27,KpOX,renO,plO,cvO,renV,pl1,DtState.cells,DtCatalog.cells,zdx,zc0];try rfl) (by rfl) (by simp) (by simp) (by rfl) (by simp [zG28,formsX]),_,?_,i+1,true,rfl,?_,rfl⟩
               ·omega
               ·refine ⟨by omega,λa ha=>?_,?_,?_⟩
                ·by_cases e:a<i
                 ·exact hpre a e
                 ·obtain rfl:a=i:=by omega
                  unfold fndC
                  first|(rw [if_pos (.inl (by assumption))];done)|(rw [if_pos (.inr (.inl (by rw [zpv hjl hpm];assumption)))];done)|(rw [if_pos (.inr (.inr (by rw [hcm,htm];assumption)))];done)|(split<;>first | rfl|(simp_all;done)) | trace_state
                ·first | exact λh a ha=>if e:a<i then hb0 h a e else (by have:a=i:=(by omega);subst this;assumption) | exact λh=>(by cases h)
                ·first | exact hb1 | exact λ_=>⟨i,hi2,hc7⟩
            ·try simp [zG26,zbc,zbb] at hc9
             all_goals
              refine zbj ?_
              refine zbn ?_
              refine AW_d rfl mix (by kernel_rfl) (by kernel_rfl) λK hK=>?_
              simp (disch:=omega) [hsi]
              repeat' first|(exfalso;omega)|(refine zk0 [] true [] (zh7 (stP l p) l[i].fCmd (zx4 _ _) (hm _ hi2)) ?_ (λst' hst=>?_) ?_;(focus (simp [List.range_succ,nmC];done));(focus (simp (disch:=omega) [hsi,nmC,List.range_succ] at hst;simp (disch:=omega) [hsi,hst,zbl,nmC,List.range_succ];done));simp (disch:=omega) [hsi])|(refine ⟨λ_=>?_,λ_=>?_⟩)|(refine ⟨by omega,?_⟩)|(simp (disch:=omega) [hsi])|(intro _)
              all_goals (refine hK _ _ (by kernel_rfl) ?_;clear hK K)
              all_goals
               refine zbi ?_
               refine AW_x rfl rfl λK hK=>?_
               simp (disch:=omega) [hsi]
               repeat' first|(refine ⟨by omega,?_⟩)|(intro _)
               refine hK _ ?_;clear hK K
               refine zbh rfl (λhc10=>?_) (λhc10=>?_)
               ·try simp [zG26,zbc,zbb] at hc10
                all_goals
                 refine zbx ?_
                 refine zbn ?_
                 refine zb3 rfl rfl λK hK=>?_
                 simp (disch:=omega) [hsi]
                 repeat' first|(exfalso;omega)|(refine ⟨λ_=>?_,λ_=>?_⟩)|(refine ⟨by omega,?_⟩)|(simp (disch:=omega) [hsi])|(intro _)
                 all_goals (refine hK _ ?_;clear hK K)
                 all_goals
                  refine ⟨_,LeS.kx [(96,96)] [(0,.sl 11 (l.map DtCall.cells)),(1,.sl 1 (seenL l.length p)),(5,.ptr 96 0),(8,(.g (.bool ((true))))),(9,(.g (.int .i64 (((i+1):Nat)))))] [(96,.cells (DtState.cells (stP l p)))] (by simp [zG27,KpR,renV2,renV,zbk,DtState.cells,DtCatalog.cells,zdx,zc0];try rfl) (by simp [zG27,KpOX,renO,plO,cvO,renV,pl1,DtState.cells,DtCatalog.cells,zdx,zc0];try rfl) (by rfl) (by simp) (by simp) (by rfl) (by simp [zG28,formsX]),_,?_,i+1,true,rfl,?_,rfl⟩
                  ·omega
                  ·refine ⟨by omega,λa ha=>?_,?_,?_⟩
                   ·by_cases e:a<i
                    ·exact hpre a e
                    ·obtain rfl:a=i:=by omega
                     unfold fndC
                     first|(rw [if_pos (.inl (by assumption))];done)|(rw [if_pos (.inr (.inl (by rw [zpv hjl hpm];assumption)))];done)|(rw [if_pos (.inr (.inr (by rw [hcm,htm];assumption)))];done)|(split<;>first | rfl|(simp_all;done)) | trace_state
                   ·first | exact λh a ha=>if e:a<i then hb0 h a e else (by have:a=i:=(by omega);subst this;assumption) | exact λh=>(by cases h)
                   ·first | exact hb1 | exact λ_=>⟨i,hi2,hc7⟩
               ·try simp [zG26,zbc,zbb] at hc10
                all_goals
                 refine zbj ?_
                 refine zbn ?_
                 refine AW_x rfl rfl λK hK=>?_
                 simp (disch:=omega) [hsi]
                 repeat' first|(exfalso;omega)|(refine ⟨λ_=>?_,λ_=>?_⟩)|(refine ⟨by omega,?_⟩)|(simp (disch:=omega) [hsi])|(intro _)
                 all_goals (refine hK _ ?_;clear hK K)
                 all_goals
                  refine AW_x rfl rfl λK hK=>?_
                  simp (disch:=omega) [hsi]
                  repeat' first|(refine ⟨by omega,?_⟩)|(simp (disch:=omega) [hsi])|(intro _)
                  refine hK _ ?_;clear hK K
                  have hni:(i:Int)∉p:=hc7
                  have hH:FndX l (p++[(i:Int)]) (V i):=H i hi2 hni
                  rw [FndX,zrh,hcm] at hH
                  rw [seenL_setN]
                  refine AW_x rfl rfl λK hK=>?_
                  simp (disch:=omega) [hsi]
                  repeat' first|(exfalso;omega)|(refine zdh [] true [] (hH) ?_ ?_ ?_;(focus (simp [List.range_succ,nmC];done));(focus (simp (disch:=omega) [hsi,zbl];done));simp (disch:=omega) [hsi])|(refine ⟨by omega,?_⟩)|(simp (disch:=omega) [hsi])|(intro _)
                  refine hK _ ?_;clear hK K
                  refine AW_x rfl rfl λK hK=>?_
                  simp (disch:=omega) [hsi]
                  repeat' first|(refine ⟨by omega,?_⟩)|(intro _)
                  refine hK _ ?_;clear hK K
                  refine zbh rfl (λhc11=>?_) (λhc11=>?_)
                  ·try simp [zG26,zbc,zbb] at hc11
                   all_goals
                    have hVk:=hV i
                    refine AW_wn (sz:=1) 1408 (zdx (optL (V i))) (by simp [zG27]) ?_
                    refine AW_x rfl rfl λK hK=>?_
                    simp (disch:=omega) [hsi]
                    repeat' first|(exfalso;omega)|(refine ⟨λ_=>?_,λ_=>?_⟩)|(refine ⟨by omega,?_⟩)|(simp (disch:=omega) [hsi])|(intro _)
                    all_goals (refine hK _ ?_;clear hK K)
                    all_goals
                     refine zbp (zb0 [1520] [] (by simp [zG27,List.range_succ]) (by simp) ?_)
                     simp (disch:=omega) [hsi]
                     all_goals first|(obtain ⟨r,hr⟩:=Option.isSome_iff_exists.1 hc11;have hf:fndC l p V i=some ((i:Int) :: r):=(by unfold fndC;rw [if_neg (by rw [zpv hjl hpm,hc9,hcm,htm,hc10];simp [hc7]),hr];rfl);rw [zpw hi2 hf hpre,hr];exact ⟨by simp [optL];omega,rfl,by simp [optL,cI]⟩)|(have ⟨h1,h2⟩:=zto (V:=V) (λj hj=>hpre j (by omega));rw [h1,h2,zx8 hil hb0 hb1];exact ⟨rfl,rfl,rfl⟩) | trace_state
                  ·try simp [zG26,zbc,zbb] at hc11
                   all_goals
                    refine zbj ?_
                    refine zbn ?_
                    refine zb3 rfl rfl λK hK=>?_
                    simp (disch:=omega) [hsi]
                    repeat' first|(exfalso;omega)|(refine ⟨λ_=>?_,λ_=>?_⟩)|(refine ⟨by omega,?_⟩)|(simp (disch:=omega) [hsi])|(intro _)
                    all_goals (refine hK _ ?_;clear hK K)
                    all_goals
                     refine ⟨_,LeS.kx [(96,96)] [(0,.sl 11 (l.map DtCall.cells)),(1,.sl 1 (seenL l.length p)),(5,.ptr 96 0),(8,(.g (.bool ((true))))),(9,(.g (.int .i64 (((i+1):Nat)))))] [(96,.cells (DtState.cells (stP l p)))] (by simp [zG27,KpR,renV2,renV,zbk,DtState.cells,DtCatalog.cells,zdx,zc0];try rfl) (by simp [zG27,KpOX,renO,plO,cvO,renV,pl1,DtState.cells,DtCatalog.cells,zdx,zc0];try rfl) (by rfl) (by simp) (by simp) (by rfl) (by simp [zG28,formsX]),_,?_,i+1,true,rfl,?_,rfl⟩
                     ·omega
                     ·refine ⟨by omega,λa ha=>?_,?_,?_⟩
                      ·by_cases e:a<i
                       ·exact hpre a e
                       ·obtain rfl:a=i:=by omega
                        unfold fndC
                        first|(rw [if_pos (.inl (by assumption))];done)|(rw [if_pos (.inr (.inl (by rw [zpv hjl hpm];assumption)))];done)|(rw [if_pos (.inr (.inr (by rw [hcm,htm];assumption)))];done)|(split<;>first | rfl|(simp_all;done)) | trace_state
                      ·first | exact λh a ha=>if e:a<i then hb0 h a e else (by have:a=i:=(by omega);subst this;assumption) | exact λh=>(by cases h)
                      ·first | exact hb1 | exact λ_=>⟨i,hi2,hc7⟩
  ·try simp [zG26,zbc,zbb] at hc6
   all_goals
    have hil:i=l.length:=by omega
    refine zbx ?_
    refine zbn ?_
    refine AW_x rfl rfl λK hK=>?_
    simp (disch:=omega)
    repeat' first|(exfalso;omega)|(refine ⟨λ_=>?_,λ_=>?_⟩)|(refine ⟨by omega,?_⟩)|(simp (disch:=omega))|(intro _)
    all_goals (refine hK _ ?_;clear hK K)
    all_goals
     refine zbp (zb0 [1536] [] (by simp [zG27,List.range_succ]) (by simp) ?_)
     simp (disch:=omega)
     all_goals first|(obtain ⟨r,hr⟩:=Option.isSome_iff_exists.1 hc11;have hf:fndC l p V i=some ((i:Int) :: r):=(by unfold fndC;rw [if_neg (by rw [zpv hjl hpm,hc9,hcm,htm,hc10];simp [hc7]),hr];rfl);rw [zpw hi2 hf hpre,hr];exact ⟨by simp [optL];omega,rfl,by simp [optL,cI]⟩)|(have ⟨h1,h2⟩:=zto (V:=V) (λj hj=>hpre j (by omega));rw [h1,h2,zx8 hil hb0 hb1];exact ⟨rfl,rfl,rfl⟩) | trace_state
theorem zx9(l:List DtCall):∀(d:Nat) (p:List Int),(optL (fndI l d p)).length≤d:=by
 have key:∀(p:List Int) (V:Nat→Option (List Int)) (d:Nat),(∀k,(optL (V k)).length+1≤d∨V k=none)→(optL (resV l p V)).length≤d:=by
  intro p V d h
  unfold resV
  split
  ·rename_i r hr
   obtain ⟨k,hk,e⟩:=ztn hr
   unfold fndC at e
   split at e
   ·cases e
   ·rcases h k with h | h
    ·cases hv:V k with
     | none=>rw [hv] at e;cases e
     | some r' =>
      rw [hv] at e h
      cases e
      simp [optL] at h ⊢
      omega
    ·rw [h] at e;cases e
  ·split<;>simp [optL]
 intro d
 induction d with
 | zero=>intro p;exact key p _ 0 λk=>.inr rfl
 | succ d ih=>intro p;exact key p _ (d+1) λk=>.inl (by have:=ih (p++[(k:Int)]);omega)
theorem fndX(l:List DtCall)(hs:szS DtCall.sz l≤1048576):∀(d:Nat) (p:List Int),p.Nodup→(∀x∈p,0≤x∧x<(l.length:Int))→l.length=p.length+d→FndX l p (fndI l d p):=by
 have ⟨hl,hm⟩:=zkr l hs
 intro d
 induction d with
 | zero =>
  intro p hn hr hd
  exact fndStep l hs p _ (λk=>by simp [optL]) λk hk hp=>absurd (ztm hn hr (by omega) k hk) hp
 | succ d ih =>
  intro p hn hr hd
  refine fndStep l hs p _ (λk=>by have:=zx9 l d (p++[(k:Int)]);omega) λk hk hp=>ih _ ?_ ?_ (by simp;omega)
  ·exact List.nodup_append.2 ⟨hn,by simp,λa ha b hb=>by rw [List.mem_singleton] at hb;subst hb;exact λe=>hp (e ▸ ha)⟩
  ·intro x hx
   rcases List.mem_append.1 hx with hx | hx
   ·exact hr x hx
   ·rw [List.mem_singleton.1 hx];omega
theorem fitX(l:List DtCall)(hs:szS DtCall.sz l≤1048576):∀(d:Nat) (p:List Int),(∀x∈p,0≤x∧x<(l.length:Int))→l.length=p.length+d→FitX l p (fitI l d p):=by
 intro d
 induction d with
 | zero =>
  intro p hr hd
  exact fitStep l hs p hr (by omega) _ λhne=>absurd (by omega) hne
 | succ d ih =>
  intro p hr hd
  refine fitStep l hs p hr (by omega) _ λhne k hk hp=>ih _ ?_ (by simp;omega)
  intro x hx
  rcases List.mem_append.1 hx with hx | hx
  ·exact hr x hx
  ·rw [List.mem_singleton.1 hx];omega
attribute [local simp] st0S aAppC aAppZ
attribute [-simp] zx7 zpt zjs zpx cI cB
noncomputable def linI(l:List DtCall):Option (List Int):=if decB (CallsP l)=true then fndI l l.length [] else none
theorem zrk(l:List DtCall)(hl:l.length≤1048576):(optL (linI l)).length≤1048576:=by
 unfold linI
 split
 ·have:=zx9 l l.length [];omega
 ·simp [optL]
theorem zdy(l:List DtCall)(hs:szS DtCall.sz l≤1048576):XCall Try.prog 15 [.sl 11 (l.map DtCall.cells)] [] (.tup [.arr 16 0 (optL (linI l)).length,(.g (.bool ((linI l).isSome)))]) [] [.own 1 ((optL (linI l)).map cI)]:=by
 have hF:=fitX l hs l.length [] (by simp) (by simp)
 rw [zx6,FitX,stP_nil] at hF
 refine zbs Try.func15 (by rfl) (by rfl) (by rw [Try.ntmps15];exact Nat.le_of_ble_eq_true rfl) rfl (by simp) rfl rfl ?_
 rw [Try.ntmps15]
 refine zf1   ?_
 refine AW_k [(0,_)] ⟨rfl,trivial⟩ ?_
 refine AW_x rfl rfl λK hK=>?_
 simp (disch:=omega)
 repeat' first|(refine ⟨by omega,?_⟩)|(intro _)
 refine hK _ ?_;clear hK K
 refine zbi ?_
 refine AW_x rfl rfl λK hK=>?_
 simp (disch:=omega)
 repeat' first|(exfalso;omega)|(refine zc6 (zbe zce zbo) (zd7 l hs) rfl ?_;simp (disch:=omega))|(refine zc7 (zd7 l hs) (by rfl) ?_ ?_;(focus (simp (disch:=omega) [zbl];done));simp (disch:=omega))|(refine ⟨by omega,?_⟩)|(simp (disch:=omega))|(intro _)
 refine hK _ ?_;clear hK K
 refine zbh rfl (λhc12=>?_) (λhc12=>?_)
 ·try simp [zG26,zbc,zbb] at hc12
  all_goals
   refine AW_x rfl rfl λK hK=>?_
   simp (disch:=omega)
   repeat' first|(exfalso;omega)|(refine ⟨λ_=>?_,λ_=>?_⟩)|(refine ⟨by omega,?_⟩)|(simp (disch:=omega))|(intro _)
   all_goals (refine hK _ ?_;clear hK K)
   all_goals
    refine zbp (zb0 [1000] [(1000,1)] (by simp [zG27,List.range_succ]) (by simp) ?_)
    simp (disch:=omega)
    all_goals first|(have h1:linI l=none:=(by unfold linI;rw [if_neg (by rw [zba];assumption)]);rw [h1];exact ⟨rfl,rfl,rfl⟩)|(have h1:linI l=fndI l l.length []:=(by unfold linI;rw [if_pos (zb4 (by assumption))]);rw [h1];exact ⟨rfl,rfl,rfl⟩) | trace_state
 ·try simp [zG26,zbc,zbb] at hc12
  all_goals
   refine zbj ?_
   refine zbn ?_
   refine AW_x rfl rfl λK hK=>?_
   simp (disch:=omega)
   repeat' first|(exfalso;omega)|(refine zdh [160] true [] (hF) ?_ ?_ ?_;(focus (simp [List.range_succ,nmC];done));(focus (simp (disch:=omega) [zbl];done));simp (disch:=omega))|(refine ⟨λ_=>?_,λ_=>?_⟩)|(refine ⟨by omega,?_⟩)|(simp (disch:=omega))|(intro _)
   all_goals (refine hK _ ?_;clear hK K)
   all_goals
    refine zbp (zb0 [176] [] (by simp [zG27,List.range_succ]) (by simp) ?_)
    simp (disch:=omega)
    all_goals first|(have h1:linI l=none:=(by unfold linI;rw [if_neg (by rw [zba];assumption)]);rw [h1];exact ⟨rfl,rfl,rfl⟩)|(have h1:linI l=fndI l l.length []:=(by unfold linI;rw [if_pos (zb4 (by assumption))]);rw [h1];exact ⟨rfl,rfl,rfl⟩) | trace_state
theorem zpy(l:List DtCall)(hs:szS DtCall.sz l≤1048576):XCall Try.prog 16 [.sl 11 (l.map DtCall.cells)] [] (.tup [.arr 16 0 (optL (linI l)).length,(.g (.bool ((linI l).isSome)))]) [] [.own 1 ((optL (linI l)).map cI)]:=by
 have ⟨hl,hm⟩:=zkr l hs
 have hF:=fndX l hs l.length [] (by simp) (by simp) (by simp)
 rw [FndX,stP_nil,znl] at hF
 refine zbs Try.func16 (by rfl) (by rfl) (by rw [Try.ntmps16];exact Nat.le_of_ble_eq_true rfl) rfl (by simp) rfl rfl ?_
 rw [Try.ntmps16]
 refine zf1   ?_
 refine AW_k [(0,_)] ⟨rfl,trivial⟩ ?_
 refine AW_x rfl rfl λK hK=>?_
 simp (disch:=omega)
 repeat' first|(refine ⟨by omega,?_⟩)|(intro _)
 refine hK _ ?_;clear hK K
 refine zbi ?_
 refine AW_x rfl rfl λK hK=>?_
 simp (disch:=omega)
 repeat' first|(exfalso;omega)|(refine zc6 (zbe zce zbo) (zd6 l hs) rfl ?_;simp (disch:=omega))|(refine zc7 (zd6 l hs) (by rfl) ?_ ?_;(focus (simp (disch:=omega) [zbl];done));simp (disch:=omega))|(refine ⟨by omega,?_⟩)|(simp (disch:=omega))|(intro _)
 refine hK _ ?_;clear hK K
 refine zbh rfl (λhc13=>?_) (λhc13=>?_)
 ·try simp [zG26,zbc,zbb] at hc13
  all_goals
   refine AW_x rfl rfl λK hK=>?_
   simp (disch:=omega)
   repeat' first|(exfalso;omega)|(refine ⟨λ_=>?_,λ_=>?_⟩)|(refine ⟨by omega,?_⟩)|(simp (disch:=omega))|(intro _)
   all_goals (refine hK _ ?_;clear hK K)
   all_goals
    refine zbp (zb0 [160] [] (by simp [zG27,List.range_succ]) (by simp) ?_)
    simp (disch:=omega)
    all_goals first|(have h1:linI l=none:=(by unfold linI;rw [if_neg (by rw [zba];assumption)]);rw [h1];exact ⟨rfl,rfl,rfl⟩)|(have h1:linI l=fndI l l.length []:=(by unfold linI;rw [if_pos (zb4 (by assumption))]);rw [h1];exact ⟨rfl,rfl,rfl⟩) | trace_state
 ·try simp [zG26,zbc,zbb] at hc13
  all_goals
   refine zbj ?_
   refine zbn ?_
   refine AW_x rfl rfl λK hK=>?_
   simp (disch:=omega)
   repeat' first|(exfalso;omega)|(refine zdh [] true [] (hF) ?_ ?_ ?_;(focus (simp [List.range_succ,nmC];done));(focus (simp (disch:=omega) [zbl];done));simp (disch:=omega))|(refine ⟨λ_=>?_,λ_=>?_⟩)|(refine ⟨by omega,?_⟩)|(simp (disch:=omega))|(intro _)
   all_goals (refine hK _ ?_;clear hK K)
   all_goals
    refine AW_x rfl rfl λK hK=>?_
    simp (disch:=omega)
    repeat' first|(refine ⟨by omega,?_⟩)|(intro _)
    refine hK _ ?_;clear hK K
    refine zbp (zb0 [272] [] (by simp [zG27,List.range_succ]) (by simp) ?_)
    simp (disch:=omega)
    all_goals first|(have h1:linI l=none:=(by unfold linI;rw [if_neg (by rw [zba];assumption)]);rw [h1];exact ⟨rfl,rfl,rfl⟩)|(have h1:linI l=fndI l l.length []:=(by unfold linI;rw [if_pos (zb4 (by assumption))]);rw [h1];exact ⟨rfl,rfl,rfl⟩) | trace_state
end Go.Proofs.Ytodmafgmdlkhoaa.Vs
end
section
namespace Go.Proofs.Ytodmafgmdlkhoaa.Vs
set_option linter.all false
set_option maxRecDepth 100000
set_option maxHeartbeats 2000000
theorem callF_sz{x:DtCall}(h:CallF x):DtCall.sz x≤1000:=by
 obtain ⟨⟨h1,h2,h3,h4,h5⟩,h6⟩:=h
 have key:∀(xs:List (List UInt8)),(∀t∈xs,t.length≤16)→sumZ lenZ xs≤16*xs.length:=by
  intro xs
  induction xs with
  | nil=>intro _;simp [zjj]
  | cons x xs ih =>
   intro h
   have ih:=ih λt ht=>h t (List.mem_cons_of_mem _ ht)
   have:=h x List.mem_cons_self
   rw [zgk]
   simp only [lenZ,List.length_cons] at *
   omega
 have:=key _ h5
 unfold DtCall.sz DtCmd.sz szS
 omega
theorem ztp{gs:List DtCall}(hn:gs.length≤6)(h:∀g∈gs,CallF g):szS DtCall.sz gs≤1048576:=by
 have key:∀(xs:List DtCall),(∀t∈xs,CallF t)→sumZ DtCall.sz xs≤1000*xs.length:=by
  intro xs
  induction xs with
  | nil=>intro _;simp [zjj]
  | cons x xs ih =>
   intro h
   have ih:=ih λt ht=>h t (List.mem_cons_of_mem _ ht)
   have:=callF_sz (h x List.mem_cons_self)
   rw [zgk]
   simp only [List.length_cons] at *
   omega
 have:=key gs h
 unfold szS
 omega
theorem zza(l:List Int)(hn:l.length<9223372036854775808):PCall Try.prog 5 [.sl 1 (l.map cU)] (.g (.bool (decide (1048576<l.length)))):=by
 refine zbr Try.func5 (by rfl) (by rfl) (by rw [Try.ntmps5];exact Nat.le_of_ble_eq_true rfl) rfl (by decide) ?_
 rw [Try.ntmps5]
 refine AW_k [(0,_)] ⟨rfl,trivial⟩ ?_
 refine AW_r rfl rfl λK hK=>?_
 simp (disch:=omega) [zcj,gE,tP]
 repeat' first|(refine ⟨by omega,?_⟩)|(intro _)
 refine hK _ ?_;clear hK K
 refine AW_r rfl rfl λK hK=>?_
 simp (disch:=omega) [zcj,gE,tP]
 repeat' first|(refine ⟨by omega,?_⟩)|(intro _)
 refine hK _ ?_;clear hK K
 refine zbp (zcb ?_)
 simp (disch:=omega) [zcj,gE,tP]
 all_goals (first | done|(congr 1;omega)|(simp;omega) | trace_state)
theorem zju(l:List Int)(hn:l.length≤1048576):PCall Try.prog 17 [.sl 1 (l.map cI),.sl 1 (l.map cI)] (.g (.bool (true))):=by
 refine zbr Try.func17 (by rfl) (by rfl) (by rw [Try.ntmps17];exact Nat.le_of_ble_eq_true rfl) rfl (by decide) ?_
 rw [Try.ntmps17]
 refine AW_k [(0,_),(1,_)] ⟨rfl,rfl,trivial⟩ ?_
 refine AW_r rfl rfl λK hK=>?_
 simp (disch:=omega) [zcj,gE,tP,cI]
 repeat' first|(refine ⟨by omega,?_⟩)|(intro _)
 refine hK _ ?_;clear hK K
 refine zbi ?_
 refine AW_r rfl rfl λK hK=>?_
 simp (disch:=omega) [zcj,gE,tP,cI]
 repeat' first|(refine ⟨by omega,?_⟩)|(intro _)
 refine hK _ ?_;clear hK K
 refine zbh rfl (λhc1=>?_) (λhc1=>?_)
 ·try simp [zG26,zbc,zbb] at hc1
  all_goals
   refine AW_r rfl rfl λK hK=>?_
   simp (disch:=omega) [zcj,gE,tP,cI]
   repeat' first|(exfalso;omega)|(refine ⟨λ_=>?_,λ_=>?_⟩)|(refine ⟨by omega,?_⟩)|(intro _)
   all_goals (refine hK _ ?_;clear hK K)
   all_goals
    refine zbp (zcb ?_)
    simp (disch:=omega) [zcj,gE,tP,cI]
    all_goals skip
 ·try simp [zG26,zbc,zbb] at hc1
  all_goals
   refine zbj ?_
   refine zbn ?_
   refine zbi ?_
   refine AW_r rfl rfl λK hK=>?_
   simp (disch:=omega) [zcj,gE,tP,cI]
   repeat' first|(exfalso;omega)|(refine ⟨λ_=>?_,λ_=>?_⟩)|(refine ⟨by omega,?_⟩)|(intro _)
   all_goals (refine hK _ ?_;clear hK K)
   all_goals
    refine zbm ?_
    refine zbv (λmM sS=>∃(i:Nat),mM=l.length-i∧(i≤l.length)∧sS = { env:=lkE [(0,.sl 1 (l.map cI)),(1,.sl 1 (l.map cI)),(5,(.g (.int .i64 ((i:Nat)))))],ob:=lk [] }) ?_ ?_
    ·refine ⟨_,LeS.ko [(0,.sl 1 (l.map cI)),(1,.sl 1 (l.map cI)),(5,(.g (.int .i64 (((0):Nat)))))] [] (by simp [KpE,zbz,zbk,zbq,cI];try rfl) (by simp [zG27,KpO,zcc,cI];try rfl) (by rfl) (by simp) (by rfl),_,0,rfl,?_,rfl⟩
     ·simp
    ·rintro mM sS ⟨i,rfl,hi,rfl⟩
     refine zbi ?_
     refine AW_r rfl rfl λK hK=>?_
     simp (disch:=omega) [zcj,gE,tP,cI]
     repeat' first|(refine ⟨by omega,?_⟩)|(intro _)
     refine hK _ ?_;clear hK K
     refine zbh rfl (λhc2=>?_) (λhc2=>?_)
     ·try simp [zG26,zbc,zbb] at hc2
      all_goals
       refine zbj ?_
       refine zbn ?_
       refine zbi ?_
       refine zbm ?_
       refine AW_q rfl mix (by kernel_rfl) rfl λK hK=>?_
       simp (disch:=omega) [zcj,gE,tP,cI]
       repeat' first|(exfalso;omega)|(refine ⟨λ_=>?_,λ_=>?_⟩)|(refine ⟨by omega,?_⟩)|(intro _)
       all_goals (refine hK _ ?_;clear hK K)
       all_goals
        refine zbh rfl (λhc3=>?_) (λhc3=>?_)
        ·try simp [zG26,zbc,zbb] at hc3
         all_goals
          refine AW_r rfl rfl λK hK=>?_
          simp (disch:=omega) [zcj,gE,tP,cI]
          repeat' first|(exfalso;omega)|(refine ⟨λ_=>?_,λ_=>?_⟩)|(refine ⟨by omega,?_⟩)|(intro _)
          all_goals (refine hK _ ?_;clear hK K)
          all_goals
           refine zbp (zcb ?_)
           simp (disch:=omega) [zcj,gE,tP,cI]
           all_goals skip
        ·try simp [zG26,zbc,zbb] at hc3
         all_goals
          refine zbj ?_
          refine zbn ?_
          refine zc8 rfl rfl λK hK=>?_
          simp (disch:=omega) [zcj,gE,tP,cI]
          repeat' first|(exfalso;omega)|(refine ⟨λ_=>?_,λ_=>?_⟩)|(refine ⟨by omega,?_⟩)|(intro _)
          all_goals (refine hK _ ?_;clear hK K)
          all_goals
           refine ⟨_,LeS.ko [(0,.sl 1 (l.map cI)),(1,.sl 1 (l.map cI)),(5,(.g (.int .i64 (((i+1):Nat)))))] [] (by simp [KpE,zbz,zbk,zbq,cI];try rfl) (by simp [zG27,KpO,zcc,cI];try rfl) (by rfl) (by simp) (by rfl),_,?_,i+1,rfl,?_,rfl⟩
           ·omega
           ·omega
     ·try simp [zG26,zbc,zbb] at hc2
      all_goals
       refine zbx ?_
       refine zbn ?_
       refine AW_r rfl rfl λK hK=>?_
       simp (disch:=omega) [zcj,gE,tP,cI]
       repeat' first|(exfalso;omega)|(refine ⟨λ_=>?_,λ_=>?_⟩)|(refine ⟨by omega,?_⟩)|(intro _)
       all_goals (refine hK _ ?_;clear hK K)
       all_goals
        refine zbp (zcb ?_)
        simp (disch:=omega) [zcj,gE,tP,cI]
        all_goals skip
theorem ztq(l:List Int):scR (l.map cU)=true:=zdn cU (λ_=>rfl) l
theorem frz_ok0{fs:List Nat}{st:St}(h:fs=[]):FrzOk fs st:=⟨.inl h,λm hm=>by rw [h] at hm;cases hm⟩
def FreshE(r:AV)(wos' fos:List OB):Prop:=∃(m:List Int),Code m∧r=.sl 1 (m.map cU)∧wos'=[]∧fos=[]
def zG29:=And.intro @zcj (And.intro @gE (And.intro @tP (And.intro @ztq (And.intro @zbl (And.intro @and_assoc @List.range_succ)))))
theorem fresh1(l:List Int)(hl:Code l):XCallE Try.prog 19 [.sl 1 (l.map cU),(.g (.int .i64 (1)))] [] 0 FreshE:=by
 refine zfx Try.func19 (by rfl) (by rfl) (by rw [Try.ntmps19];exact Nat.le_of_ble_eq_true rfl) (by simp) rfl rfl ?_
 rw [Try.ntmps19]
 refine AW_y0   ?_
 refine AW_k [(0,_),(1,_)] ⟨rfl,rfl,trivial⟩ ?_
 refine AW_x rfl rfl λK hK=>?_
 simp (disch:=omega) [zG29,cI,cU]
 repeat' first|(refine ⟨by omega,?_⟩)|(intro _)
 refine hK _ ?_;clear hK K
 refine AW_x rfl rfl λK hK=>?_
 simp (disch:=omega) [zG29,cI,cU]
 repeat' first|(refine ⟨by omega,?_⟩)|(simp (disch:=omega) [zG29,cI,cU])|(intro _)
 refine hK _ ?_;clear hK K
 refine zbi ?_
 refine AW_x rfl rfl λK hK=>?_
 simp (disch:=omega) [zG29,cI,cU]
 repeat' first|(refine ⟨by omega,?_⟩)|(intro _)
 refine hK _ ?_;clear hK K
 refine zbm ?_
 refine zbv (λmM sS=>∃(i:Nat) (m:List Int),mM=l.length-i∧(i≤l.length∧i≤600∧m.length=i+1)∧sS = { env:=lkE [(0,.sl 1 (l.map cU)),(1,(.g (.int .i64 (1)))),(5,.arr 501 0 m.length),(6,(.g (.int .i64 ((i:Nat)))))],ob:=lk [(501,.own 1 (m.map cU))] }) ?_ ?_
 ·refine ⟨_,LeS.kx [(501,160)] [(0,.sl 1 (l.map cU)),(1,(.g (.int .i64 (1)))),(5,.arr 501 0 ([IntKind.u8.wrap 1]).length),(6,(.g (.int .i64 (((0):Nat)))))] [(501,.own 1 (([IntKind.u8.wrap 1]).map cU))] (by simp [zG27,KpR,renV2,renV,zbk,cU,ztq];try (first | with_reducible rfl | omega | trace_state)) (by simp [zG27,KpOX,renO,plO,cvO,renV,pl1,cU,ztq];try (first | with_reducible rfl|(simp [cU,zbl];done) | trace_state)) (by rfl) (by simp) (by simp) (by rfl) (by simp [zG28,formsX]),_,0,[IntKind.u8.wrap 1],rfl,?_,rfl⟩
  ·simp
 ·rintro mM sS ⟨i,m,rfl,⟨hi,hi6,hm⟩,rfl⟩
  refine zbi ?_
  refine AW_x rfl rfl λK hK=>?_
  simp (disch:=omega) [zG29,cI,cU]
  repeat' first|(exfalso;omega)|(refine ⟨λ_=>?_,λ_=>?_⟩)|(refine ⟨by omega,?_⟩)|(simp (disch:=omega) [zG29,cI,cU])|(intro _)
  all_goals (refine hK _ ?_;clear hK K)
  all_goals
   refine zbh rfl (λhc4=>?_) (λhc4=>?_)
   ·try simp [zG26,zbc,zbb] at hc4
    all_goals
     have hi2:i<l.length:=by omega
     refine zbj ?_
     refine zbn ?_
     refine zbi ?_
     refine zbm ?_
     refine zb3 rfl rfl λK hK=>?_
     simp (disch:=omega) [zG29,cI,cU]
     repeat' first|(exfalso;omega)|(refine ⟨λ_=>?_,λ_=>?_⟩)|(refine ⟨by omega,?_⟩)|(simp (disch:=omega) [zG29,cI,cU])|(intro _)
     all_goals (refine hK _ ?_;clear hK K)
     all_goals
      refine zbn ?_
      refine zb3 rfl rfl λK hK=>?_
      simp (disch:=omega) [zG29,cI,cU]
      repeat' first|(refine ⟨by omega,?_⟩)|(intro _)
      refine hK _ ?_;clear hK K
      refine ⟨_,LeS.kx [(501,576)] [(0,.sl 1 (l.map cU)),(1,(.g (.int .i64 (1)))),(5,.arr 501 0 (m++[IntKind.u8.wrap (IntKind.i64.wrap (IntKind.i64.wrap (IntKind.i64.wrap l[i]*3)+IntKind.i64.wrap (IntKind.i64.wrap (Int.tmod i 7+1))))]).length),(6,(.g (.int .i64 (((i+1):Nat)))))] [(501,.own 1 ((m++[IntKind.u8.wrap (IntKind.i64.wrap (IntKind.i64.wrap (IntKind.i64.wrap l[i]*3)+IntKind.i64.wrap (IntKind.i64.wrap (Int.tmod i 7+1))))]).map cU))] (by simp [zG27,KpR,renV2,renV,zbk,cU,ztq];try (first | with_reducible rfl | omega | trace_state)) (by simp [zG27,KpOX,renO,plO,cvO,renV,pl1,cU,ztq];try (first | with_reducible rfl|(simp [cU,zbl];done) | trace_state)) (by rfl) (by simp) (by simp) (by rfl) (by simp [zG28,formsX]),_,?_,i+1,m++[IntKind.u8.wrap (IntKind.i64.wrap (IntKind.i64.wrap (IntKind.i64.wrap l[i]*3)+IntKind.i64.wrap (IntKind.i64.wrap (Int.tmod i 7+1))))],rfl,?_,rfl⟩
      ·omega
      ·exact ⟨by omega,by omega,by simp;omega⟩
   ·try simp [zG26,zbc,zbb] at hc4
    all_goals
     refine zbx ?_
     refine zbn ?_
     refine zda (LeS.frzR 501 (o:=.own 1 (m.map cU)) (sz:=1) (xs:=m.map cU) (frz_ok0 (by decide)) (by simp [formsX,List.range_succ]) (by simp [zG27,updL]) ⟨rfl,rfl⟩) ?_
     refine zda (LeS.vwT 5 501 (sz:=1) (xs:=m.map cU) (off:=0) (len:=m.length) (by simp [zG27,zbk]) (by simp [zbz]) (by simp)) ?_
     refine AW_x rfl rfl λK hK=>?_
     simp (disch:=omega) [zG29,cI,cU]
     repeat' first|(exfalso;omega)|(refine ⟨λ_=>?_,λ_=>?_⟩)|(refine ⟨by omega,?_⟩)|(simp (disch:=omega) [zG29,cI,cU])|(intro _)
     all_goals (refine hK _ ?_;clear hK K)
     all_goals
      refine zh0 (.sl 1 (m.map cU)) [] [] ?po (by simp) (by simp) (by simp [OB.xk]) (zb0 [] [] (by simp [zG27,List.range_succ]) (by simp) ?en)
      case en =>
       simp (disch:=omega) [zG29,cI,cU]
       all_goals trace_state
      case po=>exact ⟨m,(show m.length≤1048576 by omega),rfl,rfl,rfl⟩
def FitsD(r:AV)(wos' fos:List OB):Prop:=∃(gs:List DtCall) (o:List Int),gs.length≤6∧o.length=gs.length∧(∀g∈gs,CallF g)∧r=.tup [.sl 11 (gs.map DtCall.cells),.sl 1 (o.map cI)]∧wos'=[]∧fos=[]
theorem zzb(l:List Int)(hl:Code l):XCallE Try.prog 12 [.sl 1 (l.map cU)] [] 0 FitsD:=by
 refine zdf Try.func12 (by rfl) (by rfl) (by rw [Try.ntmps12];exact Nat.le_of_ble_eq_true rfl) (by simp) rfl ?_
 rw [Try.ntmps12]
 refine zf1   ?_
 refine AW_k [(0,_)] ⟨rfl,trivial⟩ ?_
 refine AW_x rfl rfl λK hK=>?_
 simp (disch:=omega) [zG29,cI,cU]
 repeat' first|(refine ⟨by omega,?_⟩)|(intro _)
 refine hK _ ?_;clear hK K
 refine AW_x rfl rfl λK hK=>?_
 simp (disch:=omega) [zG29,cI,cU]
 repeat' first|(exfalso;omega)|(refine zdh [] false [] (l1New l hl) ?_ ?_ ?_;(focus (simp [List.range_succ,nmC];done));(focus (simp (disch:=omega) [zG29,cI,cU];done));simp (disch:=omega) [zG29,cI,cU])|(refine ⟨by omega,?_⟩)|(simp (disch:=omega) [zG29,cI,cU])|(intro _)
 refine hK _ ?_;clear hK K
 refine AW_x rfl rfl λK hK=>?_
 simp (disch:=omega) [zG29,cI,cU]
 repeat' first|(exfalso;omega)|(refine zkx [144] false [] (zx2 l hl (cur0 l)) ?_ ?_ ?_;(focus (simp [List.range_succ,nmC];done));(focus (simp (disch:=omega) [zG29,cI,cU];done));rintro _ _ _ ⟨gs,o,c',hn,ho,hgs,rfl,rfl,rfl⟩;refine ⟨⟨by first | rfl|(simp;done),by first | rfl|(simp;done)⟩,?_⟩;simp (disch:=omega) [zG29,cI,cU])|(refine ⟨by omega,?_⟩)|(simp (disch:=omega) [zG29,cI,cU])|(intro _)
 refine hK _ ?_;clear hK K
 refine AW_x rfl rfl λK hK=>?_
 simp (disch:=omega) [zG29,cI,cU]
 repeat' first|(refine ⟨by omega,?_⟩)|(intro _)
 refine hK _ ?_;clear hK K
 refine zh0 (.tup [.sl 11 (gs.map DtCall.cells),.sl 1 (o.map cI)]) [] [] ?po (by simp) (by simp) (by simp [OB.xk]) (zb0 [] [] (by simp [zG27,List.range_succ]) (by simp) ?en)
 case en =>
  simp (disch:=omega) [zG29,cI,cU]
  all_goals (repeat' (first | constructor | rfl))
 case po=>exact ⟨gs,o,hn,ho,hgs,rfl,rfl,rfl⟩
def LineD(r:AV)(wos' fos:List OB):Prop:=∃(gs:List DtCall),gs.length≤6∧(∀g∈gs,CallF g)∧r=.sl 11 (gs.map DtCall.cells)∧wos'=[]∧fos=[]
theorem zpz(l:List Int)(hl:Code l):XCallE Try.prog 18 [.sl 1 (l.map cU)] [] 0 LineD:=by
 refine zdf Try.func18 (by rfl) (by rfl) (by rw [Try.ntmps18];exact Nat.le_of_ble_eq_true rfl) (by simp) rfl ?_
 rw [Try.ntmps18]
 refine zf1   ?_
 refine AW_k [(0,_)] ⟨rfl,trivial⟩ ?_
 refine AW_x rfl rfl λK hK=>?_
 simp (disch:=omega) [zG29,cI,cU]
 repeat' first|(refine ⟨by omega,?_⟩)|(intro _)
 refine hK _ ?_;clear hK K
 refine AW_x rfl rfl λK hK=>?_
 simp (disch:=omega) [zG29,cI,cU]
 repeat' first|(exfalso;omega)|(refine zdh [] false [] (l1New l hl) ?_ ?_ ?_;(focus (simp [List.range_succ,nmC];done));(focus (simp (disch:=omega) [zG29,cI,cU];done));simp (disch:=omega) [zG29,cI,cU])|(refine ⟨by omega,?_⟩)|(simp (disch:=omega) [zG29,cI,cU])|(intro _)
 refine hK _ ?_;clear hK K
 refine AW_x rfl rfl λK hK=>?_
 simp (disch:=omega) [zG29,cI,cU]
 repeat' first|(exfalso;omega)|(refine zkx [128] false [] (zx2 l hl (cur0 l)) ?_ ?_ ?_;(focus (simp [List.range_succ,nmC];done));(focus (simp (disch:=omega) [zG29,cI,cU];done));rintro _ _ _ ⟨gs,o,c',hn,ho,hgs,rfl,rfl,rfl⟩;refine ⟨⟨by first | rfl|(simp;done),by first | rfl|(simp;done)⟩,?_⟩;simp (disch:=omega) [zG29,cI,cU])|(refine ⟨by omega,?_⟩)|(simp (disch:=omega) [zG29,cI,cU])|(intro _)
 refine hK _ ?_;clear hK K
 refine AW_x rfl rfl λK hK=>?_
 simp (disch:=omega) [zG29,cI,cU]
 repeat' first|(refine ⟨by omega,?_⟩)|(intro _)
 refine hK _ ?_;clear hK K
 refine zh0 (.sl 11 (gs.map DtCall.cells)) [] [] ?po (by simp) (by simp) (by simp [OB.xk]) (zb0 [] [] (by simp [zG27,List.range_succ]) (by simp) ?en)
 case en =>
  simp (disch:=omega) [zG29,cI,cU]
  all_goals (repeat' (first | constructor | rfl))
 case po=>exact ⟨gs,hn,hgs,rfl,rfl,rfl⟩
end Go.Proofs.Ytodmafgmdlkhoaa.Vs
end
section
namespace Go.Proofs.Ytodmafgmdlkhoaa.Vs
set_option linter.all false
noncomputable def fitB(l:List DtCall)(o:List Int):Bool:=decB (CallsP l∧o.length=l.length∧FitsQ l o)
theorem ztr(l:List DtCall)(o:List Int):decB (CallsP l∧o.length=l.length∧FitsP l o)=fitB l o:=by
 unfold fitB
 rw [Bool.eq_iff_iff,zba,zba]
 exact ⟨λh=>⟨h.1,h.2.1,(zx5 h.2.1).1 h.2.2⟩,λh=>⟨h.1,h.2.1,(zx5 h.2.1).2 h.2.2⟩⟩
theorem find_ne{α:Type}{f:Nat→Option α}{n k:Nat}(hk:k<n)(h:f k≠none):(List.range n).findSome? f≠none:=by
 intro e
 rw [List.findSome?_eq_none_iff] at e
 exact h (e k (List.mem_range.2 hk))
/-- Where an order is good, the search goes on from each of its beginnings. -/
theorem fnd_go{l:List DtCall}{o:List Int}(ho:o.length=l.length)(hq:FitsQ l o):∀(d i:Nat),i+d=l.length→fndI l d (o.take i)≠none:=by
 intro d
 induction d with
 | zero =>
  intro i hi
  show resV l (o.take i) _≠none
  unfold resV
  have hall:allS l (o.take i)=true:=by
   refine zb4 λk hk=>?_
   rw [List.take_of_length_le (by omega)]
   exact ztm (good_nd hq) (zrj hq) ho k hk
  split
  ·simp
  ·rw [if_pos hall];simp
 | succ d ih =>
  intro i hi
  show resV l (o.take i) _≠none
  have hio:i<o.length:=by omega
  obtain ⟨h1,h2,h3,h4,h5⟩:=hq i hio
  obtain ⟨k,hk⟩:=Int.eq_ofNat_of_zero_le h1
  have ih2:=ih (i+1) (by omega)
  have e2:o.take (i+1)=o.take i++[(k:Int)]:=by rw [List.take_succ_eq_append_getElem hio,hk]
  rw [e2] at ih2 h4
  rw [hk] at h2 h3 h4 h5
  have hf:fndC l (o.take i) (λk=>fndI l d (o.take i++[(k:Int)])) k≠none:=by
   unfold fndC
   have hm:decB (MayP' l (o.take i) k)=true:=zb4 λj hj=>by
    by_cases g1:(j:Int)∈o.take i
    ·exact .inl g1
    ·by_cases g2:j=k
     ·exact .inr (.inl g2)
     ·refine .inr (.inr (h4 j hj ?_))
      simp only [List.mem_append,List.mem_singleton,not_or]
      exact ⟨g1,λe=>g2 (by omega)⟩
   rw [if_neg (by simp [h3,hm,h5])]
   simpa using ih2
  have:=find_ne (n:=l.length) (by omega) hf
  unfold resV
  split
  ·simp
  ·rename_i e;exact absurd e this
theorem zzc{l:List DtCall}{o:List Int}(h:fitB l o=true):(linI l).isSome=true:=by
 unfold fitB at h
 rw [zba] at h
 obtain ⟨h1,h2,h3⟩:=h
 unfold linI
 rw [if_pos (zb4 h1)]
 have:=fnd_go h2 h3 l.length 0 (by omega)
 simp only [List.take_zero] at this
 cases hf:fndI l l.length [] with
 | none=>exact absurd hf this
 | some r=>rfl
theorem zzd{l:List DtCall}{r:List Int}(h:linI l=some r):CallsP l∧r.length=l.length∧FitsP l r:=by
 unfold linI at h
 split at h
 ·rename_i hc
  rw [←zx6] at h
  obtain ⟨-,h2,h3⟩:=fitI_ok l _ _ _ h
  exact ⟨(zba _).mp hc,h2,λi=>h3 i (by simp)⟩
 ·cases h
theorem fit_lin(l:List DtCall):fitB l (optL (linI l))=(linI l).isSome:=by
 cases h:linI l with
 | none =>
  cases hf:fitB l (optL none) with
  | false=>rfl
  | true=>have:=zzc hf;rw [h] at this;cases this
 | some r =>
  rw [←ztr]
  exact zb4 (zzd h)
theorem lin_len{l:List DtCall}(h:(linI l).isSome=true):(optL (linI l)).length=l.length:=by
 obtain ⟨r,hr⟩:=Option.isSome_iff_exists.1 h
 rw [hr];exact (zzd hr).2.1
theorem lin_get{l:List DtCall}(h:0<(optL (linI l)).length):∃r,linI l=some r∧optL (linI l)=r:=by
 cases e:linI l with
 | none=>rw [e] at h;simp [optL] at h
 | some r=>exact ⟨r,rfl,rfl⟩
theorem lin_rng{l:List DtCall}{i:Nat}(hi:i<(optL (linI l)).length):∃a:Nat,(optL (linI l))[i]=(a:Int)∧a<l.length:=by
 obtain ⟨r,h,e⟩:=lin_get (l:=l) (by omega)
 simp only [e] at hi ⊢
 obtain ⟨h1,h2,-⟩:=(zzd h).2.2 i hi
 obtain ⟨a,ha⟩:=Int.eq_ofNat_of_zero_le h1
 exact ⟨a,ha,by rw [ha] at h2;omega⟩
theorem lin_late{l:List DtCall}{i j a b:Nat}(hi:i<(optL (linI l)).length)(hj:j<i)(ha:(optL (linI l))[i]=(a:Int))(hb:(optL (linI l))[j]=(b:Int))(hal:a<l.length)(hbl:b<l.length):¬l[a].fEnd<l[b].fStart:=by
 obtain ⟨r,h,e⟩:=lin_get (l:=l) (by omega)
 simp only [e] at hi ha hb
 obtain ⟨-,-,-,h4,-⟩:=(zzd h).2.2 i hi
 rw [List.any_eq_false] at h4
 have:=h4 r[j] (List.mem_iff_getElem.2 ⟨j,by simp;omega,by simp⟩)
 rw [ha,hb,zls (by simpa using hal) (by simpa using hbl)] at this
 simpa using this
end Go.Proofs.Ytodmafgmdlkhoaa.Vs
end
