import Derived.Test.YtodmafgmdlkhoaaDoorSM1
section
namespace Go.Proofs.YtodmafgmdlkhoaaDoor.Vs
set_option linter.all false
set_option maxRecDepth 100000
def SaidAt(l:List DtSaid)(i:Nat)(x:DtSaid):Prop:=1≤x.fClient∧x.fClient≤9∧1≤x.fNo∧x.fNo≤1000∧∀y,0<i→l[i-1]? = some y→y.fClient<x.fClient
def StateP(s:DtState):Prop:=CatP s.fCat∧∀(i:Nat) x,s.fSaid[i]? = some x→SaidAt s.fSaid i x
theorem zkg(s:DtState)(hs:DtState.sz s≤1048576):DtCatalog.sz s.fCat≤1048576∧s.fSaid.length≤1048576:=by
 have h0:=zb9 DtSaid.sz_nonneg s.fSaid
 have h1:=DtCatalog.sz_nonneg s.fCat
 simp only [DtState.sz,szS] at hs
 omega
def zG3:=And.intro @zcj (And.intro @gE (And.intro @tP (And.intro @zbk @zbl)))
def zG4:=And.intro @zbk @zbl
def zG5:=And.intro @zbr (And.intro @zbz @zce)
theorem zdz(s:DtState)(hs:DtState.sz s≤1048576):PCall Tryd.prog 11 [.agg (DtState.cells s)] (.g (.bool (decB (StateP s)))):=by
 have ⟨hz,hl⟩:=zkg s hs
 refine zbp Tryd.func11 (by rfl) (by rfl) (by rw [Tryd.ntmps11];exact Nat.le_of_ble_eq_true rfl) rfl (by decide) ?_
 rw [Tryd.ntmps11]
 refine AW_k [(0,_)] ⟨rfl,trivial⟩ ?_
 refine AW_r rfl rfl λK hK=>?_
 simp (disch:=omega) [zG3,DtState.cells,DtCatalog.cells,DtSaid.cells]
 refine hK _ ?_;clear hK K
 refine zbe ?_
 refine AW_r rfl rfl λK hK=>?_
 simp (disch:=omega) [zG3,DtState.cells,DtCatalog.cells,DtSaid.cells]
 repeat' first|(refine zci (zbf (zcn rfl) zbn) (zse _ (by omega)) rfl ?_;simp (disch:=omega) [zG3,DtState.cells,DtCatalog.cells,DtSaid.cells]) | fail
 refine hK _ ?_;clear hK K
 refine zbg rfl (λhc1=>?_) (λhc1=>?_)
 ·try simp [zG4,zbc,zba] at hc1
  refine AW_r rfl rfl λK hK=>?_
  simp (disch:=omega) [zG3,DtState.cells,DtCatalog.cells,DtSaid.cells]
  refine hK _ ?_;clear hK K
  refine zbo (zcc ?_)
  simp (disch:=omega) [zG3,DtState.cells,DtCatalog.cells,DtSaid.cells]
  grind [StateP,SaidAt]
 ·try simp [zG4,zbc,zba] at hc1
  refine zbh ?_
  refine zbm ?_
  refine zbe ?_
  refine AW_r rfl rfl λK hK=>?_
  simp (disch:=omega) [zG3,DtState.cells,DtCatalog.cells,DtSaid.cells]
  refine hK _ ?_;clear hK K
  refine zbi ?_
  refine zbt (λmM sS=>∃(i:Nat),mM=s.fSaid.length-i∧(i≤s.fSaid.length∧∀(j:Nat) x,j<i→s.fSaid[j]? = some x→SaidAt s.fSaid j x)∧sS = { env:=lkE [(1,.ptr 32 0),(3,(.g (.int .i64 ((i:Nat)))))],ob:=lk [(32,.cells (DtState.cells s))] }) ?_ ?_
  ·refine ⟨_,LeS.ko [(1,.ptr 32 0),(3,(.g (.int .i64 (((0):Nat)))))] [(32,.cells (DtState.cells s))] (by simp [KpE,zce,zbj,zbr,DtState.cells,DtCatalog.cells]) (by simp [zG5,KpO,zb5,DtState.cells,DtCatalog.cells]) (by rfl) (by simp) (by rfl),_,0,rfl,?_,rfl⟩
   ·simp
  ·rintro mM sS ⟨i,rfl,⟨hi,hpre⟩,rfl⟩
   refine zbe ?_
   refine AW_r rfl rfl λK hK=>?_
   simp (disch:=omega) [zG3,DtState.cells,DtCatalog.cells,DtSaid.cells]
   refine hK _ ?_;clear hK K
   refine zbg rfl (λhc2=>?_) (λhc2=>?_)
   ·try simp [zG4,zbc,zba] at hc2
    have hg:s.fSaid[i]? = some s.fSaid[i]:=List.getElem?_eq_getElem (by omega)
    have hg':s.fSaid[i-1]? = some s.fSaid[i-1]:=List.getElem?_eq_getElem (by omega)
    rcases Nat.eq_zero_or_pos i with hi0 | hi0
    all_goals
     refine zbh ?_
     refine zbm ?_
     refine zbe ?_
     refine zbi ?_
     refine AW_r rfl rfl λK hK=>?_
     simp (disch:=omega) [zG3,DtState.cells,DtCatalog.cells,DtSaid.cells]
     repeat' first|(refine ⟨by omega,?_⟩) | fail
     all_goals (refine hK _ ?_;clear hK K)
     all_goals
      refine AW_q rfl mix (by kernel_rfl) rfl λK hK=>?_
      simp (disch:=omega) [zG3,DtState.cells,DtCatalog.cells,DtSaid.cells]
      repeat' first|(exfalso;omega)|(refine zci (zbf zcb (zbf zcb (zbf zcb zbn))) (l1In _ _ _) rfl ?_;simp (disch:=omega) [zG3,DtState.cells,DtCatalog.cells,DtSaid.cells])|(refine ⟨λ_=>?_,λ_=>?_⟩)|(refine ⟨by omega,?_⟩)|(intro _)
      all_goals (refine hK _ ?_;clear hK K)
      all_goals
       refine zbg rfl (λhc3=>?_) (λhc3=>?_)
       ·try simp [zG4,zbc,zba] at hc3
        all_goals
         refine AW_r rfl rfl λK hK=>?_
         simp (disch:=omega) [zG3,DtState.cells,DtCatalog.cells,DtSaid.cells]
         all_goals (refine hK _ ?_;clear hK K)
         all_goals
          refine zbo (zcc ?_)
          simp (disch:=omega) [zG3,DtState.cells,DtCatalog.cells,DtSaid.cells]
          all_goals grind [StateP,SaidAt]
       ·try simp [zG4,zbc,zba] at hc3
        all_goals
         refine zbh ?_
         refine zbm ?_
         refine zc6 rfl rfl λK hK=>?_
         simp (disch:=omega) [zG3,DtState.cells,DtCatalog.cells,DtSaid.cells]
         all_goals (refine hK _ ?_;clear hK K)
         all_goals
          refine ⟨_,LeS.ko [(1,.ptr 32 0),(3,(.g (.int .i64 (((i+1):Nat)))))] [(32,.cells (DtState.cells s))] (by simp [KpE,zce,zbj,zbr,DtState.cells,DtCatalog.cells]) (by simp [zG5,KpO,zb5,DtState.cells,DtCatalog.cells]) (by rfl) (by simp) (by rfl),_,?_,i+1,rfl,?_,rfl⟩
          ·omega
          ·refine ⟨by omega,?_⟩;clear hg';grind [SaidAt]
   ·try simp [zG4,zbc,zba] at hc2
    refine zbw ?_
    refine zbm ?_
    refine AW_r rfl rfl λK hK=>?_
    simp (disch:=omega) [zG3,DtState.cells,DtCatalog.cells,DtSaid.cells]
    refine hK _ ?_;clear hK K
    refine zbo (zcc ?_)
    simp (disch:=omega) [zG3,DtState.cells,DtCatalog.cells,DtSaid.cells]
    grind [StateP,SaidAt]
theorem zgn(s:DtState)(hs:DtState.sz s≤1048576):PCall Tryd.prog 17 [.agg (DtState.cells s)] (.g (.bool (decB (StateP s)))):=by
 have ⟨hz,hl⟩:=zkg s hs
 refine zbp Tryd.func17 (by rfl) (by rfl) (by rw [Tryd.ntmps17];exact Nat.le_of_ble_eq_true rfl) rfl (by decide) ?_
 rw [Tryd.ntmps17]
 refine AW_k [(0,_)] ⟨rfl,trivial⟩ ?_
 refine AW_r rfl rfl λK hK=>?_
 simp (disch:=omega) [zG3,DtState.cells,DtCatalog.cells,DtSaid.cells]
 refine hK _ ?_;clear hK K
 refine zbe ?_
 refine AW_r rfl rfl λK hK=>?_
 simp (disch:=omega) [zG3,DtState.cells,DtCatalog.cells,DtSaid.cells]
 refine hK _ ?_;clear hK K
 refine zbi ?_
 refine zbt (λmM sS=>∃(i:Nat),mM=s.fSaid.length-i∧(i≤s.fSaid.length∧∀(j:Nat) x,j<i→s.fSaid[j]? = some x→SaidAt s.fSaid j x)∧sS = { env:=lkE [(1,.ptr 32 0),(6,.sl 3 (s.fSaid.map DtSaid.cells)),(7,(.g (.int .i64 ((s.fSaid.length:Nat))))),(8,(.g (.int .i64 ((i:Nat)))))],ob:=lk [(32,.cells (DtState.cells s))] }) ?_ ?_
 ·refine ⟨_,LeS.ko [(1,.ptr 32 0),(6,.sl 3 (s.fSaid.map DtSaid.cells)),(7,(.g (.int .i64 ((s.fSaid.length:Nat))))),(8,(.g (.int .i64 (((0):Nat)))))] [(32,.cells (DtState.cells s))] (by simp [KpE,zce,zbj,zbr,DtState.cells,DtCatalog.cells]) (by simp [zG5,KpO,zb5,DtState.cells,DtCatalog.cells]) (by rfl) (by simp) (by rfl),_,0,rfl,?_,rfl⟩
  ·simp
 ·rintro mM sS ⟨i,rfl,⟨hi,hpre⟩,rfl⟩
  refine AW_r rfl rfl λK hK=>?_
  simp (disch:=omega) [zG3,DtState.cells,DtCatalog.cells,DtSaid.cells]
  refine hK _ ?_;clear hK K
  refine zbe ?_
  refine zbg rfl (λhc4=>?_) (λhc4=>?_)
  ·try simp [zG4,zbc,zba] at hc4
   have hg:s.fSaid[i]? = some s.fSaid[i]:=List.getElem?_eq_getElem (by omega)
   have hg':s.fSaid[i-1]? = some s.fSaid[i-1]:=List.getElem?_eq_getElem (by omega)
   rcases Nat.eq_zero_or_pos i with hi0 | hi0
   all_goals
    refine zbh ?_
    refine zbm ?_
    refine zbe ?_
    refine zbi ?_
    refine AW_r rfl rfl λK hK=>?_
    simp (disch:=omega) [zG3,DtState.cells,DtCatalog.cells,DtSaid.cells]
    repeat' first|(refine ⟨by omega,?_⟩) | fail
    all_goals (refine hK _ ?_;clear hK K)
    all_goals
     refine AW_q rfl mix (by kernel_rfl) rfl λK hK=>?_
     simp (disch:=omega) [zG3,DtState.cells,DtCatalog.cells,DtSaid.cells]
     repeat' first|(exfalso;omega)|(refine zci (zbf zcb (zbf zcb (zbf zcb zbn))) (zn4 _ _ _) rfl ?_;simp (disch:=omega) [zG3,DtState.cells,DtCatalog.cells,DtSaid.cells])|(refine ⟨λ_=>?_,λ_=>?_⟩)|(refine ⟨by omega,?_⟩)|(intro _)
     all_goals (refine hK _ ?_;clear hK K)
     all_goals
      refine zbg rfl (λhc5=>?_) (λhc5=>?_)
      ·try simp [zG4,zbc,zba] at hc5
       all_goals
        refine AW_r rfl rfl λK hK=>?_
        simp (disch:=omega) [zG3,DtState.cells,DtCatalog.cells,DtSaid.cells]
        all_goals (refine hK _ ?_;clear hK K)
        all_goals
         refine zbo (zcc ?_)
         simp (disch:=omega) [zG3,DtState.cells,DtCatalog.cells,DtSaid.cells]
         all_goals grind [StateP,SaidAt]
      ·try simp [zG4,zbc,zba] at hc5
       all_goals
        refine zbh ?_
        refine zbm ?_
        refine zc6 rfl rfl λK hK=>?_
        simp (disch:=omega) [zG3,DtState.cells,DtCatalog.cells,DtSaid.cells]
        all_goals (refine hK _ ?_;clear hK K)
        all_goals
         refine ⟨_,LeS.ko [(1,.ptr 32 0),(6,.sl 3 (s.fSaid.map DtSaid.cells)),(7,(.g (.int .i64 ((s.fSaid.length:Nat))))),(8,(.g (.int .i64 (((i+1):Nat)))))] [(32,.cells (DtState.cells s))] (by simp [KpE,zce,zbj,zbr,DtState.cells,DtCatalog.cells]) (by simp [zG5,KpO,zb5,DtState.cells,DtCatalog.cells]) (by rfl) (by simp) (by rfl),_,?_,i+1,rfl,?_,rfl⟩
         ·omega
         ·refine ⟨by omega,?_⟩;clear hg';grind [SaidAt]
  ·try simp [zG4,zbc,zba] at hc4
   refine zbw ?_
   refine zbm ?_
   refine AW_r rfl rfl λK hK=>?_
   simp (disch:=omega) [zG3,DtState.cells,DtCatalog.cells,DtSaid.cells]
   repeat' first|(refine zci (zbf (zcn rfl) zbn) (implCatOk _ (by omega)) rfl ?_;simp (disch:=omega) [zG3,DtState.cells,DtCatalog.cells,DtSaid.cells]) | fail
   refine hK _ ?_;clear hK K
   refine zbo (zcc ?_)
   simp (disch:=omega) [zG3,DtState.cells,DtCatalog.cells,DtSaid.cells]
   grind [StateP,SaidAt]
end Go.Proofs.YtodmafgmdlkhoaaDoor.Vs
end
section
namespace Go.Proofs.YtodmafgmdlkhoaaDoor.Vs
set_option linter.all false
set_option maxRecDepth 100000
attribute [local simp] List.range_succ
end Go.Proofs.YtodmafgmdlkhoaaDoor.Vs
end
section
namespace Go.Proofs.YtodmafgmdlkhoaaDoor.Vs
set_option linter.all false
set_option maxRecDepth 100000
def CatB(c:DtCatalog):Prop:=c.fSets.length≤1048576∧(∀i (h:i<c.fSets.length),c.fSets[i].fSnaps.length≤1048576)∧∀i (h:i<c.fSets.length) k (h2:k<c.fSets[i].fSnaps.length),c.fSets[i].fSnaps[k].fChunks.length≤1048576
theorem catB_of(c:DtCatalog)(hs:DtCatalog.sz c≤1048576):CatB c:=by
 have h0:=zb9 DtCSet.sz_nonneg c.fSets
 simp only [DtCatalog.sz,szS] at hs
 refine ⟨by omega,λi h=>?_,λi h k h2=>?_⟩
 ·have h1:=zda DtCSet.sz_nonneg c.fSets c.fSets[i] (List.getElem_mem _)
  have h2:=zb9 DtCSnap.sz_nonneg c.fSets[i].fSnaps
  simp only [DtCSet.sz,szS] at h1
  omega
 ·have h1:=zda DtCSet.sz_nonneg c.fSets c.fSets[i] (List.getElem_mem _)
  have h3:=zda DtCSnap.sz_nonneg c.fSets[i].fSnaps c.fSets[i].fSnaps[k] (List.getElem_mem _)
  have h4:=zb9 zc9 c.fSets[i].fSnaps[k].fChunks
  simp only [DtCSet.sz,szS] at h1
  simp only [DtCSnap.sz,szS] at h3
  omega
theorem tkm_s{α β:Type}(f:α→β)(l:List α)(i:Nat)(h:i<l.length):List.take (i+1) (l.map f)=List.take i (l.map f)++[f l[i]]:=by
 rw [List.take_succ_eq_append_getElem (by simpa using h)];simp
attribute [local simp] DtCatalog.cells DtCSet.cells DtCSnap.cells zbv
theorem zw5(c:DtCatalog)(hb:CatB c):XCall Tryd.prog 75 [.agg (DtCatalog.cells c)] [] (.agg [.arr 16 0 c.fSets.length]) [] [.own 2 (c.fSets.map DtCSet.cells)]:=by
 obtain ⟨hb1,hb2,hb3⟩:=hb
 refine zbq Tryd.func75 (by rfl) (by rfl) (by rw [Tryd.ntmps75];exact Nat.le_of_ble_eq_true rfl) rfl (by simp) rfl rfl ?_
 rw [Tryd.ntmps75]
 refine zdk   ?_
 refine AW_k [(0,_)] ⟨rfl,trivial⟩ ?_
 refine AW_x rfl rfl λK hK=>?_
 simp (disch:=omega)
 refine hK _ ?_;clear hK K
 refine AW_x rfl rfl λK hK=>?_
 simp (disch:=omega)
 refine hK _ ?_;clear hK K
 refine zbe ?_
 refine AW_x rfl rfl λK hK=>?_
 simp (disch:=omega)
 refine hK _ ?_;clear hK K
 refine zbi ?_
 refine zbt (λmM sS=>∃(i:Nat),mM=c.fSets.length-i∧(i≤c.fSets.length)∧sS = { env:=lkE [(1,.ptr 32 0),(2,.ptr 48 0),(3,.ptr 64 0),(4,(.g (.int .i64 ((i:Nat)))))],ob:=lk [(32,.cells (DtCatalog.cells c)),(48,.cells [.g (.slice none 0 0)]),(64,.cells [.arr 500 0 i]),(500,.own 2 ((c.fSets.take i).map DtCSet.cells))] }) ?_ ?_
 ·refine ⟨_,LeS.trans (LeS.znc (cs:=[.g (.slice none 0 0)]) 500 2 64 0 (by simp [zG5,zbj]) (by simp [zG5,zbj,DtCatalog.cells,DtCSet.cells]) (by rfl)) (LeS.kx [(32,32),(48,48),(64,64),(500,500)] [(1,.ptr 32 0),(2,.ptr 48 0),(3,.ptr 64 0),(4,(.g (.int .i64 (((0):Nat)))))] [(32,.cells (DtCatalog.cells c)),(48,.cells [.g (.slice none 0 0)]),(64,.cells [.arr 500 0 (0)]),(500,.own 2 ((c.fSets.take (0)).map DtCSet.cells))] (by simp [zG5,KpR,renV2,renV,zbj,DtCatalog.cells,DtCSet.cells]) (by simp [zG5,KpOX,renO,plO,cvO,renV,pl1,DtCatalog.cells,DtCSet.cells]) (by rfl) (by simp) (by simp) (by rfl) (by simp [formsX,List.range_succ,zbr,zbz])),_,0,rfl,?_,rfl⟩
  ·simp
 ·rintro mM sS ⟨i,rfl,hi,rfl⟩
  refine zbe ?_
  refine AW_x rfl rfl λK hK=>?_
  simp (disch:=omega)
  refine hK _ ?_;clear hK K
  refine zbg rfl (λhc1=>?_) (λhc1=>?_)
  ·try simp at hc1
   have hn2:=hb2 i (by omega)
   have htk:=tkm_s DtCSet.cells c.fSets i (by omega)
   refine zbh ?_
   refine zbm ?_
   refine zbe ?_
   refine zbi ?_
   refine AW_x rfl rfl λK hK=>?_
   simp (disch:=omega)
   repeat' first|(refine ⟨by omega,?_⟩) | fail
   refine hK _ ?_;clear hK K
   refine zbe ?_
   refine AW_x rfl rfl λK hK=>?_
   simp (disch:=omega)
   refine hK _ ?_;clear hK K
   refine zbi ?_
   refine zbt (λmM sS=>∃(j:Nat),mM=c.fSets[i].fSnaps.length-j∧(j≤c.fSets[i].fSnaps.length)∧sS = { env:=lkE [(1,.ptr 32 0),(2,.ptr 48 0),(3,.ptr 64 0),(4,(.g (.int .i64 ((i:Nat))))),(5,.ptr 96 0),(6,(.g (.int .i64 ((j:Nat)))))],ob:=lk [(32,.cells (DtCatalog.cells c)),(48,.cells [.g (.slice none 0 0)]),(64,.cells [.arr 500 0 i]),(500,.own 2 ((c.fSets.take i).map DtCSet.cells)),(96,.cells [.s c.fSets[i].fName,.arr 501 0 j]),(501,.own 3 ((c.fSets[i].fSnaps.take j).map DtCSnap.cells))] }) ?_ ?_
   ·refine ⟨_,LeS.trans (LeS.znc (cs:=[.s c.fSets[i].fName,.g (.slice none 0 0)]) 501 3 96 1 (by simp [zG5,zbj]) (by simp [zG5,zbj,DtCatalog.cells,DtCSet.cells,DtCSnap.cells]) (by rfl)) (LeS.kx [(32,32),(48,48),(64,64),(500,500),(96,96),(501,501)] [(1,.ptr 32 0),(2,.ptr 48 0),(3,.ptr 64 0),(4,(.g (.int .i64 ((i:Nat))))),(5,.ptr 96 0),(6,(.g (.int .i64 (((0):Nat)))))] [(32,.cells (DtCatalog.cells c)),(48,.cells [.g (.slice none 0 0)]),(64,.cells [.arr 500 0 i]),(500,.own 2 ((c.fSets.take i).map DtCSet.cells)),(96,.cells [.s c.fSets[i].fName,.arr 501 0 (0)]),(501,.own 3 ((c.fSets[i].fSnaps.take (0)).map DtCSnap.cells))] (by simp [zG5,KpR,renV2,renV,zbj,DtCatalog.cells,DtCSet.cells,DtCSnap.cells]) (by simp [zG5,KpOX,renO,plO,cvO,renV,pl1,DtCatalog.cells,DtCSet.cells,DtCSnap.cells]) (by rfl) (by simp) (by simp) (by rfl) (by simp [formsX,List.range_succ,zbr,zbz])),_,0,rfl,?_,rfl⟩
    ·simp
   ·rintro mM sS ⟨j,rfl,hj,rfl⟩
    refine zbe ?_
    refine AW_x rfl rfl λK hK=>?_
    simp (disch:=omega)
    repeat' first|(refine ⟨by omega,?_⟩) | fail
    refine hK _ ?_;clear hK K
    refine zbg rfl (λhc2=>?_) (λhc2=>?_)
    ·try simp at hc2
     have hn3:=hb3 i (by omega) j (by omega)
     have htk2:=tkm_s DtCSnap.cells c.fSets[i].fSnaps j (by omega)
     refine zbh ?_
     refine zbm ?_
     refine zbe ?_
     refine zbi ?_
     refine AW_x rfl rfl λK hK=>?_
     simp (disch:=omega)
     repeat' first|(refine ⟨by omega,?_⟩) | fail
     refine hK _ ?_;clear hK K
     refine AW_x rfl rfl λK hK=>?_
     simp (disch:=omega)
     repeat' first|(refine ⟨by omega,?_⟩) | fail
     refine hK _ ?_;clear hK K
     refine zb4 rfl rfl λK hK=>?_
     simp (disch:=omega)
     repeat' first|(refine ⟨by omega,?_⟩)|(simp (disch:=omega))
     refine hK _ ?_;clear hK K
     refine zbm ?_
     refine zb4 rfl rfl λK hK=>?_
     simp (disch:=omega)
     refine hK _ ?_;clear hK K
     refine ⟨_,LeS.kx [(32,32),(48,48),(64,64),(500,500),(96,96),(501,848)] [(1,.ptr 32 0),(2,.ptr 48 0),(3,.ptr 64 0),(4,(.g (.int .i64 ((i:Nat))))),(5,.ptr 96 0),(6,(.g (.int .i64 (((j+1):Nat)))))] [(32,.cells (DtCatalog.cells c)),(48,.cells [.g (.slice none 0 0)]),(64,.cells [.arr 500 0 i]),(500,.own 2 ((c.fSets.take i).map DtCSet.cells)),(96,.cells [.s c.fSets[i].fName,.arr 501 0 (j+1)]),(501,.own 3 ((c.fSets[i].fSnaps.take (j+1)).map DtCSnap.cells))] (by simp [zG5,KpR,renV2,renV,zbj,DtCatalog.cells,DtCSet.cells,DtCSnap.cells]) (by simp [zG5,KpOX,renO,plO,cvO,renV,pl1,DtCatalog.cells,DtCSet.cells,DtCSnap.cells];try ((rw [htk2];rfl))) (by rfl) (by simp) (by simp) (by rfl) (by simp [formsX,List.range_succ,zbr,zbz]),_,?_,j+1,rfl,?_,rfl⟩
     ·omega
     ·omega
    try simp at hc2
    have hj2:j=c.fSets[i].fSnaps.length:=by omega
    subst hj2
    refine zbw ?_
    refine zbm ?_
    refine zb4 rfl rfl λK hK=>?_
    simp (disch:=omega)
    repeat' first|(refine ⟨by omega,?_⟩)|(simp (disch:=omega))
    refine hK _ ?_;clear hK K
    refine zbm ?_
    refine zb4 rfl rfl λK hK=>?_
    simp (disch:=omega)
    refine hK _ ?_;clear hK K
    refine ⟨_,LeS.kx [(32,32),(48,48),(64,64),(500,944)] [(1,.ptr 32 0),(2,.ptr 48 0),(3,.ptr 64 0),(4,(.g (.int .i64 (((i+1):Nat)))))] [(32,.cells (DtCatalog.cells c)),(48,.cells [.g (.slice none 0 0)]),(64,.cells [.arr 500 0 (i+1)]),(500,.own 2 ((c.fSets.take (i+1)).map DtCSet.cells))] (by simp [zG5,KpR,renV2,renV,zbj,DtCatalog.cells,DtCSet.cells]) (by simp [zG5,KpOX,renO,plO,cvO,renV,pl1,DtCatalog.cells,DtCSet.cells];try ((rw [htk];rfl))) (by rfl) (by simp) (by simp) (by rfl) (by simp [formsX,List.range_succ,zbr,zbz]),_,?_,i+1,rfl,?_,rfl⟩
    ·omega
    ·omega
  try simp at hc1
  refine zbw ?_
  refine zbm ?_
  refine AW_x rfl rfl λK hK=>?_
  simp (disch:=omega)
  refine hK _ ?_;clear hK K
  refine zbo (zb7 [500] [] (by simp [zG5,List.range_succ]) (by simp) ?_)
  simp (disch:=omega)
  omega
end Go.Proofs.YtodmafgmdlkhoaaDoor.Vs
end
section
namespace Go.Proofs.YtodmafgmdlkhoaaDoor.Vs
set_option linter.all false
set_option maxRecDepth 100000
noncomputable def findS(l:List DtCSet)(name:List UInt8):Int:=idxZ (λp=>eqB p.fName name) l
attribute [local simp] DtCSet.cells
attribute [local simp] DtCatalog.cells
attribute [-simp] DtCSet.cells
theorem l15At(c:DtCatalog)(name:List UInt8)(hs:c.fSets.length≤1048576):PCall Tryd.prog 79 [.agg (DtCatalog.cells c),.s name] (.g (.int .i64 (findS c.fSets name))):=by
 refine zbp Tryd.func79 (by rfl) (by rfl) (by rw [Tryd.ntmps79];exact Nat.le_of_ble_eq_true rfl) rfl (by decide) ?_
 rw [Tryd.ntmps79]
 refine AW_k [(0,_),(1,_)] ⟨rfl,rfl,trivial⟩ ?_
 refine AW_r rfl rfl λK hK=>?_
 simp (disch:=omega) [DtCatalog.cells]
 refine hK _ ?_;clear hK K
 refine zbe ?_
 refine AW_r rfl rfl λK hK=>?_
 simp (disch:=omega) [DtCatalog.cells]
 refine hK _ ?_;clear hK K
 refine zbi ?_
 refine zbt (λmM sS=>∃(i:Nat),mM=c.fSets.length-i∧(i≤c.fSets.length∧∀j x,j<i→c.fSets[j]? = some x→eqB x.fName name=false)∧sS = { env:=lkE [(1,.s name),(2,.ptr 48 0),(5,(.g (.int .i64 ((i:Nat)))))],ob:=upd (formOb [] []) 48 (some (.cells (DtCatalog.cells c))) }) ?_ ?_
 ·refine ⟨_,LeS.kp [(1,.s name),(2,.ptr 48 0),(5,(.g (.int .i64 (((0):Nat)))))] (by simp [KpE,zce,zbj,zbr]),_,0,rfl,?_,rfl⟩
  ·simp
 ·rintro mM sS ⟨i,rfl,⟨hi,hpre⟩,rfl⟩
  refine zbe ?_
  refine AW_r rfl rfl λK hK=>?_
  simp (disch:=omega) [DtCatalog.cells,DtCSet.cells]
  refine hK _ ?_;clear hK K
  refine zbg rfl (λhc1=>?_) (λhc1=>?_)
  ·try simp [zG4,zbc,zba] at hc1
   have hg:c.fSets[i]? = some c.fSets[i]:=List.getElem?_eq_getElem (by omega)
   refine zbh ?_
   refine zbm ?_
   refine zbe ?_
   refine zbi ?_
   refine AW_r rfl rfl λK hK=>?_
   simp (disch:=omega) [DtCatalog.cells,DtCSet.cells]
   repeat' first|(refine ⟨by omega,?_⟩) | fail
   refine hK _ ?_;clear hK K
   refine zbg rfl (λhc2=>?_) (λhc2=>?_)
   ·try simp [zG4,zbc,zba] at hc2
    refine AW_r rfl rfl λK hK=>?_
    simp (disch:=omega) [DtCatalog.cells,DtCSet.cells]
    refine hK _ ?_;clear hK K
    refine zbo (zcc ?_)
    simp (disch:=omega) [DtCatalog.cells,DtCSet.cells]
    (unfold findS;rw [zgc (by assumption) (by simp_all [zbc]) hpre];done)
   try simp [zG4,zbc,zba] at hc2
   refine zbh ?_
   refine zbm ?_
   refine zc6 rfl rfl λK hK=>?_
   simp (disch:=omega) [DtCatalog.cells,DtCSet.cells]
   refine hK _ ?_;clear hK K
   refine ⟨_,LeS.kp [(1,.s name),(2,.ptr 48 0),(5,(.g (.int .i64 (((i+1):Nat)))))] (by simp [KpE,zce,zbj,zbr]),_,?_,i+1,rfl,?_,rfl⟩
   ·omega
   ·refine ⟨by omega,?_⟩;grind [zba]
  try simp [zG4,zbc,zba] at hc1
  refine zbw ?_
  refine zbm ?_
  refine AW_r rfl rfl λK hK=>?_
  simp (disch:=omega) [DtCatalog.cells,DtCSet.cells]
  refine hK _ ?_;clear hK K
  refine zbo (zcc ?_)
  simp (disch:=omega) [DtCatalog.cells,DtCSet.cells]
  (unfold findS;exact zmj (λj x h=>hpre j x (by omega)))
attribute [local simp] cS
attribute [-simp] DtCatalog.cells
def spc:List (List UInt8)→List UInt8
 | []=>[]
 | x :: l=>x++l.flatMap (λt=>32 :: t)
theorem spc_snoc(l:List (List UInt8))(x:List UInt8):spc (l++[x])=if l=[] then x else spc l++(32 :: x):=by
 cases l with
 | nil=>simp [spc]
 | cons y l=>simp [spc]
theorem zqb(l:List (List UInt8))(i:Nat)(h:i<l.length):spc (l.take (i+1))=if i=0 then l[i] else spc (l.take i)++(32 :: l[i]):=by
 rw [List.take_succ_eq_append_getElem h,spc_snoc]
 cases i with
 | zero=>simp
 | succ i =>
  have:l.take (i+1)≠[]:=by
   intro e
   have h2:(l.take (i+1)).length=i+1:=by rw [List.length_take];omega
   rw [e] at h2;simp at h2
  rw [if_neg this,if_neg (by omega)]
theorem spc_pre(l:List (List UInt8))(i:Nat):(spc (l.take i)).length≤(spc l).length:=by
 cases l with
 | nil=>simp
 | cons x l =>
  cases i with
  | zero=>simp [spc]
  | succ i =>
   rw [List.take_succ_cons]
   show (x++(l.take i).flatMap _).length≤(x++l.flatMap _).length
   have e:l.flatMap (λt=>(32:UInt8) :: t)=(l.take i).flatMap (λt=>32 :: t)++(l.drop i).flatMap (λt=>32 :: t):=by rw [←List.flatMap_append,List.take_append_drop]
   rw [e];simp
theorem spc_bd(l:List (List UInt8))(i:Nat)(h:i<l.length)(hb:(spc l).length≤1073741824):(spc (l.take i)).length+l[i].length≤1073741824∧(0<i→(spc (l.take i)).length+1+l[i].length≤1073741824):=by
 have h1:=spc_pre l (i+1)
 rw [zqb l i h] at h1
 split at h1
 ·rename_i h0;subst h0;simp [spc];omega
 ·simp at h1;omega
end Go.Proofs.YtodmafgmdlkhoaaDoor.Vs
end
section
namespace Go.Proofs.YtodmafgmdlkhoaaDoor.Vs
set_option linter.all false
set_option maxRecDepth 100000
abbrev SetV:=DtCSet × (Nat→Value)
abbrev SnapV:=DtCSnap × (Nat→Value)
def setV(z:SetV):List AV:=ux z.2 0 (DtCSet.cells z.1)
def setP(z:SetV):List (AV × Value):=pkc z.2 0 (DtCSet.cells z.1)
def snapV(z:SnapV):List AV:=ux z.2 0 (DtCSnap.cells z.1)
def snapP(z:SnapV):List (AV × Value):=pkc z.2 0 (DtCSnap.cells z.1)
theorem zgt(z:SetV):setV z=[.s z.1.fName,.g (z.2 1)]:=rfl
theorem setP_c(z:SetV):setP z=[(.sl 3 (z.1.fSnaps.map DtCSnap.cells),z.2 1)]:=rfl
theorem zdc(z:SnapV):snapV z=[.s z.1.fName,.s z.1.fTag,.g (z.2 2)]:=rfl
theorem zdu(zs:List SetV):scR (zs.map setV)=true:=zd8 _ (λ_=>rfl) zs
theorem zcw(zs:List SnapV):scR (zs.map snapV)=true:=zd8 _ (λ_=>rfl) zs
section
variable {nt:Nat}{fs:List Nat}{Q:AExit→St→Prop}{st:St}{c:Go.Code}
theorem zhx(n pk:Nat){us:List DtCSet}(hob:st.ob n=some (.own 2 (us.map DtCSet.cells)))(hpk:st.ob pk=none)
 (h:∀zs:List SetV,zs.map (·.1)=us→(∀z∈zs,∀j,(z.2 j).oneCell'=true)→AW Tryd.prog nt fs c Q { st with ob:=upd (upd st.ob pk (some (.park (zs.flatMap setP)))) n (some (.win 2 (zs.map setV))) }):AW Tryd.prog nt fs c Q st :=
 zwy DtCSet.cells n pk hob hpk h
theorem zqc(n pk:Nat){ks zs:List SetV}(hn:st.ob n=some (.win 2 (ks.map setV)))(hpk:st.ob pk=some (.park (zs.flatMap setP)))(hs:ks.Sublist zs):LeS fs st { st with ob:=upd (upd st.ob pk (some .dead)) n (some (.own 2 (ks.map λz=>DtCSet.cells z.1))) } :=
 LeS.join DtCSet.cells (λ_=>rfl) n pk hn hpk hs
theorem zks(n pk:Nat){us:List DtCSnap}(hob:st.ob n=some (.own 3 (us.map DtCSnap.cells)))(hpk:st.ob pk=none)
 (h:∀zs:List SnapV,zs.map (·.1)=us→(∀z∈zs,∀j,(z.2 j).oneCell'=true)→AW Tryd.prog nt fs c Q { st with ob:=upd (upd st.ob pk (some (.park (zs.flatMap snapP)))) n (some (.win 3 (zs.map snapV))) }):AW Tryd.prog nt fs c Q st :=
 zwy DtCSnap.cells n pk hob hpk h
theorem zw6(n pk:Nat){ks zs:List SnapV}(hn:st.ob n=some (.win 3 (ks.map snapV)))(hpk:st.ob pk=some (.park (zs.flatMap snapP)))(hs:ks.Sublist zs):LeS fs st { st with ob:=upd (upd st.ob pk (some .dead)) n (some (.own 3 (ks.map λz=>DtCSnap.cells z.1))) } :=
 LeS.join DtCSnap.cells (λ_=>rfl) n pk hn hpk hs
theorem fm_at{α β:Type}(g:α→List β)(l:List α)(k:Nat)(h:k<l.length):l.flatMap g=(l.take k).flatMap g++(g l[k]++(l.drop (k+1)).flatMap g):=by
 rw [←List.flatMap_cons,←List.flatMap_append]
 congr 1
 rw [List.getElem_cons_drop,List.take_append_drop]
theorem set_split{α:Type}(l:List α)(k:Nat)(x:α)(h:k<l.length):l.set k x=l.take k++x :: l.drop (k+1):=List.set_eq_take_append_cons_drop.trans (by rw [if_pos h])
/-- The row of the k-th set gets a name. -/
theorem zzy(n pk S k:Nat){l:List DtCSet}(hk:k<l.length)(hob:st.ob n=some (.own 2 (l.map DtCSet.cells)))(hpk:st.ob pk=none)(hS:st.ob S=none)(h1:n≠S)(h2:pk≠S)(h3:n≠pk)
 (h:∀zs:List SetV,zs.map (·.1)=l→AW Tryd.prog nt fs c Q { st with ob:=upd (upd (upd st.ob S (some (.own 3 (l[k].fSnaps.map DtCSnap.cells)))) pk (some (.park ((zs.take k).flatMap setP++(zs.drop (k+1)).flatMap setP)))) n (some (.win 2 ((zs.map setV).set k [.s l[k].fName,.arr S 0 l[k].fSnaps.length]))) }):AW Tryd.prog nt fs c Q st:=by
 refine zhx n pk hob hpk λzs hz _=>?_
 have hzl:zs.length=l.length:=by rw [←hz];simp
 have hkz:k<zs.length:=by omega
 have hzk:zs[k].1=l[k]:=by
  have:(zs.map (·.1))[k]'(by simpa using hkz)=l[k]:=by simp only [hz]
  simpa using this
 have hp:zs.flatMap setP=(zs.take k).flatMap setP++(AV.sl 3 (l[k].fSnaps.map DtCSnap.cells),zs[k].2 1) :: (zs.drop (k+1)).flatMap setP:=by
  rw [fm_at setP zs k hkz,setP_c,hzk];rfl
 refine zgl (LeS.unpark (s:=3) (ys:=l[k].fSnaps.map DtCSnap.cells) (v:=zs[k].2 1) (k:=k) (j:=1) (x:=setV zs[k]) (xs:=zs.map setV) (ps1:=(zs.take k).flatMap setP) (ps2:=(zs.drop (k+1)).flatMap setP) (sz:=2) n pk S (zbd _ _ _) ?_ ?_ (by simp [hkz]) (by simp [zgt])) ?_
 ·show upd (upd st.ob pk _) n _ pk=_
  rw [zbb _ _ (Ne.symm h3),zbd,hp]
 ·show upd (upd st.ob pk _) n _ S=none
  rw [zbb _ _ (Ne.symm h1),zbb _ _ (Ne.symm h2)];exact hS
 ·have hh:=h zs hz
  have e:upd (upd (upd (upd (upd st.ob pk (some (OB.park (zs.flatMap setP)))) n (some (OB.win 2 (zs.map setV)))) S (some (OB.own 3 (l[k].fSnaps.map DtCSnap.cells)))) pk (some (OB.park ((zs.take k).flatMap setP++(zs.drop (k+1)).flatMap setP)))) n (some (OB.win 2 ((zs.map setV).set k ((setV zs[k]).set 1 (.arr S 0 (l[k].fSnaps.map DtCSnap.cells).length))))) =
   upd (upd (upd st.ob S (some (.own 3 (l[k].fSnaps.map DtCSnap.cells)))) pk (some (.park ((zs.take k).flatMap setP++(zs.drop (k+1)).flatMap setP)))) n (some (.win 2 ((zs.map setV).set k [.s l[k].fName,.arr S 0 l[k].fSnaps.length]))):=by
   funext m
   by_cases e1:m=n
   ·subst e1;rw [zbd,zbd,zgt,hzk];simp
   ·rw [zbb _ _ e1,zbb _ _ e1]
    by_cases e2:m=pk
    ·subst e2;rw [zbd,zbd]
    ·rw [zbb _ _ e2,zbb _ _ e2]
     by_cases e3:m=S
     ·subst e3;rw [zbd,zbd]
     ·rw [zbb _ _ e3,zbb _ _ e3,zbb _ _ e1,zbb _ _ e2]
  show AW Tryd.prog nt fs c Q { env:=st.env,ob:=_ }
  rw [e];exact hh
/-- .. and goes back. -/
theorem zdd(n pk S k:Nat){l:List DtCSet}{zs:List SetV}(hz:zs.map (·.1)=l)(hk:k<l.length)(nm:List UInt8)(sn:List DtCSnap)(hn:st.ob n=some (.win 2 ((zs.map setV).set k [.s nm,.arr S 0 sn.length])))(hp:st.ob pk=some (.park ((zs.take k).flatMap setP++(zs.drop (k+1)).flatMap setP)))(hS:st.ob S=some (.own 3 (sn.map DtCSnap.cells)))(h1:n≠S)(h2:pk≠S)(h3:n≠pk)
 (h:AW Tryd.prog nt fs c Q { st with ob:=upd (upd (upd st.ob S (some .dead)) pk (some .dead)) n (some (.own 2 ((l.set k { fName:=nm,fSnaps:=sn }).map DtCSet.cells))) }):AW Tryd.prog nt fs c Q st:=by
 have hzl:zs.length=l.length:=by rw [←hz];simp
 have hkz:k<zs.length:=by omega
 refine AW_repark (s:=3) (sz:=2) (k:=k) (j:=1) (x:=[.s nm,.arr S 0 sn.length]) n pk S hn hp hS (by simp [hkz]) (by simp) λv hv=>?_
 let z':SetV:=({ fName:=nm,fSnaps:=sn },λ_=>v)
 have e1:((zs.map setV).set k [.s nm,.arr S 0 sn.length]).set k ([AV.s nm,.arr S 0 sn.length].set 1 (.g v))=(zs.set k z').map setV:=by
  rw [List.set_set,List.map_set];rfl
 have e2:(zs.take k).flatMap setP++(AV.sl 3 (sn.map DtCSnap.cells),v) :: (zs.drop (k+1)).flatMap setP=(zs.set k z').flatMap setP:=by
  rw [set_split zs k z' hkz,List.flatMap_append,List.flatMap_cons];rfl
 rw [e1,e2]
 refine zgl (zqc (ks:=zs.set k z') (zs:=zs.set k z') n pk (zbd _ _ _) ?_ (List.Sublist.refl _)) ?_
 ·show upd (upd _ pk _) n _ pk=_
  rw [zbb _ _ (Ne.symm h3),zbd]
 ·have e3 : ((zs.set k z').map fun z => DtCSet.cells z.1) = (l.set k { fName := nm, fSnaps := sn }).map DtCSet.cells := by
   rw [←hz,←List.map_set (f:=(·.1)) (l:=zs) (i:=k) (a:=z'),List.map_map];rfl
  rw [e3]
  have e:upd (upd (upd (upd (upd st.ob S (some OB.dead)) pk (some (OB.park ((zs.set k z').flatMap setP)))) n (some (OB.win 2 ((zs.set k z').map setV)))) pk (some OB.dead)) n (some (OB.own 2 ((l.set k { fName:=nm,fSnaps:=sn }).map DtCSet.cells))) =
   upd (upd (upd st.ob S (some .dead)) pk (some .dead)) n (some (.own 2 ((l.set k { fName:=nm,fSnaps:=sn }).map DtCSet.cells))):=by
   funext m
   by_cases e1:m=n
   ·subst e1;rw [zbd,zbd]
   ·rw [zbb _ _ e1,zbb _ _ e1]
    by_cases e2:m=pk
    ·subst e2;rw [zbd,zbd]
    ·rw [zbb _ _ e2,zbb _ _ e2,zbb _ _ e1,zbb _ _ e2]
  show AW Tryd.prog nt fs c Q { env:=st.env,ob:=_ }
  rw [e];exact h
end
end Go.Proofs.YtodmafgmdlkhoaaDoor.Vs
end
section
namespace Go.Proofs.YtodmafgmdlkhoaaDoor.Vs
set_option linter.all false
set_option maxRecDepth 100000
def bOk:List UInt8:=[111,107]
def bNone:List UInt8:=[110,111,110,101]
def bExists:List UInt8:=[101,120,105,115,116,115]
def bFull:List UInt8:=[102,117,108,108]
noncomputable def comS(s:DtCSet)(m:DtCmd):DtCSet:=if 0≤findN s.fSnaps m.fName then s else if s.fSnaps.length=5 then s else { fName:=s.fName,fSnaps:=s.fSnaps++[{ fName:=m.fName,fTag:=[],fChunks:=m.fChunks }] }
noncomputable def comR(s:DtCSet)(m:DtCmd):List UInt8:=if 0≤findN s.fSnaps m.fName then bExists else if s.fSnaps.length=5 then bFull else bOk
theorem com_e{s:DtCSet}{m:DtCmd}(h:0≤findN s.fSnaps m.fName):comS s m=s∧comR s m=bExists:=by unfold comS comR;rw [if_pos h,if_pos h];exact ⟨rfl,rfl⟩
theorem com_f{s:DtCSet}{m:DtCmd}(h:findN s.fSnaps m.fName<0)(h5:(s.fSnaps.length:Int)=5):comS s m=s∧comR s m=bFull:=by unfold comS comR;rw [if_neg (by omega),if_pos (by omega),if_neg (by omega),if_pos (by omega)];exact ⟨rfl,rfl⟩
theorem com_k{s:DtCSet}{m:DtCmd}(h:findN s.fSnaps m.fName<0)(h5:¬(s.fSnaps.length:Int)=5):comS s m = { fName:=s.fName,fSnaps:=s.fSnaps++[{ fName:=m.fName,fTag:=[],fChunks:=m.fChunks }] }∧comR s m=bOk:=by unfold comS comR;rw [if_neg (by omega),if_neg (by omega),if_neg (by omega),if_neg (by omega)];exact ⟨rfl,rfl⟩
noncomputable def tagS(s:DtCSet)(m:DtCmd):DtCSet:=if h:0≤findN s.fSnaps m.fName∧(findN s.fSnaps m.fName).toNat<s.fSnaps.length then { fName:=s.fName,fSnaps:=s.fSnaps.set (findN s.fSnaps m.fName).toNat { s.fSnaps[(findN s.fSnaps m.fName).toNat]'h.2 with fTag:=m.fTag } } else s
noncomputable def tagR(s:DtCSet)(m:DtCmd):List UInt8:=if 0≤findN s.fSnaps m.fName then bOk else bNone
theorem zqd{α:Type}(p:α→Bool)(l:List α)(h:0≤idxZ p l):(idxZ p l).toNat<l.length:=by
 unfold idxZ at h ⊢
 cases hf:l.findIdx? p with
 | none=>rw [hf] at h;simp at h
 | some i =>
  obtain ⟨h1,-⟩:=List.findIdx?_eq_some_iff_getElem.1 hf
  simpa using h1
theorem tag_n{s:DtCSet}{m:DtCmd}(h:findN s.fSnaps m.fName<0):tagS s m=s∧tagR s m=bNone:=by unfold tagS tagR;rw [dif_neg (by omega),if_neg (by omega)];exact ⟨rfl,rfl⟩
theorem tag_k{s:DtCSet}{m:DtCmd}(h:0≤findN s.fSnaps m.fName)(h2:(findN s.fSnaps m.fName).toNat<s.fSnaps.length):tagS s m = { fName:=s.fName,fSnaps:=s.fSnaps.set (findN s.fSnaps m.fName).toNat { s.fSnaps[(findN s.fSnaps m.fName).toNat]'h2 with fTag:=m.fTag } }∧tagR s m=bOk:=by unfold tagS tagR;rw [dif_pos ⟨h,h2⟩,if_pos h];exact ⟨rfl,rfl⟩
theorem win_at{zs:List SetV}{k:Nat}(h:k<zs.length)(y:List AV):((zs.map setV).set k y)[k]? = some y:=by simp [h]
attribute [local simp] DtCmd.cells DtCSet.cells zbv List.set_set List.getD_eq_getElem?_getD
end Go.Proofs.YtodmafgmdlkhoaaDoor.Vs
end
section
namespace Go.Proofs.YtodmafgmdlkhoaaDoor.Vs
set_option linter.all false
set_option maxRecDepth 100000
/-! pruning -/
def bareN:List DtCSnap→Nat
 | []=>0
 | p :: l=>(if p.fTag=[] then 1 else 0)+bareN l
def prn(g:Int):Int→List DtCSnap→List DtCSnap
 | _,[]=>[]
 | s,p :: l=>if p.fTag=[] then (if s<g then prn g (s+1) l else p :: prn g (s+1) l) else p :: prn g s l
theorem zzz(l:List DtCSnap)(p:DtCSnap):bareN (l++[p])=bareN l+(if p.fTag=[] then 1 else 0):=by
 induction l with
 | nil=>simp [bareN]
 | cons q l ih=>simp only [List.cons_append,bareN,ih];omega
theorem zqe(l:List DtCSnap):bareN l≤l.length:=by
 induction l with
 | nil=>simp [bareN]
 | cons q l ih=>simp only [bareN,List.length_cons];split<;>omega
theorem zsg(l:List DtCSnap)(i:Nat)(h:i<l.length):bareN (l.take (i+1))=bareN (l.take i)+(if l[i].fTag=[] then 1 else 0):=by
 rw [List.take_succ_eq_append_getElem h,zzz]
theorem zsh(l:List DtCSnap)(i:Nat):bareN (l.take i)≤bareN l:=by
 have:l=l.take i++l.drop i:=(List.take_append_drop i l).symm
 have key:∀a b:List DtCSnap,bareN a≤bareN (a++b):=by
  intro a b
  induction a with
  | nil=>simp [bareN]
  | cons q a ih=>simp only [List.cons_append,bareN];omega
 have h:=key (l.take i) (l.drop i)
 rwa [←this] at h
theorem prn_len(g:Int)(l:List DtCSnap):∀s:Int,(prn g s l).length+(min (bareN l:Int) (max 0 (g-s))).toNat=l.length:=by
 induction l with
 | nil=>intro s;simp [prn,bareN];omega
 | cons q l ih =>
  intro s
  have h1:=ih (s+1)
  have h2:=ih s
  simp only [prn,bareN,List.length_cons]
  by_cases h:q.fTag=[]
  ·simp only [h,if_true]
   by_cases h3:s<g
   ·simp only [h3,if_true];omega
   ·simp only [h3,if_false,List.length_cons];omega
  ·simp only [h,if_false,List.length_cons,Nat.zero_add];omega
/-- How many go. -/
def goneN(l:List DtCSnap)(n:Int):Int:=max 0 ((bareN l:Int)-n)
theorem zqf(g:Int):∀(l:List DtCSnap) (s:Int),(prn g s l).Sublist l
 | [],_=>List.Sublist.refl _
 | p :: l,s=>by
  simp only [prn]
  split
  ·split
   ·exact (zqf g l _).trans (List.sublist_cons_self _ _)
   ·exact (zqf g l _).cons_cons _
  ·exact (zqf g l _).cons_cons _
/-- The same of the trees. -/
def prV(g:Int):Int→List SnapV→List SnapV
 | _,[]=>[]
 | s,p :: l=>if p.1.fTag=[] then (if s<g then prV g (s+1) l else p :: prV g (s+1) l) else p :: prV g s l
theorem zqg(g:Int):∀(l:List SnapV) (s:Int),(prV g s l).map (·.1)=prn g s (l.map (·.1))
 | [],_=>rfl
 | p :: l,s=>by
  simp only [prV,prn,List.map_cons]
  split
  ·split
   ·exact zqg g l _
   ·rw [List.map_cons,zqg g l _]
  ·rw [List.map_cons,zqg g l _]
theorem zmw(g:Int):∀(l:List SnapV) (s:Int),(prV g s l).Sublist l
 | [],_=>List.Sublist.refl _
 | p :: l,s=>by
  simp only [prV]
  split
  ·split
   ·exact (zmw g l _).trans (List.sublist_cons_self _ _)
   ·exact (zmw g l _).cons_cons _
  ·exact (zmw g l _).cons_cons _
theorem prV_snoc(g:Int)(l:List SnapV)(p:SnapV):∀s:Int,prV g s (l++[p])=prV g s l++(if p.1.fTag=[]∧s+bareN (l.map (·.1))<g then [] else [p]):=by
 induction l with
 | nil =>
  intro s
  simp only [List.nil_append,prV,bareN,List.map_nil]
  by_cases h:p.1.fTag=[]<;>by_cases h2:s<g<;>simp [h,h2]
 | cons q l ih =>
  intro s
  simp only [List.cons_append,prV,bareN,List.map_cons]
  by_cases h:q.1.fTag=[]
  ·simp only [h,if_true]
   have e:s+((1+bareN (l.map (·.1)):Nat):Int)=s+1+(bareN (l.map (·.1)):Int):=by omega
   rw [e]
   by_cases h2:s<g
   ·simp only [h2,if_true,ih]
   ·simp only [h2,if_false,ih,List.cons_append]
  ·simp only [h,if_false,ih,List.cons_append,Nat.zero_add]
theorem prV_take(g:Int)(l:List SnapV)(i:Nat)(h:i<l.length):prV g 0 (l.take (i+1))=prV g 0 (l.take i)++(if l[i].1.fTag=[]∧(bareN ((l.map (·.1)).take i):Int)<g then [] else [l[i]]):=by
 rw [List.take_succ_eq_append_getElem h,prV_snoc,List.map_take];simp
def dig(n:Int):List UInt8:=[UInt8.ofNat (48+n.toNat)]
end Go.Proofs.YtodmafgmdlkhoaaDoor.Vs
end
section
namespace Go.Proofs.YtodmafgmdlkhoaaDoor.Vs
set_option linter.all false
set_option maxRecDepth 100000
def cB8(n:Int):List AV:=[.g (.int .u8 n)]
theorem zn5:∀ns:List Int,numsOf (ns.map cB8)=some ns
 | []=>rfl
 | n :: ns=>by
  have:=zn5 ns
  simp only [List.map_cons,cB8,numsOf] at this ⊢
  rw [this];rfl
theorem zz0:∀(ns:List Int) (m:Int),numsOf (ns.map cB8++[[.g (.int .u8 m)]])=some (ns++[m]):=by
 intro ns m
 have:=zn5 (ns++[m])
 simpa [cB8] using this
theorem tk1(acc:List Int):List.take acc.length (acc.map cB8)=acc.map cB8:=List.take_of_length_le (by simp)
theorem tk2(acc:List Int)(y:List AV):List.take (acc.length+1) (acc.map cB8++[y])=acc.map cB8++[y]:=List.take_of_length_le (by simp)
theorem wrap8{n:Int}(h0:0≤n)(h1:n<256):IntKind.u8.wrap n=n:=by
 simp [IntKind.wrap,IntKind.bits,IntKind.signed]
 omega
theorem strN_len(ns:List Int):(strN ns).length=ns.length:=by simp [strN]
theorem td10(m:Nat):(m:Int).tdiv 10=((m / 10:Nat):Int):=by rw [Int.tdiv_eq_ediv_of_nonneg (by omega)];rfl
theorem tm10(m:Nat):(m:Int).tmod 10=((m % 10:Nat):Int):=by rw [Int.tmod_eq_emod_of_nonneg (by omega)];rfl
def digN(n:Nat):List UInt8:=[UInt8.ofNat (48+n)]
theorem zw7(n:Nat):strN [(48:Int)+(n:Int)]=digN n:=by
 unfold strN digN
 simp only [List.map_cons,List.map_nil]
 congr 1
def zG6:=And.intro @zcj (And.intro @zc0 (And.intro @wrap8 (And.intro @tk1 (And.intro @tk2 (And.intro @zz0 (And.intro @td10 (And.intro @tm10 (And.intro @zw7 @strN_len))))))))
theorem specDec(n:Nat)(hn:n<10):PCall Tryd.prog 85 [(.g (.int .i64 ((n:Nat))))] (.s (digN n)):=by
 refine zbp Tryd.func85 (by rfl) (by rfl) (by rw [Tryd.ntmps85];exact Nat.le_of_ble_eq_true rfl) rfl (by decide) ?_
 rw [Tryd.ntmps85]
 refine AW_k [(0,_)] ⟨rfl,trivial⟩ ?_
 refine AW_r rfl rfl λK hK=>?_
 simp (disch:=omega) [zG6,List.getElem?_eq_getElem,aNews,aAppend,aBuildSlice,chunks,numsOf]
 refine hK _ ?_;clear hK K
 refine zbe ?_
 refine AW_r rfl rfl λK hK=>?_
 simp (disch:=omega) [zG6,List.getElem?_eq_getElem,aNews,aAppend,aBuildSlice,chunks,numsOf]
 refine hK _ ?_;clear hK K
 refine zbg rfl (λhc1=>?_) (λhc1=>?_)
 ·try simp at hc1
  refine AW_r rfl rfl λK hK=>?_
  simp (disch:=omega) [zG6,List.getElem?_eq_getElem,aNews,aAppend,aBuildSlice,chunks,numsOf]
  refine hK _ ?_;clear hK K
  refine zbo (zcc ?_)
  simp (disch:=omega) [zG6,List.getElem?_eq_getElem,aNews,aAppend,aBuildSlice,chunks,numsOf]
  (have h0:n=0:=(by omega);subst h0;rfl)
 ·try simp at hc1
  refine zbh ?_
  refine zbm ?_
  refine AW_r rfl rfl λK hK=>?_
  simp (disch:=omega) [zG6,List.getElem?_eq_getElem,aNews,aAppend,aBuildSlice,chunks,numsOf]
  refine hK _ ?_;clear hK K
  refine AW_r rfl rfl λK hK=>?_
  simp (disch:=omega) [zG6,List.getElem?_eq_getElem,aNews,aAppend,aBuildSlice,chunks,numsOf]
  refine hK _ ?_;clear hK K
  refine zbe ?_
  refine zbi ?_
  refine zbt (λmM sS=>∃(o:List UInt8) (m:Nat),mM=m+1∧((m=n∧o=[])∨(m=0∧o=digN n))∧sS = { env:=lkE [(0,(.g (.int .i64 ((m:Nat))))),(3,.s o),(4,(.g (.bool (false))))],ob:=lk [] }) ?_ ?_
  ·refine ⟨_,LeS.kr [] [(0,(.g (.int .i64 (((n):Nat))))),(3,.s ([])),(4,(.g (.bool (false))))] [] (by simp [zG5,KpR,renV2,renV,zbj]) (by simp [zG5,KpOR,renO,renV,zb5]) (by rfl) (by rfl) (by simp) (by simp) (by rfl) (by simp [forms]),_,[],n,rfl,?_,rfl⟩
   ·simp
  ·rintro mM sS ⟨o,m,rfl,hv,rfl⟩
   refine zbe ?_
   refine AW_r rfl rfl λK hK=>?_
   simp (disch:=omega) [zG6,List.getElem?_eq_getElem,aNews,aAppend,aBuildSlice,chunks,numsOf]
   refine hK _ ?_;clear hK K
   refine zbg rfl (λhc2=>?_) (λhc2=>?_)
   ·try simp at hc2
    have hmn:n=m:=by rcases hv with ⟨h,-⟩ | ⟨h,-⟩<;>omega
    have ho:o=[]:=by rcases hv with ⟨-,h⟩ | ⟨h,-⟩;exact h;exfalso;omega
    subst ho
    refine zbh ?_
    refine zbm ?_
    refine zbi ?_
    refine AW_r rfl rfl λK hK=>?_
    simp (disch:=omega) [zG6,List.getElem?_eq_getElem,aNews,aAppend,aBuildSlice,chunks,numsOf]
    refine hK _ ?_;clear hK K
    refine zbe ?_
    refine AW_r rfl rfl λK hK=>?_
    simp (disch:=omega) [zG6,List.getElem?_eq_getElem,aNews,aAppend,aBuildSlice,chunks,numsOf]
    refine hK _ ?_;clear hK K
    refine zbg rfl (λhc3=>?_) (λhc3=>?_)
    ·try simp at hc3
     refine zc6 rfl rfl λK hK=>?_
     simp (disch:=omega) [zG6,List.getElem?_eq_getElem,aNews,aAppend,aBuildSlice,chunks,numsOf]
     repeat' first|(exfalso;omega)
    ·try simp at hc3
     refine zbh ?_
     refine zbm ?_
     refine AW_r rfl rfl λK hK=>?_
     simp (disch:=omega) [zG6,List.getElem?_eq_getElem,aNews,aAppend,aBuildSlice,chunks,numsOf]
     refine hK _ ?_;clear hK K
     refine zc6 rfl rfl λK hK=>?_
     simp (disch:=omega) [zG6,List.getElem?_eq_getElem,aNews,aAppend,aBuildSlice,chunks,numsOf]
     refine hK _ ?_;clear hK K
     refine ⟨_,LeS.kr [] [(0,(.g (.int .i64 (((m / 10):Nat))))),(3,.s (digN n)),(4,(.g (.bool (false))))] [] (by simp [zG5,KpR,renV2,renV,zbj];(have e10:(m:Int) % 10=n:=(by omega);simp [e10,zw7])) (by simp [zG5,KpOR,renO,renV,zb5]) (by rfl) (by rfl) (by simp) (by simp) (by rfl) (by simp [forms]),_,?_,digN n,m / 10,rfl,?_,rfl⟩
     ·omega
     ·right;exact ⟨by omega,rfl⟩
   ·try simp at hc2
    refine zbw ?_
    refine zbm ?_
    refine zbe ?_
    refine AW_r rfl rfl λK hK=>?_
    simp (disch:=omega) [zG6,List.getElem?_eq_getElem,aNews,aAppend,aBuildSlice,chunks,numsOf]
    refine hK _ ?_;clear hK K
    refine zbg rfl (λhc4=>?_) (λhc4=>?_)
    ·try simp at hc4
    ·try simp at hc4
     refine zbh ?_
     refine zbm ?_
     refine AW_r rfl rfl λK hK=>?_
     simp (disch:=omega) [zG6,List.getElem?_eq_getElem,aNews,aAppend,aBuildSlice,chunks,numsOf]
     refine hK _ ?_;clear hK K
     refine zbo (zcc ?_)
     simp (disch:=omega) [zG6,List.getElem?_eq_getElem,aNews,aAppend,aBuildSlice,chunks,numsOf]
     (rcases hv with ⟨h,h2⟩ | ⟨h,h2⟩;exfalso;omega;exact h2.symm)
end Go.Proofs.YtodmafgmdlkhoaaDoor.Vs
end
section
namespace Go.Proofs.YtodmafgmdlkhoaaDoor.Vs
set_option linter.all false
set_option maxRecDepth 100000
attribute [local simp] DtCSet.cells zbv List.set_set List.getD_eq_getElem?_getD zdc
noncomputable def pruS(s:DtCSet)(n:Int):DtCSet:={ fName:=s.fName,fSnaps:=prn ((bareN s.fSnaps:Int)-n) 0 s.fSnaps }
theorem gone_bd(l:List DtCSnap)(n:Int)(h5:l.length≤5)(h0:0≤n):0≤goneN l n∧goneN l n≤5∧(goneN l n).toNat<10∧((goneN l n).toNat:Int)=goneN l n:=by
 have:=zqe l
 unfold goneN
 omega
end Go.Proofs.YtodmafgmdlkhoaaDoor.Vs
end
section
namespace Go.Proofs.YtodmafgmdlkhoaaDoor.Vs
set_option linter.all false
set_option maxRecDepth 100000
def tldL(s:DtCSet):List (List UInt8):=s.fSnaps.map λp=>p.fName++58 :: p.fTag
theorem zw8(l:List (List UInt8)):scR (l.map cS)=true:=zd8 cS (λ_=>rfl) l
attribute [local simp] DtCSet.cells zbv List.set_set List.getD_eq_getElem?_getD zdc cS and_assoc zw8
attribute [-simp] aAppC aAppZ
end Go.Proofs.YtodmafgmdlkhoaaDoor.Vs
end
section
namespace Go.Proofs.YtodmafgmdlkhoaaDoor.Vs
set_option linter.all false
set_option maxRecDepth 100000
def namL(l:List DtCSet):List (List UInt8):=l.map λs=>s.fName
theorem fst_at{α β:Type}{zs:List (α × β)}{l:List α}(hz:zs.map (·.1)=l)(i:Nat)(h:i<zs.length)(h2:i<l.length):zs[i].1=l[i]:=by subst hz;simp
theorem zqh(l:List DtCSet):(namL l).length=l.length:=by simp [namL]
attribute [local simp] DtCSet.cells zbv zgt cS and_assoc zw8 zqh
attribute [-simp] aAppC aAppZ
end Go.Proofs.YtodmafgmdlkhoaaDoor.Vs
end
section
namespace Go.Proofs.YtodmafgmdlkhoaaDoor.Vs
set_option linter.all false
set_option maxRecDepth 100000
/-! creating -/
noncomputable def lessN:List DtCSet→List UInt8→Nat
 | [],_=>0
 | s :: l,n=>if Op.bytesLess s.fName n=true then lessN l n+1 else 0
theorem lessN_le(l:List DtCSet)(n:List UInt8):lessN l n≤l.length:=by
 induction l with
 | nil=>simp [lessN]
 | cons s l ih=>simp only [lessN,List.length_cons];split<;>omega
theorem zqi(n:List UInt8):∀(l:List DtCSet) (i:Nat),i≤l.length→(∀j (h:j<l.length),j<i→Op.bytesLess l[j].fName n=true)→(∀h:i<l.length,Op.bytesLess l[i].fName n=false)→lessN l n=i
 | [],i,hi,_,_=>by simp at hi;subst hi;rfl
 | s :: l,0,_,_,h=>by
  have:=h (by simp)
  simp only [List.getElem_cons_zero] at this
  simp [lessN,this]
 | s :: l,i+1,hi,h1,h2=>by
  have h0:=h1 0 (by simp) (by omega)
  simp only [List.getElem_cons_zero] at h0
  simp only [lessN,h0,if_true]
  rw [zqi n l i (by simpa using hi) (λj h hj=>by have:=h1 (j+1) (by simpa using h) (by omega);simpa using this) (λh=>by have:=h2 (by simpa using h);simpa using this)]
noncomputable def creS(l:List DtCSet)(n:List UInt8):List DtCSet:=if 0≤findS l n then l else if l.length=5 then l else l.take (lessN l n) ++ { fName:=n,fSnaps:=[] } :: l.drop (lessN l n)
noncomputable def creR(l:List DtCSet)(n:List UInt8):List UInt8:=if 0≤findS l n then bExists else if l.length=5 then bFull else bOk
theorem cre_e{l:List DtCSet}{n:List UInt8}(h:0≤findS l n):creS l n=l∧creR l n=bExists:=by unfold creS creR;rw [if_pos h,if_pos h];exact ⟨rfl,rfl⟩
theorem cre_f{l:List DtCSet}{n:List UInt8}(h:findS l n<0)(h5:(l.length:Int)=5):creS l n=l∧creR l n=bFull:=by unfold creS creR;rw [if_neg (by omega),if_pos (by omega),if_neg (by omega),if_pos (by omega)];exact ⟨rfl,rfl⟩
theorem cre_k{l:List DtCSet}{n:List UInt8}(h:findS l n<0)(h5:¬(l.length:Int)=5):creS l n=l.take (lessN l n) ++ { fName:=n,fSnaps:=[] } :: l.drop (lessN l n)∧creR l n=bOk:=by unfold creS creR;rw [if_neg (by omega),if_neg (by omega),if_neg (by omega),if_neg (by omega)];exact ⟨rfl,rfl⟩
def newV(n:List UInt8):SetV:=({ fName:=n,fSnaps:=[] },λ_=>.slice none 0 0)
theorem setV_new(n:List UInt8):setV (newV n)=[.s n,.g (.slice none 0 0)]:=rfl
theorem zw9(n:List UInt8):setP (newV n)=[(.sl 3 [],.slice none 0 0)]:=rfl
theorem ins_c{zs:List SetV}{l:List DtCSet}(hz:zs.map (·.1)=l)(n:List UInt8)(i:Nat):((zs.take i++newV n :: zs.drop i).map λz=>DtCSet.cells z.1)=(l.take i ++ { fName:=n,fSnaps:=[] } :: l.drop i).map DtCSet.cells:=by
 subst hz;simp [newV,Function.comp_def]
attribute [local simp] DtCSet.cells zbv and_assoc DtCatalog.cells zdu
end Go.Proofs.YtodmafgmdlkhoaaDoor.Vs
end
section
namespace Go.Proofs.YtodmafgmdlkhoaaDoor.Vs
set_option linter.all false
set_option maxRecDepth 100000
attribute [local simp] DtCSet.cells DtCSnap.cells
theorem tld_at(s:DtCSet)(i:Nat)(h:i<s.fSnaps.length)(hb:(spc (tldL s)).length≤1073741824):spc ((tldL s).take (i+1))=(if i=0 then [] else spc ((tldL s).take i)++[32])++s.fSnaps[i].fName++58 :: s.fSnaps[i].fTag∧(spc ((tldL s).take i)).length+s.fSnaps[i].fName.length+s.fSnaps[i].fTag.length+1≤1073741824:=by
 have hl:i<(tldL s).length:=by simpa [tldL] using h
 have e:(tldL s)[i]=s.fSnaps[i].fName++58 :: s.fSnaps[i].fTag:=by simp [tldL]
 have h1:=zqb (tldL s) i hl
 have h2:=(spc_bd (tldL s) i hl hb).1
 rw [e] at h2
 refine ⟨?_,by simp at h2;omega⟩
 rw [h1,e]
 split<;>simp
theorem l15Read(s:DtCSet)(hs:s.fSnaps.length≤1048576)(hb:(spc (tldL s)).length≤1073741824):PCall Tryd.prog 86 [.agg (DtCSet.cells s)] (.s (spc (tldL s))):=by
 refine zbp Tryd.func86 (by rfl) (by rfl) (by rw [Tryd.ntmps86];exact Nat.le_of_ble_eq_true rfl) rfl (by decide) ?_
 rw [Tryd.ntmps86]
 refine AW_k [(0,_)] ⟨rfl,trivial⟩ ?_
 refine AW_r rfl rfl λK hK=>?_
 simp (disch:=omega)
 refine hK _ ?_;clear hK K
 refine AW_r rfl rfl λK hK=>?_
 simp (disch:=omega)
 refine hK _ ?_;clear hK K
 refine zbe ?_
 refine AW_r rfl rfl λK hK=>?_
 simp (disch:=omega)
 refine hK _ ?_;clear hK K
 refine zbi ?_
 refine zbt (λmM sS=>∃(i:Nat),mM=s.fSnaps.length-i∧(i≤s.fSnaps.length)∧sS = { env:=lkE [(1,.ptr 32 0),(3,.s (spc ((tldL s).take i))),(4,(.g (.int .i64 ((i:Nat)))))],ob:=upd (formOb [] []) 32 (some (.cells (DtCSet.cells s))) }) ?_ ?_
 ·refine ⟨_,LeS.kp [(1,.ptr 32 0),(3,.s (spc ((tldL s).take (0)))),(4,(.g (.int .i64 (((0):Nat)))))] (by simp [KpE,zce,zbj,zbr];all_goals rfl),_,0,rfl,?_,rfl⟩
  ·simp
 ·rintro mM sS ⟨i,rfl,hi,rfl⟩
  refine zbe ?_
  refine AW_r rfl rfl λK hK=>?_
  simp (disch:=omega)
  refine hK _ ?_;clear hK K
  refine zbg rfl (λhc1=>?_) (λhc1=>?_)
  ·try simp [zG4,zbc,zba] at hc1
   have hg:s.fSnaps[i]? = some s.fSnaps[i]:=List.getElem?_eq_getElem (by omega)
   have ⟨htk,hbd⟩:=tld_at s i (by omega) hb
   refine zbh ?_
   refine zbm ?_
   refine zbe ?_
   refine zbi ?_
   refine zbe ?_
   refine AW_r rfl rfl λK hK=>?_
   simp (disch:=omega)
   refine hK _ ?_;clear hK K
   refine zbg rfl (λhc2=>?_) (λhc2=>?_)
   ·try simp [zG4,zbc,zba] at hc2
    refine zc6 rfl rfl λK hK=>?_
    simp (disch:=omega)
    repeat' first|(refine ⟨by omega,?_⟩) | fail
    refine hK _ ?_;clear hK K
    refine zbm ?_
    refine AW_qe rfl mix (by kernel_rfl) rfl λK hK=>?_
    simp (disch:=omega)
    repeat' first|(refine ⟨by omega,?_⟩) | fail
    refine hK _ ?_;clear hK K
    refine zbm ?_
    refine zc6 rfl rfl λK hK=>?_
    simp (disch:=omega)
    refine hK _ ?_;clear hK K
    refine ⟨_,LeS.kp [(1,.ptr 32 0),(3,.s (spc ((tldL s).take (i+1)))),(4,(.g (.int .i64 (((i+1):Nat)))))] (by simp [KpE,zce,zbj,zbr];all_goals (rw [htk];split<;>first|(simp [spc];done)|(exfalso;omega))),_,?_,i+1,rfl,?_,rfl⟩
    ·omega
    ·omega
   try simp [zG4,zbc,zba] at hc2
   refine zbh ?_
   refine zbm ?_
   refine AW_qe rfl mix (by kernel_rfl) rfl λK hK=>?_
   simp (disch:=omega)
   repeat' first|(refine ⟨by omega,?_⟩) | fail
   refine hK _ ?_;clear hK K
   refine zbm ?_
   refine zc6 rfl rfl λK hK=>?_
   simp (disch:=omega)
   refine hK _ ?_;clear hK K
   refine ⟨_,LeS.kp [(1,.ptr 32 0),(3,.s (spc ((tldL s).take (i+1)))),(4,(.g (.int .i64 (((i+1):Nat)))))] (by simp [KpE,zce,zbj,zbr];all_goals (rw [htk];split<;>(subst_vars;simp [spc];done))),_,?_,i+1,rfl,?_,rfl⟩
   ·omega
   ·omega
  try simp [zG4,zbc,zba] at hc1
  have hi3:i=s.fSnaps.length:=by omega
  have htf:(tldL s).take i=tldL s:=List.take_of_length_le (by simp [tldL];omega)
  refine zbw ?_
  refine zbm ?_
  refine AW_r rfl rfl λK hK=>?_
  simp (disch:=omega)
  refine hK _ ?_;clear hK K
  refine zbo (zcc ?_)
  simp (disch:=omega)
  rw [htf]
end Go.Proofs.YtodmafgmdlkhoaaDoor.Vs
end
section
namespace Go.Proofs.YtodmafgmdlkhoaaDoor.Vs
set_option linter.all false
/-! what a command does -/
theorem zxa(B:Nat)(l:List (List UInt8))(h:∀x∈l,x.length≤B):(spc l).length≤l.length*(B+1):=by
 have key:∀l:List (List UInt8),(∀x∈l,x.length≤B)→(l.flatMap λt=>(32:UInt8) :: t).length≤l.length*(B+1):=by
  intro l
  induction l with
  | nil=>intro _;simp
  | cons y l ih =>
   intro h
   have h1:=h y (by simp)
   have h2:=ih λx hx=>h x (by simp [hx])
   simp only [List.flatMap_cons,List.length_append,List.length_cons,Nat.add_mul,Nat.one_mul] at h2 ⊢
   omega
 cases l with
 | nil=>simp [spc]
 | cons y l =>
  have h1:=h y (by simp)
  have h2:=key l λx hx=>h x (by simp [hx])
  simp only [spc,List.length_append,List.length_cons,Nat.add_mul,Nat.one_mul] at h2 ⊢
  omega
theorem catP_bd{c:DtCatalog}(h:CatP c):c.fSets.length≤5∧(∀k (hk:k<c.fSets.length),c.fSets[k].fSnaps.length≤5)∧(spc (namL c.fSets)).length≤1073741824∧∀k (hk:k<c.fSets.length),(spc (tldL c.fSets[k])).length≤1073741824:=by
 obtain ⟨h1,h2⟩:=h
 have hs:∀k (hk:k<c.fSets.length),SetP c.fSets[k]:=λk hk=>(h2 k _ (List.getElem?_eq_getElem hk)).1
 refine ⟨h1,λk hk=>(hs k hk).2.1,?_,λk hk=>?_⟩
 ·have := zxa 8 (namL c.fSets) fun x hx => by
   obtain ⟨s,hs',rfl⟩:=List.mem_map.1 hx
   obtain ⟨k,hk,rfl⟩:=List.getElem_of_mem hs'
   exact (hs k hk).1.2.1
  rw [zqh] at this
  omega
 ·have := zxa 17 (tldL c.fSets[k]) fun x hx => by
   obtain ⟨p,hp,rfl⟩:=List.mem_map.1 hx
   obtain ⟨j,hj,rfl⟩:=List.getElem_of_mem hp
   have h3:=((hs k hk).2.2 j _ (List.getElem?_eq_getElem hj)).1
   have ha:(c.fSets[k].fSnaps[j]).fName.length≤8:=by grind [SnapP,Word]
   have hb:(c.fSets[k].fSnaps[j]).fTag.length≤8:=by grind [SnapP,Word]
   simp only [List.length_append,List.length_cons]
   omega
  have h4:=(hs k hk).2.1
  have h5:(tldL c.fSets[k]).length=c.fSets[k].fSnaps.length:=by simp [tldL]
  rw [h5] at this
  omega
noncomputable def setS(l:List DtCSet)(k:Nat)(m:DtCmd):List DtCSet:=if m.fKind=2 then l.take k++l.drop (k+1) else if h:k<l.length then (if m.fKind=3 then l.set k (comS l[k] m) else if m.fKind=4 then l.set k (tagS l[k] m) else if m.fKind=5 then l.set k (pruS l[k] m.fN) else l) else l
noncomputable def setR(l:List DtCSet)(k:Nat)(m:DtCmd):List UInt8:=if m.fKind=2 then bOk else if h:k<l.length then (if m.fKind=3 then comR l[k] m else if m.fKind=4 then tagR l[k] m else if m.fKind=5 then digN (goneN l[k].fSnaps m.fN).toNat else spc (tldL l[k])) else []
section
variable {l:List DtCSet}{k:Nat}{m:DtCmd}
theorem set_2(h:m.fKind=2):setS l k m=l.take k++l.drop (k+1)∧setR l k m=bOk:=by unfold setS setR;rw [if_pos h,if_pos h];exact ⟨rfl,rfl⟩
theorem zz1(hk:k<l.length)(h:m.fKind=3):setS l k m=l.set k (comS l[k] m)∧setR l k m=comR l[k] m:=by unfold setS setR;rw [if_neg (by omega),dif_pos hk,if_pos h,if_neg (by omega),dif_pos hk,if_pos h];exact ⟨rfl,rfl⟩
theorem set_4(hk:k<l.length)(h:m.fKind=4):setS l k m=l.set k (tagS l[k] m)∧setR l k m=tagR l[k] m:=by unfold setS setR;rw [if_neg (by omega),dif_pos hk,if_neg (by omega),if_pos h,if_neg (by omega),dif_pos hk,if_neg (by omega),if_pos h];exact ⟨rfl,rfl⟩
theorem set_5(hk:k<l.length)(h:m.fKind=5):setS l k m=l.set k (pruS l[k] m.fN)∧setR l k m=digN (goneN l[k].fSnaps m.fN).toNat:=by unfold setS setR;rw [if_neg (by omega),dif_pos hk,if_neg (by omega),if_neg (by omega),if_pos h,if_neg (by omega),dif_pos hk,if_neg (by omega),if_neg (by omega),if_pos h];exact ⟨rfl,rfl⟩
theorem set_6(hk:k<l.length)(h2:¬m.fKind=2)(h3:¬m.fKind=3)(h4:¬m.fKind=4)(h5:¬m.fKind=5):setS l k m=l∧setR l k m=spc (tldL l[k]):=by unfold setS setR;rw [if_neg h2,dif_pos hk,if_neg h3,if_neg h4,if_neg h5,if_neg h2,dif_pos hk,if_neg h3,if_neg h4,if_neg h5];exact ⟨rfl,rfl⟩
end
noncomputable def catS(c:DtCatalog)(m:DtCmd):List DtCSet:=if decB (CatP c)=true then (if decB (CmdP m)=true then (if m.fKind=0 then c.fSets else if m.fKind=1 then creS c.fSets m.fSet else if m.fKind=7 then c.fSets else if findS c.fSets m.fSet<0 then c.fSets else setS c.fSets (findS c.fSets m.fSet).toNat m) else c.fSets) else []
noncomputable def catR(c:DtCatalog)(m:DtCmd):List UInt8:=if decB (CatP c)=true then (if decB (CmdP m)=true then (if m.fKind=0 then [] else if m.fKind=1 then creR c.fSets m.fSet else if m.fKind=7 then spc (namL c.fSets) else if findS c.fSets m.fSet<0 then bNone else setR c.fSets (findS c.fSets m.fSet).toNat m) else []) else []
section
variable {c:DtCatalog}{m:DtCmd}
theorem cat_f(h:¬CatP c):catS c m=[]∧catR c m=[]:=by unfold catS catR;rw [if_neg (by rw [zbk];exact h),if_neg (by rw [zbk];exact h)];exact ⟨rfl,rfl⟩
theorem cat_m(h:CatP c)(hm:¬CmdP m):catS c m=c.fSets∧catR c m=[]:=by unfold catS catR;rw [if_pos (zcl h),if_pos (zcl h),if_neg (by rw [zbk];exact hm),if_neg (by rw [zbk];exact hm)];exact ⟨rfl,rfl⟩
theorem cat_0(h:CatP c)(hm:CmdP m)(h0:m.fKind=0):catS c m=c.fSets∧catR c m=[]:=by unfold catS catR;rw [if_pos (zcl h),if_pos (zcl h),if_pos (zcl hm),if_pos (zcl hm),if_pos h0,if_pos h0];exact ⟨rfl,rfl⟩
theorem cat_1(h:CatP c)(hm:CmdP m)(h1:m.fKind=1):catS c m=creS c.fSets m.fSet∧catR c m=creR c.fSets m.fSet:=by unfold catS catR;rw [if_pos (zcl h),if_pos (zcl h),if_pos (zcl hm),if_pos (zcl hm),if_neg (by omega),if_pos h1,if_neg (by omega),if_pos h1];exact ⟨rfl,rfl⟩
theorem cat_7(h:CatP c)(hm:CmdP m)(h7:m.fKind=7):catS c m=c.fSets∧catR c m=spc (namL c.fSets):=by unfold catS catR;rw [if_pos (zcl h),if_pos (zcl h),if_pos (zcl hm),if_pos (zcl hm),if_neg (by omega),if_neg (by omega),if_pos h7,if_neg (by omega),if_neg (by omega),if_pos h7];exact ⟨rfl,rfl⟩
theorem cat_n(h:CatP c)(hm:CmdP m)(h0:¬m.fKind=0)(h1:¬m.fKind=1)(h7:¬m.fKind=7)(hf:findS c.fSets m.fSet<0):catS c m=c.fSets∧catR c m=bNone:=by unfold catS catR;rw [if_pos (zcl h),if_pos (zcl h),if_pos (zcl hm),if_pos (zcl hm),if_neg h0,if_neg h1,if_neg h7,if_pos hf,if_neg h0,if_neg h1,if_neg h7,if_pos hf];exact ⟨rfl,rfl⟩
theorem cat_k(h:CatP c)(hm:CmdP m)(h0:¬m.fKind=0)(h1:¬m.fKind=1)(h7:¬m.fKind=7){k:Nat}(hf:findS c.fSets m.fSet=k):catS c m=setS c.fSets k m∧catR c m=setR c.fSets k m:=by unfold catS catR;rw [if_pos (zcl h),if_pos (zcl h),if_pos (zcl hm),if_pos (zcl hm),if_neg h0,if_neg h1,if_neg h7,if_neg (by omega),if_neg h0,if_neg h1,if_neg h7,if_neg (by omega),hf];exact ⟨rfl,rfl⟩
theorem zqj{l:List DtCSet}{n:List UInt8}{k:Nat}(hf:findS l n=k):k<l.length:=by
 have h:=zqd (λp:DtCSet=>eqB p.fName n) l (by show 0≤findS l n;omega)
 change (findS l n).toNat<_ at h
 rw [hf] at h
 exact h
end
end Go.Proofs.YtodmafgmdlkhoaaDoor.Vs
end
section
namespace Go.Proofs.YtodmafgmdlkhoaaDoor.Vs
set_option linter.all false
set_option maxRecDepth 100000
attribute [local simp] zbv zdc
theorem prn_gone(l:List DtCSnap)(n:Int)(hn:0≤n):(l.length:Int)-(prn ((bareN l:Int)-n) 0 l).length=goneN l n:=by
 have h:=prn_len ((bareN l:Int)-n) l 0
 unfold goneN
 omega
theorem l15PruneX(l:List DtCSnap)(hl:l.length≤1048576)(n:Int)(hn:0≤n)(hn2:n≤1048576):XCall Tryd.prog 84 [.arr 8 0 l.length,(.g (.int .i64 (n)))] [.own 3 (l.map DtCSnap.cells)] (.tup [.arr 16 0 (prn ((bareN l:Int)-n) 0 l).length,(.g (.int .i64 (goneN l n)))]) [.dead] [.own 3 ((prn ((bareN l:Int)-n) 0 l).map DtCSnap.cells)]:=by
 refine zbq Tryd.func84 (by rfl) (by rfl) (by rw [Tryd.ntmps84];exact Nat.le_of_ble_eq_true rfl) rfl (by simp) rfl rfl ?_
 rw [Tryd.ntmps84]
 refine zhn (.own 3 (l.map DtCSnap.cells)) (by simp [cvO]<;>assumption) ?_
 refine AW_k [(0,_),(1,_)] ⟨rfl,rfl,trivial⟩ ?_
 refine zks (us:=l) 8 903 (by simp [zG5]) (by simp [zG5]) λys hys hone=>?_
 have hyl:ys.length=l.length:=by rw [←hys];simp
 refine AW_x rfl rfl λK hK=>?_
 simp (disch:=omega)
 refine hK _ ?_;clear hK K
 refine AW_x rfl rfl λK hK=>?_
 simp (disch:=omega)
 refine hK _ ?_;clear hK K
 refine zbe ?_
 refine AW_x rfl rfl λK hK=>?_
 simp (disch:=omega)
 refine hK _ ?_;clear hK K
 refine zbi ?_
 refine zbt (λmM sS=>∃(i:Nat),mM=l.length-i∧(i≤l.length)∧sS = { env:=lkE [(0,.arr 8 0 l.length),(1,(.g (.int .i64 (n)))),(6,(.g (.int .i64 ((bareN (l.take i):Nat))))),(7,(.g (.int .i64 ((i:Nat)))))],ob:=lk [(8,.win 3 (ys.map snapV)),(903,.park (ys.flatMap snapP))] }) ?_ ?_
 ·refine ⟨_,LeS.kx [(8,8),(903,903)] [(0,.arr 8 0 l.length),(1,(.g (.int .i64 (n)))),(6,(.g (.int .i64 ((bareN (l.take (0)):Nat))))),(7,(.g (.int .i64 (((0):Nat)))))] [(8,.win 3 (ys.map snapV)),(903,.park (ys.flatMap snapP))] (by simp [zG5,KpR,renV2,renV,zbj,zcw,zdc];try (simp [bareN];done)) (by simp [zG5,KpOX,renO,plO,cvO,renV,pl1,zcw,zdc]) (by rfl) (by simp) (by simp) (by rfl) (by simp [formsX,List.range_succ,zbr,zbz]),_,0,rfl,?_,rfl⟩
  ·simp
 ·rintro mM sS ⟨i,rfl,hi,rfl⟩
  refine zbe ?_
  refine AW_x rfl rfl λK hK=>?_
  simp (disch:=omega)
  refine hK _ ?_;clear hK K
  refine zbg rfl (λhc1=>?_) (λhc1=>?_)
  ·try simp [zG4,zbc,zba] at hc1
   have hbl:bareN (l.take i)≤1048576:=by have h:=zqe (l.take i);rw [List.length_take] at h;omega
   have hyi:=fst_at hys i (by omega) (by omega)
   have hv1:(ys[i].2 2).oneCell'=true:=hone _ (List.getElem_mem _) 2
   simp only [Value.oneCell'] at hv1
   have hbt:=zsg l i (by omega)
   rw [←hyi] at hbt
   refine zbh ?_
   refine zbm ?_
   refine zbe ?_
   refine zbi ?_
   refine AW_x rfl rfl λK hK=>?_
   simp (disch:=omega) [hv1]
   repeat' first|(refine ⟨by omega,?_⟩) | fail
   refine hK _ ?_;clear hK K
   refine zbg rfl (λhc2=>?_) (λhc2=>?_)
   ·try simp [zG4,zbc,zba] at hc2
    refine zb4 rfl rfl λK hK=>?_
    simp (disch:=omega) [hv1]
    refine hK _ ?_;clear hK K
    refine zbm ?_
    refine zb4 rfl rfl λK hK=>?_
    simp (disch:=omega) [hv1]
    refine hK _ ?_;clear hK K
    refine ⟨_,LeS.kx [(8,8),(903,903)] [(0,.arr 8 0 l.length),(1,(.g (.int .i64 (n)))),(6,(.g (.int .i64 ((bareN (l.take (i+1)):Nat))))),(7,(.g (.int .i64 (((i+1):Nat)))))] [(8,.win 3 (ys.map snapV)),(903,.park (ys.flatMap snapP))] (by simp [zG5,KpR,renV2,renV,zbj,zcw,zdc];try ((rw [hbt];split<;>omega))) (by simp [zG5,KpOX,renO,plO,cvO,renV,pl1,zcw,zdc]) (by rfl) (by simp) (by simp) (by rfl) (by simp [formsX,List.range_succ,zbr,zbz]),_,?_,i+1,rfl,?_,rfl⟩
    ·omega
    ·omega
   try simp [zG4,zbc,zba] at hc2
   refine zbh ?_
   refine zbm ?_
   refine zb4 rfl rfl λK hK=>?_
   simp (disch:=omega) [hv1]
   refine hK _ ?_;clear hK K
   refine ⟨_,LeS.kx [(8,8),(903,903)] [(0,.arr 8 0 l.length),(1,(.g (.int .i64 (n)))),(6,(.g (.int .i64 ((bareN (l.take (i+1)):Nat))))),(7,(.g (.int .i64 (((i+1):Nat)))))] [(8,.win 3 (ys.map snapV)),(903,.park (ys.flatMap snapP))] (by simp [zG5,KpR,renV2,renV,zbj,zcw,zdc];try ((rw [hbt];split<;>first | omega|(exfalso;simp_all;done)))) (by simp [zG5,KpOX,renO,plO,cvO,renV,pl1,zcw,zdc]) (by rfl) (by simp) (by simp) (by rfl) (by simp [formsX,List.range_succ,zbr,zbz]),_,?_,i+1,rfl,?_,rfl⟩
   ·omega
   ·omega
  try simp [zG4,zbc,zba] at hc1
  have hti:l.take i=l:=List.take_of_length_le (by omega)
  refine zbw ?_
  refine zbm ?_
  refine AW_x rfl rfl λK hK=>?_
  simp (disch:=omega)
  refine hK _ ?_;clear hK K
  refine zbe ?_
  refine AW_x rfl rfl λK hK=>?_
  simp (disch:=omega)
  refine hK _ ?_;clear hK K
  refine zbi ?_
  refine zbt (λmM sS=>∃(i:Nat) (ks:List SnapV) (b:Int),mM=l.length-i∧(i≤l.length∧ks=prV ((bareN l:Int)-n) 0 (ys.take i)∧b=(bareN l:Int)-(bareN (l.take i):Nat))∧sS = { env:=lkE [(0,.arr 8 0 l.length),(1,(.g (.int .i64 (n)))),(6,(.g (.int .i64 (b)))),(8,.arr 904 0 ks.length),(9,(.g (.int .i64 ((i:Nat)))))],ob:=lk [(8,.win 3 (ys.map snapV)),(903,.park (ys.flatMap snapP)),(904,.win 3 (ks.map snapV))] }) ?_ ?_
  ·refine ⟨_,LeS.kx [(8,8),(903,903),(904,400)] [(0,.arr 8 0 l.length),(1,(.g (.int .i64 (n)))),(6,(.g (.int .i64 (((bareN l:Int)))))),(8,.arr 904 0 ([]).length),(9,(.g (.int .i64 (((0):Nat)))))] [(8,.win 3 (ys.map snapV)),(903,.park (ys.flatMap snapP)),(904,.win 3 (([]).map snapV))] (by simp [zG5,KpR,renV2,renV,zbj,zcw,zdc];try rw [hti]) (by simp [zG5,KpOX,renO,plO,cvO,renV,pl1,zcw,zdc]) (by rfl) (by simp) (by simp) (by rfl) (by simp [formsX,List.range_succ,zbr,zbz]),_,0,[],(bareN l:Int),rfl,?_,rfl⟩
   ·exact ⟨by omega,rfl,by simp [bareN]⟩
  ·rintro mM sS ⟨i,ks,b,rfl,⟨hi,hks,hb⟩,rfl⟩
   have hkl:ks.length≤l.length:=by rw [hks];have h1:=(zmw ((bareN l:Int)-n) (ys.take i) 0).length_le;rw [List.length_take] at h1;omega
   have hbm:=zsh l i
   have hbl:=zqe l
   refine zbe ?_
   refine AW_x rfl rfl λK hK=>?_
   simp (disch:=omega)
   refine hK _ ?_;clear hK K
   refine zbg rfl (λhc3=>?_) (λhc3=>?_)
   ·try simp [zG4,zbc,zba] at hc3
    have hpt:=prV_take ((bareN l:Int)-n) ys i (by omega)
    have hyi:=fst_at hys i (by omega) (by omega)
    have hv1:(ys[i].2 2).oneCell'=true:=hone _ (List.getElem_mem _) 2
    simp only [Value.oneCell'] at hv1
    have hbt:=zsg l i (by omega)
    have hbm2:=zsh l (i+1)
    rw [←hyi] at hbt
    refine zbh ?_
    refine zbm ?_
    refine zbe ?_
    refine zbi ?_
    refine zbe ?_
    refine AW_x rfl rfl λK hK=>?_
    simp (disch:=omega) [hv1]
    repeat' first|(refine ⟨by omega,?_⟩) | fail
    refine hK _ ?_;clear hK K
    refine zbg rfl (λhc4=>?_) (λhc4=>?_)
    ·try simp [zG4,zbc,zba] at hc4
     refine AW_x rfl rfl λK hK=>?_
     simp (disch:=omega) [hv1]
     refine hK _ ?_;clear hK K
     refine AW_x rfl rfl λK hK=>?_
     simp (disch:=omega) [hv1]
     refine hK _ ?_;clear hK K
     refine zbg rfl (λhc5=>?_) (λhc5=>?_)
     ·try simp [zG4,zbc,zba] at hc5
      refine zbw ?_
      refine zbm ?_
      refine zb4 rfl rfl λK hK=>?_
      simp (disch:=omega) [hv1]
      refine hK _ ?_;clear hK K
      refine ⟨_,LeS.kx [(8,8),(903,903),(904,904)] [(0,.arr 8 0 l.length),(1,(.g (.int .i64 (n)))),(6,(.g (.int .i64 ((b-1))))),(8,.arr 904 0 (ks).length),(9,(.g (.int .i64 (((i+1):Nat)))))] [(8,.win 3 (ys.map snapV)),(903,.park (ys.flatMap snapP)),(904,.win 3 ((ks).map snapV))] (by simp [zG5,KpR,renV2,renV,zbj,zcw,zdc]) (by simp [zG5,KpOX,renO,plO,cvO,renV,pl1,zcw,zdc]) (by rfl) (by simp) (by simp) (by rfl) (by simp [formsX,List.range_succ,zbr,zbz]),_,?_,i+1,ks,b-1,rfl,?_,rfl⟩
      ·omega
      ·refine ⟨by omega,?_,?_⟩
       ·rw [hys] at hpt;rw [hpt,hks];split<;>rename_i h<;>first|(simp;done)|(exfalso;exact h ⟨by assumption,by omega⟩)
       ·rw [hbt];by_cases ht:ys[i].1.fTag=[]<;>first|(simp [ht];omega)|(exfalso;simp_all;done)
     try simp [zG4,zbc,zba] at hc5
     refine zbh ?_
     refine zbm ?_
     refine zb4 rfl rfl λK hK=>?_
     simp (disch:=omega) [hv1]
     repeat' first|(refine ⟨by omega,?_⟩) | fail
     refine hK _ ?_;clear hK K
     refine zbm ?_
     refine zb4 rfl rfl λK hK=>?_
     simp (disch:=omega) [hv1]
     refine hK _ ?_;clear hK K
     refine ⟨_,LeS.kx [(8,8),(903,903),(904,784)] [(0,.arr 8 0 l.length),(1,(.g (.int .i64 (n)))),(6,(.g (.int .i64 (((if ys[i].1.fTag=[] then b-1 else b)))))),(8,.arr 904 0 (ks++[ys[i]]).length),(9,(.g (.int .i64 (((i+1):Nat)))))] [(8,.win 3 (ys.map snapV)),(903,.park (ys.flatMap snapP)),(904,.win 3 ((ks++[ys[i]]).map snapV))] (by simp [zG5,KpR,renV2,renV,zbj,zcw,zdc];try ((simp_all;done))) (by simp [zG5,KpOX,renO,plO,cvO,renV,pl1,zcw,zdc]) (by rfl) (by simp) (by simp) (by rfl) (by simp [formsX,List.range_succ,zbr,zbz]),_,?_,i+1,ks++[ys[i]],(if ys[i].1.fTag=[] then b-1 else b),rfl,?_,rfl⟩
     ·omega
     ·refine ⟨by omega,?_,?_⟩
      ·rw [hys] at hpt;rw [hpt,hks];split<;>rename_i h<;>first|(simp;done)|(exfalso;obtain ⟨h1,h2⟩:=h;omega)
      ·rw [hbt];by_cases ht:ys[i].1.fTag=[]<;>(simp [ht];omega)
    try simp [zG4,zbc,zba] at hc4
    refine zbh ?_
    refine zbm ?_
    refine zb4 rfl rfl λK hK=>?_
    simp (disch:=omega) [hv1]
    repeat' first|(refine ⟨by omega,?_⟩) | fail
    refine hK _ ?_;clear hK K
    refine zbm ?_
    refine zb4 rfl rfl λK hK=>?_
    simp (disch:=omega) [hv1]
    refine hK _ ?_;clear hK K
    refine ⟨_,LeS.kx [(8,8),(903,903),(904,784)] [(0,.arr 8 0 l.length),(1,(.g (.int .i64 (n)))),(6,(.g (.int .i64 (((if ys[i].1.fTag=[] then b-1 else b)))))),(8,.arr 904 0 (ks++[ys[i]]).length),(9,(.g (.int .i64 (((i+1):Nat)))))] [(8,.win 3 (ys.map snapV)),(903,.park (ys.flatMap snapP)),(904,.win 3 ((ks++[ys[i]]).map snapV))] (by simp [zG5,KpR,renV2,renV,zbj,zcw,zdc];try ((simp_all;done))) (by simp [zG5,KpOX,renO,plO,cvO,renV,pl1,zcw,zdc]) (by rfl) (by simp) (by simp) (by rfl) (by simp [formsX,List.range_succ,zbr,zbz]),_,?_,i+1,ks++[ys[i]],(if ys[i].1.fTag=[] then b-1 else b),rfl,?_,rfl⟩
    ·omega
    ·refine ⟨by omega,?_,?_⟩
     ·rw [hys] at hpt;rw [hpt,hks];split<;>rename_i h<;>first|(simp;done)|(exfalso;obtain ⟨h1,h2⟩:=h;(simp_all;done))
     ·rw [hbt];by_cases ht:ys[i].1.fTag=[]<;>(simp [ht];omega)
   try simp [zG4,zbc,zba] at hc3
   have hti2:ys.take i=ys:=List.take_of_length_le (by omega)
   rw [hti2] at hks
   refine zbw ?_
   refine zbm ?_
   refine zgl (zw6 (ks:=ks) (zs:=ys) 904 903 (by simp [zG5]) (by simp [zG5]) (by rw [hks];exact zmw _ _ _)) ?_
   have hsn:(ks.map λz=>DtCSnap.cells z.1)=(prn ((bareN l:Int)-n) 0 l).map DtCSnap.cells:=by have h:=zqg ((bareN l:Int)-n) ys 0;rw [hys] at h;rw [←h,List.map_map,hks];rfl
   rw [hsn]
   have hkl2:ks.length=(prn ((bareN l:Int)-n) 0 l).length:=by have h:=congrArg List.length hsn;simpa using h
   have hgo:=prn_gone l n hn
   refine AW_x rfl rfl λK hK=>?_
   simp (disch:=omega)
   refine hK _ ?_;clear hK K
   refine zbo (zb7 [904] [] (by simp [zG5,List.range_succ]) (by simp) ?_)
   simp (disch:=omega)
   omega
end Go.Proofs.YtodmafgmdlkhoaaDoor.Vs
end
section
namespace Go.Proofs.YtodmafgmdlkhoaaDoor.Vs
set_option linter.all false
set_option maxRecDepth 100000
theorem del_sub{α:Type}(l:List α)(k:Nat):(l.take k++l.drop (k+1)).Sublist l:=by
 have h:(l.drop (k+1)).Sublist (l.drop k):=by
  have:l.drop (k+1)=(l.drop k).drop 1:=by rw [List.drop_drop]
  rw [this];exact List.drop_sublist _ _
 have h2:=(List.Sublist.refl (l.take k)).append h
 rwa [List.take_append_drop] at h2
theorem del_c{zs:List SetV}{l:List DtCSet}(hz:zs.map (·.1)=l)(k:Nat):((zs.take k++zs.drop (k+1)).map λz=>DtCSet.cells z.1)=(l.take k++l.drop (k+1)).map DtCSet.cells:=by subst hz;simp [Function.comp_def]
attribute [local simp] DtCatalog.cells DtCmd.cells zbv and_assoc zdu len0
end Go.Proofs.YtodmafgmdlkhoaaDoor.Vs
end
