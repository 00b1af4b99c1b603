import Derived.Test.YtchpfloemfoomaaSM2
section
namespace Go.Proofs.Ytchpfloemfoomaa.Vs
set_option linter.all false
set_option maxRecDepth 100000
def SnapP(p:DtCSnap):Prop:=Word p.fName∧(p.fTag=[]∨Word p.fTag)∧1≤p.fChunks.length∧p.fChunks.length≤4∧∀(j:Nat) c,p.fChunks[j]? = some c→c.length=8
noncomputable def findN(l:List DtCSnap)(name:List UInt8):Int:=idxZ (λp=>eqB p.fName name) l
def SetP(s:DtCSet):Prop:=Word s.fName∧s.fSnaps.length≤5∧∀(k:Nat) p,s.fSnaps[k]? = some p→SnapP p∧findN s.fSnaps p.fName=k
def CatP(c:DtCatalog):Prop:=c.fSets.length≤5∧∀(i:Nat) s,c.fSets[i]? = some s→SetP s∧∀t,0<i→c.fSets[i-1]? = some t→Op.bytesLess t.fName s.fName=true
def zG4:=And.intro @zce (And.intro @gE (And.intro @tP (And.intro @zbk @zbh)))
def zG5:=And.intro @zcb (And.intro @zby @zbt)
theorem l15Snap(p:DtCSnap):PCall Try.prog 50 [.agg (DtCSnap.cells p)] (.g (.bool (decB (SnapP p)))):=by
 refine zbp Try.func50 (by rfl) (by rfl) (by rw [Try.ntmps50];exact Nat.le_of_ble_eq_true rfl) rfl (by decide) ?_
 rw [Try.ntmps50]
 refine AW_k [(0,_)] ⟨rfl,trivial⟩ ?_
 refine AW_r rfl rfl λK hK=>?_
 simp (disch:=omega) [zG4,DtCSnap.cells]
 repeat' first|(refine ⟨by omega,?_⟩)|(intro _)
 refine hK _ ?_;clear hK K
 refine zbf ?_
 refine AW_r rfl rfl λK hK=>?_
 simp (disch:=omega) [zG4,DtCSnap.cells]
 repeat' first|(exfalso;omega)|(refine zcj (zbe zg6 zbn) (l4Word _) rfl ?_;simp (disch:=omega) [zG4,DtCSnap.cells])|(refine zcj (zbe zch (zbe zch (zbe zch zbn))) (l1In _ _ _) rfl ?_;simp (disch:=omega) [zG4,DtCSnap.cells])|(refine ⟨λ_=>?_,λ_=>?_⟩)|(refine ⟨by omega,?_⟩)|(intro _)
 all_goals (refine hK _ ?_;clear hK K)
 all_goals
  refine zbi rfl (λhc1=>?_) (λhc1=>?_)
  ·try simp at hc1
   all_goals
    refine AW_r rfl rfl λK hK=>?_
    simp (disch:=omega) [zG4,DtCSnap.cells]
    repeat' first|(exfalso;omega)|(refine ⟨λ_=>?_,λ_=>?_⟩)|(refine ⟨by omega,?_⟩)|(intro _)
    all_goals (refine hK _ ?_;clear hK K)
    all_goals
     refine zbl (zb5 ?_)
     simp (disch:=omega) [zG4,DtCSnap.cells]
     all_goals first | grind [SnapP]|(refine zcx λh=>?_;grind [SnapP])|(refine zcw ?_;grind [SnapP])
  ·try simp at hc1
   all_goals
    refine zbj ?_
    refine zbo ?_
    refine zbf ?_
    refine AW_r rfl rfl λK hK=>?_
    simp (disch:=omega) [zG4,DtCSnap.cells]
    repeat' first|(exfalso;omega)|(refine ⟨λ_=>?_,λ_=>?_⟩)|(refine ⟨by omega,?_⟩)|(intro _)
    all_goals (refine hK _ ?_;clear hK K)
    all_goals
     refine zbm ?_
     refine zbw (λmM sS=>∃(i:Nat),mM=p.fChunks.length-i∧(i≤p.fChunks.length∧∀j c,j<i→p.fChunks[j]? = some c→c.length=8)∧sS = { env:=lkE [(1,.ptr 32 0),(3,(.g (.int .i64 ((i:Nat)))))],ob:=upd (formOb [] []) 32 (some (.cells (DtCSnap.cells p))) }) ?_ ?_
     ·refine ⟨_,LeS.kp [(1,.ptr 32 0),(3,(.g (.int .i64 (((0):Nat)))))] (by simp [zG5,KpE];try rfl),_,0,rfl,?_,rfl⟩
      ·simp
     ·rintro mM sS ⟨i,rfl,⟨hi,hpre⟩,rfl⟩
      refine zbf ?_
      refine AW_r rfl rfl λK hK=>?_
      simp (disch:=omega) [zG4,DtCSnap.cells,cS]
      repeat' first|(refine ⟨by omega,?_⟩)|(intro _)
      refine hK _ ?_;clear hK K
      refine zbi rfl (λhc2=>?_) (λhc2=>?_)
      ·try simp at hc2
       all_goals
        have hg:p.fChunks[i]? = some p.fChunks[i]:=List.getElem?_eq_getElem (by omega)
        refine zbj ?_
        refine zbo ?_
        refine zbf ?_
        refine zbm ?_
        refine AW_r rfl rfl λK hK=>?_
        simp (disch:=omega) [zG4,DtCSnap.cells,cS]
        repeat' first|(exfalso;omega)|(refine ⟨λ_=>?_,λ_=>?_⟩)|(refine ⟨by omega,?_⟩)|(intro _)
        all_goals (refine hK _ ?_;clear hK K)
        all_goals
         refine zbi rfl (λhc3=>?_) (λhc3=>?_)
         ·try simp at hc3
          all_goals
           refine AW_r rfl rfl λK hK=>?_
           simp (disch:=omega) [zG4,DtCSnap.cells,cS]
           repeat' first|(exfalso;omega)|(refine ⟨λ_=>?_,λ_=>?_⟩)|(refine ⟨by omega,?_⟩)|(intro _)
           all_goals (refine hK _ ?_;clear hK K)
           all_goals
            refine zbl (zb5 ?_)
            simp (disch:=omega) [zG4,DtCSnap.cells,cS]
            all_goals first | grind [SnapP]|(refine zcx λh=>?_;grind [SnapP])|(refine zcw ?_;grind [SnapP])
         ·try simp at hc3
          all_goals
           refine zbj ?_
           refine zbo ?_
           refine zc0 rfl rfl λK hK=>?_
           simp (disch:=omega) [zG4,DtCSnap.cells,cS]
           repeat' first|(exfalso;omega)|(refine ⟨λ_=>?_,λ_=>?_⟩)|(refine ⟨by omega,?_⟩)|(intro _)
           all_goals (refine hK _ ?_;clear hK K)
           all_goals
            refine ⟨_,LeS.kp [(1,.ptr 32 0),(3,(.g (.int .i64 (((i+1):Nat)))))] (by simp [zG5,KpE];try rfl),_,?_,i+1,rfl,?_,rfl⟩
            ·omega
            ·refine ⟨by omega,?_⟩;grind
      ·try simp at hc2
       all_goals
        refine zb4 ?_
        refine zbo ?_
        refine AW_r rfl rfl λK hK=>?_
        simp (disch:=omega) [zG4,DtCSnap.cells,cS]
        repeat' first|(exfalso;omega)|(refine ⟨λ_=>?_,λ_=>?_⟩)|(refine ⟨by omega,?_⟩)|(intro _)
        all_goals (refine hK _ ?_;clear hK K)
        all_goals
         refine zbl (zb5 ?_)
         simp (disch:=omega) [zG4,DtCSnap.cells,cS]
         all_goals first | grind [SnapP]|(refine zcx λh=>?_;grind [SnapP])|(refine zcw ?_;grind [SnapP])
def zG6:=And.intro @zce (And.intro @gE @tP)
theorem l15Find(s:DtCSet)(name:List UInt8)(hs:s.fSnaps.length≤1048576):PCall Try.prog 51 [.agg (DtCSet.cells s),.s name] (.g (.int .i64 (findN s.fSnaps name))):=by
 refine zbp Try.func51 (by rfl) (by rfl) (by rw [Try.ntmps51];exact Nat.le_of_ble_eq_true rfl) rfl (by decide) ?_
 rw [Try.ntmps51]
 refine AW_k [(0,_),(1,_)] ⟨rfl,rfl,trivial⟩ ?_
 refine AW_r rfl rfl λK hK=>?_
 simp (disch:=omega) [zG6,DtCSet.cells]
 repeat' first|(refine ⟨by omega,?_⟩)|(intro _)
 refine hK _ ?_;clear hK K
 refine zbf ?_
 refine AW_r rfl rfl λK hK=>?_
 simp (disch:=omega) [zG6,DtCSet.cells]
 repeat' first|(refine ⟨by omega,?_⟩)|(intro _)
 refine hK _ ?_;clear hK K
 refine zbm ?_
 refine zbw (λmM sS=>∃(i:Nat),mM=s.fSnaps.length-i∧(i≤s.fSnaps.length∧∀j x,j<i→s.fSnaps[j]? = some x→eqB x.fName name=false)∧sS = { env:=lkE [(1,.s name),(2,.ptr 48 0),(5,(.g (.int .i64 ((i:Nat)))))],ob:=upd (formOb [] []) 48 (some (.cells (DtCSet.cells s))) }) ?_ ?_
 ·refine ⟨_,LeS.kp [(1,.s name),(2,.ptr 48 0),(5,(.g (.int .i64 (((0):Nat)))))] (by simp [zG5,KpE];try rfl),_,0,rfl,?_,rfl⟩
  ·simp
 ·rintro mM sS ⟨i,rfl,⟨hi,hpre⟩,rfl⟩
  refine zbf ?_
  refine AW_r rfl rfl λK hK=>?_
  simp (disch:=omega) [zG6,DtCSet.cells,DtCSnap.cells]
  repeat' first|(refine ⟨by omega,?_⟩)|(intro _)
  refine hK _ ?_;clear hK K
  refine zbi rfl (λhc4=>?_) (λhc4=>?_)
  ·try simp at hc4
   all_goals
    have hg:s.fSnaps[i]? = some s.fSnaps[i]:=List.getElem?_eq_getElem (by omega)
    refine zbj ?_
    refine zbo ?_
    refine zbf ?_
    refine zbm ?_
    refine AW_r rfl rfl λK hK=>?_
    simp (disch:=omega) [zG6,DtCSet.cells,DtCSnap.cells]
    repeat' first|(exfalso;omega)|(refine ⟨λ_=>?_,λ_=>?_⟩)|(refine ⟨by omega,?_⟩)|(intro _)
    all_goals (refine hK _ ?_;clear hK K)
    all_goals
     refine zbi rfl (λhc5=>?_) (λhc5=>?_)
     ·try simp at hc5
      all_goals
       refine AW_r rfl rfl λK hK=>?_
       simp (disch:=omega) [zG6,DtCSet.cells,DtCSnap.cells]
       repeat' first|(exfalso;omega)|(refine ⟨λ_=>?_,λ_=>?_⟩)|(refine ⟨by omega,?_⟩)|(intro _)
       all_goals (refine hK _ ?_;clear hK K)
       all_goals
        refine zbl (zb5 ?_)
        simp (disch:=omega) [zG6,DtCSet.cells,DtCSnap.cells]
        all_goals first|(unfold findN;rw [zd4 (by assumption) (by simp_all [zbb]) hpre];done)|(unfold findN;exact (zd4 (by assumption) (by simp_all [zbb]) hpre))|(unfold findN;exact zhw (λj x h=>hpre j x (by omega)))
     ·try simp at hc5
      all_goals
       refine zbj ?_
       refine zbo ?_
       refine zc0 rfl rfl λK hK=>?_
       simp (disch:=omega) [zG6,DtCSet.cells,DtCSnap.cells]
       repeat' first|(exfalso;omega)|(refine ⟨λ_=>?_,λ_=>?_⟩)|(refine ⟨by omega,?_⟩)|(intro _)
       all_goals (refine hK _ ?_;clear hK K)
       all_goals
        refine ⟨_,LeS.kp [(1,.s name),(2,.ptr 48 0),(5,(.g (.int .i64 (((i+1):Nat)))))] (by simp [zG5,KpE];try rfl),_,?_,i+1,rfl,?_,rfl⟩
        ·omega
        ·refine ⟨by omega,?_⟩;grind [zba]
  ·try simp at hc4
   all_goals
    refine zb4 ?_
    refine zbo ?_
    refine AW_r rfl rfl λK hK=>?_
    simp (disch:=omega) [zG6,DtCSet.cells,DtCSnap.cells]
    repeat' first|(exfalso;omega)|(refine ⟨λ_=>?_,λ_=>?_⟩)|(refine ⟨by omega,?_⟩)|(intro _)
    all_goals (refine hK _ ?_;clear hK K)
    all_goals
     refine zbl (zb5 ?_)
     simp (disch:=omega) [zG6,DtCSet.cells,DtCSnap.cells]
     all_goals first|(unfold findN;rw [zd4 (by assumption) (by simp_all [zbb]) hpre];done)|(unfold findN;exact (zd4 (by assumption) (by simp_all [zbb]) hpre))|(unfold findN;exact zhw (λj x h=>hpre j x (by omega)))
def zG7:=And.intro @zcb (And.intro @zbt (And.intro @zb0 @zgp))
theorem zxq(c:DtCatalog)(hs:DtCatalog.sz c≤1048576):PCall Try.prog 42 [.agg (DtCatalog.cells c)] (.g (.bool (decB (CatP c)))):=by
 have hl:c.fSets.length≤1048576:=by have:=zcf DtCSet.sz_nonneg c.fSets;simp only [DtCatalog.sz,szS] at hs;omega
 have hl2:∀i (h:i<c.fSets.length),c.fSets[i].fSnaps.length≤1048576:=by
  intro i h
  have h1:=zcn DtCSet.sz_nonneg c.fSets c.fSets[i] (List.getElem_mem _)
  have h2:=zcf DtCSnap.sz_nonneg c.fSets[i].fSnaps
  simp only [DtCatalog.sz,szS] at hs
  simp only [DtCSet.sz,szS] at h1
  omega
 refine zbp Try.func42 (by rfl) (by rfl) (by rw [Try.ntmps42];exact Nat.le_of_ble_eq_true rfl) rfl (by decide) ?_
 rw [Try.ntmps42]
 refine AW_k [(0,_)] ⟨rfl,trivial⟩ ?_
 refine AW_r rfl rfl λK hK=>?_
 simp (disch:=omega) [zG4,DtCatalog.cells,DtCSet.cells,DtCSnap.cells]
 repeat' first|(refine ⟨by omega,?_⟩)|(intro _)
 refine hK _ ?_;clear hK K
 refine zbf ?_
 refine AW_r rfl rfl λK hK=>?_
 simp (disch:=omega) [zG4,DtCatalog.cells,DtCSet.cells,DtCSnap.cells]
 repeat' first|(refine ⟨by omega,?_⟩)|(intro _)
 refine hK _ ?_;clear hK K
 refine zbi rfl (λhc6=>?_) (λhc6=>?_)
 ·try simp at hc6
  all_goals
   refine AW_r rfl rfl λK hK=>?_
   simp (disch:=omega) [zG4,DtCatalog.cells,DtCSet.cells,DtCSnap.cells]
   repeat' first|(exfalso;omega)|(refine ⟨λ_=>?_,λ_=>?_⟩)|(refine ⟨by omega,?_⟩)|(intro _)
   all_goals (refine hK _ ?_;clear hK K)
   all_goals
    refine zbl (zb5 ?_)
    simp (disch:=omega) [zG4,DtCatalog.cells,DtCSet.cells,DtCSnap.cells]
    all_goals first | grind [CatP,SetP]|(refine zcx λh=>?_;grind [CatP,SetP])|(refine zcw ?_;grind [CatP,SetP])
 ·try simp at hc6
  all_goals
   refine zbj ?_
   refine zbo ?_
   refine zbf ?_
   refine AW_r rfl rfl λK hK=>?_
   simp (disch:=omega) [zG4,DtCatalog.cells,DtCSet.cells,DtCSnap.cells]
   repeat' first|(exfalso;omega)|(refine ⟨λ_=>?_,λ_=>?_⟩)|(refine ⟨by omega,?_⟩)|(intro _)
   all_goals (refine hK _ ?_;clear hK K)
   all_goals
    refine zbm ?_
    refine zbw (λmM sS=>∃(i:Nat),mM=c.fSets.length-i∧(i≤c.fSets.length∧∀j s,j<i→c.fSets[j]? = some s→SetP s∧∀t,0<j→c.fSets[j-1]? = some t→Op.bytesLess t.fName s.fName=true)∧sS = { env:=lkE [(1,.ptr 32 0),(3,(.g (.int .i64 ((i:Nat)))))],ob:=lk [(32,.cells (DtCatalog.cells c))] }) ?_ ?_
    ·refine ⟨_,LeS.ko [(1,.ptr 32 0),(3,(.g (.int .i64 (((0):Nat)))))] [(32,.cells (DtCatalog.cells c))] (by simp [zG5,KpE,DtCatalog.cells,DtCSet.cells];try rfl) (by simp [zG7,KpO,DtCatalog.cells,DtCSet.cells];try rfl) (by rfl) (by simp) (by rfl),_,0,rfl,?_,rfl⟩
     ·simp
    ·rintro mM sS ⟨i,rfl,⟨hi,hpre⟩,rfl⟩
     refine zbf ?_
     refine AW_r rfl rfl λK hK=>?_
     simp (disch:=omega) [zG4,DtCatalog.cells,DtCSet.cells,DtCSnap.cells]
     repeat' first|(refine ⟨by omega,?_⟩)|(intro _)
     refine hK _ ?_;clear hK K
     refine zbi rfl (λhc7=>?_) (λhc7=>?_)
     ·try simp at hc7
      all_goals
       have hg:c.fSets[i]? = some (c.fSets[i]):=List.getElem?_eq_getElem (by omega)
       have hg':c.fSets[i-1]? = some (c.fSets[i-1]):=List.getElem?_eq_getElem (by omega)
       have hl2':=hl2 i (by omega)
       rcases Nat.eq_zero_or_pos i with hi0 | hi0
       all_goals
        refine zbj ?_
        refine zbo ?_
        refine zbf ?_
        refine zbm ?_
        refine AW_r rfl rfl λK hK=>?_
        simp (disch:=omega) [zG4,DtCatalog.cells,DtCSet.cells,DtCSnap.cells]
        repeat' first|(exfalso;omega)|(refine ⟨λ_=>?_,λ_=>?_⟩)|(refine ⟨by omega,?_⟩)|(intro _)
        all_goals (refine hK _ ?_;clear hK K)
        all_goals
         refine zbf ?_
         refine AW_q rfl mix (by kernel_rfl) rfl λK hK=>?_
         simp (disch:=omega) [zG4,DtCatalog.cells,DtCSet.cells,DtCSnap.cells]
         repeat' first|(exfalso;omega)|(refine zcj (zbe zg6 zbn) (l4Word _) rfl ?_;simp (disch:=omega) [zG4,DtCatalog.cells,DtCSet.cells,DtCSnap.cells])|(refine ⟨λ_=>?_,λ_=>?_⟩)|(refine ⟨by omega,?_⟩)|(intro _)
         all_goals (refine hK _ ?_;clear hK K)
         all_goals
          refine zbi rfl (λhc8=>?_) (λhc8=>?_)
          ·try simp at hc8
           all_goals
            refine AW_r rfl rfl λK hK=>?_
            simp (disch:=omega) [zG4,DtCatalog.cells,DtCSet.cells,DtCSnap.cells]
            repeat' first|(exfalso;omega)|(refine ⟨λ_=>?_,λ_=>?_⟩)|(refine ⟨by omega,?_⟩)|(intro _)
            all_goals (refine hK _ ?_;clear hK K)
            all_goals
             refine zbl (zb5 ?_)
             simp (disch:=omega) [zG4,DtCatalog.cells,DtCSet.cells,DtCSnap.cells]
             all_goals first | grind [CatP,SetP]|(refine zcx λh=>?_;grind [CatP,SetP])|(refine zcw ?_;grind [CatP,SetP])
          ·try simp at hc8
           all_goals
            refine zbj ?_
            refine zbo ?_
            refine AW_r rfl rfl λK hK=>?_
            simp (disch:=omega) [zG4,DtCatalog.cells,DtCSet.cells,DtCSnap.cells]
            repeat' first|(exfalso;omega)|(refine ⟨λ_=>?_,λ_=>?_⟩)|(refine ⟨by omega,?_⟩)|(intro _)
            all_goals (refine hK _ ?_;clear hK K)
            all_goals
             refine zbm ?_
             refine zbw (λmM sS=>∃(k:Nat),mM=(c.fSets[i]).fSnaps.length-k∧(k≤(c.fSets[i]).fSnaps.length∧∀j p,j<k→(c.fSets[i]).fSnaps[j]? = some p→SnapP p∧findN (c.fSets[i]).fSnaps p.fName=j)∧sS = { env:=lkE [(1,.ptr 32 0),(3,(.g (.int .i64 ((i:Nat))))),(4,.ptr 80 0),(5,(.g (.int .i64 ((k:Nat)))))],ob:=lk [(32,.cells (DtCatalog.cells c)),(80,.cells (DtCSet.cells c.fSets[i]))] }) ?_ ?_
             ·refine ⟨_,LeS.ko [(1,.ptr 32 0),(3,(.g (.int .i64 ((i:Nat))))),(4,.ptr 80 0),(5,(.g (.int .i64 (((0):Nat)))))] [(32,.cells (DtCatalog.cells c)),(80,.cells (DtCSet.cells c.fSets[i]))] (by simp [zG5,KpE,DtCatalog.cells,DtCSet.cells];try rfl) (by simp [zG7,KpO,DtCatalog.cells,DtCSet.cells];try rfl) (by rfl) (by simp) (by rfl),_,0,rfl,?_,rfl⟩
              ·simp
             ·rintro mM sS ⟨k,rfl,⟨hk,hkre⟩,rfl⟩
              refine zbf ?_
              refine AW_r rfl rfl λK hK=>?_
              simp (disch:=omega) [zG4,DtCatalog.cells,DtCSet.cells,DtCSnap.cells]
              repeat' first|(refine ⟨by omega,?_⟩)|(intro _)
              refine hK _ ?_;clear hK K
              refine zbi rfl (λhc9=>?_) (λhc9=>?_)
              ·try simp at hc9
               all_goals
                have hg2:(c.fSets[i]).fSnaps[k]? = some ((c.fSets[i]).fSnaps[k]):=List.getElem?_eq_getElem (by omega)
                refine zbj ?_
                refine zbo ?_
                refine zbf ?_
                refine zbm ?_
                refine AW_q rfl mix (by kernel_rfl) rfl λK hK=>?_
                simp (disch:=omega) [zG4,DtCatalog.cells,DtCSet.cells,DtCSnap.cells]
                repeat' first|(exfalso;omega)|(refine zcj (zbe (zca rfl) zbn) (l15Snap _) rfl ?_;simp (disch:=omega) [zG4,DtCatalog.cells,DtCSet.cells,DtCSnap.cells])|(refine zcj (zbe (zca rfl) (zbe zg6 zbn)) (l15Find _ _ (by omega)) rfl ?_;simp (disch:=omega) [zG4,DtCatalog.cells,DtCSet.cells,DtCSnap.cells])|(refine ⟨λ_=>?_,λ_=>?_⟩)|(refine ⟨by omega,?_⟩)|(intro _)
                all_goals (refine hK _ ?_;clear hK K)
                all_goals
                 refine zbi rfl (λhc10=>?_) (λhc10=>?_)
                 ·try simp at hc10
                  all_goals
                   refine AW_r rfl rfl λK hK=>?_
                   simp (disch:=omega) [zG4,DtCatalog.cells,DtCSet.cells,DtCSnap.cells]
                   repeat' first|(exfalso;omega)|(refine ⟨λ_=>?_,λ_=>?_⟩)|(refine ⟨by omega,?_⟩)|(intro _)
                   all_goals (refine hK _ ?_;clear hK K)
                   all_goals
                    refine zbl (zb5 ?_)
                    simp (disch:=omega) [zG4,DtCatalog.cells,DtCSet.cells,DtCSnap.cells]
                    all_goals first | grind [CatP,SetP]|(refine zcx λh=>?_;grind [CatP,SetP])|(refine zcw ?_;grind [CatP,SetP])
                 ·try simp at hc10
                  all_goals
                   refine zbj ?_
                   refine zbo ?_
                   refine zc0 rfl rfl λK hK=>?_
                   simp (disch:=omega) [zG4,DtCatalog.cells,DtCSet.cells,DtCSnap.cells]
                   repeat' first|(exfalso;omega)|(refine ⟨λ_=>?_,λ_=>?_⟩)|(refine ⟨by omega,?_⟩)|(intro _)
                   all_goals (refine hK _ ?_;clear hK K)
                   all_goals
                    refine ⟨_,LeS.ko [(1,.ptr 32 0),(3,(.g (.int .i64 ((i:Nat))))),(4,.ptr 80 0),(5,(.g (.int .i64 (((k+1):Nat)))))] [(32,.cells (DtCatalog.cells c)),(80,.cells (DtCSet.cells c.fSets[i]))] (by simp [zG5,KpE,DtCatalog.cells,DtCSet.cells];try rfl) (by simp [zG7,KpO,DtCatalog.cells,DtCSet.cells];try rfl) (by rfl) (by simp) (by rfl),_,?_,k+1,rfl,?_,rfl⟩
                    ·omega
                    ·refine ⟨by omega,?_⟩;clear hl2;grind
              ·try simp at hc9
               all_goals
                refine zb4 ?_
                refine zbo ?_
                refine zc0 rfl rfl λK hK=>?_
                simp (disch:=omega) [zG4,DtCatalog.cells,DtCSet.cells,DtCSnap.cells]
                repeat' first|(exfalso;omega)|(refine ⟨λ_=>?_,λ_=>?_⟩)|(refine ⟨by omega,?_⟩)|(intro _)
                all_goals (refine hK _ ?_;clear hK K)
                all_goals
                 refine ⟨_,LeS.ko [(1,.ptr 32 0),(3,(.g (.int .i64 (((i+1):Nat)))))] [(32,.cells (DtCatalog.cells c))] (by simp [zG5,KpE,DtCatalog.cells,DtCSet.cells];try rfl) (by simp [zG7,KpO,DtCatalog.cells,DtCSet.cells];try rfl) (by rfl) (by simp) (by rfl),_,?_,i+1,rfl,?_,rfl⟩
                 ·omega
                 ·refine ⟨by omega,?_⟩;clear hg' hl2;grind [SetP]
     ·try simp at hc7
      all_goals
       refine zb4 ?_
       refine zbo ?_
       refine AW_r rfl rfl λK hK=>?_
       simp (disch:=omega) [zG4,DtCatalog.cells,DtCSet.cells,DtCSnap.cells]
       repeat' first|(exfalso;omega)|(refine ⟨λ_=>?_,λ_=>?_⟩)|(refine ⟨by omega,?_⟩)|(intro _)
       all_goals (refine hK _ ?_;clear hK K)
       all_goals
        refine zbl (zb5 ?_)
        simp (disch:=omega) [zG4,DtCatalog.cells,DtCSet.cells,DtCSnap.cells]
        all_goals first | grind [CatP,SetP]|(refine zcx λh=>?_;grind [CatP,SetP])|(refine zcw ?_;grind [CatP,SetP])
def Ch8(l:List (List UInt8)):Prop:=∀(j:Nat) c,l[j]? = some c→c.length=8
theorem zxr(l:List (List UInt8))(hs:l.length≤1048576):PCall Try.prog 57 [.sl 1 (l.map cS)] (.g (.bool (decB (Ch8 l)))):=by
 refine zbp Try.func57 (by rfl) (by rfl) (by rw [Try.ntmps57];exact Nat.le_of_ble_eq_true rfl) rfl (by decide) ?_
 rw [Try.ntmps57]
 refine AW_k [(0,_)] ⟨rfl,trivial⟩ ?_
 refine AW_r rfl rfl λK hK=>?_
 simp (disch:=omega) [zG6,cS]
 repeat' first|(refine ⟨by omega,?_⟩)|(intro _)
 refine hK _ ?_;clear hK K
 refine zbf ?_
 refine AW_r rfl rfl λK hK=>?_
 simp (disch:=omega) [zG6,cS]
 repeat' first|(refine ⟨by omega,?_⟩)|(intro _)
 refine hK _ ?_;clear hK K
 refine zbm ?_
 refine zbw (λmM sS=>∃(i:Nat),mM=l.length-i∧(i≤l.length∧∀(j:Nat) c,j<i→l[j]? = some c→c.length=8)∧sS = { env:=lkE [(5,.sl 1 (l.map cS)),(6,(.g (.int .i64 ((l.length:Nat))))),(7,(.g (.int .i64 ((i:Nat)))))],ob:=formOb [] [] }) ?_ ?_
 ·refine ⟨_,LeS.kp [(5,.sl 1 (l.map cS)),(6,(.g (.int .i64 ((l.length:Nat))))),(7,(.g (.int .i64 (((0):Nat)))))] (by simp [zG5,KpE];try rfl),_,0,rfl,?_,rfl⟩
  ·simp
 ·rintro mM sS ⟨i,rfl,⟨hi,hpre⟩,rfl⟩
  refine AW_r rfl rfl λK hK=>?_
  simp (disch:=omega) [zG6,cS]
  repeat' first|(refine ⟨by omega,?_⟩)|(intro _)
  refine hK _ ?_;clear hK K
  refine zbf ?_
  refine zbi rfl (λhc11=>?_) (λhc11=>?_)
  ·try simp at hc11
   all_goals
    have hg:l[i]? = some (l[i]):=List.getElem?_eq_getElem (by omega)
    refine zbj ?_
    refine zbo ?_
    refine zbf ?_
    refine zbm ?_
    refine AW_r rfl rfl λK hK=>?_
    simp (disch:=omega) [zG6,cS]
    repeat' first|(exfalso;omega)|(refine ⟨λ_=>?_,λ_=>?_⟩)|(refine ⟨by omega,?_⟩)|(intro _)
    all_goals (refine hK _ ?_;clear hK K)
    all_goals
     refine AW_r rfl rfl λK hK=>?_
     simp (disch:=omega) [zG6,cS]
     repeat' first|(refine ⟨by omega,?_⟩)|(intro _)
     refine hK _ ?_;clear hK K
     refine zbi rfl (λhc12=>?_) (λhc12=>?_)
     ·try simp at hc12
      all_goals
       refine AW_r rfl rfl λK hK=>?_
       simp (disch:=omega) [zG6,cS]
       repeat' first|(exfalso;omega)|(refine ⟨λ_=>?_,λ_=>?_⟩)|(refine ⟨by omega,?_⟩)|(intro _)
       all_goals (refine hK _ ?_;clear hK K)
       all_goals
        refine zbl (zb5 ?_)
        simp (disch:=omega) [zG6,cS]
        all_goals first|(refine zcx λh=>?_;grind [Ch8])|(refine zcw ?_;grind [Ch8])
     ·try simp at hc12
      all_goals
       refine zbj ?_
       refine zbo ?_
       refine zc0 rfl rfl λK hK=>?_
       simp (disch:=omega) [zG6,cS]
       repeat' first|(exfalso;omega)|(refine ⟨λ_=>?_,λ_=>?_⟩)|(refine ⟨by omega,?_⟩)|(intro _)
       all_goals (refine hK _ ?_;clear hK K)
       all_goals
        refine ⟨_,LeS.kp [(5,.sl 1 (l.map cS)),(6,(.g (.int .i64 ((l.length:Nat))))),(7,(.g (.int .i64 (((i+1):Nat)))))] (by simp [zG5,KpE];try rfl),_,?_,i+1,rfl,?_,rfl⟩
        ·omega
        ·refine ⟨by omega,?_⟩;grind
  ·try simp at hc11
   all_goals
    refine zb4 ?_
    refine zbo ?_
    refine AW_r rfl rfl λK hK=>?_
    simp (disch:=omega) [zG6,cS]
    repeat' first|(exfalso;omega)|(refine ⟨λ_=>?_,λ_=>?_⟩)|(refine ⟨by omega,?_⟩)|(intro _)
    all_goals (refine hK _ ?_;clear hK K)
    all_goals
     refine zbl (zb5 ?_)
     simp (disch:=omega) [zG6,cS]
     all_goals first|(refine zcx λh=>?_;grind [Ch8])|(refine zcw ?_;grind [Ch8])
theorem snap1(p:DtCSnap)(name:List UInt8):GCall Try.prog 61 [.agg (DtCSnap.cells p),.ptr 0 0] [[.s name]] [] (.g (.bool (eqB p.fName name))) []:=by
 refine zbp Try.func61 (by rfl) (by rfl) (by rw [Try.ntmps61];exact Nat.le_of_ble_eq_true rfl) rfl (by decide) ?_
 rw [Try.ntmps61]
 refine AW_k [(0,_),(1,_)] ⟨rfl,rfl,trivial⟩ ?_
 refine AW_r rfl rfl λK hK=>?_
 simp [DtCSnap.cells]
 repeat' first|(refine ⟨by omega,?_⟩)|(intro _)
 refine hK _ ?_;clear hK K
 refine AW_r rfl rfl λK hK=>?_
 simp [DtCSnap.cells]
 repeat' first|(refine ⟨by omega,?_⟩)|(intro _)
 refine hK _ ?_;clear hK K
 refine zbl (zb5 ?_)
 simp [DtCSnap.cells]
 all_goals first|(rw [Bool.eq_iff_iff,zbb];simp;done)|(rw [eqB];simp)
theorem zmb{F:FuncId}{name:List UInt8}{p:DtCSnap→Bool}(xs:List DtCSnap)(hn:xs.length≤1048576)(hf:∀x,GCall Try.prog F [.agg (DtCSnap.cells x),.ptr 0 0] [[.s name]] [] (.g (.bool (p x))) []):GCall Try.prog 60 [.sl 3 (xs.map DtCSnap.cells),.fn F [] [.ptr 0 0]] [[.s name]] [] (.g (.int .i64 (idxZ p xs))) []:=by
 refine zbp Try.func60 (by rfl) (by rfl) (by rw [Try.ntmps60];exact Nat.le_of_ble_eq_true rfl) rfl (by decide) ?_
 rw [Try.ntmps60]
 refine AW_k [(0,_),(1,_)] ⟨rfl,rfl,trivial⟩ ?_
 refine AW_r rfl rfl λK hK=>?_
 simp (disch:=omega) [zG6,DtCSnap.cells]
 repeat' first|(refine zhv 0 (.inr rfl) (zcu [.s name] rfl) (zbe (zca rfl) (zbe zfl zbn)) (hf _) rfl ?_;try simp (disch:=omega) [zG6,DtCSnap.cells])|(refine ⟨by omega,?_⟩)|(intro _)
 refine hK _ ?_;clear hK K
 refine zbf ?_
 refine AW_r rfl rfl λK hK=>?_
 simp (disch:=omega) [zG6,DtCSnap.cells]
 repeat' first|(refine zhv 0 (.inr rfl) (zcu [.s name] rfl) (zbe (zca rfl) (zbe zfl zbn)) (hf _) rfl ?_;try simp (disch:=omega) [zG6,DtCSnap.cells])|(refine ⟨by omega,?_⟩)|(intro _)
 refine hK _ ?_;clear hK K
 refine zbm ?_
 refine zbw (λmM sS=>∃(i:Nat),mM=xs.length-i∧(i≤xs.length∧∀j x,j<i→xs[j]? = some x→p x=false)∧sS = { env:=lkE [(0,.sl 3 (xs.map DtCSnap.cells)),(1,.fn F [] [.ptr 0 0]),(6,.sl 3 (xs.map DtCSnap.cells)),(7,(.g (.int .i64 ((xs.length:Nat))))),(8,(.g (.int .i64 ((i:Nat)))))],ob:=formOb [[.s name]] [] }) ?_ ?_
 ·refine ⟨_,LeS.kp [(0,.sl 3 (xs.map DtCSnap.cells)),(1,.fn F [] [.ptr 0 0]),(6,.sl 3 (xs.map DtCSnap.cells)),(7,(.g (.int .i64 ((xs.length:Nat))))),(8,(.g (.int .i64 (((0):Nat)))))] (by simp [zG5,KpE];try rfl),_,0,rfl,?_,rfl⟩
  ·simp
 ·rintro mM sS ⟨i,rfl,⟨hi,hpre⟩,rfl⟩
  refine AW_r rfl rfl λK hK=>?_
  simp (disch:=omega) [zG6,DtCSnap.cells]
  repeat' first|(refine zhv 0 (.inr rfl) (zcu [.s name] rfl) (zbe (zca rfl) (zbe zfl zbn)) (hf _) rfl ?_;try simp (disch:=omega) [zG6,DtCSnap.cells])|(refine ⟨by omega,?_⟩)|(intro _)
  refine hK _ ?_;clear hK K
  refine zbf ?_
  refine zbi rfl (λhc13=>?_) (λhc13=>?_)
  ·try simp at hc13
   all_goals
    have hg:xs[i]? = some (xs[i]):=List.getElem?_eq_getElem (by omega)
    refine zbj ?_
    refine zbo ?_
    refine zbf ?_
    refine zbm ?_
    refine AW_r rfl rfl λK hK=>?_
    simp (disch:=omega) [zG6,DtCSnap.cells]
    repeat' first|(exfalso;omega)|(refine zhv 0 (.inr rfl) (zcu [.s name] rfl) (zbe (zca rfl) (zbe zfl zbn)) (hf _) rfl ?_;try simp (disch:=omega) [zG6,DtCSnap.cells])|(refine ⟨λ_=>?_,λ_=>?_⟩)|(refine ⟨by omega,?_⟩)|(intro _)
    all_goals (refine hK _ ?_;clear hK K)
    all_goals
     refine AW_r rfl rfl λK hK=>?_
     simp (disch:=omega) [zG6,DtCSnap.cells]
     repeat' first|(refine zhv 0 (.inr rfl) (zcu [.s name] rfl) (zbe (zca rfl) (zbe zfl zbn)) (hf _) rfl ?_;try simp (disch:=omega) [zG6,DtCSnap.cells])|(refine ⟨by omega,?_⟩)|(intro _)
     refine hK _ ?_;clear hK K
     refine zbi rfl (λhc14=>?_) (λhc14=>?_)
     ·try simp at hc14
      all_goals
       refine AW_r rfl rfl λK hK=>?_
       simp (disch:=omega) [zG6,DtCSnap.cells]
       repeat' first|(exfalso;omega)|(refine zhv 0 (.inr rfl) (zcu [.s name] rfl) (zbe (zca rfl) (zbe zfl zbn)) (hf _) rfl ?_;try simp (disch:=omega) [zG6,DtCSnap.cells])|(refine ⟨λ_=>?_,λ_=>?_⟩)|(refine ⟨by omega,?_⟩)|(intro _)
       all_goals (refine hK _ ?_;clear hK K)
       all_goals
        refine zbl (zb5 ?_)
        simp (disch:=omega) [zG6,DtCSnap.cells]
        all_goals first|(exact zd4 (by assumption) (by assumption) hpre)|(exact zhw (λj x h=>hpre j x (by omega)))
     ·try simp at hc14
      all_goals
       refine zbj ?_
       refine zbo ?_
       refine zc0 rfl rfl λK hK=>?_
       simp (disch:=omega) [zG6,DtCSnap.cells]
       repeat' first|(exfalso;omega)|(refine zhv 0 (.inr rfl) (zcu [.s name] rfl) (zbe (zca rfl) (zbe zfl zbn)) (hf _) rfl ?_;try simp (disch:=omega) [zG6,DtCSnap.cells])|(refine ⟨λ_=>?_,λ_=>?_⟩)|(refine ⟨by omega,?_⟩)|(intro _)
       all_goals (refine hK _ ?_;clear hK K)
       all_goals
        refine ⟨_,LeS.kp [(0,.sl 3 (xs.map DtCSnap.cells)),(1,.fn F [] [.ptr 0 0]),(6,.sl 3 (xs.map DtCSnap.cells)),(7,(.g (.int .i64 ((xs.length:Nat))))),(8,(.g (.int .i64 (((i+1):Nat)))))] (by simp [zG5,KpE];try rfl),_,?_,i+1,rfl,?_,rfl⟩
        ·omega
        ·refine ⟨by omega,?_⟩;grind
  ·try simp at hc13
   all_goals
    refine zb4 ?_
    refine zbo ?_
    refine AW_r rfl rfl λK hK=>?_
    simp (disch:=omega) [zG6,DtCSnap.cells]
    repeat' first|(exfalso;omega)|(refine zhv 0 (.inr rfl) (zcu [.s name] rfl) (zbe (zca rfl) (zbe zfl zbn)) (hf _) rfl ?_;try simp (disch:=omega) [zG6,DtCSnap.cells])|(refine ⟨λ_=>?_,λ_=>?_⟩)|(refine ⟨by omega,?_⟩)|(intro _)
    all_goals (refine hK _ ?_;clear hK K)
    all_goals
     refine zbl (zb5 ?_)
     simp (disch:=omega) [zG6,DtCSnap.cells]
     all_goals first|(exact zd4 (by assumption) (by assumption) hpre)|(exact zhw (λj x h=>hpre j x (by omega)))
theorem snap(s:DtCSet)(name:List UInt8)(hs:s.fSnaps.length≤1048576):PCall Try.prog 58 [.agg (DtCSet.cells s),.s name] (.g (.int .i64 (findN s.fSnaps name))):=by
 refine zbp Try.func58 (by rfl) (by rfl) (by rw [Try.ntmps58];exact Nat.le_of_ble_eq_true rfl) rfl (by decide) ?_
 rw [Try.ntmps58]
 refine AW_k [(0,_),(1,_)] ⟨rfl,rfl,trivial⟩ ?_
 refine AW_r rfl rfl λK hK=>?_
 simp [DtCSet.cells]
 repeat' first|(refine ⟨by omega,?_⟩)|(intro _)
 refine hK _ ?_;clear hK K
 refine AW_r rfl rfl λK hK=>?_
 simp [DtCSet.cells]
 repeat' first|(refine zhv 64 (.inl rfl) (zcu [.s name] rfl) (zbe zfb (zbe am2_fn0 zbn)) (zmb _ hs (λx=>snap1 x name)) rfl ?_;simp [DtCSet.cells])|(refine ⟨by omega,?_⟩)|(intro _)
 refine hK _ ?_;clear hK K
 refine zbl (zb5 ?_)
 simp [DtCSet.cells,findN]
 all_goals first | omega|(simp_all;done)|(simp [List.take_of_length_le];done)|((try simp_all);(try simp (disch:=omega) only [zce,Int.tdiv_eq_ediv_of_nonneg,Int.tmod_eq_emod_of_nonneg,and_true,true_and]);done)|((try simp_all);(try simp (disch:=omega) only [zce,Int.tdiv_eq_ediv_of_nonneg,Int.tmod_eq_emod_of_nonneg,and_true,true_and] at *);omega)
theorem setOk(s:DtCSet)(hs:DtCSet.sz s≤1048576):PCall Try.prog 52 [.agg (DtCSet.cells s)] (.g (.bool (decB (SetP s)))):=by
 have hl:s.fSnaps.length≤1048576:=by have:=zcf DtCSnap.sz_nonneg s.fSnaps;simp only [DtCSet.sz,szS] at hs;omega
 have hw:s.fName.length≤1048576:=by have:=zcf DtCSnap.sz_nonneg s.fSnaps;simp only [DtCSet.sz,szS] at hs;omega
 have hsn:∀k (h:k<s.fSnaps.length),s.fSnaps[k].fName.length≤1048576∧s.fSnaps[k].fTag.length≤1048576∧s.fSnaps[k].fChunks.length≤1048576:=by
  intro k h
  have h1:=zcn DtCSnap.sz_nonneg s.fSnaps s.fSnaps[k] (List.getElem_mem _)
  have h2:=zcf zc1 s.fSnaps[k].fChunks
  simp only [DtCSet.sz,szS] at hs
  simp only [DtCSnap.sz,szS] at h1
  omega
 refine zbp Try.func52 (by rfl) (by rfl) (by rw [Try.ntmps52];exact Nat.le_of_ble_eq_true rfl) rfl (by decide) ?_
 rw [Try.ntmps52]
 refine AW_k [(0,_)] ⟨rfl,trivial⟩ ?_
 refine AW_r rfl rfl λK hK=>?_
 simp (disch:=omega) [zG4,DtCSet.cells,DtCSnap.cells]
 repeat' first|(refine ⟨by omega,?_⟩)|(intro _)
 refine hK _ ?_;clear hK K
 refine zbf ?_
 refine AW_r rfl rfl λK hK=>?_
 simp (disch:=omega) [zG4,DtCSet.cells,DtCSnap.cells]
 repeat' first|(refine ⟨by omega,?_⟩)|(intro _)
 refine hK _ ?_;clear hK K
 refine zbm ?_
 refine zbw (λmM sS=>∃(k:Nat),mM=s.fSnaps.length-k∧(k≤s.fSnaps.length∧∀j p,j<k→s.fSnaps[j]? = some p→SnapP p∧findN s.fSnaps p.fName=j)∧sS = { env:=lkE [(1,.ptr 32 0),(6,.sl 3 (s.fSnaps.map DtCSnap.cells)),(7,(.g (.int .i64 ((s.fSnaps.length:Nat))))),(8,(.g (.int .i64 ((k:Nat)))))],ob:=lk [(32,.cells (DtCSet.cells s))] }) ?_ ?_
 ·refine ⟨_,LeS.ko [(1,.ptr 32 0),(6,.sl 3 (s.fSnaps.map DtCSnap.cells)),(7,(.g (.int .i64 ((s.fSnaps.length:Nat))))),(8,(.g (.int .i64 (((0):Nat)))))] [(32,.cells (DtCSet.cells s))] (by simp [zG5,KpE,DtCSet.cells];try rfl) (by simp [zG7,KpO,DtCSet.cells];try rfl) (by rfl) (by simp) (by rfl),_,0,rfl,?_,rfl⟩
  ·simp
 ·rintro mM sS ⟨k,rfl,⟨hk,hkre⟩,rfl⟩
  refine AW_r rfl rfl λK hK=>?_
  simp (disch:=omega) [zG4,DtCSet.cells,DtCSnap.cells]
  repeat' first|(refine ⟨by omega,?_⟩)|(intro _)
  refine hK _ ?_;clear hK K
  refine zbf ?_
  refine zbi rfl (λhc15=>?_) (λhc15=>?_)
  ·try simp at hc15
   all_goals
    have hg2:s.fSnaps[k]? = some (s.fSnaps[k]):=List.getElem?_eq_getElem (by omega)
    have hm:=hsn k (by omega)
    refine zbj ?_
    refine zbo ?_
    refine zbf ?_
    refine zbm ?_
    refine AW_r rfl rfl λK hK=>?_
    simp (disch:=omega) [zG4,DtCSet.cells,DtCSnap.cells]
    repeat' first|(exfalso;omega)|(refine ⟨λ_=>?_,λ_=>?_⟩)|(refine ⟨by omega,?_⟩)|(intro _)
    all_goals (refine hK _ ?_;clear hK K)
    all_goals
     refine AW_r rfl rfl λK hK=>?_
     simp (disch:=omega) [zG4,DtCSet.cells,DtCSnap.cells]
     repeat' first|(exfalso;omega)|(refine zcj (zbe zg6 zbn) (isWord _ (by omega)) rfl ?_;simp (disch:=omega) [zG4,DtCSet.cells,DtCSnap.cells])|(refine zcj (zbe zch (zbe zch (zbe zch zbn))) (zlo _ _ _) rfl ?_;simp (disch:=omega) [zG4,DtCSet.cells,DtCSnap.cells])|(refine zcj (zbe zfb zbn) (zxr _ (by omega)) rfl ?_;simp (disch:=omega) [zG4,DtCSet.cells,DtCSnap.cells])|(refine zcj (zbe (zca rfl) (zbe zg6 zbn)) (snap _ _ (by omega)) rfl ?_;simp (disch:=omega) [zG4,DtCSet.cells,DtCSnap.cells])|(refine ⟨λ_=>?_,λ_=>?_⟩)|(refine ⟨by omega,?_⟩)|(intro _)
     all_goals (refine hK _ ?_;clear hK K)
     all_goals
      refine zbi rfl (λhc16=>?_) (λhc16=>?_)
      ·try simp at hc16
       all_goals
        refine AW_r rfl rfl λK hK=>?_
        simp (disch:=omega) [zG4,DtCSet.cells,DtCSnap.cells]
        repeat' first|(exfalso;omega)|(refine ⟨λ_=>?_,λ_=>?_⟩)|(refine ⟨by omega,?_⟩)|(intro _)
        all_goals (refine hK _ ?_;clear hK K)
        all_goals
         refine zbl (zb5 ?_)
         simp (disch:=omega) [zG4,DtCSet.cells,DtCSnap.cells]
         all_goals first | grind [SetP,SnapP,Ch8]|(refine zcx λh=>?_;grind [SetP,SnapP,Ch8])|(refine zcw ?_;grind [SetP,SnapP,Ch8])|(rw [Bool.eq_iff_iff,zbk];simp [zbk];grind [SetP,SnapP,Ch8])
      ·try simp at hc16
       all_goals
        refine zbj ?_
        refine zbo ?_
        refine zc0 rfl rfl λK hK=>?_
        simp (disch:=omega) [zG4,DtCSet.cells,DtCSnap.cells]
        repeat' first|(exfalso;omega)|(refine ⟨λ_=>?_,λ_=>?_⟩)|(refine ⟨by omega,?_⟩)|(intro _)
        all_goals (refine hK _ ?_;clear hK K)
        all_goals
         refine ⟨_,LeS.ko [(1,.ptr 32 0),(6,.sl 3 (s.fSnaps.map DtCSnap.cells)),(7,(.g (.int .i64 ((s.fSnaps.length:Nat))))),(8,(.g (.int .i64 (((k+1):Nat)))))] [(32,.cells (DtCSet.cells s))] (by simp [zG5,KpE,DtCSet.cells];try rfl) (by simp [zG7,KpO,DtCSet.cells];try rfl) (by rfl) (by simp) (by rfl),_,?_,k+1,rfl,?_,rfl⟩
         ·omega
         ·refine ⟨by omega,?_⟩;clear hsn;grind [SnapP,Ch8]
  ·try simp at hc15
   all_goals
    refine zb4 ?_
    refine zbo ?_
    refine AW_r rfl rfl λK hK=>?_
    simp (disch:=omega) [zG4,DtCSet.cells,DtCSnap.cells]
    repeat' first|(exfalso;omega)|(refine zcj (zbe zg6 zbn) (isWord _ (by omega)) rfl ?_;simp (disch:=omega) [zG4,DtCSet.cells,DtCSnap.cells])|(refine ⟨λ_=>?_,λ_=>?_⟩)|(refine ⟨by omega,?_⟩)|(intro _)
    all_goals (refine hK _ ?_;clear hK K)
    all_goals
     refine zbl (zb5 ?_)
     simp (disch:=omega) [zG4,DtCSet.cells,DtCSnap.cells]
     all_goals first | grind [SetP,SnapP,Ch8]|(refine zcx λh=>?_;grind [SetP,SnapP,Ch8])|(refine zcw ?_;grind [SetP,SnapP,Ch8])|(rw [Bool.eq_iff_iff,zbk];simp [zbk];grind [SetP,SnapP,Ch8])
theorem zxs(c:DtCatalog)(hs:DtCatalog.sz c≤1048576):PCall Try.prog 45 [.agg (DtCatalog.cells c)] (.g (.bool (decB (CatP c)))):=by
 have hl:c.fSets.length≤1048576:=by have:=zcf DtCSet.sz_nonneg c.fSets;simp only [DtCatalog.sz,szS] at hs;omega
 have hl2:∀i (h:i<c.fSets.length),DtCSet.sz c.fSets[i]≤1048576:=by
  intro i h
  have h1:=zcn DtCSet.sz_nonneg c.fSets c.fSets[i] (List.getElem_mem _)
  simp only [DtCatalog.sz,szS] at hs
  omega
 refine zbp Try.func45 (by rfl) (by rfl) (by rw [Try.ntmps45];exact Nat.le_of_ble_eq_true rfl) rfl (by decide) ?_
 rw [Try.ntmps45]
 refine AW_k [(0,_)] ⟨rfl,trivial⟩ ?_
 refine AW_r rfl rfl λK hK=>?_
 simp (disch:=omega) [zG4,DtCatalog.cells,DtCSet.cells,DtCSnap.cells]
 repeat' first|(refine ⟨by omega,?_⟩)|(intro _)
 refine hK _ ?_;clear hK K
 refine zbf ?_
 refine AW_r rfl rfl λK hK=>?_
 simp (disch:=omega) [zG4,DtCatalog.cells,DtCSet.cells,DtCSnap.cells]
 repeat' first|(refine ⟨by omega,?_⟩)|(intro _)
 refine hK _ ?_;clear hK K
 refine zbm ?_
 refine zbw (λmM sS=>∃(i:Nat),mM=c.fSets.length-i∧(i≤c.fSets.length∧∀j s,j<i→c.fSets[j]? = some s→SetP s∧∀t,0<j→c.fSets[j-1]? = some t→Op.bytesLess t.fName s.fName=true)∧sS = { env:=lkE [(1,.ptr 32 0),(6,.sl 2 (c.fSets.map DtCSet.cells)),(7,(.g (.int .i64 ((c.fSets.length:Nat))))),(8,(.g (.int .i64 ((i:Nat)))))],ob:=lk [(32,.cells (DtCatalog.cells c))] }) ?_ ?_
 ·refine ⟨_,LeS.ko [(1,.ptr 32 0),(6,.sl 2 (c.fSets.map DtCSet.cells)),(7,(.g (.int .i64 ((c.fSets.length:Nat))))),(8,(.g (.int .i64 (((0):Nat)))))] [(32,.cells (DtCatalog.cells c))] (by simp [zG5,KpE,DtCatalog.cells,DtCSet.cells];try rfl) (by simp [zG7,KpO,DtCatalog.cells,DtCSet.cells];try rfl) (by rfl) (by simp) (by rfl),_,0,rfl,?_,rfl⟩
  ·simp
 ·rintro mM sS ⟨i,rfl,⟨hi,hpre⟩,rfl⟩
  refine AW_r rfl rfl λK hK=>?_
  simp (disch:=omega) [zG4,DtCatalog.cells,DtCSet.cells,DtCSnap.cells]
  repeat' first|(refine ⟨by omega,?_⟩)|(intro _)
  refine hK _ ?_;clear hK K
  refine zbf ?_
  refine zbi rfl (λhc17=>?_) (λhc17=>?_)
  ·try simp at hc17
   all_goals
    have hg:c.fSets[i]? = some (c.fSets[i]):=List.getElem?_eq_getElem (by omega)
    have hg':c.fSets[i-1]? = some (c.fSets[i-1]):=List.getElem?_eq_getElem (by omega)
    have hm:=hl2 i (by omega)
    rcases Nat.eq_zero_or_pos i with hi0 | hi0
    all_goals
     refine zbj ?_
     refine zbo ?_
     refine zbf ?_
     refine zbm ?_
     refine AW_r rfl rfl λK hK=>?_
     simp (disch:=omega) [zG4,DtCatalog.cells,DtCSet.cells,DtCSnap.cells]
     repeat' first|(exfalso;omega)|(refine ⟨λ_=>?_,λ_=>?_⟩)|(refine ⟨by omega,?_⟩)|(intro _)
     all_goals (refine hK _ ?_;clear hK K)
     all_goals
      refine AW_q rfl mix (by kernel_rfl) rfl λK hK=>?_
      simp (disch:=omega) [zG4,DtCatalog.cells,DtCSet.cells,DtCSnap.cells]
      repeat' first|(exfalso;omega)|(refine zcj (zbe (zca rfl) zbn) (setOk _ (by first | assumption | omega)) rfl ?_;simp (disch:=omega) [zG4,DtCatalog.cells,DtCSet.cells,DtCSnap.cells])|(refine ⟨λ_=>?_,λ_=>?_⟩)|(refine ⟨by omega,?_⟩)|(intro _)
      all_goals (refine hK _ ?_;clear hK K)
      all_goals
       refine zbi rfl (λhc18=>?_) (λhc18=>?_)
       ·try simp at hc18
        all_goals
         refine AW_r rfl rfl λK hK=>?_
         simp (disch:=omega) [zG4,DtCatalog.cells,DtCSet.cells,DtCSnap.cells]
         repeat' first|(exfalso;omega)|(refine ⟨λ_=>?_,λ_=>?_⟩)|(refine ⟨by omega,?_⟩)|(intro _)
         all_goals (refine hK _ ?_;clear hK K)
         all_goals
          refine zbl (zb5 ?_)
          simp (disch:=omega) [zG4,DtCatalog.cells,DtCSet.cells,DtCSnap.cells]
          all_goals first | grind [CatP]|(refine zcx λh=>?_;grind [CatP])|(refine zcw ?_;grind [CatP])|(rw [Bool.eq_iff_iff,zbk];simp;grind [CatP])
       ·try simp at hc18
        all_goals
         refine zbj ?_
         refine zbo ?_
         refine zc0 rfl rfl λK hK=>?_
         simp (disch:=omega) [zG4,DtCatalog.cells,DtCSet.cells,DtCSnap.cells]
         repeat' first|(exfalso;omega)|(refine ⟨λ_=>?_,λ_=>?_⟩)|(refine ⟨by omega,?_⟩)|(intro _)
         all_goals (refine hK _ ?_;clear hK K)
         all_goals
          refine ⟨_,LeS.ko [(1,.ptr 32 0),(6,.sl 2 (c.fSets.map DtCSet.cells)),(7,(.g (.int .i64 ((c.fSets.length:Nat))))),(8,(.g (.int .i64 (((i+1):Nat)))))] [(32,.cells (DtCatalog.cells c))] (by simp [zG5,KpE,DtCatalog.cells,DtCSet.cells];try rfl) (by simp [zG7,KpO,DtCatalog.cells,DtCSet.cells];try rfl) (by rfl) (by simp) (by rfl),_,?_,i+1,rfl,?_,rfl⟩
          ·omega
          ·refine ⟨by omega,?_⟩;clear hg' hl2;grind
  ·try simp at hc17
   all_goals
    refine zb4 ?_
    refine zbo ?_
    refine AW_r rfl rfl λK hK=>?_
    simp (disch:=omega) [zG4,DtCatalog.cells,DtCSet.cells,DtCSnap.cells]
    repeat' first|(exfalso;omega)|(refine ⟨λ_=>?_,λ_=>?_⟩)|(refine ⟨by omega,?_⟩)|(intro _)
    all_goals (refine hK _ ?_;clear hK K)
    all_goals
     refine zbl (zb5 ?_)
     simp (disch:=omega) [zG4,DtCatalog.cells,DtCSet.cells,DtCSnap.cells]
     all_goals first | grind [CatP]|(refine zcx λh=>?_;grind [CatP])|(refine zcw ?_;grind [CatP])|(rw [Bool.eq_iff_iff,zbk];simp;grind [CatP])
end Go.Proofs.Ytchpfloemfoomaa.Vs
end
section
namespace Go.Proofs.Ytchpfloemfoomaa.Vs
set_option linter.all false
set_option maxRecDepth 100000
def SaidAt(l:List DtSaid)(i:Nat)(x:DtSaid):Prop:=1≤x.fClient∧x.fClient≤9∧1≤x.fNo∧x.fNo≤1000∧∀y,0<i→l[i-1]? = some y→y.fClient<x.fClient
def StateP(s:DtState):Prop:=CatP s.fCat∧∀(i:Nat) x,s.fSaid[i]? = some x→SaidAt s.fSaid i x
theorem znu(s:DtState)(hs:DtState.sz s≤1048576):DtCatalog.sz s.fCat≤1048576∧s.fSaid.length≤1048576:=by
 have h0:=zcf DtSaid.sz_nonneg s.fSaid
 have h1:=DtCatalog.sz_nonneg s.fCat
 simp only [DtState.sz,szS] at hs
 omega
theorem zlp(s:DtState)(hs:DtState.sz s≤1048576):PCall Try.prog 27 [.agg (DtState.cells s)] (.g (.bool (decB (StateP s)))):=by
 have ⟨hz,hl⟩:=znu s hs
 refine zbp Try.func27 (by rfl) (by rfl) (by rw [Try.ntmps27];exact Nat.le_of_ble_eq_true rfl) rfl (by decide) ?_
 rw [Try.ntmps27]
 refine AW_k [(0,_)] ⟨rfl,trivial⟩ ?_
 refine AW_r rfl rfl λK hK=>?_
 simp (disch:=omega) [zG4,DtState.cells,DtCatalog.cells,DtSaid.cells]
 repeat' first|(exfalso;omega)|(refine ⟨λ_=>?_,λ_=>?_⟩)|(refine ⟨by omega,?_⟩)|(intro _)
 all_goals (refine hK _ ?_;clear hK K)
 all_goals
  refine zbf ?_
  refine AW_r rfl rfl λK hK=>?_
  simp (disch:=omega) [zG4,DtState.cells,DtCatalog.cells,DtSaid.cells]
  repeat' first|(exfalso;omega)|(refine zcj (zbe (zca rfl) zbn) (zxq _ (by omega)) rfl ?_;simp (disch:=omega) [zG4,DtState.cells,DtCatalog.cells,DtSaid.cells])|(refine ⟨λ_=>?_,λ_=>?_⟩)|(refine ⟨by omega,?_⟩)|(intro _)
  all_goals (refine hK _ ?_;clear hK K)
  all_goals
   refine zbi rfl (λhc1=>?_) (λhc1=>?_)
   ·try simp [zbk,zbh,zbb,zba] at hc1
    all_goals
     refine AW_r rfl rfl λK hK=>?_
     simp (disch:=omega) [zG4,DtState.cells,DtCatalog.cells,DtSaid.cells]
     repeat' first|(exfalso;omega)|(refine ⟨λ_=>?_,λ_=>?_⟩)|(refine ⟨by omega,?_⟩)|(intro _)
     all_goals (refine hK _ ?_;clear hK K)
     all_goals
      refine zbl (zb5 ?_)
      simp (disch:=omega) [zG4,DtState.cells,DtCatalog.cells,DtSaid.cells]
      all_goals first | grind [StateP,SaidAt]|(refine zcx λh=>?_;grind [StateP,SaidAt])|(refine zcw ?_;grind [StateP,SaidAt])
   ·try simp [zbk,zbh,zbb,zba] at hc1
    all_goals
     refine zbj ?_
     refine zbo ?_
     refine zbf ?_
     refine AW_r rfl rfl λK hK=>?_
     simp (disch:=omega) [zG4,DtState.cells,DtCatalog.cells,DtSaid.cells]
     repeat' first|(exfalso;omega)|(refine ⟨λ_=>?_,λ_=>?_⟩)|(refine ⟨by omega,?_⟩)|(intro _)
     all_goals (refine hK _ ?_;clear hK K)
     all_goals
      refine zbm ?_
      refine zbw (λmM sS=>∃(i:Nat),mM=s.fSaid.length-i∧(i≤s.fSaid.length∧∀(j:Nat) x,j<i→s.fSaid[j]? = some x→SaidAt s.fSaid j x)∧sS = { env:=lkE [(1,.ptr 32 0),(3,(.g (.int .i64 ((i:Nat)))))],ob:=lk [(32,.cells (DtState.cells s))] }) ?_ ?_
      ·refine ⟨_,LeS.ko [(1,.ptr 32 0),(3,(.g (.int .i64 (((0):Nat)))))] [(32,.cells (DtState.cells s))] (by simp [zG5,KpE,DtState.cells,DtCatalog.cells];try rfl) (by simp [zG7,KpO,DtState.cells,DtCatalog.cells];try rfl) (by rfl) (by simp) (by rfl),_,0,rfl,?_,rfl⟩
       ·simp
      ·rintro mM sS ⟨i,rfl,⟨hi,hpre⟩,rfl⟩
       refine zbf ?_
       refine AW_r rfl rfl λK hK=>?_
       simp (disch:=omega) [zG4,DtState.cells,DtCatalog.cells,DtSaid.cells]
       repeat' first|(exfalso;omega)|(refine ⟨λ_=>?_,λ_=>?_⟩)|(refine ⟨by omega,?_⟩)|(intro _)
       all_goals (refine hK _ ?_;clear hK K)
       all_goals
        refine zbi rfl (λhc2=>?_) (λhc2=>?_)
        ·try simp [zbk,zbh,zbb,zba] at hc2
         all_goals
          have hg:s.fSaid[i]? = some s.fSaid[i]:=List.getElem?_eq_getElem (by omega)
          have hg':s.fSaid[i-1]? = some s.fSaid[i-1]:=List.getElem?_eq_getElem (by omega)
          rcases Nat.eq_zero_or_pos i with hi0 | hi0
          all_goals
           refine zbj ?_
           refine zbo ?_
           refine zbf ?_
           refine zbm ?_
           refine AW_r rfl rfl λK hK=>?_
           simp (disch:=omega) [zG4,DtState.cells,DtCatalog.cells,DtSaid.cells]
           repeat' first|(exfalso;omega)|(refine ⟨λ_=>?_,λ_=>?_⟩)|(refine ⟨by omega,?_⟩)|(intro _)
           all_goals (refine hK _ ?_;clear hK K)
           all_goals
            refine AW_q rfl mix (by kernel_rfl) rfl λK hK=>?_
            simp (disch:=omega) [zG4,DtState.cells,DtCatalog.cells,DtSaid.cells]
            repeat' first|(exfalso;omega)|(refine zcj (zbe zch (zbe zch (zbe zch zbn))) (l1In _ _ _) rfl ?_;simp (disch:=omega) [zG4,DtState.cells,DtCatalog.cells,DtSaid.cells])|(refine ⟨λ_=>?_,λ_=>?_⟩)|(refine ⟨by omega,?_⟩)|(intro _)
            all_goals (refine hK _ ?_;clear hK K)
            all_goals
             refine zbi rfl (λhc3=>?_) (λhc3=>?_)
             ·try simp [zbk,zbh,zbb,zba] at hc3
              all_goals
               refine AW_r rfl rfl λK hK=>?_
               simp (disch:=omega) [zG4,DtState.cells,DtCatalog.cells,DtSaid.cells]
               repeat' first|(exfalso;omega)|(refine ⟨λ_=>?_,λ_=>?_⟩)|(refine ⟨by omega,?_⟩)|(intro _)
               all_goals (refine hK _ ?_;clear hK K)
               all_goals
                refine zbl (zb5 ?_)
                simp (disch:=omega) [zG4,DtState.cells,DtCatalog.cells,DtSaid.cells]
                all_goals first | grind [StateP,SaidAt]|(refine zcx λh=>?_;grind [StateP,SaidAt])|(refine zcw ?_;grind [StateP,SaidAt])
             ·try simp [zbk,zbh,zbb,zba] at hc3
              all_goals
               refine zbj ?_
               refine zbo ?_
               refine zc0 rfl rfl λK hK=>?_
               simp (disch:=omega) [zG4,DtState.cells,DtCatalog.cells,DtSaid.cells]
               repeat' first|(exfalso;omega)|(refine ⟨λ_=>?_,λ_=>?_⟩)|(refine ⟨by omega,?_⟩)|(intro _)
               all_goals (refine hK _ ?_;clear hK K)
               all_goals
                refine ⟨_,LeS.ko [(1,.ptr 32 0),(3,(.g (.int .i64 (((i+1):Nat)))))] [(32,.cells (DtState.cells s))] (by simp [zG5,KpE,DtState.cells,DtCatalog.cells];try rfl) (by simp [zG7,KpO,DtState.cells,DtCatalog.cells];try rfl) (by rfl) (by simp) (by rfl),_,?_,i+1,rfl,?_,rfl⟩
                ·omega
                ·refine ⟨by omega,?_⟩;clear hg';grind [SaidAt]
        ·try simp [zbk,zbh,zbb,zba] at hc2
         all_goals
          refine zb4 ?_
          refine zbo ?_
          refine AW_r rfl rfl λK hK=>?_
          simp (disch:=omega) [zG4,DtState.cells,DtCatalog.cells,DtSaid.cells]
          repeat' first|(exfalso;omega)|(refine ⟨λ_=>?_,λ_=>?_⟩)|(refine ⟨by omega,?_⟩)|(intro _)
          all_goals (refine hK _ ?_;clear hK K)
          all_goals
           refine zbl (zb5 ?_)
           simp (disch:=omega) [zG4,DtState.cells,DtCatalog.cells,DtSaid.cells]
           all_goals first | grind [StateP,SaidAt]|(refine zcx λh=>?_;grind [StateP,SaidAt])|(refine zcw ?_;grind [StateP,SaidAt])
theorem zlq(s:DtState)(hs:DtState.sz s≤1048576):PCall Try.prog 34 [.agg (DtState.cells s)] (.g (.bool (decB (StateP s)))):=by
 have ⟨hz,hl⟩:=znu s hs
 refine zbp Try.func34 (by rfl) (by rfl) (by rw [Try.ntmps34];exact Nat.le_of_ble_eq_true rfl) rfl (by decide) ?_
 rw [Try.ntmps34]
 refine AW_k [(0,_)] ⟨rfl,trivial⟩ ?_
 refine AW_r rfl rfl λK hK=>?_
 simp (disch:=omega) [zG4,DtState.cells,DtCatalog.cells,DtSaid.cells]
 repeat' first|(exfalso;omega)|(refine ⟨λ_=>?_,λ_=>?_⟩)|(refine ⟨by omega,?_⟩)|(intro _)
 all_goals (refine hK _ ?_;clear hK K)
 all_goals
  refine zbf ?_
  refine AW_r rfl rfl λK hK=>?_
  simp (disch:=omega) [zG4,DtState.cells,DtCatalog.cells,DtSaid.cells]
  repeat' first|(exfalso;omega)|(refine ⟨λ_=>?_,λ_=>?_⟩)|(refine ⟨by omega,?_⟩)|(intro _)
  all_goals (refine hK _ ?_;clear hK K)
  all_goals
   refine zbm ?_
   refine zbw (λmM sS=>∃(i:Nat),mM=s.fSaid.length-i∧(i≤s.fSaid.length∧∀(j:Nat) x,j<i→s.fSaid[j]? = some x→SaidAt s.fSaid j x)∧sS = { env:=lkE [(1,.ptr 32 0),(6,.sl 3 (s.fSaid.map DtSaid.cells)),(7,(.g (.int .i64 ((s.fSaid.length:Nat))))),(8,(.g (.int .i64 ((i:Nat)))))],ob:=lk [(32,.cells (DtState.cells s))] }) ?_ ?_
   ·refine ⟨_,LeS.ko [(1,.ptr 32 0),(6,.sl 3 (s.fSaid.map DtSaid.cells)),(7,(.g (.int .i64 ((s.fSaid.length:Nat))))),(8,(.g (.int .i64 (((0):Nat)))))] [(32,.cells (DtState.cells s))] (by simp [zG5,KpE,DtState.cells,DtCatalog.cells];try rfl) (by simp [zG7,KpO,DtState.cells,DtCatalog.cells];try rfl) (by rfl) (by simp) (by rfl),_,0,rfl,?_,rfl⟩
    ·simp
   ·rintro mM sS ⟨i,rfl,⟨hi,hpre⟩,rfl⟩
    refine AW_r rfl rfl λK hK=>?_
    simp (disch:=omega) [zG4,DtState.cells,DtCatalog.cells,DtSaid.cells]
    repeat' first|(exfalso;omega)|(refine ⟨λ_=>?_,λ_=>?_⟩)|(refine ⟨by omega,?_⟩)|(intro _)
    all_goals (refine hK _ ?_;clear hK K)
    all_goals
     refine zbf ?_
     refine zbi rfl (λhc4=>?_) (λhc4=>?_)
     ·try simp [zbk,zbh,zbb,zba] at hc4
      all_goals
       have hg:s.fSaid[i]? = some s.fSaid[i]:=List.getElem?_eq_getElem (by omega)
       have hg':s.fSaid[i-1]? = some s.fSaid[i-1]:=List.getElem?_eq_getElem (by omega)
       rcases Nat.eq_zero_or_pos i with hi0 | hi0
       all_goals
        refine zbj ?_
        refine zbo ?_
        refine zbf ?_
        refine zbm ?_
        refine AW_r rfl rfl λK hK=>?_
        simp (disch:=omega) [zG4,DtState.cells,DtCatalog.cells,DtSaid.cells]
        repeat' first|(exfalso;omega)|(refine ⟨λ_=>?_,λ_=>?_⟩)|(refine ⟨by omega,?_⟩)|(intro _)
        all_goals (refine hK _ ?_;clear hK K)
        all_goals
         refine AW_q rfl mix (by kernel_rfl) rfl λK hK=>?_
         simp (disch:=omega) [zG4,DtState.cells,DtCatalog.cells,DtSaid.cells]
         repeat' first|(exfalso;omega)|(refine zcj (zbe zch (zbe zch (zbe zch zbn))) (zlo _ _ _) rfl ?_;simp (disch:=omega) [zG4,DtState.cells,DtCatalog.cells,DtSaid.cells])|(refine ⟨λ_=>?_,λ_=>?_⟩)|(refine ⟨by omega,?_⟩)|(intro _)
         all_goals (refine hK _ ?_;clear hK K)
         all_goals
          refine zbi rfl (λhc5=>?_) (λhc5=>?_)
          ·try simp [zbk,zbh,zbb,zba] at hc5
           all_goals
            refine AW_r rfl rfl λK hK=>?_
            simp (disch:=omega) [zG4,DtState.cells,DtCatalog.cells,DtSaid.cells]
            repeat' first|(exfalso;omega)|(refine ⟨λ_=>?_,λ_=>?_⟩)|(refine ⟨by omega,?_⟩)|(intro _)
            all_goals (refine hK _ ?_;clear hK K)
            all_goals
             refine zbl (zb5 ?_)
             simp (disch:=omega) [zG4,DtState.cells,DtCatalog.cells,DtSaid.cells]
             all_goals first | grind [StateP,SaidAt]|(refine zcx λh=>?_;grind [StateP,SaidAt])|(refine zcw ?_;grind [StateP,SaidAt])|(rw [Bool.eq_iff_iff,zbk,zbk];grind [StateP,SaidAt])
          ·try simp [zbk,zbh,zbb,zba] at hc5
           all_goals
            refine zbj ?_
            refine zbo ?_
            refine zc0 rfl rfl λK hK=>?_
            simp (disch:=omega) [zG4,DtState.cells,DtCatalog.cells,DtSaid.cells]
            repeat' first|(exfalso;omega)|(refine ⟨λ_=>?_,λ_=>?_⟩)|(refine ⟨by omega,?_⟩)|(intro _)
            all_goals (refine hK _ ?_;clear hK K)
            all_goals
             refine ⟨_,LeS.ko [(1,.ptr 32 0),(6,.sl 3 (s.fSaid.map DtSaid.cells)),(7,(.g (.int .i64 ((s.fSaid.length:Nat))))),(8,(.g (.int .i64 (((i+1):Nat)))))] [(32,.cells (DtState.cells s))] (by simp [zG5,KpE,DtState.cells,DtCatalog.cells];try rfl) (by simp [zG7,KpO,DtState.cells,DtCatalog.cells];try rfl) (by rfl) (by simp) (by rfl),_,?_,i+1,rfl,?_,rfl⟩
             ·omega
             ·refine ⟨by omega,?_⟩;clear hg';grind [SaidAt]
     ·try simp [zbk,zbh,zbb,zba] at hc4
      all_goals
       refine zb4 ?_
       refine zbo ?_
       refine AW_r rfl rfl λK hK=>?_
       simp (disch:=omega) [zG4,DtState.cells,DtCatalog.cells,DtSaid.cells]
       repeat' first|(exfalso;omega)|(refine zcj (zbe (zca rfl) zbn) (zxs _ (by omega)) rfl ?_;simp (disch:=omega) [zG4,DtState.cells,DtCatalog.cells,DtSaid.cells])|(refine ⟨λ_=>?_,λ_=>?_⟩)|(refine ⟨by omega,?_⟩)|(intro _)
       all_goals (refine hK _ ?_;clear hK K)
       all_goals
        refine zbl (zb5 ?_)
        simp (disch:=omega) [zG4,DtState.cells,DtCatalog.cells,DtSaid.cells]
        all_goals first | grind [StateP,SaidAt]|(refine zcx λh=>?_;grind [StateP,SaidAt])|(refine zcw ?_;grind [StateP,SaidAt])|(rw [Bool.eq_iff_iff,zbk,zbk];grind [StateP,SaidAt])
end Go.Proofs.Ytchpfloemfoomaa.Vs
end
section
namespace Go.Proofs.Ytchpfloemfoomaa.Vs
set_option linter.all false
set_option maxRecDepth 100000
/-- Seven bits a byte. -/
def varB(n:Nat):List UInt8:=if n<128 then [UInt8.ofNat n] else UInt8.ofNat (128+n % 128) :: varB (n / 128)
termination_by n
decreasing_by omega
theorem zff{n:Nat}(h:n<128):varB n=[UInt8.ofNat n]:=by unfold varB;rw [if_pos h]
theorem zjn{n:Nat}(h:¬n<128):varB n=UInt8.ofNat (128+n % 128) :: varB (n / 128):=by rw [varB];rw [if_neg h]
theorem zs5:∀(k n:Nat),n<128^(k+1)→(varB n).length≤k+1
 | 0,n,h=>by rw [zff (by simpa using h)];simp
 | k+1,n,h=>by
  by_cases h2:n<128
  ·rw [zff h2];simp
  ·rw [zjn h2]
   have:=zs5 k (n / 128) (by rw [Nat.pow_succ] at h;omega)
   simp;omega
def varZ(n:Int):List UInt8:=if 0≤n∧n≤562949953421311 then varB n.toNat else []
theorem zcm(n:Int):(varZ n).length≤7:=by
 unfold varZ
 split
 ·rename_i h
  have h7:(128:Nat)^7=562949953421312:=by decide
  exact zs5 6 n.toNat (by omega)
 ·simp
def cB8v(n:Int):List AV:=[.g (.int .u8 n)]
theorem zlr:∀ns:List Int,numsOf (ns.map cB8v)=some ns
 | []=>rfl
 | n :: ns=>by
  have:=zlr ns
  simp only [List.map_cons,cB8v,numsOf] at this ⊢
  rw [this];rfl
theorem zls:∀(ns:List Int) (m:Int),numsOf (ns.map cB8v++[[.g (.int .u8 m)]])=some (ns++[m]):=by
 intro ns m
 have:=zlr (ns++[m])
 simpa [cB8v] using this
theorem zqe(ns:List Int):(strN ns).length=ns.length:=by simp [strN]
theorem tk1v(acc:List Int):List.take acc.length (acc.map cB8v)=acc.map cB8v:=List.take_of_length_le (by simp)
theorem tk2v(acc:List Int)(y:List AV):List.take (acc.length+1) (acc.map cB8v++[y])=acc.map cB8v++[y]:=List.take_of_length_le (by simp)
theorem tdivNv(m:Nat):(m:Int).tdiv 128=((m / 128:Nat):Int):=by rw [Int.tdiv_eq_ediv_of_nonneg (by omega)];rfl
theorem tmodNv(m:Nat):(m:Int).tmod 128=((m % 128:Nat):Int):=by rw [Int.tmod_eq_emod_of_nonneg (by omega)];rfl
theorem zgs{n:Int}(h0:0≤n)(h1:n<256):IntKind.u8.wrap n=n:=by
 simp [IntKind.wrap,IntKind.bits,IntKind.signed]
 omega
theorem shrNv(m:Nat):(m:Int).fdiv (2^min 7 IntKind.i64.bits)=((m / 128:Nat):Int):=by
 have:min 7 IntKind.i64.bits=7:=rfl
 rw [this,Int.fdiv_eq_ediv_of_nonneg _ (by decide)]
 rfl
theorem bothNv(m:Nat):IntKind.i64.wrap (((IntKind.i64.wrap ((m % 2^IntKind.i64.bits &&& 127 % 2^IntKind.i64.bits:Nat):Int) % 2^IntKind.i64.bits).toNat ||| 128 % 2^IntKind.i64.bits:Nat):Int)=((128+m % 128:Nat):Int):=by
 have hb:IntKind.i64.bits=64:=rfl
 rw [hb]
 have h1:m % 2^64 &&& 127 % 2^64=m % 128:=by
  have:=Nat.and_two_pow_sub_one_eq_mod (m % 2^64) 7
  have e:(127:Nat) % 2^64=2^7-1:=by decide
  rw [e,this];omega
 rw [h1,zce (n:=((m % 128:Nat):Int)) (by omega) (by omega)]
 have h2:(((m % 128:Nat):Int) % 2^64).toNat=m % 128:=by omega
 rw [h2]
 have h3:m % 128 ||| 128 % 2^64=128+m % 128:=by
  have:=Nat.two_pow_add_eq_or_of_lt (i:=7) (b:=m % 128) (by omega) 1
  rw [Nat.or_comm,show (128:Nat) % 2^64=2^7*1 by decide,←this]
 rw [h3,zce (by omega) (by omega)]
theorem zf4(acc:List Int)(m:Nat):strN (acc++[(m:Int)])=strN acc++[UInt8.ofNat m]:=by simp [strN]
def zG8:=And.intro @zce (And.intro @zcv (And.intro @zgs (And.intro @tk1v (And.intro @tk2v (And.intro @zls (And.intro @tdivNv @tmodNv))))))
theorem zhd(n:Int):PCall Try.prog 28 [(.g (.int .i64 (n)))] (.s (varZ n)):=by
 by_cases hn:0≤n∧n≤562949953421311
 ·have hz:varZ n=varB n.toNat:=by unfold varZ;rw [if_pos hn]
  have hl:=zcm n
  rw [hz] at hl ⊢
  refine zbp Try.func28 (by rfl) (by rfl) (by rw [Try.ntmps28];exact Nat.le_of_ble_eq_true rfl) rfl (by decide) ?_
  rw [Try.ntmps28]
  refine AW_k [(0,_)] ⟨rfl,trivial⟩ ?_
  refine AW_r rfl rfl λK hK=>?_
  simp (disch:=omega) [zG8,List.getElem?_eq_getElem,aNews,aAppend,aBuildSlice,chunks]
  repeat' first|(refine ⟨by omega,?_⟩)|(intro _)
  refine hK _ ?_;clear hK K
  refine zbf ?_
  refine AW_r rfl rfl λK hK=>?_
  simp (disch:=omega) [zG8,List.getElem?_eq_getElem,aNews,aAppend,aBuildSlice,chunks]
  repeat' first|(exfalso;omega)|(refine zcj (zbe zch (zbe zch (zbe zch zbn))) (l1In _ _ _) rfl ?_;simp (disch:=omega) [zG8,List.getElem?_eq_getElem,aNews,aAppend,aBuildSlice,chunks])|(refine ⟨by omega,?_⟩)|(intro _)
  refine hK _ ?_;clear hK K
  refine zbi rfl (λhc1=>?_) (λhc1=>?_)
  ·try simp [zbk,zbh,zbb,zba] at hc1
   all_goals
    refine AW_r rfl rfl λK hK=>?_
    simp (disch:=omega) [zG8,List.getElem?_eq_getElem,aNews,aAppend,aBuildSlice,chunks]
    repeat' first|(exfalso;omega)|(refine ⟨λ_=>?_,λ_=>?_⟩)|(refine ⟨by omega,?_⟩)|(intro _)
    all_goals (refine hK _ ?_;clear hK K)
    all_goals
     refine zbl (zb5 ?_)
     simp (disch:=omega) [zG8,List.getElem?_eq_getElem,aNews,aAppend,aBuildSlice,chunks]
     all_goals first|(rw [zf4,←hv,zff (by omega)];done)
  ·try simp [zbk,zbh,zbb,zba] at hc1
   all_goals
    refine zbj ?_
    refine zbo ?_
    refine AW_r rfl rfl λK hK=>?_
    simp (disch:=omega) [zG8,List.getElem?_eq_getElem,aNews,aAppend,aBuildSlice,chunks]
    repeat' first|(exfalso;omega)|(refine ⟨λ_=>?_,λ_=>?_⟩)|(refine ⟨by omega,?_⟩)|(intro _)
    all_goals (refine hK _ ?_;clear hK K)
    all_goals
     refine zbf ?_
     refine zbm ?_
     refine zbw (λmM sS=>∃(acc:List Int) (m:Nat),mM=m+1∧(strN acc++varB m=varB n.toNat∧m≤n.toNat)∧sS = { env:=lkE [(0,(.g (.int .i64 ((m:Nat))))),(3,.arr 128 0 acc.length)],ob:=lk [(128,.flat 1 (acc.map cB8v))] }) ?_ ?_
     ·refine ⟨_,LeS.kr [(128,128)] [(0,(.g (.int .i64 (((n.toNat):Nat))))),(3,.arr 128 0 ([]).length)] [(128,.flat 1 (([]).map cB8v))] (by simp [zG5,KpR,renV2,renV,zb0,cB8v];try omega) (by simp [zG7,KpOR,renO,renV,cB8v];try rfl) (by rfl) (by rfl) (by simp) (by simp) (by rfl) (by simp [forms]),_,[],n.toNat,rfl,?_,rfl⟩
      ·simp [strN]
     ·rintro mM sS ⟨acc,m,rfl,⟨hv,hm⟩,rfl⟩
      have hal:acc.length≤7:=by have:=congrArg List.length hv;simp [zqe] at this;omega
      refine zbf ?_
      refine AW_r rfl rfl λK hK=>?_
      simp (disch:=omega) [zG8,List.getElem?_eq_getElem,aNews,aAppend,aBuildSlice,chunks]
      repeat' first|(refine ⟨by omega,?_⟩)|(intro _)
      refine hK _ ?_;clear hK K
      refine zbi rfl (λhc2=>?_) (λhc2=>?_)
      ·try simp [zbk,zbh,zbb,zba] at hc2
       all_goals
        have hge:=zjn (n:=m) (by omega)
        refine zbj ?_
        refine zbo ?_
        refine zbm ?_
        refine AW_r rfl rfl λK hK=>?_
        simp (disch:=omega) [zG8,List.getElem?_eq_getElem,aNews,aAppend,aBuildSlice,chunks]
        repeat' first|(exfalso;omega)|(refine ⟨λ_=>?_,λ_=>?_⟩)|(refine ⟨by omega,?_⟩)|(intro _)
        all_goals (refine hK _ ?_;clear hK K)
        all_goals
         refine zc0 rfl rfl λK hK=>?_
         simp (disch:=omega) [zG8,List.getElem?_eq_getElem,aNews,aAppend,aBuildSlice,chunks]
         repeat' first|(refine ⟨by omega,?_⟩)|(intro _)
         refine hK _ ?_;clear hK K
         refine ⟨_,LeS.kr [(128,272)] [(0,(.g (.int .i64 (((m / 128):Nat))))),(3,.arr 128 0 (acc++[128+((m % 128:Nat):Int)]).length)] [(128,.flat 1 ((acc++[128+((m % 128:Nat):Int)]).map cB8v))] (by simp [zG5,KpR,renV2,renV,zb0,cB8v];try simp (disch:=omega) [zce,cB8v];try omega) (by simp [zG7,KpOR,renO,renV,cB8v];try rfl) (by rfl) (by rfl) (by simp) (by simp) (by rfl) (by simp [forms]),_,?_,acc++[128+((m % 128:Nat):Int)],m / 128,rfl,?_,rfl⟩
         ·omega
         ·refine ⟨?_,by omega⟩
          rw [hge] at hv
          rw [←hv,show (128+((m % 128:Nat):Int))=((128+m % 128:Nat):Int) by omega,zf4]
          simp
      ·try simp [zbk,zbh,zbb,zba] at hc2
       all_goals
        refine zb4 ?_
        refine zbo ?_
        refine AW_r rfl rfl λK hK=>?_
        simp (disch:=omega) [zG8,List.getElem?_eq_getElem,aNews,aAppend,aBuildSlice,chunks]
        repeat' first|(exfalso;omega)|(refine ⟨λ_=>?_,λ_=>?_⟩)|(refine ⟨by omega,?_⟩)|(intro _)
        all_goals (refine hK _ ?_;clear hK K)
        all_goals
         refine zbl (zb5 ?_)
         simp (disch:=omega) [zG8,List.getElem?_eq_getElem,aNews,aAppend,aBuildSlice,chunks]
         all_goals first|(rw [zf4,←hv,zff (by omega)];done)
 ·have hz:varZ n=[]:=by unfold varZ;rw [if_neg hn]
  rw [hz]
  have hn':n<0∨562949953421311<n:=by omega
  refine zbp Try.func28 (by rfl) (by rfl) (by rw [Try.ntmps28];exact Nat.le_of_ble_eq_true rfl) rfl (by decide) ?_
  rw [Try.ntmps28]
  refine AW_k [(0,_)] ⟨rfl,trivial⟩ ?_
  refine AW_r rfl rfl λK hK=>?_
  simp (disch:=omega) [zG8,List.getElem?_eq_getElem,aNews,aAppend,aBuildSlice,chunks]
  refine hK _ ?_;clear hK K
  refine zbf (AW_r rfl rfl λK hK=>?_)
  simp (disch:=omega) [zG8,List.getElem?_eq_getElem,aNews,aAppend,aBuildSlice,chunks]
  refine zcj (zbe zch (zbe zch (zbe zch zbn))) (l1In _ _ _) rfl ?_
  simp (disch:=omega) [zG8,List.getElem?_eq_getElem,aNews,aAppend,aBuildSlice,chunks]
  refine hK _ ?_;clear hK K
  refine zbi (t:=true) (by simp;omega) (λ_=>?_) (λh=>by simp at h)
  refine AW_r rfl rfl λK hK=>?_
  simp (disch:=omega) [zG8,List.getElem?_eq_getElem,aNews,aAppend,aBuildSlice,chunks]
  repeat' first|(refine ⟨by omega,?_⟩)|(intro _)
  refine hK _ ?_;clear hK K
  refine zbl (zb5 ?_)
  simp (disch:=omega) [zG8,List.getElem?_eq_getElem,aNews,aAppend,aBuildSlice,chunks]
  all_goals first | omega|(simp_all;done)|(simp [List.take_of_length_le];done)|((try simp_all);(try simp (disch:=omega) only [zce,Int.tdiv_eq_ediv_of_nonneg,Int.tmod_eq_emod_of_nonneg,and_true,true_and]);done)|((try simp_all);(try simp (disch:=omega) only [zce,Int.tdiv_eq_ediv_of_nonneg,Int.tmod_eq_emod_of_nonneg,and_true,true_and] at *);omega)
def zG9:=And.intro @zce (And.intro @zcv (And.intro @zgs (And.intro @tk1v (And.intro @tk2v (And.intro @zls (And.intro @bothNv @shrNv))))))
theorem zhe(n:Int):PCall Try.prog 35 [(.g (.int .i64 (n)))] (.s (varZ n)):=by
 by_cases hn:0≤n∧n≤562949953421311
 ·have hz:varZ n=varB n.toNat:=by unfold varZ;rw [if_pos hn]
  have hl:=zcm n
  rw [hz] at hl ⊢
  refine zbp Try.func35 (by rfl) (by rfl) (by rw [Try.ntmps35];exact Nat.le_of_ble_eq_true rfl) rfl (by decide) ?_
  rw [Try.ntmps35]
  refine AW_k [(0,_)] ⟨rfl,trivial⟩ ?_
  refine AW_r rfl rfl λK hK=>?_
  simp (disch:=omega) [zG9,List.getElem?_eq_getElem,aNews,aAppend,aBuildSlice,chunks]
  repeat' first|(refine ⟨by omega,?_⟩)|(intro _)
  refine hK _ ?_;clear hK K
  refine zbf ?_
  refine AW_r rfl rfl λK hK=>?_
  simp (disch:=omega) [zG9,List.getElem?_eq_getElem,aNews,aAppend,aBuildSlice,chunks]
  repeat' first|(exfalso;omega)|(refine zcj (zbe zch (zbe zch (zbe zch zbn))) (zlo _ _ _) rfl ?_;simp (disch:=omega) [zG9,List.getElem?_eq_getElem,aNews,aAppend,aBuildSlice,chunks])|(refine ⟨by omega,?_⟩)|(intro _)
  refine hK _ ?_;clear hK K
  refine zbi rfl (λhc3=>?_) (λhc3=>?_)
  ·try simp [zbk,zbh,zbb,zba] at hc3
   all_goals
    refine AW_r rfl rfl λK hK=>?_
    simp (disch:=omega) [zG9,List.getElem?_eq_getElem,aNews,aAppend,aBuildSlice,chunks]
    repeat' first|(exfalso;omega)|(refine ⟨λ_=>?_,λ_=>?_⟩)|(refine ⟨by omega,?_⟩)|(intro _)
    all_goals (refine hK _ ?_;clear hK K)
    all_goals
     refine zbl (zb5 ?_)
     simp (disch:=omega) [zG9,List.getElem?_eq_getElem,aNews,aAppend,aBuildSlice,chunks]
     all_goals first|(rw [zf4,←hv,zff (by omega)];done)
  ·try simp [zbk,zbh,zbb,zba] at hc3
   all_goals
    refine zbj ?_
    refine zbo ?_
    refine AW_r rfl rfl λK hK=>?_
    simp (disch:=omega) [zG9,List.getElem?_eq_getElem,aNews,aAppend,aBuildSlice,chunks]
    repeat' first|(exfalso;omega)|(refine ⟨λ_=>?_,λ_=>?_⟩)|(refine ⟨by omega,?_⟩)|(intro _)
    all_goals (refine hK _ ?_;clear hK K)
    all_goals
     refine zbf ?_
     refine zbm ?_
     refine zbw (λmM sS=>∃(acc:List Int) (m:Nat),mM=m+1∧(strN acc++varB m=varB n.toNat∧m≤n.toNat)∧sS = { env:=lkE [(0,(.g (.int .i64 ((m:Nat))))),(3,.arr 128 0 acc.length)],ob:=lk [(128,.flat 1 (acc.map cB8v))] }) ?_ ?_
     ·refine ⟨_,LeS.kr [(128,128)] [(0,(.g (.int .i64 (((n.toNat):Nat))))),(3,.arr 128 0 ([]).length)] [(128,.flat 1 (([]).map cB8v))] (by simp [zG5,KpR,renV2,renV,zb0,cB8v];try omega) (by simp [zG7,KpOR,renO,renV,cB8v];try rfl) (by rfl) (by rfl) (by simp) (by simp) (by rfl) (by simp [forms]),_,[],n.toNat,rfl,?_,rfl⟩
      ·simp [strN]
     ·rintro mM sS ⟨acc,m,rfl,⟨hv,hm⟩,rfl⟩
      have hal:acc.length≤7:=by have:=congrArg List.length hv;simp [zqe] at this;omega
      refine zbf ?_
      refine AW_r rfl rfl λK hK=>?_
      simp (disch:=omega) [zG9,List.getElem?_eq_getElem,aNews,aAppend,aBuildSlice,chunks]
      repeat' first|(refine ⟨by omega,?_⟩)|(intro _)
      refine hK _ ?_;clear hK K
      refine zbi rfl (λhc4=>?_) (λhc4=>?_)
      ·try simp [zbk,zbh,zbb,zba] at hc4
       all_goals
        have hge:=zjn (n:=m) (by omega)
        refine zbj ?_
        refine zbo ?_
        refine zbm ?_
        refine AW_r rfl rfl λK hK=>?_
        simp (disch:=omega) [zG9,List.getElem?_eq_getElem,aNews,aAppend,aBuildSlice,chunks]
        repeat' first|(exfalso;omega)|(refine ⟨λ_=>?_,λ_=>?_⟩)|(refine ⟨by omega,?_⟩)|(intro _)
        all_goals (refine hK _ ?_;clear hK K)
        all_goals
         refine zc0 rfl rfl λK hK=>?_
         simp (disch:=omega) [zG9,List.getElem?_eq_getElem,aNews,aAppend,aBuildSlice,chunks]
         repeat' first|(refine ⟨by omega,?_⟩)|(intro _)
         refine hK _ ?_;clear hK K
         refine ⟨_,LeS.kr [(128,272)] [(0,(.g (.int .i64 (((m / 128):Nat))))),(3,.arr 128 0 (acc++[128+((m % 128:Nat):Int)]).length)] [(128,.flat 1 ((acc++[128+((m % 128:Nat):Int)]).map cB8v))] (by simp [zG5,KpR,renV2,renV,zb0,cB8v];try simp (disch:=omega) [zce,cB8v];try omega) (by simp [zG7,KpOR,renO,renV,cB8v];try rfl) (by rfl) (by rfl) (by simp) (by simp) (by rfl) (by simp [forms]),_,?_,acc++[128+((m % 128:Nat):Int)],m / 128,rfl,?_,rfl⟩
         ·omega
         ·refine ⟨?_,by omega⟩
          rw [hge] at hv
          rw [←hv,show (128+((m % 128:Nat):Int))=((128+m % 128:Nat):Int) by omega,zf4]
          simp
      ·try simp [zbk,zbh,zbb,zba] at hc4
       all_goals
        refine zb4 ?_
        refine zbo ?_
        refine AW_r rfl rfl λK hK=>?_
        simp (disch:=omega) [zG9,List.getElem?_eq_getElem,aNews,aAppend,aBuildSlice,chunks]
        repeat' first|(exfalso;omega)|(refine ⟨λ_=>?_,λ_=>?_⟩)|(refine ⟨by omega,?_⟩)|(intro _)
        all_goals (refine hK _ ?_;clear hK K)
        all_goals
         refine zbl (zb5 ?_)
         simp (disch:=omega) [zG9,List.getElem?_eq_getElem,aNews,aAppend,aBuildSlice,chunks]
         all_goals first|(rw [zf4,←hv,zff (by omega)];done)
 ·have hz:varZ n=[]:=by unfold varZ;rw [if_neg hn]
  rw [hz]
  have hn':n<0∨562949953421311<n:=by omega
  refine zbp Try.func35 (by rfl) (by rfl) (by rw [Try.ntmps35];exact Nat.le_of_ble_eq_true rfl) rfl (by decide) ?_
  rw [Try.ntmps35]
  refine AW_k [(0,_)] ⟨rfl,trivial⟩ ?_
  refine AW_r rfl rfl λK hK=>?_
  simp (disch:=omega) [zG9,List.getElem?_eq_getElem,aNews,aAppend,aBuildSlice,chunks]
  refine hK _ ?_;clear hK K
  refine zbf (AW_r rfl rfl λK hK=>?_)
  simp (disch:=omega) [zG9,List.getElem?_eq_getElem,aNews,aAppend,aBuildSlice,chunks]
  refine zcj (zbe zch (zbe zch (zbe zch zbn))) (zlo _ _ _) rfl ?_
  simp (disch:=omega) [zG9,List.getElem?_eq_getElem,aNews,aAppend,aBuildSlice,chunks]
  refine hK _ ?_;clear hK K
  refine zbi (t:=true) (by simp;omega) (λ_=>?_) (λh=>by simp at h)
  refine AW_r rfl rfl λK hK=>?_
  simp (disch:=omega) [zG9,List.getElem?_eq_getElem,aNews,aAppend,aBuildSlice,chunks]
  repeat' first|(refine ⟨by omega,?_⟩)|(intro _)
  refine hK _ ?_;clear hK K
  refine zbl (zb5 ?_)
  simp (disch:=omega) [zG9,List.getElem?_eq_getElem,aNews,aAppend,aBuildSlice,chunks]
  all_goals first | omega|(simp_all;done)|(simp [List.take_of_length_le];done)|((try simp_all);(try simp (disch:=omega) only [zce,Int.tdiv_eq_ediv_of_nonneg,Int.tmod_eq_emod_of_nonneg,and_true,true_and]);done)|((try simp_all);(try simp (disch:=omega) only [zce,Int.tdiv_eq_ediv_of_nonneg,Int.tmod_eq_emod_of_nonneg,and_true,true_and] at *);omega)
def piece(s:List UInt8):List UInt8:=varZ s.length++s
theorem znv(s:List UInt8)(hs:s.length≤1048576):PCall Try.prog 29 [.s s] (.s (piece s)):=by
 have hl:=zcm s.length
 refine zbp Try.func29 (by rfl) (by rfl) (by rw [Try.ntmps29];exact Nat.le_of_ble_eq_true rfl) rfl (by decide) ?_
 rw [Try.ntmps29]
 refine AW_k [(0,_)] ⟨rfl,trivial⟩ ?_
 refine AW_r rfl rfl λK hK=>?_
 simp (disch:=omega) [zce,List.getElem?_eq_getElem,zcv,zgs,piece]
 repeat' first|(refine ⟨by omega,?_⟩)|(intro _)
 refine hK _ ?_;clear hK K
 refine AW_r rfl rfl λK hK=>?_
 simp (disch:=omega) [zce,List.getElem?_eq_getElem,zcv,zgs,piece]
 repeat' first|(exfalso;omega)|(refine zcj (zbe zch zbn) (zhd _) rfl ?_;simp (disch:=omega) [zce,List.getElem?_eq_getElem,zcv,zgs,piece])|(refine ⟨by omega,?_⟩)|(intro _)
 refine hK _ ?_;clear hK K
 refine zbl (zb5 ?_)
 simp (disch:=omega) [zce,List.getElem?_eq_getElem,zcv,zgs,piece]
 all_goals first | omega|(simp_all;done)|(simp [List.take_of_length_le];done)|((try simp_all);(try simp (disch:=omega) only [zce,Int.tdiv_eq_ediv_of_nonneg,Int.tmod_eq_emod_of_nonneg,and_true,true_and]);done)|((try simp_all);(try simp (disch:=omega) only [zce,Int.tdiv_eq_ediv_of_nonneg,Int.tmod_eq_emod_of_nonneg,and_true,true_and] at *);omega)
theorem sized(s:List UInt8)(hs:s.length≤1048576):PCall Try.prog 36 [.s s] (.s (piece s)):=by
 have hl:=zcm s.length
 refine zbp Try.func36 (by rfl) (by rfl) (by rw [Try.ntmps36];exact Nat.le_of_ble_eq_true rfl) rfl (by decide) ?_
 rw [Try.ntmps36]
 refine AW_k [(0,_)] ⟨rfl,trivial⟩ ?_
 refine AW_r rfl rfl λK hK=>?_
 simp (disch:=omega) [zce,List.getElem?_eq_getElem,zcv,zgs,piece]
 repeat' first|(refine ⟨by omega,?_⟩)|(intro _)
 refine hK _ ?_;clear hK K
 refine AW_r rfl rfl λK hK=>?_
 simp (disch:=omega) [zce,List.getElem?_eq_getElem,zcv,zgs,piece]
 repeat' first|(exfalso;omega)|(refine zcj (zbe zch zbn) (zhe _) rfl ?_;simp (disch:=omega) [zce,List.getElem?_eq_getElem,zcv,zgs,piece])|(refine ⟨by omega,?_⟩)|(intro _)
 refine hK _ ?_;clear hK K
 refine zbl (zb5 ?_)
 simp (disch:=omega) [zce,List.getElem?_eq_getElem,zcv,zgs,piece]
 all_goals first | omega|(simp_all;done)|(simp [List.take_of_length_le];done)|((try simp_all);(try simp (disch:=omega) only [zce,Int.tdiv_eq_ediv_of_nonneg,Int.tmod_eq_emod_of_nonneg,and_true,true_and]);done)|((try simp_all);(try simp (disch:=omega) only [zce,Int.tdiv_eq_ediv_of_nonneg,Int.tmod_eq_emod_of_nonneg,and_true,true_and] at *);omega)
end Go.Proofs.Ytchpfloemfoomaa.Vs
end
