import Derived.Test.YtodmafgmdlkhoaaSM3
section
namespace Go.Proofs.Ytodmafgmdlkhoaa.Vs
set_option linter.all false
set_option maxRecDepth 100000
def SnapP(p:DtCSnap):Prop:=Word p.fName∧(p.fTag=[]∨Word p.fTag)∧1≤p.fChunks.length∧p.fChunks.length≤4∧∀(j:Nat) c,p.fChunks[j]? = some c→c.length=8
noncomputable def findN(l:List DtCSnap)(name:List UInt8):Int:=idxZ (λp=>eqB p.fName name) l
def SetP(s:DtCSet):Prop:=Word s.fName∧s.fSnaps.length≤5∧∀(k:Nat) p,s.fSnaps[k]? = some p→SnapP p∧findN s.fSnaps p.fName=k
def CatP(c:DtCatalog):Prop:=c.fSets.length≤5∧∀(i:Nat) s,c.fSets[i]? = some s→SetP s∧∀t,0<i→c.fSets[i-1]? = some t→Op.bytesLess t.fName s.fName=true
def zG9:=And.intro @zcj (And.intro @gE (And.intro @tP (And.intro @zba @zbf)))
def zG10:=And.intro @zbz (And.intro @zbk @zbq)
theorem l15Snap(p:DtCSnap):PCall Try.prog 77 [.agg (DtCSnap.cells p)] (.g (.bool (decB (SnapP p)))):=by
 refine zbr Try.func77 (by rfl) (by rfl) (by rw [Try.ntmps77];exact Nat.le_of_ble_eq_true rfl) rfl (by decide) ?_
 rw [Try.ntmps77]
 refine AW_k [(0,_)] ⟨rfl,trivial⟩ ?_
 refine AW_r rfl rfl λK hK=>?_
 simp (disch:=omega) [zG9,DtCSnap.cells]
 repeat' first|(refine ⟨by omega,?_⟩)|(intro _)
 refine hK _ ?_;clear hK K
 refine zbi ?_
 refine AW_r rfl rfl λK hK=>?_
 simp (disch:=omega) [zG9,DtCSnap.cells]
 repeat' first|(exfalso;omega)|(refine zdg (zbe zgs zbo) (l4Word _) rfl ?_;simp (disch:=omega) [zG9,DtCSnap.cells])|(refine zdg (zbe zcl (zbe zcl (zbe zcl zbo))) (l1In _ _ _) rfl ?_;simp (disch:=omega) [zG9,DtCSnap.cells])|(refine ⟨λ_=>?_,λ_=>?_⟩)|(refine ⟨by omega,?_⟩)|(intro _)
 all_goals (refine hK _ ?_;clear hK K)
 all_goals
  refine zbh rfl (λhc1=>?_) (λhc1=>?_)
  ·try simp at hc1
   all_goals
    refine AW_r rfl rfl λK hK=>?_
    simp (disch:=omega) [zG9,DtCSnap.cells]
    repeat' first|(exfalso;omega)|(refine ⟨λ_=>?_,λ_=>?_⟩)|(refine ⟨by omega,?_⟩)|(intro _)
    all_goals (refine hK _ ?_;clear hK K)
    all_goals
     refine zbp (zcb ?_)
     simp (disch:=omega) [zG9,DtCSnap.cells]
     all_goals first | grind [SnapP]|(refine zb5 λh=>?_;grind [SnapP])|(refine zb4 ?_;grind [SnapP])
  ·try simp at hc1
   all_goals
    refine zbj ?_
    refine zbn ?_
    refine zbi ?_
    refine AW_r rfl rfl λK hK=>?_
    simp (disch:=omega) [zG9,DtCSnap.cells]
    repeat' first|(exfalso;omega)|(refine ⟨λ_=>?_,λ_=>?_⟩)|(refine ⟨by omega,?_⟩)|(intro _)
    all_goals (refine hK _ ?_;clear hK K)
    all_goals
     refine zbm ?_
     refine zbv (λmM sS=>∃(i:Nat),mM=p.fChunks.length-i∧(i≤p.fChunks.length∧∀j c,j<i→p.fChunks[j]? = some c→c.length=8)∧sS = { env:=lkE [(1,.ptr 32 0),(3,(.g (.int .i64 ((i:Nat)))))],ob:=upd (formOb [] []) 32 (some (.cells (DtCSnap.cells p))) }) ?_ ?_
     ·refine ⟨_,LeS.kp [(1,.ptr 32 0),(3,(.g (.int .i64 (((0):Nat)))))] (by simp [zG10,KpE];try rfl),_,0,rfl,?_,rfl⟩
      ·simp
     ·rintro mM sS ⟨i,rfl,⟨hi,hpre⟩,rfl⟩
      refine zbi ?_
      refine AW_r rfl rfl λK hK=>?_
      simp (disch:=omega) [zG9,DtCSnap.cells,cS]
      repeat' first|(refine ⟨by omega,?_⟩)|(intro _)
      refine hK _ ?_;clear hK K
      refine zbh rfl (λhc2=>?_) (λhc2=>?_)
      ·try simp at hc2
       all_goals
        have hg:p.fChunks[i]? = some p.fChunks[i]:=List.getElem?_eq_getElem (by omega)
        refine zbj ?_
        refine zbn ?_
        refine zbi ?_
        refine zbm ?_
        refine AW_r rfl rfl λK hK=>?_
        simp (disch:=omega) [zG9,DtCSnap.cells,cS]
        repeat' first|(exfalso;omega)|(refine ⟨λ_=>?_,λ_=>?_⟩)|(refine ⟨by omega,?_⟩)|(intro _)
        all_goals (refine hK _ ?_;clear hK K)
        all_goals
         refine zbh rfl (λhc3=>?_) (λhc3=>?_)
         ·try simp at hc3
          all_goals
           refine AW_r rfl rfl λK hK=>?_
           simp (disch:=omega) [zG9,DtCSnap.cells,cS]
           repeat' first|(exfalso;omega)|(refine ⟨λ_=>?_,λ_=>?_⟩)|(refine ⟨by omega,?_⟩)|(intro _)
           all_goals (refine hK _ ?_;clear hK K)
           all_goals
            refine zbp (zcb ?_)
            simp (disch:=omega) [zG9,DtCSnap.cells,cS]
            all_goals first | grind [SnapP]|(refine zb5 λh=>?_;grind [SnapP])|(refine zb4 ?_;grind [SnapP])
         ·try simp at hc3
          all_goals
           refine zbj ?_
           refine zbn ?_
           refine zc8 rfl rfl λK hK=>?_
           simp (disch:=omega) [zG9,DtCSnap.cells,cS]
           repeat' first|(exfalso;omega)|(refine ⟨λ_=>?_,λ_=>?_⟩)|(refine ⟨by omega,?_⟩)|(intro _)
           all_goals (refine hK _ ?_;clear hK K)
           all_goals
            refine ⟨_,LeS.kp [(1,.ptr 32 0),(3,(.g (.int .i64 (((i+1):Nat)))))] (by simp [zG10,KpE];try rfl),_,?_,i+1,rfl,?_,rfl⟩
            ·omega
            ·refine ⟨by omega,?_⟩;grind
      ·try simp at hc2
       all_goals
        refine zbx ?_
        refine zbn ?_
        refine AW_r rfl rfl λK hK=>?_
        simp (disch:=omega) [zG9,DtCSnap.cells,cS]
        repeat' first|(exfalso;omega)|(refine ⟨λ_=>?_,λ_=>?_⟩)|(refine ⟨by omega,?_⟩)|(intro _)
        all_goals (refine hK _ ?_;clear hK K)
        all_goals
         refine zbp (zcb ?_)
         simp (disch:=omega) [zG9,DtCSnap.cells,cS]
         all_goals first | grind [SnapP]|(refine zb5 λh=>?_;grind [SnapP])|(refine zb4 ?_;grind [SnapP])
def zG11:=And.intro @zcj (And.intro @gE @tP)
theorem zwe(s:DtCSet)(name:List UInt8)(hs:s.fSnaps.length≤1048576):PCall Try.prog 78 [.agg (DtCSet.cells s),.s name] (.g (.int .i64 (findN s.fSnaps name))):=by
 refine zbr Try.func78 (by rfl) (by rfl) (by rw [Try.ntmps78];exact Nat.le_of_ble_eq_true rfl) rfl (by decide) ?_
 rw [Try.ntmps78]
 refine AW_k [(0,_),(1,_)] ⟨rfl,rfl,trivial⟩ ?_
 refine AW_r rfl rfl λK hK=>?_
 simp (disch:=omega) [zG11,DtCSet.cells]
 repeat' first|(refine ⟨by omega,?_⟩)|(intro _)
 refine hK _ ?_;clear hK K
 refine zbi ?_
 refine AW_r rfl rfl λK hK=>?_
 simp (disch:=omega) [zG11,DtCSet.cells]
 repeat' first|(refine ⟨by omega,?_⟩)|(intro _)
 refine hK _ ?_;clear hK K
 refine zbm ?_
 refine zbv (λmM sS=>∃(i:Nat),mM=s.fSnaps.length-i∧(i≤s.fSnaps.length∧∀j x,j<i→s.fSnaps[j]? = some x→eqB x.fName name=false)∧sS = { env:=lkE [(1,.s name),(2,.ptr 48 0),(5,(.g (.int .i64 ((i:Nat)))))],ob:=upd (formOb [] []) 48 (some (.cells (DtCSet.cells s))) }) ?_ ?_
 ·refine ⟨_,LeS.kp [(1,.s name),(2,.ptr 48 0),(5,(.g (.int .i64 (((0):Nat)))))] (by simp [zG10,KpE];try rfl),_,0,rfl,?_,rfl⟩
  ·simp
 ·rintro mM sS ⟨i,rfl,⟨hi,hpre⟩,rfl⟩
  refine zbi ?_
  refine AW_r rfl rfl λK hK=>?_
  simp (disch:=omega) [zG11,DtCSet.cells,DtCSnap.cells]
  repeat' first|(refine ⟨by omega,?_⟩)|(intro _)
  refine hK _ ?_;clear hK K
  refine zbh rfl (λhc4=>?_) (λhc4=>?_)
  ·try simp at hc4
   all_goals
    have hg:s.fSnaps[i]? = some s.fSnaps[i]:=List.getElem?_eq_getElem (by omega)
    refine zbj ?_
    refine zbn ?_
    refine zbi ?_
    refine zbm ?_
    refine AW_r rfl rfl λK hK=>?_
    simp (disch:=omega) [zG11,DtCSet.cells,DtCSnap.cells]
    repeat' first|(exfalso;omega)|(refine ⟨λ_=>?_,λ_=>?_⟩)|(refine ⟨by omega,?_⟩)|(intro _)
    all_goals (refine hK _ ?_;clear hK K)
    all_goals
     refine zbh rfl (λhc5=>?_) (λhc5=>?_)
     ·try simp at hc5
      all_goals
       refine AW_r rfl rfl λK hK=>?_
       simp (disch:=omega) [zG11,DtCSet.cells,DtCSnap.cells]
       repeat' first|(exfalso;omega)|(refine ⟨λ_=>?_,λ_=>?_⟩)|(refine ⟨by omega,?_⟩)|(intro _)
       all_goals (refine hK _ ?_;clear hK K)
       all_goals
        refine zbp (zcb ?_)
        simp (disch:=omega) [zG11,DtCSet.cells,DtCSnap.cells]
        all_goals first|(unfold findN;rw [zch (by assumption) (by simp_all [zbc]) hpre];done)|(unfold findN;exact (zch (by assumption) (by simp_all [zbc]) hpre))|(unfold findN;exact zc4 (λj x h=>hpre j x (by omega)))
     ·try simp at hc5
      all_goals
       refine zbj ?_
       refine zbn ?_
       refine zc8 rfl rfl λK hK=>?_
       simp (disch:=omega) [zG11,DtCSet.cells,DtCSnap.cells]
       repeat' first|(exfalso;omega)|(refine ⟨λ_=>?_,λ_=>?_⟩)|(refine ⟨by omega,?_⟩)|(intro _)
       all_goals (refine hK _ ?_;clear hK K)
       all_goals
        refine ⟨_,LeS.kp [(1,.s name),(2,.ptr 48 0),(5,(.g (.int .i64 (((i+1):Nat)))))] (by simp [zG10,KpE];try rfl),_,?_,i+1,rfl,?_,rfl⟩
        ·omega
        ·refine ⟨by omega,?_⟩;grind [zbb]
  ·try simp at hc4
   all_goals
    refine zbx ?_
    refine zbn ?_
    refine AW_r rfl rfl λK hK=>?_
    simp (disch:=omega) [zG11,DtCSet.cells,DtCSnap.cells]
    repeat' first|(exfalso;omega)|(refine ⟨λ_=>?_,λ_=>?_⟩)|(refine ⟨by omega,?_⟩)|(intro _)
    all_goals (refine hK _ ?_;clear hK K)
    all_goals
     refine zbp (zcb ?_)
     simp (disch:=omega) [zG11,DtCSet.cells,DtCSnap.cells]
     all_goals first|(unfold findN;rw [zch (by assumption) (by simp_all [zbc]) hpre];done)|(unfold findN;exact (zch (by assumption) (by simp_all [zbc]) hpre))|(unfold findN;exact zc4 (λj x h=>hpre j x (by omega)))
theorem zm5(c:DtCatalog)(hs:DtCatalog.sz c≤1048576):PCall Try.prog 37 [.agg (DtCatalog.cells c)] (.g (.bool (decB (CatP c)))):=by
 have hl:c.fSets.length≤1048576:=by have:=zck DtCSet.sz_nonneg c.fSets;simp only [DtCatalog.sz,szS] at hs;omega
 have hl2:∀i (h:i<c.fSets.length),c.fSets[i].fSnaps.length≤1048576:=by
  intro i h
  have h1:=zdu DtCSet.sz_nonneg c.fSets c.fSets[i] (List.getElem_mem _)
  have h2:=zck DtCSnap.sz_nonneg c.fSets[i].fSnaps
  simp only [DtCatalog.sz,szS] at hs
  simp only [DtCSet.sz,szS] at h1
  omega
 refine zbr Try.func37 (by rfl) (by rfl) (by rw [Try.ntmps37];exact Nat.le_of_ble_eq_true rfl) rfl (by decide) ?_
 rw [Try.ntmps37]
 refine AW_k [(0,_)] ⟨rfl,trivial⟩ ?_
 refine AW_r rfl rfl λK hK=>?_
 simp (disch:=omega) [zG9,DtCatalog.cells,DtCSet.cells,DtCSnap.cells]
 repeat' first|(refine ⟨by omega,?_⟩)|(intro _)
 refine hK _ ?_;clear hK K
 refine zbi ?_
 refine AW_r rfl rfl λK hK=>?_
 simp (disch:=omega) [zG9,DtCatalog.cells,DtCSet.cells,DtCSnap.cells]
 repeat' first|(refine ⟨by omega,?_⟩)|(intro _)
 refine hK _ ?_;clear hK K
 refine zbh rfl (λhc6=>?_) (λhc6=>?_)
 ·try simp at hc6
  all_goals
   refine AW_r rfl rfl λK hK=>?_
   simp (disch:=omega) [zG9,DtCatalog.cells,DtCSet.cells,DtCSnap.cells]
   repeat' first|(exfalso;omega)|(refine ⟨λ_=>?_,λ_=>?_⟩)|(refine ⟨by omega,?_⟩)|(intro _)
   all_goals (refine hK _ ?_;clear hK K)
   all_goals
    refine zbp (zcb ?_)
    simp (disch:=omega) [zG9,DtCatalog.cells,DtCSet.cells,DtCSnap.cells]
    all_goals first | grind [CatP,SetP]|(refine zb5 λh=>?_;grind [CatP,SetP])|(refine zb4 ?_;grind [CatP,SetP])
 ·try simp at hc6
  all_goals
   refine zbj ?_
   refine zbn ?_
   refine zbi ?_
   refine AW_r rfl rfl λK hK=>?_
   simp (disch:=omega) [zG9,DtCatalog.cells,DtCSet.cells,DtCSnap.cells]
   repeat' first|(exfalso;omega)|(refine ⟨λ_=>?_,λ_=>?_⟩)|(refine ⟨by omega,?_⟩)|(intro _)
   all_goals (refine hK _ ?_;clear hK K)
   all_goals
    refine zbm ?_
    refine zbv (λmM sS=>∃(i:Nat),mM=c.fSets.length-i∧(i≤c.fSets.length∧∀j s,j<i→c.fSets[j]? = some s→SetP s∧∀t,0<j→c.fSets[j-1]? = some t→Op.bytesLess t.fName s.fName=true)∧sS = { env:=lkE [(1,.ptr 32 0),(3,(.g (.int .i64 ((i:Nat)))))],ob:=lk [(32,.cells (DtCatalog.cells c))] }) ?_ ?_
    ·refine ⟨_,LeS.ko [(1,.ptr 32 0),(3,(.g (.int .i64 (((0):Nat)))))] [(32,.cells (DtCatalog.cells c))] (by simp [zG10,KpE,DtCatalog.cells,DtCSet.cells];try rfl) (by simp [KpO,zbz,zbq,zby,zcc,DtCatalog.cells,DtCSet.cells];try rfl) (by rfl) (by simp) (by rfl),_,0,rfl,?_,rfl⟩
     ·simp
    ·rintro mM sS ⟨i,rfl,⟨hi,hpre⟩,rfl⟩
     refine zbi ?_
     refine AW_r rfl rfl λK hK=>?_
     simp (disch:=omega) [zG9,DtCatalog.cells,DtCSet.cells,DtCSnap.cells]
     repeat' first|(refine ⟨by omega,?_⟩)|(intro _)
     refine hK _ ?_;clear hK K
     refine zbh rfl (λhc7=>?_) (λhc7=>?_)
     ·try simp at hc7
      all_goals
       have hg:c.fSets[i]? = some (c.fSets[i]):=List.getElem?_eq_getElem (by omega)
       have hg':c.fSets[i-1]? = some (c.fSets[i-1]):=List.getElem?_eq_getElem (by omega)
       have hl2':=hl2 i (by omega)
       rcases Nat.eq_zero_or_pos i with hi0 | hi0
       all_goals
        refine zbj ?_
        refine zbn ?_
        refine zbi ?_
        refine zbm ?_
        refine AW_r rfl rfl λK hK=>?_
        simp (disch:=omega) [zG9,DtCatalog.cells,DtCSet.cells,DtCSnap.cells]
        repeat' first|(exfalso;omega)|(refine ⟨λ_=>?_,λ_=>?_⟩)|(refine ⟨by omega,?_⟩)|(intro _)
        all_goals (refine hK _ ?_;clear hK K)
        all_goals
         refine zbi ?_
         refine AW_q rfl mix (by kernel_rfl) rfl λK hK=>?_
         simp (disch:=omega) [zG9,DtCatalog.cells,DtCSet.cells,DtCSnap.cells]
         repeat' first|(exfalso;omega)|(refine zdg (zbe zgs zbo) (l4Word _) rfl ?_;simp (disch:=omega) [zG9,DtCatalog.cells,DtCSet.cells,DtCSnap.cells])|(refine ⟨λ_=>?_,λ_=>?_⟩)|(refine ⟨by omega,?_⟩)|(intro _)
         all_goals (refine hK _ ?_;clear hK K)
         all_goals
          refine zbh rfl (λhc8=>?_) (λhc8=>?_)
          ·try simp at hc8
           all_goals
            refine AW_r rfl rfl λK hK=>?_
            simp (disch:=omega) [zG9,DtCatalog.cells,DtCSet.cells,DtCSnap.cells]
            repeat' first|(exfalso;omega)|(refine ⟨λ_=>?_,λ_=>?_⟩)|(refine ⟨by omega,?_⟩)|(intro _)
            all_goals (refine hK _ ?_;clear hK K)
            all_goals
             refine zbp (zcb ?_)
             simp (disch:=omega) [zG9,DtCatalog.cells,DtCSet.cells,DtCSnap.cells]
             all_goals first | grind [CatP,SetP]|(refine zb5 λh=>?_;grind [CatP,SetP])|(refine zb4 ?_;grind [CatP,SetP])
          ·try simp at hc8
           all_goals
            refine zbj ?_
            refine zbn ?_
            refine AW_r rfl rfl λK hK=>?_
            simp (disch:=omega) [zG9,DtCatalog.cells,DtCSet.cells,DtCSnap.cells]
            repeat' first|(exfalso;omega)|(refine ⟨λ_=>?_,λ_=>?_⟩)|(refine ⟨by omega,?_⟩)|(intro _)
            all_goals (refine hK _ ?_;clear hK K)
            all_goals
             refine zbm ?_
             refine zbv (λmM sS=>∃(k:Nat),mM=(c.fSets[i]).fSnaps.length-k∧(k≤(c.fSets[i]).fSnaps.length∧∀j p,j<k→(c.fSets[i]).fSnaps[j]? = some p→SnapP p∧findN (c.fSets[i]).fSnaps p.fName=j)∧sS = { env:=lkE [(1,.ptr 32 0),(3,(.g (.int .i64 ((i:Nat))))),(4,.ptr 80 0),(5,(.g (.int .i64 ((k:Nat)))))],ob:=lk [(32,.cells (DtCatalog.cells c)),(80,.cells (DtCSet.cells c.fSets[i]))] }) ?_ ?_
             ·refine ⟨_,LeS.ko [(1,.ptr 32 0),(3,(.g (.int .i64 ((i:Nat))))),(4,.ptr 80 0),(5,(.g (.int .i64 (((0):Nat)))))] [(32,.cells (DtCatalog.cells c)),(80,.cells (DtCSet.cells c.fSets[i]))] (by simp [zG10,KpE,DtCatalog.cells,DtCSet.cells];try rfl) (by simp [KpO,zbz,zbq,zby,zcc,DtCatalog.cells,DtCSet.cells];try rfl) (by rfl) (by simp) (by rfl),_,0,rfl,?_,rfl⟩
              ·simp
             ·rintro mM sS ⟨k,rfl,⟨hk,hkre⟩,rfl⟩
              refine zbi ?_
              refine AW_r rfl rfl λK hK=>?_
              simp (disch:=omega) [zG9,DtCatalog.cells,DtCSet.cells,DtCSnap.cells]
              repeat' first|(refine ⟨by omega,?_⟩)|(intro _)
              refine hK _ ?_;clear hK K
              refine zbh rfl (λhc9=>?_) (λhc9=>?_)
              ·try simp at hc9
               all_goals
                have hg2:(c.fSets[i]).fSnaps[k]? = some ((c.fSets[i]).fSnaps[k]):=List.getElem?_eq_getElem (by omega)
                refine zbj ?_
                refine zbn ?_
                refine zbi ?_
                refine zbm ?_
                refine AW_q rfl mix (by kernel_rfl) rfl λK hK=>?_
                simp (disch:=omega) [zG9,DtCatalog.cells,DtCSet.cells,DtCSnap.cells]
                repeat' first|(exfalso;omega)|(refine zdg (zbe (zb6 rfl) zbo) (l15Snap _) rfl ?_;simp (disch:=omega) [zG9,DtCatalog.cells,DtCSet.cells,DtCSnap.cells])|(refine zdg (zbe (zb6 rfl) (zbe zgs zbo)) (zwe _ _ (by omega)) rfl ?_;simp (disch:=omega) [zG9,DtCatalog.cells,DtCSet.cells,DtCSnap.cells])|(refine ⟨λ_=>?_,λ_=>?_⟩)|(refine ⟨by omega,?_⟩)|(intro _)
                all_goals (refine hK _ ?_;clear hK K)
                all_goals
                 refine zbh rfl (λhc10=>?_) (λhc10=>?_)
                 ·try simp at hc10
                  all_goals
                   refine AW_r rfl rfl λK hK=>?_
                   simp (disch:=omega) [zG9,DtCatalog.cells,DtCSet.cells,DtCSnap.cells]
                   repeat' first|(exfalso;omega)|(refine ⟨λ_=>?_,λ_=>?_⟩)|(refine ⟨by omega,?_⟩)|(intro _)
                   all_goals (refine hK _ ?_;clear hK K)
                   all_goals
                    refine zbp (zcb ?_)
                    simp (disch:=omega) [zG9,DtCatalog.cells,DtCSet.cells,DtCSnap.cells]
                    all_goals first | grind [CatP,SetP]|(refine zb5 λh=>?_;grind [CatP,SetP])|(refine zb4 ?_;grind [CatP,SetP])
                 ·try simp at hc10
                  all_goals
                   refine zbj ?_
                   refine zbn ?_
                   refine zc8 rfl rfl λK hK=>?_
                   simp (disch:=omega) [zG9,DtCatalog.cells,DtCSet.cells,DtCSnap.cells]
                   repeat' first|(exfalso;omega)|(refine ⟨λ_=>?_,λ_=>?_⟩)|(refine ⟨by omega,?_⟩)|(intro _)
                   all_goals (refine hK _ ?_;clear hK K)
                   all_goals
                    refine ⟨_,LeS.ko [(1,.ptr 32 0),(3,(.g (.int .i64 ((i:Nat))))),(4,.ptr 80 0),(5,(.g (.int .i64 (((k+1):Nat)))))] [(32,.cells (DtCatalog.cells c)),(80,.cells (DtCSet.cells c.fSets[i]))] (by simp [zG10,KpE,DtCatalog.cells,DtCSet.cells];try rfl) (by simp [KpO,zbz,zbq,zby,zcc,DtCatalog.cells,DtCSet.cells];try rfl) (by rfl) (by simp) (by rfl),_,?_,k+1,rfl,?_,rfl⟩
                    ·omega
                    ·refine ⟨by omega,?_⟩;clear hl2;grind
              ·try simp at hc9
               all_goals
                refine zbx ?_
                refine zbn ?_
                refine zc8 rfl rfl λK hK=>?_
                simp (disch:=omega) [zG9,DtCatalog.cells,DtCSet.cells,DtCSnap.cells]
                repeat' first|(exfalso;omega)|(refine ⟨λ_=>?_,λ_=>?_⟩)|(refine ⟨by omega,?_⟩)|(intro _)
                all_goals (refine hK _ ?_;clear hK K)
                all_goals
                 refine ⟨_,LeS.ko [(1,.ptr 32 0),(3,(.g (.int .i64 (((i+1):Nat)))))] [(32,.cells (DtCatalog.cells c))] (by simp [zG10,KpE,DtCatalog.cells,DtCSet.cells];try rfl) (by simp [KpO,zbz,zbq,zby,zcc,DtCatalog.cells,DtCSet.cells];try rfl) (by rfl) (by simp) (by rfl),_,?_,i+1,rfl,?_,rfl⟩
                 ·omega
                 ·refine ⟨by omega,?_⟩;clear hg' hl2;grind [SetP]
     ·try simp at hc7
      all_goals
       refine zbx ?_
       refine zbn ?_
       refine AW_r rfl rfl λK hK=>?_
       simp (disch:=omega) [zG9,DtCatalog.cells,DtCSet.cells,DtCSnap.cells]
       repeat' first|(exfalso;omega)|(refine ⟨λ_=>?_,λ_=>?_⟩)|(refine ⟨by omega,?_⟩)|(intro _)
       all_goals (refine hK _ ?_;clear hK K)
       all_goals
        refine zbp (zcb ?_)
        simp (disch:=omega) [zG9,DtCatalog.cells,DtCSet.cells,DtCSnap.cells]
        all_goals first | grind [CatP,SetP]|(refine zb5 λh=>?_;grind [CatP,SetP])|(refine zb4 ?_;grind [CatP,SetP])
def Ch8(l:List (List UInt8)):Prop:=∀(j:Nat) c,l[j]? = some c→c.length=8
theorem zta(l:List (List UInt8))(hs:l.length≤1048576):PCall Try.prog 61 [.sl 1 (l.map cS)] (.g (.bool (decB (Ch8 l)))):=by
 refine zbr Try.func61 (by rfl) (by rfl) (by rw [Try.ntmps61];exact Nat.le_of_ble_eq_true rfl) rfl (by decide) ?_
 rw [Try.ntmps61]
 refine AW_k [(0,_)] ⟨rfl,trivial⟩ ?_
 refine AW_r rfl rfl λK hK=>?_
 simp (disch:=omega) [zG11,cS]
 repeat' first|(refine ⟨by omega,?_⟩)|(intro _)
 refine hK _ ?_;clear hK K
 refine zbi ?_
 refine AW_r rfl rfl λK hK=>?_
 simp (disch:=omega) [zG11,cS]
 repeat' first|(refine ⟨by omega,?_⟩)|(intro _)
 refine hK _ ?_;clear hK K
 refine zbm ?_
 refine zbv (λmM sS=>∃(i:Nat),mM=l.length-i∧(i≤l.length∧∀(j:Nat) c,j<i→l[j]? = some c→c.length=8)∧sS = { env:=lkE [(5,.sl 1 (l.map cS)),(6,(.g (.int .i64 ((l.length:Nat))))),(7,(.g (.int .i64 ((i:Nat)))))],ob:=formOb [] [] }) ?_ ?_
 ·refine ⟨_,LeS.kp [(5,.sl 1 (l.map cS)),(6,(.g (.int .i64 ((l.length:Nat))))),(7,(.g (.int .i64 (((0):Nat)))))] (by simp [zG10,KpE];try rfl),_,0,rfl,?_,rfl⟩
  ·simp
 ·rintro mM sS ⟨i,rfl,⟨hi,hpre⟩,rfl⟩
  refine AW_r rfl rfl λK hK=>?_
  simp (disch:=omega) [zG11,cS]
  repeat' first|(refine ⟨by omega,?_⟩)|(intro _)
  refine hK _ ?_;clear hK K
  refine zbi ?_
  refine zbh rfl (λhc11=>?_) (λhc11=>?_)
  ·try simp at hc11
   all_goals
    have hg:l[i]? = some (l[i]):=List.getElem?_eq_getElem (by omega)
    refine zbj ?_
    refine zbn ?_
    refine zbi ?_
    refine zbm ?_
    refine AW_r rfl rfl λK hK=>?_
    simp (disch:=omega) [zG11,cS]
    repeat' first|(exfalso;omega)|(refine ⟨λ_=>?_,λ_=>?_⟩)|(refine ⟨by omega,?_⟩)|(intro _)
    all_goals (refine hK _ ?_;clear hK K)
    all_goals
     refine AW_r rfl rfl λK hK=>?_
     simp (disch:=omega) [zG11,cS]
     repeat' first|(refine ⟨by omega,?_⟩)|(intro _)
     refine hK _ ?_;clear hK K
     refine zbh rfl (λhc12=>?_) (λhc12=>?_)
     ·try simp at hc12
      all_goals
       refine AW_r rfl rfl λK hK=>?_
       simp (disch:=omega) [zG11,cS]
       repeat' first|(exfalso;omega)|(refine ⟨λ_=>?_,λ_=>?_⟩)|(refine ⟨by omega,?_⟩)|(intro _)
       all_goals (refine hK _ ?_;clear hK K)
       all_goals
        refine zbp (zcb ?_)
        simp (disch:=omega) [zG11,cS]
        all_goals first|(refine zb5 λh=>?_;grind [Ch8])|(refine zb4 ?_;grind [Ch8])
     ·try simp at hc12
      all_goals
       refine zbj ?_
       refine zbn ?_
       refine zc8 rfl rfl λK hK=>?_
       simp (disch:=omega) [zG11,cS]
       repeat' first|(exfalso;omega)|(refine ⟨λ_=>?_,λ_=>?_⟩)|(refine ⟨by omega,?_⟩)|(intro _)
       all_goals (refine hK _ ?_;clear hK K)
       all_goals
        refine ⟨_,LeS.kp [(5,.sl 1 (l.map cS)),(6,(.g (.int .i64 ((l.length:Nat))))),(7,(.g (.int .i64 (((i+1):Nat)))))] (by simp [zG10,KpE];try rfl),_,?_,i+1,rfl,?_,rfl⟩
        ·omega
        ·refine ⟨by omega,?_⟩;grind
  ·try simp at hc11
   all_goals
    refine zbx ?_
    refine zbn ?_
    refine AW_r rfl rfl λK hK=>?_
    simp (disch:=omega) [zG11,cS]
    repeat' first|(exfalso;omega)|(refine ⟨λ_=>?_,λ_=>?_⟩)|(refine ⟨by omega,?_⟩)|(intro _)
    all_goals (refine hK _ ?_;clear hK K)
    all_goals
     refine zbp (zcb ?_)
     simp (disch:=omega) [zG11,cS]
     all_goals first|(refine zb5 λh=>?_;grind [Ch8])|(refine zb4 ?_;grind [Ch8])
theorem snap1(p:DtCSnap)(name:List UInt8):GCall Try.prog 104 [.agg (DtCSnap.cells p),.ptr 0 0] [[.s name]] [] (.g (.bool (eqB p.fName name))) []:=by
 refine zbr Try.func104 (by rfl) (by rfl) (by rw [Try.ntmps104];exact Nat.le_of_ble_eq_true rfl) rfl (by decide) ?_
 rw [Try.ntmps104]
 refine AW_k [(0,_),(1,_)] ⟨rfl,rfl,trivial⟩ ?_
 refine AW_r rfl rfl λK hK=>?_
 simp [DtCSnap.cells]
 repeat' first|(refine ⟨by omega,?_⟩)|(intro _)
 refine hK _ ?_;clear hK K
 refine AW_r rfl rfl λK hK=>?_
 simp [DtCSnap.cells]
 repeat' first|(refine ⟨by omega,?_⟩)|(intro _)
 refine hK _ ?_;clear hK K
 refine zbp (zcb ?_)
 simp [DtCSnap.cells]
 all_goals first|(rw [Bool.eq_iff_iff,zbc];simp;done)|(rw [eqB];simp)
theorem zn2{F:FuncId}{name:List UInt8}{p:DtCSnap→Bool}(xs:List DtCSnap)(hn:xs.length≤1048576)(hf:∀x,GCall Try.prog F [.agg (DtCSnap.cells x),.ptr 0 0] [[.s name]] [] (.g (.bool (p x))) []):GCall Try.prog 103 [.sl 3 (xs.map DtCSnap.cells),.fn F [] [.ptr 0 0]] [[.s name]] [] (.g (.int .i64 (idxZ p xs))) []:=by
 refine zbr Try.func103 (by rfl) (by rfl) (by rw [Try.ntmps103];exact Nat.le_of_ble_eq_true rfl) rfl (by decide) ?_
 rw [Try.ntmps103]
 refine AW_k [(0,_),(1,_)] ⟨rfl,rfl,trivial⟩ ?_
 refine AW_r rfl rfl λK hK=>?_
 simp (disch:=omega) [zG11,DtCSnap.cells]
 repeat' first|(refine zdb 0 (.inr rfl) (zbt [.s name] rfl) (zbe (zb6 rfl) (zbe zcq zbo)) (hf _) rfl ?_;try simp (disch:=omega) [zG11,DtCSnap.cells])|(refine ⟨by omega,?_⟩)|(intro _)
 refine hK _ ?_;clear hK K
 refine zbi ?_
 refine AW_r rfl rfl λK hK=>?_
 simp (disch:=omega) [zG11,DtCSnap.cells]
 repeat' first|(refine zdb 0 (.inr rfl) (zbt [.s name] rfl) (zbe (zb6 rfl) (zbe zcq zbo)) (hf _) rfl ?_;try simp (disch:=omega) [zG11,DtCSnap.cells])|(refine ⟨by omega,?_⟩)|(intro _)
 refine hK _ ?_;clear hK K
 refine zbm ?_
 refine zbv (λmM sS=>∃(i:Nat),mM=xs.length-i∧(i≤xs.length∧∀j x,j<i→xs[j]? = some x→p x=false)∧sS = { env:=lkE [(0,.sl 3 (xs.map DtCSnap.cells)),(1,.fn F [] [.ptr 0 0]),(6,.sl 3 (xs.map DtCSnap.cells)),(7,(.g (.int .i64 ((xs.length:Nat))))),(8,(.g (.int .i64 ((i:Nat)))))],ob:=formOb [[.s name]] [] }) ?_ ?_
 ·refine ⟨_,LeS.kp [(0,.sl 3 (xs.map DtCSnap.cells)),(1,.fn F [] [.ptr 0 0]),(6,.sl 3 (xs.map DtCSnap.cells)),(7,(.g (.int .i64 ((xs.length:Nat))))),(8,(.g (.int .i64 (((0):Nat)))))] (by simp [zG10,KpE];try rfl),_,0,rfl,?_,rfl⟩
  ·simp
 ·rintro mM sS ⟨i,rfl,⟨hi,hpre⟩,rfl⟩
  refine AW_r rfl rfl λK hK=>?_
  simp (disch:=omega) [zG11,DtCSnap.cells]
  repeat' first|(refine zdb 0 (.inr rfl) (zbt [.s name] rfl) (zbe (zb6 rfl) (zbe zcq zbo)) (hf _) rfl ?_;try simp (disch:=omega) [zG11,DtCSnap.cells])|(refine ⟨by omega,?_⟩)|(intro _)
  refine hK _ ?_;clear hK K
  refine zbi ?_
  refine zbh rfl (λhc13=>?_) (λhc13=>?_)
  ·try simp at hc13
   all_goals
    have hg:xs[i]? = some (xs[i]):=List.getElem?_eq_getElem (by omega)
    refine zbj ?_
    refine zbn ?_
    refine zbi ?_
    refine zbm ?_
    refine AW_r rfl rfl λK hK=>?_
    simp (disch:=omega) [zG11,DtCSnap.cells]
    repeat' first|(exfalso;omega)|(refine zdb 0 (.inr rfl) (zbt [.s name] rfl) (zbe (zb6 rfl) (zbe zcq zbo)) (hf _) rfl ?_;try simp (disch:=omega) [zG11,DtCSnap.cells])|(refine ⟨λ_=>?_,λ_=>?_⟩)|(refine ⟨by omega,?_⟩)|(intro _)
    all_goals (refine hK _ ?_;clear hK K)
    all_goals
     refine AW_r rfl rfl λK hK=>?_
     simp (disch:=omega) [zG11,DtCSnap.cells]
     repeat' first|(refine zdb 0 (.inr rfl) (zbt [.s name] rfl) (zbe (zb6 rfl) (zbe zcq zbo)) (hf _) rfl ?_;try simp (disch:=omega) [zG11,DtCSnap.cells])|(refine ⟨by omega,?_⟩)|(intro _)
     refine hK _ ?_;clear hK K
     refine zbh rfl (λhc14=>?_) (λhc14=>?_)
     ·try simp at hc14
      all_goals
       refine AW_r rfl rfl λK hK=>?_
       simp (disch:=omega) [zG11,DtCSnap.cells]
       repeat' first|(exfalso;omega)|(refine zdb 0 (.inr rfl) (zbt [.s name] rfl) (zbe (zb6 rfl) (zbe zcq zbo)) (hf _) rfl ?_;try simp (disch:=omega) [zG11,DtCSnap.cells])|(refine ⟨λ_=>?_,λ_=>?_⟩)|(refine ⟨by omega,?_⟩)|(intro _)
       all_goals (refine hK _ ?_;clear hK K)
       all_goals
        refine zbp (zcb ?_)
        simp (disch:=omega) [zG11,DtCSnap.cells]
        all_goals first|(exact zch (by assumption) (by assumption) hpre)|(exact zc4 (λj x h=>hpre j x (by omega)))
     ·try simp at hc14
      all_goals
       refine zbj ?_
       refine zbn ?_
       refine zc8 rfl rfl λK hK=>?_
       simp (disch:=omega) [zG11,DtCSnap.cells]
       repeat' first|(exfalso;omega)|(refine zdb 0 (.inr rfl) (zbt [.s name] rfl) (zbe (zb6 rfl) (zbe zcq zbo)) (hf _) rfl ?_;try simp (disch:=omega) [zG11,DtCSnap.cells])|(refine ⟨λ_=>?_,λ_=>?_⟩)|(refine ⟨by omega,?_⟩)|(intro _)
       all_goals (refine hK _ ?_;clear hK K)
       all_goals
        refine ⟨_,LeS.kp [(0,.sl 3 (xs.map DtCSnap.cells)),(1,.fn F [] [.ptr 0 0]),(6,.sl 3 (xs.map DtCSnap.cells)),(7,(.g (.int .i64 ((xs.length:Nat))))),(8,(.g (.int .i64 (((i+1):Nat)))))] (by simp [zG10,KpE];try rfl),_,?_,i+1,rfl,?_,rfl⟩
        ·omega
        ·refine ⟨by omega,?_⟩;grind
  ·try simp at hc13
   all_goals
    refine zbx ?_
    refine zbn ?_
    refine AW_r rfl rfl λK hK=>?_
    simp (disch:=omega) [zG11,DtCSnap.cells]
    repeat' first|(exfalso;omega)|(refine zdb 0 (.inr rfl) (zbt [.s name] rfl) (zbe (zb6 rfl) (zbe zcq zbo)) (hf _) rfl ?_;try simp (disch:=omega) [zG11,DtCSnap.cells])|(refine ⟨λ_=>?_,λ_=>?_⟩)|(refine ⟨by omega,?_⟩)|(intro _)
    all_goals (refine hK _ ?_;clear hK K)
    all_goals
     refine zbp (zcb ?_)
     simp (disch:=omega) [zG11,DtCSnap.cells]
     all_goals first|(exact zch (by assumption) (by assumption) hpre)|(exact zc4 (λj x h=>hpre j x (by omega)))
theorem snap(s:DtCSet)(name:List UInt8)(hs:s.fSnaps.length≤1048576):PCall Try.prog 93 [.agg (DtCSet.cells s),.s name] (.g (.int .i64 (findN s.fSnaps name))):=by
 refine zbr Try.func93 (by rfl) (by rfl) (by rw [Try.ntmps93];exact Nat.le_of_ble_eq_true rfl) rfl (by decide) ?_
 rw [Try.ntmps93]
 refine AW_k [(0,_),(1,_)] ⟨rfl,rfl,trivial⟩ ?_
 refine AW_r rfl rfl λK hK=>?_
 simp [DtCSet.cells]
 repeat' first|(refine ⟨by omega,?_⟩)|(intro _)
 refine hK _ ?_;clear hK K
 refine AW_r rfl rfl λK hK=>?_
 simp [DtCSet.cells]
 repeat' first|(refine zdb 64 (.inl rfl) (zbt [.s name] rfl) (zbe zce (zbe zvs zbo)) (zn2 _ hs (λx=>snap1 x name)) rfl ?_;simp [DtCSet.cells])|(refine ⟨by omega,?_⟩)|(intro _)
 refine hK _ ?_;clear hK K
 refine zbp (zcb ?_)
 simp [DtCSet.cells,findN]
 all_goals first | omega|(simp_all;done)|(simp [List.take_of_length_le];done)|((try simp_all);(try simp (disch:=omega) only [zcj,Int.tdiv_eq_ediv_of_nonneg,Int.tmod_eq_emod_of_nonneg,and_true,true_and]);done)|((try simp_all);(try simp (disch:=omega) only [zcj,Int.tdiv_eq_ediv_of_nonneg,Int.tmod_eq_emod_of_nonneg,and_true,true_and] at *);omega)
theorem setOk(s:DtCSet)(hs:DtCSet.sz s≤1048576):PCall Try.prog 86 [.agg (DtCSet.cells s)] (.g (.bool (decB (SetP s)))):=by
 have hl:s.fSnaps.length≤1048576:=by have:=zck DtCSnap.sz_nonneg s.fSnaps;simp only [DtCSet.sz,szS] at hs;omega
 have hw:s.fName.length≤1048576:=by have:=zck DtCSnap.sz_nonneg s.fSnaps;simp only [DtCSet.sz,szS] at hs;omega
 have hsn:∀k (h:k<s.fSnaps.length),s.fSnaps[k].fName.length≤1048576∧s.fSnaps[k].fTag.length≤1048576∧s.fSnaps[k].fChunks.length≤1048576:=by
  intro k h
  have h1:=zdu DtCSnap.sz_nonneg s.fSnaps s.fSnaps[k] (List.getElem_mem _)
  have h2:=zck zdt s.fSnaps[k].fChunks
  simp only [DtCSet.sz,szS] at hs
  simp only [DtCSnap.sz,szS] at h1
  omega
 refine zbr Try.func86 (by rfl) (by rfl) (by rw [Try.ntmps86];exact Nat.le_of_ble_eq_true rfl) rfl (by decide) ?_
 rw [Try.ntmps86]
 refine AW_k [(0,_)] ⟨rfl,trivial⟩ ?_
 refine AW_r rfl rfl λK hK=>?_
 simp (disch:=omega) [zG9,DtCSet.cells,DtCSnap.cells]
 repeat' first|(refine ⟨by omega,?_⟩)|(intro _)
 refine hK _ ?_;clear hK K
 refine zbi ?_
 refine AW_r rfl rfl λK hK=>?_
 simp (disch:=omega) [zG9,DtCSet.cells,DtCSnap.cells]
 repeat' first|(refine ⟨by omega,?_⟩)|(intro _)
 refine hK _ ?_;clear hK K
 refine zbm ?_
 refine zbv (λmM sS=>∃(k:Nat),mM=s.fSnaps.length-k∧(k≤s.fSnaps.length∧∀j p,j<k→s.fSnaps[j]? = some p→SnapP p∧findN s.fSnaps p.fName=j)∧sS = { env:=lkE [(1,.ptr 32 0),(6,.sl 3 (s.fSnaps.map DtCSnap.cells)),(7,(.g (.int .i64 ((s.fSnaps.length:Nat))))),(8,(.g (.int .i64 ((k:Nat)))))],ob:=lk [(32,.cells (DtCSet.cells s))] }) ?_ ?_
 ·refine ⟨_,LeS.ko [(1,.ptr 32 0),(6,.sl 3 (s.fSnaps.map DtCSnap.cells)),(7,(.g (.int .i64 ((s.fSnaps.length:Nat))))),(8,(.g (.int .i64 (((0):Nat)))))] [(32,.cells (DtCSet.cells s))] (by simp [zG10,KpE,DtCSet.cells];try rfl) (by simp [KpO,zbz,zbq,zby,zcc,DtCSet.cells];try rfl) (by rfl) (by simp) (by rfl),_,0,rfl,?_,rfl⟩
  ·simp
 ·rintro mM sS ⟨k,rfl,⟨hk,hkre⟩,rfl⟩
  refine AW_r rfl rfl λK hK=>?_
  simp (disch:=omega) [zG9,DtCSet.cells,DtCSnap.cells]
  repeat' first|(refine ⟨by omega,?_⟩)|(intro _)
  refine hK _ ?_;clear hK K
  refine zbi ?_
  refine zbh rfl (λhc15=>?_) (λhc15=>?_)
  ·try simp at hc15
   all_goals
    have hg2:s.fSnaps[k]? = some (s.fSnaps[k]):=List.getElem?_eq_getElem (by omega)
    have hm:=hsn k (by omega)
    refine zbj ?_
    refine zbn ?_
    refine zbi ?_
    refine zbm ?_
    refine AW_r rfl rfl λK hK=>?_
    simp (disch:=omega) [zG9,DtCSet.cells,DtCSnap.cells]
    repeat' first|(exfalso;omega)|(refine ⟨λ_=>?_,λ_=>?_⟩)|(refine ⟨by omega,?_⟩)|(intro _)
    all_goals (refine hK _ ?_;clear hK K)
    all_goals
     refine AW_r rfl rfl λK hK=>?_
     simp (disch:=omega) [zG9,DtCSet.cells,DtCSnap.cells]
     repeat' first|(exfalso;omega)|(refine zdg (zbe zgs zbo) (isWord _ (by omega)) rfl ?_;simp (disch:=omega) [zG9,DtCSet.cells,DtCSnap.cells])|(refine zdg (zbe zcl (zbe zcl (zbe zcl zbo))) (zkp _ _ _) rfl ?_;simp (disch:=omega) [zG9,DtCSet.cells,DtCSnap.cells])|(refine zdg (zbe zce zbo) (zta _ (by omega)) rfl ?_;simp (disch:=omega) [zG9,DtCSet.cells,DtCSnap.cells])|(refine zdg (zbe (zb6 rfl) (zbe zgs zbo)) (snap _ _ (by omega)) rfl ?_;simp (disch:=omega) [zG9,DtCSet.cells,DtCSnap.cells])|(refine ⟨λ_=>?_,λ_=>?_⟩)|(refine ⟨by omega,?_⟩)|(intro _)
     all_goals (refine hK _ ?_;clear hK K)
     all_goals
      refine zbh rfl (λhc16=>?_) (λhc16=>?_)
      ·try simp at hc16
       all_goals
        refine AW_r rfl rfl λK hK=>?_
        simp (disch:=omega) [zG9,DtCSet.cells,DtCSnap.cells]
        repeat' first|(exfalso;omega)|(refine ⟨λ_=>?_,λ_=>?_⟩)|(refine ⟨by omega,?_⟩)|(intro _)
        all_goals (refine hK _ ?_;clear hK K)
        all_goals
         refine zbp (zcb ?_)
         simp (disch:=omega) [zG9,DtCSet.cells,DtCSnap.cells]
         all_goals first | grind [SetP,SnapP,Ch8]|(refine zb5 λh=>?_;grind [SetP,SnapP,Ch8])|(refine zb4 ?_;grind [SetP,SnapP,Ch8])|(rw [Bool.eq_iff_iff,zba];simp [zba];grind [SetP,SnapP,Ch8])
      ·try simp at hc16
       all_goals
        refine zbj ?_
        refine zbn ?_
        refine zc8 rfl rfl λK hK=>?_
        simp (disch:=omega) [zG9,DtCSet.cells,DtCSnap.cells]
        repeat' first|(exfalso;omega)|(refine ⟨λ_=>?_,λ_=>?_⟩)|(refine ⟨by omega,?_⟩)|(intro _)
        all_goals (refine hK _ ?_;clear hK K)
        all_goals
         refine ⟨_,LeS.ko [(1,.ptr 32 0),(6,.sl 3 (s.fSnaps.map DtCSnap.cells)),(7,(.g (.int .i64 ((s.fSnaps.length:Nat))))),(8,(.g (.int .i64 (((k+1):Nat)))))] [(32,.cells (DtCSet.cells s))] (by simp [zG10,KpE,DtCSet.cells];try rfl) (by simp [KpO,zbz,zbq,zby,zcc,DtCSet.cells];try rfl) (by rfl) (by simp) (by rfl),_,?_,k+1,rfl,?_,rfl⟩
         ·omega
         ·refine ⟨by omega,?_⟩;clear hsn;grind [SnapP,Ch8]
  ·try simp at hc15
   all_goals
    refine zbx ?_
    refine zbn ?_
    refine AW_r rfl rfl λK hK=>?_
    simp (disch:=omega) [zG9,DtCSet.cells,DtCSnap.cells]
    repeat' first|(exfalso;omega)|(refine zdg (zbe zgs zbo) (isWord _ (by omega)) rfl ?_;simp (disch:=omega) [zG9,DtCSet.cells,DtCSnap.cells])|(refine ⟨λ_=>?_,λ_=>?_⟩)|(refine ⟨by omega,?_⟩)|(intro _)
    all_goals (refine hK _ ?_;clear hK K)
    all_goals
     refine zbp (zcb ?_)
     simp (disch:=omega) [zG9,DtCSet.cells,DtCSnap.cells]
     all_goals first | grind [SetP,SnapP,Ch8]|(refine zb5 λh=>?_;grind [SetP,SnapP,Ch8])|(refine zb4 ?_;grind [SetP,SnapP,Ch8])|(rw [Bool.eq_iff_iff,zba];simp [zba];grind [SetP,SnapP,Ch8])
theorem zm6(c:DtCatalog)(hs:DtCatalog.sz c≤1048576):PCall Try.prog 58 [.agg (DtCatalog.cells c)] (.g (.bool (decB (CatP c)))):=by
 have hl:c.fSets.length≤1048576:=by have:=zck DtCSet.sz_nonneg c.fSets;simp only [DtCatalog.sz,szS] at hs;omega
 have hl2:∀i (h:i<c.fSets.length),DtCSet.sz c.fSets[i]≤1048576:=by
  intro i h
  have h1:=zdu DtCSet.sz_nonneg c.fSets c.fSets[i] (List.getElem_mem _)
  simp only [DtCatalog.sz,szS] at hs
  omega
 refine zbr Try.func58 (by rfl) (by rfl) (by rw [Try.ntmps58];exact Nat.le_of_ble_eq_true rfl) rfl (by decide) ?_
 rw [Try.ntmps58]
 refine AW_k [(0,_)] ⟨rfl,trivial⟩ ?_
 refine AW_r rfl rfl λK hK=>?_
 simp (disch:=omega) [zG9,DtCatalog.cells,DtCSet.cells,DtCSnap.cells]
 repeat' first|(refine ⟨by omega,?_⟩)|(intro _)
 refine hK _ ?_;clear hK K
 refine zbi ?_
 refine AW_r rfl rfl λK hK=>?_
 simp (disch:=omega) [zG9,DtCatalog.cells,DtCSet.cells,DtCSnap.cells]
 repeat' first|(refine ⟨by omega,?_⟩)|(intro _)
 refine hK _ ?_;clear hK K
 refine zbm ?_
 refine zbv (λmM sS=>∃(i:Nat),mM=c.fSets.length-i∧(i≤c.fSets.length∧∀j s,j<i→c.fSets[j]? = some s→SetP s∧∀t,0<j→c.fSets[j-1]? = some t→Op.bytesLess t.fName s.fName=true)∧sS = { env:=lkE [(1,.ptr 32 0),(6,.sl 2 (c.fSets.map DtCSet.cells)),(7,(.g (.int .i64 ((c.fSets.length:Nat))))),(8,(.g (.int .i64 ((i:Nat)))))],ob:=lk [(32,.cells (DtCatalog.cells c))] }) ?_ ?_
 ·refine ⟨_,LeS.ko [(1,.ptr 32 0),(6,.sl 2 (c.fSets.map DtCSet.cells)),(7,(.g (.int .i64 ((c.fSets.length:Nat))))),(8,(.g (.int .i64 (((0):Nat)))))] [(32,.cells (DtCatalog.cells c))] (by simp [zG10,KpE,DtCatalog.cells,DtCSet.cells];try rfl) (by simp [KpO,zbz,zbq,zby,zcc,DtCatalog.cells,DtCSet.cells];try rfl) (by rfl) (by simp) (by rfl),_,0,rfl,?_,rfl⟩
  ·simp
 ·rintro mM sS ⟨i,rfl,⟨hi,hpre⟩,rfl⟩
  refine AW_r rfl rfl λK hK=>?_
  simp (disch:=omega) [zG9,DtCatalog.cells,DtCSet.cells,DtCSnap.cells]
  repeat' first|(refine ⟨by omega,?_⟩)|(intro _)
  refine hK _ ?_;clear hK K
  refine zbi ?_
  refine zbh rfl (λhc17=>?_) (λhc17=>?_)
  ·try simp at hc17
   all_goals
    have hg:c.fSets[i]? = some (c.fSets[i]):=List.getElem?_eq_getElem (by omega)
    have hg':c.fSets[i-1]? = some (c.fSets[i-1]):=List.getElem?_eq_getElem (by omega)
    have hm:=hl2 i (by omega)
    rcases Nat.eq_zero_or_pos i with hi0 | hi0
    all_goals
     refine zbj ?_
     refine zbn ?_
     refine zbi ?_
     refine zbm ?_
     refine AW_r rfl rfl λK hK=>?_
     simp (disch:=omega) [zG9,DtCatalog.cells,DtCSet.cells,DtCSnap.cells]
     repeat' first|(exfalso;omega)|(refine ⟨λ_=>?_,λ_=>?_⟩)|(refine ⟨by omega,?_⟩)|(intro _)
     all_goals (refine hK _ ?_;clear hK K)
     all_goals
      refine AW_q rfl mix (by kernel_rfl) rfl λK hK=>?_
      simp (disch:=omega) [zG9,DtCatalog.cells,DtCSet.cells,DtCSnap.cells]
      repeat' first|(exfalso;omega)|(refine zdg (zbe (zb6 rfl) zbo) (setOk _ (by first | assumption | omega)) rfl ?_;simp (disch:=omega) [zG9,DtCatalog.cells,DtCSet.cells,DtCSnap.cells])|(refine ⟨λ_=>?_,λ_=>?_⟩)|(refine ⟨by omega,?_⟩)|(intro _)
      all_goals (refine hK _ ?_;clear hK K)
      all_goals
       refine zbh rfl (λhc18=>?_) (λhc18=>?_)
       ·try simp at hc18
        all_goals
         refine AW_r rfl rfl λK hK=>?_
         simp (disch:=omega) [zG9,DtCatalog.cells,DtCSet.cells,DtCSnap.cells]
         repeat' first|(exfalso;omega)|(refine ⟨λ_=>?_,λ_=>?_⟩)|(refine ⟨by omega,?_⟩)|(intro _)
         all_goals (refine hK _ ?_;clear hK K)
         all_goals
          refine zbp (zcb ?_)
          simp (disch:=omega) [zG9,DtCatalog.cells,DtCSet.cells,DtCSnap.cells]
          all_goals first | grind [CatP]|(refine zb5 λh=>?_;grind [CatP])|(refine zb4 ?_;grind [CatP])|(rw [Bool.eq_iff_iff,zba];simp;grind [CatP])
       ·try simp at hc18
        all_goals
         refine zbj ?_
         refine zbn ?_
         refine zc8 rfl rfl λK hK=>?_
         simp (disch:=omega) [zG9,DtCatalog.cells,DtCSet.cells,DtCSnap.cells]
         repeat' first|(exfalso;omega)|(refine ⟨λ_=>?_,λ_=>?_⟩)|(refine ⟨by omega,?_⟩)|(intro _)
         all_goals (refine hK _ ?_;clear hK K)
         all_goals
          refine ⟨_,LeS.ko [(1,.ptr 32 0),(6,.sl 2 (c.fSets.map DtCSet.cells)),(7,(.g (.int .i64 ((c.fSets.length:Nat))))),(8,(.g (.int .i64 (((i+1):Nat)))))] [(32,.cells (DtCatalog.cells c))] (by simp [zG10,KpE,DtCatalog.cells,DtCSet.cells];try rfl) (by simp [KpO,zbz,zbq,zby,zcc,DtCatalog.cells,DtCSet.cells];try rfl) (by rfl) (by simp) (by rfl),_,?_,i+1,rfl,?_,rfl⟩
          ·omega
          ·refine ⟨by omega,?_⟩;clear hg' hl2;grind
  ·try simp at hc17
   all_goals
    refine zbx ?_
    refine zbn ?_
    refine AW_r rfl rfl λK hK=>?_
    simp (disch:=omega) [zG9,DtCatalog.cells,DtCSet.cells,DtCSnap.cells]
    repeat' first|(exfalso;omega)|(refine ⟨λ_=>?_,λ_=>?_⟩)|(refine ⟨by omega,?_⟩)|(intro _)
    all_goals (refine hK _ ?_;clear hK K)
    all_goals
     refine zbp (zcb ?_)
     simp (disch:=omega) [zG9,DtCatalog.cells,DtCSet.cells,DtCSnap.cells]
     all_goals first | grind [CatP]|(refine zb5 λh=>?_;grind [CatP])|(refine zb4 ?_;grind [CatP])|(rw [Bool.eq_iff_iff,zba];simp;grind [CatP])
end Go.Proofs.Ytodmafgmdlkhoaa.Vs
end
section
namespace Go.Proofs.Ytodmafgmdlkhoaa.Vs
set_option linter.all false
set_option maxRecDepth 100000
theorem len0{α:Type}(l:List α):((l.length:Int)=0)=(l=[]):=by rw [eq_iff_iff,←List.length_eq_zero_iff];omega
def MayP(s:List UInt8)(must:Bool):Prop:=if must then Word s else s=[]
def zeroCmd:DtCmd:=⟨0,0,0,[],[],[],0,[]⟩
def CmdP(c:DtCmd):Prop:=(c.fKind=0∧c=zeroCmd)∨(1≤c.fKind∧c.fKind≤7∧1≤c.fClient∧c.fClient≤9∧1≤c.fNo∧c.fNo≤1000∧(c.fKind≠7→Word c.fSet)∧(c.fKind=7→c.fSet=[])∧(c.fKind=3∨c.fKind=4→Word c.fName)∧(¬(c.fKind=3∨c.fKind=4)→c.fName=[])∧(c.fKind=4→Word c.fTag)∧(c.fKind≠4→c.fTag=[])∧(c.fN≠0→c.fKind=5∧0≤c.fN∧c.fN≤9)∧(c.fKind=3→1≤c.fChunks.length∧c.fChunks.length≤4∧Ch8 c.fChunks)∧(c.fKind≠3→c.fChunks=[]))
theorem l4May(s:List UInt8)(b:Bool):PCall Try.prog 40 [.s s,(.g (.bool (b)))] (.g (.bool (decB (MayP s b)))):=by
 refine zbr Try.func40 (by rfl) (by rfl) (by rw [Try.ntmps40];exact Nat.le_of_ble_eq_true rfl) rfl (by decide) ?_
 rw [Try.ntmps40]
 refine AW_k [(0,_),(1,_)] ⟨rfl,rfl,trivial⟩ ?_
 refine AW_r rfl rfl λK hK=>?_
 simp (disch:=omega)
 repeat' first|(refine ⟨by omega,?_⟩)|(intro _)
 refine hK _ ?_;clear hK K
 refine zbi ?_
 refine AW_r rfl rfl λK hK=>?_
 simp (disch:=omega)
 repeat' first|(refine ⟨by omega,?_⟩)|(intro _)
 refine hK _ ?_;clear hK K
 refine zbh rfl (λhc1=>?_) (λhc1=>?_)
 ·try simp at hc1
  all_goals
   refine AW_r rfl rfl λK hK=>?_
   simp (disch:=omega)
   repeat' first|(exfalso;omega)|(refine zdg (zbe zgs zbo) (l4Word _) rfl ?_;simp (disch:=omega))|(refine ⟨λ_=>?_,λ_=>?_⟩)|(refine ⟨by omega,?_⟩)|(intro _)
   all_goals (refine hK _ ?_;clear hK K)
   all_goals
    refine zbp (zcb ?_)
    simp (disch:=omega)
    all_goals first|(simp_all [MayP];done)|(rw [Bool.eq_iff_iff];simp_all [MayP,zba])
 ·try simp at hc1
  all_goals
   refine zbj ?_
   refine zbn ?_
   refine AW_r rfl rfl λK hK=>?_
   simp (disch:=omega)
   repeat' first|(exfalso;omega)|(refine ⟨λ_=>?_,λ_=>?_⟩)|(refine ⟨by omega,?_⟩)|(intro _)
   all_goals (refine hK _ ?_;clear hK K)
   all_goals
    refine zbp (zcb ?_)
    simp (disch:=omega)
    all_goals first|(simp_all [MayP];done)|(rw [Bool.eq_iff_iff];simp_all [MayP,zba])
theorem wordIf(s:List UInt8)(b:Bool)(hs:s.length≤1048576):PCall Try.prog 60 [.s s,(.g (.bool (b)))] (.g (.bool (decB (MayP s b)))):=by
 refine zbr Try.func60 (by rfl) (by rfl) (by rw [Try.ntmps60];exact Nat.le_of_ble_eq_true rfl) rfl (by decide) ?_
 rw [Try.ntmps60]
 refine AW_k [(0,_),(1,_)] ⟨rfl,rfl,trivial⟩ ?_
 refine AW_r rfl rfl λK hK=>?_
 simp (disch:=omega)
 repeat' first|(refine ⟨by omega,?_⟩)|(intro _)
 refine hK _ ?_;clear hK K
 refine zbi ?_
 refine AW_r rfl rfl λK hK=>?_
 simp (disch:=omega)
 repeat' first|(refine ⟨by omega,?_⟩)|(intro _)
 refine hK _ ?_;clear hK K
 refine zbh rfl (λhc2=>?_) (λhc2=>?_)
 ·try simp at hc2
  all_goals
   refine AW_r rfl rfl λK hK=>?_
   simp (disch:=omega)
   repeat' first|(exfalso;omega)|(refine zdg (zbe zgs zbo) (isWord _ (by omega)) rfl ?_;simp (disch:=omega))|(refine ⟨λ_=>?_,λ_=>?_⟩)|(refine ⟨by omega,?_⟩)|(intro _)
   all_goals (refine hK _ ?_;clear hK K)
   all_goals
    refine zbp (zcb ?_)
    simp (disch:=omega)
    all_goals first|(simp_all [MayP];done)|(rw [Bool.eq_iff_iff];simp_all [MayP,zba])
 ·try simp at hc2
  all_goals
   refine zbj ?_
   refine zbn ?_
   refine AW_r rfl rfl λK hK=>?_
   simp (disch:=omega)
   repeat' first|(exfalso;omega)|(refine ⟨λ_=>?_,λ_=>?_⟩)|(refine ⟨by omega,?_⟩)|(intro _)
   all_goals (refine hK _ ?_;clear hK K)
   all_goals
    refine zbp (zcb ?_)
    simp (disch:=omega)
    all_goals first|(simp_all [MayP];done)|(rw [Bool.eq_iff_iff];simp_all [MayP,zba])
theorem l4Texts(xs ys:List (List UInt8))(hn:xs.length≤1048576):PCall Try.prog 79 [.sl 1 (xs.map cS),.sl 1 (ys.map cS)] (.g (.bool (eqB xs ys))):=by
 refine zbr Try.func79 (by rfl) (by rfl) (by rw [Try.ntmps79];exact Nat.le_of_ble_eq_true rfl) rfl (by decide) ?_
 rw [Try.ntmps79]
 refine AW_k [(0,_),(1,_)] ⟨rfl,rfl,trivial⟩ ?_
 refine AW_r rfl rfl λK hK=>?_
 simp (disch:=omega)
 repeat' first|(refine ⟨by omega,?_⟩)|(intro _)
 refine hK _ ?_;clear hK K
 refine zbi ?_
 refine AW_r rfl rfl λK hK=>?_
 simp (disch:=omega)
 repeat' first|(refine ⟨by omega,?_⟩)|(intro _)
 refine hK _ ?_;clear hK K
 refine zbh rfl (λhc3=>?_) (λhc3=>?_)
 ·try simp at hc3
  all_goals
   refine AW_r rfl rfl λK hK=>?_
   simp (disch:=omega)
   repeat' first|(exfalso;omega)|(refine ⟨λ_=>?_,λ_=>?_⟩)|(refine ⟨by omega,?_⟩)|(intro _)
   all_goals (refine hK _ ?_;clear hK K)
   all_goals
    refine zbp (zcb ?_)
    simp (disch:=omega)
    all_goals first|(exact zpm heq)|(refine zkn λheq=>?_;subst heq;simp_all;done)
 ·try simp at hc3
  all_goals
   refine zbj ?_
   refine zbn ?_
   refine zbi ?_
   refine AW_r rfl rfl λK hK=>?_
   simp (disch:=omega)
   repeat' first|(exfalso;omega)|(refine ⟨λ_=>?_,λ_=>?_⟩)|(refine ⟨by omega,?_⟩)|(intro _)
   all_goals (refine hK _ ?_;clear hK K)
   all_goals
    refine zbm ?_
    refine zbv (λmM sS=>∃(i:Nat),mM=xs.length-i∧(i≤xs.length∧∀j,j<i→xs[j]? = ys[j]?)∧sS = { env:=lkE [(0,.sl 1 (xs.map cS)),(1,.sl 1 (ys.map cS)),(5,(.g (.int .i64 ((i:Nat)))))],ob:=formOb [] [] }) ?_ ?_
    ·refine ⟨_,LeS.kp [(0,.sl 1 (xs.map cS)),(1,.sl 1 (ys.map cS)),(5,(.g (.int .i64 (((0):Nat)))))] (by simp [zG10,KpE];try rfl),_,0,rfl,?_,rfl⟩
     ·simp
    ·rintro mM sS ⟨i,rfl,⟨hi,hpre⟩,rfl⟩
     refine zbi ?_
     refine AW_r rfl rfl λK hK=>?_
     simp (disch:=omega) [cS]
     repeat' first|(refine ⟨by omega,?_⟩)|(intro _)
     refine hK _ ?_;clear hK K
     refine zbh rfl (λhc4=>?_) (λhc4=>?_)
     ·try simp at hc4
      all_goals
       have h7:i<ys.length:=by omega
       refine zbj ?_
       refine zbn ?_
       refine zbi ?_
       refine zbm ?_
       refine AW_q rfl mix (by kernel_rfl) rfl λK hK=>?_
       simp (disch:=omega) [cS]
       repeat' first|(exfalso;omega)|(refine ⟨λ_=>?_,λ_=>?_⟩)|(refine ⟨by omega,?_⟩)|(intro _)
       all_goals (refine hK _ ?_;clear hK K)
       all_goals
        refine zbh rfl (λhc5=>?_) (λhc5=>?_)
        ·try simp at hc5
         all_goals
          refine AW_r rfl rfl λK hK=>?_
          simp (disch:=omega) [cS]
          repeat' first|(exfalso;omega)|(refine ⟨λ_=>?_,λ_=>?_⟩)|(refine ⟨by omega,?_⟩)|(intro _)
          all_goals (refine hK _ ?_;clear hK K)
          all_goals
           refine zbp (zcb ?_)
           simp (disch:=omega) [cS]
           all_goals first|(exact zpm heq)|(refine zkn λheq=>?_;subst heq;simp_all;done)
        ·try simp at hc5
         all_goals
          refine zbj ?_
          refine zbn ?_
          refine zc8 rfl rfl λK hK=>?_
          simp (disch:=omega) [cS]
          repeat' first|(exfalso;omega)|(refine ⟨λ_=>?_,λ_=>?_⟩)|(refine ⟨by omega,?_⟩)|(intro _)
          all_goals (refine hK _ ?_;clear hK K)
          all_goals
           refine ⟨_,LeS.kp [(0,.sl 1 (xs.map cS)),(1,.sl 1 (ys.map cS)),(5,(.g (.int .i64 (((i+1):Nat)))))] (by simp [zG10,KpE];try rfl),_,?_,i+1,rfl,?_,rfl⟩
           ·omega
           ·refine ⟨by omega,λj hj=>?_⟩
            by_cases hji:j=i
            ·subst hji;simp_all
            ·exact hpre j (by omega)
     ·try simp at hc4
      all_goals
       have hi2:i=xs.length:=by omega
       subst hi2
       have heq:xs=ys:=List.ext_getElem? λj=>by
        by_cases hj:j<xs.length
        ·exact hpre j hj
        ·rw [List.getElem?_eq_none (by omega),List.getElem?_eq_none (by omega)]
       refine zbx ?_
       refine zbn ?_
       refine AW_r rfl rfl λK hK=>?_
       simp (disch:=omega) [cS]
       repeat' first|(exfalso;omega)|(refine ⟨λ_=>?_,λ_=>?_⟩)|(refine ⟨by omega,?_⟩)|(intro _)
       all_goals (refine hK _ ?_;clear hK K)
       all_goals
        refine zbp (zcb ?_)
        simp (disch:=omega) [cS]
        all_goals first|(exact zpm heq)|(refine zkn λheq=>?_;subst heq;simp_all;done)
theorem equalS(xs ys:List (List UInt8))(hn:xs.length≤1048576):PCall Try.prog 87 [.sl 1 (xs.map cS),.sl 1 (ys.map cS)] (.g (.bool (eqB xs ys))):=by
 refine zbr Try.func87 (by rfl) (by rfl) (by rw [Try.ntmps87];exact Nat.le_of_ble_eq_true rfl) rfl (by decide) ?_
 rw [Try.ntmps87]
 refine AW_k [(0,_),(1,_)] ⟨rfl,rfl,trivial⟩ ?_
 refine AW_r rfl rfl λK hK=>?_
 simp (disch:=omega)
 repeat' first|(refine ⟨by omega,?_⟩)|(intro _)
 refine hK _ ?_;clear hK K
 refine zbi ?_
 refine AW_r rfl rfl λK hK=>?_
 simp (disch:=omega)
 repeat' first|(refine ⟨by omega,?_⟩)|(intro _)
 refine hK _ ?_;clear hK K
 refine zbh rfl (λhc6=>?_) (λhc6=>?_)
 ·try simp at hc6
  all_goals
   refine AW_r rfl rfl λK hK=>?_
   simp (disch:=omega)
   repeat' first|(exfalso;omega)|(refine ⟨λ_=>?_,λ_=>?_⟩)|(refine ⟨by omega,?_⟩)|(intro _)
   all_goals (refine hK _ ?_;clear hK K)
   all_goals
    refine zbp (zcb ?_)
    simp (disch:=omega)
    all_goals first|(exact zpm heq)|(refine zkn λheq=>?_;subst heq;simp_all;done)
 ·try simp at hc6
  all_goals
   refine zbj ?_
   refine zbn ?_
   refine zbi ?_
   refine AW_r rfl rfl λK hK=>?_
   simp (disch:=omega)
   repeat' first|(exfalso;omega)|(refine ⟨λ_=>?_,λ_=>?_⟩)|(refine ⟨by omega,?_⟩)|(intro _)
   all_goals (refine hK _ ?_;clear hK K)
   all_goals
    refine zbm ?_
    refine zbv (λmM sS=>∃(i:Nat),mM=xs.length-i∧(i≤xs.length∧∀j,j<i→xs[j]? = ys[j]?)∧sS = { env:=lkE [(0,.sl 1 (xs.map cS)),(1,.sl 1 (ys.map cS)),(12,(.g (.int .i64 ((xs.length:Nat))))),(13,(.g (.int .i64 ((i:Nat)))))],ob:=formOb [] [] }) ?_ ?_
    ·refine ⟨_,LeS.kp [(0,.sl 1 (xs.map cS)),(1,.sl 1 (ys.map cS)),(12,(.g (.int .i64 ((xs.length:Nat))))),(13,(.g (.int .i64 (((0):Nat)))))] (by simp [zG10,KpE];try rfl),_,0,rfl,?_,rfl⟩
     ·simp
    ·rintro mM sS ⟨i,rfl,⟨hi,hpre⟩,rfl⟩
     refine AW_r rfl rfl λK hK=>?_
     simp (disch:=omega) [cS]
     repeat' first|(refine ⟨by omega,?_⟩)|(intro _)
     refine hK _ ?_;clear hK K
     refine zbi ?_
     refine zbh rfl (λhc7=>?_) (λhc7=>?_)
     ·try simp at hc7
      all_goals
       have h7:i<ys.length:=by omega
       refine zbj ?_
       refine zbn ?_
       refine zbi ?_
       refine zbm ?_
       refine AW_r rfl rfl λK hK=>?_
       simp (disch:=omega) [cS]
       repeat' first|(exfalso;omega)|(refine ⟨λ_=>?_,λ_=>?_⟩)|(refine ⟨by omega,?_⟩)|(intro _)
       all_goals (refine hK _ ?_;clear hK K)
       all_goals
        refine AW_q rfl mix (by kernel_rfl) rfl λK hK=>?_
        simp (disch:=omega) [cS]
        repeat' first|(refine ⟨by omega,?_⟩)|(intro _)
        refine hK _ ?_;clear hK K
        refine zbh rfl (λhc8=>?_) (λhc8=>?_)
        ·try simp at hc8
         all_goals
          refine AW_r rfl rfl λK hK=>?_
          simp (disch:=omega) [cS]
          repeat' first|(exfalso;omega)|(refine ⟨λ_=>?_,λ_=>?_⟩)|(refine ⟨by omega,?_⟩)|(intro _)
          all_goals (refine hK _ ?_;clear hK K)
          all_goals
           refine zbp (zcb ?_)
           simp (disch:=omega) [cS]
           all_goals first|(exact zpm heq)|(refine zkn λheq=>?_;subst heq;simp_all;done)
        ·try simp at hc8
         all_goals
          refine zbj ?_
          refine zbn ?_
          refine zc8 rfl rfl λK hK=>?_
          simp (disch:=omega) [cS]
          repeat' first|(exfalso;omega)|(refine ⟨λ_=>?_,λ_=>?_⟩)|(refine ⟨by omega,?_⟩)|(intro _)
          all_goals (refine hK _ ?_;clear hK K)
          all_goals
           refine ⟨_,LeS.kp [(0,.sl 1 (xs.map cS)),(1,.sl 1 (ys.map cS)),(12,(.g (.int .i64 ((xs.length:Nat))))),(13,(.g (.int .i64 (((i+1):Nat)))))] (by simp [zG10,KpE];try rfl),_,?_,i+1,rfl,?_,rfl⟩
           ·omega
           ·refine ⟨by omega,λj hj=>?_⟩
            by_cases hji:j=i
            ·subst hji;simp_all
            ·exact hpre j (by omega)
     ·try simp at hc7
      all_goals
       have hi2:i=xs.length:=by omega
       subst hi2
       have heq:xs=ys:=List.ext_getElem? λj=>by
        by_cases hj:j<xs.length
        ·exact hpre j hj
        ·rw [List.getElem?_eq_none (by omega),List.getElem?_eq_none (by omega)]
       refine zbx ?_
       refine zbn ?_
       refine AW_r rfl rfl λK hK=>?_
       simp (disch:=omega) [cS]
       repeat' first|(exfalso;omega)|(refine ⟨λ_=>?_,λ_=>?_⟩)|(refine ⟨by omega,?_⟩)|(intro _)
       all_goals (refine hK _ ?_;clear hK K)
       all_goals
        refine zbp (zcb ?_)
        simp (disch:=omega) [cS]
        all_goals first|(exact zpm heq)|(refine zkn λheq=>?_;subst heq;simp_all;done)
attribute [local simp] DtCmd.cells
theorem zwf(a b:DtCmd)(hn:a.fChunks.length≤1048576):PCall Try.prog 39 [.agg (DtCmd.cells a),.agg (DtCmd.cells b)] (.g (.bool (eqB a b))):=by
 have he:=DtCmd.ext_iff a b
 refine zbr Try.func39 (by rfl) (by rfl) (by rw [Try.ntmps39];exact Nat.le_of_ble_eq_true rfl) rfl (by decide) ?_
 rw [Try.ntmps39]
 refine AW_k [(0,_),(1,_)] ⟨rfl,rfl,trivial⟩ ?_
 refine AW_r rfl rfl λK hK=>?_
 simp
 repeat' first|(refine ⟨by omega,?_⟩)|(intro _)
 refine hK _ ?_;clear hK K
 refine AW_r rfl rfl λK hK=>?_
 simp
 repeat' first|(refine zdg (zbe zce (zbe zce zbo)) (l4Texts _ _ (by assumption)) rfl ?_;simp)|(refine ⟨λ_=>?_,λ_=>?_⟩)|(refine ⟨by omega,?_⟩)|(intro _)
 all_goals (refine hK _ ?_;clear hK K)
 all_goals
  refine zbp (zcb ?_)
  simp
  all_goals first|(refine zkn λh=>?_;rw [he] at h;simp_all;done)|(rw [Bool.eq_iff_iff,zbc,zbc,he];simp_all;done)|(rw [Bool.eq_iff_iff,zbc,he];simp_all [zbc];done)
theorem zwg(a b:DtCmd)(hn:a.fChunks.length≤1048576):PCall Try.prog 59 [.agg (DtCmd.cells a),.agg (DtCmd.cells b)] (.g (.bool (eqB a b))):=by
 have he:=DtCmd.ext_iff a b
 refine zbr Try.func59 (by rfl) (by rfl) (by rw [Try.ntmps59];exact Nat.le_of_ble_eq_true rfl) rfl (by decide) ?_
 rw [Try.ntmps59]
 refine AW_k [(0,_),(1,_)] ⟨rfl,rfl,trivial⟩ ?_
 refine AW_r rfl rfl λK hK=>?_
 simp
 repeat' first|(refine ⟨by omega,?_⟩)|(intro _)
 refine hK _ ?_;clear hK K
 refine AW_r rfl rfl λK hK=>?_
 simp
 repeat' first|(refine zdg (zbe zce (zbe zce zbo)) (equalS _ _ (by assumption)) rfl ?_;simp)|(refine ⟨λ_=>?_,λ_=>?_⟩)|(refine ⟨by omega,?_⟩)|(intro _)
 all_goals (refine hK _ ?_;clear hK K)
 all_goals
  refine zbp (zcb ?_)
  simp
  all_goals first|(refine zkn λh=>?_;rw [he] at h;simp_all;done)|(rw [Bool.eq_iff_iff,zbc,zbc,he];simp_all;done)|(rw [Bool.eq_iff_iff,zbc,he];simp_all [zbc];done)
attribute [local simp] zba zbf
theorem zfy(c:DtCmd)(hs:DtCmd.sz c≤1048576):PCall Try.prog 10 [.agg (DtCmd.cells c)] (.g (.bool (decB (CmdP c)))):=by
 have ⟨hl,hw1,hw2,hw3⟩:c.fChunks.length≤1048576∧c.fSet.length≤1048576∧c.fName.length≤1048576∧c.fTag.length≤1048576:=by have:=zck zdt c.fChunks;simp only [DtCmd.sz,szS] at hs;omega
 refine zbr Try.func10 (by rfl) (by rfl) (by rw [Try.ntmps10];exact Nat.le_of_ble_eq_true rfl) rfl (by decide) ?_
 rw [Try.ntmps10]
 refine AW_k [(0,_)] ⟨rfl,trivial⟩ ?_
 refine AW_r rfl rfl λK hK=>?_
 simp (disch:=omega)
 repeat' first|(refine ⟨by omega,?_⟩)|(intro _)
 refine hK _ ?_;clear hK K
 refine zbi ?_
 refine AW_r rfl rfl λK hK=>?_
 simp (disch:=omega)
 repeat' first|(exfalso;omega)|(refine zdg (zbe zcl (zbe zcl (zbe zcl zbo))) (l1In _ _ _) rfl ?_;simp (disch:=omega))|(refine ⟨by omega,?_⟩)|(intro _)
 refine hK _ ?_;clear hK K
 refine zbh rfl (λhc9=>?_) (λhc9=>?_)
 ·try simp [zba,zbf,zbc,zbb] at hc9
  all_goals
   refine AW_r rfl rfl λK hK=>?_
   simp (disch:=omega)
   repeat' first|(exfalso;omega)|(refine ⟨λ_=>?_,λ_=>?_⟩)|(refine ⟨by omega,?_⟩)|(intro _)
   all_goals (refine hK _ ?_;clear hK K)
   all_goals
    refine zbp (zcb ?_)
    simp (disch:=omega)
    all_goals first | grind [CmdP,MayP,Ch8]|(rw [Bool.eq_iff_iff,zba,zbc];grind [CmdP,zeroCmd])|(simp only [CmdP,MayP,Ch8] at *;grind)|(rw [Bool.eq_iff_iff,zba];simp [zba];grind [CmdP,MayP,Ch8])|(rw [Bool.eq_iff_iff,zba,zba];grind [CmdP,MayP,Ch8])|(rw [Bool.eq_iff_iff,zba,beq_iff_eq,len0];grind [CmdP,MayP,Ch8])
 ·try simp [zba,zbf,zbc,zbb] at hc9
  all_goals
   refine zbj ?_
   refine zbn ?_
   refine zbi ?_
   refine AW_r rfl rfl λK hK=>?_
   simp (disch:=omega)
   repeat' first|(exfalso;omega)|(refine ⟨λ_=>?_,λ_=>?_⟩)|(refine ⟨by omega,?_⟩)|(intro _)
   all_goals (refine hK _ ?_;clear hK K)
   all_goals
    refine zbh rfl (λhc10=>?_) (λhc10=>?_)
    ·try simp [zba,zbf,zbc,zbb] at hc10
     all_goals
      refine AW_r rfl rfl λK hK=>?_
      simp (disch:=omega)
      repeat' first|(exfalso;omega)|(refine zdg (zbe (zb6 rfl) (zbe (a:=.agg _) (b:=.agg (DtCmd.cells zeroCmd)) (by simp [DtCmd.cells,zeroCmd,am2_ff,zvq,zvp,am1_gg,am1_ss,am1_nl]) zbo)) (zwf c zeroCmd hl) rfl ?_;simp (disch:=omega))|(refine ⟨λ_=>?_,λ_=>?_⟩)|(refine ⟨by omega,?_⟩)|(intro _)
      all_goals (refine hK _ ?_;clear hK K)
      all_goals
       refine zbp (zcb ?_)
       simp (disch:=omega)
       all_goals first | grind [CmdP,MayP,Ch8]|(rw [Bool.eq_iff_iff,zba,zbc];grind [CmdP,zeroCmd])|(simp only [CmdP,MayP,Ch8] at *;grind)|(rw [Bool.eq_iff_iff,zba];simp [zba];grind [CmdP,MayP,Ch8])|(rw [Bool.eq_iff_iff,zba,zba];grind [CmdP,MayP,Ch8])|(rw [Bool.eq_iff_iff,zba,beq_iff_eq,len0];grind [CmdP,MayP,Ch8])
    ·try simp [zba,zbf,zbc,zbb] at hc10
     all_goals
      refine zbj ?_
      refine zbn ?_
      refine AW_r rfl rfl λK hK=>?_
      simp (disch:=omega)
      repeat' first|(exfalso;omega)|(refine ⟨λ_=>?_,λ_=>?_⟩)|(refine ⟨by omega,?_⟩)|(intro _)
      all_goals (refine hK _ ?_;clear hK K)
      all_goals
       refine zbi ?_
       refine AW_r rfl rfl λK hK=>?_
       simp (disch:=omega)
       repeat' first|(exfalso;omega)|(refine zdg (zbe zcl (zbe zcl (zbe zcl zbo))) (l1In _ _ _) rfl ?_;simp (disch:=omega))|(refine zdg (zbe zgs (zbe zcl zbo)) (l4May _ _) rfl ?_;simp (disch:=omega))|(refine ⟨λ_=>?_,λ_=>?_⟩)|(refine ⟨by omega,?_⟩)|(intro _)
       all_goals (refine hK _ ?_;clear hK K)
       all_goals
        refine zbh rfl (λhc11=>?_) (λhc11=>?_)
        ·try simp [zba,zbf,zbc,zbb] at hc11
         all_goals
          refine AW_r rfl rfl λK hK=>?_
          simp (disch:=omega)
          repeat' first|(exfalso;omega)|(refine ⟨λ_=>?_,λ_=>?_⟩)|(refine ⟨by omega,?_⟩)|(intro _)
          all_goals (refine hK _ ?_;clear hK K)
          all_goals
           refine zbp (zcb ?_)
           simp (disch:=omega)
           all_goals first | grind [CmdP,MayP,Ch8]|(rw [Bool.eq_iff_iff,zba,zbc];grind [CmdP,zeroCmd])|(simp only [CmdP,MayP,Ch8] at *;grind)|(rw [Bool.eq_iff_iff,zba];simp [zba];grind [CmdP,MayP,Ch8])|(rw [Bool.eq_iff_iff,zba,zba];grind [CmdP,MayP,Ch8])|(rw [Bool.eq_iff_iff,zba,beq_iff_eq,len0];grind [CmdP,MayP,Ch8])
        ·try simp [zba,zbf,zbc,zbb] at hc11
         all_goals
          refine zbj ?_
          refine zbn ?_
          refine zbi ?_
          refine AW_r rfl rfl λK hK=>?_
          simp (disch:=omega)
          repeat' first|(exfalso;omega)|(refine ⟨λ_=>?_,λ_=>?_⟩)|(refine ⟨by omega,?_⟩)|(intro _)
          all_goals (refine hK _ ?_;clear hK K)
          all_goals
           refine zbh rfl (λhc12=>?_) (λhc12=>?_)
           ·try simp [zba,zbf,zbc,zbb] at hc12
            all_goals
             refine AW_r rfl rfl λK hK=>?_
             simp (disch:=omega)
             repeat' first|(exfalso;omega)|(refine ⟨λ_=>?_,λ_=>?_⟩)|(refine ⟨by omega,?_⟩)|(intro _)
             all_goals (refine hK _ ?_;clear hK K)
             all_goals
              refine zbp (zcb ?_)
              simp (disch:=omega)
              all_goals first | grind [CmdP,MayP,Ch8]|(rw [Bool.eq_iff_iff,zba,zbc];grind [CmdP,zeroCmd])|(simp only [CmdP,MayP,Ch8] at *;grind)|(rw [Bool.eq_iff_iff,zba];simp [zba];grind [CmdP,MayP,Ch8])|(rw [Bool.eq_iff_iff,zba,zba];grind [CmdP,MayP,Ch8])|(rw [Bool.eq_iff_iff,zba,beq_iff_eq,len0];grind [CmdP,MayP,Ch8])
           ·try simp [zba,zbf,zbc,zbb] at hc12
            all_goals
             refine zbj ?_
             refine zbn ?_
             refine zbi ?_
             refine AW_r rfl rfl λK hK=>?_
             simp (disch:=omega)
             repeat' first|(exfalso;omega)|(refine zdg (zbe zcl (zbe zcl (zbe zcl zbo))) (l1In _ _ _) rfl ?_;simp (disch:=omega))|(refine ⟨λ_=>?_,λ_=>?_⟩)|(refine ⟨by omega,?_⟩)|(intro _)
             all_goals (refine hK _ ?_;clear hK K)
             all_goals
              refine zbh rfl (λhc13=>?_) (λhc13=>?_)
              ·try simp [zba,zbf,zbc,zbb] at hc13
               all_goals
                refine AW_r rfl rfl λK hK=>?_
                simp (disch:=omega)
                repeat' first|(exfalso;omega)|(refine ⟨λ_=>?_,λ_=>?_⟩)|(refine ⟨by omega,?_⟩)|(intro _)
                all_goals (refine hK _ ?_;clear hK K)
                all_goals
                 refine zbp (zcb ?_)
                 simp (disch:=omega)
                 all_goals first | grind [CmdP,MayP,Ch8]|(rw [Bool.eq_iff_iff,zba,zbc];grind [CmdP,zeroCmd])|(simp only [CmdP,MayP,Ch8] at *;grind)|(rw [Bool.eq_iff_iff,zba];simp [zba];grind [CmdP,MayP,Ch8])|(rw [Bool.eq_iff_iff,zba,zba];grind [CmdP,MayP,Ch8])|(rw [Bool.eq_iff_iff,zba,beq_iff_eq,len0];grind [CmdP,MayP,Ch8])
              ·try simp [zba,zbf,zbc,zbb] at hc13
               all_goals
                refine zbj ?_
                refine zbn ?_
                refine zbi ?_
                refine AW_r rfl rfl λK hK=>?_
                simp (disch:=omega)
                repeat' first|(exfalso;omega)|(refine ⟨λ_=>?_,λ_=>?_⟩)|(refine ⟨by omega,?_⟩)|(intro _)
                all_goals (refine hK _ ?_;clear hK K)
                all_goals
                 refine zbm ?_
                 refine zbv (λmM sS=>∃(i:Nat),mM=c.fChunks.length-i∧(i≤c.fChunks.length∧∀(j:Nat) x,j<i→c.fChunks[j]? = some x→x.length=8)∧sS = { env:=lkE [(1,.ptr 32 0),(4,(.g (.int .i64 ((i:Nat)))))],ob:=upd (formOb [] []) 32 (some (.cells (DtCmd.cells c))) }) ?_ ?_
                 ·refine ⟨_,LeS.kp [(1,.ptr 32 0),(4,(.g (.int .i64 (((0):Nat)))))] (by simp [zG10,KpE];try rfl),_,0,rfl,?_,rfl⟩
                  ·simp
                 ·rintro mM sS ⟨i,rfl,⟨hi,hpre⟩,rfl⟩
                  refine zbi ?_
                  refine AW_r rfl rfl λK hK=>?_
                  simp (disch:=omega) [cS]
                  repeat' first|(refine ⟨by omega,?_⟩)|(intro _)
                  refine hK _ ?_;clear hK K
                  refine zbh rfl (λhc14=>?_) (λhc14=>?_)
                  ·try simp [zba,zbf,zbc,zbb] at hc14
                   all_goals
                    have hg:c.fChunks[i]? = some c.fChunks[i]:=List.getElem?_eq_getElem (by omega)
                    refine zbj ?_
                    refine zbn ?_
                    refine zbi ?_
                    refine zbm ?_
                    refine AW_r rfl rfl λK hK=>?_
                    simp (disch:=omega) [cS]
                    repeat' first|(exfalso;omega)|(refine ⟨λ_=>?_,λ_=>?_⟩)|(refine ⟨by omega,?_⟩)|(intro _)
                    all_goals (refine hK _ ?_;clear hK K)
                    all_goals
                     refine zbh rfl (λhc15=>?_) (λhc15=>?_)
                     ·try simp [zba,zbf,zbc,zbb] at hc15
                      all_goals
                       refine AW_r rfl rfl λK hK=>?_
                       simp (disch:=omega) [cS]
                       repeat' first|(exfalso;omega)|(refine ⟨λ_=>?_,λ_=>?_⟩)|(refine ⟨by omega,?_⟩)|(intro _)
                       all_goals (refine hK _ ?_;clear hK K)
                       all_goals
                        refine zbp (zcb ?_)
                        simp (disch:=omega) [cS]
                        all_goals first | grind [CmdP,MayP,Ch8]|(rw [Bool.eq_iff_iff,zba,zbc];grind [CmdP,zeroCmd])|(simp only [CmdP,MayP,Ch8] at *;grind)|(rw [Bool.eq_iff_iff,zba];simp [zba];grind [CmdP,MayP,Ch8])|(rw [Bool.eq_iff_iff,zba,zba];grind [CmdP,MayP,Ch8])|(rw [Bool.eq_iff_iff,zba,beq_iff_eq,len0];grind [CmdP,MayP,Ch8])
                     ·try simp [zba,zbf,zbc,zbb] at hc15
                      all_goals
                       refine zbj ?_
                       refine zbn ?_
                       refine zc8 rfl rfl λK hK=>?_
                       simp (disch:=omega) [cS]
                       repeat' first|(exfalso;omega)|(refine ⟨λ_=>?_,λ_=>?_⟩)|(refine ⟨by omega,?_⟩)|(intro _)
                       all_goals (refine hK _ ?_;clear hK K)
                       all_goals
                        refine ⟨_,LeS.kp [(1,.ptr 32 0),(4,(.g (.int .i64 (((i+1):Nat)))))] (by simp [zG10,KpE];try rfl),_,?_,i+1,rfl,?_,rfl⟩
                        ·omega
                        ·refine ⟨by omega,?_⟩;grind
                  ·try simp [zba,zbf,zbc,zbb] at hc14
                   all_goals
                    refine zbx ?_
                    refine zbn ?_
                    refine AW_r rfl rfl λK hK=>?_
                    simp (disch:=omega) [cS]
                    repeat' first|(exfalso;omega)|(refine ⟨λ_=>?_,λ_=>?_⟩)|(refine ⟨by omega,?_⟩)|(intro _)
                    all_goals (refine hK _ ?_;clear hK K)
                    all_goals
                     refine zbp (zcb ?_)
                     simp (disch:=omega) [cS]
                     all_goals first | grind [CmdP,MayP,Ch8]|(rw [Bool.eq_iff_iff,zba,zbc];grind [CmdP,zeroCmd])|(simp only [CmdP,MayP,Ch8] at *;grind)|(rw [Bool.eq_iff_iff,zba];simp [zba];grind [CmdP,MayP,Ch8])|(rw [Bool.eq_iff_iff,zba,zba];grind [CmdP,MayP,Ch8])|(rw [Bool.eq_iff_iff,zba,beq_iff_eq,len0];grind [CmdP,MayP,Ch8])
theorem zg9(c:DtCmd)(hs:DtCmd.sz c≤1048576):PCall Try.prog 29 [.agg (DtCmd.cells c)] (.g (.bool (decB (CmdP c)))):=by
 have ⟨hl,hw1,hw2,hw3⟩:c.fChunks.length≤1048576∧c.fSet.length≤1048576∧c.fName.length≤1048576∧c.fTag.length≤1048576:=by have:=zck zdt c.fChunks;simp only [DtCmd.sz,szS] at hs;omega
 refine zbr Try.func29 (by rfl) (by rfl) (by rw [Try.ntmps29];exact Nat.le_of_ble_eq_true rfl) rfl (by decide) ?_
 rw [Try.ntmps29]
 refine AW_k [(0,_)] ⟨rfl,trivial⟩ ?_
 refine AW_r rfl rfl λK hK=>?_
 simp (disch:=omega)
 repeat' first|(refine ⟨by omega,?_⟩)|(intro _)
 refine hK _ ?_;clear hK K
 refine zbi ?_
 refine AW_r rfl rfl λK hK=>?_
 simp (disch:=omega)
 repeat' first|(refine ⟨by omega,?_⟩)|(intro _)
 refine hK _ ?_;clear hK K
 refine zbh rfl (λhc16=>?_) (λhc16=>?_)
 ·try simp [zba,zbf,zbc,zbb] at hc16
  all_goals
   refine AW_r rfl rfl λK hK=>?_
   simp (disch:=omega)
   repeat' first|(exfalso;omega)|(refine zdg (zbe (zb6 rfl) (zbe (a:=.agg _) (b:=.agg (DtCmd.cells zeroCmd)) (by simp [DtCmd.cells,zeroCmd,am2_ff,zvq,zvp,am1_gg,am1_ss,am1_nl]) zbo)) (zwg c zeroCmd hl) rfl ?_;simp (disch:=omega))|(refine ⟨λ_=>?_,λ_=>?_⟩)|(refine ⟨by omega,?_⟩)|(intro _)
   all_goals (refine hK _ ?_;clear hK K)
   all_goals
    refine zbp (zcb ?_)
    simp (disch:=omega)
    all_goals first | grind [CmdP,MayP,Ch8]|(rw [Bool.eq_iff_iff,zba,zbc];grind [CmdP,zeroCmd])|(simp only [CmdP,MayP,Ch8] at *;grind)|(rw [Bool.eq_iff_iff,zba];simp [zba];grind [CmdP,MayP,Ch8])|(rw [Bool.eq_iff_iff,zba,zba];grind [CmdP,MayP,Ch8])|(rw [Bool.eq_iff_iff,zba,beq_iff_eq,len0];grind [CmdP,MayP,Ch8])
 ·try simp [zba,zbf,zbc,zbb] at hc16
  all_goals
   refine zbj ?_
   refine zbn ?_
   refine zbi ?_
   refine AW_r rfl rfl λK hK=>?_
   simp (disch:=omega)
   repeat' first|(exfalso;omega)|(refine zdg (zbe zcl (zbe zcl (zbe zcl zbo))) (zkp _ _ _) rfl ?_;simp (disch:=omega))|(refine ⟨λ_=>?_,λ_=>?_⟩)|(refine ⟨by omega,?_⟩)|(intro _)
   all_goals (refine hK _ ?_;clear hK K)
   all_goals
    refine zbh rfl (λhc17=>?_) (λhc17=>?_)
    ·try simp [zba,zbf,zbc,zbb] at hc17
     all_goals
      refine AW_r rfl rfl λK hK=>?_
      simp (disch:=omega)
      repeat' first|(exfalso;omega)|(refine ⟨λ_=>?_,λ_=>?_⟩)|(refine ⟨by omega,?_⟩)|(intro _)
      all_goals (refine hK _ ?_;clear hK K)
      all_goals
       refine zbp (zcb ?_)
       simp (disch:=omega)
       all_goals first | grind [CmdP,MayP,Ch8]|(rw [Bool.eq_iff_iff,zba,zbc];grind [CmdP,zeroCmd])|(simp only [CmdP,MayP,Ch8] at *;grind)|(rw [Bool.eq_iff_iff,zba];simp [zba];grind [CmdP,MayP,Ch8])|(rw [Bool.eq_iff_iff,zba,zba];grind [CmdP,MayP,Ch8])|(rw [Bool.eq_iff_iff,zba,beq_iff_eq,len0];grind [CmdP,MayP,Ch8])
    ·try simp [zba,zbf,zbc,zbb] at hc17
     all_goals
      refine zbj ?_
      refine zbn ?_
      refine zbi ?_
      refine AW_r rfl rfl λK hK=>?_
      simp (disch:=omega)
      repeat' first|(exfalso;omega)|(refine zdg (zbe zgs (zbe zcl zbo)) (wordIf _ _ (by omega)) rfl ?_;simp (disch:=omega))|(refine ⟨λ_=>?_,λ_=>?_⟩)|(refine ⟨by omega,?_⟩)|(intro _)
      all_goals (refine hK _ ?_;clear hK K)
      all_goals
       refine zbh rfl (λhc18=>?_) (λhc18=>?_)
       ·try simp [zba,zbf,zbc,zbb] at hc18
        all_goals
         refine AW_r rfl rfl λK hK=>?_
         simp (disch:=omega)
         repeat' first|(exfalso;omega)|(refine ⟨λ_=>?_,λ_=>?_⟩)|(refine ⟨by omega,?_⟩)|(intro _)
         all_goals (refine hK _ ?_;clear hK K)
         all_goals
          refine zbp (zcb ?_)
          simp (disch:=omega)
          all_goals first | grind [CmdP,MayP,Ch8]|(rw [Bool.eq_iff_iff,zba,zbc];grind [CmdP,zeroCmd])|(simp only [CmdP,MayP,Ch8] at *;grind)|(rw [Bool.eq_iff_iff,zba];simp [zba];grind [CmdP,MayP,Ch8])|(rw [Bool.eq_iff_iff,zba,zba];grind [CmdP,MayP,Ch8])|(rw [Bool.eq_iff_iff,zba,beq_iff_eq,len0];grind [CmdP,MayP,Ch8])
       ·try simp [zba,zbf,zbc,zbb] at hc18
        all_goals
         refine zbj ?_
         refine zbn ?_
         refine zbi ?_
         refine AW_r rfl rfl λK hK=>?_
         simp (disch:=omega)
         repeat' first|(exfalso;omega)|(refine zdg (zbe zcl (zbe zcl (zbe zcl zbo))) (zkp _ _ _) rfl ?_;simp (disch:=omega))|(refine ⟨λ_=>?_,λ_=>?_⟩)|(refine ⟨by omega,?_⟩)|(intro _)
         all_goals (refine hK _ ?_;clear hK K)
         all_goals
          refine zbh rfl (λhc19=>?_) (λhc19=>?_)
          ·try simp [zba,zbf,zbc,zbb] at hc19
           all_goals
            refine AW_r rfl rfl λK hK=>?_
            simp (disch:=omega)
            repeat' first|(exfalso;omega)|(refine ⟨λ_=>?_,λ_=>?_⟩)|(refine ⟨by omega,?_⟩)|(intro _)
            all_goals (refine hK _ ?_;clear hK K)
            all_goals
             refine zbp (zcb ?_)
             simp (disch:=omega)
             all_goals first | grind [CmdP,MayP,Ch8]|(rw [Bool.eq_iff_iff,zba,zbc];grind [CmdP,zeroCmd])|(simp only [CmdP,MayP,Ch8] at *;grind)|(rw [Bool.eq_iff_iff,zba];simp [zba];grind [CmdP,MayP,Ch8])|(rw [Bool.eq_iff_iff,zba,zba];grind [CmdP,MayP,Ch8])|(rw [Bool.eq_iff_iff,zba,beq_iff_eq,len0];grind [CmdP,MayP,Ch8])
          ·try simp [zba,zbf,zbc,zbb] at hc19
           all_goals
            refine zbj ?_
            refine zbn ?_
            refine zbi ?_
            refine AW_r rfl rfl λK hK=>?_
            simp (disch:=omega)
            repeat' first|(exfalso;omega)|(refine ⟨λ_=>?_,λ_=>?_⟩)|(refine ⟨by omega,?_⟩)|(intro _)
            all_goals (refine hK _ ?_;clear hK K)
            all_goals
             refine zbh rfl (λhc20=>?_) (λhc20=>?_)
             ·try simp [zba,zbf,zbc,zbb] at hc20
              all_goals
               refine AW_r rfl rfl λK hK=>?_
               simp (disch:=omega)
               repeat' first|(exfalso;omega)|(refine zdg (zbe zcl (zbe zcl (zbe zcl zbo))) (zkp _ _ _) rfl ?_;simp (disch:=omega))|(refine zdg (zbe zce zbo) (zta _ (by omega)) rfl ?_;simp (disch:=omega))|(refine ⟨λ_=>?_,λ_=>?_⟩)|(refine ⟨by omega,?_⟩)|(intro _)
               all_goals (refine hK _ ?_;clear hK K)
               all_goals
                refine zbp (zcb ?_)
                simp (disch:=omega)
                all_goals first | grind [CmdP,MayP,Ch8]|(rw [Bool.eq_iff_iff,zba,zbc];grind [CmdP,zeroCmd])|(simp only [CmdP,MayP,Ch8] at *;grind)|(rw [Bool.eq_iff_iff,zba];simp [zba];grind [CmdP,MayP,Ch8])|(rw [Bool.eq_iff_iff,zba,zba];grind [CmdP,MayP,Ch8])|(rw [Bool.eq_iff_iff,zba,beq_iff_eq,len0];grind [CmdP,MayP,Ch8])
             ·try simp [zba,zbf,zbc,zbb] at hc20
              all_goals
               refine zbj ?_
               refine zbn ?_
               refine AW_r rfl rfl λK hK=>?_
               simp (disch:=omega)
               repeat' first|(exfalso;omega)|(refine ⟨λ_=>?_,λ_=>?_⟩)|(refine ⟨by omega,?_⟩)|(intro _)
               all_goals (refine hK _ ?_;clear hK K)
               all_goals
                refine zbp (zcb ?_)
                simp (disch:=omega)
                all_goals first | grind [CmdP,MayP,Ch8]|(rw [Bool.eq_iff_iff,zba,zbc];grind [CmdP,zeroCmd])|(simp only [CmdP,MayP,Ch8] at *;grind)|(rw [Bool.eq_iff_iff,zba];simp [zba];grind [CmdP,MayP,Ch8])|(rw [Bool.eq_iff_iff,zba,zba];grind [CmdP,MayP,Ch8])|(rw [Bool.eq_iff_iff,zba,beq_iff_eq,len0];grind [CmdP,MayP,Ch8])
end Go.Proofs.Ytodmafgmdlkhoaa.Vs
end
