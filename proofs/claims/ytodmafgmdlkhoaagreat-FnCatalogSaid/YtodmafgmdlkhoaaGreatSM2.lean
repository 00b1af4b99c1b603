import Derived.Test.YtodmafgmdlkhoaaGreatSM1
import Derived.Test.YtodmafgmdlkhoaaGreatVs9
import Derived.Sort.Walk0
section
namespace Go.Proofs.YtodmafgmdlkhoaaGreat.Vs
set_option linter.all false
set_option maxRecDepth 100000
def zG3:=And.intro @zb0 (And.intro @zbk @zbr)
def zG4:=And.intro @zbf @zbn
theorem l15In(l:List (List UInt8))(x:List UInt8)(hn:l.length≤1048576):PCall Tryz.prog 77 [.sl 1 (l.map cS),.s x] (.g (.bool (decB (x∈l)))):=by
 refine zbq Tryz.func77 (by rfl) (by rfl) (by rw [Tryz.ntmps77];exact Nat.le_of_ble_eq_true rfl) rfl (by decide) ?_
 rw [Tryz.ntmps77]
 refine AW_k [(0,_),(1,_)] ⟨rfl,rfl,trivial⟩ ?_
 refine AW_r rfl rfl λK hK=>?_
 simp (disch:=omega)
 repeat' first|(refine ⟨by omega,?_⟩)|(intro _)
 refine hK _ ?_;clear hK K
 refine zbh ?_
 refine AW_r rfl rfl λK hK=>?_
 simp (disch:=omega)
 repeat' first|(refine ⟨by omega,?_⟩)|(intro _)
 refine hK _ ?_;clear hK K
 refine zbj ?_
 refine zbs (λmM sS=>∃(i:Nat),mM=l.length-i∧(i≤l.length∧∀(j:Nat) y,j<i→l[j]? = some y→y≠x)∧sS = { env:=lkE [(0,.sl 1 (l.map cS)),(1,.s x),(5,(.g (.int .i64 ((i:Nat)))))],ob:=formOb [] [] }) ?_ ?_
 ·refine ⟨_,LeS.kp [(0,.sl 1 (l.map cS)),(1,.s x),(5,(.g (.int .i64 (((0):Nat)))))] (by simp [zG3,KpE];try rfl),_,0,rfl,?_,rfl⟩
  ·simp
 ·rintro mM sS ⟨i,rfl,⟨hi,hpre⟩,rfl⟩
  refine zbh ?_
  refine AW_r rfl rfl λK hK=>?_
  simp (disch:=omega) [cS]
  repeat' first|(refine ⟨by omega,?_⟩)|(intro _)
  refine hK _ ?_;clear hK K
  refine zbg rfl (λhc1=>?_) (λhc1=>?_)
  ·try simp [zG4,zbc,zbb] at hc1
   all_goals
    have hg:l[i]? = some l[i]:=List.getElem?_eq_getElem (by omega)
    refine zbi ?_
    refine zbm ?_
    refine zbh ?_
    refine zbj ?_
    refine AW_r rfl rfl λK hK=>?_
    simp (disch:=omega) [cS]
    repeat' first|(exfalso;omega)|(refine ⟨λ_=>?_,λ_=>?_⟩)|(refine ⟨by omega,?_⟩)|(intro _)
    all_goals (refine hK _ ?_;clear hK K)
    all_goals
     refine zbg rfl (λhc2=>?_) (λhc2=>?_)
     ·try simp [zG4,zbc,zbb] at hc2
      all_goals
       refine AW_r rfl rfl λK hK=>?_
       simp (disch:=omega) [cS]
       repeat' first|(exfalso;omega)|(refine ⟨λ_=>?_,λ_=>?_⟩)|(refine ⟨by omega,?_⟩)|(intro _)
       all_goals (refine hK _ ?_;clear hK K)
       all_goals
        refine zbp (zcb ?_)
        simp (disch:=omega) [cS]
        all_goals first|(refine zco λh=>?_;grind [List.mem_iff_getElem?])|(refine zcc ?_;grind [List.mem_iff_getElem?])
     try simp [zG4,zbc,zbb] at hc2
     refine zbi ?_
     refine zbm ?_
     refine zcv rfl rfl λK hK=>?_
     simp (disch:=omega) [cS]
     repeat' first|(exfalso;omega)|(refine ⟨λ_=>?_,λ_=>?_⟩)|(refine ⟨by omega,?_⟩)|(intro _)
     all_goals (refine hK _ ?_;clear hK K)
     all_goals
      refine ⟨_,LeS.kp [(0,.sl 1 (l.map cS)),(1,.s x),(5,(.g (.int .i64 (((i+1):Nat)))))] (by simp [zG3,KpE];try rfl),_,?_,i+1,rfl,?_,rfl⟩
      ·omega
      ·refine ⟨by omega,?_⟩;grind
  try simp [zG4,zbc,zbb] at hc1
  refine zbx ?_
  refine zbm ?_
  refine AW_r rfl rfl λK hK=>?_
  simp (disch:=omega) [cS]
  repeat' first|(exfalso;omega)|(refine ⟨λ_=>?_,λ_=>?_⟩)|(refine ⟨by omega,?_⟩)|(intro _)
  all_goals (refine hK _ ?_;clear hK K)
  all_goals
   refine zbp (zcb ?_)
   simp (disch:=omega) [cS]
   all_goals first|(refine zco λh=>?_;grind [List.mem_iff_getElem?])|(refine zcc ?_;grind [List.mem_iff_getElem?])
theorem indexS(l:List (List UInt8))(x:List UInt8)(hn:l.length≤1048576):PCall Tryz.prog 122 [.sl 1 (l.map cS),.s x] (.g (.int .i64 (idxZ (λy=>eqB x y) l))):=by
 refine zbq Tryz.func122 (by rfl) (by rfl) (by rw [Tryz.ntmps122];exact Nat.le_of_ble_eq_true rfl) rfl (by decide) ?_
 rw [Tryz.ntmps122]
 refine AW_k [(0,_),(1,_)] ⟨rfl,rfl,trivial⟩ ?_
 refine AW_r rfl rfl λK hK=>?_
 simp (disch:=omega)
 repeat' first|(refine ⟨by omega,?_⟩)|(intro _)
 refine hK _ ?_;clear hK K
 refine zbh ?_
 refine AW_r rfl rfl λK hK=>?_
 simp (disch:=omega)
 repeat' first|(refine ⟨by omega,?_⟩)|(intro _)
 refine hK _ ?_;clear hK K
 refine zbj ?_
 refine zbs (λmM sS=>∃(i:Nat),mM=l.length-i∧(i≤l.length∧∀(j:Nat) y,j<i→l[j]? = some y→eqB x y=false)∧sS = { env:=lkE [(0,.sl 1 (l.map cS)),(1,.s x),(6,.sl 1 (l.map cS)),(7,(.g (.int .i64 ((l.length:Nat))))),(8,(.g (.int .i64 ((i:Nat)))))],ob:=formOb [] [] }) ?_ ?_
 ·refine ⟨_,LeS.kp [(0,.sl 1 (l.map cS)),(1,.s x),(6,.sl 1 (l.map cS)),(7,(.g (.int .i64 ((l.length:Nat))))),(8,(.g (.int .i64 (((0):Nat)))))] (by simp [zG3,KpE];try rfl),_,0,rfl,?_,rfl⟩
  ·simp
 ·rintro mM sS ⟨i,rfl,⟨hi,hpre⟩,rfl⟩
  refine AW_r rfl rfl λK hK=>?_
  simp (disch:=omega) [cS]
  repeat' first|(refine ⟨by omega,?_⟩)|(intro _)
  refine hK _ ?_;clear hK K
  refine zbh ?_
  refine zbg rfl (λhc3=>?_) (λhc3=>?_)
  ·try simp [zG4,zbc,zbb] at hc3
   all_goals
    have hg:l[i]? = some l[i]:=List.getElem?_eq_getElem (by omega)
    refine zbi ?_
    refine zbm ?_
    refine zbh ?_
    refine zbj ?_
    refine AW_r rfl rfl λK hK=>?_
    simp (disch:=omega) [cS]
    repeat' first|(exfalso;omega)|(refine ⟨λ_=>?_,λ_=>?_⟩)|(refine ⟨by omega,?_⟩)|(intro _)
    all_goals (refine hK _ ?_;clear hK K)
    all_goals
     refine AW_r rfl rfl λK hK=>?_
     simp (disch:=omega) [cS]
     repeat' first|(refine ⟨by omega,?_⟩)|(intro _)
     refine hK _ ?_;clear hK K
     refine zbg rfl (λhc4=>?_) (λhc4=>?_)
     ·try simp [zG4,zbc,zbb] at hc4
      all_goals
       refine AW_r rfl rfl λK hK=>?_
       simp (disch:=omega) [cS]
       repeat' first|(exfalso;omega)|(refine ⟨λ_=>?_,λ_=>?_⟩)|(refine ⟨by omega,?_⟩)|(intro _)
       all_goals (refine hK _ ?_;clear hK K)
       all_goals
        refine zbp (zcb ?_)
        simp (disch:=omega) [cS]
        all_goals first|(exact zcs (by assumption) (by simp_all [zbc]) hpre)|(exact zdp (λj x h=>hpre j x (by omega)))
     try simp [zG4,zbc,zbb] at hc4
     refine zbi ?_
     refine zbm ?_
     refine zcv rfl rfl λK hK=>?_
     simp (disch:=omega) [cS]
     repeat' first|(exfalso;omega)|(refine ⟨λ_=>?_,λ_=>?_⟩)|(refine ⟨by omega,?_⟩)|(intro _)
     all_goals (refine hK _ ?_;clear hK K)
     all_goals
      refine ⟨_,LeS.kp [(0,.sl 1 (l.map cS)),(1,.s x),(6,.sl 1 (l.map cS)),(7,(.g (.int .i64 ((l.length:Nat))))),(8,(.g (.int .i64 (((i+1):Nat)))))] (by simp [zG3,KpE];try rfl),_,?_,i+1,rfl,?_,rfl⟩
      ·omega
      ·refine ⟨by omega,?_⟩;grind [zbb]
  try simp [zG4,zbc,zbb] at hc3
  refine zbx ?_
  refine zbm ?_
  refine AW_r rfl rfl λK hK=>?_
  simp (disch:=omega) [cS]
  repeat' first|(exfalso;omega)|(refine ⟨λ_=>?_,λ_=>?_⟩)|(refine ⟨by omega,?_⟩)|(intro _)
  all_goals (refine hK _ ?_;clear hK K)
  all_goals
   refine zbp (zcb ?_)
   simp (disch:=omega) [cS]
   all_goals first|(exact zcs (by assumption) (by simp_all [zbc]) hpre)|(exact zdp (λj x h=>hpre j x (by omega)))
theorem zk1(l:List (List UInt8))(x:List UInt8):decide (0≤idxZ (λy=>eqB x y) l)=decB (x∈l):=by
 rw [Bool.eq_iff_iff,zbf]
 simp only [decide_eq_true_eq]
 unfold idxZ
 split
 ·rename_i i h
  obtain ⟨h1,h2,-⟩:=List.findIdx?_eq_some_iff_getElem.1 h
  rw [zbc] at h2
  exact ⟨λ_=>h2 ▸ List.getElem_mem _,λ_=>by omega⟩
 ·rename_i h
  rw [List.findIdx?_eq_none_iff] at h
  refine ⟨λh=>by omega,λhx=>?_⟩
  have:=h x hx
  simp [zw7] at this
theorem containsS(l:List (List UInt8))(x:List UInt8)(hn:l.length≤1048576):PCall Tryz.prog 76 [.sl 1 (l.map cS),.s x] (.g (.bool (decB (x∈l)))):=by
 refine zbq Tryz.func76 (by rfl) (by rfl) (by rw [Tryz.ntmps76];exact Nat.le_of_ble_eq_true rfl) rfl (by decide) ?_
 rw [Tryz.ntmps76]
 refine AW_k [(0,_),(1,_)] ⟨rfl,rfl,trivial⟩ ?_
 refine AW_r rfl rfl λK hK=>?_
 simp (disch:=omega) [zk1]
 repeat' first|(refine ⟨by omega,?_⟩)|(intro _)
 refine hK _ ?_;clear hK K
 refine AW_r rfl rfl λK hK=>?_
 simp (disch:=omega) [zk1]
 repeat' first|(exfalso;omega)|(refine zcz (zbd zdm (zbd zdg zbl)) (indexS _ _ (by omega)) rfl ?_;simp (disch:=omega) [zk1])|(refine ⟨by omega,?_⟩)|(intro _)
 refine hK _ ?_;clear hK K
 refine zbp (zcb ?_)
 simp (disch:=omega) [zk1]
 all_goals first | omega|(simp_all;done)|(simp [List.take_of_length_le];done)|((try simp_all);(try simp (disch:=omega) only [zcf,Int.tdiv_eq_ediv_of_nonneg,Int.tmod_eq_emod_of_nonneg,and_true,true_and]);done)|((try simp_all);(try simp (disch:=omega) only [zcf,Int.tdiv_eq_ediv_of_nonneg,Int.tmod_eq_emod_of_nonneg,and_true,true_and] at *);omega)
end Go.Proofs.YtodmafgmdlkhoaaGreat.Vs
end
section
namespace Go.Proofs.YtodmafgmdlkhoaaGreat.Vs
set_option linter.all false
set_option maxRecDepth 100000
def boolZR(b:Bool):Int:=bif b then 1 else 0
theorem zmo(b:Bool):0≤boolZR b∧boolZR b≤1:=by cases b<;>simp [boolZR]
noncomputable def cntPR(x:List UInt8)(p:DtCSnap):Int:=boolZR (decB (x∈p.fChunks))
noncomputable def cntSR(x:List UInt8)(s:DtCSet):Int:=sumZ (cntPR x) s.fSnaps
noncomputable def refs(c:DtCatalog)(x:List UInt8):Int:=bif decB (CatP c) then sumZ (cntSR x) c.fSets else 0
theorem zk2(x:List UInt8)(p:DtCSnap):0≤cntPR x p:=(zmo _).1
theorem zqb(x:List UInt8)(s:DtCSet):0≤cntSR x s:=zbv (zk2 x) _
theorem zqc{α:Type}{f:α→Int}(hf:∀a,f a≤1):∀l:List α,sumZ f l≤l.length
 | []=>by simp [zcj]
 | a :: l=>by rw [zcn];have:=zqc hf l;have:=hf a;simp;omega
theorem zsm{α:Type}{f g:α→Int}(hf:∀a,f a≤g a):∀l:List α,sumZ f l≤sumZ g l
 | []=>by simp [zcj]
 | a :: l=>by rw [zcn,zcn];have:=zsm hf l;have:=hf a;omega
theorem cntS_leR(x:List UInt8)(s:DtCSet):cntSR x s≤DtCSet.sz s:=by
 have h1:=zqc (f:=cntPR x) (λp=>(zmo _).2) s.fSnaps
 have h2:=zbv DtCSnap.sz_nonneg s.fSnaps
 simp only [DtCSet.sz,szS]
 unfold cntSR
 omega
theorem catSzR(c:DtCatalog)(hs:DtCatalog.sz c≤1048576):c.fSets.length≤1048576∧(∀i (h:i<c.fSets.length),c.fSets[i].fSnaps.length≤1048576)∧∀i (h:i<c.fSets.length) k (h2:k<c.fSets[i].fSnaps.length),c.fSets[i].fSnaps[k].fChunks.length≤1048576:=by
 have h0:=zbv DtCSet.sz_nonneg c.fSets
 simp only [DtCatalog.sz,szS] at hs
 refine ⟨by omega,λi h=>?_,λi h k h2=>?_⟩
 ·have h1:=zcr DtCSet.sz_nonneg c.fSets c.fSets[i] (List.getElem_mem _)
  have h2:=zbv DtCSnap.sz_nonneg c.fSets[i].fSnaps
  simp only [DtCSet.sz,szS] at h1
  omega
 ·have h1:=zcr DtCSet.sz_nonneg c.fSets c.fSets[i] (List.getElem_mem _)
  have h3:=zcr DtCSnap.sz_nonneg c.fSets[i].fSnaps c.fSets[i].fSnaps[k] (List.getElem_mem _)
  have h4:=zbv zc6 c.fSets[i].fSnaps[k].fChunks
  simp only [DtCSet.sz,szS] at h1
  simp only [DtCSnap.sz,szS] at h3
  omega
theorem setsBd(c:DtCatalog)(x:List UInt8)(hs:DtCatalog.sz c≤1048576)(i:Nat):0≤sumZ (cntSR x) (c.fSets.take i)∧sumZ (cntSR x) (c.fSets.take i)≤1048576:=by
 have h1:=zbv (zqb x) (c.fSets.take i)
 have h2:=zka (zqb x) c.fSets i
 have h3:=zsm (cntS_leR x) c.fSets
 simp only [DtCatalog.sz,szS] at hs
 omega
theorem snapsBd(x:List UInt8)(s:DtCSet)(hl:s.fSnaps.length≤1048576)(k:Nat):0≤sumZ (cntPR x) (s.fSnaps.take k)∧sumZ (cntPR x) (s.fSnaps.take k)≤1048576:=by
 have h1:=zbv (zk2 x) (s.fSnaps.take k)
 have h2:=zka (zk2 x) s.fSnaps k
 have h3:=zqc (f:=cntPR x) (λp=>(zmo _).2) s.fSnaps
 omega
theorem zk3{c:DtCatalog}{x:List UInt8}{i:Nat}(hc:i=0∨CatP c)(h:¬CatP c∨c.fSets.length≤i):refs c x=sumZ (cntSR x) (c.fSets.take i):=by
 by_cases hp:CatP c
 ·have h2:c.fSets.length≤i:=by rcases h with h | h;exact absurd hp h;exact h
  rw [List.take_of_length_le h2,refs,zcc hp];rfl
 ·have h0:i=0:=by rcases hc with h | h;exact h;exact absurd h hp
  subst h0
  rw [refs,zco hp];simp [zcj]
def zG5:=And.intro @zcf (And.intro @gE (And.intro @tP (And.intro @zbf @zbn)))
def zG6:=And.intro @zb0 (And.intro @zbr (And.intro @zby (And.intro @zcd @zcj)))
theorem zn4(c:DtCatalog)(x:List UInt8)(hs:DtCatalog.sz c≤1048576):PCall Tryz.prog 28 [.agg (DtCatalog.cells c),.s x] (.g (.int .i64 (refs c x))):=by
 have ⟨hl,hl2,hl3⟩:=catSzR c hs
 refine zbq Tryz.func28 (by rfl) (by rfl) (by rw [Tryz.ntmps28];exact Nat.le_of_ble_eq_true rfl) rfl (by decide) ?_
 rw [Tryz.ntmps28]
 refine AW_k [(0,_),(1,_)] ⟨rfl,rfl,trivial⟩ ?_
 refine AW_r rfl rfl λK hK=>?_
 simp (disch:=omega) [zG5,DtCatalog.cells,DtCSet.cells,DtCSnap.cells]
 repeat' first|(refine ⟨by omega,?_⟩)|(intro _)
 refine hK _ ?_;clear hK K
 refine AW_r rfl rfl λK hK=>?_
 simp (disch:=omega) [zG5,DtCatalog.cells,DtCSet.cells,DtCSnap.cells]
 repeat' first|(refine ⟨by omega,?_⟩)|(intro _)
 refine hK _ ?_;clear hK K
 refine zbh ?_
 refine AW_r rfl rfl λK hK=>?_
 simp (disch:=omega) [zG5,DtCatalog.cells,DtCSet.cells,DtCSnap.cells]
 repeat' first|(refine ⟨by omega,?_⟩)|(intro _)
 refine hK _ ?_;clear hK K
 refine zbj ?_
 refine zbs (λmM sS=>∃(i:Nat),mM=c.fSets.length-i∧(i≤c.fSets.length∧(i=0∨CatP c))∧sS = { env:=lkE [(1,.s x),(2,.ptr 48 0),(5,(.g (.int .i64 (sumZ (cntSR x) (c.fSets.take i))))),(6,(.g (.int .i64 ((i:Nat)))))],ob:=lk [(48,.cells (DtCatalog.cells c))] }) ?_ ?_
 ·refine ⟨_,LeS.ko [(1,.s x),(2,.ptr 48 0),(5,(.g (.int .i64 (sumZ (cntSR x) (c.fSets.take (0)))))),(6,(.g (.int .i64 (((0):Nat)))))] [(48,.cells (DtCatalog.cells c))] (by simp [zG3,KpE,DtCatalog.cells,DtCSet.cells,zcj];try (first | rfl | omega)) (by simp [zG6,KpO,DtCatalog.cells,DtCSet.cells];try rfl) (by rfl) (by simp) (by rfl),_,0,rfl,?_,rfl⟩
  ·simp
 ·rintro mM sS ⟨i,rfl,⟨hi,hc⟩,rfl⟩
  have hb1:=setsBd c x hs i
  refine zbh ?_
  refine AW_r rfl rfl λK hK=>?_
  simp (disch:=omega) [zG5,DtCatalog.cells,DtCSet.cells,DtCSnap.cells]
  repeat' first|(exfalso;omega)|(refine zcz (zbd (zbz rfl) zbl) (zc4 _ (by omega)) rfl ?_;simp (disch:=omega) [zG5,DtCatalog.cells,DtCSet.cells,DtCSnap.cells])|(refine ⟨λ_=>?_,λ_=>?_⟩)|(refine ⟨by omega,?_⟩)|(intro _)
  all_goals (refine hK _ ?_;clear hK K)
  all_goals
   refine zbg rfl (λhc1=>?_) (λhc1=>?_)
   ·try simp [zG4,zbc,zbb] at hc1
    all_goals
     have hl2':=hl2 i (by omega)
     have hst:=zh9 (f:=cntSR x) c.fSets i (by omega)
     refine zbi ?_
     refine zbm ?_
     refine zbh ?_
     refine zbj ?_
     refine AW_r rfl rfl λK hK=>?_
     simp (disch:=omega) [zG5,DtCatalog.cells,DtCSet.cells,DtCSnap.cells]
     repeat' first|(exfalso;omega)|(refine ⟨λ_=>?_,λ_=>?_⟩)|(refine ⟨by omega,?_⟩)|(intro _)
     all_goals (refine hK _ ?_;clear hK K)
     all_goals
      refine zbj ?_
      refine zbs (λmM sS=>∃(k:Nat),mM=(c.fSets[i]).fSnaps.length-k∧(k≤(c.fSets[i]).fSnaps.length)∧sS = { env:=lkE [(1,.s x),(2,.ptr 48 0),(5,(.g (.int .i64 (sumZ (cntSR x) (c.fSets.take i)+sumZ (cntPR x) ((c.fSets[i]).fSnaps.take k))))),(6,(.g (.int .i64 ((i:Nat))))),(7,(.g (.int .i64 ((k:Nat)))))],ob:=lk [(48,.cells (DtCatalog.cells c))] }) ?_ ?_
      ·refine ⟨_,LeS.ko [(1,.s x),(2,.ptr 48 0),(5,(.g (.int .i64 (sumZ (cntSR x) (c.fSets.take i)+sumZ (cntPR x) ((c.fSets[i]).fSnaps.take (0)))))),(6,(.g (.int .i64 ((i:Nat))))),(7,(.g (.int .i64 (((0):Nat)))))] [(48,.cells (DtCatalog.cells c))] (by simp [zG3,KpE,DtCatalog.cells,DtCSet.cells,zcj];try (simp_all [cntPR,boolZR,zcc,zco];try omega)) (by simp [zG6,KpO,DtCatalog.cells,DtCSet.cells];try rfl) (by rfl) (by simp) (by rfl),_,0,rfl,?_,rfl⟩
       ·simp
      ·rintro mM sS ⟨k,rfl,hk,rfl⟩
       have hb2:=snapsBd x c.fSets[i] hl2' k
       refine zbh ?_
       refine AW_r rfl rfl λK hK=>?_
       simp (disch:=omega) [zG5,DtCatalog.cells,DtCSet.cells,DtCSnap.cells]
       repeat' first|(refine ⟨by omega,?_⟩)|(intro _)
       refine hK _ ?_;clear hK K
       refine zbg rfl (λhc2=>?_) (λhc2=>?_)
       ·try simp [zG4,zbc,zbb] at hc2
        all_goals
         have hsp:=zh9 (f:=cntPR x) (c.fSets[i]).fSnaps k (by omega)
         have hl3':=hl3 i (by omega) k (by omega)
         refine zbi ?_
         refine zbm ?_
         refine zbh ?_
         refine zbj ?_
         refine AW_r rfl rfl λK hK=>?_
         simp (disch:=omega) [zG5,DtCatalog.cells,DtCSet.cells,DtCSnap.cells]
         repeat' first|(exfalso;omega)|(refine zcz (zbd zdm (zbd zdg zbl)) (l15In _ _ (by omega)) rfl ?_;simp (disch:=omega) [zG5,DtCatalog.cells,DtCSet.cells,DtCSnap.cells])|(refine ⟨λ_=>?_,λ_=>?_⟩)|(refine ⟨by omega,?_⟩)|(intro _)
         all_goals (refine hK _ ?_;clear hK K)
         all_goals
          refine zbg rfl (λhc3=>?_) (λhc3=>?_)
          ·try simp [zG4,zbc,zbb] at hc3
           all_goals
            refine zcv rfl rfl λK hK=>?_
            simp (disch:=omega) [zG5,DtCatalog.cells,DtCSet.cells,DtCSnap.cells]
            repeat' first|(exfalso;omega)|(refine ⟨λ_=>?_,λ_=>?_⟩)|(refine ⟨by omega,?_⟩)|(intro _)
            all_goals (refine hK _ ?_;clear hK K)
            all_goals
             refine zbm ?_
             refine zcv rfl rfl λK hK=>?_
             simp (disch:=omega) [zG5,DtCatalog.cells,DtCSet.cells,DtCSnap.cells]
             repeat' first|(refine ⟨by omega,?_⟩)|(intro _)
             refine hK _ ?_;clear hK K
             refine ⟨_,LeS.ko [(1,.s x),(2,.ptr 48 0),(5,(.g (.int .i64 (sumZ (cntSR x) (c.fSets.take i)+sumZ (cntPR x) ((c.fSets[i]).fSnaps.take (k+1)))))),(6,(.g (.int .i64 ((i:Nat))))),(7,(.g (.int .i64 (((k+1):Nat)))))] [(48,.cells (DtCatalog.cells c))] (by simp [zG3,KpE,DtCatalog.cells,DtCSet.cells,zcj];try (simp_all [cntPR,boolZR,zcc,zco];try omega)) (by simp [zG6,KpO,DtCatalog.cells,DtCSet.cells];try rfl) (by rfl) (by simp) (by rfl),_,?_,k+1,rfl,?_,rfl⟩
             ·omega
             ·omega
          try simp [zG4,zbc,zbb] at hc3
          refine zbi ?_
          refine zbm ?_
          refine zcv rfl rfl λK hK=>?_
          simp (disch:=omega) [zG5,DtCatalog.cells,DtCSet.cells,DtCSnap.cells]
          repeat' first|(exfalso;omega)|(refine ⟨λ_=>?_,λ_=>?_⟩)|(refine ⟨by omega,?_⟩)|(intro _)
          all_goals (refine hK _ ?_;clear hK K)
          all_goals
           refine ⟨_,LeS.ko [(1,.s x),(2,.ptr 48 0),(5,(.g (.int .i64 (sumZ (cntSR x) (c.fSets.take i)+sumZ (cntPR x) ((c.fSets[i]).fSnaps.take (k+1)))))),(6,(.g (.int .i64 ((i:Nat))))),(7,(.g (.int .i64 (((k+1):Nat)))))] [(48,.cells (DtCatalog.cells c))] (by simp [zG3,KpE,DtCatalog.cells,DtCSet.cells,zcj];try (simp_all [cntPR,boolZR,zcc,zco];try omega)) (by simp [zG6,KpO,DtCatalog.cells,DtCSet.cells];try rfl) (by rfl) (by simp) (by rfl),_,?_,k+1,rfl,?_,rfl⟩
           ·omega
           ·omega
       try simp [zG4,zbc,zbb] at hc2
       have hk2:k=(c.fSets[i]).fSnaps.length:=by omega
       subst hk2
       have hfull:sumZ (cntPR x) (List.take (c.fSets[i]).fSnaps.length (c.fSets[i]).fSnaps)=cntSR x c.fSets[i]:=by rw [List.take_length];rfl
       have hfull2:sumZ (cntPR x) (c.fSets[i]).fSnaps=cntSR x c.fSets[i]:=rfl
       refine zbx ?_
       refine zbm ?_
       refine zcv rfl rfl λK hK=>?_
       simp (disch:=omega) [zG5,DtCatalog.cells,DtCSet.cells,DtCSnap.cells]
       repeat' first|(exfalso;omega)|(refine ⟨λ_=>?_,λ_=>?_⟩)|(refine ⟨by omega,?_⟩)|(intro _)
       all_goals (refine hK _ ?_;clear hK K)
       all_goals
        refine ⟨_,LeS.ko [(1,.s x),(2,.ptr 48 0),(5,(.g (.int .i64 (sumZ (cntSR x) (c.fSets.take (i+1)))))),(6,(.g (.int .i64 (((i+1):Nat)))))] [(48,.cells (DtCatalog.cells c))] (by simp [zG3,KpE,DtCatalog.cells,DtCSet.cells,zcj];try (first | rfl | omega)) (by simp [zG6,KpO,DtCatalog.cells,DtCSet.cells];try rfl) (by rfl) (by simp) (by rfl),_,?_,i+1,rfl,?_,rfl⟩
        ·omega
        ·exact ⟨by omega,.inr (by grind)⟩
   try simp [zG4,zbc,zbb] at hc1
   refine zbx ?_
   refine zbm ?_
   refine AW_r rfl rfl λK hK=>?_
   simp (disch:=omega) [zG5,DtCatalog.cells,DtCSet.cells,DtCSnap.cells]
   repeat' first|(exfalso;omega)|(refine ⟨λ_=>?_,λ_=>?_⟩)|(refine ⟨by omega,?_⟩)|(intro _)
   all_goals (refine hK _ ?_;clear hK K)
   all_goals
    refine zbp (zcb ?_)
    simp (disch:=omega) [zG5,DtCatalog.cells,DtCSet.cells,DtCSnap.cells]
    all_goals first | exact zk3 hc (.inl (by assumption)) | exact zk3 hc (.inr (by omega))
theorem zd9(c:DtCatalog)(x:List UInt8)(hs:DtCatalog.sz c≤1048576):PCall Tryz.prog 27 [.agg (DtCatalog.cells c),.s x] (.g (.int .i64 (refs c x))):=by
 have ⟨hl,hl2,hl3⟩:=catSzR c hs
 refine zbq Tryz.func27 (by rfl) (by rfl) (by rw [Tryz.ntmps27];exact Nat.le_of_ble_eq_true rfl) rfl (by decide) ?_
 rw [Tryz.ntmps27]
 refine AW_k [(0,_),(1,_)] ⟨rfl,rfl,trivial⟩ ?_
 refine AW_r rfl rfl λK hK=>?_
 simp (disch:=omega) [zG5,DtCatalog.cells,DtCSet.cells,DtCSnap.cells]
 repeat' first|(refine ⟨by omega,?_⟩)|(intro _)
 refine hK _ ?_;clear hK K
 refine zbh ?_
 refine AW_r rfl rfl λK hK=>?_
 simp (disch:=omega) [zG5,DtCatalog.cells,DtCSet.cells,DtCSnap.cells]
 repeat' first|(exfalso;omega)|(refine zcz (zbd (zbz rfl) zbl) (zg6 _ (by omega)) rfl ?_;simp (disch:=omega) [zG5,DtCatalog.cells,DtCSet.cells,DtCSnap.cells])|(refine ⟨by omega,?_⟩)|(intro _)
 refine hK _ ?_;clear hK K
 refine zbg rfl (λhc4=>?_) (λhc4=>?_)
 ·try simp [zG4,zbc,zbb] at hc4
  all_goals
   refine AW_r rfl rfl λK hK=>?_
   simp (disch:=omega) [zG5,DtCatalog.cells,DtCSet.cells,DtCSnap.cells]
   repeat' first|(exfalso;omega)|(refine ⟨λ_=>?_,λ_=>?_⟩)|(refine ⟨by omega,?_⟩)|(intro _)
   all_goals (refine hK _ ?_;clear hK K)
   all_goals
    refine zbp (zcb ?_)
    simp (disch:=omega) [zG5,DtCatalog.cells,DtCSet.cells,DtCSnap.cells]
    all_goals first | exact zk3 (.inr (by assumption)) (.inr (by omega))|(rw [refs,zco (by assumption)];rfl)
 try simp [zG4,zbc,zbb] at hc4
 refine zbi ?_
 refine zbm ?_
 refine AW_r rfl rfl λK hK=>?_
 simp (disch:=omega) [zG5,DtCatalog.cells,DtCSet.cells,DtCSnap.cells]
 repeat' first|(exfalso;omega)|(refine ⟨λ_=>?_,λ_=>?_⟩)|(refine ⟨by omega,?_⟩)|(intro _)
 all_goals (refine hK _ ?_;clear hK K)
 all_goals
  refine zbh ?_
  refine AW_r rfl rfl λK hK=>?_
  simp (disch:=omega) [zG5,DtCatalog.cells,DtCSet.cells,DtCSnap.cells]
  repeat' first|(refine ⟨by omega,?_⟩)|(intro _)
  refine hK _ ?_;clear hK K
  refine zbj ?_
  refine zbs (λmM sS=>∃(i:Nat),mM=c.fSets.length-i∧(i≤c.fSets.length∧True)∧sS = { env:=lkE [(1,.s x),(2,.ptr 48 0),(5,(.g (.int .i64 (sumZ (cntSR x) (c.fSets.take i))))),(14,.sl 2 (c.fSets.map DtCSet.cells)),(15,(.g (.int .i64 ((c.fSets.length:Nat))))),(16,(.g (.int .i64 ((i:Nat)))))],ob:=lk [(48,.cells (DtCatalog.cells c))] }) ?_ ?_
  ·refine ⟨_,LeS.ko [(1,.s x),(2,.ptr 48 0),(5,(.g (.int .i64 (sumZ (cntSR x) (c.fSets.take (0)))))),(14,.sl 2 (c.fSets.map DtCSet.cells)),(15,(.g (.int .i64 ((c.fSets.length:Nat))))),(16,(.g (.int .i64 (((0):Nat)))))] [(48,.cells (DtCatalog.cells c))] (by simp [zG3,KpE,DtCatalog.cells,DtCSet.cells,zcj];try (first | rfl | omega)) (by simp [zG6,KpO,DtCatalog.cells,DtCSet.cells];try rfl) (by rfl) (by simp) (by rfl),_,0,rfl,?_,rfl⟩
   ·simp
  ·rintro mM sS ⟨i,rfl,⟨hi,hc⟩,rfl⟩
   have hb1:=setsBd c x hs i
   refine AW_r rfl rfl λK hK=>?_
   simp (disch:=omega) [zG5,DtCatalog.cells,DtCSet.cells,DtCSnap.cells]
   repeat' first|(refine ⟨by omega,?_⟩)|(intro _)
   refine hK _ ?_;clear hK K
   refine zbh ?_
   refine zbg rfl (λhc5=>?_) (λhc5=>?_)
   ·try simp [zG4,zbc,zbb] at hc5
    all_goals
     have hl2':=hl2 i (by omega)
     have hst:=zh9 (f:=cntSR x) c.fSets i (by omega)
     refine zbi ?_
     refine zbm ?_
     refine zbh ?_
     refine zbj ?_
     refine AW_r rfl rfl λK hK=>?_
     simp (disch:=omega) [zG5,DtCatalog.cells,DtCSet.cells,DtCSnap.cells]
     repeat' first|(exfalso;omega)|(refine ⟨λ_=>?_,λ_=>?_⟩)|(refine ⟨by omega,?_⟩)|(intro _)
     all_goals (refine hK _ ?_;clear hK K)
     all_goals
      refine AW_r rfl rfl λK hK=>?_
      simp (disch:=omega) [zG5,DtCatalog.cells,DtCSet.cells,DtCSnap.cells]
      repeat' first|(refine ⟨by omega,?_⟩)|(intro _)
      refine hK _ ?_;clear hK K
      refine zbj ?_
      refine zbs (λmM sS=>∃(k:Nat),mM=(c.fSets[i]).fSnaps.length-k∧(k≤(c.fSets[i]).fSnaps.length)∧sS = { env:=lkE [(1,.s x),(2,.ptr 48 0),(5,(.g (.int .i64 (sumZ (cntSR x) (c.fSets.take i)+sumZ (cntPR x) ((c.fSets[i]).fSnaps.take k))))),(14,.sl 2 (c.fSets.map DtCSet.cells)),(15,(.g (.int .i64 ((c.fSets.length:Nat))))),(16,(.g (.int .i64 ((i:Nat))))),(21,.sl 3 ((c.fSets[i]).fSnaps.map DtCSnap.cells)),(22,(.g (.int .i64 (((c.fSets[i]).fSnaps.length:Nat))))),(23,(.g (.int .i64 ((k:Nat)))))],ob:=lk [(48,.cells (DtCatalog.cells c))] }) ?_ ?_
      ·refine ⟨_,LeS.ko [(1,.s x),(2,.ptr 48 0),(5,(.g (.int .i64 (sumZ (cntSR x) (c.fSets.take i)+sumZ (cntPR x) ((c.fSets[i]).fSnaps.take (0)))))),(14,.sl 2 (c.fSets.map DtCSet.cells)),(15,(.g (.int .i64 ((c.fSets.length:Nat))))),(16,(.g (.int .i64 ((i:Nat))))),(21,.sl 3 ((c.fSets[i]).fSnaps.map DtCSnap.cells)),(22,(.g (.int .i64 (((c.fSets[i]).fSnaps.length:Nat))))),(23,(.g (.int .i64 (((0):Nat)))))] [(48,.cells (DtCatalog.cells c))] (by simp [zG3,KpE,DtCatalog.cells,DtCSet.cells,zcj];try (simp_all [cntPR,boolZR,zcc,zco];try omega)) (by simp [zG6,KpO,DtCatalog.cells,DtCSet.cells];try rfl) (by rfl) (by simp) (by rfl),_,0,rfl,?_,rfl⟩
       ·simp
      ·rintro mM sS ⟨k,rfl,hk,rfl⟩
       have hb2:=snapsBd x c.fSets[i] hl2' k
       refine AW_r rfl rfl λK hK=>?_
       simp (disch:=omega) [zG5,DtCatalog.cells,DtCSet.cells,DtCSnap.cells]
       repeat' first|(refine ⟨by omega,?_⟩)|(intro _)
       refine hK _ ?_;clear hK K
       refine zbh ?_
       refine zbg rfl (λhc6=>?_) (λhc6=>?_)
       ·try simp [zG4,zbc,zbb] at hc6
        all_goals
         have hsp:=zh9 (f:=cntPR x) (c.fSets[i]).fSnaps k (by omega)
         have hl3':=hl3 i (by omega) k (by omega)
         refine zbi ?_
         refine zbm ?_
         refine zbh ?_
         refine zbj ?_
         refine AW_r rfl rfl λK hK=>?_
         simp (disch:=omega) [zG5,DtCatalog.cells,DtCSet.cells,DtCSnap.cells]
         repeat' first|(exfalso;omega)|(refine ⟨λ_=>?_,λ_=>?_⟩)|(refine ⟨by omega,?_⟩)|(intro _)
         all_goals (refine hK _ ?_;clear hK K)
         all_goals
          refine AW_r rfl rfl λK hK=>?_
          simp (disch:=omega) [zG5,DtCatalog.cells,DtCSet.cells,DtCSnap.cells]
          repeat' first|(exfalso;omega)|(refine zcz (zbd zdm (zbd zdg zbl)) (containsS _ _ (by omega)) rfl ?_;simp (disch:=omega) [zG5,DtCatalog.cells,DtCSet.cells,DtCSnap.cells])|(refine ⟨by omega,?_⟩)|(intro _)
          refine hK _ ?_;clear hK K
          refine zbg rfl (λhc7=>?_) (λhc7=>?_)
          ·try simp [zG4,zbc,zbb] at hc7
           all_goals
            refine zcv rfl rfl λK hK=>?_
            simp (disch:=omega) [zG5,DtCatalog.cells,DtCSet.cells,DtCSnap.cells]
            repeat' first|(exfalso;omega)|(refine ⟨λ_=>?_,λ_=>?_⟩)|(refine ⟨by omega,?_⟩)|(intro _)
            all_goals (refine hK _ ?_;clear hK K)
            all_goals
             refine zbm ?_
             refine zcv rfl rfl λK hK=>?_
             simp (disch:=omega) [zG5,DtCatalog.cells,DtCSet.cells,DtCSnap.cells]
             repeat' first|(refine ⟨by omega,?_⟩)|(intro _)
             refine hK _ ?_;clear hK K
             refine ⟨_,LeS.ko [(1,.s x),(2,.ptr 48 0),(5,(.g (.int .i64 (sumZ (cntSR x) (c.fSets.take i)+sumZ (cntPR x) ((c.fSets[i]).fSnaps.take (k+1)))))),(14,.sl 2 (c.fSets.map DtCSet.cells)),(15,(.g (.int .i64 ((c.fSets.length:Nat))))),(16,(.g (.int .i64 ((i:Nat))))),(21,.sl 3 ((c.fSets[i]).fSnaps.map DtCSnap.cells)),(22,(.g (.int .i64 (((c.fSets[i]).fSnaps.length:Nat))))),(23,(.g (.int .i64 (((k+1):Nat)))))] [(48,.cells (DtCatalog.cells c))] (by simp [zG3,KpE,DtCatalog.cells,DtCSet.cells,zcj];try (simp_all [cntPR,boolZR,zcc,zco];try omega)) (by simp [zG6,KpO,DtCatalog.cells,DtCSet.cells];try rfl) (by rfl) (by simp) (by rfl),_,?_,k+1,rfl,?_,rfl⟩
             ·omega
             ·omega
          try simp [zG4,zbc,zbb] at hc7
          refine zbi ?_
          refine zbm ?_
          refine zcv rfl rfl λK hK=>?_
          simp (disch:=omega) [zG5,DtCatalog.cells,DtCSet.cells,DtCSnap.cells]
          repeat' first|(exfalso;omega)|(refine ⟨λ_=>?_,λ_=>?_⟩)|(refine ⟨by omega,?_⟩)|(intro _)
          all_goals (refine hK _ ?_;clear hK K)
          all_goals
           refine ⟨_,LeS.ko [(1,.s x),(2,.ptr 48 0),(5,(.g (.int .i64 (sumZ (cntSR x) (c.fSets.take i)+sumZ (cntPR x) ((c.fSets[i]).fSnaps.take (k+1)))))),(14,.sl 2 (c.fSets.map DtCSet.cells)),(15,(.g (.int .i64 ((c.fSets.length:Nat))))),(16,(.g (.int .i64 ((i:Nat))))),(21,.sl 3 ((c.fSets[i]).fSnaps.map DtCSnap.cells)),(22,(.g (.int .i64 (((c.fSets[i]).fSnaps.length:Nat))))),(23,(.g (.int .i64 (((k+1):Nat)))))] [(48,.cells (DtCatalog.cells c))] (by simp [zG3,KpE,DtCatalog.cells,DtCSet.cells,zcj];try (simp_all [cntPR,boolZR,zcc,zco];try omega)) (by simp [zG6,KpO,DtCatalog.cells,DtCSet.cells];try rfl) (by rfl) (by simp) (by rfl),_,?_,k+1,rfl,?_,rfl⟩
           ·omega
           ·omega
       try simp [zG4,zbc,zbb] at hc6
       have hk2:k=(c.fSets[i]).fSnaps.length:=by omega
       subst hk2
       have hfull:sumZ (cntPR x) (List.take (c.fSets[i]).fSnaps.length (c.fSets[i]).fSnaps)=cntSR x c.fSets[i]:=by rw [List.take_length];rfl
       have hfull2:sumZ (cntPR x) (c.fSets[i]).fSnaps=cntSR x c.fSets[i]:=rfl
       refine zbx ?_
       refine zbm ?_
       refine zcv rfl rfl λK hK=>?_
       simp (disch:=omega) [zG5,DtCatalog.cells,DtCSet.cells,DtCSnap.cells]
       repeat' first|(exfalso;omega)|(refine ⟨λ_=>?_,λ_=>?_⟩)|(refine ⟨by omega,?_⟩)|(intro _)
       all_goals (refine hK _ ?_;clear hK K)
       all_goals
        refine ⟨_,LeS.ko [(1,.s x),(2,.ptr 48 0),(5,(.g (.int .i64 (sumZ (cntSR x) (c.fSets.take (i+1)))))),(14,.sl 2 (c.fSets.map DtCSet.cells)),(15,(.g (.int .i64 ((c.fSets.length:Nat))))),(16,(.g (.int .i64 (((i+1):Nat)))))] [(48,.cells (DtCatalog.cells c))] (by simp [zG3,KpE,DtCatalog.cells,DtCSet.cells,zcj];try (first | rfl | omega)) (by simp [zG6,KpO,DtCatalog.cells,DtCSet.cells];try rfl) (by rfl) (by simp) (by rfl),_,?_,i+1,rfl,?_,rfl⟩
        ·omega
        ·exact ⟨by omega,trivial⟩
   try simp [zG4,zbc,zbb] at hc5
   refine zbx ?_
   refine zbm ?_
   refine AW_r rfl rfl λK hK=>?_
   simp (disch:=omega) [zG5,DtCatalog.cells,DtCSet.cells,DtCSnap.cells]
   repeat' first|(exfalso;omega)|(refine ⟨λ_=>?_,λ_=>?_⟩)|(refine ⟨by omega,?_⟩)|(intro _)
   all_goals (refine hK _ ?_;clear hK K)
   all_goals
    refine zbp (zcb ?_)
    simp (disch:=omega) [zG5,DtCatalog.cells,DtCSet.cells,DtCSnap.cells]
    all_goals first | exact zk3 (.inr (by assumption)) (.inr (by omega))|(rw [refs,zco (by assumption)];rfl)
end Go.Proofs.YtodmafgmdlkhoaaGreat.Vs
end
section
open Go Go.Proofs
namespace Go.Proofs.YtodmafgmdlkhoaaGreat.Vs
set_option linter.all false
abbrev Str:=List UInt8
theorem zhu(x:Str):¬x<x:=List.lt_irrefl x
theorem zn5{x y z:Str}(h:x<y)(k:y<z):x<z:=List.lt_trans h k
theorem zqd(x y:Str):x<y∨x=y∨y<x:=by
 by_cases h:x<y
 ·exact .inl h
 ·by_cases k:y<x
  ·exact .inr (.inr k)
  ·exact .inr (.inl (List.le_antisymm (by simpa using k) (by simpa using h)))
theorem zxh(x y:Str):x≤y↔x<y∨x=y:=by
 constructor
 ·intro h
  rcases zqd x y with k | k | k
  ·exact .inl k
  ·exact .inr k
  ·exact absurd h (by simpa using k)
 ·rintro (h | rfl)
  ·exact List.le_of_lt h
  ·exact List.le_refl x
theorem bless(x y:Str):Op.bytesLess x y=true↔x<y:=by rw [bytesLess_eq];simp
/-- Two ascending rows with the same members are the same. -/
theorem asc_ext:∀(l k:List Str),l.Pairwise (· < ·)→k.Pairwise (· < ·)→(∀x,x∈l↔x∈k)→l=k
 | [],[],_,_,_=>rfl
 | [],y :: k,_,_,h=>by have:=(h y).2 (by simp);simp at this
 | x :: l,[],_,_,h=>by have:=(h x).1 (by simp);simp at this
 | x :: l,y :: k,hl,hk,h=>by
  rw [List.pairwise_cons] at hl hk
  have e:x=y:=by
   rcases List.mem_cons.1 ((h x).1 (by simp)) with e | e
   ·exact e
   ·rcases List.mem_cons.1 ((h y).2 (by simp)) with e2 | e2
    ·exact e2.symm
    ·exact absurd (zn5 (hl.1 _ e2) (hk.1 _ e)) (zhu _)
  subst e
  congr 1
  refine asc_ext l k hl.2 hk.2 λz=>?_
  constructor
  ·intro hz
   rcases List.mem_cons.1 ((h z).1 (by simp [hz])) with e | e
   ·subst e;exact absurd (hl.1 _ hz) (zhu _)
   ·exact e
  ·intro hz
   rcases List.mem_cons.1 ((h z).2 (by simp [hz])) with e | e
   ·subst e;exact absurd (hk.1 _ hz) (zhu _)
   ·exact e
/-- Behind m places. -/
theorem zv8(l:List Str)(hs:l.Pairwise (· ≤ ·)):∀m,m≤l.length→(Lib.compactUpTo l.toArray m).Pairwise (· < ·)∧∀x,x∈Lib.compactUpTo l.toArray m↔∃j,∃h:j<l.length,j<m∧l[j]=x
 | 0,_=>by simp [Lib.compactUpTo]
 | m+1,hm=>by
  obtain ⟨h1,h2⟩:=zv8 l hs m (by omega)
  have hg:l.toArray[m]! = l[m]:=by simp [show m<l.length by omega]
  rw [Lib.compactUpTo_succ,hg]
  by_cases hk:Lib.keeps l.toArray m=true
  ·rw [if_pos hk]
   refine ⟨?_,λx=>?_⟩
   ·rw [List.pairwise_append]
    refine ⟨h1,by simp,λa ha b hb=>?_⟩
    obtain rfl:b=l[m]:=by simpa using hb
    obtain ⟨j,hj,hjm,rfl⟩:=(h2 a).1 ha
    have hm0:0<m:=by omega
    have hg2:l.toArray[m-1]! = l[m-1]:=by simp [show m-1<l.length by omega]
    have hne:l[m]≠l[m-1]:=by
     have:m=0∨l.toArray[m]! ≠ l.toArray[m-1]!:=by simpa [Lib.keeps] using hk
     rcases this with h | h
     ·omega
     ·rwa [hg,hg2] at h
    have hlt:l[m-1]<l[m]:=by
     have:=List.pairwise_iff_getElem.1 hs (m-1) m (by omega) (by omega) (by omega)
     rcases (zxh _ _).1 this with h | h
     ·exact h
     ·exact absurd h.symm hne
    by_cases hj2:j=m-1
    ·subst hj2;exact hlt
    ·have:=List.pairwise_iff_getElem.1 hs j (m-1) hj (by omega) (by omega)
     rcases (zxh _ _).1 this with h | h
     ·exact zn5 h hlt
     ·rw [h];exact hlt
   ·rw [List.mem_append,h2]
    constructor
    ·rintro (⟨j,hj,hjm,e⟩ | e)
     ·exact ⟨j,hj,by omega,e⟩
     ·exact ⟨m,by omega,by omega,by simpa using (List.mem_singleton.1 e).symm⟩
    ·rintro ⟨j,hj,hjm,e⟩
     by_cases hj2:j=m
     ·subst hj2;exact .inr (by simp [e])
     ·exact .inl ⟨j,hj,by omega,e⟩
  ·rw [if_neg hk]
   refine ⟨by simpa using h1,λx=>?_⟩
   rw [List.append_nil,h2]
   constructor
   ·rintro ⟨j,hj,hjm,e⟩
    exact ⟨j,hj,by omega,e⟩
   ·rintro ⟨j,hj,hjm,e⟩
    by_cases hj2:j=m
    ·subst hj2
     have:¬(j=0∨l.toArray[j]! ≠ l.toArray[j-1]!):=by simpa [Lib.keeps] using hk
     have hj0:j≠0:=λh=>this (.inl h)
     have hg2:l.toArray[j-1]! = l[j-1]:=by simp [show j-1<l.length by omega]
     have he:l[j]=l[j-1]:=by
      by_cases h:l[j]=l[j-1]
      ·exact h
      ·exact absurd (.inr (by rw [hg,hg2];exact h)) this
     exact ⟨j-1,by omega,by omega,by rw [←he,e]⟩
    ·exact ⟨j,hj,by omega,e⟩
def sortS(l:List Str):List Str:=l.mergeSort λx y=>decide (x≤y)
theorem zmp(l:List Str):(sortS l).length=l.length:=List.length_mergeSort _
theorem sortS_mem(l:List Str)(x:Str):x∈sortS l↔x∈l:=(List.mergeSort_perm l _).mem_iff
theorem zsn(l:List Str):(sortS l).Pairwise (· ≤ ·):=by
 have:=List.pairwise_mergeSort (le:=λ(x y:Str)=>decide (x≤y)) (λa b c h1 h2=>by
  simp only [decide_eq_true_eq,zxh] at *
  rcases h1 with h1 | rfl
  ·rcases h2 with h2 | rfl
   ·exact .inl (zn5 h1 h2)
   ·exact .inl h1
  ·exact h2) (λa b=>by
  simp only [Bool.or_eq_true,decide_eq_true_eq,zxh]
  rcases zqd a b with h | h | h
  ·exact .inl (.inl h)
  ·exact .inl (.inr h)
  ·exact .inr (.inl h)) l
 exact this.imp λh=>by simpa using h
/-- The members of a row, ascending. -/
def setT(l:List Str):List Str:=Lib.compact (sortS l)
theorem zxi(l:List Str):(setT l).Pairwise (· < ·):=(zv8 _ (zsn l) _ (Nat.le_refl _)).1
theorem zk4(l:List Str)(x:Str):x∈setT l↔x∈l:=by
 rw [setT,Lib.compact,(zv8 _ (zsn l) _ (Nat.le_refl _)).2,←sortS_mem l x]
 constructor
 ·rintro ⟨j,h,-,rfl⟩;exact List.getElem_mem _
 ·intro h
  obtain ⟨j,hj,e⟩:=List.mem_iff_getElem.1 h
  exact ⟨j,hj,hj,e⟩
theorem setT_len(l:List Str):(setT l).length≤l.length:=by
 have:=zml (sortS l)
 rw [zmp] at this
 exact this
/-- x put ahead of the first that is greater. -/
def ins(x:Str):Bool→List Str→List Str
 | b,[]=>bif b then [] else [x]
 | b,y :: l=>bif !b && !(Op.bytesLess y x || y==x) then x :: y :: ins x true l else y :: ins x b l
theorem zk5(x:Str):∀l,ins x true l=l
 | []=>rfl
 | y :: l=>by unfold ins;simp [zk5 x l]
theorem gt_iff(x y:Str):(!(Op.bytesLess y x || y==x))=true↔x<y:=by
 rw [Bool.not_eq_true',Bool.or_eq_false_iff,←Bool.not_eq_true,bless,beq_eq_false_iff_ne]
 rcases zqd x y with h | rfl | h
 ·exact ⟨λ_=>h,λ_=>⟨λk=>zhu _ (zn5 h k),λe=>by subst e;exact zhu _ h⟩⟩
 ·exact ⟨λk=>absurd rfl k.2,λk=>absurd k (zhu _)⟩
 ·exact ⟨λk=>absurd h k.1,λk=>absurd (zn5 h k) (zhu _)⟩
theorem ins_asc(x:Str):∀(l:List Str),l.Pairwise (· < ·)→x∉l→(ins x false l).Pairwise (· < ·)∧∀z,z∈ins x false l↔z=x∨z∈l
 | [],_,_=>by simp [ins]
 | y :: l,hl,hx=>by
  rw [List.pairwise_cons] at hl
  have hne:x≠y:=λe=>hx (by simp [e])
  unfold ins
  cases hb : !(Op.bytesLess y x || y==x) with
  | true =>
   rw [gt_iff] at hb
   simp only [Bool.not_false,Bool.true_and,cond_true,zk5]
   refine ⟨?_,λz=>by simp⟩
   rw [List.pairwise_cons,List.pairwise_cons]
   refine ⟨λz hz=>?_,hl⟩
   rcases List.mem_cons.1 hz with rfl | hz
   ·exact hb
   ·exact zn5 hb (hl.1 z hz)
  | false =>
   have hb':¬x<y:=by rw [←gt_iff,hb];simp
   have hyx:y<x:=by
    rcases zqd x y with h | h | h
    ·exact absurd h hb'
    ·exact absurd h hne
    ·exact h
   obtain ⟨i1,i2⟩:=ins_asc x l hl.2 (λh=>hx (by simp [h]))
   simp only [Bool.not_false,Bool.true_and,cond_false]
   refine ⟨?_,λz=>?_⟩
   ·rw [List.pairwise_cons]
    refine ⟨λz hz=>?_,i1⟩
    rcases (i2 z).1 hz with rfl | hz
    ·exact hyx
    ·exact hl.1 z hz
   ·rw [List.mem_cons,i2,List.mem_cons]
    constructor
    ·rintro (h | h | h)
     ·exact .inr (.inl h)
     ·exact .inl h
     ·exact .inr (.inr h)
    ·rintro (h | h | h)
     ·exact .inr (.inl h)
     ·exact .inl h
     ·exact .inr (.inr h)
def putS(l:List Str)(x:Str):List Str:=ins x (decide (x∈l)) l
theorem putS_asc(l:List Str)(x:Str)(h:l.Pairwise (· < ·)):(putS l x).Pairwise (· < ·)∧∀z,z∈putS l x↔z=x∨z∈l:=by
 unfold putS
 by_cases hx:x∈l
 ·rw [decide_eq_true hx,zk5]
  exact ⟨h,λz=>⟨.inr,λk=>by rcases k with rfl | k;exact hx;exact k⟩⟩
 ·rw [decide_eq_false hx]
  exact ins_asc x l h hx
theorem zso:∀(xs l:List Str),l.Pairwise (· < ·)→(xs.foldl putS l).Pairwise (· < ·)∧∀z,z∈xs.foldl putS l↔z∈xs∨z∈l
 | [],l,h=>by simp [h]
 | x :: xs,l,h=>by
  obtain ⟨h1,h2⟩:=putS_asc l x h
  obtain ⟨h3,h4⟩:=zso xs (putS l x) h1
  refine ⟨h3,λz=>?_⟩
  show z∈xs.foldl putS (putS l x)↔_
  rw [h4,h2,List.mem_cons]
  constructor
  ·rintro (h | h | h)
   ·exact .inl (.inr h)
   ·exact .inl (.inl h)
   ·exact .inr h
  ·rintro ((h | h) | h)
   ·exact .inr (.inl h)
   ·exact .inl h
   ·exact .inr (.inr h)
theorem foldS_set(xs:List Str):xs.foldl putS []=setT xs:=by
 obtain ⟨h1,h2⟩:=zso xs [] List.Pairwise.nil
 exact asc_ext _ _ h1 (zxi xs) λz=>by rw [h2,zk4];simp
theorem ins_len(x:Str):∀(b:Bool) (l:List Str),(ins x b l).length≤l.length+1
 | b,[]=>by unfold ins;cases b<;>simp
 | b,y :: l=>by
  unfold ins
  have h1:=ins_len x b l
  cases (!b && !(Op.bytesLess y x || y==x))<;>simp [zk5]<;>omega
end Go.Proofs.YtodmafgmdlkhoaaGreat.Vs
end
section
open Go Go.Proofs Go.Shelf
namespace Go.Proofs
set_option linter.all false
def Tryz.lays190_ren:Go.Shelf.Ren:=⟨fun | 190=>66 | 125=>96 | 258=>121 | 128=>143 | 129=>144 | 302=>154 | 303=>155 | 304=>156 | 305=>157 | 306=>158 | 307=>159 | 308=>160 | 309=>161 | 310=>162 | 333=>171 | 329=>166 | 330=>167 | 334=>172 | 335=>173 | 336=>174 | 344=>179 | n=>n,fun | 31=>33 | 9=>9 | 3=>3 | 46=>113 | 0=>0 | 51=>149 | 53=>151 | 4=>4 | 183=>142 | 182=>141 | 131=>146 | 5=>5 | 218=>162 | 222=>166 | 228=>172 | 229=>173 | n=>n,fun | n=>n⟩
theorem Tryz.lays190:Lays.n190 Tryz.prog Tryz.lays190_ren where
 mixed:=by kernel_rfl
 f125:=Tryz.func96.trans (congrArg some (by kernel_rfl))
 f128:=Tryz.func143.trans (congrArg some (by kernel_rfl))
 f129:=Tryz.func144.trans (congrArg some (by kernel_rfl))
 f190:=Tryz.func66.trans (congrArg some (by kernel_rfl))
 f258:=Tryz.func121.trans (congrArg some (by kernel_rfl))
 f302:=Tryz.func154.trans (congrArg some (by kernel_rfl))
 f303:=Tryz.func155.trans (congrArg some (by kernel_rfl))
 f304:=Tryz.func156.trans (congrArg some (by kernel_rfl))
 f305:=Tryz.func157.trans (congrArg some (by kernel_rfl))
 f306:=Tryz.func158.trans (congrArg some (by kernel_rfl))
 f307:=Tryz.func159.trans (congrArg some (by kernel_rfl))
 f308:=Tryz.func160.trans (congrArg some (by kernel_rfl))
 f309:=Tryz.func161.trans (congrArg some (by kernel_rfl))
 f310:=Tryz.func162.trans (congrArg some (by kernel_rfl))
 f329:=Tryz.func166.trans (congrArg some (by kernel_rfl))
 f330:=Tryz.func167.trans (congrArg some (by kernel_rfl))
 f333:=Tryz.func171.trans (congrArg some (by kernel_rfl))
 f334:=Tryz.func172.trans (congrArg some (by kernel_rfl))
 f335:=Tryz.func173.trans (congrArg some (by kernel_rfl))
 f336:=Tryz.func174.trans (congrArg some (by kernel_rfl))
 f344:=Tryz.func179.trans (congrArg some (by kernel_rfl))
 t0:=Tryz.underlying0
 a0:=Tryz.isAgg0
 z0:=Tryz.sizeOf0
 v0:=Tryz.zeroValue0
 t3:=Tryz.underlying3
 a3:=Tryz.isAgg3
 z3:=Tryz.sizeOf3
 v3:=Tryz.zeroValue3
 t4:=Tryz.underlying4
 a4:=Tryz.isAgg4
 z4:=Tryz.sizeOf4
 v4:=Tryz.zeroValue4
 t5:=Tryz.underlying5
 a5:=Tryz.isAgg5
 z5:=Tryz.sizeOf5
 v5:=Tryz.zeroValue5
 t9:=Tryz.underlying9
 a9:=Tryz.isAgg9
 z9:=Tryz.sizeOf9
 v9:=Tryz.zeroValue9
 t31:=Tryz.underlying33
 a31:=Tryz.isAgg33
 z31:=Tryz.sizeOf33
 v31:=Tryz.zeroValue33
 t46:=Tryz.underlying113
 a46:=Tryz.isAgg113
 z46:=Tryz.sizeOf113
 v46:=Tryz.zeroValue113
 t51:=Tryz.underlying149
 a51:=Tryz.isAgg149
 z51:=Tryz.sizeOf149
 v51:=Tryz.zeroValue149
 t53:=Tryz.underlying151
 a53:=Tryz.isAgg151
 z53:=Tryz.sizeOf151
 v53:=Tryz.zeroValue151
 t131:=Tryz.underlying146
 a131:=Tryz.isAgg146
 z131:=Tryz.sizeOf146
 v131:=Tryz.zeroValue146
 t182:=Tryz.underlying141
 a182:=Tryz.isAgg141
 z182:=Tryz.sizeOf141
 v182:=Tryz.zeroValue141
 t183:=Tryz.underlying142
 a183:=Tryz.isAgg142
 z183:=Tryz.sizeOf142
 v183:=Tryz.zeroValue142
 t218:=Tryz.underlying162
 a218:=Tryz.isAgg162
 z218:=Tryz.sizeOf162
 v218:=Tryz.zeroValue162
 t222:=Tryz.underlying166
 a222:=Tryz.isAgg166
 z222:=Tryz.sizeOf166
 v222:=Tryz.zeroValue166
 t228:=Tryz.underlying172
 a228:=Tryz.isAgg172
 z228:=Tryz.sizeOf172
 v228:=Tryz.zeroValue172
 t229:=Tryz.underlying173
 a229:=Tryz.isAgg173
 z229:=Tryz.sizeOf173
 v229:=Tryz.zeroValue173
def Tryz.lays194_ren:Go.Shelf.Ren:=⟨fun | 194=>67 | n=>n,fun | 31=>33 | 9=>9 | 3=>3 | 4=>4 | 0=>0 | n=>n,fun | n=>n⟩
theorem Tryz.lays194:Lays.n194 Tryz.prog Tryz.lays194_ren where
 mixed:=by kernel_rfl
 f194:=Tryz.func67.trans (congrArg some (by kernel_rfl))
 t0:=Tryz.underlying0
 a0:=Tryz.isAgg0
 z0:=Tryz.sizeOf0
 v0:=Tryz.zeroValue0
 t3:=Tryz.underlying3
 a3:=Tryz.isAgg3
 z3:=Tryz.sizeOf3
 v3:=Tryz.zeroValue3
 t4:=Tryz.underlying4
 a4:=Tryz.isAgg4
 z4:=Tryz.sizeOf4
 v4:=Tryz.zeroValue4
 t9:=Tryz.underlying9
 a9:=Tryz.isAgg9
 z9:=Tryz.sizeOf9
 v9:=Tryz.zeroValue9
 t31:=Tryz.underlying33
 a31:=Tryz.isAgg33
 z31:=Tryz.sizeOf33
 v31:=Tryz.zeroValue33
end Go.Proofs
end
section
open Go Go.Proofs.YtodmafgmdlkhoaaGreat.Vs Go.Proofs Go.Shelf
namespace Go.Proofs.YtodmafgmdlkhoaaGreat.Vs
set_option linter.all false
set_option maxRecDepth 100000
theorem sortX(l:List (List UInt8))(hl:l.length≤1048576):XCall Tryz.prog 66 [.arr 8 0 l.length] [.own 1 (l.map cS)] (.tup []) [.own 1 ((sortS l).map cS)] [] :=
 sortX_of ⟨_,rfl,rfl,rfl⟩ (λblk off cap ss w=>Any.slices_Sort_string Tryz.lays190 blk off cap ss w) (λp cap w=>Any.slices_Sort_string_none Tryz.lays190 p cap w) l hl
theorem compactX(l:List (List UInt8))(hl:l.length≤1048576):XCall Tryz.prog 67 [.arr 8 0 l.length] [.own 1 (l.map cS)] (.arr 8 0 (Lib.compact l).length) [.own 1 ((Lib.compact l).map cS)] [] :=
 zvw ⟨_,rfl,rfl,rfl⟩ (λblk off cap ss w=>Any.slices_Compact_string Tryz.lays194 blk off cap ss w) (λp cap w=>Any.slices_Compact_string_empty Tryz.lays194 p cap w) l hl
theorem decB_dec(p:Prop)[Decidable p]:decB p=decide p:=by
 by_cases h:p
 ·rw [zcc h,decide_eq_true h]
 ·rw [zco h,decide_eq_false h]
def zG7:=And.intro @zcf (And.intro @gE (And.intro @tP @zbo))
theorem putX(l:List (List UInt8))(x:List UInt8)(hn:l.length≤1048576):XCall Tryz.prog 68 [.sl 1 (l.map cS),.s x] [] (.arr 16 0 (putS l x).length) [] [.own 1 ((putS l x).map cS)]:=by
 refine zbu Tryz.func68 (by rfl) (by rfl) (by rw [Tryz.ntmps68];exact Nat.le_of_ble_eq_true rfl) rfl (by simp) rfl rfl ?_
 rw [Tryz.ntmps68]
 refine zjb   ?_
 refine AW_k [(0,_),(1,_)] ⟨rfl,rfl,trivial⟩ ?_
 refine AW_x rfl rfl λK hK=>?_
 simp (disch:=omega) [zG7,cS]
 repeat' first|(refine ⟨by omega,?_⟩)|(intro _)
 refine hK _ ?_;clear hK K
 refine AW_x rfl rfl λK hK=>?_
 simp (disch:=omega) [zG7,cS]
 repeat' first|(refine ⟨by omega,?_⟩)|(intro _)
 refine hK _ ?_;clear hK K
 refine AW_x rfl rfl λK hK=>?_
 simp (disch:=omega) [zG7,cS]
 repeat' first|(exfalso;omega)|(refine zdq (zbd zdm (zbd zdg zbl)) (l15In _ _ (by omega)) rfl ?_;simp (disch:=omega) [zG7,cS])|(refine zdr (l15In _ _ (by omega)) (by rfl) ?_ ?_;(focus (simp (disch:=omega) [zG7,cS];done));simp (disch:=omega) [zG7,cS])|(refine ⟨by omega,?_⟩)|(intro _)
 refine hK _ ?_;clear hK K
 refine zbh ?_
 refine AW_x rfl rfl λK hK=>?_
 simp (disch:=omega) [zG7,cS]
 repeat' first|(refine ⟨by omega,?_⟩)|(intro _)
 refine hK _ ?_;clear hK K
 refine zbj ?_
 refine zbs (λmM sS=>∃(i:Nat) (b:Bool) (out:List (List UInt8)),mM=l.length-i∧(i≤l.length∧out++ins x b (l.drop i)=putS l x∧out.length≤2*i)∧sS = { env:=lkE [(0,.sl 1 (l.map cS)),(1,.s x),(5,.arr 144 0 out.length),(6,(.g (.bool (b)))),(7,(.g (.int .i64 ((i:Nat)))))],ob:=lk [(144,.flat 1 (out.map cS))] }) ?_ ?_
 ·refine ⟨_,LeS.kx [(144,144)] [(0,.sl 1 (l.map cS)),(1,.s x),(5,.arr 144 0 ([]).length),(6,(.g (.bool ((decB (x∈l)))))),(7,(.g (.int .i64 (((0):Nat)))))] [(144,.flat 1 (([]).map cS))] (by simp [zG3,KpR,renV2,renV,zby,cS,zbo];try rfl) (by simp [KpOX,renO,plO,cvO,renV,pl1,zbr,zby,zb0,cS,zbo];try (first | rfl|(simp [cS,zbo,List.take_of_length_le];done))) (by rfl) (by simp) (by simp) (by rfl) (by simp [formsX,List.range_succ,zbr,zby]),_,0,decB (x∈l),[],rfl,?_,rfl⟩
  ·simp [putS,decB_dec]
 ·rintro mM sS ⟨i,b,out,rfl,⟨hi,ho,hlen⟩,rfl⟩
  refine zbh ?_
  refine AW_x rfl rfl λK hK=>?_
  simp (disch:=omega) [zG7,cS]
  repeat' first|(refine ⟨by omega,?_⟩)|(intro _)
  refine hK _ ?_;clear hK K
  refine zbg rfl (λhc1=>?_) (λhc1=>?_)
  ·try simp [zG4,zbc,zbb] at hc1
   all_goals
    have hg:l[i]? = some l[i]:=List.getElem?_eq_getElem (by omega)
    have hd:l.drop i=l[i] :: l.drop (i+1):=List.drop_eq_getElem_cons (by omega)
    rw [hd,ins] at ho
    refine zbi ?_
    refine zbm ?_
    refine zbh ?_
    refine zbj ?_
    refine zbh ?_
    refine AW_x rfl rfl λK hK=>?_
    simp (disch:=omega) [zG7,cS]
    repeat' first|(exfalso;omega)|(refine ⟨λ_=>?_,λ_=>?_⟩)|(refine ⟨by omega,?_⟩)|(intro _)
    all_goals (refine hK _ ?_;clear hK K)
    all_goals
     refine zbg rfl (λhc2=>?_) (λhc2=>?_)
     ·try simp [zG4,zbc,zbb] at hc2
      all_goals
       refine AW_x rfl rfl λK hK=>?_
       simp (disch:=omega) [zG7,cS]
       repeat' first|(exfalso;omega)|(refine ⟨λ_=>?_,λ_=>?_⟩)|(refine ⟨by omega,?_⟩)|(intro _)
       all_goals (refine hK _ ?_;clear hK K)
       all_goals
        refine zb4 rfl rfl λK hK=>?_
        simp (disch:=omega) [zG7,cS]
        repeat' first|(refine ⟨by omega,?_⟩)|(intro _)
        refine hK _ ?_;clear hK K
        refine zbm ?_
        refine zb4 rfl rfl λK hK=>?_
        simp (disch:=omega) [zG7,cS]
        repeat' first|(refine ⟨by omega,?_⟩)|(intro _)
        refine hK _ ?_;clear hK K
        refine zbm ?_
        refine zb4 rfl rfl λK hK=>?_
        simp (disch:=omega) [zG7,cS]
        repeat' first|(refine ⟨by omega,?_⟩)|(intro _)
        refine hK _ ?_;clear hK K
        refine ⟨_,LeS.kx [(144,624)] [(0,.sl 1 (l.map cS)),(1,.s x),(5,.arr 144 0 ((out++[x])++[l[i]]).length),(6,(.g (.bool ((true))))),(7,(.g (.int .i64 (((i+1):Nat)))))] [(144,.flat 1 (((out++[x])++[l[i]]).map cS))] (by simp [zG3,KpR,renV2,renV,zby,cS,zbo];try rfl) (by simp [KpOX,renO,plO,cvO,renV,pl1,zbr,zby,zb0,cS,zbo];try (first | rfl|(simp [cS,zbo,List.take_of_length_le];done))) (by rfl) (by simp) (by simp) (by rfl) (by simp [formsX,List.range_succ,zbr,zby]),_,?_,i+1,true,(out++[x])++[l[i]],rfl,?_,rfl⟩
        ·omega
        ·refine ⟨by omega,?_,by simp;omega⟩
         rw [←ho]
         first
          | (rw [show (!b && !(Op.bytesLess l[i] x || l[i]==x))=true from by simp_all];simp;done)
          | (rw [show (!b && !(Op.bytesLess l[i] x || l[i]==x))=false from by cases hb:Op.bytesLess l[i] x<;>simp_all];simp;done)
     ·try simp [zG4,zbc,zbb] at hc2
      all_goals
       refine zbi ?_
       refine zbm ?_
       refine zb4 rfl rfl λK hK=>?_
       simp (disch:=omega) [zG7,cS]
       repeat' first|(exfalso;omega)|(refine ⟨λ_=>?_,λ_=>?_⟩)|(refine ⟨by omega,?_⟩)|(intro _)
       all_goals (refine hK _ ?_;clear hK K)
       all_goals
        refine zbm ?_
        refine zb4 rfl rfl λK hK=>?_
        simp (disch:=omega) [zG7,cS]
        repeat' first|(refine ⟨by omega,?_⟩)|(intro _)
        refine hK _ ?_;clear hK K
        refine ⟨_,LeS.kx [(144,624)] [(0,.sl 1 (l.map cS)),(1,.s x),(5,.arr 144 0 (out++[l[i]]).length),(6,(.g (.bool ((b))))),(7,(.g (.int .i64 (((i+1):Nat)))))] [(144,.flat 1 ((out++[l[i]]).map cS))] (by simp [zG3,KpR,renV2,renV,zby,cS,zbo];try rfl) (by simp [KpOX,renO,plO,cvO,renV,pl1,zbr,zby,zb0,cS,zbo];try (first | rfl|(simp [cS,zbo,List.take_of_length_le];done))) (by rfl) (by simp) (by simp) (by rfl) (by simp [formsX,List.range_succ,zbr,zby]),_,?_,i+1,b,out++[l[i]],rfl,?_,rfl⟩
        ·omega
        ·refine ⟨by omega,?_,by simp;omega⟩
         rw [←ho]
         first
          | (rw [show (!b && !(Op.bytesLess l[i] x || l[i]==x))=true from by simp_all];simp;done)
          | (rw [show (!b && !(Op.bytesLess l[i] x || l[i]==x))=false from by cases hb:Op.bytesLess l[i] x<;>simp_all];simp;done)
  ·try simp [zG4,zbc,zbb] at hc1
   all_goals
    refine zbx ?_
    refine zbm ?_
    refine zbh ?_
    refine AW_x rfl rfl λK hK=>?_
    simp (disch:=omega) [zG7,cS]
    repeat' first|(exfalso;omega)|(refine ⟨λ_=>?_,λ_=>?_⟩)|(refine ⟨by omega,?_⟩)|(intro _)
    all_goals (refine hK _ ?_;clear hK K)
    all_goals
     refine zbg rfl (λhc3=>?_) (λhc3=>?_)
     ·try simp [zG4,zbc,zbb] at hc3
      all_goals
       refine zb4 rfl rfl λK hK=>?_
       simp (disch:=omega) [zG7,cS]
       repeat' first|(exfalso;omega)|(refine ⟨λ_=>?_,λ_=>?_⟩)|(refine ⟨by omega,?_⟩)|(intro _)
       all_goals (refine hK _ ?_;clear hK K)
       all_goals
        refine zbm ?_
        refine AW_x rfl rfl λK hK=>?_
        simp (disch:=omega) [zG7,cS]
        repeat' first|(refine ⟨by omega,?_⟩)|(intro _)
        refine hK _ ?_;clear hK K
        refine zbp (zce [720] [] (by simp [List.range_succ,zbr,zby,zb0]) (by simp) ?_)
        simp (disch:=omega) [zG7,cS]
        all_goals (have e:i=l.length:=(by omega);rw [e,List.drop_length] at ho;first|(rw [hc3] at ho;simp [ins] at ho;rw [←ho];simp [cS,zbo,zgf,zp4];done)|(rw [hc3] at ho;simp [ins] at ho;rw [←ho];exact ⟨rfl,rfl⟩) | trace_state)
     ·try simp [zG4,zbc,zbb] at hc3
      all_goals
       refine zbi ?_
       refine zbm ?_
       refine AW_x rfl rfl λK hK=>?_
       simp (disch:=omega) [zG7,cS]
       repeat' first|(exfalso;omega)|(refine ⟨λ_=>?_,λ_=>?_⟩)|(refine ⟨by omega,?_⟩)|(intro _)
       all_goals (refine hK _ ?_;clear hK K)
       all_goals
        refine zbp (zce [144] [] (by simp [List.range_succ,zbr,zby,zb0]) (by simp) ?_)
        simp (disch:=omega) [zG7,cS]
        all_goals (have e:i=l.length:=(by omega);rw [e,List.drop_length] at ho;first|(rw [hc3] at ho;simp [ins] at ho;rw [←ho];simp [cS,zbo,zgf,zp4];done)|(rw [hc3] at ho;simp [ins] at ho;rw [←ho];exact ⟨rfl,rfl⟩) | trace_state)
end Go.Proofs.YtodmafgmdlkhoaaGreat.Vs
end
