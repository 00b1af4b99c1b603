import Derived.Test.YtodmafgmdlkhoaaSM10
import Derived.Test.YtodmafgmdlkhoaaSM7
section
namespace Go.Proofs.Ytodmafgmdlkhoaa.Vs
set_option linter.all false
set_option maxRecDepth 100000
def catM{α:Type}(f:α→List UInt8)(l:List α):List UInt8:=(l.map f).flatten
theorem zga{α:Type}(f:α→List UInt8):catM f []=[]:=rfl
theorem zjx{α:Type}(f:α→List UInt8)(l:List α)(i:Nat)(h:i<l.length):catM f (l.take (i+1))=catM f (l.take i)++f l[i]:=by
 induction l generalizing i with
 | nil=>simp at h
 | cons x xs ih =>
  cases i with
  | zero=>simp [catM]
  | succ i =>
   have:=ih i (by simpa using h)
   simp only [catM,List.take_succ_cons,List.map_cons,List.flatten_cons,List.getElem_cons_succ,List.append_assoc] at this ⊢
   rw [this]
theorem zhl{α:Type}(f:α→List UInt8)(B:Nat):∀(l:List α),(∀x∈l,(f x).length≤B)→(catM f l).length≤l.length*B
 | [],_=>by simp [catM]
 | x :: xs,h=>by
  have h1:=zhl f B xs λy hy=>h y (by simp [hy])
  have h2:=h x (by simp)
  simp only [catM,List.map_cons,List.flatten_cons,List.length_append,List.length_cons] at h1 ⊢
  rw [Nat.succ_mul];omega
theorem zqt{α:Type}(f:α→List UInt8)(B:Nat)(l:List α)(h:∀x∈l,(f x).length≤B)(i:Nat):(catM f (l.take i)).length≤l.length*B:=by
 have h1:=zhl f B (l.take i) λx hx=>h x (List.mem_of_mem_take hx)
 have h2:(l.take i).length≤l.length:=by simp;omega
 exact Nat.le_trans h1 (Nat.mul_le_mul_right _ h2)
theorem zde(s:List UInt8):(piece s).length≤7+s.length:=by
 have:=zdo s.length
 unfold piece;simp;omega
def showSnap(p:DtCSnap):List UInt8:=piece p.fName++(piece p.fTag++(varZ p.fChunks.length++catM piece p.fChunks))
def showSet(s:DtCSet):List UInt8:=piece s.fName++(varZ s.fSnaps.length++catM showSnap s.fSnaps)
def showSaid(x:DtSaid):List UInt8:=varZ x.fClient++(varZ x.fNo++piece x.fText)
def showSt(s:DtState):List UInt8:=varZ s.fCat.fSets.length++(catM showSet s.fCat.fSets++(varZ s.fSaid.length++catM showSaid s.fSaid))
noncomputable def showState(s:DtState):List UInt8:=bif decB (StateP s) then showSt s else []
theorem zv0{α:Type}{l:List α}{x:α}(h:x∈l):∃i:Nat,l[i]? = some x:=List.getElem?_of_mem h
theorem zv1{p:DtCSnap}(h:SnapP p):p.fName.length≤8∧p.fTag.length≤8∧p.fChunks.length≤4∧(∀x∈p.fChunks,x.length=8)∧(showSnap p).length≤97:=by
 obtain ⟨h1,h2,h3,h4,h5⟩:=h
 have a1:p.fName.length≤8:=h1.2.1
 have a2:p.fTag.length≤8:=by rcases h2 with h | h;simp [h];exact h.2.1
 have a3:∀x∈p.fChunks,x.length=8:=by intro x hx;obtain ⟨i,hi⟩:=zv0 hx;exact h5 i x hi
 refine ⟨a1,a2,h4,a3,?_⟩
 have b1:=zde p.fName
 have b2:=zde p.fTag
 have b3:=zdo p.fChunks.length
 have b4:=zhl piece 15 p.fChunks (λx hx=>by have:=zde x;have:=a3 x hx;omega)
 unfold showSnap
 simp only [List.length_append]
 omega
theorem set_bd{s:DtCSet}(h:SetP s):s.fName.length≤8∧s.fSnaps.length≤5∧(∀p∈s.fSnaps,SnapP p)∧(showSet s).length≤507:=by
 obtain ⟨h1,h2,h3⟩:=h
 have a3:∀p∈s.fSnaps,SnapP p:=by intro p hp;obtain ⟨i,hi⟩:=zv0 hp;exact (h3 i p hi).1
 refine ⟨h1.2.1,h2,a3,?_⟩
 have b1:=zde s.fName
 have b2:=h1.2.1
 have b3:=zdo s.fSnaps.length
 have b4:=zhl showSnap 97 s.fSnaps (λp hp=>(zv1 (a3 p hp)).2.2.2.2)
 unfold showSet
 simp only [List.length_append]
 omega
theorem said_bd{x:DtSaid}(h:x.fText.length≤1048576):(showSaid x).length≤1048597:=by
 have b1:=zde x.fText
 have b2:=zdo x.fClient
 have b3:=zdo x.fNo
 unfold showSaid
 simp only [List.length_append]
 omega
theorem saidSz(s:DtState)(hs:DtState.sz s≤1048576):s.fSaid.length≤1048576∧∀x∈s.fSaid,x.fText.length≤1048576:=by
 have h0:=zcd DtSaid.sz_nonneg s.fSaid
 have h1:=DtCatalog.sz_nonneg s.fCat
 simp only [DtState.sz,szS] at hs
 refine ⟨by omega,λx hx=>?_⟩
 have h2:=zdk DtSaid.sz_nonneg s.fSaid x hx
 simp only [DtSaid.sz] at h2
 omega
def zG26:=And.intro @zcv (And.intro @gE @tP)
def zG27:=And.intro @zba @zbf
theorem l26Texts(xs:List (List UInt8))(h4:xs.length≤4)(h8:∀x∈xs,x.length=8):PCall Try.prog 43 [.sl 1 (xs.map cS)] (.s (catM piece xs)):=by
 refine zbr Try.func43 (by rfl) (by rfl) (by rw [Try.ntmps43];exact Nat.le_of_ble_eq_true rfl) rfl (by decide) ?_
 rw [Try.ntmps43]
 refine AW_k [(0,_)] ⟨rfl,trivial⟩ ?_
 refine AW_r rfl rfl λK hK=>?_
 simp (disch:=omega) [zG26]
 repeat' first|(refine ⟨by omega,?_⟩)|(intro _)
 refine hK _ ?_;clear hK K
 refine AW_r rfl rfl λK hK=>?_
 simp (disch:=omega) [zG26]
 repeat' first|(refine ⟨by omega,?_⟩)|(intro _)
 refine hK _ ?_;clear hK K
 refine zbj ?_
 refine AW_r rfl rfl λK hK=>?_
 simp (disch:=omega) [zG26]
 repeat' first|(refine ⟨by omega,?_⟩)|(intro _)
 refine hK _ ?_;clear hK K
 refine zbn ?_
 refine zbv (λmM sS=>∃(i:Nat),mM=xs.length-i∧(i≤xs.length)∧sS = { env:=lkE [(0,.sl 1 (xs.map cS)),(3,.s (catM piece (xs.take i))),(4,(.g (.int .i64 ((i:Nat)))))],ob:=formOb [] [] }) ?_ ?_
 ·refine ⟨_,LeS.kp [(0,.sl 1 (xs.map cS)),(3,.s (catM piece (xs.take (0)))),(4,(.g (.int .i64 (((0):Nat)))))] (by simp [KpE,zbx,zbl,zbq];try simp [zga]),_,0,rfl,?_,rfl⟩
  ·simp
 ·rintro mM sS ⟨i,rfl,hi,rfl⟩
  have hj:=zqt piece 15 xs (λx hx=>by have:=zde x;have:=h8 x hx;omega) i
  refine zbj ?_
  refine AW_r rfl rfl λK hK=>?_
  simp (disch:=omega) [zG26,cS]
  repeat' first|(refine ⟨by omega,?_⟩)|(intro _)
  refine hK _ ?_;clear hK K
  refine zbi rfl (λhc1=>?_) (λhc1=>?_)
  ·try simp [zG27,zbd,zbc] at hc1
   all_goals
    have hst:=zjx piece xs i (by omega)
    have hx8:=h8 _ (List.getElem_mem (n:=i) (h:=by omega))
    have hp8:=zde xs[i]
    refine zbk ?_
    refine zbo ?_
    refine zbj ?_
    refine zbn ?_
    refine zc8 rfl rfl λK hK=>?_
    simp (disch:=omega) [zG26,cS]
    repeat' first|(exfalso;omega)|(refine zc5 (zbg zf1 zbm) (zqs _ (by omega)) rfl ?_;simp (disch:=omega) [zG26,cS])|(refine ⟨λ_=>?_,λ_=>?_⟩)|(refine ⟨by omega,?_⟩)|(intro _)
    all_goals (refine hK _ ?_;clear hK K)
    all_goals
     refine zbo ?_
     refine zc8 rfl rfl λK hK=>?_
     simp (disch:=omega) [zG26,cS]
     repeat' first|(refine ⟨by omega,?_⟩)|(intro _)
     refine hK _ ?_;clear hK K
     refine ⟨_,LeS.kp [(0,.sl 1 (xs.map cS)),(3,.s (catM piece (xs.take (i+1)))),(4,(.g (.int .i64 (((i+1):Nat)))))] (by simp [KpE,zbx,zbl,zbq];try simp [hst,zga]),_,?_,i+1,rfl,?_,rfl⟩
     ·omega
     ·omega
  ·try simp [zG27,zbd,zbc] at hc1
   all_goals
    have hi2:i=xs.length:=by omega
    subst hi2
    simp only [List.take_length] at *
    refine zb0 ?_
    refine zbo ?_
    refine AW_r rfl rfl λK hK=>?_
    simp (disch:=omega) [zG26,cS]
    repeat' first|(exfalso;omega)|(refine ⟨λ_=>?_,λ_=>?_⟩)|(refine ⟨by omega,?_⟩)|(intro _)
    all_goals (refine hK _ ?_;clear hK K)
    all_goals
     refine zbp (zcc ?_)
     simp (disch:=omega) [zG26,cS]
     all_goals first | omega|(simp_all;done)|(simp [List.take_of_length_le];done)|((try simp_all);(try simp (disch:=omega) only [zcv,Int.tdiv_eq_ediv_of_nonneg,Int.tmod_eq_emod_of_nonneg,and_true,true_and]);done)|((try simp_all);(try simp (disch:=omega) only [zcv,Int.tdiv_eq_ediv_of_nonneg,Int.tmod_eq_emod_of_nonneg,and_true,true_and] at *);omega)
theorem zby(s:DtState)(hs:DtState.sz s≤1048576):PCall Try.prog 11 [.agg (DtState.cells s)] (.s (showState s)):=by
 have ⟨hz,hl⟩:=zh3 s hs
 obtain ⟨-,hT⟩:=saidSz s hs
 by_cases hP:StateP s
 ·have hS:∀x∈s.fCat.fSets,SetP x:=by intro x hx;obtain ⟨i,hi⟩:=zv0 hx;exact (hP.1.2 i x hi).1
  have h5:s.fCat.fSets.length≤5:=hP.1.1
  have hd:=zce hP
  have hm:s.fSaid.length*1048597≤1048576*1048597:=Nat.mul_le_mul_right _ hl
  have v1:=zdo s.fCat.fSets.length
  have v2:=zdo s.fSaid.length
  have v3:=zhl showSet 507 s.fCat.fSets (λx hx=>(set_bd (hS x hx)).2.2.2)
  refine zbr Try.func11 (by rfl) (by rfl) (by rw [Try.ntmps11];exact Nat.le_of_ble_eq_true rfl) rfl (by decide) ?_
  rw [Try.ntmps11]
  refine AW_k [(0,_)] ⟨rfl,trivial⟩ ?_
  refine AW_r rfl rfl λK hK=>?_
  simp (disch:=omega) [zG26,DtState.cells,DtCatalog.cells,DtCSet.cells,DtCSnap.cells,DtSaid.cells,hd]
  repeat' first|(refine ⟨by omega,?_⟩)|(intro _)
  refine hK _ ?_;clear hK K
  refine zbj ?_
  refine AW_r rfl rfl λK hK=>?_
  simp (disch:=omega) [zG26,DtState.cells,DtCatalog.cells,DtCSet.cells,DtCSnap.cells,DtSaid.cells,hd]
  repeat' first|(exfalso;omega)|(refine zc5 (zbg (zbw rfl) zbm) (zcu _ (by omega)) rfl ?_;simp (disch:=omega) [zG26,DtState.cells,DtCatalog.cells,DtCSet.cells,DtCSnap.cells,DtSaid.cells,hd])|(refine ⟨by omega,?_⟩)|(intro _)
  refine hK _ ?_;clear hK K
  refine zbi rfl (λhc2=>?_) (λhc2=>?_)
  ·try simp [zG27,zbd,zbc] at hc2
   all_goals
    refine AW_r rfl rfl λK hK=>?_
    simp (disch:=omega) [zG26,DtState.cells,DtCatalog.cells,DtCSet.cells,DtCSnap.cells,DtSaid.cells,hd]
    repeat' first|(exfalso;omega)|(refine ⟨λ_=>?_,λ_=>?_⟩)|(refine ⟨by omega,?_⟩)|(intro _)
    all_goals (refine hK _ ?_;clear hK K)
    all_goals
     refine zbp (zcc ?_)
     simp (disch:=omega) [zG26,DtState.cells,DtCatalog.cells,DtCSet.cells,DtCSnap.cells,DtSaid.cells,hd]
     all_goals first|(simp [showState,hd,showSt];done)
  ·try simp [zG27,zbd,zbc] at hc2
   all_goals
    refine zbk ?_
    refine zbo ?_
    refine AW_r rfl rfl λK hK=>?_
    simp (disch:=omega) [zG26,DtState.cells,DtCatalog.cells,DtCSet.cells,DtCSnap.cells,DtSaid.cells,hd]
    repeat' first|(exfalso;omega)|(refine zc5 (zbg zco zbm) (zkh _) rfl ?_;simp (disch:=omega) [zG26,DtState.cells,DtCatalog.cells,DtCSet.cells,DtCSnap.cells,DtSaid.cells,hd])|(refine ⟨λ_=>?_,λ_=>?_⟩)|(refine ⟨by omega,?_⟩)|(intro _)
    all_goals (refine hK _ ?_;clear hK K)
    all_goals
     refine zbj ?_
     refine AW_r rfl rfl λK hK=>?_
     simp (disch:=omega) [zG26,DtState.cells,DtCatalog.cells,DtCSet.cells,DtCSnap.cells,DtSaid.cells,hd]
     repeat' first|(refine ⟨by omega,?_⟩)|(intro _)
     refine hK _ ?_;clear hK K
     refine zbn ?_
     refine zbv (λmM sS=>∃(i:Nat),mM=s.fCat.fSets.length-i∧(i≤s.fCat.fSets.length)∧sS = { env:=lkE [(1,.ptr 32 0),(3,.s (varZ s.fCat.fSets.length++catM showSet (s.fCat.fSets.take i))),(4,(.g (.int .i64 ((i:Nat)))))],ob:=lk [(32,.cells (DtState.cells s))] }) ?_ ?_
     ·refine ⟨_,LeS.ko [(1,.ptr 32 0),(3,.s (varZ s.fCat.fSets.length++catM showSet (s.fCat.fSets.take (0)))),(4,(.g (.int .i64 (((0):Nat)))))] [(32,.cells (DtState.cells s))] (by simp [KpE,zbx,zbl,zbq,DtState.cells,DtCatalog.cells,DtCSet.cells,DtCSnap.cells];try simp [zga]) (by simp [KpO,zbx,zbq,zbz,zca,DtState.cells,DtCatalog.cells,DtCSet.cells,DtCSnap.cells];try rfl) (by rfl) (by simp) (by rfl),_,0,rfl,?_,rfl⟩
      ·simp
     ·rintro mM sS ⟨i,rfl,hi,rfl⟩
      have hb1:=zqt showSet 507 s.fCat.fSets (λx hx=>(set_bd (hS x hx)).2.2.2) i
      refine zbj ?_
      refine AW_r rfl rfl λK hK=>?_
      simp (disch:=omega) [zG26,DtState.cells,DtCatalog.cells,DtCSet.cells,DtCSnap.cells,DtSaid.cells,hd]
      repeat' first|(refine ⟨by omega,?_⟩)|(intro _)
      refine hK _ ?_;clear hK K
      refine zbi rfl (λhc3=>?_) (λhc3=>?_)
      ·try simp [zG27,zbd,zbc] at hc3
       all_goals
        have hst:=zjx showSet s.fCat.fSets i (by omega)
        have ⟨e1,e2,e3,e4⟩:=set_bd (hS _ (List.getElem_mem (n:=i) (h:=by omega)))
        have e5:=zde (s.fCat.fSets[i]).fName
        have e6:=zdo (s.fCat.fSets[i]).fSnaps.length
        refine zbk ?_
        refine zbo ?_
        refine zbj ?_
        refine zbn ?_
        refine AW_r rfl rfl λK hK=>?_
        simp (disch:=omega) [zG26,DtState.cells,DtCatalog.cells,DtCSet.cells,DtCSnap.cells,DtSaid.cells,hd]
        repeat' first|(exfalso;omega)|(refine ⟨λ_=>?_,λ_=>?_⟩)|(refine ⟨by omega,?_⟩)|(intro _)
        all_goals (refine hK _ ?_;clear hK K)
        all_goals
         refine AW_q rfl mix (by kernel_rfl) rfl λK hK=>?_
         simp (disch:=omega) [zG26,DtState.cells,DtCatalog.cells,DtCSet.cells,DtCSnap.cells,DtSaid.cells,hd]
         repeat' first|(exfalso;omega)|(refine zc5 (zbg zf1 zbm) (zqs _ (by omega)) rfl ?_;simp (disch:=omega) [zG26,DtState.cells,DtCatalog.cells,DtCSet.cells,DtCSnap.cells,DtSaid.cells,hd])|(refine zc5 (zbg zco zbm) (zkh _) rfl ?_;simp (disch:=omega) [zG26,DtState.cells,DtCatalog.cells,DtCSet.cells,DtCSnap.cells,DtSaid.cells,hd])|(refine ⟨by omega,?_⟩)|(intro _)
         refine hK _ ?_;clear hK K
         refine AW_r rfl rfl λK hK=>?_
         simp (disch:=omega) [zG26,DtState.cells,DtCatalog.cells,DtCSet.cells,DtCSnap.cells,DtSaid.cells,hd]
         repeat' first|(refine ⟨by omega,?_⟩)|(intro _)
         refine hK _ ?_;clear hK K
         refine zbn ?_
         refine zbv (λmM sS=>∃(k:Nat),mM=(s.fCat.fSets[i]).fSnaps.length-k∧(k≤(s.fCat.fSets[i]).fSnaps.length)∧sS = { env:=lkE [(1,.ptr 32 0),(3,.s (varZ s.fCat.fSets.length++(catM showSet (s.fCat.fSets.take i)++(piece (s.fCat.fSets[i]).fName++(varZ (s.fCat.fSets[i]).fSnaps.length++catM showSnap ((s.fCat.fSets[i]).fSnaps.take k)))))),(4,(.g (.int .i64 ((i:Nat))))),(5,.ptr 96 0),(6,(.g (.int .i64 ((k:Nat)))))],ob:=lk [(32,.cells (DtState.cells s)),(96,.cells (DtCSet.cells s.fCat.fSets[i]))] }) ?_ ?_
         ·refine ⟨_,LeS.ko [(1,.ptr 32 0),(3,.s (varZ s.fCat.fSets.length++(catM showSet (s.fCat.fSets.take i)++(piece (s.fCat.fSets[i]).fName++(varZ (s.fCat.fSets[i]).fSnaps.length++catM showSnap ((s.fCat.fSets[i]).fSnaps.take (0))))))),(4,(.g (.int .i64 ((i:Nat))))),(5,.ptr 96 0),(6,(.g (.int .i64 (((0):Nat)))))] [(32,.cells (DtState.cells s)),(96,.cells (DtCSet.cells s.fCat.fSets[i]))] (by simp [KpE,zbx,zbl,zbq,DtState.cells,DtCatalog.cells,DtCSet.cells,DtCSnap.cells];try simp [zga]) (by simp [KpO,zbx,zbq,zbz,zca,DtState.cells,DtCatalog.cells,DtCSet.cells,DtCSnap.cells];try rfl) (by rfl) (by simp) (by rfl),_,0,rfl,?_,rfl⟩
          ·simp
         ·rintro mM sS ⟨k,rfl,hk,rfl⟩
          have hb2:=zqt showSnap 97 (s.fCat.fSets[i]).fSnaps (λp hp=>(zv1 (e3 p hp)).2.2.2.2) k
          refine zbj ?_
          refine AW_r rfl rfl λK hK=>?_
          simp (disch:=omega) [zG26,DtState.cells,DtCatalog.cells,DtCSet.cells,DtCSnap.cells,DtSaid.cells,hd]
          repeat' first|(refine ⟨by omega,?_⟩)|(intro _)
          refine hK _ ?_;clear hK K
          refine zbi rfl (λhc4=>?_) (λhc4=>?_)
          ·try simp [zG27,zbd,zbc] at hc4
           all_goals
            have hsp:=zjx showSnap (s.fCat.fSets[i]).fSnaps k (by omega)
            have ⟨f1,f2,f3,f4,f5⟩:=zv1 (e3 _ (List.getElem_mem (n:=k) (h:=by omega)))
            have f6:=zde ((s.fCat.fSets[i]).fSnaps[k]).fName
            have f7:=zde ((s.fCat.fSets[i]).fSnaps[k]).fTag
            have f8:=zdo ((s.fCat.fSets[i]).fSnaps[k]).fChunks.length
            have f9:=zhl piece 15 ((s.fCat.fSets[i]).fSnaps[k]).fChunks (λx hx=>by have:=zde x;have:=f4 x hx;omega)
            refine zbk ?_
            refine zbo ?_
            refine zbj ?_
            refine zbn ?_
            refine AW_r rfl rfl λK hK=>?_
            simp (disch:=omega) [zG26,DtState.cells,DtCatalog.cells,DtCSet.cells,DtCSnap.cells,DtSaid.cells,hd]
            repeat' first|(exfalso;omega)|(refine ⟨λ_=>?_,λ_=>?_⟩)|(refine ⟨by omega,?_⟩)|(intro _)
            all_goals (refine hK _ ?_;clear hK K)
            all_goals
             refine zx4 rfl mix (by kernel_rfl) rfl λK hK=>?_
             simp (disch:=omega) [zG26,DtState.cells,DtCatalog.cells,DtCSet.cells,DtCSnap.cells,DtSaid.cells,hd]
             repeat' first|(exfalso;omega)|(refine zc5 (zbg zf1 zbm) (zqs _ (by omega)) rfl ?_;simp (disch:=omega) [zG26,DtState.cells,DtCatalog.cells,DtCSet.cells,DtCSnap.cells,DtSaid.cells,hd])|(refine zc5 (zbg zco zbm) (zkh _) rfl ?_;simp (disch:=omega) [zG26,DtState.cells,DtCatalog.cells,DtCSet.cells,DtCSnap.cells,DtSaid.cells,hd])|(refine zc5 (zbg zf8 zbm) (l26Texts _ (by omega) (by assumption)) rfl ?_;simp (disch:=omega) [zG26,DtState.cells,DtCatalog.cells,DtCSet.cells,DtCSnap.cells,DtSaid.cells,hd])|(refine ⟨by omega,?_⟩)|(intro _)
             refine hK _ ?_;clear hK K
             refine zbo ?_
             refine zc8 rfl rfl λK hK=>?_
             simp (disch:=omega) [zG26,DtState.cells,DtCatalog.cells,DtCSet.cells,DtCSnap.cells,DtSaid.cells,hd]
             repeat' first|(refine ⟨by omega,?_⟩)|(intro _)
             refine hK _ ?_;clear hK K
             refine ⟨_,LeS.ko [(1,.ptr 32 0),(3,.s (varZ s.fCat.fSets.length++(catM showSet (s.fCat.fSets.take i)++(piece (s.fCat.fSets[i]).fName++(varZ (s.fCat.fSets[i]).fSnaps.length++catM showSnap ((s.fCat.fSets[i]).fSnaps.take (k+1))))))),(4,(.g (.int .i64 ((i:Nat))))),(5,.ptr 96 0),(6,(.g (.int .i64 (((k+1):Nat)))))] [(32,.cells (DtState.cells s)),(96,.cells (DtCSet.cells s.fCat.fSets[i]))] (by simp [KpE,zbx,zbl,zbq,DtState.cells,DtCatalog.cells,DtCSet.cells,DtCSnap.cells];try simp [hsp,zga,showSnap]) (by simp [KpO,zbx,zbq,zbz,zca,DtState.cells,DtCatalog.cells,DtCSet.cells,DtCSnap.cells];try rfl) (by rfl) (by simp) (by rfl),_,?_,k+1,rfl,?_,rfl⟩
             ·omega
             ·omega
          ·try simp [zG27,zbd,zbc] at hc4
           all_goals
            have hk2:k=(s.fCat.fSets[i]).fSnaps.length:=by omega
            subst hk2
            simp only [List.take_length] at *
            refine zb0 ?_
            refine zbo ?_
            refine zc8 rfl rfl λK hK=>?_
            simp (disch:=omega) [zG26,DtState.cells,DtCatalog.cells,DtCSet.cells,DtCSnap.cells,DtSaid.cells,hd]
            repeat' first|(exfalso;omega)|(refine ⟨λ_=>?_,λ_=>?_⟩)|(refine ⟨by omega,?_⟩)|(intro _)
            all_goals (refine hK _ ?_;clear hK K)
            all_goals
             refine ⟨_,LeS.ko [(1,.ptr 32 0),(3,.s (varZ s.fCat.fSets.length++catM showSet (s.fCat.fSets.take (i+1)))),(4,(.g (.int .i64 (((i+1):Nat)))))] [(32,.cells (DtState.cells s))] (by simp [KpE,zbx,zbl,zbq,DtState.cells,DtCatalog.cells,DtCSet.cells,DtCSnap.cells];try simp [hst,zga,showSet]) (by simp [KpO,zbx,zbq,zbz,zca,DtState.cells,DtCatalog.cells,DtCSet.cells,DtCSnap.cells];try rfl) (by rfl) (by simp) (by rfl),_,?_,i+1,rfl,?_,rfl⟩
             ·omega
             ·omega
      ·try simp [zG27,zbd,zbc] at hc3
       all_goals
        have hi2:i=s.fCat.fSets.length:=by omega
        subst hi2
        simp only [List.take_length] at *
        refine zb0 ?_
        refine zbo ?_
        refine AW_r rfl rfl λK hK=>?_
        simp (disch:=omega) [zG26,DtState.cells,DtCatalog.cells,DtCSet.cells,DtCSnap.cells,DtSaid.cells,hd]
        repeat' first|(exfalso;omega)|(refine zc5 (zbg zco zbm) (zkh _) rfl ?_;simp (disch:=omega) [zG26,DtState.cells,DtCatalog.cells,DtCSet.cells,DtCSnap.cells,DtSaid.cells,hd])|(refine ⟨λ_=>?_,λ_=>?_⟩)|(refine ⟨by omega,?_⟩)|(intro _)
        all_goals (refine hK _ ?_;clear hK K)
        all_goals
         refine zbj ?_
         refine AW_r rfl rfl λK hK=>?_
         simp (disch:=omega) [zG26,DtState.cells,DtCatalog.cells,DtCSet.cells,DtCSnap.cells,DtSaid.cells,hd]
         repeat' first|(refine ⟨by omega,?_⟩)|(intro _)
         refine hK _ ?_;clear hK K
         refine zbn ?_
         refine zbv (λmM sS=>∃(i:Nat),mM=s.fSaid.length-i∧(i≤s.fSaid.length)∧sS = { env:=lkE [(1,.ptr 32 0),(3,.s (varZ s.fCat.fSets.length++(catM showSet s.fCat.fSets++(varZ s.fSaid.length++catM showSaid (s.fSaid.take i))))),(8,(.g (.int .i64 ((i:Nat)))))],ob:=lk [(32,.cells (DtState.cells s))] }) ?_ ?_
         ·refine ⟨_,LeS.ko [(1,.ptr 32 0),(3,.s (varZ s.fCat.fSets.length++(catM showSet s.fCat.fSets++(varZ s.fSaid.length++catM showSaid (s.fSaid.take (0)))))),(8,(.g (.int .i64 (((0):Nat)))))] [(32,.cells (DtState.cells s))] (by simp [KpE,zbx,zbl,zbq,DtState.cells,DtCatalog.cells,DtSaid.cells];try simp [zga]) (by simp [KpO,zbx,zbq,zbz,zca,DtState.cells,DtCatalog.cells,DtSaid.cells];try rfl) (by rfl) (by simp) (by rfl),_,0,rfl,?_,rfl⟩
          ·simp
         ·rintro mM sS ⟨i,rfl,hi,rfl⟩
          have hb3:=zqt showSaid 1048597 s.fSaid (λx hx=>said_bd (hT x hx)) i
          refine zbj ?_
          refine AW_r rfl rfl λK hK=>?_
          simp (disch:=omega) [zG26,DtState.cells,DtCatalog.cells,DtCSet.cells,DtCSnap.cells,DtSaid.cells,hd]
          repeat' first|(refine ⟨by omega,?_⟩)|(intro _)
          refine hK _ ?_;clear hK K
          refine zbi rfl (λhc5=>?_) (λhc5=>?_)
          ·try simp [zG27,zbd,zbc] at hc5
           all_goals
            have hst:=zjx showSaid s.fSaid i (by omega)
            have g1:=hT _ (List.getElem_mem (n:=i) (h:=by omega))
            have g2:=zde (s.fSaid[i]).fText
            have g3:=zdo (s.fSaid[i]).fClient
            have g4:=zdo (s.fSaid[i]).fNo
            refine zbk ?_
            refine zbo ?_
            refine zbj ?_
            refine zbn ?_
            refine zx4 rfl mix (by kernel_rfl) rfl λK hK=>?_
            simp (disch:=omega) [zG26,DtState.cells,DtCatalog.cells,DtCSet.cells,DtCSnap.cells,DtSaid.cells,hd]
            repeat' first|(exfalso;omega)|(refine zc5 (zbg zco zbm) (zkh _) rfl ?_;simp (disch:=omega) [zG26,DtState.cells,DtCatalog.cells,DtCSet.cells,DtCSnap.cells,DtSaid.cells,hd])|(refine zc5 (zbg zf1 zbm) (zqs _ (by omega)) rfl ?_;simp (disch:=omega) [zG26,DtState.cells,DtCatalog.cells,DtCSet.cells,DtCSnap.cells,DtSaid.cells,hd])|(refine ⟨λ_=>?_,λ_=>?_⟩)|(refine ⟨by omega,?_⟩)|(intro _)
            all_goals (refine hK _ ?_;clear hK K)
            all_goals
             refine zbo ?_
             refine zc8 rfl rfl λK hK=>?_
             simp (disch:=omega) [zG26,DtState.cells,DtCatalog.cells,DtCSet.cells,DtCSnap.cells,DtSaid.cells,hd]
             repeat' first|(refine ⟨by omega,?_⟩)|(intro _)
             refine hK _ ?_;clear hK K
             refine ⟨_,LeS.ko [(1,.ptr 32 0),(3,.s (varZ s.fCat.fSets.length++(catM showSet s.fCat.fSets++(varZ s.fSaid.length++catM showSaid (s.fSaid.take (i+1)))))),(8,(.g (.int .i64 (((i+1):Nat)))))] [(32,.cells (DtState.cells s))] (by simp [KpE,zbx,zbl,zbq,DtState.cells,DtCatalog.cells,DtSaid.cells];try simp [hst,zga,showSaid]) (by simp [KpO,zbx,zbq,zbz,zca,DtState.cells,DtCatalog.cells,DtSaid.cells];try rfl) (by rfl) (by simp) (by rfl),_,?_,i+1,rfl,?_,rfl⟩
             ·omega
             ·omega
          ·try simp [zG27,zbd,zbc] at hc5
           all_goals
            have hi2:i=s.fSaid.length:=by omega
            subst hi2
            simp only [List.take_length] at *
            refine zb0 ?_
            refine zbo ?_
            refine AW_r rfl rfl λK hK=>?_
            simp (disch:=omega) [zG26,DtState.cells,DtCatalog.cells,DtCSet.cells,DtCSnap.cells,DtSaid.cells,hd]
            repeat' first|(exfalso;omega)|(refine ⟨λ_=>?_,λ_=>?_⟩)|(refine ⟨by omega,?_⟩)|(intro _)
            all_goals (refine hK _ ?_;clear hK K)
            all_goals
             refine zbp (zcc ?_)
             simp (disch:=omega) [zG26,DtState.cells,DtCatalog.cells,DtCSet.cells,DtCSnap.cells,DtSaid.cells,hd]
             all_goals first|(simp [showState,hd,showSt];done)
 ·have hd:=zdg hP
  refine zbr Try.func11 (by rfl) (by rfl) (by rw [Try.ntmps11];exact Nat.le_of_ble_eq_true rfl) rfl (by decide) ?_
  rw [Try.ntmps11]
  refine AW_k [(0,_)] ⟨rfl,trivial⟩ ?_
  refine AW_r rfl rfl λK hK=>?_
  simp (disch:=omega) [zG26,DtState.cells,DtCatalog.cells,hd]
  refine hK _ ?_;clear hK K
  refine zbj (AW_r rfl rfl λK hK=>?_)
  simp (disch:=omega) [zG26,DtState.cells,DtCatalog.cells,hd]
  refine zc5 (zbg (zbw rfl) zbm) (zcu _ hs) rfl ?_
  simp (disch:=omega) [zG26,DtState.cells,DtCatalog.cells,hd]
  refine hK _ ?_;clear hK K
  refine zq8 (by simp) ?_
  refine AW_r rfl rfl λK hK=>?_
  simp (disch:=omega) [zG26,DtState.cells,DtCatalog.cells,hd]
  repeat' first|(refine ⟨by omega,?_⟩)|(intro _)
  refine hK _ ?_;clear hK K
  refine zbp (zcc ?_)
  simp (disch:=omega) [zG26,DtState.cells,DtCatalog.cells,hd,showState,hd]
  all_goals first | omega|(simp_all;done)|(simp [List.take_of_length_le];done)|((try simp_all);(try simp (disch:=omega) only [zcv,Int.tdiv_eq_ediv_of_nonneg,Int.tmod_eq_emod_of_nonneg,and_true,true_and]);done)|((try simp_all);(try simp (disch:=omega) only [zcv,Int.tdiv_eq_ediv_of_nonneg,Int.tmod_eq_emod_of_nonneg,and_true,true_and] at *);omega)
end Go.Proofs.Ytodmafgmdlkhoaa.Vs
end
section
namespace Go.Proofs.Ytodmafgmdlkhoaa.Vs
set_option linter.all false
set_option maxRecDepth 100000
set_option maxHeartbeats 4000000
theorem zv2{s:DtState}(B:Int)(hB:0≤B)(hs:DtState.sz s≤B)(m:DtCmd):DtState.sz (stC s m)≤B+20000:=by
 by_cases h:StateP s
 ·rcases zxg s m h with e | ⟨h1,h2,e⟩
  ·rw [e];omega
  ·have hP:=stC_P h m
   have h3:=catP_sz hP.1
   have h9:=zso hP
   rw [e] at h3 h9 ⊢
   have h4:sumZ DtSaid.sz (stN s m).fSaid≤sumZ DtSaid.sz s.fSaid+200:=by
    have key:∀(x:DtSaid) (l:List DtSaid),sumZ DtSaid.sz (putL x l)≤sumZ DtSaid.sz l+DtSaid.sz x:=by
     intro x l
     induction l with
     | nil=>rw [putL,zc4,zgw];omega
     | cons y l ih =>
      have hy:=DtSaid.sz_nonneg y
      rw [putL]
      split
      ·rw [zc4,zc4];omega
      ·split
       ·rw [zc4,zc4];omega
       ·rw [zc4,zc4];omega
    have h5:=key (newS m (catR s.fCat m)) s.fSaid
    have h6:DtSaid.sz (newS m (catR s.fCat m))≤200:=by
     have:=zxe s.fCat m
     show ((catR s.fCat m).length:Int)≤200
     omega
    have h7:sumZ DtSaid.sz (stN s m).fSaid=sumZ DtSaid.sz (putL (newS m (catR s.fCat m)) s.fSaid):=rfl
    omega
   have h8:=zcd DtSaid.sz_nonneg s.fSaid
   have h0:=DtCatalog.sz_nonneg s.fCat
   simp only [DtState.sz,szS] at hs ⊢
   omega
 ·rw [(st_f h).1];show (0:Int)+0+(0+0)≤_;omega
theorem zqu(l:List Int)(hn:l.length<9223372036854775808):PCall Try.prog 5 [.sl 1 (l.map cU)] (.g (.bool (decide (1048576<l.length)))):=by
 refine zbr Try.func5 (by rfl) (by rfl) (by rw [Try.ntmps5];exact Nat.le_of_ble_eq_true rfl) rfl (by decide) ?_
 rw [Try.ntmps5]
 refine AW_k [(0,_)] ⟨rfl,trivial⟩ ?_
 refine AW_r rfl rfl λK hK=>?_
 simp
 repeat' first|(refine ⟨by omega,?_⟩)|(intro _)
 refine hK _ ?_;clear hK K
 refine AW_r rfl rfl λK hK=>?_
 simp
 repeat' first|(refine ⟨by omega,?_⟩)|(intro _)
 refine hK _ ?_;clear hK K
 refine zbp (zcc ?_)
 simp
 all_goals (first | done|(congr 1;omega)|(simp;omega) | trace_state)
theorem okTS{s:DtState}(h:DtState.sz s≤1048576)(hP:StateP s):PCall Try.prog 9 [.agg (DtState.cells s)] (.g (.bool (true))):=by
 have:=zcu s h
 rwa [zce hP] at this
theorem zgp{s:DtState}{m:DtCmd}(h:DtState.sz (stC s m)≤1048576)(hm:DtCmd.sz m≤1048576)(e:stC (stC s m) m=stC s m∧stR (stC s m) m=stR s m):XCall Try.prog 7 [.agg (DtState.cells (stC s m)),.agg (DtCmd.cells m)] [] (.tup [.agg [.arr 16 0 (stC s m).fCat.fSets.length,.arr 17 0 (stC s m).fSaid.length],.s (stR s m)]) [] [.own 2 ((stC s m).fCat.fSets.map DtCSet.cells),.own 3 ((stC s m).fSaid.map DtSaid.cells)]:=by
 have:=zdl (stC s m) m h hm
 rwa [e.1,e.2] at this
theorem zgq{s:DtState}{m:DtCmd}{t:List UInt8}(h:DtState.sz (stC s m)≤1048576)(hm:DtCmd.sz (oldM m)≤1048576)(x:DtState)(e:stC (stC s m) (oldM m)=x∧stR (stC s m) (oldM m)=t):XCall Try.prog 7 [.agg (DtState.cells (stC s m)),.agg (DtCmd.cells (oldM m))] [] (.tup [.agg [.arr 16 0 x.fCat.fSets.length,.arr 17 0 x.fSaid.length],.s t]) [] [.own 2 (x.fCat.fSets.map DtCSet.cells),.own 3 (x.fSaid.map DtSaid.cells)]:=by
 have:=zdl (stC s m) (oldM m) h hm
 rwa [e.1,e.2] at this
theorem no_bd{m:DtCmd}(hm:CmdP m)(h0:¬m.fKind=0):1≤m.fNo∧m.fNo≤1000:=by
 have:=hm.resolve_left λhh=>h0 hh.1
 exact ⟨this.2.2.2.2.1,this.2.2.2.2.2.1⟩
theorem eqB_r(b:List UInt8):(b==b)=true:=by simp
def zG28:=And.intro @zcv (And.intro @gE (And.intro @tP (And.intro @eqB_r (And.intro @and_assoc (And.intro @List.range_succ @zbe)))))
def zG29:=And.intro @List.range_succ (And.intro @zbq (And.intro @zbz @zbx))
theorem lawOnceX(l:List Int)(hw:l.length<9223372036854775808):XCall Try.prog 3 [.sl 1 (l.map cU)] [] (.g (.bool (true))) [] []:=by
 by_cases hl:l.length≤1048576
 ·have e:¬1048576<l.length:=by omega
  refine zbt Try.func3 (by rfl) (by rfl) (by rw [Try.ntmps3];exact Nat.le_of_ble_eq_true rfl) rfl (by simp) rfl rfl ?_
  rw [Try.ntmps3]
  refine zhm   ?_
  refine AW_k [(0,_)] ⟨rfl,trivial⟩ ?_
  refine AW_x rfl rfl λK hK=>?_
  simp (disch:=omega) [zG28,DtState.cells,DtCatalog.cells,DtCmd.cells,oldM,e]
  repeat' first|(refine ⟨by omega,?_⟩)|(intro _)
  refine hK _ ?_;clear hK K
  refine zbj ?_
  refine AW_x rfl rfl λK hK=>?_
  simp (disch:=omega) [zG28,DtState.cells,DtCatalog.cells,DtCmd.cells,oldM,e]
  repeat' first|(exfalso;omega)|(refine zd5 (zbg zf8 zbm) (zqu l hw) rfl ?_;simp (disch:=omega) [zG28,DtState.cells,DtCatalog.cells,DtCmd.cells,oldM,e])|(refine zd6 (zqu l hw) (by rfl) ?_ ?_;(focus (simp (disch:=omega) [zG28,DtState.cells,DtCatalog.cells,DtCmd.cells,oldM,e];done));simp (disch:=omega) [zG28,DtState.cells,DtCatalog.cells,DtCmd.cells,oldM,e])|(refine ⟨by omega,?_⟩)|(simp (disch:=omega) [zG28,DtState.cells,DtCatalog.cells,DtCmd.cells,oldM,e])|(intro _)
  refine hK _ ?_;clear hK K
  refine zbi rfl (λhc1=>?_) (λhc1=>?_)
  ·try simp [zG27,zbd,zbc] at hc1
   all_goals
    refine AW_x rfl rfl λK hK=>?_
    simp (disch:=omega) [zG28,DtState.cells,DtCatalog.cells,DtCmd.cells,oldM,e]
    repeat' first|(exfalso;omega)|(refine ⟨λ_=>?_,λ_=>?_⟩)|(refine ⟨by omega,?_⟩)|(simp (disch:=omega) [zG28,DtState.cells,DtCatalog.cells,DtCmd.cells,oldM,e])|(intro _)
    all_goals (refine hK _ ?_;clear hK K)
    all_goals
     refine zbp (zb5 [] [] (by simp [zG29]) (by simp) ?_)
     simp (disch:=omega) [zG28,DtState.cells,DtCatalog.cells,DtCmd.cells,oldM,e]
     all_goals first | rfl | omega|(simp_all;done)|(rcases hxe with h | ⟨h1,h2⟩<;>simp_all<;>done) | trace_state
  ·try simp [zG27,zbd,zbc] at hc1
   all_goals
    refine zbk ?_
    refine zbo ?_
    refine AW_x rfl rfl λK hK=>?_
    simp (disch:=omega) [zG28,DtState.cells,DtCatalog.cells,DtCmd.cells,oldM,e]
    repeat' first|(exfalso;omega)|(refine zt3 [] false [] (zne l hl) ?_ ?_ ?_;(focus (simp [List.range_succ,nmC];done));(focus (simp (disch:=omega) [zG28,DtState.cells,DtCatalog.cells,DtCmd.cells,oldM,e];done));rintro _ _ _ ⟨s,m,hG,hm,rfl,rfl,rfl⟩;refine ⟨⟨by first | rfl|(simp;done),by first | rfl|(simp;done)⟩,?_⟩;simp (disch:=omega) [zG28,DtState.cells,DtCatalog.cells,DtCmd.cells,oldM,e])|(refine ⟨λ_=>?_,λ_=>?_⟩)|(refine ⟨by omega,?_⟩)|(simp (disch:=omega) [zG28,DtState.cells,DtCatalog.cells,DtCmd.cells,oldM,e])|(intro _)
    all_goals (refine hK _ ?_;clear hK K)
    all_goals
     have hs1:DtState.sz s≤1048576:=by have:=hG.1;omega
     have hs2:DtState.sz (stC s m)≤1048576:=by have:=zv2 20000 (by omega) hG.1 m;omega
     have hmz:DtCmd.sz m≤1048576:=by have:=zxn hm;omega
     have hoz:DtCmd.sz (oldM m)≤1048576:=hmz
     have hL:=zvy hG.1
     have hs3:DtState.sz (stC (stC s m) (oldM m))≤1048576:=by have h1:=zv2 20000 (by omega) hG.1 m;have:=zv2 40000 (by omega) (by omega) (s:=stC s m) (oldM m);omega
     refine AW_x rfl rfl λK hK=>?_
     simp (disch:=omega) [zG28,DtState.cells,DtCatalog.cells,DtCmd.cells,oldM,e]
     repeat' first|(exfalso;omega)|(refine zc9 [] true [] (zdl s m hs1 hmz) ?_ ?_ ?_;(focus (simp [List.range_succ,nmC];done));(focus (simp (disch:=omega) [zG28,DtState.cells,DtCatalog.cells,DtCmd.cells,oldM,e];done));simp (disch:=omega) [zG28,DtState.cells,DtCatalog.cells,DtCmd.cells,oldM,e])|(refine zc9 [] true [] (zgp hs2 hmz hag) ?_ ?_ ?_;(focus (simp [List.range_succ,nmC];done));(focus (simp (disch:=omega) [zG28,DtState.cells,DtCatalog.cells,DtCmd.cells,oldM,e];done));simp (disch:=omega) [zG28,DtState.cells,DtCatalog.cells,DtCmd.cells,oldM,e])|(refine zc9 [] true [] (zgq hs2 hoz xe hel) ?_ ?_ ?_;(focus (simp [List.range_succ,nmC];done));(focus (simp (disch:=omega) [zG28,DtState.cells,DtCatalog.cells,DtCmd.cells,oldM,e];done));simp (disch:=omega) [zG28,DtState.cells,DtCatalog.cells,DtCmd.cells,oldM,e])|(refine ⟨by omega,?_⟩)|(simp (disch:=omega) [zG28,DtState.cells,DtCatalog.cells,DtCmd.cells,oldM,e])|(intro _)
     refine hK _ ?_;clear hK K
     refine AW_x rfl rfl λK hK=>?_
     simp (disch:=omega) [zG28,DtState.cells,DtCatalog.cells,DtCmd.cells,oldM,e]
     repeat' first|(exfalso;omega)|(refine zc9 [] true [] (zh6 s m hs1 hmz) ?_ ?_ ?_;(focus (simp [List.range_succ,nmC];done));(focus (simp (disch:=omega) [zG28,DtState.cells,DtCatalog.cells,DtCmd.cells,oldM,e];done));simp (disch:=omega) [zG28,DtState.cells,DtCatalog.cells,DtCmd.cells,oldM,e])|(refine ⟨by omega,?_⟩)|(simp (disch:=omega) [zG28,DtState.cells,DtCatalog.cells,DtCmd.cells,oldM,e])|(intro _)
     refine hK _ ?_;clear hK K
     refine zbj ?_
     refine AW_x rfl rfl λK hK=>?_
     simp (disch:=omega) [zG28,DtState.cells,DtCatalog.cells,DtCmd.cells,oldM,e]
     repeat' first|(refine ⟨by omega,?_⟩)|(intro _)
     refine hK _ ?_;clear hK K
     refine zbi rfl (λhc2=>?_) (λhc2=>?_)
     ·try simp [zG27,zbd,zbc] at hc2
      all_goals
       refine AW_x rfl rfl λK hK=>?_
       simp (disch:=omega) [zG28,DtState.cells,DtCatalog.cells,DtCmd.cells,oldM,e]
       repeat' first|(exfalso;omega)|(refine ⟨λ_=>?_,λ_=>?_⟩)|(refine ⟨by omega,?_⟩)|(simp (disch:=omega) [zG28,DtState.cells,DtCatalog.cells,DtCmd.cells,oldM,e])|(intro _)
       all_goals (refine hK _ ?_;clear hK K)
       all_goals
        refine zbp (zb5 [] [] (by simp [zG29]) (by simp) ?_)
        simp (disch:=omega) [zG28,DtState.cells,DtCatalog.cells,DtCmd.cells,oldM,e]
        all_goals first | rfl | omega|(simp_all;done)|(rcases hxe with h | ⟨h1,h2⟩<;>simp_all<;>done) | trace_state
     ·try simp [zG27,zbd,zbc] at hc2
      all_goals
       refine zbk ?_
       refine zbo ?_
       refine zbj ?_
       refine AW_x rfl rfl λK hK=>?_
       simp (disch:=omega) [zG28,DtState.cells,DtCatalog.cells,DtCmd.cells,oldM,e]
       repeat' first|(exfalso;omega)|(refine zd5 (zbg (zbw rfl) zbm) (zcu s hs1) rfl ?_;simp (disch:=omega) [zG28,DtState.cells,DtCatalog.cells,DtCmd.cells,oldM,e])|(refine zd6 (zcu s hs1) (by rfl) ?_ ?_;(focus (simp (disch:=omega) [zG28,DtState.cells,DtCatalog.cells,DtCmd.cells,oldM,e];done));simp (disch:=omega) [zG28,DtState.cells,DtCatalog.cells,DtCmd.cells,oldM,e])|(refine zd5 (zbg (zbw rfl) zbm) (okTS hs2 hPx) rfl ?_;simp (disch:=omega) [zG28,DtState.cells,DtCatalog.cells,DtCmd.cells,oldM,e])|(refine zd6 (okTS hs2 hPx) (by rfl) ?_ ?_;(focus (simp (disch:=omega) [zG28,DtState.cells,DtCatalog.cells,DtCmd.cells,oldM,e];done));simp (disch:=omega) [zG28,DtState.cells,DtCatalog.cells,DtCmd.cells,oldM,e])|(refine ⟨λ_=>?_,λ_=>?_⟩)|(refine ⟨by omega,?_⟩)|(simp (disch:=omega) [zG28,DtState.cells,DtCatalog.cells,DtCmd.cells,oldM,e])|(intro _)
       all_goals (refine hK _ ?_;clear hK K)
       all_goals
        refine zbi rfl (λhc3=>?_) (λhc3=>?_)
        ·try simp [zG27,zbd,zbc] at hc3
         all_goals
          have ⟨e1,e2⟩:=st_f (s:=s) (m:=m) (by assumption)
          simp only [e1,e2]
          refine AW_x rfl rfl λK hK=>?_
          simp (disch:=omega) [zG28,DtState.cells,DtCatalog.cells,DtCmd.cells,oldM,e]
          repeat' first|(exfalso;omega)|(refine ⟨λ_=>?_,λ_=>?_⟩)|(refine ⟨by omega,?_⟩)|(simp (disch:=omega) [zG28,DtState.cells,DtCatalog.cells,DtCmd.cells,oldM,e])|(intro _)
          all_goals (refine hK _ ?_;clear hK K)
          all_goals
           refine zbp (zb5 [] [] (by simp [zG29]) (by simp) ?_)
           simp (disch:=omega) [zG28,DtState.cells,DtCatalog.cells,DtCmd.cells,oldM,e]
           all_goals first | rfl | omega|(simp_all;done)|(rcases hxe with h | ⟨h1,h2⟩<;>simp_all<;>done) | trace_state
        ·try simp [zG27,zbd,zbc] at hc3
         all_goals
          refine zbk ?_
          refine zbo ?_
          refine zbj ?_
          have hP:StateP s:=by assumption
          have hPx:=stC_P hP m
          refine AW_x rfl rfl λK hK=>?_
          simp (disch:=omega) [zG28,DtState.cells,DtCatalog.cells,DtCmd.cells,oldM,e]
          repeat' first|(exfalso;omega)|(refine zd5 (zbg (zbw rfl) zbm) (zcu s hs1) rfl ?_;simp (disch:=omega) [zG28,DtState.cells,DtCatalog.cells,DtCmd.cells,oldM,e])|(refine zd6 (zcu s hs1) (by rfl) ?_ ?_;(focus (simp (disch:=omega) [zG28,DtState.cells,DtCatalog.cells,DtCmd.cells,oldM,e];done));simp (disch:=omega) [zG28,DtState.cells,DtCatalog.cells,DtCmd.cells,oldM,e])|(refine zd5 (zbg (zbw rfl) zbm) (okTS hs2 hPx) rfl ?_;simp (disch:=omega) [zG28,DtState.cells,DtCatalog.cells,DtCmd.cells,oldM,e])|(refine zd6 (okTS hs2 hPx) (by rfl) ?_ ?_;(focus (simp (disch:=omega) [zG28,DtState.cells,DtCatalog.cells,DtCmd.cells,oldM,e];done));simp (disch:=omega) [zG28,DtState.cells,DtCatalog.cells,DtCmd.cells,oldM,e])|(refine ⟨λ_=>?_,λ_=>?_⟩)|(refine ⟨by omega,?_⟩)|(simp (disch:=omega) [zG28,DtState.cells,DtCatalog.cells,DtCmd.cells,oldM,e])|(intro _)
          all_goals (refine hK _ ?_;clear hK K)
          all_goals
           refine zbi rfl (λhc4=>?_) (λhc4=>?_)
           ·try simp [zG27,zbd,zbc] at hc4
            all_goals
             refine AW_x rfl rfl λK hK=>?_
             simp (disch:=omega) [zG28,DtState.cells,DtCatalog.cells,DtCmd.cells,oldM,e]
             repeat' first|(exfalso;omega)|(refine ⟨λ_=>?_,λ_=>?_⟩)|(refine ⟨by omega,?_⟩)|(simp (disch:=omega) [zG28,DtState.cells,DtCatalog.cells,DtCmd.cells,oldM,e])|(intro _)
             all_goals (refine hK _ ?_;clear hK K)
             all_goals
              refine zbp (zb5 [] [] (by simp [zG29]) (by simp) ?_)
              simp (disch:=omega) [zG28,DtState.cells,DtCatalog.cells,DtCmd.cells,oldM,e]
              all_goals first | rfl | omega|(simp_all;done)|(rcases hxe with h | ⟨h1,h2⟩<;>simp_all<;>done) | trace_state
           ·try simp [zG27,zbd,zbc] at hc4
            all_goals
             refine zbk ?_
             refine zbo ?_
             refine zbj ?_
             refine AW_x rfl rfl λK hK=>?_
             simp (disch:=omega) [zG28,DtState.cells,DtCatalog.cells,DtCmd.cells,oldM,e]
             repeat' first|(exfalso;omega)|(refine zd5 (zbg (zbw rfl) zbm) (zfg m hmz) rfl ?_;simp (disch:=omega) [zG28,DtState.cells,DtCatalog.cells,DtCmd.cells,oldM,e])|(refine zd6 (zfg m hmz) (by rfl) ?_ ?_;(focus (simp (disch:=omega) [zG28,DtState.cells,DtCatalog.cells,DtCmd.cells,oldM,e];done));simp (disch:=omega) [zG28,DtState.cells,DtCatalog.cells,DtCmd.cells,oldM,e])|(refine ⟨λ_=>?_,λ_=>?_⟩)|(refine ⟨by omega,?_⟩)|(simp (disch:=omega) [zG28,DtState.cells,DtCatalog.cells,DtCmd.cells,oldM,e])|(intro _)
             all_goals (refine hK _ ?_;clear hK K)
             all_goals
              refine zbi rfl (λhc5=>?_) (λhc5=>?_)
              ·try simp [zG27,zbd,zbc] at hc5
               all_goals
                have e1:=once_same hP hG.2 (m:=m) (by first | exact .inl (by assumption) | exact .inl (dB_f (by assumption)) | exact .inr (.inl (by assumption)) | exact .inr (.inr (show stR s m=[111,108,100] by assumption)))
                simp only [e1]
                refine AW_d rfl mix (by kernel_rfl) (by kernel_rfl) λK hK=>?_
                simp (disch:=omega) [zG28,DtState.cells,DtCatalog.cells,DtCmd.cells,oldM,e]
                repeat' first|(exfalso;omega)|(refine zfi (λst'=>(zbg (zbw rfl) zbm)) (zby (stC s m) hs2) rfl ?_;simp (disch:=omega) [zG28,DtState.cells,DtCatalog.cells,DtCmd.cells,oldM,e])|(refine zfj (zby (stC s m) hs2) (by rfl) (λst' hst=>?_) ?_;(focus (simp (disch:=omega) [zG28,DtState.cells,DtCatalog.cells,DtCmd.cells,oldM,e] at hst;simp (disch:=omega) [zG28,DtState.cells,DtCatalog.cells,DtCmd.cells,oldM,e,hst];done));simp (disch:=omega) [zG28,DtState.cells,DtCatalog.cells,DtCmd.cells,oldM,e])|(refine zfi (λst'=>(zbg (zbw rfl) zbm)) (zby s hs1) rfl ?_;simp (disch:=omega) [zG28,DtState.cells,DtCatalog.cells,DtCmd.cells,oldM,e])|(refine zfj (zby s hs1) (by rfl) (λst' hst=>?_) ?_;(focus (simp (disch:=omega) [zG28,DtState.cells,DtCatalog.cells,DtCmd.cells,oldM,e] at hst;simp (disch:=omega) [zG28,DtState.cells,DtCatalog.cells,DtCmd.cells,oldM,e,hst];done));simp (disch:=omega) [zG28,DtState.cells,DtCatalog.cells,DtCmd.cells,oldM,e])|(refine zfi (λst'=>(zbg (zbw rfl) zbm)) (zby xe hs4) rfl ?_;simp (disch:=omega) [zG28,DtState.cells,DtCatalog.cells,DtCmd.cells,oldM,e])|(refine zfj (zby xe hs4) (by rfl) (λst' hst=>?_) ?_;(focus (simp (disch:=omega) [zG28,DtState.cells,DtCatalog.cells,DtCmd.cells,oldM,e] at hst;simp (disch:=omega) [zG28,DtState.cells,DtCatalog.cells,DtCmd.cells,oldM,e,hst];done));simp (disch:=omega) [zG28,DtState.cells,DtCatalog.cells,DtCmd.cells,oldM,e])|(refine ⟨λ_=>?_,λ_=>?_⟩)|(refine ⟨by omega,?_⟩)|(simp (disch:=omega) [zG28,DtState.cells,DtCatalog.cells,DtCmd.cells,oldM,e])|(intro _)
                all_goals (refine hK _ _ (by kernel_rfl) ?_;clear hK K)
                all_goals
                 refine zbp (zb5 [] [] (by simp [zG29]) (by simp) ?_)
                 simp (disch:=omega) [zG28,DtState.cells,DtCatalog.cells,DtCmd.cells,oldM,e]
                 all_goals first | rfl | omega|(simp_all;done)|(rcases hxe with h | ⟨h1,h2⟩<;>simp_all<;>done) | trace_state
              ·try simp [zG27,zbd,zbc] at hc5
               all_goals
                refine zbk ?_
                refine zbo ?_
                have hcm:CmdP m:=by first | assumption | exact dB_t (by assumption)
                have hk0:¬m.fKind=0:=by assumption
                have hto:stR s m≠bOld:=by assumption
                have hag:=zz1 hP hG.2 hcm hk0 hto
                have hnb:=no_bd hcm hk0
                obtain ⟨xe,te,hel,hxe⟩:∃xe te,(stC (stC s m) (oldM m)=xe∧stR (stC s m) (oldM m)=te)∧(m.fNo=1∨(xe=stC s m∧te=[111,108,100])):=by by_cases h1:m.fNo=1;exact ⟨_,_,⟨rfl,rfl⟩,.inl h1⟩;exact ⟨_,_,zz2 hP hG.2 hcm hk0 hto h1,.inr ⟨rfl,rfl⟩⟩
                have hs4:DtState.sz xe≤1048576:=by rw [←hel.1];exact hs3
                refine AW_x rfl rfl λK hK=>?_
                simp (disch:=omega) [zG28,DtState.cells,DtCatalog.cells,DtCmd.cells,oldM,e]
                repeat' first|(exfalso;omega)|(refine zc9 [] true [] (zdl s m hs1 hmz) ?_ ?_ ?_;(focus (simp [List.range_succ,nmC];done));(focus (simp (disch:=omega) [zG28,DtState.cells,DtCatalog.cells,DtCmd.cells,oldM,e];done));simp (disch:=omega) [zG28,DtState.cells,DtCatalog.cells,DtCmd.cells,oldM,e])|(refine zc9 [] true [] (zgp hs2 hmz hag) ?_ ?_ ?_;(focus (simp [List.range_succ,nmC];done));(focus (simp (disch:=omega) [zG28,DtState.cells,DtCatalog.cells,DtCmd.cells,oldM,e];done));simp (disch:=omega) [zG28,DtState.cells,DtCatalog.cells,DtCmd.cells,oldM,e])|(refine zc9 [] true [] (zgq hs2 hoz xe hel) ?_ ?_ ?_;(focus (simp [List.range_succ,nmC];done));(focus (simp (disch:=omega) [zG28,DtState.cells,DtCatalog.cells,DtCmd.cells,oldM,e];done));simp (disch:=omega) [zG28,DtState.cells,DtCatalog.cells,DtCmd.cells,oldM,e])|(refine ⟨λ_=>?_,λ_=>?_⟩)|(refine ⟨by omega,?_⟩)|(simp (disch:=omega) [zG28,DtState.cells,DtCatalog.cells,DtCmd.cells,oldM,e])|(intro _)
                all_goals (refine hK _ ?_;clear hK K)
                all_goals
                 refine AW_x rfl rfl λK hK=>?_
                 simp (disch:=omega) [zG28,DtState.cells,DtCatalog.cells,DtCmd.cells,oldM,e]
                 repeat' first|(refine ⟨by omega,?_⟩)|(simp (disch:=omega) [zG28,DtState.cells,DtCatalog.cells,DtCmd.cells,oldM,e])|(intro _)
                 refine hK _ ?_;clear hK K
                 refine AW_x rfl rfl λK hK=>?_
                 simp (disch:=omega) [zG28,DtState.cells,DtCatalog.cells,DtCmd.cells,oldM,e]
                 repeat' first|(refine ⟨by omega,?_⟩)|(simp (disch:=omega) [zG28,DtState.cells,DtCatalog.cells,DtCmd.cells,oldM,e])|(intro _)
                 refine hK _ ?_;clear hK K
                 refine AW_x rfl rfl λK hK=>?_
                 simp (disch:=omega) [zG28,DtState.cells,DtCatalog.cells,DtCmd.cells,oldM,e]
                 repeat' first|(exfalso;omega)|(refine zc9 [] true [] (zdl s m hs1 hmz) ?_ ?_ ?_;(focus (simp [List.range_succ,nmC];done));(focus (simp (disch:=omega) [zG28,DtState.cells,DtCatalog.cells,DtCmd.cells,oldM,e];done));simp (disch:=omega) [zG28,DtState.cells,DtCatalog.cells,DtCmd.cells,oldM,e])|(refine zc9 [] true [] (zgp hs2 hmz hag) ?_ ?_ ?_;(focus (simp [List.range_succ,nmC];done));(focus (simp (disch:=omega) [zG28,DtState.cells,DtCatalog.cells,DtCmd.cells,oldM,e];done));simp (disch:=omega) [zG28,DtState.cells,DtCatalog.cells,DtCmd.cells,oldM,e])|(refine zc9 [] true [] (zgq hs2 hoz xe hel) ?_ ?_ ?_;(focus (simp [List.range_succ,nmC];done));(focus (simp (disch:=omega) [zG28,DtState.cells,DtCatalog.cells,DtCmd.cells,oldM,e];done));simp (disch:=omega) [zG28,DtState.cells,DtCatalog.cells,DtCmd.cells,oldM,e])|(refine ⟨by omega,?_⟩)|(simp (disch:=omega) [zG28,DtState.cells,DtCatalog.cells,DtCmd.cells,oldM,e])|(intro _)
                 refine hK _ ?_;clear hK K
                 refine AW_d rfl mix (by kernel_rfl) (by kernel_rfl) λK hK=>?_
                 simp (disch:=omega) [zG28,DtState.cells,DtCatalog.cells,DtCmd.cells,oldM,e]
                 repeat' first|(exfalso;omega)|(refine zfi (λst'=>(zbg (zbw rfl) zbm)) (zby (stC s m) hs2) rfl ?_;simp (disch:=omega) [zG28,DtState.cells,DtCatalog.cells,DtCmd.cells,oldM,e])|(refine zfj (zby (stC s m) hs2) (by rfl) (λst' hst=>?_) ?_;(focus (simp (disch:=omega) [zG28,DtState.cells,DtCatalog.cells,DtCmd.cells,oldM,e] at hst;simp (disch:=omega) [zG28,DtState.cells,DtCatalog.cells,DtCmd.cells,oldM,e,hst];done));simp (disch:=omega) [zG28,DtState.cells,DtCatalog.cells,DtCmd.cells,oldM,e])|(refine zfi (λst'=>(zbg (zbw rfl) zbm)) (zby s hs1) rfl ?_;simp (disch:=omega) [zG28,DtState.cells,DtCatalog.cells,DtCmd.cells,oldM,e])|(refine zfj (zby s hs1) (by rfl) (λst' hst=>?_) ?_;(focus (simp (disch:=omega) [zG28,DtState.cells,DtCatalog.cells,DtCmd.cells,oldM,e] at hst;simp (disch:=omega) [zG28,DtState.cells,DtCatalog.cells,DtCmd.cells,oldM,e,hst];done));simp (disch:=omega) [zG28,DtState.cells,DtCatalog.cells,DtCmd.cells,oldM,e])|(refine zfi (λst'=>(zbg (zbw rfl) zbm)) (zby xe hs4) rfl ?_;simp (disch:=omega) [zG28,DtState.cells,DtCatalog.cells,DtCmd.cells,oldM,e])|(refine zfj (zby xe hs4) (by rfl) (λst' hst=>?_) ?_;(focus (simp (disch:=omega) [zG28,DtState.cells,DtCatalog.cells,DtCmd.cells,oldM,e] at hst;simp (disch:=omega) [zG28,DtState.cells,DtCatalog.cells,DtCmd.cells,oldM,e,hst];done));simp (disch:=omega) [zG28,DtState.cells,DtCatalog.cells,DtCmd.cells,oldM,e])|(refine ⟨λ_=>?_,λ_=>?_⟩)|(refine ⟨by omega,?_⟩)|(simp (disch:=omega) [zG28,DtState.cells,DtCatalog.cells,DtCmd.cells,oldM,e])|(intro _)
                 all_goals (refine hK _ _ (by kernel_rfl) ?_;clear hK K)
                 all_goals
                  refine zbp (zb5 [] [] (by simp [zG29]) (by simp) ?_)
                  simp (disch:=omega) [zG28,DtState.cells,DtCatalog.cells,DtCmd.cells,oldM,e]
                  all_goals first | rfl | omega|(simp_all;done)|(rcases hxe with h | ⟨h1,h2⟩<;>simp_all<;>done) | trace_state
 ·have e:1048576<l.length:=by omega
  refine zbt Try.func3 (by rfl) (by rfl) (by rw [Try.ntmps3];exact Nat.le_of_ble_eq_true rfl) rfl (by simp) rfl rfl ?_
  rw [Try.ntmps3]
  refine zhm   ?_
  refine AW_k [(0,_)] ⟨rfl,trivial⟩ ?_
  refine AW_x rfl rfl λK hK=>?_
  simp (disch:=omega) [zG26,e]
  repeat' first|(refine ⟨by omega,?_⟩)|(intro _)
  refine hK _ ?_;clear hK K
  refine zbj ?_
  refine AW_x rfl rfl λK hK=>?_
  simp (disch:=omega) [zG26,e]
  repeat' first|(exfalso;omega)|(refine zd5 (zbg zf8 zbm) (zqu l hw) rfl ?_;simp (disch:=omega) [zG26,e])|(refine zd6 (zqu l hw) (by rfl) ?_ ?_;(focus (simp (disch:=omega) [zG26,e,zbe];done));simp (disch:=omega) [zG26,e])|(refine ⟨by omega,?_⟩)|(simp (disch:=omega) [zG26,e])|(intro _)
  refine hK _ ?_;clear hK K
  refine zbi rfl (λhc6=>?_) (λhc6=>?_)
  ·try simp [zG27,zbd,zbc] at hc6
   all_goals
    refine AW_x rfl rfl λK hK=>?_
    simp (disch:=omega) [zG26,e]
    repeat' first|(exfalso;omega)|(refine ⟨λ_=>?_,λ_=>?_⟩)|(refine ⟨by omega,?_⟩)|(simp (disch:=omega) [zG26,e])|(intro _)
    all_goals (refine hK _ ?_;clear hK K)
    all_goals
     refine zbp (zb5 [] [] (by simp [zG29]) (by simp) ?_)
     simp (disch:=omega) [zG26,e]
     all_goals first | rfl | omega|(simp_all;done) | trace_state
  ·try simp [zG27,zbd,zbc] at hc6
   all_goals
    refine zbk ?_
    refine zbo ?_
    refine AW_x rfl rfl λK hK=>?_
    simp (disch:=omega) [zG26,e]
    repeat' first|(exfalso;omega)|(refine zt3 [] false [] (zne l hl) ?_ ?_ ?_;(focus (simp [List.range_succ,nmC];done));(focus (simp (disch:=omega) [zG26,e,zbe];done));rintro _ _ _ ⟨s,m,hG,hm,rfl,rfl,rfl⟩;refine ⟨⟨by first | rfl|(simp;done),by first | rfl|(simp;done)⟩,?_⟩;simp (disch:=omega) [zG26,e])|(refine ⟨λ_=>?_,λ_=>?_⟩)|(refine ⟨by omega,?_⟩)|(simp (disch:=omega) [zG26,e])|(intro _)
    all_goals (refine hK _ ?_;clear hK K)
    all_goals
     refine AW_x rfl rfl λK hK=>?_
     simp (disch:=omega) [zG26,e]
     repeat' first|(exfalso;omega)|(refine zc9 [] true [] (zdl s m hs1 hmz) ?_ ?_ ?_;(focus (simp [List.range_succ,nmC];done));(focus (simp (disch:=omega) [zG26,e,zbe];done));simp (disch:=omega) [zG26,e])|(refine zc9 [] true [] (zgp hs2 hmz hag) ?_ ?_ ?_;(focus (simp [List.range_succ,nmC];done));(focus (simp (disch:=omega) [zG26,e,zbe];done));simp (disch:=omega) [zG26,e])|(refine zc9 [] true [] (zgq hs2 hoz xe hel) ?_ ?_ ?_;(focus (simp [List.range_succ,nmC];done));(focus (simp (disch:=omega) [zG26,e,zbe];done));simp (disch:=omega) [zG26,e])|(refine ⟨by omega,?_⟩)|(simp (disch:=omega) [zG26,e])|(intro _)
     refine hK _ ?_;clear hK K
     refine AW_x rfl rfl λK hK=>?_
     simp (disch:=omega) [zG26,e]
     repeat' first|(exfalso;omega)|(refine zc9 [] true [] (zh6 s m hs1 hmz) ?_ ?_ ?_;(focus (simp [List.range_succ,nmC];done));(focus (simp (disch:=omega) [zG26,e,zbe];done));simp (disch:=omega) [zG26,e])|(refine ⟨by omega,?_⟩)|(simp (disch:=omega) [zG26,e])|(intro _)
     refine hK _ ?_;clear hK K
     refine zbj ?_
     refine AW_x rfl rfl λK hK=>?_
     simp (disch:=omega) [zG26,e]
     repeat' first|(refine ⟨by omega,?_⟩)|(intro _)
     refine hK _ ?_;clear hK K
     refine zbi rfl (λhc7=>?_) (λhc7=>?_)
     ·try simp [zG27,zbd,zbc] at hc7
      all_goals
       refine AW_x rfl rfl λK hK=>?_
       simp (disch:=omega) [zG26,e]
       repeat' first|(exfalso;omega)|(refine ⟨λ_=>?_,λ_=>?_⟩)|(refine ⟨by omega,?_⟩)|(simp (disch:=omega) [zG26,e])|(intro _)
       all_goals (refine hK _ ?_;clear hK K)
       all_goals
        refine zbp (zb5 [] [] (by simp [zG29]) (by simp) ?_)
        simp (disch:=omega) [zG26,e]
        all_goals first | rfl | omega|(simp_all;done) | trace_state
     ·try simp [zG27,zbd,zbc] at hc7
      all_goals
       refine zbk ?_
       refine zbo ?_
       refine zbj ?_
       refine AW_x rfl rfl λK hK=>?_
       simp (disch:=omega) [zG26,e]
       repeat' first|(exfalso;omega)|(refine zd5 (zbg (zbw rfl) zbm) (zcu s hs1) rfl ?_;simp (disch:=omega) [zG26,e])|(refine zd6 (zcu s hs1) (by rfl) ?_ ?_;(focus (simp (disch:=omega) [zG26,e,zbe];done));simp (disch:=omega) [zG26,e])|(refine zd5 (zbg (zbw rfl) zbm) (okTS hs2 hPx) rfl ?_;simp (disch:=omega) [zG26,e])|(refine zd6 (okTS hs2 hPx) (by rfl) ?_ ?_;(focus (simp (disch:=omega) [zG26,e,zbe];done));simp (disch:=omega) [zG26,e])|(refine ⟨λ_=>?_,λ_=>?_⟩)|(refine ⟨by omega,?_⟩)|(simp (disch:=omega) [zG26,e])|(intro _)
       all_goals (refine hK _ ?_;clear hK K)
       all_goals
        refine zbi rfl (λhc8=>?_) (λhc8=>?_)
        ·try simp [zG27,zbd,zbc] at hc8
         all_goals
          refine AW_x rfl rfl λK hK=>?_
          simp (disch:=omega) [zG26,e]
          repeat' first|(exfalso;omega)|(refine ⟨λ_=>?_,λ_=>?_⟩)|(refine ⟨by omega,?_⟩)|(simp (disch:=omega) [zG26,e])|(intro _)
          all_goals (refine hK _ ?_;clear hK K)
          all_goals
           refine zbp (zb5 [] [] (by simp [zG29]) (by simp) ?_)
           simp (disch:=omega) [zG26,e]
           all_goals first | rfl | omega|(simp_all;done) | trace_state
        ·try simp [zG27,zbd,zbc] at hc8
         all_goals
          refine zbk ?_
          refine zbo ?_
          refine zbj ?_
          refine AW_x rfl rfl λK hK=>?_
          simp (disch:=omega) [zG26,e]
          repeat' first|(exfalso;omega)|(refine zd5 (zbg (zbw rfl) zbm) (zcu s hs1) rfl ?_;simp (disch:=omega) [zG26,e])|(refine zd6 (zcu s hs1) (by rfl) ?_ ?_;(focus (simp (disch:=omega) [zG26,e,zbe];done));simp (disch:=omega) [zG26,e])|(refine zd5 (zbg (zbw rfl) zbm) (okTS hs2 hPx) rfl ?_;simp (disch:=omega) [zG26,e])|(refine zd6 (okTS hs2 hPx) (by rfl) ?_ ?_;(focus (simp (disch:=omega) [zG26,e,zbe];done));simp (disch:=omega) [zG26,e])|(refine ⟨λ_=>?_,λ_=>?_⟩)|(refine ⟨by omega,?_⟩)|(simp (disch:=omega) [zG26,e])|(intro _)
          all_goals (refine hK _ ?_;clear hK K)
          all_goals
           refine zbi rfl (λhc9=>?_) (λhc9=>?_)
           ·try simp [zG27,zbd,zbc] at hc9
            all_goals
             refine AW_x rfl rfl λK hK=>?_
             simp (disch:=omega) [zG26,e]
             repeat' first|(exfalso;omega)|(refine ⟨λ_=>?_,λ_=>?_⟩)|(refine ⟨by omega,?_⟩)|(simp (disch:=omega) [zG26,e])|(intro _)
             all_goals (refine hK _ ?_;clear hK K)
             all_goals
              refine zbp (zb5 [] [] (by simp [zG29]) (by simp) ?_)
              simp (disch:=omega) [zG26,e]
              all_goals first | rfl | omega|(simp_all;done) | trace_state
           ·try simp [zG27,zbd,zbc] at hc9
            all_goals
             refine zbk ?_
             refine zbo ?_
             refine zbj ?_
             refine AW_x rfl rfl λK hK=>?_
             simp (disch:=omega) [zG26,e]
             repeat' first|(exfalso;omega)|(refine zd5 (zbg (zbw rfl) zbm) (zfg m hmz) rfl ?_;simp (disch:=omega) [zG26,e])|(refine zd6 (zfg m hmz) (by rfl) ?_ ?_;(focus (simp (disch:=omega) [zG26,e,zbe];done));simp (disch:=omega) [zG26,e])|(refine ⟨λ_=>?_,λ_=>?_⟩)|(refine ⟨by omega,?_⟩)|(simp (disch:=omega) [zG26,e])|(intro _)
             all_goals (refine hK _ ?_;clear hK K)
             all_goals
              refine zbi rfl (λhc10=>?_) (λhc10=>?_)
              ·try simp [zG27,zbd,zbc] at hc10
               all_goals
                refine AW_d rfl mix (by kernel_rfl) (by kernel_rfl) λK hK=>?_
                simp (disch:=omega) [zG26,e]
                repeat' first|(exfalso;omega)|(refine zfi (λst'=>(zbg (zbw rfl) zbm)) (zby (stC s m) hs2) rfl ?_;simp (disch:=omega) [zG26,e])|(refine zfj (zby (stC s m) hs2) (by rfl) (λst' hst=>?_) ?_;(focus (simp (disch:=omega) [zG26,e] at hst;simp (disch:=omega) [zG26,e,hst,zbe];done));simp (disch:=omega) [zG26,e])|(refine zfi (λst'=>(zbg (zbw rfl) zbm)) (zby s hs1) rfl ?_;simp (disch:=omega) [zG26,e])|(refine zfj (zby s hs1) (by rfl) (λst' hst=>?_) ?_;(focus (simp (disch:=omega) [zG26,e] at hst;simp (disch:=omega) [zG26,e,hst,zbe];done));simp (disch:=omega) [zG26,e])|(refine zfi (λst'=>(zbg (zbw rfl) zbm)) (zby xe hs4) rfl ?_;simp (disch:=omega) [zG26,e])|(refine zfj (zby xe hs4) (by rfl) (λst' hst=>?_) ?_;(focus (simp (disch:=omega) [zG26,e] at hst;simp (disch:=omega) [zG26,e,hst,zbe];done));simp (disch:=omega) [zG26,e])|(refine ⟨λ_=>?_,λ_=>?_⟩)|(refine ⟨by omega,?_⟩)|(simp (disch:=omega) [zG26,e])|(intro _)
                all_goals (refine hK _ _ (by kernel_rfl) ?_;clear hK K)
                all_goals
                 refine zbp (zb5 [] [] (by simp [zG29]) (by simp) ?_)
                 simp (disch:=omega) [zG26,e]
                 all_goals first | rfl | omega|(simp_all;done) | trace_state
              ·try simp [zG27,zbd,zbc] at hc10
               all_goals
                refine zbk ?_
                refine zbo ?_
                refine AW_x rfl rfl λK hK=>?_
                simp (disch:=omega) [zG26,e]
                repeat' first|(exfalso;omega)|(refine zc9 [] true [] (zdl s m hs1 hmz) ?_ ?_ ?_;(focus (simp [List.range_succ,nmC];done));(focus (simp (disch:=omega) [zG26,e,zbe];done));simp (disch:=omega) [zG26,e])|(refine zc9 [] true [] (zgp hs2 hmz hag) ?_ ?_ ?_;(focus (simp [List.range_succ,nmC];done));(focus (simp (disch:=omega) [zG26,e,zbe];done));simp (disch:=omega) [zG26,e])|(refine zc9 [] true [] (zgq hs2 hoz xe hel) ?_ ?_ ?_;(focus (simp [List.range_succ,nmC];done));(focus (simp (disch:=omega) [zG26,e,zbe];done));simp (disch:=omega) [zG26,e])|(refine ⟨λ_=>?_,λ_=>?_⟩)|(refine ⟨by omega,?_⟩)|(simp (disch:=omega) [zG26,e])|(intro _)
                all_goals (refine hK _ ?_;clear hK K)
                all_goals
                 refine AW_x rfl rfl λK hK=>?_
                 simp (disch:=omega) [zG26,e]
                 repeat' first|(refine ⟨by omega,?_⟩)|(simp (disch:=omega) [zG26,e])|(intro _)
                 refine hK _ ?_;clear hK K
                 refine AW_x rfl rfl λK hK=>?_
                 simp (disch:=omega) [zG26,e]
                 repeat' first|(refine ⟨by omega,?_⟩)|(simp (disch:=omega) [zG26,e])|(intro _)
                 refine hK _ ?_;clear hK K
                 refine AW_x rfl rfl λK hK=>?_
                 simp (disch:=omega) [zG26,e]
                 repeat' first|(exfalso;omega)|(refine zc9 [] true [] (zdl s m hs1 hmz) ?_ ?_ ?_;(focus (simp [List.range_succ,nmC];done));(focus (simp (disch:=omega) [zG26,e,zbe];done));simp (disch:=omega) [zG26,e])|(refine zc9 [] true [] (zgp hs2 hmz hag) ?_ ?_ ?_;(focus (simp [List.range_succ,nmC];done));(focus (simp (disch:=omega) [zG26,e,zbe];done));simp (disch:=omega) [zG26,e])|(refine zc9 [] true [] (zgq hs2 hoz xe hel) ?_ ?_ ?_;(focus (simp [List.range_succ,nmC];done));(focus (simp (disch:=omega) [zG26,e,zbe];done));simp (disch:=omega) [zG26,e])|(refine ⟨by omega,?_⟩)|(simp (disch:=omega) [zG26,e])|(intro _)
                 refine hK _ ?_;clear hK K
                 refine AW_d rfl mix (by kernel_rfl) (by kernel_rfl) λK hK=>?_
                 simp (disch:=omega) [zG26,e]
                 repeat' first|(exfalso;omega)|(refine zfi (λst'=>(zbg (zbw rfl) zbm)) (zby (stC s m) hs2) rfl ?_;simp (disch:=omega) [zG26,e])|(refine zfj (zby (stC s m) hs2) (by rfl) (λst' hst=>?_) ?_;(focus (simp (disch:=omega) [zG26,e] at hst;simp (disch:=omega) [zG26,e,hst,zbe];done));simp (disch:=omega) [zG26,e])|(refine zfi (λst'=>(zbg (zbw rfl) zbm)) (zby s hs1) rfl ?_;simp (disch:=omega) [zG26,e])|(refine zfj (zby s hs1) (by rfl) (λst' hst=>?_) ?_;(focus (simp (disch:=omega) [zG26,e] at hst;simp (disch:=omega) [zG26,e,hst,zbe];done));simp (disch:=omega) [zG26,e])|(refine zfi (λst'=>(zbg (zbw rfl) zbm)) (zby xe hs4) rfl ?_;simp (disch:=omega) [zG26,e])|(refine zfj (zby xe hs4) (by rfl) (λst' hst=>?_) ?_;(focus (simp (disch:=omega) [zG26,e] at hst;simp (disch:=omega) [zG26,e,hst,zbe];done));simp (disch:=omega) [zG26,e])|(refine ⟨λ_=>?_,λ_=>?_⟩)|(refine ⟨by omega,?_⟩)|(simp (disch:=omega) [zG26,e])|(intro _)
                 all_goals (refine hK _ _ (by kernel_rfl) ?_;clear hK K)
                 all_goals
                  refine zbp (zb5 [] [] (by simp [zG29]) (by simp) ?_)
                  simp (disch:=omega) [zG26,e]
                  all_goals first | rfl | omega|(simp_all;done) | trace_state
theorem lawOnce(l:List Int)(hw:wfS wfU8 l):PCall Try.prog 3 [.sl 1 (l.map cU)] (.g (.bool (true))):=zzg (lawOnceX l (by have:=hw.1;omega))
end Go.Proofs.Ytodmafgmdlkhoaa.Vs
end
