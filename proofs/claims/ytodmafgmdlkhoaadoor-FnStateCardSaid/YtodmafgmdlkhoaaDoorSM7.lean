import Derived.Test.YtodmafgmdlkhoaaDoorSM6
import Derived.Test.YtodmafgmdlkhoaaDoorSM5
section
namespace Go.Proofs.YtodmafgmdlkhoaaDoor.Vs
set_option linter.all false
set_option maxRecDepth 100000
def catM{α:Type}(f:α→List UInt8)(l:List α):List UInt8:=(l.map f).flatten
theorem zcz{α:Type}(f:α→List UInt8):catM f []=[]:=rfl
theorem zd7{α:Type}(f:α→List UInt8)(l:List α)(i:Nat)(h:i<l.length):catM f (l.take (i+1))=catM f (l.take i)++f l[i]:=by
 induction l generalizing i with
 | nil=>simp at h
 | cons x xs ih =>
  cases i with
  | zero=>simp [catM]
  | succ i =>
   have:=ih i (by simpa using h)
   simp only [catM,List.take_succ_cons,List.map_cons,List.flatten_cons,List.getElem_cons_succ,List.append_assoc] at this ⊢
   rw [this]
theorem zd4{α:Type}(f:α→List UInt8)(B:Nat):∀(l:List α),(∀x∈l,(f x).length≤B)→(catM f l).length≤l.length*B
 | [],_=>by simp [catM]
 | x :: xs,h=>by
  have h1:=zd4 f B xs λy hy=>h y (by simp [hy])
  have h2:=h x (by simp)
  simp only [catM,List.map_cons,List.flatten_cons,List.length_append,List.length_cons] at h1 ⊢
  rw [Nat.succ_mul];omega
theorem zg8{α:Type}(f:α→List UInt8)(B:Nat)(l:List α)(h:∀x∈l,(f x).length≤B)(i:Nat):(catM f (l.take i)).length≤l.length*B:=by
 have h1:=zd4 f B (l.take i) λx hx=>h x (List.mem_of_mem_take hx)
 have h2:(l.take i).length≤l.length:=by simp;omega
 exact Nat.le_trans h1 (Nat.mul_le_mul_right _ h2)
theorem zck(s:List UInt8):(piece s).length≤7+s.length:=by
 have:=zcf s.length
 unfold piece;simp;omega
def showSnap(p:DtCSnap):List UInt8:=piece p.fName++(piece p.fTag++(varZ p.fChunks.length++catM piece p.fChunks))
def showSet(s:DtCSet):List UInt8:=piece s.fName++(varZ s.fSnaps.length++catM showSnap s.fSnaps)
def showSaid(x:DtSaid):List UInt8:=varZ x.fClient++(varZ x.fNo++piece x.fText)
def showSt(s:DtState):List UInt8:=varZ s.fCat.fSets.length++(catM showSet s.fCat.fSets++(varZ s.fSaid.length++catM showSaid s.fSaid))
noncomputable def showState(s:DtState):List UInt8:=bif decB (StateP s) then showSt s else []
theorem zkk{α:Type}{l:List α}{x:α}(h:x∈l):∃i:Nat,l[i]? = some x:=List.getElem?_of_mem h
theorem zh0{p:DtCSnap}(h:SnapP p):p.fName.length≤8∧p.fTag.length≤8∧p.fChunks.length≤4∧(∀x∈p.fChunks,x.length=8)∧(showSnap p).length≤97:=by
 obtain ⟨h1,h2,h3,h4,h5⟩:=h
 have a1:p.fName.length≤8:=h1.2.1
 have a2:p.fTag.length≤8:=by rcases h2 with h | h;simp [h];exact h.2.1
 have a3:∀x∈p.fChunks,x.length=8:=by intro x hx;obtain ⟨i,hi⟩:=zkk hx;exact h5 i x hi
 refine ⟨a1,a2,h4,a3,?_⟩
 have b1:=zck p.fName
 have b2:=zck p.fTag
 have b3:=zcf p.fChunks.length
 have b4:=zd4 piece 15 p.fChunks (λx hx=>by have:=zck x;have:=a3 x hx;omega)
 unfold showSnap
 simp only [List.length_append]
 omega
theorem zhs{s:DtCSet}(h:SetP s):s.fName.length≤8∧s.fSnaps.length≤5∧(∀p∈s.fSnaps,SnapP p)∧(showSet s).length≤507:=by
 obtain ⟨h1,h2,h3⟩:=h
 have a3:∀p∈s.fSnaps,SnapP p:=by intro p hp;obtain ⟨i,hi⟩:=zkk hp;exact (h3 i p hi).1
 refine ⟨h1.2.1,h2,a3,?_⟩
 have b1:=zck s.fName
 have b2:=h1.2.1
 have b3:=zcf s.fSnaps.length
 have b4:=zd4 showSnap 97 s.fSnaps (λp hp=>(zh0 (a3 p hp)).2.2.2.2)
 unfold showSet
 simp only [List.length_append]
 omega
theorem said_bd{x:DtSaid}(h:x.fText.length≤1048576):(showSaid x).length≤1048597:=by
 have b1:=zck x.fText
 have b2:=zcf x.fClient
 have b3:=zcf x.fNo
 unfold showSaid
 simp only [List.length_append]
 omega
theorem saidSz(s:DtState)(hs:DtState.sz s≤1048576):s.fSaid.length≤1048576∧∀x∈s.fSaid,x.fText.length≤1048576:=by
 have h0:=zb9 DtSaid.sz_nonneg s.fSaid
 have h1:=DtCatalog.sz_nonneg s.fCat
 simp only [DtState.sz,szS] at hs
 refine ⟨by omega,λx hx=>?_⟩
 have h2:=zda DtSaid.sz_nonneg s.fSaid x hx
 simp only [DtSaid.sz] at h2
 omega
def zG22:=And.intro @zcj (And.intro @gE @tP)
def zG23:=And.intro @zce (And.intro @zbj @zbr)
theorem l26Texts(xs:List (List UInt8))(h4:xs.length≤4)(h8:∀x∈xs,x.length=8):PCall Tryd.prog 31 [.sl 1 (xs.map cS)] (.s (catM piece xs)):=by
 refine zbp Tryd.func31 (by rfl) (by rfl) (by rw [Tryd.ntmps31];exact Nat.le_of_ble_eq_true rfl) rfl (by decide) ?_
 rw [Tryd.ntmps31]
 refine AW_k [(0,_)] ⟨rfl,trivial⟩ ?_
 refine AW_r rfl rfl λK hK=>?_
 simp (disch:=omega) [zG22]
 refine hK _ ?_;clear hK K
 refine AW_r rfl rfl λK hK=>?_
 simp (disch:=omega) [zG22]
 refine hK _ ?_;clear hK K
 refine zbe ?_
 refine AW_r rfl rfl λK hK=>?_
 simp (disch:=omega) [zG22]
 refine hK _ ?_;clear hK K
 refine zbi ?_
 refine zbt (λmM sS=>∃(i:Nat),mM=xs.length-i∧(i≤xs.length)∧sS = { env:=lkE [(0,.sl 1 (xs.map cS)),(3,.s (catM piece (xs.take i))),(4,(.g (.int .i64 ((i:Nat)))))],ob:=formOb [] [] }) ?_ ?_
 ·refine ⟨_,LeS.kp [(0,.sl 1 (xs.map cS)),(3,.s (catM piece (xs.take (0)))),(4,(.g (.int .i64 (((0):Nat)))))] (by simp [zG23,KpE];try simp [zcz]),_,0,rfl,?_,rfl⟩
  ·simp
 ·rintro mM sS ⟨i,rfl,hi,rfl⟩
  have hj:=zg8 piece 15 xs (λx hx=>by have:=zck x;have:=h8 x hx;omega) i
  refine zbe ?_
  refine AW_r rfl rfl λK hK=>?_
  simp (disch:=omega) [zG22,cS]
  refine hK _ ?_;clear hK K
  refine zbg rfl (λhc1=>?_) (λhc1=>?_)
  ·try simp [zbk,zbl,zbc,zba] at hc1
   have hst:=zd7 piece xs i (by omega)
   have hx8:=h8 _ (List.getElem_mem (n:=i) (h:=by omega))
   have hp8:=zck xs[i]
   refine zbh ?_
   refine zbm ?_
   refine zbe ?_
   refine zbi ?_
   refine zc6 rfl rfl λK hK=>?_
   simp (disch:=omega) [zG22,cS]
   repeat' first|(refine zci (zbf zd9 zbn) (zqn _ (by omega)) rfl ?_;simp (disch:=omega) [zG22,cS])|(refine ⟨by omega,?_⟩) | fail
   refine hK _ ?_;clear hK K
   refine zbm ?_
   refine zc6 rfl rfl λK hK=>?_
   simp (disch:=omega) [zG22,cS]
   refine hK _ ?_;clear hK K
   refine ⟨_,LeS.kp [(0,.sl 1 (xs.map cS)),(3,.s (catM piece (xs.take (i+1)))),(4,(.g (.int .i64 (((i+1):Nat)))))] (by simp [zG23,KpE];try simp [hst,zcz]),_,?_,i+1,rfl,?_,rfl⟩
   ·omega
   ·omega
  ·try simp [zbk,zbl,zbc,zba] at hc1
   have hi2:i=xs.length:=by omega
   subst hi2
   simp only [List.take_length] at *
   refine zbw ?_
   refine zbm ?_
   refine AW_r rfl rfl λK hK=>?_
   simp (disch:=omega) [zG22,cS]
   refine hK _ ?_;clear hK K
   refine zbo (zcc ?_)
   simp (disch:=omega) [zG22,cS]
def zG24:=And.intro @zbr (And.intro @zbz @zce)
theorem zfe(s:DtState)(hs:DtState.sz s≤1048576):PCall Tryd.prog 10 [.agg (DtState.cells s)] (.s (showState s)):=by
 have ⟨hz,hl⟩:=zkg s hs
 obtain ⟨-,hT⟩:=saidSz s hs
 by_cases hP:StateP s
 ·have hS:∀x∈s.fCat.fSets,SetP x:=by intro x hx;obtain ⟨i,hi⟩:=zkk hx;exact (hP.1.2 i x hi).1
  have h5:s.fCat.fSets.length≤5:=hP.1.1
  have hd:=zcl hP
  have hm:s.fSaid.length*1048597≤1048576*1048597:=Nat.mul_le_mul_right _ hl
  have v1:=zcf s.fCat.fSets.length
  have v2:=zcf s.fSaid.length
  have v3:=zd4 showSet 507 s.fCat.fSets (λx hx=>(zhs (hS x hx)).2.2.2)
  refine zbp Tryd.func10 (by rfl) (by rfl) (by rw [Tryd.ntmps10];exact Nat.le_of_ble_eq_true rfl) rfl (by decide) ?_
  rw [Tryd.ntmps10]
  refine AW_k [(0,_)] ⟨rfl,trivial⟩ ?_
  refine AW_r rfl rfl λK hK=>?_
  simp (disch:=omega) [zG22,DtState.cells,DtCatalog.cells,DtCSet.cells,DtCSnap.cells,DtSaid.cells,hd]
  refine hK _ ?_;clear hK K
  refine zbe ?_
  refine AW_r rfl rfl λK hK=>?_
  simp (disch:=omega) [zG22,DtState.cells,DtCatalog.cells,DtCSet.cells,DtCSnap.cells,DtSaid.cells,hd]
  repeat' first|(refine zci (zbf (zcn rfl) zbn) (zdz _ (by omega)) rfl ?_;simp (disch:=omega) [zG22,DtState.cells,DtCatalog.cells,DtCSet.cells,DtCSnap.cells,DtSaid.cells,hd]) | fail
  refine hK _ ?_;clear hK K
  refine zbg rfl (λhc2=>?_) (λhc2=>?_)
  ·try simp [zbk,zbl,zbc,zba] at hc2
  ·try simp [zbk,zbl,zbc,zba] at hc2
   refine zbh ?_
   refine zbm ?_
   refine AW_r rfl rfl λK hK=>?_
   simp (disch:=omega) [zG22,DtState.cells,DtCatalog.cells,DtCSet.cells,DtCSnap.cells,DtSaid.cells,hd]
   repeat' first|(refine zci (zbf zcb zbn) (zhy _) rfl ?_;simp (disch:=omega) [zG22,DtState.cells,DtCatalog.cells,DtCSet.cells,DtCSnap.cells,DtSaid.cells,hd]) | fail
   refine hK _ ?_;clear hK K
   refine zbe ?_
   refine AW_r rfl rfl λK hK=>?_
   simp (disch:=omega) [zG22,DtState.cells,DtCatalog.cells,DtCSet.cells,DtCSnap.cells,DtSaid.cells,hd]
   refine hK _ ?_;clear hK K
   refine zbi ?_
   refine zbt (λmM sS=>∃(i:Nat),mM=s.fCat.fSets.length-i∧(i≤s.fCat.fSets.length)∧sS = { env:=lkE [(1,.ptr 32 0),(3,.s (varZ s.fCat.fSets.length++catM showSet (s.fCat.fSets.take i))),(4,(.g (.int .i64 ((i:Nat)))))],ob:=lk [(32,.cells (DtState.cells s))] }) ?_ ?_
   ·refine ⟨_,LeS.ko [(1,.ptr 32 0),(3,.s (varZ s.fCat.fSets.length++catM showSet (s.fCat.fSets.take (0)))),(4,(.g (.int .i64 (((0):Nat)))))] [(32,.cells (DtState.cells s))] (by simp [zG23,KpE,DtState.cells,DtCatalog.cells,DtCSet.cells,DtCSnap.cells];try simp [zcz]) (by simp [zG24,KpO,zb5,DtState.cells,DtCatalog.cells,DtCSet.cells,DtCSnap.cells]) (by rfl) (by simp) (by rfl),_,0,rfl,?_,rfl⟩
    ·simp
   ·rintro mM sS ⟨i,rfl,hi,rfl⟩
    have hb1:=zg8 showSet 507 s.fCat.fSets (λx hx=>(zhs (hS x hx)).2.2.2) i
    refine zbe ?_
    refine AW_r rfl rfl λK hK=>?_
    simp (disch:=omega) [zG22,DtState.cells,DtCatalog.cells,DtCSet.cells,DtCSnap.cells,DtSaid.cells,hd]
    refine hK _ ?_;clear hK K
    refine zbg rfl (λhc3=>?_) (λhc3=>?_)
    ·try simp [zbk,zbl,zbc,zba] at hc3
     have hst:=zd7 showSet s.fCat.fSets i (by omega)
     have ⟨e1,e2,e3,e4⟩:=zhs (hS _ (List.getElem_mem (n:=i) (h:=by omega)))
     have e5:=zck (s.fCat.fSets[i]).fName
     have e6:=zcf (s.fCat.fSets[i]).fSnaps.length
     refine zbh ?_
     refine zbm ?_
     refine zbe ?_
     refine zbi ?_
     refine AW_r rfl rfl λK hK=>?_
     simp (disch:=omega) [zG22,DtState.cells,DtCatalog.cells,DtCSet.cells,DtCSnap.cells,DtSaid.cells,hd]
     repeat' first|(refine ⟨by omega,?_⟩) | fail
     refine hK _ ?_;clear hK K
     refine AW_q rfl mix (by kernel_rfl) rfl λK hK=>?_
     simp (disch:=omega) [zG22,DtState.cells,DtCatalog.cells,DtCSet.cells,DtCSnap.cells,DtSaid.cells,hd]
     repeat' first|(refine zci (zbf zd9 zbn) (zqn _ (by omega)) rfl ?_;simp (disch:=omega) [zG22,DtState.cells,DtCatalog.cells,DtCSet.cells,DtCSnap.cells,DtSaid.cells,hd])|(refine zci (zbf zcb zbn) (zhy _) rfl ?_;simp (disch:=omega) [zG22,DtState.cells,DtCatalog.cells,DtCSet.cells,DtCSnap.cells,DtSaid.cells,hd])|(refine ⟨by omega,?_⟩) | fail
     refine hK _ ?_;clear hK K
     refine AW_r rfl rfl λK hK=>?_
     simp (disch:=omega) [zG22,DtState.cells,DtCatalog.cells,DtCSet.cells,DtCSnap.cells,DtSaid.cells,hd]
     refine hK _ ?_;clear hK K
     refine zbi ?_
     refine zbt (λmM sS=>∃(k:Nat),mM=(s.fCat.fSets[i]).fSnaps.length-k∧(k≤(s.fCat.fSets[i]).fSnaps.length)∧sS = { env:=lkE [(1,.ptr 32 0),(3,.s (varZ s.fCat.fSets.length++(catM showSet (s.fCat.fSets.take i)++(piece (s.fCat.fSets[i]).fName++(varZ (s.fCat.fSets[i]).fSnaps.length++catM showSnap ((s.fCat.fSets[i]).fSnaps.take k)))))),(4,(.g (.int .i64 ((i:Nat))))),(5,.ptr 96 0),(6,(.g (.int .i64 ((k:Nat)))))],ob:=lk [(32,.cells (DtState.cells s)),(96,.cells (DtCSet.cells s.fCat.fSets[i]))] }) ?_ ?_
     ·refine ⟨_,LeS.ko [(1,.ptr 32 0),(3,.s (varZ s.fCat.fSets.length++(catM showSet (s.fCat.fSets.take i)++(piece (s.fCat.fSets[i]).fName++(varZ (s.fCat.fSets[i]).fSnaps.length++catM showSnap ((s.fCat.fSets[i]).fSnaps.take (0))))))),(4,(.g (.int .i64 ((i:Nat))))),(5,.ptr 96 0),(6,(.g (.int .i64 (((0):Nat)))))] [(32,.cells (DtState.cells s)),(96,.cells (DtCSet.cells s.fCat.fSets[i]))] (by simp [zG23,KpE,DtState.cells,DtCatalog.cells,DtCSet.cells,DtCSnap.cells];try simp [zcz]) (by simp [zG24,KpO,zb5,DtState.cells,DtCatalog.cells,DtCSet.cells,DtCSnap.cells]) (by rfl) (by simp) (by rfl),_,0,rfl,?_,rfl⟩
      ·simp
     ·rintro mM sS ⟨k,rfl,hk,rfl⟩
      have hb2:=zg8 showSnap 97 (s.fCat.fSets[i]).fSnaps (λp hp=>(zh0 (e3 p hp)).2.2.2.2) k
      refine zbe ?_
      refine AW_r rfl rfl λK hK=>?_
      simp (disch:=omega) [zG22,DtState.cells,DtCatalog.cells,DtCSet.cells,DtCSnap.cells,DtSaid.cells,hd]
      refine hK _ ?_;clear hK K
      refine zbg rfl (λhc4=>?_) (λhc4=>?_)
      ·try simp [zbk,zbl,zbc,zba] at hc4
       have hsp:=zd7 showSnap (s.fCat.fSets[i]).fSnaps k (by omega)
       have ⟨f1,f2,f3,f4,f5⟩:=zh0 (e3 _ (List.getElem_mem (n:=k) (h:=by omega)))
       have f6:=zck ((s.fCat.fSets[i]).fSnaps[k]).fName
       have f7:=zck ((s.fCat.fSets[i]).fSnaps[k]).fTag
       have f8:=zcf ((s.fCat.fSets[i]).fSnaps[k]).fChunks.length
       have f9:=zd4 piece 15 ((s.fCat.fSets[i]).fSnaps[k]).fChunks (λx hx=>by have:=zck x;have:=f4 x hx;omega)
       refine zbh ?_
       refine zbm ?_
       refine zbe ?_
       refine zbi ?_
       refine AW_r rfl rfl λK hK=>?_
       simp (disch:=omega) [zG22,DtState.cells,DtCatalog.cells,DtCSet.cells,DtCSnap.cells,DtSaid.cells,hd]
       repeat' first|(refine ⟨by omega,?_⟩) | fail
       refine hK _ ?_;clear hK K
       refine AW_qe rfl mix (by kernel_rfl) rfl λK hK=>?_
       simp (disch:=omega) [zG22,DtState.cells,DtCatalog.cells,DtCSet.cells,DtCSnap.cells,DtSaid.cells,hd]
       repeat' first|(refine zci (zbf zd9 zbn) (zqn _ (by omega)) rfl ?_;simp (disch:=omega) [zG22,DtState.cells,DtCatalog.cells,DtCSet.cells,DtCSnap.cells,DtSaid.cells,hd])|(refine zci (zbf zcb zbn) (zhy _) rfl ?_;simp (disch:=omega) [zG22,DtState.cells,DtCatalog.cells,DtCSet.cells,DtCSnap.cells,DtSaid.cells,hd])|(refine zci (zbf zmh zbn) (l26Texts _ (by omega) (by assumption)) rfl ?_;simp (disch:=omega) [zG22,DtState.cells,DtCatalog.cells,DtCSet.cells,DtCSnap.cells,DtSaid.cells,hd])|(refine ⟨by omega,?_⟩) | fail
       refine hK _ ?_;clear hK K
       refine zbm ?_
       refine zc6 rfl rfl λK hK=>?_
       simp (disch:=omega) [zG22,DtState.cells,DtCatalog.cells,DtCSet.cells,DtCSnap.cells,DtSaid.cells,hd]
       refine hK _ ?_;clear hK K
       refine ⟨_,LeS.ko [(1,.ptr 32 0),(3,.s (varZ s.fCat.fSets.length++(catM showSet (s.fCat.fSets.take i)++(piece (s.fCat.fSets[i]).fName++(varZ (s.fCat.fSets[i]).fSnaps.length++catM showSnap ((s.fCat.fSets[i]).fSnaps.take (k+1))))))),(4,(.g (.int .i64 ((i:Nat))))),(5,.ptr 96 0),(6,(.g (.int .i64 (((k+1):Nat)))))] [(32,.cells (DtState.cells s)),(96,.cells (DtCSet.cells s.fCat.fSets[i]))] (by simp [zG23,KpE,DtState.cells,DtCatalog.cells,DtCSet.cells,DtCSnap.cells];try simp [hsp,zcz,showSnap]) (by simp [zG24,KpO,zb5,DtState.cells,DtCatalog.cells,DtCSet.cells,DtCSnap.cells]) (by rfl) (by simp) (by rfl),_,?_,k+1,rfl,?_,rfl⟩
       ·omega
       ·omega
      ·try simp [zbk,zbl,zbc,zba] at hc4
       have hk2:k=(s.fCat.fSets[i]).fSnaps.length:=by omega
       subst hk2
       simp only [List.take_length] at *
       refine zbw ?_
       refine zbm ?_
       refine zc6 rfl rfl λK hK=>?_
       simp (disch:=omega) [zG22,DtState.cells,DtCatalog.cells,DtCSet.cells,DtCSnap.cells,DtSaid.cells,hd]
       refine hK _ ?_;clear hK K
       refine ⟨_,LeS.ko [(1,.ptr 32 0),(3,.s (varZ s.fCat.fSets.length++catM showSet (s.fCat.fSets.take (i+1)))),(4,(.g (.int .i64 (((i+1):Nat)))))] [(32,.cells (DtState.cells s))] (by simp [zG23,KpE,DtState.cells,DtCatalog.cells,DtCSet.cells,DtCSnap.cells];try simp [hst,zcz,showSet]) (by simp [zG24,KpO,zb5,DtState.cells,DtCatalog.cells,DtCSet.cells,DtCSnap.cells]) (by rfl) (by simp) (by rfl),_,?_,i+1,rfl,?_,rfl⟩
       ·omega
       ·omega
    ·try simp [zbk,zbl,zbc,zba] at hc3
     have hi2:i=s.fCat.fSets.length:=by omega
     subst hi2
     simp only [List.take_length] at *
     refine zbw ?_
     refine zbm ?_
     refine AW_r rfl rfl λK hK=>?_
     simp (disch:=omega) [zG22,DtState.cells,DtCatalog.cells,DtCSet.cells,DtCSnap.cells,DtSaid.cells,hd]
     repeat' first|(refine zci (zbf zcb zbn) (zhy _) rfl ?_;simp (disch:=omega) [zG22,DtState.cells,DtCatalog.cells,DtCSet.cells,DtCSnap.cells,DtSaid.cells,hd])|(refine ⟨by omega,?_⟩) | fail
     refine hK _ ?_;clear hK K
     refine zbe ?_
     refine AW_r rfl rfl λK hK=>?_
     simp (disch:=omega) [zG22,DtState.cells,DtCatalog.cells,DtCSet.cells,DtCSnap.cells,DtSaid.cells,hd]
     refine hK _ ?_;clear hK K
     refine zbi ?_
     refine zbt (λmM sS=>∃(i:Nat),mM=s.fSaid.length-i∧(i≤s.fSaid.length)∧sS = { env:=lkE [(1,.ptr 32 0),(3,.s (varZ s.fCat.fSets.length++(catM showSet s.fCat.fSets++(varZ s.fSaid.length++catM showSaid (s.fSaid.take i))))),(8,(.g (.int .i64 ((i:Nat)))))],ob:=lk [(32,.cells (DtState.cells s))] }) ?_ ?_
     ·refine ⟨_,LeS.ko [(1,.ptr 32 0),(3,.s (varZ s.fCat.fSets.length++(catM showSet s.fCat.fSets++(varZ s.fSaid.length++catM showSaid (s.fSaid.take (0)))))),(8,(.g (.int .i64 (((0):Nat)))))] [(32,.cells (DtState.cells s))] (by simp [zG23,KpE,DtState.cells,DtCatalog.cells,DtSaid.cells];try simp [zcz]) (by simp [zG24,KpO,zb5,DtState.cells,DtCatalog.cells,DtSaid.cells]) (by rfl) (by simp) (by rfl),_,0,rfl,?_,rfl⟩
      ·simp
     ·rintro mM sS ⟨i,rfl,hi,rfl⟩
      have hb3:=zg8 showSaid 1048597 s.fSaid (λx hx=>said_bd (hT x hx)) i
      refine zbe ?_
      refine AW_r rfl rfl λK hK=>?_
      simp (disch:=omega) [zG22,DtState.cells,DtCatalog.cells,DtCSet.cells,DtCSnap.cells,DtSaid.cells,hd]
      refine hK _ ?_;clear hK K
      refine zbg rfl (λhc5=>?_) (λhc5=>?_)
      ·try simp [zbk,zbl,zbc,zba] at hc5
       have hst:=zd7 showSaid s.fSaid i (by omega)
       have g1:=hT _ (List.getElem_mem (n:=i) (h:=by omega))
       have g2:=zck (s.fSaid[i]).fText
       have g3:=zcf (s.fSaid[i]).fClient
       have g4:=zcf (s.fSaid[i]).fNo
       refine zbh ?_
       refine zbm ?_
       refine zbe ?_
       refine zbi ?_
       refine AW_qe rfl mix (by kernel_rfl) rfl λK hK=>?_
       simp (disch:=omega) [zG22,DtState.cells,DtCatalog.cells,DtCSet.cells,DtCSnap.cells,DtSaid.cells,hd]
       repeat' first|(refine zci (zbf zcb zbn) (zhy _) rfl ?_;simp (disch:=omega) [zG22,DtState.cells,DtCatalog.cells,DtCSet.cells,DtCSnap.cells,DtSaid.cells,hd])|(refine zci (zbf zd9 zbn) (zqn _ (by omega)) rfl ?_;simp (disch:=omega) [zG22,DtState.cells,DtCatalog.cells,DtCSet.cells,DtCSnap.cells,DtSaid.cells,hd])|(refine ⟨by omega,?_⟩) | fail
       refine hK _ ?_;clear hK K
       refine zbm ?_
       refine zc6 rfl rfl λK hK=>?_
       simp (disch:=omega) [zG22,DtState.cells,DtCatalog.cells,DtCSet.cells,DtCSnap.cells,DtSaid.cells,hd]
       refine hK _ ?_;clear hK K
       refine ⟨_,LeS.ko [(1,.ptr 32 0),(3,.s (varZ s.fCat.fSets.length++(catM showSet s.fCat.fSets++(varZ s.fSaid.length++catM showSaid (s.fSaid.take (i+1)))))),(8,(.g (.int .i64 (((i+1):Nat)))))] [(32,.cells (DtState.cells s))] (by simp [zG23,KpE,DtState.cells,DtCatalog.cells,DtSaid.cells];try simp [hst,zcz,showSaid]) (by simp [zG24,KpO,zb5,DtState.cells,DtCatalog.cells,DtSaid.cells]) (by rfl) (by simp) (by rfl),_,?_,i+1,rfl,?_,rfl⟩
       ·omega
       ·omega
      ·try simp [zbk,zbl,zbc,zba] at hc5
       have hi2:i=s.fSaid.length:=by omega
       subst hi2
       simp only [List.take_length] at *
       refine zbw ?_
       refine zbm ?_
       refine AW_r rfl rfl λK hK=>?_
       simp (disch:=omega) [zG22,DtState.cells,DtCatalog.cells,DtCSet.cells,DtCSnap.cells,DtSaid.cells,hd]
       refine hK _ ?_;clear hK K
       refine zbo (zcc ?_)
       simp (disch:=omega) [zG22,DtState.cells,DtCatalog.cells,DtCSet.cells,DtCSnap.cells,DtSaid.cells,hd]
       (simp [showState,hd,showSt];done)
 ·have hd:=zgb hP
  refine zbp Tryd.func10 (by rfl) (by rfl) (by rw [Tryd.ntmps10];exact Nat.le_of_ble_eq_true rfl) rfl (by decide) ?_
  rw [Tryd.ntmps10]
  refine AW_k [(0,_)] ⟨rfl,trivial⟩ ?_
  refine AW_r rfl rfl λK hK=>?_
  simp (disch:=omega) [zG22,DtState.cells,DtCatalog.cells,hd]
  refine hK _ ?_;clear hK K
  refine zbe (AW_r rfl rfl λK hK=>?_)
  simp (disch:=omega) [zG22,DtState.cells,DtCatalog.cells,hd]
  refine zci (zbf (zcn rfl) zbn) (zdz _ hs) rfl ?_
  simp (disch:=omega) [zG22,DtState.cells,DtCatalog.cells,hd]
  refine hK _ ?_;clear hK K
  refine zkq (by simp) ?_
  refine AW_r rfl rfl λK hK=>?_
  simp (disch:=omega) [zG22,DtState.cells,DtCatalog.cells,hd]
  refine hK _ ?_;clear hK K
  refine zbo (zcc ?_)
  simp (disch:=omega) [zG22,DtState.cells,DtCatalog.cells,hd,showState,hd]
theorem zff(s:DtState)(hs:DtState.sz s≤1048576):PCall Tryd.prog 6 [.agg (DtState.cells s)] (.s (showState s)):=by
 have ⟨hz,hl⟩:=zkg s hs
 obtain ⟨-,hT⟩:=saidSz s hs
 by_cases hP:StateP s
 ·have hS:∀x∈s.fCat.fSets,SetP x:=by intro x hx;obtain ⟨i,hi⟩:=zkk hx;exact (hP.1.2 i x hi).1
  have h5:s.fCat.fSets.length≤5:=hP.1.1
  have hd:=zcl hP
  have hm:s.fSaid.length*1048597≤1048576*1048597:=Nat.mul_le_mul_right _ hl
  have v1:=zcf s.fCat.fSets.length
  have v2:=zcf s.fSaid.length
  have v3:=zd4 showSet 507 s.fCat.fSets (λx hx=>(zhs (hS x hx)).2.2.2)
  refine zbp Tryd.func6 (by rfl) (by rfl) (by rw [Tryd.ntmps6];exact Nat.le_of_ble_eq_true rfl) rfl (by decide) ?_
  rw [Tryd.ntmps6]
  refine AW_k [(0,_)] ⟨rfl,trivial⟩ ?_
  refine AW_r rfl rfl λK hK=>?_
  simp (disch:=omega) [zG22,DtState.cells,DtCatalog.cells,DtCSet.cells,DtCSnap.cells,DtSaid.cells,hd]
  refine hK _ ?_;clear hK K
  refine zbe ?_
  refine AW_r rfl rfl λK hK=>?_
  simp (disch:=omega) [zG22,DtState.cells,DtCatalog.cells,DtCSet.cells,DtCSnap.cells,DtSaid.cells,hd]
  repeat' first|(refine zci (zbf (zcn rfl) zbn) (zgn _ (by omega)) rfl ?_;simp (disch:=omega) [zG22,DtState.cells,DtCatalog.cells,DtCSet.cells,DtCSnap.cells,DtSaid.cells,hd]) | fail
  refine hK _ ?_;clear hK K
  refine zbg rfl (λhc6=>?_) (λhc6=>?_)
  ·try simp [zbk,zbl,zbc,zba] at hc6
  ·try simp [zbk,zbl,zbc,zba] at hc6
   refine zbh ?_
   refine zbm ?_
   refine AW_r rfl rfl λK hK=>?_
   simp (disch:=omega) [zG22,DtState.cells,DtCatalog.cells,DtCSet.cells,DtCSnap.cells,DtSaid.cells,hd]
   repeat' first|(refine zci (zbf zcb zbn) (zhz _) rfl ?_;simp (disch:=omega) [zG22,DtState.cells,DtCatalog.cells,DtCSet.cells,DtCSnap.cells,DtSaid.cells,hd]) | fail
   refine hK _ ?_;clear hK K
   refine zbe ?_
   refine AW_r rfl rfl λK hK=>?_
   simp (disch:=omega) [zG22,DtState.cells,DtCatalog.cells,DtCSet.cells,DtCSnap.cells,DtSaid.cells,hd]
   refine hK _ ?_;clear hK K
   refine zbi ?_
   refine zbt (λmM sS=>∃(i:Nat),mM=s.fCat.fSets.length-i∧(i≤s.fCat.fSets.length)∧sS = { env:=lkE [(1,.ptr 32 0),(3,.s (varZ s.fCat.fSets.length++catM showSet (s.fCat.fSets.take i))),(22,.sl 2 (s.fCat.fSets.map DtCSet.cells)),(23,(.g (.int .i64 ((s.fCat.fSets.length:Nat))))),(24,(.g (.int .i64 ((i:Nat)))))],ob:=lk [(32,.cells (DtState.cells s))] }) ?_ ?_
   ·refine ⟨_,LeS.ko [(1,.ptr 32 0),(3,.s (varZ s.fCat.fSets.length++catM showSet (s.fCat.fSets.take (0)))),(22,.sl 2 (s.fCat.fSets.map DtCSet.cells)),(23,(.g (.int .i64 ((s.fCat.fSets.length:Nat))))),(24,(.g (.int .i64 (((0):Nat)))))] [(32,.cells (DtState.cells s))] (by simp [zG23,KpE,DtState.cells,DtCatalog.cells,DtCSet.cells,DtCSnap.cells];try simp [zcz]) (by simp [zG24,KpO,zb5,DtState.cells,DtCatalog.cells,DtCSet.cells,DtCSnap.cells]) (by rfl) (by simp) (by rfl),_,0,rfl,?_,rfl⟩
    ·simp
   ·rintro mM sS ⟨i,rfl,hi,rfl⟩
    have hb1:=zg8 showSet 507 s.fCat.fSets (λx hx=>(zhs (hS x hx)).2.2.2) i
    refine AW_r rfl rfl λK hK=>?_
    simp (disch:=omega) [zG22,DtState.cells,DtCatalog.cells,DtCSet.cells,DtCSnap.cells,DtSaid.cells,hd]
    refine hK _ ?_;clear hK K
    refine zbe ?_
    refine zbg rfl (λhc7=>?_) (λhc7=>?_)
    ·try simp [zbk,zbl,zbc,zba] at hc7
     have hst:=zd7 showSet s.fCat.fSets i (by omega)
     have ⟨e1,e2,e3,e4⟩:=zhs (hS _ (List.getElem_mem (n:=i) (h:=by omega)))
     have e5:=zck (s.fCat.fSets[i]).fName
     have e6:=zcf (s.fCat.fSets[i]).fSnaps.length
     refine zbh ?_
     refine zbm ?_
     refine zbe ?_
     refine zbi ?_
     refine AW_r rfl rfl λK hK=>?_
     simp (disch:=omega) [zG22,DtState.cells,DtCatalog.cells,DtCSet.cells,DtCSnap.cells,DtSaid.cells,hd]
     repeat' first|(refine ⟨by omega,?_⟩) | fail
     refine hK _ ?_;clear hK K
     refine AW_q rfl mix (by kernel_rfl) rfl λK hK=>?_
     simp (disch:=omega) [zG22,DtState.cells,DtCatalog.cells,DtCSet.cells,DtCSnap.cells,DtSaid.cells,hd]
     repeat' first|(refine zci (zbf zd9 zbn) (sized _ (by omega)) rfl ?_;simp (disch:=omega) [zG22,DtState.cells,DtCatalog.cells,DtCSet.cells,DtCSnap.cells,DtSaid.cells,hd])|(refine zci (zbf zcb zbn) (zhz _) rfl ?_;simp (disch:=omega) [zG22,DtState.cells,DtCatalog.cells,DtCSet.cells,DtCSnap.cells,DtSaid.cells,hd])|(refine ⟨by omega,?_⟩) | fail
     refine hK _ ?_;clear hK K
     refine AW_r rfl rfl λK hK=>?_
     simp (disch:=omega) [zG22,DtState.cells,DtCatalog.cells,DtCSet.cells,DtCSnap.cells,DtSaid.cells,hd]
     refine hK _ ?_;clear hK K
     refine zbi ?_
     refine zbt (λmM sS=>∃(k:Nat),mM=(s.fCat.fSets[i]).fSnaps.length-k∧(k≤(s.fCat.fSets[i]).fSnaps.length)∧sS = { env:=lkE [(1,.ptr 32 0),(3,.s (varZ s.fCat.fSets.length++(catM showSet (s.fCat.fSets.take i)++(piece (s.fCat.fSets[i]).fName++(varZ (s.fCat.fSets[i]).fSnaps.length++catM showSnap ((s.fCat.fSets[i]).fSnaps.take k)))))),(22,.sl 2 (s.fCat.fSets.map DtCSet.cells)),(23,(.g (.int .i64 ((s.fCat.fSets.length:Nat))))),(24,(.g (.int .i64 ((i:Nat))))),(5,.ptr 96 0),(39,.sl 3 ((s.fCat.fSets[i]).fSnaps.map DtCSnap.cells)),(40,(.g (.int .i64 (((s.fCat.fSets[i]).fSnaps.length:Nat))))),(41,(.g (.int .i64 ((k:Nat)))))],ob:=lk [(32,.cells (DtState.cells s)),(96,.cells (DtCSet.cells s.fCat.fSets[i]))] }) ?_ ?_
     ·refine ⟨_,LeS.ko [(1,.ptr 32 0),(3,.s (varZ s.fCat.fSets.length++(catM showSet (s.fCat.fSets.take i)++(piece (s.fCat.fSets[i]).fName++(varZ (s.fCat.fSets[i]).fSnaps.length++catM showSnap ((s.fCat.fSets[i]).fSnaps.take (0))))))),(22,.sl 2 (s.fCat.fSets.map DtCSet.cells)),(23,(.g (.int .i64 ((s.fCat.fSets.length:Nat))))),(24,(.g (.int .i64 ((i:Nat))))),(5,.ptr 96 0),(39,.sl 3 ((s.fCat.fSets[i]).fSnaps.map DtCSnap.cells)),(40,(.g (.int .i64 (((s.fCat.fSets[i]).fSnaps.length:Nat))))),(41,(.g (.int .i64 (((0):Nat)))))] [(32,.cells (DtState.cells s)),(96,.cells (DtCSet.cells s.fCat.fSets[i]))] (by simp [zG23,KpE,DtState.cells,DtCatalog.cells,DtCSet.cells,DtCSnap.cells];try simp [zcz]) (by simp [zG24,KpO,zb5,DtState.cells,DtCatalog.cells,DtCSet.cells,DtCSnap.cells]) (by rfl) (by simp) (by rfl),_,0,rfl,?_,rfl⟩
      ·simp
     ·rintro mM sS ⟨k,rfl,hk,rfl⟩
      have hb2:=zg8 showSnap 97 (s.fCat.fSets[i]).fSnaps (λp hp=>(zh0 (e3 p hp)).2.2.2.2) k
      refine AW_r rfl rfl λK hK=>?_
      simp (disch:=omega) [zG22,DtState.cells,DtCatalog.cells,DtCSet.cells,DtCSnap.cells,DtSaid.cells,hd]
      refine hK _ ?_;clear hK K
      refine zbe ?_
      refine zbg rfl (λhc8=>?_) (λhc8=>?_)
      ·try simp [zbk,zbl,zbc,zba] at hc8
       have hsp:=zd7 showSnap (s.fCat.fSets[i]).fSnaps k (by omega)
       have ⟨f1,f2,f3,f4,f5⟩:=zh0 (e3 _ (List.getElem_mem (n:=k) (h:=by omega)))
       have f6:=zck ((s.fCat.fSets[i]).fSnaps[k]).fName
       have f7:=zck ((s.fCat.fSets[i]).fSnaps[k]).fTag
       have f8:=zcf ((s.fCat.fSets[i]).fSnaps[k]).fChunks.length
       have f9:=zd4 piece 15 ((s.fCat.fSets[i]).fSnaps[k]).fChunks (λx hx=>by have:=zck x;have:=f4 x hx;omega)
       refine zbh ?_
       refine zbm ?_
       refine zbe ?_
       refine zbi ?_
       refine AW_r rfl rfl λK hK=>?_
       simp (disch:=omega) [zG22,DtState.cells,DtCatalog.cells,DtCSet.cells,DtCSnap.cells,DtSaid.cells,hd]
       repeat' first|(refine ⟨by omega,?_⟩) | fail
       refine hK _ ?_;clear hK K
       refine AW_q rfl mix (by kernel_rfl) rfl λK hK=>?_
       simp (disch:=omega) [zG22,DtState.cells,DtCatalog.cells,DtCSet.cells,DtCSnap.cells,DtSaid.cells,hd]
       repeat' first|(refine zci (zbf zd9 zbn) (sized _ (by omega)) rfl ?_;simp (disch:=omega) [zG22,DtState.cells,DtCatalog.cells,DtCSet.cells,DtCSnap.cells,DtSaid.cells,hd])|(refine zci (zbf zcb zbn) (zhz _) rfl ?_;simp (disch:=omega) [zG22,DtState.cells,DtCatalog.cells,DtCSet.cells,DtCSnap.cells,DtSaid.cells,hd])|(refine ⟨by omega,?_⟩) | fail
       refine hK _ ?_;clear hK K
       refine AW_r rfl rfl λK hK=>?_
       simp (disch:=omega) [zG22,DtState.cells,DtCatalog.cells,DtCSet.cells,DtCSnap.cells,DtSaid.cells,hd]
       refine hK _ ?_;clear hK K
       refine zbi ?_
       refine zbt (λmM sS=>∃(j:Nat),mM=((s.fCat.fSets[i]).fSnaps[k]).fChunks.length-j∧(j≤((s.fCat.fSets[i]).fSnaps[k]).fChunks.length)∧sS = { env:=lkE [(1,.ptr 32 0),(3,.s (varZ s.fCat.fSets.length++(catM showSet (s.fCat.fSets.take i)++(piece (s.fCat.fSets[i]).fName++(varZ (s.fCat.fSets[i]).fSnaps.length++(catM showSnap ((s.fCat.fSets[i]).fSnaps.take k)++(piece ((s.fCat.fSets[i]).fSnaps[k]).fName++(piece ((s.fCat.fSets[i]).fSnaps[k]).fTag++(varZ ((s.fCat.fSets[i]).fSnaps[k]).fChunks.length++catM piece (((s.fCat.fSets[i]).fSnaps[k]).fChunks.take j)))))))))),(22,.sl 2 (s.fCat.fSets.map DtCSet.cells)),(23,(.g (.int .i64 ((s.fCat.fSets.length:Nat))))),(24,(.g (.int .i64 ((i:Nat))))),(5,.ptr 96 0),(39,.sl 3 ((s.fCat.fSets[i]).fSnaps.map DtCSnap.cells)),(40,(.g (.int .i64 (((s.fCat.fSets[i]).fSnaps.length:Nat))))),(41,(.g (.int .i64 ((k:Nat))))),(60,.sl 1 (((s.fCat.fSets[i]).fSnaps[k]).fChunks.map cS)),(61,(.g (.int .i64 ((((s.fCat.fSets[i]).fSnaps[k]).fChunks.length:Nat))))),(62,(.g (.int .i64 ((j:Nat)))))],ob:=lk [(32,.cells (DtState.cells s)),(96,.cells (DtCSet.cells s.fCat.fSets[i]))] }) ?_ ?_
       ·refine ⟨_,LeS.ko [(1,.ptr 32 0),(3,.s (varZ s.fCat.fSets.length++(catM showSet (s.fCat.fSets.take i)++(piece (s.fCat.fSets[i]).fName++(varZ (s.fCat.fSets[i]).fSnaps.length++(catM showSnap ((s.fCat.fSets[i]).fSnaps.take k)++(piece ((s.fCat.fSets[i]).fSnaps[k]).fName++(piece ((s.fCat.fSets[i]).fSnaps[k]).fTag++(varZ ((s.fCat.fSets[i]).fSnaps[k]).fChunks.length++catM piece (((s.fCat.fSets[i]).fSnaps[k]).fChunks.take (0))))))))))),(22,.sl 2 (s.fCat.fSets.map DtCSet.cells)),(23,(.g (.int .i64 ((s.fCat.fSets.length:Nat))))),(24,(.g (.int .i64 ((i:Nat))))),(5,.ptr 96 0),(39,.sl 3 ((s.fCat.fSets[i]).fSnaps.map DtCSnap.cells)),(40,(.g (.int .i64 (((s.fCat.fSets[i]).fSnaps.length:Nat))))),(41,(.g (.int .i64 ((k:Nat))))),(60,.sl 1 (((s.fCat.fSets[i]).fSnaps[k]).fChunks.map cS)),(61,(.g (.int .i64 ((((s.fCat.fSets[i]).fSnaps[k]).fChunks.length:Nat))))),(62,(.g (.int .i64 (((0):Nat)))))] [(32,.cells (DtState.cells s)),(96,.cells (DtCSet.cells s.fCat.fSets[i]))] (by simp [zG23,KpE,DtState.cells,DtCatalog.cells,DtCSet.cells,DtCSnap.cells];try simp [zcz]) (by simp [zG24,KpO,zb5,DtState.cells,DtCatalog.cells,DtCSet.cells,DtCSnap.cells]) (by rfl) (by simp) (by rfl),_,0,rfl,?_,rfl⟩
        ·simp
       ·rintro mM sS ⟨j,rfl,hj,rfl⟩
        have hb4:=zg8 piece 15 ((s.fCat.fSets[i]).fSnaps[k]).fChunks (λx hx=>by have:=zck x;have:=f4 x hx;omega) j
        refine AW_r rfl rfl λK hK=>?_
        simp (disch:=omega) [zG22,DtState.cells,DtCatalog.cells,DtCSet.cells,DtCSnap.cells,DtSaid.cells,hd,cS]
        refine hK _ ?_;clear hK K
        refine zbe ?_
        refine zbg rfl (λhc9=>?_) (λhc9=>?_)
        ·try simp [zbk,zbl,zbc,zba] at hc9
         have hsc:=zd7 piece ((s.fCat.fSets[i]).fSnaps[k]).fChunks j (by omega)
         have p1:=zck (((s.fCat.fSets[i]).fSnaps[k]).fChunks[j])
         have p2:=f4 _ (List.getElem_mem (n:=j) (h:=by omega))
         refine zbh ?_
         refine zbm ?_
         refine zbe ?_
         refine zbi ?_
         refine AW_r rfl rfl λK hK=>?_
         simp (disch:=omega) [zG22,DtState.cells,DtCatalog.cells,DtCSet.cells,DtCSnap.cells,DtSaid.cells,hd,cS]
         repeat' first|(refine ⟨by omega,?_⟩) | fail
         refine hK _ ?_;clear hK K
         refine zc6 rfl rfl λK hK=>?_
         simp (disch:=omega) [zG22,DtState.cells,DtCatalog.cells,DtCSet.cells,DtCSnap.cells,DtSaid.cells,hd,cS]
         repeat' first|(refine zci (zbf zd9 zbn) (sized _ (by omega)) rfl ?_;simp (disch:=omega) [zG22,DtState.cells,DtCatalog.cells,DtCSet.cells,DtCSnap.cells,DtSaid.cells,hd,cS])|(refine ⟨by omega,?_⟩) | fail
         refine hK _ ?_;clear hK K
         refine zbm ?_
         refine zc6 rfl rfl λK hK=>?_
         simp (disch:=omega) [zG22,DtState.cells,DtCatalog.cells,DtCSet.cells,DtCSnap.cells,DtSaid.cells,hd,cS]
         refine hK _ ?_;clear hK K
         refine ⟨_,LeS.ko [(1,.ptr 32 0),(3,.s (varZ s.fCat.fSets.length++(catM showSet (s.fCat.fSets.take i)++(piece (s.fCat.fSets[i]).fName++(varZ (s.fCat.fSets[i]).fSnaps.length++(catM showSnap ((s.fCat.fSets[i]).fSnaps.take k)++(piece ((s.fCat.fSets[i]).fSnaps[k]).fName++(piece ((s.fCat.fSets[i]).fSnaps[k]).fTag++(varZ ((s.fCat.fSets[i]).fSnaps[k]).fChunks.length++catM piece (((s.fCat.fSets[i]).fSnaps[k]).fChunks.take (j+1))))))))))),(22,.sl 2 (s.fCat.fSets.map DtCSet.cells)),(23,(.g (.int .i64 ((s.fCat.fSets.length:Nat))))),(24,(.g (.int .i64 ((i:Nat))))),(5,.ptr 96 0),(39,.sl 3 ((s.fCat.fSets[i]).fSnaps.map DtCSnap.cells)),(40,(.g (.int .i64 (((s.fCat.fSets[i]).fSnaps.length:Nat))))),(41,(.g (.int .i64 ((k:Nat))))),(60,.sl 1 (((s.fCat.fSets[i]).fSnaps[k]).fChunks.map cS)),(61,(.g (.int .i64 ((((s.fCat.fSets[i]).fSnaps[k]).fChunks.length:Nat))))),(62,(.g (.int .i64 (((j+1):Nat)))))] [(32,.cells (DtState.cells s)),(96,.cells (DtCSet.cells s.fCat.fSets[i]))] (by simp [zG23,KpE,DtState.cells,DtCatalog.cells,DtCSet.cells,DtCSnap.cells];try simp [hsc,zcz]) (by simp [zG24,KpO,zb5,DtState.cells,DtCatalog.cells,DtCSet.cells,DtCSnap.cells]) (by rfl) (by simp) (by rfl),_,?_,j+1,rfl,?_,rfl⟩
         ·omega
         ·omega
        ·try simp [zbk,zbl,zbc,zba] at hc9
         have hj2:j=((s.fCat.fSets[i]).fSnaps[k]).fChunks.length:=by omega
         subst hj2
         simp only [List.take_length] at *
         refine zbw ?_
         refine zbm ?_
         refine zc6 rfl rfl λK hK=>?_
         simp (disch:=omega) [zG22,DtState.cells,DtCatalog.cells,DtCSet.cells,DtCSnap.cells,DtSaid.cells,hd,cS]
         refine hK _ ?_;clear hK K
         refine ⟨_,LeS.ko [(1,.ptr 32 0),(3,.s (varZ s.fCat.fSets.length++(catM showSet (s.fCat.fSets.take i)++(piece (s.fCat.fSets[i]).fName++(varZ (s.fCat.fSets[i]).fSnaps.length++catM showSnap ((s.fCat.fSets[i]).fSnaps.take (k+1))))))),(22,.sl 2 (s.fCat.fSets.map DtCSet.cells)),(23,(.g (.int .i64 ((s.fCat.fSets.length:Nat))))),(24,(.g (.int .i64 ((i:Nat))))),(5,.ptr 96 0),(39,.sl 3 ((s.fCat.fSets[i]).fSnaps.map DtCSnap.cells)),(40,(.g (.int .i64 (((s.fCat.fSets[i]).fSnaps.length:Nat))))),(41,(.g (.int .i64 (((k+1):Nat)))))] [(32,.cells (DtState.cells s)),(96,.cells (DtCSet.cells s.fCat.fSets[i]))] (by simp [zG23,KpE,DtState.cells,DtCatalog.cells,DtCSet.cells,DtCSnap.cells];try simp [hsp,zcz,showSnap]) (by simp [zG24,KpO,zb5,DtState.cells,DtCatalog.cells,DtCSet.cells,DtCSnap.cells]) (by rfl) (by simp) (by rfl),_,?_,k+1,rfl,?_,rfl⟩
         ·omega
         ·omega
      ·try simp [zbk,zbl,zbc,zba] at hc8
       have hk2:k=(s.fCat.fSets[i]).fSnaps.length:=by omega
       subst hk2
       simp only [List.take_length] at *
       refine zbw ?_
       refine zbm ?_
       refine zc6 rfl rfl λK hK=>?_
       simp (disch:=omega) [zG22,DtState.cells,DtCatalog.cells,DtCSet.cells,DtCSnap.cells,DtSaid.cells,hd]
       refine hK _ ?_;clear hK K
       refine ⟨_,LeS.ko [(1,.ptr 32 0),(3,.s (varZ s.fCat.fSets.length++catM showSet (s.fCat.fSets.take (i+1)))),(22,.sl 2 (s.fCat.fSets.map DtCSet.cells)),(23,(.g (.int .i64 ((s.fCat.fSets.length:Nat))))),(24,(.g (.int .i64 (((i+1):Nat)))))] [(32,.cells (DtState.cells s))] (by simp [zG23,KpE,DtState.cells,DtCatalog.cells,DtCSet.cells,DtCSnap.cells];try simp [hst,zcz,showSet]) (by simp [zG24,KpO,zb5,DtState.cells,DtCatalog.cells,DtCSet.cells,DtCSnap.cells]) (by rfl) (by simp) (by rfl),_,?_,i+1,rfl,?_,rfl⟩
       ·omega
       ·omega
    ·try simp [zbk,zbl,zbc,zba] at hc7
     have hi2:i=s.fCat.fSets.length:=by omega
     subst hi2
     simp only [List.take_length] at *
     refine zbw ?_
     refine zbm ?_
     refine AW_r rfl rfl λK hK=>?_
     simp (disch:=omega) [zG22,DtState.cells,DtCatalog.cells,DtCSet.cells,DtCSnap.cells,DtSaid.cells,hd]
     repeat' first|(refine zci (zbf zcb zbn) (zhz _) rfl ?_;simp (disch:=omega) [zG22,DtState.cells,DtCatalog.cells,DtCSet.cells,DtCSnap.cells,DtSaid.cells,hd])|(refine ⟨by omega,?_⟩) | fail
     refine hK _ ?_;clear hK K
     refine zbe ?_
     refine AW_r rfl rfl λK hK=>?_
     simp (disch:=omega) [zG22,DtState.cells,DtCatalog.cells,DtCSet.cells,DtCSnap.cells,DtSaid.cells,hd]
     refine hK _ ?_;clear hK K
     refine zbi ?_
     refine zbt (λmM sS=>∃(i:Nat),mM=s.fSaid.length-i∧(i≤s.fSaid.length)∧sS = { env:=lkE [(1,.ptr 32 0),(3,.s (varZ s.fCat.fSets.length++(catM showSet s.fCat.fSets++(varZ s.fSaid.length++catM showSaid (s.fSaid.take i))))),(80,.sl 3 (s.fSaid.map DtSaid.cells)),(81,(.g (.int .i64 ((s.fSaid.length:Nat))))),(82,(.g (.int .i64 ((i:Nat)))))],ob:=lk [(32,.cells (DtState.cells s))] }) ?_ ?_
     ·refine ⟨_,LeS.ko [(1,.ptr 32 0),(3,.s (varZ s.fCat.fSets.length++(catM showSet s.fCat.fSets++(varZ s.fSaid.length++catM showSaid (s.fSaid.take (0)))))),(80,.sl 3 (s.fSaid.map DtSaid.cells)),(81,(.g (.int .i64 ((s.fSaid.length:Nat))))),(82,(.g (.int .i64 (((0):Nat)))))] [(32,.cells (DtState.cells s))] (by simp [zG23,KpE,DtState.cells,DtCatalog.cells,DtSaid.cells];try simp [zcz]) (by simp [zG24,KpO,zb5,DtState.cells,DtCatalog.cells,DtSaid.cells]) (by rfl) (by simp) (by rfl),_,0,rfl,?_,rfl⟩
      ·simp
     ·rintro mM sS ⟨i,rfl,hi,rfl⟩
      have hb3:=zg8 showSaid 1048597 s.fSaid (λx hx=>said_bd (hT x hx)) i
      refine AW_r rfl rfl λK hK=>?_
      simp (disch:=omega) [zG22,DtState.cells,DtCatalog.cells,DtCSet.cells,DtCSnap.cells,DtSaid.cells,hd]
      refine hK _ ?_;clear hK K
      refine zbe ?_
      refine zbg rfl (λhc10=>?_) (λhc10=>?_)
      ·try simp [zbk,zbl,zbc,zba] at hc10
       have hst:=zd7 showSaid s.fSaid i (by omega)
       have g1:=hT _ (List.getElem_mem (n:=i) (h:=by omega))
       have g2:=zck (s.fSaid[i]).fText
       have g3:=zcf (s.fSaid[i]).fClient
       have g4:=zcf (s.fSaid[i]).fNo
       refine zbh ?_
       refine zbm ?_
       refine zbe ?_
       refine zbi ?_
       refine AW_r rfl rfl λK hK=>?_
       simp (disch:=omega) [zG22,DtState.cells,DtCatalog.cells,DtCSet.cells,DtCSnap.cells,DtSaid.cells,hd]
       repeat' first|(refine ⟨by omega,?_⟩) | fail
       refine hK _ ?_;clear hK K
       refine AW_qe rfl mix (by kernel_rfl) rfl λK hK=>?_
       simp (disch:=omega) [zG22,DtState.cells,DtCatalog.cells,DtCSet.cells,DtCSnap.cells,DtSaid.cells,hd]
       repeat' first|(refine zci (zbf zcb zbn) (zhz _) rfl ?_;simp (disch:=omega) [zG22,DtState.cells,DtCatalog.cells,DtCSet.cells,DtCSnap.cells,DtSaid.cells,hd])|(refine zci (zbf zd9 zbn) (sized _ (by omega)) rfl ?_;simp (disch:=omega) [zG22,DtState.cells,DtCatalog.cells,DtCSet.cells,DtCSnap.cells,DtSaid.cells,hd])|(refine ⟨by omega,?_⟩) | fail
       refine hK _ ?_;clear hK K
       refine zbm ?_
       refine zc6 rfl rfl λK hK=>?_
       simp (disch:=omega) [zG22,DtState.cells,DtCatalog.cells,DtCSet.cells,DtCSnap.cells,DtSaid.cells,hd]
       refine hK _ ?_;clear hK K
       refine ⟨_,LeS.ko [(1,.ptr 32 0),(3,.s (varZ s.fCat.fSets.length++(catM showSet s.fCat.fSets++(varZ s.fSaid.length++catM showSaid (s.fSaid.take (i+1)))))),(80,.sl 3 (s.fSaid.map DtSaid.cells)),(81,(.g (.int .i64 ((s.fSaid.length:Nat))))),(82,(.g (.int .i64 (((i+1):Nat)))))] [(32,.cells (DtState.cells s))] (by simp [zG23,KpE,DtState.cells,DtCatalog.cells,DtSaid.cells];try simp [hst,zcz,showSaid]) (by simp [zG24,KpO,zb5,DtState.cells,DtCatalog.cells,DtSaid.cells]) (by rfl) (by simp) (by rfl),_,?_,i+1,rfl,?_,rfl⟩
       ·omega
       ·omega
      ·try simp [zbk,zbl,zbc,zba] at hc10
       have hi2:i=s.fSaid.length:=by omega
       subst hi2
       simp only [List.take_length] at *
       refine zbw ?_
       refine zbm ?_
       refine AW_r rfl rfl λK hK=>?_
       simp (disch:=omega) [zG22,DtState.cells,DtCatalog.cells,DtCSet.cells,DtCSnap.cells,DtSaid.cells,hd]
       refine hK _ ?_;clear hK K
       refine zbo (zcc ?_)
       simp (disch:=omega) [zG22,DtState.cells,DtCatalog.cells,DtCSet.cells,DtCSnap.cells,DtSaid.cells,hd]
       (simp [showState,hd,showSt];done)
 ·have hd:=zgb hP
  refine zbp Tryd.func6 (by rfl) (by rfl) (by rw [Tryd.ntmps6];exact Nat.le_of_ble_eq_true rfl) rfl (by decide) ?_
  rw [Tryd.ntmps6]
  refine AW_k [(0,_)] ⟨rfl,trivial⟩ ?_
  refine AW_r rfl rfl λK hK=>?_
  simp (disch:=omega) [zG22,DtState.cells,DtCatalog.cells,hd]
  refine hK _ ?_;clear hK K
  refine zbe (AW_r rfl rfl λK hK=>?_)
  simp (disch:=omega) [zG22,DtState.cells,DtCatalog.cells,hd]
  refine zci (zbf (zcn rfl) zbn) (zgn _ hs) rfl ?_
  simp (disch:=omega) [zG22,DtState.cells,DtCatalog.cells,hd]
  refine hK _ ?_;clear hK K
  refine zkq (by simp) ?_
  refine AW_r rfl rfl λK hK=>?_
  simp (disch:=omega) [zG22,DtState.cells,DtCatalog.cells,hd]
  refine hK _ ?_;clear hK K
  refine zbo (zcc ?_)
  simp (disch:=omega) [zG22,DtState.cells,DtCatalog.cells,hd,showState,hd]
end Go.Proofs.YtodmafgmdlkhoaaDoor.Vs
end
section
namespace Go.Proofs.YtodmafgmdlkhoaaDoor.Vs
set_option linter.all false
set_option maxRecDepth 100000
theorem zqo:∀l:List DtSaid,((catM showSaid l).length:Int)≤21*l.length+sumZ DtSaid.sz l
 | []=>by simp [catM,zcr]
 | x :: l=>by
  have h1:=zqo l
  have h2:=zck x.fText
  have h3:=zcf x.fClient
  have h4:=zcf x.fNo
  have h5:(showSaid x).length≤21+x.fText.length:=by unfold showSaid;simp only [List.length_append];omega
  have h6:(x.fText.length:Int)≤DtSaid.sz x:=by simp only [DtSaid.sz];omega
  have h7:catM showSaid (x :: l)=showSaid x++catM showSaid l:=rfl
  rw [h7,List.length_append,zcu,List.length_cons]
  omega
theorem zjq(s:DtState)(hs:DtState.sz s≤1048576):(showState s).length≤1073741824:=by
 unfold showState
 by_cases hP:StateP s
 ·rw [zcl hP]
  show (showSt s).length≤_
  have hS:∀x∈s.fCat.fSets,SetP x:=by intro x hx;obtain ⟨i,hi⟩:=zkk hx;exact (hP.1.2 i x hi).1
  have h5:s.fCat.fSets.length≤5:=hP.1.1
  have v1:=zcf s.fCat.fSets.length
  have v2:=zcf s.fSaid.length
  have v3:=zd4 showSet 507 s.fCat.fSets (λx hx=>(zhs (hS x hx)).2.2.2)
  have v4:=zqo s.fSaid
  have v5:=DtCatalog.sz_nonneg s.fCat
  have v7:=zb9 DtSaid.sz_nonneg s.fSaid
  have v6:(s.fCat.fSets.length*507:Nat)≤5*507:=Nat.mul_le_mul_right _ h5
  simp only [DtState.sz,szS] at hs
  unfold showSt
  simp only [List.length_append]
  omega
 ·rw [zgb hP];simp
end Go.Proofs.YtodmafgmdlkhoaaDoor.Vs
end
section
namespace Go.Proofs.YtodmafgmdlkhoaaDoor.Vs
set_option linter.all false
set_option maxRecDepth 100000
/-! words of 32 bits, as the program holds them -/
def wU(x:W32):AV:=.g (.int .u32 (wI x))
theorem wrapW(n:Int):IntKind.u32.wrap n=n % 4294967296:=by simp [IntKind.wrap,IntKind.bits,IntKind.signed]
theorem wrapUw(x:W32):IntKind.u32.wrap (wI x)=wI x:=by rw [wrapW];exact zmu x
def uAnd(a b:Int):Int:=IntKind.u32.wrap (BitVec.ofInt IntKind.u32.bits a &&& BitVec.ofInt IntKind.u32.bits b).toNat
def uOr(a b:Int):Int:=IntKind.u32.wrap (BitVec.ofInt IntKind.u32.bits a ||| BitVec.ofInt IntKind.u32.bits b).toNat
def uXor(a b:Int):Int:=IntKind.u32.wrap (BitVec.ofInt IntKind.u32.bits a ^^^ BitVec.ofInt IntKind.u32.bits b).toNat
def uShl(a b:Int):Int:=IntKind.u32.wrap (a*2^(min b.toNat IntKind.u32.bits))
def uShr(a b:Int):Int:=a.fdiv (2^(min b.toNat IntKind.u32.bits))
def vAnd(a b:Int):Int:=IntKind.u64.wrap (BitVec.ofInt IntKind.u64.bits a &&& BitVec.ofInt IntKind.u64.bits b).toNat
theorem uAnd_eq(a b:Int):IntKind.u32.wrap (BitVec.ofInt IntKind.u32.bits a &&& BitVec.ofInt IntKind.u32.bits b).toNat=uAnd a b:=(rfl)
theorem uOr_eq(a b:Int):IntKind.u32.wrap (BitVec.ofInt IntKind.u32.bits a ||| BitVec.ofInt IntKind.u32.bits b).toNat=uOr a b:=(rfl)
theorem uXor_eq(a b:Int):IntKind.u32.wrap (BitVec.ofInt IntKind.u32.bits a ^^^ BitVec.ofInt IntKind.u32.bits b).toNat=uXor a b:=(rfl)
theorem uShl_eq(a b:Int):IntKind.u32.wrap (a*2^(min b.toNat IntKind.u32.bits))=uShl a b:=(rfl)
theorem uShr_eq(a b:Int):a.fdiv (2^(min b.toNat IntKind.u32.bits))=uShr a b:=(rfl)
theorem vAnd_eq(a b:Int):IntKind.u64.wrap (BitVec.ofInt IntKind.u64.bits a &&& BitVec.ofInt IntKind.u64.bits b).toNat=vAnd a b:=(rfl)
theorem zkl(x:W32):BitVec.ofInt 32 (wI x)=x:=by
 apply BitVec.eq_of_toNat_eq
 simp [wI]
theorem uAnd_w(a b:W32):uAnd (wI a) (wI b)=wI (a &&& b):=by
 show IntKind.u32.wrap (((BitVec.ofInt 32 (wI a) &&& BitVec.ofInt 32 (wI b)).toNat:Nat):Int)=_
 rw [zkl,zkl];exact wrapUw _
theorem uOr_w(a b:W32):uOr (wI a) (wI b)=wI (a ||| b):=by
 show IntKind.u32.wrap (((BitVec.ofInt 32 (wI a) ||| BitVec.ofInt 32 (wI b)).toNat:Nat):Int)=_
 rw [zkl,zkl];exact wrapUw _
theorem uXor_w(a b:W32):uXor (wI a) (wI b)=wI (a ^^^ b):=by
 show IntKind.u32.wrap (((BitVec.ofInt 32 (wI a) ^^^ BitVec.ofInt 32 (wI b)).toNat:Nat):Int)=_
 rw [zkl,zkl];exact wrapUw _
theorem uNot_w(a:W32):uXor 4294967295 (wI a)=wI (~~~a):=by
 have h:(4294967295:Int)=wI (BitVec.allOnes 32):=by decide
 rw [h,uXor_w,BitVec.allOnes_xor]
theorem uN_w(a:W32):uXor (if IntKind.u32.signed=true then -1 else 4294967295) (wI a)=wI (~~~a):=uNot_w a
theorem uN_w2(a:W32):uXor (if IntKind.u32.signed=true then -1 else IntKind.u32.max) (wI a)=wI (~~~a):=uNot_w a
theorem uAdd_w(a b:W32):IntKind.u32.wrap (wI a+wI b)=wI (a+b):=by rw [wrapW,add_w]
theorem uShr_w(x:W32)(z:Int)(h:0≤z∧z≤32):uShr (wI x) z=wI (x >>> z.toNat):=by
 unfold uShr
 rw [show min z.toNat IntKind.u32.bits=z.toNat from Nat.min_eq_left (by show z.toNat≤32;omega),shr_w]
theorem zxo(x:W32)(z:Int)(h:0≤z∧z≤32):uShl (wI x) z=wI (x <<< z.toNat):=by
 unfold uShl
 rw [show min z.toNat IntKind.u32.bits=z.toNat from Nat.min_eq_left (by show z.toNat≤32;omega),wrapW]
 unfold wI
 rw [BitVec.toNat_shiftLeft,Nat.shiftLeft_eq,Int.natCast_emod,Int.natCast_mul,Int.natCast_pow]
 rfl
theorem uRot(x:W32)(z:Int)(h : -32<z∧z<0):uOr (uShl (wI x) (32+z)) (uShr (wI x) (-z))=wI (x.rotateRight (-z).toNat):=by
 rw [zxo x _ (by omega),uShr_w x _ (by omega),uOr_w]
 congr 1
 rw [BitVec.rotateRight_def,Nat.mod_eq_of_lt (by omega),BitVec.or_comm,show (32+z).toNat=32-(-z).toNat by omega]
theorem vMask(z:Int)(h : -32<z∧z<0):vAnd (18446744073709551616+z) 31=32+z:=by
 show IntKind.u64.wrap (((BitVec.ofInt 64 (18446744073709551616+z) &&& BitVec.ofInt 64 31).toNat:Nat):Int)=_
 have e:(BitVec.ofInt 64 (18446744073709551616+z) &&& BitVec.ofInt 64 31).toNat=(18446744073709551616+z).toNat % 32:=by
  rw [BitVec.toNat_and]
  have h1:(BitVec.ofInt 64 31).toNat=2^5-1:=by decide
  have h2:(BitVec.ofInt 64 (18446744073709551616+z)).toNat=(18446744073709551616+z).toNat:=by
   rw [BitVec.toNat_ofInt]
   omega
  rw [h1,h2,Nat.and_two_pow_sub_one_eq_mod]
 rw [e]
 have:∀n:Int,0≤n∧n<18446744073709551616→IntKind.u64.wrap n=n:=λn h=>wrapU h
 rw [this _ (by omega)]
 omega
theorem uwrd{p0 p1 p2 p3:Nat}(h0:p0<256)(h1:p1<256)(h2:p2<256)(h3:p3<256):uOr (uOr (uOr (uShl (IntKind.u32.wrap (p0:Int)) 24) (uShl (IntKind.u32.wrap (p1:Int)) 16)) (uShl (IntKind.u32.wrap (p2:Int)) 8)) (IntKind.u32.wrap (p3:Int))=wI (BitVec.ofNat 32 ((p0*256+p1)*65536+p2*256+p3)):=by
 have g:∀p:Nat,p<4294967296→IntKind.u32.wrap (p:Int)=wI (BitVec.ofNat 32 p):=λp hp=>by
  rw [wrapW];unfold wI;rw [BitVec.toNat_ofNat];omega
 rw [g p0 (by omega),g p1 (by omega),g p2 (by omega),g p3 (by omega),zxo _ 24 (by omega),zxo _ 16 (by omega),zxo _ 8 (by omega),uOr_w,uOr_w,uOr_w]
 congr 1
 apply BitVec.eq_of_toNat_eq
 have e1:p0*2^24 ||| p1*2^16=p0*2^24+p1*2^16:=zn6 _ _ 24 (by omega)
 have e2:(p0*2^24+p1*2^16) ||| p2*2^8=p0*2^24+p1*2^16+p2*2^8:=by
  have:=zn6 (p0*2^8+p1) (p2*2^8) 16 (by omega)
  rw [show (p0*2^8+p1)*2^16=p0*2^24+p1*2^16 by omega] at this
  exact this
 have e3:(p0*2^24+p1*2^16+p2*2^8) ||| p3=p0*2^24+p1*2^16+p2*2^8+p3:=by
  have:=zn6 ((p0*2^8+p1)*2^8+p2) p3 8 (by omega)
  rw [show ((p0*2^8+p1)*2^8+p2)*2^8=p0*2^24+p1*2^16+p2*2^8 by omega] at this
  exact this
 have k:∀(p m:Nat),p*2^m<4294967296→(BitVec.ofNat 32 p <<< m).toNat=p*2^m:=λp m h=>by
  rw [BitVec.toNat_shiftLeft,BitVec.toNat_ofNat,Nat.shiftLeft_eq,Nat.mod_mul_mod,Nat.mod_eq_of_lt h]
 rw [BitVec.toNat_or,BitVec.toNat_or,BitVec.toNat_or,show (24:Int).toNat=24 from rfl,show (16:Int).toNat=16 from rfl,show (8:Int).toNat=8 from rfl,k p0 24 (by omega),k p1 16 (by omega),k p2 8 (by omega),BitVec.toNat_ofNat,BitVec.toNat_ofNat,Nat.mod_eq_of_lt (by omega),e1,e2,e3,Nat.mod_eq_of_lt (by omega)]
 omega
/-! what the walk meets -/
def uC(v:W8):List AV:=[wU v.a,wU v.b,wU v.c,wU v.d,wU v.e,wU v.f,wU v.g,wU v.h]
def schU(b:List UInt8)(i:Nat):List AV:=(sch b i).map wU++List.replicate (64-i) (.g (.int .u32 0))
theorem schU_len(b:List UInt8)(i:Nat)(h:i≤64):(schU b i).length=64:=by unfold schU;simp [zdy];omega
theorem zxp(b:List UInt8):schU b 0=List.replicate 64 (.g (.int .u32 0)):=rfl
theorem drop_at{α:Type}{l:List α}{j:Nat}{x:α}(h:l[j]? = some x):l.drop j=x :: l.drop (j+1):=by
 obtain ⟨h1,rfl⟩:=List.getElem?_eq_some_iff.1 h
 exact List.drop_eq_getElem_cons h1
theorem zxq(b:List UInt8)(i j:Nat)(h:j<i)(hi:i≤64):(schU b i).drop j=wU (wd b j) :: (schU b i).drop (j+1):=by
 refine drop_at ?_
 unfold schU
 rw [List.getElem?_append_left (by simp [zdy];omega),List.getElem?_map,sch_at b i j h hi];rfl
theorem zjr(b:List UInt8)(i:Nat)(z:Int)(j:Nat)(hz:z=j)(h0:0<j)(h:j≤i)(hi:i≤64):(schU b i).drop ((i:Int)-z).toNat=wU (wd b (i-j)) :: (schU b i).drop (i-j+1):=by
 rw [show ((i:Int)-z).toNat=i-j by omega];exact zxq b i _ (by omega) hi
theorem zxr(b:List UInt8)(i:Nat)(h:i<64)(x:W32)(hx:sch b (i+1)=sch b i++[x]):(schU b i).set i (wU x)=schU b (i+1):=by
 unfold schU
 rw [hx,List.set_append_right _ _ (by simp [zdy]),show 64-i=(64-(i+1))+1 by omega,List.replicate_succ]
 simp [zdy]
theorem schU_a(b:List UInt8)(i:Nat)(hi:i<16):(schU b i).set i (wU (wrd b (4*i)))=schU b (i+1):=zxr b i (by omega) _ (by rw [sch,if_pos hi])
theorem schU_b(b:List UInt8)(i:Nat)(h1:16≤i)(hi:i<64):(schU b i).set i (wU (wd b (i-16)+(BitVec.rotateRight (wd b (i-15)) 7 ^^^ BitVec.rotateRight (wd b (i-15)) 18 ^^^ wd b (i-15) >>> 3)+wd b (i-7)+(BitVec.rotateRight (wd b (i-2)) 17 ^^^ BitVec.rotateRight (wd b (i-2)) 19 ^^^ wd b (i-2) >>> 10)))=schU b (i+1):=by
 refine zxr b i hi _ ?_
 rw [sch,if_neg (by omega),zso b i _ (by omega) (by omega),zso b i _ (by omega) (by omega),zso b i _ (by omega) (by omega),zso b i _ (by omega) (by omega)]
 rfl
theorem shaC_eq:shaC=shaK.map wU:=by
 unfold shaC shaN shaK
 simp only [List.map_cons,List.map_nil]
 rfl
theorem shaC_get(i:Nat)(h:i<64):shaC.drop i=wU (kd i) :: shaC.drop (i+1):=by
 refine drop_at ?_
 rw [shaC_eq,List.getElem?_map,kd_at i h];rfl
def stU(h v:W8)(i:Nat):List AV:=(uC (add8 h v)).take i++(uC h).drop i
theorem stU_0(h v:W8):stU h v 0=uC h:=rfl
theorem stU_8(h v:W8):stU h v 8=uC (add8 h v):=rfl
theorem stU_len(h v:W8)(i:Nat)(hi:i≤8):(stU h v i).length=8:=by
 have:i=0∨i=1∨i=2∨i=3∨i=4∨i=5∨i=6∨i=7∨i=8:=by omega
 rcases this with rfl | rfl | rfl | rfl | rfl | rfl | rfl | rfl | rfl<;>rfl
theorem stU_get(h v:W8)(i:Nat)(hi:i<8):(stU h v i).drop i=wU (h.get i) :: (stU h v i).drop (i+1):=by
 have:i=0∨i=1∨i=2∨i=3∨i=4∨i=5∨i=6∨i=7:=by omega
 rcases this with rfl | rfl | rfl | rfl | rfl | rfl | rfl | rfl<;>rfl
theorem uC_get(v:W8)(i:Nat)(hi:i<8):(uC v).drop i=wU (v.get i) :: (uC v).drop (i+1):=by
 have:i=0∨i=1∨i=2∨i=3∨i=4∨i=5∨i=6∨i=7:=by omega
 rcases this with rfl | rfl | rfl | rfl | rfl | rfl | rfl | rfl<;>rfl
theorem stU_set(h v:W8)(i:Nat)(hi:i<8):(stU h v i).set i (wU (h.get i+v.get i))=stU h v (i+1):=by
 have:i=0∨i=1∨i=2∨i=3∨i=4∨i=5∨i=6∨i=7:=by omega
 rcases this with rfl | rfl | rfl | rfl | rfl | rfl | rfl | rfl<;>rfl
theorem zhk{b:List UInt8}{i:Nat}{x:AV}(h:x∈schU b i):∃n,x=.g (.int .u32 n):=by
 unfold schU at h
 rcases List.mem_append.1 h with h | h
 ·obtain ⟨w,-,rfl⟩:=List.mem_map.1 h;exact ⟨_,rfl⟩
 ·exact ⟨0,(List.mem_replicate.1 h).2⟩
theorem uC_mem{v:W8}{x:AV}(h:x∈uC v):∃n,x=.g (.int .u32 n):=by
 simp only [uC,List.mem_cons,List.not_mem_nil,or_false] at h
 rcases h with rfl | rfl | rfl | rfl | rfl | rfl | rfl | rfl<;>exact ⟨_,rfl⟩
theorem zvx{h v:W8}{i:Nat}{x:AV}(hx:x∈stU h v i):∃n,x=.g (.int .u32 n):=by
 unfold stU at hx
 rcases List.mem_append.1 hx with hx | hx
 ·exact uC_mem (List.mem_of_mem_take hx)
 ·exact uC_mem (List.mem_of_mem_drop hx)
theorem ren_g{ρ:Ren}{l:List AV}(h:∀x∈l,∃n,x=.g (.int .u32 n)):l.map (renV ρ)=l:=by
 induction l with
 | nil=>rfl
 | cons x l ih =>
  obtain ⟨n,rfl⟩:=h x List.mem_cons_self
  rw [List.map_cons,ih λy hy=>h y (List.mem_cons_of_mem _ hy)]
  rfl
theorem schU_ren(ρ:Ren)(b:List UInt8)(i:Nat):List.map (renV ρ) (schU b i)=schU b i:=ren_g λ_ h=>zhk h
theorem stU_ren(ρ:Ren)(h v:W8)(i:Nat):List.map (renV ρ) (stU h v i)=stU h v i:=ren_g λ_ h=>zvx h
theorem uC_len(v:W8):(uC v).length=8:=rfl
end Go.Proofs.YtodmafgmdlkhoaaDoor.Vs
end
section
namespace Go.Proofs.YtodmafgmdlkhoaaDoor.Vs
set_option linter.all false
set_option maxRecDepth 100000
set_option maxHeartbeats 4000000
attribute [local simp ↓] uAnd_eq uOr_eq uXor_eq uShl_eq uShr_eq vAnd_eq
attribute [local simp] gv_0
theorem rot32(x:W32)(z:Int)(hz : -32<z∧z<0):PCall Tryd.prog 74 [wU x,(.g (.int .i64 (z)))] (wU (x.rotateRight (-z).toNat)):=by
 have hw:IntKind.u64.wrap z=18446744073709551616+z:=by
  simp [IntKind.wrap,IntKind.bits,IntKind.signed]
  omega
 have hv:=vMask z hz
 have hs:IntKind.u64.wrap (32-(32+z)) = -z:=by rw [wrapU (by omega)];omega
 have hr:=uRot x z hz
 refine zbp Tryd.func74 (by rfl) (by rfl) (by rw [Tryd.ntmps74];exact Nat.le_of_ble_eq_true rfl) rfl (by decide) ?_
 rw [Tryd.ntmps74]
 refine AW_k [(0,_),(1,_)] ⟨rfl,rfl,trivial⟩ ?_
 refine AW_r rfl rfl λK hK=>?_
 simp (disch:=omega) [wU,hw,hv,hs,hr]
 refine hK _ ?_;clear hK K
 refine AW_r rfl rfl λK hK=>?_
 simp (disch:=omega) [wU,hw,hv,hs,hr]
 refine hK _ ?_;clear hK K
 refine AW_r rfl rfl λK hK=>?_
 simp (disch:=omega) [wU,hw,hv,hs,hr]
 repeat' first|(refine ⟨by omega,?_⟩) | fail
 refine hK _ ?_;clear hK K
 refine zbo (zcc ?_)
 simp (disch:=omega) [wU,hw,hv,hs,hr]
theorem fourB(t:List UInt8)(h:4≤t.length):PCall Tryd.prog 73 [.s t] (wU (wrd t 0)):=by
 have h0:0<t.length:=by omega
 have h1:1<t.length:=by omega
 have h2:2<t.length:=by omega
 have h3:3<t.length:=by omega
 have e:=uwrd (UInt8.toNat_lt t[0]) (UInt8.toNat_lt t[1]) (UInt8.toNat_lt t[2]) (UInt8.toNat_lt t[3])
 have ew:BitVec.ofNat 32 ((t[0].toNat*256+t[1].toNat)*65536+t[2].toNat*256+t[3].toNat)=wrd t 0:=by
  unfold wrd
  simp [List.getD_eq_getElem?_getD,List.getElem?_eq_getElem,h0,h1,h2,h3]
 rw [ew] at e
 refine zbp Tryd.func73 (by rfl) (by rfl) (by rw [Tryd.ntmps73];exact Nat.le_of_ble_eq_true rfl) rfl (by decide) ?_
 rw [Tryd.ntmps73]
 refine AW_k [(0,_)] ⟨rfl,trivial⟩ ?_
 refine AW_r rfl rfl λK hK=>?_
 simp (disch:=omega) [wU,e]
 refine hK _ ?_;clear hK K
 refine AW_q rfl mix (by kernel_rfl) rfl λK hK=>?_
 simp (disch:=omega) [wU,e]
 repeat' first|(refine ⟨by omega,?_⟩) | fail
 refine hK _ ?_;clear hK K
 refine zbo (zcc ?_)
 simp (disch:=omega) [wU,e]
theorem wrd_drop(b:List UInt8)(i:Nat):wrd (b.drop (4*i)) 0=wrd b (4*i):=by
 unfold wrd
 simp only [List.getD_eq_getElem?_getD,List.getElem?_drop,Nat.add_zero]
theorem fourB2(b:List UInt8)(i:Nat)(hb:b.length=64)(hi:i<16):PCall Tryd.prog 73 [.s (b.drop (4*i))] (wU (wrd b (4*i))):=by
 rw [←wrd_drop]
 exact fourB _ (by simp;omega)
attribute [local simp] wU uAnd_w uXor_w uOr_w uN_w uN_w2 uNot_w uAdd_w schU_len uC uC_len schU_ren stU_ren
theorem shaBlk(h:W8)(b:List UInt8)(hb:b.length=64):XCall Tryd.prog 60 [.agg (uC h),.s b] [] (.agg (uC (blk h b))) [] []:=by
 refine zbq Tryd.func60 (by rfl) (by rfl) (by rw [Tryd.ntmps60];exact Nat.le_of_ble_eq_true rfl) rfl (by simp) rfl rfl ?_
 rw [Tryd.ntmps60]
 refine zdk   ?_
 refine AW_k [(0,_),(1,_)] ⟨rfl,rfl,trivial⟩ ?_
 refine AW_x rfl rfl λK hK=>?_
 simp (disch:=omega)
 refine hK _ ?_;clear hK K
 refine AW_x rfl rfl λK hK=>?_
 simp (disch:=omega)
 refine hK _ ?_;clear hK K
 refine zbe ?_
 refine AW_x rfl rfl λK hK=>?_
 simp (disch:=omega)
 refine hK _ ?_;clear hK K
 refine zbi ?_
 refine zbt (λmM sS=>∃(i:Nat),mM=16-i∧(i≤16)∧sS = { env:=lkE [(1,.s b),(2,.ptr 48 0),(4,.ptr 80 0),(5,.ptr 96 0),(22,(.g (.int .i64 ((i:Nat)))))],ob:=lk [(48,.cells (uC h)),(80,.cells [.g (.int .u32 0),.g (.int .u32 0),.g (.int .u32 0),.g (.int .u32 0),.g (.int .u32 0),.g (.int .u32 0),.g (.int .u32 0),.g (.int .u32 0)]),(96,.cells (schU b i))] }) ?_ ?_
 ·refine ⟨_,LeS.kx [(48,48),(80,80),(96,96)] [(1,.s b),(2,.ptr 48 0),(4,.ptr 80 0),(5,.ptr 96 0),(22,(.g (.int .i64 (((0):Nat)))))] [(48,.cells (uC h)),(80,.cells [.g (.int .u32 0),.g (.int .u32 0),.g (.int .u32 0),.g (.int .u32 0),.g (.int .u32 0),.g (.int .u32 0),.g (.int .u32 0),.g (.int .u32 0)]),(96,.cells (schU b (0)))] (by simp [zG24,KpR,renV2,renV,zbj,zxp,uC,wU];trace_state) (by simp [zG24,KpOX,renO,plO,cvO,renV,pl1,zxp,uC,wU];trace_state) (by rfl) (by simp) (by simp) (by rfl) (by simp [formsX,List.range_succ,zbr,zbz]),_,0,rfl,?_,rfl⟩
  ·simp
 ·rintro mM sS ⟨i,rfl,hi,rfl⟩
  refine AW_x rfl rfl λK hK=>?_
  simp (disch:=omega)
  refine hK _ ?_;clear hK K
  refine zbe ?_
  refine zbg rfl (λhc1=>?_) (λhc1=>?_)
  ·try simp at hc1
   have hi2:i<16:=by omega
   have hsl:List.take (b.length-(4*(i:Int)).toNat) (List.drop (4*(i:Int)).toNat b)=b.drop (4*i):=by rw [show (4*(i:Int)).toNat=4*i by omega];exact List.take_of_length_le (by simp)
   have hst:=schU_a b i hi2
   refine zbh ?_
   refine zbm ?_
   refine zbe ?_
   refine zbi ?_
   refine AW_x rfl rfl λK hK=>?_
   simp (disch:=omega) [hsl]
   refine hK _ ?_;clear hK K
   refine zb4 rfl rfl λK hK=>?_
   simp (disch:=omega) [hsl]
   repeat' first|(refine zf1 (zbf zd9 zbn) (fourB2 b i hb hi2) rfl ?_;simp (disch:=omega) [hsl])|(refine ⟨by omega,?_⟩) | fail
   refine hK _ ?_;clear hK K
   refine zbm ?_
   refine zb4 rfl rfl λK hK=>?_
   simp (disch:=omega) [hsl]
   refine hK _ ?_;clear hK K
   refine ⟨_,LeS.kx [(48,48),(80,80),(96,96)] [(1,.s b),(2,.ptr 48 0),(4,.ptr 80 0),(5,.ptr 96 0),(22,(.g (.int .i64 (((i+1):Nat)))))] [(48,.cells (uC h)),(80,.cells [.g (.int .u32 0),.g (.int .u32 0),.g (.int .u32 0),.g (.int .u32 0),.g (.int .u32 0),.g (.int .u32 0),.g (.int .u32 0),.g (.int .u32 0)]),(96,.cells (schU b (i+1)))] (by simp [zG24,KpR,renV2,renV,zbj,zxp,uC,wU];trace_state) (by simp [zG24,KpOX,renO,plO,cvO,renV,pl1,zxp,uC,wU];(exact ⟨hst,λx hx=>by obtain ⟨n,rfl⟩:=zhk hx;rfl⟩)) (by rfl) (by simp) (by simp) (by rfl) (by simp [formsX,List.range_succ,zbr,zbz]),_,?_,i+1,rfl,?_,rfl⟩
   ·omega
   ·omega
  ·try simp at hc1
   have hil:i=16:=by omega
   subst hil
   refine zbw ?_
   refine zbm ?_
   refine zbe ?_
   refine AW_x rfl rfl λK hK=>?_
   simp (disch:=omega)
   refine hK _ ?_;clear hK K
   refine zbi ?_
   refine zbt (λmM sS=>∃(i:Nat),mM=64-i∧(16≤i∧i≤64)∧sS = { env:=lkE [(1,.s b),(2,.ptr 48 0),(4,.ptr 80 0),(5,.ptr 96 0),(7,(.g (.int .i64 ((i:Nat)))))],ob:=lk [(48,.cells (uC h)),(80,.cells [.g (.int .u32 0),.g (.int .u32 0),.g (.int .u32 0),.g (.int .u32 0),.g (.int .u32 0),.g (.int .u32 0),.g (.int .u32 0),.g (.int .u32 0)]),(96,.cells (schU b i))] }) ?_ ?_
   ·refine ⟨_,LeS.kx [(48,48),(80,80),(96,96)] [(1,.s b),(2,.ptr 48 0),(4,.ptr 80 0),(5,.ptr 96 0),(7,(.g (.int .i64 (((16):Nat)))))] [(48,.cells (uC h)),(80,.cells [.g (.int .u32 0),.g (.int .u32 0),.g (.int .u32 0),.g (.int .u32 0),.g (.int .u32 0),.g (.int .u32 0),.g (.int .u32 0),.g (.int .u32 0)]),(96,.cells (schU b (16)))] (by simp [zG24,KpR,renV2,renV,zbj,uC,wU];trace_state) (by simp [zG24,KpOX,renO,plO,cvO,renV,pl1,uC,wU];(exact λx hx=>by obtain ⟨n,rfl⟩:=zhk hx;rfl)) (by rfl) (by simp) (by simp) (by rfl) (by simp [formsX,List.range_succ,zbr,zbz]),_,16,rfl,?_,rfl⟩
    ·simp
   ·rintro mM sS ⟨i,rfl,⟨hi1,hi⟩,rfl⟩
    refine zbe ?_
    refine AW_x rfl rfl λK hK=>?_
    simp (disch:=omega)
    refine hK _ ?_;clear hK K
    refine zbg rfl (λhc2=>?_) (λhc2=>?_)
    ·try simp at hc2
     have hi2:i<64:=by omega
     have g15:=zjr b i 15 15 rfl (by omega) (by omega) hi
     have g2:=zjr b i 2 2 rfl (by omega) (by omega) hi
     have g16:=zjr b i 16 16 rfl (by omega) (by omega) hi
     have g7:=zjr b i 7 7 rfl (by omega) (by omega) hi
     have s3:=uShr_w (wd b (i-15)) 3 (by omega)
     have s10:=uShr_w (wd b (i-2)) 10 (by omega)
     have hst:=schU_b b i hi1 hi2
     refine zbh ?_
     refine zbm ?_
     refine zbe ?_
     refine zbi ?_
     refine AW_d rfl mix (by kernel_rfl) (by kernel_rfl) λK hK=>?_
     simp (disch:=omega) [g15,g2,g16,g7,s3,s10]
     repeat' first|(refine ⟨by omega,?_⟩) | fail
     refine hK _ _ (by kernel_rfl) ?_;clear hK K
     refine AW_x rfl rfl λK hK=>?_
     simp (disch:=omega) [g15,g2,g16,g7,s3,s10]
     repeat' first|(refine zf1 (zbf zcb (zbf zcb zbn)) (rot32 _ _ (by decide)) rfl ?_;simp (disch:=omega) [g15,g2,g16,g7,s3,s10]) | fail
     refine hK _ ?_;clear hK K
     refine AW_x rfl rfl λK hK=>?_
     simp (disch:=omega) [g15,g2,g16,g7,s3,s10]
     repeat' first|(refine zf1 (zbf zcb (zbf zcb zbn)) (rot32 _ _ (by decide)) rfl ?_;simp (disch:=omega) [g15,g2,g16,g7,s3,s10]) | fail
     refine hK _ ?_;clear hK K
     refine zje rfl mix (by kernel_rfl) (by kernel_rfl) λK hK=>?_
     simp (disch:=omega) [g15,g2,g16,g7,s3,s10]
     repeat' first|(refine ⟨by omega,?_⟩) | fail
     refine hK _ _ (by kernel_rfl) ?_;clear hK K
     refine zbm ?_
     refine zb4 rfl rfl λK hK=>?_
     simp (disch:=omega) [g15,g2,g16,g7,s3,s10]
     refine hK _ ?_;clear hK K
     refine ⟨_,LeS.kx [(48,48),(80,80),(96,96)] [(1,.s b),(2,.ptr 48 0),(4,.ptr 80 0),(5,.ptr 96 0),(7,(.g (.int .i64 (((i+1):Nat)))))] [(48,.cells (uC h)),(80,.cells [.g (.int .u32 0),.g (.int .u32 0),.g (.int .u32 0),.g (.int .u32 0),.g (.int .u32 0),.g (.int .u32 0),.g (.int .u32 0),.g (.int .u32 0)]),(96,.cells (schU b (i+1)))] (by simp [zG24,KpR,renV2,renV,zbj,uC,wU];trace_state) (by simp [zG24,KpOX,renO,plO,cvO,renV,pl1,uC,wU];(exact ⟨hst,λx hx=>by obtain ⟨n,rfl⟩:=zhk hx;rfl⟩)) (by rfl) (by simp) (by simp) (by rfl) (by simp [formsX,List.range_succ,zbr,zbz]),_,?_,i+1,rfl,?_,rfl⟩
     ·omega
     ·omega
    ·try simp at hc2
     have hil:i=64:=by omega
     subst hil
     refine zbw ?_
     refine zbm ?_
     refine AW_x rfl rfl λK hK=>?_
     simp (disch:=omega)
     refine hK _ ?_;clear hK K
     refine zbe ?_
     refine AW_x rfl rfl λK hK=>?_
     simp (disch:=omega)
     refine hK _ ?_;clear hK K
     refine zbi ?_
     refine zbt (λmM sS=>∃(i:Nat),mM=64-i∧(i≤64)∧sS = { env:=lkE [(2,.ptr 48 0),(4,.ptr 80 0),(5,.ptr 96 0),(12,.ptr 208 0),(77,(.g (.int .i64 ((i:Nat)))))],ob:=lk [(48,.cells (uC h)),(80,.cells [.g (.int .u32 0),.g (.int .u32 0),.g (.int .u32 0),.g (.int .u32 0),.g (.int .u32 0),.g (.int .u32 0),.g (.int .u32 0),.g (.int .u32 0)]),(96,.cells (schU b 64)),(208,.cells (uC (runW b h i)))] }) ?_ ?_
     ·refine ⟨_,LeS.kx [(48,48),(80,80),(96,96),(208,208)] [(2,.ptr 48 0),(4,.ptr 80 0),(5,.ptr 96 0),(12,.ptr 208 0),(77,(.g (.int .i64 (((0):Nat)))))] [(48,.cells (uC h)),(80,.cells [.g (.int .u32 0),.g (.int .u32 0),.g (.int .u32 0),.g (.int .u32 0),.g (.int .u32 0),.g (.int .u32 0),.g (.int .u32 0),.g (.int .u32 0)]),(96,.cells (schU b 64)),(208,.cells (uC (runW b h (0))))] (by simp [zG24,KpR,renV2,renV,zbj,uC,wU,zg6];trace_state) (by simp [zG24,KpOX,renO,plO,cvO,renV,pl1,uC,wU,zg6];(exact λx hx=>by obtain ⟨n,rfl⟩:=zhk hx;rfl)) (by rfl) (by simp) (by simp) (by rfl) (by simp [formsX,List.range_succ,zbr,zbz]),_,0,rfl,?_,rfl⟩
      ·simp
     ·rintro mM sS ⟨i,rfl,hi,rfl⟩
      refine AW_x rfl rfl λK hK=>?_
      simp (disch:=omega)
      refine hK _ ?_;clear hK K
      refine zbe ?_
      refine zbg rfl (λhc3=>?_) (λhc3=>?_)
      ·try simp at hc3
       have hi2:i<64:=by omega
       have gw:=zxq b 64 i hi2 (by omega)
       have gk:=shaC_get i hi2
       obtain ⟨v,hv⟩:∃v,runW b h i=v:=⟨_,rfl⟩
       have hr8:runW b h (i+1)=rnd (kd i) (wd b i) v:=by rw [zsp,hv]
       rw [hv]
       refine zbh ?_
       refine zbm ?_
       refine zbe ?_
       refine zbi ?_
       refine AW_x rfl rfl λK hK=>?_
       simp (disch:=omega) [gw,gk,uC]
       refine hK _ ?_;clear hK K
       refine AW_d rfl mix (by kernel_rfl) (by kernel_rfl) λK hK=>?_
       simp (disch:=omega) [gw,gk,uC]
       refine hK _ _ (by kernel_rfl) ?_;clear hK K
       refine AW_x rfl rfl λK hK=>?_
       simp (disch:=omega) [gw,gk,uC]
       repeat' first|(refine zf1 (zbf zcb (zbf zcb zbn)) (rot32 _ _ (by decide)) rfl ?_;simp (disch:=omega) [gw,gk,uC]) | fail
       refine hK _ ?_;clear hK K
       refine AW_x rfl rfl λK hK=>?_
       simp (disch:=omega) [gw,gk,uC]
       refine hK _ ?_;clear hK K
       refine AW_d rfl mix (by kernel_rfl) (by kernel_rfl) λK hK=>?_
       simp (disch:=omega) [gw,gk,uC]
       repeat' first|(refine ⟨by omega,?_⟩) | fail
       refine hK _ _ (by kernel_rfl) ?_;clear hK K
       refine AW_x rfl rfl λK hK=>?_
       simp (disch:=omega) [gw,gk,uC]
       repeat' first|(refine zf1 (zbf zcb (zbf zcb zbn)) (rot32 _ _ (by decide)) rfl ?_;simp (disch:=omega) [gw,gk,uC]) | fail
       refine hK _ ?_;clear hK K
       refine AW_x rfl rfl λK hK=>?_
       simp (disch:=omega) [gw,gk,uC]
       refine hK _ ?_;clear hK K
       refine zb4 rfl rfl λK hK=>?_
       simp (disch:=omega) [gw,gk,uC]
       refine hK _ ?_;clear hK K
       refine zbm ?_
       refine zb4 rfl rfl λK hK=>?_
       simp (disch:=omega) [gw,gk,uC]
       refine hK _ ?_;clear hK K
       refine ⟨_,LeS.kx [(48,48),(80,80),(96,96),(208,208)] [(2,.ptr 48 0),(4,.ptr 80 0),(5,.ptr 96 0),(12,.ptr 208 0),(77,(.g (.int .i64 (((i+1):Nat)))))] [(48,.cells (uC h)),(80,.cells [.g (.int .u32 0),.g (.int .u32 0),.g (.int .u32 0),.g (.int .u32 0),.g (.int .u32 0),.g (.int .u32 0),.g (.int .u32 0),.g (.int .u32 0)]),(96,.cells (schU b 64)),(208,.cells (uC (runW b h (i+1))))] (by simp [zG24,KpR,renV2,renV,zbj,uC,wU,zg6];trace_state) (by simp [zG24,KpOX,renO,plO,cvO,renV,pl1,uC,wU,zg6];(simp only [hr8,rnd,bs1,bs0,chW,mjW,BitVec.add_assoc];exact ⟨λx hx=>by obtain ⟨n,rfl⟩:=zhk hx;rfl,by simp⟩)) (by rfl) (by simp) (by simp) (by rfl) (by simp [formsX,List.range_succ,zbr,zbz]),_,?_,i+1,rfl,?_,rfl⟩
       ·omega
       ·omega
      ·try simp at hc3
       have hil:i=64:=by omega
       subst hil
       obtain ⟨v,hv⟩:∃v,runW b h 64=v:=⟨_,rfl⟩
       rw [hv]
       refine zbw ?_
       refine zbm ?_
       refine zbe ?_
       refine AW_x rfl rfl λK hK=>?_
       simp (disch:=omega)
       refine hK _ ?_;clear hK K
       refine zbi ?_
       refine zbt (λmM sS=>∃(i:Nat),mM=8-i∧(i≤8)∧sS = { env:=lkE [(2,.ptr 48 0),(4,.ptr 80 0),(12,.ptr 208 0),(162,(.g (.int .i64 ((i:Nat)))))],ob:=lk [(48,.cells (stU h v i)),(80,.cells [.g (.int .u32 0),.g (.int .u32 0),.g (.int .u32 0),.g (.int .u32 0),.g (.int .u32 0),.g (.int .u32 0),.g (.int .u32 0),.g (.int .u32 0)]),(208,.cells (uC v))] }) ?_ ?_
       ·refine ⟨_,LeS.kx [(48,48),(80,80),(208,208)] [(2,.ptr 48 0),(4,.ptr 80 0),(12,.ptr 208 0),(162,(.g (.int .i64 (((0):Nat)))))] [(48,.cells (stU h v (0))),(80,.cells [.g (.int .u32 0),.g (.int .u32 0),.g (.int .u32 0),.g (.int .u32 0),.g (.int .u32 0),.g (.int .u32 0),.g (.int .u32 0),.g (.int .u32 0)]),(208,.cells (uC v))] (by simp [zG24,KpR,renV2,renV,zbj,uC,wU];trace_state) (by simp [zG24,KpOX,renO,plO,cvO,renV,pl1,uC,wU];(exact ⟨(stU_0 h v).symm,λx hx=>by obtain ⟨n,rfl⟩:=zvx hx;rfl⟩)) (by rfl) (by simp) (by simp) (by rfl) (by simp [formsX,List.range_succ,zbr,zbz]),_,0,rfl,?_,rfl⟩
        ·simp
       ·rintro mM sS ⟨i,rfl,hi,rfl⟩
        have hsl:=stU_len h v i hi
        refine AW_x rfl rfl λK hK=>?_
        simp (disch:=omega)
        refine hK _ ?_;clear hK K
        refine zbe ?_
        refine zbg rfl (λhc4=>?_) (λhc4=>?_)
        ·try simp at hc4
         have hi2:i<8:=by omega
         have g1:=stU_get h v i hi2
         have g2:=uC_get v i hi2
         simp only [uC,wU] at g2
         have hst:=stU_set h v i hi2
         refine zbh ?_
         refine zbm ?_
         refine zbe ?_
         refine zbi ?_
         refine AW_x rfl rfl λK hK=>?_
         simp (disch:=omega) [g1,g2,hsl]
         refine hK _ ?_;clear hK K
         refine zje rfl mix (by kernel_rfl) (by kernel_rfl) λK hK=>?_
         simp (disch:=omega) [g1,g2,hsl]
         repeat' first|(refine ⟨by omega,?_⟩) | fail
         refine hK _ _ (by kernel_rfl) ?_;clear hK K
         refine zbm ?_
         refine zb4 rfl rfl λK hK=>?_
         simp (disch:=omega) [g1,g2,hsl]
         refine hK _ ?_;clear hK K
         refine ⟨_,LeS.kx [(48,48),(80,80),(208,208)] [(2,.ptr 48 0),(4,.ptr 80 0),(12,.ptr 208 0),(162,(.g (.int .i64 (((i+1):Nat)))))] [(48,.cells (stU h v (i+1))),(80,.cells [.g (.int .u32 0),.g (.int .u32 0),.g (.int .u32 0),.g (.int .u32 0),.g (.int .u32 0),.g (.int .u32 0),.g (.int .u32 0),.g (.int .u32 0)]),(208,.cells (uC v))] (by simp [zG24,KpR,renV2,renV,zbj,uC,wU];trace_state) (by simp [zG24,KpOX,renO,plO,cvO,renV,pl1,uC,wU];(exact ⟨hst,λx hx=>by obtain ⟨n,rfl⟩:=zvx hx;rfl⟩)) (by rfl) (by simp) (by simp) (by rfl) (by simp [formsX,List.range_succ,zbr,zbz]),_,?_,i+1,rfl,?_,rfl⟩
         ·omega
         ·omega
        ·try simp at hc4
         have hil:i=8:=by omega
         subst hil
         rw [stU_8]
         refine zbw ?_
         refine zbm ?_
         refine AW_x rfl rfl λK hK=>?_
         simp (disch:=omega)
         refine hK _ ?_;clear hK K
         refine zbo (zb7 [] [] (by simp [zG24,List.range_succ]) (by simp) ?_)
         simp (disch:=omega)
         (have hbk:blk h b=add8 h v:=(by unfold blk;rw [hv]);simp [hbk];done)
end Go.Proofs.YtodmafgmdlkhoaaDoor.Vs
end
