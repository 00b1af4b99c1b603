import Derived.Test.YtchpfloemfoomaaSM3
section
namespace Go.Proofs.Ytchpfloemfoomaa.Vs
set_option linter.all false
set_option maxRecDepth 100000
def catM{α:Type}(f:α→List UInt8)(l:List α):List UInt8:=(l.map f).flatten
theorem zct{α:Type}(f:α→List UInt8):catM f []=[]:=rfl
theorem zdx{α:Type}(f:α→List UInt8)(l:List α)(i:Nat)(h:i<l.length):catM f (l.take (i+1))=catM f (l.take i)++f l[i]:=by
 induction l generalizing i with
 | nil=>simp at h
 | cons x xs ih =>
  cases i with
  | zero=>simp [catM]
  | succ i =>
   have:=ih i (by simpa using h)
   simp only [catM,List.take_succ_cons,List.map_cons,List.flatten_cons,List.getElem_cons_succ,List.append_assoc] at this ⊢
   rw [this]
theorem zfm{α:Type}(f:α→List UInt8)(B:Nat):∀(l:List α),(∀x∈l,(f x).length≤B)→(catM f l).length≤l.length*B
 | [],_=>by simp [catM]
 | x :: xs,h=>by
  have h1:=zfm f B xs λy hy=>h y (by simp [hy])
  have h2:=h x (by simp)
  simp only [catM,List.map_cons,List.flatten_cons,List.length_append,List.length_cons] at h1 ⊢
  rw [Nat.succ_mul];omega
theorem zgt{α:Type}(f:α→List UInt8)(B:Nat)(l:List α)(h:∀x∈l,(f x).length≤B)(i:Nat):(catM f (l.take i)).length≤l.length*B:=by
 have h1:=zfm f B (l.take i) λx hx=>h x (List.mem_of_mem_take hx)
 have h2:(l.take i).length≤l.length:=by simp;omega
 exact Nat.le_trans h1 (Nat.mul_le_mul_right _ h2)
theorem zcl(s:List UInt8):(piece s).length≤7+s.length:=by
 have:=zcm s.length
 unfold piece;simp;omega
def showSnap(p:DtCSnap):List UInt8:=piece p.fName++(piece p.fTag++(varZ p.fChunks.length++catM piece p.fChunks))
def showSet(s:DtCSet):List UInt8:=piece s.fName++(varZ s.fSnaps.length++catM showSnap s.fSnaps)
def showSaid(x:DtSaid):List UInt8:=varZ x.fClient++(varZ x.fNo++piece x.fText)
def showSt(s:DtState):List UInt8:=varZ s.fCat.fSets.length++(catM showSet s.fCat.fSets++(varZ s.fSaid.length++catM showSaid s.fSaid))
noncomputable def showState(s:DtState):List UInt8:=bif decB (StateP s) then showSt s else []
theorem znw{α:Type}{l:List α}{x:α}(h:x∈l):∃i:Nat,l[i]? = some x:=List.getElem?_of_mem h
theorem zhf{p:DtCSnap}(h:SnapP p):p.fName.length≤8∧p.fTag.length≤8∧p.fChunks.length≤4∧(∀x∈p.fChunks,x.length=8)∧(showSnap p).length≤97:=by
 obtain ⟨h1,h2,h3,h4,h5⟩:=h
 have a1:p.fName.length≤8:=h1.2.1
 have a2:p.fTag.length≤8:=by rcases h2 with h | h;simp [h];exact h.2.1
 have a3:∀x∈p.fChunks,x.length=8:=by intro x hx;obtain ⟨i,hi⟩:=znw hx;exact h5 i x hi
 refine ⟨a1,a2,h4,a3,?_⟩
 have b1:=zcl p.fName
 have b2:=zcl p.fTag
 have b3:=zcm p.fChunks.length
 have b4:=zfm piece 15 p.fChunks (λx hx=>by have:=zcl x;have:=a3 x hx;omega)
 unfold showSnap
 simp only [List.length_append]
 omega
theorem zjw{s:DtCSet}(h:SetP s):s.fName.length≤8∧s.fSnaps.length≤5∧(∀p∈s.fSnaps,SnapP p)∧(showSet s).length≤507:=by
 obtain ⟨h1,h2,h3⟩:=h
 have a3:∀p∈s.fSnaps,SnapP p:=by intro p hp;obtain ⟨i,hi⟩:=znw hp;exact (h3 i p hi).1
 refine ⟨h1.2.1,h2,a3,?_⟩
 have b1:=zcl s.fName
 have b2:=h1.2.1
 have b3:=zcm s.fSnaps.length
 have b4:=zfm showSnap 97 s.fSnaps (λp hp=>(zhf (a3 p hp)).2.2.2.2)
 unfold showSet
 simp only [List.length_append]
 omega
theorem zxt{x:DtSaid}(h:x.fText.length≤1048576):(showSaid x).length≤1048597:=by
 have b1:=zcl x.fText
 have b2:=zcm x.fClient
 have b3:=zcm x.fNo
 unfold showSaid
 simp only [List.length_append]
 omega
theorem saidSz(s:DtState)(hs:DtState.sz s≤1048576):s.fSaid.length≤1048576∧∀x∈s.fSaid,x.fText.length≤1048576:=by
 have h0:=zcf DtSaid.sz_nonneg s.fSaid
 have h1:=DtCatalog.sz_nonneg s.fCat
 simp only [DtState.sz,szS] at hs
 refine ⟨by omega,λx hx=>?_⟩
 have h2:=zcn DtSaid.sz_nonneg s.fSaid x hx
 simp only [DtSaid.sz] at h2
 omega
def zG10:=And.intro @zce (And.intro @gE @tP)
def zG11:=And.intro @zcb (And.intro @zby @zbt)
def zG12:=And.intro @zbk @zbh
theorem l26Texts(xs:List (List UInt8))(h4:xs.length≤4)(h8:∀x∈xs,x.length=8):PCall Try.prog 30 [.sl 1 (xs.map cS)] (.s (catM piece xs)):=by
 refine zbp Try.func30 (by rfl) (by rfl) (by rw [Try.ntmps30];exact Nat.le_of_ble_eq_true rfl) rfl (by decide) ?_
 rw [Try.ntmps30]
 refine AW_k [(0,_)] ⟨rfl,trivial⟩ ?_
 refine AW_r rfl rfl λK hK=>?_
 simp (disch:=omega) [zG10]
 repeat' first|(refine ⟨by omega,?_⟩)|(intro _)
 refine hK _ ?_;clear hK K
 refine AW_r rfl rfl λK hK=>?_
 simp (disch:=omega) [zG10]
 repeat' first|(refine ⟨by omega,?_⟩)|(intro _)
 refine hK _ ?_;clear hK K
 refine zbf ?_
 refine AW_r rfl rfl λK hK=>?_
 simp (disch:=omega) [zG10]
 repeat' first|(refine ⟨by omega,?_⟩)|(intro _)
 refine hK _ ?_;clear hK K
 refine zbm ?_
 refine zbw (λmM sS=>∃(i:Nat),mM=xs.length-i∧(i≤xs.length)∧sS = { env:=lkE [(0,.sl 1 (xs.map cS)),(3,.s (catM piece (xs.take i))),(4,(.g (.int .i64 ((i:Nat)))))],ob:=formOb [] [] }) ?_ ?_
 ·refine ⟨_,LeS.kp [(0,.sl 1 (xs.map cS)),(3,.s (catM piece (xs.take (0)))),(4,(.g (.int .i64 (((0):Nat)))))] (by simp [zG11,KpE];try simp [zct]),_,0,rfl,?_,rfl⟩
  ·simp
 ·rintro mM sS ⟨i,rfl,hi,rfl⟩
  have hj:=zgt piece 15 xs (λx hx=>by have:=zcl x;have:=h8 x hx;omega) i
  refine zbf ?_
  refine AW_r rfl rfl λK hK=>?_
  simp (disch:=omega) [zG10,cS]
  repeat' first|(refine ⟨by omega,?_⟩)|(intro _)
  refine hK _ ?_;clear hK K
  refine zbi rfl (λhc1=>?_) (λhc1=>?_)
  ·try simp [zG12,zbb,zba] at hc1
   all_goals
    have hst:=zdx piece xs i (by omega)
    have hx8:=h8 _ (List.getElem_mem (n:=i) (h:=by omega))
    have hp8:=zcl xs[i]
    refine zbj ?_
    refine zbo ?_
    refine zbf ?_
    refine zbm ?_
    refine zc0 rfl rfl λK hK=>?_
    simp (disch:=omega) [zG10,cS]
    repeat' first|(exfalso;omega)|(refine zcj (zbe zg6 zbn) (znv _ (by omega)) rfl ?_;simp (disch:=omega) [zG10,cS])|(refine ⟨λ_=>?_,λ_=>?_⟩)|(refine ⟨by omega,?_⟩)|(intro _)
    all_goals (refine hK _ ?_;clear hK K)
    all_goals
     refine zbo ?_
     refine zc0 rfl rfl λK hK=>?_
     simp (disch:=omega) [zG10,cS]
     repeat' first|(refine ⟨by omega,?_⟩)|(intro _)
     refine hK _ ?_;clear hK K
     refine ⟨_,LeS.kp [(0,.sl 1 (xs.map cS)),(3,.s (catM piece (xs.take (i+1)))),(4,(.g (.int .i64 (((i+1):Nat)))))] (by simp [zG11,KpE];try simp [hst,zct]),_,?_,i+1,rfl,?_,rfl⟩
     ·omega
     ·omega
  ·try simp [zG12,zbb,zba] at hc1
   all_goals
    have hi2:i=xs.length:=by omega
    subst hi2
    simp only [List.take_length] at *
    refine zb4 ?_
    refine zbo ?_
    refine AW_r rfl rfl λK hK=>?_
    simp (disch:=omega) [zG10,cS]
    repeat' first|(exfalso;omega)|(refine ⟨λ_=>?_,λ_=>?_⟩)|(refine ⟨by omega,?_⟩)|(intro _)
    all_goals (refine hK _ ?_;clear hK K)
    all_goals
     refine zbl (zb5 ?_)
     simp (disch:=omega) [zG10,cS]
     all_goals first | omega|(simp_all;done)|(simp [List.take_of_length_le];done)|((try simp_all);(try simp (disch:=omega) only [zce,Int.tdiv_eq_ediv_of_nonneg,Int.tmod_eq_emod_of_nonneg,and_true,true_and]);done)|((try simp_all);(try simp (disch:=omega) only [zce,Int.tdiv_eq_ediv_of_nonneg,Int.tmod_eq_emod_of_nonneg,and_true,true_and] at *);omega)
def zG13:=And.intro @zcb (And.intro @zbt (And.intro @zb0 @zgp))
theorem zhx(s:DtState)(hs:DtState.sz s≤1048576):PCall Try.prog 12 [.agg (DtState.cells s)] (.s (showState s)):=by
 have ⟨hz,hl⟩:=znu s hs
 obtain ⟨-,hT⟩:=saidSz s hs
 by_cases hP:StateP s
 ·have hS:∀x∈s.fCat.fSets,SetP x:=by intro x hx;obtain ⟨i,hi⟩:=znw hx;exact (hP.1.2 i x hi).1
  have h5:s.fCat.fSets.length≤5:=hP.1.1
  have hd:=zcw hP
  have hm:s.fSaid.length*1048597≤1048576*1048597:=Nat.mul_le_mul_right _ hl
  have v1:=zcm s.fCat.fSets.length
  have v2:=zcm s.fSaid.length
  have v3:=zfm showSet 507 s.fCat.fSets (λx hx=>(zjw (hS x hx)).2.2.2)
  refine zbp Try.func12 (by rfl) (by rfl) (by rw [Try.ntmps12];exact Nat.le_of_ble_eq_true rfl) rfl (by decide) ?_
  rw [Try.ntmps12]
  refine AW_k [(0,_)] ⟨rfl,trivial⟩ ?_
  refine AW_r rfl rfl λK hK=>?_
  simp (disch:=omega) [zG10,DtState.cells,DtCatalog.cells,DtCSet.cells,DtCSnap.cells,DtSaid.cells,hd]
  repeat' first|(refine ⟨by omega,?_⟩)|(intro _)
  refine hK _ ?_;clear hK K
  refine zbf ?_
  refine AW_r rfl rfl λK hK=>?_
  simp (disch:=omega) [zG10,DtState.cells,DtCatalog.cells,DtCSet.cells,DtCSnap.cells,DtSaid.cells,hd]
  repeat' first|(exfalso;omega)|(refine zcj (zbe (zca rfl) zbn) (zlp _ (by omega)) rfl ?_;simp (disch:=omega) [zG10,DtState.cells,DtCatalog.cells,DtCSet.cells,DtCSnap.cells,DtSaid.cells,hd])|(refine ⟨by omega,?_⟩)|(intro _)
  refine hK _ ?_;clear hK K
  refine zbi rfl (λhc2=>?_) (λhc2=>?_)
  ·try simp [zG12,zbb,zba] at hc2
   all_goals
    refine AW_r rfl rfl λK hK=>?_
    simp (disch:=omega) [zG10,DtState.cells,DtCatalog.cells,DtCSet.cells,DtCSnap.cells,DtSaid.cells,hd]
    repeat' first|(exfalso;omega)|(refine ⟨λ_=>?_,λ_=>?_⟩)|(refine ⟨by omega,?_⟩)|(intro _)
    all_goals (refine hK _ ?_;clear hK K)
    all_goals
     refine zbl (zb5 ?_)
     simp (disch:=omega) [zG10,DtState.cells,DtCatalog.cells,DtCSet.cells,DtCSnap.cells,DtSaid.cells,hd]
     all_goals first|(simp [showState,hd,showSt];done)
  ·try simp [zG12,zbb,zba] at hc2
   all_goals
    refine zbj ?_
    refine zbo ?_
    refine AW_r rfl rfl λK hK=>?_
    simp (disch:=omega) [zG10,DtState.cells,DtCatalog.cells,DtCSet.cells,DtCSnap.cells,DtSaid.cells,hd]
    repeat' first|(exfalso;omega)|(refine zcj (zbe zch zbn) (zhd _) rfl ?_;simp (disch:=omega) [zG10,DtState.cells,DtCatalog.cells,DtCSet.cells,DtCSnap.cells,DtSaid.cells,hd])|(refine ⟨λ_=>?_,λ_=>?_⟩)|(refine ⟨by omega,?_⟩)|(intro _)
    all_goals (refine hK _ ?_;clear hK K)
    all_goals
     refine zbf ?_
     refine AW_r rfl rfl λK hK=>?_
     simp (disch:=omega) [zG10,DtState.cells,DtCatalog.cells,DtCSet.cells,DtCSnap.cells,DtSaid.cells,hd]
     repeat' first|(refine ⟨by omega,?_⟩)|(intro _)
     refine hK _ ?_;clear hK K
     refine zbm ?_
     refine zbw (λmM sS=>∃(i:Nat),mM=s.fCat.fSets.length-i∧(i≤s.fCat.fSets.length)∧sS = { env:=lkE [(1,.ptr 32 0),(3,.s (varZ s.fCat.fSets.length++catM showSet (s.fCat.fSets.take i))),(4,(.g (.int .i64 ((i:Nat)))))],ob:=lk [(32,.cells (DtState.cells s))] }) ?_ ?_
     ·refine ⟨_,LeS.ko [(1,.ptr 32 0),(3,.s (varZ s.fCat.fSets.length++catM showSet (s.fCat.fSets.take (0)))),(4,(.g (.int .i64 (((0):Nat)))))] [(32,.cells (DtState.cells s))] (by simp [zG11,KpE,DtState.cells,DtCatalog.cells,DtCSet.cells,DtCSnap.cells];try simp [zct]) (by simp [zG13,KpO,DtState.cells,DtCatalog.cells,DtCSet.cells,DtCSnap.cells];try rfl) (by rfl) (by simp) (by rfl),_,0,rfl,?_,rfl⟩
      ·simp
     ·rintro mM sS ⟨i,rfl,hi,rfl⟩
      have hb1:=zgt showSet 507 s.fCat.fSets (λx hx=>(zjw (hS x hx)).2.2.2) i
      refine zbf ?_
      refine AW_r rfl rfl λK hK=>?_
      simp (disch:=omega) [zG10,DtState.cells,DtCatalog.cells,DtCSet.cells,DtCSnap.cells,DtSaid.cells,hd]
      repeat' first|(refine ⟨by omega,?_⟩)|(intro _)
      refine hK _ ?_;clear hK K
      refine zbi rfl (λhc3=>?_) (λhc3=>?_)
      ·try simp [zG12,zbb,zba] at hc3
       all_goals
        have hst:=zdx showSet s.fCat.fSets i (by omega)
        have ⟨e1,e2,e3,e4⟩:=zjw (hS _ (List.getElem_mem (n:=i) (h:=by omega)))
        have e5:=zcl (s.fCat.fSets[i]).fName
        have e6:=zcm (s.fCat.fSets[i]).fSnaps.length
        refine zbj ?_
        refine zbo ?_
        refine zbf ?_
        refine zbm ?_
        refine AW_r rfl rfl λK hK=>?_
        simp (disch:=omega) [zG10,DtState.cells,DtCatalog.cells,DtCSet.cells,DtCSnap.cells,DtSaid.cells,hd]
        repeat' first|(exfalso;omega)|(refine ⟨λ_=>?_,λ_=>?_⟩)|(refine ⟨by omega,?_⟩)|(intro _)
        all_goals (refine hK _ ?_;clear hK K)
        all_goals
         refine AW_q rfl mix (by kernel_rfl) rfl λK hK=>?_
         simp (disch:=omega) [zG10,DtState.cells,DtCatalog.cells,DtCSet.cells,DtCSnap.cells,DtSaid.cells,hd]
         repeat' first|(exfalso;omega)|(refine zcj (zbe zg6 zbn) (znv _ (by omega)) rfl ?_;simp (disch:=omega) [zG10,DtState.cells,DtCatalog.cells,DtCSet.cells,DtCSnap.cells,DtSaid.cells,hd])|(refine zcj (zbe zch zbn) (zhd _) rfl ?_;simp (disch:=omega) [zG10,DtState.cells,DtCatalog.cells,DtCSet.cells,DtCSnap.cells,DtSaid.cells,hd])|(refine ⟨by omega,?_⟩)|(intro _)
         refine hK _ ?_;clear hK K
         refine AW_r rfl rfl λK hK=>?_
         simp (disch:=omega) [zG10,DtState.cells,DtCatalog.cells,DtCSet.cells,DtCSnap.cells,DtSaid.cells,hd]
         repeat' first|(refine ⟨by omega,?_⟩)|(intro _)
         refine hK _ ?_;clear hK K
         refine zbm ?_
         refine zbw (λmM sS=>∃(k:Nat),mM=(s.fCat.fSets[i]).fSnaps.length-k∧(k≤(s.fCat.fSets[i]).fSnaps.length)∧sS = { env:=lkE [(1,.ptr 32 0),(3,.s (varZ s.fCat.fSets.length++(catM showSet (s.fCat.fSets.take i)++(piece (s.fCat.fSets[i]).fName++(varZ (s.fCat.fSets[i]).fSnaps.length++catM showSnap ((s.fCat.fSets[i]).fSnaps.take k)))))),(4,(.g (.int .i64 ((i:Nat))))),(5,.ptr 96 0),(6,(.g (.int .i64 ((k:Nat)))))],ob:=lk [(32,.cells (DtState.cells s)),(96,.cells (DtCSet.cells s.fCat.fSets[i]))] }) ?_ ?_
         ·refine ⟨_,LeS.ko [(1,.ptr 32 0),(3,.s (varZ s.fCat.fSets.length++(catM showSet (s.fCat.fSets.take i)++(piece (s.fCat.fSets[i]).fName++(varZ (s.fCat.fSets[i]).fSnaps.length++catM showSnap ((s.fCat.fSets[i]).fSnaps.take (0))))))),(4,(.g (.int .i64 ((i:Nat))))),(5,.ptr 96 0),(6,(.g (.int .i64 (((0):Nat)))))] [(32,.cells (DtState.cells s)),(96,.cells (DtCSet.cells s.fCat.fSets[i]))] (by simp [zG11,KpE,DtState.cells,DtCatalog.cells,DtCSet.cells,DtCSnap.cells];try simp [zct]) (by simp [zG13,KpO,DtState.cells,DtCatalog.cells,DtCSet.cells,DtCSnap.cells];try rfl) (by rfl) (by simp) (by rfl),_,0,rfl,?_,rfl⟩
          ·simp
         ·rintro mM sS ⟨k,rfl,hk,rfl⟩
          have hb2:=zgt showSnap 97 (s.fCat.fSets[i]).fSnaps (λp hp=>(zhf (e3 p hp)).2.2.2.2) k
          refine zbf ?_
          refine AW_r rfl rfl λK hK=>?_
          simp (disch:=omega) [zG10,DtState.cells,DtCatalog.cells,DtCSet.cells,DtCSnap.cells,DtSaid.cells,hd]
          repeat' first|(refine ⟨by omega,?_⟩)|(intro _)
          refine hK _ ?_;clear hK K
          refine zbi rfl (λhc4=>?_) (λhc4=>?_)
          ·try simp [zG12,zbb,zba] at hc4
           all_goals
            have hsp:=zdx showSnap (s.fCat.fSets[i]).fSnaps k (by omega)
            have ⟨f1,f2,f3,f4,f5⟩:=zhf (e3 _ (List.getElem_mem (n:=k) (h:=by omega)))
            have f6:=zcl ((s.fCat.fSets[i]).fSnaps[k]).fName
            have f7:=zcl ((s.fCat.fSets[i]).fSnaps[k]).fTag
            have f8:=zcm ((s.fCat.fSets[i]).fSnaps[k]).fChunks.length
            have f9:=zfm piece 15 ((s.fCat.fSets[i]).fSnaps[k]).fChunks (λx hx=>by have:=zcl x;have:=f4 x hx;omega)
            refine zbj ?_
            refine zbo ?_
            refine zbf ?_
            refine zbm ?_
            refine AW_r rfl rfl λK hK=>?_
            simp (disch:=omega) [zG10,DtState.cells,DtCatalog.cells,DtCSet.cells,DtCSnap.cells,DtSaid.cells,hd]
            repeat' first|(exfalso;omega)|(refine ⟨λ_=>?_,λ_=>?_⟩)|(refine ⟨by omega,?_⟩)|(intro _)
            all_goals (refine hK _ ?_;clear hK K)
            all_goals
             refine AW_qe rfl mix (by kernel_rfl) rfl λK hK=>?_
             simp (disch:=omega) [zG10,DtState.cells,DtCatalog.cells,DtCSet.cells,DtCSnap.cells,DtSaid.cells,hd]
             repeat' first|(exfalso;omega)|(refine zcj (zbe zg6 zbn) (znv _ (by omega)) rfl ?_;simp (disch:=omega) [zG10,DtState.cells,DtCatalog.cells,DtCSet.cells,DtCSnap.cells,DtSaid.cells,hd])|(refine zcj (zbe zch zbn) (zhd _) rfl ?_;simp (disch:=omega) [zG10,DtState.cells,DtCatalog.cells,DtCSet.cells,DtCSnap.cells,DtSaid.cells,hd])|(refine zcj (zbe zfb zbn) (l26Texts _ (by omega) (by assumption)) rfl ?_;simp (disch:=omega) [zG10,DtState.cells,DtCatalog.cells,DtCSet.cells,DtCSnap.cells,DtSaid.cells,hd])|(refine ⟨by omega,?_⟩)|(intro _)
             refine hK _ ?_;clear hK K
             refine zbo ?_
             refine zc0 rfl rfl λK hK=>?_
             simp (disch:=omega) [zG10,DtState.cells,DtCatalog.cells,DtCSet.cells,DtCSnap.cells,DtSaid.cells,hd]
             repeat' first|(refine ⟨by omega,?_⟩)|(intro _)
             refine hK _ ?_;clear hK K
             refine ⟨_,LeS.ko [(1,.ptr 32 0),(3,.s (varZ s.fCat.fSets.length++(catM showSet (s.fCat.fSets.take i)++(piece (s.fCat.fSets[i]).fName++(varZ (s.fCat.fSets[i]).fSnaps.length++catM showSnap ((s.fCat.fSets[i]).fSnaps.take (k+1))))))),(4,(.g (.int .i64 ((i:Nat))))),(5,.ptr 96 0),(6,(.g (.int .i64 (((k+1):Nat)))))] [(32,.cells (DtState.cells s)),(96,.cells (DtCSet.cells s.fCat.fSets[i]))] (by simp [zG11,KpE,DtState.cells,DtCatalog.cells,DtCSet.cells,DtCSnap.cells];try simp [hsp,zct,showSnap]) (by simp [zG13,KpO,DtState.cells,DtCatalog.cells,DtCSet.cells,DtCSnap.cells];try rfl) (by rfl) (by simp) (by rfl),_,?_,k+1,rfl,?_,rfl⟩
             ·omega
             ·omega
          ·try simp [zG12,zbb,zba] at hc4
           all_goals
            have hk2:k=(s.fCat.fSets[i]).fSnaps.length:=by omega
            subst hk2
            simp only [List.take_length] at *
            refine zb4 ?_
            refine zbo ?_
            refine zc0 rfl rfl λK hK=>?_
            simp (disch:=omega) [zG10,DtState.cells,DtCatalog.cells,DtCSet.cells,DtCSnap.cells,DtSaid.cells,hd]
            repeat' first|(exfalso;omega)|(refine ⟨λ_=>?_,λ_=>?_⟩)|(refine ⟨by omega,?_⟩)|(intro _)
            all_goals (refine hK _ ?_;clear hK K)
            all_goals
             refine ⟨_,LeS.ko [(1,.ptr 32 0),(3,.s (varZ s.fCat.fSets.length++catM showSet (s.fCat.fSets.take (i+1)))),(4,(.g (.int .i64 (((i+1):Nat)))))] [(32,.cells (DtState.cells s))] (by simp [zG11,KpE,DtState.cells,DtCatalog.cells,DtCSet.cells,DtCSnap.cells];try simp [hst,zct,showSet]) (by simp [zG13,KpO,DtState.cells,DtCatalog.cells,DtCSet.cells,DtCSnap.cells];try rfl) (by rfl) (by simp) (by rfl),_,?_,i+1,rfl,?_,rfl⟩
             ·omega
             ·omega
      ·try simp [zG12,zbb,zba] at hc3
       all_goals
        have hi2:i=s.fCat.fSets.length:=by omega
        subst hi2
        simp only [List.take_length] at *
        refine zb4 ?_
        refine zbo ?_
        refine AW_r rfl rfl λK hK=>?_
        simp (disch:=omega) [zG10,DtState.cells,DtCatalog.cells,DtCSet.cells,DtCSnap.cells,DtSaid.cells,hd]
        repeat' first|(exfalso;omega)|(refine zcj (zbe zch zbn) (zhd _) rfl ?_;simp (disch:=omega) [zG10,DtState.cells,DtCatalog.cells,DtCSet.cells,DtCSnap.cells,DtSaid.cells,hd])|(refine ⟨λ_=>?_,λ_=>?_⟩)|(refine ⟨by omega,?_⟩)|(intro _)
        all_goals (refine hK _ ?_;clear hK K)
        all_goals
         refine zbf ?_
         refine AW_r rfl rfl λK hK=>?_
         simp (disch:=omega) [zG10,DtState.cells,DtCatalog.cells,DtCSet.cells,DtCSnap.cells,DtSaid.cells,hd]
         repeat' first|(refine ⟨by omega,?_⟩)|(intro _)
         refine hK _ ?_;clear hK K
         refine zbm ?_
         refine zbw (λmM sS=>∃(i:Nat),mM=s.fSaid.length-i∧(i≤s.fSaid.length)∧sS = { env:=lkE [(1,.ptr 32 0),(3,.s (varZ s.fCat.fSets.length++(catM showSet s.fCat.fSets++(varZ s.fSaid.length++catM showSaid (s.fSaid.take i))))),(8,(.g (.int .i64 ((i:Nat)))))],ob:=lk [(32,.cells (DtState.cells s))] }) ?_ ?_
         ·refine ⟨_,LeS.ko [(1,.ptr 32 0),(3,.s (varZ s.fCat.fSets.length++(catM showSet s.fCat.fSets++(varZ s.fSaid.length++catM showSaid (s.fSaid.take (0)))))),(8,(.g (.int .i64 (((0):Nat)))))] [(32,.cells (DtState.cells s))] (by simp [zG11,KpE,DtState.cells,DtCatalog.cells,DtSaid.cells];try simp [zct]) (by simp [zG13,KpO,DtState.cells,DtCatalog.cells,DtSaid.cells];try rfl) (by rfl) (by simp) (by rfl),_,0,rfl,?_,rfl⟩
          ·simp
         ·rintro mM sS ⟨i,rfl,hi,rfl⟩
          have hb3:=zgt showSaid 1048597 s.fSaid (λx hx=>zxt (hT x hx)) i
          refine zbf ?_
          refine AW_r rfl rfl λK hK=>?_
          simp (disch:=omega) [zG10,DtState.cells,DtCatalog.cells,DtCSet.cells,DtCSnap.cells,DtSaid.cells,hd]
          repeat' first|(refine ⟨by omega,?_⟩)|(intro _)
          refine hK _ ?_;clear hK K
          refine zbi rfl (λhc5=>?_) (λhc5=>?_)
          ·try simp [zG12,zbb,zba] at hc5
           all_goals
            have hst:=zdx showSaid s.fSaid i (by omega)
            have g1:=hT _ (List.getElem_mem (n:=i) (h:=by omega))
            have g2:=zcl (s.fSaid[i]).fText
            have g3:=zcm (s.fSaid[i]).fClient
            have g4:=zcm (s.fSaid[i]).fNo
            refine zbj ?_
            refine zbo ?_
            refine zbf ?_
            refine zbm ?_
            refine AW_qe rfl mix (by kernel_rfl) rfl λK hK=>?_
            simp (disch:=omega) [zG10,DtState.cells,DtCatalog.cells,DtCSet.cells,DtCSnap.cells,DtSaid.cells,hd]
            repeat' first|(exfalso;omega)|(refine zcj (zbe zch zbn) (zhd _) rfl ?_;simp (disch:=omega) [zG10,DtState.cells,DtCatalog.cells,DtCSet.cells,DtCSnap.cells,DtSaid.cells,hd])|(refine zcj (zbe zg6 zbn) (znv _ (by omega)) rfl ?_;simp (disch:=omega) [zG10,DtState.cells,DtCatalog.cells,DtCSet.cells,DtCSnap.cells,DtSaid.cells,hd])|(refine ⟨λ_=>?_,λ_=>?_⟩)|(refine ⟨by omega,?_⟩)|(intro _)
            all_goals (refine hK _ ?_;clear hK K)
            all_goals
             refine zbo ?_
             refine zc0 rfl rfl λK hK=>?_
             simp (disch:=omega) [zG10,DtState.cells,DtCatalog.cells,DtCSet.cells,DtCSnap.cells,DtSaid.cells,hd]
             repeat' first|(refine ⟨by omega,?_⟩)|(intro _)
             refine hK _ ?_;clear hK K
             refine ⟨_,LeS.ko [(1,.ptr 32 0),(3,.s (varZ s.fCat.fSets.length++(catM showSet s.fCat.fSets++(varZ s.fSaid.length++catM showSaid (s.fSaid.take (i+1)))))),(8,(.g (.int .i64 (((i+1):Nat)))))] [(32,.cells (DtState.cells s))] (by simp [zG11,KpE,DtState.cells,DtCatalog.cells,DtSaid.cells];try simp [hst,zct,showSaid]) (by simp [zG13,KpO,DtState.cells,DtCatalog.cells,DtSaid.cells];try rfl) (by rfl) (by simp) (by rfl),_,?_,i+1,rfl,?_,rfl⟩
             ·omega
             ·omega
          ·try simp [zG12,zbb,zba] at hc5
           all_goals
            have hi2:i=s.fSaid.length:=by omega
            subst hi2
            simp only [List.take_length] at *
            refine zb4 ?_
            refine zbo ?_
            refine AW_r rfl rfl λK hK=>?_
            simp (disch:=omega) [zG10,DtState.cells,DtCatalog.cells,DtCSet.cells,DtCSnap.cells,DtSaid.cells,hd]
            repeat' first|(exfalso;omega)|(refine ⟨λ_=>?_,λ_=>?_⟩)|(refine ⟨by omega,?_⟩)|(intro _)
            all_goals (refine hK _ ?_;clear hK K)
            all_goals
             refine zbl (zb5 ?_)
             simp (disch:=omega) [zG10,DtState.cells,DtCatalog.cells,DtCSet.cells,DtCSnap.cells,DtSaid.cells,hd]
             all_goals first|(simp [showState,hd,showSt];done)
 ·have hd:=zcx hP
  refine zbp Try.func12 (by rfl) (by rfl) (by rw [Try.ntmps12];exact Nat.le_of_ble_eq_true rfl) rfl (by decide) ?_
  rw [Try.ntmps12]
  refine AW_k [(0,_)] ⟨rfl,trivial⟩ ?_
  refine AW_r rfl rfl λK hK=>?_
  simp (disch:=omega) [zG10,DtState.cells,DtCatalog.cells,hd]
  refine hK _ ?_;clear hK K
  refine zbf (AW_r rfl rfl λK hK=>?_)
  simp (disch:=omega) [zG10,DtState.cells,DtCatalog.cells,hd]
  refine zcj (zbe (zca rfl) zbn) (zlp _ hs) rfl ?_
  simp (disch:=omega) [zG10,DtState.cells,DtCatalog.cells,hd]
  refine hK _ ?_;clear hK K
  refine zjt (by simp) ?_
  refine AW_r rfl rfl λK hK=>?_
  simp (disch:=omega) [zG10,DtState.cells,DtCatalog.cells,hd]
  repeat' first|(refine ⟨by omega,?_⟩)|(intro _)
  refine hK _ ?_;clear hK K
  refine zbl (zb5 ?_)
  simp (disch:=omega) [zG10,DtState.cells,DtCatalog.cells,hd,showState,hd]
  all_goals first | omega|(simp_all;done)|(simp [List.take_of_length_le];done)|((try simp_all);(try simp (disch:=omega) only [zce,Int.tdiv_eq_ediv_of_nonneg,Int.tmod_eq_emod_of_nonneg,and_true,true_and]);done)|((try simp_all);(try simp (disch:=omega) only [zce,Int.tdiv_eq_ediv_of_nonneg,Int.tmod_eq_emod_of_nonneg,and_true,true_and] at *);omega)
theorem zhy(s:DtState)(hs:DtState.sz s≤1048576):PCall Try.prog 17 [.agg (DtState.cells s)] (.s (showState s)):=by
 have ⟨hz,hl⟩:=znu s hs
 obtain ⟨-,hT⟩:=saidSz s hs
 by_cases hP:StateP s
 ·have hS:∀x∈s.fCat.fSets,SetP x:=by intro x hx;obtain ⟨i,hi⟩:=znw hx;exact (hP.1.2 i x hi).1
  have h5:s.fCat.fSets.length≤5:=hP.1.1
  have hd:=zcw hP
  have hm:s.fSaid.length*1048597≤1048576*1048597:=Nat.mul_le_mul_right _ hl
  have v1:=zcm s.fCat.fSets.length
  have v2:=zcm s.fSaid.length
  have v3:=zfm showSet 507 s.fCat.fSets (λx hx=>(zjw (hS x hx)).2.2.2)
  refine zbp Try.func17 (by rfl) (by rfl) (by rw [Try.ntmps17];exact Nat.le_of_ble_eq_true rfl) rfl (by decide) ?_
  rw [Try.ntmps17]
  refine AW_k [(0,_)] ⟨rfl,trivial⟩ ?_
  refine AW_r rfl rfl λK hK=>?_
  simp (disch:=omega) [zG10,DtState.cells,DtCatalog.cells,DtCSet.cells,DtCSnap.cells,DtSaid.cells,hd]
  repeat' first|(refine ⟨by omega,?_⟩)|(intro _)
  refine hK _ ?_;clear hK K
  refine zbf ?_
  refine AW_r rfl rfl λK hK=>?_
  simp (disch:=omega) [zG10,DtState.cells,DtCatalog.cells,DtCSet.cells,DtCSnap.cells,DtSaid.cells,hd]
  repeat' first|(exfalso;omega)|(refine zcj (zbe (zca rfl) zbn) (zlq _ (by omega)) rfl ?_;simp (disch:=omega) [zG10,DtState.cells,DtCatalog.cells,DtCSet.cells,DtCSnap.cells,DtSaid.cells,hd])|(refine ⟨by omega,?_⟩)|(intro _)
  refine hK _ ?_;clear hK K
  refine zbi rfl (λhc6=>?_) (λhc6=>?_)
  ·try simp [zG12,zbb,zba] at hc6
   all_goals
    refine AW_r rfl rfl λK hK=>?_
    simp (disch:=omega) [zG10,DtState.cells,DtCatalog.cells,DtCSet.cells,DtCSnap.cells,DtSaid.cells,hd]
    repeat' first|(exfalso;omega)|(refine ⟨λ_=>?_,λ_=>?_⟩)|(refine ⟨by omega,?_⟩)|(intro _)
    all_goals (refine hK _ ?_;clear hK K)
    all_goals
     refine zbl (zb5 ?_)
     simp (disch:=omega) [zG10,DtState.cells,DtCatalog.cells,DtCSet.cells,DtCSnap.cells,DtSaid.cells,hd]
     all_goals first|(simp [showState,hd,showSt];done)
  ·try simp [zG12,zbb,zba] at hc6
   all_goals
    refine zbj ?_
    refine zbo ?_
    refine AW_r rfl rfl λK hK=>?_
    simp (disch:=omega) [zG10,DtState.cells,DtCatalog.cells,DtCSet.cells,DtCSnap.cells,DtSaid.cells,hd]
    repeat' first|(exfalso;omega)|(refine zcj (zbe zch zbn) (zhe _) rfl ?_;simp (disch:=omega) [zG10,DtState.cells,DtCatalog.cells,DtCSet.cells,DtCSnap.cells,DtSaid.cells,hd])|(refine ⟨λ_=>?_,λ_=>?_⟩)|(refine ⟨by omega,?_⟩)|(intro _)
    all_goals (refine hK _ ?_;clear hK K)
    all_goals
     refine zbf ?_
     refine AW_r rfl rfl λK hK=>?_
     simp (disch:=omega) [zG10,DtState.cells,DtCatalog.cells,DtCSet.cells,DtCSnap.cells,DtSaid.cells,hd]
     repeat' first|(refine ⟨by omega,?_⟩)|(intro _)
     refine hK _ ?_;clear hK K
     refine zbm ?_
     refine zbw (λmM sS=>∃(i:Nat),mM=s.fCat.fSets.length-i∧(i≤s.fCat.fSets.length)∧sS = { env:=lkE [(1,.ptr 32 0),(3,.s (varZ s.fCat.fSets.length++catM showSet (s.fCat.fSets.take i))),(22,.sl 2 (s.fCat.fSets.map DtCSet.cells)),(23,(.g (.int .i64 ((s.fCat.fSets.length:Nat))))),(24,(.g (.int .i64 ((i:Nat)))))],ob:=lk [(32,.cells (DtState.cells s))] }) ?_ ?_
     ·refine ⟨_,LeS.ko [(1,.ptr 32 0),(3,.s (varZ s.fCat.fSets.length++catM showSet (s.fCat.fSets.take (0)))),(22,.sl 2 (s.fCat.fSets.map DtCSet.cells)),(23,(.g (.int .i64 ((s.fCat.fSets.length:Nat))))),(24,(.g (.int .i64 (((0):Nat)))))] [(32,.cells (DtState.cells s))] (by simp [zG11,KpE,DtState.cells,DtCatalog.cells,DtCSet.cells,DtCSnap.cells];try simp [zct]) (by simp [zG13,KpO,DtState.cells,DtCatalog.cells,DtCSet.cells,DtCSnap.cells];try rfl) (by rfl) (by simp) (by rfl),_,0,rfl,?_,rfl⟩
      ·simp
     ·rintro mM sS ⟨i,rfl,hi,rfl⟩
      have hb1:=zgt showSet 507 s.fCat.fSets (λx hx=>(zjw (hS x hx)).2.2.2) i
      refine AW_r rfl rfl λK hK=>?_
      simp (disch:=omega) [zG10,DtState.cells,DtCatalog.cells,DtCSet.cells,DtCSnap.cells,DtSaid.cells,hd]
      repeat' first|(refine ⟨by omega,?_⟩)|(intro _)
      refine hK _ ?_;clear hK K
      refine zbf ?_
      refine zbi rfl (λhc7=>?_) (λhc7=>?_)
      ·try simp [zG12,zbb,zba] at hc7
       all_goals
        have hst:=zdx showSet s.fCat.fSets i (by omega)
        have ⟨e1,e2,e3,e4⟩:=zjw (hS _ (List.getElem_mem (n:=i) (h:=by omega)))
        have e5:=zcl (s.fCat.fSets[i]).fName
        have e6:=zcm (s.fCat.fSets[i]).fSnaps.length
        refine zbj ?_
        refine zbo ?_
        refine zbf ?_
        refine zbm ?_
        refine AW_r rfl rfl λK hK=>?_
        simp (disch:=omega) [zG10,DtState.cells,DtCatalog.cells,DtCSet.cells,DtCSnap.cells,DtSaid.cells,hd]
        repeat' first|(exfalso;omega)|(refine ⟨λ_=>?_,λ_=>?_⟩)|(refine ⟨by omega,?_⟩)|(intro _)
        all_goals (refine hK _ ?_;clear hK K)
        all_goals
         refine AW_q rfl mix (by kernel_rfl) rfl λK hK=>?_
         simp (disch:=omega) [zG10,DtState.cells,DtCatalog.cells,DtCSet.cells,DtCSnap.cells,DtSaid.cells,hd]
         repeat' first|(exfalso;omega)|(refine zcj (zbe zg6 zbn) (sized _ (by omega)) rfl ?_;simp (disch:=omega) [zG10,DtState.cells,DtCatalog.cells,DtCSet.cells,DtCSnap.cells,DtSaid.cells,hd])|(refine zcj (zbe zch zbn) (zhe _) rfl ?_;simp (disch:=omega) [zG10,DtState.cells,DtCatalog.cells,DtCSet.cells,DtCSnap.cells,DtSaid.cells,hd])|(refine ⟨by omega,?_⟩)|(intro _)
         refine hK _ ?_;clear hK K
         refine AW_r rfl rfl λK hK=>?_
         simp (disch:=omega) [zG10,DtState.cells,DtCatalog.cells,DtCSet.cells,DtCSnap.cells,DtSaid.cells,hd]
         repeat' first|(refine ⟨by omega,?_⟩)|(intro _)
         refine hK _ ?_;clear hK K
         refine zbm ?_
         refine zbw (λmM sS=>∃(k:Nat),mM=(s.fCat.fSets[i]).fSnaps.length-k∧(k≤(s.fCat.fSets[i]).fSnaps.length)∧sS = { env:=lkE [(1,.ptr 32 0),(3,.s (varZ s.fCat.fSets.length++(catM showSet (s.fCat.fSets.take i)++(piece (s.fCat.fSets[i]).fName++(varZ (s.fCat.fSets[i]).fSnaps.length++catM showSnap ((s.fCat.fSets[i]).fSnaps.take k)))))),(22,.sl 2 (s.fCat.fSets.map DtCSet.cells)),(23,(.g (.int .i64 ((s.fCat.fSets.length:Nat))))),(24,(.g (.int .i64 ((i:Nat))))),(5,.ptr 96 0),(39,.sl 3 ((s.fCat.fSets[i]).fSnaps.map DtCSnap.cells)),(40,(.g (.int .i64 (((s.fCat.fSets[i]).fSnaps.length:Nat))))),(41,(.g (.int .i64 ((k:Nat)))))],ob:=lk [(32,.cells (DtState.cells s)),(96,.cells (DtCSet.cells s.fCat.fSets[i]))] }) ?_ ?_
         ·refine ⟨_,LeS.ko [(1,.ptr 32 0),(3,.s (varZ s.fCat.fSets.length++(catM showSet (s.fCat.fSets.take i)++(piece (s.fCat.fSets[i]).fName++(varZ (s.fCat.fSets[i]).fSnaps.length++catM showSnap ((s.fCat.fSets[i]).fSnaps.take (0))))))),(22,.sl 2 (s.fCat.fSets.map DtCSet.cells)),(23,(.g (.int .i64 ((s.fCat.fSets.length:Nat))))),(24,(.g (.int .i64 ((i:Nat))))),(5,.ptr 96 0),(39,.sl 3 ((s.fCat.fSets[i]).fSnaps.map DtCSnap.cells)),(40,(.g (.int .i64 (((s.fCat.fSets[i]).fSnaps.length:Nat))))),(41,(.g (.int .i64 (((0):Nat)))))] [(32,.cells (DtState.cells s)),(96,.cells (DtCSet.cells s.fCat.fSets[i]))] (by simp [zG11,KpE,DtState.cells,DtCatalog.cells,DtCSet.cells,DtCSnap.cells];try simp [zct]) (by simp [zG13,KpO,DtState.cells,DtCatalog.cells,DtCSet.cells,DtCSnap.cells];try rfl) (by rfl) (by simp) (by rfl),_,0,rfl,?_,rfl⟩
          ·simp
         ·rintro mM sS ⟨k,rfl,hk,rfl⟩
          have hb2:=zgt showSnap 97 (s.fCat.fSets[i]).fSnaps (λp hp=>(zhf (e3 p hp)).2.2.2.2) k
          refine AW_r rfl rfl λK hK=>?_
          simp (disch:=omega) [zG10,DtState.cells,DtCatalog.cells,DtCSet.cells,DtCSnap.cells,DtSaid.cells,hd]
          repeat' first|(refine ⟨by omega,?_⟩)|(intro _)
          refine hK _ ?_;clear hK K
          refine zbf ?_
          refine zbi rfl (λhc8=>?_) (λhc8=>?_)
          ·try simp [zG12,zbb,zba] at hc8
           all_goals
            have hsp:=zdx showSnap (s.fCat.fSets[i]).fSnaps k (by omega)
            have ⟨f1,f2,f3,f4,f5⟩:=zhf (e3 _ (List.getElem_mem (n:=k) (h:=by omega)))
            have f6:=zcl ((s.fCat.fSets[i]).fSnaps[k]).fName
            have f7:=zcl ((s.fCat.fSets[i]).fSnaps[k]).fTag
            have f8:=zcm ((s.fCat.fSets[i]).fSnaps[k]).fChunks.length
            have f9:=zfm piece 15 ((s.fCat.fSets[i]).fSnaps[k]).fChunks (λx hx=>by have:=zcl x;have:=f4 x hx;omega)
            refine zbj ?_
            refine zbo ?_
            refine zbf ?_
            refine zbm ?_
            refine AW_r rfl rfl λK hK=>?_
            simp (disch:=omega) [zG10,DtState.cells,DtCatalog.cells,DtCSet.cells,DtCSnap.cells,DtSaid.cells,hd]
            repeat' first|(exfalso;omega)|(refine ⟨λ_=>?_,λ_=>?_⟩)|(refine ⟨by omega,?_⟩)|(intro _)
            all_goals (refine hK _ ?_;clear hK K)
            all_goals
             refine AW_q rfl mix (by kernel_rfl) rfl λK hK=>?_
             simp (disch:=omega) [zG10,DtState.cells,DtCatalog.cells,DtCSet.cells,DtCSnap.cells,DtSaid.cells,hd]
             repeat' first|(exfalso;omega)|(refine zcj (zbe zg6 zbn) (sized _ (by omega)) rfl ?_;simp (disch:=omega) [zG10,DtState.cells,DtCatalog.cells,DtCSet.cells,DtCSnap.cells,DtSaid.cells,hd])|(refine zcj (zbe zch zbn) (zhe _) rfl ?_;simp (disch:=omega) [zG10,DtState.cells,DtCatalog.cells,DtCSet.cells,DtCSnap.cells,DtSaid.cells,hd])|(refine ⟨by omega,?_⟩)|(intro _)
             refine hK _ ?_;clear hK K
             refine AW_r rfl rfl λK hK=>?_
             simp (disch:=omega) [zG10,DtState.cells,DtCatalog.cells,DtCSet.cells,DtCSnap.cells,DtSaid.cells,hd]
             repeat' first|(refine ⟨by omega,?_⟩)|(intro _)
             refine hK _ ?_;clear hK K
             refine zbm ?_
             refine zbw (λmM sS=>∃(j:Nat),mM=((s.fCat.fSets[i]).fSnaps[k]).fChunks.length-j∧(j≤((s.fCat.fSets[i]).fSnaps[k]).fChunks.length)∧sS = { env:=lkE [(1,.ptr 32 0),(3,.s (varZ s.fCat.fSets.length++(catM showSet (s.fCat.fSets.take i)++(piece (s.fCat.fSets[i]).fName++(varZ (s.fCat.fSets[i]).fSnaps.length++(catM showSnap ((s.fCat.fSets[i]).fSnaps.take k)++(piece ((s.fCat.fSets[i]).fSnaps[k]).fName++(piece ((s.fCat.fSets[i]).fSnaps[k]).fTag++(varZ ((s.fCat.fSets[i]).fSnaps[k]).fChunks.length++catM piece (((s.fCat.fSets[i]).fSnaps[k]).fChunks.take j)))))))))),(22,.sl 2 (s.fCat.fSets.map DtCSet.cells)),(23,(.g (.int .i64 ((s.fCat.fSets.length:Nat))))),(24,(.g (.int .i64 ((i:Nat))))),(5,.ptr 96 0),(39,.sl 3 ((s.fCat.fSets[i]).fSnaps.map DtCSnap.cells)),(40,(.g (.int .i64 (((s.fCat.fSets[i]).fSnaps.length:Nat))))),(41,(.g (.int .i64 ((k:Nat))))),(60,.sl 1 (((s.fCat.fSets[i]).fSnaps[k]).fChunks.map cS)),(61,(.g (.int .i64 ((((s.fCat.fSets[i]).fSnaps[k]).fChunks.length:Nat))))),(62,(.g (.int .i64 ((j:Nat)))))],ob:=lk [(32,.cells (DtState.cells s)),(96,.cells (DtCSet.cells s.fCat.fSets[i]))] }) ?_ ?_
             ·refine ⟨_,LeS.ko [(1,.ptr 32 0),(3,.s (varZ s.fCat.fSets.length++(catM showSet (s.fCat.fSets.take i)++(piece (s.fCat.fSets[i]).fName++(varZ (s.fCat.fSets[i]).fSnaps.length++(catM showSnap ((s.fCat.fSets[i]).fSnaps.take k)++(piece ((s.fCat.fSets[i]).fSnaps[k]).fName++(piece ((s.fCat.fSets[i]).fSnaps[k]).fTag++(varZ ((s.fCat.fSets[i]).fSnaps[k]).fChunks.length++catM piece (((s.fCat.fSets[i]).fSnaps[k]).fChunks.take (0))))))))))),(22,.sl 2 (s.fCat.fSets.map DtCSet.cells)),(23,(.g (.int .i64 ((s.fCat.fSets.length:Nat))))),(24,(.g (.int .i64 ((i:Nat))))),(5,.ptr 96 0),(39,.sl 3 ((s.fCat.fSets[i]).fSnaps.map DtCSnap.cells)),(40,(.g (.int .i64 (((s.fCat.fSets[i]).fSnaps.length:Nat))))),(41,(.g (.int .i64 ((k:Nat))))),(60,.sl 1 (((s.fCat.fSets[i]).fSnaps[k]).fChunks.map cS)),(61,(.g (.int .i64 ((((s.fCat.fSets[i]).fSnaps[k]).fChunks.length:Nat))))),(62,(.g (.int .i64 (((0):Nat)))))] [(32,.cells (DtState.cells s)),(96,.cells (DtCSet.cells s.fCat.fSets[i]))] (by simp [zG11,KpE,DtState.cells,DtCatalog.cells,DtCSet.cells,DtCSnap.cells];try simp [zct]) (by simp [zG13,KpO,DtState.cells,DtCatalog.cells,DtCSet.cells,DtCSnap.cells];try rfl) (by rfl) (by simp) (by rfl),_,0,rfl,?_,rfl⟩
              ·simp
             ·rintro mM sS ⟨j,rfl,hj,rfl⟩
              have hb4:=zgt piece 15 ((s.fCat.fSets[i]).fSnaps[k]).fChunks (λx hx=>by have:=zcl x;have:=f4 x hx;omega) j
              refine AW_r rfl rfl λK hK=>?_
              simp (disch:=omega) [zG10,DtState.cells,DtCatalog.cells,DtCSet.cells,DtCSnap.cells,DtSaid.cells,hd,cS]
              repeat' first|(refine ⟨by omega,?_⟩)|(intro _)
              refine hK _ ?_;clear hK K
              refine zbf ?_
              refine zbi rfl (λhc9=>?_) (λhc9=>?_)
              ·try simp [zG12,zbb,zba] at hc9
               all_goals
                have hsc:=zdx piece ((s.fCat.fSets[i]).fSnaps[k]).fChunks j (by omega)
                have p1:=zcl (((s.fCat.fSets[i]).fSnaps[k]).fChunks[j])
                have p2:=f4 _ (List.getElem_mem (n:=j) (h:=by omega))
                refine zbj ?_
                refine zbo ?_
                refine zbf ?_
                refine zbm ?_
                refine AW_r rfl rfl λK hK=>?_
                simp (disch:=omega) [zG10,DtState.cells,DtCatalog.cells,DtCSet.cells,DtCSnap.cells,DtSaid.cells,hd,cS]
                repeat' first|(exfalso;omega)|(refine ⟨λ_=>?_,λ_=>?_⟩)|(refine ⟨by omega,?_⟩)|(intro _)
                all_goals (refine hK _ ?_;clear hK K)
                all_goals
                 refine zc0 rfl rfl λK hK=>?_
                 simp (disch:=omega) [zG10,DtState.cells,DtCatalog.cells,DtCSet.cells,DtCSnap.cells,DtSaid.cells,hd,cS]
                 repeat' first|(exfalso;omega)|(refine zcj (zbe zg6 zbn) (sized _ (by omega)) rfl ?_;simp (disch:=omega) [zG10,DtState.cells,DtCatalog.cells,DtCSet.cells,DtCSnap.cells,DtSaid.cells,hd,cS])|(refine ⟨by omega,?_⟩)|(intro _)
                 refine hK _ ?_;clear hK K
                 refine zbo ?_
                 refine zc0 rfl rfl λK hK=>?_
                 simp (disch:=omega) [zG10,DtState.cells,DtCatalog.cells,DtCSet.cells,DtCSnap.cells,DtSaid.cells,hd,cS]
                 repeat' first|(refine ⟨by omega,?_⟩)|(intro _)
                 refine hK _ ?_;clear hK K
                 refine ⟨_,LeS.ko [(1,.ptr 32 0),(3,.s (varZ s.fCat.fSets.length++(catM showSet (s.fCat.fSets.take i)++(piece (s.fCat.fSets[i]).fName++(varZ (s.fCat.fSets[i]).fSnaps.length++(catM showSnap ((s.fCat.fSets[i]).fSnaps.take k)++(piece ((s.fCat.fSets[i]).fSnaps[k]).fName++(piece ((s.fCat.fSets[i]).fSnaps[k]).fTag++(varZ ((s.fCat.fSets[i]).fSnaps[k]).fChunks.length++catM piece (((s.fCat.fSets[i]).fSnaps[k]).fChunks.take (j+1))))))))))),(22,.sl 2 (s.fCat.fSets.map DtCSet.cells)),(23,(.g (.int .i64 ((s.fCat.fSets.length:Nat))))),(24,(.g (.int .i64 ((i:Nat))))),(5,.ptr 96 0),(39,.sl 3 ((s.fCat.fSets[i]).fSnaps.map DtCSnap.cells)),(40,(.g (.int .i64 (((s.fCat.fSets[i]).fSnaps.length:Nat))))),(41,(.g (.int .i64 ((k:Nat))))),(60,.sl 1 (((s.fCat.fSets[i]).fSnaps[k]).fChunks.map cS)),(61,(.g (.int .i64 ((((s.fCat.fSets[i]).fSnaps[k]).fChunks.length:Nat))))),(62,(.g (.int .i64 (((j+1):Nat)))))] [(32,.cells (DtState.cells s)),(96,.cells (DtCSet.cells s.fCat.fSets[i]))] (by simp [zG11,KpE,DtState.cells,DtCatalog.cells,DtCSet.cells,DtCSnap.cells];try simp [hsc,zct]) (by simp [zG13,KpO,DtState.cells,DtCatalog.cells,DtCSet.cells,DtCSnap.cells];try rfl) (by rfl) (by simp) (by rfl),_,?_,j+1,rfl,?_,rfl⟩
                 ·omega
                 ·omega
              ·try simp [zG12,zbb,zba] at hc9
               all_goals
                have hj2:j=((s.fCat.fSets[i]).fSnaps[k]).fChunks.length:=by omega
                subst hj2
                simp only [List.take_length] at *
                refine zb4 ?_
                refine zbo ?_
                refine zc0 rfl rfl λK hK=>?_
                simp (disch:=omega) [zG10,DtState.cells,DtCatalog.cells,DtCSet.cells,DtCSnap.cells,DtSaid.cells,hd,cS]
                repeat' first|(exfalso;omega)|(refine ⟨λ_=>?_,λ_=>?_⟩)|(refine ⟨by omega,?_⟩)|(intro _)
                all_goals (refine hK _ ?_;clear hK K)
                all_goals
                 refine ⟨_,LeS.ko [(1,.ptr 32 0),(3,.s (varZ s.fCat.fSets.length++(catM showSet (s.fCat.fSets.take i)++(piece (s.fCat.fSets[i]).fName++(varZ (s.fCat.fSets[i]).fSnaps.length++catM showSnap ((s.fCat.fSets[i]).fSnaps.take (k+1))))))),(22,.sl 2 (s.fCat.fSets.map DtCSet.cells)),(23,(.g (.int .i64 ((s.fCat.fSets.length:Nat))))),(24,(.g (.int .i64 ((i:Nat))))),(5,.ptr 96 0),(39,.sl 3 ((s.fCat.fSets[i]).fSnaps.map DtCSnap.cells)),(40,(.g (.int .i64 (((s.fCat.fSets[i]).fSnaps.length:Nat))))),(41,(.g (.int .i64 (((k+1):Nat)))))] [(32,.cells (DtState.cells s)),(96,.cells (DtCSet.cells s.fCat.fSets[i]))] (by simp [zG11,KpE,DtState.cells,DtCatalog.cells,DtCSet.cells,DtCSnap.cells];try simp [hsp,zct,showSnap]) (by simp [zG13,KpO,DtState.cells,DtCatalog.cells,DtCSet.cells,DtCSnap.cells];try rfl) (by rfl) (by simp) (by rfl),_,?_,k+1,rfl,?_,rfl⟩
                 ·omega
                 ·omega
          ·try simp [zG12,zbb,zba] at hc8
           all_goals
            have hk2:k=(s.fCat.fSets[i]).fSnaps.length:=by omega
            subst hk2
            simp only [List.take_length] at *
            refine zb4 ?_
            refine zbo ?_
            refine zc0 rfl rfl λK hK=>?_
            simp (disch:=omega) [zG10,DtState.cells,DtCatalog.cells,DtCSet.cells,DtCSnap.cells,DtSaid.cells,hd]
            repeat' first|(exfalso;omega)|(refine ⟨λ_=>?_,λ_=>?_⟩)|(refine ⟨by omega,?_⟩)|(intro _)
            all_goals (refine hK _ ?_;clear hK K)
            all_goals
             refine ⟨_,LeS.ko [(1,.ptr 32 0),(3,.s (varZ s.fCat.fSets.length++catM showSet (s.fCat.fSets.take (i+1)))),(22,.sl 2 (s.fCat.fSets.map DtCSet.cells)),(23,(.g (.int .i64 ((s.fCat.fSets.length:Nat))))),(24,(.g (.int .i64 (((i+1):Nat)))))] [(32,.cells (DtState.cells s))] (by simp [zG11,KpE,DtState.cells,DtCatalog.cells,DtCSet.cells,DtCSnap.cells];try simp [hst,zct,showSet]) (by simp [zG13,KpO,DtState.cells,DtCatalog.cells,DtCSet.cells,DtCSnap.cells];try rfl) (by rfl) (by simp) (by rfl),_,?_,i+1,rfl,?_,rfl⟩
             ·omega
             ·omega
      ·try simp [zG12,zbb,zba] at hc7
       all_goals
        have hi2:i=s.fCat.fSets.length:=by omega
        subst hi2
        simp only [List.take_length] at *
        refine zb4 ?_
        refine zbo ?_
        refine AW_r rfl rfl λK hK=>?_
        simp (disch:=omega) [zG10,DtState.cells,DtCatalog.cells,DtCSet.cells,DtCSnap.cells,DtSaid.cells,hd]
        repeat' first|(exfalso;omega)|(refine zcj (zbe zch zbn) (zhe _) rfl ?_;simp (disch:=omega) [zG10,DtState.cells,DtCatalog.cells,DtCSet.cells,DtCSnap.cells,DtSaid.cells,hd])|(refine ⟨λ_=>?_,λ_=>?_⟩)|(refine ⟨by omega,?_⟩)|(intro _)
        all_goals (refine hK _ ?_;clear hK K)
        all_goals
         refine zbf ?_
         refine AW_r rfl rfl λK hK=>?_
         simp (disch:=omega) [zG10,DtState.cells,DtCatalog.cells,DtCSet.cells,DtCSnap.cells,DtSaid.cells,hd]
         repeat' first|(refine ⟨by omega,?_⟩)|(intro _)
         refine hK _ ?_;clear hK K
         refine zbm ?_
         refine zbw (λmM sS=>∃(i:Nat),mM=s.fSaid.length-i∧(i≤s.fSaid.length)∧sS = { env:=lkE [(1,.ptr 32 0),(3,.s (varZ s.fCat.fSets.length++(catM showSet s.fCat.fSets++(varZ s.fSaid.length++catM showSaid (s.fSaid.take i))))),(80,.sl 3 (s.fSaid.map DtSaid.cells)),(81,(.g (.int .i64 ((s.fSaid.length:Nat))))),(82,(.g (.int .i64 ((i:Nat)))))],ob:=lk [(32,.cells (DtState.cells s))] }) ?_ ?_
         ·refine ⟨_,LeS.ko [(1,.ptr 32 0),(3,.s (varZ s.fCat.fSets.length++(catM showSet s.fCat.fSets++(varZ s.fSaid.length++catM showSaid (s.fSaid.take (0)))))),(80,.sl 3 (s.fSaid.map DtSaid.cells)),(81,(.g (.int .i64 ((s.fSaid.length:Nat))))),(82,(.g (.int .i64 (((0):Nat)))))] [(32,.cells (DtState.cells s))] (by simp [zG11,KpE,DtState.cells,DtCatalog.cells,DtSaid.cells];try simp [zct]) (by simp [zG13,KpO,DtState.cells,DtCatalog.cells,DtSaid.cells];try rfl) (by rfl) (by simp) (by rfl),_,0,rfl,?_,rfl⟩
          ·simp
         ·rintro mM sS ⟨i,rfl,hi,rfl⟩
          have hb3:=zgt showSaid 1048597 s.fSaid (λx hx=>zxt (hT x hx)) i
          refine AW_r rfl rfl λK hK=>?_
          simp (disch:=omega) [zG10,DtState.cells,DtCatalog.cells,DtCSet.cells,DtCSnap.cells,DtSaid.cells,hd]
          repeat' first|(refine ⟨by omega,?_⟩)|(intro _)
          refine hK _ ?_;clear hK K
          refine zbf ?_
          refine zbi rfl (λhc10=>?_) (λhc10=>?_)
          ·try simp [zG12,zbb,zba] at hc10
           all_goals
            have hst:=zdx showSaid s.fSaid i (by omega)
            have g1:=hT _ (List.getElem_mem (n:=i) (h:=by omega))
            have g2:=zcl (s.fSaid[i]).fText
            have g3:=zcm (s.fSaid[i]).fClient
            have g4:=zcm (s.fSaid[i]).fNo
            refine zbj ?_
            refine zbo ?_
            refine zbf ?_
            refine zbm ?_
            refine AW_r rfl rfl λK hK=>?_
            simp (disch:=omega) [zG10,DtState.cells,DtCatalog.cells,DtCSet.cells,DtCSnap.cells,DtSaid.cells,hd]
            repeat' first|(exfalso;omega)|(refine ⟨λ_=>?_,λ_=>?_⟩)|(refine ⟨by omega,?_⟩)|(intro _)
            all_goals (refine hK _ ?_;clear hK K)
            all_goals
             refine AW_qe rfl mix (by kernel_rfl) rfl λK hK=>?_
             simp (disch:=omega) [zG10,DtState.cells,DtCatalog.cells,DtCSet.cells,DtCSnap.cells,DtSaid.cells,hd]
             repeat' first|(exfalso;omega)|(refine zcj (zbe zch zbn) (zhe _) rfl ?_;simp (disch:=omega) [zG10,DtState.cells,DtCatalog.cells,DtCSet.cells,DtCSnap.cells,DtSaid.cells,hd])|(refine zcj (zbe zg6 zbn) (sized _ (by omega)) rfl ?_;simp (disch:=omega) [zG10,DtState.cells,DtCatalog.cells,DtCSet.cells,DtCSnap.cells,DtSaid.cells,hd])|(refine ⟨by omega,?_⟩)|(intro _)
             refine hK _ ?_;clear hK K
             refine zbo ?_
             refine zc0 rfl rfl λK hK=>?_
             simp (disch:=omega) [zG10,DtState.cells,DtCatalog.cells,DtCSet.cells,DtCSnap.cells,DtSaid.cells,hd]
             repeat' first|(refine ⟨by omega,?_⟩)|(intro _)
             refine hK _ ?_;clear hK K
             refine ⟨_,LeS.ko [(1,.ptr 32 0),(3,.s (varZ s.fCat.fSets.length++(catM showSet s.fCat.fSets++(varZ s.fSaid.length++catM showSaid (s.fSaid.take (i+1)))))),(80,.sl 3 (s.fSaid.map DtSaid.cells)),(81,(.g (.int .i64 ((s.fSaid.length:Nat))))),(82,(.g (.int .i64 (((i+1):Nat)))))] [(32,.cells (DtState.cells s))] (by simp [zG11,KpE,DtState.cells,DtCatalog.cells,DtSaid.cells];try simp [hst,zct,showSaid]) (by simp [zG13,KpO,DtState.cells,DtCatalog.cells,DtSaid.cells];try rfl) (by rfl) (by simp) (by rfl),_,?_,i+1,rfl,?_,rfl⟩
             ·omega
             ·omega
          ·try simp [zG12,zbb,zba] at hc10
           all_goals
            have hi2:i=s.fSaid.length:=by omega
            subst hi2
            simp only [List.take_length] at *
            refine zb4 ?_
            refine zbo ?_
            refine AW_r rfl rfl λK hK=>?_
            simp (disch:=omega) [zG10,DtState.cells,DtCatalog.cells,DtCSet.cells,DtCSnap.cells,DtSaid.cells,hd]
            repeat' first|(exfalso;omega)|(refine ⟨λ_=>?_,λ_=>?_⟩)|(refine ⟨by omega,?_⟩)|(intro _)
            all_goals (refine hK _ ?_;clear hK K)
            all_goals
             refine zbl (zb5 ?_)
             simp (disch:=omega) [zG10,DtState.cells,DtCatalog.cells,DtCSet.cells,DtCSnap.cells,DtSaid.cells,hd]
             all_goals first|(simp [showState,hd,showSt];done)
 ·have hd:=zcx hP
  refine zbp Try.func17 (by rfl) (by rfl) (by rw [Try.ntmps17];exact Nat.le_of_ble_eq_true rfl) rfl (by decide) ?_
  rw [Try.ntmps17]
  refine AW_k [(0,_)] ⟨rfl,trivial⟩ ?_
  refine AW_r rfl rfl λK hK=>?_
  simp (disch:=omega) [zG10,DtState.cells,DtCatalog.cells,hd]
  refine hK _ ?_;clear hK K
  refine zbf (AW_r rfl rfl λK hK=>?_)
  simp (disch:=omega) [zG10,DtState.cells,DtCatalog.cells,hd]
  refine zcj (zbe (zca rfl) zbn) (zlq _ hs) rfl ?_
  simp (disch:=omega) [zG10,DtState.cells,DtCatalog.cells,hd]
  refine hK _ ?_;clear hK K
  refine zjt (by simp) ?_
  refine AW_r rfl rfl λK hK=>?_
  simp (disch:=omega) [zG10,DtState.cells,DtCatalog.cells,hd]
  repeat' first|(refine ⟨by omega,?_⟩)|(intro _)
  refine hK _ ?_;clear hK K
  refine zbl (zb5 ?_)
  simp (disch:=omega) [zG10,DtState.cells,DtCatalog.cells,hd,showState,hd]
  all_goals first | omega|(simp_all;done)|(simp [List.take_of_length_le];done)|((try simp_all);(try simp (disch:=omega) only [zce,Int.tdiv_eq_ediv_of_nonneg,Int.tmod_eq_emod_of_nonneg,and_true,true_and]);done)|((try simp_all);(try simp (disch:=omega) only [zce,Int.tdiv_eq_ediv_of_nonneg,Int.tmod_eq_emod_of_nonneg,and_true,true_and] at *);omega)
end Go.Proofs.Ytchpfloemfoomaa.Vs
end
section
namespace Go.Proofs.Ytchpfloemfoomaa.Vs
set_option linter.all false
set_option maxRecDepth 100000
/-! A number of seven bits a byte, as it is read -/
def vval:List UInt8→Nat
 | []=>0
 | b :: t=>b.toNat % 128+128*vval t
theorem zqf:∀(l:List UInt8) (b:UInt8),vval (l++[b])=vval l+b.toNat % 128*128^l.length
 | [],b=>by simp [vval]
 | a :: l,b=>by
  have ih:=zqf l b
  simp only [List.cons_append,vval,ih,List.length_cons,Nat.pow_succ]
  rw [Nat.mul_add,←Nat.add_assoc,Nat.mul_comm (128^l.length) 128,←Nat.mul_assoc,←Nat.mul_assoc,Nat.mul_comm 128 (b.toNat % 128)]
theorem zr8:∀l:List UInt8,vval l<128^l.length
 | []=>by simp [vval]
 | a :: l=>by
  have ih:=zr8 l
  have h2:a.toNat % 128<128:=Nat.mod_lt _ (by decide)
  simp only [vval,List.length_cons,Nat.pow_succ]
  omega
theorem zhz(n:Nat):1≤(varB n).length:=by
 by_cases h:n<128
 ·rw [zff h];simp
 ·rw [zjn h];simp
theorem zkh{m:Nat}(h:m<256):(UInt8.ofNat m).toNat=m:=by
 rw [UInt8.toNat_ofNat'];omega
theorem varB_val:∀(k n:Nat),n≤k→vval (varB n)=n:=by
 intro k
 induction k with
 | zero => intro n h; obtain rfl : n = 0 := by omega
           rw [zff (by decide)];simp [vval]
 | succ k ih =>
  intro n h
  by_cases h2:n<128
  ·rw [zff h2];simp only [vval];rw [zkh (by omega)];omega
  ·rw [zjn h2]
   simp only [vval]
   rw [zkh (by omega),ih (n / 128) (by omega)]
   omega
/-- All its bytes but the last are at least 128. -/
theorem varB_at:∀(k n:Nat),n≤k→∀(i:Nat) b,(varB n)[i]? = some b→(128≤b.toNat↔i+1<(varB n).length):=by
 intro k
 induction k with
 | zero =>
  intro n h i b hb;obtain rfl:n=0:=by omega
  rw [zff (by decide)] at hb ⊢
  cases i with
  | zero=>simp at hb;subst hb;simp
  | succ i=>simp at hb
 | succ k ih =>
  intro n h i b hb
  by_cases h2:n<128
  ·rw [zff h2] at hb ⊢
   cases i with
   | zero=>simp only [List.getElem?_cons_zero,Option.some.injEq] at hb;subst hb;rw [zkh (by omega)];simp;omega
   | succ i=>simp at hb
  ·rw [zjn h2] at hb ⊢
   have hp:=zhz (n / 128)
   cases i with
   | zero=>simp only [List.getElem?_cons_zero,Option.some.injEq] at hb;subst hb;rw [zkh (by omega)];simp only [List.length_cons];omega
   | succ i =>
    simp only [List.getElem?_cons_succ] at hb
    have:=ih (n / 128) (by omega) i b hb
    simp only [List.length_cons]
    rw [this];omega
/-- A number stands in the first k bytes. -/
def RVk(s:List UInt8)(k:Nat):Prop:=1≤k∧k≤7∧k≤s.length∧varZ (vval (s.take k))=s.take k
theorem rvk_B{s:List UInt8}{k:Nat}(h:RVk s k):varB (vval (s.take k))=s.take k∧vval (s.take k)≤562949953421311:=by
 obtain ⟨h1,h2,h3,h4⟩:=h
 unfold varZ at h4
 split at h4
 ·rename_i h5
  rw [Int.toNat_natCast] at h4
  exact ⟨h4,by omega⟩
 ·have:=congrArg List.length h4
  simp only [List.length_nil,List.length_take] at this
  omega
theorem zqg{s:List UInt8}{k:Nat}(h:RVk s k){i:Nat}(hi:i<k){b:UInt8}(hb:s[i]? = some b):128≤b.toNat↔i+1<k:=by
 obtain ⟨h1,h2⟩:=rvk_B h
 have h3:=varB_at _ _ (Nat.le_refl _) i b (by rw [h1,List.getElem?_take,if_pos hi];exact hb)
 rw [h1,List.length_take,Nat.min_eq_left h.2.2.1] at h3
 exact h3
theorem rvk_uniq{s:List UInt8}{k m:Nat}(h:RVk s k)(g:RVk s m):k=m:=by
 have key:∀ {k m:Nat},RVk s k→RVk s m→¬k<m:=by
  intro k m h g hlt
  have hk:k-1<s.length:=by have:=h.1;have:=h.2.2.1;omega
  have hb:s[k-1]? = some s[k-1]:=List.getElem?_eq_getElem hk
  have h1:=zqg h (i:=k-1) (by have:=h.1;omega) hb
  have h2:=zqg g (i:=k-1) (by omega) hb
  have:=h.1
  omega
 have:=key h g
 have:=key g h
 omega
open Classical in
noncomputable def RV(s:List UInt8):Int × Int:=if h:∃k,RVk s k then (((vval (s.take h.choose):Nat):Int),((h.choose:Nat):Int)) else (0,0)
theorem zhg{s:List UInt8}{k:Nat}(h:RVk s k):RV s=(((vval (s.take k):Nat):Int),(k:Int)):=by
 have hx:∃k,RVk s k:=⟨k,h⟩
 unfold RV
 rw [dif_pos hx,rvk_uniq hx.choose_spec h]
theorem zlt{s:List UInt8}(h:∀k,¬RVk s k):RV s=(0,0):=by
 unfold RV
 rw [dif_neg λ⟨k,hk⟩=>h k hk]
theorem RV_cases(s:List UInt8):(RV s=(0,0))∨∃k,RVk s k∧RV s=(((vval (s.take k):Nat):Int),(k:Int)):=by
 by_cases h:∃k,RVk s k
 ·obtain ⟨k,hk⟩:=h;exact .inr ⟨k,hk,zhg hk⟩
 ·exact .inl (zlt λk hk=>h ⟨k,hk⟩)
theorem zxu(s:List UInt8):0≤(RV s).1∧(RV s).1≤562949953421311∧0≤(RV s).2∧(RV s).2≤7∧(RV s).2≤s.length:=by
 rcases RV_cases s with h | ⟨k,hk,h⟩
 ·rw [h];simp
 ·rw [h]
  have:=(rvk_B hk).2
  obtain ⟨h1,h2,h3,-⟩:=hk
  refine ⟨?_,?_,?_,?_,?_⟩<;>omega
/-- What is shown is read. -/
theorem zxv(n:Int)(h:0≤n∧n≤562949953421311)(r:List UInt8):RV (varZ n++r)=(n,(((varZ n).length:Nat):Int)):=by
 have hB:varZ n=varB n.toNat:=by unfold varZ;rw [if_pos h]
 have hl:=zcm n
 have hp:=zhz n.toNat
 have hv:=varB_val _ n.toNat (Nat.le_refl _)
 have ht:(varZ n++r).take (varZ n).length=varZ n:=by simp
 have hk:RVk (varZ n++r) (varZ n).length:=by
  refine ⟨by rw [hB];exact hp,hl,by simp,?_⟩
  rw [ht]
  have:vval (varZ n)=n.toNat:=by rw [hB];exact hv
  rw [this,Int.toNat_of_nonneg h.1]
 rw [zhg hk,ht,hB,hv,Int.toNat_of_nonneg h.1]
/-- A first low byte that makes no number: none stands there. -/
theorem zxw{s:List UInt8}{i:Nat}(hhi:∀(j:Nat) b,j<i→s[j]? = some b→128≤b.toNat){b:UInt8}(hb:s[i]? = some b)(hlo:b.toNat<128)(hn:¬varZ (vval (s.take (i+1)))=s.take (i+1)):RV s=(0,0):=by
 refine zlt λk hk=>?_
 have h1:=hk.1
 have h3:=hk.2.2.1
 rcases Nat.lt_trichotomy k (i+1) with h | h | h
 ·have hb2:s[k-1]? = some s[k-1]:=List.getElem?_eq_getElem (by omega)
  have h4:=zqg hk (i:=k-1) (by omega) hb2
  have h5:=hhi (k-1) _ (by omega) hb2
  omega
 ·subst h;exact hn hk.2.2.2
 ·have:=zqg hk (i:=i) (by omega) hb
  omega
theorem zxx{s:List UInt8}{i:Nat}(hhi:∀(j:Nat) b,j<i→s[j]? = some b→128≤b.toNat)(he:i=s.length∨i=7):RV s=(0,0):=by
 refine zlt λk hk=>?_
 have h1:=hk.1
 have h2:=hk.2.1
 have h3:=hk.2.2.1
 have hb2:s[k-1]? = some s[k-1]:=List.getElem?_eq_getElem (by omega)
 have h4:=zqg hk (i:=k-1) (by omega) hb2
 have h5:=hhi (k-1) _ (by omega) hb2
 omega
end Go.Proofs.Ytchpfloemfoomaa.Vs
end
section
namespace Go.Proofs.Ytchpfloemfoomaa.Vs
set_option linter.all false
set_option maxRecDepth 100000
theorem orN(v i:Nat)(b:UInt8)(hv:v<128^i)(hi:i<7):IntKind.i64.wrap ((v % 2^IntKind.i64.bits |||(IntKind.i64.wrap (IntKind.i64.wrap (IntKind.u8.wrap ((b.toNat % 2^IntKind.u8.bits &&& 127 % 2^IntKind.u8.bits:Nat):Int))*2^min (7*(i:Int)).toNat IntKind.i64.bits) % 2^IntKind.i64.bits).toNat:Nat):Int)=((v+b.toNat % 128*128^i:Nat):Int):=by
 have hb:=b.toNat_lt
 have hb8:IntKind.u8.bits=8:=rfl
 have hb64:IntKind.i64.bits=64:=rfl
 have h1:b.toNat % 2^IntKind.u8.bits &&& 127 % 2^IntKind.u8.bits=b.toNat % 128:=by
  have e:(127:Nat) % 2^IntKind.u8.bits=2^7-1:=by decide
  rw [e,Nat.and_two_pow_sub_one_eq_mod,hb8];omega
 rw [h1,zgs (by omega) (by omega),zce (n:=((b.toNat % 128:Nat):Int)) (by omega) (by omega)]
 have h2:min (7*(i:Int)).toNat IntKind.i64.bits=7*i:=by rw [hb64];omega
 rw [h2]
 have hp:(128:Nat)^i=2^(7*i):=by rw [Nat.pow_mul]
 rw [hp] at hv ⊢
 have hP:2^(7*i)≤2^42:=Nat.pow_le_pow_right (by decide) (by omega)
 have hm:b.toNat % 128*2^(7*i)≤127*2^42:=Nat.mul_le_mul (by omega) hP
 have hc:((b.toNat % 128:Nat):Int)*2^(7*i)=((b.toNat % 128*2^(7*i):Nat):Int):=by rw [Int.natCast_mul,Int.natCast_pow];rfl
 rw [hc]
 have h5:v ||| b.toNat % 128*2^(7*i)=v+b.toNat % 128*2^(7*i):=by
  have:=Nat.two_pow_add_eq_or_of_lt (i:=7*i) (b:=v) hv (b.toNat % 128)
  rw [Nat.or_comm,Nat.mul_comm,←this];omega
 generalize b.toNat % 128*2^(7*i)=M at *
 rw [zce (n:=(M:Int)) (by omega) (by omega),hb64]
 have h3:((M:Int) % 2^64).toNat=M:=by omega
 have h4:v % 2^64=v:=by omega
 rw [h3,h4,h5,zce (by omega) (by omega)]
theorem zxy{s:List UInt8}{i:Nat}(h:i<s.length):vval (s.take (i+1))=vval (s.take i)+s[i].toNat % 128*128^i:=by
 rw [List.take_succ_eq_append_getElem h,zqf,List.length_take,Nat.min_eq_left (by omega)]
theorem orS{s:List UInt8}{i:Nat}(hi:i<7)(h:i<s.length):IntKind.i64.wrap ((vval (s.take i) % 2^IntKind.i64.bits |||(IntKind.i64.wrap (IntKind.i64.wrap (IntKind.u8.wrap ((s[i].toNat % 2^IntKind.u8.bits &&& 127 % 2^IntKind.u8.bits:Nat):Int))*2^min (7*(i:Int)).toNat IntKind.i64.bits) % 2^IntKind.i64.bits).toNat:Nat):Int)=((vval (s.take (i+1)):Nat):Int):=by
 have hv:=zr8 (s.take i)
 rw [List.length_take,Nat.min_eq_left (by omega)] at hv
 rw [orN _ _ _ hv hi,zxy h]
theorem zlu(s:List UInt8)(hs:s.length≤1048576):PCall Try.prog 32 [.s s] (.tup [(.g (.int .i64 ((RV s).1))),(.g (.int .i64 ((RV s).2)))]):=by
 refine zbp Try.func32 (by rfl) (by rfl) (by rw [Try.ntmps32];exact Nat.le_of_ble_eq_true rfl) rfl (by decide) ?_
 rw [Try.ntmps32]
 refine AW_k [(0,_)] ⟨rfl,trivial⟩ ?_
 refine AW_r rfl rfl λK hK=>?_
 simp (disch:=omega) [zG10,orS]
 repeat' first|(refine ⟨by omega,?_⟩)|(intro _)
 refine hK _ ?_;clear hK K
 refine AW_r rfl rfl λK hK=>?_
 simp (disch:=omega) [zG10,orS]
 repeat' first|(refine ⟨by omega,?_⟩)|(intro _)
 refine hK _ ?_;clear hK K
 refine zbf ?_
 refine AW_r rfl rfl λK hK=>?_
 simp (disch:=omega) [zG10,orS]
 repeat' first|(refine ⟨by omega,?_⟩)|(intro _)
 refine hK _ ?_;clear hK K
 refine zbm ?_
 refine zbw (λmM sS=>∃(i:Nat),mM=7-i∧(i≤7∧i≤s.length∧∀(j:Nat) b,j<i→s[j]? = some b→128≤b.toNat)∧sS = { env:=lkE [(0,.s s),(4,(.g (.int .i64 (((vval (s.take i):Nat):Int))))),(5,(.g (.int .i64 ((i:Nat)))))],ob:=formOb [] [] }) ?_ ?_
 ·refine ⟨_,LeS.kp [(0,.s s),(4,(.g (.int .i64 (((vval (s.take (0)):Nat):Int))))),(5,(.g (.int .i64 (((0):Nat)))))] (by simp [zG11,KpE];try rfl),_,0,rfl,?_,rfl⟩
  ·simp
 ·rintro mM sS ⟨i,rfl,⟨hi,hil,hhi⟩,rfl⟩
  refine zbf ?_
  refine AW_r rfl rfl λK hK=>?_
  simp (disch:=omega) [zG10,orS]
  repeat' first|(exfalso;omega)|(refine ⟨λ_=>?_,λ_=>?_⟩)|(refine ⟨by omega,?_⟩)|(intro _)
  all_goals (refine hK _ ?_;clear hK K)
  all_goals
   refine zbi rfl (λhc1=>?_) (λhc1=>?_)
   ·try simp [zG12,zbb,zba] at hc1
    all_goals
     refine zbj ?_
     refine zbo ?_
     refine zbf ?_
     refine zbm ?_
     refine AW_r rfl rfl λK hK=>?_
     simp (disch:=omega) [zG10,orS]
     repeat' first|(exfalso;omega)|(refine ⟨λ_=>?_,λ_=>?_⟩)|(refine ⟨by omega,?_⟩)|(intro _)
     all_goals (refine hK _ ?_;clear hK K)
     all_goals
      refine AW_r rfl rfl λK hK=>?_
      simp (disch:=omega) [zG10,orS]
      repeat' first|(refine ⟨by omega,?_⟩)|(intro _)
      refine hK _ ?_;clear hK K
      refine zbi rfl (λhc2=>?_) (λhc2=>?_)
      ·try simp [zG12,zbb,zba] at hc2
       all_goals
        refine zbf ?_
        refine AW_q rfl mix (by kernel_rfl) rfl λK hK=>?_
        simp (disch:=omega) [zG10,orS]
        repeat' first|(exfalso;omega)|(refine zcj (zbe zch zbn) (zhe _) rfl ?_;simp (disch:=omega) [zG10,orS])|(refine ⟨λ_=>?_,λ_=>?_⟩)|(refine ⟨by omega,?_⟩)|(intro _)
        all_goals (refine hK _ ?_;clear hK K)
        all_goals
         refine zbi rfl (λhc3=>?_) (λhc3=>?_)
         ·try simp [zG12,zbb,zba] at hc3
          all_goals
           refine AW_r rfl rfl λK hK=>?_
           simp (disch:=omega) [zG10,orS]
           repeat' first|(exfalso;omega)|(refine ⟨λ_=>?_,λ_=>?_⟩)|(refine ⟨by omega,?_⟩)|(intro _)
           all_goals (refine hK _ ?_;clear hK K)
           all_goals
            refine zbl (zb5 ?_)
            simp (disch:=omega) [zG10,orS]
            all_goals first|(rw [zxw hhi (List.getElem?_eq_getElem (by omega)) (by omega) hc3];exact ⟨rfl,rfl⟩)|(rw [zhg (s:=s) (k:=i+1) ⟨by omega,by omega,by omega,hc3⟩];exact ⟨rfl,by simp⟩)|(rw [zxx hhi (by omega)];exact ⟨rfl,rfl⟩) | trace_state
         ·try simp [zG12,zbb,zba] at hc3
          all_goals
           refine zbj ?_
           refine zbo ?_
           refine AW_r rfl rfl λK hK=>?_
           simp (disch:=omega) [zG10,orS]
           repeat' first|(exfalso;omega)|(refine ⟨λ_=>?_,λ_=>?_⟩)|(refine ⟨by omega,?_⟩)|(intro _)
           all_goals (refine hK _ ?_;clear hK K)
           all_goals
            refine zbl (zb5 ?_)
            simp (disch:=omega) [zG10,orS]
            all_goals first|(rw [zxw hhi (List.getElem?_eq_getElem (by omega)) (by omega) hc3];exact ⟨rfl,rfl⟩)|(rw [zhg (s:=s) (k:=i+1) ⟨by omega,by omega,by omega,hc3⟩];exact ⟨rfl,by simp⟩)|(rw [zxx hhi (by omega)];exact ⟨rfl,rfl⟩) | trace_state
      ·try simp [zG12,zbb,zba] at hc2
       all_goals
        refine zbj ?_
        refine zbo ?_
        refine zc0 rfl rfl λK hK=>?_
        simp (disch:=omega) [zG10,orS]
        repeat' first|(exfalso;omega)|(refine ⟨λ_=>?_,λ_=>?_⟩)|(refine ⟨by omega,?_⟩)|(intro _)
        all_goals (refine hK _ ?_;clear hK K)
        all_goals
         refine ⟨_,LeS.kp [(0,.s s),(4,(.g (.int .i64 (((vval (s.take (i+1)):Nat):Int))))),(5,(.g (.int .i64 (((i+1):Nat)))))] (by simp [zG11,KpE];try rfl),_,?_,i+1,rfl,?_,rfl⟩
         ·omega
         ·refine ⟨by omega,by omega,λj b hj hb=>?_⟩
          by_cases hji:j=i
          ·subst hji;rw [List.getElem?_eq_getElem (by omega)] at hb;cases hb;omega
          ·exact hhi j b (by omega) hb
   ·try simp [zG12,zbb,zba] at hc1
    all_goals
     refine zb4 ?_
     refine zbo ?_
     refine AW_r rfl rfl λK hK=>?_
     simp (disch:=omega) [zG10,orS]
     repeat' first|(exfalso;omega)|(refine ⟨λ_=>?_,λ_=>?_⟩)|(refine ⟨by omega,?_⟩)|(intro _)
     all_goals (refine hK _ ?_;clear hK K)
     all_goals
      refine zbl (zb5 ?_)
      simp (disch:=omega) [zG10,orS]
      all_goals first|(rw [zxw hhi (List.getElem?_eq_getElem (by omega)) (by omega) hc3];exact ⟨rfl,rfl⟩)|(rw [zhg (s:=s) (k:=i+1) ⟨by omega,by omega,by omega,hc3⟩];exact ⟨rfl,by simp⟩)|(rw [zxx hhi (by omega)];exact ⟨rfl,rfl⟩) | trace_state
theorem vdrop{s:List UInt8}{k:Nat}(hk:k≤s.length){j:Int}(h0:0≤j)(hj:j<k):((vval ((s.take k).drop (j+1).toNat):Nat):Int)*128+((s[j.toNat]'(by omega)).toNat:Int) % 128=((vval ((s.take k).drop j.toNat):Nat):Int):=by
 obtain ⟨i,rfl⟩:=Int.eq_ofNat_of_zero_le h0
 have e:(s.take k).drop i=s[i]'(by omega) :: (s.take k).drop (i+1):=by
  rw [List.drop_eq_getElem_cons (by simp;omega)]
  simp
 have e1:((i:Int)+1).toNat=i+1:=by omega
 simp only [e1,Int.toNat_natCast,e,vval]
 omega
theorem vdrop_lt{s:List UInt8}{k:Nat}(hk:k≤7){j:Int}(h0:0≤j):vval ((s.take k).drop (j+1).toNat)<4398046511104:=by
 have h:=zr8 ((s.take k).drop (j+1).toNat)
 have hl:((s.take k).drop (j+1).toNat).length≤6:=by simp;omega
 have:128^((s.take k).drop (j+1).toNat).length≤128^6:=Nat.pow_le_pow_right (by decide) hl
 have e:(128:Nat)^6=4398046511104:=by decide
 omega
theorem zg7(b:UInt8):(b.toNat:Int).tmod 128=(b.toNat:Int) % 128:=Int.tmod_eq_emod_of_nonneg (by omega)
theorem zlv(s:List UInt8)(hs:s.length≤1048576):PCall Try.prog 24 [.s s] (.tup [(.g (.int .i64 ((RV s).1))),(.g (.int .i64 ((RV s).2)))]):=by
 refine zbp Try.func24 (by rfl) (by rfl) (by rw [Try.ntmps24];exact Nat.le_of_ble_eq_true rfl) rfl (by decide) ?_
 rw [Try.ntmps24]
 refine AW_k [(0,_)] ⟨rfl,trivial⟩ ?_
 refine AW_r rfl rfl λK hK=>?_
 simp (disch:=omega) [zG10,zg7]
 repeat' first|(refine ⟨by omega,?_⟩)|(intro _)
 refine hK _ ?_;clear hK K
 refine zbf ?_
 refine AW_r rfl rfl λK hK=>?_
 simp (disch:=omega) [zG10,zg7]
 repeat' first|(refine ⟨by omega,?_⟩)|(intro _)
 refine hK _ ?_;clear hK K
 refine zbm ?_
 refine zbw (λmM sS=>∃(k:Nat),mM=8-k∧(1≤k∧k≤8∧∀m,m<k→¬RVk s m)∧sS = { env:=lkE [(0,.s s),(4,(.g (.int .i64 ((k:Nat)))))],ob:=formOb [] [] }) ?_ ?_
 ·refine ⟨_,LeS.kp [(0,.s s),(4,(.g (.int .i64 (((1):Nat)))))] (by simp [zG11,KpE];try rfl),_,1,rfl,?_,rfl⟩
  ·refine ⟨by omega,by omega,λm hm h=>?_⟩;have:=h.1;omega
 ·rintro mM sS ⟨k,rfl,⟨hk1,hk8,hno⟩,rfl⟩
  refine zbf ?_
  refine AW_r rfl rfl λK hK=>?_
  simp (disch:=omega) [zG10,zg7]
  repeat' first|(exfalso;omega)|(refine ⟨λ_=>?_,λ_=>?_⟩)|(refine ⟨by omega,?_⟩)|(intro _)
  all_goals (refine hK _ ?_;clear hK K)
  all_goals
   refine zbi rfl (λhc4=>?_) (λhc4=>?_)
   ·try simp [zG12,zbb,zba] at hc4
    all_goals
     refine zbj ?_
     refine zbo ?_
     refine zbf ?_
     refine zbm ?_
     refine AW_r rfl rfl λK hK=>?_
     simp (disch:=omega) [zG10,zg7]
     repeat' first|(exfalso;omega)|(refine ⟨λ_=>?_,λ_=>?_⟩)|(refine ⟨by omega,?_⟩)|(intro _)
     all_goals (refine hK _ ?_;clear hK K)
     all_goals
      refine zbf ?_
      refine AW_r rfl rfl λK hK=>?_
      simp (disch:=omega) [zG10,zg7]
      repeat' first|(refine ⟨by omega,?_⟩)|(intro _)
      refine hK _ ?_;clear hK K
      refine zbm ?_
      refine zbw (λmM sS=>∃(j:Int),mM=(j+1).toNat∧(-1≤j∧j<k)∧sS = { env:=lkE [(0,.s s),(4,(.g (.int .i64 ((k:Nat))))),(5,(.g (.int .i64 (((vval ((s.take k).drop (j+1).toNat):Nat):Int))))),(6,(.g (.int .i64 (j))))],ob:=formOb [] [] }) ?_ ?_
      ·refine ⟨_,LeS.kp [(0,.s s),(4,(.g (.int .i64 ((k:Nat))))),(5,(.g (.int .i64 (((vval ((s.take k).drop (((k:Int)-1)+1).toNat):Nat):Int))))),(6,(.g (.int .i64 (((k:Int)-1)))))] (by simp [zG11,KpE];try (first | omega|(simp [vval];done))),_,(k:Int)-1,rfl,?_,rfl⟩
       ·exact ⟨by omega,by omega⟩
      ·rintro mM sS ⟨j,rfl,⟨hj1,hjk⟩,rfl⟩
       refine zbf ?_
       refine AW_r rfl rfl λK hK=>?_
       simp (disch:=omega) [zG10,zg7]
       repeat' first|(refine ⟨by omega,?_⟩)|(intro _)
       refine hK _ ?_;clear hK K
       refine zbi rfl (λhc5=>?_) (λhc5=>?_)
       ·try simp [zG12,zbb,zba] at hc5
        all_goals
         have hvd:=vdrop (s:=s) (k:=k) (by omega) (j:=j) (by omega) hjk
         have hvl:=vdrop_lt (s:=s) (k:=k) (by omega) (j:=j) (by omega)
         refine zbj ?_
         refine zbo ?_
         refine zbf ?_
         refine zbm ?_
         refine zc0 rfl rfl λK hK=>?_
         simp (disch:=omega) [zG10,zg7]
         repeat' first|(exfalso;omega)|(refine ⟨λ_=>?_,λ_=>?_⟩)|(refine ⟨by omega,?_⟩)|(intro _)
         all_goals (refine hK _ ?_;clear hK K)
         all_goals
          refine zbo ?_
          refine zc0 rfl rfl λK hK=>?_
          simp (disch:=omega) [zG10,zg7]
          repeat' first|(refine ⟨by omega,?_⟩)|(intro _)
          refine hK _ ?_;clear hK K
          refine ⟨_,LeS.kp [(0,.s s),(4,(.g (.int .i64 ((k:Nat))))),(5,(.g (.int .i64 (((vval ((s.take k).drop ((j-1)+1).toNat):Nat):Int))))),(6,(.g (.int .i64 ((j-1)))))] (by simp [zG11,KpE];try (first | omega|(have hb:=(s[j.toNat]'(by omega)).toNat_lt;rw [zce (n:=(((s[j.toNat]'(by omega)).toNat:Nat):Int)) (by omega) (by omega),zg7,hvd,zce (by omega) (by omega)]))),_,?_,j-1,rfl,?_,rfl⟩
          ·omega
          ·exact ⟨by omega,by omega⟩
       ·try simp [zG12,zbb,zba] at hc5
        all_goals
         refine zb4 ?_
         refine zbo ?_
         refine AW_q rfl mix (by kernel_rfl) rfl λK hK=>?_
         simp (disch:=omega) [zG10,zg7]
         repeat' first|(exfalso;omega)|(refine zcj (zbe zch zbn) (zhd _) rfl ?_;simp (disch:=omega) [zG10,zg7])|(refine ⟨λ_=>?_,λ_=>?_⟩)|(refine ⟨by omega,?_⟩)|(intro _)
         all_goals (refine hK _ ?_;clear hK K)
         all_goals
          refine zbi rfl (λhc6=>?_) (λhc6=>?_)
          ·try simp [zG12,zbb,zba] at hc6
           all_goals
            refine AW_r rfl rfl λK hK=>?_
            simp (disch:=omega) [zG10,zg7]
            repeat' first|(exfalso;omega)|(refine ⟨λ_=>?_,λ_=>?_⟩)|(refine ⟨by omega,?_⟩)|(intro _)
            all_goals (refine hK _ ?_;clear hK K)
            all_goals
             refine zbl (zb5 ?_)
             simp (disch:=omega) [zG10,zg7]
             all_goals first|(rw [show (j+1).toNat=0 by omega,List.drop_zero] at hc6 ⊢;rw [zhg (s:=s) (k:=k) ⟨hk1,by omega,hc4,hc6⟩];exact ⟨rfl,rfl⟩)|(rw [zlt λm h=>hno m (by have:=h.1;have:=h.2.1;have:=h.2.2.1;omega) h];exact ⟨rfl,rfl⟩) | trace_state
          ·try simp [zG12,zbb,zba] at hc6
           all_goals
            refine zbj ?_
            refine zbo ?_
            refine zc0 rfl rfl λK hK=>?_
            simp (disch:=omega) [zG10,zg7]
            repeat' first|(exfalso;omega)|(refine ⟨λ_=>?_,λ_=>?_⟩)|(refine ⟨by omega,?_⟩)|(intro _)
            all_goals (refine hK _ ?_;clear hK K)
            all_goals
             refine ⟨_,LeS.kp [(0,.s s),(4,(.g (.int .i64 (((k+1):Nat)))))] (by simp [zG11,KpE];try rfl),_,?_,k+1,rfl,?_,rfl⟩
             ·omega
             ·refine ⟨by omega,by omega,λm hm h=>?_⟩
              by_cases hmk:m=k
              ·subst hmk
               rw [show (j+1).toNat=0 by omega,List.drop_zero] at hc6
               exact hc6 h.2.2.2
              ·exact hno m (by omega) h
   ·try simp [zG12,zbb,zba] at hc4
    all_goals
     refine zb4 ?_
     refine zbo ?_
     refine AW_r rfl rfl λK hK=>?_
     simp (disch:=omega) [zG10,zg7]
     repeat' first|(exfalso;omega)|(refine ⟨λ_=>?_,λ_=>?_⟩)|(refine ⟨by omega,?_⟩)|(intro _)
     all_goals (refine hK _ ?_;clear hK K)
     all_goals
      refine zbl (zb5 ?_)
      simp (disch:=omega) [zG10,zg7]
      all_goals first|(rw [show (j+1).toNat=0 by omega,List.drop_zero] at hc6 ⊢;rw [zhg (s:=s) (k:=k) ⟨hk1,by omega,hc4,hc6⟩];exact ⟨rfl,rfl⟩)|(rw [zlt λm h=>hno m (by have:=h.1;have:=h.2.1;have:=h.2.2.1;omega) h];exact ⟨rfl,rfl⟩) | trace_state
end Go.Proofs.Ytchpfloemfoomaa.Vs
end
