import Derived.Test.YtchpfloemfoomaaDoorSM1
import Derived.Test.YtchpfloemfoomaaDoorSM2
section
namespace Go.Proofs.YtchpfloemfoomaaDoor.Vs
set_option linter.all false
set_option maxRecDepth 100000
end Go.Proofs.YtchpfloemfoomaaDoor.Vs
end
section
namespace Go.Proofs.YtchpfloemfoomaaDoor.Vs
set_option linter.all false
set_option maxRecDepth 100000
theorem l1In(a b c:Int):PCall Tryd.prog 41 [(.g (.int .i64 (a))),(.g (.int .i64 (b))),(.g (.int .i64 (c)))] (.g (.bool (decide (b≤a)&&decide (a≤c)))):=by
 refine zbe Tryd.func41 (by rfl) (by rfl) (by rw [Tryd.ntmps41];exact Nat.le_of_ble_eq_true rfl) rfl (by decide) ?_
 rw [Tryd.ntmps41]
 refine AW_k [(0,_),(1,_),(2,_)] ⟨rfl,rfl,rfl,trivial⟩ ?_
 refine AW_r rfl rfl λK hK=>?_
 simp (disch:=omega)
 repeat' first|(refine ⟨by omega,?_⟩)|(intro _)
 refine hK _ ?_;clear hK K
 refine AW_r rfl rfl λK hK=>?_
 simp (disch:=omega)
 repeat' first|(exfalso;omega)|(refine ⟨λ_=>?_,λ_=>?_⟩)|(refine ⟨by omega,?_⟩)|(intro _)
 all_goals (refine hK _ ?_;clear hK K)
 all_goals
  refine zbm (zbq ?_)
  simp (disch:=omega)
  all_goals first | omega|(simp_all;done)|(simp [List.take_of_length_le];done)|((try simp_all);(try simp (disch:=omega) only [zbu,Int.tdiv_eq_ediv_of_nonneg,Int.tmod_eq_emod_of_nonneg,and_true,true_and]);done)|((try simp_all);(try simp (disch:=omega) only [zbu,Int.tdiv_eq_ediv_of_nonneg,Int.tmod_eq_emod_of_nonneg,and_true,true_and] at *);omega)
theorem zpn(a b c:Int):PCall Tryd.prog 47 [(.g (.int .i64 (a))),(.g (.int .i64 (b))),(.g (.int .i64 (c)))] (.g (.bool (decide (b≤a)&&decide (a≤c)))):=by
 refine zbe Tryd.func47 (by rfl) (by rfl) (by rw [Tryd.ntmps47];exact Nat.le_of_ble_eq_true rfl) rfl (by decide) ?_
 rw [Tryd.ntmps47]
 refine AW_k [(0,_),(1,_),(2,_)] ⟨rfl,rfl,rfl,trivial⟩ ?_
 refine AW_r rfl rfl λK hK=>?_
 simp (disch:=omega)
 repeat' first|(refine ⟨by omega,?_⟩)|(intro _)
 refine hK _ ?_;clear hK K
 refine AW_r rfl rfl λK hK=>?_
 simp (disch:=omega)
 repeat' first|(exfalso;omega)|(refine ⟨λ_=>?_,λ_=>?_⟩)|(refine ⟨by omega,?_⟩)|(intro _)
 all_goals (refine hK _ ?_;clear hK K)
 all_goals
  refine zbm (zbq ?_)
  simp (disch:=omega)
  all_goals first | omega|(simp_all;done)|(simp [List.take_of_length_le];done)|((try simp_all);(try simp (disch:=omega) only [zbu,Int.tdiv_eq_ediv_of_nonneg,Int.tmod_eq_emod_of_nonneg,and_true,true_and]);done)|((try simp_all);(try simp (disch:=omega) only [zbu,Int.tdiv_eq_ediv_of_nonneg,Int.tmod_eq_emod_of_nonneg,and_true,true_and] at *);omega)
def LoB(b:UInt8):Prop:=97≤b.toNat∧b.toNat≤122
def Word(s:List UInt8):Prop:=1≤s.length∧s.length≤8∧∀(j:Nat) b,s[j]? = some b→LoB b
def zG1:=And.intro @zfz (And.intro @zb6 @zd7)
theorem l4Word(s:List UInt8):PCall Tryd.prog 58 [.s s] (.g (.bool (decB (Word s)))):=by
 refine zbe Tryd.func58 (by rfl) (by rfl) (by rw [Tryd.ntmps58];exact Nat.le_of_ble_eq_true rfl) rfl (by decide) ?_
 rw [Tryd.ntmps58]
 refine AW_k [(0,_)] ⟨rfl,trivial⟩ ?_
 refine AW_r rfl rfl λK hK=>?_
 simp (disch:=omega)
 repeat' first|(refine ⟨by omega,?_⟩)|(intro _)
 refine hK _ ?_;clear hK K
 refine zbh ?_
 refine AW_r rfl rfl λK hK=>?_
 simp (disch:=omega)
 repeat' first|(exfalso;omega)|(refine zby (zba zbz (zba zbz (zba zbz zbg))) (l1In _ _ _) rfl ?_;simp (disch:=omega))|(refine ⟨by omega,?_⟩)|(intro _)
 refine hK _ ?_;clear hK K
 refine zbj rfl (λhc1=>?_) (λhc1=>?_)
 ·try simp at hc1
  all_goals
   refine AW_r rfl rfl λK hK=>?_
   simp (disch:=omega)
   repeat' first|(exfalso;omega)|(refine ⟨λ_=>?_,λ_=>?_⟩)|(refine ⟨by omega,?_⟩)|(intro _)
   all_goals (refine hK _ ?_;clear hK K)
   all_goals
    refine zbm (zbq ?_)
    simp (disch:=omega)
    all_goals first|(refine zck λh=>?_;grind [Word,LoB])|(refine zcj ?_;grind [Word,LoB])
 ·try simp at hc1
  all_goals
   refine zbk ?_
   refine zbn ?_
   refine zbh ?_
   refine AW_r rfl rfl λK hK=>?_
   simp (disch:=omega)
   repeat' first|(exfalso;omega)|(refine ⟨λ_=>?_,λ_=>?_⟩)|(refine ⟨by omega,?_⟩)|(intro _)
   all_goals (refine hK _ ?_;clear hK K)
   all_goals
    refine zbi ?_
    refine zbr (λmM sS=>∃(i:Nat),mM=s.length-i∧(i≤s.length∧∀j b,j<i→s[j]? = some b→LoB b)∧sS = { env:=lkE [(0,.s s),(3,(.g (.int .i64 ((i:Nat)))))],ob:=formOb [] [] }) ?_ ?_
    ·refine ⟨_,LeS.kp [(0,.s s),(3,(.g (.int .i64 (((0):Nat)))))] (by simp [zG1,KpE];try rfl),_,0,rfl,?_,rfl⟩
     ·simp
    ·rintro mM sS ⟨i,rfl,⟨hi,hpre⟩,rfl⟩
     refine zbh ?_
     refine AW_r rfl rfl λK hK=>?_
     simp (disch:=omega)
     repeat' first|(refine ⟨by omega,?_⟩)|(intro _)
     refine hK _ ?_;clear hK K
     refine zbj rfl (λhc2=>?_) (λhc2=>?_)
     ·try simp at hc2
      all_goals
       have hg:s[i]? = some s[i]:=List.getElem?_eq_getElem (by omega)
       refine zbk ?_
       refine zbn ?_
       refine zbh ?_
       refine zbi ?_
       refine AW_r rfl rfl λK hK=>?_
       simp (disch:=omega)
       repeat' first|(exfalso;omega)|(refine ⟨λ_=>?_,λ_=>?_⟩)|(refine ⟨by omega,?_⟩)|(intro _)
       all_goals (refine hK _ ?_;clear hK K)
       all_goals
        refine zbj rfl (λhc3=>?_) (λhc3=>?_)
        ·try simp at hc3
         all_goals
          refine AW_r rfl rfl λK hK=>?_
          simp (disch:=omega)
          repeat' first|(exfalso;omega)|(refine ⟨λ_=>?_,λ_=>?_⟩)|(refine ⟨by omega,?_⟩)|(intro _)
          all_goals (refine hK _ ?_;clear hK K)
          all_goals
           refine zbm (zbq ?_)
           simp (disch:=omega)
           all_goals first|(refine zck λh=>?_;grind [Word,LoB])|(refine zcj ?_;grind [Word,LoB])
        ·try simp at hc3
         all_goals
          refine zbk ?_
          refine zbn ?_
          refine zco rfl rfl λK hK=>?_
          simp (disch:=omega)
          repeat' first|(exfalso;omega)|(refine ⟨λ_=>?_,λ_=>?_⟩)|(refine ⟨by omega,?_⟩)|(intro _)
          all_goals (refine hK _ ?_;clear hK K)
          all_goals
           refine ⟨_,LeS.kp [(0,.s s),(3,(.g (.int .i64 (((i+1):Nat)))))] (by simp [zG1,KpE];try rfl),_,?_,i+1,rfl,?_,rfl⟩
           ·omega
           ·refine ⟨by omega,?_⟩;grind [LoB]
     ·try simp at hc2
      all_goals
       refine zbx ?_
       refine zbn ?_
       refine AW_r rfl rfl λK hK=>?_
       simp (disch:=omega)
       repeat' first|(exfalso;omega)|(refine ⟨λ_=>?_,λ_=>?_⟩)|(refine ⟨by omega,?_⟩)|(intro _)
       all_goals (refine hK _ ?_;clear hK K)
       all_goals
        refine zbm (zbq ?_)
        simp (disch:=omega)
        all_goals first|(refine zck λh=>?_;grind [Word,LoB])|(refine zcj ?_;grind [Word,LoB])
theorem isWord(s:List UInt8)(hs:s.length≤1048576):PCall Tryd.prog 70 [.s s] (.g (.bool (decB (Word s)))):=by
 refine zbe Tryd.func70 (by rfl) (by rfl) (by rw [Tryd.ntmps70];exact Nat.le_of_ble_eq_true rfl) rfl (by decide) ?_
 rw [Tryd.ntmps70]
 refine AW_k [(0,_)] ⟨rfl,trivial⟩ ?_
 refine AW_r rfl rfl λK hK=>?_
 simp (disch:=omega)
 repeat' first|(refine ⟨by omega,?_⟩)|(intro _)
 refine hK _ ?_;clear hK K
 refine zbh ?_
 refine AW_r rfl rfl λK hK=>?_
 simp (disch:=omega)
 repeat' first|(refine ⟨by omega,?_⟩)|(intro _)
 refine hK _ ?_;clear hK K
 refine zbi ?_
 refine zbr (λmM sS=>∃(i:Nat),mM=s.length-i∧(i≤s.length∧∀j b,j<i→s[j]? = some b→LoB b)∧sS = { env:=lkE [(0,.s s),(3,(.g (.int .i64 ((i:Nat)))))],ob:=formOb [] [] }) ?_ ?_
 ·refine ⟨_,LeS.kp [(0,.s s),(3,(.g (.int .i64 (((0):Nat)))))] (by simp [zG1,KpE];try rfl),_,0,rfl,?_,rfl⟩
  ·simp
 ·rintro mM sS ⟨i,rfl,⟨hi,hpre⟩,rfl⟩
  refine zbh ?_
  refine AW_r rfl rfl λK hK=>?_
  simp (disch:=omega)
  repeat' first|(refine ⟨by omega,?_⟩)|(intro _)
  refine hK _ ?_;clear hK K
  refine zbj rfl (λhc4=>?_) (λhc4=>?_)
  ·try simp at hc4
   all_goals
    have hg:s[i]? = some s[i]:=List.getElem?_eq_getElem (by omega)
    refine zbk ?_
    refine zbn ?_
    refine zbh ?_
    refine zbi ?_
    refine AW_r rfl rfl λK hK=>?_
    simp (disch:=omega)
    repeat' first|(exfalso;omega)|(refine ⟨λ_=>?_,λ_=>?_⟩)|(refine ⟨by omega,?_⟩)|(intro _)
    all_goals (refine hK _ ?_;clear hK K)
    all_goals
     refine zbj rfl (λhc5=>?_) (λhc5=>?_)
     ·try simp at hc5
      all_goals
       refine AW_r rfl rfl λK hK=>?_
       simp (disch:=omega)
       repeat' first|(exfalso;omega)|(refine ⟨λ_=>?_,λ_=>?_⟩)|(refine ⟨by omega,?_⟩)|(intro _)
       all_goals (refine hK _ ?_;clear hK K)
       all_goals
        refine zbm (zbq ?_)
        simp (disch:=omega)
        all_goals first|(refine zck λh=>?_;grind [Word,LoB])|(refine zcj ?_;grind [Word,LoB])|(rw [Bool.eq_iff_iff,zbp];grind [Word,LoB])
     ·try simp at hc5
      all_goals
       refine zbk ?_
       refine zbn ?_
       refine zco rfl rfl λK hK=>?_
       simp (disch:=omega)
       repeat' first|(exfalso;omega)|(refine ⟨λ_=>?_,λ_=>?_⟩)|(refine ⟨by omega,?_⟩)|(intro _)
       all_goals (refine hK _ ?_;clear hK K)
       all_goals
        refine ⟨_,LeS.kp [(0,.s s),(3,(.g (.int .i64 (((i+1):Nat)))))] (by simp [zG1,KpE];try rfl),_,?_,i+1,rfl,?_,rfl⟩
        ·omega
        ·refine ⟨by omega,?_⟩;grind [LoB]
  ·try simp at hc4
   all_goals
    refine zbx ?_
    refine zbn ?_
    refine AW_r rfl rfl λK hK=>?_
    simp (disch:=omega)
    repeat' first|(exfalso;omega)|(refine zby (zba zbz (zba zbz (zba zbz zbg))) (zpn _ _ _) rfl ?_;simp (disch:=omega))|(refine ⟨λ_=>?_,λ_=>?_⟩)|(refine ⟨by omega,?_⟩)|(intro _)
    all_goals (refine hK _ ?_;clear hK K)
    all_goals
     refine zbm (zbq ?_)
     simp (disch:=omega)
     all_goals first|(refine zck λh=>?_;grind [Word,LoB])|(refine zcj ?_;grind [Word,LoB])|(rw [Bool.eq_iff_iff,zbp];grind [Word,LoB])
end Go.Proofs.YtchpfloemfoomaaDoor.Vs
end
section
namespace Go.Proofs.YtchpfloemfoomaaDoor.Vs
set_option linter.all false
set_option maxRecDepth 100000
def SnapP(p:DtCSnap):Prop:=Word p.fName∧(p.fTag=[]∨Word p.fTag)∧1≤p.fChunks.length∧p.fChunks.length≤4∧∀(j:Nat) c,p.fChunks[j]? = some c→c.length=8
noncomputable def findN(l:List DtCSnap)(name:List UInt8):Int:=idxZ (λp=>eqB p.fName name) l
def SetP(s:DtCSet):Prop:=Word s.fName∧s.fSnaps.length≤5∧∀(k:Nat) p,s.fSnaps[k]? = some p→SnapP p∧findN s.fSnaps p.fName=k
def CatP(c:DtCatalog):Prop:=c.fSets.length≤5∧∀(i:Nat) s,c.fSets[i]? = some s→SetP s∧∀t,0<i→c.fSets[i-1]? = some t→Op.bytesLess t.fName s.fName=true
def zG2:=And.intro @zbu (And.intro @gE (And.intro @tP (And.intro @zbp @zbt)))
theorem l15Snap(p:DtCSnap):PCall Tryd.prog 59 [.agg (DtCSnap.cells p)] (.g (.bool (decB (SnapP p)))):=by
 refine zbe Tryd.func59 (by rfl) (by rfl) (by rw [Tryd.ntmps59];exact Nat.le_of_ble_eq_true rfl) rfl (by decide) ?_
 rw [Tryd.ntmps59]
 refine AW_k [(0,_)] ⟨rfl,trivial⟩ ?_
 refine AW_r rfl rfl λK hK=>?_
 simp (disch:=omega) [zG2,DtCSnap.cells]
 repeat' first|(refine ⟨by omega,?_⟩)|(intro _)
 refine hK _ ?_;clear hK K
 refine zbh ?_
 refine AW_r rfl rfl λK hK=>?_
 simp (disch:=omega) [zG2,DtCSnap.cells]
 repeat' first|(exfalso;omega)|(refine zby (zba zd6 zbg) (l4Word _) rfl ?_;simp (disch:=omega) [zG2,DtCSnap.cells])|(refine zby (zba zbz (zba zbz (zba zbz zbg))) (l1In _ _ _) rfl ?_;simp (disch:=omega) [zG2,DtCSnap.cells])|(refine ⟨λ_=>?_,λ_=>?_⟩)|(refine ⟨by omega,?_⟩)|(intro _)
 all_goals (refine hK _ ?_;clear hK K)
 all_goals
  refine zbj rfl (λhc1=>?_) (λhc1=>?_)
  ·try simp at hc1
   all_goals
    refine AW_r rfl rfl λK hK=>?_
    simp (disch:=omega) [zG2,DtCSnap.cells]
    repeat' first|(exfalso;omega)|(refine ⟨λ_=>?_,λ_=>?_⟩)|(refine ⟨by omega,?_⟩)|(intro _)
    all_goals (refine hK _ ?_;clear hK K)
    all_goals
     refine zbm (zbq ?_)
     simp (disch:=omega) [zG2,DtCSnap.cells]
     all_goals first | grind [SnapP]|(refine zck λh=>?_;grind [SnapP])|(refine zcj ?_;grind [SnapP])
  ·try simp at hc1
   all_goals
    refine zbk ?_
    refine zbn ?_
    refine zbh ?_
    refine AW_r rfl rfl λK hK=>?_
    simp (disch:=omega) [zG2,DtCSnap.cells]
    repeat' first|(exfalso;omega)|(refine ⟨λ_=>?_,λ_=>?_⟩)|(refine ⟨by omega,?_⟩)|(intro _)
    all_goals (refine hK _ ?_;clear hK K)
    all_goals
     refine zbi ?_
     refine zbr (λmM sS=>∃(i:Nat),mM=p.fChunks.length-i∧(i≤p.fChunks.length∧∀j c,j<i→p.fChunks[j]? = some c→c.length=8)∧sS = { env:=lkE [(1,.ptr 32 0),(3,(.g (.int .i64 ((i:Nat)))))],ob:=upd (formOb [] []) 32 (some (.cells (DtCSnap.cells p))) }) ?_ ?_
     ·refine ⟨_,LeS.kp [(1,.ptr 32 0),(3,(.g (.int .i64 (((0):Nat)))))] (by simp [zG1,KpE];try rfl),_,0,rfl,?_,rfl⟩
      ·simp
     ·rintro mM sS ⟨i,rfl,⟨hi,hpre⟩,rfl⟩
      refine zbh ?_
      refine AW_r rfl rfl λK hK=>?_
      simp (disch:=omega) [zG2,DtCSnap.cells,cS]
      repeat' first|(refine ⟨by omega,?_⟩)|(intro _)
      refine hK _ ?_;clear hK K
      refine zbj rfl (λhc2=>?_) (λhc2=>?_)
      ·try simp at hc2
       all_goals
        have hg:p.fChunks[i]? = some p.fChunks[i]:=List.getElem?_eq_getElem (by omega)
        refine zbk ?_
        refine zbn ?_
        refine zbh ?_
        refine zbi ?_
        refine AW_r rfl rfl λK hK=>?_
        simp (disch:=omega) [zG2,DtCSnap.cells,cS]
        repeat' first|(exfalso;omega)|(refine ⟨λ_=>?_,λ_=>?_⟩)|(refine ⟨by omega,?_⟩)|(intro _)
        all_goals (refine hK _ ?_;clear hK K)
        all_goals
         refine zbj rfl (λhc3=>?_) (λhc3=>?_)
         ·try simp at hc3
          all_goals
           refine AW_r rfl rfl λK hK=>?_
           simp (disch:=omega) [zG2,DtCSnap.cells,cS]
           repeat' first|(exfalso;omega)|(refine ⟨λ_=>?_,λ_=>?_⟩)|(refine ⟨by omega,?_⟩)|(intro _)
           all_goals (refine hK _ ?_;clear hK K)
           all_goals
            refine zbm (zbq ?_)
            simp (disch:=omega) [zG2,DtCSnap.cells,cS]
            all_goals first | grind [SnapP]|(refine zck λh=>?_;grind [SnapP])|(refine zcj ?_;grind [SnapP])
         ·try simp at hc3
          all_goals
           refine zbk ?_
           refine zbn ?_
           refine zco rfl rfl λK hK=>?_
           simp (disch:=omega) [zG2,DtCSnap.cells,cS]
           repeat' first|(exfalso;omega)|(refine ⟨λ_=>?_,λ_=>?_⟩)|(refine ⟨by omega,?_⟩)|(intro _)
           all_goals (refine hK _ ?_;clear hK K)
           all_goals
            refine ⟨_,LeS.kp [(1,.ptr 32 0),(3,(.g (.int .i64 (((i+1):Nat)))))] (by simp [zG1,KpE];try rfl),_,?_,i+1,rfl,?_,rfl⟩
            ·omega
            ·refine ⟨by omega,?_⟩;grind
      ·try simp at hc2
       all_goals
        refine zbx ?_
        refine zbn ?_
        refine AW_r rfl rfl λK hK=>?_
        simp (disch:=omega) [zG2,DtCSnap.cells,cS]
        repeat' first|(exfalso;omega)|(refine ⟨λ_=>?_,λ_=>?_⟩)|(refine ⟨by omega,?_⟩)|(intro _)
        all_goals (refine hK _ ?_;clear hK K)
        all_goals
         refine zbm (zbq ?_)
         simp (disch:=omega) [zG2,DtCSnap.cells,cS]
         all_goals first | grind [SnapP]|(refine zck λh=>?_;grind [SnapP])|(refine zcj ?_;grind [SnapP])
def zG3:=And.intro @zbu (And.intro @gE @tP)
theorem l15Find(s:DtCSet)(name:List UInt8)(hs:s.fSnaps.length≤1048576):PCall Tryd.prog 60 [.agg (DtCSet.cells s),.s name] (.g (.int .i64 (findN s.fSnaps name))):=by
 refine zbe Tryd.func60 (by rfl) (by rfl) (by rw [Tryd.ntmps60];exact Nat.le_of_ble_eq_true rfl) rfl (by decide) ?_
 rw [Tryd.ntmps60]
 refine AW_k [(0,_),(1,_)] ⟨rfl,rfl,trivial⟩ ?_
 refine AW_r rfl rfl λK hK=>?_
 simp (disch:=omega) [zG3,DtCSet.cells]
 repeat' first|(refine ⟨by omega,?_⟩)|(intro _)
 refine hK _ ?_;clear hK K
 refine zbh ?_
 refine AW_r rfl rfl λK hK=>?_
 simp (disch:=omega) [zG3,DtCSet.cells]
 repeat' first|(refine ⟨by omega,?_⟩)|(intro _)
 refine hK _ ?_;clear hK K
 refine zbi ?_
 refine zbr (λmM sS=>∃(i:Nat),mM=s.fSnaps.length-i∧(i≤s.fSnaps.length∧∀j x,j<i→s.fSnaps[j]? = some x→eqB x.fName name=false)∧sS = { env:=lkE [(1,.s name),(2,.ptr 48 0),(5,(.g (.int .i64 ((i:Nat)))))],ob:=upd (formOb [] []) 48 (some (.cells (DtCSet.cells s))) }) ?_ ?_
 ·refine ⟨_,LeS.kp [(1,.s name),(2,.ptr 48 0),(5,(.g (.int .i64 (((0):Nat)))))] (by simp [zG1,KpE];try rfl),_,0,rfl,?_,rfl⟩
  ·simp
 ·rintro mM sS ⟨i,rfl,⟨hi,hpre⟩,rfl⟩
  refine zbh ?_
  refine AW_r rfl rfl λK hK=>?_
  simp (disch:=omega) [zG3,DtCSet.cells,DtCSnap.cells]
  repeat' first|(refine ⟨by omega,?_⟩)|(intro _)
  refine hK _ ?_;clear hK K
  refine zbj rfl (λhc4=>?_) (λhc4=>?_)
  ·try simp at hc4
   all_goals
    have hg:s.fSnaps[i]? = some s.fSnaps[i]:=List.getElem?_eq_getElem (by omega)
    refine zbk ?_
    refine zbn ?_
    refine zbh ?_
    refine zbi ?_
    refine AW_r rfl rfl λK hK=>?_
    simp (disch:=omega) [zG3,DtCSet.cells,DtCSnap.cells]
    repeat' first|(exfalso;omega)|(refine ⟨λ_=>?_,λ_=>?_⟩)|(refine ⟨by omega,?_⟩)|(intro _)
    all_goals (refine hK _ ?_;clear hK K)
    all_goals
     refine zbj rfl (λhc5=>?_) (λhc5=>?_)
     ·try simp at hc5
      all_goals
       refine AW_r rfl rfl λK hK=>?_
       simp (disch:=omega) [zG3,DtCSet.cells,DtCSnap.cells]
       repeat' first|(exfalso;omega)|(refine ⟨λ_=>?_,λ_=>?_⟩)|(refine ⟨by omega,?_⟩)|(intro _)
       all_goals (refine hK _ ?_;clear hK K)
       all_goals
        refine zbm (zbq ?_)
        simp (disch:=omega) [zG3,DtCSet.cells,DtCSnap.cells]
        all_goals first|(unfold findN;rw [zdq (by assumption) (by simp_all [zbd]) hpre];done)|(unfold findN;exact (zdq (by assumption) (by simp_all [zbd]) hpre))|(unfold findN;exact zgz (λj x h=>hpre j x (by omega)))
     ·try simp at hc5
      all_goals
       refine zbk ?_
       refine zbn ?_
       refine zco rfl rfl λK hK=>?_
       simp (disch:=omega) [zG3,DtCSet.cells,DtCSnap.cells]
       repeat' first|(exfalso;omega)|(refine ⟨λ_=>?_,λ_=>?_⟩)|(refine ⟨by omega,?_⟩)|(intro _)
       all_goals (refine hK _ ?_;clear hK K)
       all_goals
        refine ⟨_,LeS.kp [(1,.s name),(2,.ptr 48 0),(5,(.g (.int .i64 (((i+1):Nat)))))] (by simp [zG1,KpE];try rfl),_,?_,i+1,rfl,?_,rfl⟩
        ·omega
        ·refine ⟨by omega,?_⟩;grind [zbc]
  ·try simp at hc4
   all_goals
    refine zbx ?_
    refine zbn ?_
    refine AW_r rfl rfl λK hK=>?_
    simp (disch:=omega) [zG3,DtCSet.cells,DtCSnap.cells]
    repeat' first|(exfalso;omega)|(refine ⟨λ_=>?_,λ_=>?_⟩)|(refine ⟨by omega,?_⟩)|(intro _)
    all_goals (refine hK _ ?_;clear hK K)
    all_goals
     refine zbm (zbq ?_)
     simp (disch:=omega) [zG3,DtCSet.cells,DtCSnap.cells]
     all_goals first|(unfold findN;rw [zdq (by assumption) (by simp_all [zbd]) hpre];done)|(unfold findN;exact (zdq (by assumption) (by simp_all [zbd]) hpre))|(unfold findN;exact zgz (λj x h=>hpre j x (by omega)))
def zG4:=And.intro @zfz (And.intro @zd7 (And.intro @zfy @zkg))
theorem zwp(c:DtCatalog)(hs:DtCatalog.sz c≤1048576):PCall Tryd.prog 40 [.agg (DtCatalog.cells c)] (.g (.bool (decB (CatP c)))):=by
 have hl:c.fSets.length≤1048576:=by have:=zbs DtCSet.sz_nonneg c.fSets;simp only [DtCatalog.sz,szS] at hs;omega
 have hl2:∀i (h:i<c.fSets.length),c.fSets[i].fSnaps.length≤1048576:=by
  intro i h
  have h1:=zci DtCSet.sz_nonneg c.fSets c.fSets[i] (List.getElem_mem _)
  have h2:=zbs DtCSnap.sz_nonneg c.fSets[i].fSnaps
  simp only [DtCatalog.sz,szS] at hs
  simp only [DtCSet.sz,szS] at h1
  omega
 refine zbe Tryd.func40 (by rfl) (by rfl) (by rw [Tryd.ntmps40];exact Nat.le_of_ble_eq_true rfl) rfl (by decide) ?_
 rw [Tryd.ntmps40]
 refine AW_k [(0,_)] ⟨rfl,trivial⟩ ?_
 refine AW_r rfl rfl λK hK=>?_
 simp (disch:=omega) [zG2,DtCatalog.cells,DtCSet.cells,DtCSnap.cells]
 repeat' first|(refine ⟨by omega,?_⟩)|(intro _)
 refine hK _ ?_;clear hK K
 refine zbh ?_
 refine AW_r rfl rfl λK hK=>?_
 simp (disch:=omega) [zG2,DtCatalog.cells,DtCSet.cells,DtCSnap.cells]
 repeat' first|(refine ⟨by omega,?_⟩)|(intro _)
 refine hK _ ?_;clear hK K
 refine zbj rfl (λhc6=>?_) (λhc6=>?_)
 ·try simp at hc6
  all_goals
   refine AW_r rfl rfl λK hK=>?_
   simp (disch:=omega) [zG2,DtCatalog.cells,DtCSet.cells,DtCSnap.cells]
   repeat' first|(exfalso;omega)|(refine ⟨λ_=>?_,λ_=>?_⟩)|(refine ⟨by omega,?_⟩)|(intro _)
   all_goals (refine hK _ ?_;clear hK K)
   all_goals
    refine zbm (zbq ?_)
    simp (disch:=omega) [zG2,DtCatalog.cells,DtCSet.cells,DtCSnap.cells]
    all_goals first | grind [CatP,SetP]|(refine zck λh=>?_;grind [CatP,SetP])|(refine zcj ?_;grind [CatP,SetP])
 ·try simp at hc6
  all_goals
   refine zbk ?_
   refine zbn ?_
   refine zbh ?_
   refine AW_r rfl rfl λK hK=>?_
   simp (disch:=omega) [zG2,DtCatalog.cells,DtCSet.cells,DtCSnap.cells]
   repeat' first|(exfalso;omega)|(refine ⟨λ_=>?_,λ_=>?_⟩)|(refine ⟨by omega,?_⟩)|(intro _)
   all_goals (refine hK _ ?_;clear hK K)
   all_goals
    refine zbi ?_
    refine zbr (λmM sS=>∃(i:Nat),mM=c.fSets.length-i∧(i≤c.fSets.length∧∀j s,j<i→c.fSets[j]? = some s→SetP s∧∀t,0<j→c.fSets[j-1]? = some t→Op.bytesLess t.fName s.fName=true)∧sS = { env:=lkE [(1,.ptr 32 0),(3,(.g (.int .i64 ((i:Nat)))))],ob:=lk [(32,.cells (DtCatalog.cells c))] }) ?_ ?_
    ·refine ⟨_,LeS.ko [(1,.ptr 32 0),(3,(.g (.int .i64 (((0):Nat)))))] [(32,.cells (DtCatalog.cells c))] (by simp [zG1,KpE,DtCatalog.cells,DtCSet.cells];try rfl) (by simp [zG4,KpO,DtCatalog.cells,DtCSet.cells];try rfl) (by rfl) (by simp) (by rfl),_,0,rfl,?_,rfl⟩
     ·simp
    ·rintro mM sS ⟨i,rfl,⟨hi,hpre⟩,rfl⟩
     refine zbh ?_
     refine AW_r rfl rfl λK hK=>?_
     simp (disch:=omega) [zG2,DtCatalog.cells,DtCSet.cells,DtCSnap.cells]
     repeat' first|(refine ⟨by omega,?_⟩)|(intro _)
     refine hK _ ?_;clear hK K
     refine zbj rfl (λhc7=>?_) (λhc7=>?_)
     ·try simp at hc7
      all_goals
       have hg:c.fSets[i]? = some (c.fSets[i]):=List.getElem?_eq_getElem (by omega)
       have hg':c.fSets[i-1]? = some (c.fSets[i-1]):=List.getElem?_eq_getElem (by omega)
       have hl2':=hl2 i (by omega)
       rcases Nat.eq_zero_or_pos i with hi0 | hi0
       all_goals
        refine zbk ?_
        refine zbn ?_
        refine zbh ?_
        refine zbi ?_
        refine AW_r rfl rfl λK hK=>?_
        simp (disch:=omega) [zG2,DtCatalog.cells,DtCSet.cells,DtCSnap.cells]
        repeat' first|(exfalso;omega)|(refine ⟨λ_=>?_,λ_=>?_⟩)|(refine ⟨by omega,?_⟩)|(intro _)
        all_goals (refine hK _ ?_;clear hK K)
        all_goals
         refine zbh ?_
         refine AW_q rfl mix (by kernel_rfl) rfl λK hK=>?_
         simp (disch:=omega) [zG2,DtCatalog.cells,DtCSet.cells,DtCSnap.cells]
         repeat' first|(exfalso;omega)|(refine zby (zba zd6 zbg) (l4Word _) rfl ?_;simp (disch:=omega) [zG2,DtCatalog.cells,DtCSet.cells,DtCSnap.cells])|(refine ⟨λ_=>?_,λ_=>?_⟩)|(refine ⟨by omega,?_⟩)|(intro _)
         all_goals (refine hK _ ?_;clear hK K)
         all_goals
          refine zbj rfl (λhc8=>?_) (λhc8=>?_)
          ·try simp at hc8
           all_goals
            refine AW_r rfl rfl λK hK=>?_
            simp (disch:=omega) [zG2,DtCatalog.cells,DtCSet.cells,DtCSnap.cells]
            repeat' first|(exfalso;omega)|(refine ⟨λ_=>?_,λ_=>?_⟩)|(refine ⟨by omega,?_⟩)|(intro _)
            all_goals (refine hK _ ?_;clear hK K)
            all_goals
             refine zbm (zbq ?_)
             simp (disch:=omega) [zG2,DtCatalog.cells,DtCSet.cells,DtCSnap.cells]
             all_goals first | grind [CatP,SetP]|(refine zck λh=>?_;grind [CatP,SetP])|(refine zcj ?_;grind [CatP,SetP])
          ·try simp at hc8
           all_goals
            refine zbk ?_
            refine zbn ?_
            refine AW_r rfl rfl λK hK=>?_
            simp (disch:=omega) [zG2,DtCatalog.cells,DtCSet.cells,DtCSnap.cells]
            repeat' first|(exfalso;omega)|(refine ⟨λ_=>?_,λ_=>?_⟩)|(refine ⟨by omega,?_⟩)|(intro _)
            all_goals (refine hK _ ?_;clear hK K)
            all_goals
             refine zbi ?_
             refine zbr (λmM sS=>∃(k:Nat),mM=(c.fSets[i]).fSnaps.length-k∧(k≤(c.fSets[i]).fSnaps.length∧∀j p,j<k→(c.fSets[i]).fSnaps[j]? = some p→SnapP p∧findN (c.fSets[i]).fSnaps p.fName=j)∧sS = { env:=lkE [(1,.ptr 32 0),(3,(.g (.int .i64 ((i:Nat))))),(4,.ptr 80 0),(5,(.g (.int .i64 ((k:Nat)))))],ob:=lk [(32,.cells (DtCatalog.cells c)),(80,.cells (DtCSet.cells c.fSets[i]))] }) ?_ ?_
             ·refine ⟨_,LeS.ko [(1,.ptr 32 0),(3,(.g (.int .i64 ((i:Nat))))),(4,.ptr 80 0),(5,(.g (.int .i64 (((0):Nat)))))] [(32,.cells (DtCatalog.cells c)),(80,.cells (DtCSet.cells c.fSets[i]))] (by simp [zG1,KpE,DtCatalog.cells,DtCSet.cells];try rfl) (by simp [zG4,KpO,DtCatalog.cells,DtCSet.cells];try rfl) (by rfl) (by simp) (by rfl),_,0,rfl,?_,rfl⟩
              ·simp
             ·rintro mM sS ⟨k,rfl,⟨hk,hkre⟩,rfl⟩
              refine zbh ?_
              refine AW_r rfl rfl λK hK=>?_
              simp (disch:=omega) [zG2,DtCatalog.cells,DtCSet.cells,DtCSnap.cells]
              repeat' first|(refine ⟨by omega,?_⟩)|(intro _)
              refine hK _ ?_;clear hK K
              refine zbj rfl (λhc9=>?_) (λhc9=>?_)
              ·try simp at hc9
               all_goals
                have hg2:(c.fSets[i]).fSnaps[k]? = some ((c.fSets[i]).fSnaps[k]):=List.getElem?_eq_getElem (by omega)
                refine zbk ?_
                refine zbn ?_
                refine zbh ?_
                refine zbi ?_
                refine AW_q rfl mix (by kernel_rfl) rfl λK hK=>?_
                simp (disch:=omega) [zG2,DtCatalog.cells,DtCSet.cells,DtCSnap.cells]
                repeat' first|(exfalso;omega)|(refine zby (zba (zbv rfl) zbg) (l15Snap _) rfl ?_;simp (disch:=omega) [zG2,DtCatalog.cells,DtCSet.cells,DtCSnap.cells])|(refine zby (zba (zbv rfl) (zba zd6 zbg)) (l15Find _ _ (by omega)) rfl ?_;simp (disch:=omega) [zG2,DtCatalog.cells,DtCSet.cells,DtCSnap.cells])|(refine ⟨λ_=>?_,λ_=>?_⟩)|(refine ⟨by omega,?_⟩)|(intro _)
                all_goals (refine hK _ ?_;clear hK K)
                all_goals
                 refine zbj rfl (λhc10=>?_) (λhc10=>?_)
                 ·try simp at hc10
                  all_goals
                   refine AW_r rfl rfl λK hK=>?_
                   simp (disch:=omega) [zG2,DtCatalog.cells,DtCSet.cells,DtCSnap.cells]
                   repeat' first|(exfalso;omega)|(refine ⟨λ_=>?_,λ_=>?_⟩)|(refine ⟨by omega,?_⟩)|(intro _)
                   all_goals (refine hK _ ?_;clear hK K)
                   all_goals
                    refine zbm (zbq ?_)
                    simp (disch:=omega) [zG2,DtCatalog.cells,DtCSet.cells,DtCSnap.cells]
                    all_goals first | grind [CatP,SetP]|(refine zck λh=>?_;grind [CatP,SetP])|(refine zcj ?_;grind [CatP,SetP])
                 ·try simp at hc10
                  all_goals
                   refine zbk ?_
                   refine zbn ?_
                   refine zco rfl rfl λK hK=>?_
                   simp (disch:=omega) [zG2,DtCatalog.cells,DtCSet.cells,DtCSnap.cells]
                   repeat' first|(exfalso;omega)|(refine ⟨λ_=>?_,λ_=>?_⟩)|(refine ⟨by omega,?_⟩)|(intro _)
                   all_goals (refine hK _ ?_;clear hK K)
                   all_goals
                    refine ⟨_,LeS.ko [(1,.ptr 32 0),(3,(.g (.int .i64 ((i:Nat))))),(4,.ptr 80 0),(5,(.g (.int .i64 (((k+1):Nat)))))] [(32,.cells (DtCatalog.cells c)),(80,.cells (DtCSet.cells c.fSets[i]))] (by simp [zG1,KpE,DtCatalog.cells,DtCSet.cells];try rfl) (by simp [zG4,KpO,DtCatalog.cells,DtCSet.cells];try rfl) (by rfl) (by simp) (by rfl),_,?_,k+1,rfl,?_,rfl⟩
                    ·omega
                    ·refine ⟨by omega,?_⟩;clear hl2;grind
              ·try simp at hc9
               all_goals
                refine zbx ?_
                refine zbn ?_
                refine zco rfl rfl λK hK=>?_
                simp (disch:=omega) [zG2,DtCatalog.cells,DtCSet.cells,DtCSnap.cells]
                repeat' first|(exfalso;omega)|(refine ⟨λ_=>?_,λ_=>?_⟩)|(refine ⟨by omega,?_⟩)|(intro _)
                all_goals (refine hK _ ?_;clear hK K)
                all_goals
                 refine ⟨_,LeS.ko [(1,.ptr 32 0),(3,(.g (.int .i64 (((i+1):Nat)))))] [(32,.cells (DtCatalog.cells c))] (by simp [zG1,KpE,DtCatalog.cells,DtCSet.cells];try rfl) (by simp [zG4,KpO,DtCatalog.cells,DtCSet.cells];try rfl) (by rfl) (by simp) (by rfl),_,?_,i+1,rfl,?_,rfl⟩
                 ·omega
                 ·refine ⟨by omega,?_⟩;clear hg' hl2;grind [SetP]
     ·try simp at hc7
      all_goals
       refine zbx ?_
       refine zbn ?_
       refine AW_r rfl rfl λK hK=>?_
       simp (disch:=omega) [zG2,DtCatalog.cells,DtCSet.cells,DtCSnap.cells]
       repeat' first|(exfalso;omega)|(refine ⟨λ_=>?_,λ_=>?_⟩)|(refine ⟨by omega,?_⟩)|(intro _)
       all_goals (refine hK _ ?_;clear hK K)
       all_goals
        refine zbm (zbq ?_)
        simp (disch:=omega) [zG2,DtCatalog.cells,DtCSet.cells,DtCSnap.cells]
        all_goals first | grind [CatP,SetP]|(refine zck λh=>?_;grind [CatP,SetP])|(refine zcj ?_;grind [CatP,SetP])
def Ch8(l:List (List UInt8)):Prop:=∀(j:Nat) c,l[j]? = some c→c.length=8
theorem zwq(l:List (List UInt8))(hs:l.length≤1048576):PCall Tryd.prog 71 [.sl 1 (l.map cS)] (.g (.bool (decB (Ch8 l)))):=by
 refine zbe Tryd.func71 (by rfl) (by rfl) (by rw [Tryd.ntmps71];exact Nat.le_of_ble_eq_true rfl) rfl (by decide) ?_
 rw [Tryd.ntmps71]
 refine AW_k [(0,_)] ⟨rfl,trivial⟩ ?_
 refine AW_r rfl rfl λK hK=>?_
 simp (disch:=omega) [zG3,cS]
 repeat' first|(refine ⟨by omega,?_⟩)|(intro _)
 refine hK _ ?_;clear hK K
 refine zbh ?_
 refine AW_r rfl rfl λK hK=>?_
 simp (disch:=omega) [zG3,cS]
 repeat' first|(refine ⟨by omega,?_⟩)|(intro _)
 refine hK _ ?_;clear hK K
 refine zbi ?_
 refine zbr (λmM sS=>∃(i:Nat),mM=l.length-i∧(i≤l.length∧∀(j:Nat) c,j<i→l[j]? = some c→c.length=8)∧sS = { env:=lkE [(5,.sl 1 (l.map cS)),(6,(.g (.int .i64 ((l.length:Nat))))),(7,(.g (.int .i64 ((i:Nat)))))],ob:=formOb [] [] }) ?_ ?_
 ·refine ⟨_,LeS.kp [(5,.sl 1 (l.map cS)),(6,(.g (.int .i64 ((l.length:Nat))))),(7,(.g (.int .i64 (((0):Nat)))))] (by simp [zG1,KpE];try rfl),_,0,rfl,?_,rfl⟩
  ·simp
 ·rintro mM sS ⟨i,rfl,⟨hi,hpre⟩,rfl⟩
  refine AW_r rfl rfl λK hK=>?_
  simp (disch:=omega) [zG3,cS]
  repeat' first|(refine ⟨by omega,?_⟩)|(intro _)
  refine hK _ ?_;clear hK K
  refine zbh ?_
  refine zbj rfl (λhc11=>?_) (λhc11=>?_)
  ·try simp at hc11
   all_goals
    have hg:l[i]? = some (l[i]):=List.getElem?_eq_getElem (by omega)
    refine zbk ?_
    refine zbn ?_
    refine zbh ?_
    refine zbi ?_
    refine AW_r rfl rfl λK hK=>?_
    simp (disch:=omega) [zG3,cS]
    repeat' first|(exfalso;omega)|(refine ⟨λ_=>?_,λ_=>?_⟩)|(refine ⟨by omega,?_⟩)|(intro _)
    all_goals (refine hK _ ?_;clear hK K)
    all_goals
     refine AW_r rfl rfl λK hK=>?_
     simp (disch:=omega) [zG3,cS]
     repeat' first|(refine ⟨by omega,?_⟩)|(intro _)
     refine hK _ ?_;clear hK K
     refine zbj rfl (λhc12=>?_) (λhc12=>?_)
     ·try simp at hc12
      all_goals
       refine AW_r rfl rfl λK hK=>?_
       simp (disch:=omega) [zG3,cS]
       repeat' first|(exfalso;omega)|(refine ⟨λ_=>?_,λ_=>?_⟩)|(refine ⟨by omega,?_⟩)|(intro _)
       all_goals (refine hK _ ?_;clear hK K)
       all_goals
        refine zbm (zbq ?_)
        simp (disch:=omega) [zG3,cS]
        all_goals first|(refine zck λh=>?_;grind [Ch8])|(refine zcj ?_;grind [Ch8])
     ·try simp at hc12
      all_goals
       refine zbk ?_
       refine zbn ?_
       refine zco rfl rfl λK hK=>?_
       simp (disch:=omega) [zG3,cS]
       repeat' first|(exfalso;omega)|(refine ⟨λ_=>?_,λ_=>?_⟩)|(refine ⟨by omega,?_⟩)|(intro _)
       all_goals (refine hK _ ?_;clear hK K)
       all_goals
        refine ⟨_,LeS.kp [(5,.sl 1 (l.map cS)),(6,(.g (.int .i64 ((l.length:Nat))))),(7,(.g (.int .i64 (((i+1):Nat)))))] (by simp [zG1,KpE];try rfl),_,?_,i+1,rfl,?_,rfl⟩
        ·omega
        ·refine ⟨by omega,?_⟩;grind
  ·try simp at hc11
   all_goals
    refine zbx ?_
    refine zbn ?_
    refine AW_r rfl rfl λK hK=>?_
    simp (disch:=omega) [zG3,cS]
    repeat' first|(exfalso;omega)|(refine ⟨λ_=>?_,λ_=>?_⟩)|(refine ⟨by omega,?_⟩)|(intro _)
    all_goals (refine hK _ ?_;clear hK K)
    all_goals
     refine zbm (zbq ?_)
     simp (disch:=omega) [zG3,cS]
     all_goals first|(refine zck λh=>?_;grind [Ch8])|(refine zcj ?_;grind [Ch8])
theorem snap1(p:DtCSnap)(name:List UInt8):GCall Tryd.prog 77 [.agg (DtCSnap.cells p),.ptr 0 0] [[.s name]] [] (.g (.bool (eqB p.fName name))) []:=by
 refine zbe Tryd.func77 (by rfl) (by rfl) (by rw [Tryd.ntmps77];exact Nat.le_of_ble_eq_true rfl) rfl (by decide) ?_
 rw [Tryd.ntmps77]
 refine AW_k [(0,_),(1,_)] ⟨rfl,rfl,trivial⟩ ?_
 refine AW_r rfl rfl λK hK=>?_
 simp [DtCSnap.cells]
 repeat' first|(refine ⟨by omega,?_⟩)|(intro _)
 refine hK _ ?_;clear hK K
 refine AW_r rfl rfl λK hK=>?_
 simp [DtCSnap.cells]
 repeat' first|(refine ⟨by omega,?_⟩)|(intro _)
 refine hK _ ?_;clear hK K
 refine zbm (zbq ?_)
 simp [DtCSnap.cells]
 all_goals first|(rw [Bool.eq_iff_iff,zbd];simp;done)|(rw [eqB];simp)
theorem zlg{F:FuncId}{name:List UInt8}{p:DtCSnap→Bool}(xs:List DtCSnap)(hn:xs.length≤1048576)(hf:∀x,GCall Tryd.prog F [.agg (DtCSnap.cells x),.ptr 0 0] [[.s name]] [] (.g (.bool (p x))) []):GCall Tryd.prog 76 [.sl 3 (xs.map DtCSnap.cells),.fn F [] [.ptr 0 0]] [[.s name]] [] (.g (.int .i64 (idxZ p xs))) []:=by
 refine zbe Tryd.func76 (by rfl) (by rfl) (by rw [Tryd.ntmps76];exact Nat.le_of_ble_eq_true rfl) rfl (by decide) ?_
 rw [Tryd.ntmps76]
 refine AW_k [(0,_),(1,_)] ⟨rfl,rfl,trivial⟩ ?_
 refine AW_r rfl rfl λK hK=>?_
 simp (disch:=omega) [zG3,DtCSnap.cells]
 repeat' first|(refine zgy 0 (.inr rfl) (zcn [.s name] rfl) (zba (zbv rfl) (zba zd1 zbg)) (hf _) rfl ?_;try simp (disch:=omega) [zG3,DtCSnap.cells])|(refine ⟨by omega,?_⟩)|(intro _)
 refine hK _ ?_;clear hK K
 refine zbh ?_
 refine AW_r rfl rfl λK hK=>?_
 simp (disch:=omega) [zG3,DtCSnap.cells]
 repeat' first|(refine zgy 0 (.inr rfl) (zcn [.s name] rfl) (zba (zbv rfl) (zba zd1 zbg)) (hf _) rfl ?_;try simp (disch:=omega) [zG3,DtCSnap.cells])|(refine ⟨by omega,?_⟩)|(intro _)
 refine hK _ ?_;clear hK K
 refine zbi ?_
 refine zbr (λmM sS=>∃(i:Nat),mM=xs.length-i∧(i≤xs.length∧∀j x,j<i→xs[j]? = some x→p x=false)∧sS = { env:=lkE [(0,.sl 3 (xs.map DtCSnap.cells)),(1,.fn F [] [.ptr 0 0]),(6,.sl 3 (xs.map DtCSnap.cells)),(7,(.g (.int .i64 ((xs.length:Nat))))),(8,(.g (.int .i64 ((i:Nat)))))],ob:=formOb [[.s name]] [] }) ?_ ?_
 ·refine ⟨_,LeS.kp [(0,.sl 3 (xs.map DtCSnap.cells)),(1,.fn F [] [.ptr 0 0]),(6,.sl 3 (xs.map DtCSnap.cells)),(7,(.g (.int .i64 ((xs.length:Nat))))),(8,(.g (.int .i64 (((0):Nat)))))] (by simp [zG1,KpE];try rfl),_,0,rfl,?_,rfl⟩
  ·simp
 ·rintro mM sS ⟨i,rfl,⟨hi,hpre⟩,rfl⟩
  refine AW_r rfl rfl λK hK=>?_
  simp (disch:=omega) [zG3,DtCSnap.cells]
  repeat' first|(refine zgy 0 (.inr rfl) (zcn [.s name] rfl) (zba (zbv rfl) (zba zd1 zbg)) (hf _) rfl ?_;try simp (disch:=omega) [zG3,DtCSnap.cells])|(refine ⟨by omega,?_⟩)|(intro _)
  refine hK _ ?_;clear hK K
  refine zbh ?_
  refine zbj rfl (λhc13=>?_) (λhc13=>?_)
  ·try simp at hc13
   all_goals
    have hg:xs[i]? = some (xs[i]):=List.getElem?_eq_getElem (by omega)
    refine zbk ?_
    refine zbn ?_
    refine zbh ?_
    refine zbi ?_
    refine AW_r rfl rfl λK hK=>?_
    simp (disch:=omega) [zG3,DtCSnap.cells]
    repeat' first|(exfalso;omega)|(refine zgy 0 (.inr rfl) (zcn [.s name] rfl) (zba (zbv rfl) (zba zd1 zbg)) (hf _) rfl ?_;try simp (disch:=omega) [zG3,DtCSnap.cells])|(refine ⟨λ_=>?_,λ_=>?_⟩)|(refine ⟨by omega,?_⟩)|(intro _)
    all_goals (refine hK _ ?_;clear hK K)
    all_goals
     refine AW_r rfl rfl λK hK=>?_
     simp (disch:=omega) [zG3,DtCSnap.cells]
     repeat' first|(refine zgy 0 (.inr rfl) (zcn [.s name] rfl) (zba (zbv rfl) (zba zd1 zbg)) (hf _) rfl ?_;try simp (disch:=omega) [zG3,DtCSnap.cells])|(refine ⟨by omega,?_⟩)|(intro _)
     refine hK _ ?_;clear hK K
     refine zbj rfl (λhc14=>?_) (λhc14=>?_)
     ·try simp at hc14
      all_goals
       refine AW_r rfl rfl λK hK=>?_
       simp (disch:=omega) [zG3,DtCSnap.cells]
       repeat' first|(exfalso;omega)|(refine zgy 0 (.inr rfl) (zcn [.s name] rfl) (zba (zbv rfl) (zba zd1 zbg)) (hf _) rfl ?_;try simp (disch:=omega) [zG3,DtCSnap.cells])|(refine ⟨λ_=>?_,λ_=>?_⟩)|(refine ⟨by omega,?_⟩)|(intro _)
       all_goals (refine hK _ ?_;clear hK K)
       all_goals
        refine zbm (zbq ?_)
        simp (disch:=omega) [zG3,DtCSnap.cells]
        all_goals first|(exact zdq (by assumption) (by assumption) hpre)|(exact zgz (λj x h=>hpre j x (by omega)))
     ·try simp at hc14
      all_goals
       refine zbk ?_
       refine zbn ?_
       refine zco rfl rfl λK hK=>?_
       simp (disch:=omega) [zG3,DtCSnap.cells]
       repeat' first|(exfalso;omega)|(refine zgy 0 (.inr rfl) (zcn [.s name] rfl) (zba (zbv rfl) (zba zd1 zbg)) (hf _) rfl ?_;try simp (disch:=omega) [zG3,DtCSnap.cells])|(refine ⟨λ_=>?_,λ_=>?_⟩)|(refine ⟨by omega,?_⟩)|(intro _)
       all_goals (refine hK _ ?_;clear hK K)
       all_goals
        refine ⟨_,LeS.kp [(0,.sl 3 (xs.map DtCSnap.cells)),(1,.fn F [] [.ptr 0 0]),(6,.sl 3 (xs.map DtCSnap.cells)),(7,(.g (.int .i64 ((xs.length:Nat))))),(8,(.g (.int .i64 (((i+1):Nat)))))] (by simp [zG1,KpE];try rfl),_,?_,i+1,rfl,?_,rfl⟩
        ·omega
        ·refine ⟨by omega,?_⟩;grind
  ·try simp at hc13
   all_goals
    refine zbx ?_
    refine zbn ?_
    refine AW_r rfl rfl λK hK=>?_
    simp (disch:=omega) [zG3,DtCSnap.cells]
    repeat' first|(exfalso;omega)|(refine zgy 0 (.inr rfl) (zcn [.s name] rfl) (zba (zbv rfl) (zba zd1 zbg)) (hf _) rfl ?_;try simp (disch:=omega) [zG3,DtCSnap.cells])|(refine ⟨λ_=>?_,λ_=>?_⟩)|(refine ⟨by omega,?_⟩)|(intro _)
    all_goals (refine hK _ ?_;clear hK K)
    all_goals
     refine zbm (zbq ?_)
     simp (disch:=omega) [zG3,DtCSnap.cells]
     all_goals first|(exact zdq (by assumption) (by assumption) hpre)|(exact zgz (λj x h=>hpre j x (by omega)))
theorem snap(s:DtCSet)(name:List UInt8)(hs:s.fSnaps.length≤1048576):PCall Tryd.prog 72 [.agg (DtCSet.cells s),.s name] (.g (.int .i64 (findN s.fSnaps name))):=by
 refine zbe Tryd.func72 (by rfl) (by rfl) (by rw [Tryd.ntmps72];exact Nat.le_of_ble_eq_true rfl) rfl (by decide) ?_
 rw [Tryd.ntmps72]
 refine AW_k [(0,_),(1,_)] ⟨rfl,rfl,trivial⟩ ?_
 refine AW_r rfl rfl λK hK=>?_
 simp [DtCSet.cells]
 repeat' first|(refine ⟨by omega,?_⟩)|(intro _)
 refine hK _ ?_;clear hK K
 refine AW_r rfl rfl λK hK=>?_
 simp [DtCSet.cells]
 repeat' first|(refine zgy 64 (.inl rfl) (zcn [.s name] rfl) (zba zc6 (zba am2_fn0 zbg)) (zlg _ hs (λx=>snap1 x name)) rfl ?_;simp [DtCSet.cells])|(refine ⟨by omega,?_⟩)|(intro _)
 refine hK _ ?_;clear hK K
 refine zbm (zbq ?_)
 simp [DtCSet.cells,findN]
 all_goals first | omega|(simp_all;done)|(simp [List.take_of_length_le];done)|((try simp_all);(try simp (disch:=omega) only [zbu,Int.tdiv_eq_ediv_of_nonneg,Int.tmod_eq_emod_of_nonneg,and_true,true_and]);done)|((try simp_all);(try simp (disch:=omega) only [zbu,Int.tdiv_eq_ediv_of_nonneg,Int.tmod_eq_emod_of_nonneg,and_true,true_and] at *);omega)
theorem setOk(s:DtCSet)(hs:DtCSet.sz s≤1048576):PCall Tryd.prog 62 [.agg (DtCSet.cells s)] (.g (.bool (decB (SetP s)))):=by
 have hl:s.fSnaps.length≤1048576:=by have:=zbs DtCSnap.sz_nonneg s.fSnaps;simp only [DtCSet.sz,szS] at hs;omega
 have hw:s.fName.length≤1048576:=by have:=zbs DtCSnap.sz_nonneg s.fSnaps;simp only [DtCSet.sz,szS] at hs;omega
 have hsn:∀k (h:k<s.fSnaps.length),s.fSnaps[k].fName.length≤1048576∧s.fSnaps[k].fTag.length≤1048576∧s.fSnaps[k].fChunks.length≤1048576:=by
  intro k h
  have h1:=zci DtCSnap.sz_nonneg s.fSnaps s.fSnaps[k] (List.getElem_mem _)
  have h2:=zbs zch s.fSnaps[k].fChunks
  simp only [DtCSet.sz,szS] at hs
  simp only [DtCSnap.sz,szS] at h1
  omega
 refine zbe Tryd.func62 (by rfl) (by rfl) (by rw [Tryd.ntmps62];exact Nat.le_of_ble_eq_true rfl) rfl (by decide) ?_
 rw [Tryd.ntmps62]
 refine AW_k [(0,_)] ⟨rfl,trivial⟩ ?_
 refine AW_r rfl rfl λK hK=>?_
 simp (disch:=omega) [zG2,DtCSet.cells,DtCSnap.cells]
 repeat' first|(refine ⟨by omega,?_⟩)|(intro _)
 refine hK _ ?_;clear hK K
 refine zbh ?_
 refine AW_r rfl rfl λK hK=>?_
 simp (disch:=omega) [zG2,DtCSet.cells,DtCSnap.cells]
 repeat' first|(refine ⟨by omega,?_⟩)|(intro _)
 refine hK _ ?_;clear hK K
 refine zbi ?_
 refine zbr (λmM sS=>∃(k:Nat),mM=s.fSnaps.length-k∧(k≤s.fSnaps.length∧∀j p,j<k→s.fSnaps[j]? = some p→SnapP p∧findN s.fSnaps p.fName=j)∧sS = { env:=lkE [(1,.ptr 32 0),(6,.sl 3 (s.fSnaps.map DtCSnap.cells)),(7,(.g (.int .i64 ((s.fSnaps.length:Nat))))),(8,(.g (.int .i64 ((k:Nat)))))],ob:=lk [(32,.cells (DtCSet.cells s))] }) ?_ ?_
 ·refine ⟨_,LeS.ko [(1,.ptr 32 0),(6,.sl 3 (s.fSnaps.map DtCSnap.cells)),(7,(.g (.int .i64 ((s.fSnaps.length:Nat))))),(8,(.g (.int .i64 (((0):Nat)))))] [(32,.cells (DtCSet.cells s))] (by simp [zG1,KpE,DtCSet.cells];try rfl) (by simp [zG4,KpO,DtCSet.cells];try rfl) (by rfl) (by simp) (by rfl),_,0,rfl,?_,rfl⟩
  ·simp
 ·rintro mM sS ⟨k,rfl,⟨hk,hkre⟩,rfl⟩
  refine AW_r rfl rfl λK hK=>?_
  simp (disch:=omega) [zG2,DtCSet.cells,DtCSnap.cells]
  repeat' first|(refine ⟨by omega,?_⟩)|(intro _)
  refine hK _ ?_;clear hK K
  refine zbh ?_
  refine zbj rfl (λhc15=>?_) (λhc15=>?_)
  ·try simp at hc15
   all_goals
    have hg2:s.fSnaps[k]? = some (s.fSnaps[k]):=List.getElem?_eq_getElem (by omega)
    have hm:=hsn k (by omega)
    refine zbk ?_
    refine zbn ?_
    refine zbh ?_
    refine zbi ?_
    refine AW_r rfl rfl λK hK=>?_
    simp (disch:=omega) [zG2,DtCSet.cells,DtCSnap.cells]
    repeat' first|(exfalso;omega)|(refine ⟨λ_=>?_,λ_=>?_⟩)|(refine ⟨by omega,?_⟩)|(intro _)
    all_goals (refine hK _ ?_;clear hK K)
    all_goals
     refine AW_r rfl rfl λK hK=>?_
     simp (disch:=omega) [zG2,DtCSet.cells,DtCSnap.cells]
     repeat' first|(exfalso;omega)|(refine zby (zba zd6 zbg) (isWord _ (by omega)) rfl ?_;simp (disch:=omega) [zG2,DtCSet.cells,DtCSnap.cells])|(refine zby (zba zbz (zba zbz (zba zbz zbg))) (zpn _ _ _) rfl ?_;simp (disch:=omega) [zG2,DtCSet.cells,DtCSnap.cells])|(refine zby (zba zc6 zbg) (zwq _ (by omega)) rfl ?_;simp (disch:=omega) [zG2,DtCSet.cells,DtCSnap.cells])|(refine zby (zba (zbv rfl) (zba zd6 zbg)) (snap _ _ (by omega)) rfl ?_;simp (disch:=omega) [zG2,DtCSet.cells,DtCSnap.cells])|(refine ⟨λ_=>?_,λ_=>?_⟩)|(refine ⟨by omega,?_⟩)|(intro _)
     all_goals (refine hK _ ?_;clear hK K)
     all_goals
      refine zbj rfl (λhc16=>?_) (λhc16=>?_)
      ·try simp at hc16
       all_goals
        refine AW_r rfl rfl λK hK=>?_
        simp (disch:=omega) [zG2,DtCSet.cells,DtCSnap.cells]
        repeat' first|(exfalso;omega)|(refine ⟨λ_=>?_,λ_=>?_⟩)|(refine ⟨by omega,?_⟩)|(intro _)
        all_goals (refine hK _ ?_;clear hK K)
        all_goals
         refine zbm (zbq ?_)
         simp (disch:=omega) [zG2,DtCSet.cells,DtCSnap.cells]
         all_goals first | grind [SetP,SnapP,Ch8]|(refine zck λh=>?_;grind [SetP,SnapP,Ch8])|(refine zcj ?_;grind [SetP,SnapP,Ch8])|(rw [Bool.eq_iff_iff,zbp];simp [zbp];grind [SetP,SnapP,Ch8])
      ·try simp at hc16
       all_goals
        refine zbk ?_
        refine zbn ?_
        refine zco rfl rfl λK hK=>?_
        simp (disch:=omega) [zG2,DtCSet.cells,DtCSnap.cells]
        repeat' first|(exfalso;omega)|(refine ⟨λ_=>?_,λ_=>?_⟩)|(refine ⟨by omega,?_⟩)|(intro _)
        all_goals (refine hK _ ?_;clear hK K)
        all_goals
         refine ⟨_,LeS.ko [(1,.ptr 32 0),(6,.sl 3 (s.fSnaps.map DtCSnap.cells)),(7,(.g (.int .i64 ((s.fSnaps.length:Nat))))),(8,(.g (.int .i64 (((k+1):Nat)))))] [(32,.cells (DtCSet.cells s))] (by simp [zG1,KpE,DtCSet.cells];try rfl) (by simp [zG4,KpO,DtCSet.cells];try rfl) (by rfl) (by simp) (by rfl),_,?_,k+1,rfl,?_,rfl⟩
         ·omega
         ·refine ⟨by omega,?_⟩;clear hsn;grind [SnapP,Ch8]
  ·try simp at hc15
   all_goals
    refine zbx ?_
    refine zbn ?_
    refine AW_r rfl rfl λK hK=>?_
    simp (disch:=omega) [zG2,DtCSet.cells,DtCSnap.cells]
    repeat' first|(exfalso;omega)|(refine zby (zba zd6 zbg) (isWord _ (by omega)) rfl ?_;simp (disch:=omega) [zG2,DtCSet.cells,DtCSnap.cells])|(refine ⟨λ_=>?_,λ_=>?_⟩)|(refine ⟨by omega,?_⟩)|(intro _)
    all_goals (refine hK _ ?_;clear hK K)
    all_goals
     refine zbm (zbq ?_)
     simp (disch:=omega) [zG2,DtCSet.cells,DtCSnap.cells]
     all_goals first | grind [SetP,SnapP,Ch8]|(refine zck λh=>?_;grind [SetP,SnapP,Ch8])|(refine zcj ?_;grind [SetP,SnapP,Ch8])|(rw [Bool.eq_iff_iff,zbp];simp [zbp];grind [SetP,SnapP,Ch8])
theorem zwr(c:DtCatalog)(hs:DtCatalog.sz c≤1048576):PCall Tryd.prog 48 [.agg (DtCatalog.cells c)] (.g (.bool (decB (CatP c)))):=by
 have hl:c.fSets.length≤1048576:=by have:=zbs DtCSet.sz_nonneg c.fSets;simp only [DtCatalog.sz,szS] at hs;omega
 have hl2:∀i (h:i<c.fSets.length),DtCSet.sz c.fSets[i]≤1048576:=by
  intro i h
  have h1:=zci DtCSet.sz_nonneg c.fSets c.fSets[i] (List.getElem_mem _)
  simp only [DtCatalog.sz,szS] at hs
  omega
 refine zbe Tryd.func48 (by rfl) (by rfl) (by rw [Tryd.ntmps48];exact Nat.le_of_ble_eq_true rfl) rfl (by decide) ?_
 rw [Tryd.ntmps48]
 refine AW_k [(0,_)] ⟨rfl,trivial⟩ ?_
 refine AW_r rfl rfl λK hK=>?_
 simp (disch:=omega) [zG2,DtCatalog.cells,DtCSet.cells,DtCSnap.cells]
 repeat' first|(refine ⟨by omega,?_⟩)|(intro _)
 refine hK _ ?_;clear hK K
 refine zbh ?_
 refine AW_r rfl rfl λK hK=>?_
 simp (disch:=omega) [zG2,DtCatalog.cells,DtCSet.cells,DtCSnap.cells]
 repeat' first|(refine ⟨by omega,?_⟩)|(intro _)
 refine hK _ ?_;clear hK K
 refine zbi ?_
 refine zbr (λmM sS=>∃(i:Nat),mM=c.fSets.length-i∧(i≤c.fSets.length∧∀j s,j<i→c.fSets[j]? = some s→SetP s∧∀t,0<j→c.fSets[j-1]? = some t→Op.bytesLess t.fName s.fName=true)∧sS = { env:=lkE [(1,.ptr 32 0),(6,.sl 2 (c.fSets.map DtCSet.cells)),(7,(.g (.int .i64 ((c.fSets.length:Nat))))),(8,(.g (.int .i64 ((i:Nat)))))],ob:=lk [(32,.cells (DtCatalog.cells c))] }) ?_ ?_
 ·refine ⟨_,LeS.ko [(1,.ptr 32 0),(6,.sl 2 (c.fSets.map DtCSet.cells)),(7,(.g (.int .i64 ((c.fSets.length:Nat))))),(8,(.g (.int .i64 (((0):Nat)))))] [(32,.cells (DtCatalog.cells c))] (by simp [zG1,KpE,DtCatalog.cells,DtCSet.cells];try rfl) (by simp [zG4,KpO,DtCatalog.cells,DtCSet.cells];try rfl) (by rfl) (by simp) (by rfl),_,0,rfl,?_,rfl⟩
  ·simp
 ·rintro mM sS ⟨i,rfl,⟨hi,hpre⟩,rfl⟩
  refine AW_r rfl rfl λK hK=>?_
  simp (disch:=omega) [zG2,DtCatalog.cells,DtCSet.cells,DtCSnap.cells]
  repeat' first|(refine ⟨by omega,?_⟩)|(intro _)
  refine hK _ ?_;clear hK K
  refine zbh ?_
  refine zbj rfl (λhc17=>?_) (λhc17=>?_)
  ·try simp at hc17
   all_goals
    have hg:c.fSets[i]? = some (c.fSets[i]):=List.getElem?_eq_getElem (by omega)
    have hg':c.fSets[i-1]? = some (c.fSets[i-1]):=List.getElem?_eq_getElem (by omega)
    have hm:=hl2 i (by omega)
    rcases Nat.eq_zero_or_pos i with hi0 | hi0
    all_goals
     refine zbk ?_
     refine zbn ?_
     refine zbh ?_
     refine zbi ?_
     refine AW_r rfl rfl λK hK=>?_
     simp (disch:=omega) [zG2,DtCatalog.cells,DtCSet.cells,DtCSnap.cells]
     repeat' first|(exfalso;omega)|(refine ⟨λ_=>?_,λ_=>?_⟩)|(refine ⟨by omega,?_⟩)|(intro _)
     all_goals (refine hK _ ?_;clear hK K)
     all_goals
      refine AW_q rfl mix (by kernel_rfl) rfl λK hK=>?_
      simp (disch:=omega) [zG2,DtCatalog.cells,DtCSet.cells,DtCSnap.cells]
      repeat' first|(exfalso;omega)|(refine zby (zba (zbv rfl) zbg) (setOk _ (by first | assumption | omega)) rfl ?_;simp (disch:=omega) [zG2,DtCatalog.cells,DtCSet.cells,DtCSnap.cells])|(refine ⟨λ_=>?_,λ_=>?_⟩)|(refine ⟨by omega,?_⟩)|(intro _)
      all_goals (refine hK _ ?_;clear hK K)
      all_goals
       refine zbj rfl (λhc18=>?_) (λhc18=>?_)
       ·try simp at hc18
        all_goals
         refine AW_r rfl rfl λK hK=>?_
         simp (disch:=omega) [zG2,DtCatalog.cells,DtCSet.cells,DtCSnap.cells]
         repeat' first|(exfalso;omega)|(refine ⟨λ_=>?_,λ_=>?_⟩)|(refine ⟨by omega,?_⟩)|(intro _)
         all_goals (refine hK _ ?_;clear hK K)
         all_goals
          refine zbm (zbq ?_)
          simp (disch:=omega) [zG2,DtCatalog.cells,DtCSet.cells,DtCSnap.cells]
          all_goals first | grind [CatP]|(refine zck λh=>?_;grind [CatP])|(refine zcj ?_;grind [CatP])|(rw [Bool.eq_iff_iff,zbp];simp;grind [CatP])
       ·try simp at hc18
        all_goals
         refine zbk ?_
         refine zbn ?_
         refine zco rfl rfl λK hK=>?_
         simp (disch:=omega) [zG2,DtCatalog.cells,DtCSet.cells,DtCSnap.cells]
         repeat' first|(exfalso;omega)|(refine ⟨λ_=>?_,λ_=>?_⟩)|(refine ⟨by omega,?_⟩)|(intro _)
         all_goals (refine hK _ ?_;clear hK K)
         all_goals
          refine ⟨_,LeS.ko [(1,.ptr 32 0),(6,.sl 2 (c.fSets.map DtCSet.cells)),(7,(.g (.int .i64 ((c.fSets.length:Nat))))),(8,(.g (.int .i64 (((i+1):Nat)))))] [(32,.cells (DtCatalog.cells c))] (by simp [zG1,KpE,DtCatalog.cells,DtCSet.cells];try rfl) (by simp [zG4,KpO,DtCatalog.cells,DtCSet.cells];try rfl) (by rfl) (by simp) (by rfl),_,?_,i+1,rfl,?_,rfl⟩
          ·omega
          ·refine ⟨by omega,?_⟩;clear hg' hl2;grind
  ·try simp at hc17
   all_goals
    refine zbx ?_
    refine zbn ?_
    refine AW_r rfl rfl λK hK=>?_
    simp (disch:=omega) [zG2,DtCatalog.cells,DtCSet.cells,DtCSnap.cells]
    repeat' first|(exfalso;omega)|(refine ⟨λ_=>?_,λ_=>?_⟩)|(refine ⟨by omega,?_⟩)|(intro _)
    all_goals (refine hK _ ?_;clear hK K)
    all_goals
     refine zbm (zbq ?_)
     simp (disch:=omega) [zG2,DtCatalog.cells,DtCSet.cells,DtCSnap.cells]
     all_goals first | grind [CatP]|(refine zck λh=>?_;grind [CatP])|(refine zcj ?_;grind [CatP])|(rw [Bool.eq_iff_iff,zbp];simp;grind [CatP])
end Go.Proofs.YtchpfloemfoomaaDoor.Vs
end
section
namespace Go.Proofs.YtchpfloemfoomaaDoor.Vs
set_option linter.all false
set_option maxRecDepth 100000
def SaidAt(l:List DtSaid)(i:Nat)(x:DtSaid):Prop:=1≤x.fClient∧x.fClient≤9∧1≤x.fNo∧x.fNo≤1000∧∀y,0<i→l[i-1]? = some y→y.fClient<x.fClient
def StateP(s:DtState):Prop:=CatP s.fCat∧∀(i:Nat) x,s.fSaid[i]? = some x→SaidAt s.fSaid i x
theorem zm5(s:DtState)(hs:DtState.sz s≤1048576):DtCatalog.sz s.fCat≤1048576∧s.fSaid.length≤1048576:=by
 have h0:=zbs DtSaid.sz_nonneg s.fSaid
 have h1:=DtCatalog.sz_nonneg s.fCat
 simp only [DtState.sz,szS] at hs
 omega
theorem zfp(s:DtState)(hs:DtState.sz s≤1048576):PCall Tryd.prog 27 [.agg (DtState.cells s)] (.g (.bool (decB (StateP s)))):=by
 have ⟨hz,hl⟩:=zm5 s hs
 refine zbe Tryd.func27 (by rfl) (by rfl) (by rw [Tryd.ntmps27];exact Nat.le_of_ble_eq_true rfl) rfl (by decide) ?_
 rw [Tryd.ntmps27]
 refine AW_k [(0,_)] ⟨rfl,trivial⟩ ?_
 refine AW_r rfl rfl λK hK=>?_
 simp (disch:=omega) [zG2,DtState.cells,DtCatalog.cells,DtSaid.cells]
 repeat' first|(exfalso;omega)|(refine ⟨λ_=>?_,λ_=>?_⟩)|(refine ⟨by omega,?_⟩)|(intro _)
 all_goals (refine hK _ ?_;clear hK K)
 all_goals
  refine zbh ?_
  refine AW_r rfl rfl λK hK=>?_
  simp (disch:=omega) [zG2,DtState.cells,DtCatalog.cells,DtSaid.cells]
  repeat' first|(exfalso;omega)|(refine zby (zba (zbv rfl) zbg) (zwp _ (by omega)) rfl ?_;simp (disch:=omega) [zG2,DtState.cells,DtCatalog.cells,DtSaid.cells])|(refine ⟨λ_=>?_,λ_=>?_⟩)|(refine ⟨by omega,?_⟩)|(intro _)
  all_goals (refine hK _ ?_;clear hK K)
  all_goals
   refine zbj rfl (λhc1=>?_) (λhc1=>?_)
   ·try simp [zbp,zbt,zbd,zbc] at hc1
    all_goals
     refine AW_r rfl rfl λK hK=>?_
     simp (disch:=omega) [zG2,DtState.cells,DtCatalog.cells,DtSaid.cells]
     repeat' first|(exfalso;omega)|(refine ⟨λ_=>?_,λ_=>?_⟩)|(refine ⟨by omega,?_⟩)|(intro _)
     all_goals (refine hK _ ?_;clear hK K)
     all_goals
      refine zbm (zbq ?_)
      simp (disch:=omega) [zG2,DtState.cells,DtCatalog.cells,DtSaid.cells]
      all_goals first | grind [StateP,SaidAt]|(refine zck λh=>?_;grind [StateP,SaidAt])|(refine zcj ?_;grind [StateP,SaidAt])
   ·try simp [zbp,zbt,zbd,zbc] at hc1
    all_goals
     refine zbk ?_
     refine zbn ?_
     refine zbh ?_
     refine AW_r rfl rfl λK hK=>?_
     simp (disch:=omega) [zG2,DtState.cells,DtCatalog.cells,DtSaid.cells]
     repeat' first|(exfalso;omega)|(refine ⟨λ_=>?_,λ_=>?_⟩)|(refine ⟨by omega,?_⟩)|(intro _)
     all_goals (refine hK _ ?_;clear hK K)
     all_goals
      refine zbi ?_
      refine zbr (λmM sS=>∃(i:Nat),mM=s.fSaid.length-i∧(i≤s.fSaid.length∧∀(j:Nat) x,j<i→s.fSaid[j]? = some x→SaidAt s.fSaid j x)∧sS = { env:=lkE [(1,.ptr 32 0),(3,(.g (.int .i64 ((i:Nat)))))],ob:=lk [(32,.cells (DtState.cells s))] }) ?_ ?_
      ·refine ⟨_,LeS.ko [(1,.ptr 32 0),(3,(.g (.int .i64 (((0):Nat)))))] [(32,.cells (DtState.cells s))] (by simp [zG1,KpE,DtState.cells,DtCatalog.cells];try rfl) (by simp [zG4,KpO,DtState.cells,DtCatalog.cells];try rfl) (by rfl) (by simp) (by rfl),_,0,rfl,?_,rfl⟩
       ·simp
      ·rintro mM sS ⟨i,rfl,⟨hi,hpre⟩,rfl⟩
       refine zbh ?_
       refine AW_r rfl rfl λK hK=>?_
       simp (disch:=omega) [zG2,DtState.cells,DtCatalog.cells,DtSaid.cells]
       repeat' first|(exfalso;omega)|(refine ⟨λ_=>?_,λ_=>?_⟩)|(refine ⟨by omega,?_⟩)|(intro _)
       all_goals (refine hK _ ?_;clear hK K)
       all_goals
        refine zbj rfl (λhc2=>?_) (λhc2=>?_)
        ·try simp [zbp,zbt,zbd,zbc] at hc2
         all_goals
          have hg:s.fSaid[i]? = some s.fSaid[i]:=List.getElem?_eq_getElem (by omega)
          have hg':s.fSaid[i-1]? = some s.fSaid[i-1]:=List.getElem?_eq_getElem (by omega)
          rcases Nat.eq_zero_or_pos i with hi0 | hi0
          all_goals
           refine zbk ?_
           refine zbn ?_
           refine zbh ?_
           refine zbi ?_
           refine AW_r rfl rfl λK hK=>?_
           simp (disch:=omega) [zG2,DtState.cells,DtCatalog.cells,DtSaid.cells]
           repeat' first|(exfalso;omega)|(refine ⟨λ_=>?_,λ_=>?_⟩)|(refine ⟨by omega,?_⟩)|(intro _)
           all_goals (refine hK _ ?_;clear hK K)
           all_goals
            refine AW_q rfl mix (by kernel_rfl) rfl λK hK=>?_
            simp (disch:=omega) [zG2,DtState.cells,DtCatalog.cells,DtSaid.cells]
            repeat' first|(exfalso;omega)|(refine zby (zba zbz (zba zbz (zba zbz zbg))) (l1In _ _ _) rfl ?_;simp (disch:=omega) [zG2,DtState.cells,DtCatalog.cells,DtSaid.cells])|(refine ⟨λ_=>?_,λ_=>?_⟩)|(refine ⟨by omega,?_⟩)|(intro _)
            all_goals (refine hK _ ?_;clear hK K)
            all_goals
             refine zbj rfl (λhc3=>?_) (λhc3=>?_)
             ·try simp [zbp,zbt,zbd,zbc] at hc3
              all_goals
               refine AW_r rfl rfl λK hK=>?_
               simp (disch:=omega) [zG2,DtState.cells,DtCatalog.cells,DtSaid.cells]
               repeat' first|(exfalso;omega)|(refine ⟨λ_=>?_,λ_=>?_⟩)|(refine ⟨by omega,?_⟩)|(intro _)
               all_goals (refine hK _ ?_;clear hK K)
               all_goals
                refine zbm (zbq ?_)
                simp (disch:=omega) [zG2,DtState.cells,DtCatalog.cells,DtSaid.cells]
                all_goals first | grind [StateP,SaidAt]|(refine zck λh=>?_;grind [StateP,SaidAt])|(refine zcj ?_;grind [StateP,SaidAt])
             ·try simp [zbp,zbt,zbd,zbc] at hc3
              all_goals
               refine zbk ?_
               refine zbn ?_
               refine zco rfl rfl λK hK=>?_
               simp (disch:=omega) [zG2,DtState.cells,DtCatalog.cells,DtSaid.cells]
               repeat' first|(exfalso;omega)|(refine ⟨λ_=>?_,λ_=>?_⟩)|(refine ⟨by omega,?_⟩)|(intro _)
               all_goals (refine hK _ ?_;clear hK K)
               all_goals
                refine ⟨_,LeS.ko [(1,.ptr 32 0),(3,(.g (.int .i64 (((i+1):Nat)))))] [(32,.cells (DtState.cells s))] (by simp [zG1,KpE,DtState.cells,DtCatalog.cells];try rfl) (by simp [zG4,KpO,DtState.cells,DtCatalog.cells];try rfl) (by rfl) (by simp) (by rfl),_,?_,i+1,rfl,?_,rfl⟩
                ·omega
                ·refine ⟨by omega,?_⟩;clear hg';grind [SaidAt]
        ·try simp [zbp,zbt,zbd,zbc] at hc2
         all_goals
          refine zbx ?_
          refine zbn ?_
          refine AW_r rfl rfl λK hK=>?_
          simp (disch:=omega) [zG2,DtState.cells,DtCatalog.cells,DtSaid.cells]
          repeat' first|(exfalso;omega)|(refine ⟨λ_=>?_,λ_=>?_⟩)|(refine ⟨by omega,?_⟩)|(intro _)
          all_goals (refine hK _ ?_;clear hK K)
          all_goals
           refine zbm (zbq ?_)
           simp (disch:=omega) [zG2,DtState.cells,DtCatalog.cells,DtSaid.cells]
           all_goals first | grind [StateP,SaidAt]|(refine zck λh=>?_;grind [StateP,SaidAt])|(refine zcj ?_;grind [StateP,SaidAt])
theorem zfq(s:DtState)(hs:DtState.sz s≤1048576):PCall Tryd.prog 31 [.agg (DtState.cells s)] (.g (.bool (decB (StateP s)))):=by
 have ⟨hz,hl⟩:=zm5 s hs
 refine zbe Tryd.func31 (by rfl) (by rfl) (by rw [Tryd.ntmps31];exact Nat.le_of_ble_eq_true rfl) rfl (by decide) ?_
 rw [Tryd.ntmps31]
 refine AW_k [(0,_)] ⟨rfl,trivial⟩ ?_
 refine AW_r rfl rfl λK hK=>?_
 simp (disch:=omega) [zG2,DtState.cells,DtCatalog.cells,DtSaid.cells]
 repeat' first|(exfalso;omega)|(refine ⟨λ_=>?_,λ_=>?_⟩)|(refine ⟨by omega,?_⟩)|(intro _)
 all_goals (refine hK _ ?_;clear hK K)
 all_goals
  refine zbh ?_
  refine AW_r rfl rfl λK hK=>?_
  simp (disch:=omega) [zG2,DtState.cells,DtCatalog.cells,DtSaid.cells]
  repeat' first|(exfalso;omega)|(refine ⟨λ_=>?_,λ_=>?_⟩)|(refine ⟨by omega,?_⟩)|(intro _)
  all_goals (refine hK _ ?_;clear hK K)
  all_goals
   refine zbi ?_
   refine zbr (λmM sS=>∃(i:Nat),mM=s.fSaid.length-i∧(i≤s.fSaid.length∧∀(j:Nat) x,j<i→s.fSaid[j]? = some x→SaidAt s.fSaid j x)∧sS = { env:=lkE [(1,.ptr 32 0),(6,.sl 3 (s.fSaid.map DtSaid.cells)),(7,(.g (.int .i64 ((s.fSaid.length:Nat))))),(8,(.g (.int .i64 ((i:Nat)))))],ob:=lk [(32,.cells (DtState.cells s))] }) ?_ ?_
   ·refine ⟨_,LeS.ko [(1,.ptr 32 0),(6,.sl 3 (s.fSaid.map DtSaid.cells)),(7,(.g (.int .i64 ((s.fSaid.length:Nat))))),(8,(.g (.int .i64 (((0):Nat)))))] [(32,.cells (DtState.cells s))] (by simp [zG1,KpE,DtState.cells,DtCatalog.cells];try rfl) (by simp [zG4,KpO,DtState.cells,DtCatalog.cells];try rfl) (by rfl) (by simp) (by rfl),_,0,rfl,?_,rfl⟩
    ·simp
   ·rintro mM sS ⟨i,rfl,⟨hi,hpre⟩,rfl⟩
    refine AW_r rfl rfl λK hK=>?_
    simp (disch:=omega) [zG2,DtState.cells,DtCatalog.cells,DtSaid.cells]
    repeat' first|(exfalso;omega)|(refine ⟨λ_=>?_,λ_=>?_⟩)|(refine ⟨by omega,?_⟩)|(intro _)
    all_goals (refine hK _ ?_;clear hK K)
    all_goals
     refine zbh ?_
     refine zbj rfl (λhc4=>?_) (λhc4=>?_)
     ·try simp [zbp,zbt,zbd,zbc] at hc4
      all_goals
       have hg:s.fSaid[i]? = some s.fSaid[i]:=List.getElem?_eq_getElem (by omega)
       have hg':s.fSaid[i-1]? = some s.fSaid[i-1]:=List.getElem?_eq_getElem (by omega)
       rcases Nat.eq_zero_or_pos i with hi0 | hi0
       all_goals
        refine zbk ?_
        refine zbn ?_
        refine zbh ?_
        refine zbi ?_
        refine AW_r rfl rfl λK hK=>?_
        simp (disch:=omega) [zG2,DtState.cells,DtCatalog.cells,DtSaid.cells]
        repeat' first|(exfalso;omega)|(refine ⟨λ_=>?_,λ_=>?_⟩)|(refine ⟨by omega,?_⟩)|(intro _)
        all_goals (refine hK _ ?_;clear hK K)
        all_goals
         refine AW_q rfl mix (by kernel_rfl) rfl λK hK=>?_
         simp (disch:=omega) [zG2,DtState.cells,DtCatalog.cells,DtSaid.cells]
         repeat' first|(exfalso;omega)|(refine zby (zba zbz (zba zbz (zba zbz zbg))) (zpn _ _ _) rfl ?_;simp (disch:=omega) [zG2,DtState.cells,DtCatalog.cells,DtSaid.cells])|(refine ⟨λ_=>?_,λ_=>?_⟩)|(refine ⟨by omega,?_⟩)|(intro _)
         all_goals (refine hK _ ?_;clear hK K)
         all_goals
          refine zbj rfl (λhc5=>?_) (λhc5=>?_)
          ·try simp [zbp,zbt,zbd,zbc] at hc5
           all_goals
            refine AW_r rfl rfl λK hK=>?_
            simp (disch:=omega) [zG2,DtState.cells,DtCatalog.cells,DtSaid.cells]
            repeat' first|(exfalso;omega)|(refine ⟨λ_=>?_,λ_=>?_⟩)|(refine ⟨by omega,?_⟩)|(intro _)
            all_goals (refine hK _ ?_;clear hK K)
            all_goals
             refine zbm (zbq ?_)
             simp (disch:=omega) [zG2,DtState.cells,DtCatalog.cells,DtSaid.cells]
             all_goals first | grind [StateP,SaidAt]|(refine zck λh=>?_;grind [StateP,SaidAt])|(refine zcj ?_;grind [StateP,SaidAt])|(rw [Bool.eq_iff_iff,zbp,zbp];grind [StateP,SaidAt])
          ·try simp [zbp,zbt,zbd,zbc] at hc5
           all_goals
            refine zbk ?_
            refine zbn ?_
            refine zco rfl rfl λK hK=>?_
            simp (disch:=omega) [zG2,DtState.cells,DtCatalog.cells,DtSaid.cells]
            repeat' first|(exfalso;omega)|(refine ⟨λ_=>?_,λ_=>?_⟩)|(refine ⟨by omega,?_⟩)|(intro _)
            all_goals (refine hK _ ?_;clear hK K)
            all_goals
             refine ⟨_,LeS.ko [(1,.ptr 32 0),(6,.sl 3 (s.fSaid.map DtSaid.cells)),(7,(.g (.int .i64 ((s.fSaid.length:Nat))))),(8,(.g (.int .i64 (((i+1):Nat)))))] [(32,.cells (DtState.cells s))] (by simp [zG1,KpE,DtState.cells,DtCatalog.cells];try rfl) (by simp [zG4,KpO,DtState.cells,DtCatalog.cells];try rfl) (by rfl) (by simp) (by rfl),_,?_,i+1,rfl,?_,rfl⟩
             ·omega
             ·refine ⟨by omega,?_⟩;clear hg';grind [SaidAt]
     ·try simp [zbp,zbt,zbd,zbc] at hc4
      all_goals
       refine zbx ?_
       refine zbn ?_
       refine AW_r rfl rfl λK hK=>?_
       simp (disch:=omega) [zG2,DtState.cells,DtCatalog.cells,DtSaid.cells]
       repeat' first|(exfalso;omega)|(refine zby (zba (zbv rfl) zbg) (zwr _ (by omega)) rfl ?_;simp (disch:=omega) [zG2,DtState.cells,DtCatalog.cells,DtSaid.cells])|(refine ⟨λ_=>?_,λ_=>?_⟩)|(refine ⟨by omega,?_⟩)|(intro _)
       all_goals (refine hK _ ?_;clear hK K)
       all_goals
        refine zbm (zbq ?_)
        simp (disch:=omega) [zG2,DtState.cells,DtCatalog.cells,DtSaid.cells]
        all_goals first | grind [StateP,SaidAt]|(refine zck λh=>?_;grind [StateP,SaidAt])|(refine zcj ?_;grind [StateP,SaidAt])|(rw [Bool.eq_iff_iff,zbp,zbp];grind [StateP,SaidAt])
end Go.Proofs.YtchpfloemfoomaaDoor.Vs
end
