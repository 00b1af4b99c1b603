import Derived.Test.YtodmafgmdlkhoaaSM5
section
namespace Go.Proofs.Ytodmafgmdlkhoaa.Vs
set_option linter.all false
set_option maxRecDepth 100000
abbrev SetV:=DtCSet × (Nat→Value)
abbrev SnapV:=DtCSnap × (Nat→Value)
def setV(z:SetV):List AV:=ux z.2 0 (DtCSet.cells z.1)
def setP(z:SetV):List (AV × Value):=pkc z.2 0 (DtCSet.cells z.1)
def snapV(z:SnapV):List AV:=ux z.2 0 (DtCSnap.cells z.1)
def snapP(z:SnapV):List (AV × Value):=pkc z.2 0 (DtCSnap.cells z.1)
theorem zdw(z:SetV):setV z=[.s z.1.fName,.g (z.2 1)]:=rfl
theorem setP_c(z:SetV):setP z=[(.sl 3 (z.1.fSnaps.map DtCSnap.cells),z.2 1)]:=rfl
theorem zco(z:SnapV):snapV z=[.s z.1.fName,.s z.1.fTag,.g (z.2 2)]:=rfl
theorem zcf(zs:List SetV):scR (zs.map setV)=true:=zdn _ (λ_=>rfl) zs
theorem zca(zs:List SnapV):scR (zs.map snapV)=true:=zdn _ (λ_=>rfl) zs
section
variable {nt:Nat}{fs:List Nat}{Q:AExit→St→Prop}{st:St}{c:Go.Code}
theorem zd5(n pk:Nat){us:List DtCSet}(hob:st.ob n=some (.own 2 (us.map DtCSet.cells)))(hpk:st.ob pk=none)
 (h:∀zs:List SetV,zs.map (·.1)=us→(∀z∈zs,∀j,(z.2 j).oneCell'=true)→AW Try.prog nt fs c Q { st with ob:=upd (upd st.ob pk (some (.park (zs.flatMap setP)))) n (some (.win 2 (zs.map setV))) }):AW Try.prog nt fs c Q st :=
 zqt DtCSet.cells n pk hob hpk h
theorem zh5(n pk:Nat){ks zs:List SetV}(hn:st.ob n=some (.win 2 (ks.map setV)))(hpk:st.ob pk=some (.park (zs.flatMap setP)))(hs:ks.Sublist zs):LeS fs st { st with ob:=upd (upd st.ob pk (some .dead)) n (some (.own 2 (ks.map λz=>DtCSet.cells z.1))) } :=
 LeS.join DtCSet.cells (λ_=>rfl) n pk hn hpk hs
theorem zf6(n pk:Nat){us:List DtCSnap}(hob:st.ob n=some (.own 3 (us.map DtCSnap.cells)))(hpk:st.ob pk=none)
 (h:∀zs:List SnapV,zs.map (·.1)=us→(∀z∈zs,∀j,(z.2 j).oneCell'=true)→AW Try.prog nt fs c Q { st with ob:=upd (upd st.ob pk (some (.park (zs.flatMap snapP)))) n (some (.win 3 (zs.map snapV))) }):AW Try.prog nt fs c Q st :=
 zqt DtCSnap.cells n pk hob hpk h
theorem zlk(n pk:Nat){ks zs:List SnapV}(hn:st.ob n=some (.win 3 (ks.map snapV)))(hpk:st.ob pk=some (.park (zs.flatMap snapP)))(hs:ks.Sublist zs):LeS fs st { st with ob:=upd (upd st.ob pk (some .dead)) n (some (.own 3 (ks.map λz=>DtCSnap.cells z.1))) } :=
 LeS.join DtCSnap.cells (λ_=>rfl) n pk hn hpk hs
theorem fm_at{α β:Type}(g:α→List β)(l:List α)(k:Nat)(h:k<l.length):l.flatMap g=(l.take k).flatMap g++(g l[k]++(l.drop (k+1)).flatMap g):=by
 rw [←List.flatMap_cons,←List.flatMap_append]
 congr 1
 rw [List.getElem_cons_drop,List.take_append_drop]
theorem set_split{α:Type}(l:List α)(k:Nat)(x:α)(h:k<l.length):l.set k x=l.take k++x :: l.drop (k+1):=List.set_eq_take_append_cons_drop.trans (by rw [if_pos h])
/-- The row of the k-th set gets a name. -/
theorem zgm(n pk S k:Nat){l:List DtCSet}(hk:k<l.length)(hob:st.ob n=some (.own 2 (l.map DtCSet.cells)))(hpk:st.ob pk=none)(hS:st.ob S=none)(h1:n≠S)(h2:pk≠S)(h3:n≠pk)
 (h:∀zs:List SetV,zs.map (·.1)=l→AW Try.prog nt fs c Q { st with ob:=upd (upd (upd st.ob S (some (.own 3 (l[k].fSnaps.map DtCSnap.cells)))) pk (some (.park ((zs.take k).flatMap setP++(zs.drop (k+1)).flatMap setP)))) n (some (.win 2 ((zs.map setV).set k [.s l[k].fName,.arr S 0 l[k].fSnaps.length]))) }):AW Try.prog nt fs c Q st:=by
 refine zd5 n pk hob hpk λzs hz _=>?_
 have hzl:zs.length=l.length:=by rw [←hz];simp
 have hkz:k<zs.length:=by omega
 have hzk:zs[k].1=l[k]:=by
  have:(zs.map (·.1))[k]'(by simpa using hkz)=l[k]:=by simp only [hz]
  simpa using this
 have hp:zs.flatMap setP=(zs.take k).flatMap setP++(AV.sl 3 (l[k].fSnaps.map DtCSnap.cells),zs[k].2 1) :: (zs.drop (k+1)).flatMap setP:=by
  rw [fm_at setP zs k hkz,setP_c,hzk];rfl
 refine zda (LeS.unpark (s:=3) (ys:=l[k].fSnaps.map DtCSnap.cells) (v:=zs[k].2 1) (k:=k) (j:=1) (x:=setV zs[k]) (xs:=zs.map setV) (ps1:=(zs.take k).flatMap setP) (ps2:=(zs.drop (k+1)).flatMap setP) (sz:=2) n pk S (zbg _ _ _) ?_ ?_ (by simp [hkz]) (by simp [zdw])) ?_
 ·show upd (upd st.ob pk _) n _ pk=_
  rw [zbd _ _ (Ne.symm h3),zbg,hp]
 ·show upd (upd st.ob pk _) n _ S=none
  rw [zbd _ _ (Ne.symm h1),zbd _ _ (Ne.symm h2)];exact hS
 ·have hh:=h zs hz
  have e:upd (upd (upd (upd (upd st.ob pk (some (OB.park (zs.flatMap setP)))) n (some (OB.win 2 (zs.map setV)))) S (some (OB.own 3 (l[k].fSnaps.map DtCSnap.cells)))) pk (some (OB.park ((zs.take k).flatMap setP++(zs.drop (k+1)).flatMap setP)))) n (some (OB.win 2 ((zs.map setV).set k ((setV zs[k]).set 1 (.arr S 0 (l[k].fSnaps.map DtCSnap.cells).length))))) =
   upd (upd (upd st.ob S (some (.own 3 (l[k].fSnaps.map DtCSnap.cells)))) pk (some (.park ((zs.take k).flatMap setP++(zs.drop (k+1)).flatMap setP)))) n (some (.win 2 ((zs.map setV).set k [.s l[k].fName,.arr S 0 l[k].fSnaps.length]))):=by
   funext m
   by_cases e1:m=n
   ·subst e1;rw [zbg,zbg,zdw,hzk];simp
   ·rw [zbd _ _ e1,zbd _ _ e1]
    by_cases e2:m=pk
    ·subst e2;rw [zbg,zbg]
    ·rw [zbd _ _ e2,zbd _ _ e2]
     by_cases e3:m=S
     ·subst e3;rw [zbg,zbg]
     ·rw [zbd _ _ e3,zbd _ _ e3,zbd _ _ e1,zbd _ _ e2]
  show AW Try.prog nt fs c Q { env:=st.env,ob:=_ }
  rw [e];exact hh
/-- .. and goes back. -/
theorem zcp(n pk S k:Nat){l:List DtCSet}{zs:List SetV}(hz:zs.map (·.1)=l)(hk:k<l.length)(nm:List UInt8)(sn:List DtCSnap)(hn:st.ob n=some (.win 2 ((zs.map setV).set k [.s nm,.arr S 0 sn.length])))(hp:st.ob pk=some (.park ((zs.take k).flatMap setP++(zs.drop (k+1)).flatMap setP)))(hS:st.ob S=some (.own 3 (sn.map DtCSnap.cells)))(h1:n≠S)(h2:pk≠S)(h3:n≠pk)
 (h:AW Try.prog nt fs c Q { st with ob:=upd (upd (upd st.ob S (some .dead)) pk (some .dead)) n (some (.own 2 ((l.set k { fName:=nm,fSnaps:=sn }).map DtCSet.cells))) }):AW Try.prog nt fs c Q st:=by
 have hzl:zs.length=l.length:=by rw [←hz];simp
 have hkz:k<zs.length:=by omega
 refine AW_repark (s:=3) (sz:=2) (k:=k) (j:=1) (x:=[.s nm,.arr S 0 sn.length]) n pk S hn hp hS (by simp [hkz]) (by simp) λv hv=>?_
 let z':SetV:=({ fName:=nm,fSnaps:=sn },λ_=>v)
 have e1:((zs.map setV).set k [.s nm,.arr S 0 sn.length]).set k ([AV.s nm,.arr S 0 sn.length].set 1 (.g v))=(zs.set k z').map setV:=by
  rw [List.set_set,List.map_set];rfl
 have e2:(zs.take k).flatMap setP++(AV.sl 3 (sn.map DtCSnap.cells),v) :: (zs.drop (k+1)).flatMap setP=(zs.set k z').flatMap setP:=by
  rw [set_split zs k z' hkz,List.flatMap_append,List.flatMap_cons];rfl
 rw [e1,e2]
 refine zda (zh5 (ks:=zs.set k z') (zs:=zs.set k z') n pk (zbg _ _ _) ?_ (List.Sublist.refl _)) ?_
 ·show upd (upd _ pk _) n _ pk=_
  rw [zbd _ _ (Ne.symm h3),zbg]
 ·have e3 : ((zs.set k z').map fun z => DtCSet.cells z.1) = (l.set k { fName := nm, fSnaps := sn }).map DtCSet.cells := by
   rw [←hz,←List.map_set (f:=(·.1)) (l:=zs) (i:=k) (a:=z'),List.map_map];rfl
  rw [e3]
  have e:upd (upd (upd (upd (upd st.ob S (some OB.dead)) pk (some (OB.park ((zs.set k z').flatMap setP)))) n (some (OB.win 2 ((zs.set k z').map setV)))) pk (some OB.dead)) n (some (OB.own 2 ((l.set k { fName:=nm,fSnaps:=sn }).map DtCSet.cells))) =
   upd (upd (upd st.ob S (some .dead)) pk (some .dead)) n (some (.own 2 ((l.set k { fName:=nm,fSnaps:=sn }).map DtCSet.cells))):=by
   funext m
   by_cases e1:m=n
   ·subst e1;rw [zbg,zbg]
   ·rw [zbd _ _ e1,zbd _ _ e1]
    by_cases e2:m=pk
    ·subst e2;rw [zbg,zbg]
    ·rw [zbd _ _ e2,zbd _ _ e2,zbd _ _ e1,zbd _ _ e2]
  show AW Try.prog nt fs c Q { env:=st.env,ob:=_ }
  rw [e];exact h
end
end Go.Proofs.Ytodmafgmdlkhoaa.Vs
end
section
namespace Go.Proofs.Ytodmafgmdlkhoaa.Vs
set_option linter.all false
set_option maxRecDepth 100000
def bOk:List UInt8:=[111,107]
def bNone:List UInt8:=[110,111,110,101]
def bExists:List UInt8:=[101,120,105,115,116,115]
def bFull:List UInt8:=[102,117,108,108]
noncomputable def comS(s:DtCSet)(m:DtCmd):DtCSet:=if 0≤findN s.fSnaps m.fName then s else if s.fSnaps.length=5 then s else { fName:=s.fName,fSnaps:=s.fSnaps++[{ fName:=m.fName,fTag:=[],fChunks:=m.fChunks }] }
noncomputable def comR(s:DtCSet)(m:DtCmd):List UInt8:=if 0≤findN s.fSnaps m.fName then bExists else if s.fSnaps.length=5 then bFull else bOk
theorem com_e{s:DtCSet}{m:DtCmd}(h:0≤findN s.fSnaps m.fName):comS s m=s∧comR s m=bExists:=by unfold comS comR;rw [if_pos h,if_pos h];exact ⟨rfl,rfl⟩
theorem com_f{s:DtCSet}{m:DtCmd}(h:findN s.fSnaps m.fName<0)(h5:(s.fSnaps.length:Int)=5):comS s m=s∧comR s m=bFull:=by unfold comS comR;rw [if_neg (by omega),if_pos (by omega),if_neg (by omega),if_pos (by omega)];exact ⟨rfl,rfl⟩
theorem com_k{s:DtCSet}{m:DtCmd}(h:findN s.fSnaps m.fName<0)(h5:¬(s.fSnaps.length:Int)=5):comS s m = { fName:=s.fName,fSnaps:=s.fSnaps++[{ fName:=m.fName,fTag:=[],fChunks:=m.fChunks }] }∧comR s m=bOk:=by unfold comS comR;rw [if_neg (by omega),if_neg (by omega),if_neg (by omega),if_neg (by omega)];exact ⟨rfl,rfl⟩
noncomputable def tagS(s:DtCSet)(m:DtCmd):DtCSet:=if h:0≤findN s.fSnaps m.fName∧(findN s.fSnaps m.fName).toNat<s.fSnaps.length then { fName:=s.fName,fSnaps:=s.fSnaps.set (findN s.fSnaps m.fName).toNat { s.fSnaps[(findN s.fSnaps m.fName).toNat]'h.2 with fTag:=m.fTag } } else s
noncomputable def tagR(s:DtCSet)(m:DtCmd):List UInt8:=if 0≤findN s.fSnaps m.fName then bOk else bNone
theorem zm9{α:Type}(p:α→Bool)(l:List α)(h:0≤idxZ p l):(idxZ p l).toNat<l.length:=by
 unfold idxZ at h ⊢
 cases hf:l.findIdx? p with
 | none=>rw [hf] at h;simp at h
 | some i =>
  obtain ⟨h1,-⟩:=List.findIdx?_eq_some_iff_getElem.1 hf
  simpa using h1
theorem tag_n{s:DtCSet}{m:DtCmd}(h:findN s.fSnaps m.fName<0):tagS s m=s∧tagR s m=bNone:=by unfold tagS tagR;rw [dif_neg (by omega),if_neg (by omega)];exact ⟨rfl,rfl⟩
theorem tag_k{s:DtCSet}{m:DtCmd}(h:0≤findN s.fSnaps m.fName)(h2:(findN s.fSnaps m.fName).toNat<s.fSnaps.length):tagS s m = { fName:=s.fName,fSnaps:=s.fSnaps.set (findN s.fSnaps m.fName).toNat { s.fSnaps[(findN s.fSnaps m.fName).toNat]'h2 with fTag:=m.fTag } }∧tagR s m=bOk:=by unfold tagS tagR;rw [dif_pos ⟨h,h2⟩,if_pos h];exact ⟨rfl,rfl⟩
theorem ztb{zs:List SetV}{k:Nat}(h:k<zs.length)(y:List AV):((zs.map setV).set k y)[k]? = some y:=by simp [h]
attribute [local simp] DtCmd.cells DtCSet.cells zbl List.set_set List.getD_eq_getElem?_getD
def zG14:=And.intro @zbz (And.intro @zbq @zby)
theorem commitX(l:List DtCSet)(hl:l.length≤1048576)(k:Nat)(hk:k<l.length)(h5:l[k].fSnaps.length≤5)(m:DtCmd)(hm:m.fChunks.length≤1048576):XCall Try.prog 66 [.eptr 8 k 0,.agg (DtCmd.cells m)] [.own 2 (l.map DtCSet.cells)] (.s (comR l[k] m)) [.own 2 ((l.set k (comS l[k] m)).map DtCSet.cells)] []:=by
 refine zbs Try.func66 (by rfl) (by rfl) (by rw [Try.ntmps66];exact Nat.le_of_ble_eq_true rfl) rfl (by simp) rfl rfl ?_
 rw [Try.ntmps66]
 refine zhl (.own 2 (l.map DtCSet.cells)) (by simp [cvO]<;>assumption) ?_
 refine AW_k [(0,_),(1,_)] ⟨rfl,rfl,trivial⟩ ?_
 refine zgm 8 901 902 k hk (by simp [zG14]) (by simp [zG14]) (by simp [zG14]) (by decide) (by decide) (by decide) λzs hz=>?_
 have hkz:k<zs.length:=by rw [←hz] at hk;simpa using hk
 have hset:=@ztb zs k hkz
 refine AW_x rfl rfl λK hK=>?_
 simp (disch:=omega) [hset]
 repeat' first|(refine ⟨by omega,?_⟩)|(intro _)
 refine hK _ ?_;clear hK K
 refine zbi ?_
 refine zbm ?_
 refine AW_d rfl mix (by kernel_rfl) (by kernel_rfl) λK hK=>?_
 simp (disch:=omega) [hset]
 repeat' first|(exfalso;omega)|(refine zkd (λst'=>(zbe (zb6 rfl) (zbe zgs zbo))) (snap l[k] m.fName (by omega)) rfl ?_;simp (disch:=omega) [hset])|(refine zke (snap l[k] m.fName (by omega)) (by rfl) (λst' hst=>?_) ?_;(focus (simp (disch:=omega) [hset] at hst;simp (disch:=omega) [hset,hst,zbl];done));simp (disch:=omega) [hset])|(refine ⟨by omega,?_⟩)|(simp (disch:=omega) [hset])|(intro _)
 refine hK _ _ (by kernel_rfl) ?_;clear hK K
 refine zbh rfl (λhc1=>?_) (λhc1=>?_)
 ·try simp [zba,zbf,zbc,zbb] at hc1
  all_goals
   refine zcp 8 901 902 k hz hk l[k].fName l[k].fSnaps (by simp [zG14]) (by simp [zG14]) (by simp [zG14]) (by decide) (by decide) (by decide) ?_
   refine AW_x rfl rfl λK hK=>?_
   simp (disch:=omega) [hset]
   repeat' first|(exfalso;omega)|(refine ⟨λ_=>?_,λ_=>?_⟩)|(refine ⟨by omega,?_⟩)|(simp (disch:=omega) [hset])|(intro _)
   all_goals (refine hK _ ?_;clear hK K)
   all_goals
    refine zbp (zb0 [] [] (by simp [zG14,List.range_succ]) (by simp) ?_)
    simp (disch:=omega) [hset]
    all_goals first|(have ⟨h1,h2⟩:=com_e hc1;rw [h1,h2];exact ⟨rfl,rfl⟩)|(have ⟨h1,h2⟩:=com_f hc1 hc2;rw [h1,h2];exact ⟨rfl,rfl⟩)|(have ⟨h1,h2⟩:=com_k hc1 hc2;rw [h1,h2];exact ⟨rfl,by simp [DtCSnap.cells]⟩) | trace_state
 try simp [zba,zbf,zbc,zbb] at hc1
 refine AW_x rfl rfl λK hK=>?_
 simp (disch:=omega) [hset]
 repeat' first|(exfalso;omega)|(refine ⟨λ_=>?_,λ_=>?_⟩)|(refine ⟨by omega,?_⟩)|(simp (disch:=omega) [hset])|(intro _)
 all_goals (refine hK _ ?_;clear hK K)
 all_goals
  refine zbh rfl (λhc2=>?_) (λhc2=>?_)
  ·try simp [zba,zbf,zbc,zbb] at hc2
   all_goals
    refine zcp 8 901 902 k hz hk l[k].fName l[k].fSnaps (by simp [zG14]) (by simp [zG14]) (by simp [zG14]) (by decide) (by decide) (by decide) ?_
    refine AW_x rfl rfl λK hK=>?_
    simp (disch:=omega) [hset]
    repeat' first|(exfalso;omega)|(refine ⟨λ_=>?_,λ_=>?_⟩)|(refine ⟨by omega,?_⟩)|(simp (disch:=omega) [hset])|(intro _)
    all_goals (refine hK _ ?_;clear hK K)
    all_goals
     refine zbp (zb0 [] [] (by simp [zG14,List.range_succ]) (by simp) ?_)
     simp (disch:=omega) [hset]
     all_goals first|(have ⟨h1,h2⟩:=com_e hc1;rw [h1,h2];exact ⟨rfl,rfl⟩)|(have ⟨h1,h2⟩:=com_f hc1 hc2;rw [h1,h2];exact ⟨rfl,rfl⟩)|(have ⟨h1,h2⟩:=com_k hc1 hc2;rw [h1,h2];exact ⟨rfl,by simp [DtCSnap.cells]⟩) | trace_state
  try simp [zba,zbf,zbc,zbb] at hc2
  refine zbj ?_
  refine zbn ?_
  refine AW_d rfl mix (by kernel_rfl) (by kernel_rfl) λK hK=>?_
  simp (disch:=omega) [hset]
  repeat' first|(exfalso;omega)|(refine zk0 [] true [] (zpr m.fChunks (by omega)) ?_ (λst' hst=>?_) ?_;(focus (simp [List.range_succ,nmC];done));(focus (simp (disch:=omega) [hset,nmC,List.range_succ] at hst;simp (disch:=omega) [hset,hst,zbl,nmC,List.range_succ];done));simp (disch:=omega) [hset])|(refine ⟨λ_=>?_,λ_=>?_⟩)|(refine ⟨by omega,?_⟩)|(simp (disch:=omega) [hset])|(intro _)
  all_goals (refine hK _ _ (by kernel_rfl) ?_;clear hK K)
  all_goals
   refine zcp 8 901 528 k hz hk l[k].fName (l[k].fSnaps++[{ fName:=m.fName,fTag:=[],fChunks:=m.fChunks }]) (by simp [zG14]) (by simp [zG14]) (by simp [zG14,DtCSnap.cells]) (by decide) (by decide) (by decide) ?_
   refine AW_x rfl rfl λK hK=>?_
   simp (disch:=omega) [hset]
   repeat' first|(refine ⟨by omega,?_⟩)|(intro _)
   refine hK _ ?_;clear hK K
   refine zbp (zb0 [] [] (by simp [zG14,List.range_succ]) (by simp) ?_)
   simp (disch:=omega) [hset]
   all_goals first|(have ⟨h1,h2⟩:=com_e hc1;rw [h1,h2];exact ⟨rfl,rfl⟩)|(have ⟨h1,h2⟩:=com_f hc1 hc2;rw [h1,h2];exact ⟨rfl,rfl⟩)|(have ⟨h1,h2⟩:=com_k hc1 hc2;rw [h1,h2];exact ⟨rfl,by simp [DtCSnap.cells]⟩) | trace_state
theorem tagX(l:List DtCSet)(hl:l.length≤1048576)(k:Nat)(hk:k<l.length)(h5:l[k].fSnaps.length≤5)(m:DtCmd)(hm:m.fChunks.length≤1048576):XCall Try.prog 67 [.eptr 8 k 0,.agg (DtCmd.cells m)] [.own 2 (l.map DtCSet.cells)] (.s (tagR l[k] m)) [.own 2 ((l.set k (tagS l[k] m)).map DtCSet.cells)] []:=by
 refine zbs Try.func67 (by rfl) (by rfl) (by rw [Try.ntmps67];exact Nat.le_of_ble_eq_true rfl) rfl (by simp) rfl rfl ?_
 rw [Try.ntmps67]
 refine zhl (.own 2 (l.map DtCSet.cells)) (by simp [cvO]<;>assumption) ?_
 refine AW_k [(0,_),(1,_)] ⟨rfl,rfl,trivial⟩ ?_
 refine zgm 8 901 902 k hk (by simp [zG14]) (by simp [zG14]) (by simp [zG14]) (by decide) (by decide) (by decide) λzs hz=>?_
 have hkz:k<zs.length:=by rw [←hz] at hk;simpa using hk
 have hset:=@ztb zs k hkz
 refine AW_x rfl rfl λK hK=>?_
 simp (disch:=omega) [hset]
 repeat' first|(refine ⟨by omega,?_⟩)|(intro _)
 refine hK _ ?_;clear hK K
 refine AW_d rfl mix (by kernel_rfl) (by kernel_rfl) λK hK=>?_
 simp (disch:=omega) [hset]
 repeat' first|(exfalso;omega)|(refine zkd (λst'=>(zbe (zb6 rfl) (zbe zgs zbo))) (snap l[k] m.fName (by omega)) rfl ?_;simp (disch:=omega) [hset])|(refine zke (snap l[k] m.fName (by omega)) (by rfl) (λst' hst=>?_) ?_;(focus (simp (disch:=omega) [hset] at hst;simp (disch:=omega) [hset,hst,zbl];done));simp (disch:=omega) [hset])|(refine ⟨by omega,?_⟩)|(simp (disch:=omega) [hset])|(intro _)
 refine hK _ _ (by kernel_rfl) ?_;clear hK K
 refine zbi ?_
 refine AW_x rfl rfl λK hK=>?_
 simp (disch:=omega) [hset]
 repeat' first|(refine ⟨by omega,?_⟩)|(intro _)
 refine hK _ ?_;clear hK K
 refine zbh rfl (λhc3=>?_) (λhc3=>?_)
 ·try simp [zba,zbf,zbc,zbb] at hc3
  all_goals
   refine zcp 8 901 902 k hz hk l[k].fName (l[k].fSnaps) (by simp [zG14]) (by simp [zG14]) (by simp [zG14,DtCSnap.cells]) (by decide) (by decide) (by decide) ?_
   refine AW_x rfl rfl λK hK=>?_
   simp (disch:=omega) [hset]
   repeat' first|(exfalso;omega)|(refine ⟨λ_=>?_,λ_=>?_⟩)|(refine ⟨by omega,?_⟩)|(simp (disch:=omega) [hset])|(intro _)
   all_goals (refine hK _ ?_;clear hK K)
   all_goals
    refine zbp (zb0 [] [] (by simp [zG14,List.range_succ]) (by simp) ?_)
    simp (disch:=omega) [hset]
    all_goals first|(have ⟨h1,h2⟩:=tag_n hc3;rw [h1,h2];exact ⟨rfl,rfl⟩)|(have ⟨h1,h2⟩:=tag_k hc3 hj;rw [h1,h2];exact ⟨rfl,by simp [DtCSnap.cells]⟩) | trace_state
 try simp [zba,zbf,zbc,zbb] at hc3
 refine zbj ?_
 refine zbn ?_
 have hj:=zm9 (λp=>eqB p.fName m.fName) l[k].fSnaps (by have h:=hc3;unfold findN at h;omega)
 change (findN l[k].fSnaps m.fName).toNat<l[k].fSnaps.length at hj
 refine AW_d rfl mix (by kernel_rfl) (by kernel_rfl) λK hK=>?_
 simp (disch:=omega) [hset]
 repeat' first|(exfalso;omega)|(refine ⟨λ_=>?_,λ_=>?_⟩)|(refine ⟨by omega,?_⟩)|(simp (disch:=omega) [hset])|(intro _)
 all_goals (refine hK _ _ (by kernel_rfl) ?_;clear hK K)
 all_goals
  refine zcp 8 901 902 k hz hk l[k].fName (l[k].fSnaps.set (findN l[k].fSnaps m.fName).toNat { l[k].fSnaps[(findN l[k].fSnaps m.fName).toNat] with fTag:=m.fTag }) (by simp [zG14,List.length_set]) (by simp [zG14]) (by simp [zG14,DtCSnap.cells]) (by decide) (by decide) (by decide) ?_
  refine AW_x rfl rfl λK hK=>?_
  simp (disch:=omega) [hset]
  repeat' first|(refine ⟨by omega,?_⟩)|(intro _)
  refine hK _ ?_;clear hK K
  refine zbp (zb0 [] [] (by simp [zG14,List.range_succ]) (by simp) ?_)
  simp (disch:=omega) [hset]
  all_goals first|(have ⟨h1,h2⟩:=tag_n hc3;rw [h1,h2];exact ⟨rfl,rfl⟩)|(have ⟨h1,h2⟩:=tag_k hc3 hj;rw [h1,h2];exact ⟨rfl,by simp [DtCSnap.cells]⟩) | trace_state
end Go.Proofs.Ytodmafgmdlkhoaa.Vs
end
section
namespace Go.Proofs.Ytodmafgmdlkhoaa.Vs
set_option linter.all false
set_option maxRecDepth 100000
/-! pruning -/
def bareN:List DtCSnap→Nat
 | []=>0
 | p :: l=>(if p.fTag=[] then 1 else 0)+bareN l
def prn(g:Int):Int→List DtCSnap→List DtCSnap
 | _,[]=>[]
 | s,p :: l=>if p.fTag=[] then (if s<g then prn g (s+1) l else p :: prn g (s+1) l) else p :: prn g s l
theorem bareN_snoc(l:List DtCSnap)(p:DtCSnap):bareN (l++[p])=bareN l+(if p.fTag=[] then 1 else 0):=by
 induction l with
 | nil=>simp [bareN]
 | cons q l ih=>simp only [List.cons_append,bareN,ih];omega
theorem zll(l:List DtCSnap):bareN l≤l.length:=by
 induction l with
 | nil=>simp [bareN]
 | cons q l ih=>simp only [bareN,List.length_cons];split<;>omega
theorem zjq(l:List DtCSnap)(i:Nat)(h:i<l.length):bareN (l.take (i+1))=bareN (l.take i)+(if l[i].fTag=[] then 1 else 0):=by
 rw [List.take_succ_eq_append_getElem h,bareN_snoc]
theorem ztc(l:List DtCSnap)(i:Nat):bareN (l.take i)≤bareN l:=by
 have:l=l.take i++l.drop i:=(List.take_append_drop i l).symm
 have key:∀a b:List DtCSnap,bareN a≤bareN (a++b):=by
  intro a b
  induction a with
  | nil=>simp [bareN]
  | cons q a ih=>simp only [List.cons_append,bareN];omega
 have h:=key (l.take i) (l.drop i)
 rwa [←this] at h
theorem prn_len(g:Int)(l:List DtCSnap):∀s:Int,(prn g s l).length+(min (bareN l:Int) (max 0 (g-s))).toNat=l.length:=by
 induction l with
 | nil=>intro s;simp [prn,bareN];omega
 | cons q l ih =>
  intro s
  have h1:=ih (s+1)
  have h2:=ih s
  simp only [prn,bareN,List.length_cons]
  by_cases h:q.fTag=[]
  ·simp only [h,if_true]
   by_cases h3:s<g
   ·simp only [h3,if_true];omega
   ·simp only [h3,if_false,List.length_cons];omega
  ·simp only [h,if_false,List.length_cons,Nat.zero_add];omega
/-- How many go. -/
def goneN(l:List DtCSnap)(n:Int):Int:=max 0 ((bareN l:Int)-n)
theorem zq1(g:Int):∀(l:List DtCSnap) (s:Int),(prn g s l).Sublist l
 | [],_=>List.Sublist.refl _
 | p :: l,s=>by
  simp only [prn]
  split
  ·split
   ·exact (zq1 g l _).trans (List.sublist_cons_self _ _)
   ·exact (zq1 g l _).cons_cons _
  ·exact (zq1 g l _).cons_cons _
/-- The same of the trees. -/
def prV(g:Int):Int→List SnapV→List SnapV
 | _,[]=>[]
 | s,p :: l=>if p.1.fTag=[] then (if s<g then prV g (s+1) l else p :: prV g (s+1) l) else p :: prV g s l
theorem zna(g:Int):∀(l:List SnapV) (s:Int),(prV g s l).map (·.1)=prn g s (l.map (·.1))
 | [],_=>rfl
 | p :: l,s=>by
  simp only [prV,prn,List.map_cons]
  split
  ·split
   ·exact zna g l _
   ·rw [List.map_cons,zna g l _]
  ·rw [List.map_cons,zna g l _]
theorem zh6(g:Int):∀(l:List SnapV) (s:Int),(prV g s l).Sublist l
 | [],_=>List.Sublist.refl _
 | p :: l,s=>by
  simp only [prV]
  split
  ·split
   ·exact (zh6 g l _).trans (List.sublist_cons_self _ _)
   ·exact (zh6 g l _).cons_cons _
  ·exact (zh6 g l _).cons_cons _
theorem prV_snoc(g:Int)(l:List SnapV)(p:SnapV):∀s:Int,prV g s (l++[p])=prV g s l++(if p.1.fTag=[]∧s+bareN (l.map (·.1))<g then [] else [p]):=by
 induction l with
 | nil =>
  intro s
  simp only [List.nil_append,prV,bareN,List.map_nil]
  by_cases h:p.1.fTag=[]<;>by_cases h2:s<g<;>simp [h,h2]
 | cons q l ih =>
  intro s
  simp only [List.cons_append,prV,bareN,List.map_cons]
  by_cases h:q.1.fTag=[]
  ·simp only [h,if_true]
   have e:s+((1+bareN (l.map (·.1)):Nat):Int)=s+1+(bareN (l.map (·.1)):Int):=by omega
   rw [e]
   by_cases h2:s<g
   ·simp only [h2,if_true,ih]
   ·simp only [h2,if_false,ih,List.cons_append]
  ·simp only [h,if_false,ih,List.cons_append,Nat.zero_add]
theorem zxp(g:Int)(l:List SnapV)(i:Nat)(h:i<l.length):prV g 0 (l.take (i+1))=prV g 0 (l.take i)++(if l[i].1.fTag=[]∧(bareN ((l.map (·.1)).take i):Int)<g then [] else [l[i]]):=by
 rw [List.take_succ_eq_append_getElem h,prV_snoc,List.map_take];simp
def dig(n:Int):List UInt8:=[UInt8.ofNat (48+n.toNat)]
end Go.Proofs.Ytodmafgmdlkhoaa.Vs
end
section
namespace Go.Proofs.Ytodmafgmdlkhoaa.Vs
set_option linter.all false
set_option maxRecDepth 100000
def cB8(n:Int):List AV:=[.g (.int .u8 n)]
theorem zps:∀ns:List Int,numsOf (ns.map cB8)=some ns
 | []=>rfl
 | n :: ns=>by
  have:=zps ns
  simp only [List.map_cons,cB8,numsOf] at this ⊢
  rw [this];rfl
theorem numsOf_app:∀(ns:List Int) (m:Int),numsOf (ns.map cB8++[[.g (.int .u8 m)]])=some (ns++[m]):=by
 intro ns m
 have:=zps (ns++[m])
 simpa [cB8] using this
theorem tk1(acc:List Int):List.take acc.length (acc.map cB8)=acc.map cB8:=List.take_of_length_le (by simp)
theorem tk2(acc:List Int)(y:List AV):List.take (acc.length+1) (acc.map cB8++[y])=acc.map cB8++[y]:=List.take_of_length_le (by simp)
theorem wrap8{n:Int}(h0:0≤n)(h1:n<256):IntKind.u8.wrap n=n:=by
 simp [IntKind.wrap,IntKind.bits,IntKind.signed]
 omega
theorem strN_len(ns:List Int):(strN ns).length=ns.length:=by simp [strN]
theorem td10(m:Nat):(m:Int).tdiv 10=((m / 10:Nat):Int):=by rw [Int.tdiv_eq_ediv_of_nonneg (by omega)];rfl
theorem tm10(m:Nat):(m:Int).tmod 10=((m % 10:Nat):Int):=by rw [Int.tmod_eq_emod_of_nonneg (by omega)];rfl
def digN(n:Nat):List UInt8:=[UInt8.ofNat (48+n)]
theorem zq2(n:Nat):strN [(48:Int)+(n:Int)]=digN n:=by
 unfold strN digN
 simp only [List.map_cons,List.map_nil]
 congr 1
def zG15:=And.intro @zcj (And.intro @zzu (And.intro @wrap8 (And.intro @tk1 (And.intro @tk2 (And.intro @numsOf_app (And.intro @td10 (And.intro @tm10 (And.intro @zq2 @strN_len))))))))
theorem specDec(n:Nat)(hn:n<10):PCall Try.prog 97 [(.g (.int .i64 ((n:Nat))))] (.s (digN n)):=by
 refine zbr Try.func97 (by rfl) (by rfl) (by rw [Try.ntmps97];exact Nat.le_of_ble_eq_true rfl) rfl (by decide) ?_
 rw [Try.ntmps97]
 refine AW_k [(0,_)] ⟨rfl,trivial⟩ ?_
 refine AW_r rfl rfl λK hK=>?_
 simp (disch:=omega) [zG15,List.getElem?_eq_getElem,aNews,aAppend,aBuildSlice,chunks,numsOf]
 repeat' first|(exfalso;omega)|(refine ⟨λ_=>?_,λ_=>?_⟩)|(refine ⟨by omega,?_⟩)|(intro _)
 all_goals (refine hK _ ?_;clear hK K)
 all_goals
  refine zbi ?_
  refine AW_r rfl rfl λK hK=>?_
  simp (disch:=omega) [zG15,List.getElem?_eq_getElem,aNews,aAppend,aBuildSlice,chunks,numsOf]
  repeat' first|(exfalso;omega)|(refine ⟨λ_=>?_,λ_=>?_⟩)|(refine ⟨by omega,?_⟩)|(intro _)
  all_goals (refine hK _ ?_;clear hK K)
  all_goals
   refine zbh rfl (λhc1=>?_) (λhc1=>?_)
   ·try simp at hc1
    all_goals
     refine AW_r rfl rfl λK hK=>?_
     simp (disch:=omega) [zG15,List.getElem?_eq_getElem,aNews,aAppend,aBuildSlice,chunks,numsOf]
     repeat' first|(exfalso;omega)|(refine ⟨λ_=>?_,λ_=>?_⟩)|(refine ⟨by omega,?_⟩)|(intro _)
     all_goals (refine hK _ ?_;clear hK K)
     all_goals
      refine zbp (zcb ?_)
      simp (disch:=omega) [zG15,List.getElem?_eq_getElem,aNews,aAppend,aBuildSlice,chunks,numsOf]
      all_goals first|(have h0:n=0:=(by omega);subst h0;rfl)|(rcases hv with ⟨h,h2⟩ | ⟨h,h2⟩;exfalso;omega;exact h2.symm)|(rcases hv with ⟨h,h2⟩ | ⟨h,h2⟩;exfalso;omega;exact h2) | trace_state
   ·try simp at hc1
    all_goals
     refine zbj ?_
     refine zbn ?_
     refine AW_r rfl rfl λK hK=>?_
     simp (disch:=omega) [zG15,List.getElem?_eq_getElem,aNews,aAppend,aBuildSlice,chunks,numsOf]
     repeat' first|(exfalso;omega)|(refine ⟨λ_=>?_,λ_=>?_⟩)|(refine ⟨by omega,?_⟩)|(intro _)
     all_goals (refine hK _ ?_;clear hK K)
     all_goals
      refine AW_r rfl rfl λK hK=>?_
      simp (disch:=omega) [zG15,List.getElem?_eq_getElem,aNews,aAppend,aBuildSlice,chunks,numsOf]
      repeat' first|(exfalso;omega)|(refine ⟨λ_=>?_,λ_=>?_⟩)|(refine ⟨by omega,?_⟩)|(intro _)
      all_goals (refine hK _ ?_;clear hK K)
      all_goals
       refine zbi ?_
       refine zbm ?_
       refine zbv (λmM sS=>∃(o:List UInt8) (m:Nat),mM=m+1∧((m=n∧o=[])∨(m=0∧o=digN n))∧sS = { env:=lkE [(0,(.g (.int .i64 ((m:Nat))))),(3,.s o),(4,(.g (.bool (false))))],ob:=lk [] }) ?_ ?_
       ·refine ⟨_,LeS.kr [] [(0,(.g (.int .i64 (((n):Nat))))),(3,.s ([])),(4,(.g (.bool (false))))] [] (by simp [zG14,KpR,renV2,renV,zbk];try simp;try omega) (by simp [zG14,KpOR,renO,renV,zcc];try rfl) (by rfl) (by rfl) (by simp) (by simp) (by rfl) (by simp [forms]),_,[],n,rfl,?_,rfl⟩
        ·simp
       ·rintro mM sS ⟨o,m,rfl,hv,rfl⟩
        refine zbi ?_
        refine AW_r rfl rfl λK hK=>?_
        simp (disch:=omega) [zG15,List.getElem?_eq_getElem,aNews,aAppend,aBuildSlice,chunks,numsOf]
        repeat' first|(exfalso;omega)|(refine ⟨λ_=>?_,λ_=>?_⟩)|(refine ⟨by omega,?_⟩)|(intro _)
        all_goals (refine hK _ ?_;clear hK K)
        all_goals
         refine zbh rfl (λhc2=>?_) (λhc2=>?_)
         ·try simp at hc2
          all_goals
           have hmn:n=m:=by rcases hv with ⟨h,-⟩ | ⟨h,-⟩<;>omega
           have ho:o=[]:=by rcases hv with ⟨-,h⟩ | ⟨h,-⟩;exact h;exfalso;omega
           subst ho
           refine zbj ?_
           refine zbn ?_
           refine zbm ?_
           refine AW_r rfl rfl λK hK=>?_
           simp (disch:=omega) [zG15,List.getElem?_eq_getElem,aNews,aAppend,aBuildSlice,chunks,numsOf]
           repeat' first|(exfalso;omega)|(refine ⟨λ_=>?_,λ_=>?_⟩)|(refine ⟨by omega,?_⟩)|(intro _)
           all_goals (refine hK _ ?_;clear hK K)
           all_goals
            refine zbi ?_
            refine AW_r rfl rfl λK hK=>?_
            simp (disch:=omega) [zG15,List.getElem?_eq_getElem,aNews,aAppend,aBuildSlice,chunks,numsOf]
            repeat' first|(exfalso;omega)|(refine ⟨λ_=>?_,λ_=>?_⟩)|(refine ⟨by omega,?_⟩)|(intro _)
            all_goals (refine hK _ ?_;clear hK K)
            all_goals
             refine zbh rfl (λhc3=>?_) (λhc3=>?_)
             ·try simp at hc3
              all_goals
               refine zc8 rfl rfl λK hK=>?_
               simp (disch:=omega) [zG15,List.getElem?_eq_getElem,aNews,aAppend,aBuildSlice,chunks,numsOf]
               repeat' first|(exfalso;omega)|(refine ⟨λ_=>?_,λ_=>?_⟩)|(refine ⟨by omega,?_⟩)|(intro _)
               all_goals (refine hK _ ?_;clear hK K)
               all_goals
                refine zbn ?_
                refine AW_r rfl rfl λK hK=>?_
                simp (disch:=omega) [zG15,List.getElem?_eq_getElem,aNews,aAppend,aBuildSlice,chunks,numsOf]
                repeat' first|(exfalso;omega)|(refine ⟨λ_=>?_,λ_=>?_⟩)|(refine ⟨by omega,?_⟩)|(intro _)
                all_goals (refine hK _ ?_;clear hK K)
                all_goals
                 refine zc8 rfl rfl λK hK=>?_
                 simp (disch:=omega) [zG15,List.getElem?_eq_getElem,aNews,aAppend,aBuildSlice,chunks,numsOf]
                 repeat' first|(exfalso;omega)|(refine ⟨λ_=>?_,λ_=>?_⟩)|(refine ⟨by omega,?_⟩)|(intro _)
                 all_goals (refine hK _ ?_;clear hK K)
                 all_goals
                  refine ⟨_,LeS.kr [] [(0,(.g (.int .i64 (((m / 10):Nat))))),(3,.s (digN n)),(4,(.g (.bool (false))))] [] (by simp [zG14,KpR,renV2,renV,zbk];(have e10:(m:Int) % 10=n:=(by omega);simp [e10,zq2];try omega)) (by simp [zG14,KpOR,renO,renV,zcc];try rfl) (by rfl) (by rfl) (by simp) (by simp) (by rfl) (by simp [forms]),_,?_,digN n,m / 10,rfl,?_,rfl⟩
                  ·omega
                  ·right;exact ⟨by omega,rfl⟩
             ·try simp at hc3
              all_goals
               refine zbj ?_
               refine zbn ?_
               refine AW_r rfl rfl λK hK=>?_
               simp (disch:=omega) [zG15,List.getElem?_eq_getElem,aNews,aAppend,aBuildSlice,chunks,numsOf]
               repeat' first|(exfalso;omega)|(refine ⟨λ_=>?_,λ_=>?_⟩)|(refine ⟨by omega,?_⟩)|(intro _)
               all_goals (refine hK _ ?_;clear hK K)
               all_goals
                refine zc8 rfl rfl λK hK=>?_
                simp (disch:=omega) [zG15,List.getElem?_eq_getElem,aNews,aAppend,aBuildSlice,chunks,numsOf]
                repeat' first|(exfalso;omega)|(refine ⟨λ_=>?_,λ_=>?_⟩)|(refine ⟨by omega,?_⟩)|(intro _)
                all_goals (refine hK _ ?_;clear hK K)
                all_goals
                 refine ⟨_,LeS.kr [] [(0,(.g (.int .i64 (((m / 10):Nat))))),(3,.s (digN n)),(4,(.g (.bool (false))))] [] (by simp [zG14,KpR,renV2,renV,zbk];(have e10:(m:Int) % 10=n:=(by omega);simp [e10,zq2];try omega)) (by simp [zG14,KpOR,renO,renV,zcc];try rfl) (by rfl) (by rfl) (by simp) (by simp) (by rfl) (by simp [forms]),_,?_,digN n,m / 10,rfl,?_,rfl⟩
                 ·omega
                 ·right;exact ⟨by omega,rfl⟩
         ·try simp at hc2
          all_goals
           refine zbx ?_
           refine zbn ?_
           refine zbi ?_
           refine AW_r rfl rfl λK hK=>?_
           simp (disch:=omega) [zG15,List.getElem?_eq_getElem,aNews,aAppend,aBuildSlice,chunks,numsOf]
           repeat' first|(exfalso;omega)|(refine ⟨λ_=>?_,λ_=>?_⟩)|(refine ⟨by omega,?_⟩)|(intro _)
           all_goals (refine hK _ ?_;clear hK K)
           all_goals
            refine zbh rfl (λhc4=>?_) (λhc4=>?_)
            ·try simp at hc4
             all_goals
              refine AW_r rfl rfl λK hK=>?_
              simp (disch:=omega) [zG15,List.getElem?_eq_getElem,aNews,aAppend,aBuildSlice,chunks,numsOf]
              repeat' first|(exfalso;omega)|(refine ⟨λ_=>?_,λ_=>?_⟩)|(refine ⟨by omega,?_⟩)|(intro _)
              all_goals (refine hK _ ?_;clear hK K)
              all_goals
               refine zbp (zcb ?_)
               simp (disch:=omega) [zG15,List.getElem?_eq_getElem,aNews,aAppend,aBuildSlice,chunks,numsOf]
               all_goals first|(have h0:n=0:=(by omega);subst h0;rfl)|(rcases hv with ⟨h,h2⟩ | ⟨h,h2⟩;exfalso;omega;exact h2.symm)|(rcases hv with ⟨h,h2⟩ | ⟨h,h2⟩;exfalso;omega;exact h2) | trace_state
            ·try simp at hc4
             all_goals
              refine zbj ?_
              refine zbn ?_
              refine AW_r rfl rfl λK hK=>?_
              simp (disch:=omega) [zG15,List.getElem?_eq_getElem,aNews,aAppend,aBuildSlice,chunks,numsOf]
              repeat' first|(exfalso;omega)|(refine ⟨λ_=>?_,λ_=>?_⟩)|(refine ⟨by omega,?_⟩)|(intro _)
              all_goals (refine hK _ ?_;clear hK K)
              all_goals
               refine zbp (zcb ?_)
               simp (disch:=omega) [zG15,List.getElem?_eq_getElem,aNews,aAppend,aBuildSlice,chunks,numsOf]
               all_goals first|(have h0:n=0:=(by omega);subst h0;rfl)|(rcases hv with ⟨h,h2⟩ | ⟨h,h2⟩;exfalso;omega;exact h2.symm)|(rcases hv with ⟨h,h2⟩ | ⟨h,h2⟩;exfalso;omega;exact h2) | trace_state
theorem implDec(n:Nat)(hn:n<10):PCall Try.prog 94 [(.g (.int .i64 ((n:Nat))))] (.s (digN n)):=by
 refine zbr Try.func94 (by rfl) (by rfl) (by rw [Try.ntmps94];exact Nat.le_of_ble_eq_true rfl) rfl (by decide) ?_
 rw [Try.ntmps94]
 refine AW_k [(0,_)] ⟨rfl,trivial⟩ ?_
 refine AW_r rfl rfl λK hK=>?_
 simp (disch:=omega) [zG15,List.getElem?_eq_getElem,aNews,aAppend,aBuildSlice,chunks,numsOf]
 repeat' first|(exfalso;omega)|(refine ⟨λ_=>?_,λ_=>?_⟩)|(refine ⟨by omega,?_⟩)|(intro _)
 all_goals (refine hK _ ?_;clear hK K)
 all_goals
  refine zbi ?_
  refine AW_r rfl rfl λK hK=>?_
  simp (disch:=omega) [zG15,List.getElem?_eq_getElem,aNews,aAppend,aBuildSlice,chunks,numsOf]
  repeat' first|(exfalso;omega)|(refine ⟨λ_=>?_,λ_=>?_⟩)|(refine ⟨by omega,?_⟩)|(intro _)
  all_goals (refine hK _ ?_;clear hK K)
  all_goals
   refine zbh rfl (λhc5=>?_) (λhc5=>?_)
   ·try simp at hc5
    all_goals
     refine AW_r rfl rfl λK hK=>?_
     simp (disch:=omega) [zG15,List.getElem?_eq_getElem,aNews,aAppend,aBuildSlice,chunks,numsOf]
     repeat' first|(exfalso;omega)|(refine ⟨λ_=>?_,λ_=>?_⟩)|(refine ⟨by omega,?_⟩)|(intro _)
     all_goals (refine hK _ ?_;clear hK K)
     all_goals
      refine zbp (zcb ?_)
      simp (disch:=omega) [zG15,List.getElem?_eq_getElem,aNews,aAppend,aBuildSlice,chunks,numsOf,cB8]
      all_goals first|(have h0:n=0:=(by omega);subst h0;rfl) | rfl | trace_state
   ·try simp at hc5
    all_goals
     refine zbj ?_
     refine zbn ?_
     refine AW_r rfl rfl λK hK=>?_
     simp (disch:=omega) [zG15,List.getElem?_eq_getElem,aNews,aAppend,aBuildSlice,chunks,numsOf]
     repeat' first|(exfalso;omega)|(refine ⟨λ_=>?_,λ_=>?_⟩)|(refine ⟨by omega,?_⟩)|(intro _)
     all_goals (refine hK _ ?_;clear hK K)
     all_goals
      refine zbi ?_
      refine AW_r rfl rfl λK hK=>?_
      simp (disch:=omega) [zG15,List.getElem?_eq_getElem,aNews,aAppend,aBuildSlice,chunks,numsOf]
      repeat' first|(exfalso;omega)|(refine ⟨λ_=>?_,λ_=>?_⟩)|(refine ⟨by omega,?_⟩)|(intro _)
      all_goals (refine hK _ ?_;clear hK K)
      all_goals
       refine zbm ?_
       refine zbv (λmM sS=>∃(acc:List Int) (m:Nat),mM=m+1∧((m=n∧acc=[])∨(m=0∧acc=[48+(n:Int)]))∧sS = { env:=lkE [(0,(.g (.int .i64 ((n:Nat))))),(3,.arr 176 0 acc.length),(4,(.g (.int .i64 ((m:Nat)))))],ob:=lk [(176,.flat 1 (acc.map cB8))] }) ?_ ?_
       ·refine ⟨_,LeS.kr [(176,176)] [(0,(.g (.int .i64 ((n:Nat))))),(3,.arr 176 0 ([]).length),(4,(.g (.int .i64 (((n):Nat)))))] [(176,.flat 1 (([]).map cB8))] (by simp [zG14,KpR,renV2,renV,zbk,cB8];try simp;try omega) (by simp [zG14,KpOR,renO,renV,zcc,cB8];try (have e10:(m:Int) % 10=n:=(by omega);simp [e10,cB8];try omega)) (by rfl) (by rfl) (by simp) (by simp) (by rfl) (by simp [forms]),_,[],n,rfl,?_,rfl⟩
        ·simp
       ·rintro mM sS ⟨acc,m,rfl,hv,rfl⟩
        have hal:acc.length≤7:=by rcases hv with ⟨-,h⟩ | ⟨-,h⟩<;>simp [h]
        refine zbi ?_
        refine AW_r rfl rfl λK hK=>?_
        simp (disch:=omega) [zG15,List.getElem?_eq_getElem,aNews,aAppend,aBuildSlice,chunks,numsOf]
        repeat' first|(exfalso;omega)|(refine ⟨λ_=>?_,λ_=>?_⟩)|(refine ⟨by omega,?_⟩)|(intro _)
        all_goals (refine hK _ ?_;clear hK K)
        all_goals
         refine zbh rfl (λhc6=>?_) (λhc6=>?_)
         ·try simp at hc6
          all_goals
           have hmn:n=m:=by rcases hv with ⟨h,-⟩ | ⟨h,-⟩<;>omega
           have ho:acc=[]:=by rcases hv with ⟨-,h⟩ | ⟨h,-⟩;exact h;exfalso;omega
           subst ho
           refine zbj ?_
           refine zbn ?_
           refine zbi ?_
           refine zbm ?_
           refine AW_r rfl rfl λK hK=>?_
           simp (disch:=omega) [zG15,List.getElem?_eq_getElem,aNews,aAppend,aBuildSlice,chunks,numsOf]
           repeat' first|(exfalso;omega)|(refine ⟨λ_=>?_,λ_=>?_⟩)|(refine ⟨by omega,?_⟩)|(intro _)
           all_goals (refine hK _ ?_;clear hK K)
           all_goals
            refine zbi ?_
            refine AW_r rfl rfl λK hK=>?_
            simp (disch:=omega) [zG15,List.getElem?_eq_getElem,aNews,aAppend,aBuildSlice,chunks,numsOf]
            repeat' first|(exfalso;omega)|(refine ⟨λ_=>?_,λ_=>?_⟩)|(refine ⟨by omega,?_⟩)|(intro _)
            all_goals (refine hK _ ?_;clear hK K)
            all_goals
             refine zbh rfl (λhc7=>?_) (λhc7=>?_)
             ·try simp at hc7
              all_goals
               refine zc8 rfl rfl λK hK=>?_
               simp (disch:=omega) [zG15,List.getElem?_eq_getElem,aNews,aAppend,aBuildSlice,chunks,numsOf]
               repeat' first|(exfalso;omega)|(refine ⟨λ_=>?_,λ_=>?_⟩)|(refine ⟨by omega,?_⟩)|(intro _)
               all_goals (refine hK _ ?_;clear hK K)
               all_goals
                refine zbn ?_
                refine zc8 rfl rfl λK hK=>?_
                simp (disch:=omega) [zG15,List.getElem?_eq_getElem,aNews,aAppend,aBuildSlice,chunks,numsOf]
                repeat' first|(exfalso;omega)|(refine ⟨λ_=>?_,λ_=>?_⟩)|(refine ⟨by omega,?_⟩)|(intro _)
                all_goals (refine hK _ ?_;clear hK K)
                all_goals
                 refine zbn ?_
                 refine zc8 rfl rfl λK hK=>?_
                 simp (disch:=omega) [zG15,List.getElem?_eq_getElem,aNews,aAppend,aBuildSlice,chunks,numsOf]
                 repeat' first|(exfalso;omega)|(refine ⟨λ_=>?_,λ_=>?_⟩)|(refine ⟨by omega,?_⟩)|(intro _)
                 all_goals (refine hK _ ?_;clear hK K)
                 all_goals
                  refine ⟨_,LeS.kr [(176,448)] [(0,(.g (.int .i64 ((n:Nat))))),(3,.arr 176 0 ([48+(n:Int)]).length),(4,(.g (.int .i64 (((m / 10):Nat)))))] [(176,.flat 1 (([48+(n:Int)]).map cB8))] (by simp [zG14,KpR,renV2,renV,zbk,cB8];try (have e10:(m:Int) % 10=n:=(by omega);simp [e10,cB8];try omega)) (by simp [zG14,KpOR,renO,renV,zcc,cB8];try (have e10:(m:Int) % 10=n:=(by omega);simp [e10,cB8];try omega)) (by rfl) (by rfl) (by simp) (by simp) (by rfl) (by simp [forms]),_,?_,[48+(n:Int)],m / 10,rfl,?_,rfl⟩
                  ·omega
                  ·right;exact ⟨by omega,rfl⟩
             ·try simp at hc7
              all_goals
               refine zbj ?_
               refine zbn ?_
               refine zc8 rfl rfl λK hK=>?_
               simp (disch:=omega) [zG15,List.getElem?_eq_getElem,aNews,aAppend,aBuildSlice,chunks,numsOf]
               repeat' first|(exfalso;omega)|(refine ⟨λ_=>?_,λ_=>?_⟩)|(refine ⟨by omega,?_⟩)|(intro _)
               all_goals (refine hK _ ?_;clear hK K)
               all_goals
                refine zbn ?_
                refine zc8 rfl rfl λK hK=>?_
                simp (disch:=omega) [zG15,List.getElem?_eq_getElem,aNews,aAppend,aBuildSlice,chunks,numsOf]
                repeat' first|(exfalso;omega)|(refine ⟨λ_=>?_,λ_=>?_⟩)|(refine ⟨by omega,?_⟩)|(intro _)
                all_goals (refine hK _ ?_;clear hK K)
                all_goals
                 refine ⟨_,LeS.kr [(176,448)] [(0,(.g (.int .i64 ((n:Nat))))),(3,.arr 176 0 ([48+(n:Int)]).length),(4,(.g (.int .i64 (((m / 10):Nat)))))] [(176,.flat 1 (([48+(n:Int)]).map cB8))] (by simp [zG14,KpR,renV2,renV,zbk,cB8];try (have e10:(m:Int) % 10=n:=(by omega);simp [e10,cB8];try omega)) (by simp [zG14,KpOR,renO,renV,zcc,cB8];try (have e10:(m:Int) % 10=n:=(by omega);simp [e10,cB8];try omega)) (by rfl) (by rfl) (by simp) (by simp) (by rfl) (by simp [forms]),_,?_,[48+(n:Int)],m / 10,rfl,?_,rfl⟩
                 ·omega
                 ·right;exact ⟨by omega,rfl⟩
         ·try simp at hc6
          all_goals
           have hm0:m=0:=by omega
           have hacc:acc=[48+(n:Int)]:=by rcases hv with ⟨h,-⟩ | ⟨-,h⟩;exfalso;omega;exact h
           subst hacc
           refine zbx ?_
           refine zbn ?_
           refine zbi ?_
           refine AW_r rfl rfl λK hK=>?_
           simp (disch:=omega) [zG15,List.getElem?_eq_getElem,aNews,aAppend,aBuildSlice,chunks,numsOf]
           repeat' first|(exfalso;omega)|(refine ⟨λ_=>?_,λ_=>?_⟩)|(refine ⟨by omega,?_⟩)|(intro _)
           all_goals (refine hK _ ?_;clear hK K)
           all_goals
            refine zbh rfl (λhc8=>?_) (λhc8=>?_)
            ·try simp at hc8
             all_goals
              refine zc8 rfl rfl λK hK=>?_
              simp (disch:=omega) [zG15,List.getElem?_eq_getElem,aNews,aAppend,aBuildSlice,chunks,numsOf]
              repeat' first|(exfalso;omega)|(refine ⟨λ_=>?_,λ_=>?_⟩)|(refine ⟨by omega,?_⟩)|(intro _)
              all_goals (refine hK _ ?_;clear hK K)
              all_goals
               refine zbn ?_
               refine zbi ?_
               refine AW_r rfl rfl λK hK=>?_
               simp (disch:=omega) [zG15,List.getElem?_eq_getElem,aNews,aAppend,aBuildSlice,chunks,numsOf]
               repeat' first|(exfalso;omega)|(refine ⟨λ_=>?_,λ_=>?_⟩)|(refine ⟨by omega,?_⟩)|(intro _)
               all_goals (refine hK _ ?_;clear hK K)
               all_goals
                refine zbm ?_
                refine zbv (λmM sS=>∃(x:Int),mM=1∧(x=0)∧sS = { env:=lkE [(3,.arr 176 0 1),(6,(.g (.int .i64 (x)))),(7,(.g (.int .i64 (0))))],ob:=lk [(176,.flat 1 [cB8 (48+(n:Int))])] }) ?_ ?_
                ·refine ⟨_,LeS.kr [(176,176)] [(3,.arr 176 0 1),(6,(.g (.int .i64 ((0))))),(7,(.g (.int .i64 (0))))] [(176,.flat 1 [cB8 (48+(n:Int))])] (by simp [zG14,KpR,renV2,renV,zbk,cB8];try rfl) (by simp [zG14,KpOR,renO,renV,zcc,cB8];try rfl) (by rfl) (by rfl) (by simp) (by simp) (by rfl) (by simp [forms]),_,0,rfl,?_,rfl⟩
                 ·simp
                ·rintro mM sS ⟨x,rfl,hx,rfl⟩
                 subst hx
                 refine zbi ?_
                 refine AW_r rfl rfl λK hK=>?_
                 simp (disch:=omega) [zG15,List.getElem?_eq_getElem,aNews,aAppend,aBuildSlice,chunks,numsOf]
                 repeat' first|(exfalso;omega)|(refine ⟨λ_=>?_,λ_=>?_⟩)|(refine ⟨by omega,?_⟩)|(intro _)
                 all_goals (refine hK _ ?_;clear hK K)
                 all_goals
                  refine zbh rfl (λhc9=>?_) (λhc9=>?_)
                  ·try simp at hc9
                   all_goals
                    refine zbj ?_
                    refine zbn ?_
                    refine zbi ?_
                    refine zbm ?_
                    refine AW_qe rfl mix (by kernel_rfl) rfl λK hK=>?_
                    simp (disch:=omega) [zG15,List.getElem?_eq_getElem,aNews,aAppend,aBuildSlice,chunks,numsOf]
                    repeat' first|(exfalso;omega)|(refine ⟨λ_=>?_,λ_=>?_⟩)|(refine ⟨by omega,?_⟩)|(intro _)
                    all_goals (refine hK _ ?_;clear hK K)
                    all_goals
                     refine zbn ?_
                     refine zc8 rfl rfl λK hK=>?_
                     simp (disch:=omega) [zG15,List.getElem?_eq_getElem,aNews,aAppend,aBuildSlice,chunks,numsOf]
                     repeat' first|(exfalso;omega)|(refine ⟨λ_=>?_,λ_=>?_⟩)|(refine ⟨by omega,?_⟩)|(intro _)
                     all_goals (refine hK _ ?_;clear hK K)
                     all_goals
                      refine ⟨_,LeS.kr [(176,176)] [(3,.arr 176 0 1),(6,(.g (.int .i64 ((0))))),(7,(.g (.int .i64 (0))))] [(176,.flat 1 [cB8 (48+(n:Int))])] (by simp [zG14,KpR,renV2,renV,zbk,cB8];try rfl) (by simp [zG14,KpOR,renO,renV,zcc,cB8];try rfl) (by rfl) (by rfl) (by simp) (by simp) (by rfl) (by simp [forms]),_,?_,0,rfl,?_,rfl⟩
                      ·omega
                      ·omega
                  ·try simp at hc9
                   all_goals
                    refine zbx ?_
                    refine zbn ?_
                    refine AW_r rfl rfl λK hK=>?_
                    simp (disch:=omega) [zG15,List.getElem?_eq_getElem,aNews,aAppend,aBuildSlice,chunks,numsOf]
                    repeat' first|(exfalso;omega)|(refine ⟨λ_=>?_,λ_=>?_⟩)|(refine ⟨by omega,?_⟩)|(intro _)
                    all_goals (refine hK _ ?_;clear hK K)
                    all_goals
                     refine zbp (zcb ?_)
                     simp (disch:=omega) [zG15,List.getElem?_eq_getElem,aNews,aAppend,aBuildSlice,chunks,numsOf,cB8]
                     all_goals first|(have h0:n=0:=(by omega);subst h0;rfl) | rfl | trace_state
            ·try simp at hc8
             all_goals
              refine zbj ?_
              refine zbn ?_
              refine zbi ?_
              refine AW_r rfl rfl λK hK=>?_
              simp (disch:=omega) [zG15,List.getElem?_eq_getElem,aNews,aAppend,aBuildSlice,chunks,numsOf]
              repeat' first|(exfalso;omega)|(refine ⟨λ_=>?_,λ_=>?_⟩)|(refine ⟨by omega,?_⟩)|(intro _)
              all_goals (refine hK _ ?_;clear hK K)
              all_goals
               refine zbm ?_
               refine zbv (λmM sS=>∃(x:Int),mM=1∧(x=0)∧sS = { env:=lkE [(3,.arr 176 0 1),(6,(.g (.int .i64 (x)))),(7,(.g (.int .i64 (0))))],ob:=lk [(176,.flat 1 [cB8 (48+(n:Int))])] }) ?_ ?_
               ·refine ⟨_,LeS.kr [(176,176)] [(3,.arr 176 0 1),(6,(.g (.int .i64 ((0))))),(7,(.g (.int .i64 (0))))] [(176,.flat 1 [cB8 (48+(n:Int))])] (by simp [zG14,KpR,renV2,renV,zbk,cB8];try rfl) (by simp [zG14,KpOR,renO,renV,zcc,cB8];try rfl) (by rfl) (by rfl) (by simp) (by simp) (by rfl) (by simp [forms]),_,0,rfl,?_,rfl⟩
                ·simp
               ·rintro mM sS ⟨x,rfl,hx,rfl⟩
                subst hx
                refine zbi ?_
                refine AW_r rfl rfl λK hK=>?_
                simp (disch:=omega) [zG15,List.getElem?_eq_getElem,aNews,aAppend,aBuildSlice,chunks,numsOf]
                repeat' first|(exfalso;omega)|(refine ⟨λ_=>?_,λ_=>?_⟩)|(refine ⟨by omega,?_⟩)|(intro _)
                all_goals (refine hK _ ?_;clear hK K)
                all_goals
                 refine zbh rfl (λhc10=>?_) (λhc10=>?_)
                 ·try simp at hc10
                  all_goals
                   refine zbj ?_
                   refine zbn ?_
                   refine zbi ?_
                   refine zbm ?_
                   refine AW_qe rfl mix (by kernel_rfl) rfl λK hK=>?_
                   simp (disch:=omega) [zG15,List.getElem?_eq_getElem,aNews,aAppend,aBuildSlice,chunks,numsOf]
                   repeat' first|(exfalso;omega)|(refine ⟨λ_=>?_,λ_=>?_⟩)|(refine ⟨by omega,?_⟩)|(intro _)
                   all_goals (refine hK _ ?_;clear hK K)
                   all_goals
                    refine zbn ?_
                    refine zc8 rfl rfl λK hK=>?_
                    simp (disch:=omega) [zG15,List.getElem?_eq_getElem,aNews,aAppend,aBuildSlice,chunks,numsOf]
                    repeat' first|(exfalso;omega)|(refine ⟨λ_=>?_,λ_=>?_⟩)|(refine ⟨by omega,?_⟩)|(intro _)
                    all_goals (refine hK _ ?_;clear hK K)
                    all_goals
                     refine ⟨_,LeS.kr [(176,176)] [(3,.arr 176 0 1),(6,(.g (.int .i64 ((0))))),(7,(.g (.int .i64 (0))))] [(176,.flat 1 [cB8 (48+(n:Int))])] (by simp [zG14,KpR,renV2,renV,zbk,cB8];try rfl) (by simp [zG14,KpOR,renO,renV,zcc,cB8];try rfl) (by rfl) (by rfl) (by simp) (by simp) (by rfl) (by simp [forms]),_,?_,0,rfl,?_,rfl⟩
                     ·omega
                     ·omega
                 ·try simp at hc10
                  all_goals
                   refine zbx ?_
                   refine zbn ?_
                   refine AW_r rfl rfl λK hK=>?_
                   simp (disch:=omega) [zG15,List.getElem?_eq_getElem,aNews,aAppend,aBuildSlice,chunks,numsOf]
                   repeat' first|(exfalso;omega)|(refine ⟨λ_=>?_,λ_=>?_⟩)|(refine ⟨by omega,?_⟩)|(intro _)
                   all_goals (refine hK _ ?_;clear hK K)
                   all_goals
                    refine zbp (zcb ?_)
                    simp (disch:=omega) [zG15,List.getElem?_eq_getElem,aNews,aAppend,aBuildSlice,chunks,numsOf,cB8]
                    all_goals first|(have h0:n=0:=(by omega);subst h0;rfl) | rfl | trace_state
end Go.Proofs.Ytodmafgmdlkhoaa.Vs
end
section
namespace Go.Proofs.Ytodmafgmdlkhoaa.Vs
set_option linter.all false
set_option maxRecDepth 100000
attribute [local simp] DtCSet.cells zbl List.set_set List.getD_eq_getElem?_getD zco
noncomputable def pruS(s:DtCSet)(n:Int):DtCSet:={ fName:=s.fName,fSnaps:=prn ((bareN s.fSnaps:Int)-n) 0 s.fSnaps }
theorem znb(l:List DtCSnap)(n:Int)(h5:l.length≤5)(h0:0≤n):0≤goneN l n∧goneN l n≤5∧(goneN l n).toNat<10∧((goneN l n).toNat:Int)=goneN l n:=by
 have:=zll l
 unfold goneN
 omega
theorem pruneX(l:List DtCSet)(hl:l.length≤1048576)(k:Nat)(hk:k<l.length)(h5:l[k].fSnaps.length≤5)(n:Int)(hn:0≤n∧n≤1048576):XCall Try.prog 68 [.eptr 8 k 0,(.g (.int .i64 (n)))] [.own 2 (l.map DtCSet.cells)] (.s (digN (goneN l[k].fSnaps n).toNat)) [.own 2 ((l.set k (pruS l[k] n)).map DtCSet.cells)] []:=by
 obtain ⟨hg0,hg5,hg10,hgn⟩:=znb l[k].fSnaps n h5 hn.1
 refine zbs Try.func68 (by rfl) (by rfl) (by rw [Try.ntmps68];exact Nat.le_of_ble_eq_true rfl) rfl (by simp) rfl rfl ?_
 rw [Try.ntmps68]
 refine zhl (.own 2 (l.map DtCSet.cells)) (by simp [cvO]<;>assumption) ?_
 refine AW_k [(0,_),(1,_)] ⟨rfl,rfl,trivial⟩ ?_
 refine zgm 8 901 902 k hk (by simp [zG14]) (by simp [zG14]) (by simp [zG14]) (by decide) (by decide) (by decide) λzs hz=>?_
 have hkz:k<zs.length:=by rw [←hz] at hk;simpa using hk
 have hset:=@ztb zs k hkz
 refine zf6 (us:=l[k].fSnaps) 902 903 (by simp [zG14]) (by simp [zG14]) λys hys hone=>?_
 have hyl:ys.length=l[k].fSnaps.length:=by rw [←hys];simp
 refine AW_x rfl rfl λK hK=>?_
 simp (disch:=omega) [hset,hgn]
 repeat' first|(refine ⟨by omega,?_⟩)|(intro _)
 refine hK _ ?_;clear hK K
 refine AW_x rfl rfl λK hK=>?_
 simp (disch:=omega) [hset,hgn]
 repeat' first|(refine ⟨by omega,?_⟩)|(intro _)
 refine hK _ ?_;clear hK K
 refine zbi ?_
 refine AW_x rfl rfl λK hK=>?_
 simp (disch:=omega) [hset,hgn]
 repeat' first|(refine ⟨by omega,?_⟩)|(simp (disch:=omega) [hset,hgn])|(intro _)
 refine hK _ ?_;clear hK K
 refine zbm ?_
 refine zbv (λmM sS=>∃(i:Nat),mM=ys.length-i∧(i≤ys.length)∧sS = { env:=lkE [(0,.eptr 8 k 0),(5,(.g (.int .i64 (-n+(bareN (l[k].fSnaps.take i):Nat))))),(17,.arr 902 0 l[k].fSnaps.length),(18,(.g (.int .i64 ((l[k].fSnaps.length:Nat))))),(19,(.g (.int .i64 ((i:Nat)))))],ob:=lk [(8,.win 2 ((zs.map setV).set k [.s l[k].fName,.arr 902 0 l[k].fSnaps.length])),(901,.park ((zs.take k).flatMap setP++(zs.drop (k+1)).flatMap setP)),(902,.win 3 (ys.map snapV)),(903,.park (ys.flatMap snapP))] }) ?_ ?_
 ·refine ⟨_,LeS.kw [(8,8),(901,901),(902,902),(903,903)] [(0,.eptr 8 k 0),(5,(.g (.int .i64 (-n+(bareN (l[k].fSnaps.take (0)):Nat))))),(17,.arr 902 0 l[k].fSnaps.length),(18,(.g (.int .i64 ((l[k].fSnaps.length:Nat))))),(19,(.g (.int .i64 (((0):Nat)))))] [(8,.win 2 ((zs.map setV).set k [.s l[k].fName,.arr 902 0 l[k].fSnaps.length])),(901,.park ((zs.take k).flatMap setP++(zs.drop (k+1)).flatMap setP)),(902,.win 3 (ys.map snapV)),(903,.park (ys.flatMap snapP))] (by simp [zG14,KpR,renV2,renV,zbk,zca,zco];try (simp [bareN];done)) (by simp [zG14,KpOW,wnO,renO,plO,cvO,renV,pl1,zca,zco];first | exact .inr (zhq (zcf zs) ⟨rfl,rfl,rfl⟩) | trace_state) (by rfl) (by simp) (by simp) (by rfl) (by simp [formsX,List.range_succ,zbq,zby]),_,0,rfl,?_,rfl⟩
  ·simp
 ·rintro mM sS ⟨i,rfl,hi,rfl⟩
  refine AW_x rfl rfl λK hK=>?_
  simp (disch:=omega) [hset,hgn]
  repeat' first|(refine ⟨by omega,?_⟩)|(intro _)
  refine hK _ ?_;clear hK K
  refine zbi ?_
  refine zbh rfl (λhc1=>?_) (λhc1=>?_)
  ·try simp [zba,zbf,zbc,zbb] at hc1
   all_goals
    have hbl:bareN (l[k].fSnaps.take i)≤5:=by have h:=zll (l[k].fSnaps.take i);rw [List.length_take] at h;omega
    have hyi : ys[i].1 = l[k].fSnaps[i] := by have h : (ys.map (·.1))[i]'(by simp; omega) = l[k].fSnaps[i] := by simp only [hys]
                                              simpa using h
    have hv1:(ys[i].2 2).oneCell'=true:=hone _ (List.getElem_mem _) 2
    simp only [Value.oneCell'] at hv1
    have hbt:=zjq l[k].fSnaps i (by omega)
    rw [←hyi] at hbt
    refine zbj ?_
    refine zbn ?_
    refine zbi ?_
    refine zbm ?_
    refine AW_x rfl rfl λK hK=>?_
    simp (disch:=omega) [hset,hgn,hv1]
    repeat' first|(exfalso;omega)|(refine ⟨λ_=>?_,λ_=>?_⟩)|(refine ⟨by omega,?_⟩)|(simp (disch:=omega) [hset,hgn,hv1])|(intro _)
    all_goals (refine hK _ ?_;clear hK K)
    all_goals
     refine AW_x rfl rfl λK hK=>?_
     simp (disch:=omega) [hset,hgn,hv1]
     repeat' first|(refine ⟨by omega,?_⟩)|(intro _)
     refine hK _ ?_;clear hK K
     refine zbh rfl (λhc2=>?_) (λhc2=>?_)
     ·try simp [zba,zbf,zbc,zbb] at hc2
      all_goals
       refine zb3 rfl rfl λK hK=>?_
       simp (disch:=omega) [hset,hgn,hv1]
       repeat' first|(exfalso;omega)|(refine ⟨λ_=>?_,λ_=>?_⟩)|(refine ⟨by omega,?_⟩)|(simp (disch:=omega) [hset,hgn,hv1])|(intro _)
       all_goals (refine hK _ ?_;clear hK K)
       all_goals
        refine zbn ?_
        refine zb3 rfl rfl λK hK=>?_
        simp (disch:=omega) [hset,hgn,hv1]
        repeat' first|(refine ⟨by omega,?_⟩)|(intro _)
        refine hK _ ?_;clear hK K
        refine ⟨_,LeS.kw [(8,8),(901,901),(902,902),(903,903)] [(0,.eptr 8 k 0),(5,(.g (.int .i64 (-n+(bareN (l[k].fSnaps.take (i+1)):Nat))))),(17,.arr 902 0 l[k].fSnaps.length),(18,(.g (.int .i64 ((l[k].fSnaps.length:Nat))))),(19,(.g (.int .i64 (((i+1):Nat)))))] [(8,.win 2 ((zs.map setV).set k [.s l[k].fName,.arr 902 0 l[k].fSnaps.length])),(901,.park ((zs.take k).flatMap setP++(zs.drop (k+1)).flatMap setP)),(902,.win 3 (ys.map snapV)),(903,.park (ys.flatMap snapP))] (by simp [zG14,KpR,renV2,renV,zbk,zca,zco];try (first | omega|(rw [hbt];split<;>first | omega|(exfalso;simp_all;done)))) (by simp [zG14,KpOW,wnO,renO,plO,cvO,renV,pl1,zca,zco];first | exact .inr (zhq (zcf zs) ⟨rfl,rfl,rfl⟩) | trace_state) (by rfl) (by simp) (by simp) (by rfl) (by simp [formsX,List.range_succ,zbq,zby]),_,?_,i+1,rfl,?_,rfl⟩
        ·omega
        ·omega
     try simp [zba,zbf,zbc,zbb] at hc2
     refine zbj ?_
     refine zbn ?_
     refine zb3 rfl rfl λK hK=>?_
     simp (disch:=omega) [hset,hgn,hv1]
     repeat' first|(exfalso;omega)|(refine ⟨λ_=>?_,λ_=>?_⟩)|(refine ⟨by omega,?_⟩)|(simp (disch:=omega) [hset,hgn,hv1])|(intro _)
     all_goals (refine hK _ ?_;clear hK K)
     all_goals
      refine ⟨_,LeS.kw [(8,8),(901,901),(902,902),(903,903)] [(0,.eptr 8 k 0),(5,(.g (.int .i64 (-n+(bareN (l[k].fSnaps.take (i+1)):Nat))))),(17,.arr 902 0 l[k].fSnaps.length),(18,(.g (.int .i64 ((l[k].fSnaps.length:Nat))))),(19,(.g (.int .i64 (((i+1):Nat)))))] [(8,.win 2 ((zs.map setV).set k [.s l[k].fName,.arr 902 0 l[k].fSnaps.length])),(901,.park ((zs.take k).flatMap setP++(zs.drop (k+1)).flatMap setP)),(902,.win 3 (ys.map snapV)),(903,.park (ys.flatMap snapP))] (by simp [zG14,KpR,renV2,renV,zbk,zca,zco];try (first | omega|(rw [hbt];split<;>first | omega|(exfalso;simp_all;done)))) (by simp [zG14,KpOW,wnO,renO,plO,cvO,renV,pl1,zca,zco];first | exact .inr (zhq (zcf zs) ⟨rfl,rfl,rfl⟩) | trace_state) (by rfl) (by simp) (by simp) (by rfl) (by simp [formsX,List.range_succ,zbq,zby]),_,?_,i+1,rfl,?_,rfl⟩
      ·omega
      ·omega
  try simp [zba,zbf,zbc,zbb] at hc1
  have hti:l[k].fSnaps.take i=l[k].fSnaps:=List.take_of_length_le (by omega)
  refine zbx ?_
  refine zbn ?_
  refine AW_x rfl rfl λK hK=>?_
  simp (disch:=omega) [hset,hgn]
  repeat' first|(exfalso;omega)|(refine ⟨λ_=>?_,λ_=>?_⟩)|(refine ⟨by omega,?_⟩)|(simp (disch:=omega) [hset,hgn])|(intro _)
  all_goals (refine hK _ ?_;clear hK K)
  all_goals
   refine AW_x rfl rfl λK hK=>?_
   simp (disch:=omega) [hset,hgn]
   repeat' first|(refine ⟨by omega,?_⟩)|(simp (disch:=omega) [hset,hgn])|(intro _)
   refine hK _ ?_;clear hK K
   refine AW_x rfl rfl λK hK=>?_
   simp (disch:=omega) [hset,hgn]
   repeat' first|(refine ⟨by omega,?_⟩)|(intro _)
   refine hK _ ?_;clear hK K
   refine zbi ?_
   refine AW_x rfl rfl λK hK=>?_
   simp (disch:=omega) [hset,hgn]
   repeat' first|(refine ⟨by omega,?_⟩)|(simp (disch:=omega) [hset,hgn])|(intro _)
   refine hK _ ?_;clear hK K
   refine zbm ?_
   refine zbv (λmM sS=>∃(i:Nat) (ks:List SnapV) (d:Int),mM=ys.length-i∧(i≤ys.length∧ks=prV ((bareN l[k].fSnaps:Int)-n) 0 (ys.take i)∧d=min (bareN (l[k].fSnaps.take i):Int) (goneN l[k].fSnaps n))∧sS = { env:=lkE [(0,.eptr 8 k 0),(5,(.g (.int .i64 (goneN l[k].fSnaps n)))),(8,.arr 904 0 ks.length),(9,(.g (.int .i64 (d)))),(35,.arr 902 0 l[k].fSnaps.length),(36,(.g (.int .i64 ((l[k].fSnaps.length:Nat))))),(37,(.g (.int .i64 ((i:Nat)))))],ob:=lk [(8,.win 2 ((zs.map setV).set k [.s l[k].fName,.arr 902 0 l[k].fSnaps.length])),(901,.park ((zs.take k).flatMap setP++(zs.drop (k+1)).flatMap setP)),(902,.win 3 (ys.map snapV)),(903,.park (ys.flatMap snapP)),(904,.win 3 (ks.map snapV))] }) ?_ ?_
   ·refine ⟨_,LeS.kw [(8,8),(901,901),(902,902),(903,903),(904,512)] [(0,.eptr 8 k 0),(5,(.g (.int .i64 (goneN l[k].fSnaps n)))),(8,.arr 904 0 ([]).length),(9,(.g (.int .i64 ((0))))),(35,.arr 902 0 l[k].fSnaps.length),(36,(.g (.int .i64 ((l[k].fSnaps.length:Nat))))),(37,(.g (.int .i64 (((0):Nat)))))] [(8,.win 2 ((zs.map setV).set k [.s l[k].fName,.arr 902 0 l[k].fSnaps.length])),(901,.park ((zs.take k).flatMap setP++(zs.drop (k+1)).flatMap setP)),(902,.win 3 (ys.map snapV)),(903,.park (ys.flatMap snapP)),(904,.win 3 (([]).map snapV))] (by simp [zG14,KpR,renV2,renV,zbk,zca,zco];try (first | omega|(rw [hti];unfold goneN;split<;>omega))) (by simp [zG14,KpOW,wnO,renO,plO,cvO,renV,pl1,zca,zco];first | exact .inr (zhq (zcf zs) ⟨rfl,rfl,rfl⟩) | trace_state) (by rfl) (by simp) (by simp) (by rfl) (by simp [formsX,List.range_succ,zbq,zby]),_,0,[],0,rfl,?_,rfl⟩
    ·exact ⟨by omega,rfl,by simp [bareN];omega⟩
   ·rintro mM sS ⟨i,ks,d,rfl,⟨hi,hks,hd⟩,rfl⟩
    have hkl:ks.length≤5:=by rw [hks];have h1:=(zh6 ((bareN l[k].fSnaps:Int)-n) (ys.take i) 0).length_le;rw [List.length_take] at h1;omega
    refine AW_x rfl rfl λK hK=>?_
    simp (disch:=omega) [hset,hgn]
    repeat' first|(refine ⟨by omega,?_⟩)|(intro _)
    refine hK _ ?_;clear hK K
    refine zbi ?_
    refine zbh rfl (λhc3=>?_) (λhc3=>?_)
    ·try simp [zba,zbf,zbc,zbb] at hc3
     all_goals
      have hpt:=zxp ((bareN l[k].fSnaps:Int)-n) ys i (by omega)
      have hyi : ys[i].1 = l[k].fSnaps[i] := by have h : (ys.map (·.1))[i]'(by simp; omega) = l[k].fSnaps[i] := by simp only [hys]
                                                simpa using h
      have hv1:(ys[i].2 2).oneCell'=true:=hone _ (List.getElem_mem _) 2
      simp only [Value.oneCell'] at hv1
      have hbt:=zjq l[k].fSnaps i (by omega)
      rw [←hyi] at hbt
      refine zbj ?_
      refine zbn ?_
      refine zbi ?_
      refine zbm ?_
      refine AW_x rfl rfl λK hK=>?_
      simp (disch:=omega) [hset,hgn,hv1]
      repeat' first|(exfalso;omega)|(refine ⟨λ_=>?_,λ_=>?_⟩)|(refine ⟨by omega,?_⟩)|(simp (disch:=omega) [hset,hgn,hv1])|(intro _)
      all_goals (refine hK _ ?_;clear hK K)
      all_goals
       refine AW_x rfl rfl λK hK=>?_
       simp (disch:=omega) [hset,hgn,hv1]
       repeat' first|(exfalso;omega)|(refine ⟨λ_=>?_,λ_=>?_⟩)|(refine ⟨by omega,?_⟩)|(simp (disch:=omega) [hset,hgn,hv1])|(intro _)
       all_goals (refine hK _ ?_;clear hK K)
       all_goals
        refine zbh rfl (λhc4=>?_) (λhc4=>?_)
        ·try simp [zba,zbf,zbc,zbb] at hc4
         all_goals
          refine zb3 rfl rfl λK hK=>?_
          simp (disch:=omega) [hset,hgn,hv1]
          repeat' first|(exfalso;omega)|(refine ⟨λ_=>?_,λ_=>?_⟩)|(refine ⟨by omega,?_⟩)|(simp (disch:=omega) [hset,hgn,hv1])|(intro _)
          all_goals (refine hK _ ?_;clear hK K)
          all_goals
           refine zbn ?_
           refine zb3 rfl rfl λK hK=>?_
           simp (disch:=omega) [hset,hgn,hv1]
           repeat' first|(refine ⟨by omega,?_⟩)|(intro _)
           refine hK _ ?_;clear hK K
           refine ⟨_,LeS.kw [(8,8),(901,901),(902,902),(903,903),(904,904)] [(0,.eptr 8 k 0),(5,(.g (.int .i64 (goneN l[k].fSnaps n)))),(8,.arr 904 0 (ks).length),(9,(.g (.int .i64 ((d+1))))),(35,.arr 902 0 l[k].fSnaps.length),(36,(.g (.int .i64 ((l[k].fSnaps.length:Nat))))),(37,(.g (.int .i64 (((i+1):Nat)))))] [(8,.win 2 ((zs.map setV).set k [.s l[k].fName,.arr 902 0 l[k].fSnaps.length])),(901,.park ((zs.take k).flatMap setP++(zs.drop (k+1)).flatMap setP)),(902,.win 3 (ys.map snapV)),(903,.park (ys.flatMap snapP)),(904,.win 3 ((ks).map snapV))] (by simp [zG14,KpR,renV2,renV,zbk,zca,zco];try omega) (by simp [zG14,KpOW,wnO,renO,plO,cvO,renV,pl1,zca,zco];first | exact .inr (zhq (zcf zs) ⟨rfl,rfl,rfl⟩) | trace_state) (by rfl) (by simp) (by simp) (by rfl) (by simp [formsX,List.range_succ,zbq,zby]),_,?_,i+1,ks,d+1,rfl,?_,rfl⟩
           ·omega
           ·rw [hys] at hpt
            have hgd:goneN l[k].fSnaps n=max 0 ((bareN l[k].fSnaps:Int)-n):=rfl
            refine ⟨by omega,?_,?_⟩
            ·rw [hpt,hks];split<;>rename_i h<;>first|(simp;done)|(exfalso;obtain ⟨h1,h2⟩:=h;first | omega|(simp_all;done))|(exfalso;exact h ⟨by assumption,by omega⟩) | trace_state
            ·rw [hbt];by_cases ht:ys[i].1.fTag=[]<;>first|(simp [ht];omega)|(exfalso;simp_all;done) | trace_state
        try simp [zba,zbf,zbc,zbb] at hc4
        refine zb3 rfl rfl λK hK=>?_
        simp (disch:=omega) [hset,hgn,hv1]
        repeat' first|(exfalso;omega)|(refine ⟨λ_=>?_,λ_=>?_⟩)|(refine ⟨by omega,?_⟩)|(simp (disch:=omega) [hset,hgn,hv1])|(intro _)
        all_goals (refine hK _ ?_;clear hK K)
        all_goals
         refine zbn ?_
         refine zb3 rfl rfl λK hK=>?_
         simp (disch:=omega) [hset,hgn,hv1]
         repeat' first|(refine ⟨by omega,?_⟩)|(intro _)
         refine hK _ ?_;clear hK K
         refine ⟨_,LeS.kw [(8,8),(901,901),(902,902),(903,903),(904,880)] [(0,.eptr 8 k 0),(5,(.g (.int .i64 (goneN l[k].fSnaps n)))),(8,.arr 904 0 (ks++[ys[i]]).length),(9,(.g (.int .i64 ((d))))),(35,.arr 902 0 l[k].fSnaps.length),(36,(.g (.int .i64 ((l[k].fSnaps.length:Nat))))),(37,(.g (.int .i64 (((i+1):Nat)))))] [(8,.win 2 ((zs.map setV).set k [.s l[k].fName,.arr 902 0 l[k].fSnaps.length])),(901,.park ((zs.take k).flatMap setP++(zs.drop (k+1)).flatMap setP)),(902,.win 3 (ys.map snapV)),(903,.park (ys.flatMap snapP)),(904,.win 3 ((ks++[ys[i]]).map snapV))] (by simp [zG14,KpR,renV2,renV,zbk,zca,zco];try omega) (by simp [zG14,KpOW,wnO,renO,plO,cvO,renV,pl1,zca,zco];first | exact .inr (zhq (zcf zs) ⟨rfl,rfl,rfl⟩) | trace_state) (by rfl) (by simp) (by simp) (by rfl) (by simp [formsX,List.range_succ,zbq,zby]),_,?_,i+1,ks++[ys[i]],d,rfl,?_,rfl⟩
         ·omega
         ·rw [hys] at hpt
          have hgd:goneN l[k].fSnaps n=max 0 ((bareN l[k].fSnaps:Int)-n):=rfl
          refine ⟨by omega,?_,?_⟩
          ·rw [hpt,hks];split<;>rename_i h<;>first|(simp;done)|(exfalso;obtain ⟨h1,h2⟩:=h;first | omega|(simp_all;done))|(exfalso;exact h ⟨by assumption,by omega⟩) | trace_state
          ·rw [hbt];by_cases ht:ys[i].1.fTag=[]<;>first|(simp [ht];omega)|(exfalso;simp_all;done) | trace_state
    try simp [zba,zbf,zbc,zbb] at hc3
    have hti2:ys.take i=ys:=List.take_of_length_le (by omega)
    rw [hti2] at hks
    refine zbx ?_
    refine zbn ?_
    refine AW_x rfl rfl λK hK=>?_
    simp (disch:=omega) [hset,hgn]
    repeat' first|(exfalso;omega)|(refine ⟨λ_=>?_,λ_=>?_⟩)|(refine ⟨by omega,?_⟩)|(simp (disch:=omega) [hset,hgn])|(intro _)
    all_goals (refine hK _ ?_;clear hK K)
    all_goals
     refine zda (zlk (ks:=ks) (zs:=ys) 904 903 (by simp [zG14]) (by simp [zG14]) (by rw [hks];exact zh6 _ _ _)) ?_
     have hsn:(ks.map λz=>DtCSnap.cells z.1)=(pruS l[k] n).fSnaps.map DtCSnap.cells:=by have h:=zna ((bareN l[k].fSnaps:Int)-n) ys 0;rw [hys] at h;show _=(prn _ 0 l[k].fSnaps).map _;rw [←h,List.map_map,hks];rfl
     rw [hsn]
     have hkl2:ks.length=(pruS l[k] n).fSnaps.length:=by have h:=congrArg List.length hsn;simpa using h
     refine zcp 8 901 904 k hz hk l[k].fName (pruS l[k] n).fSnaps (by simp [zG14,hkl2]) (by simp [zG14]) (by simp [zG14]) (by decide) (by decide) (by decide) ?_
     refine AW_x rfl rfl λK hK=>?_
     simp (disch:=omega) [hset,hgn]
     repeat' first|(exfalso;omega)|(refine zc6 (zbe zcl zbo) (implDec _ hg10) rfl ?_;simp (disch:=omega) [hset,hgn])|(refine zc7 (implDec _ hg10) (by rfl) ?_ ?_;(focus (simp (disch:=omega) [hset,hgn,zbl];done));simp (disch:=omega) [hset,hgn])|(refine ⟨by omega,?_⟩)|(simp (disch:=omega) [hset,hgn])|(intro _)
     refine hK _ ?_;clear hK K
     refine zbp (zb0 [] [] (by simp [zG14,List.range_succ]) (by simp) ?_)
     simp (disch:=omega) [hset,hgn]
     all_goals first | rfl | exact ⟨rfl,rfl⟩ | trace_state
end Go.Proofs.Ytodmafgmdlkhoaa.Vs
end
section
namespace Go.Proofs.Ytodmafgmdlkhoaa.Vs
set_option linter.all false
set_option maxRecDepth 100000
def tldL(s:DtCSet):List (List UInt8):=s.fSnaps.map λp=>p.fName++58 :: p.fTag
theorem scR_cS(l:List (List UInt8)):scR (l.map cS)=true:=zdn cS (λ_=>rfl) l
theorem set_own(l:List DtCSet)(k:Nat)(hk:k<l.length):l.map DtCSet.cells=(l.map DtCSet.cells).set k (DtCSet.cells l[k]):=by rw [←List.map_set,List.set_getElem_self]
theorem tldL_bd(s:DtCSet)(i:Nat)(h:i<s.fSnaps.length)(hb:(spc (tldL s)).length≤1073741824):s.fSnaps[i].fName.length+1+s.fSnaps[i].fTag.length≤1073741824:=by
 have hl:i<(tldL s).length:=by simpa [tldL] using h
 have h1:=(zxo (tldL s) i hl hb).1
 have e:(tldL s)[i]=s.fSnaps[i].fName++58 :: s.fSnaps[i].fTag:=by simp [tldL]
 rw [e] at h1
 simp at h1
 omega
attribute [local simp] DtCSet.cells zbl List.set_set List.getD_eq_getElem?_getD zco cS and_assoc scR_cS
attribute [-simp] aAppC aAppZ
theorem toldX(l:List DtCSet)(hl:l.length≤1048576)(k:Nat)(hk:k<l.length)(h5:l[k].fSnaps.length≤5)(hb:(spc (tldL l[k])).length≤1073741824):XCall Try.prog 69 [.eptr 8 k 0] [.own 2 (l.map DtCSet.cells)] (.s (spc (tldL l[k]))) [.own 2 (l.map DtCSet.cells)] []:=by
 have hll:(tldL l[k]).length=l[k].fSnaps.length:=by simp [tldL]
 refine zbs Try.func69 (by rfl) (by rfl) (by rw [Try.ntmps69];exact Nat.le_of_ble_eq_true rfl) rfl (by simp) rfl rfl ?_
 rw [Try.ntmps69]
 refine zhl (.own 2 (l.map DtCSet.cells)) (by simp [cvO]<;>assumption) ?_
 refine AW_k [(0,_)] ⟨rfl,trivial⟩ ?_
 refine zgm 8 901 902 k hk (by simp [zG14]) (by simp [zG14]) (by simp [zG14]) (by decide) (by decide) (by decide) λzs hz=>?_
 have hkz:k<zs.length:=by rw [←hz] at hk;simpa using hk
 have hset:=@ztb zs k hkz
 refine zf6 (us:=l[k].fSnaps) 902 903 (by simp [zG14]) (by simp [zG14]) λys hys hone=>?_
 have hyl:ys.length=l[k].fSnaps.length:=by rw [←hys];simp
 have hll:(tldL l[k]).length=l[k].fSnaps.length:=by simp [tldL]
 refine AW_x rfl rfl λK hK=>?_
 simp (disch:=omega) [hset,hll]
 repeat' first|(refine ⟨by omega,?_⟩)|(intro _)
 refine hK _ ?_;clear hK K
 refine AW_x rfl rfl λK hK=>?_
 simp (disch:=omega) [hset,hll]
 repeat' first|(refine ⟨by omega,?_⟩)|(simp (disch:=omega) [hset,hll])|(intro _)
 refine hK _ ?_;clear hK K
 refine zbi ?_
 refine AW_x rfl rfl λK hK=>?_
 simp (disch:=omega) [hset,hll]
 repeat' first|(refine ⟨by omega,?_⟩)|(simp (disch:=omega) [hset,hll])|(intro _)
 refine hK _ ?_;clear hK K
 refine zbm ?_
 refine zbv (λmM sS=>∃(i:Nat),mM=ys.length-i∧(i≤ys.length)∧sS = { env:=lkE [(0,.eptr 8 k 0),(3,.arr 904 0 i),(10,.arr 902 0 l[k].fSnaps.length),(11,(.g (.int .i64 ((l[k].fSnaps.length:Nat))))),(12,(.g (.int .i64 ((i:Nat)))))],ob:=lk [(8,.win 2 ((zs.map setV).set k [.s l[k].fName,.arr 902 0 l[k].fSnaps.length])),(901,.park ((zs.take k).flatMap setP++(zs.drop (k+1)).flatMap setP)),(902,.win 3 (ys.map snapV)),(903,.park (ys.flatMap snapP)),(904,.win 1 (((tldL l[k]).take i).map cS))] }) ?_ ?_
 ·refine ⟨_,LeS.kw [(8,8),(901,901),(902,902),(903,903),(904,112)] [(0,.eptr 8 k 0),(3,.arr 904 0 (0)),(10,.arr 902 0 l[k].fSnaps.length),(11,(.g (.int .i64 ((l[k].fSnaps.length:Nat))))),(12,(.g (.int .i64 (((0):Nat)))))] [(8,.win 2 ((zs.map setV).set k [.s l[k].fName,.arr 902 0 l[k].fSnaps.length])),(901,.park ((zs.take k).flatMap setP++(zs.drop (k+1)).flatMap setP)),(902,.win 3 (ys.map snapV)),(903,.park (ys.flatMap snapP)),(904,.win 1 (((tldL l[k]).take (0)).map cS))] (by simp [zG14,KpR,renV2,renV,zbk,zca,zco];try (simp;done)) (by simp [zG14,KpOW,wnO,renO,plO,cvO,renV,pl1,zca,zco];first | exact .inr (zhq (zcf zs) ⟨rfl,rfl,rfl⟩) | exact ⟨.inr (zhq (zcf zs) ⟨rfl,rfl,rfl⟩),.inl ⟨by rw [htk,List.take_take,Nat.min_self];rfl,zcn (zdn cS (λ_=>rfl) _) _⟩⟩ | trace_state) (by rfl) (by simp) (by simp) (by rfl) (by simp [formsX,List.range_succ,zbq,zby]),_,0,rfl,?_,rfl⟩
  ·simp
 ·rintro mM sS ⟨i,rfl,hi,rfl⟩
  refine AW_x rfl rfl λK hK=>?_
  simp (disch:=omega) [hset,hll]
  repeat' first|(refine ⟨by omega,?_⟩)|(intro _)
  refine hK _ ?_;clear hK K
  refine zbi ?_
  refine zbh rfl (λhc1=>?_) (λhc1=>?_)
  ·try simp [zba,zbf,zbc,zbb] at hc1
   all_goals
    have hyi : ys[i].1 = l[k].fSnaps[i] := by have h : (ys.map (·.1))[i]'(by simp; omega) = l[k].fSnaps[i] := by simp only [hys]
                                              simpa using h
    have hv1:(ys[i].2 2).oneCell'=true:=hone _ (List.getElem_mem _) 2
    simp only [Value.oneCell'] at hv1
    have htb:=tldL_bd l[k] i (by omega) hb
    have htk:=tkm_s cS (tldL l[k]) i (by omega)
    have htx:(tldL l[k])[i]'(by omega)=l[k].fSnaps[i].fName++58 :: l[k].fSnaps[i].fTag:=by simp [tldL]
    rw [htx] at htk
    rw [←hyi] at htb htk
    refine zbj ?_
    refine zbn ?_
    refine zbi ?_
    refine zbm ?_
    refine AW_x rfl rfl λK hK=>?_
    simp (disch:=omega) [hset,hll,hv1]
    repeat' first|(exfalso;omega)|(refine ⟨λ_=>?_,λ_=>?_⟩)|(refine ⟨by omega,?_⟩)|(simp (disch:=omega) [hset,hll,hv1])|(intro _)
    all_goals (refine hK _ ?_;clear hK K)
    all_goals
     refine zb3 rfl rfl λK hK=>?_
     simp (disch:=omega) [hset,hll,hv1]
     repeat' first|(refine ⟨by omega,?_⟩)|(simp (disch:=omega) [hset,hll,hv1])|(intro _)
     refine hK _ ?_;clear hK K
     refine zbn ?_
     refine zb3 rfl rfl λK hK=>?_
     simp (disch:=omega) [hset,hll,hv1]
     repeat' first|(refine ⟨by omega,?_⟩)|(intro _)
     refine hK _ ?_;clear hK K
     refine ⟨_,LeS.kw [(8,8),(901,901),(902,902),(903,903),(904,400)] [(0,.eptr 8 k 0),(3,.arr 904 0 (i+1)),(10,.arr 902 0 l[k].fSnaps.length),(11,(.g (.int .i64 ((l[k].fSnaps.length:Nat))))),(12,(.g (.int .i64 (((i+1):Nat)))))] [(8,.win 2 ((zs.map setV).set k [.s l[k].fName,.arr 902 0 l[k].fSnaps.length])),(901,.park ((zs.take k).flatMap setP++(zs.drop (k+1)).flatMap setP)),(902,.win 3 (ys.map snapV)),(903,.park (ys.flatMap snapP)),(904,.win 1 (((tldL l[k]).take (i+1)).map cS))] (by simp [zG14,KpR,renV2,renV,zbk,zca,zco];try (first | omega | rfl)) (by simp [zG14,KpOW,wnO,renO,plO,cvO,renV,pl1,zca,zco];first | exact .inr (zhq (zcf zs) ⟨rfl,rfl,rfl⟩) | exact ⟨.inr (zhq (zcf zs) ⟨rfl,rfl,rfl⟩),.inl ⟨by rw [htk,List.take_take,Nat.min_self];rfl,zcn (zdn cS (λ_=>rfl) _) _⟩⟩ | trace_state) (by rfl) (by simp) (by simp) (by rfl) (by simp [formsX,List.range_succ,zbq,zby]),_,?_,i+1,rfl,?_,rfl⟩
     ·omega
     ·omega
  try simp [zba,zbf,zbc,zbb] at hc1
  have hi3:i=l[k].fSnaps.length:=by omega
  refine zbx ?_
  refine zbn ?_
  refine zda (zlk (ks:=ys) (zs:=ys) 902 903 (by simp [zG14]) (by simp [zG14]) (List.Sublist.refl _)) ?_
  have hsn:(ys.map λz=>DtCSnap.cells z.1)=l[k].fSnaps.map DtCSnap.cells:=by rw [←hys,List.map_map];rfl
  rw [hsn]
  refine zcp 8 901 902 k hz hk l[k].fName l[k].fSnaps (by simp [zG14]) (by simp [zG14]) (by simp [zG14]) (by decide) (by decide) (by decide) ?_
  have htf:List.take i (List.map cS (tldL l[k]))=List.map cS (tldL l[k]):=List.take_of_length_le (by simp;omega)
  simp only [htf]
  subst hi3
  refine AW_x rfl rfl λK hK=>?_
  simp (disch:=omega) [hset,hll]
  repeat' first|(exfalso;omega)|(refine zc6 (zbe zce zbo) (zq0 (tldL l[k]) (by omega) hb) rfl ?_;simp (disch:=omega) [hset,hll])|(refine zc7 (zq0 (tldL l[k]) (by omega) hb) (by rfl) ?_ ?_;(focus (simp (disch:=omega) [hset,hll,zbl];done));simp (disch:=omega) [hset,hll])|(refine ⟨λ_=>?_,λ_=>?_⟩)|(refine ⟨by omega,?_⟩)|(simp (disch:=omega) [hset,hll])|(intro _)
  all_goals (refine hK _ ?_;clear hK K)
  all_goals
   refine zbp (zb0 [] [] (by simp [zG14,List.range_succ]) (by simp) ?_)
   simp (disch:=omega) [hset,hll]
   all_goals first | rfl | exact ⟨rfl,rfl⟩ | exact set_own l k hk | trace_state
end Go.Proofs.Ytodmafgmdlkhoaa.Vs
end
