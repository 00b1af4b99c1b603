import Derived.Test.YtodmafgmdlkhoaaGreatSM9
section
open Go Go.Proofs Go.Proofs.YtodmafgmdlkhoaaGreat.Vs
namespace Go.Proofs.YtodmafgmdlkhoaaGreat.Vs
set_option linter.all false
set_option linter.unusedSimpArgs false
set_option linter.unusedVariables false
set_option maxRecDepth 100000
set_option maxHeartbeats 1200000
section
variable {P:Program}{rest:List CO}{K:St→Prop}{st:St}{dst:Option Nat}{f:FuncId}{l:List Int}{actual args:List AV}{r:AV}
/-- A call that is handed the cursor and makes one row. -/
theorem XKd_cur1{n:Nat}{c c':Cur}{sz:Nat}{xs:List (List AV)}(ha:∀s:St,ax2s false s [n] [] actual args)(hX:XCall P f args [.cells (curC l c)] r [.cells (curC l c')] [.own sz xs])(ho:st.ob n=some (.cells (curC l c)))(hr:rkT false r=true)(hnm:st.ob (nmC dst)=none)
 (hk:xreg P rest (putC st dst (rnT (rhoX [n] (nmC dst)) r) [(n,.cells (curC l c')),(nmC dst,.own sz xs)]) K):XKd P rest K st dst f actual:=by
 have hne:n≠nmC dst:=by rintro rfl;rw [hnm] at ho;cases ho
 refine zjy [n] false [] hX ⟨by simp,by simp,by simpa [nmC] using hne,?_,hr,rfl⟩ ⟨ha _,?_⟩ ?_
 ·intro k hk2
  have:k=0:=by simpa using hk2
  subst this
  exact hnm
 ·rw [zjd,zkz]
  exact ⟨⟨_,ho,by rw [zng];trivial⟩,trivial⟩
 ·exact hk
end
def setDeps(x:DtInst)(v:List DtId):DtInst:={ x with fDeps:=v }
theorem LeS_close{fs:List Nat}{st:St}(n pk S k:Nat){zs:List InstV}{ds:List DtId}(hk:k<zs.length)(e1:n≠S)(e2:pk≠S)(e3:n≠pk)(hn:st.ob n=some (.win 16 ((zs.map instV).set k ((instV zs[k]).set 14 (.arr S 0 ds.length)))))(hp:st.ob pk=some (.park (((zs.take k).flatMap instP++[(.sl 1 (zs[k].1.fCmd.fChunks.map cS),zs[k].2 12)])++(zs.drop (k+1)).flatMap instP)))(hS:st.ob S=some (.own 2 (ds.map DtId.cells))) :
 LeS fs st { st with ob:=upd (upd (upd st.ob S (some .dead)) pk (some .dead)) n (some (.own 16 (((zs.map (·.1)).set k (setDeps zs[k].1 ds)).map DtInst.cells))) }:=by
 intro C a w hfs hCC
 obtain ⟨v,-,h1⟩:=CC_repark (s:=2) (sz:=16) (k:=k) (j:=14) (x:=(instV zs[k]).set 14 (.arr S 0 ds.length)) (ys:=ds.map DtId.cells) n pk S hn hp hS (by simp [hk]) (by simp [znu]) hCC
 let z':InstV:=(setDeps zs[k].1 ds,λj=>if j=14 then v else zs[k].2 j)
 have hrow:((zs.map instV).set k ((instV zs[k]).set 14 (.arr S 0 ds.length))).set k (((instV zs[k]).set 14 (.arr S 0 ds.length)).set 14 (.g v))=(zs.set k z').map instV:=by
  rw [List.set_set,List.map_set];rfl
 have hz':instP z'=[(.sl 1 (zs[k].1.fCmd.fChunks.map cS),zs[k].2 12),(.sl 2 (ds.map DtId.cells),v)]:=rfl
 have hpark:((zs.take k).flatMap instP++[(.sl 1 (zs[k].1.fCmd.fChunks.map cS),zs[k].2 12)])++(AV.sl 2 (ds.map DtId.cells),v) :: (zs.drop (k+1)).flatMap instP=(zs.set k z').flatMap instP:=by
  rw [show zs.set k z'=zs.take k++z' :: zs.drop (k+1) from List.set_eq_take_append_cons_drop.trans (by rw [if_pos hk]),List.flatMap_append,List.flatMap_cons,hz']
  simp
 rw [hrow] at h1
 have h2:=LeS.join (fs:=fs) DtInst.cells (λ_=>rfl) n pk (ks:=zs.set k z') (zs:=zs.set k z') (sz:=16) (zbg _ _ _) (by
  show upd (upd _ pk _) n _ pk=_
  rw [zba _ _ (Ne.symm e3),zbg,hpark];rfl) (List.Sublist.refl _) C a w hfs h1
 refine Eq.mp (congrArg (λo=>CC C { env:=st.env,ob:=o } a w) ?_) h2
 funext m
 have hks:(zs.set k z').map (λz=>DtInst.cells z.1)=((zs.map (·.1)).set k (setDeps zs[k].1 ds)).map DtInst.cells:=by
  rw [List.map_set,List.map_set,List.map_map];rfl
 by_cases m1:m=n
 ·subst m1;rw [zbg,zbg,hks]
 ·rw [zba _ _ m1,zba _ _ m1]
  by_cases m2:m=pk
  ·subst m2;rw [zbg,zbg]
  ·rw [zba _ _ m2,zba _ _ m2]
   show upd (upd (upd st.ob S _) pk _) n _ m=_
   rw [zba _ _ m1,zba _ _ m2]
theorem aAppZ_a{P:Program}{st:St}(nm:Nat)(ts:List TypeId)(s:AV)(n o l:Nat):aAppZ P st nm ts s (.arr n o l)=none:=by
 unfold aAppZ
 split
 ·rename_i h;cases h
 ·rfl
theorem setV_get(zs:List InstV)(k:Nat)(y:List AV)(h:k<zs.length):((zs.map instV).set k y)[k]? = some y:=by simp [h]
theorem LeS_closeW{fs:List Nat}{st:St}(n pk S k:Nat){zs:List InstV}{ds:List DtId}(hk:k<zs.length)(e1:n≠S)(e2:pk≠S)(e3:n≠pk)(hn:st.ob n=some (.win 16 ((zs.map instV).set k ((instV zs[k]).set 14 (.arr S 0 ds.length)))))(hp:st.ob pk=some (.park (((zs.take k).flatMap instP++[(.sl 1 (zs[k].1.fCmd.fChunks.map cS),zs[k].2 12)])++(zs.drop (k+1)).flatMap instP)))(hS:st.ob S=some (.win 2 (ds.map DtId.cells))) :
 LeS fs st { st with ob:=upd (upd (upd st.ob S (some .dead)) pk (some .dead)) n (some (.own 16 (((zs.map (·.1)).set k (setDeps zs[k].1 ds)).map DtInst.cells))) }:=by
 have h1:LeS fs st { st with ob:=upd st.ob S (some (.own 2 (ds.map DtId.cells))) }:=LeS.cv λm=>by
  by_cases e:m=S
  ·subst e
   rw [zbg]
   exact .inr ⟨_,_,hS,rfl,rfl,rfl,zbv ds⟩
  ·rw [zba _ _ e];exact .inl rfl
 have h2:=LeS_close (fs:=fs) (st:={ st with ob:=upd st.ob S (some (.own 2 (ds.map DtId.cells))) }) n pk S k hk e1 e2 e3 (by show upd _ S _ n=_;rw [zba _ _ e1];exact hn) (by show upd _ S _ pk=_;rw [zba _ _ e2];exact hp) (zbg _ _ _)
 have h3:=LeS.trans h1 h2
 simp only [upd_upd] at h3
 exact h3
theorem fm_atI(zs:List InstV)(k:Nat)(h:k<zs.length):zs.flatMap instP=(zs.take k).flatMap instP++([(.sl 1 (zs[k].1.fCmd.fChunks.map cS),zs[k].2 12),(.sl 2 (zs[k].1.fDeps.map DtId.cells),zs[k].2 14)]++(zs.drop (k+1)).flatMap instP):=by
 rw [←instP_c,←List.flatMap_cons,←List.flatMap_append]
 congr 1
 rw [List.getElem_cons_drop,List.take_append_drop]
def InstD(x:DtInst):Prop:=CmdD x.fCmd∧x.fDeps.length≤100
def InstL(x:DtInst):Prop:=CmdD x.fCmd∧x.fDeps.length≤50
theorem zc0{x:DtInst}(h:InstL x):InstD x:=⟨h.1,by have:=h.2;omega⟩
theorem sumZ_16:∀(xs:List (List UInt8)),(∀t∈xs,t.length≤16)→sumZ lenZ xs≤16*xs.length
 | [],_=>by simp [zqw]
 | x :: xs,h=>by
  have ih:=sumZ_16 xs λt ht=>h t (List.mem_cons_of_mem _ ht)
  have:=h x List.mem_cons_self
  rw [zju]
  simp only [lenZ,List.length_cons] at *
  omega
theorem zxg{x:DtCmd}(h:CmdD x):DtCmd.sz x≤200:=by
 obtain ⟨h1,h2,h3,h4,h5⟩:=h
 have:=sumZ_16 _ h5
 unfold DtCmd.sz szS
 omega
theorem zrp{x:DtInst}(h:InstD x):DtInst.sz x≤300:=by
 have:=zxg h.1
 have:=h.2
 unfold DtInst.sz
 omega
theorem cmdD_0:CmdD zeroCmd:=⟨by decide,by decide,by decide,by decide,by simp [zeroCmd]⟩
def mkA(l:List Int)(c2:Cur)(s:Int)(ds:List DtId):DtInst:=⟨(D1 l c2).x,below l 9 (D1 l c2).c-1,below l (below l 9 (D1 l c2).c) (belowS l 4 (belowS l 9 (D1 l c2).c)),1+below l 3 (belowS l (below l 9 (D1 l c2).c) (belowS l 4 (belowS l 9 (D1 l c2).c))),(S6 l (belowS l 3 (belowS l (below l 9 (D1 l c2).c) (belowS l 4 (belowS l 9 (D1 l c2).c))))).x,s,ds,decide (below l 2 (S6 l (belowS l 3 (belowS l (below l 9 (D1 l c2).c) (belowS l 4 (belowS l 9 (D1 l c2).c))))).c=0)⟩
def mkB(l:List Int)(c2:Cur):DtInst:=⟨(D1 l c2).x,below l 9 (D1 l c2).c-1,-1,0,zeroCmd,0,[],false⟩
def setBal(x:DtInst)(v:Int):DtInst:={ x with fBal:=v }
def setSt(x:DtInst)(v:Int):DtInst:={ x with fStatus:=v }
def setSeq(x:DtInst)(v:Int):DtInst:={ x with fSeq:=v }
theorem zxh{ls:List DtInst}(h:∀x∈ls,InstD x){k:Nat}{y:DtInst}(hy:InstD y):∀x∈ls.set k y,InstD x:=λx hx=>by
 rcases List.mem_or_eq_of_mem_set hx with hx | rfl
 ·exact h x hx
 ·exact hy
attribute [local simp] cmdO instO
def InstsE(l:List Int)(r:AV)(wos' fos:List OB):Prop:=∃(ls:List DtInst) (c':Cur),ls.length≤10∧(∀x∈ls,InstD x)∧r=.arr 16 0 ls.length∧wos'=[.cells (curC l c')]∧fos=[.own 16 (ls.map DtInst.cells)]
def zG36:=And.intro @zb4 (And.intro @gE (And.intro @tP (And.intro @and_assoc (And.intro @List.range_succ (And.intro @zbh (And.intro @zbv (And.intro @zcd (And.intro @zbb (And.intro @zbf (And.intro @setV_get (And.intro @znu @aAppZ_a)))))))))))
def zG37:=And.intro @zbt (And.intro @zbp @zb0)
theorem l8Insts(l:List Int)(hl:Code l)(c:Cur):XCallE Tryz.prog 85 [.ptr 8 0] [.cells (curC l c)] 1 (InstsE l):=by
 refine zdn Tryz.func85 (by rfl) (by rfl) (by rw [Tryz.ntmps85];exact Nat.le_of_ble_eq_true rfl) (by simp) rfl ?_
 rw [Tryz.ntmps85]
 refine AW_x1 (.cells (curC l c)) (by simp [cvO]<;>assumption) ?_
 refine AW_k [(0,_)] ⟨rfl,trivial⟩ ?_
 refine AW_x rfl rfl λK hK=>?_
 simp (disch:=omega) [zG36,cI,cS,cU,DtId.cells,DtCmd.cells,DtInst.cells,cmdO,instO,-aAppZ]
 repeat' first|(refine ⟨by omega,?_⟩)|(intro _)
 refine hK _ ?_;clear hK K
 refine AW_x rfl rfl λK hK=>?_
 simp (disch:=omega) [zG36,cI,cS,cU,DtId.cells,DtCmd.cells,DtInst.cells,cmdO,instO,-aAppZ]
 repeat' first|(refine ⟨by omega,?_⟩)|(simp (disch:=omega) [zG36,cI,cS,cU,DtId.cells,DtCmd.cells,DtInst.cells,cmdO,instO,-aAppZ])|(intro _)
 refine hK _ ?_;clear hK K
 refine zbj ?_
 refine AW_x rfl rfl λK hK=>?_
 simp (disch:=omega) [zG36,cI,cS,cU,DtId.cells,DtCmd.cells,DtInst.cells,cmdO,instO,-aAppZ]
 repeat' first|(exfalso;omega)|(refine zci (λ_=>xs_p (xs_g xs_z)) (zc7 l hl _ _) rfl rfl ?_;simp (disch:=omega) [zG36,cI,cS,cU,DtId.cells,DtCmd.cells,DtInst.cells,cmdO,instO,-aAppZ])|(refine ⟨by omega,?_⟩)|(simp (disch:=omega) [zG36,cI,cS,cU,DtId.cells,DtCmd.cells,DtInst.cells,cmdO,instO,-aAppZ])|(intro _)
 refine hK _ ?_;clear hK K
 refine zbl ?_
 have hb7:=zcv l 7 c
 refine zby (λmM sS=>∃(n:Nat) (ls:List DtInst) (c2:Cur),mM=2*n∧(n+ls.length≤6∧∀x∈ls,InstL x)∧sS = { env:=lkE [(0,.ptr 8 0),(3,.arr 501 0 ls.length),(4,(.g (.int .i64 ((n:Nat)))))],ob:=lk [(8,.cells (curC l c2)),(501,.own 16 (ls.map DtInst.cells))] }) ?_ ?_
 ·refine ⟨_,LeS.kx [(8,8),(501,176)] [(0,.ptr 8 0),(3,.arr 501 0 ([]).length),(4,(.g (.int .i64 ((((below l 7 c).toNat):Nat)))))] [(8,.cells (curC l (belowS l 7 c))),(501,.own 16 (([]).map DtInst.cells))] (by simp [zG37,KpR,renV2,renV,zbk,curC,zfx];try (first | rfl | omega)) (by simp [zG37,KpOX,renO,plO,cvO,renV,pl1,curC,zfx];try rfl) (by rfl) (by simp) (by simp) (by rfl) (by simp [formsX,List.range_succ,zbp,zb0]),_,(below l 7 c).toNat,[],belowS l 7 c,rfl,?_,rfl⟩
  ·exact ⟨by simp;omega,by simp⟩
 ·rintro mM sS ⟨n,ls,c2,rfl,⟨hnl,hd⟩,rfl⟩
  refine zbj ?_
  refine AW_x rfl rfl λK hK=>?_
  simp (disch:=omega) [zG36,cI,cS,cU,DtId.cells,DtCmd.cells,DtInst.cells,cmdO,instO,-aAppZ]
  repeat' first|(refine ⟨by omega,?_⟩)|(intro _)
  refine hK _ ?_;clear hK K
  refine zbm rfl (λhc1=>?_) (λhc1=>?_)
  ·try simp [zbb,zbf,zbe,zbd] at hc1
   all_goals
    have hb9:=zcv l 9 (D1 l c2).c
    have hbd:=zcv l 3 (belowS l (below l 9 (D1 l c2).c) (belowS l 4 (belowS l 9 (D1 l c2).c)))
    refine zbn ?_
    refine zbq ?_
    refine zbj ?_
    refine zbl ?_
    refine AW_x rfl rfl λK hK=>?_
    simp (disch:=omega) [zG36,cI,cS,cU,DtId.cells,DtCmd.cells,DtInst.cells,cmdO,instO,-aAppZ]
    repeat' first|(exfalso;omega)|(refine zci (λ_=>xs_p xs_z) (zzr l hl _) rfl rfl ?_;simp (disch:=omega) [zG36,cI,cS,cU,DtId.cells,DtCmd.cells,DtInst.cells,cmdO,instO,-aAppZ])|(refine ⟨λ_=>?_,λ_=>?_⟩)|(refine ⟨by omega,?_⟩)|(simp (disch:=omega) [zG36,cI,cS,cU,DtId.cells,DtCmd.cells,DtInst.cells,cmdO,instO,-aAppZ])|(intro _)
    all_goals (refine hK _ ?_;clear hK K)
    all_goals
     refine AW_d rfl mix (by kernel_rfl) (by kernel_rfl) λK hK=>?_
     simp (disch:=omega) [zG36,cI,cS,cU,DtId.cells,DtCmd.cells,DtInst.cells,cmdO,instO,-aAppZ]
     repeat' first|(exfalso;omega)|(refine zq7 (λ_=>xs_p (xs_g xs_z)) (zc7 l hl _ _) rfl rfl ?_;simp (disch:=omega) [zG36,cI,cS,cU,DtId.cells,DtCmd.cells,DtInst.cells,cmdO,instO,-aAppZ])|(refine ⟨by omega,?_⟩)|(simp (disch:=omega) [zG36,cI,cS,cU,DtId.cells,DtCmd.cells,DtInst.cells,cmdO,instO,-aAppZ])|(intro _)
     refine hK _ _ (by kernel_rfl) ?_;clear hK K
     refine zfk (λsS=>∃(x:DtInst) (c3:Cur),(InstL x)∧sS = { env:=lkE [(0,.ptr 8 0),(3,.arr 501 0 ls.length),(4,(.g (.int .i64 ((n:Nat))))),(6,.ptr 112 0)],ob:=lk [(8,.cells (curC l c3)),(501,.own 16 (ls.map DtInst.cells)),(112,.cells (instO x 502 503)),(502,.own 1 (x.fCmd.fChunks.map cS)),(503,.own 2 (x.fDeps.map DtId.cells))] }) ?_ ?_
     ·skip
      refine AW_x rfl rfl λK hK=>?_
      simp (disch:=omega) [zG36,cI,cS,cU,DtId.cells,DtCmd.cells,DtInst.cells,cmdO,instO,-aAppZ]
      repeat' first|(exfalso;omega)|(refine zci (λ_=>xs_p (xs_g xs_z)) (zkc l hl _ _) rfl rfl ?_;simp (disch:=omega) [zG36,cI,cS,cU,DtId.cells,DtCmd.cells,DtInst.cells,cmdO,instO,-aAppZ])|(refine ⟨λ_=>?_,λ_=>?_⟩)|(refine ⟨by omega,?_⟩)|(simp (disch:=omega) [zG36,cI,cS,cU,DtId.cells,DtCmd.cells,DtInst.cells,cmdO,instO,-aAppZ])|(intro _)
      all_goals (refine hK _ ?_;clear hK K)
      all_goals
       refine zbm rfl (λhc2=>?_) (λhc2=>?_)
       ·try simp [zbb,zbf,zbe,zbd] at hc2
        all_goals
         refine AW_x rfl rfl λK hK=>?_
         simp (disch:=omega) [zG36,cI,cS,cU,DtId.cells,DtCmd.cells,DtInst.cells,cmdO,instO,-aAppZ]
         repeat' first|(exfalso;omega)|(refine zci (λ_=>xs_p (xs_g xs_z)) (zc7 l hl _ _) rfl rfl ?_;simp (disch:=omega) [zG36,cI,cS,cU,DtId.cells,DtCmd.cells,DtInst.cells,cmdO,instO,-aAppZ])|(refine ⟨λ_=>?_,λ_=>?_⟩)|(refine ⟨by omega,?_⟩)|(simp (disch:=omega) [zG36,cI,cS,cU,DtId.cells,DtCmd.cells,DtInst.cells,cmdO,instO,-aAppZ])|(intro _)
         all_goals (refine hK _ ?_;clear hK K)
         all_goals
          refine AW_x rfl rfl λK hK=>?_
          simp (disch:=omega) [zG36,cI,cS,cU,DtId.cells,DtCmd.cells,DtInst.cells,cmdO,instO,-aAppZ]
          repeat' first|(exfalso;omega)|(refine zci (λ_=>xs_p (xs_g xs_z)) (zc7 l hl _ _) rfl rfl ?_;simp (disch:=omega) [zG36,cI,cS,cU,DtId.cells,DtCmd.cells,DtInst.cells,cmdO,instO,-aAppZ])|(refine ⟨by omega,?_⟩)|(simp (disch:=omega) [zG36,cI,cS,cU,DtId.cells,DtCmd.cells,DtInst.cells,cmdO,instO,-aAppZ])|(intro _)
          refine hK _ ?_;clear hK K
          refine AW_x rfl rfl λK hK=>?_
          simp (disch:=omega) [zG36,cI,cS,cU,DtId.cells,DtCmd.cells,DtInst.cells,cmdO,instO,-aAppZ]
          repeat' first|(exfalso;omega)|(refine XKd_cur1 (λ_=>xs_p xs_z) (l4Right l hl _) rfl rfl (by simp [zG37,nmC,updL]) ?_;simp (disch:=omega) [zG36,cI,cS,cU,DtId.cells,DtCmd.cells,DtInst.cells,cmdO,instO,-aAppZ])|(refine ⟨by omega,?_⟩)|(simp (disch:=omega) [zG36,cI,cS,cU,DtId.cells,DtCmd.cells,DtInst.cells,cmdO,instO,-aAppZ])|(intro _)
          refine hK _ ?_;clear hK K
          refine AW_x rfl rfl λK hK=>?_
          simp (disch:=omega) [zG36,cI,cS,cU,DtId.cells,DtCmd.cells,DtInst.cells,cmdO,instO,-aAppZ]
          repeat' first|(exfalso;omega)|(refine zv5 [] true [] (l8Attrs ls (D1 l c2).x (S6 l (belowS l 3 (belowS l (below l 9 (D1 l c2).c) (belowS l 4 (belowS l 9 (D1 l c2).c))))).x (by omega) (Int.le_trans (zxg (S_bd l _).1) (by omega)) (λx hx=>Int.le_trans (zxg (hd x hx).1) (by omega))) ?_ ?_ ?_;(focus (simp [List.range_succ,nmC];done));(focus (simp (disch:=omega) [zG36,cI,cS,cU,DtId.cells,DtCmd.cells,DtInst.cells,cmdO,instO,-aAppZ];done));rintro _ _ _ ⟨s,ds,hds,rfl,rfl,rfl⟩;refine ⟨⟨by first | rfl|(simp;done),by first | rfl|(simp;done)⟩,?_⟩;simp (disch:=omega) [zG36,cI,cS,cU,DtId.cells,DtCmd.cells,DtInst.cells,cmdO,instO,-aAppZ])|(refine ⟨by omega,?_⟩)|(simp (disch:=omega) [zG36,cI,cS,cU,DtId.cells,DtCmd.cells,DtInst.cells,cmdO,instO,-aAppZ])|(intro _)
          refine hK _ ?_;clear hK K
          refine AW_x rfl rfl λK hK=>?_
          simp (disch:=omega) [zG36,cI,cS,cU,DtId.cells,DtCmd.cells,DtInst.cells,cmdO,instO,-aAppZ]
          repeat' first|(refine ⟨by omega,?_⟩)|(simp (disch:=omega) [zG36,cI,cS,cU,DtId.cells,DtCmd.cells,DtInst.cells,cmdO,instO,-aAppZ])|(intro _)
          refine hK _ ?_;clear hK K
          refine AW_x rfl rfl λK hK=>?_
          simp (disch:=omega) [zG36,cI,cS,cU,DtId.cells,DtCmd.cells,DtInst.cells,cmdO,instO,-aAppZ]
          repeat' first|(refine ⟨by omega,?_⟩)|(simp (disch:=omega) [zG36,cI,cS,cU,DtId.cells,DtCmd.cells,DtInst.cells,cmdO,instO,-aAppZ])|(intro _)
          refine hK _ ?_;clear hK K
          refine zcc rfl rfl λK hK=>?_
          simp (disch:=omega) [zG36,cI,cS,cU,DtId.cells,DtCmd.cells,DtInst.cells,cmdO,instO,-aAppZ]
          repeat' first|(exfalso;omega)|(refine zci (λ_=>xs_p (xs_g xs_z)) (zkc l hl _ _) rfl rfl ?_;simp (disch:=omega) [zG36,cI,cS,cU,DtId.cells,DtCmd.cells,DtInst.cells,cmdO,instO,-aAppZ])|(refine ⟨by omega,?_⟩)|(simp (disch:=omega) [zG36,cI,cS,cU,DtId.cells,DtCmd.cells,DtInst.cells,cmdO,instO,-aAppZ])|(intro _)
          refine hK _ ?_;clear hK K
          have hcur:True:=trivial
          refine ⟨_,LeS.kx [(8,8),(501,501),(112,112),(502,704),(503,816)] [(0,.ptr 8 0),(3,.arr 501 0 ls.length),(4,(.g (.int .i64 ((n:Nat))))),(6,.ptr 112 0)] [(8,.cells (curC l (belowS l 2 (S6 l (belowS l 3 (belowS l (below l 9 (D1 l c2).c) (belowS l 4 (belowS l 9 (D1 l c2).c))))).c))),(501,.own 16 (ls.map DtInst.cells)),(112,.cells (instO (mkA l c2 s ds) 502 503)),(502,.own 1 ((mkA l c2 s ds).fCmd.fChunks.map cS)),(503,.own 2 ((mkA l c2 s ds).fDeps.map DtId.cells))] (by simp [zG37,KpR,renV2,renV,zbk,curC,instO,cmdO,zeroCmd,mkA,mkB,hcur];try (first | rfl | omega)) (by simp [zG37,KpOX,renO,plO,cvO,renV,pl1,curC,instO,cmdO,zeroCmd,mkA,mkB,hcur];try rfl) (by rfl) (by simp) (by simp) (by rfl) (by simp [formsX,List.range_succ,zbp,zb0]),mkA l c2 s ds,belowS l 2 (S6 l (belowS l 3 (belowS l (below l 9 (D1 l c2).c) (belowS l 4 (belowS l 9 (D1 l c2).c))))).c,?_,rfl⟩
          ·first | exact ⟨(S_bd l _).1,by show ds.length≤50;omega⟩ | exact ⟨cmdD_0,by show ([]:List DtId).length≤50;decide⟩
       ·try simp [zbb,zbf,zbe,zbd] at hc2
        all_goals
         refine zbn ?_
         first | have hcur:(if below l 9 (D1 l c2).c<1 then belowS l 9 (D1 l c2).c else belowS l 4 (belowS l 9 (D1 l c2).c))=belowS l 9 (D1 l c2).c:=if_pos (by omega) | have hcur:(if below l 9 (D1 l c2).c<1 then belowS l 9 (D1 l c2).c else belowS l 4 (belowS l 9 (D1 l c2).c))=belowS l 4 (belowS l 9 (D1 l c2).c):=if_neg (by omega)
         refine ⟨_,LeS.trans (LeS.znc (cs:=[(.g (.int .i64 ((D1 l c2).x.fRep))),(.g (.int .i64 ((D1 l c2).x.fSlot))),(.g (.int .i64 (below l 9 (D1 l c2).c-1))),(.g (.int .i64 (-1))),(.g (.int .i64 (0))),(.g (.int .i64 (0))),(.g (.int .i64 (0))),(.g (.int .i64 (0))),.s [],.s [],.s [],(.g (.int .i64 (0))),.g (.slice none 0 0),(.g (.int .i64 (0))),.g (.slice none 0 0),(.g (.bool (false)))]) 502 1 112 12 (by simp [zG37,zbk]) (by simp [zG37,zbk,curC,instO,cmdO,zeroCmd,mkA,mkB,hcur]) (by rfl)) (LeS.trans (LeS.znc (cs:=[(.g (.int .i64 ((D1 l c2).x.fRep))),(.g (.int .i64 ((D1 l c2).x.fSlot))),(.g (.int .i64 (below l 9 (D1 l c2).c-1))),(.g (.int .i64 (-1))),(.g (.int .i64 (0))),(.g (.int .i64 (0))),(.g (.int .i64 (0))),(.g (.int .i64 (0))),.s [],.s [],.s [],(.g (.int .i64 (0))),.arr 502 0 0,(.g (.int .i64 (0))),.g (.slice none 0 0),(.g (.bool (false)))]) 503 2 112 14 (by simp [zG37,zbk]) (by simp [zG37,zbk,curC,instO,cmdO,zeroCmd,mkA,mkB,hcur]) (by rfl)) (LeS.kx [(8,8),(501,501),(112,112),(502,502),(503,503)] [(0,.ptr 8 0),(3,.arr 501 0 ls.length),(4,(.g (.int .i64 ((n:Nat))))),(6,.ptr 112 0)] [(8,.cells (curC l ((if below l 9 (D1 l c2).c<1 then belowS l 9 (D1 l c2).c else belowS l 4 (belowS l 9 (D1 l c2).c))))),(501,.own 16 (ls.map DtInst.cells)),(112,.cells (instO (mkB l c2) 502 503)),(502,.own 1 ((mkB l c2).fCmd.fChunks.map cS)),(503,.own 2 ((mkB l c2).fDeps.map DtId.cells))] (by simp [zG37,KpR,renV2,renV,zbk,curC,instO,cmdO,zeroCmd,mkA,mkB,hcur];try (first | rfl | omega)) (by simp [zG37,KpOX,renO,plO,cvO,renV,pl1,curC,instO,cmdO,zeroCmd,mkA,mkB,hcur];try rfl) (by rfl) (by simp) (by simp) (by rfl) (by simp [formsX,List.range_succ,zbp,zb0]))),mkB l c2,(if below l 9 (D1 l c2).c<1 then belowS l 9 (D1 l c2).c else belowS l 4 (belowS l 9 (D1 l c2).c)),?_,rfl⟩
         ·first | exact ⟨(S_bd l _).1,by show ds.length≤50;omega⟩ | exact ⟨cmdD_0,by show ([]:List DtId).length≤50;decide⟩
     ·rintro sS ⟨x,c3,hx,rfl⟩
      refine AW_x rfl rfl λK hK=>?_
      simp (disch:=omega) [zG36,cI,cS,cU,DtId.cells,DtCmd.cells,DtInst.cells,cmdO,instO,-aAppZ]
      repeat' first|(exfalso;omega)|(refine zcx (zbc (zbu rfl) zbi) (l8Inst x (Int.le_trans (zrp (zc0 hx)) (by omega))) rfl ?_;simp (disch:=omega) [zG36,cI,cS,cU,DtId.cells,DtCmd.cells,DtInst.cells,cmdO,instO,-aAppZ])|(refine zcy (l8Inst x (Int.le_trans (zrp (zc0 hx)) (by omega))) (by rfl) ?_ ?_;(focus (simp (disch:=omega) [zG36,cI,cS,cU,DtId.cells,DtCmd.cells,DtInst.cells,cmdO,instO,-aAppZ];done));simp (disch:=omega) [zG36,cI,cS,cU,DtId.cells,DtCmd.cells,DtInst.cells,cmdO,instO,-aAppZ])|(refine ⟨λ_=>?_,λ_=>?_⟩)|(refine ⟨by omega,?_⟩)|(simp (disch:=omega) [zG36,cI,cS,cU,DtId.cells,DtCmd.cells,DtInst.cells,cmdO,instO,-aAppZ])|(intro _)
      all_goals (refine hK _ ?_;clear hK K)
      all_goals
       refine zbm rfl (λhc3=>?_) (λhc3=>?_)
       ·try simp [zbb,zbf,zbe,zbd] at hc3
        all_goals
         refine zcc rfl rfl λK hK=>?_
         simp (disch:=omega) [zG36,cI,cS,cU,DtId.cells,DtCmd.cells,DtInst.cells,cmdO,instO,-aAppZ]
         repeat' first|(exfalso;omega)|(refine zv5 [501,502,503] false [] (l8Put ls x (by omega)) ?_ ?_ ?_;(focus (simp [List.range_succ,nmC];done));(focus (simp (disch:=omega) [zG36,cI,cS,cU,DtId.cells,DtCmd.cells,DtInst.cells,cmdO,instO,-aAppZ];done));rintro _ _ _ ⟨l',hl1,hl2,rfl,rfl,rfl⟩;refine ⟨⟨by first | rfl|(simp;done),by first | rfl|(simp;done)⟩,?_⟩;simp (disch:=omega) [zG36,cI,cS,cU,DtId.cells,DtCmd.cells,DtInst.cells,cmdO,instO,-aAppZ])|(refine ⟨λ_=>?_,λ_=>?_⟩)|(refine ⟨by omega,?_⟩)|(simp (disch:=omega) [zG36,cI,cS,cU,DtId.cells,DtCmd.cells,DtInst.cells,cmdO,instO,-aAppZ])|(intro _)
         all_goals (refine hK _ ?_;clear hK K)
         all_goals
          refine zbq ?_
          refine zcc rfl rfl λK hK=>?_
          simp (disch:=omega) [zG36,cI,cS,cU,DtId.cells,DtCmd.cells,DtInst.cells,cmdO,instO,-aAppZ]
          repeat' first|(refine ⟨by omega,?_⟩)|(intro _)
          refine hK _ ?_;clear hK K
          refine ⟨_,LeS.kx [(8,8),(501,1040)] [(0,.ptr 8 0),(3,.arr 501 0 (l').length),(4,(.g (.int .i64 (((n-1):Nat)))))] [(8,.cells (curC l (c3))),(501,.own 16 ((l').map DtInst.cells))] (by simp [zG37,KpR,renV2,renV,zbk,curC,zfx];try (first | rfl | omega)) (by simp [zG37,KpOX,renO,plO,cvO,renV,pl1,curC,zfx];try rfl) (by rfl) (by simp) (by simp) (by rfl) (by simp [formsX,List.range_succ,zbp,zb0]),_,?_,n-1,l',c3,rfl,?_,rfl⟩
          ·omega
          ·first | exact ⟨by omega,hd⟩ | exact ⟨by omega,λy hy=>by rcases hl2 y hy with h | rfl;exact hd y h;exact hx⟩
       ·try simp [zbb,zbf,zbe,zbd] at hc3
        all_goals
         refine zbn ?_
         refine zbq ?_
         refine zcc rfl rfl λK hK=>?_
         simp (disch:=omega) [zG36,cI,cS,cU,DtId.cells,DtCmd.cells,DtInst.cells,cmdO,instO,-aAppZ]
         repeat' first|(exfalso;omega)|(refine ⟨λ_=>?_,λ_=>?_⟩)|(refine ⟨by omega,?_⟩)|(simp (disch:=omega) [zG36,cI,cS,cU,DtId.cells,DtCmd.cells,DtInst.cells,cmdO,instO,-aAppZ])|(intro _)
         all_goals (refine hK _ ?_;clear hK K)
         all_goals
          refine ⟨_,LeS.kx [(8,8),(501,501)] [(0,.ptr 8 0),(3,.arr 501 0 (ls).length),(4,(.g (.int .i64 (((n-1):Nat)))))] [(8,.cells (curC l (c3))),(501,.own 16 ((ls).map DtInst.cells))] (by simp [zG37,KpR,renV2,renV,zbk,curC,zfx];try (first | rfl | omega)) (by simp [zG37,KpOX,renO,plO,cvO,renV,pl1,curC,zfx];try rfl) (by rfl) (by simp) (by simp) (by rfl) (by simp [formsX,List.range_succ,zbp,zb0]),_,?_,n-1,ls,c3,rfl,?_,rfl⟩
          ·omega
          ·first | exact ⟨by omega,hd⟩ | exact ⟨by omega,λy hy=>by rcases hl2 y hy with h | rfl;exact hd y h;exact hx⟩
  ·try simp [zbb,zbf,zbe,zbd] at hc1
   all_goals
    refine zb3 ?_
    refine zbq ?_
    refine zfk (λsS=>∃(ls2:List DtInst) (c3:Cur),(ls2.length≤10∧∀x∈ls2,InstD x)∧sS = { env:=lkE [(3,.arr 501 0 ls2.length)],ob:=lk [(8,.cells (curC l c3)),(501,.own 16 (ls2.map DtInst.cells))] }) ?_ ?_
    ·skip
     refine AW_x rfl rfl λK hK=>?_
     simp (disch:=omega) [zG36,cI,cS,cU,DtId.cells,DtCmd.cells,DtInst.cells,cmdO,instO,-aAppZ]
     repeat' first|(exfalso;omega)|(refine zci (λ_=>xs_p (xs_g xs_z)) (zkc l hl _ _) rfl rfl ?_;simp (disch:=omega) [zG36,cI,cS,cU,DtId.cells,DtCmd.cells,DtInst.cells,cmdO,instO,-aAppZ])|(refine ⟨λ_=>?_,λ_=>?_⟩)|(refine ⟨by omega,?_⟩)|(simp (disch:=omega) [zG36,cI,cS,cU,DtId.cells,DtCmd.cells,DtInst.cells,cmdO,instO,-aAppZ])|(intro _)
     all_goals (refine hK _ ?_;clear hK K)
     all_goals
      refine zbm rfl (λhc4=>?_) (λhc4=>?_)
      ·try simp [zbb,zbf,zbe,zbd] at hc4
       all_goals
        have hlp:0<ls.length:=by first | assumption | omega
        have hbk:=zcv l ls.length (belowS l 12 c2)
        refine AW_x rfl rfl λK hK=>?_
        simp (disch:=omega) [zG36,cI,cS,cU,DtId.cells,DtCmd.cells,DtInst.cells,cmdO,instO,-aAppZ]
        repeat' first|(exfalso;omega)|(refine zci (λ_=>xs_p (xs_g xs_z)) (zc7 l hl _ _) rfl rfl ?_;simp (disch:=omega) [zG36,cI,cS,cU,DtId.cells,DtCmd.cells,DtInst.cells,cmdO,instO,-aAppZ])|(refine ⟨λ_=>?_,λ_=>?_⟩)|(refine ⟨by omega,?_⟩)|(simp (disch:=omega) [zG36,cI,cS,cU,DtId.cells,DtCmd.cells,DtInst.cells,cmdO,instO,-aAppZ])|(intro _)
        all_goals (refine hK _ ?_;clear hK K)
        all_goals
         obtain ⟨k,hk⟩:∃k:Nat,below l ls.length (belowS l 12 c2)=k:=⟨_,(Int.toNat_of_nonneg hbk.1).symm⟩
         simp only [hk]
         have hkl:k<ls.length:=by have:=hbk.2 (by omega);omega
         refine AW_x rfl rfl λK hK=>?_
         simp (disch:=omega) [zG36,cI,cS,cU,DtId.cells,DtCmd.cells,DtInst.cells,cmdO,instO,-aAppZ]
         repeat' first|(exfalso;omega)|(refine zci (λ_=>xs_p (xs_g xs_z)) (zc7 l hl _ _) rfl rfl ?_;simp (disch:=omega) [zG36,cI,cS,cU,DtId.cells,DtCmd.cells,DtInst.cells,cmdO,instO,-aAppZ])|(refine ⟨by omega,?_⟩)|(simp (disch:=omega) [zG36,cI,cS,cU,DtId.cells,DtCmd.cells,DtInst.cells,cmdO,instO,-aAppZ])|(intro _)
         refine hK _ ?_;clear hK K
         refine zbl ?_
         refine AW_x rfl rfl λK hK=>?_
         simp (disch:=omega) [zG36,cI,cS,cU,DtId.cells,DtCmd.cells,DtInst.cells,cmdO,instO,-aAppZ]
         repeat' first|(refine ⟨by omega,?_⟩)|(intro _)
         refine hK _ ?_;clear hK K
         refine zbm rfl (λhc5=>?_) (λhc5=>?_)
         ·try simp [zbb,zbf,zbe,zbd] at hc5
          all_goals
           refine zcc rfl rfl λK hK=>?_
           simp (disch:=omega) [zG36,cI,cS,cU,DtId.cells,DtCmd.cells,DtInst.cells,cmdO,instO,-aAppZ]
           repeat' first|(exfalso;omega)|(first | refine zdd (λ_=>xs_p (xs_a xs_z)) (zhk l hl _ [-2,600,601] (by simp)) rfl rfl rfl (by decide) rfl ?_ | refine zdd (λ_=>xs_p (xs_a xs_z)) (zhk l hl _ [-1,60,61] (by simp)) rfl rfl rfl (by decide) rfl ?_;simp (disch:=omega) [zG36,cI,cS,cU,DtId.cells,DtCmd.cells,DtInst.cells,cmdO,instO,-aAppZ])|(refine ⟨λ_=>?_,λ_=>?_⟩)|(refine ⟨by omega,?_⟩)|(simp (disch:=omega) [zG36,cI,cS,cU,DtId.cells,DtCmd.cells,DtInst.cells,cmdO,instO,-aAppZ])|(intro _)
           all_goals (refine hK _ ?_;clear hK K)
           all_goals
            have hcur:True:=trivial
            have hlz:True:=trivial
            have hcz:True:=trivial
            refine ⟨_,LeS.kx [(8,8),(501,501)] [(3,.arr 501 0 (ls.set k (setBal ls[k] (pickZ [-2,600,601] (below l 3 (belowS l 4 (belowS l ls.length (belowS l 12 c2))))))).length)] [(8,.cells (curC l (belowS l 3 (belowS l 4 (belowS l ls.length (belowS l 12 c2)))))),(501,.own 16 ((ls.set k (setBal ls[k] (pickZ [-2,600,601] (below l 3 (belowS l 4 (belowS l ls.length (belowS l 12 c2))))))).map DtInst.cells))] (by simp [zG37,KpR,renV2,renV,zbk,curC,hcur,hlz,hcz];try (first | with_reducible rfl | omega|(simp;done))) (by simp [zG37,KpOX,renO,plO,cvO,renV,pl1,curC,hcur,hlz,hcz];try (first | with_reducible rfl | exact congrArg (List.set _ _) rfl | trace_state)) (by rfl) (by simp) (by simp) (by rfl) (by simp [formsX,List.range_succ,zbp,zb0]),ls.set k (setBal ls[k] (pickZ [-2,600,601] (below l 3 (belowS l 4 (belowS l ls.length (belowS l 12 c2)))))),belowS l 3 (belowS l 4 (belowS l ls.length (belowS l 12 c2))),?_,rfl⟩
            ·first | exact hdz | exact ⟨by omega,λx hx=>zc0 (hd x hx)⟩ | exact ⟨by simp;omega,zxh (λx hx=>zc0 (hd x hx)) (by have:=zc0 (hd ls[k] (List.getElem_mem _));exact this)⟩
         ·try simp [zbb,zbf,zbe,zbd] at hc5
          all_goals
           refine AW_x rfl rfl λK hK=>?_
           simp (disch:=omega) [zG36,cI,cS,cU,DtId.cells,DtCmd.cells,DtInst.cells,cmdO,instO,-aAppZ]
           repeat' first|(exfalso;omega)|(refine ⟨λ_=>?_,λ_=>?_⟩)|(refine ⟨by omega,?_⟩)|(simp (disch:=omega) [zG36,cI,cS,cU,DtId.cells,DtCmd.cells,DtInst.cells,cmdO,instO,-aAppZ])|(intro _)
           all_goals (refine hK _ ?_;clear hK K)
           all_goals
            refine zbm rfl (λhc6=>?_) (λhc6=>?_)
            ·try simp [zbb,zbf,zbe,zbd] at hc6
             all_goals
              refine zcc rfl rfl λK hK=>?_
              simp (disch:=omega) [zG36,cI,cS,cU,DtId.cells,DtCmd.cells,DtInst.cells,cmdO,instO,-aAppZ]
              repeat' first|(exfalso;omega)|(refine zci (λ_=>xs_p (xs_g xs_z)) (zc7 l hl _ _) rfl rfl ?_;simp (disch:=omega) [zG36,cI,cS,cU,DtId.cells,DtCmd.cells,DtInst.cells,cmdO,instO,-aAppZ])|(refine ⟨λ_=>?_,λ_=>?_⟩)|(refine ⟨by omega,?_⟩)|(simp (disch:=omega) [zG36,cI,cS,cU,DtId.cells,DtCmd.cells,DtInst.cells,cmdO,instO,-aAppZ])|(intro _)
              all_goals (refine hK _ ?_;clear hK K)
              all_goals
               have hcur:True:=trivial
               have hlz:True:=trivial
               have hcz:True:=trivial
               refine ⟨_,LeS.kx [(8,8),(501,501)] [(3,.arr 501 0 (ls.set k (setSt ls[k] (below l 5 (belowS l 4 (belowS l ls.length (belowS l 12 c2)))))).length)] [(8,.cells (curC l (belowS l 5 (belowS l 4 (belowS l ls.length (belowS l 12 c2)))))),(501,.own 16 ((ls.set k (setSt ls[k] (below l 5 (belowS l 4 (belowS l ls.length (belowS l 12 c2)))))).map DtInst.cells))] (by simp [zG37,KpR,renV2,renV,zbk,curC,hcur,hlz,hcz];try (first | with_reducible rfl | omega|(simp;done))) (by simp [zG37,KpOX,renO,plO,cvO,renV,pl1,curC,hcur,hlz,hcz];try (first | with_reducible rfl | exact congrArg (List.set _ _) rfl | trace_state)) (by rfl) (by simp) (by simp) (by rfl) (by simp [formsX,List.range_succ,zbp,zb0]),ls.set k (setSt ls[k] (below l 5 (belowS l 4 (belowS l ls.length (belowS l 12 c2))))),belowS l 5 (belowS l 4 (belowS l ls.length (belowS l 12 c2))),?_,rfl⟩
               ·first | exact hdz | exact ⟨by omega,λx hx=>zc0 (hd x hx)⟩ | exact ⟨by simp;omega,zxh (λx hx=>zc0 (hd x hx)) (by have:=zc0 (hd ls[k] (List.getElem_mem _));exact this)⟩
            ·try simp [zbb,zbf,zbe,zbd] at hc6
             all_goals
              refine AW_x rfl rfl λK hK=>?_
              simp (disch:=omega) [zG36,cI,cS,cU,DtId.cells,DtCmd.cells,DtInst.cells,cmdO,instO,-aAppZ]
              repeat' first|(exfalso;omega)|(refine ⟨λ_=>?_,λ_=>?_⟩)|(refine ⟨by omega,?_⟩)|(simp (disch:=omega) [zG36,cI,cS,cU,DtId.cells,DtCmd.cells,DtInst.cells,cmdO,instO,-aAppZ])|(intro _)
              all_goals (refine hK _ ?_;clear hK K)
              all_goals
               refine zbm rfl (λhc7=>?_) (λhc7=>?_)
               ·try simp [zbb,zbf,zbe,zbd] at hc7
                all_goals
                 refine zcc rfl rfl λK hK=>?_
                 simp (disch:=omega) [zG36,cI,cS,cU,DtId.cells,DtCmd.cells,DtInst.cells,cmdO,instO,-aAppZ]
                 repeat' first|(exfalso;omega)|(first | refine zdd (λ_=>xs_p (xs_a xs_z)) (zhk l hl _ [-2,600,601] (by simp)) rfl rfl rfl (by decide) rfl ?_ | refine zdd (λ_=>xs_p (xs_a xs_z)) (zhk l hl _ [-1,60,61] (by simp)) rfl rfl rfl (by decide) rfl ?_;simp (disch:=omega) [zG36,cI,cS,cU,DtId.cells,DtCmd.cells,DtInst.cells,cmdO,instO,-aAppZ])|(refine ⟨λ_=>?_,λ_=>?_⟩)|(refine ⟨by omega,?_⟩)|(simp (disch:=omega) [zG36,cI,cS,cU,DtId.cells,DtCmd.cells,DtInst.cells,cmdO,instO,-aAppZ])|(intro _)
                 all_goals (refine hK _ ?_;clear hK K)
                 all_goals
                  have hcur:True:=trivial
                  have hlz:True:=trivial
                  have hcz:True:=trivial
                  refine ⟨_,LeS.kx [(8,8),(501,501)] [(3,.arr 501 0 (ls.set k (setSeq ls[k] (pickZ [-1,60,61] (below l 3 (belowS l 4 (belowS l ls.length (belowS l 12 c2))))))).length)] [(8,.cells (curC l (belowS l 3 (belowS l 4 (belowS l ls.length (belowS l 12 c2)))))),(501,.own 16 ((ls.set k (setSeq ls[k] (pickZ [-1,60,61] (below l 3 (belowS l 4 (belowS l ls.length (belowS l 12 c2))))))).map DtInst.cells))] (by simp [zG37,KpR,renV2,renV,zbk,curC,hcur,hlz,hcz];try (first | with_reducible rfl | omega|(simp;done))) (by simp [zG37,KpOX,renO,plO,cvO,renV,pl1,curC,hcur,hlz,hcz];try (first | with_reducible rfl | exact congrArg (List.set _ _) rfl | trace_state)) (by rfl) (by simp) (by simp) (by rfl) (by simp [formsX,List.range_succ,zbp,zb0]),ls.set k (setSeq ls[k] (pickZ [-1,60,61] (below l 3 (belowS l 4 (belowS l ls.length (belowS l 12 c2)))))),belowS l 3 (belowS l 4 (belowS l ls.length (belowS l 12 c2))),?_,rfl⟩
                  ·first | exact hdz | exact ⟨by omega,λx hx=>zc0 (hd x hx)⟩ | exact ⟨by simp;omega,zxh (λx hx=>zc0 (hd x hx)) (by have:=zc0 (hd ls[k] (List.getElem_mem _));exact this)⟩
               ·try simp [zbb,zbf,zbe,zbd] at hc7
                all_goals
                 refine ztm 501 901 (us:=ls) (by simp [zG37,updL]) (by simp [zG37,updL]) λzs hz hone=>?_
                 subst hz
                 have hkz:k<zs.length:=by simpa using hkl
                 have hdk:zs[k].1.fDeps.length≤50:=(hd _ (List.mem_map.2 ⟨zs[k],List.getElem_mem _,rfl⟩)).2
                 refine zg2 (LeS.unpark 501 901 902 (s:=2) (sz:=16) (k:=k) (j:=14) (xs:=zs.map instV) (ys:=zs[k].1.fDeps.map DtId.cells) (x:=instV zs[k]) (v:=zs[k].2 14) (ps1:=(zs.take k).flatMap instP++[(.sl 1 (zs[k].1.fCmd.fChunks.map cS),zs[k].2 12)]) (ps2:=(zs.drop (k+1)).flatMap instP) (by simp [zG37,updL]) (by simp only [zbt];simp;rw [fm_atI zs k hkz];simp) (by simp [zG37,updL]) (by simp [hkz]) (by simp [znu])) ?_
                 refine zq6 rfl mix (by kernel_rfl) (by kernel_rfl) λK hK=>?_
                 simp (disch:=omega) [zG36,cI,cS,cU,DtId.cells,DtCmd.cells,DtInst.cells,cmdO,instO,-aAppZ]
                 repeat' first|(exfalso;omega)|(refine zq7 (λ_=>xs_p xs_z) (zzr l hl _) rfl rfl ?_;simp (disch:=omega) [zG36,cI,cS,cU,DtId.cells,DtCmd.cells,DtInst.cells,cmdO,instO,-aAppZ])|(refine ⟨λ_=>?_,λ_=>?_⟩)|(refine ⟨by omega,?_⟩)|(simp (disch:=omega) [zG36,cI,cS,cU,DtId.cells,DtCmd.cells,DtInst.cells,cmdO,instO,-aAppZ])|(intro _)
                 all_goals (refine hK _ _ (by kernel_rfl) ?_;clear hK K)
                 all_goals
                  have hcur:True:=trivial
                  obtain ⟨lz,hlz⟩:∃lz,lz=(zs.map (·.1)).set k (setDeps zs[k].1 (zs[k].1.fDeps++[(D1 l (belowS l 4 (belowS l (zs.map (·.1)).length (belowS l 12 c2)))).x])):=⟨_,rfl⟩
                  obtain ⟨cz,hcz⟩:∃cz,cz=(D1 l (belowS l 4 (belowS l (zs.map (·.1)).length (belowS l 12 c2)))).c:=⟨_,rfl⟩
                  have hdz:lz.length≤10∧∀x∈lz,InstD x:=by
                   rw [hlz]
                   refine ⟨by simp;simp at hnl;omega,zxh (λx hx=>zc0 (hd x hx)) ?_⟩
                   have hq:=hd zs[k].1 (List.mem_map.2 ⟨zs[k],List.getElem_mem _,rfl⟩)
                   refine ⟨hq.1,?_⟩
                   show (zs[k].1.fDeps++[_]).length≤100
                   rw [List.length_append]
                   have:=hdk
                   simp only [List.length_cons,List.length_nil]
                   omega
                  refine ⟨_,LeS.trans (LeS_closeW 501 901 1424 k (zs:=zs) (ds:=zs[k].1.fDeps++[(D1 l (belowS l 4 (belowS l (zs.map (·.1)).length (belowS l 12 c2)))).x]) hkz (by decide) (by decide) (by decide) (by simp [zG37,updL,znu]) (by simp [zG37,updL]) (by simp [zG37,updL,DtId.cells])) (LeS.kx [(8,8),(501,501)] [(3,.arr 501 0 (lz).length)] [(8,.cells (curC l (cz))),(501,.own 16 ((lz).map DtInst.cells))] (by simp [zG37,KpR,renV2,renV,zbk,curC,hcur,hlz,hcz];try (first | with_reducible rfl | omega|(simp;done))) (by simp [zG37,KpOX,renO,plO,cvO,renV,pl1,curC,hcur,hlz,hcz];try (first | with_reducible rfl | exact congrArg (List.set _ _) rfl | trace_state)) (by rfl) (by simp) (by simp) (by rfl) (by simp [formsX,List.range_succ,zbp,zb0])),lz,cz,?_,rfl⟩
                  ·first | exact hdz | exact ⟨by omega,λx hx=>zc0 (hd x hx)⟩ | exact ⟨by simp;omega,zxh (λx hx=>zc0 (hd x hx)) (by have:=zc0 (hd ls[k] (List.getElem_mem _));exact this)⟩
      ·try simp [zbb,zbf,zbe,zbd] at hc4
       all_goals
        refine zbn ?_
        first | have hE:∃cz,cz=c2∧ls=[]:=⟨c2,rfl,by assumption⟩ | have hE:∃cz,cz=belowS l 12 c2∧True:=⟨_,rfl,trivial⟩
        obtain ⟨cz,hcz,-⟩:=hE
        have hlz:True:=trivial
        have hcur:True:=trivial
        refine ⟨_,LeS.kx [(8,8),(501,501)] [(3,.arr 501 0 (ls).length)] [(8,.cells (curC l (cz))),(501,.own 16 ((ls).map DtInst.cells))] (by simp [zG37,KpR,renV2,renV,zbk,curC,hcur,hlz,hcz];try (first | with_reducible rfl | omega|(simp;done))) (by simp [zG37,KpOX,renO,plO,cvO,renV,pl1,curC,hcur,hlz,hcz];try (first | with_reducible rfl | exact congrArg (List.set _ _) rfl | trace_state)) (by rfl) (by simp) (by simp) (by rfl) (by simp [formsX,List.range_succ,zbp,zb0]),ls,cz,?_,rfl⟩
        ·first | exact hdz | exact ⟨by omega,λx hx=>zc0 (hd x hx)⟩ | exact ⟨by simp;omega,zxh (λx hx=>zc0 (hd x hx)) (by have:=zc0 (hd ls[k] (List.getElem_mem _));exact this)⟩
    ·rintro sS ⟨ls2,c3,⟨hl2,hd2⟩,rfl⟩
     refine AW_x rfl rfl λK hK=>?_
     simp (disch:=omega) [zG36,cI,cS,cU,DtId.cells,DtCmd.cells,DtInst.cells,cmdO,instO,-aAppZ]
     repeat' first|(exfalso;omega)|(refine ⟨λ_=>?_,λ_=>?_⟩)|(refine ⟨by omega,?_⟩)|(simp (disch:=omega) [zG36,cI,cS,cU,DtId.cells,DtCmd.cells,DtInst.cells,cmdO,instO,-aAppZ])|(intro _)
     all_goals (refine hK _ ?_;clear hK K)
     all_goals
      refine zqx (.arr 16 0 ls2.length) [.cells (curC l c3)] [.own 16 (ls2.map DtInst.cells)] ?po (by simp) (by simp) (by simp [OB.xk]) (zc2 [501] [] (by simp [zG37,List.range_succ]) (by simp) ?en)
      case en =>
       simp (disch:=omega) [zG36,cI,cS,cU,DtId.cells,DtCmd.cells,DtInst.cells,cmdO,instO,-aAppZ]
       all_goals trace_state
      case po=>exact ⟨ls2,c3,hl2,hd2,rfl,rfl,rfl⟩
end Go.Proofs.YtodmafgmdlkhoaaGreat.Vs
end
