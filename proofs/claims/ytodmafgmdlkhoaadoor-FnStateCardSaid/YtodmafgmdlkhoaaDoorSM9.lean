import Derived.Test.YtodmafgmdlkhoaaDoorSM8
section
namespace Go.Proofs.YtodmafgmdlkhoaaDoor.Vs
set_option linter.all false
set_option maxRecDepth 100000
set_option maxHeartbeats 2000000
noncomputable def txsI:Nat→List (List UInt8) × Sc→List (List UInt8) × Sc
 | 0,s=>s
 | n+1,s=>txsI n (s.1++[(textI s.2).1],(textI s.2).2)
noncomputable def snapI(x:Sc):DtCSnap × Sc :=
 (⟨(textI x).1,(textI (textI x).2).1,(txsI (manyI 4 (textI (textI x).2).2).1.toNat ([],(manyI 4 (textI (textI x).2).2).2)).1⟩,(txsI (manyI 4 (textI (textI x).2).2).1.toNat ([],(manyI 4 (textI (textI x).2).2).2)).2)
theorem cutI_len(n:Int)(x:Sc):(cutI n x).2.1.length≤x.1.length:=by
 unfold cutI
 split
 ·exact Nat.le_refl _
 ·simp
theorem zdv(x:Sc):(textI x).2.1.length≤x.1.length:=Nat.le_trans (cutI_len _ _) (zgp x)
theorem zge(m:Int)(x:Sc):(manyI m x).2.1.length≤x.1.length:=by
 have:=zgp x
 unfold manyI
 split
 ·exact this
 ·exact this
theorem numI_bd(x:Sc):0≤(numI x).1∧(numI x).1≤562949953421311:=by
 have:=RV_bd x.1
 unfold numI
 split
 ·simp
 ·exact ⟨this.1,this.2.1⟩
theorem zlm{m:Int}(h:0≤m)(x:Sc):0≤(manyI m x).1∧(manyI m x).1≤m:=by
 have:=numI_bd x
 unfold manyI
 split
 ·simp [h]
 ·rename_i hn
  exact ⟨this.1,by show (numI x).1≤m;omega⟩
theorem zxt:∀(n:Nat) (s:List (List UInt8) × Sc),(txsI n s).2.1.length≤s.2.1.length
 | 0,s=>Nat.le_refl _
 | n+1,s=>by
  rw [txsI]
  exact Nat.le_trans (zxt n _) (zdv s.2)
theorem zsw(x:Sc):(snapI x).2.1.length≤x.1.length:=by
 unfold snapI
 have h1:=zdv x
 have h2:=zdv (textI x).2
 have h3:=zge 4 (textI (textI x).2).2
 have h4:=zxt (manyI 4 (textI (textI x).2).2).1.toNat ([],(manyI 4 (textI (textI x).2).2).2)
 simp only at h4 ⊢
 omega
attribute [local simp] scC
theorem zg9(x:Sc)(hs:x.1.length≤1048576):XCall Tryd.prog 23 [.ptr 8 0] [.cells [.s x.1,(.g (.bool (x.2)))]] (.s (textI x).1) [.cells (scC (textI x).2)] []:=scanText x.1 x.2 hs
theorem zju(m:Int)(x:Sc)(hs:x.1.length≤1048576):XCall Tryd.prog 20 [.ptr 8 0,(.g (.int .i64 (m)))] [.cells [.s x.1,(.g (.bool (x.2)))]] (.g (.int .i64 ((manyI m x).1))) [.cells (scC (manyI m x).2)] []:=scanMany x.1 x.2 m hs
def zG30:=And.intro @zcj (And.intro @gE (And.intro @tP (And.intro @zb3 (And.intro @and_assoc (And.intro @List.range_succ (And.intro @zbv (And.intro @zbk @zbl)))))))
def zG31:=And.intro @zbr (And.intro @zbz @zce)
def zG32:=And.intro @zbk @zbl
theorem scanSnap(x:Sc)(hs:x.1.length≤1048576):XCall Tryd.prog 42 [.ptr 8 0] [.cells [.s x.1,(.g (.bool (x.2)))]] (.agg [.s (snapI x).1.fName,.s (snapI x).1.fTag,.arr 16 0 (snapI x).1.fChunks.length]) [.cells (scC (snapI x).2)] [.own 1 ((snapI x).1.fChunks.map cS)]:=by
 have ht1:=zg9 x hs
 have hl1:=zdv x
 have ht2:=zg9 (textI x).2 (by omega)
 have hl2:=zdv (textI x).2
 have hm1:=zju 4 (textI (textI x).2).2 (by omega)
 have hl3:=zge 4 (textI (textI x).2).2
 have hb3:=zlm (m:=4) (by omega) (textI (textI x).2).2
 have hsn:snapI x=(⟨(textI x).1,(textI (textI x).2).1,(txsI (manyI 4 (textI (textI x).2).2).1.toNat ([],(manyI 4 (textI (textI x).2).2).2)).1⟩,(txsI (manyI 4 (textI (textI x).2).2).1.toNat ([],(manyI 4 (textI (textI x).2).2).2)).2):=rfl
 obtain ⟨a,y1,e1⟩:∃a y1,textI x=(a,y1):=⟨_,_,rfl⟩
 simp only [e1] at ht1 ht2 hm1 hl1 hl2 hl3 hb3 hsn
 obtain ⟨b2,y2,e2⟩:∃a y,textI y1=(a,y):=⟨_,_,rfl⟩
 simp only [e2] at ht2 hm1 hl2 hl3 hb3 hsn
 obtain ⟨K,y3,e3⟩:∃a y,manyI 4 y2=(a,y):=⟨_,_,rfl⟩
 simp only [e3] at hm1 hl3 hb3 hsn
 rw [hsn]
 refine zbq Tryd.func42 (by rfl) (by rfl) (by rw [Tryd.ntmps42];exact Nat.le_of_ble_eq_true rfl) rfl (by simp) rfl rfl ?_
 rw [Tryd.ntmps42]
 refine zhn (.cells [.s x.1,(.g (.bool (x.2)))]) (by simp [cvO]<;>assumption) ?_
 refine AW_k [(0,_)] ⟨rfl,trivial⟩ ?_
 refine AW_x rfl rfl λK hK=>?_
 simp (disch:=omega) [zG30,cS,scC]
 refine hK _ ?_;clear hK K
 refine AW_x rfl rfl λK hK=>?_
 simp (disch:=omega) [zG30,cS,scC]
 repeat' first|(refine zch [8] false [] (ht1) ?_ ?_ ?_;(focus (simp [List.range_succ,nmC];done));(focus (simp (disch:=omega) [zG30,cS,scC];done));simp (disch:=omega) [zG30,cS,scC]) | fail
 refine hK _ ?_;clear hK K
 refine AW_x rfl rfl λK hK=>?_
 simp (disch:=omega) [zG30,cS,scC]
 repeat' first|(refine zch [8] false [] (ht2) ?_ ?_ ?_;(focus (simp [List.range_succ,nmC];done));(focus (simp (disch:=omega) [zG30,cS,scC];done));simp (disch:=omega) [zG30,cS,scC]) | fail
 refine hK _ ?_;clear hK K
 refine AW_x rfl rfl λK hK=>?_
 simp (disch:=omega) [zG30,cS,scC]
 repeat' first|(refine zch [8] false [] (hm1) ?_ ?_ ?_;(focus (simp [List.range_succ,nmC];done));(focus (simp (disch:=omega) [zG30,cS,scC];done));simp (disch:=omega) [zG30,cS,scC]) | fail
 refine hK _ ?_;clear hK K
 refine zbe ?_
 refine AW_x rfl rfl λK hK=>?_
 simp (disch:=omega) [zG30,cS,scC]
 refine hK _ ?_;clear hK K
 refine zbi ?_
 refine zbt (λmM sS=>∃(i:Nat) (l:List (List UInt8)) (y:Sc),mM=K.toNat-i∧((i:Int)≤K∧l.length=i∧txsI (K.toNat-i) (l,y)=txsI K.toNat ([],y3)∧y.1.length≤1048576)∧sS = { env:=lkE [(0,.ptr 8 0),(2,.ptr 48 0),(3,.ptr 64 0),(14,(.g (.int .i64 (K)))),(15,(.g (.int .i64 ((i:Nat)))))],ob:=lk [(8,.cells (scC y)),(48,.cells [.s [],.s [],.g (.slice none 0 0)]),(64,.cells [.s a,.s b2,.arr 500 0 l.length]),(500,.own 1 (l.map cS))] }) ?_ ?_
 ·refine ⟨_,LeS.trans (LeS.znc (cs:=[.s a,.s b2,.g (.slice none 0 0)]) 500 1 64 2 (by simp [zG31,zbj]) (by simp [zG31,zbj,cS]) (by rfl)) (LeS.kx [(8,8),(48,48),(64,64),(500,500)] [(0,.ptr 8 0),(2,.ptr 48 0),(3,.ptr 64 0),(14,(.g (.int .i64 (K)))),(15,(.g (.int .i64 (((0):Nat)))))] [(8,.cells (scC (y3))),(48,.cells [.s [],.s [],.g (.slice none 0 0)]),(64,.cells [.s a,.s b2,.arr 500 0 ([]).length]),(500,.own 1 (([]).map cS))] (by simp [zG31,KpR,renV2,renV,zbj,cS]) (by simp [zG31,KpOX,renO,plO,cvO,renV,pl1,cS];try trace_state) (by rfl) (by simp) (by simp) (by rfl) (by simp [formsX,List.range_succ,zbr,zbz])),_,0,[],y3,rfl,?_,rfl⟩
  ·exact ⟨by omega,rfl,rfl,by omega⟩
 ·rintro mM sS ⟨i,l,y,rfl,⟨hiK,hli,htx,hy⟩,rfl⟩
  refine AW_x rfl rfl λK hK=>?_
  simp (disch:=omega) [zG30,cS,scC]
  refine hK _ ?_;clear hK K
  refine zbe ?_
  refine zbg rfl (λhc1=>?_) (λhc1=>?_)
  ·try simp [zG32,zbc,zba] at hc1
   refine zbh ?_
   refine zbm ?_
   refine zbe ?_
   refine zbi ?_
   refine AW_x rfl rfl λK hK=>?_
   simp (disch:=omega) [zG30,cS,scC]
   repeat' first|(refine zch [8] false [] (zg9 y hy) ?_ ?_ ?_;(focus (simp [List.range_succ,nmC];done));(focus (simp (disch:=omega) [zG30,cS,scC];done));simp (disch:=omega) [zG30,cS,scC]) | fail
   refine hK _ ?_;clear hK K
   refine zb4 rfl rfl λK hK=>?_
   simp (disch:=omega) [zG30,cS,scC]
   repeat' first|(refine ⟨by omega,?_⟩)|(simp (disch:=omega) [zG30,cS,scC])
   refine hK _ ?_;clear hK K
   refine zbm ?_
   refine zb4 rfl rfl λK hK=>?_
   simp (disch:=omega) [zG30,cS,scC]
   refine hK _ ?_;clear hK K
   refine ⟨_,LeS.kx [(8,8),(48,48),(64,64),(500,384)] [(0,.ptr 8 0),(2,.ptr 48 0),(3,.ptr 64 0),(14,(.g (.int .i64 (K)))),(15,(.g (.int .i64 (((i+1):Nat)))))] [(8,.cells (scC ((textI y).2))),(48,.cells [.s [],.s [],.g (.slice none 0 0)]),(64,.cells [.s a,.s b2,.arr 500 0 (l++[(textI y).1]).length]),(500,.own 1 ((l++[(textI y).1]).map cS))] (by simp [zG31,KpR,renV2,renV,zbj,cS]) (by simp [zG31,KpOX,renO,plO,cvO,renV,pl1,cS];try trace_state) (by rfl) (by simp) (by simp) (by rfl) (by simp [formsX,List.range_succ,zbr,zbz]),_,?_,i+1,l++[(textI y).1],(textI y).2,rfl,?_,rfl⟩
   ·omega
   ·have h5:=zdv y;refine ⟨by omega,by simp;omega,?_,by omega⟩;rw [←htx];have e:K.toNat-i=(K.toNat-(i+1))+1:=(by omega);rw [e,txsI]
  ·try simp [zG32,zbc,zba] at hc1
   have hK:K.toNat-i=0:=by omega
   rw [hK,txsI] at htx
   refine zbw ?_
   refine zbm ?_
   refine AW_x rfl rfl λK hK=>?_
   simp (disch:=omega) [zG30,cS,scC]
   refine hK _ ?_;clear hK K
   refine zbo (zb7 [500] [] (by simp [zG31,List.range_succ]) (by simp) ?_)
   simp (disch:=omega) [zG30,cS,scC]
   (rw [←htx];(simp;done))
end Go.Proofs.YtodmafgmdlkhoaaDoor.Vs
end
section
namespace Go.Proofs.YtodmafgmdlkhoaaDoor.Vs
set_option linter.all false
set_option maxRecDepth 100000
set_option maxHeartbeats 2000000
noncomputable def snsI:Nat→List DtCSnap × Sc→List DtCSnap × Sc
 | 0,s=>s
 | n+1,s=>snsI n (s.1++[(snapI s.2).1],(snapI s.2).2)
noncomputable def setI(x:Sc):DtCSet × Sc :=
 (⟨(textI x).1,(snsI (manyI 5 (textI x).2).1.toNat ([],(manyI 5 (textI x).2).2)).1⟩,(snsI (manyI 5 (textI x).2).1.toNat ([],(manyI 5 (textI x).2).2)).2)
theorem zxu:∀(n:Nat) (s:List DtCSnap × Sc),(snsI n s).2.1.length≤s.2.1.length
 | 0,s=>Nat.le_refl _
 | n+1,s=>by
  rw [snsI]
  exact Nat.le_trans (zxu n _) (zsw s.2)
theorem setI_len(x:Sc):(setI x).2.1.length≤x.1.length:=by
 unfold setI
 have h1:=zdv x
 have h3:=zge 5 (textI x).2
 have h4:=zxu (manyI 5 (textI x).2).1.toNat ([],(manyI 5 (textI x).2).2)
 simp only at h4 ⊢
 omega
attribute [local simp] scC
theorem scanSet(x:Sc)(hs:x.1.length≤1048576):XCall Tryd.prog 21 [.ptr 8 0] [.cells [.s x.1,(.g (.bool (x.2)))]] (.agg [.s (setI x).1.fName,.arr 16 0 (setI x).1.fSnaps.length]) [.cells (scC (setI x).2)] [.own 3 ((setI x).1.fSnaps.map DtCSnap.cells)]:=by
 have ht1:=zg9 x hs
 have hl1:=zdv x
 have hm1:=zju 5 (textI x).2 (by omega)
 have hl3:=zge 5 (textI x).2
 have hb3:=zlm (m:=5) (by omega) (textI x).2
 have hsn:setI x=(⟨(textI x).1,(snsI (manyI 5 (textI x).2).1.toNat ([],(manyI 5 (textI x).2).2)).1⟩,(snsI (manyI 5 (textI x).2).1.toNat ([],(manyI 5 (textI x).2).2)).2):=rfl
 obtain ⟨a,y1,e1⟩:∃a y1,textI x=(a,y1):=⟨_,_,rfl⟩
 simp only [e1] at ht1 hm1 hl1 hl3 hb3 hsn
 obtain ⟨K,y3,e3⟩:∃a y,manyI 5 y1=(a,y):=⟨_,_,rfl⟩
 simp only [e3] at hm1 hl3 hb3 hsn
 rw [hsn]
 refine zbq Tryd.func21 (by rfl) (by rfl) (by rw [Tryd.ntmps21];exact Nat.le_of_ble_eq_true rfl) rfl (by simp) rfl rfl ?_
 rw [Tryd.ntmps21]
 refine zhn (.cells [.s x.1,(.g (.bool (x.2)))]) (by simp [cvO]<;>assumption) ?_
 refine AW_k [(0,_)] ⟨rfl,trivial⟩ ?_
 refine AW_x rfl rfl λK hK=>?_
 simp (disch:=omega) [zG30,cS,scC,DtCSnap.cells]
 refine hK _ ?_;clear hK K
 refine AW_x rfl rfl λK hK=>?_
 simp (disch:=omega) [zG30,cS,scC,DtCSnap.cells]
 repeat' first|(refine zch [8] false [] (ht1) ?_ ?_ ?_;(focus (simp [List.range_succ,nmC];done));(focus (simp (disch:=omega) [zG30,cS,scC,DtCSnap.cells];done));simp (disch:=omega) [zG30,cS,scC,DtCSnap.cells]) | fail
 refine hK _ ?_;clear hK K
 refine AW_x rfl rfl λK hK=>?_
 simp (disch:=omega) [zG30,cS,scC,DtCSnap.cells]
 repeat' first|(refine zch [8] false [] (hm1) ?_ ?_ ?_;(focus (simp [List.range_succ,nmC];done));(focus (simp (disch:=omega) [zG30,cS,scC,DtCSnap.cells];done));simp (disch:=omega) [zG30,cS,scC,DtCSnap.cells]) | fail
 refine hK _ ?_;clear hK K
 refine zbe ?_
 refine AW_x rfl rfl λK hK=>?_
 simp (disch:=omega) [zG30,cS,scC,DtCSnap.cells]
 refine hK _ ?_;clear hK K
 refine zbi ?_
 refine zbt (λmM sS=>∃(i:Nat) (l:List DtCSnap) (y:Sc),mM=K.toNat-i∧((i:Int)≤K∧l.length=i∧snsI (K.toNat-i) (l,y)=snsI K.toNat ([],y3)∧y.1.length≤1048576)∧sS = { env:=lkE [(0,.ptr 8 0),(2,.ptr 48 0),(3,.ptr 64 0),(11,(.g (.int .i64 (K)))),(12,(.g (.int .i64 ((i:Nat)))))],ob:=lk [(8,.cells (scC y)),(48,.cells [.s [],.g (.slice none 0 0)]),(64,.cells [.s a,.arr 501 0 l.length]),(501,.own 3 (l.map DtCSnap.cells))] }) ?_ ?_
 ·refine ⟨_,LeS.trans (LeS.znc (cs:=[.s a,.g (.slice none 0 0)]) 501 3 64 1 (by simp [zG31,zbj]) (by simp [zG31,zbj,DtCSnap.cells]) (by rfl)) (LeS.kx [(8,8),(48,48),(64,64),(501,501)] [(0,.ptr 8 0),(2,.ptr 48 0),(3,.ptr 64 0),(11,(.g (.int .i64 (K)))),(12,(.g (.int .i64 (((0):Nat)))))] [(8,.cells (scC (y3))),(48,.cells [.s [],.g (.slice none 0 0)]),(64,.cells [.s a,.arr 501 0 ([]).length]),(501,.own 3 (([]).map DtCSnap.cells))] (by simp [zG31,KpR,renV2,renV,zbj,DtCSnap.cells]) (by simp [zG31,KpOX,renO,plO,cvO,renV,pl1,DtCSnap.cells];try trace_state) (by rfl) (by simp) (by simp) (by rfl) (by simp [formsX,List.range_succ,zbr,zbz])),_,0,[],y3,rfl,?_,rfl⟩
  ·exact ⟨by omega,rfl,rfl,by omega⟩
 ·rintro mM sS ⟨i,l,y,rfl,⟨hiK,hli,htx,hy⟩,rfl⟩
  refine AW_x rfl rfl λK hK=>?_
  simp (disch:=omega) [zG30,cS,scC,DtCSnap.cells]
  refine hK _ ?_;clear hK K
  refine zbe ?_
  refine zbg rfl (λhc1=>?_) (λhc1=>?_)
  ·try simp [zG32,zbc,zba] at hc1
   refine zbh ?_
   refine zbm ?_
   refine zbe ?_
   refine zbi ?_
   refine AW_x rfl rfl λK hK=>?_
   simp (disch:=omega) [zG30,cS,scC,DtCSnap.cells]
   repeat' first|(refine zch [8] false [] (scanSnap y hy) ?_ ?_ ?_;(focus (simp [List.range_succ,nmC];done));(focus (simp (disch:=omega) [zG30,cS,scC,DtCSnap.cells];done));simp (disch:=omega) [zG30,cS,scC,DtCSnap.cells]) | fail
   refine hK _ ?_;clear hK K
   refine zb4 rfl rfl λK hK=>?_
   simp (disch:=omega) [zG30,cS,scC,DtCSnap.cells]
   repeat' first|(refine ⟨by omega,?_⟩)|(simp (disch:=omega) [zG30,cS,scC,DtCSnap.cells])
   refine hK _ ?_;clear hK K
   refine zbm ?_
   refine zb4 rfl rfl λK hK=>?_
   simp (disch:=omega) [zG30,cS,scC,DtCSnap.cells]
   refine hK _ ?_;clear hK K
   refine ⟨_,LeS.kx [(8,8),(48,48),(64,64),(501,336)] [(0,.ptr 8 0),(2,.ptr 48 0),(3,.ptr 64 0),(11,(.g (.int .i64 (K)))),(12,(.g (.int .i64 (((i+1):Nat)))))] [(8,.cells (scC ((snapI y).2))),(48,.cells [.s [],.g (.slice none 0 0)]),(64,.cells [.s a,.arr 501 0 (l++[(snapI y).1]).length]),(501,.own 3 ((l++[(snapI y).1]).map DtCSnap.cells))] (by simp [zG31,KpR,renV2,renV,zbj,DtCSnap.cells]) (by simp [zG31,KpOX,renO,plO,cvO,renV,pl1,DtCSnap.cells];try trace_state) (by rfl) (by simp) (by simp) (by rfl) (by simp [formsX,List.range_succ,zbr,zbz]),_,?_,i+1,l++[(snapI y).1],(snapI y).2,rfl,?_,rfl⟩
   ·omega
   ·have h5:=zsw y;refine ⟨by omega,by simp;omega,?_,by omega⟩;rw [←htx];have e:K.toNat-i=(K.toNat-(i+1))+1:=(by omega);rw [e,snsI]
  ·try simp [zG32,zbc,zba] at hc1
   have hK:K.toNat-i=0:=by omega
   rw [hK,snsI] at htx
   refine zbw ?_
   refine zbm ?_
   refine AW_x rfl rfl λK hK=>?_
   simp (disch:=omega) [zG30,cS,scC,DtCSnap.cells]
   refine hK _ ?_;clear hK K
   refine zbo (zb7 [501] [] (by simp [zG31,List.range_succ]) (by simp) ?_)
   simp (disch:=omega) [zG30,cS,scC,DtCSnap.cells]
   (rw [←htx];(simp;done))
end Go.Proofs.YtodmafgmdlkhoaaDoor.Vs
end
section
namespace Go.Proofs.YtodmafgmdlkhoaaDoor.Vs
set_option linter.all false
set_option maxRecDepth 100000
set_option maxHeartbeats 2000000
noncomputable def setsI:Nat→List DtCSet × Sc→List DtCSet × Sc
 | 0,s=>s
 | n+1,s=>setsI n (s.1++[(setI s.2).1],(setI s.2).2)
noncomputable def saidIJ(x:Sc):DtSaid × Sc:=(⟨(numI x).1,(numI (numI x).2).1,(textI (numI (numI x).2).2).1⟩,(textI (numI (numI x).2).2).2)
noncomputable def saidsI:Nat→List DtSaid × Sc→List DtSaid × Sc
 | 0,s=>s
 | n+1,s=>saidsI n (s.1++[(saidIJ s.2).1],(saidIJ s.2).2)
noncomputable def rsA(s:List UInt8):List DtCSet × Sc:=setsI (manyI 5 (s,false)).1.toNat ([],(manyI 5 (s,false)).2)
noncomputable def rsB(x:Sc):List DtSaid × Sc:=saidsI (manyI 9 x).1.toNat ([],(manyI 9 x).2)
noncomputable def readI(s:List UInt8):DtState × Sc:=(⟨⟨(rsA s).1⟩,(rsB (rsA s).2).1⟩,(rsB (rsA s).2).2)
open Classical in
noncomputable def RSI(s:List UInt8):DtState × Bool:=if (readI s).2.2=true∨s=[]∨showState (readI s).1≠s then (⟨⟨[]⟩,[]⟩,false) else ((readI s).1,true)
theorem saidI_len(x:Sc):(saidIJ x).2.1.length≤x.1.length:=by
 have h1:=zgp x
 have h2:=zgp (numI x).2
 have h3:=zdv (numI (numI x).2).2
 show (textI (numI (numI x).2).2).2.1.length≤_
 omega
/-! what a reading that is not spoilt takes -/
theorem zqu{x:Sc}(h:(numI x).2.2=false):x.2=false∧1+(numI x).2.1.length≤x.1.length:=by
 unfold numI at h ⊢
 split at h
 ·cases h
 ·rename_i hn
  rw [if_neg hn]
  have hb:=RV_bd x.1
  have h2:¬(RV x.1).2=0:=λe=>hn (.inr e)
  refine ⟨by simpa using λe=>hn (.inl e),?_⟩
  simp only [List.length_drop]
  omega
theorem cutI_ok{n:Int}{x:Sc}(h:(cutI n x).2.2=false):x.2=false∧(cutI n x).1.length+(cutI n x).2.1.length≤x.1.length:=by
 unfold cutI at h ⊢
 split at h
 ·cases h
 ·rename_i hn
  rw [if_neg hn]
  refine ⟨by simpa using λe=>hn (.inl e),?_⟩
  simp only [List.length_drop,List.length_take]
  omega
theorem zjv{x:Sc}(h:(textI x).2.2=false):x.2=false∧1+(textI x).1.length+(textI x).2.1.length≤x.1.length:=by
 have h1:=cutI_ok (n:=(numI x).1) (x:=(numI x).2) h
 have h2:=zqu h1.1
 refine ⟨h2.1,?_⟩
 have h3:=h1.2
 unfold textI
 omega
theorem zln{m:Int}{x:Sc}(h:(manyI m x).2.2=false):x.2=false∧1+(manyI m x).2.1.length≤x.1.length:=by
 unfold manyI at h ⊢
 split at h
 ·cases h
 ·rename_i hn
  rw [if_neg hn]
  exact zqu (by simpa using λe=>hn (.inr e))
theorem zfu{α:Type}(f:α→Int)(l:List α)(x:α):szS f (l++[x])=szS f l+f x+1:=by
 unfold szS
 have:∀l:List α,sumZ f (l++[x])=sumZ f l+f x:=by
  intro l
  induction l with
  | nil=>simp [zcr,zcu]
  | cons y l ih=>rw [List.cons_append,zcu,zcu,ih];omega
 rw [this]
 simp only [List.length_append,List.length_cons,List.length_nil]
 omega
theorem txsI_ok:∀(n:Nat) (s:List (List UInt8) × Sc),(txsI n s).2.2=false→s.2.2=false∧szS lenZ (txsI n s).1+(txsI n s).2.1.length≤szS lenZ s.1+s.2.1.length
 | 0,s,h=>⟨h,Int.le_refl _⟩
 | n+1,s,h=>by
  rw [txsI] at h ⊢
  obtain ⟨h1,h2⟩:=txsI_ok n _ h
  obtain ⟨h3,h4⟩:=zjv h1
  refine ⟨h3,?_⟩
  rw [zfu] at h2
  dsimp only at h2
  simp only [lenZ] at h2
  omega
theorem snapI_ok{x:Sc}(h:(snapI x).2.2=false):x.2=false∧DtCSnap.sz (snapI x).1+1+(snapI x).2.1.length≤x.1.length:=by
 obtain ⟨h1,h2⟩:=txsI_ok _ _ (show (txsI (manyI 4 (textI (textI x).2).2).1.toNat ([],(manyI 4 (textI (textI x).2).2).2)).2.2=false from h)
 obtain ⟨h3,h4⟩:=zln h1
 obtain ⟨h5,h6⟩:=zjv h3
 obtain ⟨h7,h8⟩:=zjv h5
 refine ⟨h7,?_⟩
 have e0:szS lenZ ([]:List (List UInt8))=0:=by simp [szS,zcr]
 simp only [e0] at h2
 simp only [snapI,DtCSnap.sz]
 omega
theorem snsI_ok:∀(n:Nat) (s:List DtCSnap × Sc),(snsI n s).2.2=false→s.2.2=false∧szS DtCSnap.sz (snsI n s).1+(snsI n s).2.1.length≤szS DtCSnap.sz s.1+s.2.1.length
 | 0,s,h=>⟨h,Int.le_refl _⟩
 | n+1,s,h=>by
  rw [snsI] at h ⊢
  obtain ⟨h1,h2⟩:=snsI_ok n _ h
  obtain ⟨h3,h4⟩:=snapI_ok h1
  refine ⟨h3,?_⟩
  rw [zfu] at h2
  dsimp only at h2
  omega
theorem setI_ok{x:Sc}(h:(setI x).2.2=false):x.2=false∧DtCSet.sz (setI x).1+1+(setI x).2.1.length≤x.1.length:=by
 obtain ⟨h1,h2⟩:=snsI_ok _ _ (show (snsI (manyI 5 (textI x).2).1.toNat ([],(manyI 5 (textI x).2).2)).2.2=false from h)
 obtain ⟨h3,h4⟩:=zln h1
 obtain ⟨h7,h8⟩:=zjv h3
 refine ⟨h7,?_⟩
 have e0:szS DtCSnap.sz []=0:=by simp [szS,zcr]
 simp only [e0] at h2
 simp only [setI,DtCSet.sz]
 omega
theorem zxv:∀(n:Nat) (s:List DtCSet × Sc),(setsI n s).2.2=false→s.2.2=false∧szS DtCSet.sz (setsI n s).1+(setsI n s).2.1.length≤szS DtCSet.sz s.1+s.2.1.length
 | 0,s,h=>⟨h,Int.le_refl _⟩
 | n+1,s,h=>by
  rw [setsI] at h ⊢
  obtain ⟨h1,h2⟩:=zxv n _ h
  obtain ⟨h3,h4⟩:=setI_ok h1
  refine ⟨h3,?_⟩
  rw [zfu] at h2
  dsimp only at h2
  omega
theorem saidI_ok{x:Sc}(h:(saidIJ x).2.2=false):x.2=false∧DtSaid.sz (saidIJ x).1+1+(saidIJ x).2.1.length≤x.1.length:=by
 obtain ⟨h1,h2⟩:=zjv (show (textI (numI (numI x).2).2).2.2=false from h)
 obtain ⟨h3,h4⟩:=zqu h1
 obtain ⟨h5,h6⟩:=zqu h3
 refine ⟨h5,?_⟩
 simp only [saidIJ,DtSaid.sz]
 omega
theorem zsx:∀(n:Nat) (s:List DtSaid × Sc),(saidsI n s).2.2=false→s.2.2=false∧szS DtSaid.sz (saidsI n s).1+(saidsI n s).2.1.length≤szS DtSaid.sz s.1+s.2.1.length
 | 0,s,h=>⟨h,Int.le_refl _⟩
 | n+1,s,h=>by
  rw [saidsI] at h ⊢
  obtain ⟨h1,h2⟩:=zsx n _ h
  obtain ⟨h3,h4⟩:=saidI_ok h1
  refine ⟨h3,?_⟩
  rw [zfu] at h2
  dsimp only at h2
  omega
theorem zxw{s:List UInt8}(h:(readI s).2.2=false):DtState.sz (readI s).1≤s.length:=by
 obtain ⟨h1,h2⟩:=zsx _ _ (show (saidsI (manyI 9 (rsA s).2).1.toNat ([],(manyI 9 (rsA s).2).2)).2.2=false from h)
 obtain ⟨h3,h4⟩:=zln h1
 obtain ⟨h5,h6⟩:=zxv _ _ (show (setsI (manyI 5 (s,false)).1.toNat ([],(manyI 5 (s,false)).2)).2.2=false from h3)
 obtain ⟨h7,h8⟩:=zln h5
 have e0:szS DtSaid.sz []=0:=by simp [szS,zcr]
 have e1:szS DtCSet.sz []=0:=by simp [szS,zcr]
 simp only [e0] at h2
 simp only [e1] at h6
 have h9:szS DtCSet.sz (rsA s).1+(rsA s).2.1.length≤s.length:=by
  show szS DtCSet.sz (setsI (manyI 5 (s,false)).1.toNat ([],(manyI 5 (s,false)).2)).1+(setsI (manyI 5 (s,false)).1.toNat ([],(manyI 5 (s,false)).2)).2.1.length≤_
  simp only at h8
  omega
 show szS DtCSet.sz (rsA s).1+szS DtSaid.sz (rsB (rsA s).2).1≤_
 show szS DtCSet.sz (rsA s).1+szS DtSaid.sz (saidsI (manyI 9 (rsA s).2).1.toNat ([],(manyI 9 (rsA s).2).2)).1≤_
 omega
end Go.Proofs.YtodmafgmdlkhoaaDoor.Vs
end
section
namespace Go.Proofs.YtodmafgmdlkhoaaDoor.Vs
set_option linter.all false
set_option maxRecDepth 100000
set_option maxHeartbeats 2000000
attribute [local simp] scC
theorem zbs{P:Program}{st:St}(nm:Nat)(ts:List TypeId)(s:AV)(n o l:Nat):aAppZ P st nm ts s (.arr n o l)=none:=by
 unfold aAppZ
 split
 ·rename_i h;cases h
 ·rfl
theorem zb0(k:List DtSaid):scR (k.map DtSaid.cells)=true:=zd8 _ (λ_=>rfl) k
theorem zxx(x:Sc)(hs:x.1.length≤1048576):XCall Tryd.prog 22 [.ptr 8 0] [.cells [.s x.1,(.g (.bool (x.2)))]] (.g (.int .i64 ((numI x).1))) [.cells (scC (numI x).2)] []:=zv3 x.1 x.2 hs
theorem rsi_f{s:List UInt8}(h:(readI s).2.2=true∨s=[]∨¬showState (readI s).1=s):RSI s=(⟨⟨[]⟩,[]⟩,false):=by
 unfold RSI
 rw [if_pos h]
theorem rsi_t{s:List UInt8}(h1:¬(readI s).2.2=true)(h2:¬s=[])(h3:showState (readI s).1=s):RSI s=((readI s).1,true):=by
 unfold RSI
 rw [if_neg λh=>h.elim h1 λh=>h.elim h2 λh=>h h3]
theorem zqv(s:List UInt8)(hs:s.length≤1048576):XCall Tryd.prog 7 [.s s] [] (.tup [.agg [.arr 16 0 (RSI s).1.fCat.fSets.length,.arr 17 0 (RSI s).1.fSaid.length],(.g (.bool ((RSI s).2)))]) [] [.own 2 ((RSI s).1.fCat.fSets.map DtCSet.cells),.own 3 ((RSI s).1.fSaid.map DtSaid.cells)]:=by
 have hm1:=zju 5 (s,false) hs
 have hl3:=zge 5 (s,false)
 have hb3:=zlm (m:=5) (by omega) (s,false)
 have hrA:rsA s=setsI (manyI 5 (s,false)).1.toNat ([],(manyI 5 (s,false)).2):=rfl
 obtain ⟨K,y3,e3⟩:∃a y,manyI 5 (s,false)=(a,y):=⟨_,_,rfl⟩
 simp only [e3] at hm1 hl3 hb3 hrA
 refine zbq Tryd.func7 (by rfl) (by rfl) (by rw [Tryd.ntmps7];exact Nat.le_of_ble_eq_true rfl) rfl (by simp) rfl rfl ?_
 rw [Tryd.ntmps7]
 refine zdk   ?_
 refine AW_k [(0,_)] ⟨rfl,trivial⟩ ?_
 refine AW_x rfl rfl λK hK=>?_
 simp (disch:=omega) [zG30,cS,scC,DtState.cells,DtCatalog.cells,DtCSet.cells,DtSaid.cells,zbs,zb0,-aAppZ]
 refine hK _ ?_;clear hK K
 refine AW_x rfl rfl λK hK=>?_
 simp (disch:=omega) [zG30,cS,scC,DtState.cells,DtCatalog.cells,DtCSet.cells,DtSaid.cells,zbs,zb0,-aAppZ]
 refine hK _ ?_;clear hK K
 refine AW_x rfl rfl λK hK=>?_
 simp (disch:=omega) [zG30,cS,scC,DtState.cells,DtCatalog.cells,DtCSet.cells,DtSaid.cells,zbs,zb0,-aAppZ]
 refine hK _ ?_;clear hK K
 refine AW_x rfl rfl λK hK=>?_
 simp (disch:=omega) [zG30,cS,scC,DtState.cells,DtCatalog.cells,DtCSet.cells,DtSaid.cells,zbs,zb0,-aAppZ]
 repeat' first|(refine zch [192] false [] (hm1) ?_ ?_ ?_;(focus (simp [List.range_succ,nmC];done));(focus (simp (disch:=omega) [zG30,cS,scC,DtState.cells,DtCatalog.cells,DtCSet.cells,DtSaid.cells,zbs,zb0,-aAppZ];done));simp (disch:=omega) [zG30,cS,scC,DtState.cells,DtCatalog.cells,DtCSet.cells,DtSaid.cells,zbs,zb0,-aAppZ]) | fail
 refine hK _ ?_;clear hK K
 refine zbe ?_
 refine AW_x rfl rfl λK hK=>?_
 simp (disch:=omega) [zG30,cS,scC,DtState.cells,DtCatalog.cells,DtCSet.cells,DtSaid.cells,zbs,zb0,-aAppZ]
 refine hK _ ?_;clear hK K
 refine zbi ?_
 refine zbt (λmM sS=>∃(i:Nat) (l:List DtCSet) (y:Sc),mM=K.toNat-i∧((i:Int)≤K∧l.length=i∧setsI (K.toNat-i) (l,y)=rsA s∧y.1.length≤1048576)∧sS = { env:=lkE [(0,.s s),(2,.ptr 48 0),(4,.ptr 192 0),(5,.ptr 96 0),(15,(.g (.int .i64 (K)))),(16,(.g (.int .i64 ((i:Nat)))))],ob:=lk [(192,.cells (scC y)),(48,.cells [.g (.slice none 0 0),.g (.slice none 0 0)]),(96,.cells [.arr 500 0 l.length,.g (.slice none 0 0)]),(500,.own 2 (l.map DtCSet.cells))] }) ?_ ?_
 ·refine ⟨_,LeS.trans (LeS.znc (cs:=[.g (.slice none 0 0),.g (.slice none 0 0)]) 500 2 96 0 (by simp [zG31,zbj]) (by simp [zG31,zbj,DtCSet.cells]) (by rfl)) (LeS.kx [(192,192),(48,48),(96,96),(500,500)] [(0,.s s),(2,.ptr 48 0),(4,.ptr 192 0),(5,.ptr 96 0),(15,(.g (.int .i64 (K)))),(16,(.g (.int .i64 (((0):Nat)))))] [(192,.cells (scC (y3))),(48,.cells [.g (.slice none 0 0),.g (.slice none 0 0)]),(96,.cells [.arr 500 0 ([]).length,.g (.slice none 0 0)]),(500,.own 2 (([]).map DtCSet.cells))] (by simp [zG31,KpR,renV2,renV,zbj,DtCSet.cells]) (by simp [zG31,KpOX,renO,plO,cvO,renV,pl1,DtCSet.cells];try trace_state) (by rfl) (by simp) (by simp) (by rfl) (by simp [formsX,List.range_succ,zbr,zbz])),_,0,[],y3,rfl,?_,rfl⟩
  ·exact ⟨by omega,rfl,hrA.symm,by omega⟩
 ·rintro mM sS ⟨i,l,y,rfl,⟨hiK,hli,htx,hy⟩,rfl⟩
  refine AW_x rfl rfl λK hK=>?_
  simp (disch:=omega) [zG30,cS,scC,DtState.cells,DtCatalog.cells,DtCSet.cells,DtSaid.cells,zbs,zb0,-aAppZ]
  refine hK _ ?_;clear hK K
  refine zbe ?_
  refine zbg rfl (λhc1=>?_) (λhc1=>?_)
  ·try simp [zG32,zbc,zba] at hc1
   refine zbh ?_
   refine zbm ?_
   refine zbe ?_
   refine zbi ?_
   refine AW_x rfl rfl λK hK=>?_
   simp (disch:=omega) [zG30,cS,scC,DtState.cells,DtCatalog.cells,DtCSet.cells,DtSaid.cells,zbs,zb0,-aAppZ]
   repeat' first|(refine zch [192] false [] (scanSet y hy) ?_ ?_ ?_;(focus (simp [List.range_succ,nmC];done));(focus (simp (disch:=omega) [zG30,cS,scC,DtState.cells,DtCatalog.cells,DtCSet.cells,DtSaid.cells,zbs,zb0,-aAppZ];done));simp (disch:=omega) [zG30,cS,scC,DtState.cells,DtCatalog.cells,DtCSet.cells,DtSaid.cells,zbs,zb0,-aAppZ]) | fail
   refine hK _ ?_;clear hK K
   refine zb4 rfl rfl λK hK=>?_
   simp (disch:=omega) [zG30,cS,scC,DtState.cells,DtCatalog.cells,DtCSet.cells,DtSaid.cells,zbs,zb0,-aAppZ]
   repeat' first|(refine ⟨by omega,?_⟩) | fail
   refine hK _ ?_;clear hK K
   refine zbm ?_
   refine zb4 rfl rfl λK hK=>?_
   simp (disch:=omega) [zG30,cS,scC,DtState.cells,DtCatalog.cells,DtCSet.cells,DtSaid.cells,zbs,zb0,-aAppZ]
   refine hK _ ?_;clear hK K
   refine ⟨_,LeS.kx [(192,192),(48,48),(96,96),(500,416)] [(0,.s s),(2,.ptr 48 0),(4,.ptr 192 0),(5,.ptr 96 0),(15,(.g (.int .i64 (K)))),(16,(.g (.int .i64 (((i+1):Nat)))))] [(192,.cells (scC ((setI y).2))),(48,.cells [.g (.slice none 0 0),.g (.slice none 0 0)]),(96,.cells [.arr 500 0 (l++[(setI y).1]).length,.g (.slice none 0 0)]),(500,.own 2 ((l++[(setI y).1]).map DtCSet.cells))] (by simp [zG31,KpR,renV2,renV,zbj,DtCSet.cells]) (by simp [zG31,KpOX,renO,plO,cvO,renV,pl1,DtCSet.cells];try trace_state) (by rfl) (by simp) (by simp) (by rfl) (by simp [formsX,List.range_succ,zbr,zbz]),_,?_,i+1,l++[(setI y).1],(setI y).2,rfl,?_,rfl⟩
   ·omega
   ·have h5:=setI_len y;refine ⟨by omega,by simp;omega,?_,by omega⟩;rw [←htx];have e:K.toNat-i=(K.toNat-(i+1))+1:=(by omega);rw [e,setsI]
  ·try simp [zG32,zbc,zba] at hc1
   have hK:K.toNat-i=0:=by omega
   rw [hK,setsI] at htx
   have hb9:=zlm (m:=9) (by omega) y
   have hl9:=zge 9 y
   have hrB:saidsI (manyI 9 y).1.toNat ([],(manyI 9 y).2)=rsB (rsA s).2:=by rw [←htx];rfl
   refine zbw ?_
   refine zbm ?_
   refine AW_x rfl rfl λK hK=>?_
   simp (disch:=omega) [zG30,cS,scC,DtState.cells,DtCatalog.cells,DtCSet.cells,DtSaid.cells,zbs,zb0,-aAppZ]
   repeat' first|(refine zch [192] false [] (zju 9 y hy) ?_ ?_ ?_;(focus (simp [List.range_succ,nmC];done));(focus (simp (disch:=omega) [zG30,cS,scC,DtState.cells,DtCatalog.cells,DtCSet.cells,DtSaid.cells,zbs,zb0,-aAppZ];done));simp (disch:=omega) [zG30,cS,scC,DtState.cells,DtCatalog.cells,DtCSet.cells,DtSaid.cells,zbs,zb0,-aAppZ]) | fail
   refine hK _ ?_;clear hK K
   refine zbe ?_
   refine AW_x rfl rfl λK hK=>?_
   simp (disch:=omega) [zG30,cS,scC,DtState.cells,DtCatalog.cells,DtCSet.cells,DtSaid.cells,zbs,zb0,-aAppZ]
   refine hK _ ?_;clear hK K
   refine zbi ?_
   refine zbt (λmM sS=>∃(j:Nat) (k:List DtSaid) (z:Sc),mM=(manyI 9 y).1.toNat-j∧((j:Int)≤(manyI 9 y).1∧k.length=j∧saidsI ((manyI 9 y).1.toNat-j) (k,z)=rsB (rsA s).2∧z.1.length≤1048576)∧sS = { env:=lkE [(0,.s s),(2,.ptr 48 0),(4,.ptr 192 0),(5,.ptr 96 0),(31,(.g (.int .i64 ((manyI 9 y).1)))),(32,(.g (.int .i64 ((j:Nat)))))],ob:=lk [(192,.cells (scC z)),(48,.cells [.g (.slice none 0 0),.g (.slice none 0 0)]),(96,.cells [.arr 500 0 l.length,.arr 501 0 k.length]),(500,.own 2 (l.map DtCSet.cells)),(501,.own 3 (k.map DtSaid.cells))] }) ?_ ?_
   ·refine ⟨_,LeS.trans (LeS.znc (cs:=[.arr 500 0 l.length,.g (.slice none 0 0)]) 501 3 96 1 (by simp [zG31,zbj]) (by simp [zG31,zbj,DtCSet.cells,DtSaid.cells]) (by rfl)) (LeS.kx [(192,192),(48,48),(96,96),(500,500),(501,501)] [(0,.s s),(2,.ptr 48 0),(4,.ptr 192 0),(5,.ptr 96 0),(31,(.g (.int .i64 ((manyI 9 y).1)))),(32,(.g (.int .i64 (((0):Nat)))))] [(192,.cells (scC ((manyI 9 y).2))),(48,.cells [.g (.slice none 0 0),.g (.slice none 0 0)]),(96,.cells [.arr 500 0 l.length,.arr 501 0 ([]).length]),(500,.own 2 (l.map DtCSet.cells)),(501,.own 3 (([]).map DtSaid.cells))] (by simp [zG31,KpR,renV2,renV,zbj,DtCSet.cells,DtSaid.cells]) (by simp [zG31,KpOX,renO,plO,cvO,renV,pl1,DtCSet.cells,DtSaid.cells];try trace_state) (by rfl) (by simp) (by simp) (by rfl) (by simp [formsX,List.range_succ,zbr,zbz])),_,0,[],(manyI 9 y).2,rfl,?_,rfl⟩
    ·exact ⟨by omega,rfl,hrB,by omega⟩
   ·rintro mM sS ⟨j,k,z,rfl,⟨hjK,hkj,htz,hz⟩,rfl⟩
    refine AW_x rfl rfl λK hK=>?_
    simp (disch:=omega) [zG30,cS,scC,DtState.cells,DtCatalog.cells,DtCSet.cells,DtSaid.cells,zbs,zb0,-aAppZ]
    refine hK _ ?_;clear hK K
    refine zbe ?_
    refine zbg rfl (λhc2=>?_) (λhc2=>?_)
    ·try simp [zG32,zbc,zba] at hc2
     have hz1:(numI z).2.1.length≤1048576:=by have:=zgp z;omega
     have hz2:(numI (numI z).2).2.1.length≤1048576:=by have:=zgp (numI z).2;omega
     refine zbh ?_
     refine zbm ?_
     refine zbe ?_
     refine zbi ?_
     refine AW_x rfl rfl λK hK=>?_
     simp (disch:=omega) [zG30,cS,scC,DtState.cells,DtCatalog.cells,DtCSet.cells,DtSaid.cells,zbs,zb0,-aAppZ]
     repeat' first|(refine zch [192] false [] (zxx z hz) ?_ ?_ ?_;(focus (simp [List.range_succ,nmC];done));(focus (simp (disch:=omega) [zG30,cS,scC,DtState.cells,DtCatalog.cells,DtCSet.cells,DtSaid.cells,zbs,zb0,-aAppZ];done));simp (disch:=omega) [zG30,cS,scC,DtState.cells,DtCatalog.cells,DtCSet.cells,DtSaid.cells,zbs,zb0,-aAppZ]) | fail
     refine hK _ ?_;clear hK K
     refine AW_x rfl rfl λK hK=>?_
     simp (disch:=omega) [zG30,cS,scC,DtState.cells,DtCatalog.cells,DtCSet.cells,DtSaid.cells,zbs,zb0,-aAppZ]
     repeat' first|(refine zch [192] false [] (zxx (numI z).2 hz1) ?_ ?_ ?_;(focus (simp [List.range_succ,nmC];done));(focus (simp (disch:=omega) [zG30,cS,scC,DtState.cells,DtCatalog.cells,DtCSet.cells,DtSaid.cells,zbs,zb0,-aAppZ];done));simp (disch:=omega) [zG30,cS,scC,DtState.cells,DtCatalog.cells,DtCSet.cells,DtSaid.cells,zbs,zb0,-aAppZ]) | fail
     refine hK _ ?_;clear hK K
     refine AW_x rfl rfl λK hK=>?_
     simp (disch:=omega) [zG30,cS,scC,DtState.cells,DtCatalog.cells,DtCSet.cells,DtSaid.cells,zbs,zb0,-aAppZ]
     repeat' first|(refine zch [192] false [] (zg9 (numI (numI z).2).2 hz2) ?_ ?_ ?_;(focus (simp [List.range_succ,nmC];done));(focus (simp (disch:=omega) [zG30,cS,scC,DtState.cells,DtCatalog.cells,DtCSet.cells,DtSaid.cells,zbs,zb0,-aAppZ];done));simp (disch:=omega) [zG30,cS,scC,DtState.cells,DtCatalog.cells,DtCSet.cells,DtSaid.cells,zbs,zb0,-aAppZ]) | fail
     refine hK _ ?_;clear hK K
     refine zb4 rfl rfl λK hK=>?_
     simp (disch:=omega) [zG30,cS,scC,DtState.cells,DtCatalog.cells,DtCSet.cells,DtSaid.cells,zbs,zb0,-aAppZ]
     repeat' first|(refine ⟨by omega,?_⟩) | fail
     refine hK _ ?_;clear hK K
     refine zbm ?_
     refine zb4 rfl rfl λK hK=>?_
     simp (disch:=omega) [zG30,cS,scC,DtState.cells,DtCatalog.cells,DtCSet.cells,DtSaid.cells,zbs,zb0,-aAppZ]
     refine hK _ ?_;clear hK K
     refine ⟨_,LeS.kx [(192,192),(48,48),(96,96),(500,500),(501,768)] [(0,.s s),(2,.ptr 48 0),(4,.ptr 192 0),(5,.ptr 96 0),(31,(.g (.int .i64 ((manyI 9 y).1)))),(32,(.g (.int .i64 (((j+1):Nat)))))] [(192,.cells (scC ((saidIJ z).2))),(48,.cells [.g (.slice none 0 0),.g (.slice none 0 0)]),(96,.cells [.arr 500 0 l.length,.arr 501 0 (k++[(saidIJ z).1]).length]),(500,.own 2 (l.map DtCSet.cells)),(501,.own 3 ((k++[(saidIJ z).1]).map DtSaid.cells))] (by simp [zG31,KpR,renV2,renV,zbj,DtCSet.cells,DtSaid.cells]) (by simp [zG31,KpOX,renO,plO,cvO,renV,pl1,DtCSet.cells,DtSaid.cells];try exact ⟨⟨rfl,rfl⟩,⟨rfl,rfl,rfl⟩,zb0 k⟩) (by rfl) (by simp) (by simp) (by rfl) (by simp [formsX,List.range_succ,zbr,zbz]),_,?_,j+1,k++[(saidIJ z).1],(saidIJ z).2,rfl,?_,rfl⟩
     ·omega
     ·have h5:=saidI_len z;refine ⟨by omega,by simp;omega,?_,by omega⟩;rw [←htz];have e:(manyI 9 y).1.toNat-j=((manyI 9 y).1.toNat-(j+1))+1:=(by omega);rw [e,saidsI]
    ·try simp [zG32,zbc,zba] at hc2
     have hJ:(manyI 9 y).1.toNat-j=0:=by omega
     rw [hJ,saidsI] at htz
     have hrd:readI s=(⟨⟨l⟩,k⟩,z):=by unfold readI;rw [←htz,←htx]
     have hsz:z.2=false→DtState.sz ⟨⟨l⟩,k⟩≤1048576:=λh=>by have:=zxw (s:=s) (by rw [hrd];exact h);rw [hrd] at this;show DtState.sz ⟨⟨l⟩,k⟩≤_;dsimp only at this;omega
     refine zbw ?_
     refine zbm ?_
     refine zbe ?_
     refine AW_x rfl rfl λK hK=>?_
     simp (disch:=omega) [zG30,cS,scC,DtState.cells,DtCatalog.cells,DtCSet.cells,DtSaid.cells,zbs,zb0,-aAppZ]
     repeat' first|(refine zvc (zff ⟨⟨l⟩,k⟩ (hsz (by assumption))) (by rfl) ?_ ?_;(focus (simp (disch:=omega) [zG30,cS,scC,DtState.cells,DtCatalog.cells,DtCSet.cells,DtSaid.cells,zbs,zb0,-aAppZ];done));simp (disch:=omega) [zG30,cS,scC,DtState.cells,DtCatalog.cells,DtCSet.cells,DtSaid.cells,zbs,zb0,-aAppZ])|(refine ⟨λ_=>?_,λ_=>?_⟩) | fail
     all_goals (refine hK _ ?_;clear hK K)
     all_goals
      refine zbg rfl (λhc3=>?_) (λhc3=>?_)
      ·try simp [zG32,zbc,zba] at hc3
       all_goals
        have hri:RSI s=(⟨⟨[]⟩,[]⟩,false):=rsi_f (by rw [hrd];simp_all)
        rw [hri]
        refine AW_x rfl rfl λK hK=>?_
        simp (disch:=omega) [zG30,cS,scC,DtState.cells,DtCatalog.cells,DtCSet.cells,DtSaid.cells,zbs,zb0,-aAppZ]
        all_goals (refine hK _ ?_;clear hK K)
        all_goals
         refine zbo (zb7 [1000,1001] [(1000,2),(1001,3)] (by simp [zG31,List.range_succ]) (by simp) ?_)
         simp (disch:=omega) [zG30,cS,scC,DtState.cells,DtCatalog.cells,DtCSet.cells,DtSaid.cells,zbs,zb0,-aAppZ]
      ·try simp [zG32,zbc,zba] at hc3
       all_goals
        refine zbh ?_
        refine zbm ?_
        have hri:RSI s=(⟨⟨l⟩,k⟩,true):=(rsi_t (by rw [hrd];simp_all) (by simp_all) (by rw [hrd];simp_all)).trans (by rw [hrd])
        rw [hri]
        refine AW_x rfl rfl λK hK=>?_
        simp (disch:=omega) [zG30,cS,scC,DtState.cells,DtCatalog.cells,DtCSet.cells,DtSaid.cells,zbs,zb0,-aAppZ]
        refine hK _ ?_;clear hK K
        refine zbo (zb7 [500,501] [] (by simp [zG31,List.range_succ]) (by simp) ?_)
        simp (disch:=omega) [zG30,cS,scC,DtState.cells,DtCatalog.cells,DtCSet.cells,DtSaid.cells,zbs,zb0,-aAppZ]
end Go.Proofs.YtodmafgmdlkhoaaDoor.Vs
end
section
namespace Go.Proofs.YtodmafgmdlkhoaaDoor.Vs
set_option linter.all false
set_option maxRecDepth 100000
set_option maxHeartbeats 2000000
/-! The reader of the reference: a place in the text, -1 where it is spoilt -/
noncomputable def bdV(s:List UInt8)(a:Int):Bool:=decide (a<0∨(s.length:Int)<a∨(RV (s.drop a.toNat)).2=0)
noncomputable def varL(s:List UInt8):Nat→List Int × Int→List Int × Int
 | 0,x=>x
 | n+1,x=>if bdV s x.2=true then (x.1,-1) else varL s n (x.1++[(RV (s.drop x.2.toNat)).1],x.2+(RV (s.drop x.2.toNat)).2)
theorem varL_f{s:List UInt8}{n i:Nat}{l:List Int}{a:Int}{z:List Int × Int}(h:varL s (n-i) (l,a)=z)(hi:i<n)(hb:a<0∨(s.length:Int)<a∨(RV (s.drop a.toNat)).2=0):z=(l,-1):=by
 obtain ⟨q,hq⟩:∃q,n-i=q+1:=⟨n-i-1,by omega⟩
 rw [←h,hq,varL]
 have:bdV s (l,a).2=true:=decide_eq_true hb
 rw [if_pos this]
theorem varL_t{s:List UInt8}{n i:Nat}{l:List Int}{a:Int}{z:List Int × Int}(h:varL s (n-i) (l,a)=z)(hi:i<n)(h1:0≤a)(h2:a≤s.length)(h3:¬(RV (s.drop a.toNat)).2=0):varL s (n-(i+1)) (l++[(RV (s.drop a.toNat)).1],a+(RV (s.drop a.toNat)).2)=z:=by
 have hq:n-i=(n-(i+1))+1:=by omega
 rw [←h,hq,varL]
 have:¬bdV s (l,a).2=true:=by
  unfold bdV
  rw [decide_eq_true_iff]
  rintro (h | h | h)
  ·have h:a<0:=h;omega
  ·have h:(s.length:Int)<a:=h;omega
  ·exact h3 h
 rw [if_neg this]
theorem zgu(s:List UInt8)(at0:Int)(n:Nat)(hs:s.length≤1048576)(hn:n≤1048576):XCall Tryd.prog 26 [.s s,(.g (.int .i64 (at0))),(.g (.int .i64 ((n:Nat))))] [] (.tup [.arr 16 0 (varL s n ([],at0)).1.length,(.g (.int .i64 ((varL s n ([],at0)).2)))]) [] [.own 1 ((varL s n ([],at0)).1.map cI)]:=by
 refine zbq Tryd.func26 (by rfl) (by rfl) (by rw [Tryd.ntmps26];exact Nat.le_of_ble_eq_true rfl) rfl (by simp) rfl rfl ?_
 rw [Tryd.ntmps26]
 refine zdk   ?_
 refine AW_k [(0,_),(1,_),(2,_)] ⟨rfl,rfl,rfl,trivial⟩ ?_
 refine AW_x rfl rfl λK hK=>?_
 simp (disch:=omega) [zG30,cI,cS,zbs,zgv,-aAppZ]
 refine hK _ ?_;clear hK K
 refine AW_x rfl rfl λK hK=>?_
 simp (disch:=omega) [zG30,cI,cS,zbs,zgv,-aAppZ]
 refine hK _ ?_;clear hK K
 refine zbe ?_
 refine AW_x rfl rfl λK hK=>?_
 simp (disch:=omega) [zG30,cI,cS,zbs,zgv,-aAppZ]
 refine hK _ ?_;clear hK K
 refine zbi ?_
 refine zbt (λmM sS=>∃(i:Nat) (l:List Int) (a:Int),mM=n-i∧(i≤n∧l.length=i∧varL s (n-i) (l,a)=varL s n ([],at0))∧sS = { env:=lkE [(0,.s s),(1,(.g (.int .i64 (a)))),(2,(.g (.int .i64 ((n:Nat))))),(8,.arr 500 0 l.length),(9,(.g (.int .i64 ((i:Nat)))))],ob:=lk [(500,.own 1 (l.map cI))] }) ?_ ?_
 ·refine ⟨_,LeS.kx [(500,208)] [(0,.s s),(1,(.g (.int .i64 ((at0))))),(2,(.g (.int .i64 ((n:Nat))))),(8,.arr 500 0 ([]).length),(9,(.g (.int .i64 (((0):Nat)))))] [(500,.own 1 (([]).map cI))] (by simp [zG31,KpR,renV2,renV,zbj,cI]) (by simp [zG31,KpOX,renO,plO,cvO,renV,pl1,cI];try trace_state) (by rfl) (by simp) (by simp) (by rfl) (by simp [formsX,List.range_succ,zbr,zbz]),_,0,[],at0,rfl,?_,rfl⟩
  ·exact ⟨by omega,rfl,rfl⟩
 ·rintro mM sS ⟨i,l,a,rfl,⟨hin,hli,htx⟩,rfl⟩
  refine zbe ?_
  refine AW_x rfl rfl λK hK=>?_
  simp (disch:=omega) [zG30,cI,cS,zbs,zgv,-aAppZ]
  refine hK _ ?_;clear hK K
  refine zbg rfl (λhc1=>?_) (λhc1=>?_)
  ·try simp [zG32,zbc,zba] at hc1
   have hrb:=RV_bd (s.drop a.toNat)
   refine zbh ?_
   refine zbm ?_
   refine zbe ?_
   refine zbi ?_
   refine zbe ?_
   refine AW_x rfl rfl λK hK=>?_
   simp (disch:=omega) [zG30,cI,cS,zbs,zgv,-aAppZ]
   repeat' first|(refine ⟨λ_=>?_,λ_=>?_⟩) | fail
   all_goals (refine hK _ ?_;clear hK K)
   all_goals
    refine zbg rfl (λhc2=>?_) (λhc2=>?_)
    ·try simp [zG32,zbc,zba] at hc2
     all_goals
      rw [varL_f htx (by omega) (by omega)]
      refine AW_x rfl rfl λK hK=>?_
      simp (disch:=omega) [zG30,cI,cS,zbs,zgv,-aAppZ]
      all_goals (refine hK _ ?_;clear hK K)
      all_goals
       refine zbo (zb7 [500] [] (by simp [zG31,List.range_succ]) (by simp) ?_)
       simp (disch:=omega) [zG30,cI,cS,zbs,zgv,-aAppZ]
    ·try simp [zG32,zbc,zba] at hc2
     all_goals
      refine zbh ?_
      refine zbm ?_
      refine AW_x rfl rfl λK hK=>?_
      simp (disch:=omega) [zG30,cI,cS,zbs,zgv,-aAppZ]
      repeat' first|(refine zf1 (zbf zd9 zbn) (zv2 (s.drop a.toNat) (by simp;omega)) rfl ?_;simp (disch:=omega) [zG30,cI,cS,zbs,zgv,-aAppZ])|(refine ⟨by omega,?_⟩) | fail
      refine hK _ ?_;clear hK K
      refine zbe ?_
      refine AW_x rfl rfl λK hK=>?_
      simp (disch:=omega) [zG30,cI,cS,zbs,zgv,-aAppZ]
      refine hK _ ?_;clear hK K
      refine zbg rfl (λhc3=>?_) (λhc3=>?_)
      ·try simp [zG32,zbc,zba] at hc3
       rw [varL_f htx (by omega) (.inr (.inr (by assumption)))]
       refine AW_x rfl rfl λK hK=>?_
       simp (disch:=omega) [zG30,cI,cS,zbs,zgv,-aAppZ]
       refine hK _ ?_;clear hK K
       refine zbo (zb7 [500] [] (by simp [zG31,List.range_succ]) (by simp) ?_)
       simp (disch:=omega) [zG30,cI,cS,zbs,zgv,-aAppZ]
      ·try simp [zG32,zbc,zba] at hc3
       refine zbh ?_
       refine zbm ?_
       refine AW_x rfl rfl λK hK=>?_
       simp (disch:=omega) [zG30,cI,cS,zbs,zgv,-aAppZ]
       repeat' first|(refine ⟨by omega,?_⟩) | fail
       refine hK _ ?_;clear hK K
       refine zb4 rfl rfl λK hK=>?_
       simp (disch:=omega) [zG30,cI,cS,zbs,zgv,-aAppZ]
       refine hK _ ?_;clear hK K
       refine zbm ?_
       refine zb4 rfl rfl λK hK=>?_
       simp (disch:=omega) [zG30,cI,cS,zbs,zgv,-aAppZ]
       refine hK _ ?_;clear hK K
       refine ⟨_,LeS.kx [(500,656)] [(0,.s s),(1,(.g (.int .i64 ((a+(RV (s.drop a.toNat)).2))))),(2,(.g (.int .i64 ((n:Nat))))),(8,.arr 500 0 (l++[(RV (s.drop a.toNat)).1]).length),(9,(.g (.int .i64 (((i+1):Nat)))))] [(500,.own 1 ((l++[(RV (s.drop a.toNat)).1]).map cI))] (by simp [zG31,KpR,renV2,renV,zbj,cI]) (by simp [zG31,KpOX,renO,plO,cvO,renV,pl1,cI];try trace_state) (by rfl) (by simp) (by simp) (by rfl) (by simp [formsX,List.range_succ,zbr,zbz]),_,?_,i+1,l++[(RV (s.drop a.toNat)).1],a+(RV (s.drop a.toNat)).2,rfl,?_,rfl⟩
       ·omega
       ·exact ⟨by omega,by simp;omega,varL_t htx (by omega) (by omega) (by omega) (by assumption)⟩
  ·try simp [zG32,zbc,zba] at hc1
   have hN:n-i=0:=by omega
   rw [hN,varL] at htx
   refine zbw ?_
   refine zbm ?_
   refine AW_x rfl rfl λK hK=>?_
   simp (disch:=omega) [zG30,cI,cS,zbs,zgv,-aAppZ]
   refine hK _ ?_;clear hK K
   refine zbo (zb7 [500] [] (by simp [zG31,List.range_succ]) (by simp) ?_)
   simp (disch:=omega) [zG30,cI,cS,zbs,zgv,-aAppZ]
   (rw [←htx];exact ⟨rfl,rfl,rfl⟩)
end Go.Proofs.YtodmafgmdlkhoaaDoor.Vs
end
section
namespace Go.Proofs.YtodmafgmdlkhoaaDoor.Vs
set_option linter.all false
set_option maxRecDepth 100000
set_option maxHeartbeats 2000000
noncomputable def v1(s:List UInt8)(a:Int):Int:=(RV (s.drop a.toNat)).1
noncomputable def e1(s:List UInt8)(a:Int):Int:=a+(RV (s.drop a.toNat)).2
noncomputable def takeS(s:List UInt8)(a:Int):List UInt8 × Int :=
 if bdV s a=true∨(s.length:Int)-e1 s a<v1 s a then ([],-1) else ((s.drop (e1 s a).toNat).take (v1 s a).toNat,e1 s a+v1 s a)
theorem zm5{s:List UInt8}{a:Int}(h:bdV s a=true):varL s 1 ([],a)=([],-1):=by
 rw [varL,if_pos h]
theorem zf3{s:List UInt8}{a:Int}(h:¬bdV s a=true):varL s 1 ([],a)=([v1 s a],e1 s a):=by
 rw [varL,if_neg h];rfl
theorem zf4{s:List UInt8}{a:Int}(h:¬bdV s a=true):0≤a∧a≤s.length∧0≤v1 s a∧v1 s a≤562949953421311∧a+1≤e1 s a∧e1 s a≤s.length:=by
 unfold bdV at h
 rw [decide_eq_true_iff] at h
 have hb:=RV_bd (s.drop a.toNat)
 have h3:¬(RV (s.drop a.toNat)).2=0:=λe=>h (.inr (.inr e))
 rw [List.length_drop] at hb
 unfold v1 e1
 omega
theorem takeS_f{s:List UInt8}{a:Int}(h:bdV s a=true∨(s.length:Int)-e1 s a<v1 s a):takeS s a=([],-1):=by
 unfold takeS;rw [if_pos h]
theorem takeS_t{s:List UInt8}{a:Int}(h:¬bdV s a=true)(h2:v1 s a≤(s.length:Int)-e1 s a):takeS s a=((s.drop (e1 s a).toNat).take (v1 s a).toNat,e1 s a+v1 s a):=by
 unfold takeS;rw [if_neg λhh=>hh.elim h λh3=>by omega]
theorem l4Take(s:List UInt8)(a:Int)(hs:s.length≤1048576):XCall Tryd.prog 28 [.s s,(.g (.int .i64 (a)))] [] (.tup [.s (takeS s a).1,(.g (.int .i64 ((takeS s a).2)))]) [] []:=by
 have hv:=zgu s a 1 hs (by omega)
 by_cases hb:bdV s a=true
 ·rw [zm5 hb] at hv
  rw [takeS_f (.inl hb)]
  refine zbq Tryd.func28 (by rfl) (by rfl) (by rw [Tryd.ntmps28];exact Nat.le_of_ble_eq_true rfl) rfl (by simp) rfl rfl ?_
  rw [Tryd.ntmps28]
  refine zdk   ?_
  refine AW_k [(0,_),(1,_)] ⟨rfl,rfl,trivial⟩ ?_
  refine AW_x rfl rfl λK hK=>?_
  simp (disch:=omega) [zG30,cI,cS]
  refine hK _ ?_;clear hK K
  refine AW_x rfl rfl λK hK=>?_
  simp (disch:=omega) [zG30,cI,cS]
  repeat' first|(refine zch [] false [] (hv) ?_ ?_ ?_;(focus (simp [List.range_succ,nmC];done));(focus (simp (disch:=omega) [zG30,cI,cS];done));simp (disch:=omega) [zG30,cI,cS]) | fail
  refine hK _ ?_;clear hK K
  refine zbe ?_
  refine AW_x rfl rfl λK hK=>?_
  simp (disch:=omega) [zG30,cI,cS]
  refine hK _ ?_;clear hK K
  refine zbg rfl (λhc1=>?_) (λhc1=>?_)
  ·try simp [zG32,zbc,zba] at hc1
   refine AW_x rfl rfl λK hK=>?_
   simp (disch:=omega) [zG30,cI,cS]
   refine hK _ ?_;clear hK K
   refine zbo (zb7 [] [] (by simp [zG31,List.range_succ]) (by simp) ?_)
   simp (disch:=omega) [zG30,cI,cS]
  ·try simp [zG32,zbc,zba] at hc1
 ·rw [zf3 hb] at hv
  have hbt:=zf4 hb
  generalize hV:v1 s a=v at *
  generalize hE:e1 s a=e at *
  by_cases h2:v≤(s.length:Int)-e
  ·rw [takeS_t hb (by omega),hV,hE]
   refine zbq Tryd.func28 (by rfl) (by rfl) (by rw [Tryd.ntmps28];exact Nat.le_of_ble_eq_true rfl) rfl (by simp) rfl rfl ?_
   rw [Tryd.ntmps28]
   refine zdk   ?_
   refine AW_k [(0,_),(1,_)] ⟨rfl,rfl,trivial⟩ ?_
   refine AW_x rfl rfl λK hK=>?_
   simp (disch:=omega) [zG30,cI,cS]
   refine hK _ ?_;clear hK K
   refine AW_x rfl rfl λK hK=>?_
   simp (disch:=omega) [zG30,cI,cS]
   repeat' first|(refine zch [] false [] (hv) ?_ ?_ ?_;(focus (simp [List.range_succ,nmC];done));(focus (simp (disch:=omega) [zG30,cI,cS];done));simp (disch:=omega) [zG30,cI,cS]) | fail
   refine hK _ ?_;clear hK K
   refine zbe ?_
   refine AW_x rfl rfl λK hK=>?_
   simp (disch:=omega) [zG30,cI,cS]
   repeat' first|(exfalso;omega)|(refine ⟨λ_=>?_,λ_=>?_⟩) | fail
   refine hK _ ?_;clear hK K
   refine zbg rfl (λhc2=>?_) (λhc2=>?_)
   ·try simp [zG32,zbc,zba] at hc2
    refine AW_x rfl rfl λK hK=>?_
    simp (disch:=omega) [zG30,cI,cS]
    repeat' first|(exfalso;omega)
   ·try simp [zG32,zbc,zba] at hc2
    refine zbh ?_
    refine zbm ?_
    refine AW_d rfl mix (by kernel_rfl) (by kernel_rfl) λK hK=>?_
    simp (disch:=omega) [zG30,cI,cS]
    repeat' first|(refine ⟨by omega,?_⟩) | fail
    refine hK _ _ (by kernel_rfl) ?_;clear hK K
    refine zbo (zb7 [] [] (by simp [zG31,List.range_succ]) (by simp) ?_)
    simp (disch:=omega) [zG30,cI,cS]
    omega
  ·rw [takeS_f (.inr (by omega))]
   refine zbq Tryd.func28 (by rfl) (by rfl) (by rw [Tryd.ntmps28];exact Nat.le_of_ble_eq_true rfl) rfl (by simp) rfl rfl ?_
   rw [Tryd.ntmps28]
   refine zdk   ?_
   refine AW_k [(0,_),(1,_)] ⟨rfl,rfl,trivial⟩ ?_
   refine AW_x rfl rfl λK hK=>?_
   simp (disch:=omega) [zG30,cI,cS]
   refine hK _ ?_;clear hK K
   refine AW_x rfl rfl λK hK=>?_
   simp (disch:=omega) [zG30,cI,cS]
   repeat' first|(refine zch [] false [] (hv) ?_ ?_ ?_;(focus (simp [List.range_succ,nmC];done));(focus (simp (disch:=omega) [zG30,cI,cS];done));simp (disch:=omega) [zG30,cI,cS]) | fail
   refine hK _ ?_;clear hK K
   refine zbe ?_
   refine AW_x rfl rfl λK hK=>?_
   simp (disch:=omega) [zG30,cI,cS]
   repeat' first|(exfalso;omega)|(refine ⟨λ_=>?_,λ_=>?_⟩) | fail
   refine hK _ ?_;clear hK K
   refine zbg rfl (λhc3=>?_) (λhc3=>?_)
   ·try simp [zG32,zbc,zba] at hc3
    refine AW_x rfl rfl λK hK=>?_
    simp (disch:=omega) [zG30,cI,cS]
    refine hK _ ?_;clear hK K
    refine zbo (zb7 [] [] (by simp [zG31,List.range_succ]) (by simp) ?_)
    simp (disch:=omega) [zG30,cI,cS]
   ·try simp [zG32,zbc,zba] at hc3
    refine zbh ?_
    refine zbm ?_
    refine AW_d rfl mix (by kernel_rfl) (by kernel_rfl) λK hK=>?_
    simp (disch:=omega) [zG30,cI,cS]
    repeat' first|(exfalso;omega)
noncomputable def readS(s:List UInt8):Nat→List (List UInt8) × Int→List (List UInt8) × Int
 | 0,x=>x
 | n+1,x=>if (takeS s x.2).2<0 then (x.1,-1) else readS s n (x.1++[(takeS s x.2).1],(takeS s x.2).2)
theorem readS_f{s:List UInt8}{n i:Nat}{l:List (List UInt8)}{a:Int}{z:List (List UInt8) × Int}(h:readS s (n-i) (l,a)=z)(hi:i<n)(hb:(takeS s a).2<0):z=(l,-1):=by
 obtain ⟨q,hq⟩:∃q,n-i=q+1:=⟨n-i-1,by omega⟩
 rw [←h,hq,readS,if_pos hb]
theorem readS_t{s:List UInt8}{n i:Nat}{l:List (List UInt8)}{a:Int}{z:List (List UInt8) × Int}(h:readS s (n-i) (l,a)=z)(hi:i<n)(hb:0≤(takeS s a).2):readS s (n-(i+1)) (l++[(takeS s a).1],(takeS s a).2)=z:=by
 have hq:n-i=(n-(i+1))+1:=by omega
 rw [←h,hq,readS,if_neg (show ¬(takeS s (l,a).2).2<0 by simp only;omega)]
theorem zm6(s:List UInt8)(at0:Int)(n:Nat)(hs:s.length≤1048576)(hn:n≤1048576):XCall Tryd.prog 48 [.s s,(.g (.int .i64 (at0))),(.g (.int .i64 ((n:Nat))))] [] (.tup [.arr 16 0 (readS s n ([],at0)).1.length,(.g (.int .i64 ((readS s n ([],at0)).2)))]) [] [.own 1 ((readS s n ([],at0)).1.map cS)]:=by
 refine zbq Tryd.func48 (by rfl) (by rfl) (by rw [Tryd.ntmps48];exact Nat.le_of_ble_eq_true rfl) rfl (by simp) rfl rfl ?_
 rw [Tryd.ntmps48]
 refine zdk   ?_
 refine AW_k [(0,_),(1,_),(2,_)] ⟨rfl,rfl,rfl,trivial⟩ ?_
 refine AW_x rfl rfl λK hK=>?_
 simp (disch:=omega) [zG30,cI,cS,zbs,zgd,-aAppZ]
 refine hK _ ?_;clear hK K
 refine AW_x rfl rfl λK hK=>?_
 simp (disch:=omega) [zG30,cI,cS,zbs,zgd,-aAppZ]
 refine hK _ ?_;clear hK K
 refine zbe ?_
 refine AW_x rfl rfl λK hK=>?_
 simp (disch:=omega) [zG30,cI,cS,zbs,zgd,-aAppZ]
 refine hK _ ?_;clear hK K
 refine zbi ?_
 refine zbt (λmM sS=>∃(i:Nat) (l:List (List UInt8)) (a:Int),mM=n-i∧(i≤n∧l.length=i∧readS s (n-i) (l,a)=readS s n ([],at0))∧sS = { env:=lkE [(0,.s s),(1,(.g (.int .i64 (a)))),(2,(.g (.int .i64 ((n:Nat))))),(8,.arr 500 0 l.length),(9,(.g (.int .i64 ((i:Nat)))))],ob:=lk [(500,.own 1 (l.map cS))] }) ?_ ?_
 ·refine ⟨_,LeS.kx [(500,208)] [(0,.s s),(1,(.g (.int .i64 ((at0))))),(2,(.g (.int .i64 ((n:Nat))))),(8,.arr 500 0 ([]).length),(9,(.g (.int .i64 (((0):Nat)))))] [(500,.own 1 (([]).map cS))] (by simp [zG31,KpR,renV2,renV,zbj,cS]) (by simp [zG31,KpOX,renO,plO,cvO,renV,pl1,cS];try trace_state) (by rfl) (by simp) (by simp) (by rfl) (by simp [formsX,List.range_succ,zbr,zbz]),_,0,[],at0,rfl,?_,rfl⟩
  ·exact ⟨by omega,rfl,rfl⟩
 ·rintro mM sS ⟨i,l,a,rfl,⟨hin,hli,htx⟩,rfl⟩
  refine zbe ?_
  refine AW_x rfl rfl λK hK=>?_
  simp (disch:=omega) [zG30,cI,cS,zbs,zgd,-aAppZ]
  refine hK _ ?_;clear hK K
  refine zbg rfl (λhc4=>?_) (λhc4=>?_)
  ·try simp [zG32,zbc,zba] at hc4
   refine zbh ?_
   refine zbm ?_
   refine zbe ?_
   refine zbi ?_
   refine AW_x rfl rfl λK hK=>?_
   simp (disch:=omega) [zG30,cI,cS,zbs,zgd,-aAppZ]
   repeat' first|(refine zch [] false [] (l4Take s a hs) ?_ ?_ ?_;(focus (simp [List.range_succ,nmC];done));(focus (simp (disch:=omega) [zG30,cI,cS,zbs,zgd,-aAppZ];done));simp (disch:=omega) [zG30,cI,cS,zbs,zgd,-aAppZ]) | fail
   refine hK _ ?_;clear hK K
   refine zbe ?_
   refine AW_x rfl rfl λK hK=>?_
   simp (disch:=omega) [zG30,cI,cS,zbs,zgd,-aAppZ]
   refine hK _ ?_;clear hK K
   refine zbg rfl (λhc5=>?_) (λhc5=>?_)
   ·try simp [zG32,zbc,zba] at hc5
    rw [readS_f htx (by omega) (by omega)]
    refine AW_x rfl rfl λK hK=>?_
    simp (disch:=omega) [zG30,cI,cS,zbs,zgd,-aAppZ]
    refine hK _ ?_;clear hK K
    refine zbo (zb7 [500] [] (by simp [zG31,List.range_succ]) (by simp) ?_)
    simp (disch:=omega) [zG30,cI,cS,zbs,zgd,-aAppZ]
   ·try simp [zG32,zbc,zba] at hc5
    refine zbh ?_
    refine zbm ?_
    refine AW_x rfl rfl λK hK=>?_
    simp (disch:=omega) [zG30,cI,cS,zbs,zgd,-aAppZ]
    repeat' first|(refine ⟨by omega,?_⟩) | fail
    refine hK _ ?_;clear hK K
    refine zb4 rfl rfl λK hK=>?_
    simp (disch:=omega) [zG30,cI,cS,zbs,zgd,-aAppZ]
    refine hK _ ?_;clear hK K
    refine zbm ?_
    refine zb4 rfl rfl λK hK=>?_
    simp (disch:=omega) [zG30,cI,cS,zbs,zgd,-aAppZ]
    refine hK _ ?_;clear hK K
    refine ⟨_,LeS.kx [(500,496)] [(0,.s s),(1,(.g (.int .i64 (((takeS s a).2))))),(2,(.g (.int .i64 ((n:Nat))))),(8,.arr 500 0 (l++[(takeS s a).1]).length),(9,(.g (.int .i64 (((i+1):Nat)))))] [(500,.own 1 ((l++[(takeS s a).1]).map cS))] (by simp [zG31,KpR,renV2,renV,zbj,cS]) (by simp [zG31,KpOX,renO,plO,cvO,renV,pl1,cS];try trace_state) (by rfl) (by simp) (by simp) (by rfl) (by simp [formsX,List.range_succ,zbr,zbz]),_,?_,i+1,l++[(takeS s a).1],(takeS s a).2,rfl,?_,rfl⟩
    ·omega
    ·exact ⟨by omega,by simp;omega,readS_t htx (by omega) (by omega)⟩
  ·try simp [zG32,zbc,zba] at hc4
   have hN:n-i=0:=by omega
   rw [hN,readS] at htx
   refine zbw ?_
   refine zbm ?_
   refine AW_x rfl rfl λK hK=>?_
   simp (disch:=omega) [zG30,cI,cS,zbs,zgd,-aAppZ]
   refine hK _ ?_;clear hK K
   refine zbo (zb7 [500] [] (by simp [zG31,List.range_succ]) (by simp) ?_)
   simp (disch:=omega) [zG30,cI,cS,zbs,zgd,-aAppZ]
   (rw [←htx];exact ⟨rfl,rfl,rfl⟩)
end Go.Proofs.YtodmafgmdlkhoaaDoor.Vs
end
