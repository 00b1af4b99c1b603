import Derived.Test.YtodmafgmdlkhoaaGreatSM2
import Derived.Test.YtodmafgmdlkhoaaGreatSM1
section
namespace Go.Proofs.YtodmafgmdlkhoaaGreat.Vs
set_option linter.all false
set_option maxRecDepth 100000
def snC(l:List DtCSnap):List (List UInt8):=(l.map (·.fChunks)).flatten
def seC(l:List DtCSet):List (List UInt8):=(l.map λs=>snC s.fSnaps).flatten
theorem zqe(l:List DtCSnap)(k:Nat)(h:k<l.length):snC (l.take (k+1))=snC (l.take k)++l[k].fChunks:=by
 unfold snC;rw [List.take_succ_eq_append_getElem h,List.map_append,List.flatten_append];simp only [List.map_cons,List.map_nil,List.flatten_cons,List.flatten_nil,List.append_nil]
theorem zk6(l:List DtCSet)(k:Nat)(h:k<l.length):seC (l.take (k+1))=seC (l.take k)++snC l[k].fSnaps:=by
 unfold seC;rw [List.take_succ_eq_append_getElem h,List.map_append,List.flatten_append];simp only [List.map_cons,List.map_nil,List.flatten_cons,List.flatten_nil,List.append_nil]
theorem snC_len:∀l:List DtCSnap,((snC l).length:Int)≤szS DtCSnap.sz l
 | []=>by simp [snC,szS,zcj]
 | p :: l=>by
  have h1:=snC_len l
  have h2:=len_szS zc6 p.fChunks
  have e:snC (p :: l)=p.fChunks++snC l:=by simp [snC]
  rw [e,List.length_append]
  simp only [szS,zcn,DtCSnap.sz] at *
  simp only [List.length_cons]
  omega
theorem zqf:∀l:List DtCSet,((seC l).length:Int)≤szS DtCSet.sz l
 | []=>by simp [seC,szS,zcj]
 | p :: l=>by
  have h1:=zqf l
  have h2:=snC_len p.fSnaps
  have e:seC (p :: l)=snC p.fSnaps++seC l:=by simp [seC]
  rw [e,List.length_append]
  simp only [szS,zcn,DtCSet.sz] at *
  simp only [List.length_cons]
  omega
/-- The chunks up to the j-th of the k-th of the i-th. -/
theorem pre_len(c:DtCatalog)(hs:DtCatalog.sz c≤1048576)(i:Nat)(hi:i<c.fSets.length)(k:Nat)(hk:k<c.fSets[i].fSnaps.length)(j:Nat):(seC (c.fSets.take i)++snC (c.fSets[i].fSnaps.take k)++c.fSets[i].fSnaps[k].fChunks.take j).length≤1048576:=by
 have h1:=zqf c.fSets
 have h2:seC c.fSets=seC (c.fSets.take i)++(snC c.fSets[i].fSnaps++seC (c.fSets.drop (i+1))):=by
  conv=>lhs;rw [←List.take_append_drop (i+1) c.fSets]
  rw [show ∀a b,seC (a++b)=seC a++seC b from λa b=>by simp [seC],zk6 _ _ hi,List.append_assoc]
 have h3:snC c.fSets[i].fSnaps=snC (c.fSets[i].fSnaps.take k)++(c.fSets[i].fSnaps[k].fChunks++snC (c.fSets[i].fSnaps.drop (k+1))):=by
  conv=>lhs;rw [←List.take_append_drop (k+1) c.fSets[i].fSnaps]
  rw [show ∀a b,snC (a++b)=snC a++snC b from λa b=>by simp [snC],zqe _ _ hk,List.append_assoc]
 have h4:=List.length_take_le' j c.fSets[i].fSnaps[k].fChunks
 have h5:=congrArg List.length h2
 have h6:=congrArg List.length h3
 simp only [List.length_append] at h5 h6 ⊢
 simp only [DtCatalog.sz,szS] at hs h1
 have h7:=zbv DtCSet.sz_nonneg c.fSets
 omega
theorem zxj(c:DtCatalog)(hs:DtCatalog.sz c≤1048576)(i:Nat)(hi:i<c.fSets.length)(k:Nat):(seC (c.fSets.take i)++snC (c.fSets[i].fSnaps.take k)).length≤1048576:=by
 by_cases hk:k<c.fSets[i].fSnaps.length
 ·have:=pre_len c hs i hi k hk 0
  simpa using this
 ·have h1:=zqf c.fSets
  have h2:seC c.fSets=seC (c.fSets.take i)++(snC c.fSets[i].fSnaps++seC (c.fSets.drop (i+1))):=by
   conv=>lhs;rw [←List.take_append_drop (i+1) c.fSets]
   rw [show ∀a b,seC (a++b)=seC a++seC b from λa b=>by simp [seC],zk6 _ _ hi,List.append_assoc]
  have h5:=congrArg List.length h2
  rw [List.take_of_length_le (show c.fSets[i].fSnaps.length≤k by omega)]
  simp only [List.length_append] at h5 ⊢
  simp only [DtCatalog.sz,szS] at hs h1
  have h7:=zbv DtCSet.sz_nonneg c.fSets
  omega
theorem zk7(c:DtCatalog)(hs:DtCatalog.sz c≤1048576)(i:Nat):(seC (c.fSets.take i)).length≤1048576:=by
 by_cases hi:i<c.fSets.length
 ·have:=zxj c hs i hi 0
  simpa [snC] using this
 ·have h1:=zqf c.fSets
  rw [List.take_of_length_le (by omega)]
  simp only [DtCatalog.sz,szS] at hs h1
  have h7:=zbv DtCSet.sz_nonneg c.fSets
  omega
theorem catSz(c:DtCatalog)(hs:DtCatalog.sz c≤1048576):c.fSets.length≤1048576∧(∀i (h:i<c.fSets.length),c.fSets[i].fSnaps.length≤1048576)∧∀i (h:i<c.fSets.length) k (h2:k<c.fSets[i].fSnaps.length),c.fSets[i].fSnaps[k].fChunks.length≤1048576:=by
 have h0:=zbv DtCSet.sz_nonneg c.fSets
 simp only [DtCatalog.sz,szS] at hs
 refine ⟨by omega,λi h=>?_,λi h k h2=>?_⟩
 ·have h1:=zcr DtCSet.sz_nonneg c.fSets c.fSets[i] (List.getElem_mem _)
  have h2:=zbv DtCSnap.sz_nonneg c.fSets[i].fSnaps
  simp only [DtCSet.sz,szS] at h1
  omega
 ·have h1:=zcr DtCSet.sz_nonneg c.fSets c.fSets[i] (List.getElem_mem _)
  have h3:=zcr DtCSnap.sz_nonneg c.fSets[i].fSnaps c.fSets[i].fSnaps[k] (List.getElem_mem _)
  have h4:=zbv zc6 c.fSets[i].fSnaps[k].fChunks
  simp only [DtCSet.sz,szS] at h1
  simp only [DtCSnap.sz,szS] at h3
  omega
noncomputable def allL(c:DtCatalog):List (List UInt8):=bif decB (CatP c) then setT (seC c.fSets) else []
theorem zmq{c:DtCatalog}(h:CatP c):allL c=setT (seC c.fSets):=by unfold allL;rw [zcc h];rfl
theorem zkb{c:DtCatalog}(h:¬CatP c):allL c=[]:=by unfold allL;rw [zco h];rfl
theorem zsp:∀(xs l:List (List UInt8)),(xs.foldl putS l).length≤l.length+xs.length
 | [],l=>by simp
 | x :: xs,l=>by
  have h1:=zsp xs (putS l x)
  have h2:(putS l x).length≤l.length+1:=ins_len x (decide (x∈l)) l
  simp only [List.foldl_cons,List.length_cons]
  omega
theorem compactS(l:List (List UInt8))(hl:l.length≤1048576):XCall Tryz.prog 67 [.arr 8 0 l.length] [.own 1 ((sortS l).map cS)] (.arr 8 0 (setT l).length) [.own 1 ((setT l).map cS)] []:=by
 have:=compactX (sortS l) (by rw [zmp];omega)
 rw [zmp] at this
 exact this
def zG8:=And.intro @zcf (And.intro @gE (And.intro @tP @zbo))
def zG9:=And.intro @zbf @zbn
def zG10:=And.intro @zbr (And.intro @zby @zb0)
theorem zmr(c:DtCatalog)(hs:DtCatalog.sz c≤1048576):XCall Tryz.prog 23 [.agg (DtCatalog.cells c)] [] (.arr 16 0 (allL c).length) [] [.own 1 ((allL c).map cS)]:=by
 have ⟨hl,hl2,hl3⟩:=catSz c hs
 have hsl:=zk7 c hs c.fSets.length
 rw [List.take_length] at hsl
 refine zbu Tryz.func23 (by rfl) (by rfl) (by rw [Tryz.ntmps23];exact Nat.le_of_ble_eq_true rfl) rfl (by simp) rfl rfl ?_
 rw [Tryz.ntmps23]
 refine zjb   ?_
 refine AW_k [(0,_)] ⟨rfl,trivial⟩ ?_
 refine AW_x rfl rfl λK hK=>?_
 simp (disch:=omega) [zG8,DtCatalog.cells,DtCSet.cells,DtCSnap.cells,cS]
 repeat' first|(refine ⟨by omega,?_⟩)|(intro _)
 refine hK _ ?_;clear hK K
 refine zbh ?_
 refine AW_x rfl rfl λK hK=>?_
 simp (disch:=omega) [zG8,DtCatalog.cells,DtCSet.cells,DtCSnap.cells,cS]
 repeat' first|(exfalso;omega)|(refine zdq (zbd (zbz rfl) zbl) (zg6 _ (by omega)) rfl ?_;simp (disch:=omega) [zG8,DtCatalog.cells,DtCSet.cells,DtCSnap.cells,cS])|(refine zdr (zg6 _ (by omega)) (by rfl) ?_ ?_;(focus (simp (disch:=omega) [zG8,DtCatalog.cells,DtCSet.cells,DtCSnap.cells,cS];done));simp (disch:=omega) [zG8,DtCatalog.cells,DtCSet.cells,DtCSnap.cells,cS])|(refine ⟨by omega,?_⟩)|(intro _)
 refine hK _ ?_;clear hK K
 refine zbg rfl (λhc1=>?_) (λhc1=>?_)
 ·try simp [zG9,zbc,zbb] at hc1
  all_goals
   refine AW_x rfl rfl λK hK=>?_
   simp (disch:=omega) [zG8,DtCatalog.cells,DtCSet.cells,DtCSnap.cells,cS]
   repeat' first|(exfalso;omega)|(refine ⟨λ_=>?_,λ_=>?_⟩)|(refine ⟨by omega,?_⟩)|(intro _)
   all_goals (refine hK _ ?_;clear hK K)
   all_goals
    refine zbp (zce [1000] [(1000,1)] (by simp [zG10,List.range_succ]) (by simp) ?_)
    simp (disch:=omega) [zG8,DtCatalog.cells,DtCSet.cells,DtCSnap.cells,cS]
    all_goals first|(rw [zkb hc1];done)|(rw [zkb hc1];simp;done)|(rw [zmq hc1];exact ⟨rfl,rfl⟩) | trace_state
 ·try simp [zG9,zbc,zbb] at hc1
  all_goals
   refine zbi ?_
   refine zbm ?_
   refine AW_x rfl rfl λK hK=>?_
   simp (disch:=omega) [zG8,DtCatalog.cells,DtCSet.cells,DtCSnap.cells,cS]
   repeat' first|(exfalso;omega)|(refine ⟨λ_=>?_,λ_=>?_⟩)|(refine ⟨by omega,?_⟩)|(intro _)
   all_goals (refine hK _ ?_;clear hK K)
   all_goals
    refine zbh ?_
    refine AW_x rfl rfl λK hK=>?_
    simp (disch:=omega) [zG8,DtCatalog.cells,DtCSet.cells,DtCSnap.cells,cS]
    repeat' first|(refine ⟨by omega,?_⟩)|(intro _)
    refine hK _ ?_;clear hK K
    refine zbj ?_
    refine zbs (λmM sS=>∃(i:Nat) (bcc:List (List UInt8)),mM=c.fSets.length-i∧(i≤c.fSets.length∧bcc=seC (c.fSets.take i))∧sS = { env:=lkE [(3,.arr 192 0 bcc.length),(13,.sl 2 (c.fSets.map DtCSet.cells)),(14,(.g (.int .i64 ((c.fSets.length:Nat))))),(15,(.g (.int .i64 ((i:Nat)))))],ob:=lk [(192,.flat 1 (bcc.map cS))] }) ?_ ?_
    ·refine ⟨_,LeS.kx [(192,192)] [(3,.arr 192 0 ([]).length),(13,.sl 2 (c.fSets.map DtCSet.cells)),(14,(.g (.int .i64 ((c.fSets.length:Nat))))),(15,(.g (.int .i64 (((0):Nat)))))] [(192,.flat 1 (([]).map cS))] (by simp [zG10,KpR,renV2,renV,zbk,DtCatalog.cells,DtCSet.cells];try rfl) (by simp [zG10,KpOX,renO,plO,cvO,renV,pl1,DtCatalog.cells,DtCSet.cells];try rfl) (by rfl) (by simp) (by simp) (by rfl) (by simp [formsX,List.range_succ,zbr,zby]),_,0,[],rfl,?_,rfl⟩
     ·simp [seC]
    ·rintro mM sS ⟨i,bcc,rfl,⟨hi,hbcc⟩,rfl⟩
     have hb3:=zk7 c hs i
     refine AW_x rfl rfl λK hK=>?_
     simp (disch:=omega) [zG8,DtCatalog.cells,DtCSet.cells,DtCSnap.cells,cS]
     repeat' first|(refine ⟨by omega,?_⟩)|(intro _)
     refine hK _ ?_;clear hK K
     refine zbh ?_
     refine zbg rfl (λhc2=>?_) (λhc2=>?_)
     ·try simp [zG9,zbc,zbb] at hc2
      all_goals
       have hl2':=hl2 i (by omega)
       have hst:=zk6 c.fSets i (by omega)
       refine zbi ?_
       refine zbm ?_
       refine zbh ?_
       refine zbj ?_
       refine AW_x rfl rfl λK hK=>?_
       simp (disch:=omega) [zG8,DtCatalog.cells,DtCSet.cells,DtCSnap.cells,cS]
       repeat' first|(exfalso;omega)|(refine ⟨λ_=>?_,λ_=>?_⟩)|(refine ⟨by omega,?_⟩)|(intro _)
       all_goals (refine hK _ ?_;clear hK K)
       all_goals
        refine AW_x rfl rfl λK hK=>?_
        simp (disch:=omega) [zG8,DtCatalog.cells,DtCSet.cells,DtCSnap.cells,cS]
        repeat' first|(refine ⟨by omega,?_⟩)|(intro _)
        refine hK _ ?_;clear hK K
        refine zbj ?_
        refine zbs (λmM sS=>∃(k:Nat) (acc:List (List UInt8)),mM=(c.fSets[i]).fSnaps.length-k∧(k≤(c.fSets[i]).fSnaps.length∧acc=seC (c.fSets.take i)++snC ((c.fSets[i]).fSnaps.take k))∧sS = { env:=lkE [(3,.arr 192 0 acc.length),(13,.sl 2 (c.fSets.map DtCSet.cells)),(14,(.g (.int .i64 ((c.fSets.length:Nat))))),(15,(.g (.int .i64 ((i:Nat))))),(20,.sl 3 ((c.fSets[i]).fSnaps.map DtCSnap.cells)),(21,(.g (.int .i64 (((c.fSets[i]).fSnaps.length:Nat))))),(22,(.g (.int .i64 ((k:Nat)))))],ob:=lk [(192,.flat 1 (acc.map cS))] }) ?_ ?_
        ·refine ⟨_,LeS.kx [(192,192)] [(3,.arr 192 0 (bcc).length),(13,.sl 2 (c.fSets.map DtCSet.cells)),(14,(.g (.int .i64 ((c.fSets.length:Nat))))),(15,(.g (.int .i64 ((i:Nat))))),(20,.sl 3 ((c.fSets[i]).fSnaps.map DtCSnap.cells)),(21,(.g (.int .i64 (((c.fSets[i]).fSnaps.length:Nat))))),(22,(.g (.int .i64 (((0):Nat)))))] [(192,.flat 1 ((bcc).map cS))] (by simp [zG10,KpR,renV2,renV,zbk,DtCatalog.cells,DtCSet.cells,DtCSnap.cells];try rfl) (by simp [zG10,KpOX,renO,plO,cvO,renV,pl1,DtCatalog.cells,DtCSet.cells,DtCSnap.cells];try rfl) (by rfl) (by simp) (by simp) (by rfl) (by simp [formsX,List.range_succ,zbr,zby]),_,0,bcc,rfl,?_,rfl⟩
         ·exact ⟨by omega,by rw [hbcc];simp [snC]⟩
        ·rintro mM sS ⟨k,acc,rfl,⟨hk,hacc⟩,rfl⟩
         have hb2:acc.length≤1048576:=by rw [hacc];exact zxj c hs i (by omega) k
         refine AW_x rfl rfl λK hK=>?_
         simp (disch:=omega) [zG8,DtCatalog.cells,DtCSet.cells,DtCSnap.cells,cS]
         repeat' first|(refine ⟨by omega,?_⟩)|(intro _)
         refine hK _ ?_;clear hK K
         refine zbh ?_
         refine zbg rfl (λhc3=>?_) (λhc3=>?_)
         ·try simp [zG9,zbc,zbb] at hc3
          all_goals
           have hl3':=hl3 i (by omega) k (by omega)
           have hsk:=zqe (c.fSets[i]).fSnaps k (by omega)
           refine zbi ?_
           refine zbm ?_
           refine zbh ?_
           refine zbj ?_
           refine AW_x rfl rfl λK hK=>?_
           simp (disch:=omega) [zG8,DtCatalog.cells,DtCSet.cells,DtCSnap.cells,cS]
           repeat' first|(exfalso;omega)|(refine ⟨λ_=>?_,λ_=>?_⟩)|(refine ⟨by omega,?_⟩)|(intro _)
           all_goals (refine hK _ ?_;clear hK K)
           all_goals
            refine zb4 rfl rfl λK hK=>?_
            simp (disch:=omega) [zG8,DtCatalog.cells,DtCSet.cells,DtCSnap.cells,cS]
            repeat' first|(refine ⟨by omega,?_⟩)|(intro _)
            refine hK _ ?_;clear hK K
            refine zbm ?_
            refine zb4 rfl rfl λK hK=>?_
            simp (disch:=omega) [zG8,DtCatalog.cells,DtCSet.cells,DtCSnap.cells,cS]
            repeat' first|(refine ⟨by omega,?_⟩)|(intro _)
            refine hK _ ?_;clear hK K
            refine ⟨_,LeS.kx [(192,480)] [(3,.arr 192 0 (acc++(c.fSets[i]).fSnaps[k].fChunks).length),(13,.sl 2 (c.fSets.map DtCSet.cells)),(14,(.g (.int .i64 ((c.fSets.length:Nat))))),(15,(.g (.int .i64 ((i:Nat))))),(20,.sl 3 ((c.fSets[i]).fSnaps.map DtCSnap.cells)),(21,(.g (.int .i64 (((c.fSets[i]).fSnaps.length:Nat))))),(22,(.g (.int .i64 (((k+1):Nat)))))] [(192,.flat 1 ((acc++(c.fSets[i]).fSnaps[k].fChunks).map cS))] (by simp [zG10,KpR,renV2,renV,zbk,DtCatalog.cells,DtCSet.cells,DtCSnap.cells];try rfl) (by simp [zG10,KpOX,renO,plO,cvO,renV,pl1,DtCatalog.cells,DtCSet.cells,DtCSnap.cells];try rfl) (by rfl) (by simp) (by simp) (by rfl) (by simp [formsX,List.range_succ,zbr,zby]),_,?_,k+1,acc++(c.fSets[i]).fSnaps[k].fChunks,rfl,?_,rfl⟩
            ·omega
            ·exact ⟨by omega,by rw [hacc,hsk,List.append_assoc]⟩
         ·try simp [zG9,zbc,zbb] at hc3
          all_goals
           have hk2:k=(c.fSets[i]).fSnaps.length:=by omega
           subst hk2
           have hfull:acc=seC (c.fSets.take i)++snC c.fSets[i].fSnaps:=by rw [hacc,List.take_length]
           refine zbx ?_
           refine zbm ?_
           refine zb4 rfl rfl λK hK=>?_
           simp (disch:=omega) [zG8,DtCatalog.cells,DtCSet.cells,DtCSnap.cells,cS]
           repeat' first|(exfalso;omega)|(refine ⟨λ_=>?_,λ_=>?_⟩)|(refine ⟨by omega,?_⟩)|(intro _)
           all_goals (refine hK _ ?_;clear hK K)
           all_goals
            refine ⟨_,LeS.kx [(192,192)] [(3,.arr 192 0 (acc).length),(13,.sl 2 (c.fSets.map DtCSet.cells)),(14,(.g (.int .i64 ((c.fSets.length:Nat))))),(15,(.g (.int .i64 (((i+1):Nat)))))] [(192,.flat 1 ((acc).map cS))] (by simp [zG10,KpR,renV2,renV,zbk,DtCatalog.cells,DtCSet.cells];try rfl) (by simp [zG10,KpOX,renO,plO,cvO,renV,pl1,DtCatalog.cells,DtCSet.cells];try rfl) (by rfl) (by simp) (by simp) (by rfl) (by simp [formsX,List.range_succ,zbr,zby]),_,?_,i+1,acc,rfl,?_,rfl⟩
            ·omega
            ·exact ⟨by omega,by rw [hst,hfull]⟩
     ·try simp [zG9,zbc,zbb] at hc2
      all_goals
       have hi2:i=c.fSets.length:=by omega
       subst hi2
       rw [List.take_length] at hbcc
       subst hbcc
       refine zbx ?_
       refine zbm ?_
       refine AW_x rfl rfl λK hK=>?_
       simp (disch:=omega) [zG8,DtCatalog.cells,DtCSet.cells,DtCSnap.cells,cS]
       repeat' first|(exfalso;omega)|(refine zd5 [192] false [] (sortX (seC c.fSets) (by omega)) ?_ ?_ ?_;(focus (simp [List.range_succ,nmC];done));(focus (simp (disch:=omega) [zG8,DtCatalog.cells,DtCSet.cells,DtCSnap.cells,cS];done));simp (disch:=omega) [zG8,DtCatalog.cells,DtCSet.cells,DtCSnap.cells,cS])|(refine ⟨λ_=>?_,λ_=>?_⟩)|(refine ⟨by omega,?_⟩)|(intro _)
       all_goals (refine hK _ ?_;clear hK K)
       all_goals
        refine AW_x rfl rfl λK hK=>?_
        simp (disch:=omega) [zG8,DtCatalog.cells,DtCSet.cells,DtCSnap.cells,cS]
        repeat' first|(exfalso;omega)|(refine zd5 [192] false [] (compactS (seC c.fSets) (by omega)) ?_ ?_ ?_;(focus (simp [List.range_succ,nmC];done));(focus (simp (disch:=omega) [zG8,DtCatalog.cells,DtCSet.cells,DtCSnap.cells,cS];done));simp (disch:=omega) [zG8,DtCatalog.cells,DtCSet.cells,DtCSnap.cells,cS])|(refine ⟨by omega,?_⟩)|(intro _)
        refine hK _ ?_;clear hK K
        refine zbp (zce [192] [] (by simp [zG10,List.range_succ]) (by simp) ?_)
        simp (disch:=omega) [zG8,DtCatalog.cells,DtCSet.cells,DtCSnap.cells,cS]
        all_goals first|(rw [zkb hc1];done)|(rw [zkb hc1];simp;done)|(rw [zmq hc1];exact ⟨rfl,rfl⟩) | trace_state
theorem all_out{c:DtCatalog}{i:Nat}{bcc:List (List UInt8)}(hb:bcc=(seC (c.fSets.take i)).foldl putS [])(hcp:i=0∨CatP c)(h:¬CatP c∨c.fSets.length≤i):allL c=bcc:=by
 by_cases hp:CatP c
 ·have h2:c.fSets.length≤i:=by rcases h with h | h;exact absurd hp h;exact h
  rw [zmq hp,hb,List.take_of_length_le h2,foldS_set]
 ·have h0:i=0:=by rcases hcp with h | h;exact h;exact absurd h hp
  subst h0
  rw [zkb hp,hb];rfl
theorem specAll(c:DtCatalog)(hs:DtCatalog.sz c≤1048576):XCall Tryz.prog 24 [.agg (DtCatalog.cells c)] [] (.arr 16 0 (allL c).length) [] [.own 1 ((allL c).map cS)]:=by
 have ⟨hl,hl2,hl3⟩:=catSz c hs
 have hsl:=zk7 c hs c.fSets.length
 rw [List.take_length] at hsl
 refine zbu Tryz.func24 (by rfl) (by rfl) (by rw [Tryz.ntmps24];exact Nat.le_of_ble_eq_true rfl) rfl (by simp) rfl rfl ?_
 rw [Tryz.ntmps24]
 refine zjb   ?_
 refine AW_k [(0,_)] ⟨rfl,trivial⟩ ?_
 refine AW_x rfl rfl λK hK=>?_
 simp (disch:=omega) [zG8,DtCatalog.cells,DtCSet.cells,DtCSnap.cells,cS]
 repeat' first|(refine ⟨by omega,?_⟩)|(intro _)
 refine hK _ ?_;clear hK K
 refine AW_x rfl rfl λK hK=>?_
 simp (disch:=omega) [zG8,DtCatalog.cells,DtCSet.cells,DtCSnap.cells,cS]
 repeat' first|(refine ⟨by omega,?_⟩)|(intro _)
 refine hK _ ?_;clear hK K
 refine zbh ?_
 refine AW_x rfl rfl λK hK=>?_
 simp (disch:=omega) [zG8,DtCatalog.cells,DtCSet.cells,DtCSnap.cells,cS]
 repeat' first|(refine ⟨by omega,?_⟩)|(intro _)
 refine hK _ ?_;clear hK K
 refine zbj ?_
 refine zbs (λmM sS=>∃(i:Nat) (bcc:List (List UInt8)),mM=c.fSets.length-i∧(i≤c.fSets.length∧bcc=(seC (c.fSets.take i)).foldl putS []∧(i=0∨CatP c))∧sS = { env:=lkE [(1,.ptr 32 0),(3,.arr 128 0 bcc.length),(4,(.g (.int .i64 ((i:Nat)))))],ob:=lk [(32,.cells (DtCatalog.cells c)),(128,.own 1 (bcc.map cS))] }) ?_ ?_
 ·refine ⟨_,LeS.kx [(32,32),(128,128)] [(1,.ptr 32 0),(3,.arr 128 0 ([]).length),(4,(.g (.int .i64 (((0):Nat)))))] [(32,.cells (DtCatalog.cells c)),(128,.own 1 (([]).map cS))] (by simp [zG10,KpR,renV2,renV,zbk,DtCatalog.cells,DtCSet.cells,zqa,scR];try rfl) (by simp [zG10,KpOX,renO,plO,cvO,renV,pl1,DtCatalog.cells,DtCSet.cells,zqa,scR];try rfl) (by rfl) (by simp) (by simp) (by rfl) (by simp [formsX,List.range_succ,zbr,zby]),_,0,[],rfl,?_,rfl⟩
  ·simp [seC]
 ·rintro mM sS ⟨i,bcc,rfl,⟨hi,hbcc,hcp⟩,rfl⟩
  have hb3:=zk7 c hs i
  refine zbh ?_
  refine AW_x rfl rfl λK hK=>?_
  simp (disch:=omega) [zG8,DtCatalog.cells,DtCSet.cells,DtCSnap.cells,cS]
  repeat' first|(exfalso;omega)|(refine zdq (zbd (zbz rfl) zbl) (zc4 _ (by omega)) rfl ?_;simp (disch:=omega) [zG8,DtCatalog.cells,DtCSet.cells,DtCSnap.cells,cS])|(refine zdr (zc4 _ (by omega)) (by rfl) ?_ ?_;(focus (simp (disch:=omega) [zG8,DtCatalog.cells,DtCSet.cells,DtCSnap.cells,cS];done));simp (disch:=omega) [zG8,DtCatalog.cells,DtCSet.cells,DtCSnap.cells,cS])|(refine ⟨λ_=>?_,λ_=>?_⟩)|(refine ⟨by omega,?_⟩)|(intro _)
  all_goals (refine hK _ ?_;clear hK K)
  all_goals
   refine zbg rfl (λhc4=>?_) (λhc4=>?_)
   ·try simp [zG9,zbc,zbb] at hc4
    all_goals
     have hl2':=hl2 i (by omega)
     have hst:=zk6 c.fSets i (by omega)
     refine zbi ?_
     refine zbm ?_
     refine zbh ?_
     refine zbj ?_
     refine AW_x rfl rfl λK hK=>?_
     simp (disch:=omega) [zG8,DtCatalog.cells,DtCSet.cells,DtCSnap.cells,cS]
     repeat' first|(exfalso;omega)|(refine ⟨λ_=>?_,λ_=>?_⟩)|(refine ⟨by omega,?_⟩)|(intro _)
     all_goals (refine hK _ ?_;clear hK K)
     all_goals
      refine zbj ?_
      refine zbs (λmM sS=>∃(k:Nat) (acc:List (List UInt8)),mM=(c.fSets[i]).fSnaps.length-k∧(k≤(c.fSets[i]).fSnaps.length∧acc=(seC (c.fSets.take i)++snC ((c.fSets[i]).fSnaps.take k)).foldl putS [])∧sS = { env:=lkE [(1,.ptr 32 0),(3,.arr 128 0 acc.length),(4,(.g (.int .i64 ((i:Nat))))),(5,(.g (.int .i64 ((k:Nat)))))],ob:=lk [(32,.cells (DtCatalog.cells c)),(128,.own 1 (acc.map cS))] }) ?_ ?_
      ·refine ⟨_,LeS.kx [(32,32),(128,128)] [(1,.ptr 32 0),(3,.arr 128 0 (bcc).length),(4,(.g (.int .i64 ((i:Nat))))),(5,(.g (.int .i64 (((0):Nat)))))] [(32,.cells (DtCatalog.cells c)),(128,.own 1 ((bcc).map cS))] (by simp [zG10,KpR,renV2,renV,zbk,DtCatalog.cells,DtCSet.cells,DtCSnap.cells];try rfl) (by simp [zG10,KpOX,renO,plO,cvO,renV,pl1,DtCatalog.cells,DtCSet.cells,DtCSnap.cells];try rfl) (by rfl) (by simp) (by simp) (by rfl) (by simp [formsX,List.range_succ,zbr,zby]),_,0,bcc,rfl,?_,rfl⟩
       ·exact ⟨by omega,by rw [hbcc];simp [snC]⟩
      ·rintro mM sS ⟨k,acc,rfl,⟨hk,hacc⟩,rfl⟩
       refine zbh ?_
       refine AW_x rfl rfl λK hK=>?_
       simp (disch:=omega) [zG8,DtCatalog.cells,DtCSet.cells,DtCSnap.cells,cS]
       repeat' first|(refine ⟨by omega,?_⟩)|(intro _)
       refine hK _ ?_;clear hK K
       refine zbg rfl (λhc5=>?_) (λhc5=>?_)
       ·try simp [zG9,zbc,zbb] at hc5
        all_goals
         have hl3':=hl3 i (by omega) k (by omega)
         have hsk:=zqe (c.fSets[i]).fSnaps k (by omega)
         refine zbi ?_
         refine zbm ?_
         refine zbh ?_
         refine zbj ?_
         refine AW_x rfl rfl λK hK=>?_
         simp (disch:=omega) [zG8,DtCatalog.cells,DtCSet.cells,DtCSnap.cells,cS]
         repeat' first|(exfalso;omega)|(refine ⟨λ_=>?_,λ_=>?_⟩)|(refine ⟨by omega,?_⟩)|(intro _)
         all_goals (refine hK _ ?_;clear hK K)
         all_goals
          refine zbj ?_
          refine zbs (λmM sS=>∃(j:Nat) (ecc:List (List UInt8)),mM=((c.fSets[i]).fSnaps[k]).fChunks.length-j∧(j≤((c.fSets[i]).fSnaps[k]).fChunks.length∧ecc=(seC (c.fSets.take i)++snC ((c.fSets[i]).fSnaps.take k)++((c.fSets[i]).fSnaps[k]).fChunks.take j).foldl putS [])∧sS = { env:=lkE [(1,.ptr 32 0),(3,.arr 128 0 ecc.length),(4,(.g (.int .i64 ((i:Nat))))),(5,(.g (.int .i64 ((k:Nat))))),(6,(.g (.int .i64 ((j:Nat)))))],ob:=lk [(32,.cells (DtCatalog.cells c)),(128,.own 1 (ecc.map cS))] }) ?_ ?_
          ·refine ⟨_,LeS.kx [(32,32),(128,128)] [(1,.ptr 32 0),(3,.arr 128 0 (acc).length),(4,(.g (.int .i64 ((i:Nat))))),(5,(.g (.int .i64 ((k:Nat))))),(6,(.g (.int .i64 (((0):Nat)))))] [(32,.cells (DtCatalog.cells c)),(128,.own 1 ((acc).map cS))] (by simp [zG10,KpR,renV2,renV,zbk,DtCatalog.cells,DtCSet.cells,DtCSnap.cells];try rfl) (by simp [zG10,KpOX,renO,plO,cvO,renV,pl1,DtCatalog.cells,DtCSet.cells,DtCSnap.cells];try rfl) (by rfl) (by simp) (by simp) (by rfl) (by simp [formsX,List.range_succ,zbr,zby]),_,0,acc,rfl,?_,rfl⟩
           ·exact ⟨by omega,by rw [hacc];simp⟩
          ·rintro mM sS ⟨j,ecc,rfl,⟨hj,hecc⟩,rfl⟩
           have hb2:ecc.length≤1048576:=by rw [hecc];have h1:=zsp (seC (c.fSets.take i)++snC ((c.fSets[i]).fSnaps.take k)++((c.fSets[i]).fSnaps[k]).fChunks.take j) [];have h2:=pre_len c hs i (by omega) k (by omega) j;simp only [List.length_nil] at h1;omega
           refine zbh ?_
           refine AW_x rfl rfl λK hK=>?_
           simp (disch:=omega) [zG8,DtCatalog.cells,DtCSet.cells,DtCSnap.cells,cS]
           repeat' first|(refine ⟨by omega,?_⟩)|(intro _)
           refine hK _ ?_;clear hK K
           refine zbg rfl (λhc6=>?_) (λhc6=>?_)
           ·try simp [zG9,zbc,zbb] at hc6
            all_goals
             have hsj:((c.fSets[i]).fSnaps[k]).fChunks.take (j+1)=((c.fSets[i]).fSnaps[k]).fChunks.take j++[((c.fSets[i]).fSnaps[k]).fChunks[j]]:=List.take_succ_eq_append_getElem (by omega)
             refine zbi ?_
             refine zbm ?_
             refine zbh ?_
             refine zbj ?_
             refine zb4 rfl rfl λK hK=>?_
             simp (disch:=omega) [zG8,DtCatalog.cells,DtCSet.cells,DtCSnap.cells,cS]
             repeat' first|(exfalso;omega)|(refine zd5 [] true [] (putX ecc ((c.fSets[i]).fSnaps[k]).fChunks[j] (by omega)) ?_ ?_ ?_;(focus (simp [List.range_succ,nmC];done));(focus (simp (disch:=omega) [zG8,DtCatalog.cells,DtCSet.cells,DtCSnap.cells,cS];done));simp (disch:=omega) [zG8,DtCatalog.cells,DtCSet.cells,DtCSnap.cells,cS])|(refine ⟨λ_=>?_,λ_=>?_⟩)|(refine ⟨by omega,?_⟩)|(intro _)
             all_goals (refine hK _ ?_;clear hK K)
             all_goals
              refine zbm ?_
              refine zb4 rfl rfl λK hK=>?_
              simp (disch:=omega) [zG8,DtCatalog.cells,DtCSet.cells,DtCSnap.cells,cS]
              repeat' first|(refine ⟨by omega,?_⟩)|(intro _)
              refine hK _ ?_;clear hK K
              refine ⟨_,LeS.kx [(32,32),(128,960)] [(1,.ptr 32 0),(3,.arr 128 0 (putS ecc ((c.fSets[i]).fSnaps[k]).fChunks[j]).length),(4,(.g (.int .i64 ((i:Nat))))),(5,(.g (.int .i64 ((k:Nat))))),(6,(.g (.int .i64 (((j+1):Nat)))))] [(32,.cells (DtCatalog.cells c)),(128,.own 1 ((putS ecc ((c.fSets[i]).fSnaps[k]).fChunks[j]).map cS))] (by simp [zG10,KpR,renV2,renV,zbk,DtCatalog.cells,DtCSet.cells,DtCSnap.cells];try rfl) (by simp [zG10,KpOX,renO,plO,cvO,renV,pl1,DtCatalog.cells,DtCSet.cells,DtCSnap.cells];try rfl) (by rfl) (by simp) (by simp) (by rfl) (by simp [formsX,List.range_succ,zbr,zby]),_,?_,j+1,putS ecc ((c.fSets[i]).fSnaps[k]).fChunks[j],rfl,?_,rfl⟩
              ·omega
              ·exact ⟨by omega,by rw [hsj,←List.append_assoc,List.foldl_append,←hecc];rfl⟩
           ·try simp [zG9,zbc,zbb] at hc6
            all_goals
             have hj2:j=((c.fSets[i]).fSnaps[k]).fChunks.length:=by omega
             subst hj2
             have hful2:ecc=(seC (c.fSets.take i)++snC ((c.fSets[i]).fSnaps.take k)++((c.fSets[i]).fSnaps[k]).fChunks).foldl putS []:=by rw [hecc,List.take_length]
             refine zbx ?_
             refine zbm ?_
             refine zb4 rfl rfl λK hK=>?_
             simp (disch:=omega) [zG8,DtCatalog.cells,DtCSet.cells,DtCSnap.cells,cS]
             repeat' first|(exfalso;omega)|(refine ⟨λ_=>?_,λ_=>?_⟩)|(refine ⟨by omega,?_⟩)|(intro _)
             all_goals (refine hK _ ?_;clear hK K)
             all_goals
              refine ⟨_,LeS.kx [(32,32),(128,128)] [(1,.ptr 32 0),(3,.arr 128 0 (ecc).length),(4,(.g (.int .i64 ((i:Nat))))),(5,(.g (.int .i64 (((k+1):Nat)))))] [(32,.cells (DtCatalog.cells c)),(128,.own 1 ((ecc).map cS))] (by simp [zG10,KpR,renV2,renV,zbk,DtCatalog.cells,DtCSet.cells,DtCSnap.cells];try rfl) (by simp [zG10,KpOX,renO,plO,cvO,renV,pl1,DtCatalog.cells,DtCSet.cells,DtCSnap.cells];try rfl) (by rfl) (by simp) (by simp) (by rfl) (by simp [formsX,List.range_succ,zbr,zby]),_,?_,k+1,ecc,rfl,?_,rfl⟩
              ·omega
              ·exact ⟨by omega,by rw [hsk,←List.append_assoc,hful2]⟩
       ·try simp [zG9,zbc,zbb] at hc5
        all_goals
         have hk2:k=(c.fSets[i]).fSnaps.length:=by omega
         subst hk2
         have hfull:acc=(seC (c.fSets.take i)++snC c.fSets[i].fSnaps).foldl putS []:=by rw [hacc,List.take_length]
         refine zbx ?_
         refine zbm ?_
         refine zb4 rfl rfl λK hK=>?_
         simp (disch:=omega) [zG8,DtCatalog.cells,DtCSet.cells,DtCSnap.cells,cS]
         repeat' first|(exfalso;omega)|(refine ⟨λ_=>?_,λ_=>?_⟩)|(refine ⟨by omega,?_⟩)|(intro _)
         all_goals (refine hK _ ?_;clear hK K)
         all_goals
          refine ⟨_,LeS.kx [(32,32),(128,128)] [(1,.ptr 32 0),(3,.arr 128 0 (acc).length),(4,(.g (.int .i64 (((i+1):Nat)))))] [(32,.cells (DtCatalog.cells c)),(128,.own 1 ((acc).map cS))] (by simp [zG10,KpR,renV2,renV,zbk,DtCatalog.cells,DtCSet.cells,zqa,scR];try rfl) (by simp [zG10,KpOX,renO,plO,cvO,renV,pl1,DtCatalog.cells,DtCSet.cells,zqa,scR];try rfl) (by rfl) (by simp) (by simp) (by rfl) (by simp [formsX,List.range_succ,zbr,zby]),_,?_,i+1,acc,rfl,?_,rfl⟩
          ·omega
          ·exact ⟨by omega,by rw [hst,hfull],.inr (by grind)⟩
   ·try simp [zG9,zbc,zbb] at hc4
    all_goals
     refine zbx ?_
     refine zbm ?_
     refine AW_x rfl rfl λK hK=>?_
     simp (disch:=omega) [zG8,DtCatalog.cells,DtCSet.cells,DtCSnap.cells,cS]
     repeat' first|(exfalso;omega)|(refine ⟨λ_=>?_,λ_=>?_⟩)|(refine ⟨by omega,?_⟩)|(intro _)
     all_goals (refine hK _ ?_;clear hK K)
     all_goals
      refine zbp (zce [128] [] (by simp [zG10,List.range_succ]) (by simp) ?_)
      simp (disch:=omega) [zG8,DtCatalog.cells,DtCSet.cells,DtCSnap.cells,cS]
      all_goals first|(rw [all_out hbcc hcp (.inl (by assumption))];exact ⟨rfl,rfl⟩)|(rw [all_out hbcc hcp (.inr (by omega))];exact ⟨rfl,rfl⟩) | trace_state
end Go.Proofs.YtodmafgmdlkhoaaGreat.Vs
end
section
namespace Go.Proofs.YtodmafgmdlkhoaaGreat.Vs
set_option linter.all false
set_option maxRecDepth 100000
theorem snC_le:∀l:List DtCSnap,(∀p∈l,p.fChunks.length≤4∧∀x∈p.fChunks,x.length=8)→(snC l).length≤4*l.length∧∀x∈snC l,x.length=8
 | [],_=>by simp [snC]
 | p :: l,h=>by
  have h1:=snC_le l λq hq=>h q (by simp [hq])
  have h2:=h p (by simp)
  have e:snC (p :: l)=p.fChunks++snC l:=by simp [snC]
  rw [e,List.length_append]
  refine ⟨by simp only [List.length_cons];omega,λx hx=>?_⟩
  rcases List.mem_append.1 hx with hx | hx
  ·exact h2.2 x hx
  ·exact h1.2 x hx
theorem seC_le:∀l:List DtCSet,(∀s∈l,(snC s.fSnaps).length≤20∧∀x∈snC s.fSnaps,x.length=8)→(seC l).length≤20*l.length∧∀x∈seC l,x.length=8
 | [],_=>by simp [seC]
 | p :: l,h=>by
  have h1:=seC_le l λq hq=>h q (by simp [hq])
  have h2:=h p (by simp)
  have e:seC (p :: l)=snC p.fSnaps++seC l:=by simp [seC]
  rw [e,List.length_append]
  refine ⟨by simp only [List.length_cons];omega,λx hx=>?_⟩
  rcases List.mem_append.1 hx with hx | hx
  ·exact h2.2 x hx
  ·exact h1.2 x hx
theorem seC_cat(c:DtCatalog)(h:CatP c):(seC c.fSets).length≤100∧∀x∈seC c.fSets,x.length=8:=by
 have key:=seC_le c.fSets λs hs=>by
  obtain ⟨i,hi,rfl⟩:=List.mem_iff_getElem.1 hs
  obtain ⟨⟨-,h5,hp⟩,-⟩:=h.2 i _ (List.getElem?_eq_getElem hi)
  have:=snC_le c.fSets[i].fSnaps λp hp'=>by
   obtain ⟨k,hk,rfl⟩:=List.mem_iff_getElem.1 hp'
   obtain ⟨⟨-,-,-,h4,h8⟩,-⟩:=hp k _ (List.getElem?_eq_getElem hk)
   refine ⟨by omega,λx hx=>?_⟩
   obtain ⟨j,hj,rfl⟩:=List.mem_iff_getElem.1 hx
   exact h8 j _ (List.getElem?_eq_getElem hj)
  exact ⟨by omega,this.2⟩
 have h5:=h.1
 exact ⟨by omega,key.2⟩
theorem allL_len(c:DtCatalog):(allL c).length≤100∧∀x∈allL c,x.length=8:=by
 by_cases h:CatP c
 ·rw [zmq h]
  have h1:=setT_len (seC c.fSets)
  have h2:=seC_cat c h
  exact ⟨by omega,λx hx=>h2.2 x ((zk4 _ _).1 hx)⟩
 ·rw [zkb h];simp
end Go.Proofs.YtodmafgmdlkhoaaGreat.Vs
end
section
namespace Go.Proofs.YtodmafgmdlkhoaaGreat.Vs
set_option linter.all false
set_option maxRecDepth 100000
theorem len0{α:Type}(l:List α):((l.length:Int)=0)=(l=[]):=by rw [eq_iff_iff,←List.length_eq_zero_iff];omega
def MayP(s:List UInt8)(must:Bool):Prop:=if must then Word s else s=[]
def zeroCmd:DtCmd:=⟨0,0,0,[],[],[],0,[]⟩
def CmdP(c:DtCmd):Prop:=(c.fKind=0∧c=zeroCmd)∨(1≤c.fKind∧c.fKind≤7∧1≤c.fClient∧c.fClient≤9∧1≤c.fNo∧c.fNo≤1000∧(c.fKind≠7→Word c.fSet)∧(c.fKind=7→c.fSet=[])∧(c.fKind=3∨c.fKind=4→Word c.fName)∧(¬(c.fKind=3∨c.fKind=4)→c.fName=[])∧(c.fKind=4→Word c.fTag)∧(c.fKind≠4→c.fTag=[])∧(c.fN≠0→c.fKind=5∧0≤c.fN∧c.fN≤9)∧(c.fKind=3→1≤c.fChunks.length∧c.fChunks.length≤4∧Ch8 c.fChunks)∧(c.fKind≠3→c.fChunks=[]))
theorem l4May(s:List UInt8)(b:Bool):PCall Tryz.prog 80 [.s s,(.g (.bool (b)))] (.g (.bool (decB (MayP s b)))):=by
 refine zbq Tryz.func80 (by rfl) (by rfl) (by rw [Tryz.ntmps80];exact Nat.le_of_ble_eq_true rfl) rfl (by decide) ?_
 rw [Tryz.ntmps80]
 refine AW_k [(0,_),(1,_)] ⟨rfl,rfl,trivial⟩ ?_
 refine AW_r rfl rfl λK hK=>?_
 simp (disch:=omega)
 repeat' first|(refine ⟨by omega,?_⟩)|(intro _)
 refine hK _ ?_;clear hK K
 refine zbh ?_
 refine AW_r rfl rfl λK hK=>?_
 simp (disch:=omega)
 repeat' first|(refine ⟨by omega,?_⟩)|(intro _)
 refine hK _ ?_;clear hK K
 refine zbg rfl (λhc1=>?_) (λhc1=>?_)
 ·try simp at hc1
  all_goals
   refine AW_r rfl rfl λK hK=>?_
   simp (disch:=omega)
   repeat' first|(exfalso;omega)|(refine zcz (zbd zdg zbl) (l4Word _) rfl ?_;simp (disch:=omega))|(refine ⟨λ_=>?_,λ_=>?_⟩)|(refine ⟨by omega,?_⟩)|(intro _)
   all_goals (refine hK _ ?_;clear hK K)
   all_goals
    refine zbp (zcb ?_)
    simp (disch:=omega)
    all_goals first|(simp_all [MayP];done)|(rw [Bool.eq_iff_iff];simp_all [MayP,zbf])
 ·try simp at hc1
  all_goals
   refine zbi ?_
   refine zbm ?_
   refine AW_r rfl rfl λK hK=>?_
   simp (disch:=omega)
   repeat' first|(exfalso;omega)|(refine ⟨λ_=>?_,λ_=>?_⟩)|(refine ⟨by omega,?_⟩)|(intro _)
   all_goals (refine hK _ ?_;clear hK K)
   all_goals
    refine zbp (zcb ?_)
    simp (disch:=omega)
    all_goals first|(simp_all [MayP];done)|(rw [Bool.eq_iff_iff];simp_all [MayP,zbf])
theorem wordIf(s:List UInt8)(b:Bool)(hs:s.length≤1048576):PCall Tryz.prog 110 [.s s,(.g (.bool (b)))] (.g (.bool (decB (MayP s b)))):=by
 refine zbq Tryz.func110 (by rfl) (by rfl) (by rw [Tryz.ntmps110];exact Nat.le_of_ble_eq_true rfl) rfl (by decide) ?_
 rw [Tryz.ntmps110]
 refine AW_k [(0,_),(1,_)] ⟨rfl,rfl,trivial⟩ ?_
 refine AW_r rfl rfl λK hK=>?_
 simp (disch:=omega)
 repeat' first|(refine ⟨by omega,?_⟩)|(intro _)
 refine hK _ ?_;clear hK K
 refine zbh ?_
 refine AW_r rfl rfl λK hK=>?_
 simp (disch:=omega)
 repeat' first|(refine ⟨by omega,?_⟩)|(intro _)
 refine hK _ ?_;clear hK K
 refine zbg rfl (λhc2=>?_) (λhc2=>?_)
 ·try simp at hc2
  all_goals
   refine AW_r rfl rfl λK hK=>?_
   simp (disch:=omega)
   repeat' first|(exfalso;omega)|(refine zcz (zbd zdg zbl) (isWord _ (by omega)) rfl ?_;simp (disch:=omega))|(refine ⟨λ_=>?_,λ_=>?_⟩)|(refine ⟨by omega,?_⟩)|(intro _)
   all_goals (refine hK _ ?_;clear hK K)
   all_goals
    refine zbp (zcb ?_)
    simp (disch:=omega)
    all_goals first|(simp_all [MayP];done)|(rw [Bool.eq_iff_iff];simp_all [MayP,zbf])
 ·try simp at hc2
  all_goals
   refine zbi ?_
   refine zbm ?_
   refine AW_r rfl rfl λK hK=>?_
   simp (disch:=omega)
   repeat' first|(exfalso;omega)|(refine ⟨λ_=>?_,λ_=>?_⟩)|(refine ⟨by omega,?_⟩)|(intro _)
   all_goals (refine hK _ ?_;clear hK K)
   all_goals
    refine zbp (zcb ?_)
    simp (disch:=omega)
    all_goals first|(simp_all [MayP];done)|(rw [Bool.eq_iff_iff];simp_all [MayP,zbf])
theorem l4Texts(xs ys:List (List UInt8))(hn:xs.length≤1048576):PCall Tryz.prog 123 [.sl 1 (xs.map cS),.sl 1 (ys.map cS)] (.g (.bool (eqB xs ys))):=by
 refine zbq Tryz.func123 (by rfl) (by rfl) (by rw [Tryz.ntmps123];exact Nat.le_of_ble_eq_true rfl) rfl (by decide) ?_
 rw [Tryz.ntmps123]
 refine AW_k [(0,_),(1,_)] ⟨rfl,rfl,trivial⟩ ?_
 refine AW_r rfl rfl λK hK=>?_
 simp (disch:=omega)
 repeat' first|(refine ⟨by omega,?_⟩)|(intro _)
 refine hK _ ?_;clear hK K
 refine zbh ?_
 refine AW_r rfl rfl λK hK=>?_
 simp (disch:=omega)
 repeat' first|(refine ⟨by omega,?_⟩)|(intro _)
 refine hK _ ?_;clear hK K
 refine zbg rfl (λhc3=>?_) (λhc3=>?_)
 ·try simp at hc3
  all_goals
   refine AW_r rfl rfl λK hK=>?_
   simp (disch:=omega)
   repeat' first|(exfalso;omega)|(refine ⟨λ_=>?_,λ_=>?_⟩)|(refine ⟨by omega,?_⟩)|(intro _)
   all_goals (refine hK _ ?_;clear hK K)
   all_goals
    refine zbp (zcb ?_)
    simp (disch:=omega)
    all_goals first|(exact zhl heq)|(refine zg3 λheq=>?_;subst heq;simp_all;done)
 ·try simp at hc3
  all_goals
   refine zbi ?_
   refine zbm ?_
   refine zbh ?_
   refine AW_r rfl rfl λK hK=>?_
   simp (disch:=omega)
   repeat' first|(exfalso;omega)|(refine ⟨λ_=>?_,λ_=>?_⟩)|(refine ⟨by omega,?_⟩)|(intro _)
   all_goals (refine hK _ ?_;clear hK K)
   all_goals
    refine zbj ?_
    refine zbs (λmM sS=>∃(i:Nat),mM=xs.length-i∧(i≤xs.length∧∀j,j<i→xs[j]? = ys[j]?)∧sS = { env:=lkE [(0,.sl 1 (xs.map cS)),(1,.sl 1 (ys.map cS)),(5,(.g (.int .i64 ((i:Nat)))))],ob:=formOb [] [] }) ?_ ?_
    ·refine ⟨_,LeS.kp [(0,.sl 1 (xs.map cS)),(1,.sl 1 (ys.map cS)),(5,(.g (.int .i64 (((0):Nat)))))] (by simp [KpE,zb0,zbk,zbr];try rfl),_,0,rfl,?_,rfl⟩
     ·simp
    ·rintro mM sS ⟨i,rfl,⟨hi,hpre⟩,rfl⟩
     refine zbh ?_
     refine AW_r rfl rfl λK hK=>?_
     simp (disch:=omega) [cS]
     repeat' first|(refine ⟨by omega,?_⟩)|(intro _)
     refine hK _ ?_;clear hK K
     refine zbg rfl (λhc4=>?_) (λhc4=>?_)
     ·try simp at hc4
      all_goals
       have h7:i<ys.length:=by omega
       refine zbi ?_
       refine zbm ?_
       refine zbh ?_
       refine zbj ?_
       refine AW_q rfl mix (by kernel_rfl) rfl λK hK=>?_
       simp (disch:=omega) [cS]
       repeat' first|(exfalso;omega)|(refine ⟨λ_=>?_,λ_=>?_⟩)|(refine ⟨by omega,?_⟩)|(intro _)
       all_goals (refine hK _ ?_;clear hK K)
       all_goals
        refine zbg rfl (λhc5=>?_) (λhc5=>?_)
        ·try simp at hc5
         all_goals
          refine AW_r rfl rfl λK hK=>?_
          simp (disch:=omega) [cS]
          repeat' first|(exfalso;omega)|(refine ⟨λ_=>?_,λ_=>?_⟩)|(refine ⟨by omega,?_⟩)|(intro _)
          all_goals (refine hK _ ?_;clear hK K)
          all_goals
           refine zbp (zcb ?_)
           simp (disch:=omega) [cS]
           all_goals first|(exact zhl heq)|(refine zg3 λheq=>?_;subst heq;simp_all;done)
        ·try simp at hc5
         all_goals
          refine zbi ?_
          refine zbm ?_
          refine zcv rfl rfl λK hK=>?_
          simp (disch:=omega) [cS]
          repeat' first|(exfalso;omega)|(refine ⟨λ_=>?_,λ_=>?_⟩)|(refine ⟨by omega,?_⟩)|(intro _)
          all_goals (refine hK _ ?_;clear hK K)
          all_goals
           refine ⟨_,LeS.kp [(0,.sl 1 (xs.map cS)),(1,.sl 1 (ys.map cS)),(5,(.g (.int .i64 (((i+1):Nat)))))] (by simp [KpE,zb0,zbk,zbr];try rfl),_,?_,i+1,rfl,?_,rfl⟩
           ·omega
           ·refine ⟨by omega,λj hj=>?_⟩
            by_cases hji:j=i
            ·subst hji;simp_all
            ·exact hpre j (by omega)
     ·try simp at hc4
      all_goals
       have hi2:i=xs.length:=by omega
       subst hi2
       have heq:xs=ys:=List.ext_getElem? λj=>by
        by_cases hj:j<xs.length
        ·exact hpre j hj
        ·rw [List.getElem?_eq_none (by omega),List.getElem?_eq_none (by omega)]
       refine zbx ?_
       refine zbm ?_
       refine AW_r rfl rfl λK hK=>?_
       simp (disch:=omega) [cS]
       repeat' first|(exfalso;omega)|(refine ⟨λ_=>?_,λ_=>?_⟩)|(refine ⟨by omega,?_⟩)|(intro _)
       all_goals (refine hK _ ?_;clear hK K)
       all_goals
        refine zbp (zcb ?_)
        simp (disch:=omega) [cS]
        all_goals first|(exact zhl heq)|(refine zg3 λheq=>?_;subst heq;simp_all;done)
theorem equalS(xs ys:List (List UInt8))(hn:xs.length≤1048576):PCall Tryz.prog 149 [.sl 1 (xs.map cS),.sl 1 (ys.map cS)] (.g (.bool (eqB xs ys))):=by
 refine zbq Tryz.func149 (by rfl) (by rfl) (by rw [Tryz.ntmps149];exact Nat.le_of_ble_eq_true rfl) rfl (by decide) ?_
 rw [Tryz.ntmps149]
 refine AW_k [(0,_),(1,_)] ⟨rfl,rfl,trivial⟩ ?_
 refine AW_r rfl rfl λK hK=>?_
 simp (disch:=omega)
 repeat' first|(refine ⟨by omega,?_⟩)|(intro _)
 refine hK _ ?_;clear hK K
 refine zbh ?_
 refine AW_r rfl rfl λK hK=>?_
 simp (disch:=omega)
 repeat' first|(refine ⟨by omega,?_⟩)|(intro _)
 refine hK _ ?_;clear hK K
 refine zbg rfl (λhc6=>?_) (λhc6=>?_)
 ·try simp at hc6
  all_goals
   refine AW_r rfl rfl λK hK=>?_
   simp (disch:=omega)
   repeat' first|(exfalso;omega)|(refine ⟨λ_=>?_,λ_=>?_⟩)|(refine ⟨by omega,?_⟩)|(intro _)
   all_goals (refine hK _ ?_;clear hK K)
   all_goals
    refine zbp (zcb ?_)
    simp (disch:=omega)
    all_goals first|(exact zhl heq)|(refine zg3 λheq=>?_;subst heq;simp_all;done)
 ·try simp at hc6
  all_goals
   refine zbi ?_
   refine zbm ?_
   refine zbh ?_
   refine AW_r rfl rfl λK hK=>?_
   simp (disch:=omega)
   repeat' first|(exfalso;omega)|(refine ⟨λ_=>?_,λ_=>?_⟩)|(refine ⟨by omega,?_⟩)|(intro _)
   all_goals (refine hK _ ?_;clear hK K)
   all_goals
    refine zbj ?_
    refine zbs (λmM sS=>∃(i:Nat),mM=xs.length-i∧(i≤xs.length∧∀j,j<i→xs[j]? = ys[j]?)∧sS = { env:=lkE [(0,.sl 1 (xs.map cS)),(1,.sl 1 (ys.map cS)),(12,(.g (.int .i64 ((xs.length:Nat))))),(13,(.g (.int .i64 ((i:Nat)))))],ob:=formOb [] [] }) ?_ ?_
    ·refine ⟨_,LeS.kp [(0,.sl 1 (xs.map cS)),(1,.sl 1 (ys.map cS)),(12,(.g (.int .i64 ((xs.length:Nat))))),(13,(.g (.int .i64 (((0):Nat)))))] (by simp [KpE,zb0,zbk,zbr];try rfl),_,0,rfl,?_,rfl⟩
     ·simp
    ·rintro mM sS ⟨i,rfl,⟨hi,hpre⟩,rfl⟩
     refine AW_r rfl rfl λK hK=>?_
     simp (disch:=omega) [cS]
     repeat' first|(refine ⟨by omega,?_⟩)|(intro _)
     refine hK _ ?_;clear hK K
     refine zbh ?_
     refine zbg rfl (λhc7=>?_) (λhc7=>?_)
     ·try simp at hc7
      all_goals
       have h7:i<ys.length:=by omega
       refine zbi ?_
       refine zbm ?_
       refine zbh ?_
       refine zbj ?_
       refine AW_r rfl rfl λK hK=>?_
       simp (disch:=omega) [cS]
       repeat' first|(exfalso;omega)|(refine ⟨λ_=>?_,λ_=>?_⟩)|(refine ⟨by omega,?_⟩)|(intro _)
       all_goals (refine hK _ ?_;clear hK K)
       all_goals
        refine AW_q rfl mix (by kernel_rfl) rfl λK hK=>?_
        simp (disch:=omega) [cS]
        repeat' first|(refine ⟨by omega,?_⟩)|(intro _)
        refine hK _ ?_;clear hK K
        refine zbg rfl (λhc8=>?_) (λhc8=>?_)
        ·try simp at hc8
         all_goals
          refine AW_r rfl rfl λK hK=>?_
          simp (disch:=omega) [cS]
          repeat' first|(exfalso;omega)|(refine ⟨λ_=>?_,λ_=>?_⟩)|(refine ⟨by omega,?_⟩)|(intro _)
          all_goals (refine hK _ ?_;clear hK K)
          all_goals
           refine zbp (zcb ?_)
           simp (disch:=omega) [cS]
           all_goals first|(exact zhl heq)|(refine zg3 λheq=>?_;subst heq;simp_all;done)
        ·try simp at hc8
         all_goals
          refine zbi ?_
          refine zbm ?_
          refine zcv rfl rfl λK hK=>?_
          simp (disch:=omega) [cS]
          repeat' first|(exfalso;omega)|(refine ⟨λ_=>?_,λ_=>?_⟩)|(refine ⟨by omega,?_⟩)|(intro _)
          all_goals (refine hK _ ?_;clear hK K)
          all_goals
           refine ⟨_,LeS.kp [(0,.sl 1 (xs.map cS)),(1,.sl 1 (ys.map cS)),(12,(.g (.int .i64 ((xs.length:Nat))))),(13,(.g (.int .i64 (((i+1):Nat)))))] (by simp [KpE,zb0,zbk,zbr];try rfl),_,?_,i+1,rfl,?_,rfl⟩
           ·omega
           ·refine ⟨by omega,λj hj=>?_⟩
            by_cases hji:j=i
            ·subst hji;simp_all
            ·exact hpre j (by omega)
     ·try simp at hc7
      all_goals
       have hi2:i=xs.length:=by omega
       subst hi2
       have heq:xs=ys:=List.ext_getElem? λj=>by
        by_cases hj:j<xs.length
        ·exact hpre j hj
        ·rw [List.getElem?_eq_none (by omega),List.getElem?_eq_none (by omega)]
       refine zbx ?_
       refine zbm ?_
       refine AW_r rfl rfl λK hK=>?_
       simp (disch:=omega) [cS]
       repeat' first|(exfalso;omega)|(refine ⟨λ_=>?_,λ_=>?_⟩)|(refine ⟨by omega,?_⟩)|(intro _)
       all_goals (refine hK _ ?_;clear hK K)
       all_goals
        refine zbp (zcb ?_)
        simp (disch:=omega) [cS]
        all_goals first|(exact zhl heq)|(refine zg3 λheq=>?_;subst heq;simp_all;done)
attribute [local simp] DtCmd.cells
theorem zv9(a b:DtCmd)(hn:a.fChunks.length≤1048576):PCall Tryz.prog 79 [.agg (DtCmd.cells a),.agg (DtCmd.cells b)] (.g (.bool (eqB a b))):=by
 have he:=DtCmd.ext_iff a b
 refine zbq Tryz.func79 (by rfl) (by rfl) (by rw [Tryz.ntmps79];exact Nat.le_of_ble_eq_true rfl) rfl (by decide) ?_
 rw [Tryz.ntmps79]
 refine AW_k [(0,_),(1,_)] ⟨rfl,rfl,trivial⟩ ?_
 refine AW_r rfl rfl λK hK=>?_
 simp
 repeat' first|(refine ⟨by omega,?_⟩)|(intro _)
 refine hK _ ?_;clear hK K
 refine AW_r rfl rfl λK hK=>?_
 simp
 repeat' first|(refine zcz (zbd zdm (zbd zdm zbl)) (l4Texts _ _ (by assumption)) rfl ?_;simp)|(refine ⟨λ_=>?_,λ_=>?_⟩)|(refine ⟨by omega,?_⟩)|(intro _)
 all_goals (refine hK _ ?_;clear hK K)
 all_goals
  refine zbp (zcb ?_)
  simp
  all_goals first|(refine zg3 λh=>?_;rw [he] at h;simp_all;done)|(rw [Bool.eq_iff_iff,zbc,zbc,he];simp_all;done)|(rw [Bool.eq_iff_iff,zbc,he];simp_all [zbc];done)
theorem zwa(a b:DtCmd)(hn:a.fChunks.length≤1048576):PCall Tryz.prog 108 [.agg (DtCmd.cells a),.agg (DtCmd.cells b)] (.g (.bool (eqB a b))):=by
 have he:=DtCmd.ext_iff a b
 refine zbq Tryz.func108 (by rfl) (by rfl) (by rw [Tryz.ntmps108];exact Nat.le_of_ble_eq_true rfl) rfl (by decide) ?_
 rw [Tryz.ntmps108]
 refine AW_k [(0,_),(1,_)] ⟨rfl,rfl,trivial⟩ ?_
 refine AW_r rfl rfl λK hK=>?_
 simp
 repeat' first|(refine ⟨by omega,?_⟩)|(intro _)
 refine hK _ ?_;clear hK K
 refine AW_r rfl rfl λK hK=>?_
 simp
 repeat' first|(refine zcz (zbd zdm (zbd zdm zbl)) (equalS _ _ (by assumption)) rfl ?_;simp)|(refine ⟨λ_=>?_,λ_=>?_⟩)|(refine ⟨by omega,?_⟩)|(intro _)
 all_goals (refine hK _ ?_;clear hK K)
 all_goals
  refine zbp (zcb ?_)
  simp
  all_goals first|(refine zg3 λh=>?_;rw [he] at h;simp_all;done)|(rw [Bool.eq_iff_iff,zbc,zbc,he];simp_all;done)|(rw [Bool.eq_iff_iff,zbc,he];simp_all [zbc];done)
attribute [local simp] zbf zbn
theorem zje(c:DtCmd)(hs:DtCmd.sz c≤1048576):PCall Tryz.prog 29 [.agg (DtCmd.cells c)] (.g (.bool (decB (CmdP c)))):=by
 have ⟨hl,hw1,hw2,hw3⟩:c.fChunks.length≤1048576∧c.fSet.length≤1048576∧c.fName.length≤1048576∧c.fTag.length≤1048576:=by have:=zbv zc6 c.fChunks;simp only [DtCmd.sz,szS] at hs;omega
 refine zbq Tryz.func29 (by rfl) (by rfl) (by rw [Tryz.ntmps29];exact Nat.le_of_ble_eq_true rfl) rfl (by decide) ?_
 rw [Tryz.ntmps29]
 refine AW_k [(0,_)] ⟨rfl,trivial⟩ ?_
 refine AW_r rfl rfl λK hK=>?_
 simp (disch:=omega)
 repeat' first|(refine ⟨by omega,?_⟩)|(intro _)
 refine hK _ ?_;clear hK K
 refine zbh ?_
 refine AW_r rfl rfl λK hK=>?_
 simp (disch:=omega)
 repeat' first|(exfalso;omega)|(refine zcz (zbd zcl (zbd zcl (zbd zcl zbl))) (l1In _ _ _) rfl ?_;simp (disch:=omega))|(refine ⟨by omega,?_⟩)|(intro _)
 refine hK _ ?_;clear hK K
 refine zbg rfl (λhc9=>?_) (λhc9=>?_)
 ·try simp [zG9,zbc,zbb] at hc9
  all_goals
   refine AW_r rfl rfl λK hK=>?_
   simp (disch:=omega)
   repeat' first|(exfalso;omega)|(refine ⟨λ_=>?_,λ_=>?_⟩)|(refine ⟨by omega,?_⟩)|(intro _)
   all_goals (refine hK _ ?_;clear hK K)
   all_goals
    refine zbp (zcb ?_)
    simp (disch:=omega)
    all_goals first | grind [CmdP,MayP,Ch8]|(rw [Bool.eq_iff_iff,zbf,zbc];grind [CmdP,zeroCmd])|(simp only [CmdP,MayP,Ch8] at *;grind)|(rw [Bool.eq_iff_iff,zbf];simp [zbf];grind [CmdP,MayP,Ch8])|(rw [Bool.eq_iff_iff,zbf,zbf];grind [CmdP,MayP,Ch8])|(rw [Bool.eq_iff_iff,zbf,beq_iff_eq,len0];grind [CmdP,MayP,Ch8])
 ·try simp [zG9,zbc,zbb] at hc9
  all_goals
   refine zbi ?_
   refine zbm ?_
   refine zbh ?_
   refine AW_r rfl rfl λK hK=>?_
   simp (disch:=omega)
   repeat' first|(exfalso;omega)|(refine ⟨λ_=>?_,λ_=>?_⟩)|(refine ⟨by omega,?_⟩)|(intro _)
   all_goals (refine hK _ ?_;clear hK K)
   all_goals
    refine zbg rfl (λhc10=>?_) (λhc10=>?_)
    ·try simp [zG9,zbc,zbb] at hc10
     all_goals
      refine AW_r rfl rfl λK hK=>?_
      simp (disch:=omega)
      repeat' first|(exfalso;omega)|(refine zcz (zbd (zbz rfl) (zbd (a:=.agg _) (b:=.agg (DtCmd.cells zeroCmd)) (by simp [DtCmd.cells,zeroCmd,am2_ff,zvh,zvg,am1_gg,am1_ss,am1_nl]) zbl)) (zv9 c zeroCmd hl) rfl ?_;simp (disch:=omega))|(refine ⟨λ_=>?_,λ_=>?_⟩)|(refine ⟨by omega,?_⟩)|(intro _)
      all_goals (refine hK _ ?_;clear hK K)
      all_goals
       refine zbp (zcb ?_)
       simp (disch:=omega)
       all_goals first | grind [CmdP,MayP,Ch8]|(rw [Bool.eq_iff_iff,zbf,zbc];grind [CmdP,zeroCmd])|(simp only [CmdP,MayP,Ch8] at *;grind)|(rw [Bool.eq_iff_iff,zbf];simp [zbf];grind [CmdP,MayP,Ch8])|(rw [Bool.eq_iff_iff,zbf,zbf];grind [CmdP,MayP,Ch8])|(rw [Bool.eq_iff_iff,zbf,beq_iff_eq,len0];grind [CmdP,MayP,Ch8])
    ·try simp [zG9,zbc,zbb] at hc10
     all_goals
      refine zbi ?_
      refine zbm ?_
      refine AW_r rfl rfl λK hK=>?_
      simp (disch:=omega)
      repeat' first|(exfalso;omega)|(refine ⟨λ_=>?_,λ_=>?_⟩)|(refine ⟨by omega,?_⟩)|(intro _)
      all_goals (refine hK _ ?_;clear hK K)
      all_goals
       refine zbh ?_
       refine AW_r rfl rfl λK hK=>?_
       simp (disch:=omega)
       repeat' first|(exfalso;omega)|(refine zcz (zbd zcl (zbd zcl (zbd zcl zbl))) (l1In _ _ _) rfl ?_;simp (disch:=omega))|(refine zcz (zbd zdg (zbd zcl zbl)) (l4May _ _) rfl ?_;simp (disch:=omega))|(refine ⟨λ_=>?_,λ_=>?_⟩)|(refine ⟨by omega,?_⟩)|(intro _)
       all_goals (refine hK _ ?_;clear hK K)
       all_goals
        refine zbg rfl (λhc11=>?_) (λhc11=>?_)
        ·try simp [zG9,zbc,zbb] at hc11
         all_goals
          refine AW_r rfl rfl λK hK=>?_
          simp (disch:=omega)
          repeat' first|(exfalso;omega)|(refine ⟨λ_=>?_,λ_=>?_⟩)|(refine ⟨by omega,?_⟩)|(intro _)
          all_goals (refine hK _ ?_;clear hK K)
          all_goals
           refine zbp (zcb ?_)
           simp (disch:=omega)
           all_goals first | grind [CmdP,MayP,Ch8]|(rw [Bool.eq_iff_iff,zbf,zbc];grind [CmdP,zeroCmd])|(simp only [CmdP,MayP,Ch8] at *;grind)|(rw [Bool.eq_iff_iff,zbf];simp [zbf];grind [CmdP,MayP,Ch8])|(rw [Bool.eq_iff_iff,zbf,zbf];grind [CmdP,MayP,Ch8])|(rw [Bool.eq_iff_iff,zbf,beq_iff_eq,len0];grind [CmdP,MayP,Ch8])
        ·try simp [zG9,zbc,zbb] at hc11
         all_goals
          refine zbi ?_
          refine zbm ?_
          refine zbh ?_
          refine AW_r rfl rfl λK hK=>?_
          simp (disch:=omega)
          repeat' first|(exfalso;omega)|(refine ⟨λ_=>?_,λ_=>?_⟩)|(refine ⟨by omega,?_⟩)|(intro _)
          all_goals (refine hK _ ?_;clear hK K)
          all_goals
           refine zbg rfl (λhc12=>?_) (λhc12=>?_)
           ·try simp [zG9,zbc,zbb] at hc12
            all_goals
             refine AW_r rfl rfl λK hK=>?_
             simp (disch:=omega)
             repeat' first|(exfalso;omega)|(refine ⟨λ_=>?_,λ_=>?_⟩)|(refine ⟨by omega,?_⟩)|(intro _)
             all_goals (refine hK _ ?_;clear hK K)
             all_goals
              refine zbp (zcb ?_)
              simp (disch:=omega)
              all_goals first | grind [CmdP,MayP,Ch8]|(rw [Bool.eq_iff_iff,zbf,zbc];grind [CmdP,zeroCmd])|(simp only [CmdP,MayP,Ch8] at *;grind)|(rw [Bool.eq_iff_iff,zbf];simp [zbf];grind [CmdP,MayP,Ch8])|(rw [Bool.eq_iff_iff,zbf,zbf];grind [CmdP,MayP,Ch8])|(rw [Bool.eq_iff_iff,zbf,beq_iff_eq,len0];grind [CmdP,MayP,Ch8])
           ·try simp [zG9,zbc,zbb] at hc12
            all_goals
             refine zbi ?_
             refine zbm ?_
             refine zbh ?_
             refine AW_r rfl rfl λK hK=>?_
             simp (disch:=omega)
             repeat' first|(exfalso;omega)|(refine zcz (zbd zcl (zbd zcl (zbd zcl zbl))) (l1In _ _ _) rfl ?_;simp (disch:=omega))|(refine ⟨λ_=>?_,λ_=>?_⟩)|(refine ⟨by omega,?_⟩)|(intro _)
             all_goals (refine hK _ ?_;clear hK K)
             all_goals
              refine zbg rfl (λhc13=>?_) (λhc13=>?_)
              ·try simp [zG9,zbc,zbb] at hc13
               all_goals
                refine AW_r rfl rfl λK hK=>?_
                simp (disch:=omega)
                repeat' first|(exfalso;omega)|(refine ⟨λ_=>?_,λ_=>?_⟩)|(refine ⟨by omega,?_⟩)|(intro _)
                all_goals (refine hK _ ?_;clear hK K)
                all_goals
                 refine zbp (zcb ?_)
                 simp (disch:=omega)
                 all_goals first | grind [CmdP,MayP,Ch8]|(rw [Bool.eq_iff_iff,zbf,zbc];grind [CmdP,zeroCmd])|(simp only [CmdP,MayP,Ch8] at *;grind)|(rw [Bool.eq_iff_iff,zbf];simp [zbf];grind [CmdP,MayP,Ch8])|(rw [Bool.eq_iff_iff,zbf,zbf];grind [CmdP,MayP,Ch8])|(rw [Bool.eq_iff_iff,zbf,beq_iff_eq,len0];grind [CmdP,MayP,Ch8])
              ·try simp [zG9,zbc,zbb] at hc13
               all_goals
                refine zbi ?_
                refine zbm ?_
                refine zbh ?_
                refine AW_r rfl rfl λK hK=>?_
                simp (disch:=omega)
                repeat' first|(exfalso;omega)|(refine ⟨λ_=>?_,λ_=>?_⟩)|(refine ⟨by omega,?_⟩)|(intro _)
                all_goals (refine hK _ ?_;clear hK K)
                all_goals
                 refine zbj ?_
                 refine zbs (λmM sS=>∃(i:Nat),mM=c.fChunks.length-i∧(i≤c.fChunks.length∧∀(j:Nat) x,j<i→c.fChunks[j]? = some x→x.length=8)∧sS = { env:=lkE [(1,.ptr 32 0),(4,(.g (.int .i64 ((i:Nat)))))],ob:=upd (formOb [] []) 32 (some (.cells (DtCmd.cells c))) }) ?_ ?_
                 ·refine ⟨_,LeS.kp [(1,.ptr 32 0),(4,(.g (.int .i64 (((0):Nat)))))] (by simp [KpE,zb0,zbk,zbr];try rfl),_,0,rfl,?_,rfl⟩
                  ·simp
                 ·rintro mM sS ⟨i,rfl,⟨hi,hpre⟩,rfl⟩
                  refine zbh ?_
                  refine AW_r rfl rfl λK hK=>?_
                  simp (disch:=omega) [cS]
                  repeat' first|(refine ⟨by omega,?_⟩)|(intro _)
                  refine hK _ ?_;clear hK K
                  refine zbg rfl (λhc14=>?_) (λhc14=>?_)
                  ·try simp [zG9,zbc,zbb] at hc14
                   all_goals
                    have hg:c.fChunks[i]? = some c.fChunks[i]:=List.getElem?_eq_getElem (by omega)
                    refine zbi ?_
                    refine zbm ?_
                    refine zbh ?_
                    refine zbj ?_
                    refine AW_r rfl rfl λK hK=>?_
                    simp (disch:=omega) [cS]
                    repeat' first|(exfalso;omega)|(refine ⟨λ_=>?_,λ_=>?_⟩)|(refine ⟨by omega,?_⟩)|(intro _)
                    all_goals (refine hK _ ?_;clear hK K)
                    all_goals
                     refine zbg rfl (λhc15=>?_) (λhc15=>?_)
                     ·try simp [zG9,zbc,zbb] at hc15
                      all_goals
                       refine AW_r rfl rfl λK hK=>?_
                       simp (disch:=omega) [cS]
                       repeat' first|(exfalso;omega)|(refine ⟨λ_=>?_,λ_=>?_⟩)|(refine ⟨by omega,?_⟩)|(intro _)
                       all_goals (refine hK _ ?_;clear hK K)
                       all_goals
                        refine zbp (zcb ?_)
                        simp (disch:=omega) [cS]
                        all_goals first | grind [CmdP,MayP,Ch8]|(rw [Bool.eq_iff_iff,zbf,zbc];grind [CmdP,zeroCmd])|(simp only [CmdP,MayP,Ch8] at *;grind)|(rw [Bool.eq_iff_iff,zbf];simp [zbf];grind [CmdP,MayP,Ch8])|(rw [Bool.eq_iff_iff,zbf,zbf];grind [CmdP,MayP,Ch8])|(rw [Bool.eq_iff_iff,zbf,beq_iff_eq,len0];grind [CmdP,MayP,Ch8])
                     ·try simp [zG9,zbc,zbb] at hc15
                      all_goals
                       refine zbi ?_
                       refine zbm ?_
                       refine zcv rfl rfl λK hK=>?_
                       simp (disch:=omega) [cS]
                       repeat' first|(exfalso;omega)|(refine ⟨λ_=>?_,λ_=>?_⟩)|(refine ⟨by omega,?_⟩)|(intro _)
                       all_goals (refine hK _ ?_;clear hK K)
                       all_goals
                        refine ⟨_,LeS.kp [(1,.ptr 32 0),(4,(.g (.int .i64 (((i+1):Nat)))))] (by simp [KpE,zb0,zbk,zbr];try rfl),_,?_,i+1,rfl,?_,rfl⟩
                        ·omega
                        ·refine ⟨by omega,?_⟩;grind
                  ·try simp [zG9,zbc,zbb] at hc14
                   all_goals
                    refine zbx ?_
                    refine zbm ?_
                    refine AW_r rfl rfl λK hK=>?_
                    simp (disch:=omega) [cS]
                    repeat' first|(exfalso;omega)|(refine ⟨λ_=>?_,λ_=>?_⟩)|(refine ⟨by omega,?_⟩)|(intro _)
                    all_goals (refine hK _ ?_;clear hK K)
                    all_goals
                     refine zbp (zcb ?_)
                     simp (disch:=omega) [cS]
                     all_goals first | grind [CmdP,MayP,Ch8]|(rw [Bool.eq_iff_iff,zbf,zbc];grind [CmdP,zeroCmd])|(simp only [CmdP,MayP,Ch8] at *;grind)|(rw [Bool.eq_iff_iff,zbf];simp [zbf];grind [CmdP,MayP,Ch8])|(rw [Bool.eq_iff_iff,zbf,zbf];grind [CmdP,MayP,Ch8])|(rw [Bool.eq_iff_iff,zbf,beq_iff_eq,len0];grind [CmdP,MayP,Ch8])
theorem zsq(c:DtCmd)(hs:DtCmd.sz c≤1048576):PCall Tryz.prog 53 [.agg (DtCmd.cells c)] (.g (.bool (decB (CmdP c)))):=by
 have ⟨hl,hw1,hw2,hw3⟩:c.fChunks.length≤1048576∧c.fSet.length≤1048576∧c.fName.length≤1048576∧c.fTag.length≤1048576:=by have:=zbv zc6 c.fChunks;simp only [DtCmd.sz,szS] at hs;omega
 refine zbq Tryz.func53 (by rfl) (by rfl) (by rw [Tryz.ntmps53];exact Nat.le_of_ble_eq_true rfl) rfl (by decide) ?_
 rw [Tryz.ntmps53]
 refine AW_k [(0,_)] ⟨rfl,trivial⟩ ?_
 refine AW_r rfl rfl λK hK=>?_
 simp (disch:=omega)
 repeat' first|(refine ⟨by omega,?_⟩)|(intro _)
 refine hK _ ?_;clear hK K
 refine zbh ?_
 refine AW_r rfl rfl λK hK=>?_
 simp (disch:=omega)
 repeat' first|(refine ⟨by omega,?_⟩)|(intro _)
 refine hK _ ?_;clear hK K
 refine zbg rfl (λhc16=>?_) (λhc16=>?_)
 ·try simp [zG9,zbc,zbb] at hc16
  all_goals
   refine AW_r rfl rfl λK hK=>?_
   simp (disch:=omega)
   repeat' first|(exfalso;omega)|(refine zcz (zbd (zbz rfl) (zbd (a:=.agg _) (b:=.agg (DtCmd.cells zeroCmd)) (by simp [DtCmd.cells,zeroCmd,am2_ff,zvh,zvg,am1_gg,am1_ss,am1_nl]) zbl)) (zwa c zeroCmd hl) rfl ?_;simp (disch:=omega))|(refine ⟨λ_=>?_,λ_=>?_⟩)|(refine ⟨by omega,?_⟩)|(intro _)
   all_goals (refine hK _ ?_;clear hK K)
   all_goals
    refine zbp (zcb ?_)
    simp (disch:=omega)
    all_goals first | grind [CmdP,MayP,Ch8]|(rw [Bool.eq_iff_iff,zbf,zbc];grind [CmdP,zeroCmd])|(simp only [CmdP,MayP,Ch8] at *;grind)|(rw [Bool.eq_iff_iff,zbf];simp [zbf];grind [CmdP,MayP,Ch8])|(rw [Bool.eq_iff_iff,zbf,zbf];grind [CmdP,MayP,Ch8])|(rw [Bool.eq_iff_iff,zbf,beq_iff_eq,len0];grind [CmdP,MayP,Ch8])
 ·try simp [zG9,zbc,zbb] at hc16
  all_goals
   refine zbi ?_
   refine zbm ?_
   refine zbh ?_
   refine AW_r rfl rfl λK hK=>?_
   simp (disch:=omega)
   repeat' first|(exfalso;omega)|(refine zcz (zbd zcl (zbd zcl (zbd zcl zbl))) (zsk _ _ _) rfl ?_;simp (disch:=omega))|(refine ⟨λ_=>?_,λ_=>?_⟩)|(refine ⟨by omega,?_⟩)|(intro _)
   all_goals (refine hK _ ?_;clear hK K)
   all_goals
    refine zbg rfl (λhc17=>?_) (λhc17=>?_)
    ·try simp [zG9,zbc,zbb] at hc17
     all_goals
      refine AW_r rfl rfl λK hK=>?_
      simp (disch:=omega)
      repeat' first|(exfalso;omega)|(refine ⟨λ_=>?_,λ_=>?_⟩)|(refine ⟨by omega,?_⟩)|(intro _)
      all_goals (refine hK _ ?_;clear hK K)
      all_goals
       refine zbp (zcb ?_)
       simp (disch:=omega)
       all_goals first | grind [CmdP,MayP,Ch8]|(rw [Bool.eq_iff_iff,zbf,zbc];grind [CmdP,zeroCmd])|(simp only [CmdP,MayP,Ch8] at *;grind)|(rw [Bool.eq_iff_iff,zbf];simp [zbf];grind [CmdP,MayP,Ch8])|(rw [Bool.eq_iff_iff,zbf,zbf];grind [CmdP,MayP,Ch8])|(rw [Bool.eq_iff_iff,zbf,beq_iff_eq,len0];grind [CmdP,MayP,Ch8])
    ·try simp [zG9,zbc,zbb] at hc17
     all_goals
      refine zbi ?_
      refine zbm ?_
      refine zbh ?_
      refine AW_r rfl rfl λK hK=>?_
      simp (disch:=omega)
      repeat' first|(exfalso;omega)|(refine zcz (zbd zdg (zbd zcl zbl)) (wordIf _ _ (by omega)) rfl ?_;simp (disch:=omega))|(refine ⟨λ_=>?_,λ_=>?_⟩)|(refine ⟨by omega,?_⟩)|(intro _)
      all_goals (refine hK _ ?_;clear hK K)
      all_goals
       refine zbg rfl (λhc18=>?_) (λhc18=>?_)
       ·try simp [zG9,zbc,zbb] at hc18
        all_goals
         refine AW_r rfl rfl λK hK=>?_
         simp (disch:=omega)
         repeat' first|(exfalso;omega)|(refine ⟨λ_=>?_,λ_=>?_⟩)|(refine ⟨by omega,?_⟩)|(intro _)
         all_goals (refine hK _ ?_;clear hK K)
         all_goals
          refine zbp (zcb ?_)
          simp (disch:=omega)
          all_goals first | grind [CmdP,MayP,Ch8]|(rw [Bool.eq_iff_iff,zbf,zbc];grind [CmdP,zeroCmd])|(simp only [CmdP,MayP,Ch8] at *;grind)|(rw [Bool.eq_iff_iff,zbf];simp [zbf];grind [CmdP,MayP,Ch8])|(rw [Bool.eq_iff_iff,zbf,zbf];grind [CmdP,MayP,Ch8])|(rw [Bool.eq_iff_iff,zbf,beq_iff_eq,len0];grind [CmdP,MayP,Ch8])
       ·try simp [zG9,zbc,zbb] at hc18
        all_goals
         refine zbi ?_
         refine zbm ?_
         refine zbh ?_
         refine AW_r rfl rfl λK hK=>?_
         simp (disch:=omega)
         repeat' first|(exfalso;omega)|(refine zcz (zbd zcl (zbd zcl (zbd zcl zbl))) (zsk _ _ _) rfl ?_;simp (disch:=omega))|(refine ⟨λ_=>?_,λ_=>?_⟩)|(refine ⟨by omega,?_⟩)|(intro _)
         all_goals (refine hK _ ?_;clear hK K)
         all_goals
          refine zbg rfl (λhc19=>?_) (λhc19=>?_)
          ·try simp [zG9,zbc,zbb] at hc19
           all_goals
            refine AW_r rfl rfl λK hK=>?_
            simp (disch:=omega)
            repeat' first|(exfalso;omega)|(refine ⟨λ_=>?_,λ_=>?_⟩)|(refine ⟨by omega,?_⟩)|(intro _)
            all_goals (refine hK _ ?_;clear hK K)
            all_goals
             refine zbp (zcb ?_)
             simp (disch:=omega)
             all_goals first | grind [CmdP,MayP,Ch8]|(rw [Bool.eq_iff_iff,zbf,zbc];grind [CmdP,zeroCmd])|(simp only [CmdP,MayP,Ch8] at *;grind)|(rw [Bool.eq_iff_iff,zbf];simp [zbf];grind [CmdP,MayP,Ch8])|(rw [Bool.eq_iff_iff,zbf,zbf];grind [CmdP,MayP,Ch8])|(rw [Bool.eq_iff_iff,zbf,beq_iff_eq,len0];grind [CmdP,MayP,Ch8])
          ·try simp [zG9,zbc,zbb] at hc19
           all_goals
            refine zbi ?_
            refine zbm ?_
            refine zbh ?_
            refine AW_r rfl rfl λK hK=>?_
            simp (disch:=omega)
            repeat' first|(exfalso;omega)|(refine ⟨λ_=>?_,λ_=>?_⟩)|(refine ⟨by omega,?_⟩)|(intro _)
            all_goals (refine hK _ ?_;clear hK K)
            all_goals
             refine zbg rfl (λhc20=>?_) (λhc20=>?_)
             ·try simp [zG9,zbc,zbb] at hc20
              all_goals
               refine AW_r rfl rfl λK hK=>?_
               simp (disch:=omega)
               repeat' first|(exfalso;omega)|(refine zcz (zbd zcl (zbd zcl (zbd zcl zbl))) (zsk _ _ _) rfl ?_;simp (disch:=omega))|(refine zcz (zbd zdm zbl) (zsl _ (by omega)) rfl ?_;simp (disch:=omega))|(refine ⟨λ_=>?_,λ_=>?_⟩)|(refine ⟨by omega,?_⟩)|(intro _)
               all_goals (refine hK _ ?_;clear hK K)
               all_goals
                refine zbp (zcb ?_)
                simp (disch:=omega)
                all_goals first | grind [CmdP,MayP,Ch8]|(rw [Bool.eq_iff_iff,zbf,zbc];grind [CmdP,zeroCmd])|(simp only [CmdP,MayP,Ch8] at *;grind)|(rw [Bool.eq_iff_iff,zbf];simp [zbf];grind [CmdP,MayP,Ch8])|(rw [Bool.eq_iff_iff,zbf,zbf];grind [CmdP,MayP,Ch8])|(rw [Bool.eq_iff_iff,zbf,beq_iff_eq,len0];grind [CmdP,MayP,Ch8])
             ·try simp [zG9,zbc,zbb] at hc20
              all_goals
               refine zbi ?_
               refine zbm ?_
               refine AW_r rfl rfl λK hK=>?_
               simp (disch:=omega)
               repeat' first|(exfalso;omega)|(refine ⟨λ_=>?_,λ_=>?_⟩)|(refine ⟨by omega,?_⟩)|(intro _)
               all_goals (refine hK _ ?_;clear hK K)
               all_goals
                refine zbp (zcb ?_)
                simp (disch:=omega)
                all_goals first | grind [CmdP,MayP,Ch8]|(rw [Bool.eq_iff_iff,zbf,zbc];grind [CmdP,zeroCmd])|(simp only [CmdP,MayP,Ch8] at *;grind)|(rw [Bool.eq_iff_iff,zbf];simp [zbf];grind [CmdP,MayP,Ch8])|(rw [Bool.eq_iff_iff,zbf,zbf];grind [CmdP,MayP,Ch8])|(rw [Bool.eq_iff_iff,zbf,beq_iff_eq,len0];grind [CmdP,MayP,Ch8])
end Go.Proofs.YtodmafgmdlkhoaaGreat.Vs
end
section
namespace Go.Proofs.YtodmafgmdlkhoaaGreat.Vs
set_option linter.all false
set_option maxRecDepth 100000
def SaidAt(l:List DtSaid)(i:Nat)(x:DtSaid):Prop:=1≤x.fClient∧x.fClient≤9∧1≤x.fNo∧x.fNo≤1000∧∀y,0<i→l[i-1]? = some y→y.fClient<x.fClient
def StateP(s:DtState):Prop:=CatP s.fCat∧∀(i:Nat) x,s.fSaid[i]? = some x→SaidAt s.fSaid i x
theorem stateSz(s:DtState)(hs:DtState.sz s≤1048576):DtCatalog.sz s.fCat≤1048576∧s.fSaid.length≤1048576:=by
 have h0:=zbv DtSaid.sz_nonneg s.fSaid
 have h1:=DtCatalog.sz_nonneg s.fCat
 simp only [DtState.sz,szS] at hs
 omega
theorem zms(s:DtState)(hs:DtState.sz s≤1048576):PCall Tryz.prog 72 [.agg (DtState.cells s)] (.g (.bool (decB (StateP s)))):=by
 have ⟨hz,hl⟩:=stateSz s hs
 refine zbq Tryz.func72 (by rfl) (by rfl) (by rw [Tryz.ntmps72];exact Nat.le_of_ble_eq_true rfl) rfl (by decide) ?_
 rw [Tryz.ntmps72]
 refine AW_k [(0,_)] ⟨rfl,trivial⟩ ?_
 refine AW_r rfl rfl λK hK=>?_
 simp (disch:=omega) [zG9,zcf,gE,tP,DtState.cells,DtCatalog.cells,DtSaid.cells]
 repeat' first|(exfalso;omega)|(refine ⟨λ_=>?_,λ_=>?_⟩)|(refine ⟨by omega,?_⟩)|(intro _)
 all_goals (refine hK _ ?_;clear hK K)
 all_goals
  refine zbh ?_
  refine AW_r rfl rfl λK hK=>?_
  simp (disch:=omega) [zG9,zcf,gE,tP,DtState.cells,DtCatalog.cells,DtSaid.cells]
  repeat' first|(exfalso;omega)|(refine zcz (zbd (zbz rfl) zbl) (zc4 _ (by omega)) rfl ?_;simp (disch:=omega) [zG9,zcf,gE,tP,DtState.cells,DtCatalog.cells,DtSaid.cells])|(refine ⟨λ_=>?_,λ_=>?_⟩)|(refine ⟨by omega,?_⟩)|(intro _)
  all_goals (refine hK _ ?_;clear hK K)
  all_goals
   refine zbg rfl (λhc1=>?_) (λhc1=>?_)
   ·try simp [zG9,zbc,zbb] at hc1
    all_goals
     refine AW_r rfl rfl λK hK=>?_
     simp (disch:=omega) [zG9,zcf,gE,tP,DtState.cells,DtCatalog.cells,DtSaid.cells]
     repeat' first|(exfalso;omega)|(refine ⟨λ_=>?_,λ_=>?_⟩)|(refine ⟨by omega,?_⟩)|(intro _)
     all_goals (refine hK _ ?_;clear hK K)
     all_goals
      refine zbp (zcb ?_)
      simp (disch:=omega) [zG9,zcf,gE,tP,DtState.cells,DtCatalog.cells,DtSaid.cells]
      all_goals first | grind [StateP,SaidAt]|(refine zco λh=>?_;grind [StateP,SaidAt])|(refine zcc ?_;grind [StateP,SaidAt])
   ·try simp [zG9,zbc,zbb] at hc1
    all_goals
     refine zbi ?_
     refine zbm ?_
     refine zbh ?_
     refine AW_r rfl rfl λK hK=>?_
     simp (disch:=omega) [zG9,zcf,gE,tP,DtState.cells,DtCatalog.cells,DtSaid.cells]
     repeat' first|(exfalso;omega)|(refine ⟨λ_=>?_,λ_=>?_⟩)|(refine ⟨by omega,?_⟩)|(intro _)
     all_goals (refine hK _ ?_;clear hK K)
     all_goals
      refine zbj ?_
      refine zbs (λmM sS=>∃(i:Nat),mM=s.fSaid.length-i∧(i≤s.fSaid.length∧∀(j:Nat) x,j<i→s.fSaid[j]? = some x→SaidAt s.fSaid j x)∧sS = { env:=lkE [(1,.ptr 32 0),(3,(.g (.int .i64 ((i:Nat)))))],ob:=lk [(32,.cells (DtState.cells s))] }) ?_ ?_
      ·refine ⟨_,LeS.ko [(1,.ptr 32 0),(3,(.g (.int .i64 (((0):Nat)))))] [(32,.cells (DtState.cells s))] (by simp [KpE,zb0,zbk,zbr,DtState.cells,DtCatalog.cells];try rfl) (by simp [zG10,KpO,zcd,DtState.cells,DtCatalog.cells];try rfl) (by rfl) (by simp) (by rfl),_,0,rfl,?_,rfl⟩
       ·simp
      ·rintro mM sS ⟨i,rfl,⟨hi,hpre⟩,rfl⟩
       refine zbh ?_
       refine AW_r rfl rfl λK hK=>?_
       simp (disch:=omega) [zG9,zcf,gE,tP,DtState.cells,DtCatalog.cells,DtSaid.cells]
       repeat' first|(exfalso;omega)|(refine ⟨λ_=>?_,λ_=>?_⟩)|(refine ⟨by omega,?_⟩)|(intro _)
       all_goals (refine hK _ ?_;clear hK K)
       all_goals
        refine zbg rfl (λhc2=>?_) (λhc2=>?_)
        ·try simp [zG9,zbc,zbb] at hc2
         all_goals
          have hg:s.fSaid[i]? = some s.fSaid[i]:=List.getElem?_eq_getElem (by omega)
          have hg':s.fSaid[i-1]? = some s.fSaid[i-1]:=List.getElem?_eq_getElem (by omega)
          rcases Nat.eq_zero_or_pos i with hi0 | hi0
          all_goals
           refine zbi ?_
           refine zbm ?_
           refine zbh ?_
           refine zbj ?_
           refine AW_r rfl rfl λK hK=>?_
           simp (disch:=omega) [zG9,zcf,gE,tP,DtState.cells,DtCatalog.cells,DtSaid.cells]
           repeat' first|(exfalso;omega)|(refine ⟨λ_=>?_,λ_=>?_⟩)|(refine ⟨by omega,?_⟩)|(intro _)
           all_goals (refine hK _ ?_;clear hK K)
           all_goals
            refine AW_q rfl mix (by kernel_rfl) rfl λK hK=>?_
            simp (disch:=omega) [zG9,zcf,gE,tP,DtState.cells,DtCatalog.cells,DtSaid.cells]
            repeat' first|(exfalso;omega)|(refine zcz (zbd zcl (zbd zcl (zbd zcl zbl))) (l1In _ _ _) rfl ?_;simp (disch:=omega) [zG9,zcf,gE,tP,DtState.cells,DtCatalog.cells,DtSaid.cells])|(refine ⟨λ_=>?_,λ_=>?_⟩)|(refine ⟨by omega,?_⟩)|(intro _)
            all_goals (refine hK _ ?_;clear hK K)
            all_goals
             refine zbg rfl (λhc3=>?_) (λhc3=>?_)
             ·try simp [zG9,zbc,zbb] at hc3
              all_goals
               refine AW_r rfl rfl λK hK=>?_
               simp (disch:=omega) [zG9,zcf,gE,tP,DtState.cells,DtCatalog.cells,DtSaid.cells]
               repeat' first|(exfalso;omega)|(refine ⟨λ_=>?_,λ_=>?_⟩)|(refine ⟨by omega,?_⟩)|(intro _)
               all_goals (refine hK _ ?_;clear hK K)
               all_goals
                refine zbp (zcb ?_)
                simp (disch:=omega) [zG9,zcf,gE,tP,DtState.cells,DtCatalog.cells,DtSaid.cells]
                all_goals first | grind [StateP,SaidAt]|(refine zco λh=>?_;grind [StateP,SaidAt])|(refine zcc ?_;grind [StateP,SaidAt])
             ·try simp [zG9,zbc,zbb] at hc3
              all_goals
               refine zbi ?_
               refine zbm ?_
               refine zcv rfl rfl λK hK=>?_
               simp (disch:=omega) [zG9,zcf,gE,tP,DtState.cells,DtCatalog.cells,DtSaid.cells]
               repeat' first|(exfalso;omega)|(refine ⟨λ_=>?_,λ_=>?_⟩)|(refine ⟨by omega,?_⟩)|(intro _)
               all_goals (refine hK _ ?_;clear hK K)
               all_goals
                refine ⟨_,LeS.ko [(1,.ptr 32 0),(3,(.g (.int .i64 (((i+1):Nat)))))] [(32,.cells (DtState.cells s))] (by simp [KpE,zb0,zbk,zbr,DtState.cells,DtCatalog.cells];try rfl) (by simp [zG10,KpO,zcd,DtState.cells,DtCatalog.cells];try rfl) (by rfl) (by simp) (by rfl),_,?_,i+1,rfl,?_,rfl⟩
                ·omega
                ·refine ⟨by omega,?_⟩;clear hg';grind [SaidAt]
        ·try simp [zG9,zbc,zbb] at hc2
         all_goals
          refine zbx ?_
          refine zbm ?_
          refine AW_r rfl rfl λK hK=>?_
          simp (disch:=omega) [zG9,zcf,gE,tP,DtState.cells,DtCatalog.cells,DtSaid.cells]
          repeat' first|(exfalso;omega)|(refine ⟨λ_=>?_,λ_=>?_⟩)|(refine ⟨by omega,?_⟩)|(intro _)
          all_goals (refine hK _ ?_;clear hK K)
          all_goals
           refine zbp (zcb ?_)
           simp (disch:=omega) [zG9,zcf,gE,tP,DtState.cells,DtCatalog.cells,DtSaid.cells]
           all_goals first | grind [StateP,SaidAt]|(refine zco λh=>?_;grind [StateP,SaidAt])|(refine zcc ?_;grind [StateP,SaidAt])
end Go.Proofs.YtodmafgmdlkhoaaGreat.Vs
end
