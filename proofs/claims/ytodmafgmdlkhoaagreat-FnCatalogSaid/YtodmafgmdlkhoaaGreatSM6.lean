import Derived.Test.YtodmafgmdlkhoaaGreatSM5
section
namespace Go.Proofs.YtodmafgmdlkhoaaGreat.Vs
set_option linter.all false
set_option maxRecDepth 100000
attribute [local simp] DtCSet.cells zbo List.set_set List.getD_eq_getElem?_getD zck
noncomputable def pruS(s:DtCSet)(n:Int):DtCSet:={ fName:=s.fName,fSnaps:=prn ((bareN s.fSnaps:Int)-n) 0 s.fSnaps }
theorem zmx(l:List DtCSnap)(n:Int)(h5:l.length≤5)(h0:0≤n):0≤goneN l n∧goneN l n≤5∧(goneN l n).toNat<10∧((goneN l n).toNat:Int)=goneN l n:=by
 have:=zla l
 unfold goneN
 omega
def zG16:=And.intro @zb0 (And.intro @zbr @zby)
def zG17:=And.intro @List.range_succ (And.intro @zbr @zby)
def zG18:=And.intro @zbf @zbn
theorem pruneX(l:List DtCSet)(hl:l.length≤1048576)(k:Nat)(hk:k<l.length)(h5:l[k].fSnaps.length≤5)(n:Int)(hn:0≤n∧n≤1048576):XCall Tryz.prog 60 [.eptr 8 k 0,(.g (.int .i64 (n)))] [.own 2 (l.map DtCSet.cells)] (.s (digN (goneN l[k].fSnaps n).toNat)) [.own 2 ((l.set k (pruS l[k] n)).map DtCSet.cells)] []:=by
 obtain ⟨hg0,hg5,hg10,hgn⟩:=zmx l[k].fSnaps n h5 hn.1
 refine zbu Tryz.func60 (by rfl) (by rfl) (by rw [Tryz.ntmps60];exact Nat.le_of_ble_eq_true rfl) rfl (by simp) rfl rfl ?_
 rw [Tryz.ntmps60]
 refine zhs (.own 2 (l.map DtCSet.cells)) (by simp [cvO]<;>assumption) ?_
 refine AW_k [(0,_),(1,_)] ⟨rfl,rfl,trivial⟩ ?_
 refine zft 8 901 902 k hk (by simp [zG16]) (by simp [zG16]) (by simp [zG16]) (by decide) (by decide) (by decide) λzs hz=>?_
 have hkz:k<zs.length:=by rw [←hz] at hk;simpa using hk
 have hset:=@zmv zs k hkz
 refine zf9 (us:=l[k].fSnaps) 902 903 (by simp [zG16]) (by simp [zG16]) λys hys hone=>?_
 have hyl:ys.length=l[k].fSnaps.length:=by rw [←hys];simp
 refine AW_x rfl rfl λK hK=>?_
 simp (disch:=omega) [hset,hgn]
 repeat' first|(refine ⟨by omega,?_⟩)|(intro _)
 refine hK _ ?_;clear hK K
 refine AW_x rfl rfl λK hK=>?_
 simp (disch:=omega) [hset,hgn]
 repeat' first|(refine ⟨by omega,?_⟩)|(intro _)
 refine hK _ ?_;clear hK K
 refine zbh ?_
 refine AW_x rfl rfl λK hK=>?_
 simp (disch:=omega) [hset,hgn]
 repeat' first|(refine ⟨by omega,?_⟩)|(simp (disch:=omega) [hset,hgn])|(intro _)
 refine hK _ ?_;clear hK K
 refine zbj ?_
 refine zbs (λmM sS=>∃(i:Nat),mM=ys.length-i∧(i≤ys.length)∧sS = { env:=lkE [(0,.eptr 8 k 0),(5,(.g (.int .i64 (-n+(bareN (l[k].fSnaps.take i):Nat))))),(17,.arr 902 0 l[k].fSnaps.length),(18,(.g (.int .i64 ((l[k].fSnaps.length:Nat))))),(19,(.g (.int .i64 ((i:Nat)))))],ob:=lk [(8,.win 2 ((zs.map setV).set k [.s l[k].fName,.arr 902 0 l[k].fSnaps.length])),(901,.park ((zs.take k).flatMap setP++(zs.drop (k+1)).flatMap setP)),(902,.win 3 (ys.map snapV)),(903,.park (ys.flatMap snapP))] }) ?_ ?_
 ·refine ⟨_,LeS.kw [(8,8),(901,901),(902,902),(903,903)] [(0,.eptr 8 k 0),(5,(.g (.int .i64 (-n+(bareN (l[k].fSnaps.take (0)):Nat))))),(17,.arr 902 0 l[k].fSnaps.length),(18,(.g (.int .i64 ((l[k].fSnaps.length:Nat))))),(19,(.g (.int .i64 (((0):Nat)))))] [(8,.win 2 ((zs.map setV).set k [.s l[k].fName,.arr 902 0 l[k].fSnaps.length])),(901,.park ((zs.take k).flatMap setP++(zs.drop (k+1)).flatMap setP)),(902,.win 3 (ys.map snapV)),(903,.park (ys.flatMap snapP))] (by simp [zG16,KpR,renV2,renV,zbk,zca,zck];try (simp [bareN];done)) (by simp [zG16,KpOW,wnO,renO,plO,cvO,renV,pl1,zca,zck];first | exact .inr (zho (zbw zs) ⟨rfl,rfl,rfl⟩) | trace_state) (by rfl) (by simp) (by simp) (by rfl) (by simp [zG17,formsX]),_,0,rfl,?_,rfl⟩
  ·simp
 ·rintro mM sS ⟨i,rfl,hi,rfl⟩
  refine AW_x rfl rfl λK hK=>?_
  simp (disch:=omega) [hset,hgn]
  repeat' first|(refine ⟨by omega,?_⟩)|(intro _)
  refine hK _ ?_;clear hK K
  refine zbh ?_
  refine zbg rfl (λhc1=>?_) (λhc1=>?_)
  ·try simp [zG18,zbc,zbb] at hc1
   all_goals
    have hbl:bareN (l[k].fSnaps.take i)≤5:=by have h:=zla (l[k].fSnaps.take i);rw [List.length_take] at h;omega
    have hyi : ys[i].1 = l[k].fSnaps[i] := by have h : (ys.map (·.1))[i]'(by simp; omega) = l[k].fSnaps[i] := by simp only [hys]
                                              simpa using h
    have hv1:(ys[i].2 2).oneCell'=true:=hone _ (List.getElem_mem _) 2
    simp only [Value.oneCell'] at hv1
    have hbt:=zjg l[k].fSnaps i (by omega)
    rw [←hyi] at hbt
    refine zbi ?_
    refine zbm ?_
    refine zbh ?_
    refine zbj ?_
    refine AW_x rfl rfl λK hK=>?_
    simp (disch:=omega) [hset,hgn,hv1]
    repeat' first|(exfalso;omega)|(refine ⟨λ_=>?_,λ_=>?_⟩)|(refine ⟨by omega,?_⟩)|(simp (disch:=omega) [hset,hgn,hv1])|(intro _)
    all_goals (refine hK _ ?_;clear hK K)
    all_goals
     refine AW_x rfl rfl λK hK=>?_
     simp (disch:=omega) [hset,hgn,hv1]
     repeat' first|(refine ⟨by omega,?_⟩)|(intro _)
     refine hK _ ?_;clear hK K
     refine zbg rfl (λhc2=>?_) (λhc2=>?_)
     ·try simp [zG18,zbc,zbb] at hc2
      all_goals
       refine zb4 rfl rfl λK hK=>?_
       simp (disch:=omega) [hset,hgn,hv1]
       repeat' first|(exfalso;omega)|(refine ⟨λ_=>?_,λ_=>?_⟩)|(refine ⟨by omega,?_⟩)|(simp (disch:=omega) [hset,hgn,hv1])|(intro _)
       all_goals (refine hK _ ?_;clear hK K)
       all_goals
        refine zbm ?_
        refine zb4 rfl rfl λK hK=>?_
        simp (disch:=omega) [hset,hgn,hv1]
        repeat' first|(refine ⟨by omega,?_⟩)|(intro _)
        refine hK _ ?_;clear hK K
        refine ⟨_,LeS.kw [(8,8),(901,901),(902,902),(903,903)] [(0,.eptr 8 k 0),(5,(.g (.int .i64 (-n+(bareN (l[k].fSnaps.take (i+1)):Nat))))),(17,.arr 902 0 l[k].fSnaps.length),(18,(.g (.int .i64 ((l[k].fSnaps.length:Nat))))),(19,(.g (.int .i64 (((i+1):Nat)))))] [(8,.win 2 ((zs.map setV).set k [.s l[k].fName,.arr 902 0 l[k].fSnaps.length])),(901,.park ((zs.take k).flatMap setP++(zs.drop (k+1)).flatMap setP)),(902,.win 3 (ys.map snapV)),(903,.park (ys.flatMap snapP))] (by simp [zG16,KpR,renV2,renV,zbk,zca,zck];try (first | omega|(rw [hbt];split<;>first | omega|(exfalso;simp_all;done)))) (by simp [zG16,KpOW,wnO,renO,plO,cvO,renV,pl1,zca,zck];first | exact .inr (zho (zbw zs) ⟨rfl,rfl,rfl⟩) | trace_state) (by rfl) (by simp) (by simp) (by rfl) (by simp [zG17,formsX]),_,?_,i+1,rfl,?_,rfl⟩
        ·omega
        ·omega
     try simp [zG18,zbc,zbb] at hc2
     refine zbi ?_
     refine zbm ?_
     refine zb4 rfl rfl λK hK=>?_
     simp (disch:=omega) [hset,hgn,hv1]
     repeat' first|(exfalso;omega)|(refine ⟨λ_=>?_,λ_=>?_⟩)|(refine ⟨by omega,?_⟩)|(simp (disch:=omega) [hset,hgn,hv1])|(intro _)
     all_goals (refine hK _ ?_;clear hK K)
     all_goals
      refine ⟨_,LeS.kw [(8,8),(901,901),(902,902),(903,903)] [(0,.eptr 8 k 0),(5,(.g (.int .i64 (-n+(bareN (l[k].fSnaps.take (i+1)):Nat))))),(17,.arr 902 0 l[k].fSnaps.length),(18,(.g (.int .i64 ((l[k].fSnaps.length:Nat))))),(19,(.g (.int .i64 (((i+1):Nat)))))] [(8,.win 2 ((zs.map setV).set k [.s l[k].fName,.arr 902 0 l[k].fSnaps.length])),(901,.park ((zs.take k).flatMap setP++(zs.drop (k+1)).flatMap setP)),(902,.win 3 (ys.map snapV)),(903,.park (ys.flatMap snapP))] (by simp [zG16,KpR,renV2,renV,zbk,zca,zck];try (first | omega|(rw [hbt];split<;>first | omega|(exfalso;simp_all;done)))) (by simp [zG16,KpOW,wnO,renO,plO,cvO,renV,pl1,zca,zck];first | exact .inr (zho (zbw zs) ⟨rfl,rfl,rfl⟩) | trace_state) (by rfl) (by simp) (by simp) (by rfl) (by simp [zG17,formsX]),_,?_,i+1,rfl,?_,rfl⟩
      ·omega
      ·omega
  try simp [zG18,zbc,zbb] at hc1
  have hti:l[k].fSnaps.take i=l[k].fSnaps:=List.take_of_length_le (by omega)
  refine zbx ?_
  refine zbm ?_
  refine AW_x rfl rfl λK hK=>?_
  simp (disch:=omega) [hset,hgn]
  repeat' first|(exfalso;omega)|(refine ⟨λ_=>?_,λ_=>?_⟩)|(refine ⟨by omega,?_⟩)|(simp (disch:=omega) [hset,hgn])|(intro _)
  all_goals (refine hK _ ?_;clear hK K)
  all_goals
   refine AW_x rfl rfl λK hK=>?_
   simp (disch:=omega) [hset,hgn]
   repeat' first|(refine ⟨by omega,?_⟩)|(simp (disch:=omega) [hset,hgn])|(intro _)
   refine hK _ ?_;clear hK K
   refine AW_x rfl rfl λK hK=>?_
   simp (disch:=omega) [hset,hgn]
   repeat' first|(refine ⟨by omega,?_⟩)|(intro _)
   refine hK _ ?_;clear hK K
   refine zbh ?_
   refine AW_x rfl rfl λK hK=>?_
   simp (disch:=omega) [hset,hgn]
   repeat' first|(refine ⟨by omega,?_⟩)|(simp (disch:=omega) [hset,hgn])|(intro _)
   refine hK _ ?_;clear hK K
   refine zbj ?_
   refine zbs (λmM sS=>∃(i:Nat) (ks:List SnapV) (d:Int),mM=ys.length-i∧(i≤ys.length∧ks=prV ((bareN l[k].fSnaps:Int)-n) 0 (ys.take i)∧d=min (bareN (l[k].fSnaps.take i):Int) (goneN l[k].fSnaps n))∧sS = { env:=lkE [(0,.eptr 8 k 0),(5,(.g (.int .i64 (goneN l[k].fSnaps n)))),(8,.arr 904 0 ks.length),(9,(.g (.int .i64 (d)))),(35,.arr 902 0 l[k].fSnaps.length),(36,(.g (.int .i64 ((l[k].fSnaps.length:Nat))))),(37,(.g (.int .i64 ((i:Nat)))))],ob:=lk [(8,.win 2 ((zs.map setV).set k [.s l[k].fName,.arr 902 0 l[k].fSnaps.length])),(901,.park ((zs.take k).flatMap setP++(zs.drop (k+1)).flatMap setP)),(902,.win 3 (ys.map snapV)),(903,.park (ys.flatMap snapP)),(904,.win 3 (ks.map snapV))] }) ?_ ?_
   ·refine ⟨_,LeS.kw [(8,8),(901,901),(902,902),(903,903),(904,512)] [(0,.eptr 8 k 0),(5,(.g (.int .i64 (goneN l[k].fSnaps n)))),(8,.arr 904 0 ([]).length),(9,(.g (.int .i64 ((0))))),(35,.arr 902 0 l[k].fSnaps.length),(36,(.g (.int .i64 ((l[k].fSnaps.length:Nat))))),(37,(.g (.int .i64 (((0):Nat)))))] [(8,.win 2 ((zs.map setV).set k [.s l[k].fName,.arr 902 0 l[k].fSnaps.length])),(901,.park ((zs.take k).flatMap setP++(zs.drop (k+1)).flatMap setP)),(902,.win 3 (ys.map snapV)),(903,.park (ys.flatMap snapP)),(904,.win 3 (([]).map snapV))] (by simp [zG16,KpR,renV2,renV,zbk,zca,zck];try (first | omega|(rw [hti];unfold goneN;split<;>omega))) (by simp [zG16,KpOW,wnO,renO,plO,cvO,renV,pl1,zca,zck];first | exact .inr (zho (zbw zs) ⟨rfl,rfl,rfl⟩) | trace_state) (by rfl) (by simp) (by simp) (by rfl) (by simp [zG17,formsX]),_,0,[],0,rfl,?_,rfl⟩
    ·exact ⟨by omega,rfl,by simp [bareN];omega⟩
   ·rintro mM sS ⟨i,ks,d,rfl,⟨hi,hks,hd⟩,rfl⟩
    have hkl:ks.length≤5:=by rw [hks];have h1:=(zhw ((bareN l[k].fSnaps:Int)-n) (ys.take i) 0).length_le;rw [List.length_take] at h1;omega
    refine AW_x rfl rfl λK hK=>?_
    simp (disch:=omega) [hset,hgn]
    repeat' first|(refine ⟨by omega,?_⟩)|(intro _)
    refine hK _ ?_;clear hK K
    refine zbh ?_
    refine zbg rfl (λhc3=>?_) (λhc3=>?_)
    ·try simp [zG18,zbc,zbb] at hc3
     all_goals
      have hpt:=zxn ((bareN l[k].fSnaps:Int)-n) ys i (by omega)
      have hyi : ys[i].1 = l[k].fSnaps[i] := by have h : (ys.map (·.1))[i]'(by simp; omega) = l[k].fSnaps[i] := by simp only [hys]
                                                simpa using h
      have hv1:(ys[i].2 2).oneCell'=true:=hone _ (List.getElem_mem _) 2
      simp only [Value.oneCell'] at hv1
      have hbt:=zjg l[k].fSnaps i (by omega)
      rw [←hyi] at hbt
      refine zbi ?_
      refine zbm ?_
      refine zbh ?_
      refine zbj ?_
      refine AW_x rfl rfl λK hK=>?_
      simp (disch:=omega) [hset,hgn,hv1]
      repeat' first|(exfalso;omega)|(refine ⟨λ_=>?_,λ_=>?_⟩)|(refine ⟨by omega,?_⟩)|(simp (disch:=omega) [hset,hgn,hv1])|(intro _)
      all_goals (refine hK _ ?_;clear hK K)
      all_goals
       refine AW_x rfl rfl λK hK=>?_
       simp (disch:=omega) [hset,hgn,hv1]
       repeat' first|(exfalso;omega)|(refine ⟨λ_=>?_,λ_=>?_⟩)|(refine ⟨by omega,?_⟩)|(simp (disch:=omega) [hset,hgn,hv1])|(intro _)
       all_goals (refine hK _ ?_;clear hK K)
       all_goals
        refine zbg rfl (λhc4=>?_) (λhc4=>?_)
        ·try simp [zG18,zbc,zbb] at hc4
         all_goals
          refine zb4 rfl rfl λK hK=>?_
          simp (disch:=omega) [hset,hgn,hv1]
          repeat' first|(exfalso;omega)|(refine ⟨λ_=>?_,λ_=>?_⟩)|(refine ⟨by omega,?_⟩)|(simp (disch:=omega) [hset,hgn,hv1])|(intro _)
          all_goals (refine hK _ ?_;clear hK K)
          all_goals
           refine zbm ?_
           refine zb4 rfl rfl λK hK=>?_
           simp (disch:=omega) [hset,hgn,hv1]
           repeat' first|(refine ⟨by omega,?_⟩)|(intro _)
           refine hK _ ?_;clear hK K
           refine ⟨_,LeS.kw [(8,8),(901,901),(902,902),(903,903),(904,904)] [(0,.eptr 8 k 0),(5,(.g (.int .i64 (goneN l[k].fSnaps n)))),(8,.arr 904 0 (ks).length),(9,(.g (.int .i64 ((d+1))))),(35,.arr 902 0 l[k].fSnaps.length),(36,(.g (.int .i64 ((l[k].fSnaps.length:Nat))))),(37,(.g (.int .i64 (((i+1):Nat)))))] [(8,.win 2 ((zs.map setV).set k [.s l[k].fName,.arr 902 0 l[k].fSnaps.length])),(901,.park ((zs.take k).flatMap setP++(zs.drop (k+1)).flatMap setP)),(902,.win 3 (ys.map snapV)),(903,.park (ys.flatMap snapP)),(904,.win 3 ((ks).map snapV))] (by simp [zG16,KpR,renV2,renV,zbk,zca,zck];try omega) (by simp [zG16,KpOW,wnO,renO,plO,cvO,renV,pl1,zca,zck];first | exact .inr (zho (zbw zs) ⟨rfl,rfl,rfl⟩) | trace_state) (by rfl) (by simp) (by simp) (by rfl) (by simp [zG17,formsX]),_,?_,i+1,ks,d+1,rfl,?_,rfl⟩
           ·omega
           ·rw [hys] at hpt
            have hgd:goneN l[k].fSnaps n=max 0 ((bareN l[k].fSnaps:Int)-n):=rfl
            refine ⟨by omega,?_,?_⟩
            ·rw [hpt,hks];split<;>rename_i h<;>first|(simp;done)|(exfalso;obtain ⟨h1,h2⟩:=h;first | omega|(simp_all;done))|(exfalso;exact h ⟨by assumption,by omega⟩) | trace_state
            ·rw [hbt];by_cases ht:ys[i].1.fTag=[]<;>first|(simp [ht];omega)|(exfalso;simp_all;done) | trace_state
        try simp [zG18,zbc,zbb] at hc4
        refine zb4 rfl rfl λK hK=>?_
        simp (disch:=omega) [hset,hgn,hv1]
        repeat' first|(exfalso;omega)|(refine ⟨λ_=>?_,λ_=>?_⟩)|(refine ⟨by omega,?_⟩)|(simp (disch:=omega) [hset,hgn,hv1])|(intro _)
        all_goals (refine hK _ ?_;clear hK K)
        all_goals
         refine zbm ?_
         refine zb4 rfl rfl λK hK=>?_
         simp (disch:=omega) [hset,hgn,hv1]
         repeat' first|(refine ⟨by omega,?_⟩)|(intro _)
         refine hK _ ?_;clear hK K
         refine ⟨_,LeS.kw [(8,8),(901,901),(902,902),(903,903),(904,880)] [(0,.eptr 8 k 0),(5,(.g (.int .i64 (goneN l[k].fSnaps n)))),(8,.arr 904 0 (ks++[ys[i]]).length),(9,(.g (.int .i64 ((d))))),(35,.arr 902 0 l[k].fSnaps.length),(36,(.g (.int .i64 ((l[k].fSnaps.length:Nat))))),(37,(.g (.int .i64 (((i+1):Nat)))))] [(8,.win 2 ((zs.map setV).set k [.s l[k].fName,.arr 902 0 l[k].fSnaps.length])),(901,.park ((zs.take k).flatMap setP++(zs.drop (k+1)).flatMap setP)),(902,.win 3 (ys.map snapV)),(903,.park (ys.flatMap snapP)),(904,.win 3 ((ks++[ys[i]]).map snapV))] (by simp [zG16,KpR,renV2,renV,zbk,zca,zck];try omega) (by simp [zG16,KpOW,wnO,renO,plO,cvO,renV,pl1,zca,zck];first | exact .inr (zho (zbw zs) ⟨rfl,rfl,rfl⟩) | trace_state) (by rfl) (by simp) (by simp) (by rfl) (by simp [zG17,formsX]),_,?_,i+1,ks++[ys[i]],d,rfl,?_,rfl⟩
         ·omega
         ·rw [hys] at hpt
          have hgd:goneN l[k].fSnaps n=max 0 ((bareN l[k].fSnaps:Int)-n):=rfl
          refine ⟨by omega,?_,?_⟩
          ·rw [hpt,hks];split<;>rename_i h<;>first|(simp;done)|(exfalso;obtain ⟨h1,h2⟩:=h;first | omega|(simp_all;done))|(exfalso;exact h ⟨by assumption,by omega⟩) | trace_state
          ·rw [hbt];by_cases ht:ys[i].1.fTag=[]<;>first|(simp [ht];omega)|(exfalso;simp_all;done) | trace_state
    try simp [zG18,zbc,zbb] at hc3
    have hti2:ys.take i=ys:=List.take_of_length_le (by omega)
    rw [hti2] at hks
    refine zbx ?_
    refine zbm ?_
    refine AW_x rfl rfl λK hK=>?_
    simp (disch:=omega) [hset,hgn]
    repeat' first|(exfalso;omega)|(refine ⟨λ_=>?_,λ_=>?_⟩)|(refine ⟨by omega,?_⟩)|(simp (disch:=omega) [hset,hgn])|(intro _)
    all_goals (refine hK _ ?_;clear hK K)
    all_goals
     refine zd3 (zk9 (ks:=ks) (zs:=ys) 904 903 (by simp [zG16]) (by simp [zG16]) (by rw [hks];exact zhw _ _ _)) ?_
     have hsn:(ks.map λz=>DtCSnap.cells z.1)=(pruS l[k] n).fSnaps.map DtCSnap.cells:=by have h:=zmw ((bareN l[k].fSnaps:Int)-n) ys 0;rw [hys] at h;show _=(prn _ 0 l[k].fSnaps).map _;rw [←h,List.map_map,hks];rfl
     rw [hsn]
     have hkl2:ks.length=(pruS l[k] n).fSnaps.length:=by have h:=congrArg List.length hsn;simpa using h
     refine zcm 8 901 904 k hz hk l[k].fName (pruS l[k] n).fSnaps (by simp [zG16,hkl2]) (by simp [zG16]) (by simp [zG16]) (by decide) (by decide) (by decide) ?_
     refine AW_x rfl rfl λK hK=>?_
     simp (disch:=omega) [hset,hgn]
     repeat' first|(exfalso;omega)|(refine zdq (zbd zcl zbl) (implDec _ hg10) rfl ?_;simp (disch:=omega) [hset,hgn])|(refine zdr (implDec _ hg10) (by rfl) ?_ ?_;(focus (simp (disch:=omega) [hset,hgn,zbo];done));simp (disch:=omega) [hset,hgn])|(refine ⟨by omega,?_⟩)|(simp (disch:=omega) [hset,hgn])|(intro _)
     refine hK _ ?_;clear hK K
     refine zbp (zce [] [] (by simp [zG16,List.range_succ]) (by simp) ?_)
     simp (disch:=omega) [hset,hgn]
     all_goals first | rfl | exact ⟨rfl,rfl⟩ | trace_state
end Go.Proofs.YtodmafgmdlkhoaaGreat.Vs
end
section
namespace Go.Proofs.YtodmafgmdlkhoaaGreat.Vs
set_option linter.all false
set_option maxRecDepth 100000
def tldL(s:DtCSet):List (List UInt8):=s.fSnaps.map λp=>p.fName++58 :: p.fTag
theorem scR_cS(l:List (List UInt8)):scR (l.map cS)=true:=zfi cS (λ_=>rfl) l
theorem set_own(l:List DtCSet)(k:Nat)(hk:k<l.length):l.map DtCSet.cells=(l.map DtCSet.cells).set k (DtCSet.cells l[k]):=by rw [←List.map_set,List.set_getElem_self]
theorem tldL_bd(s:DtCSet)(i:Nat)(h:i<s.fSnaps.length)(hb:(spc (tldL s)).length≤1073741824):s.fSnaps[i].fName.length+1+s.fSnaps[i].fTag.length≤1073741824:=by
 have hl:i<(tldL s).length:=by simpa [tldL] using h
 have h1:=(zxm (tldL s) i hl hb).1
 have e:(tldL s)[i]=s.fSnaps[i].fName++58 :: s.fSnaps[i].fTag:=by simp [tldL]
 rw [e] at h1
 simp at h1
 omega
attribute [local simp] DtCSet.cells zbo List.set_set List.getD_eq_getElem?_getD zck cS and_assoc scR_cS
attribute [-simp] aAppC aAppZ
theorem toldX(l:List DtCSet)(hl:l.length≤1048576)(k:Nat)(hk:k<l.length)(h5:l[k].fSnaps.length≤5)(hb:(spc (tldL l[k])).length≤1073741824):XCall Tryz.prog 61 [.eptr 8 k 0] [.own 2 (l.map DtCSet.cells)] (.s (spc (tldL l[k]))) [.own 2 (l.map DtCSet.cells)] []:=by
 have hll:(tldL l[k]).length=l[k].fSnaps.length:=by simp [tldL]
 refine zbu Tryz.func61 (by rfl) (by rfl) (by rw [Tryz.ntmps61];exact Nat.le_of_ble_eq_true rfl) rfl (by simp) rfl rfl ?_
 rw [Tryz.ntmps61]
 refine zhs (.own 2 (l.map DtCSet.cells)) (by simp [cvO]<;>assumption) ?_
 refine AW_k [(0,_)] ⟨rfl,trivial⟩ ?_
 refine zft 8 901 902 k hk (by simp [zG16]) (by simp [zG16]) (by simp [zG16]) (by decide) (by decide) (by decide) λzs hz=>?_
 have hkz:k<zs.length:=by rw [←hz] at hk;simpa using hk
 have hset:=@zmv zs k hkz
 refine zf9 (us:=l[k].fSnaps) 902 903 (by simp [zG16]) (by simp [zG16]) λys hys hone=>?_
 have hyl:ys.length=l[k].fSnaps.length:=by rw [←hys];simp
 have hll:(tldL l[k]).length=l[k].fSnaps.length:=by simp [tldL]
 refine AW_x rfl rfl λK hK=>?_
 simp (disch:=omega) [hset,hll]
 repeat' first|(refine ⟨by omega,?_⟩)|(intro _)
 refine hK _ ?_;clear hK K
 refine AW_x rfl rfl λK hK=>?_
 simp (disch:=omega) [hset,hll]
 repeat' first|(refine ⟨by omega,?_⟩)|(simp (disch:=omega) [hset,hll])|(intro _)
 refine hK _ ?_;clear hK K
 refine zbh ?_
 refine AW_x rfl rfl λK hK=>?_
 simp (disch:=omega) [hset,hll]
 repeat' first|(refine ⟨by omega,?_⟩)|(simp (disch:=omega) [hset,hll])|(intro _)
 refine hK _ ?_;clear hK K
 refine zbj ?_
 refine zbs (λmM sS=>∃(i:Nat),mM=ys.length-i∧(i≤ys.length)∧sS = { env:=lkE [(0,.eptr 8 k 0),(3,.arr 904 0 i),(10,.arr 902 0 l[k].fSnaps.length),(11,(.g (.int .i64 ((l[k].fSnaps.length:Nat))))),(12,(.g (.int .i64 ((i:Nat)))))],ob:=lk [(8,.win 2 ((zs.map setV).set k [.s l[k].fName,.arr 902 0 l[k].fSnaps.length])),(901,.park ((zs.take k).flatMap setP++(zs.drop (k+1)).flatMap setP)),(902,.win 3 (ys.map snapV)),(903,.park (ys.flatMap snapP)),(904,.win 1 (((tldL l[k]).take i).map cS))] }) ?_ ?_
 ·refine ⟨_,LeS.kw [(8,8),(901,901),(902,902),(903,903),(904,112)] [(0,.eptr 8 k 0),(3,.arr 904 0 (0)),(10,.arr 902 0 l[k].fSnaps.length),(11,(.g (.int .i64 ((l[k].fSnaps.length:Nat))))),(12,(.g (.int .i64 (((0):Nat)))))] [(8,.win 2 ((zs.map setV).set k [.s l[k].fName,.arr 902 0 l[k].fSnaps.length])),(901,.park ((zs.take k).flatMap setP++(zs.drop (k+1)).flatMap setP)),(902,.win 3 (ys.map snapV)),(903,.park (ys.flatMap snapP)),(904,.win 1 (((tldL l[k]).take (0)).map cS))] (by simp [zG16,KpR,renV2,renV,zbk,zca,zck];try (simp;done)) (by simp [zG16,KpOW,wnO,renO,plO,cvO,renV,pl1,zca,zck];first | exact .inr (zho (zbw zs) ⟨rfl,rfl,rfl⟩) | exact ⟨.inr (zho (zbw zs) ⟨rfl,rfl,rfl⟩),.inl ⟨by rw [htk,List.take_take,Nat.min_self];rfl,zc5 (zfi cS (λ_=>rfl) _) _⟩⟩ | trace_state) (by rfl) (by simp) (by simp) (by rfl) (by simp [zG17,formsX]),_,0,rfl,?_,rfl⟩
  ·simp
 ·rintro mM sS ⟨i,rfl,hi,rfl⟩
  refine AW_x rfl rfl λK hK=>?_
  simp (disch:=omega) [hset,hll]
  repeat' first|(refine ⟨by omega,?_⟩)|(intro _)
  refine hK _ ?_;clear hK K
  refine zbh ?_
  refine zbg rfl (λhc1=>?_) (λhc1=>?_)
  ·try simp [zG18,zbc,zbb] at hc1
   all_goals
    have hyi : ys[i].1 = l[k].fSnaps[i] := by have h : (ys.map (·.1))[i]'(by simp; omega) = l[k].fSnaps[i] := by simp only [hys]
                                              simpa using h
    have hv1:(ys[i].2 2).oneCell'=true:=hone _ (List.getElem_mem _) 2
    simp only [Value.oneCell'] at hv1
    have htb:=tldL_bd l[k] i (by omega) hb
    have htk:=zz0 cS (tldL l[k]) i (by omega)
    have htx:(tldL l[k])[i]'(by omega)=l[k].fSnaps[i].fName++58 :: l[k].fSnaps[i].fTag:=by simp [tldL]
    rw [htx] at htk
    rw [←hyi] at htb htk
    refine zbi ?_
    refine zbm ?_
    refine zbh ?_
    refine zbj ?_
    refine AW_x rfl rfl λK hK=>?_
    simp (disch:=omega) [hset,hll,hv1]
    repeat' first|(exfalso;omega)|(refine ⟨λ_=>?_,λ_=>?_⟩)|(refine ⟨by omega,?_⟩)|(simp (disch:=omega) [hset,hll,hv1])|(intro _)
    all_goals (refine hK _ ?_;clear hK K)
    all_goals
     refine zb4 rfl rfl λK hK=>?_
     simp (disch:=omega) [hset,hll,hv1]
     repeat' first|(refine ⟨by omega,?_⟩)|(simp (disch:=omega) [hset,hll,hv1])|(intro _)
     refine hK _ ?_;clear hK K
     refine zbm ?_
     refine zb4 rfl rfl λK hK=>?_
     simp (disch:=omega) [hset,hll,hv1]
     repeat' first|(refine ⟨by omega,?_⟩)|(intro _)
     refine hK _ ?_;clear hK K
     refine ⟨_,LeS.kw [(8,8),(901,901),(902,902),(903,903),(904,400)] [(0,.eptr 8 k 0),(3,.arr 904 0 (i+1)),(10,.arr 902 0 l[k].fSnaps.length),(11,(.g (.int .i64 ((l[k].fSnaps.length:Nat))))),(12,(.g (.int .i64 (((i+1):Nat)))))] [(8,.win 2 ((zs.map setV).set k [.s l[k].fName,.arr 902 0 l[k].fSnaps.length])),(901,.park ((zs.take k).flatMap setP++(zs.drop (k+1)).flatMap setP)),(902,.win 3 (ys.map snapV)),(903,.park (ys.flatMap snapP)),(904,.win 1 (((tldL l[k]).take (i+1)).map cS))] (by simp [zG16,KpR,renV2,renV,zbk,zca,zck];try (first | omega | rfl)) (by simp [zG16,KpOW,wnO,renO,plO,cvO,renV,pl1,zca,zck];first | exact .inr (zho (zbw zs) ⟨rfl,rfl,rfl⟩) | exact ⟨.inr (zho (zbw zs) ⟨rfl,rfl,rfl⟩),.inl ⟨by rw [htk,List.take_take,Nat.min_self];rfl,zc5 (zfi cS (λ_=>rfl) _) _⟩⟩ | trace_state) (by rfl) (by simp) (by simp) (by rfl) (by simp [zG17,formsX]),_,?_,i+1,rfl,?_,rfl⟩
     ·omega
     ·omega
  try simp [zG18,zbc,zbb] at hc1
  have hi3:i=l[k].fSnaps.length:=by omega
  refine zbx ?_
  refine zbm ?_
  refine zd3 (zk9 (ks:=ys) (zs:=ys) 902 903 (by simp [zG16]) (by simp [zG16]) (List.Sublist.refl _)) ?_
  have hsn:(ys.map λz=>DtCSnap.cells z.1)=l[k].fSnaps.map DtCSnap.cells:=by rw [←hys,List.map_map];rfl
  rw [hsn]
  refine zcm 8 901 902 k hz hk l[k].fName l[k].fSnaps (by simp [zG16]) (by simp [zG16]) (by simp [zG16]) (by decide) (by decide) (by decide) ?_
  have htf:List.take i (List.map cS (tldL l[k]))=List.map cS (tldL l[k]):=List.take_of_length_le (by simp;omega)
  simp only [htf]
  subst hi3
  refine AW_x rfl rfl λK hK=>?_
  simp (disch:=omega) [hset,hll]
  repeat' first|(exfalso;omega)|(refine zdq (zbd zdm zbl) (zqk (tldL l[k]) (by omega) hb) rfl ?_;simp (disch:=omega) [hset,hll])|(refine zdr (zqk (tldL l[k]) (by omega) hb) (by rfl) ?_ ?_;(focus (simp (disch:=omega) [hset,hll,zbo];done));simp (disch:=omega) [hset,hll])|(refine ⟨λ_=>?_,λ_=>?_⟩)|(refine ⟨by omega,?_⟩)|(simp (disch:=omega) [hset,hll])|(intro _)
  all_goals (refine hK _ ?_;clear hK K)
  all_goals
   refine zbp (zce [] [] (by simp [zG16,List.range_succ]) (by simp) ?_)
   simp (disch:=omega) [hset,hll]
   all_goals first | rfl | exact ⟨rfl,rfl⟩ | exact set_own l k hk | trace_state
end Go.Proofs.YtodmafgmdlkhoaaGreat.Vs
end
section
namespace Go.Proofs.YtodmafgmdlkhoaaGreat.Vs
set_option linter.all false
set_option maxRecDepth 100000
def namL(l:List DtCSet):List (List UInt8):=l.map λs=>s.fName
theorem zxo{α β:Type}{zs:List (α × β)}{l:List α}(hz:zs.map (·.1)=l)(i:Nat)(h:i<zs.length)(h2:i<l.length):zs[i].1=l[i]:=by subst hz;simp
theorem zga(l:List DtCSet):(namL l).length=l.length:=by simp [namL]
attribute [local simp] DtCSet.cells zbo zd0 cS and_assoc scR_cS zga
attribute [-simp] aAppC aAppZ
theorem listX(l:List DtCSet)(hl:l.length≤1048576)(hb:(spc (namL l)).length≤1073741824):XCall Tryz.prog 55 [.ptr 8 0] [.cells [.arr 9 0 l.length],.own 2 (l.map DtCSet.cells)] (.s (spc (namL l))) [.cells [.arr 9 0 l.length],.own 2 (l.map DtCSet.cells)] []:=by
 have hll:=zga l
 refine zbu Tryz.func55 (by rfl) (by rfl) (by rw [Tryz.ntmps55];exact Nat.le_of_ble_eq_true rfl) rfl (by simp) rfl rfl ?_
 rw [Tryz.ntmps55]
 refine AW_x2 (.cells [.arr 9 0 l.length]) (.own 2 (l.map DtCSet.cells)) (by simp [cvO]<;>assumption) (by simp [cvO]<;>assumption) ?_
 refine AW_k [(0,_)] ⟨rfl,trivial⟩ ?_
 refine zfa (us:=l) 9 901 (by simp [zG16]) (by simp [zG16]) λzs hz hone=>?_
 have hzl:zs.length=l.length:=by rw [←hz];simp
 refine AW_x rfl rfl λK hK=>?_
 simp (disch:=omega)
 repeat' first|(refine ⟨by omega,?_⟩)|(intro _)
 refine hK _ ?_;clear hK K
 refine AW_x rfl rfl λK hK=>?_
 simp (disch:=omega)
 repeat' first|(refine ⟨by omega,?_⟩)|(simp (disch:=omega))|(intro _)
 refine hK _ ?_;clear hK K
 refine zbh ?_
 refine AW_x rfl rfl λK hK=>?_
 simp (disch:=omega)
 repeat' first|(refine ⟨by omega,?_⟩)|(simp (disch:=omega))|(intro _)
 refine hK _ ?_;clear hK K
 refine zbj ?_
 refine zbs (λmM sS=>∃(i:Nat),mM=zs.length-i∧(i≤zs.length)∧sS = { env:=lkE [(0,.ptr 8 0),(3,.arr 904 0 i),(10,.arr 9 0 l.length),(11,(.g (.int .i64 ((l.length:Nat))))),(12,(.g (.int .i64 ((i:Nat)))))],ob:=lk [(8,.cells [.arr 9 0 l.length]),(9,.win 2 (zs.map setV)),(901,.park (zs.flatMap setP)),(904,.win 1 (((namL l).take i).map cS))] }) ?_ ?_
 ·refine ⟨_,LeS.kw [(8,8),(9,9),(901,901),(904,112)] [(0,.ptr 8 0),(3,.arr 904 0 (0)),(10,.arr 9 0 l.length),(11,(.g (.int .i64 ((l.length:Nat))))),(12,(.g (.int .i64 (((0):Nat)))))] [(8,.cells [.arr 9 0 l.length]),(9,.win 2 (zs.map setV)),(901,.park (zs.flatMap setP)),(904,.win 1 (((namL l).take (0)).map cS))] (by simp [zG16,KpR,renV2,renV,zbk,zbw,zd0];try (simp;done)) (by simp [zG16,KpOW,wnO,renO,plO,cvO,renV,pl1,zbw,zd0];first | exact .inl ⟨by rw [htk,List.take_take,Nat.min_self];rfl,zc5 (zfi cS (λ_=>rfl) _) _⟩ | trace_state) (by rfl) (by simp) (by simp) (by rfl) (by simp [zG17,formsX]),_,0,rfl,?_,rfl⟩
  ·simp
 ·rintro mM sS ⟨i,rfl,hi,rfl⟩
  refine AW_x rfl rfl λK hK=>?_
  simp (disch:=omega)
  repeat' first|(refine ⟨by omega,?_⟩)|(intro _)
  refine hK _ ?_;clear hK K
  refine zbh ?_
  refine zbg rfl (λhc1=>?_) (λhc1=>?_)
  ·try simp [zG18,zbc,zbb] at hc1
   all_goals
    have hyi:=zxo hz i (by omega) (by omega)
    have hv1:(zs[i].2 1).oneCell'=true:=hone _ (List.getElem_mem _) 1
    simp only [Value.oneCell'] at hv1
    have htk:=zz0 cS (namL l) i (by rw [zga];omega)
    have htx:(namL l)[i]'(by rw [zga];omega)=zs[i].1.fName:=by rw [hyi];simp [namL]
    rw [htx] at htk
    refine zbi ?_
    refine zbm ?_
    refine zbh ?_
    refine zbj ?_
    refine AW_x rfl rfl λK hK=>?_
    simp (disch:=omega) [hv1]
    repeat' first|(exfalso;omega)|(refine ⟨λ_=>?_,λ_=>?_⟩)|(refine ⟨by omega,?_⟩)|(simp (disch:=omega) [hv1])|(intro _)
    all_goals (refine hK _ ?_;clear hK K)
    all_goals
     refine zb4 rfl rfl λK hK=>?_
     simp (disch:=omega) [hv1]
     repeat' first|(refine ⟨by omega,?_⟩)|(simp (disch:=omega) [hv1])|(intro _)
     refine hK _ ?_;clear hK K
     refine zbm ?_
     refine zb4 rfl rfl λK hK=>?_
     simp (disch:=omega) [hv1]
     repeat' first|(refine ⟨by omega,?_⟩)|(intro _)
     refine hK _ ?_;clear hK K
     refine ⟨_,LeS.kw [(8,8),(9,9),(901,901),(904,336)] [(0,.ptr 8 0),(3,.arr 904 0 (i+1)),(10,.arr 9 0 l.length),(11,(.g (.int .i64 ((l.length:Nat))))),(12,(.g (.int .i64 (((i+1):Nat)))))] [(8,.cells [.arr 9 0 l.length]),(9,.win 2 (zs.map setV)),(901,.park (zs.flatMap setP)),(904,.win 1 (((namL l).take (i+1)).map cS))] (by simp [zG16,KpR,renV2,renV,zbk,zbw,zd0];try (first | omega | rfl)) (by simp [zG16,KpOW,wnO,renO,plO,cvO,renV,pl1,zbw,zd0];first | exact .inl ⟨by rw [htk,List.take_take,Nat.min_self];rfl,zc5 (zfi cS (λ_=>rfl) _) _⟩ | trace_state) (by rfl) (by simp) (by simp) (by rfl) (by simp [zG17,formsX]),_,?_,i+1,rfl,?_,rfl⟩
     ·omega
     ·omega
  try simp [zG18,zbc,zbb] at hc1
  have hi3:i=l.length:=by omega
  refine zbx ?_
  refine zbm ?_
  refine zd3 (zhv (ks:=zs) (zs:=zs) 9 901 (by simp [zG16]) (by simp [zG16]) (List.Sublist.refl _)) ?_
  have hsn:(zs.map λz=>DtCSet.cells z.1)=l.map DtCSet.cells:=by rw [←hz,List.map_map];rfl
  rw [hsn]
  have htf:List.take i (List.map cS (namL l))=List.map cS (namL l):=List.take_of_length_le (by rw [List.length_map,zga];omega)
  simp only [htf]
  subst hi3
  refine AW_x rfl rfl λK hK=>?_
  simp (disch:=omega)
  repeat' first|(exfalso;omega)|(refine zdq (zbd zdm zbl) (zqk (namL l) (by rw [zga];omega) hb) rfl ?_;simp (disch:=omega))|(refine zdr (zqk (namL l) (by rw [zga];omega) hb) (by rfl) ?_ ?_;(focus (simp (disch:=omega) [zbo];done));simp (disch:=omega))|(refine ⟨λ_=>?_,λ_=>?_⟩)|(refine ⟨by omega,?_⟩)|(simp (disch:=omega))|(intro _)
  all_goals (refine hK _ ?_;clear hK K)
  all_goals
   refine zbp (zce [] [] (by simp [zG16,List.range_succ]) (by simp) ?_)
   simp (disch:=omega)
   all_goals first | rfl | exact ⟨rfl,rfl⟩ | exact ⟨⟨rfl,rfl⟩,rfl⟩ | trace_state
end Go.Proofs.YtodmafgmdlkhoaaGreat.Vs
end
section
namespace Go.Proofs.YtodmafgmdlkhoaaGreat.Vs
set_option linter.all false
set_option maxRecDepth 100000
/-! creating -/
noncomputable def lessN:List DtCSet→List UInt8→Nat
 | [],_=>0
 | s :: l,n=>if Op.bytesLess s.fName n=true then lessN l n+1 else 0
theorem lessN_le(l:List DtCSet)(n:List UInt8):lessN l n≤l.length:=by
 induction l with
 | nil=>simp [lessN]
 | cons s l ih=>simp only [lessN,List.length_cons];split<;>omega
theorem zlb(n:List UInt8):∀(l:List DtCSet) (i:Nat),i≤l.length→(∀j (h:j<l.length),j<i→Op.bytesLess l[j].fName n=true)→(∀h:i<l.length,Op.bytesLess l[i].fName n=false)→lessN l n=i
 | [],i,hi,_,_=>by simp at hi;subst hi;rfl
 | s :: l,0,_,_,h=>by
  have:=h (by simp)
  simp only [List.getElem_cons_zero] at this
  simp [lessN,this]
 | s :: l,i+1,hi,h1,h2=>by
  have h0:=h1 0 (by simp) (by omega)
  simp only [List.getElem_cons_zero] at h0
  simp only [lessN,h0,if_true]
  rw [zlb n l i (by simpa using hi) (λj h hj=>by have:=h1 (j+1) (by simpa using h) (by omega);simpa using this) (λh=>by have:=h2 (by simpa using h);simpa using this)]
noncomputable def creS(l:List DtCSet)(n:List UInt8):List DtCSet:=if 0≤findS l n then l else if l.length=5 then l else l.take (lessN l n) ++ { fName:=n,fSnaps:=[] } :: l.drop (lessN l n)
noncomputable def creR(l:List DtCSet)(n:List UInt8):List UInt8:=if 0≤findS l n then bExists else if l.length=5 then bFull else bOk
theorem zsy{l:List DtCSet}{n:List UInt8}(h:0≤findS l n):creS l n=l∧creR l n=bExists:=by unfold creS creR;rw [if_pos h,if_pos h];exact ⟨rfl,rfl⟩
theorem zsz{l:List DtCSet}{n:List UInt8}(h:findS l n<0)(h5:(l.length:Int)=5):creS l n=l∧creR l n=bFull:=by unfold creS creR;rw [if_neg (by omega),if_pos (by omega),if_neg (by omega),if_pos (by omega)];exact ⟨rfl,rfl⟩
theorem zs0{l:List DtCSet}{n:List UInt8}(h:findS l n<0)(h5:¬(l.length:Int)=5):creS l n=l.take (lessN l n) ++ { fName:=n,fSnaps:=[] } :: l.drop (lessN l n)∧creR l n=bOk:=by unfold creS creR;rw [if_neg (by omega),if_neg (by omega),if_neg (by omega),if_neg (by omega)];exact ⟨rfl,rfl⟩
def newV(n:List UInt8):SetV:=({ fName:=n,fSnaps:=[] },λ_=>.slice none 0 0)
theorem zwe{zs:List SetV}{l:List DtCSet}(hzl:zs.length=l.length)(y:List AV)(hy:∀x∈y,scal0 x=true)(k:Nat)(hk:k≤l.length)(hl:l.length≤1048576):XCall Tryz.prog 112 [.arr 8 0 l.length,(.g (.int .i64 ((k:Nat)))),.arr 9 0 1] [.own 2 (zs.map setV),.own 2 [y]] (.arr 16 0 (l.length+1)) [.dead,.dead] [.own 2 ((zs.map setV).take k++y :: (zs.map setV).drop k)]:=by
 have e:(zs.map setV).length=l.length:=by rw [List.length_map,hzl]
 have h:=zzz (zs.map setV) (zbw zs) y hy k (by omega) (by omega)
 rw [e] at h
 exact h
theorem zqo(n:List UInt8):setV (newV n)=[.s n,.g (.slice none 0 0)]:=rfl
theorem zqp(n:List UInt8):setP (newV n)=[(.sl 3 [],.slice none 0 0)]:=rfl
theorem scR_ins(zs:List SetV)(n:List UInt8)(i:Nat):scR ((zs.map setV).take i++[.s n,.g (.slice none 0 0)] :: (zs.map setV).drop i)=true:=by
 have:(zs.map setV).take i++[.s n,.g (.slice none 0 0)] :: (zs.map setV).drop i=(zs.take i++newV n :: zs.drop i).map setV:=by simp [zqo]
 rw [this];exact zbw _
theorem ins_c{zs:List SetV}{l:List DtCSet}(hz:zs.map (·.1)=l)(n:List UInt8)(i:Nat):((zs.take i++newV n :: zs.drop i).map λz=>DtCSet.cells z.1)=(l.take i ++ { fName:=n,fSnaps:=[] } :: l.drop i).map DtCSet.cells:=by
 subst hz;simp [newV,Function.comp_def]
attribute [local simp] DtCSet.cells zbo and_assoc DtCatalog.cells zbw
theorem createX(l:List DtCSet)(hl:l.length≤1048576)(n:List UInt8):XCall Tryz.prog 54 [.ptr 8 0,.s n] [.cells [.arr 9 0 l.length],.own 2 (l.map DtCSet.cells)] (.s (creR l n)) [.cells [.arr 16 0 (creS l n).length],.dead] [.own 2 ((creS l n).map DtCSet.cells)]:=by
 refine zbu Tryz.func54 (by rfl) (by rfl) (by rw [Tryz.ntmps54];exact Nat.le_of_ble_eq_true rfl) rfl (by simp) rfl rfl ?_
 rw [Tryz.ntmps54]
 refine AW_x2 (.cells [.arr 9 0 l.length]) (.own 2 (l.map DtCSet.cells)) (by simp [cvO]<;>assumption) (by simp [cvO]<;>assumption) ?_
 refine AW_k [(0,_),(1,_)] ⟨rfl,rfl,trivial⟩ ?_
 refine AW_x rfl rfl λK hK=>?_
 simp (disch:=omega)
 repeat' first|(refine ⟨by omega,?_⟩)|(intro _)
 refine hK _ ?_;clear hK K
 refine zbh ?_
 refine zbj ?_
 refine AW_x rfl rfl λK hK=>?_
 simp (disch:=omega)
 repeat' first|(exfalso;omega)|(refine zdq (zbd (zbz rfl) (zbd zdg zbl)) (zxl { fSets:=l } n (by simpa using hl)) rfl ?_;simp (disch:=omega))|(refine zdr (zxl { fSets:=l } n (by simpa using hl)) (by rfl) ?_ ?_;(focus (simp (disch:=omega) [zbo];done));simp (disch:=omega))|(refine ⟨by omega,?_⟩)|(simp (disch:=omega))|(intro _)
 refine hK _ ?_;clear hK K
 refine zbg rfl (λhc1=>?_) (λhc1=>?_)
 ·try simp [zG18,zbc,zbb] at hc1
  all_goals
   refine AW_x rfl rfl λK hK=>?_
   simp (disch:=omega)
   repeat' first|(exfalso;omega)|(refine ⟨λ_=>?_,λ_=>?_⟩)|(refine ⟨by omega,?_⟩)|(simp (disch:=omega))|(intro _)
   all_goals (refine hK _ ?_;clear hK K)
   all_goals
    refine zbp (zce [9] [] (by simp [zG16,List.range_succ]) (by simp) ?_)
    simp (disch:=omega)
    all_goals first|(have ⟨h1,h2⟩:=zsy hc1;rw [h1,h2];exact ⟨rfl,rfl,rfl,rfl⟩)|(have ⟨h1,h2⟩:=zsz hc1 hc2;rw [h1,h2];exact ⟨rfl,rfl,rfl,rfl⟩)|(have ⟨h1,h2⟩:=zs0 hc1 hc2;rw [h1,h2,hcut];exact ⟨rfl,rfl,(by simp;omega),(by first|(simp [DtCSet.cells,List.map_take,List.map_drop];done)|(rw [List.take_of_length_le (by omega:l.length≤i)];simp [DtCSet.cells,List.map_drop];done))⟩) | trace_state
 try simp [zG18,zbc,zbb] at hc1
 refine AW_x rfl rfl λK hK=>?_
 simp (disch:=omega)
 repeat' first|(exfalso;omega)|(refine ⟨λ_=>?_,λ_=>?_⟩)|(refine ⟨by omega,?_⟩)|(simp (disch:=omega))|(intro _)
 all_goals (refine hK _ ?_;clear hK K)
 all_goals
  refine zbg rfl (λhc2=>?_) (λhc2=>?_)
  ·try simp [zG18,zbc,zbb] at hc2
   all_goals
    refine AW_x rfl rfl λK hK=>?_
    simp (disch:=omega)
    repeat' first|(exfalso;omega)|(refine ⟨λ_=>?_,λ_=>?_⟩)|(refine ⟨by omega,?_⟩)|(simp (disch:=omega))|(intro _)
    all_goals (refine hK _ ?_;clear hK K)
    all_goals
     refine zbp (zce [9] [] (by simp [zG16,List.range_succ]) (by simp) ?_)
     simp (disch:=omega)
     all_goals first|(have ⟨h1,h2⟩:=zsy hc1;rw [h1,h2];exact ⟨rfl,rfl,rfl,rfl⟩)|(have ⟨h1,h2⟩:=zsz hc1 hc2;rw [h1,h2];exact ⟨rfl,rfl,rfl,rfl⟩)|(have ⟨h1,h2⟩:=zs0 hc1 hc2;rw [h1,h2,hcut];exact ⟨rfl,rfl,(by simp;omega),(by first|(simp [DtCSet.cells,List.map_take,List.map_drop];done)|(rw [List.take_of_length_le (by omega:l.length≤i)];simp [DtCSet.cells,List.map_drop];done))⟩) | trace_state
  try simp [zG18,zbc,zbb] at hc2
  refine zbi ?_
  refine zbm ?_
  refine AW_x rfl rfl λK hK=>?_
  simp (disch:=omega)
  repeat' first|(exfalso;omega)|(refine ⟨λ_=>?_,λ_=>?_⟩)|(refine ⟨by omega,?_⟩)|(simp (disch:=omega))|(intro _)
  all_goals (refine hK _ ?_;clear hK K)
  all_goals
   refine zbh ?_
   refine zbj ?_
   refine zbs (λmM sS=>∃(i:Nat),mM=l.length-i∧(i≤l.length∧∀j (h:j<l.length),j<i→Op.bytesLess l[j].fName n=true)∧sS = { env:=lkE [(0,.ptr 8 0),(1,.s n),(5,(.g (.int .i64 ((i:Nat)))))],ob:=lk [(8,.cells [.arr 9 0 l.length]),(9,.own 2 (l.map DtCSet.cells))] }) ?_ ?_
   ·refine ⟨_,LeS.kx [(8,8),(9,9)] [(0,.ptr 8 0),(1,.s n),(5,(.g (.int .i64 (((0):Nat)))))] [(8,.cells [.arr 9 0 l.length]),(9,.own 2 (l.map DtCSet.cells))] (by simp [zG16,KpR,renV2,renV,zbk,DtCSet.cells];try rfl) (by simp [zG16,KpOX,renO,plO,cvO,renV,pl1,DtCSet.cells];try rfl) (by rfl) (by simp) (by simp) (by rfl) (by simp [zG17,formsX]),_,0,rfl,?_,rfl⟩
    ·simp
   ·rintro mM sS ⟨i,rfl,⟨hi,hpre⟩,rfl⟩
    refine zbh ?_
    refine AW_x rfl rfl λK hK=>?_
    simp (disch:=omega)
    repeat' first|(exfalso;omega)|(refine ⟨λ_=>?_,λ_=>?_⟩)|(refine ⟨by omega,?_⟩)|(simp (disch:=omega))|(intro _)
    all_goals (refine hK _ ?_;clear hK K)
    all_goals
     refine zbg rfl (λhc3=>?_) (λhc3=>?_)
     ·try simp [zG18,zbc,zbb] at hc3
      all_goals
       have hg:(l.map DtCSet.cells)[i]? = if h:i<l.length then some (DtCSet.cells l[i]) else none:=by by_cases h:i<l.length<;>simp [h]
       refine zbi ?_
       refine zbm ?_
       refine zbj ?_
       refine zb4 rfl rfl λK hK=>?_
       simp (disch:=omega)
       repeat' first|(exfalso;omega)|(refine ⟨λ_=>?_,λ_=>?_⟩)|(refine ⟨by omega,?_⟩)|(simp (disch:=omega))|(intro _)
       all_goals (refine hK _ ?_;clear hK K)
       all_goals
        refine ⟨_,LeS.kx [(8,8),(9,9)] [(0,.ptr 8 0),(1,.s n),(5,(.g (.int .i64 (((i+1):Nat)))))] [(8,.cells [.arr 9 0 l.length]),(9,.own 2 (l.map DtCSet.cells))] (by simp [zG16,KpR,renV2,renV,zbk,DtCSet.cells];try rfl) (by simp [zG16,KpOX,renO,plO,cvO,renV,pl1,DtCSet.cells];try rfl) (by rfl) (by simp) (by simp) (by rfl) (by simp [zG17,formsX]),_,?_,i+1,rfl,?_,rfl⟩
        ·omega
        ·exact ⟨by omega,λj h hj=>if e:j<i then hpre j h e else (by have e2:j=i:=(by omega);subst e2;assumption)⟩
     try simp [zG18,zbc,zbb] at hc3
     refine zbx ?_
     refine zbm ?_
     have hcut:lessN l n=i:=zlb n l i (by omega) hpre (λh=>by first|(exfalso;omega) | assumption | simp_all)
     refine zfa (us:=l) 9 901 (by simp [zG16]) (by simp [zG16]) λzs hz hone=>?_
     have hzl:zs.length=l.length:=by rw [←hz];simp
     have hzl2:(zs.length=l.length)=True:=eq_true hzl
     refine AW_x rfl rfl λK hK=>?_
     simp (disch:=omega)
     repeat' first|(exfalso;omega)|(refine zd5 [9,800] true [] (zwe hzl [.s n,.g (.slice none 0 0)] (by simp [scal0]) i hi hl) ?_ ?_ ?_;(focus (simp [List.range_succ,nmC];done));(focus (simp (disch:=omega) [zbo];done));simp (disch:=omega))|(refine ⟨λ_=>?_,λ_=>?_⟩)|(refine ⟨by omega,?_⟩)|(simp (disch:=omega))|(intro _)
     all_goals (refine hK _ ?_;clear hK K)
     all_goals
      refine AW_ow (sz:=2) 816 905 (scR_ins zs n i) (by first|(simp [zG16];done)|(rw [List.take_of_length_le (i:=i) (by rw [List.length_map];omega),List.drop_eq_nil_of_le (i:=i) (by rw [List.length_map];omega)];simp [zG16];done)) (by simp [zG16]) ?_
      refine zd3 (LeS.parkN 901 (s:=3) (ps1:=(zs.take i).flatMap setP) (ps2:=(zs.drop i).flatMap setP) (by simp [zG16];rw [←List.flatMap_append,List.take_append_drop])) ?_
      refine zd3 (zhv (ks:=zs.take i++newV n :: zs.drop i) (zs:=zs.take i++newV n :: zs.drop i) 816 901 (by simp [zG16,zqo]) (by simp [zG16,zqp]) (List.Sublist.refl _)) ?_
      have hsn:=ins_c hz n i
      rw [hsn]
      refine AW_x rfl rfl λK hK=>?_
      simp (disch:=omega)
      repeat' first|(refine ⟨by omega,?_⟩)|(intro _)
      refine hK _ ?_;clear hK K
      refine zbp (zce [816] [] (by simp [zG16,List.range_succ]) (by simp) ?_)
      simp (disch:=omega)
      all_goals first|(have ⟨h1,h2⟩:=zsy hc1;rw [h1,h2];exact ⟨rfl,rfl,rfl,rfl⟩)|(have ⟨h1,h2⟩:=zsz hc1 hc2;rw [h1,h2];exact ⟨rfl,rfl,rfl,rfl⟩)|(have ⟨h1,h2⟩:=zs0 hc1 hc2;rw [h1,h2,hcut];exact ⟨rfl,rfl,(by simp;omega),(by first|(simp [DtCSet.cells,List.map_take,List.map_drop];done)|(rw [List.take_of_length_le (by omega:l.length≤i)];simp [DtCSet.cells,List.map_drop];done))⟩) | trace_state
end Go.Proofs.YtodmafgmdlkhoaaGreat.Vs
end
section
namespace Go.Proofs.YtodmafgmdlkhoaaGreat.Vs
set_option linter.all false
set_option maxRecDepth 100000
attribute [local simp] DtCSet.cells DtCSnap.cells
theorem tld_at(s:DtCSet)(i:Nat)(h:i<s.fSnaps.length)(hb:(spc (tldL s)).length≤1073741824):spc ((tldL s).take (i+1))=(if i=0 then [] else spc ((tldL s).take i)++[32])++s.fSnaps[i].fName++58 :: s.fSnaps[i].fTag∧(spc ((tldL s).take i)).length+s.fSnaps[i].fName.length+s.fSnaps[i].fTag.length+1≤1073741824:=by
 have hl:i<(tldL s).length:=by simpa [tldL] using h
 have e:(tldL s)[i]=s.fSnaps[i].fName++58 :: s.fSnaps[i].fTag:=by simp [tldL]
 have h1:=zk8 (tldL s) i hl
 have h2:=(zxm (tldL s) i hl hb).1
 rw [e] at h2
 refine ⟨?_,by simp at h2;omega⟩
 rw [h1,e]
 split<;>simp
theorem l15Read(s:DtCSet)(hs:s.fSnaps.length≤1048576)(hb:(spc (tldL s)).length≤1073741824):PCall Tryz.prog 120 [.agg (DtCSet.cells s)] (.s (spc (tldL s))):=by
 refine zbq Tryz.func120 (by rfl) (by rfl) (by rw [Tryz.ntmps120];exact Nat.le_of_ble_eq_true rfl) rfl (by decide) ?_
 rw [Tryz.ntmps120]
 refine AW_k [(0,_)] ⟨rfl,trivial⟩ ?_
 refine AW_r rfl rfl λK hK=>?_
 simp (disch:=omega)
 repeat' first|(refine ⟨by omega,?_⟩)|(intro _)
 refine hK _ ?_;clear hK K
 refine AW_r rfl rfl λK hK=>?_
 simp (disch:=omega)
 repeat' first|(refine ⟨by omega,?_⟩)|(intro _)
 refine hK _ ?_;clear hK K
 refine zbh ?_
 refine AW_r rfl rfl λK hK=>?_
 simp (disch:=omega)
 repeat' first|(refine ⟨by omega,?_⟩)|(intro _)
 refine hK _ ?_;clear hK K
 refine zbj ?_
 refine zbs (λmM sS=>∃(i:Nat),mM=s.fSnaps.length-i∧(i≤s.fSnaps.length)∧sS = { env:=lkE [(1,.ptr 32 0),(3,.s (spc ((tldL s).take i))),(4,(.g (.int .i64 ((i:Nat)))))],ob:=upd (formOb [] []) 32 (some (.cells (DtCSet.cells s))) }) ?_ ?_
 ·refine ⟨_,LeS.kp [(1,.ptr 32 0),(3,.s (spc ((tldL s).take (0)))),(4,(.g (.int .i64 (((0):Nat)))))] (by simp [KpE,zb0,zbk,zbr];all_goals first | rfl|(rw [htk];split<;>first | rfl|(simp [spc];done)|(subst_vars;simp [spc];done)|(exfalso;omega)|(simp_all;done))),_,0,rfl,?_,rfl⟩
  ·simp
 ·rintro mM sS ⟨i,rfl,hi,rfl⟩
  refine zbh ?_
  refine AW_r rfl rfl λK hK=>?_
  simp (disch:=omega)
  repeat' first|(refine ⟨by omega,?_⟩)|(intro _)
  refine hK _ ?_;clear hK K
  refine zbg rfl (λhc1=>?_) (λhc1=>?_)
  ·try simp [zG18,zbc,zbb] at hc1
   all_goals
    have hg:s.fSnaps[i]? = some s.fSnaps[i]:=List.getElem?_eq_getElem (by omega)
    have ⟨htk,hbd⟩:=tld_at s i (by omega) hb
    refine zbi ?_
    refine zbm ?_
    refine zbh ?_
    refine zbj ?_
    refine zbh ?_
    refine AW_r rfl rfl λK hK=>?_
    simp (disch:=omega)
    repeat' first|(exfalso;omega)|(refine ⟨λ_=>?_,λ_=>?_⟩)|(refine ⟨by omega,?_⟩)|(intro _)
    all_goals (refine hK _ ?_;clear hK K)
    all_goals
     refine zbg rfl (λhc2=>?_) (λhc2=>?_)
     ·try simp [zG18,zbc,zbb] at hc2
      all_goals
       refine zcv rfl rfl λK hK=>?_
       simp (disch:=omega)
       repeat' first|(exfalso;omega)|(refine ⟨λ_=>?_,λ_=>?_⟩)|(refine ⟨by omega,?_⟩)|(intro _)
       all_goals (refine hK _ ?_;clear hK K)
       all_goals
        refine zbm ?_
        refine zzh rfl mix (by kernel_rfl) rfl λK hK=>?_
        simp (disch:=omega)
        repeat' first|(refine ⟨by omega,?_⟩)|(intro _)
        refine hK _ ?_;clear hK K
        refine zbm ?_
        refine zcv rfl rfl λK hK=>?_
        simp (disch:=omega)
        repeat' first|(refine ⟨by omega,?_⟩)|(intro _)
        refine hK _ ?_;clear hK K
        refine ⟨_,LeS.kp [(1,.ptr 32 0),(3,.s (spc ((tldL s).take (i+1)))),(4,(.g (.int .i64 (((i+1):Nat)))))] (by simp [KpE,zb0,zbk,zbr];all_goals first | rfl|(rw [htk];split<;>first | rfl|(simp [spc];done)|(subst_vars;simp [spc];done)|(exfalso;omega)|(simp_all;done))),_,?_,i+1,rfl,?_,rfl⟩
        ·omega
        ·omega
     try simp [zG18,zbc,zbb] at hc2
     refine zbi ?_
     refine zbm ?_
     refine zzh rfl mix (by kernel_rfl) rfl λK hK=>?_
     simp (disch:=omega)
     repeat' first|(exfalso;omega)|(refine ⟨λ_=>?_,λ_=>?_⟩)|(refine ⟨by omega,?_⟩)|(intro _)
     all_goals (refine hK _ ?_;clear hK K)
     all_goals
      refine zbm ?_
      refine zcv rfl rfl λK hK=>?_
      simp (disch:=omega)
      repeat' first|(refine ⟨by omega,?_⟩)|(intro _)
      refine hK _ ?_;clear hK K
      refine ⟨_,LeS.kp [(1,.ptr 32 0),(3,.s (spc ((tldL s).take (i+1)))),(4,(.g (.int .i64 (((i+1):Nat)))))] (by simp [KpE,zb0,zbk,zbr];all_goals first | rfl|(rw [htk];split<;>first | rfl|(simp [spc];done)|(subst_vars;simp [spc];done)|(exfalso;omega)|(simp_all;done))),_,?_,i+1,rfl,?_,rfl⟩
      ·omega
      ·omega
  try simp [zG18,zbc,zbb] at hc1
  have hi3:i=s.fSnaps.length:=by omega
  have htf:(tldL s).take i=tldL s:=List.take_of_length_le (by simp [tldL];omega)
  refine zbx ?_
  refine zbm ?_
  refine AW_r rfl rfl λK hK=>?_
  simp (disch:=omega)
  repeat' first|(exfalso;omega)|(refine ⟨λ_=>?_,λ_=>?_⟩)|(refine ⟨by omega,?_⟩)|(intro _)
  all_goals (refine hK _ ?_;clear hK K)
  all_goals
   refine zbp (zcb ?_)
   simp (disch:=omega)
   all_goals (rw [htf])
end Go.Proofs.YtodmafgmdlkhoaaGreat.Vs
end
section
namespace Go.Proofs.YtodmafgmdlkhoaaGreat.Vs
set_option linter.all false
/-! what a command does -/
theorem spc_le(B:Nat)(l:List (List UInt8))(h:∀x∈l,x.length≤B):(spc l).length≤l.length*(B+1):=by
 have key:∀l:List (List UInt8),(∀x∈l,x.length≤B)→(l.flatMap λt=>(32:UInt8) :: t).length≤l.length*(B+1):=by
  intro l
  induction l with
  | nil=>intro _;simp
  | cons y l ih =>
   intro h
   have h1:=h y (by simp)
   have h2:=ih λx hx=>h x (by simp [hx])
   simp only [List.flatMap_cons,List.length_append,List.length_cons,Nat.add_mul,Nat.one_mul] at h2 ⊢
   omega
 cases l with
 | nil=>simp [spc]
 | cons y l =>
  have h1:=h y (by simp)
  have h2:=key l λx hx=>h x (by simp [hx])
  simp only [spc,List.length_append,List.length_cons,Nat.add_mul,Nat.one_mul] at h2 ⊢
  omega
theorem catP_bd{c:DtCatalog}(h:CatP c):c.fSets.length≤5∧(∀k (hk:k<c.fSets.length),c.fSets[k].fSnaps.length≤5)∧(spc (namL c.fSets)).length≤1073741824∧∀k (hk:k<c.fSets.length),(spc (tldL c.fSets[k])).length≤1073741824:=by
 obtain ⟨h1,h2⟩:=h
 have hs:∀k (hk:k<c.fSets.length),SetP c.fSets[k]:=λk hk=>(h2 k _ (List.getElem?_eq_getElem hk)).1
 refine ⟨h1,λk hk=>(hs k hk).2.1,?_,λk hk=>?_⟩
 ·have := spc_le 8 (namL c.fSets) fun x hx => by
   obtain ⟨s,hs',rfl⟩:=List.mem_map.1 hx
   obtain ⟨k,hk,rfl⟩:=List.getElem_of_mem hs'
   exact (hs k hk).1.2.1
  rw [zga] at this
  omega
 ·have := spc_le 17 (tldL c.fSets[k]) fun x hx => by
   obtain ⟨p,hp,rfl⟩:=List.mem_map.1 hx
   obtain ⟨j,hj,rfl⟩:=List.getElem_of_mem hp
   have h3:=((hs k hk).2.2 j _ (List.getElem?_eq_getElem hj)).1
   have ha:(c.fSets[k].fSnaps[j]).fName.length≤8:=by grind [SnapP,Word]
   have hb:(c.fSets[k].fSnaps[j]).fTag.length≤8:=by grind [SnapP,Word]
   simp only [List.length_append,List.length_cons]
   omega
  have h4:=(hs k hk).2.1
  have h5:(tldL c.fSets[k]).length=c.fSets[k].fSnaps.length:=by simp [tldL]
  rw [h5] at this
  omega
noncomputable def setS(l:List DtCSet)(k:Nat)(m:DtCmd):List DtCSet:=if m.fKind=2 then l.take k++l.drop (k+1) else if h:k<l.length then (if m.fKind=3 then l.set k (comS l[k] m) else if m.fKind=4 then l.set k (tagS l[k] m) else if m.fKind=5 then l.set k (pruS l[k] m.fN) else l) else l
noncomputable def setR(l:List DtCSet)(k:Nat)(m:DtCmd):List UInt8:=if m.fKind=2 then bOk else if h:k<l.length then (if m.fKind=3 then comR l[k] m else if m.fKind=4 then tagR l[k] m else if m.fKind=5 then digN (goneN l[k].fSnaps m.fN).toNat else spc (tldL l[k])) else []
section
variable {l:List DtCSet}{k:Nat}{m:DtCmd}
theorem set_2(h:m.fKind=2):setS l k m=l.take k++l.drop (k+1)∧setR l k m=bOk:=by unfold setS setR;rw [if_pos h,if_pos h];exact ⟨rfl,rfl⟩
theorem zqq(hk:k<l.length)(h:m.fKind=3):setS l k m=l.set k (comS l[k] m)∧setR l k m=comR l[k] m:=by unfold setS setR;rw [if_neg (by omega),dif_pos hk,if_pos h,if_neg (by omega),dif_pos hk,if_pos h];exact ⟨rfl,rfl⟩
theorem zz3(hk:k<l.length)(h:m.fKind=4):setS l k m=l.set k (tagS l[k] m)∧setR l k m=tagR l[k] m:=by unfold setS setR;rw [if_neg (by omega),dif_pos hk,if_neg (by omega),if_pos h,if_neg (by omega),dif_pos hk,if_neg (by omega),if_pos h];exact ⟨rfl,rfl⟩
theorem set_5(hk:k<l.length)(h:m.fKind=5):setS l k m=l.set k (pruS l[k] m.fN)∧setR l k m=digN (goneN l[k].fSnaps m.fN).toNat:=by unfold setS setR;rw [if_neg (by omega),dif_pos hk,if_neg (by omega),if_neg (by omega),if_pos h,if_neg (by omega),dif_pos hk,if_neg (by omega),if_neg (by omega),if_pos h];exact ⟨rfl,rfl⟩
theorem set_6(hk:k<l.length)(h2:¬m.fKind=2)(h3:¬m.fKind=3)(h4:¬m.fKind=4)(h5:¬m.fKind=5):setS l k m=l∧setR l k m=spc (tldL l[k]):=by unfold setS setR;rw [if_neg h2,dif_pos hk,if_neg h3,if_neg h4,if_neg h5,if_neg h2,dif_pos hk,if_neg h3,if_neg h4,if_neg h5];exact ⟨rfl,rfl⟩
end
noncomputable def catS(c:DtCatalog)(m:DtCmd):List DtCSet:=if decB (CatP c)=true then (if decB (CmdP m)=true then (if m.fKind=0 then c.fSets else if m.fKind=1 then creS c.fSets m.fSet else if m.fKind=7 then c.fSets else if findS c.fSets m.fSet<0 then c.fSets else setS c.fSets (findS c.fSets m.fSet).toNat m) else c.fSets) else []
noncomputable def catR(c:DtCatalog)(m:DtCmd):List UInt8:=if decB (CatP c)=true then (if decB (CmdP m)=true then (if m.fKind=0 then [] else if m.fKind=1 then creR c.fSets m.fSet else if m.fKind=7 then spc (namL c.fSets) else if findS c.fSets m.fSet<0 then bNone else setR c.fSets (findS c.fSets m.fSet).toNat m) else []) else []
section
variable {c:DtCatalog}{m:DtCmd}
theorem zs1(h:¬CatP c):catS c m=[]∧catR c m=[]:=by unfold catS catR;rw [if_neg (by rw [zbf];exact h),if_neg (by rw [zbf];exact h)];exact ⟨rfl,rfl⟩
theorem zqr(h:CatP c)(hm:¬CmdP m):catS c m=c.fSets∧catR c m=[]:=by unfold catS catR;rw [if_pos (zcc h),if_pos (zcc h),if_neg (by rw [zbf];exact hm),if_neg (by rw [zbf];exact hm)];exact ⟨rfl,rfl⟩
theorem zqs(h:CatP c)(hm:CmdP m)(h0:m.fKind=0):catS c m=c.fSets∧catR c m=[]:=by unfold catS catR;rw [if_pos (zcc h),if_pos (zcc h),if_pos (zcc hm),if_pos (zcc hm),if_pos h0,if_pos h0];exact ⟨rfl,rfl⟩
theorem zqt(h:CatP c)(hm:CmdP m)(h1:m.fKind=1):catS c m=creS c.fSets m.fSet∧catR c m=creR c.fSets m.fSet:=by unfold catS catR;rw [if_pos (zcc h),if_pos (zcc h),if_pos (zcc hm),if_pos (zcc hm),if_neg (by omega),if_pos h1,if_neg (by omega),if_pos h1];exact ⟨rfl,rfl⟩
theorem zqu(h:CatP c)(hm:CmdP m)(h7:m.fKind=7):catS c m=c.fSets∧catR c m=spc (namL c.fSets):=by unfold catS catR;rw [if_pos (zcc h),if_pos (zcc h),if_pos (zcc hm),if_pos (zcc hm),if_neg (by omega),if_neg (by omega),if_pos h7,if_neg (by omega),if_neg (by omega),if_pos h7];exact ⟨rfl,rfl⟩
theorem znj(h:CatP c)(hm:CmdP m)(h0:¬m.fKind=0)(h1:¬m.fKind=1)(h7:¬m.fKind=7)(hf:findS c.fSets m.fSet<0):catS c m=c.fSets∧catR c m=bNone:=by unfold catS catR;rw [if_pos (zcc h),if_pos (zcc h),if_pos (zcc hm),if_pos (zcc hm),if_neg h0,if_neg h1,if_neg h7,if_pos hf,if_neg h0,if_neg h1,if_neg h7,if_pos hf];exact ⟨rfl,rfl⟩
theorem cat_k(h:CatP c)(hm:CmdP m)(h0:¬m.fKind=0)(h1:¬m.fKind=1)(h7:¬m.fKind=7){k:Nat}(hf:findS c.fSets m.fSet=k):catS c m=setS c.fSets k m∧catR c m=setR c.fSets k m:=by unfold catS catR;rw [if_pos (zcc h),if_pos (zcc h),if_pos (zcc hm),if_pos (zcc hm),if_neg h0,if_neg h1,if_neg h7,if_neg (by omega),if_neg h0,if_neg h1,if_neg h7,if_neg (by omega),hf];exact ⟨rfl,rfl⟩
theorem zjh{l:List DtCSet}{n:List UInt8}{k:Nat}(hf:findS l n=k):k<l.length:=by
 have h:=zql (λp:DtCSet=>eqB p.fName n) l (by show 0≤findS l n;omega)
 change (findS l n).toNat<_ at h
 rw [hf] at h
 exact h
end
end Go.Proofs.YtodmafgmdlkhoaaGreat.Vs
end
section
namespace Go.Proofs.YtodmafgmdlkhoaaGreat.Vs
set_option linter.all false
set_option maxRecDepth 100000
attribute [local simp] zbo zck
theorem prn_gone(l:List DtCSnap)(n:Int)(hn:0≤n):(l.length:Int)-(prn ((bareN l:Int)-n) 0 l).length=goneN l n:=by
 have h:=prn_len ((bareN l:Int)-n) l 0
 unfold goneN
 omega
theorem l15PruneX(l:List DtCSnap)(hl:l.length≤1048576)(n:Int)(hn:0≤n)(hn2:n≤1048576):XCall Tryz.prog 118 [.arr 8 0 l.length,(.g (.int .i64 (n)))] [.own 3 (l.map DtCSnap.cells)] (.tup [.arr 16 0 (prn ((bareN l:Int)-n) 0 l).length,(.g (.int .i64 (goneN l n)))]) [.dead] [.own 3 ((prn ((bareN l:Int)-n) 0 l).map DtCSnap.cells)]:=by
 refine zbu Tryz.func118 (by rfl) (by rfl) (by rw [Tryz.ntmps118];exact Nat.le_of_ble_eq_true rfl) rfl (by simp) rfl rfl ?_
 rw [Tryz.ntmps118]
 refine zhs (.own 3 (l.map DtCSnap.cells)) (by simp [cvO]<;>assumption) ?_
 refine AW_k [(0,_),(1,_)] ⟨rfl,rfl,trivial⟩ ?_
 refine zf9 (us:=l) 8 903 (by simp [zG16]) (by simp [zG16]) λys hys hone=>?_
 have hyl:ys.length=l.length:=by rw [←hys];simp
 refine AW_x rfl rfl λK hK=>?_
 simp (disch:=omega)
 repeat' first|(refine ⟨by omega,?_⟩)|(intro _)
 refine hK _ ?_;clear hK K
 refine AW_x rfl rfl λK hK=>?_
 simp (disch:=omega)
 repeat' first|(refine ⟨by omega,?_⟩)|(intro _)
 refine hK _ ?_;clear hK K
 refine zbh ?_
 refine AW_x rfl rfl λK hK=>?_
 simp (disch:=omega)
 repeat' first|(refine ⟨by omega,?_⟩)|(intro _)
 refine hK _ ?_;clear hK K
 refine zbj ?_
 refine zbs (λmM sS=>∃(i:Nat),mM=l.length-i∧(i≤l.length)∧sS = { env:=lkE [(0,.arr 8 0 l.length),(1,(.g (.int .i64 (n)))),(6,(.g (.int .i64 ((bareN (l.take i):Nat))))),(7,(.g (.int .i64 ((i:Nat)))))],ob:=lk [(8,.win 3 (ys.map snapV)),(903,.park (ys.flatMap snapP))] }) ?_ ?_
 ·refine ⟨_,LeS.kx [(8,8),(903,903)] [(0,.arr 8 0 l.length),(1,(.g (.int .i64 (n)))),(6,(.g (.int .i64 ((bareN (l.take (0)):Nat))))),(7,(.g (.int .i64 (((0):Nat)))))] [(8,.win 3 (ys.map snapV)),(903,.park (ys.flatMap snapP))] (by simp [zG16,KpR,renV2,renV,zbk,zca,zck];try (simp [bareN];done)) (by simp [zG16,KpOX,renO,plO,cvO,renV,pl1,zca,zck];try rfl) (by rfl) (by simp) (by simp) (by rfl) (by simp [zG17,formsX]),_,0,rfl,?_,rfl⟩
  ·simp
 ·rintro mM sS ⟨i,rfl,hi,rfl⟩
  refine zbh ?_
  refine AW_x rfl rfl λK hK=>?_
  simp (disch:=omega)
  repeat' first|(refine ⟨by omega,?_⟩)|(simp (disch:=omega))|(intro _)
  refine hK _ ?_;clear hK K
  refine zbg rfl (λhc1=>?_) (λhc1=>?_)
  ·try simp [zG18,zbc,zbb] at hc1
   all_goals
    have hbl:bareN (l.take i)≤1048576:=by have h:=zla (l.take i);rw [List.length_take] at h;omega
    have hyi:=zxo hys i (by omega) (by omega)
    have hv1:(ys[i].2 2).oneCell'=true:=hone _ (List.getElem_mem _) 2
    simp only [Value.oneCell'] at hv1
    have hbt:=zjg l i (by omega)
    rw [←hyi] at hbt
    refine zbi ?_
    refine zbm ?_
    refine zbh ?_
    refine zbj ?_
    refine AW_x rfl rfl λK hK=>?_
    simp (disch:=omega) [hv1]
    repeat' first|(exfalso;omega)|(refine ⟨λ_=>?_,λ_=>?_⟩)|(refine ⟨by omega,?_⟩)|(simp (disch:=omega) [hv1])|(intro _)
    all_goals (refine hK _ ?_;clear hK K)
    all_goals
     refine zbg rfl (λhc2=>?_) (λhc2=>?_)
     ·try simp [zG18,zbc,zbb] at hc2
      all_goals
       refine zb4 rfl rfl λK hK=>?_
       simp (disch:=omega) [hv1]
       repeat' first|(exfalso;omega)|(refine ⟨λ_=>?_,λ_=>?_⟩)|(refine ⟨by omega,?_⟩)|(simp (disch:=omega) [hv1])|(intro _)
       all_goals (refine hK _ ?_;clear hK K)
       all_goals
        refine zbm ?_
        refine zb4 rfl rfl λK hK=>?_
        simp (disch:=omega) [hv1]
        repeat' first|(refine ⟨by omega,?_⟩)|(intro _)
        refine hK _ ?_;clear hK K
        refine ⟨_,LeS.kx [(8,8),(903,903)] [(0,.arr 8 0 l.length),(1,(.g (.int .i64 (n)))),(6,(.g (.int .i64 ((bareN (l.take (i+1)):Nat))))),(7,(.g (.int .i64 (((i+1):Nat)))))] [(8,.win 3 (ys.map snapV)),(903,.park (ys.flatMap snapP))] (by simp [zG16,KpR,renV2,renV,zbk,zca,zck];try (first | omega|(rw [hbt];split<;>first | omega|(exfalso;simp_all;done)))) (by simp [zG16,KpOX,renO,plO,cvO,renV,pl1,zca,zck];try rfl) (by rfl) (by simp) (by simp) (by rfl) (by simp [zG17,formsX]),_,?_,i+1,rfl,?_,rfl⟩
        ·omega
        ·omega
     try simp [zG18,zbc,zbb] at hc2
     refine zbi ?_
     refine zbm ?_
     refine zb4 rfl rfl λK hK=>?_
     simp (disch:=omega) [hv1]
     repeat' first|(exfalso;omega)|(refine ⟨λ_=>?_,λ_=>?_⟩)|(refine ⟨by omega,?_⟩)|(simp (disch:=omega) [hv1])|(intro _)
     all_goals (refine hK _ ?_;clear hK K)
     all_goals
      refine ⟨_,LeS.kx [(8,8),(903,903)] [(0,.arr 8 0 l.length),(1,(.g (.int .i64 (n)))),(6,(.g (.int .i64 ((bareN (l.take (i+1)):Nat))))),(7,(.g (.int .i64 (((i+1):Nat)))))] [(8,.win 3 (ys.map snapV)),(903,.park (ys.flatMap snapP))] (by simp [zG16,KpR,renV2,renV,zbk,zca,zck];try (first | omega|(rw [hbt];split<;>first | omega|(exfalso;simp_all;done)))) (by simp [zG16,KpOX,renO,plO,cvO,renV,pl1,zca,zck];try rfl) (by rfl) (by simp) (by simp) (by rfl) (by simp [zG17,formsX]),_,?_,i+1,rfl,?_,rfl⟩
      ·omega
      ·omega
  try simp [zG18,zbc,zbb] at hc1
  have hti:l.take i=l:=List.take_of_length_le (by omega)
  refine zbx ?_
  refine zbm ?_
  refine AW_x rfl rfl λK hK=>?_
  simp (disch:=omega)
  repeat' first|(exfalso;omega)|(refine ⟨λ_=>?_,λ_=>?_⟩)|(refine ⟨by omega,?_⟩)|(simp (disch:=omega))|(intro _)
  all_goals (refine hK _ ?_;clear hK K)
  all_goals
   refine zbh ?_
   refine AW_x rfl rfl λK hK=>?_
   simp (disch:=omega)
   repeat' first|(refine ⟨by omega,?_⟩)|(intro _)
   refine hK _ ?_;clear hK K
   refine zbj ?_
   refine zbs (λmM sS=>∃(i:Nat) (ks:List SnapV) (b:Int),mM=l.length-i∧(i≤l.length∧ks=prV ((bareN l:Int)-n) 0 (ys.take i)∧b=(bareN l:Int)-(bareN (l.take i):Nat))∧sS = { env:=lkE [(0,.arr 8 0 l.length),(1,(.g (.int .i64 (n)))),(6,(.g (.int .i64 (b)))),(8,.arr 904 0 ks.length),(9,(.g (.int .i64 ((i:Nat)))))],ob:=lk [(8,.win 3 (ys.map snapV)),(903,.park (ys.flatMap snapP)),(904,.win 3 (ks.map snapV))] }) ?_ ?_
   ·refine ⟨_,LeS.kx [(8,8),(903,903),(904,400)] [(0,.arr 8 0 l.length),(1,(.g (.int .i64 (n)))),(6,(.g (.int .i64 (((bareN l:Int)))))),(8,.arr 904 0 ([]).length),(9,(.g (.int .i64 (((0):Nat)))))] [(8,.win 3 (ys.map snapV)),(903,.park (ys.flatMap snapP)),(904,.win 3 (([]).map snapV))] (by simp [zG16,KpR,renV2,renV,zbk,zca,zck];try (first | omega | rw [hti])) (by simp [zG16,KpOX,renO,plO,cvO,renV,pl1,zca,zck];try rfl) (by rfl) (by simp) (by simp) (by rfl) (by simp [zG17,formsX]),_,0,[],(bareN l:Int),rfl,?_,rfl⟩
    ·exact ⟨by omega,rfl,by simp [bareN]⟩
   ·rintro mM sS ⟨i,ks,b,rfl,⟨hi,hks,hb⟩,rfl⟩
    have hkl:ks.length≤l.length:=by rw [hks];have h1:=(zhw ((bareN l:Int)-n) (ys.take i) 0).length_le;rw [List.length_take] at h1;omega
    have hbm:=zsx l i
    have hbl:=zla l
    refine zbh ?_
    refine AW_x rfl rfl λK hK=>?_
    simp (disch:=omega)
    repeat' first|(refine ⟨by omega,?_⟩)|(simp (disch:=omega))|(intro _)
    refine hK _ ?_;clear hK K
    refine zbg rfl (λhc3=>?_) (λhc3=>?_)
    ·try simp [zG18,zbc,zbb] at hc3
     all_goals
      have hpt:=zxn ((bareN l:Int)-n) ys i (by omega)
      have hyi:=zxo hys i (by omega) (by omega)
      have hv1:(ys[i].2 2).oneCell'=true:=hone _ (List.getElem_mem _) 2
      simp only [Value.oneCell'] at hv1
      have hbt:=zjg l i (by omega)
      have hbm2:=zsx l (i+1)
      rw [←hyi] at hbt
      refine zbi ?_
      refine zbm ?_
      refine zbh ?_
      refine zbj ?_
      refine zbh ?_
      refine AW_x rfl rfl λK hK=>?_
      simp (disch:=omega) [hv1]
      repeat' first|(exfalso;omega)|(refine ⟨λ_=>?_,λ_=>?_⟩)|(refine ⟨by omega,?_⟩)|(simp (disch:=omega) [hv1])|(intro _)
      all_goals (refine hK _ ?_;clear hK K)
      all_goals
       refine zbg rfl (λhc4=>?_) (λhc4=>?_)
       ·try simp [zG18,zbc,zbb] at hc4
        all_goals
         refine AW_x rfl rfl λK hK=>?_
         simp (disch:=omega) [hv1]
         repeat' first|(exfalso;omega)|(refine ⟨λ_=>?_,λ_=>?_⟩)|(refine ⟨by omega,?_⟩)|(simp (disch:=omega) [hv1])|(intro _)
         all_goals (refine hK _ ?_;clear hK K)
         all_goals
          refine AW_x rfl rfl λK hK=>?_
          simp (disch:=omega) [hv1]
          repeat' first|(refine ⟨by omega,?_⟩)|(intro _)
          refine hK _ ?_;clear hK K
          refine zbg rfl (λhc5=>?_) (λhc5=>?_)
          ·try simp [zG18,zbc,zbb] at hc5
           all_goals
            refine zbx ?_
            refine zbm ?_
            refine zb4 rfl rfl λK hK=>?_
            simp (disch:=omega) [hv1]
            repeat' first|(exfalso;omega)|(refine ⟨λ_=>?_,λ_=>?_⟩)|(refine ⟨by omega,?_⟩)|(simp (disch:=omega) [hv1])|(intro _)
            all_goals (refine hK _ ?_;clear hK K)
            all_goals
             refine ⟨_,LeS.kx [(8,8),(903,903),(904,904)] [(0,.arr 8 0 l.length),(1,(.g (.int .i64 (n)))),(6,(.g (.int .i64 ((b-1))))),(8,.arr 904 0 (ks).length),(9,(.g (.int .i64 (((i+1):Nat)))))] [(8,.win 3 (ys.map snapV)),(903,.park (ys.flatMap snapP)),(904,.win 3 ((ks).map snapV))] (by simp [zG16,KpR,renV2,renV,zbk,zca,zck];try (first | omega|(simp_all;done))) (by simp [zG16,KpOX,renO,plO,cvO,renV,pl1,zca,zck];try rfl) (by rfl) (by simp) (by simp) (by rfl) (by simp [zG17,formsX]),_,?_,i+1,ks,b-1,rfl,?_,rfl⟩
             ·omega
             ·refine ⟨by omega,?_,?_⟩
              ·rw [hys] at hpt;rw [hpt,hks];split<;>rename_i h<;>first|(simp;done)|(exfalso;obtain ⟨h1,h2⟩:=h;first | omega|(simp_all;done))|(exfalso;exact h ⟨by assumption,by omega⟩) | trace_state
              ·rw [hbt];by_cases ht:ys[i].1.fTag=[]<;>first|(simp [ht];omega)|(exfalso;simp_all;done) | trace_state
          try simp [zG18,zbc,zbb] at hc5
          refine zbi ?_
          refine zbm ?_
          refine zb4 rfl rfl λK hK=>?_
          simp (disch:=omega) [hv1]
          repeat' first|(exfalso;omega)|(refine ⟨λ_=>?_,λ_=>?_⟩)|(refine ⟨by omega,?_⟩)|(simp (disch:=omega) [hv1])|(intro _)
          all_goals (refine hK _ ?_;clear hK K)
          all_goals
           refine zbm ?_
           refine zb4 rfl rfl λK hK=>?_
           simp (disch:=omega) [hv1]
           repeat' first|(refine ⟨by omega,?_⟩)|(intro _)
           refine hK _ ?_;clear hK K
           refine ⟨_,LeS.kx [(8,8),(903,903),(904,784)] [(0,.arr 8 0 l.length),(1,(.g (.int .i64 (n)))),(6,(.g (.int .i64 (((if ys[i].1.fTag=[] then b-1 else b)))))),(8,.arr 904 0 (ks++[ys[i]]).length),(9,(.g (.int .i64 (((i+1):Nat)))))] [(8,.win 3 (ys.map snapV)),(903,.park (ys.flatMap snapP)),(904,.win 3 ((ks++[ys[i]]).map snapV))] (by simp [zG16,KpR,renV2,renV,zbk,zca,zck];try (first | omega|(simp_all;done))) (by simp [zG16,KpOX,renO,plO,cvO,renV,pl1,zca,zck];try rfl) (by rfl) (by simp) (by simp) (by rfl) (by simp [zG17,formsX]),_,?_,i+1,ks++[ys[i]],(if ys[i].1.fTag=[] then b-1 else b),rfl,?_,rfl⟩
           ·omega
           ·refine ⟨by omega,?_,?_⟩
            ·rw [hys] at hpt;rw [hpt,hks];split<;>rename_i h<;>first|(simp;done)|(exfalso;obtain ⟨h1,h2⟩:=h;first | omega|(simp_all;done))|(exfalso;exact h ⟨by assumption,by omega⟩) | trace_state
            ·rw [hbt];by_cases ht:ys[i].1.fTag=[]<;>first|(simp [ht];omega)|(exfalso;simp_all;done) | trace_state
       try simp [zG18,zbc,zbb] at hc4
       refine zbi ?_
       refine zbm ?_
       refine zb4 rfl rfl λK hK=>?_
       simp (disch:=omega) [hv1]
       repeat' first|(exfalso;omega)|(refine ⟨λ_=>?_,λ_=>?_⟩)|(refine ⟨by omega,?_⟩)|(simp (disch:=omega) [hv1])|(intro _)
       all_goals (refine hK _ ?_;clear hK K)
       all_goals
        refine zbm ?_
        refine zb4 rfl rfl λK hK=>?_
        simp (disch:=omega) [hv1]
        repeat' first|(refine ⟨by omega,?_⟩)|(intro _)
        refine hK _ ?_;clear hK K
        refine ⟨_,LeS.kx [(8,8),(903,903),(904,784)] [(0,.arr 8 0 l.length),(1,(.g (.int .i64 (n)))),(6,(.g (.int .i64 (((if ys[i].1.fTag=[] then b-1 else b)))))),(8,.arr 904 0 (ks++[ys[i]]).length),(9,(.g (.int .i64 (((i+1):Nat)))))] [(8,.win 3 (ys.map snapV)),(903,.park (ys.flatMap snapP)),(904,.win 3 ((ks++[ys[i]]).map snapV))] (by simp [zG16,KpR,renV2,renV,zbk,zca,zck];try (first | omega|(simp_all;done))) (by simp [zG16,KpOX,renO,plO,cvO,renV,pl1,zca,zck];try rfl) (by rfl) (by simp) (by simp) (by rfl) (by simp [zG17,formsX]),_,?_,i+1,ks++[ys[i]],(if ys[i].1.fTag=[] then b-1 else b),rfl,?_,rfl⟩
        ·omega
        ·refine ⟨by omega,?_,?_⟩
         ·rw [hys] at hpt;rw [hpt,hks];split<;>rename_i h<;>first|(simp;done)|(exfalso;obtain ⟨h1,h2⟩:=h;first | omega|(simp_all;done))|(exfalso;exact h ⟨by assumption,by omega⟩) | trace_state
         ·rw [hbt];by_cases ht:ys[i].1.fTag=[]<;>first|(simp [ht];omega)|(exfalso;simp_all;done) | trace_state
    try simp [zG18,zbc,zbb] at hc3
    have hti2:ys.take i=ys:=List.take_of_length_le (by omega)
    rw [hti2] at hks
    refine zbx ?_
    refine zbm ?_
    refine zd3 (zk9 (ks:=ks) (zs:=ys) 904 903 (by simp [zG16]) (by simp [zG16]) (by rw [hks];exact zhw _ _ _)) ?_
    have hsn:(ks.map λz=>DtCSnap.cells z.1)=(prn ((bareN l:Int)-n) 0 l).map DtCSnap.cells:=by have h:=zmw ((bareN l:Int)-n) ys 0;rw [hys] at h;rw [←h,List.map_map,hks];rfl
    rw [hsn]
    have hkl2:ks.length=(prn ((bareN l:Int)-n) 0 l).length:=by have h:=congrArg List.length hsn;simpa using h
    have hgo:=prn_gone l n hn
    refine AW_x rfl rfl λK hK=>?_
    simp (disch:=omega)
    repeat' first|(exfalso;omega)|(refine ⟨λ_=>?_,λ_=>?_⟩)|(refine ⟨by omega,?_⟩)|(simp (disch:=omega))|(intro _)
    all_goals (refine hK _ ?_;clear hK K)
    all_goals
     refine zbp (zce [904] [] (by simp [zG16,List.range_succ]) (by simp) ?_)
     simp (disch:=omega)
     all_goals first | rfl | exact ⟨rfl,rfl⟩ | omega | trace_state
end Go.Proofs.YtodmafgmdlkhoaaGreat.Vs
end
